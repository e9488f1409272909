/- DebtVerdicts: a part (6 of 9) of the proof of its row. -/
import Derived.Test.YtmeophcclkejkaaGreatVee
set_option linter.all false
set_option maxRecDepth 100000
namespace Pal
theorem C9{S A:Type}{body:S->Option (Bo S A)}{Q:A->Prop}{K:S}{F:Nat}(n:Nat)(I:Nat->S->Prop)(Y:I 0 K)(ac:n<F)
  (round:∀i s,i<n->I i s->BP (body s) (Bo.sat (I (i+1)) Q)) (last:∀s,I n s->BP (body s) (λst=>∃a,st= .done a/\Q a)):BP (Pal.iter body F K) Q:=by
 refine Nt (λm s=>∃i,i<=n/\m=n - i/\I i s) ?_ (m:=n - 0) ⟨0,Nat.zero_le _,V,Y⟩ (by omega);rintro m s ⟨i,hi,rfl,O⟩;rcases Nat.lt_or_ge i n with Z | ag
 ·refine(round i s Z O).M ?_;intro st U;cases st with
  | more s'=>exact⟨n - (i+1),by omega,i+1,by omega,rfl,U⟩
  | done a=>exact U
 ·obtain rfl:i=n:=by omega
  refine(last s O).M ?_;rintro st ⟨a,rfl,h⟩;exact h
theorem CV{α:Type}{o:Option α}{a:α}(h:BP o (λx=>x=a)):o=some a:=by obtain⟨x,K,rfl⟩:=h;exact K
theorem Bw{α:Type}{Q:α->Prop}{f:Int->Option α}{x:Int}(y:Int)(h:x=y)(K: -9223372036854775808<=y)(O:y<=9223372036854775807)(k:BP (f y) Q):BP ((Aw x).bind f) Q:=by subst h;exact BP.dD K O k
theorem BP.Kn{α β:Type}{Q:α->Prop}{f:List β->Option α}{xs ys:List β}(h:xs.length+ys.length<1000)(k:BP (f (xs++ys)) Q):BP ((Cz xs ys).bind f) Q:=Bb (by unfold Cz;rw [if_pos (by omega)]) k
abbrev IK:=List Int×Int×Nat
def BG(k:Nat)(b:IK):Prop:=0<=b.2.1/\b.2.1<=(k:Int)
theorem BG.M{k k':Nat}{b:IK}(h:BG k b)(K:k<=k'):BG k' b:=⟨h.1,by have:=h.2;omega⟩
theorem ZF{F k:Nat}{b:IK}(hb:BG k b)(K:k<1000000):BP (f83 F b) (λr=>r.1<2 ^ 64/\BG (k+1) r.2):=by
 obtain⟨O,U⟩:=hb;unfold f83;refine Bw (b.2.1+1) V (by omega) (by omega) ?_;have key:∀x:Nat,(x % 2 ^ 64)>>>11<2 ^ 64:=λx=>Nat.lt_of_le_of_lt (Nat.shiftRight_le _ _) (Nat.mod_lt _ (Nat.two_pow_pos 64));refine Bm (S:=λ_=>True) ?_ ?_
 ·refine B2 (λh=>?_) (λh=>?_)
  ·refine Bw b.2.1 (by omega) (by omega) (by omega) (Ct (m:=b.2.1.toNat) (by omega) (by omega) ?_);exact Au trivial
  ·exact Au trivial
 ·intro x _;exact Au ⟨key _,by simp only;omega,by simp only;omega⟩
theorem Wx{a:Nat}(h:a<2 ^ 62):MO a=(a:Int):=by
 unfold MO;exact JW (by omega)
theorem J4{F k:Nat}{b:IK}{m:Int}(hb:BG k b)(O:k<1000000)(hm:m<1000000):BP (f36 F b m) (λr=>0<=r.1/\(r.1<=m∨r.1=0)/\BG (k+1) r.2):=by
 unfold f36;refine Bm (ZF hb O) ?_;rintro⟨x,b'⟩ ⟨Z,K⟩;refine B2 (λh=>?_) (λh=>?_)
 ·exact Au ⟨by simp,.inr V,K⟩
 ·have U:Dm m=m.toNat:=by unfold Dm;omega
  have e2:(Dm m+1) % 2 ^ 64=m.toNat+1:=by rw [U];omega
  have Y:x % (m.toNat+1)<m.toNat+1:=Nat.mod_lt _ (by omega);refine Bb (b:=x % (m.toNat+1)) (by rw [e2];unfold OQ;rw [if_neg (by omega)]) ?_;refine Au ?_;simp only;generalize x % (m.toNat+1)=z at Y ⊢;rw [Wx (by omega)];exact⟨by omega,.inl (by omega),K⟩
theorem Qo{F k:Nat}{b:IK}{lo hi:Int}(hb:BG k b)(O:k<1000000)(Y:0<=lo)(Z:lo<=hi)(ac:hi<1000):BP (f37 F b lo hi) (λr=>lo<=r.1/\r.1<=hi/\BG (k+1) r.2):=by
 unfold f37;refine Bw (hi - lo) V (by omega) (by omega) (Bm (J4 hb O (by omega)) ?_);rintro⟨x,b'⟩ ⟨U,g2,K⟩;simp only at U g2 K ⊢;exact Bw (lo+x) V (by omega) (by omega) (Au ⟨by simp only;omega,by simp only;omega,K⟩)
theorem TU{F k:Nat}{b:IK}{m:Int}(hb:BG k b)(K:k<1000000)(U:1<=m)(Y:m<1000):BP (f32 F b m) (λr=>BG (k+1) r.2):=by
 unfold f32;refine Bw (m - 1) V (by omega) (by omega) (Bm (J4 hb K (by omega)) ?_);rintro⟨x,b'⟩ ⟨Z,g2,O⟩;exact Au O
theorem UB{F k:Nat}{b:IK}{l:List Int}(hb:BG k b)(U:k<1000000)(Z:0<l.length)(ac:l.length<1000):BP (f81 F b l) (λr=>r.1∈l/\BG (k+1) r.2):=by
 unfold f81;refine Bw ((l.length - 1:Nat):Int) (by omega) (by omega) (by omega) (Bm (J4 hb U (by omega)) ?_);rintro⟨x,b'⟩ ⟨Y,g2,K⟩;simp only at Y g2 K ⊢;have O:x.toNat<l.length:=by omega
 exact Ct (m:=x.toNat) (by omega) O (Au ⟨List.getElem_mem O,K⟩)
abbrev DT:=Int×Int×Int
abbrev OW:=Bq×List DT
structure NV (n:Nat) (o:OW):Prop where
 l1:o.1.length<=n
 n1:∀x∈o.1,x.length<=n
 l2:o.2.length<=n
theorem NV.up{n m:Nat}{o:OW}(h:NV n o)(hm:n<=m):NV m o:=⟨Nat.le_trans h.l1 hm,λx K=>Nat.le_trans (h.n1 x K) hm,Nat.le_trans h.l2 hm⟩
theorem Uv{F:Nat}{l:Bq}(ag:100<F)(al:l.length<=40)(U:∀x∈l,x.length<=40):f68 F l=some l:=by
 refine CV ?_;unfold f68;refine Bb (b:=List.replicate l.length []) ?_ ?_
 ·unfold I5;rw [if_pos (by omega)];rfl
 refine Bm (S:=λr=>r=l) ?_ (λr Y=>Au Y);refine C9 l.length (λi s=>s.2=(i:Int)/\s.1=l.take i++List.replicate (l.length - i) []) ⟨V,by simp⟩ (by omega) ?_ ?_
 ·rintro i ⟨o,c⟩ hi ⟨K,O⟩;simp only at K O;subst K;subst O;unfold Ov;refine BZ (by simp only;omega) (Ct (m:=i) V hi ?_);refine Bb (b:=l[i]) ?_ ?_
  ·unfold f104;have:Cz ([]:List Int) l[i]=some l[i]:=by unfold Cz;rw [if_pos (by have:=U _ (List.getElem_mem hi);simp;omega)];rfl
   rw [this];rfl
  have Z:(l.take i).length=i:=by rw [List.length_take];omega
  refine Ct (m:=i) V (by simp;omega) (Bw ((i+1:Nat):Int) (by simp) (by omega) (by omega) ?_);refine Au ⟨V,?_⟩;simp only;rw [show Int.toNat (i:Int)=i by omega,List.set_append,if_neg (by omega),Z,Nat.sub_self];obtain⟨k,ac⟩:∃k,l.length - i=k+1:=⟨l.length - i - 1,by omega⟩;rw [ac,List.replicate_succ,List.set_cons_zero,List.take_add_one,List.getElem?_eq_getElem hi,show l.length - (i+1)=k by omega];simp only [Option.toList_some,List.append_assoc,List.cons_append,List.nil_append]
 ·rintro⟨o,c⟩ ⟨K,O⟩;simp only at K O;subst K;subst O;unfold Ov;exact BQ (by simp) (Au ⟨_,V,by simp⟩)
theorem Zx{F:Nat}{o:OW}(O:100<F)(K:NV 40 o):f21 F o=some o:=by
 unfold f21;have U:=K.l2;rw [Uv O K.l1 K.n1,Option.bind_some];unfold f69;have:Cz ([]:List DT) o.2=some o.2:=by unfold Cz;rw [if_pos (by simp;omega)];rfl
 rw [this];rfl
theorem ak{F:Nat}{l:List Int}(K:100<F)(O:l.length<=40):f29 F l l=some true:=by
 refine CV ?_;unfold f29;refine Bm (S:=λq=>q=Sum.inr ()) ?_ (by rintro q rfl;exact Au (by simp));refine C9 l.length (λi s=>s=(i:Int)) V (by omega) ?_ ?_
 ·rintro i s hi rfl;unfold Oa;refine Bm (S:=λc=>c=true) (BZ (by omega) (Au (decide_eq_true (by omega)))) ?_;rintro c rfl;refine BZ V (Ct (m:=i) V hi ?_);refine Ct (m:=i) V hi (BQ (by simp) ?_);exact Bw ((i+1:Nat):Int) (by simp) (by omega) (by omega) (Au V)
 ·rintro s rfl;unfold Oa;refine Bm (S:=λc=>c=false) (BQ (by omega) (Au V)) ?_;rintro c rfl;exact BQ (by simp) (Au ⟨_,V,V⟩)
theorem aO{F:Nat}{l:List DT}(K:100<F)(O:l.length<=40):f26 F l l=some true:=by
 refine CV ?_;unfold f26;refine Bm (S:=λq=>q=Sum.inr ()) ?_ (by rintro q rfl;exact Au (by simp));refine C9 l.length (λi s=>s=(i:Int)) V (by omega) ?_ ?_
 ·rintro i s hi rfl;unfold N7;refine Bm (S:=λc=>c=true) (BZ (by omega) (Au (decide_eq_true (by omega)))) ?_;rintro c rfl;refine BZ V (Ct (m:=i) V hi ?_);refine Ct (m:=i) V hi (BQ (by simp) ?_);exact Bw ((i+1:Nat):Int) (by simp) (by omega) (by omega) (Au V)
 ·rintro s rfl;unfold N7;refine Bm (S:=λc=>c=false) (BQ (by omega) (Au V)) ?_;rintro c rfl;exact BQ (by simp) (Au ⟨_,V,V⟩)
theorem ZW{F:Nat}{l:Bq}(K:100<F)(U:l.length<=40)(O:∀x∈l,x.length<=40):f80 F l l=some true:=by
 refine CV ?_;unfold f80;refine Bm (S:=λq=>q=Sum.inr ()) ?_ (by rintro q rfl;exact Au (by simp));refine C9 l.length (λi s=>s=(i:Int)) V (by omega) ?_ ?_
 ·rintro i s hi rfl;unfold Og;refine Bm (S:=λc=>c=true) (BZ (by omega) (Au (decide_eq_true (by omega)))) ?_;rintro c rfl;refine BZ V (Ct (m:=i) V hi ?_);refine Ct (m:=i) V hi (Bb (ak K (O _ (List.getElem_mem hi))) ?_);refine BQ (by simp) (Bw ((i+1:Nat):Int) (by simp) (by omega) (by omega) ?_);exact Au V
 ·rintro s rfl;unfold Og;refine Bm (S:=λc=>c=false) (BQ (by omega) (Au V)) ?_;rintro c rfl;exact BQ (by simp) (Au ⟨_,V,V⟩)
theorem ZU{F:Nat}{o:OW}(K:100<F)(h:NV 40 o):f30 F o o=some true:=by
 refine CV ?_;unfold f30;refine Bb (ZW K h.l1 h.n1) (Bm (S:=λc=>c=true) (BZ V (Bb (aO K h.l2) (Au V))) ?_);rintro c rfl;exact Au V
theorem aa{F:Nat}{o:OW}(ac:100<F):BP (f17 F o) (λr=>r=false->NV 20 o):=by
 unfold f17;refine Bm (S:=λc=>c=false->o.1.length<=20/\o.2.length<=20) ?_ ?_
 ·refine B2 (λh=>Au (by simp)) (λh=>Au λU=>?_);have:=of_decide_eq_false U;omega
 intro c Y;refine B2 (λh=>Au (by simp)) (λh=>?_);obtain⟨Z,g2⟩:=Y (by simpa using h);refine Bm (S:=λq=>q=Sum.inl true∨(q=Sum.inr ()/\∀x∈o.1,x.length<=20)) ?_ ?_
 ·refine C9 o.1.length (λi s=>s=(i:Int)/\∀x∈o.1.take i,x.length<=20) ⟨V,by simp⟩ (by omega) ?_ ?_
  ·rintro i s hi ⟨rfl,O⟩;unfold N8;refine BZ (by omega) (Ct (m:=i) V hi ?_);refine B2 (λh=>Au (.inl V)) (λh=>?_);refine Bw ((i+1:Nat):Int) (by simp) (by omega) (by omega) (Au ⟨V,λx K=>?_⟩);rw [List.take_add_one,List.getElem?_eq_getElem hi] at K;simp only [Option.toList_some,List.mem_append,List.mem_singleton] at K;rcases K with K | rfl
   ·exact O x K
   ·omega
  ·rintro s ⟨rfl,O⟩;unfold N8;refine BQ (by omega) (Au ⟨_,V,.inr ⟨V,λx K=>O x (by rw [List.take_length];exact K)⟩⟩)
 ·rintro q (rfl | ⟨rfl,h⟩)
  ·exact Au (by simp)
  ·exact Au λ_=>⟨Z,h,g2⟩
theorem KI(F:Nat)(a lo hi:Int):f92 F a lo hi=some (decide (lo<=a/\a<=hi)):=by
 unfold f92;by_cases h:lo<=a
 ·rw [if_pos h];simp [h]
 ·rw [if_neg h];simp [h]
theorem aB(F:Nat)(a lo hi:Int):f91 F a lo hi=some (decide (lo<=a/\a<=hi)):=KI F a lo hi
theorem XK{F:Nat}{o:OW}{i:Int}{l:List Int}(h:ix o.1 i=some l):Ob F l=LD F o i:=by
 funext j;unfold Ob LD;rw [h];rfl
theorem XN(F:Nat)(o:OW):Oh F o=LG F o:=by
 funext i;unfold Oh LG;split
 ·rcases h:ix o.1 i with _ | l
  ·rfl
  ·simp only [Option.bind_some];rw [XK h]
 ·rfl
theorem ZH(F:Nat)(o:OW):f47 F o=f48 F o:=by
 unfold f47 f48;rw [XN];rfl
theorem aW{F n:Nat}{o:OW}{d:DT}(h:NV n o)(K:n<100):BP (f38 F o d) (λr=>r=(o.1,o.2++ [d])):=by
 unfold f38;have O:=h.l2;refine BP.Kn (by simp;omega) (BP.Kn (by simp;omega) ?_);exact Au V
def VD(n:Nat)(d:DT):Prop:=0<=d.1/\d.1<(n:Int)/\0<=d.2.1/\d.2.1<(n:Int)/\d.1≠d.2.1/\1<=d.2.2/\d.2.2<=9
def CS(x:List Int):Prop:=x.length<=3/\∀c∈x,1<=c/\c<=9
structure VO (o:OW):Prop where
 n2:2<=o.1.length
 n5:o.1.length<=5
 cs:∀x∈o.1,CS x
 d8:o.2.length<=8
 ds:∀d∈o.2,VD o.1.length d
theorem Qd{α:Type}{P:α->Prop}{l:List α}{i:Nat}(hi:i<l.length)(h:∀x∈l.take i,P x)(k:P l[i]):∀x∈l.take (i+1),P x:=by
 intro x K;rw [List.take_add_one,List.getElem?_eq_getElem hi] at K;simp only [Option.toList_some,List.mem_append,List.mem_singleton] at K;rcases K with K | rfl
 ·exact h x K
 ·exact k
theorem Z3{F:Nat}{d:DT}{n:Nat}(Y:n<1000):BP (f88 F (n:Int) d 9) (λr=>r=0↔VD n d):=by
 unfold f88;refine Bw ((n:Int) - 1) V (by omega) (by omega) (Bb (KI _ _ _ _) ?_);refine Bm (S:=λc=>c=true↔¬((0<=d.1/\d.1<(n:Int))/\0<=d.2.1/\d.2.1<(n:Int))) ?_ ?_
 ·refine B2 (λh=>Au ?_) (λh=>?_)
  ·simp at h;simp;omega
  ·refine Bw ((n:Int) - 1) V (by omega) (by omega) (Bb (KI _ _ _ _) ?_);refine Au ?_;simp at h;simp;omega
 ·intro c O;refine B2 (λh=>Au ?_) (λh=>?_)
  ·have:=O.1 h;unfold VD;constructor
   ·intro h;cases h
   ·intro h;omega
  have Z:¬¬_:=λk=>h (O.2 k);refine B2 (λU=>Au ?_) (λU=>?_)
  ·unfold VD;constructor
   ·intro h;cases h
   ·intro h;omega
  refine Bb (KI _ _ _ _) (B2 (λK=>Au ?_) (λK=>Au ?_))
  ·simp at K;unfold VD;constructor
   ·intro h;cases h
   ·intro h;omega
  ·simp at K;unfold VD;constructor
   ·intro h;omega
   ·intro h;rfl
theorem Zw{F:Nat}{o:OW}(Z:100<F)(h:NV 40 o):BP (f48 F o) (λr=>r=0↔VO o):=by
 unfold f48;have ac:=h.l1;have ag:=h.l2;refine B2 (λg=>Au (iff_of_false (by decide) λv=>by have:=v.n2;omega)) (λal=>?_);refine B2 (λg=>Au (iff_of_false (by decide) λv=>by have:=v.n5;omega)) (λg2=>?_);refine Bm (S:=λq=>(∃e,q=Sum.inl e/\e≠0/\¬∀x∈o.1,CS x)∨(q=Sum.inr ()/\∀x∈o.1,CS x)) ?_ ?_
 ·refine C9 o.1.length (λi s=>s=(i:Int)/\∀x∈o.1.take i,CS x) ⟨V,by simp⟩ (by omega) ?_ ?_
  ·rintro i s hi ⟨rfl,K⟩;unfold LG;refine BZ (by omega) (Ct (m:=i) V hi ?_);have am:=h.n1 _ (List.getElem_mem hi);refine B2 (λg=>Au (.inl ⟨_,V,by decide,λk=>by have:=(k _ (List.getElem_mem hi)).1;omega⟩)) (λap=>?_);refine Bm (S:=λq=>(q=Sum.inl 1/\¬CS o.1[i])∨(q=Sum.inr ()/\CS o.1[i])) ?_ ?_
   ·refine C9 o.1[i].length (λj s=>s=(j:Int)/\∀c∈o.1[i].take j,1<=c/\c<=9) ⟨V,by simp⟩ (by omega) ?_ ?_
    ·rintro j s U ⟨rfl,O⟩;unfold LD;refine Ct (m:=i) V hi (BZ (by omega) ?_);refine Ct (m:=i) V hi (Ct (m:=j) V U ?_);refine Bb (KI _ _ _ _) (B2 (λg=>Au (.inl ⟨V,λk=>?_⟩)) (λg=>?_))
     ·have:=k.2 _ (List.getElem_mem U);simp at g;omega
     refine Bw ((j+1:Nat):Int) (by simp) (by omega) (by omega) (Au ⟨V,Qd U O ?_⟩);simpa using g
    ·rintro s ⟨rfl,O⟩;unfold LD;refine Ct (m:=i) V hi ?_;rw [List.take_length] at O;exact BQ (by omega) (Au ⟨_,V,.inr ⟨V,by omega,O⟩⟩)
   ·rintro q (⟨rfl,g⟩ | ⟨rfl,g⟩)
    ·rw [Sum.elim_inl];exact Au (.inl ⟨_,V,by decide,λk=>g (k _ (List.getElem_mem hi))⟩)
    ·rw [Sum.elim_inr];exact Bw ((i+1:Nat):Int) (by simp) (by omega) (by omega) (Au ⟨V,Qd hi K g⟩)
  ·rintro s ⟨rfl,K⟩;unfold LG;rw [List.take_length] at K;exact BQ (by omega) (Au ⟨_,V,.inr ⟨V,K⟩⟩)
 ·rintro q (⟨e,rfl,he,g⟩ | ⟨rfl,O⟩)
  ·rw [Sum.elim_inl];exact Au (iff_of_false he λv=>g v.cs)
  ·rw [Sum.elim_inr];refine B2 (λg=>Au (iff_of_false (by decide) λv=>by have:=v.d8;omega)) (λg2=>?_);refine Bm (S:=λq=>(∃e,q=Sum.inl e/\e≠0/\¬∀d∈o.2,VD o.1.length d)∨(q=Sum.inr ()/\∀d∈o.2,VD o.1.length d)) ?_ ?_
   ·refine C9 o.2.length (λi s=>s=(i:Int)/\∀d∈o.2.take i,VD o.1.length d) ⟨V,by simp⟩ (by omega) ?_ ?_
    ·rintro i s hi ⟨rfl,K⟩;unfold Oq;refine BZ (by omega) (Ct (m:=i) V hi ?_);refine Bm (Z3 (by omega)) ?_;intro x Y;refine B2 (λg=>Au (.inl ⟨_,V,g,λk=>g (Y.2 (k _ (List.getElem_mem hi)))⟩)) (λg=>?_);exact Bw ((i+1:Nat):Int) (by simp) (by omega) (by omega) (Au ⟨V,Qd hi K (Y.1 (Decidable.not_not.1 g))⟩)
    ·rintro s ⟨rfl,K⟩;unfold Oq;rw [List.take_length] at K;exact BQ (by omega) (Au ⟨_,V,.inr ⟨V,K⟩⟩)
   ·rintro q (⟨e,rfl,he,g⟩ | ⟨rfl,g⟩)
    ·rw [Sum.elim_inl];exact Au (iff_of_false he λv=>g v.ds)
    ·rw [Sum.elim_inr];exact Au (iff_of_true V ⟨by omega,by omega,O,by omega,g⟩)
theorem X5(a n:Int):a % n=(a - n) % n:=by
 have h:a=(a - n)+n*1:=by omega
 conv=>lhs;rw [h]
 exact Int.add_mul_emod_self_left _ _ _
theorem ZS{F k n:Nat}{b:IK}(hb:BG k b)(av:k<900000)(aw:2<=n)(ay:n<900):BP (f40 F b (n:Int)) (λr=>VD n r.1/\BG (k+4) r.2):=by
 unfold f40;refine Bw ((n:Int) - 1) V (by omega) (by omega) (Bm (J4 hb (by omega) (by omega)) ?_);rintro⟨x,az⟩ ⟨O,g2,U⟩;simp only at O g2 U ⊢;refine Bm (Qo U (by omega) (by omega) (by omega) (by omega)) ?_;rintro⟨x2,a0⟩ ⟨a1,am,Y⟩;simp only at a1 am Y ⊢;refine Bm (UB Y (by omega) (by simp) (by simp)) ?_;rintro⟨Z,a2⟩ ⟨ac,ag⟩;simp only at ac ag ⊢;refine Bw ((n:Int) - 1) V (by omega) (by omega) (Bm (Qo ag (by omega) (by omega) (by omega) (by omega)) ?_);rintro⟨K,a3⟩ ⟨ap,aq,al⟩;simp only at ap aq al ⊢;refine Bw (x+K) V (by omega) (by omega) (Bb (b:=(x+K).tmod n) (by unfold OT;rw [if_neg (by omega)]) ?_);refine Au ⟨?_,al⟩;have e:(x+K).tmod n=(x+K) % n:=Int.tmod_eq_emod_of_nonneg (by omega);have p3:1<=Z/\Z<=9:=by
  simp only [List.mem_cons,List.not_mem_nil,or_false] at ac;omega
 have a4:(x+K) % (n:Int)<n:=Int.emod_lt_of_pos _ (by omega);have a5:0<=(x+K) % (n:Int):=Int.emod_nonneg _ (by omega);have a6:x≠(x+K) % (n:Int):=by
  rcases Int.lt_or_le (x+K) n with h | h
  ·rw [Int.emod_eq_of_lt (by omega) h];omega
  ·rw [X5,Int.emod_eq_of_lt (by omega) (by omega)];omega
 refine⟨O,?_,?_,?_,?_,p3.1,p3.2⟩ <;> simp only [e] <;> omega
theorem aP{F k:Nat}{b:IK}{pm dm:Nat}(a6:100<F)(hb:BG k b)(a7:k<1000)(a8:2<=pm)(a9:pm<=5)(hd:dm<=8):BP (f31 F b pm dm) (λr=>VO r.1/\r.1.1.length<=pm/\r.1.2.length<=dm/\BG (k+100) r.2):=by
 unfold f31;refine Bm (Qo hb (by omega) (by omega) (by omega) (by omega)) ?_;rintro⟨n,bb⟩ ⟨n1,n2,ay⟩;simp only at n1 n2 ay ⊢;obtain⟨n,rfl⟩:∃m:Nat,n=(m:Int):=⟨n.toNat,by omega⟩;refine Bm (TU ay (by omega) (by omega) (by omega)) ?_;rintro⟨be,bi⟩ g2;simp only at g2 ⊢;refine Bm (S:=λr=>r.2.2.2.length=n/\(∀x∈r.2.2.2,CS x)/\BG (k+30) (r.1,r.2.1,r.2.2.1)) ?_ ?_
 ·refine C9 n (λi s=>s.2.2.2.2=(i:Int)/\s.1.length=i/\(∀x∈s.1,CS x)/\BG (k+2+5*i) (s.2.1,s.2.2.1,s.2.2.2.1)) ⟨V,V,by simp,g2⟩ (by omega) ?_ ?_
  ·rintro i ⟨az,l,t,ag,c⟩ hi ⟨al,am,ap,K⟩;simp only at al am ap K;subst al;unfold Oo;refine BZ (by simp only;omega) (Bm (J4 K (by omega) (by omega)) ?_);rintro⟨c,bn⟩ ⟨c1,c2,aq⟩;simp only at c1 c2 aq ⊢;obtain⟨c,rfl⟩:∃m:Nat,c=(m:Int):=⟨c.toNat,by omega⟩;refine Bm (S:=λr=>CS r.1/\BG (k+2+5*i+1+c) r.2) ?_ ?_
   ·refine C9 c (λj s=>s.2.2.2.2=((c - j:Nat):Int)/\s.2.2.2.1.length=j/\(∀v∈s.2.2.2.1,1<=v/\v<=9)/\BG (k+2+5*i+1+j) (s.1,s.2.1,s.2.2.1)) ⟨V,V,by simp,aq⟩ (by omega) ?_ ?_
    ·rintro j ⟨l,t,ag,w,z⟩ a4 ⟨U,hw,O,K⟩;simp only at U hw O K;subst U;unfold Oy;refine BZ (by simp only;omega) (Bm (S:=λr=>r.1.length=j+1/\(∀v∈r.1,1<=v/\v<=9)/\BG (k+2+5*i+1+(j+1)) r.2) ?_ ?_)
     ·refine B2 (λ_=>?_) (λ_=>?_)
      ·refine JY (by simp only;omega) (Au ⟨by simp [hw],?_,K.M (by omega)⟩);intro v h;rcases List.mem_append.1 h with h | h
       ·exact O v h
       ·have:=List.mem_singleton.1 h;omega
      ·refine Bm (UB K (by omega) (by simp) (by simp)) ?_;rintro⟨v,a5⟩ ⟨a0,av⟩;simp only at a0 av ⊢;refine JY (by omega) (Au ⟨by simp [hw],?_,av⟩);intro u h;rcases List.mem_append.1 h with h | h
       ·exact O u h
       ·have:=List.mem_singleton.1 h;subst this;simp only [List.mem_cons,List.not_mem_nil,or_false] at a0;omega
     ·rintro⟨w',l',bo,bv⟩ ⟨Z,aw,ac⟩;simp only at Z ac aw ⊢;exact Bw ((c - (j+1):Nat):Int) (by omega) (by omega) (by omega) (Au ⟨V,Z,aw,ac⟩)
    ·rintro⟨l,t,ag,w,z⟩ ⟨U,hw,O,K⟩;simp only at U hw O K;subst U;unfold Oy;exact BQ (by simp) (Au ⟨_,V,⟨by simp only;omega,O⟩,K⟩)
   ·rintro⟨w,a5⟩ ⟨Z,ac⟩;simp only at Z ac ⊢;refine JY (by omega) (Bw ((i+1:Nat):Int) (by simp) (by omega) (by omega) ?_);refine Au ⟨V,by simp [am],λx Y=>?_,ac.M (by omega)⟩;simp only [List.mem_append,List.mem_singleton] at Y;rcases Y with Y | rfl
    ·exact ap x Y
    ·exact Z
  ·rintro⟨az,l,t,ag,c⟩ ⟨al,am,ap,K⟩;simp only at al am ap K;subst al;unfold Oo;exact BQ (by simp) (Au ⟨_,V,am,ap,K.M (by omega)⟩)
 ·rintro⟨l,t,ag,az⟩ ⟨p1,p2,aq⟩;simp only at p1 p2 aq ⊢;refine Bm (J4 aq (by omega) (by omega)) ?_;rintro⟨c,bw⟩ ⟨c1,c2,av⟩;simp only at c1 c2 av ⊢;obtain⟨c,rfl⟩:∃m:Nat,c=(m:Int):=⟨c.toNat,by omega⟩;refine Bm (S:=λr=>r.2.2.2.length<=dm/\(∀d∈r.2.2.2,VD n d)/\BG (k+100) (r.1,r.2.1,r.2.2.1)) ?_ ?_
  ·refine C9 c (λj s=>s.2.2.2.2=((c - j:Nat):Int)/\s.1.length=j/\(∀d∈s.1,VD n d)/\BG (k+31+4*j) (s.2.1,s.2.2.1,s.2.2.2.1)) ⟨V,V,by simp,av.M (by omega)⟩ (by omega) ?_ ?_
   ·rintro j ⟨a1,l,t,ag,z⟩ a4 ⟨U,hw,O,K⟩;simp only at U hw O K;subst U;unfold Ok;refine BZ (by simp only;omega) (Bm (ZS K (by omega) (by omega) (by omega)) ?_);rintro⟨d,bx⟩ ⟨a2,a3⟩;simp only at a2 a3 ⊢;refine BP.Kn (by simp;omega) (Bw ((c - (j+1):Nat):Int) (by omega) (by omega) (by omega) ?_);refine Au ⟨V,by simp [hw],?_,a3.M (by omega)⟩;intro x Y;rcases List.mem_append.1 Y with Y | Y
    ·exact O x Y
    ·cases List.mem_singleton.1 Y;exact a2
   ·rintro⟨a1,l,t,ag,z⟩ ⟨U,hw,O,K⟩;simp only at U hw O K;subst U;unfold Ok;exact BQ (by simp) (Au ⟨_,V,by simp only;omega,O,K.M (by omega)⟩)
  ·rintro⟨l,t,ag,a1⟩ ⟨Z,aw,ac⟩;simp only at Z ac aw ⊢;exact Au ⟨⟨by simp only;omega,by simp only;omega,p2,by simp only;omega,by simp only;rw [p1];exact aw⟩,by simp only;omega,Z,ac⟩
abbrev PR:=Int×Int
def gN(l:List Int)(i:Nat):Int:=l.getD i 0
def IJ(l:List Int)(i v:Int):List Int:=l.set i.toNat (gN l i.toNat+v)
def BN(B:Int)(l:List Int):Prop:=l.length=5/\∀x∈l,-B<=x/\x<=B
theorem MD{l:List Int}{i:Nat}(h:i<l.length):gN l i=l[i]:=by unfold gN;rw [List.getD_eq_getElem?_getD,List.getElem?_eq_getElem h];rfl
theorem BN.bd{B:Int}{l:List Int}(h:BN B l){i:Nat}(hi:i<5): -B<=gN l i/\gN l i<=B:=by
 rw [MD (by have:=h.1;omega)];exact h.2 _ (List.getElem_mem _)
theorem BN.ix{B:Int}{l:List Int}(h:BN B l){i:Int}(K:0<=i)(hi:i<5):ix l i=some (gN l i.toNat):=by
 have:=h.1;rw [MD (show i.toNat<l.length by omega)];exact FK (m:=i.toNat) (by omega) (List.getElem?_eq_getElem _)
theorem BN.M{B C:Int}{l:List Int}(h:BN B l)(O:B<=C):BN C l:=⟨h.1,λx K=>by have:=h.2 x K;omega⟩
theorem BN.add{B V:Int}{l:List Int}(h:BN B l){i v:Int}(O:0<=i)(hi:i<5)(U: -V<=v)(Y:v<=V):BN (B+V) (IJ l i v):=by
 have hb:=h.bd (i:=i.toNat) (by omega);refine⟨by unfold IJ;rw [List.length_set];exact h.1,λx K=>?_⟩;rcases List.mem_or_eq_of_mem_set K with K | rfl
 ·have:=h.2 x K;omega
 ·omega
theorem Xx{l l':List Int}(h:l.length=5)(U:l'.length=5)(k:∀j,j<5->gN l j=gN l' j):l=l':=by
 refine List.ext_getElem (by omega) λj K O=>?_;rw [← MD K,← MD O];exact k j (by omega)
def JD(l:List Int)(d:DT):List Int:=IJ (IJ l d.1 d.2.2) d.2.1 (-d.2.2)
def KS(l:List Int)(d:DT):List Int:=IJ (IJ l d.2.1 d.2.2) d.1 (-d.2.2)
def Ce(o:OW):List Int:=o.2.foldl KS (List.replicate 5 0)
theorem P5{F:Nat}{B:Int}{l:List Int}{d:DT}(h:BN B l)(a1:0<=d.1)(O:d.1<5)(U:0<=d.2.1)(Y:d.2.1<5)(p1: -B<=d.2.2)(p2:d.2.2<=B)(Z:B<=1000000000000):f204 F l d=some (JD l d)/\BN (3*B) (JD l d):=by
 have K:=h.add a1 O p1 p2;have g2:=K.add U Y (show -B<= -d.2.2 by omega) (by omega);have k1:=h.bd (i:=d.1.toNat) (by omega);have ac:=K.bd (i:=d.2.1.toNat) (by omega);refine⟨?_,g2.M (by omega)⟩;refine CV ?_;unfold f204;refine Bb (h.ix a1 O) ?_;refine Bw _ V (by omega) (by omega) ?_;refine Bb (h.ix a1 O) ?_;refine Bb (K.ix U Y) ?_;refine Bw _ V (by omega) (by omega) ?_;refine Bb (K.ix U Y) ?_;exact Au V
theorem QA{F:Nat}{o:OW}(ac:100<F)(h:VO o):f84 F o=some (Ce o)/\BN 200 (Ce o):=by
 have ag:=h.n5;have al:=h.d8;have:BP (f84 F o) (λr=>r=Ce o/\BN 200 r):=by
  unfold f84;refine Bm (S:=λr=>r=Ce o/\BN 200 r) ?_ (λr U=>Au U);refine C9 o.2.length (λi s=>s.2=(i:Int)/\s.1=(o.2.take i).foldl KS (List.replicate 5 0)/\BN (20*i) s.1) ⟨rfl,rfl,rfl,by simp⟩ (by omega) ?_ ?_
  ·rintro i ⟨w,c⟩ hi ⟨K,hw,hb⟩;simp only at K hw hb;subst K;obtain⟨v1,v2,am,v4,ap,v6,aq⟩:=h.ds _ (List.getElem_mem hi);have O:=hb.add (i:=o.2[i].2.1) (v:=o.2[i].2.2) (V:=10) (by omega) (by omega) (by omega) (by omega);have g2:=O.add (i:=o.2[i].1) (v:= -o.2[i].2.2) (V:=10) (by omega) (by omega) (by omega) (by omega);have k1:=hb.bd (i:=o.2[i].2.1.toNat) (by omega);have av:=O.bd (i:=o.2[i].1.toNat) (by omega);unfold Ow;refine BZ (by simp only;omega) (Ct (m:=i) rfl hi ?_);refine Bb (hb.ix (by omega) (by omega)) (Bw _ rfl (by omega) (by omega) ?_);refine Bb (hb.ix (by omega) (by omega)) (Bb (O.ix (by omega) (by omega)) ?_);refine Bw _ rfl (by omega) (by omega) (Bb (O.ix (by omega) (by omega)) ?_);refine Bw ((i+1:Nat):Int) (by simp) (by omega) (by omega) (Au ⟨rfl,?_,g2.M (by omega)⟩);simp only;rw [List.take_add_one,List.getElem?_eq_getElem hi,List.foldl_append,← hw]
   rfl
  ·rintro⟨w,c⟩ ⟨K,hw,hb⟩;simp only at K hw hb;subst K;unfold Ow;rw [List.take_length] at hw;exact BQ (by simp) (Au ⟨_,rfl,hw,hb.M (by omega)⟩)
 obtain⟨r,Y,rfl,Z⟩:=this;exact⟨Y,Z⟩
theorem X8{l:List Int}{i:Nat}(hi:i<l.length):(l.take (i+1)).sum=(l.take i).sum+l[i]:=by
 rw [List.take_add_one,List.getElem?_eq_getElem hi,List.sum_append];simp only [Option.toList_some,List.sum_cons,List.sum_nil];omega
theorem aI{F:Nat}{l:List Int}(ag:100<F)(al:l.length<=20)(hb:∀x∈l,-1000<=x/\x<=1000):f85 F l=some l.sum/\ -20000<=l.sum/\l.sum<=20000:=by
 have:BP (f85 F l) (λr=>r=l.sum/\ -20000<=r/\r<=20000):=by
  unfold f85;refine Bm (S:=λr=>r=l.sum/\ -20000<=r/\r<=20000) ?_ (λr Y=>Au Y);refine C9 l.length (λi s=>s.2=(i:Int)/\s.1=(l.take i).sum/\ -(1000*(i:Int))<=s.1/\s.1<=1000*(i:Int)) ⟨V,V,by simp,by simp⟩ (by omega) ?_ ?_
  ·rintro i ⟨w,c⟩ hi ⟨K,hw,O,U⟩;simp only at K hw O U;subst K;have am:=hb _ (List.getElem_mem hi);unfold Ol;refine BZ (by simp only;omega) (Ct (m:=i) V hi ?_);refine Bw _ V (by omega) (by omega) (Bw ((i+1:Nat):Int) (by simp) (by omega) (by omega) ?_);refine Au ⟨V,?_,?_,?_⟩
   ·simp only;rw [X8 hi,hw]
   ·simp only;omega
   ·simp only;omega
  ·rintro⟨w,c⟩ ⟨K,hw,O,U⟩;simp only at K hw O U;subst K;unfold Ol;rw [List.take_length] at hw;exact BQ (by simp) (Au ⟨_,V,hw,by simp only;omega,by simp only;omega⟩)
 obtain⟨r,Z,rfl,ac⟩:=this;exact⟨Z,ac⟩
def VP(n:Nat)(x:PR):Prop:=0<=x.1/\x.1<x.2/\x.2<(n:Int)
def IH(b:Nat)(k:Nat):List PR:=(List.range k).map λa:Nat=>((a:Int),(b:Int))
def DU(n:Nat):List PR:=(List.range n).flatMap λb=>IH b b
theorem Wa(b k:Nat):IH b (k+1)=IH b k++ [((k:Int),(b:Int))]:=by unfold IH;rw [List.range_succ,List.map_append];rfl
theorem VF(n:Nat):DU (n+1)=DU n++IH n n:=by unfold DU;rw [List.range_succ,List.flatMap_append];simp
theorem Ms{n:Nat}{x:PR}(h:x∈DU n):VP n x:=by
 unfold DU IH at h;obtain⟨b,hb,h⟩:=List.mem_flatMap.1 h;obtain⟨a,K,rfl⟩:=List.mem_map.1 h;have:=List.mem_range.1 hb;have:=List.mem_range.1 K;exact⟨by simp only;omega,by simp only;omega,by simp only;omega⟩
theorem Sy(b k:Nat):(IH b k).length=k:=by unfold IH;simp
theorem Pv{n:Nat}(h:n<=5):(DU n).length<=10:=by
 have e:∀n,n<=5->(DU n).length<=n*2:=by
  intro n K
  match n,K with
  | 0,_ | 1,_ | 2,_ | 3,_ | 4,_ | 5,_=>decide
 have:=e n h;omega
theorem Yu{F:Nat}{o:OW}(Z:100<F)(ac:o.1.length<=5):f133 F o=some (DU o.1.length):=by
 refine CV ?_;unfold f133;refine Bm (S:=λr=>r=DU o.1.length) ?_ (λr Y=>Au Y);refine C9 o.1.length (λi s=>s.2=(i:Int)/\s.1=DU i/\s.1.length<=10*i) ⟨V,V,by simp⟩ (by omega) ?_ ?_
 ·rintro i ⟨w,c⟩ hi ⟨K,hw,U⟩;simp only at K hw U;subst K;unfold NB;refine BZ (by simp only;omega) (Bm (S:=λr=>r=DU i++IH i i) ?_ ?_)
  ·refine C9 i (λa s=>s.2=(a:Int)/\s.1=DU i++IH i a) ⟨V,by simp [IH,hw]⟩ (by omega) ?_ ?_
   ·rintro a ⟨v,c⟩ ag ⟨K,O⟩;simp only at K O;subst K;unfold NS;refine BZ (by simp only;omega) (JY ?_ ?_)
    ·rw [O,← hw,List.length_append,Sy];omega
    refine Bw ((a+1:Nat):Int) (by simp) (by omega) (by omega) (Au ⟨V,?_⟩);simp only;rw [Wa,O,List.append_assoc]
   ·rintro⟨v,c⟩ ⟨K,O⟩;simp only at K O;subst K;unfold NS;exact BQ (by simp) (Au ⟨_,V,O⟩)
  ·rintro r rfl;refine Bw ((i+1:Nat):Int) (by simp) (by omega) (by omega) (Au ⟨V,(VF i).symm,?_⟩);simp only;rw [List.length_append,Sy,← hw];omega
 ·rintro⟨w,c⟩ ⟨K,hw,U⟩;simp only at K hw U;subst K;unfold NB;exact BQ (by simp) (Au ⟨_,V,hw⟩)
def A3(p:Int)(x:PR):Bool:=decide (x.1=p) || decide (x.2=p)
theorem Pj{α:Type}{p:α->Bool}:∀{l:List α} {a:Nat},l.countP p=1->∀O:a<l.length,p l[a]=true->l.findIdx p=a
 | x::xs,0,_,_,K=>by
  have K:p x=true:=K
  rw [List.findIdx_cons,K];rfl
 | x::xs,a+1,h,O,K=>by
  have K:p (xs[a]'(by simpa using O))=true:=K
  have Y:0<xs.countP p:=List.countP_pos_iff.2 ⟨_,List.getElem_mem _,K⟩
  by_cases U:p x=true
  ·rw [List.countP_cons_of_pos U] at h;omega
  ·rw [List.countP_cons_of_neg U] at h;rw [List.findIdx_cons,Bool.eq_false_iff.2 U];simp only [cond_false];rw [Pj h (by simpa using O) K]
def F9(n:Nat)(l:List PR):Option Nat:=(List.range n).find? λp=>l.countP (A3 p)==1
def dP(p:Int)(x:PR)(m:Int):DT:=if 0<m then(x.1+x.2 - p,p,m) else(p,x.1+x.2 - p,-m)
def Eo(n:Nat):Nat->List PR->List Int->List DT->Option (List DT)
 | 0,_,w,out=>if w=List.replicate 5 0 then some out else none
 | k+1,l,w,out=>(F9 n l).bind λp=>
   if gN w p=0 then none else
    Eo n k (l.eraseIdx (l.findIdx (A3 p))) (JD w (dP p (l.getD (l.findIdx (A3 p)) (0,0)) (gN w p))) (out++ [dP p (l.getD (l.findIdx (A3 p)) (0,0)) (gN w p)])
def MM:Option (List DT)->Bool×List Int×List DT
 | none=>(true,default)
 | some out=>(false,List.replicate 5 0,out)
theorem Wl{F:Nat}{l:List PR}{p:Int}(am:100<F)(ap:l.length<=20):BP (Pal.iter (Mv F l p) F (0,0,0)) (λr=>r.2=((l.countP (A3 p):Nat):Int)/\(r.2=1->r.1=(l.findIdx (A3 p):Nat)/\l.findIdx (A3 p)<l.length)):=by
 refine C9 l.length (λi s=>s.2.2=(i:Int)/\s.2.1=(((l.take i).countP (A3 p):Nat):Int)/\(s.2.1≠0->∃a,s.1=((a:Nat):Int)/\∃h:a<l.length,A3 p l[a]=true)) ⟨V,by simp,by simp⟩ (by omega) ?_ ?_
 ·rintro i ⟨a,m,c⟩ hi ⟨K,hm,O⟩;simp only at K hm O;subst K;have hle:(l.take i).countP (A3 p)<=i:=by
   refine Nat.le_trans List.countP_le_length ?_;rw [List.length_take];omega
  unfold Mv;refine BZ (by simp only;omega) (Ct (m:=i) V hi ?_);refine Bm (S:=λc=>c=A3 p l[i]) ?_ ?_
  ·unfold A3;refine B2 (λh=>Au (by simp [h])) (λh=>Au (by simp [h]))
  rintro c rfl;have key:(l.take (i+1)).countP (A3 p)=(l.take i).countP (A3 p)+if A3 p l[i]=true then 1 else 0:=by
   rw [List.take_add_one,List.getElem?_eq_getElem hi,List.countP_append];simp only [Option.toList_some,List.countP_cons,List.countP_nil,Nat.zero_add]
  refine Bm (S:=λr=>r.2=(((l.take (i+1)).countP (A3 p):Nat):Int)/\(r.2≠0->∃a,r.1=((a:Nat):Int)/\∃h:a<l.length,A3 p l[a]=true)) ?_ ?_
  ·refine B2 (λh=>?_) (λh=>?_)
   ·refine Bw (((l.take (i+1)).countP (A3 p):Nat):Int) ?_ (by omega) ?_ (Au ⟨V,λ_=>⟨i,V,hi,h⟩⟩)
    ·rw [key,if_pos h,hm];rfl
    ·rw [key,if_pos h];omega
   ·exact Au ⟨by rw [key,if_neg h];exact hm,O⟩
  ·rintro⟨aq,m'⟩ ⟨U,Y⟩;simp only at U Y ⊢;exact Bw ((i+1:Nat):Int) (by simp) (by omega) (by omega) (Au ⟨V,U,Y⟩)
 ·rintro⟨a,m,c⟩ ⟨K,hm,O⟩;simp only at K hm O;subst K;rw [List.take_length] at hm;unfold Mv;refine BQ (by simp) (Au ⟨_,V,hm,λac=>?_⟩);simp only at ac;obtain⟨k,ag,Z,al⟩:=O (by omega);have:=Pj (p:=A3 p) (l:=l) (a:=k) (by omega) Z al;simp only;rw [this];exact⟨ag,Z⟩
theorem RF{n:Nat}{l:List PR}{i:Nat}(hi:i<n)(K:l.countP (A3 i)=1)(h:∀p,p<i->l.countP (A3 p)≠1):F9 n l=some i:=by
 unfold F9;rw [List.find?_range_eq_some];exact⟨by simp [K],List.mem_range.2 hi,λj O=>by simpa using h j O⟩
theorem RI{n:Nat}{l:List PR}(h:∀p,p<n->l.countP (A3 p)≠1):F9 n l=none:=by
 unfold F9;rw [List.find?_eq_none];intro p K;simpa using h p (List.mem_range.1 K)
theorem QI{n:Nat}{p:Nat}{x:PR}{m B:Int}(O:n<=5)(K:VP n x)(ht:A3 p x=true)(U: -B<=m)(Y:m<=B):0<=(dP p x m).1/\(dP p x m).1<5/\0<=(dP p x m).2.1/\(dP p x m).2.1<5/\0<=(dP p x m).2.2/\(dP p x m).2.2<=B:=by
 obtain⟨v1,v2,Z⟩:=K;unfold A3 at ht;simp at ht;unfold dP;split <;> simp only <;> omega
theorem Lh{α:Type}{l:List α}{i:Nat}{d:α}(h:i<l.length):l.getD i d=l[i]:=by rw [List.getD_eq_getElem?_getD,List.getElem?_eq_getElem h];rfl
theorem S9{F n:Nat}{q:OW}(Z:100<F)(ay:q.1.length=n)(am:n<=5):∀(k N:Nat) (l:List PR) (w:List Int) (out:List DT) (B:Int),l.length=k->k<N->k<=10->(∀x∈l,VP n x)->BN B w->0<=B->B*3 ^ k<=1000000000000->out.length+k<=100->Lz N F l w q out=some (MM (Eo n k l w out))
 | 0,N,l,w,out,B,az,a0,_,ac,hw,ap,aq,a1=>by
  obtain⟨N,rfl⟩:∃k,N=k+1:=⟨N - 1,by omega⟩
  refine CV ?_
  simp only [Lz]
  unfold MA Eo
  refine BZ (by omega) ?_
  refine B2 (λh=>Au ?_) (λh=>Au ?_)
  ·rw [if_neg h];rfl
  ·have h:=Decidable.not_not.1 h;rw [if_pos h,h];rfl
 | k+1,N,l,w,out,B,az,a0,bi,ac,hw,ap,aq,a1=>by
  obtain⟨N,rfl⟩:∃k,N=k+1:=⟨N - 1,by omega⟩;refine CV ?_;simp only [Lz];unfold MA;refine BQ (by omega) ?_;have a2:B*3 ^ (k+1)=(3*B)*3 ^ k:=by rw [Int.pow_succ];rw [Int.mul_comm (3 ^ k) 3,← Int.mul_assoc,Int.mul_comm B 3]
  have a3:B<=1000000000000:=by
   have ag:(1:Int)<=3 ^ (k+1):=by
    have:(0:Int)<3 ^ (k+1):=Int.pow_pos (by decide);omega
   have:=Int.mul_le_mul_of_nonneg_left ag ap;omega
  refine Bm (S:=λr=>r=Sum.inl (MM (Eo n (k+1) l w out))∨(r=Sum.inr ()/\F9 n l=none)) ?_ ?_
  ·refine C9 n (λi s=>s=(i:Int)/\∀p,p<i->l.countP (A3 (p:Nat))≠1) ⟨V,by simp⟩ (by omega) ?_ ?_
   ·rintro i s hi ⟨rfl,O⟩;unfold NI;refine BZ (by omega) (Bm (S:=λr=>(r=Sum.inr ()/\l.countP (A3 i)≠1)∨r=Sum.inl (MM (Eo n (k+1) l w out))) ?_ ?_)
    ·refine Bm (Wl Z (by omega)) ?_;rintro⟨a,m⟩ ⟨av,U⟩;simp only at av U ⊢;refine B2 (λh=>Au (.inl ⟨V,λag=>h (by rw [av,ag];rfl)⟩)) (λh=>?_);have h:=Decidable.not_not.1 h;obtain⟨U,K⟩:=U h;have a4:l.countP (A3 i)=1:=by omega
     subst U;have a5:=RF hi a4 O;refine Ct (m:=l.findIdx (A3 i)) V K (Ct (m:=l.findIdx (A3 i)) V K ?_);have ht:A3 i l[l.findIdx (A3 i)]=true:=List.findIdx_getElem;have Y:=ac _ (List.getElem_mem K);have a6:=Y;obtain⟨bn,x2,bo⟩:=a6;have hb:=hw.bd (i:=i) (by omega);refine Bw (-(i:Int)) V (by omega) (by omega) (Bb (hw.ix (by omega) (by omega)) ?_);rw [show Int.toNat (i:Int)=i by omega];refine Bb (aI (l:= [_,_,_]) Z (by simp) (by simp;omega)).1 (Bw (-(gN w i)) V (by omega) (by omega) ?_);have hg:Eo n (k+1) l w out=if gN w i=0 then none else Eo n k (l.eraseIdx (l.findIdx (A3 i))) (JD w (dP i l[l.findIdx (A3 i)] (gN w i))) (out++ [dP i l[l.findIdx (A3 i)] (gN w i)]):=by
      simp only [Eo,a5,Option.bind_some,Lh K]
     refine B2 (λh=>Au (.inr ?_)) (λh=>?_)
     ·rw [hg,if_pos (by omega)];rfl
     have aw:=hg;rw [if_neg (show ¬gN w i=0 by omega)] at aw;rw [aw];refine Bm (S:=λr=>r=dP i l[l.findIdx (A3 i)] (gN w i)) ?_ ?_
     ·unfold dP;refine B2 (λh=>?_) (λh=>?_)
      ·refine Bw (gN w i) (by omega) (by omega) (by omega) (Au ?_);rw [if_pos (by omega)];simp only [List.sum_cons,List.sum_nil];refine Prod.ext ?_ V;simp only;omega
      ·refine Au ?_;rw [if_neg (by omega)];simp only [List.sum_cons,List.sum_nil];refine Prod.ext V (Prod.ext ?_ V);simp only;omega
     rintro d rfl;obtain⟨a7,e2,a8,a9,bv,bb⟩:=QI am Y ht hb.1 hb.2;obtain⟨be,g2⟩:=P5 (F:=F) hw a7 e2 a8 a9 (by omega) bb a3;refine Bb be (BP.Kn (by simp;omega) ?_);refine Bb (b:=l.take (l.findIdx (A3 i))) (by unfold Fy;rw [if_pos (by omega)];simp) (Bw ((l.findIdx (A3 i)+1:Nat):Int) (by simp) (by omega) (by omega) ?_);refine Bb (b:=l.drop (l.findIdx (A3 i)+1)) ?_ ?_
     ·unfold Fy;rw [if_pos (by omega),show Int.toNat (l.length:Int)=l.length by omega,List.take_length,show Int.toNat ((l.findIdx (A3 i)+1:Nat):Int)=l.findIdx (A3 i)+1 by omega]
     refine BP.Kn (by simp;omega) ?_;have he:l.take (l.findIdx (A3 i))++l.drop (l.findIdx (A3 i)+1)=l.eraseIdx (l.findIdx (A3 i)):=(List.eraseIdx_eq_take_drop_succ _ _).symm;rw [he];have hle:(l.eraseIdx (l.findIdx (A3 i))).length=k:=by rw [List.length_eraseIdx_of_lt K];omega
     refine Bb (S9 Z ay am k N _ _ _ (3*B) hle (by omega) (by omega) (λx Y=>ac x (List.mem_of_mem_eraseIdx Y)) g2 (by omega) (by rw [← a2];exact aq) (by simp;omega)) ?_;rcases Eo n k _ _ _ with _ | r
     ·exact BZ V (Au (.inr V))
     ·exact BQ (by simp [MM]) (Au (.inr V))
    ·rintro r (⟨rfl,h⟩ | rfl)
     ·rw [Sum.elim_inr];refine Bw ((i+1:Nat):Int) (by simp) (by omega) (by omega) (Au ⟨V,λp al=>?_⟩);rcases Nat.lt_succ_iff_lt_or_eq.1 al with al | rfl
      ·exact O p al
      ·exact h
     ·rw [Sum.elim_inl];exact Au (.inl V)
   ·rintro s ⟨rfl,O⟩;unfold NI;exact BQ (by omega) (Au ⟨_,V,.inr ⟨V,RI O⟩⟩)
  ·rintro r (rfl | ⟨rfl,h⟩)
   ·rw [Sum.elim_inl];exact Au V
   ·rw [Sum.elim_inr];refine Au ?_;simp only [Eo,h,Option.bind_none]
    rfl
def BD(d:DT):Prop:= -1000000000000000<=d.1/\d.1<=1000000000000000/\ -1000000000000000<=d.2.1/\d.2.1<=1000000000000000/\ -1000000000000000<=d.2.2/\d.2.2<=1000000000000000
theorem Ns{n:Nat}(Z:n<=5):∀(k:Nat) (l:List PR) (w:List Int) (out r:List DT) (B:Int),l.length=k->(∀x∈l,VP n x)->BN B w->0<=B->B*3 ^ k<=1000000000000->(∀d∈out,BD d)->Eo n k l w out=some r->(∀d∈r,BD d)/\r.length=out.length+k
 | 0,l,w,out,r,B,am,O,hw,ac,ag,U,h=>by
  unfold Eo at h
  split at h
  ·cases h;exact⟨U,V⟩
  ·cases h
 | k+1,l,w,out,r,B,am,O,hw,ac,ag,U,h=>by
  have ap:B*3 ^ (k+1)=(3*B)*3 ^ k:=by rw [Int.pow_succ];rw [Int.mul_comm (3 ^ k) 3,← Int.mul_assoc,Int.mul_comm B 3]
  have aq:B<=1000000000000:=by
   have av:(1:Int)<=3 ^ (k+1):=by
    have:(0:Int)<3 ^ (k+1):=Int.pow_pos (by decide);omega
   have:=Int.mul_le_mul_of_nonneg_left av ac;omega
  unfold Eo at h;obtain⟨p,al,h⟩:=bind_some h;split at h
  ·cases h
  unfold F9 at al;obtain⟨c1,c2,c3⟩:=List.find?_range_eq_some.1 al;have a2:l.countP (A3 p)=1:=by simpa using c1
  have c2:=List.mem_range.1 c2;have Y:l.findIdx (A3 p)<l.length:=by
   obtain⟨x,K,ht⟩:=List.countP_pos_iff.1 (show 0<l.countP (A3 p) by omega);exact List.findIdx_lt_length_of_exists ⟨x,K,ht⟩
  rw [Lh Y] at h;have ht:A3 p l[l.findIdx (A3 p)]=true:=List.findIdx_getElem;have K:=O _ (List.getElem_mem Y);have hb:=hw.bd (i:=p) (by omega);obtain⟨aw,e2,ay,az,a3,a0⟩:=QI Z K ht hb.1 hb.2;obtain⟨a4,g2⟩:=P5 (F:=0) hw aw e2 ay az (by omega) a0 aq;obtain⟨k1,a1⟩:=Ns Z k _ _ _ r (3*B) (by rw [List.length_eraseIdx_of_lt Y];omega) (λx K=>O x (List.mem_of_mem_eraseIdx K)) g2 (by omega) (by rw [← ap];exact ag) (by
   intro d hd
   rcases List.mem_append.1 hd with hd | hd
   ·exact U d hd
   ·cases List.mem_singleton.1 hd
    refine⟨?_,?_,?_,?_,?_,?_⟩ <;> omega) h
  refine⟨k1,?_⟩;rw [a1];simp;omega
theorem Rw{α:Type}(l:List α):l= []∨∃A y,l=A++ [y]:=by
 rcases List.eq_nil_or_concat l with h | ⟨A,y,h⟩
 ·exact .inl h
 ·exact .inr ⟨A,y,by rw [h,List.concat_eq_append]⟩
def L2{α:Type}(less:α->α->Option Bool)(s:Int×List α):Option (Bo (Int×List α) (List α)):=
 Option.bind (
  if 0<s.1 then(
   (ix s.2 (s.1)).bind λx=>
   (Aw (s.1 - 1)).bind λj=>
   (ix s.2 (j)).bind λy=>
   (less x y).bind λc=>
   some c
  ) else(
   some false
  )
 ) λc=>
 if c=true then(
  (Aw (s.1 - 1)).bind λj=>
  (Aw (s.1 - 1)).bind λk=>
  (ix s.2 (k)).bind λy=>
  (ix s.2 (s.1)).bind λx=>
  (ix (s.2.set (Int.toNat s.1) y) (j)).bind λ_=>
  (Aw (s.1 - 1)).bind λm=>
  some (.more (m,((s.2.set (Int.toNat s.1) y).set (Int.toNat j) x)))
 ) else(
  some (.done s.2)
 )
theorem P0{α:Type}{less:α->α->Option Bool}{lt:α->α->Bool}{F:Nat}{P:List α}{x:α}(R:List α)(aw:P.length<F)(ay:P.length<=1024)(ap:∀y∈P,less x y=some (lt x y)):
  BP (Pal.iter (L2 less) F ((P.length:Int),P++x::R)) (λr=>∃A B,P=A++B/\r=A++x::(B++R)/\(∀b∈B,lt x b=true)/\(A= []∨∃K y,A=K++ [y]/\lt x y=false)):=by
 refine Nt (λm s=>∃A B,A.length=m/\s.1=((m:Nat):Int)/\s.2=A++x::(B++R)/\P=A++B/\∀b∈B,lt x b=true) ?_ (m:=P.length) ⟨P,[],V,V,V,by simp,by simp⟩ (by omega);rintro m ⟨c,v⟩ ⟨A,B,U,ag,O,Y,al⟩;simp only at ag O;subst ag;have az:A.length+B.length=P.length:=by rw [Y,List.length_append]
 have am:v[m]? =some x:=by rw [O,List.getElem?_append_right (by omega),U,Nat.sub_self];rfl
 unfold L2;refine Bm (S:=λc=>(c=true/\∃K y,A=K++ [y]/\lt x y=true)∨(c=false/\(A= []∨∃K y,A=K++ [y]/\lt x y=false))) ?_ ?_
 ·refine B2 (λh=>?_) (λh=>?_)
  ·simp only at h;rcases Rw A with rfl | ⟨K,y,rfl⟩
   ·simp at U;omega
   have aq:K.length+1=m:=by simpa using U
   have ac:v[m - 1]? =some y:=by rw [O,List.append_assoc,List.getElem?_append_right (by omega),show m - 1 - K.length=0 by omega];rfl
   refine Bb (FK V am) (Bw ((m - 1:Nat):Int) (by simp only;omega) (by omega) (by omega) ?_);refine Bb (FK V ac) (Bb (ap y (by rw [Y];simp)) ?_);refine Au ?_;cases Z:lt x y with
   | true=>exact .inl ⟨rfl,K,y,rfl,Z⟩
   | false=>exact .inr ⟨rfl,.inr ⟨K,y,rfl,Z⟩⟩
  ·refine Au (.inr ⟨V,.inl ?_⟩);cases A with
   | nil=>rfl
   | cons a A=>simp at U h;omega
 ·rintro c (⟨rfl,K,y,rfl,Z⟩ | ⟨rfl,av⟩)
  ·have aq:K.length+1=m:=by simpa using U
   have ac:v[m - 1]? =some y:=by rw [O,List.append_assoc,List.getElem?_append_right (by omega),show m - 1 - K.length=0 by omega];rfl
   have a0:m<v.length:=by rw [O];simp;omega
   refine BZ V (Bw ((m - 1:Nat):Int) (by simp only;omega) (by omega) (by omega) ?_);refine Bw ((m - 1:Nat):Int) (by simp only;omega) (by omega) (by omega) (Bb (FK V ac) ?_);refine Bb (FK V am) (Ct (m:=m - 1) V (by simp only [List.length_set];omega) ?_);refine Bw ((m - 1:Nat):Int) (by simp only;omega) (by omega) (by omega) (Au ⟨m - 1,by omega,K,y::B,by omega,V,?_,by rw [Y];simp,λb hb=>?_⟩)
   ·simp only;rw [show Int.toNat ((m:Nat):Int)=K.length+1 by omega,show Int.toNat ((m - 1:Nat):Int)=K.length by omega,O];simp
   ·rcases List.mem_cons.1 hb with rfl | hb
    ·exact Z
    ·exact al b hb
  ·exact BQ (by simp) (Au ⟨A,B,Y,O,al,av⟩)
def Gz(a b:DT):Bool:=decide (a.1<b.1∨(a.1=b.1/\(a.2.1<b.2.1∨(a.2.1=b.2.1/\a.2.2<b.2.2))))
theorem Qf{a b:DT}:Gz a b=true↔a.1<b.1∨(a.1=b.1/\(a.2.1<b.2.1∨(a.2.1=b.2.1/\a.2.2<b.2.2))):=by unfold Gz;exact decide_eq_true_iff
theorem Ly{a b:DT}:Gz a b=false↔¬(a.1<b.1∨(a.1=b.1/\(a.2.1<b.2.1∨(a.2.1=b.2.1/\a.2.2<b.2.2)))):=by unfold Gz;exact decide_eq_false_iff_not
theorem YN{F:Nat}{a b:DT}(K:BD a)(hb:BD b):BP (f113 F a b) (λc=>(c<0↔Gz a b=true)/\(c=0↔a=b)):=by
 obtain⟨a1,O,U,Y,Z,ac⟩:=K;obtain⟨ag,al,am,ap,aq,av⟩:=hb;obtain⟨ax,ay,az⟩:=a;obtain⟨a0,a2,a3⟩:=b;simp only at a1 O U Y Z ac ag al am ap aq av;unfold f113;simp only [Qf,Prod.mk.injEq];refine B2 (λh=>?_) (λh=>?_)
 ·exact Bw _ V (by omega) (by omega) (Au ⟨by omega,by omega⟩)
 refine B2 (λaw=>?_) (λaw=>?_)
 ·exact Bw _ V (by omega) (by omega) (Au ⟨by omega,by omega⟩)
 ·exact Bw _ V (by omega) (by omega) (Au ⟨by omega,by omega⟩)
def Gv(x:DT):List DT->List DT
 | []=> [x]
 | y::ys=>if Gz x y=true then x::y::ys else y::Gv x ys
def Ee(l:List DT):List DT:=l.foldl (λa x=>Gv x a) []
def MQ(l:List DT):Prop:=l.Pairwise λa b=>Gz b a=false
theorem PU{x d:DT}:∀{l:List DT},d∈Gv x l↔d=x∨d∈l
 | []=>by simp [Gv]
 | y::ys=>by
  unfold Gv
  split
  ·simp
  ·rw [List.mem_cons,PU,List.mem_cons];constructor
   ·rintro(h | h | h)
    ·exact .inr (.inl h)
    ·exact .inl h
    ·exact .inr (.inr h)
   ·rintro(h | h | h)
    ·exact .inr (.inl h)
    ·exact .inl h
    ·exact .inr (.inr h)
theorem SY{x:DT}:∀{l:List DT},(Gv x l).length=l.length+1
 | []=>rfl
 | y::ys=>by
  unfold Gv
  split
  ·rfl
  ·rw [List.length_cons,SY];rfl
theorem Tx{x:DT}:∀{l:List DT},MQ l->MQ (Gv x l)
 | [],_=>List.pairwise_singleton _ _
 | y::ys,h=>by
  obtain⟨U,Y⟩:=List.pairwise_cons.1 h
  unfold Gv
  split
  ·rename_i O
   refine List.pairwise_cons.2 ⟨λz K=>?_,h⟩;have O:=Qf.1 O;rcases List.mem_cons.1 K with rfl | K
   ·rw [Ly];omega
   ·have:=Ly.1 (U z K);rw [Ly];omega
  ·rename_i O;refine List.pairwise_cons.2 ⟨λz K=>?_,Tx Y⟩;rcases PU.1 K with rfl | K
   ·exact Bool.eq_false_iff.2 O
   ·exact U z K
theorem P6{x:DT}{B:List DT}(K:∀b∈B,Gz x b=true):∀{A:List DT},(∀a∈A,Gz x a=false)->Gv x (A++B)=A++x::B
 | [],_=>by
  cases B with
  | nil=>rfl
  | cons b bs=>simp only [List.nil_append,Gv,K b List.mem_cons_self,if_true]
 | a::A,O=>by
  have U:=O a List.mem_cons_self
  simp only [List.cons_append,Gv,U]
  rw [if_neg (by decide),P6 K λz Y=>O z (List.mem_cons_of_mem _ Y)]
theorem La(l:List DT)(x:DT):Ee (l++ [x])=Gv x (Ee l):=by unfold Ee;rw [List.foldl_append];rfl
theorem NU:∀{k:Nat},k<=10->(3:Int) ^ k<=59049
 | 0,_ | 1,_ | 2,_ | 3,_ | 4,_ | 5,_ | 6,_ | 7,_ | 8,_ | 9,_ | 10,_=>by decide
 | _+11,h=>absurd h (by omega)
theorem NA{α:Type}{P:List α->Prop}(O:P [])(U:∀l x,P l->P (l++ [x])):∀l,P l:=by
 have:∀n (l:List α),l.length=n->P l:=by
  intro n
  induction n with
  | zero=>intro l K;cases List.length_eq_zero_iff.1 K;exact O
  | succ n Y=>
   intro l K;rcases Rw l with rfl | ⟨l',x,rfl⟩
   ·cases K
   ·exact U _ _ (Y _ (by simpa using K))
 exact λl=>this _ l V
theorem SR(l:List DT):MQ (Ee l):=NA (P:=λl=>MQ (Ee l)) List.Pairwise.nil (λl x h=>by rw [La];exact Tx h) l
theorem R8{d:DT}(l:List DT):d∈Ee l↔d∈l:=NA (P:=λl=>d∈Ee l↔d∈l) (Iff.rfl) (λl x h=>by rw [La,PU,h];simp [or_comm]) l
theorem Nl(l:List DT):(Ee l).length=l.length:=NA (P:=λl=>(Ee l).length=l.length) V (λl x h=>by rw [La,SY,h];simp) l
theorem Ww(F:Nat):NJ F 0=L2 λx y=>(f113 F x y).bind λc=>some (decide (c<0)):=by
 funext s;unfold NJ L2;simp only [Option.bind_assoc,Option.bind_some]
theorem RA{A B:List DT}{x y:DT}(O:MQ ((A++ [y])++B))(U:Gz x y=false):∀a∈A++ [y],Gz x a=false:=by
 rw [List.append_assoc] at O;intro a K;rcases List.mem_append.1 K with K | K
 ·have Y:=(List.pairwise_append.1 O).2.2 a K y (by simp);have Z:=Ly.1 Y;have ac:=Ly.1 U;rw [Ly];omega
 ·cases List.mem_singleton.1 K;exact U
theorem YW{F:Nat}{l:List DT}(az:100<F)(a0:l.length<=20)(hb:∀d∈l,BD d):f193 F l 0 (l.length:Int)=some (Ee l):=by
 refine CV ?_;unfold f193;refine Bw 1 V (by omega) (by omega) (Bm (S:=λr=>r=Ee l) ?_ (λr Y=>Au Y));refine C9 (l.length - 1) (λi s=>s.1=((i+1:Nat):Int)/\s.2=Ee (l.take (i+1))++l.drop (i+1)) ⟨V,?_⟩ (by omega) ?_ ?_
 ·cases l with
  | nil=>rfl
  | cons x xs=>rfl
 ·rintro i ⟨c,w⟩ hi ⟨K,hw⟩;simp only at K hw;subst K;have O:i+1<l.length:=by omega
  unfold Ny;refine BZ (by simp only;omega) ?_;have Z:l.drop (i+1)=l[i+1]::l.drop (i+2):=List.drop_eq_getElem_cons O;have a1:(Ee (l.take (i+1))).length=i+1:=by rw [Nl,List.length_take];omega
  have ac:∀d∈Ee (l.take (i+1)),BD d:=λd hd=>hb d (List.mem_of_mem_take ((R8 _).1 hd));have ag:BD l[i+1]:=hb _ (List.getElem_mem O);have al:Ee (l.take (i+2))=Gv l[i+1] (Ee (l.take (i+1))):=by
   rw [List.take_add_one (i:=i+1),List.getElem?_eq_getElem O];exact La _ _
  have am:=SR (l.take (i+1));generalize l[i+1]=x at*;generalize Ee (l.take (i+1))=P at*;generalize l.drop (i+2)=R at*;refine Bm (S:=λr=>r=Gv x P++R) ?_ ?_
  ·rw [Ww,hw,Z];have ap:((i+1:Nat):Int)=(P.length:Int):=by omega
   rw [ap];refine(P0 (lt:=Gz) R (by omega) (by omega) λy U=>?_).M ?_
   ·obtain⟨c,aq,av,_⟩:=YN (F:=F) ag (ac y U);rw [aq,Option.bind_some];congr 1;rw [Bool.eq_iff_iff,decide_eq_true_eq];exact av
   ·rintro r ⟨A,B,rfl,rfl,aw,ay⟩;rw [P6 aw ?_]
    ·simp
    ·rcases ay with rfl | ⟨a2,y,rfl,U⟩
     ·simp
     ·exact RA am U
  ·rintro r rfl;refine Bw ((i+1+1:Nat):Int) (by simp) (by omega) (by omega) (Au ⟨V,?_⟩);simp only;rw [al]
 ·rintro⟨c,w⟩ ⟨K,hw⟩;simp only at K hw;subst K;unfold Ny;refine BQ (by simp only;omega) (Au ⟨_,V,?_⟩);simp only;rw [hw,List.take_of_length_le (by omega),List.drop_eq_nil_of_le (by omega),List.append_nil]
theorem YY{F:Nat}:∀n,n<=12->∃r,f115 F (Dm ((n:Nat):Int))=some r
 | 0,_ | 1,_ | 2,_ | 3,_ | 4,_ | 5,_ | 6,_ | 7,_ | 8,_ | 9,_ | 10,_ | 11,_ | 12,_=>⟨_,rfl⟩
 | _+13,h=>absurd h (by omega)
theorem ZV{F:Nat}{l:List DT}(K:100<F)(O:l.length<=12)(hb:∀d∈l,BD d):f90 F l=some (Ee l):=by
 obtain⟨F,rfl⟩:∃k,F=k+1:=⟨F - 1,by omega⟩;obtain⟨x,U⟩:=YY (F:=F+1) l.length O;refine CV ?_;unfold f90;refine Bb (b:=l) (by unfold f129 MK Cz;rw [if_pos (by simp;omega)];rfl) (Bb (b:=Ee l) ?_ (Au V));refine CV ?_;unfold f130;refine Bb U (Bb (b:=Ee l) ?_ (Au V));refine CV ?_;unfold f169;refine Bm (S:=λr=>r=Sum.inl (Ee l)) ?_ (by rintro r rfl;rw [Sum.elim_inl];exact Au rfl);refine C9 0 (λ_ _=>True) trivial (by omega) (by intro i s h;omega) ?_;rintro s -;unfold P2;refine Bw (l.length:Int) (by omega) (by omega) (by omega) (BZ (by omega) ?_);exact Bb (YW K (by omega) hb) (Au ⟨_,V,V⟩)
def EC(n:Nat)(w:List Int)(S:List PR):Option (List DT):=(Eo n S.length S w []).map Ee
theorem Zo{F:Nat}{o:OW}{S:List PR}(K:100<F)(h:VO o)(O:S.length<=10)(U:∀x∈S,VP o.1.length x):f135 F o S=some (match EC o.1.length (Ce o) S with | none=>([],false) | some r=>(r,true)):=by
 have Y:=h.n5;obtain⟨ac,g2⟩:=QA K h;have Z:(200:Int)*3 ^ S.length<=1000000000000:=by
  have:=NU O;omega
 have e:=S9 (q:=o) K rfl Y S.length F S (Ce o) [] 200 rfl (by omega) O U g2 (by omega) Z (by simp;omega);have e2:f175 F o S=some (match EC o.1.length (Ce o) S with | none=>(true,default) | some r=>(false,r)):=by
  refine CV ?_;unfold f175;refine Bb ac ?_;refine Bb (show f203 F S (Ce o) o []=_ from e) ?_;unfold EC;rcases hg:Eo o.1.length S.length S (Ce o) [] with _ | r
  ·exact BZ V (Au V)
  ·refine BQ (by simp [MM]) ?_;obtain⟨k1,ag⟩:=Ns Y S.length S (Ce o) [] r 200 rfl U g2 (by omega) Z (by simp) hg;exact Bb (ZV K (by show r.length<=12;rw [ag];simp;omega) k1) (Au V)
 unfold f135;rw [e2,Option.bind_some];rcases EC o.1.length (Ce o) S with _ | r
 ·rfl
 ·rfl
def C5:Nat->List PR->List (List PR)
 | 0,_=> [[]]
 | _+1,[]=> []
 | m+1,x::xs=>(C5 m xs).map (x::·)++C5 (m+1) xs
theorem Mj:∀(m:Nat) (l:List PR),(C5 m l).length<=2 ^ l.length
 | 0,l=>by simp only [C5,List.length_singleton];exact Nat.one_le_two_pow
 | m+1,[]=>by simp [C5]
 | m+1,x::xs=>by
  have K:=Mj m xs;have O:=Mj (m+1) xs
  simp only [C5,List.length_append,List.length_map,List.length_cons]
  rw [Nat.pow_succ];omega
theorem Kx{x:PR}:∀{m:Nat} {l c:List PR},c∈C5 m l->c.length=m/\(x∈c->x∈l)
 | 0,l,c,h=>by rw [show C5 0 l= [[]] by cases l <;> rfl] at h;cases List.mem_singleton.1 h;exact⟨rfl,λh=>by cases h⟩
 | m+1,[],c,h=>by cases h
 | m+1,y::ys,c,h=>by
  rcases List.mem_append.1 h with h | h
  ·obtain⟨U,O,rfl⟩:=List.mem_map.1 h
   have:=Kx (x:=x) O;exact⟨by rw [List.length_cons,this.1],λK=>by
    rcases List.mem_cons.1 K with rfl | K
    ·exact List.mem_cons_self
    ·exact List.mem_cons_of_mem _ (this.2 K)⟩
  ·have:=Kx (x:=x) h;exact⟨this.1,λK=>List.mem_cons_of_mem _ (this.2 K)⟩
def Dd(n:Nat)(w:List Int)(P:PR->Bool)(m:Nat)(l ys:List PR):List (List DT):=(C5 m (ys.filter P)).filterMap λc=>EC n w (l++c)
theorem SU{n:Nat}{w:List Int}{P:PR->Bool}{m:Nat}{l ys:List PR}:(Dd n w P m l ys).length<=2 ^ ys.length:=by
 unfold Dd;refine Nat.le_trans (List.length_filterMap_le _ _) (Nat.le_trans (Mj _ _) ?_);exact Nat.pow_le_pow_right (by decide) (List.length_filter_le _ _)
theorem Wz{n:Nat}{w:List Int}{P:PR->Bool}{m:Nat}{l xs:List PR}{x:PR}(h:P x=false):Dd n w P m l (x::xs)=Dd n w P m l xs:=by unfold Dd;rw [List.filter_cons_of_neg (by simp [h])]
theorem WX{n:Nat}{w:List Int}{P:PR->Bool}{m:Nat}{l xs:List PR}{x:PR}(h:P x=true):Dd n w P (m+1) l (x::xs)=Dd n w P m (l++ [x]) xs++Dd n w P (m+1) l xs:=by
 unfold Dd;rw [List.filter_cons_of_pos h,C5,List.filterMap_append,List.filterMap_map];congr 2;funext c;simp
theorem TB{F:Nat}{o:OW}{ag m:Nat}{K:List PR}{P:PR->Bool}(al:100<F)(h:VO o)(hm:m<=5)(aw:K.length<=10)(am:∀x∈K,VP o.1.length x)(ap:∀x,VP o.1.length x->f136 F ag x.1 x.2=some (!P x)):
  ∀(k N:Nat) (l:List PR) (i:Nat) (b:List (List DT)),l.length+k=m->k<N->i<=K.length->(∀x∈l,VP o.1.length x)->b.length+2 ^ (K.length - i)<=1000000->
   LA N F l (i:Int) (m:Int) o K ag b=some (true,b++Dd o.1.length (Ce o) P k l (K.drop i))
 | 0,N,l,i,b,ay,az,hi,ac,hb=>by
  obtain⟨N,rfl⟩:∃k,N=k+1:=⟨N - 1,by omega⟩
  have a5:1<=2 ^ (K.length - i):=Nat.one_le_two_pow
  refine CV ?_
  simp only [LA]
  unfold Mz
  refine BZ (by omega) ?_
  refine Bb (Zo al h (by omega) ac) ?_
  refine Bm (S:=λr=>r=(true,b++Dd o.1.length (Ce o) P 0 l (K.drop i))) ?_ (λr a0=>Au a0)
  have e:Dd o.1.length (Ce o) P 0 l (K.drop i)=(EC o.1.length (Ce o) l).toList:=by
   unfold Dd;simp only [C5,List.filterMap_cons,List.append_nil,List.filterMap_nil];cases EC o.1.length (Ce o) l <;> rfl
  rw [e];rcases EC o.1.length (Ce o) l with _ | r
  ·exact BZ V (Au (by simp))
  ·exact BQ (by simp) (JY (by omega) (Au V))
 | k+1,N,l,i,b,ay,az,hi,ac,hb=>by
  obtain⟨N,rfl⟩:∃k,N=k+1:=⟨N - 1,by omega⟩;refine CV ?_;simp only [LA];unfold Mz;refine BQ (by omega) (Bm (S:=λr=>r=Sum.inr (b++Dd o.1.length (Ce o) P (k+1) l (K.drop i))) ?_ (by rintro r rfl;rw [Sum.elim_inr];exact Au rfl));refine Nt (λz s=>∃j,z=K.length - j/\j<=K.length/\s.2=((j:Nat):Int)/\s.1++Dd o.1.length (Ce o) P (k+1) l (K.drop j)=b++Dd o.1.length (Ce o) P (k+1) l (K.drop i)/\s.1.length+2 ^ (K.length - j)<=1000000) ?_ (m:=K.length - i) ⟨i,V,hi,V,V,hb⟩ (by omega);rintro z ⟨acc,c⟩ ⟨j,rfl,a6,aq,he,hlen⟩;simp only at aq he hlen;subst aq;unfold PZ;refine B2 (λa1=>?_) (λa2=>?_)
  ·simp only at a1;have O:j<K.length:=by omega
   have hd:K.drop j=K[j]::K.drop (j+1):=List.drop_eq_getElem_cons O;have av:=am _ (List.getElem_mem O);have a7:2 ^ (K.length - j)=2 ^ (K.length - (j+1))+2 ^ (K.length - (j+1)):=by
    rw [show K.length - j=K.length - (j+1)+1 by omega,Nat.pow_succ];omega
   have a8:0<2 ^ (K.length - (j+1)):=Nat.two_pow_pos _;refine Bm (S:=λr=>∃Y,r=Sum.inr Y/\Y++Dd o.1.length (Ce o) P (k+1) l (K.drop (j+1))=acc++Dd o.1.length (Ce o) P (k+1) l (K.drop j)/\Y.length+2 ^ (K.length - (j+1))<=1000000) ?_ ?_
   ·refine Ct (m:=j) V O (Ct (m:=j) V O ?_);refine Bb (ap _ av) ?_;by_cases Z:P K[j]=true
    ·refine BQ (by simp [Z]) ?_;refine Ct (m:=j) V O ?_;refine Bw ((j+1:Nat):Int) (by simp) (by omega) (by omega) ?_;refine BP.Kn (by simp;omega) ?_;refine Bb (TB al h hm aw am ap k N (l++ [K[j]]) (j+1) acc (by simp;omega) (by omega) (by omega) (λx U=>by
      rcases List.mem_append.1 U with U | U
      ·exact ac x U
      ·cases List.mem_singleton.1 U;exact av) (by omega)) ?_
     refine BQ (by simp) (Au ⟨_,V,?_,?_⟩)
     ·rw [hd,WX Z,List.append_assoc]
     ·have:=SU (n:=o.1.length) (w:=Ce o) (P:=P) (m:=k) (l:=l++ [K[j]]) (ys:=K.drop (j+1));rw [List.length_drop] at this;rw [List.length_append];omega
    ·refine BZ (by simp [Z]) (Au ⟨_,V,?_,by simp only;omega⟩);rw [hd,Wz (Bool.eq_false_iff.2 Z)]
   ·rintro r ⟨Y,rfl,a3,a4⟩;rw [Sum.elim_inr];exact Bw ((j+1:Nat):Int) (by simp) (by omega) (by omega) (Au ⟨K.length - (j+1),by omega,j+1,V,by omega,V,a3.trans he,a4⟩)
  ·simp only at a2;refine Au ?_;have:K.drop j= []:=List.drop_eq_nil_of_le (by omega);rw [this] at he;show Sum.inr _=_;rw [← he];unfold Dd;simp [C5]
def FW(n:Nat)(w:List Int)(P:PR->Bool):List (List DT):=(((List.range n).map λm=>Dd n w P m [] (DU n)).find? λl=> !l.isEmpty).getD []
theorem Um{F O:Nat}{o:OW}{P:PR->Bool}(Y:100<F)(h:VO o)(ag:∀x,VP o.1.length x->f136 F O x.1 x.2=some (!P x)):f71 F o O=some (FW o.1.length (Ce o) P):=by
 have Z:=h.n5;have al:=Pv Z;refine CV ?_;unfold f71;have am:∀m,m<=5->f132 F o ((m:Nat):Int) O []=some (Dd o.1.length (Ce o) P m [] (DU o.1.length)):=by
  intro m hm;refine CV ?_;unfold f132;refine Bb (Yu Y Z) ?_;have ap:2 ^ ((DU o.1.length).length - 0)<=2 ^ 10:=Nat.pow_le_pow_right (by decide) (by omega);exact Bb (show f134 F [] 0 (m:Int) o (DU o.1.length) O []=_ from TB Y h hm al (λx aq=>Ms aq) ag m F [] 0 [] (by simp) (by omega) (by omega) (by simp) (by simp at ap ⊢;omega)) (Au (by simp))
 refine C9 o.1.length (λi s=>s=(i:Int)/\∀j,j<i->Dd o.1.length (Ce o) P j [] (DU o.1.length)= []) ⟨V,by simp⟩ (by omega) ?_ ?_
 ·rintro i s hi ⟨rfl,U⟩;unfold OF;refine BZ (by omega) (Bb (am i (by omega)) ?_);refine B2 (λac=>Au ?_) (λaw=>?_)
  ·show _=_;unfold FW;rw [List.find?_map,show(List.range o.1.length).find? _=some i from List.find?_range_eq_some.2 ⟨?_,List.mem_range.2 hi,λj K=>?_⟩]
   ·rfl
   ·simp only [Function.comp];cases av:Dd o.1.length (Ce o) P i [] (DU o.1.length) with
    | nil=>rw [av] at ac;simp at ac
    | cons=>rfl
   ·simp only [Function.comp];rw [U j K];rfl
  ·refine Bw ((i+1:Nat):Int) (by simp) (by omega) (by omega) (Au ⟨V,λj K=>?_⟩);rcases Nat.lt_succ_iff_lt_or_eq.1 K with K | rfl
   ·exact U j K
   ·exact List.length_eq_zero_iff.1 (by omega)
 ·rintro s ⟨rfl,U⟩;unfold OF;refine BQ (by omega) (Au ⟨_,V,?_⟩);unfold FW;rw [List.find?_map,show(List.range o.1.length).find? _=none from List.find?_eq_none.2 ?_]
  ·rfl
  ·intro j K;simp only [Function.comp];rw [U j (List.mem_range.1 K)];simp
theorem Zt{F n:Nat}(U:n<=5)(x:PR)(K:VP n x):f136 F 0 x.1 x.2=some (!(λ_=>true) x):=by
 obtain⟨Y,Z,ac⟩:=K;obtain⟨a,O⟩:∃a:Nat,x.1=(a:Int):=⟨x.1.toNat,by omega⟩;obtain⟨b,hb⟩:∃b:Nat,x.2=(b:Int):=⟨x.2.toNat,by omega⟩;rw [O,hb];have:b<=4:=by omega
 have:a<b:=by omega
 match a,b with
 | 0,1 | 0,2 | 0,3 | 0,4 | 1,2 | 1,3 | 1,4 | 2,3 | 2,4 | 3,4=>rfl
 | 0,0=>omega
 | a+1,0=>omega
 | a+1,1=>omega
 | a+2,2=>omega
 | a+3,3=>omega
 | a+4,4=>omega
 | a,b+5=>omega
abbrev Kk(o:OW):List (List DT):=FW o.1.length (Ce o) λ_=>true
theorem cC{F:Nat}{o:OW}(K:100<F)(h:VO o):f71 F o 0=some (Kk o):=Um K h λx O=>Zt h.n5 x O
theorem XX{n:Nat}{w:List Int}{P:PR->Bool}{m:Nat}{s:List DT}(O:n<=5)(hm:m<=5)(hw:BN 200 w)(hs:s∈Dd n w P m [] (DU n)):s.length=m/\∀d∈s,BD d:=by
 unfold Dd at hs;obtain⟨c,K,hs⟩:=List.mem_filterMap.1 hs;rw [List.nil_append] at hs;unfold EC at hs;obtain⟨r,U,rfl⟩:=Option.map_eq_some_iff.1 hs;have Y:=(Kx (x:=(0,0)) K).1;have Z:∀x∈c,VP n x:=λx ac=>Ms (List.mem_filter.1 ((Kx K).2 ac)).1;have ag:(200:Int)*3 ^ c.length<=1000000000000:=by
  have:=NU (k:=c.length) (by omega);omega
 obtain⟨k1,al⟩:=Ns O c.length c w [] r 200 rfl Z hw (by omega) ag (by simp) U;refine⟨by rw [Nl,al,Y];simp,λd hd=>k1 d ((R8 _).1 hd)⟩
theorem To{n:Nat}{w:List Int}{P:PR->Bool}:FW n w P= []∨∃m,m<n/\FW n w P=Dd n w P m [] (DU n)/\(∀j,j<m->Dd n w P j [] (DU n)= []):=by
 unfold FW;rw [List.find?_map];rcases h:(List.range n).find? ((λl:List (List DT)=> !l.isEmpty)∘λm=>Dd n w P m [] (DU n)) with _ | m
 ·exact .inl V
 ·obtain⟨Y,K,O⟩:=List.find?_range_eq_some.1 h;refine .inr ⟨m,List.mem_range.1 K,V,λj U=>?_⟩;have:=O j U;simpa using this
theorem ZR{n:Nat}{w:List Int}{P:PR->Bool}(K:n<=5)(hw:BN 200 w):(FW n w P).length<=1024/\∃m,m<=5/\∀s∈FW n w P,s.length=m/\∀d∈s,BD d:=by
 rcases To (n:=n) (w:=w) (P:=P) with h | ⟨m,hm,h,_⟩
 ·rw [h];exact⟨by simp,0,by omega,by simp⟩
 ·rw [h];refine⟨?_,m,by omega,λs hs=>XX K (by omega) hw hs⟩;exact Nat.le_trans SU (Nat.le_trans (Nat.pow_le_pow_right (by decide) (Pv K)) (by decide))
def JH:List DT->List DT->Bool
 | [],[]=>false
 | [],_::_=>true
 | _::_,[]=>false
 | x::xs,y::ys=>if x=y then JH xs ys else Gz x y
theorem SN{a b:List DT}:∀{i:Nat},i<=a.length->i<=b.length->a.take i=b.take i->JH a b=JH (a.drop i) (b.drop i):=by
 induction a generalizing b with
 | nil=>intro i K _ _;simp at K;subst K;simp
 | cons x xs U=>
  intro i K O h;cases i with
  | zero=>simp
  | succ i=>
   cases b with
   | nil=>simp at O
   | cons y ys=>
    simp only [List.take_succ_cons,List.cons.injEq] at h;simp only [List.drop_succ_cons];rw [JH,if_pos h.1];exact U (by simpa using K) (by simpa using O) h.2
def Zb(n:Nat)(w:List Int):Prop:=∀j,n<=j->gN w j=0
theorem Jt{w:List Int}{n:Nat}{i:Int}{B:Int}(hb:BN B w)(K:n<=5)(O:0<=i)(hi:i<n):ix (w.take n) i=some (gN w i.toNat):=by
 have U:=hb.1;have:i.toNat<(w.take n).length:=by rw [List.length_take];omega
 refine FK (m:=i.toNat) (by omega) ?_;rw [List.getElem?_eq_getElem this,List.getElem_take,MD (by omega)]
theorem Od{w:List Int}{i j:Nat}{v:Int}(h:i≠j):gN (w.set i v) j=gN w j:=by
 unfold gN;rw [List.getD_eq_getElem?_getD,List.getElem?_set_ne h,List.getD_eq_getElem?_getD]
theorem Xj{w:List Int}{d:DT}{n:Nat}(O:0<=d.1)(U:0<=d.2.1)(Y:d.1≠d.2.1):(KS w d).take n=((w.take n).set d.1.toNat (gN w d.1.toNat - d.2.2)).set d.2.1.toNat (gN w d.2.1.toNat+d.2.2):=by
 unfold KS IJ;have K:d.2.1.toNat≠d.1.toNat:=by omega
 rw [Od K,List.take_set,List.take_set,List.set_comm _ _ K,Int.sub_eq_add_neg]
theorem Zb.add{n:Nat}{w:List Int}{i v:Int}(h:Zb n w)(hi:i<n)(O:0<=i):Zb n (IJ w i v):=λj K=>by
 unfold IJ
 rw [Od (by omega)]
 exact h j K
theorem Zb.zero(n:Nat):Zb n (List.replicate 5 0):=λj _=>by
 unfold gN
 rw [List.getD_eq_getElem?_getD,List.getElem?_replicate]
 split <;> rfl
theorem YF{o:OW}(h:VO o):Zb o.1.length (Ce o):=by
 have:∀(ds:List DT) (w:List Int),Zb o.1.length w->(∀d∈ds,VD o.1.length d)->Zb o.1.length (ds.foldl KS w):=by
  intro ds
  induction ds with
  | nil=>exact λw hw _=>hw
  | cons d ds K=>
   intro w hw hd;obtain⟨v1,v2,O,v4,_⟩:=hd d List.mem_cons_self;exact K _ ((hw.add v4 O).add v2 v1) λx U=>hd x (List.mem_cons_of_mem _ U)
 exact this _ _ (Zb.zero _) h.ds
theorem ba{F:Nat}{o:OW}(ag:100<F)(h:VO o):f89 F o=some ((Ce o).take o.1.length):=by
 have O:=h.n5;have al:=h.d8;refine CV ?_;unfold f89;refine Bb (b:=List.replicate o.1.length 0) ?_ ?_
 ·unfold I5;rw [if_pos (by omega)];rfl
 refine Bm (S:=λr=>r=(Ce o).take o.1.length) ?_ (λr U=>Au U);refine C9 o.2.length (λi s=>s.2=(i:Int)/\∃w,s.1=w.take o.1.length/\w=(o.2.take i).foldl KS (List.replicate 5 0)/\BN (20*i) w) ⟨rfl,List.replicate 5 0,by rw [List.take_replicate,Nat.min_eq_left O],rfl,rfl,by simp⟩ (by omega) ?_ ?_
 ·rintro i ⟨s,c⟩ hi ⟨K,w,hs,hw,hb⟩;simp only at K hs;subst K;subst hs;obtain⟨v1,v2,Y,v4,Z,v6,am⟩:=h.ds _ (List.getElem_mem hi);have ac:=hb.add (i:=o.2[i].2.1) (v:=o.2[i].2.2) (V:=10) (by omega) (by omega) (by omega) (by omega);have g2:=ac.add (i:=o.2[i].1) (v:= -o.2[i].2.2) (V:=10) (by omega) (by omega) (by omega) (by omega);have k1:=hb.bd (i:=o.2[i].2.1.toNat) (by omega);have ap:=hb.bd (i:=o.2[i].1.toNat) (by omega);unfold Oc;refine BZ (by simp only;omega) (Ct (m:=i) rfl hi ?_);refine Bb (Jt hb O (by omega) (by omega)) (Bb (Jt hb O (by omega) (by omega)) ?_);refine Bw _ rfl (by omega) (by omega) (Bb (Jt hb O (by omega) (by omega)) ?_);refine Bw _ rfl (by omega) (by omega) (Bw ((i+1:Nat):Int) (by simp) (by omega) (by omega) ?_);refine Au ⟨rfl,KS w o.2[i],(Xj v1 Y Z).symm,?_,g2.M (by omega)⟩;rw [List.take_add_one,List.getElem?_eq_getElem hi,List.foldl_append,← hw]
  rfl
 ·rintro⟨s,c⟩ ⟨K,w,hs,hw,hb⟩;simp only at K hs;subst K;unfold Oc;rw [List.take_length] at hw;exact BQ (by simp) (Au ⟨_,rfl,by simp only;rw [hs,hw];rfl⟩)
def Hk(a k:Nat):List PR:=(List.range k).map λt:Nat=>((a:Int),((a+1+t:Nat):Int))
def Hj(n k:Nat):List PR:=(List.range k).flatMap λa=>Hk a (n - a - 1)
theorem WH(a k:Nat):Hk a (k+1)=Hk a k++ [((a:Int),((a+1+k:Nat):Int))]:=by unfold Hk;rw [List.range_succ,List.map_append];rfl
theorem WM(n k:Nat):Hj n (k+1)=Hj n k++Hk k (n - k - 1):=by unfold Hj;rw [List.range_succ,List.flatMap_append];simp
theorem PN{n:Nat}(h:n<=5):(Hj n n).Perm (DU n):=by
 match n,h with
 | 0,_ | 1,_ | 2,_ | 3,_ | 4,_ | 5,_=>decide
def DJ(p:PR)(x:PR):Bool:=decide (x≠p)
theorem YO{F n:Nat}{p:PR}(al:100<F)(am:n<=5):f171 F (n:Int) p=some ((Hj n n).filter (DJ p)):=by
 refine CV ?_;unfold f171;refine Bm (S:=λr=>r=(Hj n n).filter (DJ p)) ?_ (λr U=>Au U);refine C9 n (λi s=>s.2=(i:Int)/\s.1=(Hj n i).filter (DJ p)/\s.1.length<=10*i) ⟨V,V,by simp⟩ (by omega) ?_ ?_
 ·rintro a ⟨w,c⟩ ap ⟨K,hw,Y⟩;simp only at K hw Y;subst K;unfold NY;refine BZ (by simp only;omega) (Bw ((a+1:Nat):Int) (by simp) (by omega) (by omega) ?_);refine Bm (S:=λr=>r=w++(Hk a (n - a - 1)).filter (DJ p)) ?_ ?_
  ·refine C9 (n - a - 1) (λt s=>s.2=((a+1+t:Nat):Int)/\s.1=w++(Hk a t).filter (DJ p)/\s.1.length<=w.length+t) ⟨V,by simp [Hk],by simp⟩ (by omega) ?_ ?_
   ·rintro t ⟨v,c⟩ ht ⟨K,O,ac⟩;simp only at K O ac;subst K;unfold NO;refine BZ (by simp only;omega) ?_;have Z:(Hk a (t+1)).filter (DJ p)=(Hk a t).filter (DJ p)++(if DJ p ((a:Int),((a+1+t:Nat):Int))=true then [((a:Int),((a+1+t:Nat):Int))] else []):=by
     rw [WH,List.filter_append,List.filter_cons];rfl
    refine Bm (S:=λr=>r=w++(Hk a (t+1)).filter (DJ p)/\r.length<=w.length+(t+1)) ?_ ?_
    ·have hb:DJ p ((a:Int),((a+1+t:Nat):Int))=true↔¬(p.1=(a:Int)/\p.2=((a+1+t:Nat):Int)):=by
      obtain⟨p1,p2⟩:=p;unfold DJ;simp only [ne_eq,decide_not,Bool.not_eq_true',decide_eq_false_iff_not,Prod.mk.injEq];constructor
      ·rintro h ⟨rfl,rfl⟩;exact h ⟨V,V⟩
      ·rintro h ⟨rfl,rfl⟩;exact h ⟨V,V⟩
     refine B2 (λh=>?_) (λh=>?_)
     ·refine JY (by simp only;omega) (Au ⟨?_,by simp;omega⟩);simp only;rw [Z,if_pos (hb.2 h),← List.append_assoc,← O]
     ·refine Au ⟨?_,by simp only;omega⟩;simp only;rw [Z,if_neg (λk=>h (hb.1 k)),List.append_nil,← O]
    ·rintro r ⟨U,ag⟩;exact Bw ((a+1+(t+1):Nat):Int) (by simp only;omega) (by omega) (by omega) (Au ⟨V,U,ag⟩)
   ·rintro⟨v,c⟩ ⟨K,O,_⟩;simp only at K O;subst K;unfold NO;exact BQ (by simp only;omega) (Au ⟨_,V,O⟩)
  ·rintro r rfl;refine Bw ((a+1:Nat):Int) (by simp) (by omega) (by omega) (Au ⟨V,?_,?_⟩)
   ·simp only;rw [WM,List.filter_append,← hw]
   ·have:=List.length_filter_le (DJ p) (Hk a (n - a - 1));have aq:(Hk a (n - a - 1)).length=n - a - 1:=by unfold Hk;simp
    simp only [List.length_append];omega
 ·rintro⟨w,c⟩ ⟨K,hw,Y⟩;simp only at K hw Y;subst K;unfold NY;exact BQ (by simp) (Au ⟨_,V,hw⟩)
theorem V6(m:Nat):C5 (m+1) []= []:=rfl
theorem Tm{F:Nat}(ac:2000<F):∀(m N:Nat) (l:List PR),m<N->m<=10->l.length<=10->LC N F l (m:Int)=some (C5 m l)
 | 0,N,l,ag,_,_=>by
  obtain⟨N,rfl⟩:∃k,N=k+1:=⟨N - 1,by omega⟩
  simp only [LC]
  unfold MB
  rw [if_pos (show((0:Nat):Int)=0 from rfl)]
  cases l <;> rfl
 | m+1,N,l,ag,hm,al=>by
  obtain⟨N,rfl⟩:∃k,N=k+1:=⟨N - 1,by omega⟩
  refine CV ?_
  simp only [LC]
  unfold MB
  refine BQ (by omega) ?_
  have am:∀k,k<=10->2 ^ k<=1024:=λk Y=>Nat.le_trans (Nat.pow_le_pow_right (by decide) Y) (by decide)
  have Z:∀(m:Nat) (xs:List PR),xs.length<=10->(C5 m xs).length<=1024:=λm xs h=>Nat.le_trans (Mj m xs) (am _ h)
  refine Bm (S:=λr=>r=C5 (m+1) l) ?_ (λr ap=>Au ap)
  refine C9 l.length (λi s=>s.2=(i:Int)/\s.1++C5 (m+1) (l.drop i)=C5 (m+1) l) ⟨V,by simp⟩ (by omega) ?_ ?_
  ·rintro i ⟨acc,c⟩ hi ⟨K,O⟩
   simp only at K O;subst K;have hd:l.drop i=l[i]::l.drop (i+1):=List.drop_eq_getElem_cons hi;have aw:acc.length<=1024:=by
    have:=congrArg List.length O;rw [List.length_append] at this;have:=Z (m+1) l al;omega
   unfold NG;refine BZ (by simp only;omega) (Bw ((i+1:Nat):Int) (by simp) (by omega) (by omega) ?_);refine Bb (b:=l.drop (i+1)) ?_ ?_
   ·unfold Fy;rw [if_pos (by omega),show Int.toNat (l.length:Int)=l.length by omega,List.take_length,show Int.toNat ((i+1:Nat):Int)=i+1 by omega]
   refine Bw (m:Int) (by omega) (by omega) (by omega) (Bb (Tm ac m N _ (by omega) (by omega) (by rw [List.length_drop];omega)) ?_);have ay:=Z m (l.drop (i+1)) (by rw [List.length_drop];omega);have aq:∀c∈C5 m (l.drop (i+1)),c.length=m:=λc K=>(Kx (x:=(0,0)) K).1;have av:C5 (m+1) (l.drop i)=(C5 m (l.drop (i+1))).map (l[i]::·)++C5 (m+1) (l.drop (i+1)):=by rw [hd];rfl
   generalize C5 m (l.drop (i+1))=R at*;refine Bm (S:=λr=>r=acc++R.map (l[i]::·)) ?_ ?_
   ·refine C9 R.length (λk s=>s.2=(k:Int)/\s.1=acc++(R.take k).map (l[i]::·)) ⟨V,by simp⟩ (by omega) ?_ ?_
    ·rintro k ⟨v,c⟩ Y ⟨K,U⟩;simp only at K U;subst K;have az:=aq _ (List.getElem_mem Y);unfold Nv;refine BZ (by simp only;omega) (Ct (m:=i) V hi ?_);refine Ct (m:=k) V Y (BP.Kn (by simp;omega) ?_);have a0:v.length<=2048:=by rw [U];simp;omega
     refine Bb (b:=v++ [[l[i]]++R[k]]) (by unfold Cz;rw [if_pos (by simp;omega)]) (Bw ((k+1:Nat):Int) (by simp) (by omega) (by omega) ?_);refine Au ⟨V,?_⟩;simp only;rw [List.take_add_one,List.getElem?_eq_getElem Y,List.map_append,← List.append_assoc,← U]
     rfl
    ·rintro⟨v,c⟩ ⟨K,U⟩;simp only at K U;subst K;unfold Nv;rw [List.take_length] at U;exact BQ (by simp) (Au ⟨_,V,U⟩)
   ·rintro r rfl;refine Bw ((i+1:Nat):Int) (by simp) (by omega) (by omega) (Au ⟨V,?_⟩);simp only;rw [List.append_assoc,← av];exact O
  ·rintro⟨acc,c⟩ ⟨K,O⟩;simp only at K O;subst K;unfold NG;rw [List.drop_length,V6,List.append_nil] at O;exact BQ (by simp) (Au ⟨_,V,O⟩)
theorem Pw{α:Type}{l:List α}{i:Nat}(h:i<l.length):(l[i]::l.eraseIdx i).Perm l:=by
 rw [List.eraseIdx_eq_take_drop_succ];refine List.perm_middle.symm.trans ?_;rw [← List.drop_eq_getElem_cons h,List.take_append_drop]
theorem RP(n:Nat):∀(k:Nat) {l l':List PR} (w:List Int) (out:List DT),l.Perm l'->Eo n k l w out=Eo n k l' w out
 | 0,l,l',w,out,_=>rfl
 | k+1,l,l',w,out,h=>by
  have Z:F9 n l=F9 n l':=by
   unfold F9;congr 1;funext p;rw [h.countP_eq]
  unfold Eo;rw [Z];cases Y:F9 n l' with
  | none=>rfl
  | some p=>
   simp only [Option.bind_some];split
   ·rfl
   have ac:l'.countP (A3 p)=1:=by
    unfold F9 at Y;obtain⟨c1,_,_⟩:=List.find?_range_eq_some.1 Y;simpa using c1
   have ag:l.countP (A3 p)=1:=h.countP_eq _▸ac;have O:l.findIdx (A3 p)<l.length:=by
    obtain⟨x,K,ht⟩:=List.countP_pos_iff.1 (show 0<l.countP (A3 p) by omega);exact List.findIdx_lt_length_of_exists ⟨x,K,ht⟩
   have U:l'.findIdx (A3 p)<l'.length:=by
    obtain⟨x,K,ht⟩:=List.countP_pos_iff.1 (show 0<l'.countP (A3 p) by omega);exact List.findIdx_lt_length_of_exists ⟨x,K,ht⟩
   have t1:A3 p l[l.findIdx (A3 p)]=true:=List.findIdx_getElem;have t2:A3 p l'[l'.findIdx (A3 p)]=true:=List.findIdx_getElem;have al:∀{m:List PR},m.countP (A3 p)=1->∀x∈m,A3 p x=true->∀y∈m,A3 p y=true->x=y:=by
    intro m hm x K am y ap ty;have aq:m.filter (A3 p)= [x]:=by
     have av:(m.filter (A3 p)).length=1:=by rw [← List.countP_eq_length_filter];exact hm
     obtain⟨z,aw⟩:=List.length_eq_one_iff.1 av;have:x∈m.filter (A3 p):=List.mem_filter.2 ⟨K,am⟩;rw [aw] at this ⊢;rw [List.mem_singleton.1 this]
    have:y∈m.filter (A3 p):=List.mem_filter.2 ⟨ap,ty⟩;rw [aq] at this;exact(List.mem_singleton.1 this).symm
   have e:l[l.findIdx (A3 p)]=l'[l'.findIdx (A3 p)]:=al ag _ (List.getElem_mem O) t1 _ (h.mem_iff.2 (List.getElem_mem U)) t2;rw [Lh O,Lh U,e];refine RP n k _ _ ?_;have p1:(l[l.findIdx (A3 p)]::l.eraseIdx (l.findIdx (A3 p))).Perm l:=Pw O;have p2:(l'[l'.findIdx (A3 p)]::l'.eraseIdx (l'.findIdx (A3 p))).Perm l':=Pw U;rw [e] at p1;exact List.Perm.cons_inv ((p1.trans h).trans p2.symm)
theorem Wo{n:Nat}{w:List Int}{S S':List PR}(h:S.Perm S'):EC n w S=EC n w S':=by
 unfold EC;rw [h.length_eq,RP n _ w [] h]
theorem VB{β:Type}:∀{l l':List PR},l.Perm l'->∀(m:Nat) (f:List PR->Option β),(∀a b,a.Perm b->f a=f b)->((C5 m l).filterMap f).Perm ((C5 m l').filterMap f):=by
 intro l l' h
 induction h with
 | nil=>intro m f _;exact List.Perm.refl _
 | cons x h O=>
  intro m f K;cases m with
  | zero=>exact List.Perm.refl _
  | succ m=>
   simp only [C5,List.filterMap_append,List.filterMap_map];exact(O m _ λa b U=>K _ _ (U.cons x)).append (O (m+1) f K)
 | swap x y l=>
  intro m f K;cases m with
  | zero=>exact List.Perm.refl _
  | succ m=>
   cases m with
   | zero=>
    have e:∀z:List PR,C5 0 z= [[]]:=λz=>by cases z <;> rfl
    simp only [C5,e,List.filterMap_append,List.filterMap_map,List.map_cons,List.map_nil,← List.append_assoc];exact List.Perm.append_right _ List.perm_append_comm
   | succ m=>
    simp only [C5,List.filterMap_append,List.filterMap_map,List.map_append,List.map_map,List.append_assoc];have e:((C5 m l).filterMap (f∘((y::·)∘(x::·))))=((C5 m l).filterMap (f∘((x::·)∘(y::·)))):=by
     congr 1;funext c;exact K _ _ (List.Perm.swap x y c)
    rw [e];refine List.Perm.append_left _ ?_;rw [← List.append_assoc,← List.append_assoc];exact List.Perm.append_right _ List.perm_append_comm
 | trans ac ag Y Z=>intro m f K;exact(Y m f K).trans (Z m f K)
theorem Tz(F:Nat)(a b:DT):f202 F a b=some (Gz a b):=by
 refine CV ?_;unfold f202;refine Bm (S:=λc=>c=Gz a b) ?_ (λc K=>Au K);have key:∀c:Bool,(c=true↔a.1<b.1∨(a.1=b.1/\(a.2.1<b.2.1∨(a.2.1=b.2.1/\a.2.2<b.2.2))))->c=Gz a b:=λc K=>by
  rw [Bool.eq_iff_iff,K,Qf]
 refine B2 (λh=>Au (key _ (by simp;omega))) (λh=>?_);refine B2 (λO=>?_) (λO=>Au (key _ (by simp;omega)));refine B2 (λU=>Au (key _ (by simp;omega))) (λU=>?_);refine B2 (λY=>Au (key _ (by simp;omega))) (λY=>Au (key _ (by simp;omega)))
theorem WQ(F:Nat):Qi F=L2 (f202 F):=rfl
theorem WK(F:Nat):Qb F=L2 (f173 F):=rfl
theorem Y9{F:Nat}{a b:List DT}(Y:100<F)(K:a.length=b.length)(Z:a.length<=40):f173 F a b=some (JH a b):=by
 refine CV ?_;unfold f173;refine Bm (S:=λr=>r=Sum.inl (JH a b)∨(r=Sum.inr ()/\JH a b=false)) ?_ ?_
 ·refine C9 a.length (λi s=>s=(i:Int)/\a.take i=b.take i) ⟨V,by simp⟩ (by omega) ?_ ?_
  ·rintro i s hi ⟨rfl,he⟩;have hb:i<b.length:=by omega
   have O:a.drop i=a[i]::a.drop (i+1):=List.drop_eq_getElem_cons hi;have U:b.drop i=b[i]::b.drop (i+1):=List.drop_eq_getElem_cons hb;unfold NW;refine BZ (by omega) ?_;refine Ct (m:=i) V hi ?_;refine Ct (m:=i) V hb ?_;refine B2 (λh=>?_) (λh=>?_)
   ·refine Ct (m:=i) V hi (Ct (m:=i) V hb ?_);refine Bb (Tz _ _ _) (Au (.inl ?_));rw [SN (i:=i) (by omega) (by omega) he,O,U,JH,if_neg h]
   ·refine Bw ((i+1:Nat):Int) (by simp) (by omega) (by omega) (Au ⟨V,?_⟩);rw [List.take_add_one,List.take_add_one,he,List.getElem?_eq_getElem hi,List.getElem?_eq_getElem hb,Decidable.not_not.1 h]
  ·rintro s ⟨rfl,he⟩;unfold NW;refine BQ (by omega) (Au ⟨_,V,.inr ⟨V,?_⟩⟩);rw [SN (i:=a.length) (Nat.le_refl _) (by omega) he,List.drop_length,K,List.drop_length]
   rfl
 ·rintro r (rfl | ⟨rfl,h⟩)
  ·rw [Sum.elim_inl];exact Au V
  ·rw [Sum.elim_inr];exact Au h.symm
theorem Za{F n:Nat}{l:List PR}(av:100<F)(aw:n<=5)(ay:l.length<=20):f201 F (n:Int) l=some (match F9 n l with | some p=>((p:Int),((l.findIdx (A3 p):Nat):Int),true) | none=>(0,0,false)):=by
 refine CV ?_;unfold f201;refine Bm (S:=λq=>(∃p,F9 n l=some p/\q=Sum.inl ((p:Int),((l.findIdx (A3 p):Nat):Int),true))∨(F9 n l=none/\q=Sum.inr ())) ?_ ?_
 ·refine C9 n (λi s=>s=(i:Int)/\∀p,p<i->l.countP (A3 (p:Nat))≠1) ⟨V,by simp⟩ (by omega) ?_ ?_
  ·rintro i s hi ⟨rfl,ac⟩;unfold NC;refine BZ (by omega) (Bm (S:=λr=>r.1=((l.countP (A3 i):Nat):Int)/\(r.1=1->r.2=((l.findIdx (A3 i):Nat):Int))) ?_ ?_)
   ·refine C9 l.length (λj s=>s.2.2=(j:Int)/\s.1=(((l.take j).countP (A3 i):Nat):Int)/\(s.1≠0->∃a,s.2.1=((a:Nat):Int)/\∃h:a<l.length,A3 i l[a]=true)) ⟨V,by simp,by simp⟩ (by omega) ?_ ?_
    ·rintro j ⟨m,a,c⟩ ag ⟨K,hm,U⟩;simp only at K hm U;subst K;have hle:(l.take j).countP (A3 i)<=j:=by
      refine Nat.le_trans List.countP_le_length ?_;rw [List.length_take];omega
     unfold NM;refine BZ (by simp only;omega) (Ct (m:=j) V ag ?_);refine Bm (S:=λc=>c=A3 i l[j]) ?_ ?_
     ·unfold A3;refine B2 (λh=>Au (by simp [h])) (λh=>?_);exact Ct (m:=j) V ag (Au (by simp [h]))
     rintro c rfl;have key:(l.take (j+1)).countP (A3 i)=(l.take j).countP (A3 i)+if A3 i l[j]=true then 1 else 0:=by
      rw [List.take_add_one,List.getElem?_eq_getElem ag,List.countP_append];simp only [Option.toList_some,List.countP_cons,List.countP_nil,Nat.zero_add]
     refine Bm (S:=λr=>r.1=(((l.take (j+1)).countP (A3 i):Nat):Int)/\(r.1≠0->∃a,r.2=((a:Nat):Int)/\∃h:a<l.length,A3 i l[a]=true)) ?_ ?_
     ·refine B2 (λh=>?_) (λh=>?_)
      ·refine Bw (((l.take (j+1)).countP (A3 i):Nat):Int) ?_ (by omega) ?_ (Au ⟨V,λ_=>⟨j,V,ag,h⟩⟩)
       ·rw [key,if_pos h,hm];rfl
       ·rw [key,if_pos h];omega
      ·exact Au ⟨by rw [key,if_neg h];exact hm,U⟩
     ·rintro⟨m',az⟩ ⟨Y,Z⟩;simp only at Y Z ⊢;exact Bw ((j+1:Nat):Int) (by simp) (by omega) (by omega) (Au ⟨V,Y,Z⟩)
    ·rintro⟨m,a,c⟩ ⟨K,hm,U⟩;simp only at K hm U;subst K;rw [List.take_length] at hm;unfold NM;refine BQ (by simp) (Au ⟨_,V,hm,λal=>?_⟩);simp only at al;obtain⟨k,am,ap,aq⟩:=U (by omega);have:=Pj (p:=A3 i) (l:=l) (a:=k) (by omega) ap aq;simp only;rw [this];exact am
   ·rintro⟨m,a⟩ ⟨Y,Z⟩;simp only at Y Z ⊢;refine B2 (λh=>Au (.inl ⟨i,RF hi (by omega) ac,by rw [Z h]⟩)) (λh=>?_);refine Bw ((i+1:Nat):Int) (by simp) (by omega) (by omega) (Au ⟨V,λp O=>?_⟩);rcases Nat.lt_succ_iff_lt_or_eq.1 O with O | rfl
    ·exact ac p O
    ·intro K;exact h (by rw [Y,K];rfl)
  ·rintro s ⟨rfl,ac⟩;unfold NC;exact BQ (by omega) (Au ⟨_,V,.inr ⟨RI ac,V⟩⟩)
 ·rintro q (⟨p,O,rfl⟩ | ⟨O,rfl⟩)
  ·rw [O,Sum.elim_inl];exact Au V
  ·rw [O,Sum.elim_inr];exact Au V
theorem Yg{w:List Int}{p o n:Nat}{x:PR}(K:o≠p)(O:x.1+x.2 - (p:Int)=o)(hm:gN w p≠0):(JD w (dP p x (gN w p))).take n=((w.take n).set o (gN w o+gN w p)).set p 0:=by
 unfold dP;rw [O];by_cases h:0<gN w p
 ·rw [if_pos h];unfold JD IJ;simp only [Int.toNat_natCast];rw [Od K,List.take_set,List.take_set,show gN w p+ -gN w p=0 by omega]
 ·rw [if_neg h];unfold JD IJ;simp only [Int.toNat_natCast];rw [Od (Ne.symm K),List.take_set,List.take_set,show gN w p+ -gN w p=0 by omega,Int.neg_neg,List.set_comm _ _ (Ne.symm K)]
theorem Zb.pay{n:Nat}{w:List Int}{d:DT}(h:Zb n w)(a:d.1<n)(K:0<=d.1)(b:d.2.1<n)(O:0<=d.2.1):Zb n (JD w d):=(h.add a K).add b O
theorem dy{n:Nat}{w:List Int}(O:w.length=5)(U:Zb n w)(h:∀j,j<n->gN w j=0):w=List.replicate 5 0:=by
 refine Xx O V λj Y=>?_;rw [Zb.zero 0 j (Nat.zero_le _)];rcases Nat.lt_or_ge j n with K | K
 ·exact h j K
 ·exact U j K
theorem YH{F n:Nat}{S:List PR}{w0:List Int}(ce:2000<F)(O:n<=5)(ay:S.length<=10)(be:∀x∈S,VP n x)(hw:BN 200 w0)(bi:Zb n w0):f172 F (w0.take n) S=some (match EC n w0 S with | none=>([],false) | some r=>(r,true)):=by
 have ci:=NU ay;refine CV ?_;unfold f172;have az:=hw.1;refine Bb (b:=w0.take n) (by unfold Cz;rw [if_pos (by simp;omega)];rfl) ?_;refine Bb (b:=S) (by unfold Cz;rw [if_pos (by simp;omega)];rfl) ?_;refine Bm (S:=λq=>(q=Sum.inl ([],false)/\Eo n S.length S w0 []=none)∨∃w out,q=Sum.inr (w.take n,Ee out)/\w.length=5/\Zb n w/\BN 1000000000000 w/\Eo n S.length S w0 []=if w=List.replicate 5 0 then some out else none) ?_ ?_
 ·refine Nt (λm s=>∃w out B,s.1=w.take n/\s.2.1.length=m/\s.2.2=Ee out/\BN B w/\0<=B/\B*3 ^ m<=1000000000000/\Zb n w/\(∀x∈s.2.1,VP n x)/\out.length+m<=10/\Eo n S.length S w0 []=Eo n m s.2.1 w out) ?_ (m:=S.length) ⟨w0,[],200,V,V,V,hw,by omega,by omega,bi,be,by simpa using ay,V⟩ (by omega);rintro m ⟨v,l,co⟩ ⟨w,out,B,ac,a0,a1,K,bn,a2,a3,am,bo,U⟩;simp only at ac a0 a1 am U;subst ac;subst a0;subst a1;have a4:B<=1000000000000:=by
   have ac:(1:Int)<=3 ^ l.length:=by
    have:(0:Int)<3 ^ l.length:=Int.pow_pos (by decide);omega
   have:=Int.mul_le_mul_of_nonneg_left ac bn;omega
  have az:=K.1;unfold P9;refine B2 (λbv=>?_) (λhzero=>?_)
  ·simp only at bv;have ag:(w.take n).length=n:=by rw [List.length_take];omega
   obtain⟨k,bw⟩:∃k,l.length=k+1:=⟨l.length - 1,by omega⟩;rw [bw] at a2 bo U;have bx:B*3 ^ (k+1)=(3*B)*3 ^ k:=by rw [Int.pow_succ];rw [Int.mul_comm (3 ^ k) 3,← Int.mul_assoc,Int.mul_comm B 3]
   simp only [ag];refine Bb (Za (by omega) O (by omega)) ?_;cases ap:F9 n l with
   | none=>
    simp only;refine Bm (S:=λc=>c=true) (BZ V (Au V)) ?_;rintro c rfl;refine BZ V (Au (.inl ⟨V,?_⟩));rw [U];simp only [Eo,ap,Option.bind_none]
   | some p=>
    simp only;have a5:=ap;unfold F9 at a5;obtain⟨c1,c2,c3⟩:=List.find?_range_eq_some.1 a5;have cp:l.countP (A3 p)=1:=by simpa using c1
    have c2:=List.mem_range.1 c2;have Z:l.findIdx (A3 p)<l.length:=by
     obtain⟨x,Y,ht⟩:=List.countP_pos_iff.1 (show 0<l.countP (A3 p) by omega);exact List.findIdx_lt_length_of_exists ⟨x,Y,ht⟩
    have ht:A3 p l[l.findIdx (A3 p)]=true:=List.findIdx_getElem;have Y:=am _ (List.getElem_mem Z);have hb:=K.bd (i:=p) (by omega);have hg:Eo n (k+1) l w out=if gN w p=0 then none else Eo n k (l.eraseIdx (l.findIdx (A3 p))) (JD w (dP p l[l.findIdx (A3 p)] (gN w p))) (out++ [dP p l[l.findIdx (A3 p)] (gN w p)]):=by
     simp only [Eo,ap,Option.bind_some,Lh Z]
    refine Bm (S:=λc=>c=decide (gN w p=0)) ?_ ?_
    ·refine BQ (by decide) (Bb (Jt K O (by omega) (by omega)) (Au ?_));rw [show Int.toNat (p:Int)=p by omega]
    rintro c rfl;refine B2 (λh=>Au (.inl ⟨V,?_⟩)) (λh=>?_)
    ·rw [U,hg,if_pos (of_decide_eq_true h)]
    have al:gN w p≠0:=λe=>h (decide_eq_true e);rw [if_neg al] at hg;have bz:=Y;obtain⟨ct,x2,cw⟩:=bz;have cy:l[l.findIdx (A3 p)].1=(p:Int)∨l[l.findIdx (A3 p)].2=(p:Int):=by
     have key:∀x:PR,A3 p x=true->x.1=(p:Int)∨x.2=(p:Int):=λx h=>by unfold A3 at h;simpa using h
     exact key _ ht
    obtain⟨o,aq⟩:∃o:Nat,(l[l.findIdx (A3 p)].1+l[l.findIdx (A3 p)].2 - (p:Int))=(o:Int):=⟨(l[l.findIdx (A3 p)].1+l[l.findIdx (A3 p)].2 - (p:Int)).toNat,by omega⟩;have b0:o≠p:=by omega
    have c0:o<n:=by omega
    have c4:=K.bd (i:=o) (by omega);obtain⟨a6,e2,a7,b1,c5,b2⟩:=QI O Y ht hb.1 hb.2;have a8:(dP p l[l.findIdx (A3 p)] (gN w p)).1<n/\(dP p l[l.findIdx (A3 p)] (gN w p)).2.1<n:=by
     unfold dP;split <;> simp only <;> omega
    obtain⟨-,g2⟩:=P5 (F:=0) K a6 e2 a7 b1 (by omega) b2 a4;have b3:=Yg (n:=n) b0 aq al;have hle:(l.eraseIdx (l.findIdx (A3 p))).length=k:=by rw [List.length_eraseIdx_of_lt Z];omega
    refine Bb (Jt K O (by omega) (by omega)) ?_;rw [show Int.toNat (p:Int)=p by omega];refine Ct (m:=l.findIdx (A3 p)) V Z (Ct (m:=l.findIdx (A3 p)) V Z ?_);refine Bw _ V (by omega) (by omega) (Bw (o:Int) aq (by omega) (by omega) ?_);refine Bb (Jt K O (by omega) (by omega)) (Bb (Jt K O (by omega) (by omega)) ?_);refine Bb (Jt K O (by omega) (by omega)) ?_;rw [show Int.toNat (p:Int)=p by omega,show Int.toNat (o:Int)=o by omega];refine Bw (gN w o+gN w p) V (by omega) (by omega) (Bm (S:=λd=>d=dP p l[l.findIdx (A3 p)] (gN w p)) ?_ ?_)
    ·unfold dP;rw [aq];refine B2 (λh=>?_) (λh=>Au ?_)
     ·refine Bw _ V (by omega) (by omega) (Au ?_);rw [if_neg (by omega)]
     ·rw [if_pos (by omega)]
    rintro d rfl;have c6:(Ee out).length<=10:=by rw [Nl];omega
    refine JY (by first | omega | (simp only;omega)) ?_
    refine Bb (b:=(Ee out++ [dP p l[l.findIdx (A3 p)] (gN w p)])[0]'(by simp)) (FK (m:=0) V (List.getElem?_eq_getElem _)) ?_;refine Bw ((Ee out).length:Int) (by simp) (by omega) (by omega) (Bm (S:=λr=>r=Ee (out++ [dP p l[l.findIdx (A3 p)] (gN w p)])) ?_ ?_)
    ·rw [WQ];refine(P0 (lt:=Gz) [] (by omega) (by omega) λy _=>Tz _ _ _).M ?_;rintro r ⟨A,B,a9,rfl,b4,b5⟩;rw [La,a9,List.append_nil];refine(P6 b4 ?_).symm;rcases b5 with rfl | ⟨c7,y,rfl,b6⟩
     ·simp
     ·have bb:=SR out;rw [a9] at bb;exact RA bb b6
    rintro r rfl;refine Bb (b:=l.take (l.findIdx (A3 p))) (by unfold Fy;rw [if_pos (by first | omega | (simp only;omega))];simp) ?_
    refine Bw ((l.findIdx (A3 p)+1:Nat):Int) (by simp) (by omega) (by omega) (Bb (b:=l.drop (l.findIdx (A3 p)+1)) ?_ ?_)
    ·unfold Fy;rw [if_pos (by first | omega | (simp only;omega))]
     try simp only
     rw [show Int.toNat (l.length:Int)=l.length by omega,List.take_length,show Int.toNat ((l.findIdx (A3 p)+1:Nat):Int)=l.findIdx (A3 p)+1 by omega]
    refine Bb (b:=l.take (l.findIdx (A3 p))) (by unfold Cz;rw [if_pos (by simp;omega)];rfl) (BP.Kn (by simp;omega) ?_);have he:l.take (l.findIdx (A3 p))++l.drop (l.findIdx (A3 p)+1)=l.eraseIdx (l.findIdx (A3 p)):=(List.eraseIdx_eq_take_drop_succ _ _).symm;rw [he];refine Au ⟨k,by omega,_,_,3*B,b3.symm,hle,V,g2,by omega,by rw [← bx];exact a2,a3.pay a8.1 a6 a8.2 a7,λx Y=>am x (List.mem_of_mem_eraseIdx Y),by simp;omega,U.trans hg⟩
  ·simp only at hzero;refine Au (.inr ⟨w,out,V,az,a3,K.M a4,?_⟩);rw [U,show l.length=0 by omega]
   rfl
 ·rintro q (⟨rfl,hg⟩ | ⟨w,out,rfl,ca,cc,hb,hg⟩)
  ·rw [Sum.elim_inl];refine Au ?_;unfold EC;rw [hg];rfl
  ·rw [Sum.elim_inr];have ag:(w.take n).length=n:=by rw [List.length_take];omega
   refine Bm (S:=λq=>(q=Sum.inl ([],false)/\w≠List.replicate 5 0)∨(q=Sum.inr ()/\w=List.replicate 5 0)) ?_ ?_
   ·refine C9 n (λi s=>s=(i:Int)/\∀j,j<i->gN w j=0) ⟨V,by simp⟩ (by omega) ?_ ?_
    ·rintro i s hi ⟨rfl,av⟩;unfold ND;simp only [ag];refine BZ (by omega) (Bb (Jt hb O (by omega) (by omega)) ?_);rw [show Int.toNat (i:Int)=i by omega];refine B2 (λh=>Au (.inl ⟨V,λe=>h (by rw [e];exact Zb.zero 0 i (Nat.zero_le _))⟩)) (λh=>?_);refine Bw ((i+1:Nat):Int) (by simp) (by omega) (by omega) (Au ⟨V,λj aw=>?_⟩);rcases Nat.lt_succ_iff_lt_or_eq.1 aw with aw | rfl
     ·exact av j aw
     ·exact Decidable.not_not.1 h
    ·rintro s ⟨rfl,av⟩;unfold ND;simp only [ag];exact BQ (by omega) (Au ⟨_,V,.inr ⟨V,dy ca cc av⟩⟩)
   ·rintro q (⟨rfl,al⟩ | ⟨rfl,he⟩)
    ·rw [Sum.elim_inl];refine Au ?_;unfold EC;rw [hg,if_neg al];rfl
    ·rw [Sum.elim_inr];refine Au ?_;unfold EC;rw [hg,if_pos he];rfl
theorem Xz{n:Nat}{w:List Int}{P K:PR->Bool}(h:∀x,VP n x->P x=K x):FW n w P=FW n w K:=by
 have e:(DU n).filter P=(DU n).filter K:=List.filter_congr λx O=>h x (Ms O);unfold FW Dd;rw [e]
theorem Yt{F m:Nat}{o:OW}{p:PR}(a6:3000<F)(h:VO o)(hm:m<=5):BP (f131 F o (m:Int) p) (λr=>r.Perm (Dd o.1.length (Ce o) (DJ p) m [] (DU o.1.length))):=by
 have Y:=h.n5;obtain⟨-,hw⟩:=QA (F:=F) (by omega) h;have aq:=YF h;have a7:=hw.1;have av:(Hj o.1.length o.1.length).length<=10:=by rw [(PN Y).length_eq];exact Pv Y
 have ag:((Hj o.1.length o.1.length).filter (DJ p)).length<=10:=Nat.le_trans (List.length_filter_le _ _) av;have aw:∀x∈(Hj o.1.length o.1.length).filter (DJ p),VP o.1.length x:=λx K=>Ms ((PN Y).mem_iff.1 (List.mem_filter.1 K).1);unfold f131;refine Bb (ba (by omega) h) ?_;rw [show((Ce o).take o.1.length).length=o.1.length by rw [List.length_take];omega];refine Bb (YO (by omega) Y) ?_;refine Bb (show f170 F _ (m:Int)=_ from Tm (by omega) m F _ (by omega) (by omega) ag) ?_;have ay:((C5 m ((Hj o.1.length o.1.length).filter (DJ p))).filterMap (EC o.1.length (Ce o))).Perm (Dd o.1.length (Ce o) (DJ p) m [] (DU o.1.length)):=by
  have:=VB ((PN Y).filter (DJ p)) m (EC o.1.length (Ce o)) λa b az=>Wo az;unfold Dd;exact this
 have a8:(C5 m ((Hj o.1.length o.1.length).filter (DJ p))).length<=1024:=Nat.le_trans (Mj _ _) (Nat.le_trans (Nat.pow_le_pow_right (by decide) ag) (by decide));have a0:∀c∈C5 m ((Hj o.1.length o.1.length).filter (DJ p)),c.length=m/\∀x∈c,VP o.1.length x:=λc O=>⟨(Kx (x:=(0,0)) O).1,λx K=>aw x ((Kx O).2 K)⟩;generalize C5 m ((Hj o.1.length o.1.length).filter (DJ p))=C at*;refine Bm (S:=λr=>r.Perm (C.filterMap (EC o.1.length (Ce o)))) ?_ (λr ac=>Au (ac.trans ay));refine C9 C.length (λi s=>s.2=(i:Int)/\s.1.Perm ((C.take i).filterMap (EC o.1.length (Ce o)))/\(∀x∈s.1,x.length=m)) ⟨V,List.Perm.refl _,by simp⟩ (by omega) ?_ ?_
 ·rintro i ⟨v,c⟩ hi ⟨O,U,Z⟩;simp only at O U Z;subst O;obtain⟨c1,c2⟩:=a0 _ (List.getElem_mem hi);have a9:v.length<=1023:=by
   rw [U.length_eq];refine Nat.le_trans (List.length_filterMap_le _ _) ?_;rw [List.length_take];omega
  have al:(C.take (i+1)).filterMap (EC o.1.length (Ce o))=(C.take i).filterMap (EC o.1.length (Ce o))++(EC o.1.length (Ce o) C[i]).toList:=by
   rw [List.take_add_one,List.getElem?_eq_getElem hi,List.filterMap_append];congr 1
  unfold N1;refine BZ (by simp only;omega) (Bm (S:=λr=>r.Perm ((C.take (i+1)).filterMap (EC o.1.length (Ce o)))/\(∀x∈r,x.length=m)) ?_ ?_)
  ·refine Ct (m:=i) V hi (Bb (YH (by omega) Y (by omega) c2 hw aq) ?_);cases hs:EC o.1.length (Ce o) C[i] with
   | none=>
    simp only;refine BZ V (Au ⟨?_,Z⟩);rw [al,hs];simpa using U
   | some s=>
    simp only;have am:s.length=m:=by
     have ap:=hs;unfold EC at ap;obtain⟨r,ac,rfl⟩:=Option.map_eq_some_iff.1 ap;have bb:=NU (k:=C[i].length) (by omega);obtain⟨k1,a1⟩:=Ns Y C[i].length C[i] (Ce o) [] r 200 rfl c2 hw (by omega) (by omega) (by simp) ac;rw [Nl,a1,c1];simp
    refine BQ (by simp) (JY (by omega) ?_);refine Bb (b:=(v++ [s])[0]'(by simp)) (FK (m:=0) V (List.getElem?_eq_getElem _)) ?_;refine Bw (v.length:Int) (by simp) (by omega) (by omega) (Bm (S:=λr=>∃A B,v=A++B/\r=A++s::B) ?_ ?_)
    ·rw [WK];refine(P0 (lt:=JH) [] (by omega) (by omega) λy a2=>Y9 (by omega) (by rw [am,Z y a2]) (by omega)).M ?_;rintro r ⟨A,B,a3,a4,_,_⟩;exact⟨A,B,a3,by rw [a4,List.append_nil]⟩
    ·rintro r ⟨A,B,rfl,rfl⟩;refine Au ⟨?_,λx K=>?_⟩
     ·rw [al,hs];refine List.perm_middle.trans ?_;refine(List.Perm.cons s U).trans ?_;exact(List.perm_append_singleton s _).symm
     ·rcases List.mem_append.1 K with K | K
      ·exact Z x (List.mem_append_left _ K)
      ·rcases List.mem_cons.1 K with rfl | K
       ·exact am
       ·exact Z x (List.mem_append_right _ K)
  ·rintro r ⟨ac,a5⟩;exact Bw ((i+1:Nat):Int) (by simp) (by omega) (by omega) (Au ⟨V,ac,a5⟩)
 ·rintro⟨v,c⟩ ⟨O,U,Z⟩;simp only at O U Z;subst O;unfold N1;rw [List.take_length] at U;exact BQ (by simp) (Au ⟨_,V,U⟩)
theorem TQ{F:Nat}{o:OW}{p:PR}(Z:3000<F)(h:VO o):BP (f107 F o p) (λr=>r.Perm (FW o.1.length (Ce o) (DJ p))):=by
 have al:=h.n5;unfold f107;refine Bm (S:=λq=>(∃r,q=Sum.inl r/\r.Perm (FW o.1.length (Ce o) (DJ p)))∨(q=Sum.inr ()/\FW o.1.length (Ce o) (DJ p)= [])) ?_ ?_
 ·refine C9 o.1.length (λi s=>s=(i:Int)/\∀j,j<i->Dd o.1.length (Ce o) (DJ p) j [] (DU o.1.length)= []) ⟨V,by simp⟩ (by omega) ?_ ?_
  ·rintro i s hi ⟨rfl,U⟩;unfold Nw;refine BZ (by omega) (Bm (Yt Z h (by omega)) ?_);intro r K;refine B2 (λY=>Au (.inl ⟨r,V,?_⟩)) (λam=>?_)
   ·refine K.trans ?_;unfold FW;rw [List.find?_map,show(List.range o.1.length).find? _=some i from List.find?_range_eq_some.2 ⟨?_,List.mem_range.2 hi,λj O=>?_⟩]
    ·exact List.Perm.refl _
    ·simp only [Function.comp];cases ac:Dd o.1.length (Ce o) (DJ p) i [] (DU o.1.length) with
     | nil=>rw [ac] at K;rw [K.eq_nil] at Y;simp at Y
     | cons=>rfl
    ·simp only [Function.comp];rw [U j O];rfl
   ·refine Bw ((i+1:Nat):Int) (by simp) (by omega) (by omega) (Au ⟨V,λj O=>?_⟩);rcases Nat.lt_succ_iff_lt_or_eq.1 O with O | rfl
    ·exact U j O
    ·have:r= []:=List.length_eq_zero_iff.1 (by omega);rw [this] at K;exact K.symm.eq_nil
  ·rintro s ⟨rfl,U⟩;unfold Nw;refine BQ (by omega) (Au ⟨_,V,.inr ⟨V,?_⟩⟩);unfold FW;rw [List.find?_map,show(List.range o.1.length).find? _=none from List.find?_eq_none.2 ?_]
   ·rfl
   ·intro j O;simp only [Function.comp];rw [U j (List.mem_range.1 O)];simp
 ·rintro q (⟨r,rfl,K⟩ | ⟨rfl,ag⟩)
  ·rw [Sum.elim_inl];exact Au K
  ·rw [Sum.elim_inr,ag];exact Au (List.Perm.refl _)
theorem ZB{F:Nat}{o:OW}(O:3000<F)(h:VO o):BP (f75 F o) (λr=>r.Perm (Kk o)):=by
 unfold f75;refine Bm (TQ O h) (λr U=>Au ?_);refine U.trans (List.Perm.of_eq (Xz λx Y=>?_));obtain⟨Z,K,ac⟩:=Y;unfold DJ;refine decide_eq_true λe=>?_;rw [e] at K;exact absurd K (by decide)
def Gx(x y:Int)(d:DT):Bool:=decide (d.1=x)&&decide (d.2.1=y)
def cnt(x y:Int)(L:List (List DT)):Nat:=L.flatten.countP (Gx x y)
theorem XF{x y:Int}{L L':List (List DT)}(h:L.Perm L'):cnt x y L=cnt x y L':=by unfold cnt;exact h.flatten.countP_eq _
theorem T7{x y:Int}:∀{L:List (List DT)},(∀s∈L,s.countP (Gx x y)<=1)->cnt x y L<=L.length
 | [],_=>Nat.le_refl _
 | s::L,h=>by
  have O:=h s List.mem_cons_self
  have K:=T7 (L:=L) λt ht=>h t (List.mem_cons_of_mem _ ht)
  unfold cnt at K ⊢
  rw [List.flatten_cons,List.countP_append,List.length_cons];omega
def L3(d:DT):PR:=(min d.1 d.2.1,max d.1 d.2.1)
theorem ai{n p:Nat}{x:PR}{m:Int}(K:VP n x)(ht:A3 p x=true):L3 (dP p x m)=x:=by
 obtain⟨v1,v2,O⟩:=K;unfold A3 at ht;simp at ht;obtain⟨U,x2⟩:=x;simp only at v1 v2 O ht;unfold L3 dP;split <;> simp only [Prod.mk.injEq] <;> omega
theorem Ru{n:Nat}:∀(k:Nat) (l:List PR) (w:List Int) (out r:List DT),l.length=k->(∀x∈l,VP n x)->Eo n k l w out=some r->(r.map L3).Perm (out.map L3++l)
 | 0,l,w,out,r,Y,U,h=>by
  unfold Eo at h
  split at h
  ·cases h
   rw [List.length_eq_zero_iff.1 Y,List.append_nil]
  ·cases h
 | k+1,l,w,out,r,Y,U,h=>by
  unfold Eo at h;obtain⟨p,Z,h⟩:=bind_some h;split at h
  ·cases h
  unfold F9 at Z;obtain⟨c1,c2,c3⟩:=List.find?_range_eq_some.1 Z;have ac:l.countP (A3 p)=1:=by simpa using c1
  have O:l.findIdx (A3 p)<l.length:=by
   obtain⟨x,K,ht⟩:=List.countP_pos_iff.1 (show 0<l.countP (A3 p) by omega);exact List.findIdx_lt_length_of_exists ⟨x,K,ht⟩
  rw [Lh O] at h;have ht:A3 p l[l.findIdx (A3 p)]=true:=List.findIdx_getElem;have K:=U _ (List.getElem_mem O);have:=Ru k _ _ _ r (by rw [List.length_eraseIdx_of_lt O];omega) (λx K=>U x (List.mem_of_mem_eraseIdx K)) h;refine this.trans ?_;rw [List.map_append,List.map_singleton,ai K ht,List.append_assoc];exact List.Perm.append_left _ (Pw O)
theorem Pr:∀{m:Nat} {l c:List PR},c∈C5 m l->c.Sublist l
 | 0,l,c,h=>by
  rw [show C5 0 l= [[]] by cases l <;> rfl] at h
  cases List.mem_singleton.1 h
  exact List.nil_sublist _
 | m+1,[],c,h=>by cases h
 | m+1,y::ys,c,h=>by
  rcases List.mem_append.1 h with h | h
  ·obtain⟨O,K,rfl⟩:=List.mem_map.1 h
   exact(Pr K).cons_cons y
  ·exact(Pr h).cons y
theorem Vl{n:Nat}(h:n<=5):(DU n).Nodup:=by
 match n,h with
 | 0,_ | 1,_ | 2,_ | 3,_ | 4,_ | 5,_=>decide
theorem RX{α:Type}{q:α->Bool}:∀{l:List α},l.Nodup->(∀a b,q a=true->q b=true->a=b)->l.countP q<=1
 | [],_,_=>Nat.zero_le _
 | x::xs,U,O=>by
  obtain⟨Y,Z⟩:=List.nodup_cons.1 U
  have ac:=RX Z O
  by_cases K:q x=true
  ·rw [List.countP_cons_of_pos K]
   have:xs.countP q=0:=by
    rw [List.countP_eq_zero];intro y ag al;exact Y (O x y K al▸ag)
   omega
  ·rw [List.countP_cons_of_neg K];exact ac
theorem Xd{n:Nat}{w:List Int}{P:PR->Bool}{m:Nat}{s:List DT}{x y:Int}(Z:n<=5)(hs:s∈Dd n w P m [] (DU n)):s.countP (Gx x y)<=1:=by
 unfold Dd at hs;obtain⟨c,ac,hs⟩:=List.mem_filterMap.1 hs;rw [List.nil_append] at hs;unfold EC at hs;obtain⟨r,ag,rfl⟩:=Option.map_eq_some_iff.1 hs;have K:=Pr ac;have al:∀x∈c,VP n x:=λx am=>Ms (List.mem_filter.1 (K.subset am)).1;have ap:c.Nodup:=((Vl Z).filter _).sublist K;have O:=Ru c.length c w [] r V al ag;rw [List.map_nil,List.nil_append] at O;have aq:∀l:List DT,(Ee l).Perm l:=by
  have ins:∀(d:DT) (l:List DT),(Gv d l).Perm (d::l):=by
   intro d l
   induction l with
   | nil=>exact List.Perm.refl _
   | cons z av aw=>
    unfold Gv;split
    ·exact List.Perm.refl _
    ·exact(aw.cons z).trans (List.Perm.swap d z av)
  refine NA (P:=λl=>(Ee l).Perm l) (List.Perm.refl _) λl d h=>?_;rw [La];exact(ins d _).trans ((h.cons d).trans (List.perm_append_singleton d l).symm)
 rw [(aq r).countP_eq];have U:r.countP (Gx x y)<=r.countP ((λz:PR=>decide (z=(min x y,max x y)))∘L3):=by
  refine List.countP_mono_left λd _ hd=>?_;unfold Gx at hd;simp only [Bool.and_eq_true,decide_eq_true_eq] at hd;simp only [Function.comp,decide_eq_true_eq,L3,hd.1,hd.2]
 rw [← List.countP_map,O.countP_eq] at U;refine Nat.le_trans U (RX ap λa b Y hb=>?_);rw [decide_eq_true_eq] at Y hb;rw [Y,hb]
theorem Yr{n:Nat}{w:List Int}{P:PR->Bool}{x y:Int}(K:n<=5):∀s∈FW n w P,s.countP (Gx x y)<=1:=by
 rcases To (n:=n) (w:=w) (P:=P) with h | ⟨m,hm,h,_⟩
 ·rw [h];simp
 ·rw [h];exact λs hs=>Xd K hs
theorem VO.dr{o:OW}(h:VO o):NV 10 o:=⟨by have:=h.n5;omega,λx K=>by have:=(h.cs x K).1;omega,by have:=h.d8;omega⟩
theorem aY{F k:Nat}{b:IK}(K:100<F)(hb:BG k b)(O:k<1000):BP (f31 F b 5 6) (λr=>NV 10 r.1/\BG (k+100) r.2):=(aP (pm:=5) (dm:=6) K hb O (by omega) (by omega) (by omega)).M λ_ h=>⟨h.1.dr,h.2.2.2⟩
theorem aV{F k:Nat}{b:IK}{o:OW}{d:DT}(Y:100<F)(O:NV 20 o)(hb:BG k b)(ac:k<500):BP (f19 F o d b) (λr=>(∃a c,r.1= [o,a,c]/\NV 30 a/\NV 30 c)/\BG (k+101) r.2):=by
 unfold f19;refine Bm (aY Y hb (by omega)) ?_;rintro⟨a,ag⟩ ⟨K,Z⟩;simp only at K Z ⊢;refine Bm (aW K (by omega)) ?_;rintro _ rfl;refine Bm (TU Z (by omega) (by omega) (by omega)) ?_;rintro⟨y,al⟩ g2;simp only at g2 ⊢;have am:=K.l2;refine Bm (S:=λr=>r.length<=20/\∀x∈r,x.length<=20) ?_ ?_
 ·refine B2 (λ_=>?_) (λ_=>?_)
  ·exact Bb (Uv Y (O.up (m:=40) (by omega)).l1 (O.up (m:=40) (by omega)).n1) (Au ⟨O.l1,O.n1⟩)
  ·exact Au ⟨Nat.le_trans K.l1 (by omega),λx U=>Nat.le_trans (K.n1 x U) (by omega)⟩
 ·rintro r ⟨r1,r2⟩;exact Au ⟨⟨a,_,V,K.up (by omega),⟨Nat.le_trans r1 (by omega),λx U=>Nat.le_trans (r2 x U) (by omega),by simp;omega⟩⟩,g2⟩
theorem Zh{F n:Nat}{x y:Int}(av:n<=5)(x0:0<=x)(aw:x<n)(y0:0<=y)(ay:y<n)(O:x≠y):∃K,f106 F x y=some K/\∀z,VP n z->f136 F K z.1 z.2=some (!DJ (min x y,max x y) z):=by
 have key:∀a b c d:Fin 5,a≠b->c<d->(f106 0 ((a.val:Nat):Int) ((b.val:Nat):Int)).bind (λK=>f136 0 K ((c.val:Nat):Int) ((d.val:Nat):Int))=some (!DJ (min ((a.val:Nat):Int) ((b.val:Nat):Int),max ((a.val:Nat):Int) ((b.val:Nat):Int)) (((c.val:Nat):Int),((d.val:Nat):Int))):=by decide+kernel
 obtain⟨a,rfl⟩:∃a:Nat,x=(a:Int):=⟨x.toNat,by omega⟩;obtain⟨b,rfl⟩:∃b:Nat,y=(b:Int):=⟨y.toNat,by omega⟩;have Z:=key ⟨a,by omega⟩ ⟨b,by omega⟩ ⟨0,by omega⟩ ⟨1,by omega⟩ (λe=>O (by rw [Fin.mk.injEq] at e;omega)) (by rw [Fin.mk_lt_mk];omega);obtain⟨K,U,_⟩:=bind_some Z;refine⟨K,U,λz ac=>?_⟩;obtain⟨z1,ag,al⟩:=ac;obtain⟨c,d⟩:=z;simp only at z1 ag al;obtain⟨c,rfl⟩:∃a:Nat,c=(a:Int):=⟨c.toNat,by omega⟩;obtain⟨d,rfl⟩:∃b:Nat,d=(b:Int):=⟨d.toNat,by omega⟩;have am:=key ⟨a,by omega⟩ ⟨b,by omega⟩ ⟨c,by omega⟩ ⟨d,by omega⟩ (λe=>O (by rw [Fin.mk.injEq] at e;omega)) (by rw [Fin.mk_lt_mk];omega);obtain⟨ap,aq,Y⟩:=bind_some am;rw [show ap=K from Option.some.inj (aq.symm.trans U)] at Y;exact Y
theorem UC{F:Nat}{o:OW}{x y:Int}(av:100<F)(h:NV 40 o):∃e,f105 F o x y=some e/\((e≠0/\∃z,f70 F o [x,y]=some (z,e))∨(e=0/\f70 F o [x,y]=some (o,0)/\VO o/\(0<=x/\x<o.1.length)/\(0<=y/\y<o.1.length)/\x≠y)):=by
 obtain⟨r,ap,aw⟩:=Zw av h;have aq:f47 F o=some r:=(ZH F o).trans ap;have a2:=h.l1;have U:f105 F o x y=some (if r≠0 then r else if ¬(0<=x/\x<=(o.1.length:Int) - 1)∨¬(0<=y/\y<=(o.1.length:Int) - 1) then 3 else if x=y then 8 else 0):=by
  refine CV ?_;unfold f105;refine Bb ap (B2 (λO=>Au (by rw [if_pos O])) (λO=>?_));refine Bw _ V (by omega) (by omega) (Bb (KI _ _ _ _) ?_);refine Bm (S:=λc=>c=decide (¬(0<=x/\x<=(o.1.length:Int) - 1)∨¬(0<=y/\y<=(o.1.length:Int) - 1))) ?_ ?_
  ·refine B2 (λag=>Au ?_) (λag=>?_)
   ·have:¬(0<=x/\x<=(o.1.length:Int) - 1):=by simp at ag;omega
    exact(decide_eq_true (.inl this)).symm
   ·have ay:0<=x/\x<=(o.1.length:Int) - 1:=by simpa using ag
    refine Bw _ V (by omega) (by omega) (Bb (KI _ _ _ _) (Au ?_));by_cases Z:0<=y/\y<=(o.1.length:Int) - 1
    ·rw [decide_eq_true Z,decide_eq_false (λk=>k.elim (λk=>k ay) (λk=>k Z))];rfl
    ·rw [decide_eq_false Z,decide_eq_true (.inr Z)];rfl
  ·rintro c rfl;rw [if_neg O];refine B2 (λK=>Au ?_) (λK=>?_)
   ·rw [if_pos (of_decide_eq_true K)]
   ·rw [if_neg (λk=>K (decide_eq_true k))];refine B2 (λhe=>Au (by rw [if_pos he])) (λhe=>Au (by rw [if_neg he]))
 by_cases O:r≠0
 ·refine⟨r,by rw [U,if_pos O],.inl ⟨O,([],[]),?_⟩⟩;refine CV ?_;unfold f70;exact Bb aq (BZ O (Au V))
 have az:=aw.1 (Decidable.not_not.1 O);have Y:f70 F o [x,y]=some (if ¬(0<=x/\x<=(o.1.length:Int) - 1)∨¬(0<=y/\y<=(o.1.length:Int) - 1) then(([],[]),3) else if x=y then(([],[]),8) else(o,0)):=by
  refine CV ?_;unfold f70;refine Bb aq (BQ O ?_);refine Bm (S:=λq=>(q=Sum.inl (([],[]),3)/\(¬(0<=x/\x<=(o.1.length:Int) - 1)∨¬(0<=y/\y<=(o.1.length:Int) - 1)))∨(q=Sum.inr ()/\¬(¬(0<=x/\x<=(o.1.length:Int) - 1)∨¬(0<=y/\y<=(o.1.length:Int) - 1)))) ?_ ?_
  ·refine C9 2 (λi s=>s=(i:Int)/\∀j z,j<i-> [x,y][j]? =some z->0<=z/\z<=(o.1.length:Int) - 1) ⟨V,by simp⟩ (by omega) ?_ ?_
   ·rintro i s hi ⟨rfl,ac⟩;obtain⟨z,al⟩:∃z,[x,y][i]? =some z:=⟨_,List.getElem?_eq_getElem (by simp;omega)⟩;have a0:z=x∨z=y:=by
     have:=List.mem_of_getElem? al;simpa using this
    unfold On;refine BZ (by simp only [List.length_cons,List.length_nil];omega) (Bb (FK (m:=i) V al) ?_);refine Bw _ V (by omega) (by omega) (Bb (aB _ _ _ _) ?_);refine B2 (λK=>Au (.inl ⟨V,?_⟩)) (λK=>?_)
    ·have:¬(0<=z/\z<=(o.1.length:Int) - 1):=by simp at K;omega
     rcases a0 with rfl | rfl
     ·exact .inl this
     ·exact .inr this
    ·have a1:0<=z/\z<=(o.1.length:Int) - 1:=by simpa using K
     refine Bw ((i+1:Nat):Int) (by simp) (by omega) (by omega) (Au ⟨V,λj u am hu=>?_⟩);rcases Nat.lt_succ_iff_lt_or_eq.1 am with am | rfl
     ·exact ac j u am hu
     ·rw [al] at hu;cases hu;exact a1
   ·rintro s ⟨rfl,ac⟩;unfold On;refine BQ (by simp) (Au ⟨_,V,.inr ⟨V,?_⟩⟩);rintro(k | k)
    ·exact k (ac 0 x (by omega) V)
    ·exact k (ac 1 y (by omega) V)
  ·rintro q (⟨rfl,k⟩ | ⟨rfl,k⟩)
   ·rw [Sum.elim_inl,if_pos k];exact Au V
   ·rw [Sum.elim_inr,if_neg k];refine Bm (S:=λc=>c=decide (x=y)) ?_ ?_
    ·refine BZ (by simp) (Bb (FK (m:=0) (b:=x) V V) ?_);exact Bb (FK (m:=1) (b:=y) V V) (Au V)
    ·rintro c rfl;refine B2 (λK=>Au ?_) (λK=>Au ?_)
     ·rw [if_pos (of_decide_eq_true K)]
     ·rw [if_neg (λe=>K (decide_eq_true e))]
 rw [if_neg O] at U;by_cases k:¬(0<=x/\x<=(o.1.length:Int) - 1)∨¬(0<=y/\y<=(o.1.length:Int) - 1)
 ·rw [if_pos k] at U Y;exact⟨3,U,.inl ⟨by decide,_,Y⟩⟩
 ·rw [if_neg k] at U Y;by_cases e:x=y
  ·rw [if_pos e] at U Y;exact⟨8,U,.inl ⟨by decide,_,Y⟩⟩
  ·rw [if_neg e] at U Y;exact⟨0,U,.inr ⟨V,Y,az,by omega,by omega,e⟩⟩
theorem Tl{F:Nat}{x y:Int}{L:List (List DT)}(am:2000<F)(ap:L.length<=1024)(hs:∀s∈L,s.length<=10):BP (Pal.iter (KJ F x y L) F (0,0)) (λr=>r=((cnt x y L:Nat):Int)):=by
 have Z:∀i,i<=L.length->cnt x y (L.take i)<=10*i:=by
  intro i
  induction i with
  | zero=>intro _;unfold cnt;simp
  | succ i ac=>
   intro hi;have ag:=ac (by omega);have U:i<L.length:=by omega
   have aq:=hs _ (List.getElem_mem U);have av:=List.countP_le_length (p:=Gx x y) (l:=L[i]);unfold cnt at ag ⊢;rw [List.take_add_one,List.getElem?_eq_getElem U,List.flatten_append,List.countP_append];simp only [Option.toList_some,List.flatten_cons,List.flatten_nil,List.append_nil];omega
 refine C9 L.length (λi s=>s.2=(i:Int)/\s.1=((cnt x y (L.take i):Nat):Int)) ⟨V,V⟩ (by omega) ?_ ?_
 ·rintro i ⟨a,c⟩ hi ⟨O,K⟩;simp only at O K;subst O;subst K;have aw:=Z i (by omega);have ay:=hs _ (List.getElem_mem hi);unfold KJ;refine BZ (by simp only;omega) (Ct (m:=i) V hi ?_);refine Bm (S:=λr=>r=((cnt x y (L.take (i+1)):Nat):Int)) ?_ ?_
  ·have al:cnt x y (L.take (i+1))=cnt x y (L.take i)+L[i].countP (Gx x y):=by
    unfold cnt;rw [List.take_add_one,List.getElem?_eq_getElem hi,List.flatten_append,List.countP_append];simp only [Option.toList_some,List.flatten_cons,List.flatten_nil,List.append_nil]
   refine C9 L[i].length (λj s=>s.2=(j:Int)/\s.1=((cnt x y (L.take i)+(L[i].take j).countP (Gx x y):Nat):Int)) ⟨V,by simp⟩ (by omega) ?_ ?_
   ·rintro j ⟨a,c⟩ Y ⟨O,K⟩;simp only at O K;subst O;subst K;have hle:(L[i].take j).countP (Gx x y)<=j:=by
     refine Nat.le_trans List.countP_le_length ?_;rw [List.length_take];omega
    have key:(L[i].take (j+1)).countP (Gx x y)=(L[i].take j).countP (Gx x y)+if Gx x y L[i][j]=true then 1 else 0:=by
     rw [List.take_add_one,List.getElem?_eq_getElem Y,List.countP_append];simp only [Option.toList_some,List.countP_cons,List.countP_nil,Nat.zero_add]
    unfold LF;refine BZ (by simp only;omega) (Ct (m:=j) V Y ?_);refine Bm (S:=λc=>c=Gx x y L[i][j]) ?_ ?_
    ·unfold Gx;refine B2 (λh=>Au (by simp [h])) (λh=>Au (by simp [h]))
    rintro c rfl;refine Bm (S:=λr=>r=((cnt x y (L.take i)+(L[i].take (j+1)).countP (Gx x y):Nat):Int)) ?_ ?_
    ·refine B2 (λh=>?_) (λh=>?_)
     ·refine Bw ((cnt x y (L.take i)+(L[i].take (j+1)).countP (Gx x y):Nat):Int) ?_ (by omega) (by rw [key,if_pos h];omega) (Au V);rw [key,if_pos h];simp only;omega
     ·exact Au (by rw [key,if_neg h];rfl)
    ·rintro r rfl;exact Bw ((j+1:Nat):Int) (by simp) (by omega) (by omega) (Au ⟨V,V⟩)
   ·rintro⟨a,c⟩ ⟨O,K⟩;simp only at O K;subst O;unfold LF;rw [List.take_length] at K;exact BQ (by simp) (Au ⟨_,V,by rw [al];exact K⟩)
  ·rintro r rfl;exact Bw ((i+1:Nat):Int) (by simp) (by omega) (by omega) (Au ⟨V,V⟩)
 ·rintro⟨a,c⟩ ⟨O,K⟩;simp only at O K;subst O;unfold KJ;rw [List.take_length] at K;exact BQ (by simp) (Au ⟨_,V,K⟩)
theorem Xn{F:Nat}{x y:Int}{L:List (List DT)}{s:Int×Int}{l:List DT}(h:ix L s.2=some l):LB F x y L s=LF F x y l:=by
 funext z;unfold LB LF;simp only [h,Option.bind_some];cases ix l z.2 <;> rfl
theorem Xf(F:Nat)(x y:Int)(L:List (List DT)):Of F x y L=KJ F x y L:=by
 funext s;unfold Of KJ;split
 ·rename_i K;cases h:ix L s.2 with
  | none=>
   simp only [Option.bind_none];have e:LB F x y L s=λ_=>none:=by
    funext z;unfold LB;rw [h];rfl
   rw [e];cases F <;> rfl
  | some l=>rw [Xn h];rfl
 ·rfl
theorem SB{o:OW}(h:VO o)(P:PR->Bool):(FW o.1.length (Ce o) P).length<=1024/\∃m,m<=5/\∀s∈FW o.1.length (Ce o) P,s.length=m:=by
 obtain⟨-,hw⟩:=QA (F:=101) (by omega) h;obtain⟨K,m,O,U⟩:=ZR (P:=P) h.n5 hw;exact⟨K,m,O,λs hs=>(U s hs).1⟩
theorem Z9(F:Nat)(a b:Int):f93 F a b=some (if a=0 then 2 else if a<b then 3 else 1):=by
 refine CV ?_;unfold f93;refine Bm (S:=λq=>(q=Sum.inl 2/\a=0)∨(q=Sum.inr (if a<b then 3 else 1)/\¬a=0)) ?_ ?_
 ·refine B2 (λk=>Au (.inl ⟨V,k⟩)) (λk=>?_);refine B2 (λK=>?_) (λK=>?_)
  ·refine Bw 2 V (by omega) (by omega) (Bm (S:=λr=>r=3) (BZ K (Bw 3 V (by omega) (by omega) (Au V))) ?_);rintro r rfl;exact Au (.inr ⟨by rw [if_pos K],k⟩)
  ·refine Bm (S:=λr=>r=1) (BQ K (Au V)) ?_;rintro r rfl;exact Au (.inr ⟨by rw [if_neg K],k⟩)
 ·rintro q (⟨rfl,k⟩ | ⟨rfl,k⟩)
  ·rw [Sum.elim_inl,if_pos k];exact Au V
  ·rw [Sum.elim_inr,if_neg k];exact Au V
theorem VT{F:Nat}{o:OW}{x y:Int}(ac:3000<F)(h:NV 40 o):∃r,f50 F o x y=some r/\f57 F o x y=some r:=by
 obtain⟨e,Y,⟨he,z,O⟩ | ⟨rfl,O,K,al,am,ap⟩⟩:=UC (x:=x) (y:=y) (show 100<F by omega) h
 ·refine⟨(0,e),?_,?_⟩
  ·refine CV ?_;unfold f50;exact Bb O (BZ he (Au V))
  ·refine CV ?_;unfold f57;exact Bb Y (BZ he (Au V))
 ·obtain⟨s1,m,hm,s2⟩:=SB K λ_=>true;have hle:cnt x y (Kk o)<=(Kk o).length:=T7 λs hs=>Yr K.n5 s hs;refine⟨(if((cnt x y (Kk o):Nat):Int)=0 then 2 else if((cnt x y (Kk o):Nat):Int)<((Kk o).length:Int) then 3 else 1,0),?_,?_⟩
  ·refine CV ?_;unfold f50;refine Bb O (BQ (by simp) ?_);refine Bb (cC (by omega) K) (Bm (Tl (by omega) s1 λs hs=>by rw [s2 s hs];omega) ?_);rintro r rfl;refine Bb (Z9 _ _ _) (Au V)
  ·refine CV ?_;unfold f57;refine Bb Y (BQ (by simp) ?_);refine Bm (ZB ac K) ?_;intro r U;have Z:r.length=(Kk o).length:=U.length_eq;rw [Xf];refine Bm (Tl (by omega) (by rw [Z];exact s1) λs hs=>by rw [s2 s (U.mem_iff.1 hs)];omega) ?_;rintro c rfl;rw [XF U,Z];refine B2 (λk=>Au (by rw [if_pos k])) (λk=>?_);rw [if_neg k];refine B2 (λag=>Au (by rw [if_neg (by omega)])) (λag=>Au (by rw [if_pos (by omega)]))
theorem Yk{F:Nat}{o:OW}{x y:Int}(ag:3000<F)(h:NV 40 o):∃r,f58 F o x y=some r/\f59 F o x y=some r:=by
 obtain⟨e,U,⟨he,z,O⟩ | ⟨rfl,O,K,Y,Z,al⟩⟩:=UC (x:=x) (y:=y) (show 100<F by omega) h
 ·refine⟨(0,e),?_,?_⟩
  ·refine CV ?_;unfold f58;exact Bb O (BZ he (Au V))
  ·refine CV ?_;unfold f59;exact Bb U (BZ he (Au V))
 ·obtain⟨ay,am,ap⟩:=Zh (F:=F) K.n5 Y.1 Y.2 Z.1 Z.2 al;have aq:=Um (P:=DJ (min x y,max x y)) (show 100<F by omega) K ap;obtain⟨s1,m,hm,s2⟩:=SB K (DJ (min x y,max x y));obtain⟨r,av,ac⟩:=TQ (p:=(min x y,max x y)) ag K;have az:=ac.length_eq;have aw:∀s∈r,s.length=m:=λs hs=>s2 s (ac.mem_iff.1 hs);generalize FW o.1.length (Ce o) (DJ (min x y,max x y))=L at*;refine⟨if L.length=0 then(0,11) else((m:Nat),0),?_,?_⟩
  ·refine CV ?_;unfold f58;refine Bb O (BQ (by simp) ?_);refine Bb am (Bb aq ?_);refine B2 (λk=>Au (by rw [if_pos (by omega)])) (λk=>?_);rw [if_neg (by omega)];exact Ct (m:=0) V (by omega) (Au (by rw [s2 _ (List.getElem_mem _)]))
  ·refine CV ?_;unfold f59;refine Bb U (BQ (by simp) ?_);refine Bb av (B2 (λk=>Au (by rw [if_pos (by omega)])) (λk=>?_));rw [if_neg (by omega)];exact Ct (m:=0) V (by omega) (Au (by rw [aw _ (List.getElem_mem _)]))
theorem bI{F:Nat}(ag:3000<F)(hs:f18 F=some true)(o:OW)(d:DT)(x y:Int)(OX:List Int):f14 F o d x y OX=some true:=by
 refine CV ?_;unfold f14;refine Bm (aa (by omega)) ?_;intro c Z;refine B2 (λ_=>Bb hs (Au V)) (λh=>?_);have al:=Z (by simpa using h);refine Bb (b:=(OX,0,2685821657736338717)) V (Bm (aV (k:=0) (b:=(OX,0,2685821657736338717)) (by omega) al ⟨Int.le_refl _,Int.le_refl _⟩ (by omega)) ?_);rintro⟨os,b⟩ ⟨⟨a,c,e,ap,Z⟩,hb⟩;simp only at e hb;have aq:∀x∈os,NV 40 x:=by
  intro x ac;rw [e] at ac;simp only [List.mem_cons,List.not_mem_nil,or_false] at ac;rcases ac with rfl | rfl | rfl
  ·exact al.up (by omega)
  ·exact ap.up (by omega)
  ·exact Z.up (by omega)
 have hlen:os.length=3:=by rw [e];rfl
 clear e
 dsimp only;refine Bm (S:=λq=>∃b,q=Sum.inr b) ?_ ?_
 ·refine C9 3 (λi s=>s.2.2.2=(i:Int)/\BG (101+4*i) (s.1,s.2.1,s.2.2.1)) ⟨V,hb.M (by omega)⟩ (by omega) ?_ ?_
  ·rintro i ⟨l,t,av,z⟩ hi ⟨K,O⟩;simp only at K O;subst K;have U:=aq _ (List.getElem_mem (show i<os.length by omega));unfold N9
   dsimp only;refine BZ (by omega) (Ct (m:=i) V (by omega) ?_);refine Bb (Zx (by omega) U) (Bm (J4 O (by omega) (by omega)) ?_);rintro⟨aw,az⟩ ⟨_,_,am⟩;simp only at am ⊢;refine Bm (J4 am (by omega) (by omega)) ?_;rintro⟨ay,a0⟩ ⟨_,_,g2⟩;simp only at g2 ⊢;refine Bm (S:=λq=>q=Sum.inr ()) ?_ ?_
   ·refine C9 3 (λj s=>s=(j:Int)) V (by omega) ?_ ?_
    ·rintro j s a1 rfl;obtain⟨u,hu⟩:∃u,[x,aw,0][j]? =some u:=⟨_,List.getElem?_eq_getElem (by simp;omega)⟩;obtain⟨v,Y⟩:∃v,[y,ay,1][j]? =some v:=⟨_,List.getElem?_eq_getElem (by simp;omega)⟩;obtain⟨r1,p1,p2⟩:=VT (x:=u) (y:=v) ag U;obtain⟨r2,p3,p4⟩:=Yk (x:=u) (y:=v) ag U;unfold Ou
     dsimp only;refine BZ (by simp only [List.length_cons,List.length_nil];omega) (Bb (FK (m:=j) V hu) ?_);refine Bb (FK (m:=j) V Y) (Bb p1 ?_);refine Ct (m:=i) V (by omega) (Bb (FK (m:=j) V hu) ?_);refine Bb (FK (m:=j) V Y) (Bb p2 ?_);refine Bb (FK (m:=j) V hu) (Bb (FK (m:=j) V Y) ?_);refine Bb p3 (Ct (m:=i) V (by omega) ?_);refine Bb (FK (m:=j) V hu) (Bb (FK (m:=j) V Y) ?_);refine Bb p4 (Bm (S:=λc=>c=false) (BQ (by simp) (Au (by simp))) ?_);rintro c rfl;refine Bm (S:=λc=>c=false) (BQ (by simp) (Au (by simp))) ?_;rintro c rfl;refine Bm (S:=λc=>c=false) (BQ (by simp) (Au (by simp))) ?_;rintro c rfl;refine BQ (by simp) (Bw ((j+1:Nat):Int) (by simp) (by omega) (by omega) ?_);exact Au V
    ·rintro s rfl;unfold Ou;exact BQ (by simp) (Au ⟨_,V,V⟩)
   ·rintro q rfl;rw [Sum.elim_inr];refine Ct (m:=i) V (by omega) (Bb (ZU (by omega) U) ?_);refine BQ (by simp) (Bw ((i+1:Nat):Int) (by simp) (by omega) (by omega) ?_);exact Au ⟨V,g2.M (by omega)⟩
  ·rintro⟨l,t,av,z⟩ ⟨K,O⟩;simp only at K O;subst K;unfold N9;exact BQ (by simp only;omega) (Au ⟨_,V,_,V⟩)
 ·rintro q ⟨b,rfl⟩;rw [Sum.elim_inr];exact Bb hs (Au V)
end Pal
