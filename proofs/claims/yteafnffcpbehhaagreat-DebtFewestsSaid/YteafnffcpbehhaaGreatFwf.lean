/- DebtFewests is true for every input: the first settlement with the fewest payments: a part (6 of 10) of the proof of its row. -/
import Derived.Test.YteafnffcpbehhaaGreatFwa
import Derived.Test.YteafnffcpbehhaaGreatFwb
import Derived.Test.YteafnffcpbehhaaGreatFwc
import Derived.Test.YteafnffcpbehhaaGreatFwe
set_option linter.all false
set_option maxRecDepth 100000
namespace Pal
theorem ju{x y z:DT}(h:Fu x z=true):Fu x y=true∨Fu y z=true:=by
 grind [Fu,OB]
theorem Xz{x y:DT}(I:Fu x y=false)(K:Fu y x=false):x=y:=by
 refine have I:=K2.1 I;have K:=K2.1 K;wh AB (wh AB AB)
theorem Oy(x y:DT)(a b:List DT):BL (x::a) (y::b)=if x=y then BL a b else Fu x y:=rfl
theorem KX:∀a:List DT,BL a a=false
 | []=>rfl
 | x::a=>by rw[Oy,d9 rfl];exact KX a
theorem T5:∀{a b c:List DT},BL a c=true->BL a b=true∨BL b c=true
 | [],[],c,h=>.inr h
 | [],_::_,_,_=>.inl rfl
 | _::_,_,[],h=>by cases h
 | x::a,[],z::c,_=>.inr rfl
 | x::a,y::b,z::c,h=>by
  rw[Oy] at h ⊢
  rw[Oy]
  by_cases e:x=z
  .subst e
   rw[d9 rfl] at h;by_cases I:x=y;subst I;rw[d9 rfl,d9 rfl];exact T5 h;rw[d0 I,d0 (λq=>I q.symm)];by_cases q:Fu x y=true;exact .inl q;right;refine ts λk=>I (Xz (s9.2 q) (s9.2 k))
  .rw [d0 e] at h;by_cases I:x=y;subst I;rw[d0 e];exact .inr h;rw[d0 I];by_cases e2:y=z;subst e2;exact .inl h;rw[d0 e2];exact ju h
theorem Kn{a b c:List DT}(I:BL b a=false)(K:BL c b=false):BL c a=false:=by
 grind [T5]
theorem kM{x y:DT}(h:Fu x y=true):Fu y x=false:=by rw[OB] at h;rw[K2];omega
theorem Kr:∀{a b:List DT},BL a b=true->BL b a=false
 | [],[],h=>by cases h
 | [],_::_,_=>rfl
 | _::_,[],h=>by cases h
 | x::a,y::b,h=>by
  rw[Oy] at h ⊢
  by_cases e:x=y;subst e;rw[d9 rfl] at h ⊢;exact Kr h;rw[d0 e] at h;rw[d0 (λq=>e q.symm)];exact kM h
structure RS (l l':LL) (a b:Nat):Prop where
 len:l'.length=l.length
 out:∀i,i<a∨b<=i->l'[i]?=l[i]?
 cls:∀P:List DT->Prop,(∀i x,a<=i->i<b->l[i]?=some x->P x)->∀i x,a<=i->i<b->l'[i]?=some x->P x
theorem RS.refl(l:LL)(a b:Nat):RS l l a b:=⟨V,λ_ _=>V,λ_ h=>h⟩
abbrev Dk:=@RS.refl
variable{a:Nat}
theorem RS.trans{l1 l2 I:LL}{b:Nat}(h:RS l1 l2 a b)(k:RS l2 I a b):RS l1 I a b:=
 ⟨k.len.trans h.len,λi hi=>(k.out i hi).trans (h.out i hi),λP K=>k.cls P (h.cls P K)⟩
variable{l l':LL}
theorem RS.wide{b dn b':Nat}(h:RS l l' a b)(ac:dn<=a)(hb:b<=b'):RS l l' dn b':=by
 refine⟨h.len,λi hi=>h.out i AB,λP O i x U Y I=>?_⟩;by_cases q:a<=i/\i<b;exact h.cls P (λj y k1 ag Z=>O j y AB AB Z) i x q.1 q.2 I;rw[h.out i AB] at I;exact O i x U Y I
variable{j:Nat}
theorem RS.sw{b i:Nat}(hi:i<l.length)(hj:j<l.length)(I:a<=i/\i<b)(K:a<=j/\j<b):RS l ((l.set i l[j]).set j l[i]) a b:=by
 refine⟨by rw[sW,sW],λq O=>by rw[s0 AB,s0 AB],λP U q x k1 Y Z=>?_⟩
 grind
abbrev Ed:=@RS.sw
def EX(l:LL)(a b:Nat):Prop:=∀i j x y,a<=i->i<j->j<b->l[i]?=some x->l[j]?=some y->BL y x=false
variable{F:Nat}
theorem SL.cm{L:LL}(I:5000<F)(h:SL L l){i:Nat}(hi:i<l.length)(hj:j<l.length):Au (f74 F l[i] l[j]) (λc=>c<0↔BL l[i] l[j]=true):=by
 let⟨a1,K⟩:=h.ok hi;let⟨_,O⟩:=h.ok hj
 grind [AJ,Ap,Ty,f74]
structure Lf (l:LL) (a j k:Nat):Prop where
 rest:∀p q x y,a<=p->p<q->q<k->p≠j->q≠j->l[p]?=some x->l[q]?=some y->BL y x=false
 last:∀q x y,j<q->q<k->l[j]?=some x->l[q]?=some y->BL y x=false
theorem ak{k:Nat}{L:LL}(ap:5000<F)(h:SL L l)(hj:j<k)(a0:k<=L.length)(am:a<=j)(U:Lf l a j k):
  Au (Pal.iter (Qe F (a:Int)) F ((j:Int),l)) (λr=>SL L r/\RS l r a k/\EX r a k):=by
 refine have a1:=h.n;Gc (λm s=>∃j:Nat,s.1=(j:Int)/\j=m/\j<k/\a<=j/\SL L s.2/\RS l s.2 a k/\Lf s.2 a j k) ?_ (m:=j) ⟨j,V,V,hj,am,h,Dk _ _ _,U⟩ AB;rintro _ ⟨_,l'⟩ ⟨j,rfl,rfl,hj,am,h,al,U⟩;simp only at h al U;have a2:=h.len;unfold Qe;refine AJ (S:=λc=>(c=true->a<j/\∀x y,l'[j - 1]?=some x->l'[j]?=some y->BL y x=true)/\(c=false->a<j->∀x y,l'[j - 1]?=some x->l'[j]?=some y->BL y x=false)) ?_ ?_
 .refine Bw (λk=>?_) (λk=>Ap ⟨AM,λ_ q=>by simp only at k;omega⟩);simp only at k ⊢;have Y:j<l'.length:=by omega
  have O:j - 1<l'.length:=by omega
  refine Bh (m:=j) V Y (A4 ((j - 1:Nat):Int) AB (Bh (m:=j - 1) V O (AJ (h.cm ap Y O) (λc aj=>Ap ⟨λq=>⟨AB,λx y K I=>?_⟩,λq _ x y K I=>?_⟩))));rw[bZ O] at K;rw[bZ Y] at I;cases K;cases I;exact aj.1 (uc q);rw[bZ O] at K;rw[bZ Y] at I;cases K;cases I;exact s9.2 λz=>vu q (aj.2 z)
 .intro c ⟨aj,aq⟩;refine Bw (λk=>?_) (λk=>Ap ⟨h,al,?_⟩)
  .let⟨a3,av⟩:=aj k;have Y:j<l'.length:=by omega
   have O:j - 1<l'.length:=by omega
   refine A4 ((j - 1:Nat):Int) AN (A4 ((j - 1:Nat):Int) AN (Bh (m:=j - 1) V O (Bh (m:=j) V Y (Bh (m:=j - 1) V (by rw[sW];simp only;omega) (A4 ((j - 1:Nat):Int) AN (Ap ⟨j - 1,AB,j - 1,V,V,AB,AB,?_⟩))))));simp only[nn];refine have aw:=av _ _ (bZ O) (bZ Y);⟨h.sw Y O,al.trans (Ed Y O AB AB),?_,?_⟩
   .intro p q x y ac ag ai a4 a5 K I;have ex:((l'.set j l'[j - 1]).set (j - 1) l'[j])[p]?=if p=j then some l'[j - 1] else l'[p]? :=by
     rw[s0 AB,tD];by_cases e:j=p;rw[d9 e,d9 AB,d9 e.symm];rw[d0 e,d0 (λz=>e z.symm)]
    have ay:((l'.set j l'[j - 1]).set (j - 1) l'[j])[q]?=if q=j then some l'[j - 1] else l'[q]? :=by
     rw[s0 AB,tD];by_cases e:j=q;rw[d9 e,d9 AB,d9 e.symm];rw[d0 e,d0 (λz=>e z.symm)]
    rw[ex] at K;rw[ay] at I;by_cases Z:p=j;rw[d9 Z] at K;rw[d0 AB] at I;cases K;exact U.rest (j - 1) q _ y AB AB ai AB AB (bZ O) I;rw[d0 Z] at K;by_cases e2:q=j;rw[d9 e2] at I;cases I;exact U.rest p (j - 1) x _ ac AB AB Z AB K (bZ O);rw[d0 e2] at I;exact U.rest p q x y ac ag ai Z e2 K I
   .intro q x y ac ag K I;rw[tC (by rw[sW];omega)] at K;cases K;rw[s0 AB,tD] at I;by_cases e:j=q;rw[d9 e,d9 AB] at I;cases I;exact Kr aw;rw[d0 e] at I;exact U.last q _ y AB ag (bZ Y) I
  .have k:c=false:=by simpa using k
   intro p q x y ac ag ai K I;by_cases Z:p=j;subst Z;exact U.last q x y ag ai K I
   .by_cases e2:q=j
    .subst e2;have hb:=aq k AB;have O:q - 1<l'.length:=by omega
     by_cases az:p=q - 1;subst az;exact hb x y K I;exact Kn (U.rest p (q - 1) x _ ac AB AB Z AB K (bZ O)) (hb _ y (bZ O) I)
    .exact U.rest p q x y ac ag ai Z e2 K I
theorem Xj{b:Nat}{L:LL}(Z:5000<F)(h:SL L l)(hb:b<=L.length)(ag:a<=b):Au (f137 F l (a:Int) (b:Int)) (λr=>SL L r/\RS l r a b/\EX r a b):=by
 have ai:=h.n;unfold f137;refine A4 ((a+1:Nat):Int) AM (AJ (S:=λr=>SL L r/\RS l r a b/\EX r a b) ?_ (λr ac=>Ap ac));refine Gc (λm s=>∃i:Nat,s.1=(i:Int)/\m=b+1 - i/\a<i/\SL L s.2/\RS l s.2 a b/\EX s.2 a i) ?_ (m:=b - a) ⟨a+1,V,AB,AB,h,Dk _ _ _,λi j x y I K Y=>by omega⟩ AB;rintro _ ⟨_,l'⟩ ⟨i,rfl,rfl,hi,h,O,U⟩;simp only at h O U;unfold TQ;refine Bw (λk=>?_) (λk=>Ap ⟨h,O,λp q x y I K Y=>U p q x y I K (by simp only at k;omega)⟩);simp only at k ⊢;refine AJ (ak Z h (j:=i) (k:=i+1) (a:=a) AB AB AB ⟨λp q x y I K Y aj al=>U p q x y I K AB,λq x y I K=>by omega⟩) ?_;rintro r ⟨r1,r2,r3⟩;exact A4 ((i+1:Nat):Int) AM (Ap ⟨b+1 - (i+1),AB,i+1,V,V,AB,r1,O.trans (r2.wide (jK _) AB),r3⟩)
variable{body:Int->Option (Bn Int Int)}
theorem Zv{i:Nat}(A:Nat->Prop)(Z:5000<F)(hj:j<=1023)(ac:i<=1030)(hs:∀q:Nat,i<=q->q<=j->Au (body (q:Int)) (λr=>(r=.more ((q+1:Nat):Int)/\A q)∨(r=.done (q:Int)/\¬A q)))(he:∀q:Nat,j<q->body (q:Int)=some (.done (q:Int))):
  Au (Pal.iter body F (i:Int)) (λr=>∃q:Nat,r=(q:Int)/\i<=q/\(q<=j+1∨q=i)/\(∀p,i<=p->p<q->A p)/\(q<=j->¬A q)):=by
 refine Gc (λm s=>∃q:Nat,s=(q:Int)/\m=1030 - q/\i<=q/\(q<=j+1∨q=i)/\∀p,i<=p->p<q->A p) ?_ (m:=1030 - i) ⟨i,V,V,jK _,.inr V,λp I K=>by omega⟩ AB;rintro _ _ ⟨q,rfl,rfl,I,K,O⟩;rcases mt j q with k | k;rw[he q k];exact Ap ⟨q,V,I,K,O,λz=>by omega⟩
 refine(hs q I k).Aj ?_;rintro _ (⟨rfl,U⟩ | ⟨rfl,U⟩);refine⟨1030 - (q+1),AB,q+1,V,V,AB,.inl AB,λp k1 Y=>?_⟩;rcases v8 (Nat.le_of_lt_succ Y) with z | rfl;exact O p k1 z;exact U;exact⟨q,V,I,K,O,λ_=>U⟩
theorem Zx{i:Nat}(A:Nat->Prop)(Z:5000<F)(hj:j<=1023)(hi:1<=i)(hs:∀q:Nat,i<=q->q<=j->Au (body (q:Int)) (λr=>(r=.more ((q - 1:Nat):Int)/\A q)∨(r=.done (q:Int)/\¬A q)))(he:∀q:Nat,q<i->body (q:Int)=some (.done (q:Int))):
  Au (Pal.iter body F (j:Int)) (λr=>∃q:Nat,r=(q:Int)/\q<=j/\(i<=q+1∨q=j)/\(∀p,q<p->p<=j->A p)/\(i<=q->¬A q)):=by
 refine Gc (λm s=>∃q:Nat,s=(q:Int)/\q=m/\q<=j/\(i<=q+1∨q=j)/\∀p,q<p->p<=j->A p) ?_ (m:=j) ⟨j,V,V,jK _,.inr V,λp I K=>by omega⟩ AB;rintro _ _ ⟨q,rfl,rfl,I,K,O⟩;rcases mt q i with k | k;rw[he q k];exact Ap ⟨q,V,I,K,O,λz=>by omega⟩
 refine(hs q k I).Aj ?_;rintro _ (⟨rfl,U⟩ | ⟨rfl,U⟩);refine⟨q - 1,AB,q - 1,V,V,AB,.inl AB,λp k1 Y=>?_⟩;rcases v8 (show q<=p by omega) with z | rfl;exact O p z Y;exact U;exact⟨q,V,I,K,O,λ_=>U⟩
abbrev MY(l:LL)(P:List DT)(p:Nat):Prop:=∀x,l[p]?=some x->BL x P=true
abbrev MP(l:LL)(P:List DT)(p:Nat):Prop:=∀x,l[p]?=some x->BL x P=false
theorem VI{i:Nat}{L:LL}{P:List DT}{y:Int}(O:5000<F)(h:SL L l)(Z:l[a]?=some P)(hj:j<L.length)(hi:i<=1030):
  Au (Pal.iter (Nt F (a:Int) (y,(j:Int),l)) F (i:Int)) (λr=>∃q:Nat,r=(q:Int)/\i<=q/\(q<=j+1∨q=i)/\(∀p,i<=p->p<q->MY l P p)/\(q<=j->¬MY l P q)):=by
 have ag:=h.n;have ai:=h.len;obtain⟨U,rfl⟩:=d7.1 Z;refine Zv (MY l l[a]) O AB hi (λq ac aj=>?_) λq ac=>?_
 .have I:q<l.length:=by omega
  unfold Nt;refine AJ (S:=λc=>c=true↔MY l l[a] q) ?_ ?_;refine BJ AN (Bh (m:=q) V I (Bh (m:=a) V U (AJ (h.cm O I U) (λc K=>Ap ?_))));simp only[uj];rw[K];exact⟨λz x Y=>by rw[bZ I] at Y;cases Y;exact z,λz=>z _ (bZ I)⟩;intro c K;refine Bw (λk=>?_) (λk=>Ap (.inr ⟨V,λz=>k (K.2 z)⟩));exact A4 ((q+1:Nat):Int) AM (Ap (.inl ⟨V,K.1 k⟩))
 .unfold Nt;rw[d0 AN];rfl
theorem Vy{i:Nat}{L:LL}{P:List DT}{y z:Int}(O:5000<F)(h:SL L l)(Z:l[a]?=some P)(hj:j<L.length)(hi:1<=i):
  Au (Pal.iter (Nr F (a:Int) (y,z,l) (i:Int)) F (j:Int)) (λr=>∃q:Nat,r=(q:Int)/\q<=j/\(i<=q+1∨q=j)/\(∀p,q<p->p<=j->MP l P p)/\(i<=q->¬MP l P q)):=by
 have ag:=h.n;have ai:=h.len;obtain⟨U,rfl⟩:=d7.1 Z;refine Zx (MP l l[a]) O AB hi (λq ac aj=>?_) λq ac=>?_
 .have I:q<l.length:=by omega
  unfold Nr;refine AJ (S:=λc=>c=true↔MP l l[a] q) ?_ ?_;refine BJ AB (Bh (m:=q) V I (Bh (m:=a) V U (AJ (h.cm O I U) (λc K=>Ap ?_))));simp only[uj];rw[K];exact⟨λz x Y=>by rw[bZ I] at Y;cases Y;exact s9.2 z,λz=>s9.1 (z _ (bZ I))⟩;intro c K;refine Bw (λk=>?_) (λk=>Ap (.inr ⟨V,λz=>k (K.2 z)⟩));exact A4 ((q - 1:Nat):Int) AB (Ap (.inl ⟨V,K.1 k⟩))
 .unfold Nr;rw[d0 AB];rfl
theorem Gd{i:Nat}(hi:i<l.length)(hj:j<l.length)(p:Nat):((l.set i l[j]).set j l[i])[p]?=if p=j then some l[i] else if p=i then some l[j] else l[p]? :=by
 grind
structure KB (l:LL) (P:List DT) (a b i j:Nat):Prop where
 pv:l[a]?=some P
 lo:∀p,a<p->p<i->MY l P p
 hi:∀p,j<p->p<b->MP l P p
variable{q:Nat}
theorem KB.sw{P:List DT}{b i p:Nat}(h:KB l P a b i j)(O:p<l.length)(U:q<l.length)(aj:a<p)(al:p<q)(am:q<b)(Z:∀k,i<=k->k<p->MY l P k)(ac:∀k,q<k->k<=j->MP l P k)(ag:¬MY l P p)(ai:¬MP l P q):
  KB ((l.set p l[q]).set q l[p]) P a b (p+1) (q - 1):=by
 refine⟨by rw[Gd O U,d0 AB,d0 AB];exact h.pv,λk k1 Y x I=>?_,λk k1 Y x I=>?_⟩;rw[Gd O U,d0 AB] at I;by_cases e:k=p;rw[d9 e] at I;cases I;refine ts λz=>ai λy K=>?_;rw[bZ U] at K;cases K;exact s9.2 z;rw[d0 e] at I;by_cases z:k<i;exact h.lo k k1 z x I;exact Z k AB AB x I;rw[Gd O U] at I;by_cases e:k=q;rw[d9 e] at I;cases I;refine s9.2 λz=>ag λy K=>?_;rw[bZ O] at K;cases K;exact z;rw[d0 e,d0 AB] at I;by_cases z:j<k;exact h.hi k z Y x I;exact ac k AB AB x I
theorem aS{b i:Nat}{L:LL}{P:List DT}(Y:5000<F)(h:SL L l)(hb:b<=L.length)(aq:a<b)(hi:a<i)(Z:i<=b)(hj:a<=j)(ac:j<b)(ag:i<=j+1)(I:KB l P a b i j):
  Au (Pal.iter (Qd F (a:Int)) F ((i:Int),(j:Int),l)) (λr=>∃q:Nat,r.1=(q:Int)/\a<=q/\q<b/\SL L r.2/\RS l r.2 a b/\KB r.2 P a b (q+1) q):=by
 refine have av:=h.n;Gc (λm s=>∃i j:Nat,s.1=(i:Int)/\s.2.1=(j:Int)/\m=b - i/\a<i/\i<=b/\a<=j/\j<b/\i<=j+1/\SL L s.2.2/\RS l s.2.2 a b/\KB s.2.2 P a b i j) ?_ (m:=b - i) ⟨i,j,V,V,V,hi,Z,hj,ac,ag,h,Dk _ _ _,I⟩ AB;rintro _ ⟨_,_,l'⟩ ⟨i,j,rfl,rfl,rfl,hi,Z,hj,ac,ag,h,U,I⟩;simp only at h U I;have aw:=h.len;unfold Qd;refine AJ (VI Y h I.pv AB AB) ?_;rintro _ ⟨p,rfl,p1,p2,p3,p4⟩;refine AJ (Vy Y h I.pv AB AB) ?_;rintro _ ⟨q,rfl,ay,az,ai,aj⟩;refine Bw (λk=>Ap ⟨q,V,AB,AB,h,U,I.pv,λk k1 al=>?_,λk k1 al=>?_⟩) (λk=>?_);by_cases z:k<i;exact I.lo _ k1 z;exact p3 _ AB AB;by_cases z:j<k;exact I.hi _ z al;exact ai _ k1 AB
 have a0:p≠q:=λe=>by
  subst e;refine have u1:=p4 AB;have u2:=aj AB;u1 λx ap=>ts λz=>u2 λy am=>?_;rw[ap] at am;cases am;exact s9.2 z
 have K:p<l'.length:=by omega
 have O:q<l'.length:=by omega
 refine Bh (m:=q) V O (Bh (m:=p) V K (A4 ((p+1:Nat):Int) AM (A4 ((q - 1:Nat):Int) AB (Ap ⟨b - (p+1),AB,p+1,q - 1,V,V,V,AB,AB,AB,AB,AB,?_⟩))));simp only[nn];exact⟨h.sw K O,U.trans (Ed K O AB AB),I.sw K O AB AB AB p3 ai (p4 AB) (aj AB)⟩
def Part(l:LL)(a b m:Nat):Prop:=∃P,l[m]?=some P/\(∀p x,a<=p->p<m->l[p]?=some x->BL P x=false)/\∀p x,m<p->p<b->l[p]?=some x->BL x P=false
theorem KB.fin{P:List DT}{b:Nat}(h:KB l P a b (q+1) q)(ac:a<=q)(K:a<l.length)(O:q<l.length):Part ((l.set q l[a]).set a l[q]) a b q:=by
 have U:=h.pv;rw[bZ K] at U;refine have U:=f8 U;⟨P,?_,λp x Y Z I=>?_,λp x Y Z I=>?_⟩
 .grind [Gd]
 rw[Gd O K] at I;by_cases e:p=a;rw[d9 e] at I;cases I;exact Kr (h.lo q AB AB _ (bZ O));rw[d0 e,d0 AB] at I;exact Kr (h.lo p AB AB x I);rw[Gd O K,d0 AB,d0 AB] at I;exact h.hi p Y Z x I
variable{v:Nat}
theorem db{b:Nat}{L:LL}(aj:5000<F)(h:SL L l)(hb:b<=L.length)(a8:a+12<b)(a9:a<=v)(bb:v<b):
  Au (f144 F l (a:Int) (b:Int) (v:Int)) (λr=>∃q:Nat,r.1=(q:Int)/\a<=q/\q<b/\SL L r.2.2/\RS l r.2.2 a b/\Part r.2.2 a b q):=by
 have be:=h.n;have a0:=h.len;have O:a<l.length:=by omega
 have U:v<l.length:=by omega
 unfold f144;refine Bh (m:=v) V U (Bh (m:=a) V O (A4 ((a+1:Nat):Int) AM (A4 ((b - 1:Nat):Int) AB ?_)));simp only[nn];have K:=h.sw (i:=a) (j:=v) O U;have am:=Ed (a:=a) (b:=b) O U AB AB;have Y:((l.set a l[v]).set v l[a])[a]?=some l[v]:=by
  rw[Gd O U];by_cases e:a=v;subst e;rw[d9 rfl];rw[d0 e,d9 rfl]
 have bg:((l.set a l[v]).set v l[a]).length=L.length:=by rw[sW,sW];exact a0
 have a1:∀x y:List DT,TN F l (a:Int) (v:Int) x y ((b - 1:Nat):Int)=Nt F (a:Int) (0,((b - 1:Nat):Int),(l.set a x).set v y):=λx y=>rfl;have a2:∀(x y:List DT) (z:Int),TI F l (a:Int) (v:Int) x y z=Nr F (a:Int) (0,0,(l.set a x).set v y) z:=λx y z=>rfl;rw[a1];simp only[a2];generalize l[v]=x at*;generalize l[a]=y at*;generalize (l.set a x).set v y=l' at*;have a3:KB l' x a b (a+1) (b - 1):=⟨Y,λp a4 K=>by omega,λp a4 K=>by omega⟩;have Z:a<l'.length:=by omega
 refine AJ (VI aj K Y AB AB) ?_;rintro _ ⟨p,rfl,p1,p2,p3,p4⟩;refine AJ (Vy aj K Y AB AB) ?_;rintro _ ⟨q,rfl,bi,bn,ap,aq⟩;refine Bw (λk=>?_) (λk=>?_)
 .have I:q<l'.length:=by omega
  refine Bh (m:=a) V Z (Bh (m:=q) V I (Ap ⟨q,V,AB,AB,?_⟩));simp only[nn];have a5:KB l' x a b (q+1) q:=⟨Y,λk k1 a6=>p3 k AB AB,λk k1 a6=>ap k k1 AB⟩;exact⟨K.sw I Z,am.trans (Ed I Z AB AB),a5.fin AB Z I⟩
 .have bo:p≠q:=λe=>by
   subst e;refine have u1:=p4 AB;have u2:=aq AB;u1 λx a7=>ts λz=>u2 λy av=>?_;rw[a7] at av;cases av;exact s9.2 z
  have ac:p<l'.length:=by omega
  have I:q<l'.length:=by omega
  refine Bh (m:=q) V I (Bh (m:=p) V ac (A4 ((p+1:Nat):Int) AM (A4 ((q - 1:Nat):Int) AB ?_)));simp only[nn];refine AJ (aS aj (K.sw ac I) hb AB AB AB AB AB AB (a3.sw ac I AB AB AB p3 ap (p4 AB) (aq AB))) ?_;rintro⟨_,aw⟩ ⟨r,rfl,r1,r2,al,ay,az⟩;simp only at al ay az;have bv:=al.len;have ag:a<aw.length:=by omega
  have ai:r<aw.length:=by omega
  refine Bh (m:=a) V ag (Bh (m:=r) V ai (Ap ⟨r,V,r1,r2,?_⟩));simp only[nn];exact⟨al.sw ai ag,((am.trans (Ed ac I AB AB)).trans ay).trans (Ed ai ag AB AB),az.fin r1 ag ai⟩
abbrev MQ(l:LL)(P:List DT)(p:Nat):Prop:=∀x,l[p]?=some x->BL P x=true
abbrev MV(l:LL)(P:List DT)(p:Nat):Prop:=∀x,l[p]?=some x->BL P x=false
theorem aI{i:Nat}{L:LL}{P:List DT}{y:Int}(O:5000<F)(h:SL L l)(Z:l[a]?=some P)(hj:j<L.length)(hi:i<=1030):
  Au (Pal.iter (OH F (a:Int) (y,(j:Int),l)) F (i:Int)) (λr=>∃q:Nat,r=(q:Int)/\i<=q/\(q<=j+1∨q=i)/\(∀p,i<=p->p<q->MV l P p)/\(q<=j->¬MV l P q)):=by
 have ag:=h.n;have ai:=h.len;obtain⟨U,rfl⟩:=d7.1 Z;refine Zv (MV l l[a]) O AB hi (λq ac aj=>?_) λq ac=>?_
 .have I:q<l.length:=by omega
  unfold OH;refine AJ (S:=λc=>c=true↔MV l l[a] q) ?_ ?_;refine BJ AN (Bh (m:=a) V U (Bh (m:=q) V I (AJ (h.cm O U I) (λc K=>Ap ?_))));simp only[uj];rw[K];exact⟨λz x Y=>by rw[bZ I] at Y;cases Y;exact s9.2 z,λz=>s9.1 (z _ (bZ I))⟩;intro c K;refine Bw (λk=>?_) (λk=>Ap (.inr ⟨V,λz=>k (K.2 z)⟩));exact A4 ((q+1:Nat):Int) AM (Ap (.inl ⟨V,K.1 k⟩))
 .unfold OH;rw[d0 AN];rfl
theorem aQ{i:Nat}{L:LL}{P:List DT}{y z:Int}(O:5000<F)(h:SL L l)(Z:l[a]?=some P)(hj:j<L.length)(hi:1<=i):
  Au (Pal.iter (Oz F (a:Int) (y,z,l) (i:Int)) F (j:Int)) (λr=>∃q:Nat,r=(q:Int)/\q<=j/\(i<=q+1∨q=j)/\(∀p,q<p->p<=j->MQ l P p)/\(i<=q->¬MQ l P q)):=by
 have ag:=h.n;have ai:=h.len;obtain⟨U,rfl⟩:=d7.1 Z;refine Zx (MQ l l[a]) O AB hi (λq ac aj=>?_) λq ac=>?_
 .have I:q<l.length:=by omega
  unfold Oz;refine AJ (S:=λc=>c=true↔MQ l l[a] q) ?_ ?_;refine BJ AB (Bh (m:=a) V U (Bh (m:=q) V I (AJ (h.cm O U I) (λc K=>Ap ?_))));simp only[uj];rw[K];exact⟨λz x Y=>by rw[bZ I] at Y;cases Y;exact z,λz=>z _ (bZ I)⟩;intro c K;refine Bw (λk=>?_) (λk=>Ap (.inr ⟨V,λz=>k (K.2 z)⟩));exact A4 ((q - 1:Nat):Int) AB (Ap (.inl ⟨V,K.1 k⟩))
 .unfold Oz;rw[d0 AB];rfl
structure MX (l:LL) (P:List DT) (a b i j:Nat):Prop where
 pv:l[a]?=some P
 lo:∀p,a<p->p<i->MV l P p
 hi:∀p,j<p->p<b->MQ l P p
theorem MX.sw{P:List DT}{b i p:Nat}(h:MX l P a b i j)(O:p<l.length)(U:q<l.length)(aj:a<p)(al:p<q)(am:q<b)(Z:∀k,i<=k->k<p->MV l P k)(ac:∀k,q<k->k<=j->MQ l P k)(ag:¬MV l P p)(ai:¬MQ l P q):
  MX ((l.set p l[q]).set q l[p]) P a b (p+1) (q - 1):=by
 refine⟨by rw[Gd O U,d0 AB,d0 AB];exact h.pv,λk k1 Y x I=>?_,λk k1 Y x I=>?_⟩;rw[Gd O U,d0 AB] at I;by_cases e:k=p;rw[d9 e] at I;cases I;refine s9.2 λz=>ai λy K=>?_;rw[bZ U] at K;cases K;exact z;rw[d0 e] at I;by_cases z:k<i;exact h.lo k k1 z x I;exact Z k AB AB x I;rw[Gd O U] at I;by_cases e:k=q;rw[d9 e] at I;cases I;refine ts λz=>ag λy K=>?_;rw[bZ O] at K;cases K;exact s9.2 z;rw[d0 e,d0 AB] at I;by_cases z:j<k;exact h.hi k z Y x I;exact ac k AB AB x I
theorem aJ{b i:Nat}{L:LL}{P:List DT}(Y:5000<F)(h:SL L l)(hb:b<=L.length)(aq:a<b)(hi:a<i)(Z:i<=b)(hj:a<=j)(ac:j<b)(ag:i<=j+1)(I:MX l P a b i j):
  Au (Pal.iter (QW F (a:Int)) F ((i:Int),(j:Int),l)) (λr=>∃q:Nat,r.1=(q:Int)/\a<q/\q<=b/\SL L r.2/\RS l r.2 a b/\MX r.2 P a b q (q - 1)):=by
 refine have av:=h.n;Gc (λm s=>∃i j:Nat,s.1=(i:Int)/\s.2.1=(j:Int)/\m=b - i/\a<i/\i<=b/\a<=j/\j<b/\i<=j+1/\SL L s.2.2/\RS l s.2.2 a b/\MX s.2.2 P a b i j) ?_ (m:=b - i) ⟨i,j,V,V,V,hi,Z,hj,ac,ag,h,Dk _ _ _,I⟩ AB;rintro _ ⟨_,_,l'⟩ ⟨i,j,rfl,rfl,rfl,hi,Z,hj,ac,ag,h,U,I⟩;simp only at h U I;have aw:=h.len;unfold QW;refine AJ (aI Y h I.pv AB AB) ?_;rintro _ ⟨p,rfl,p1,p2,p3,p4⟩;refine AJ (aQ Y h I.pv AB AB) ?_;rintro _ ⟨q,rfl,ay,az,ai,aj⟩;refine Bw (λk=>Ap ⟨p,V,AB,AB,h,U,I.pv,λk k1 al=>?_,λk k1 al=>?_⟩) (λk=>?_);by_cases z:k<i;exact I.lo _ k1 z;exact p3 _ AB AB;by_cases z:j<k;exact I.hi _ z al;exact ai _ AB AB
 have a0:p≠q:=λe=>by
  subst e;refine have u1:=p4 AB;have u2:=aj AB;u2 λx ap=>ts λz=>u1 λy am=>?_;rw[ap] at am;cases am;exact s9.2 z
 have K:p<l'.length:=by omega
 have O:q<l'.length:=by omega
 refine Bh (m:=q) V O (Bh (m:=p) V K (A4 ((p+1:Nat):Int) AM (A4 ((q - 1:Nat):Int) AB (Ap ⟨b - (p+1),AB,p+1,q - 1,V,V,V,AB,AB,AB,AB,AB,?_⟩))));simp only[nn];exact⟨h.sw K O,U.trans (Ed K O AB AB),I.sw K O AB AB AB p3 ai (p4 AB) (aj AB)⟩
theorem dr{b:Nat}{L:LL}(O:5000<F)(h:SL L l)(hb:b<=L.length)(aj:a+12<b)(al:a<=v)(am:v<b):
  Au (f143 F l (a:Int) (b:Int) (v:Int)) (λr=>∃q:Nat,r.1=(q:Int)/\a<q/\q<=b/\SL L r.2/\RS l r.2 a b/\∃P,l[v]?=some P/\MX r.2 P a b q (q - 1)):=by
 have ap:=h.n;have aq:=h.len;have K:a<l.length:=by omega
 have I:v<l.length:=by omega
 unfold f143;refine Bh (m:=v) V I (Bh (m:=a) V K (A4 ((a+1:Nat):Int) AM (A4 ((b - 1:Nat):Int) AB ?_)));simp only[nn];have U:((l.set a l[v]).set v l[a])[a]?=some l[v]:=by
  rw[Gd K I];by_cases e:a=v;subst e;rw[d9 rfl];rw[d0 e,d9 rfl]
 refine AJ (aJ O (h.sw (i:=a) (j:=v) K I) hb AB AB AB AB AB AB ⟨U,λp Y Z=>by omega,λp Y Z=>by omega⟩) ?_;rintro r ⟨q,r1,r2,r3,ac,ag,ai⟩;exact Ap ⟨q,r1,r2,r3,ac,(Ed K I AB AB).trans ag,l[v],bZ I,ai⟩
theorem dU{b:Nat}{L:LL}(Y:5000<F)(h:SL L l)(hb:b<=L.length)(Z:a<b):Au (f141 F l (a:Int) (b:Int)) (λr=>SL L r/\RS l r a b):=by
 have ac:=h.n;unfold f141;refine A4 ((b - 1:Nat):Int) AB (AJ (S:=λr=>SL L r/\RS l r a b) ?_ (λr U=>Ap U));refine Gc (λm s=>∃i j:Nat,s.1=(i:Int)/\s.2.1=(j:Int)/\j=m/\j<b/\a<=i/\SL L s.2.2/\RS l s.2.2 a b) ?_ (m:=b - 1) ⟨a,b - 1,V,V,V,AB,jK _,h,Dk _ _ _⟩ AB;rintro _ ⟨_,_,l'⟩ ⟨i,j,rfl,rfl,rfl,hj,ag,h,I⟩;simp only at h I;have ai:=h.len;unfold TH;refine Bw (λk=>?_) (λk=>Ap ⟨h,I⟩);simp only at k ⊢;have K:i<l'.length:=by omega
 have O:j<l'.length:=by omega
 refine Bh (m:=j) V O (Bh (m:=i) V K (A4 ((i+1:Nat):Int) AM (A4 ((j - 1:Nat):Int) AB (Ap ⟨j - 1,AB,i+1,j - 1,V,V,V,AB,AB,?_⟩))));simp only[nn];exact⟨h.sw K O,I.trans (Ed K O AB AB)⟩
def IL(l:LL)(a b:Nat):Prop:=∀p x y,0<a->a<=p->p<b->l[a - 1]?=some y->l[p]?=some x->BL x y=false
theorem IL.rs{b:Nat}(h:IL l a b)(K:RS l l' a b):IL l' a b:=λp x y U Y Z O I=>by
 rw[K.out (a - 1) AB] at O
 exact K.cls (λx=>BL x y=false) (λi x k1 ac I=>h i x y U k1 ac O I) p x Y Z I
theorem Lf.step{l:LL}{a j k:Nat}(Y:Lf l a j k)(U:j<l.length)(O:j - 1<l.length)(ap:a<j)(aj:BL l[j] l[j - 1]=true):Lf ((l.set j l[j - 1]).set (j - 1) l[j]) a (j - 1) k:=by
 refine⟨?_,?_⟩;intro p q x y ac ag ai al am K I;rw[Gd U O,d0 al] at K;rw[Gd U O,d0 am] at I;by_cases Z:p=j;rw[d9 Z] at K;rw[d0 AB] at I;cases K;exact Y.rest (j - 1) q _ y AB AB ai AB AB (bZ O) I;rw[d0 Z] at K;by_cases e2:q=j;rw[d9 e2] at I;cases I;exact Y.rest p (j - 1) x _ ac AB AB Z AB K (bZ O);rw[d0 e2] at I;exact Y.rest p q x y ac ag ai Z e2 K I;intro q x y ac ag K I;rw[Gd U O,d9 rfl] at K;cases K;rw[Gd U O,d0 AB] at I;by_cases e:q=j;rw[d9 e] at I;cases I;exact Kr aj;rw[d0 e] at I;exact Y.last q _ y AB ag (bZ U) I
theorem Lf.fin{k:Nat}(O:Lf l a j k)(aj:k<=l.length)(al:j<k)(hb:a<j->∀x y,l[j - 1]?=some x->l[j]?=some y->BL y x=false):EX l a k:=by
 intro p q x y Y Z ac I K;by_cases U:p=j;subst U;exact O.last q x y Z ac I K
 .by_cases e2:q=j
  .subst e2;have ag:q - 1<l.length:=by omega
   by_cases ai:p=q - 1;subst ai;exact hb AB x y I K;exact Kn (O.rest p (q - 1) x _ Y AB AB U AB I (bZ ag)) (hb AB _ y (bZ ag) K)
  .exact O.rest p q x y Y Z ac U e2 I K
theorem bh{b k:Nat}{L:LL}(aj:5000<F)(h:SL L l)(hb:b<=L.length)(al:k<=b)(hj:j<k)(Z:a<=j)(O:Lf l a j k)(am:IL l a b):
  Au (Pal.iter (QI F) F ((j:Int),l)) (λr=>SL L r/\RS l r a k/\EX r a k):=by
 refine have av:=h.n;Gc (λm s=>∃j:Nat,s.1=(j:Int)/\j=m/\j<k/\a<=j/\SL L s.2/\RS l s.2 a k/\Lf s.2 a j k) ?_ (m:=j) ⟨j,V,V,hj,Z,h,Dk _ _ _,O⟩ AB;rintro _ ⟨_,l'⟩ ⟨j,rfl,rfl,hj,Z,h,U,O⟩;simp only at h U O;have aw:=h.len;have ap:=am.rs (U.wide (jK _) al);unfold QI;refine Bw (λk1=>?_) (λk1=>Ap ⟨h,U,O.fin AB hj λz=>by simp only at k1;omega⟩);simp only at k1 ⊢;have K:j<l'.length:=by omega
 have I:j - 1<l'.length:=by omega
 refine Bh (m:=j) V K (A4 ((j - 1:Nat):Int) AB (Bh (m:=j - 1) V I (AJ (h.cm aj K I) ?_)));intro z ac;refine Bw (λq=>Ap ⟨h,U,O.fin AB hj λ_ x y ag ai=>?_⟩) (λq=>?_);rw[bZ I] at ag;rw[bZ K] at ai;cases ag;cases ai;exact s9.2 λw=>q (ac.2 w)
 have Y:=ac.1 (wu q);have aq:a<j:=by
  refine ts λw=>?_;have:j=a:=by omega
  subst this;rw[ap j _ _ AB (jK _) AB (bZ I) (bZ K)] at Y;cases Y
 refine A4 ((j - 1:Nat):Int) AB (A4 ((j - 1:Nat):Int) AB (Bh (m:=j - 1) V I (Bh (m:=j - 1) V (by rw[sW];omega) (A4 ((j - 1:Nat):Int) AB (Ap ⟨j - 1,AB,j - 1,V,V,AB,AB,?_⟩)))));simp only[nn];exact⟨h.sw K I,U.trans (Ed K I AB AB),O.step K I aq Y⟩
theorem aX{i b:Nat}{L:LL}(U:5000<F)(h:SL L l)(hb:b<=L.length)(Y:q<i):Au (Pal.iter (QV F (b:Int)) F ((i:Int),l)) (λr=>SL L r/\RS l r q b):=by
 refine have Z:=h.n;Gc (λm s=>∃j:Nat,s.1=(j:Int)/\m=b - j/\q<j/\SL L s.2/\RS l s.2 q b) ?_ (m:=b - i) ⟨i,V,V,Y,h,Dk _ _ _⟩ AB;rintro _ ⟨_,l'⟩ ⟨j,rfl,rfl,hj,h,K⟩;simp only at h K;have ac:=h.len;unfold QV;refine Bw (λk=>?_) (λk=>Ap ⟨h,K⟩);simp only at k ⊢;have O:j<l'.length:=by omega
 have I:j - 1<l'.length:=by omega
 refine Bh (m:=j) V O (A4 ((j - 1:Nat):Int) AB (Bh (m:=j - 1) V I (AJ (h.cmp U O I) ?_)));intro z _;refine Bw (λ_=>Ap ⟨h,K⟩) (λ_=>A4 ((j - 1:Nat):Int) AB (A4 ((j - 1:Nat):Int) AB (Bh (m:=j - 1) V I (Bh (m:=j - 1) V (by rw[sW];omega) (A4 ((j+1:Nat):Int) AM (Ap ⟨b - (j+1),AB,j+1,V,V,AB,?_⟩))))));simp only[nn];exact⟨h.sw O I,K.trans (Ed O I AB AB)⟩
theorem aL{b i:Nat}{L:LL}{u v:Int}(ai:5000<F)(h:SL L l)(hb:b<=L.length)(aq:a<i)(aj:i<=b)(U:EX l a i):
  Au (Pal.iter (Qa F (b:Int) (u,v,l)) F (i:Int)) (λr=>∃q:Nat,r=(q:Int)/\i<=q/\q<=b/\EX l a q):=by
 refine have av:=h.n;have aw:=h.len;Gc (λm s=>∃q:Nat,s=(q:Int)/\m=b - q/\i<=q/\q<=b/\EX l a q) ?_ (m:=b - i) ⟨i,V,V,jK _,aj,U⟩ AB;rintro _ _ ⟨q,rfl,rfl,al,am,U⟩;unfold Qa;refine AJ (S:=λc=>c=true->q<b/\∀x y,l[q - 1]?=some x->l[q]?=some y->BL y x=false) ?_ ?_
 .refine Bw (λk=>?_) (λk=>Ap AM);have Z:q<l.length:=by omega
  have I:q - 1<l.length:=by omega
  refine Bh (m:=q) V Z (A4 ((q - 1:Nat):Int) AB (Bh (m:=q - 1) V I (AJ (h.cm ai Z I) (λc ac=>Ap (λz=>⟨AB,λx y K O=>?_⟩)))));rw[bZ I] at K;rw[bZ Z] at O;cases K;cases O;exact s9.2 λw=>uc z (ac.2 w)
 intro c ac;refine Bw (λk=>?_) (λk=>Ap ⟨q,V,al,am,U⟩);refine let⟨ay,ag⟩:=ac k;A4 ((q+1:Nat):Int) AM (Ap ⟨b - (q+1),AB,q+1,V,V,AB,AB,λp Y x y g1 g2 az K O=>?_⟩);by_cases e:Y=q
 .subst e;have I:Y - 1<l.length:=by omega
  by_cases ap:p=Y - 1;subst ap;exact ag x y K O;exact Kn (U p (Y - 1) x _ g1 AB AB K (bZ I)) (ag _ y (bZ I) O)
 .exact U p Y x y g1 g2 AB K O
theorem dJ{b:Nat}{L:LL}(al:5000<F)(h:SL L l)(hb:b<=L.length)(a9:a<b)(a3:IL l a b):Au (f142 F l (a:Int) (b:Int)) (λr=>SL L r.2/\RS l r.2 a b/\(r.1=true->EX r.2 a b)):=by
 have bb:=h.n;unfold f142;refine A4 ((a+1:Nat):Int) AM ?_;refine AJ (S:=λr=>∃l',SL L l'/\RS l l' a b/\((r=Sum.inl (true,l')/\EX l' a b)∨r=Sum.inl (false,l')∨r=Sum.inr l')) ?_ ?_
 .refine Gc (λm s=>∃i c:Nat,s.1=(i:Int)/\s.2.1=(c:Int)/\m=5 - c/\a<i/\i<=b/\SL L s.2.2/\RS l s.2.2 a b/\EX s.2.2 a i) ?_ (m:=5) ⟨a+1,0,V,V,V,AB,AB,h,Dk _ _ _,λp q x y aq av am=>by omega⟩ AB;rintro _ ⟨_,_,l'⟩ ⟨i,c,rfl,rfl,rfl,aq,av,h,K,aw⟩;simp only at h K aw;have be:=h.len;unfold T0;refine Bw (λk=>?_) (λk=>Ap ⟨l',h,K,.inr (.inr V)⟩);simp only at k ⊢;refine AJ (aL (l:=l') al h hb aq av aw) ?_;rintro _ ⟨q,rfl,bg,a4,ay⟩;refine Bw (λe=>Ap ⟨l',h,K,.inl ⟨V,(show q=b by omega)▸ay⟩⟩) (λbi=>A4 ((b - a:Nat):Int) AB (Bw (λ_=>Ap ⟨l',h,K,.inr (.inl V)⟩) (λ_=>?_)));have O:q<l'.length:=by omega
  have U:q - 1<l'.length:=by omega
  refine A4 ((q - 1:Nat):Int) AB (A4 ((q - 1:Nat):Int) AB (Bh (m:=q - 1) V U (Bh (m:=q) V O (Bh (m:=q - 1) V (by rw[sW];omega) (A4 ((q - a:Nat):Int) AB ?_)))));simp only[nn];refine have am:=h.sw (i:=q) (j:=q - 1) O U;have ap:=K.trans (Ed (a:=a) (b:=b) O U AB AB);have a5:=a3.rs ap;AJ (S:=λag=>SL L ag/\RS l ag a b/\EX ag a q) ?_ ?_;refine Bw (λaz=>?_) (λaz=>Ap ⟨am,ap,λp Y x y g1 g2 ai=>by omega⟩);refine A4 ((q - 1:Nat):Int) AB (AJ (bh (k:=q) al am hb AB AB AB ⟨λp Y x y g1 g2 ai bn bo Z ac=>?_,λp x y g1 g2=>by omega⟩ a5) (λr I=>Ap ⟨I.1,ap.trans (I.2.1.wide (jK _) AB),I.2.2⟩));rw[Gd O U,d0 AB,d0 AB] at Z;rw[Gd O U,d0 AB,d0 AB] at ac;exact ay p Y x y g1 g2 ai Z ac
  rintro ag ⟨a0,a1,a2⟩;refine A4 ((b - q:Nat):Int) AB (AJ (S:=λaj=>SL L aj/\RS l aj a b/\EX aj a q) ?_ ?_);refine Bw (λaz=>?_) (λ_=>Ap ⟨a0,a1,a2⟩);refine A4 ((q+1:Nat):Int) AM (AJ (aX (q:=q) al a0 hb AB) (λr I=>Ap ⟨I.1,a1.trans (I.2.wide AB (jK _)),λp Y x y g1 g2 ai Z ac=>?_⟩));rw[I.2.out p AB] at Z;rw[I.2.out Y AB] at ac;exact a2 p Y x y g1 g2 ai Z ac
  rintro aj ⟨a6,a7,a8⟩;exact A4 ((c+1:Nat):Int) AM (Ap ⟨5 - (c+1),AB,q,c+1,V,V,V,AB,a4,a6,a7,a8⟩)
 all_goals grind [Ap]
theorem di{b:Nat}{L:LL}(ac:5000<F)(h:SL L l)(hb:b<=L.length)(ag:a+12<b):Au (f139 F l (a:Int) (b:Int)) (λr=>SL L r/\RS l r a b):=by
 have ai:=h.n;unfold f139;refine A4 ((b - a:Nat):Int) AB (AJ (S:=λr=>SL L r/\RS l r a b) ?_ (λr I=>Ap I));refine BJ AB ?_;obtain⟨M,Y,aj,al,am⟩:=fU (F:=F) (n:=b - a) AB AB;refine AR Y (AR (quo (k:=4) AB AB) (A4 (((b - a)/4*2:Nat):Int) AB (A4 ((a+(b - a)/4*2:Nat):Int) AB (A4 ((a+(b - a)/4*2 - 1:Nat):Int) AB (AJ (S:=λr=>SL L r.1/\RS l r.1 a b) ?_ (λr I=>Ap I))))));refine Gc (λm s=>∃i:Nat,s.2.1=(i:Int)/\m=L.length - i/\a<=i/\SL L s.2.2/\RS l s.2.2 a b) ?_ (m:=L.length - (a+(b - a)/4*2 - 1)) ⟨_,V,V,AB,h,Dk _ _ _⟩ AB;rintro _ ⟨w,_,l'⟩ ⟨i,rfl,rfl,ap,h,K⟩;simp only at h K;have aq:=h.len;unfold TY;refine AR (quo (k:=4) AB AB) (A4 (((b - a)/4*2:Nat):Int) AB (A4 ((a+(b - a)/4*2:Nat):Int) AB (A4 ((a+(b - a)/4*2+1:Nat):Int) AB (Bw (λk=>?_) (λk=>Ap ⟨h,K⟩)))));simp only at k;have hi:i<b:=by omega
 obtain⟨v,w',ev⟩:∃v w',f178 F w=some (v,w'):=⟨_,_,V⟩;refine AR ev ?_
 dsimp only;generalize I:(v&&& (M+18446744073709551615)%2^64)%2^64=r;have av:r<M:=by
  rw[← I];refine uB (Nat.mod_le _ _) ?_;have e:(M+18446744073709551615)%2^64=M - 1:=by omega
  rw[e];exact uB Nat.and_le_right AB
 rw[jO AB];refine AJ (S:=λz=>∃q:Nat,z=(q:Int)/\q<b - a) ?_ ?_;refine Bw (λZ=>?_) (λZ=>Ap ⟨r,V,AB⟩);exact A4 ((r - (b - a):Nat):Int) AB (Ap ⟨r - (b - a),V,AB⟩)
 rintro _ ⟨q,rfl,aw⟩;have O:i<l'.length:=by omega
 have U:a+q<l'.length:=by omega
 refine A4 ((a+q:Nat):Int) AM (A4 ((a+q:Nat):Int) AM (Bh (m:=a+q) V U (Bh (m:=i) V O (Bh (m:=a+q) V (by rw[sW];omega) (A4 ((i+1:Nat):Int) AM (Ap ⟨L.length - (i+1),AB,i+1,V,V,AB,?_⟩))))));simp only[nn];exact⟨h.sw O U,K.trans (Ed O U AB AB)⟩
def Hp(l:LL)(fi lo hi:Nat):Prop:=∀i c x y,lo<=i->(c=2*i+1∨c=2*i+2)->c<hi->l[fi+i]?=some x->l[fi+c]?=some y->BL x y=false
structure N1 (l:LL) (fi lo hi i:Nat):Prop where
 rest:∀j c x y,lo<=j->j≠i->(c=2*j+1∨c=2*j+2)->c<hi->l[fi+j]?=some x->l[fi+c]?=some y->BL x y=false
 over:∀j c x y,lo<=j->(i=2*j+1∨i=2*j+2)->(c=2*i+1∨c=2*i+2)->c<hi->l[fi+j]?=some x->l[fi+c]?=some y->BL x y=false
variable{fi hi lo:Nat}
theorem N1.down{i:Nat}(h:N1 l fi lo hi i)(al:fi+hi<=l.length)(am:lo<=i)(ap:i<hi)(ac:q=2*i+1∨q=2*i+2)(ag:q<hi)(Y:fi+i<l.length)(O:fi+q<l.length)(ai:BL l[fi+i] l[fi+q]=true)
  (aj:∀c y,(c=2*i+1∨c=2*i+2)->c<hi->l[fi+c]?=some y->BL l[fi+q] y=false):N1 ((l.set (fi+i) l[fi+q]).set (fi+q) l[fi+i]) fi lo hi q:=by
 have aq:fi+i≠fi+q:=by omega
 refine⟨λj c x y g1 g2 U Z K I=>?_,λj c x y g1 g2 U Z K I=>?_⟩;rw[Gd Y O,d0 AB] at K;rw[Gd Y O] at I;by_cases e:j=i;subst e;rw[d9 rfl] at K;cases K;by_cases e2:c=q;subst e2;rw[d9 rfl] at I;cases I;exact Kr ai;rw[d0 AB,d0 AB] at I;exact aj c y U Z I;rw[d0 AB] at K;rw[d0 AB] at I;by_cases e2:c=i;subst e2;rw[d9 rfl] at I;cases I;exact h.over j q x _ g1 U ac ag K (bZ O);rw[d0 AB] at I;exact h.rest j c x y g1 e U Z K I
 .have:j=i:=by omega
  subst this;rw[Gd Y O,d0 AB,d9 rfl] at K;cases K;rw[Gd Y O,d0 AB,d0 AB] at I;exact h.rest q c _ y AB AB U Z (bZ O) I
theorem WB{L:LL}(ai:5000<F)(h:SL L l)(hh:fi+hi<=L.length)(a3:lo<=1024)(Y:N1 l fi lo hi lo):Au (f176 F l (lo:Int) (hi:Int) (fi:Int)) (λr=>SL L r/\RS l r fi (fi+hi)/\Hp r fi lo hi):=by
 have a4:=h.n;unfold f176;refine AJ (S:=λr=>∃l',(r=Sum.inl l'∨r=Sum.inr l')/\SL L l'/\RS l l' fi (fi+hi)/\Hp l' fi lo hi) ?_ (λr ⟨l',ap,aj⟩=>by rcases ap with rfl | rfl<;>exact Ap aj);by_cases a5:hi<=lo;refine Gc (λm s=>s=((lo:Int),l)) ?_ (m:=0) V AB;rintro _ _ rfl;unfold QM;exact Lx _ V AN AN (Lx _ V AN AN (BJ AN (Ap ⟨l,.inr V,h,Dk _ _ _,λi c x y g1 g2 Z=>by omega⟩)))
 refine Gc (λm s=>∃i:Nat,s.1=(i:Int)/\m=hi - i/\lo<=i/\i<hi/\SL L s.2/\RS l s.2 fi (fi+hi)/\N1 s.2 fi lo hi i) ?_ (m:=hi - lo) ⟨lo,V,V,jK _,AB,h,Dk _ _ _,Y⟩ AB;rintro _ ⟨_,l'⟩ ⟨i,rfl,rfl,aq,av,h,ac,Y⟩;simp only at h ac Y;have aj:=h.len;unfold QM;refine A4 ((2*i:Nat):Int) AM (A4 ((2*i+1:Nat):Int) AM (Bw (λk=>Ap ⟨l',.inr V,h,ac,λj c x y g1 g2 Z K I=>?_⟩) (λk=>?_)));exact Y.rest j c x y g1 AB g2 Z K I
 refine A4 ((2*i+1+1:Nat):Int) AM ?_;have al:fi+(2*i+1)<l'.length:=by omega
 refine AJ (S:=λc=>(c=true->2*i+2<hi/\∀x y,l'[fi+(2*i+1)]?=some x->l'[fi+(2*i+2)]?=some y->BL x y=true)/\(c=false->2*i+2<hi->∀x y,l'[fi+(2*i+1)]?=some x->l'[fi+(2*i+2)]?=some y->BL x y=false)) ?_ ?_
 .refine Bw (λag=>?_) (λag=>Ap ⟨AM,λ_ z=>by omega⟩);have am:fi+(2*i+1)+1<l'.length:=by omega
  refine A4 ((fi+(2*i+1):Nat):Int) AM (Bh (m:=fi+(2*i+1)) V al (A4 ((fi+(2*i+1):Nat):Int) AM (A4 ((fi+(2*i+1)+1:Nat):Int) AM (Bh (m:=fi+(2*i+1)+1) V am (AJ (h.cm ai al am) (λc a6=>Ap ⟨λz=>⟨AB,λx y K I=>?_⟩,λz _ x y K I=>?_⟩))))))
  all_goals grind
 rintro c ⟨aw,a7⟩;refine AJ (S:=λz=>∃q:Nat,z=(q:Int)/\(q=2*i+1∨q=2*i+2)/\q<hi/\∀c x y,(c=2*i+1∨c=2*i+2)->c<hi->l'[fi+q]?=some x->l'[fi+c]?=some y->BL x y=false) ?_ ?_
 .refine Bw (λag=>?_) (λag=>Ap ⟨2*i+1,V,.inl V,AB,λay x y g1 g2 K I=>?_⟩)
  .refine let⟨u1,u2⟩:=aw ag;A4 ((2*i+1+1:Nat):Int) AM (Ap ⟨2*i+1+1,V,.inr V,AB,λay x y g1 g2 K I=>?_⟩)
   grind [Kr,KX]
  all_goals grind [KX]
 rintro _ ⟨q,rfl,az,a0,a1⟩;have O:fi+i<l'.length:=by omega
 have U:fi+q<l'.length:=by omega
 refine A4 ((fi+i:Nat):Int) AM (Bh (m:=fi+i) V O (A4 ((fi+q:Nat):Int) AM (Bh (m:=fi+q) V U (AJ (h.cm ai O U) ?_))));intro z a2;refine Bw (λw=>Ap ⟨l',.inl V,h,ac,λj c x y g1 g2 Z K I=>?_⟩) (λw=>?_)
 .by_cases e:j=i
  .grind [Kn]
  .exact Y.rest j c x y g1 e g2 Z K I
 refine A4 ((fi+i:Nat):Int) AM (A4 ((fi+q:Nat):Int) AM (A4 ((fi+q:Nat):Int) AM (Bh (m:=fi+q) V U (A4 ((fi+i:Nat):Int) AM (Bh (m:=fi+i) V O (Bh (m:=fi+i) V O (Bh (m:=fi+q) V (by rw[sW];omega) (Ap ⟨hi - q,AB,q,V,V,AB,AB,?_⟩))))))));simp only[nn];exact⟨h.sw O U,ac.trans (Ed O U AB AB),Y.down AB aq av az a0 O U (a2.1 (wu w)) λc y g1 g2 I=>a1 c _ y g1 g2 (bZ U) I⟩
theorem Hp.root(h:Hp l fi 0 hi)(Z:fi+hi<=l.length):∀p x y,p<hi->l[fi]?=some x->l[fi+p]?=some y->BL x y=false:=by
 intro p
 induction p using Nat.strongRecOn with
 | _ p U=>
  intro x y Y K I;rcases tO p with rfl | ac;rw[tQ,K] at I;cases I;exact KX x
  .have O:fi+(p - 1)/2<l.length:=by omega
   exact Kn (h ((p - 1)/2) p _ y (tz _) AB Y (bZ O) I) (U ((p - 1)/2) AB x _ AB K (bZ O))
theorem dT{b:Nat}{L:LL}(al:5000<F)(h:SL L l)(hb:b<=L.length)(a4:a<b):Au (f138 F l (a:Int) (b:Int)) (λr=>SL L r/\RS l r a b/\EX r a b):=by
 have a5:=h.n;unfold f138;refine A4 ((b - a:Nat):Int) AB (A4 ((b - a - 1:Nat):Int) AB (AR (quo (k:=2) AB AB) (AJ (S:=λr=>SL L r/\RS l r a b/\Hp r a 0 (b - a)) ?_ ?_)));refine Gc (λm s=>∃i:Nat,s.1=(i:Int) - 1/\i=m/\i<=b - a/\SL L s.2/\RS l s.2 a b/\Hp s.2 a i (b - a)) ?_ (m:=(b - a - 1)/2+1) ⟨(b - a - 1)/2+1,by simp only;omega,V,AB,h,Dk _ _ _,λi c x y g1 g2 U=>by omega⟩ AB;rintro _ ⟨_,l'⟩ ⟨i,rfl,rfl,hi,h,Y,Z⟩;simp only at h Y Z;unfold TO;refine Bw (λk=>?_) (λk=>Ap ⟨h,Y,(show i=0 by simp only at k;omega)▸Z⟩);simp only at k ⊢;rw[show(i:Int) - 1=((i - 1:Nat):Int) by omega];refine AJ (WB al h (lo:=i - 1) (hi:=b - a) (fi:=a) AB AB ⟨λj c x y g1 g2 U aj=>Z j c x y AB U aj,λj c x y g1 g2=>by omega⟩) ?_;rintro r ⟨r1,r2,r3⟩;exact A4 (((i - 1:Nat):Int) - 1) V (Ap ⟨i - 1,AB,i - 1,V,V,AB,r1,Y.trans (r2.wide (jK _) AB),r3⟩)
 .rintro l0 ⟨av,aw,ay⟩;refine A4 ((b - a - 1:Nat):Int) AB (AJ (S:=λr=>SL L r/\RS l r a b/\EX r a b) ?_ (λr az=>Ap az));refine Gc (λm s=>∃i:Nat,s.1=(i:Int) - 1/\i=m/\i<=b - a/\SL L s.2/\RS l s.2 a b/\Hp s.2 a 0 i/\EX s.2 (a+i) b/\∀p q x y,a<=p->p<a+i->a+i<=q->q<b->s.2[p]?=some x->s.2[q]?=some y->BL y x=false) ?_ (m:=b - a) ⟨b - a,by simp only;omega,V,AB,av,aw,ay,λp q x y g1 g2 U=>by omega,λp q x y g1 g2 U aj=>by omega⟩ AB;rintro _ ⟨_,l'⟩ ⟨i,rfl,rfl,hi,h,Y,Z,ai,am⟩;simp only at h Y Z ai am;have a6:=h.len;unfold T1;refine Bw (λk=>?_) (λk=>Ap ⟨h,Y,by rw[show i=0 by simp only at k;omega] at ai;exact ai⟩);simp only at k ⊢;rw[show(i:Int) - 1=((i - 1:Nat):Int) by omega];have ac:a<l'.length:=by omega
  have ag:a+(i - 1)<l'.length:=by omega
  refine A4 ((a+(i - 1):Nat):Int) AB (A4 ((a+(i - 1):Nat):Int) AB (Bh (m:=a+(i - 1)) V ag (Bh (m:=a) V ac (Bh (m:=a+(i - 1)) V (by rw[sW];omega) ?_))));simp only[nn];have a0:=h.sw (i:=a) (j:=a+(i - 1)) ac ag;have a1:=Z.root AB;have g2:=λp=>Gd (l:=l') ac ag p;have a2:N1 ((l'.set a l'[a+(i - 1)]).set (a+(i - 1)) l'[a]) a 0 (i - 1) 0:=by
   refine⟨λj c x y _ g1 U aj I K=>?_,λj c x y g1 U=>by omega⟩;rw[g2,d0 AB,d0 AB] at I;rw[g2,d0 AB,d0 AB] at K;exact Z j c x y (tz _) U AB I K
  refine AJ (WB al a0 (lo:=0) (hi:=i - 1) (fi:=a) AB AB a2) ?_;rintro r ⟨r1,r2,r3⟩;refine A4 (((i - 1:Nat):Int) - 1) V ?_;have old:∀(Q:List DT->Prop),(∀p x,a<=p->p<a+i->l'[p]?=some x->Q x)->∀p x,a<=p->p<a+(i - 1)->r[p]?=some x->Q x:=λQ ap=>r2.cls Q λp x k1 O I=>by
   rw[g2,d0 AB] at I;by_cases e:p=a;rw[d9 e] at I;cases I;exact ap (a+(i - 1)) _ AB AB (bZ ag);rw[d0 e] at I;exact ap p x k1 AB I
  have top:r[a+(i - 1)]?=some l'[a]:=by rw[r2.out _ AB,g2,d9 rfl]
  have bk:∀q,a+i<=q->r[q]?=l'[q]? :=λq a7=>by rw[r2.out q AB,g2,d0 AB,d0 AB]
  refine Ap ⟨i - 1,AB,i - 1,V,V,AB,r1,(Y.trans (Ed ac ag AB AB)).trans (r2.wide (jK _) AB),r3,?_,?_⟩
  .intro p q x y k1 O aq I K;simp only at I K;rw[bk q AB] at K;by_cases e:p=a+(i - 1)
   .grind
   .rw [bk p AB] at I;exact ai p q x y AB O aq I K
  .intro p q x y k1 O aq a3 I K;simp only at I K;by_cases e:q=a+(i - 1)
   .subst e;rw[top] at K;cases K;exact old (λx=>BL l'[a] x=false) (λp x k1 O I=>by
     have:=a1 (p - a) l'[a] x AB (bZ ac) (by rw[show a+(p - a)=p by omega];exact I)
     exact this) p x k1 O I
   .rw [bk q AB] at K;exact old (λx=>BL y x=false) (λp x k1 O I=>am p q x y k1 O AB a3 I K) p x k1 O I
theorem EX.join{r:LL}{b:Nat}{P:List DT}(ag:r[q]?=some P)(ai:∀p x,a<=p->p<q->r[p]?=some x->BL P x=false)(aj:∀p x,q<p->p<b->r[p]?=some x->BL x P=false)(U:EX r a q)(Y:EX r (q+1) b):EX r a b:=by
 intro i j x y k1 I Z K O;by_cases ac:j<q;exact U i j x y k1 I ac K O
 by_cases e2:q<i;exact Y i j x y e2 I Z K O
 grind [Kn]
theorem Xv{P x y:List DT}(I:BL P x=true)(K:BL P y=false):BL x y=false:=by
 grind [Kr,T5]
def J9(L l:LL)(a b:Nat)(r:LL):Prop:=SL L r/\RS l r a b/\EX r a b
theorem cu{N:Nat}{rec:LL->Int->Int->Int->Option LL}{L:LL}(ai:5000<F)(bw:∀(l:LL) (a b:Nat) (k:Int),SL L l->IL l a b->a<=b->b<=L.length->2*(b - a)<N->0<=k->k<=100->Au (rec l (a:Int) (b:Int) k) (J9 L l a b))
  {ag ac:Nat}{k:Int}{l0:LL}(h:SL L l0) (az:IL l0 ag ac) (bg:ag<=ac) (hb:ac<=L.length) (bx:ac - ag<N) (a9:0<=k) (bb:k<=100):Au (Mq rec F l0 (ag:Int) (ac:Int) k) (J9 L l0 ag ac):=by
 have c7:=h.n;unfold Mq;refine AJ (S:=λr=>∃l',J9 L l0 ag ac l'/\r=Sum.inl l') ?_ ?_
 .refine Gc (λm s=>∃a b:Nat,s.1=(a:Int)/\s.2.1=(b:Int)/\m=b - a/\a<=b/\b<=L.length/\b - a<N/\0<=s.2.2.1/\s.2.2.1<=100/\SL L s.2.2.2.2.2/\IL s.2.2.2.2.2 a b/\∀r,SL L r->RS s.2.2.2.2.2 r a b->EX r a b->J9 L l0 ag ac r) ?_ (m:=ac - ag) ⟨ag,ac,V,V,V,bg,hb,bx,a9,bb,h,az,λr b5 aq a0=>⟨b5,aq,a0⟩⟩ AB;rintro _ ⟨_,_,k,t1,t2,l⟩ ⟨a,b,rfl,rfl,rfl,bg,hb,bx,a9,bb,h,az,hW⟩;simp only at h a9 bb az hW;have c8:=h.len;unfold PV;simp only;refine AJ (S:=λr=>(∃l',J9 L l0 ag ac l'/\r=Sum.inl l')∨∃(Z b':Nat) (k':Int) (u1 u2:Bool) (l':LL),r=Sum.inr ((Z:Int),(b':Int),k',u1,u2,l')/\b' - Z<b - a/\Z<=b'/\b'<=L.length/\0<=k'/\k'<=100/\SL L l'/\IL l' Z b'/\∀r,SL L r->RS l' r Z b'->EX r Z b'->J9 L l0 ag ac r) ?_ ?_
  .refine A4 ((b - a:Nat):Int) AB (Bw (λc=>?_) (λc=>?_));exact AJ (Xj ai h hb bg) (λr Y=>Ap (.inl ⟨r,hW r Y.1 Y.2.1 Y.2.2,V⟩))
   refine Bw (λc2=>?_) (λc2=>?_);exact AJ (dT ai h hb AB) (λr Y=>Ap (.inl ⟨r,hW r Y.1 Y.2.1 Y.2.2,V⟩))
   refine AJ (S:=λr=>0<=r.1/\r.1<=100/\SL L r.2/\RS l r.2 a b) ?_ ?_;refine Bw (λ_=>?_) (λ_=>Ap ⟨a9,bb,h,Dk _ _ _⟩);refine AJ (di ai h hb AB) ?_;intro r Y;exact A4 (k - 1) V (Ap ⟨by simp only;omega,by simp only;omega,Y.1,Y.2⟩)
   rintro⟨K,l2⟩ ⟨g1,g2,aq,bi⟩;simp only at g1 g2 aq bi ⊢;refine AJ (iI ai aq hb AB) ?_;rintro⟨_,hint⟩ ⟨v,rfl,v1,v2⟩;simp only;refine AJ (S:=λr=>∃v:Nat,r.1=(v:Int)/\a<=v/\v<b/\SL L r.2.2/\RS l r.2.2 a b) ?_ ?_;refine Bw (λ_=>?_) (λ_=>Ap ⟨v,V,v1,v2,aq,bi⟩);refine AJ (dU ai aq hb AB) ?_;intro r Y;exact A4 ((b - 1:Nat):Int) AB (A4 ((v - a:Nat):Int) AB (A4 ((b - 1 - (v - a):Nat):Int) AB (Ap ⟨_,V,AB,AB,Y.1,bi.trans Y.2⟩)))
   rintro⟨_,c9,dd⟩ ⟨v,rfl,v1,v2,a0,a1⟩;simp only at a0 a1 ⊢;refine AJ (S:=λ_=>True) (Bw (λ_=>Ap trivial) (λ_=>Ap trivial)) ?_;intro z1 _;refine AJ (S:=λ_=>True) (Bw (λ_=>Ap trivial) (λ_=>Ap trivial)) ?_;intro dj _;refine AJ (S:=λr=>∃l',SL L l'/\RS l l' a b/\((r=Sum.inl l'/\EX l' a b)∨r=Sum.inr l')) ?_ ?_;refine Bw (λ_=>?_) (λ_=>Ap ⟨_,a0,a1,.inr V⟩);refine AJ (dJ ai a0 hb AB (az.rs a1)) ?_;intro r Y;exact Bw (λz=>Ap ⟨_,Y.1,a1.trans Y.2.1,.inl ⟨V,Y.2.2 z⟩⟩) (λ_=>Ap ⟨_,Y.1,a1.trans Y.2.1,.inr V⟩)
   rintro _ ⟨av,a2,a3,⟨rfl,b6⟩ | rfl⟩;exact Ap (.inl ⟨av,hW av a2 a3 b6,V⟩)
   have ea:=a2.len;have bz:=az.rs a3;simp only[Sum.elim_inr];have bn:v<av.length:=by omega
   refine AJ (S:=λc=>c=true->0<a/\∀w,av[a - 1]?=some w->BL w av[v]=false) ?_ ?_
   .refine Bw (λc3=>?_) (λ_=>Ap AM);have aw:a - 1<av.length:=by omega
    refine A4 ((a - 1:Nat):Int) AB (Bh (m:=a - 1) V aw (Bh (m:=v) V bn (AJ (a2.cm ai aw bn) (λc ca=>Ap λz=>⟨AB,λw hw=>?_⟩))));rw[bZ aw] at hw;cases hw;exact s9.2 λw2=>uc z (ca.2 w2)
   intro eb cc;refine Bw (λz=>?_) (λ_=>?_)
   .refine let⟨ce,ci⟩:=cc z;AJ (dr ai a2 hb AB v1 v2) ?_;rintro⟨_,am⟩ ⟨q,rfl,b0,co,ap,aj,P,al,a4⟩;simp only at ap aj a4 ⊢;rw[bZ bn] at al;have al:=f8 al;have ec:=ap.len;have low:∀p x,a<=p->p<q->am[p]?=some x->BL P x=false:=λp x k1 K I=>by
     by_cases e:p=a;subst e;rw[a4.pv] at I;cases I;exact KX _;exact a4.lo p AB K x I
    refine have bo:=bz.rs aj;Ap (.inr ⟨q,b,K,t1,t2,am,V,AB,AB,hb,g1,g2,ap,λp x y _ k1 K O I=>?_,λr a5 U a6=>hW r a5 ((a3.trans aj).trans (U.wide AB (jK _))) ?_⟩);exact Xv (a4.hi p AB K x I) (low (q - 1) y AB AB O)
    .intro i j x y k1 K ay I O;by_cases cp:q<=i;exact a6 i j x y cp K ay I O
     rw[U.out i AB] at I;by_cases e2:j<q
     .rw [U.out j AB] at O;have aw:a - 1<am.length:=by omega
      have b1:=aj.out (a - 1) AB;rw[bZ aw] at b1;have b2:=ci _ b1.symm;rw[al] at b2;exact Kn (Kn (low i x k1 AB I) b2) (bo j y _ ce AB AB (bZ aw) O)
     .exact Xv (U.cls (λy=>BL P y=true) (λp x k1 K I=>a4.hi p AB K x I) j y AB ay O) (low i x k1 AB I)
   .refine AJ (db ai a2 hb AB v1 v2) ?_;rintro⟨_,t3,am⟩ ⟨q,rfl,b0,co,ap,aj,P,al,bv,be⟩;simp only at ap aj al bv be ⊢;have bo:=bz.rs aj;have b3:IL am a q:=λp x y a7 k1 K=>bo p x y a7 k1 AB;have b4:IL am (q+1) b:=λp x y _ k1 K O I=>by
     rw[Nat.add_sub_cancel,al] at O;cases O;exact be p x AB K I
    refine A4 ((q - a:Nat):Int) AB (A4 ((b - q:Nat):Int) AB ?_);refine AR (quo (k:=8) AB AB) (AJ (S:=λr=>∃(Z b':Nat),r.1=(Z:Int)/\r.2.1=(b':Int)/\b' - Z<b - a/\Z<=b'/\b'<=L.length/\SL L r.2.2.2/\IL r.2.2.2 Z b'/\∀z,SL L z->RS r.2.2.2 z Z b'->EX z Z b'->J9 L l0 ag ac z) ?_ ?_);refine Bw (λc4=>?_) (λc4=>?_);refine AJ (bw am a q K ap b3 b0 AB AB g1 g2) ?_;rintro r ⟨r1,r2,r3⟩;refine A4 ((q+1:Nat):Int) AM (Ap ⟨q+1,b,V,V,AB,AB,hb,r1,λp x y a7 k1 K O I=>?_,λz a5 U a6=>hW z a5 (((a3.trans aj).trans (r2.wide (jK _) AB)).trans (U.wide AB (jK _))) ?_⟩);simp only at I O;rw[r2.out _ AB] at I;rw[r2.out _ AB] at O;exact b4 p x y a7 k1 K O I;simp only at U;refine EX.join (q:=q) (P:=P) (by rw[U.out q (by omega),r2.out q (by omega)];exact al) (λp x k1 K I=>?_) (λp x k1 K I=>?_) (λi j x y k1 K ay I O=>?_) a6;rw[U.out p AB] at I;exact r2.cls (λx=>BL P x=false) bv p x k1 K I;exact U.cls (λx=>BL x P=false) (λp x k1 K I=>by rw[r2.out p AB] at I;exact be p x AB K I) p x k1 K I;rw[U.out i AB] at I;rw[U.out j AB] at O;exact r3 i j x y k1 K ay I O;refine A4 ((q+1:Nat):Int) AM (AJ (bw am (q+1) b K ap b4 AB hb AB g1 g2) ?_);rintro r ⟨r1,r2,r3⟩;refine Ap ⟨a,q,V,V,AB,AB,AB,r1,λp x y a7 k1 K O I=>?_,λz a5 U a6=>hW z a5 (((a3.trans aj).trans (r2.wide AB (jK _))).trans (U.wide (jK _) AB)) ?_⟩;simp only at I O;rw[r2.out _ AB] at I;rw[r2.out _ AB] at O;exact b3 p x y a7 k1 K O I;simp only at U;refine EX.join (q:=q) (P:=P) (by rw[U.out q (by omega),r2.out q (by omega)];exact al) (λp x k1 K I=>?_) (λp x k1 K I=>?_) a6 (λi j x y k1 K ay I O=>?_);exact U.cls (λx=>BL P x=false) (λp x k1 K I=>by rw[r2.out p AB] at I;exact bv p x k1 K I) p x k1 K I;rw[U.out p AB] at I;exact r2.cls (λx=>BL x P=false) (λp x k1 K I=>be p x AB K I) p x k1 K I;rw[U.out i AB] at I;rw[U.out j AB] at O;exact r3 i j x y k1 K ay I O
    rintro⟨_,_,t4,ct⟩ ⟨Z,b',rfl,rfl,d1,d2,d3,cw,cy,c0⟩;exact Ap (.inr ⟨Z,b',K,t4,t3,ct,V,d1,d2,d3,g1,g2,cw,cy,c0⟩)
  .rintro _ (⟨l',a8,rfl⟩ | ⟨Z,b',k',u1,u2,l',rfl,d1,d2,d3,d4,d5,a8,c5,c6⟩);exact Ap ⟨l',a8,V⟩;exact Ap ⟨b' - Z,d1,Z,b',V,V,V,d2,d3,AB,d4,d5,a8,c5,c6⟩
 .rintro _ ⟨l',a8,rfl⟩;exact Ap a8
theorem V4{F:Nat}{L:LL}(I:5000<F):∀(N:Nat) (l:LL) (a b:Nat) (k:Int),SL L l->IL l a b->a<=b->b<=L.length->b - a<2*2^N->0<=k->k<=100->Au (Mt (N+1) F l (a:Int) (b:Int) k) (J9 L l a b)
 | 0,l,a,b,k,h,U,K,hb,Y,Z,ac=>by
  unfold Mt Mq
  have aq:=h.n
  refine AJ (S:=λr=>∃l',J9 L l a b l'/\r=Sum.inl l') ?_ ?_
  .refine Gc (λm s=>s=((a:Int),(b:Int),k,true,true,l)) ?_ (m:=0) V AB
   rintro _ _ rfl;unfold PV;refine AJ (S:=λr=>∃l',J9 L l a b l'/\r=Sum.inl l') ?_ ?_;exact A4 ((b - a:Nat):Int) AN (BJ AB (AJ (Xj I h hb K) (λr ag=>Ap ⟨r,ag,V⟩)));rintro _ ⟨l',O,rfl⟩;exact Ap ⟨l',O,V⟩
  .rintro _ ⟨l',O,rfl⟩;exact Ap O
 | N+1,l,a,b,k,h,U,K,hb,Y,Z,ac=>by
  unfold Mt;exact cu (N:=2*2^(N+1)) I (λl a b k g1 ai g2 aj al am ap=>V4 I N l a b k g1 ai g2 aj (by rw[v3] at al;omega) am ap) h U K hb Y Z ac
theorem gf(K:5000<F)(Y:l.length<=1023)(O:∀s∈l,s.length<=40/\∀d∈s,BD d):Au (f76 F l) (λr=>l.Perm r/\EX r 0 r.length):=by
 unfold f76;have h:=td.1 iG l.length (s4.2 AB);split at h;rename_i m e;have:=uc h;refine AR ((kh F _).trans e) (have U:=V4 (F:=F) (L:=l) K 9 l 0 l.length m ⟨tu _,O,AB⟩ (λp x y Z=>by omega) AB (jK _) AB this.1 this.2;AJ (S:=J9 l l 0 l.length) ?_ (λr I=>Ap ⟨I.1.p,by rw[I.2.1.len];exact I.2.2⟩));exact U;cases h
theorem TA:∀{a b:List DT},BL a b=false->BL b a=false->a=b
 | [],[],_,_=>rfl
 | [],_::_,h,_=>by cases h
 | _::_,[],_,h=>by cases h
 | x::a,y::b,I,K=>by
  rw[Oy] at I K
  by_cases e:x=y;subst e;rw[d9 rfl] at I K;rw[TA I K];rw[d0 e] at I;rw[d0 (λq=>e q.symm)] at K;exact absurd (Xz I K) e
theorem aU{x y:List DT}(I:x∈l)(K:y∈l)(O:∀z∈l,BL z x=false)(U:∀z∈l,BL z y=false):x=y:=TA (U x I) (O y K)
open Go Go.Conc
variable {κ ν:Type}
variable {pk:Rp κ}{pv:Rp ν}{ka va:Bool}{E E' H:LH}
variable {P:Program}{s:St}{t tm te:TypeId}{X:Halt->St->Prop}{bk:Nat}{o:Obj}{xs:List (κ×ν)}{w:Value}{v0:ν}
section
variable [DecidableEq κ]
theorem Ls(x y:κ)(v:ν):∀xs:List (κ×ν),Bz (CQ xs x v) y=if y=x then some v else Bz xs y
 | []=>by
  unfold CQ Bz
  by_cases h:y=x;rw[d9 h];simp[h];rw[d0 h];simp[h]
 | z::O=>by
  have U:=Ls x y v O;unfold CQ;by_cases h:x=z.1;rw[d9 h];by_cases I:y=x;rw[d9 I];unfold Bz;simp[I];rw[d0 I];unfold Bz;rw[uX (by simpa using I),uX (by simpa using λe=>I (e.trans h.symm))]
  .rw [d0 h];by_cases K:y=z.1;rw[d0 (λe=>h (e.symm.trans K))];unfold Bz;simp[K]
   .have:Bz (z::CQ O x v) y=Bz (CQ O x v) y:=by unfold Bz;rw[uX (by simpa using K)]
    rw[this,U];by_cases I:y=x;rw[d9 I,d9 I];rw[d0 I,d0 I];unfold Bz;rw[uX (by simpa using K)]
open Classical in
variable {k:Value}{x:κ}
end
variable {J:Judge P}{Q:Gs_}{b:Frame}{ds:Ld_}{ops:Ao_}{kk:Li_}{cs:Lf_}{L:Env}{S:List Seg}{fuel:Nat}{listed:Array Bool}
variable {u ty e:TypeId}{p:String}{af:Ae_}{g:On_}{rest:List Nat}{zv:Value}{x0:κ}{z0:ν}
section
variable [DecidableEq κ]
variable {n m:Nat}
variable {d:Option Tmp}{x y z:Operand}{i:Nat}{k:Value}
end
end Pal
namespace Pal
abbrev CF:=Nat->Nat->Int
abbrev PU:=List (List (Int×Int))
def GJ(C:CF)(x y c:Nat):CF:=λa b=>C a b - (if a=x/\b=c then 1 else 0)+(if a=y/\b=c then 1 else 0)
def F1(C:CF)(x y:Nat)(v:Nat->Nat):CF:=λa b=>C a b - (if a=x then(v b:Int) else 0)+(if a=y then(v b:Int) else 0)
def wS(v:Nat->Nat):Nat:=v 1+2*v 2+3*v 3+4*v 4+5*v 5+6*v 6+7*v 7+8*v 8+9*v 9
def Sb(v:Nat->Nat)(lo:Nat):Prop:=∀b,v b≠0->lo<=b/\b<=9
def Fj(C:CF)(d:DT)(I:CF):Prop:=∃v,Sb v 1/\(∀b,(v b:Int)<=C d.1.toNat b)/\(wS v:Int)=d.2.2/\I=F1 C d.1.toNat d.2.1.toNat v
inductive Ia (x y:Nat):Nat->Nat->CF->CF->Prop
 | done {lo:Nat}{C:CF}:Ia x y lo 0 C C
 | step {lo left c:Nat}{C I:CF}:lo<=c->c<=9->c<=left->0<C x c->Ia x y c (left - c) (GJ C x y c) I->Ia x y lo left C I
def N2(v:Nat->Nat)(c:Nat):Nat->Nat:=λb=>if b=c then v b+1 else v b
def MR(v:Nat->Nat)(c:Nat):Nat->Nat:=λb=>if b=c then v b - 1 else v b
variable{v:Nat->Nat}
theorem iJ{c:Nat}(I:1<=c)(K:c<=9):wS (N2 v c)=wS v+c:=by
 grind [N2,wS]
theorem eL{c:Nat}(I:1<=c)(K:c<=9)(O:0<v c):wS (MR v c)+c=wS v:=by
 grind [MR,wS]
variable{C:CF}
theorem j0{x y:Nat}(Y:x≠y){lo left:Nat}{I:CF}(h:Ia x y lo left C I):1<=lo->(∀b,0<=C x b)->∃v,Sb v lo/\(∀b,(v b:Int)<=C x b)/\wS v=left/\I=F1 C x y v:=by
 induction h with
 | @done lo C=>
  intro _ K;exact⟨λ_=>0,λb hb=>absurd V hb,λb=>by simpa using K b,V,by funext a b;simp[F1]⟩
 | @step lo left c C I ai Z aj al _ ac=>
  intro am K;obtain⟨v,v1,v2,ag,v4⟩:=ac AB (λb=>by
   have:=K b
   unfold GJ
   by_cases e:b=c;subst e;simp[Y];omega
   .simp [e];omega)
  refine⟨N2 v c,λb hb=>?_,λb=>?_,?_,?_⟩;unfold N2 at hb;by_cases e:b=c;omega;rw[d0 e] at hb;have:=v1 b hb;omega;have:=v2 b;unfold GJ at this;unfold N2;by_cases e:b=c;subst e;simp[Y] at this;simp;omega;simp[e] at this;simp[e];omega;rw[iJ AB Z,ag];omega;rw[v4];funext a b;unfold F1 GJ N2;by_cases e:b=c;by_cases O:a=x<;>by_cases U:a=y<;>simp[e,O,U]<;>omega;by_cases O:a=x<;>by_cases U:a=y<;>simp[e,O,U]
theorem VY(v:Nat->Nat):∀k,(∃b,b<k/\v b≠0)->∃c,c<k/\v c≠0/\∀b,b<c->v b=0
 | 0,⟨b,hb,_⟩=>by omega
 | k+1,⟨b,hb,I⟩=>by
  by_cases h:∃b,b<k/\v b≠0
  .let⟨c,Y,O,U⟩:=VY v k h
   exact⟨c,AB,O,U⟩
  .have K:∀b,b<k->v b=0:=λb hb=>ts λq=>h ⟨b,hb,q⟩;have:b=k:=by
    rcases mt b k with q | q;exact absurd (K b q) I;omega
   subst this;exact⟨b,AB,I,K⟩
theorem Yw{x y:Nat}(Z:x≠y):∀(left lo:Nat) (C:CF) (v:Nat->Nat),1<=lo->Sb v lo->(∀b,(v b:Int)<=C x b)->wS v=left->Ia x y lo left C (F1 C x y v):=by
 intro left
 induction left using Nat.strongRecOn with
 | _ left ac=>
  intro lo C v ai hs U hw;by_cases Y:left=0
  .subst Y;have I:v=λ_=>0:=by
    funext b;by_cases hb:1<=b/\b<=9
    .unfold wS at hw;have:b=1∨b=2∨b=3∨b=4∨b=5∨b=6∨b=7∨b=8∨b=9:=by omega
     rcases this with rfl | rfl | rfl | rfl | rfl | rfl | rfl | rfl | rfl<;>omega
    .exact ts λq=>hb (by have:=hs b q;omega)
   have e:F1 C x y v=C:=by subst I;funext a b;simp[F1]
   rw[e];exact .done
  .have hex:∃b,b<10/\v b≠0:=by
    refine ts λq=>Y ?_;have I:∀b,b<10->v b=0:=λb hb=>ts λr=>q ⟨b,hb,r⟩;rw[← hw];unfold wS;rw[I 1,I 2,I 3,I 4,I 5,I 6,I 7,I 8,I 9]<;>omega
   let⟨c,c1,c2,c3⟩:=VY v 10 hex;let⟨s1,s2⟩:=hs c c2;have aj:=eL (v:=v) (c:=c) AB s2 AB;have ag:=ac (left - c) AB c (GJ C x y c) (MR v c) AB (λb hb=>?_) (λb=>?_) AB
   .refine .step (c:=c) s1 s2 AB (by have:=U c;omega) ?_;have e:F1 (GJ C x y c) x y (MR v c)=F1 C x y v:=by
     funext a b;unfold F1 GJ MR;by_cases e:b=c;by_cases K:a=x<;>by_cases O:a=y<;>simp[e,K,O]<;>omega;by_cases K:a=x<;>by_cases O:a=y<;>simp[e,K,O]
    rw[← e];exact ag
   unfold MR at hb;by_cases e:b=c;omega;rw[d0 e] at hb;have:=hs b hb;refine⟨?_,this.2⟩;rcases mt b c with q | q;exact absurd (c3 b q) hb;exact q;have:=U b;unfold GJ MR;by_cases e:b=c;subst e;simp[Z];omega;simp[e];exact this
def Di:List Nat->List Nat->CF
 | l::L,o::w,a,b=>Di L w a b+if a=o/\b=l then 1 else 0
 | _,_,_,_=>0
theorem Qn:∀(L w:List Nat) (a b:Nat),0<=Di L w a b
 | [],w,a,b=>by unfold Di;exact w7 _
 | _::_,[],a,b=>by unfold Di;exact w7 _
 | l::L,o::w,a,b=>by have:=Qn L w a b;unfold Di;split<;>omega
theorem TV:∀(L w:List Nat) (a b:Nat),Di L w a b<=L.length
 | [],w,a,b=>by unfold Di;simp
 | _::_,[],a,b=>by unfold Di;omega
 | l::L,o::w,a,b=>by have:=TV L w a b;unfold Di;rw[tb];split<;>omega
theorem T4{x y c:Nat}:∀{L w:List Nat},L.length=w.length->0<Di L w x c->∃w':List Nat,w'.length=w.length/\(∀o∈w',o∈w∨o=y)/\Di L w'=GJ (Di L w) x y c
 | [],[],_,h=>by unfold Di at h;omega
 | [],_::_,h,_=>by simp at h
 | _::_,[],h,_=>by simp at h
 | l::L,o::w,O,h=>by
  by_cases K:x=o/\c=l;refine⟨y::w,V,λz I=>?_,?_⟩;rcases ja.1 I with rfl | I;exact .inr V;exact .inl (kW _ I);funext a b;obtain⟨rfl,rfl⟩:=K;unfold GJ;simp only[Di];by_cases U:a=x/\b=c<;>by_cases e2:a=y/\b=c<;>simp[U,e2]<;>omega
  .have Y:0<Di L w x c:=by
    unfold Di at h;rw[d0 K] at h;omega
   obtain⟨w',Z,ac,ag⟩:=T4 (L:=L) (w:=w) (by simpa using O) Y;refine⟨o::w',by simp[Z],λz I=>?_,?_⟩;rcases ja.1 I with rfl | I;exact .inl tI;rcases ac z I with q | q;exact .inl (kW _ q);exact .inr q;funext a b;have:=congrFun (congrFun ag a) b;simp only[Di,GJ] at this ⊢;omega
theorem PY(l o:Nat)(L w:List Nat)(a b:Nat):Di (l::L) (o::w) a b=Di L w a b+if a=o/\b=l then 1 else 0:=rfl
def Ex(C:CF)(x:Nat):Nat->Nat
 | 0=>0
 | k+1=>(C x (9 - k)).toNat+Ex C x k
theorem Tn{C:CF}{x:Nat}(h:∀b,C x b=0):∀k,Ex C x k=0
 | 0=>rfl
 | k+1=>by
  show(C x (9 - k)).toNat+Ex C x k=0
  rw[h,Tn h k];rfl
theorem WA(x l o:Nat)(L w:List Nat):∀k,k<=9->Ex (Di (l::L) (o::w)) x k=Ex (Di L w) x k+if x=o/\l<=9/\9<k+l then 1 else 0
 | 0,_=>by rw[d0 AB];rfl
 | k+1,K=>by
  show(Di (l::L) (o::w) x (9 - k)).toNat+Ex (Di (l::L) (o::w)) x k=(Di L w x (9 - k)).toNat+Ex (Di L w) x k+_
  have O:=Qn L w x (9 - k)
  rw[WA x l o L w k AB,PY]
  by_cases e:x=o;by_cases e2:9 - k=l;rw[d9 ⟨e,e2⟩,d0 AB,d9 AB];omega;rw[d0 (λq=>e2 q.2)];by_cases I:l<=9/\9<k+l;rw[d9 ⟨e,I⟩,d9 AB];omega;rw[d0 (λq=>I q.2),d0 AB];omega;rw[d0 (λq=>e q.1),d0 (λq=>e q.1),d0 (λq=>e q.1)];omega
theorem Yv(x:Nat):∀(L w:List Nat) (k:Nat),k<=9->Ex (Di L w) x k<=L.length
 | [],w,k,_=>by rw[Tn (λb=>by unfold Di;rfl)];exact tz _
 | _::_,[],k,_=>by rw[Tn (λb=>by unfold Di;rfl)];exact tz _
 | l::L,o::w,k,I=>by
  have:=Yv x L w k I
  rw[WA x l o L w k I,tb]
  split<;>omega
theorem kU{x y c:Nat}(O:x≠y)(U:c<=9)(Y:1<=c)(Z:0<C x c):Ex (GJ C x y c) x (10 - c)+1=Ex C x (10 - c):=by
 have lower:∀k,k<=9 - c->Ex (GJ C x y c) x k=Ex C x k:=by
  intro k
  induction k with
  | zero=>intro _;rfl
  | succ k I=>
   intro K;simp only[Ex];rw[I AB];congr 1;unfold GJ;rw[d0 AB,d0 AB];simp
 obtain⟨k,K⟩:∃k,10 - c=k+1:=⟨9 - c,AB⟩
 grind [GJ,Ex]
structure SP (n:Nat) (L:List Nat) (p:PU):Prop where
 len:p.length=n
 keys:∀xs∈p,∀I∈xs,0<=I.1/\I.1<10
 own:∃w:List Nat,w.length=L.length/\(∀o∈w,o<n)/\AT p=Di L w
variable{p:PU}
theorem SP.nn{n:Nat}{L:List Nat}(h:SP n L p)(a b:Nat):0<=AT p a b:=by obtain⟨w,_,_,e⟩:=h.own;rw[e];exact Qn _ _ _ _
theorem SP.le{n:Nat}{L:List Nat}(h:SP n L p)(a b:Nat):AT p a b<=L.length:=by obtain⟨w,_,_,e⟩:=h.own;rw[e];exact TV _ _ _ _
theorem SY{κ ν:Type} [DecidableEq κ] (x y:κ):∀xs:List (κ×ν),Bz (EM xs x) y=if y=x then none else Bz xs y
 | []=>by simp[EM,Bz]
 | z::xs=>by
  have O:=SY x y xs
  unfold EM at O ⊢
  by_cases K:x=z.1
  .rw [wW (by simpa using K),O]
   by_cases I:y=x;rw[d9 I,d9 I];rw[d0 I,d0 I];have:y≠z.1:=λe=>I (e.trans K.symm);simp[Bz,this]
  .rw [wX (by simpa using K)];by_cases I:y=z.1;rw[d0 (λe=>K (e.symm.trans I))];simp[Bz,I]
   .have U:Bz (z::xs.filter λy=>decide (x≠y.1)) y=Bz (xs.filter λy=>decide (x≠y.1)) y:=by simp[Bz,I]
    have e2:Bz (z::xs) y=Bz xs y:=by simp[Bz,I]
    rw[U,e2,O]
theorem Td{κ ν:Type} [DecidableEq κ] {x:κ}{v:ν}{I:κ×ν}:∀{xs:List (κ×ν)},I∈CQ xs x v->I.1=x∨∃u,(I.1,u)∈xs
 | [],h=>by cases de.1 h;exact .inl rfl
 | y::ys,h=>by
  unfold CQ at h
  split at h;rcases ja.1 h with rfl | h;exact .inl V;exact .inr ⟨I.2,kW _ h⟩;rcases ja.1 h with rfl | h;exact .inr ⟨I.2,tI⟩;rcases Td h with h | ⟨u,h⟩;exact .inl h;exact .inr ⟨u,kW _ h⟩
theorem gK{F n x y c:Nat}{L:List Nat}(a7:n<=5)(h:SP n L p)(a8:L.length<=100)(a9:x<n)(bb:y<n)(ap:x≠y)(be:c<10)(aq:0<AT p x c):
  ∃q,NT F p (x:Int) (y:Int) (c:Int)=some q/\SP n L q/\AT q=GJ (AT p) x y c:=by
 have aw:=h.len;have Z:x<p.length:=by omega
 have ag:y<p.length:=by omega
 have ex:p[x]=p.getD x []:=by rw[sP,bZ Z];rfl
 have ai:p[y]=p.getD y []:=by rw[sP,bZ ag];rfl
 have ay:=h.le x c;have az:=h.le y c;have a0:=h.nn y c;unfold AT at aq ay az a0;have a1:NT F p (x:Int) (y:Int) (c:Int)=some ((p.set x (if(Bz (CQ p[x] (c:Int) ((Bz p[x] (c:Int)).getD 0 - 1)) (c:Int)).getD 0=0 then EM (CQ p[x] (c:Int) ((Bz p[x] (c:Int)).getD 0 - 1)) (c:Int) else CQ p[x] (c:Int) ((Bz p[x] (c:Int)).getD 0 - 1))).set y (CQ p[y] (c:Int) ((Bz p[y] (c:Int)).getD 0+1))):=by
  refine CV ?_;unfold NT;refine Bh (m:=x) V Z (Bh (m:=y) V ag (AR (b:=List.replicate p.length (Go.Value.map none)) (by unfold GQ;rw[d9 AB];simp) (BM AB (Lx _ V (by rw[ex];omega) (by rw[ex];omega) (Lx _ V (by rw[ai];omega) (by rw[ai];omega) (Ap ?_))))));rw[tt,tt]
 refine⟨_,a1,?_⟩;have av:AT ((p.set x (if(Bz (CQ p[x] (c:Int) ((Bz p[x] (c:Int)).getD 0 - 1)) (c:Int)).getD 0=0 then EM (CQ p[x] (c:Int) ((Bz p[x] (c:Int)).getD 0 - 1)) (c:Int) else CQ p[x] (c:Int) ((Bz p[x] (c:Int)).getD 0 - 1))).set y (CQ p[y] (c:Int) ((Bz p[y] (c:Int)).getD 0+1)))=GJ (AT p) x y c:=by
  funext a b;unfold AT GJ;rw[sP,tD,tD];by_cases aj:y=a;subst aj;rw[d9 rfl,d9 (by rw[sW];omega),d0 (λq:y=x/\b=c=>ap q.1.symm)];simp only[Option.getD_some,ai];rw[Ls];by_cases I:b=c;subst I;simp;rw[d0 AB,d0 (λq=>I q.2)];simp
  .rw [d0 aj];by_cases e2:x=a
   .subst e2;rw[d9 rfl,d9 AB,d0 (λq:x=y/\b=c=>ap q.1)];simp only[Option.getD_some,ex];have hg:∀z:Int,Bz (CQ (p.getD x []) (c:Int) z) (c:Int)=some z:=λz=>by rw[Ls,d9 rfl]
    rw[hg,Option.getD_some];by_cases I:b=c;subst I;by_cases K:(Bz (p.getD x []) (b:Int)).getD 0 - 1=0;rw[d9 K,SY,d9 rfl,d9 ⟨trivial,rfl⟩,Option.getD_none];omega;rw[d0 K,hg,d9 ⟨trivial,rfl⟩,Option.getD_some];omega
    .have al:¬((b:Int)=(c:Int)):=by omega
     rw[d0 (λq:True/\b=c=>I q.2)];by_cases K:(Bz (p.getD x []) (c:Int)).getD 0 - 1=0;rw[d9 K,SY,d0 al,Ls,d0 al];omega;rw[d0 K,Ls,d0 al];omega
   .rw [d0 e2,d0 (λq=>e2 q.1.symm),d0 (λq=>aj q.1.symm)];show(Bz (p[a]?.getD []) (b:Int)).getD 0=(Bz (p.getD a []) (b:Int)).getD 0 - 0+0;rw[sP];omega
 refine⟨⟨by simp[aw],λxs O U Y=>?_,?_⟩,av⟩
 .have am:∀(ac:List (Int×Int)) (u:Int),ac∈p->U∈CQ ac (c:Int) u->0<=U.1/\U.1<10:=by
   intro ac u a2 a3;rcases Td a3 with q | ⟨r,q⟩;rw[q];omega;exact h.keys ac a2 (U.1,r) q
  rcases ve O with O | rfl;rcases ve O with O | rfl;exact h.keys xs O U Y;split at Y;exact am _ _ (f5 Z) (uu.1 Y).1;exact am _ _ (f5 Z) Y;exact am _ _ (f5 ag) Y
 .obtain⟨w,w1,w2,w3⟩:=h.own;have a4:0<Di L w x c:=by rw[← w3];exact aq
  refine let⟨w',v1,v2,a5⟩:=T4 (y:=y) w1.symm a4;⟨w',AB,λo a6=>?_,by rw[av,a5,w3]⟩;rcases v2 o a6 with q | q;exact w2 o q;omega
theorem eK(C:CF)(x:Nat){c:Nat}(I:c<=9):Ex C x (10 - c)=(C x c).toNat+Ex C x (10 - (c+1)):=by
 obtain⟨k,K⟩:∃k,10 - c=k+1:=⟨9 - c,AB⟩
 grind [Ex]
structure VT (n:Nat) (d:DT):Prop where
 x0:0<=d.1
 x1:d.1<(n:Int)
 y0:0<=d.2.1
 y1:d.2.1<(n:Int)
 ne:d.1≠d.2.1
 p0:1<=d.2.2
 p1:d.2.2<=72
variable{d:DT}
theorem gD{F n:Nat}{L:List Nat}(a0:n<=5)(b0:L.length<=15)(hd:VT n d)(b1:100<F):∀(N left lo:Nat) (p:PU) (acc:List PU),left<N->left<=100->1<=lo->SP n L p->acc.length+2^Ex (AT p) d.1.toNat (10 - lo)<=2^20->
  Au (OT N F p (lo:Int) (left:Int) acc d) (λout=>∃new,out=acc++new/\new.length<=2^Ex (AT p) d.1.toNat (10 - lo)/\(∀q∈new,SP n L q/\Ia d.1.toNat d.2.1.toNat lo left (AT p) (AT q))/\∀K,Ia d.1.toNat d.2.1.toNat lo left (AT p) K->∃q∈new,AT q=K):=by
 obtain⟨x0,x1,y0,y1,b2,-,-⟩:=hd;intro N
 induction N with
 | zero=>intro left lo p acc h;omega
 | succ N a2=>
  intro left lo p acc b3 b4 b5 Z hb;have hlen:=Z.len;have a3:d.1.toNat<n:=by omega
  have a4:d.2.1.toNat<n:=by omega
  have aw:d.1.toNat≠d.2.1.toNat:=by omega
  have a5:1<=2^Ex (AT p) d.1.toNat (10 - lo):=vZ;unfold OT Q5;refine Bw (λa6=>?_) (λa6=>?_)
  .obtain rfl:left=0:=by omega
   refine It AB (Ap ⟨[p],V,a5,λq aj=>?_,λK h=>?_⟩);cases de.1 aj;exact⟨Z,.done⟩
   .refine⟨p,de.2 V,?_⟩;cases h with
    | done=>rfl
    | step a1 a7 ay=>omega
  .refine AJ (S:=λout=>∃new,out=acc++new/\new.length<=2^Ex (AT p) d.1.toNat (10 - lo)/\(∀q∈new,SP n L q/\Ia d.1.toNat d.2.1.toNat lo left (AT p) (AT q))/\∀K,Ia d.1.toNat d.2.1.toNat lo left (AT p) K->∃q∈new,AT q=K) ?_ (λr a8=>Ap a8);refine Cn (min left 9+1 - lo) (λi s=>s.2=((lo+i:Nat):Int)/\∃new,s.1=acc++new/\new.length+2^Ex (AT p) d.1.toNat (10 - (lo+i))<=2^Ex (AT p) d.1.toNat (10 - lo)/\(∀q∈new,SP n L q/\Ia d.1.toNat d.2.1.toNat lo left (AT p) (AT q))/\∀I,lo<=I->I<lo+i->I<=left->0<AT p d.1.toNat I->∀K,Ia d.1.toNat d.2.1.toNat I (left - I) (GJ (AT p) d.1.toNat d.2.1.toNat I) K->∃q∈new,AT q=K)
    ⟨rfl,[],AM,AM,(λq aj=>by cases aj),(λI b6 ca=>by omega)⟩ AB ?_ ?_
   .rintro i ⟨s,z⟩ hi ⟨Y,new,hs,al,ac,ag⟩;simp only at Y hs;subst Y;subst hs;have am:lo+i<=9:=by omega
    have a9:lo+i<=left:=by omega
    have cc:=eK (AT p) d.1.toNat am;have ce:=Z.nn d.1.toNat (lo+i);unfold QF;refine BJ AN ?_;have bb:ix p d.1=some (p.getD d.1.toNat []):=F6 (m:=d.1.toNat) AB (by rw[sP,bZ (by omega)];rfl);refine AR bb ?_;refine AJ (S:=λs=>∃U,s=acc++U/\U.length+2^Ex (AT p) d.1.toNat (10 - (lo+i+1))<=2^Ex (AT p) d.1.toNat (10 - lo)/\(∀q∈U,SP n L q/\Ia d.1.toNat d.2.1.toNat lo left (AT p) (AT q))/\∀I,lo<=I->I<lo+i+1->I<=left->0<AT p d.1.toNat I->∀K,Ia d.1.toNat d.2.1.toNat I (left - I) (GJ (AT p) d.1.toNat d.2.1.toNat I) K->∃q∈U,AT q=K) ?_ ?_
    .refine Bw (λO=>?_) (λO=>?_)
     .have O:0<AT p d.1.toNat (lo+i):=O;refine A4 ((left - (lo+i):Nat):Int) AN ?_;obtain⟨q,az,be,ap⟩:=gK (F:=F) a0 Z AB a3 a4 aw (show lo+i<10 by omega) O;rw[show((d.1.toNat:Nat):Int)=d.1 by omega,show((d.2.1.toNat:Nat):Int)=d.2.1 by omega] at az;refine AR az ?_;have hm:=kU aw am AB O;rw[← ap] at hm;have ci:2^Ex (AT p) d.1.toNat (10 - (lo+i))=2*2^Ex (AT q) d.1.toNat (10 - (lo+i)):=by
       rw[← hm,v3];omega
      have hle:2^Ex (AT p) d.1.toNat (10 - (lo+i+1))<=2^Ex (AT q) d.1.toNat (10 - (lo+i)):=tx AB AB;refine AJ (a2 (left - (lo+i)) (lo+i) q (acc++new) AB AB AB be ?_) ?_;rw[sR];omega
      .rintro r ⟨n2,rfl,co,bg,bi⟩;refine Ap ⟨new++n2,by rw[lZ],?_,λu hu=>?_,λI k1 bn aq ai K hC=>?_⟩;rw[sR];omega;rcases sO.1 hu with hu | hu;exact ac u hu;let⟨u1,u2⟩:=bg u hu;rw[ap] at u2;exact⟨u1,.step AB am a9 O u2⟩
       .rcases mt I (lo+i) with av | bo;let⟨u,hu,e⟩:=ag I k1 av aq ai K hC;exact⟨u,tv _ hu,e⟩
        .obtain rfl:I=lo+i:=by omega
         rw[← ap] at hC;let⟨u,hu,e⟩:=bi K hC;exact⟨u,tG _ hu,e⟩
     .have O:¬0<AT p d.1.toNat (lo+i):=O;refine Ap ⟨new,V,?_,ac,λI k1 bn aq ai=>?_⟩;rw[show Ex (AT p) d.1.toNat (10 - (lo+i+1))=Ex (AT p) d.1.toNat (10 - (lo+i)) by omega];exact al
      .rcases mt I (lo+i) with av | bo;exact ag I k1 av aq ai
       .obtain rfl:I=lo+i:=by omega
        exact absurd ai O
    .rintro s ⟨U,rfl,bv,e2,bw⟩;exact A4 ((lo+(i+1):Nat):Int) AN (Ap ⟨V,U,V,bv,e2,bw⟩)
   .rintro⟨s,z⟩ ⟨Y,new,hs,al,ac,ag⟩;simp only at Y hs;subst Y;subst hs;unfold QF;refine BM AN (Ap ⟨_,V,new,V,s3 (Nat.le_add_right _ _) al,ac,λK h=>?_⟩);cases h with
    | done=>omega
    | step a1 a7 ay bx bz=>exact ag _ a1 AB ay bx _ bz
theorem Xq{F n:Nat}{L:List Nat}(Z:n<=5)(O:L.length<=15)(hd:VT n d)(ac:100<F)(K:SP n L p):
  Au (f186 F p d) (λl=>l.length<=2^15/\(∀q∈l,SP n L q/\Fj (AT p) d (AT q))/\∀I,Fj (AT p) d I->∃q∈l,AT q=I):=by
 have U:d.1.toNat≠d.2.1.toNat:=by have:=hd.ne;have:=hd.x0;have:=hd.y0;omega
 have ag:Ex (AT p) d.1.toNat (10 - 1)<=15:=by
  obtain⟨w,_,_,e⟩:=K.own;rw[e];exact s3 (Yv _ L w 9 AB) O
 have Y:2^Ex (AT p) d.1.toNat (10 - 1)<=2^15:=tx AB ag;have aw:=hd.p0;have ay:=hd.p1;unfold f186;refine AJ (S:=λl=>l.length<=2^15/\(∀q∈l,SP n L q/\Fj (AT p) d (AT q))/\∀I,Fj (AT p) d I->∃q∈l,AT q=I) ?_ (λr ai=>Ap ai);unfold UP;have:=gD Z O hd ac F d.2.2.toNat 1 p [] AB AB AB K (by rw[wo,uo];exact s3 Y AD);rw[show((d.2.2.toNat:Nat):Int)=d.2.2 by omega] at this;refine Au.Aj this ?_;rintro out ⟨new,rfl,aj,al,am⟩;refine⟨s3 aj Y,λq ap=>?_,λI hC=>?_⟩;exact let⟨a1,aq⟩:=al q ap;let⟨v,v1,v2,av,v4⟩:=j0 U aq (jK 1) (K.nn _);⟨a1,v,v1,v2,AB,v4⟩;obtain⟨v,v1,v2,av,rfl⟩:=hC;exact am _ (Yw U _ 1 _ v (jK 1) v1 v2 AB)
def FZ(C:CF):List (List Int):=(List.range 5).map λa=>(List.range 10).map λb=>C a b
theorem Xw{F n:Nat}{L:List Nat}(O:n<=5)(K:SP n L p):f187 F p=some (FZ (AT p)):=by
 have h:p.length<=5/\(p.all λxs=>xs.all λI=>decide (0<=I.1/\I.1<10))=true:=⟨by rw[K.len];exact O,td.2 λxs U=>td.2 λI Y=>th (K.keys xs U I Y)⟩;unfold f187;rw[d9 h];rfl
theorem SP.out{n:Nat}{L:List Nat}(U:n<=5)(K:SP n L p){a b:Nat}(h:5<=a∨10<=b):AT p a b=0:=by
 unfold AT;rcases h with h | h;rw[sP,tK (by rw[K.len];omega)];rfl
 .have:Bz (p.getD a []) (b:Int)=none:=by
   unfold Bz;rw[Option.map_eq_none_iff,u4];intro O I;rcases mt a p.length with q | q;rw[sP,bZ q] at I;have:=K.keys _ (f5 q) O I;simp;omega;rw[sP,tK q] at I;cases I
  rw[this];rfl
theorem Ym{n:Nat}{L:List Nat}{q:PU}(K:n<=5)(U:SP n L p)(Y:SP n L q)(h:FZ (AT p)=FZ (AT q)):AT p=AT q:=by
 funext a b;by_cases O:5<=a∨10<=b;rw[U.out K O,Y.out K O]
 .have I:=s7 (λl=>l[a]?) h;simp only[FZ,tV] at I;rw[wz AB] at I;have Z:=s7 (λl=>l[b]?) (f8 I)
  grind
def Pd(n:Nat):Nat->List (List Nat)
 | 0=>[[]]
 | k+1=>(List.range n).flatMap λx=>(Pd n k).map (x::·)
theorem WU{n:Nat}:∀{l:List Nat},(∀x∈l,x<n)->l∈Pd n l.length
 | [],_=>de.2 rfl
 | x::l,h=>vH.2 ⟨x,s4.2 (h x tI),tn.2 ⟨l,WU λy I=>h y (kW _ I),rfl⟩⟩
theorem WW(n:Nat):∀k,(Pd n k).length=n^k
 | 0=>rfl
 | k+1=>by
  unfold Pd
  rw[List.length_flatMap]
  simp only[t9,WW n k]
  rw[List.map_const',List.sum_replicate_nat,ur,v3,xg]
theorem Lq{α:Type} [DecidableEq α]:∀{l m:List α},l.Nodup->(∀x∈l,x∈m)->l.length<=m.length
 | [],m,_,_=>tz _
 | x::l,m,h,hs=>by
  let⟨O,U⟩:=vw.1 h
  have I:=hs x tI
  have:=Lq (l:=l) (m:=m.erase x) U λy K=>(List.mem_erase_of_ne (λe=>by subst e;exact O K)).2 (hs y (kW _ K))
  rw[List.length_erase_of_mem I] at this
  have:=List.length_pos_of_mem I
  rw[tb];omega
theorem nL{n:Nat}{L:List Nat}{l:List PU}(I:n<=5)(K:L.length<=15)(O:∀q∈l,SP n L q)(hd:(l.map λq=>FZ (AT q)).Nodup):l.length<=5^15:=by
 have:=Lq (m:=(Pd n L.length).map λw=>FZ (Di L w)) hd λx U=>by
  obtain⟨q,Y,rfl⟩:=tn.1 U;refine let⟨w,w1,w2,w3⟩:=(O q Y).own;tn.2 ⟨w,?_,by rw[w3]⟩;have:=WU w2
  rwa[w1] at this
 rw[t9,t9,WW] at this;refine s3 this (s3 (Nat.pow_le_pow_left I _) (tx AB K))
inductive GI (P:List DT):Nat->CF->List Int->Prop
 | nil {dn:Nat}{C:CF}:dn=2^P.length - 1->GI P dn C []
 | cons {dn i:Nat}{C I:CF}{d:DT}{K:List Int}:P[i]?=some d->dn.testBit i=false->Fj C d I->GI P (dn|||2^i) I K->GI P dn C ((i:Int)::K)
def Ends(P:List DT)(dn:Nat)(C:CF):Prop:=∃I,GI P dn C I
variable{dn:Nat}
theorem Ends.cases{P:List DT}(h:Ends P dn C)(K:dn≠2^P.length - 1):∃(i:Nat) (d:DT) (I:CF),P[i]?=some d/\dn.testBit i=false/\Fj C d I/\Ends P (dn|||2^i) I:=by
 obtain⟨O,h⟩:=h;cases h with
 | nil e=>exact absurd e K
 | cons a b c d=>exact⟨_,_,_,a,b,c,_,d⟩
theorem Qu{i:Nat}(h:i<8):JX (i:Int)=some (2^i):=by
 unfold JX;rw[d9 AB,tt,Nat.one_shiftLeft,Nat.mod_eq_of_lt];exact tW (wv AB h) AD
theorem WE{i:Nat}(h:i<8):NP dn (i:Int)=some (dn>>>i):=by unfold NP;rw[d9 AB,tt]
variable{m:Nat}
theorem QB(h:m<=8):2^m<=256:=s3 (tx AB h) AD
theorem WM{i:Nat}(hm:m<=8)(h:dn<2^m):NN (dn>>>i) 1=some (if dn.testBit i=true then 1 else 0):=by
 have I:dn>>>i<=dn:=by rw[vf];exact Nat.div_le_self _ _
 have K:=QB hm;unfold NN;rw[d9 AB,Nat.and_one_is_mod];congr 1;rw[Nat.testBit_eq_decide_div_mod_eq,vf]
 grind
theorem QC{i:Nat}(hm:m<=8)(h:dn<2^m)(hi:i<m):MH dn (2^i)=some (dn|||2^i)/\dn|||2^i<2^m:=by
 have K:=QB hm;have I:2^i<2^m:=wv AB hi;exact⟨d9 AB,wb h I⟩
theorem YP(dn i j:Nat):(dn|||2^i).testBit j=(dn.testBit j || decide (i=j)):=by rw[Nat.testBit_or,Nat.testBit_two_pow]
theorem Y7{i:Nat}(h:dn.testBit i=false):dn<dn|||2^i:=by
 rcases v8 (show dn<=dn|||2^i from Nat.left_le_or) with q | q
 all_goals grind [YP]
variable {F:Nat}{L:List Nat}{P:List DT}
variable{sm:List ((Nat×List (List Int))×Bool)}{now:List PU}
section
variable {n:Nat}
structure SX (F n:Nat) (L:List Nat) (P:List DT):Prop where
 n5:n<=5
 ML:L.length<=15
 m8:P.length<=8
 ok:∀d∈P,VT n d
 fuel:5^16<F
def GH(n:Nat)(L:List Nat)(P:List DT)(sm:List ((Nat×List (List Int))×Bool)):Prop:=∀dn X b,Bz sm (dn,X)=some b->∀p,SP n L p->FZ (AT p)=X->(b=true↔Ends P dn (AT p))
theorem SX.R2(h:SX F n L P):100<F:=Nat.lt_trans AD h.fuel
theorem fz(Y:SX F n L P):∀(N dn:Nat) (p:PU) (sm:List ((Nat×List (List Int))×Bool)),256<N+dn->dn<2^P.length->SP n L p->GH n L P sm->
  Au (OX N F p dn P sm) (λr=>(r.1=true↔Ends P dn (AT p))/\GH n L P r.2):=by
 have hm:=Y.m8;have b2:=QB hm;have bb:=Y.R2;intro N
 induction N with
 | zero=>intro dn p sm O Z;omega
 | succ N be=>
  intro dn p sm b3 a2 am ap;unfold OX Q6;have bg:JX ((P.length:Nat):Int)=some (2^P.length%256):=by
   unfold JX;rw[d9 AB,tt,Nat.one_shiftLeft]
  refine AR bg ?_;have b4:1<=2^P.length:=vZ;have bi:(2^P.length%256+(256 - 1))%256=2^P.length - 1:=by omega
  rw[bi];refine Bw (λaq=>Ap ⟨xj V ⟨[],.nil AB⟩,ap⟩) (λaq=>?_);have aq:dn≠2^P.length - 1:=λe=>aq (by rw[e]);refine AR (Xw Y.n5 am) (Bw (λO=>?_) (λO=>?_));let⟨b,hb⟩:=vP.1 O;rw[hb];exact Ap ⟨ap _ _ _ hb p am V,ap⟩
  .have bn:Bz sm (dn,FZ (AT p))=none:=by
    cases q:Bz sm (dn,FZ (AT p)) with
    | none=>rfl
    | some b=>rw[q] at O;exact absurd rfl O
   rw[bn];refine AJ (S:=λr=>(r.1=true↔Ends P dn (AT p))/\GH n L P r.2) ?_ ?_
   .refine Cn P.length (λi s=>s.2.2=(i:Int)/\GH n L P s.1/\(s.2.1=true->Ends P dn (AT p))/\(s.2.1=false->∀j<i,∀d K,P[j]?=some d->dn.testBit j=false->Fj (AT p) d K->¬Ends P (dn|||2^j) K)) ⟨V,ap,(λh=>by cases h),(λ_ j hj=>by omega)⟩ AB ?_ ?_
    .rintro i ⟨a3,is,z⟩ hi ⟨U,ac,ai,ag⟩;simp only at U ac ai ag;subst U;have hd:=Y.ok _ (f5 hi);let⟨o1,o2⟩:=QC hm a2 hi;unfold QX;refine BJ AN (AJ (S:=λr=>GH n L P r.2/\(r.1=true->Ends P dn (AT p))/\(r.1=false->∀j<i+1,∀d K,P[j]?=some d->dn.testBit j=false->Fj (AT p) d K->¬Ends P (dn|||2^j) K)) ?_ ?_)
     .refine Bh (m:=i) V hi (AR (WE AB) (AR (WM hm a2) (AJ (S:=λc=>c=(dn.testBit i || is)) ?_ ?_)))
      .cases hb:dn.testBit i with
       | true=>exact BJ AM (Ap rfl)
       | false=>exact BM AM (Ap rfl)
      rintro c rfl;refine Bw (λI=>Ap ⟨ac,ai,λa4 j hj d K O Z av=>?_⟩) (λI=>?_)
      .rw [show is=false from a4,Bool.or_false] at I;rcases mt j i with aw | bo;exact ag a4 j aw d K O Z av
       .obtain rfl:j=i:=by omega
        rw[I] at Z;cases Z
      .have hb:dn.testBit i=false:=by cases q:dn.testBit i;rfl;rw[q] at I;exact absurd V I
       have ay:is=false:=by cases q:is;rfl;rw[q,Bool.or_true] at I;exact absurd V I
       subst ay;refine AJ (Xq (d:=P[i]) Y.n5 Y.ML hd bb am) ?_;rintro l ⟨l1,l2,bv⟩;refine AJ (S:=λr=>GH n L P r.2/\(r.1=true->Ends P dn (AT p))/\(r.1=false->∀q∈l,¬Ends P (dn|||2^i) (AT q))) ?_ ?_
       .have bw:l.length<F:=uB l1 (Nat.lt_trans AD Y.fuel);have b5:(2:Nat)^15=32768:=by decide
        refine Cn l.length (λk s=>s.2.2=(k:Int)/\GH n L P s.1/\(s.2.1=true->Ends P dn (AT p))/\(s.2.1=false->∀q∈l.take k,¬Ends P (dn|||2^i) (AT q))) ⟨V,ac,(λh=>by cases h),(λ_ q az=>by cases az)⟩ bw ?_ ?_;rintro k ⟨a5,a6,z⟩ a0 ⟨U,t1,t2,t3⟩;simp only at U t1 t2 t3;subst U;let⟨sq,pv⟩:=l2 _ (f5 a0);unfold Qz;refine BJ AN (Bh (m:=k) V a0 (AJ (S:=λr=>GH n L P r.2/\(r.1=true->Ends P dn (AT p))/\(r.1=false->∀q∈l.take (k+1),¬Ends P (dn|||2^i) (AT q))) ?_ ?_));refine Bw (λI=>Ap ⟨t1,(λ_=>t2 I),(λh=>by cases h)⟩) (λI=>?_);have I:a6=false:=s9.2 I;refine AR (Qu AB) (AR o1 (have b6:=Y7 hb;AJ (be (dn|||2^i) l[k] a5 AB o2 sq t1) ?_));rintro⟨b,a1⟩ ⟨u1,u2⟩;refine Ap ⟨u2,λh=>?_,λh=>?_⟩;exact let⟨ca,bx⟩:=u1.1 h;⟨_,.cons (bZ hi) hb pv bx⟩;refine KZ a0 (t3 I) λhe=>?_;have:=u1.2 he;simp only at h this;rw[this] at h;cases h;rintro⟨b,a1⟩ ⟨u1,u2,aj⟩;exact A4 ((k+1:Nat):Int) AM (Ap ⟨V,u1,u2,aj⟩);rintro⟨a5,a6,z⟩ ⟨U,t1,t2,t3⟩;simp only at U t1 t2 t3;subst U;unfold Qz;rw[tf] at t3;exact BM AN (Ap ⟨_,V,t1,t2,t3⟩)
       .rintro⟨b,a1⟩ ⟨u1,u2,aj⟩;refine Ap ⟨u1,u2,λh j hj d K O Z av=>?_⟩;rcases mt j i with aw | bo;exact ag V j aw d K O Z av
        .obtain rfl:j=i:=by omega
         rw[bZ hi] at O;cases O;let⟨q,az,e⟩:=bv K av;rw[← e];exact aj h q az
     .rintro⟨b,a1⟩ ⟨u1,u2,aj⟩;exact A4 ((i+1:Nat):Int) AM (Ap ⟨V,u1,u2,aj⟩)
    .rintro⟨a3,is,z⟩ ⟨U,ac,ai,ag⟩;simp only at U ac ai ag;subst U;unfold QX;refine BM AN (Ap ⟨_,V,⟨ai,λhe=>?_⟩,ac⟩);simp only;cases ay:is with
     | true=>rfl
     | false=>
      let⟨i,d,K,a7,e2,bz,b0⟩:=he.cases aq;exact absurd b0 (ag ay i (d7.1 a7).1 d K a7 e2 bz)
   .rintro⟨b,a3⟩ ⟨u1,u2⟩;refine Ap ⟨u1,λcc X b' al b1 a8 a9=>?_⟩;simp only at al u1;rw[Ls] at al;split at al;rename_i e;cases al;cases e;rw[Ym Y.n5 a8 am a9];exact u1;exact u2 _ _ _ al b1 a8 a9
theorem ik(O:SX F n L P)(Y:dn<2^P.length){l:List PU}(aj:l.length<=5^15)(Z:∀q∈l,SP n L q)(ac:GH n L P sm):
  Au (f160 F l dn P sm) (λr=>GH n L P r.2/\r.1.length<=l.length/\(∀q∈r.1,q∈l/\Ends P dn (AT q))/\∀q∈l,Ends P dn (AT q)->q∈r.1):=by
 have al:(5:Nat)^15=30517578125:=by decide
 have am:(5:Nat)^16=152587890625:=by decide
 have ap:=O.fuel;unfold f160;refine AJ (S:=λr=>GH n L P r.2/\r.1.length<=l.length/\(∀q∈r.1,q∈l/\Ends P dn (AT q))/\∀q∈l,Ends P dn (AT q)->q∈r.1) ?_ (λr ag=>Ap ag);refine Cn l.length (λi s=>s.2.2=(i:Int)/\GH n L P s.1/\s.2.1.length<=i/\(∀q∈s.2.1,q∈l/\Ends P dn (AT q))/\∀q∈l.take i,Ends P dn (AT q)->q∈s.2.1) ⟨V,ac,tz _,(λq I=>by cases I),(λq I=>by cases I)⟩ AB ?_ ?_;rintro i ⟨U,out,z⟩ hi ⟨K,t1,t2,t3,t4⟩;simp only at K t1 t2 t3 t4;subst K;unfold Qf;refine BJ AN (Bh (m:=i) V hi (AJ (fz O F dn l[i] U AB Y (Z _ (f5 hi)) t1) ?_));rintro⟨b,aq⟩ ⟨u1,u2⟩;refine AJ (S:=λs=>s.length<=i+1/\(∀q∈s,q∈l/\Ends P dn (AT q))/\∀q∈l.take (i+1),Ends P dn (AT q)->q∈s) ?_ ?_;refine Bw (λhb=>?_) (λhb=>Ap ⟨by simp only;omega,t3,?_⟩);refine It AN (Ap ⟨by show(out++ [_]).length<=i+1;rw[sR,ui];omega,λq I=>?_,?_⟩);rcases sO.1 I with I | I;exact t3 q I;cases de.1 I;exact⟨f5 hi,u1.1 hb⟩;exact KZ hi (λq I he=>tv _ (t4 q I he)) λ_=>tG _ (de.2 V);exact KZ hi t4 λhe=>absurd (u1.2 he) hb;rintro s ⟨v1,v2,ai⟩;exact A4 ((i+1:Nat):Int) AM (Ap ⟨V,u2,v1,v2,ai⟩);rintro⟨U,out,z⟩ ⟨K,t1,t2,t3,t4⟩;simp only at K t1 t2 t3 t4;subst K;unfold Qf;rw[tf] at t4;exact BM AN (Ap ⟨_,V,t1,t2,t3,t4⟩)
theorem fP(U:SX F n L P)(hd:VT n d)(ay:now.length<=5^15)(Z:∀q∈now,SP n L q):
  Au (f161 F now d) (λout=>out.length<=5^15/\(∀q∈out,SP n L q/\∃p∈now,Fj (AT p) d (AT q))/\∀p∈now,∀I,Fj (AT p) d I->∃q∈out,AT q=I):=by
 have az:(5:Nat)^15=30517578125:=by decide
 have a0:(5:Nat)^16=152587890625:=by decide
 have a1:(2:Nat)^15=32768:=by decide
 have a2:=U.fuel;have ai:∀{out:List PU},(∀q∈out,SP n L q)->(out.map λq=>FZ (AT q)).Nodup->out.length<=5^15:=λa b=>nL U.n5 U.ML a b;unfold f161;refine AJ (S:=λr=>r.1.length<=5^15/\(∀q∈r.1,SP n L q/\∃p∈now,Fj (AT p) d (AT q))/\∀p∈now,∀I,Fj (AT p) d I->∃q∈r.1,AT q=I) ?_ (λr aj=>Ap aj);refine Cn now.length (λi s=>s.2.2=(i:Int)/\(∀X,(Bz s.1 X).getD false=true↔X∈s.2.1.map λq=>FZ (AT q))/\(s.2.1.map λq=>FZ (AT q)).Nodup/\(∀q∈s.2.1,SP n L q/\∃p∈now,Fj (AT p) d (AT q))/\∀p∈now.take i,∀I,Fj (AT p) d I->∃q∈s.2.1,AT q=I)
  ⟨rfl,(λX=>by simp[Bz]),wE,(λq K=>by cases K),(λp Z=>by cases Z)⟩ AB ?_ ?_
 .rintro i ⟨met,out,z⟩ hi ⟨O,t1,t2,t3,t4⟩;simp only at O t1 t2 t3 t4;subst O;unfold Qv;refine BJ AN (Bh (m:=i) V hi (AJ (Xq U.n5 U.ML hd U.R2 (Z _ (f5 hi))) ?_));rintro l ⟨l1,l2,al⟩;refine AJ (S:=λs=>(∀X,(Bz s.2 X).getD false=true↔X∈s.1.map λq=>FZ (AT q))/\(s.1.map λq=>FZ (AT q)).Nodup/\(∀q∈s.1,SP n L q/\∃p∈now,Fj (AT p) d (AT q))/\(∀p∈now.take i,∀I,Fj (AT p) d I->∃q∈s.1,AT q=I)/\∀q∈l,∃u∈s.1,AT u=AT q) ?_ ?_
  .refine Cn l.length (λk s=>s.2.2=(k:Int)/\(∀X,(Bz s.1 X).getD false=true↔X∈s.2.1.map λq=>FZ (AT q))/\(s.2.1.map λq=>FZ (AT q)).Nodup/\(∀q∈s.2.1,SP n L q/\∃p∈now,Fj (AT p) d (AT q))/\(∀p∈now.take i,∀I,Fj (AT p) d I->∃q∈s.2.1,AT q=I)/\∀q∈l.take k,∃u∈s.2.1,AT u=AT q)
    ⟨rfl,t1,t2,t3,t4,(λq K=>by cases K)⟩ AB ?_ ?_
   .rintro k ⟨met,out,z⟩ Y ⟨O,t1,t2,t3,t4,t5⟩;simp only at O t1 t2 t3 t4 t5;subst O;let⟨sq,pv⟩:=l2 _ (f5 Y);have a3:=ai (λq K=>(t3 q K).1) t2;unfold Qp;refine BJ AN (Bh (m:=k) V Y ?_);refine AR (Xw U.n5 sq) (AJ (S:=λs=>(∀X,(Bz s.2 X).getD false=true↔X∈s.1.map λq=>FZ (AT q))/\(s.1.map λq=>FZ (AT q)).Nodup/\(∀q∈s.1,SP n L q/\∃p∈now,Fj (AT p) d (AT q))/\(∀p∈now.take i,∀I,Fj (AT p) d I->∃q∈s.1,AT q=I)/\∀q∈l.take (k+1),∃u∈s.1,AT u=AT q) ?_ ?_)
    .refine Bw (λhb=>?_) (λhb=>Ap ⟨t1,t2,t3,t4,?_⟩)
     .have am:FZ (AT l[k]) ∉ out.map λq=>FZ (AT q):=λh=>by
       rw[(t1 _).2 h] at hb;cases hb
      refine It AN (Ap ⟨λX=>?_,?_,λq K=>?_,λp ap I hC=>?_,?_⟩);simp only;rw[Ls,tE,sO,List.map_singleton,de,← t1];by_cases e:X=FZ (AT l[k]);rw[d9 e];simp[e];rw[d0 e];simp[e];simp only;rw[tE,tU];refine⟨t2,AM,λa aq b hb e=>?_⟩;cases de.1 hb;subst e;exact am aq;rcases sO.1 K with K | K;exact t3 q K;cases de.1 K;exact⟨sq,_,f5 hi,pv⟩;exact let⟨q,K,e⟩:=t4 p ap I hC;⟨q,tv _ K,e⟩;refine KZ Y (λq K=>?_) ⟨_,tG _ (de.2 V),V⟩;exact let⟨u,hu,e⟩:=t5 q K;⟨u,tv _ hu,e⟩
     .refine KZ Y t5 ?_;have av:FZ (AT l[k])∈out.map λq=>FZ (AT q):=(t1 _).1 (by
       cases q:(Bz met (FZ (AT l[k]))).getD false with
       | true=>rfl
       | false=>rw[q] at hb;exact absurd rfl hb)
      let⟨u,hu,e⟩:=tn.1 av;exact⟨u,hu,Ym U.n5 (t3 u hu).1 sq e⟩
    .rintro⟨o2,aw⟩ ⟨v1,v2,ac,v4,ag⟩;exact A4 ((k+1:Nat):Int) AM (Ap ⟨V,v1,v2,ac,v4,ag⟩)
   .rintro⟨met,out,z⟩ ⟨O,t1,t2,t3,t4,t5⟩;simp only at O t1 t2 t3 t4 t5;subst O;unfold Qp;rw[tf] at t5;exact BM AN (Ap ⟨_,V,t1,t2,t3,t4,t5⟩)
  .rintro⟨o2,aw⟩ ⟨v1,v2,ac,v4,ag⟩;exact A4 ((i+1:Nat):Int) AM (Ap ⟨V,v1,v2,ac,KZ hi v4 λI hC=>let⟨q,K,e⟩:=al I hC;let⟨u,hu,e2⟩:=ag q K;⟨u,hu,e2.trans e⟩⟩)
 .rintro⟨met,out,z⟩ ⟨O,t1,t2,t3,t4⟩;simp only at O t1 t2 t3 t4;subst O;unfold Qv;rw[tf] at t4;exact BM AN (Ap ⟨_,V,ai (λq K=>(t3 q K).1) t2,t3,t4⟩)
end
def FF:List Int->List Int->Bool
 | x::xs,y::ys=>if x=y then FF xs ys else decide (x<y)
 | _,_=>false
theorem KT(x y:Int)(xs ys:List Int):FF (x::xs) (y::ys)=if x=y then FF xs ys else decide (x<y):=rfl
theorem Wc:∀{a b:List Int},a.length=b.length->FF a b=false->FF b a=false->a=b
 | [],[],_,_,_=>rfl
 | x::xs,y::ys,O,I,K=>by
  rw[KT] at I K
  by_cases e:x=y
  .subst e
   rw[d9 rfl] at I K;rw[Wc (by simpa using O) I K]
  .rw [d0 e] at I;rw[d0 (λq=>e q.symm)] at K;have I:=vu I;have K:=vu K;omega
def MM(P:List DT)(S:CF->Prop)(dn:Nat)(I:List Int):Prop:=(∃C,S C/\GI P dn C I)/\∀C K,S C->GI P dn C K->FF K I=false
def MS(P:List DT)(S:CF->Prop)(dn i:Nat)(I:List Int):Prop:=(∃C,S C/\GI P dn C ((i:Int)::I))/\∀C K,S C->GI P dn C ((i:Int)::K)->FF K I=false
def EY(P:List DT)(S:CF->Prop)(dn i:Nat):Prop:=∃C d I,S C/\P[i]?=some d/\dn.testBit i=false/\Fj C d I/\Ends P (dn|||2^i) I
variable{w0:List Int}
theorem GI.U3{P:List DT}{S:CF->Prop}(hC:S C)(h:GI P dn C w0)(U:dn≠2^P.length - 1):∃(i:Nat) (d:DT) (I:CF) (K:List Int),w0=(i:Int)::K/\P[i]?=some d/\dn.testBit i=false/\Fj C d I/\GI P (dn|||2^i) I K/\EY P S dn i:=by
 cases h with
 | nil e=>exact absurd e U
 | @cons _ i _ I d K a b c e=>exact⟨i,d,I,K,rfl,a,b,c,e,C,d,I,hC,a,b,c,K,e⟩
theorem GI.fst{P:List DT}{i:Nat}(h:GI P dn C ((i:Int)::w0)):∃(d:DT) (I:CF),P[i]?=some d/\dn.testBit i=false/\Fj C d I/\GI P (dn|||2^i) I w0:=by
 generalize O:(i:Int)::w0=q at h;cases h with
 | nil e=>cases O
 | @cons _ j _ I d Y a b c e=>
  injection O with Z U;obtain rfl:i=j:=by omega
  subst U;exact⟨d,I,a,b,c,e⟩
theorem MS.step{P:List DT}{S K:CF->Prop}{dn i k:Nat}{w0:List Int}{d:DT}(hd:P[i]?=some d)(U:∀I,K I↔((∃C,S C/\Fj C d I)/\Ends P (dn|||2^i) I))(hb:dn.testBit i=false)(ag:dn|||2^i≠2^P.length - 1)(az:∀j,j<k->¬EY P K (dn|||2^i) j)(h:MS P K (dn|||2^i) k w0):MS P S dn i ((k:Int)::w0):=by
 obtain⟨⟨I,ai,aj⟩,a0⟩:=h;obtain⟨⟨C,hC,al⟩,-⟩:=(U I).1 ai;refine⟨⟨C,hC,.cons hd hb al aj⟩,λam ap aq av=>?_⟩;obtain⟨d2,Y,Z,e2,aw,ac⟩:=av.fst;rw[hd] at Z;cases Z;have ay:K Y:=(U Y).2 ⟨⟨am,aq,aw⟩,ap,ac⟩;obtain⟨j,a1,a2,a3,rfl,-,-,-,-,hj⟩:=ac.U3 ay ag
 grind [KT]
structure OS (m dn:Nat) (os:List Nat):Prop where
 nd:os.Nodup
 lt:∀i∈os,i<m
 bit:∀i,i<m->(dn.testBit i=true↔i∈os)
 dn:dn<2^m
variable{os:List Nat}
theorem OS.full(h:OS m dn os):os.length=m↔dn=2^m - 1:=by
 have hle:os.length<=m:=by
  have:=Lq (m:=List.range m) h.nd λx I=>s4.2 (h.lt x I)
  rwa[ur] at this
 constructor
 .intro e;have K:∀i,i<m->i∈os:=by
   intro i hi;refine ts λO=>?_;have:=Lq (l:=i::os) (m:=List.range m) (vw.2 ⟨O,h.nd⟩) λx I=>by
    rcases ja.1 I with rfl | I;exact s4.2 hi;exact s4.2 (h.lt x I)
   rw[ur,tb] at this;omega
  refine wp λi=>?_;rw[wH];rcases mt i m with hi | hi;rw[(h.bit i hi).2 (K i hi),th hi];rw[tA AB];exact uY (tW h.dn (tx AB hi))
 .intro e;have:=Lq (l:=List.range m) (m:=os) List.nodup_range λx I=>by
   refine have I:=s4.1 I;(h.bit x I).1 ?_;rw[e,wH,th I]
  rw[ur] at this;omega
theorem OS.snoc{i:Nat}(h:OS m dn os)(hi:i<m)(hb:dn.testBit i=false):OS m (dn|||2^i) (os++ [i]):=by
 have I:i ∉ os:=λq=>by rw[(h.bit i hi).2 q] at hb;cases hb
 refine⟨?_,λj hj=>?_,λj hj=>?_,?_⟩;rw[tU];exact⟨h.nd,AM,λa K b O e=>by cases de.1 O;subst e;exact I K⟩;rcases sO.1 hj with hj | hj;exact h.lt j hj;cases de.1 hj;exact hi;rw[YP,t8,uj,h.bit j hj,sO,de];exact⟨λq=>q.imp id Eq.symm,λq=>q.imp id Eq.symm⟩;exact wb h.dn (wv AB hi)
variable{A S:Type}{N:Nat}
theorem fc{body:S->Option (Bn S A)}{s s':S}(h:body s=some (.more s')):Pal.iter body (N+1) s=Pal.iter body N s':=by
 conv=>lhs;unfold Pal.iter
 rw[h]
theorem W9{body:S->Option (Bn S A)}{s:S}{a:A}(h:body s=some (.done a)):Pal.iter body (N+1) s=some a:=by
 conv=>lhs;unfold Pal.iter
 rw[h]
variable{c2:Nat}
section
variable {n:Nat}
def Gi(l:List PU):CF->Prop:=λC=>∃p∈l,AT p=C
theorem XF(O:SX F n L P){i:Nat}(al:dn<2^P.length)(hd:P[i]?=some d)(hb:dn.testBit i=false)(am:now.length<=5^15)(ap:∀q∈now,SP n L q)(aq:GH n L P sm):
  ∃all r,f161 F now d=some all/\f160 F all (dn|||2^i) P sm=some r/\GH n L P r.2/\r.1.length<=5^15/\(∀q∈r.1,SP n L q)/\(∀I,Gi r.1 I↔((∃C,Gi now C/\Fj C d I)/\Ends P (dn|||2^i) I))/\(r.1=[]↔¬EY P (Gi now) dn i):=by
 have hi:i<P.length:=(d7.1 hd).1;have av:=O.ok d (sU hd);let⟨all,aw,a1,Y,ay⟩:=fP O av am ap;obtain⟨-,o2⟩:=QC O.m8 al hi;let⟨r,az,a0,a7,ai,a2⟩:=ik O o2 a1 (λq K=>(Y q K).1) aq;have Z:∀I,Gi r.1 I↔((∃C,Gi now C/\Fj C d I)/\Ends P (dn|||2^i) I):=by
  intro I;constructor;rintro⟨q,K,rfl⟩;let⟨c1,c2⟩:=ai q K;obtain⟨-,p,ac,ag⟩:=Y q c1;exact⟨⟨_,⟨p,ac,V⟩,ag⟩,c2⟩;rintro⟨⟨C,⟨p,ac,rfl⟩,ag⟩,he⟩;obtain⟨q,K,rfl⟩:=ay p ac I ag;exact⟨q,a2 q K he,V⟩
 refine⟨all,r,aw,az,a0,AB,λq K=>(Y q (ai q K).1).1,Z,?_⟩;constructor;rintro e ⟨C,d',I,k1,U,aj,a3,a4⟩;rw[hd] at U;cases U;obtain⟨q,K,-⟩:=(Z I).2 ⟨⟨C,k1,a3⟩,a4⟩;rw[e] at K;cases K
 .intro a5;cases a6:r.1 with
  | nil=>rfl
  | cons q l=>
   exfalso;obtain⟨⟨C,k1,U⟩,aj⟩:=(Z (AT q)).1 ⟨q,by rw[a6];exact tI,rfl⟩;exact a5 ⟨C,d,_,k1,hd,hb,U,aj⟩
theorem cP(I:SX F n L P)(K:dn<2^P.length){Y:List PU}{Z ac:List ((Nat×List (List Int))×Bool)}{i0:Int}{ag:List Int}(aj:now.length<=5^15)(al:∀q∈now,SP n L q)(am:GH n L P sm)
  (hex:∃k,k<P.length/\EY P (Gi now) dn k):
  Au (Pal.iter (Qr F P (ac,Y,i0,ag,c2) (now,Z) dn) F (sm,0)) (λr=>GH n L P r.2/\∃k:Nat,r.1=(k:Int)/\k<P.length/\EY P (Gi now) dn k/\∀j,j<k->¬EY P (Gi now) dn j):=by
 refine have hm:=I.m8;have a1:=I.R2;Cn P.length (λi s=>s.2=(i:Int)/\GH n L P s.1/\∀j,j<i->¬EY P (Gi now) dn j) ⟨V,am,λj hj=>by omega⟩ AB ?_ ?_
 .rintro i ⟨ap,z⟩ hi ⟨O,t1,t2⟩;simp only at O t1 t2;subst O;let⟨o1,o2⟩:=QC hm K hi;unfold Qr;refine BJ AN (Bh (m:=i) V hi (AR (WE AB) (AR (WM hm K) (AJ (S:=λr=>GH n L P r.2/\(r.1=true↔EY P (Gi now) dn i)) ?_ ?_))))
  .cases hb:dn.testBit i with
   | true=>
    refine BM AM (Ap ⟨t1,vC AM ?_⟩);rintro⟨C,d,a2,_,_,k,_⟩;rw[hb] at k;cases k
   | false=>
    refine let⟨all,r,aq,av,aw,a3,a4,a5,U⟩:=XF I K (bZ hi) hb aj al t1;BJ AM (AR (Qu AB) (AR o1 (AR aq (AR av (Ap ⟨aw,?_⟩)))));rw[uj];constructor;intro q;refine vN λay=>?_;rw[U.2 ay] at q;exact absurd q AM;intro q;have:r.1≠ []:=λe=>U.1 e q;have:=vK.2 this;omega
  .rintro⟨b,a6⟩ ⟨u1,u2⟩;refine Bw (λhb=>Ap ⟨u1,i,V,hi,u2.1 hb,t2⟩) (λhb=>A4 ((i+1:Nat):Int) AM (Ap ⟨V,u1,λj hj=>?_⟩));rcases mt j i with az | a7;exact t2 j az
   .obtain rfl:j=i:=by omega
    exact λq=>hb (u2.2 q)
 .rintro⟨ap,z⟩ ⟨O,t1,t2⟩;obtain⟨k,a0,hh⟩:=hex;exact absurd hh (t2 k a0)
theorem iC(I:SX F n L P):∀(N dn i:Nat) (os:List Nat) (now:List PU) (sm:List ((Nat×List (List Int))×Bool)),300<N+dn->OS P.length dn os->i<P.length->dn.testBit i=false->now.length<=5^15->(∀q∈now,SP n L q)->GH n L P sm->
  Au (Pal.iter (OE F P) N (sm,now,(i:Int),os.map (λj:Nat=>(j:Int)),dn)) (λq=>∃r sm',q=Sum.inl (r,sm')/\((¬EY P (Gi now) dn i/\r=[])∨(EY P (Gi now) dn i/\∃K,r=os.map (λj:Nat=>(j:Int))++(i:Int)::K/\MS P (Gi now) dn i K))):=by
 have hm:=I.m8;have b6:=QB hm;intro N
 induction N with
 | zero=>intro dn i os now sm am Z;have:=Z.dn;omega
 | succ N a4=>
  intro dn i os now sm ca O hi hb a5 a6 a7;have ap:=O.dn;let⟨o1,o2⟩:=QC hm ap hi;let⟨all,r,am,Z,a8,aq,av,aw,ac⟩:=XF I ap (bZ hi) hb a5 a6 a7;have ag:=O.snoc hi hb;have cc:os.length<=8:=by
   have:=Lq (m:=List.range P.length) O.nd λx I=>s4.2 (O.lt x I);rw[ur] at this;omega
  have body:Au (OE F P (sm,now,(i:Int),os.map (λj:Nat=>(j:Int)),dn)) (λst=>
    (∃sm',st=.done (Sum.inl ([],sm'))/\¬EY P (Gi now) dn i)∨
    (∃sm',st=.done (Sum.inl (os.map (λj:Nat=>(j:Int))++ [(i:Int)],sm'))/\EY P (Gi now) dn i/\dn|||2^i=2^P.length - 1)∨
    (∃sm' k,st=.more (sm',r.1,((k:Nat):Int),(os++ [i]).map (λj:Nat=>(j:Int)),dn|||2^i)/\EY P (Gi now) dn i/\dn|||2^i≠2^P.length - 1/\k<P.length/\EY P (Gi r.1) (dn|||2^i) k/\(∀j,j<k->¬EY P (Gi r.1) (dn|||2^i) j)/\GH n L P sm')):=by
   unfold OE
   dsimp only;refine Bh (m:=i) V hi (AR (Qu AB) (AR o1 (AR am (AR Z (Bw (λay=>Ap (.inl ⟨_,V,ac.1 (vp.1 AB)⟩)) (λay=>?_))))));have ai:EY P (Gi now) dn i:=vN λq=>ay (by rw[ac.2 q];rfl);refine AR (Qu AB) (AR o1 (FO AP ?_));have hlen:(os.map (λj:Nat=>(j:Int))++ [(i:Int)]).length=(os++ [i]).length:=by simp
   refine Bw (λU=>Ap (.inr (.inl ⟨_,V,ai,ag.full.1 AB⟩))) (λU=>?_);have Y:dn|||2^i≠2^P.length - 1:=λe=>U (by have:=ag.full.2 e;omega)
   have hex:∃k,k<P.length/\EY P (Gi r.1) (dn|||2^i) k:=by
    have a9:r.1≠ []:=λe=>ac.1 e ai;let⟨q,az⟩:=wM _ a9;obtain⟨-,he⟩:=(aw (AT q)).1 ⟨q,az,V⟩;let⟨k,d,a0,a1,e2,bb,be⟩:=he.cases Y;exact⟨k,(d7.1 a1).1,_,d,a0,⟨q,az,V⟩,a1,e2,bb,be⟩
   refine AJ (cP I o2 aq av a8 hex) ?_;rintro⟨z,sm'⟩ ⟨u1,k,a2,u2,bg,bi⟩;simp only at a2;subst a2;exact Ap (.inr (.inr ⟨sm',k,by simp only[tE,List.map_singleton],ai,Y,u2,bg,bi,u1⟩))
  obtain⟨st,aj,bn⟩:=body;have ce:=Y7 hb;rcases bn with⟨sm',rfl,al⟩ | ⟨sm',rfl,hh,bo⟩ | ⟨sm',k,rfl,hh,Y,bv,a3,bw,bx⟩;rw[W9 aj];exact Ap ⟨[],sm',V,.inl ⟨al,V⟩⟩;rw[W9 aj];refine Ap ⟨_,sm',V,.inr ⟨hh,[],V,?_⟩⟩;obtain⟨C,d,a0,k1,bz,b0,b1,ci⟩:=hh;exact⟨⟨C,k1,.cons bz b0 b1 (.nil bo)⟩,λco b2 _ _=>by cases b2<;>rfl⟩
  .rw [fc aj];have b3:(dn|||2^i).testBit k=false:=by obtain⟨_,_,_,_,_,q,_⟩:=a3;exact q
   refine(a4 (dn|||2^i) k (os++ [i]) r.1 sm' AB ag bv b3 aq av bx).Aj ?_;rintro q ⟨r',b4,rfl,U⟩;refine⟨r',b4,V,?_⟩;rcases U with⟨al,-⟩ | ⟨-,K,rfl,b5⟩;exact absurd a3 al;refine .inr ⟨hh,(k:Int)::K,AM,b5.step (bZ hi) aw hb Y bw⟩
end
def FG(ps:List (List Int)):CF:=λa b=>(((ps.getD a []).count (b:Int):Nat):Int)
def KC(ps:List (List Int)):List Nat:=ps.flatMap λx=>x.map Int.toNat
def LW:Nat->List (List Int)->List Nat
 | _,[]=>[]
 | i,x::xs=>List.replicate x.length i++LW (i+1) xs
theorem Wv{os w2:List Nat}(a b:Nat):∀{K w1:List Nat},K.length=w1.length->Di (K++os) (w1++w2) a b=Di K w1 a b+Di os w2 a b
 | [],[],_=>by show Di os w2 a b=0+Di os w2 a b;omega
 | l::K,o::w1,h=>by
  rw[tH,tH,PY,PY,Wv a b (by simpa using h)];omega
theorem Wx(i a b:Nat):∀{x:List Int},(∀c∈x,0<=c)->Di (x.map Int.toNat) (List.replicate x.length i) a b=if a=i then((x.count (b:Int):Nat):Int) else 0
 | [],_=>by show(0:Int)=_;simp
 | c::x,h=>by
  have O:=h c tI
  rw[tX,tb,uU,PY,Wx i a b λy K=>h y (kW _ K),List.count_cons]
  by_cases I:a=i
  .rw [d9 I,d9 I]
   by_cases hb:b=c.toNat;rw[d9 ⟨I,hb⟩,d9 (by rw[uI];omega)];omega;rw[d0 (λq=>hb q.2),d0 (by rw[uI];omega)];omega
  .rw [d0 I,d0 I,d0 (λq=>I q.1)];omega
theorem TP(a b:Nat):∀(ps:List (List Int)) (i:Nat),(∀x∈ps,∀c∈x,0<=c)->Di (KC ps) (LW i ps) a b=if i<=a then FG ps (a - i) b else 0
 | [],i,_=>by
  show(0:Int)=_
  split;unfold FG;rw[sP];simp;rfl
 | x::ps,i,h=>by
  have I:=TP a b ps (i+1) λy K=>h y (kW _ K);show Di (x.map Int.toNat++KC ps) (List.replicate x.length i++LW (i+1) ps) a b=_;rw[Wv a b AM,Wx i a b (h x tI),I];by_cases e:a=i;subst e;rw[d9 rfl,d0 AB,d9 (jK _),vh];unfold FG;rw[List.getD_cons_zero];omega;rw[d0 e];by_cases e2:i<=a;rw[d9 AB,d9 e2];obtain⟨k,O⟩:∃k,a - i=k+1:=⟨a - i - 1,AB⟩;unfold FG;rw[O,List.getD_cons_succ,show a - (i+1)=k by omega];omega;rw[d0 AB,d0 e2];omega
theorem T3:∀(ps:List (List Int)) (i:Nat),(LW i ps).length=(KC ps).length
 | [],_=>rfl
 | x::ps,i=>by
  show(List.replicate x.length i++LW (i+1) ps).length=(x.map Int.toNat++KC ps).length
  rw[sR,sR,T3 ps (i+1),uw,t9]
theorem Uf:∀(ps:List (List Int)) (i:Nat),∀o∈LW i ps,o<i+ps.length
 | [],_,o,h=>by cases h
 | x::ps,i,o,h=>by
  rw[tb]
  rcases sO.1 h with h | h;have:=(vz.1 h).2;omega;have:=Uf ps (i+1) o h;omega
theorem XD:∀{ps:List (List Int)}{k:Nat},(∀x∈ps,x.length<=k)->(KC ps).length<=ps.length*k
 | [],_,_=>tz _
 | x::ps,k,h=>by
  have:=XD (ps:=ps) (k:=k) λy I=>h y (kW _ I)
  have K:=h x tI
  show(x.map Int.toNat++KC ps).length<=_
  rw[sR,t9,tb,tZ];omega
theorem VF{x:List Int}{k:Nat}(I:k<x.length)(b:Int):(x.take (k+1)).count b=(x.take k).count b+if x[k]=b then 1 else 0:=by
 rw[tp,bZ I,List.count_append,um,List.count_singleton]
 grind
variable{o:OW}
theorem fB{F:Nat}(aj:100<F)(h:VO o):Au (f120 F o) (λp=>SP o.1.length (KC o.1) p/\AT p=FG o.1):=by
 have al:=h.n5;unfold f120;refine AJ (S:=λp=>p.length=o.1.length/\(∀xs∈p,∀I∈xs,0<=I.1/\I.1<10)/\∀a,a<o.1.length->∀b:Nat,AT p a b=FG o.1 a b) ?_ ?_
 .refine Cn o.1.length (λi s=>s.2=(i:Int)/\s.1.length=i/\(∀xs∈s.1,∀I∈xs,0<=I.1/\I.1<10)/\∀a,a<i->∀b:Nat,AT s.1 a b=FG o.1 a b) ⟨V,V,(λxs O=>by cases O),(λa ac=>by omega)⟩ AB ?_ ?_
  .rintro i ⟨s,z⟩ hi ⟨K,t1,t2,t3⟩;simp only at K t1 t2 t3;subst K;let⟨c1,c2⟩:=h.cs _ (f5 hi);unfold QE;refine BJ AN (Bh (m:=i) V hi (AJ (S:=λm=>(∀I∈m,0<=I.1/\I.1<10)/\∀b:Nat,(Bz m (b:Int)).getD 0=((o.1[i].count (b:Int):Nat):Int)) ?_ ?_))
   .refine Cn o.1[i].length (λk s=>s.2=(k:Int)/\(∀I∈s.1,0<=I.1/\I.1<10)/\∀b:Nat,(Bz s.1 (b:Int)).getD 0=(((o.1[i].take k).count (b:Int):Nat):Int)) ⟨V,(λI U=>by cases U),(λb=>V)⟩ AB ?_ ?_
    .rintro k ⟨m,z⟩ U ⟨K,u1,u2⟩;simp only at K u1 u2;subst K;have Y:=c2 _ (f5 U);have ag:((o.1[i][k].toNat:Nat):Int)=o.1[i][k]:=by omega
     have hg:=u2 o.1[i][k].toNat;rw[ag] at hg;have hle:(o.1[i].take k).count o.1[i][k]<=k:=s3 xc (by rw[t7];omega);unfold QH;refine BJ AN (Bh (m:=k) V U (Lx _ V (by simp only[hg];omega) (by simp only[hg];omega) (A4 ((k+1:Nat):Int) AM (Ap ⟨V,λI am=>?_,λb=>?_⟩))))
     all_goals grind [VF,Ls,Td]
    .rintro⟨m,z⟩ ⟨K,u1,u2⟩;simp only at K u1 u2;subst K;unfold QH;rw[tf] at u2;exact BM AN (Ap ⟨_,V,u1,u2⟩)
   .rintro m ⟨u1,u2⟩;refine It AN (A4 ((i+1:Nat):Int) AM (Ap ⟨V,by show(s++ [m]).length=i+1;rw[sR,ui];omega,λxs ai=>?_,λa ac b=>?_⟩));rcases sO.1 ai with q | q;exact t2 xs q;cases de.1 q;exact u1
    .simp only;rcases mt a i with q | q;rw[← t3 a q b];unfold AT;rw[sP,sX AB,sP]
     .obtain rfl:a=i:=by omega
      unfold AT FG;rw[sP,sQ AB,show a - s.length=0 by omega,sP,bZ hi];exact u2 b
  .rintro⟨s,z⟩ ⟨K,t1,t2,t3⟩;simp only at K t1 t2 t3;subst K;unfold QE;exact BM AN (Ap ⟨_,V,t1,t2,t3⟩)
 .rintro p ⟨t1,t2,t3⟩;have Z:AT p=FG o.1:=by
   funext a b;rcases mt a o.1.length with q | q;exact t3 a q b;unfold AT FG;rw[sP,tK AB,sP,tK q];rfl
  refine Ap ⟨⟨t1,t2,LW 0 o.1,T3 _ _,λx O=>by have:=Uf o.1 0 x O;omega,?_⟩,Z⟩;rw[Z];funext a b;rw[TP a b o.1 0 (λx O c Y=>by have:=(h.cs x O).2 c Y;omega),d9 (tz _),uO]
theorem VO.ML(h:VO o):(KC o.1).length<=15:=by
 have K:=XD (ps:=o.1) (k:=3) λx I=>(h.cs x I).1;have:=h.n5;omega
structure PO (F:Nat) (o:OW) (P:List DT):Prop where
 vo:VO o
 m8:P.length<=8
 ok:∀d∈P,VT o.1.length d
 fuel:5^16<F
theorem PO.sx{F:Nat}{P:List DT}(h:PO F o P):SX F o.1.length (KC o.1) P:=⟨h.vo.n5,h.vo.ML,h.m8,h.ok,h.fuel⟩
def S0(o:OW):CF->Prop:=λC=>FG o.1=C
theorem gb{F:Nat}{P:List DT}(h:PO F o P){j:Nat}(hj:j<P.length):Au (Kv F o P j) (λr=>(¬EY P (S0 o) 0 j/\r=[])∨(EY P (S0 o) 0 j/\∃K,r=(j:Int)::K/\MS P (S0 o) 0 j K)):=by
 have O:=h.sx;have Z:=h.fuel;have ac:(5:Nat)^16=152587890625:=by decide
 unfold Kv;refine AJ (fB O.R2 h.vo) ?_;rintro p ⟨Y,U⟩;have ag:Gi [p]=S0 o:=by
  funext C;unfold Gi S0;refine propext ⟨?_,λe=>⟨p,de.2 V,by rw[U];exact e⟩⟩;rintro⟨q,I,e⟩;cases de.1 I;rw[← U];exact e
 have key:=iC O F 0 j [] [p] [] AB ⟨wE,(λi hi=>by cases hi),(λi hi=>by simp),wq _⟩ hj AM AM (λq I=>by cases de.1 I;exact Y) (λdn X b hb=>by cases hb)
 grind [EY,MS,S0,AJ,Ap,f119]
theorem kL{F:Nat}{P:List DT}(h:PO F o P):Au (f77 F o P) (λr=>(r.2=true/\MM P (S0 o) 0 r.1)∨(r=([],false)/\¬Ends P 0 (FG o.1))):=by
 have hm:=h.m8;unfold f77;refine Bw (λag=>Ap (.inl ⟨V,⟨_,V,.nil (by rw[ag])⟩,λC ai _ _=>by cases ai<;>rfl⟩)) (λag=>?_);have aj:0≠2^P.length - 1:=by
  have:2^1<=2^P.length:=tx AB AB;omega
 have Z:∀j,j<P.length->∃r,Kv F o P j=some r/\K8 F o P j=r/\((¬EY P (S0 o) 0 j/\r=[])∨(EY P (S0 o) 0 j/\∃O,r=(j:Int)::O/\MS P (S0 o) 0 j O)):=λj hj=>by
  let⟨r,U,K⟩:=gb h hj;exact⟨r,U,by unfold K8;rw[U];rfl,K⟩
 refine BJ ⟨AB,td.2 λj hj=>?_⟩ (Ap ?_);let⟨r,U,_⟩:=Z j (s4.1 hj);rw[U];rfl
 have ac:∀j,j<P.length->((!(K8 F o P j).isEmpty)=true↔EY P (S0 o) 0 j):=λj hj=>by
  let⟨r,_,K,I⟩:=Z j hj;rw[K];rcases I with⟨I,rfl⟩ | ⟨I,O,rfl,_⟩;exact vC AM I;exact xj V I
 unfold NF;cases al:(List.range P.length).find? λj=> !(K8 F o P j).isEmpty with
 | none=>
  refine .inr ⟨V,λhe=>?_⟩;let⟨i,d,am,Y,e2,ap,aq⟩:=he.cases aj;have hi:=(d7.1 Y).1;have:=u4.1 al i (s4.2 hi);exact this ((ac i hi).2 ⟨_,d,am,V,Y,e2,ap,aq⟩)
 | some j=>
  let⟨f1,f2,f3⟩:=tR.1 al;have hj:=s4.1 f2;let⟨r,_,K,I⟩:=Z j hj;have az:=(ac j hj).1 f1;rcases I with⟨I,_⟩ | ⟨I,O,rfl,⟨C,hC,a0⟩,a1⟩;exact absurd az I
  refine .inl ⟨V,?_⟩;show MM P (S0 o) 0 (K8 F o P j);rw[K];refine⟨⟨C,hC,a0⟩,λa2 ai av aw=>?_⟩;obtain⟨i,d,am,a3,rfl,Y,e2,ap,aq,a4⟩:=aw.U3 av aj;have hi:=(d7.1 Y).1;have a5:j<=i:=by
   rcases mt i j with q | q;have:=f3 i q;rw[vc] at this;have ay:=(ac i hi).2 a4;rw[this] at ay;cases ay;exact q
  rw[KT];by_cases e:(i:Int)=(j:Int)
  .rw [d9 e];obtain rfl:i=j:=by omega
   exact a1 a2 a3 av aw
  .rw [d0 e];exact tA AB
open Go Go.Conc Go.Proofs Go.Proofs.Tryz
variable {J:Judge Tryz.prog}{E:LH}
def Rb(fu_:Nat)(p0:Bf)(I:(List Int)×Int):Option (Bn ((List Int)×Int) ((List Int))):=if I.2<(p0.2.length:Int) then((ix p0.2 I.2).bind λK=>(ix I.1 K.1).bind λag=>(ix I.1 K.1).bind λO=>(Ax (O - K.2.2)).bind λU=>(ix I.1 K.2.1).bind λY=>(Ax (Y+K.2.2)).bind λZ=>(Ax (I.2+1)).bind λac=>some (.more (((I.1.set (Int.toNat K.1) U).set (Int.toNat K.2.1) Z),ac))) else(some (.done I.1))
def f89(fu_:Nat)(p0:Bf):Option ((List Int)):=(GQ (p0.1.length:Int) (0:Int)).bind λI=>Option.bind (iter (Rb fu_ p0) fu_ (I,0)) λK=>some K
variable{a1:Av}{fu_:Nat}
theorem mX{a6:Av}{a7:Nat}{p0:Bf}(e3:Aq (rL rI) E a1 c2 p0.1)(bz:Aq AI E a6 a7 p0.2){r:(List Int)}(a8:f89 fu_ p0=some r):A2 J 119 [.agg #[sV a1 p0.1 c2,sV a6 p0.2 a7]] E [] (λw E' B'=>∃(a9:Av) (bb:Nat),w= sV a9 r bb/\B'=[]/\Aq rI E' a9 bb r):=by
 refine Bq func119 λQ e4 cs H b0 b1=>?_;unfold f89 at a8;refine C 2 V (Cx b0 λbe ay bg az b2=>?_);refine C 4 V (BS 0 az A0 Eo EJ ?_);refine BB Ar V V V (Ai a8 λb3 b4 b5=>E2 (pp:=rI) b4 V V V V V Ak AE (B3 A5) AD Ca AD V b2 λb6 ca cc ce=>?_);let⟨bi,ci,co⟩:=bs b5;refine C 7 V (Bs (λL s=>∃(a0:LH) (ai:Av) (aj:Nat) (a2:Seg),Jn ay H a0 [a2] [(3,sV ai bi aj)] L s (OL 3 rI a0 ai aj a2 bi)) ?_ ?_);rintro _ _ ⟨a0,ai,aj,a2,rfl,rfl,cp,ct,cw⟩;refine C 5 V (Cl 0 cw ct V λe5 cy c0 c3=>?_);cases co;exact AX func119 V V (b1 ((bg.Ae cp).Ae cy) V ⟨ai,aj,V,V,c0⟩ c3);intro c4;refine Ay (Cm ci (λL s I=>∃(al:LH) (am:Av) (U:Nat) (ap:Seg),Jn ay H al [ap] [(1,AA be 0),(3,sV am I.1 U),(4,iV I.2)] L s (OL 3 rI al am U ap I.1)) ⟨ay,(Bd b6),b3.length,ca,V,V,AL,ce,cc⟩ ?_);rintro _ _ I ⟨al,am,U,ap,rfl,rfl,ag,bn,bo⟩ c5 ⟨e6,a3⟩ c6;have bv:=a3;unfold Rb at bv;refine C 4 V (BS 1 (az.Aj ag) A0 Ej Fe ?_);refine BB Am V V V (C 2 V (AW bv (λc7 c8=>?_) (λc7 c9=>?_)));refine C 5 V (BS 1 (az.Aj ag) A0 Ej Fe ?_);refine Ai c8 λO dd dj=>C 1 V (B7 (bz.Aj (bg.Ae ag)) dd Am Bc ?_);rintro e7 e8 _ ⟨_,_,rfl,rfl,⟨_,_,rfl,rfl,rfl⟩⟩ ea;refine Ch ea Dl Bc V V (Cq bn BU λff eb=>?_);refine BX 1 eb Bc λec=>?_;refine Ff 1 ec V λed bw Y a4=>Ai dj λfk ee ef=>A1 ?_;let⟨aq,f82,eg,K⟩:=WL.of (bo.Aj bw) ee;obtain⟨rfl,rfl⟩:=eg;refine Gl [23,25] [aq] [] mixed V (CL 0 V V (CG 1 true V V (λ_ h s' hs=>Gm 0 0 An AE V V V (h _ _ V)) (I4 2 V AC V V V (λ_ h s' hs=>Az A7 (h _ _ V) (Eh (j:=0) Y hs V)) (CL 3 V V (CG 4 true V V (λ_ h s' hs=>Gm 0 1 An AE V V V (h _ _ V)) (I4 5 V AC V V V (λ_ h s' hs=>Az A7 (h _ _ V) (Eh Y hs V)) (CL 6 V V (CG 7 true V V (λ_ h s' hs=>Gm 0 0 An AE V V V (h _ _ V)) (I4 8 V AC V V V (λ_ h s' hs=>Az A7 (h _ _ V) (Eh (j:=0) Y hs V)) ?_)))))))));let⟨fl,av,ej⟩:=bs ef;obtain⟨_,rfl,ek⟩:=Cr K av;refine DM 9 K.2 av Ak AE ?_;refine EA 10 false V AC V V V (λ_ h s' hs=>have hs:=hs V;Az A7 (h _ _ V) (ES 0 a4 V AV hs (ek 0 _ V))) (CG 11 true V V (λ_ h s' hs=>Gm 0 2 An AE V V V (h _ _ V)) (I4 12 V AC V V V (λ_ h s' hs=>Az A7 (h _ _ V) (Eh Y hs V)) (Ai ej λZ el em=>CG 13 true V V (λ_ h s' hs=>Ep (h _ _ V) (h _ _ V) el) (CL 14 V V (CG 15 true V V (λ_ h s' hs=>Gm 0 1 An AE V V V (h _ _ V)) (I4 16 V AC V V V (λ_ h s' hs=>Az A7 (h _ _ V) (Eh Y hs V)) ?_))))));let⟨fm,aw,eo⟩:=bs em;obtain⟨_,rfl,er⟩:=Cr K aw;refine DM 17 K.2 aw Ak AE ?_;refine EA 18 false V AC V V V (λ_ h s' hs=>have hs:=hs V;Az A7 (h _ _ V) (ES 0 a4 V AV hs (er 0 _ V))) (CG 19 true V V (λ_ h s' hs=>Gm 0 2 An AE V V V (h _ _ V)) (I4 20 V AC V V V (λ_ h s' hs=>Az A7 (h _ _ V) (Eh Y hs V)) (Ai eo λac eu ew=>CG 21 true V V (λ_ h s' hs=>El (h _ _ V) (h _ _ V) eu) (DM 22 K.2 av Ak AE ?_))));refine have bx:=D8 (x':=Z) (ws':=[iV Z]) K K.2 av V;E3 23 0 a4 AE trivial bx.2 λex=>?_;refine DM 24 K.2 aw Ak AE ?_;refine have a5:=D8 (x':=ac) (ws':=[iV ac]) bx.1 K.2 aw V;E3 25 0 ex AE trivial a5.2 λey=>?_;refine DG AC ?_;have eA:=(a5.1).1;have eC:(((I.1.set (Int.toNat O.1) Z).set (Int.toNat O.2.1) ac)).length=I.1.length:=(a5.1).2;refine EU (L':=[(1,AA be 0),(3,.slice (Bd aq) (((I.1.set (Int.toNat O.1) Z).set (Int.toNat O.2.1) ac)).length U),(4,iV I.2)]) ⟨V,by rw[eC];rfl,V,trivial⟩ (Ai ew λeN e0 e1=>C 3 V (Br e0 V V V (C 2 V ?_)));cases e1;exact AF (c6 _ _ (((I.1.set (Int.toNat O.1) Z).set (Int.toNat O.2.1) ac),eN) ⟨ed,(Bd aq),U,[(aq,.cells (Be (Be f82 (Int.toNat (O.1)*1) [iV Z]) (Int.toNat (O.2.1)*1) [iV ac]) 3 (0,0))],V,V,(ag.Ae bw),ey,eA⟩ a3) V;refine A3 V ?_;cases c9;obtain rfl:=c5 _ a3;exact AF (c4 _ _ ⟨al,am,U,ap,V,V,ag,bn,bo⟩) V
theorem iS:Zu Tryz.prog 107:=⟨_,_,C3,by decide+kernel,by decide+kernel,AD,AD,BT,BT,V,V⟩
def Qg(fu_:Nat)(p0:Int)(p1:Int×Int)(K:(AQ)×Int)(I:(AQ)×Int):Option (Bn ((AQ)×Int) ((AQ))):=if I.2<p0 then(Option.bind (if ¬(p1.1=K.2/\p1.2=I.2) then((room I.1 (K.2,I.2)).bind λO=>some O) else(some I.1)) λU=>(Ax (I.2+1)).bind λY=>some (.more (U,Y))) else(some (.done I.1))
def Qo(fu_:Nat)(p0:Int)(p1:Int×Int)(I:(AQ)×Int):Option (Bn ((AQ)×Int) ((AQ))):=if I.2<p0 then((Ax (I.2+1)).bind λK=>Option.bind (iter (Qg fu_ p0 p1 I) fu_ (I.1,K)) λO=>(Ax (I.2+1)).bind λU=>some (.more (O,U))) else(some (.done I.1))
def f171(fu_:Nat)(p0:Int)(p1:Int×Int):Option ((AQ)):=Option.bind (iter (Qo fu_ p0 p1) fu_ ([],0)) λI=>some I
variable{p0:Int}
abbrev BI:=@Go.Proofs.Tryz.underlying182
theorem kQ{p1:Int×Int}{r:(AQ)}(bi:f171 fu_ p0 p1=some r):A2 J 121 [iV p0,.agg #[iV p1.1,iV p1.2]] E [] (λw E' B'=>∃(bn:Av) (bo:Nat),w= sV bn r bo/\B'=[]/\Aq De E' bn bo r):=by
 refine Bq func121 λQ ff cs H b2 b3=>?_;unfold f171 at bi;refine C 2 V (Cx b2 λr2 a2 b4 b5 b6=>?_);let⟨bv,ca,cc⟩:=bs bi;refine C 11 V (Bs (λL s=>∃(a3:LH) (al:Av) (am:Nat) (a4:Seg),Jn a2 H a3 [a4] [(5,sV al bv am)] L s (OL 107 De a3 al am a4 bv)) ?_ ?_);rintro _ _ ⟨a3,al,am,a4,rfl,rfl,ce,ci,co⟩;refine C 5 V (Cl 0 co ci V λfk cp ct cw=>?_);cases cc;exact AX func121 V V (b3 ((b4.Ae ce).Ae cp) V ⟨al,am,V,V,ct⟩ cw);intro cy;refine Ay (Cm ca (λL s I=>∃(K:LH) (U:Av) (Y:Nat) (Z:Seg),Jn a2 H K [Z] [(0,iV p0),(3,AA r2 0),(5,sV U I.1 Y),(6,iV I.2)] L s (OL 107 De K U Y Z I.1)) ⟨a2,none,0,[],V,V,AL,b6,Cv⟩ ?_);rintro _ _ I ⟨K,U,Y,Z,rfl,rfl,a5,bw,bx⟩ c0 ⟨fl,a6⟩ c2;have bz:=a6;unfold Qo at bz;refine C 7 V (AW bz (λc3 c4=>?_) (λc3 c5=>?_));refine Ai c4 λfm c6 c7=>C 6 V (Br c6 V V V ?_);let⟨a7,c8,c9⟩:=bs c7;refine C 2 V (Bs (λL s=>∃(ap:LH) (aq:Av) (av:Nat) (aw:Seg),Jn K H ap [aw] [(0,iV p0),(3,AA r2 0),(5,sV aq a7 av),(6,iV I.2)] L s (OL 107 De ap aq av aw a7)) ?_ ?_);rintro _ _ ⟨ap,aq,av,aw,rfl,rfl,dd,dj,ea⟩;refine Ai c9 λeb ec ed=>C 3 V (Br ec V V V (C 2 V ?_));cases ed;exact AF (c2 _ _ (a7,eb) ⟨ap,aq,av,aw,V,V,(a5.Ae dd),dj,ea⟩ a6) V;intro ee;refine Ay (Cm c8 (λL s ac=>∃(O:LH) (ag:Av) (ai:Nat) (aj:Seg),Jn K H O [aj] [(0,iV p0),(3,AA r2 0),(5,sV ag ac.1 ai),(6,iV I.2),(7,iV ac.2)] L s (OL 107 De O ag ai aj ac.1)) ⟨K,U,Y,Z,V,V,AL,bw,bx⟩ ?_);rintro _ _ ac ⟨O,ag,ai,aj,rfl,rfl,a8,a9,bb⟩ ef ⟨fo,be⟩ eg;have b0:=be;unfold Qg at b0;refine C 7 V (AW b0 (λej ek=>?_) (λej el=>?_));refine C 5 V (Ch (b5.Aj (a5.Ae a8)) Pu Gw V V (C 2 V (As V (λ_ h=>DZ [(0,1),(1,1)] h KJ C3 ⟨V,Bg A5,V,Bg A5,trivial⟩ V V) (As V (λ_ h=>eJ iS (h _ _ V) (h _ _ V)) ?_))));let⟨bg,em,eo⟩:=bs ek;refine A1 (Bs (λL s=>∃(ay:LH) (az:Av) (a0:Nat) (a1:Seg),Jn O H ay [a1] [(0,iV p0),(3,AA r2 0),(5,sV az bg a0),(6,iV I.2),(7,iV ac.2)] L s (OL 107 De ay az a0 a1 bg)) ?_ ?_);rintro _ _ ⟨ay,az,a0,a1,rfl,rfl,er,eu,ew⟩;refine Ai eo λex ey eA=>C 3 V (Br ey V V V (C 2 V ?_));cases eA;exact AF (eg _ _ (bg,ex) ⟨ay,az,a0,a1,V,V,(a8.Ae er),eu,ew⟩ be) V;intro b1;refine AW em (λeC eN=>?_) (λeC e0=>?_);refine C 4 V (As V (λ_ h=>DZ [(0,1),(1,1)] h KJ C3 ⟨V,Bg A5,V,Bg A5,trivial⟩ V V) (Ai eN λfs e1 e3=>D9 0 e1 V V V V (λ_=>V) V (λ_=>V) V V V BI BI BI Gw (B3 FQ) KJ V AD AD AD AD bb ⟨_,_,V,V,V⟩ a9 V λfv e4 e5 e6 e7 e8=>C 2 V ?_));cases e3;exact AF (b1 _ _ ⟨O,e4,e5,e6,V,V,AL,e8,e7⟩) V;refine Bl ?_;cases e0;exact AF (b1 _ _ ⟨O,ag,ai,aj,V,V,AL,a9,bb⟩) V;refine A3 V ?_;cases el;obtain rfl:=ef _ be;exact AF (ee _ _ ⟨O,ag,ai,aj,V,V,a8,a9,bb⟩) V;refine A3 V ?_;cases c5;obtain rfl:=c0 _ a6;exact AF (cy _ _ ⟨K,U,Y,Z,V,V,a5,bw,bx⟩) V
def Qw(fu_:Nat)(p1:AQ)(K:Int)(I:Int×Int×Int):Option (Bn Dq (Int×Int)):=if I.2.2<(p1.length:Int) then((ix p1 I.2.2).bind λU=>Option.bind (if U.1=K then(some true) else((ix p1 I.2.2).bind λY=>some (decide (Y.2=K)))) λZ=>Option.bind (if Z=true then((Ax (I.1+1)).bind λac=>some (ac,I.2.2)) else(some (I.1,I.2.1))) λO=>(Ax (I.2.2+1)).bind λag=>some (.more (O.1,O.2,ag))) else(some (.done (I.1,I.2.1)))
def QJ(fu_:Nat)(p0:Int)(p1:AQ)(I:Int):Option (Bn Int ((Int×Int×Bool)⊕(Unit))):=if I<p0 then(Option.bind (iter (Qw fu_ p1 I) fu_ (0,0,0)) λK=>if K.1=1 then(some (.done (Sum.inl (I,K.2,true)))) else((Ax (I+1)).bind λO=>some (.more O))) else(some (.done (Sum.inr ())))
def O7(fu_:Nat)(p0:Int)(p1:AQ):Option (Int×Int×Bool):=Option.bind (iter (QJ fu_ p0 p1) fu_ 0) λI=>Sum.elim (λr=>some r) (λK=>some (0,0,false)) I
theorem jU{p1:AQ}(aj:Aq De E a1 c2 p1){r:Int×Int×Bool}(al:O7 fu_ p0 p1=some r):A2 J 144 [iV p0,sV a1 p1 c2] E [] (λw E' B'=>w=.tuple #[iV r.1,iV r.2.1,.bool r.2.2]/\B'=[]):=by
 refine Bq func144 λQ ey cs H bb am=>?_;unfold O7 at al;let⟨ap,be,aq⟩:=bs al;refine C 11 V (Bs (λL s=>∃(av:Unit) (aw:LH),ap=Sum.inr av/\Jm E H aw [] [] L s) ?_ ?_);rintro _ _ ⟨av,aw,rfl,rfl,rfl,bg,bi⟩;refine have bn:=elim_inr aq;C 6 V ?_;cases bn;exact AX func144 V V (am bg V ⟨V,V⟩ bi);intro bo;refine Ay (Dc be (λK=>[]) (λK=>[(0,iV p0),(1,sV a1 p1 c2),(7,iV K)]) AL bb ?_);rintro K bv O ay az ⟨eA,U⟩ bw;have a0:=U;unfold QJ at a0;refine C 7 V (AW a0 (λbx bz=>?_) (λbx b0=>?_));refine Ai bz λa2 b1 b2=>C 13 V (FE [] [(0,iV p0),(1,sV a1 p1 c2),(7,iV K),(8,iV a2.1),(9,iV a2.2)] (λeC a3 a4=>?_) (λb3=>?_));refine C 5 V (AW b2 (λb4 b5=>?_) (λb4 b6=>?_));refine C 8 V ?_;cases b5;obtain rfl:=az _ U;have ca:=elim_inl aq;cases ca;exact AX func144 V V (am (O.Ae a3) V ⟨V,V⟩ a4);refine Ai b6 λcc ce ci=>C 4 V (Br ce V V V (C 2 V ?_));cases ci;exact bw cc (O.Ae a3) a4 V U;refine Ay (Dc b1 (λI=>[]) (λI=>[(0,iV p0),(1,sV a1 p1 c2),(7,iV K),(8,iV I.1),(9,iV I.2.1),(10,iV I.2.2)]) AL ay ?_);rintro I ac Y ag co ⟨eN,ai⟩ cp;have a5:=ai;unfold Qw at a5;refine C 5 V (BB BI V V V (C 2 V (AW a5 (λct cw=>?_) (λct cy=>?_))));refine Ai cw λe0 c0 c3=>C 7 V (B7 (aj.Aj (O.Ae Y)) c0 BI Gw ?_);rintro e1 e3 _ ⟨_,_,rfl,rfl,rfl⟩ c4;refine BS 0 c4 C3 AE A7 ?_;let⟨c5,c6,c7⟩:=bs c3;refine C 3 V (HA [] (λL s=>∃(a6:LH),Jm ac H a6 [] [(0,iV p0),(1,sV a1 p1 c2),(7,iV K),(8,iV I.1),(9,iV I.2.1),(10,iV I.2.2),(37,.bool c5)] L s) ?_ ?_);rintro _ _ ⟨a6,rfl,rfl,c8,a7⟩;refine Ai c7 λZ c9 dd=>A1 (FE [] [(0,iV p0),(1,sV a1 p1 c2),(7,iV K),(8,iV Z.1),(9,iV Z.2),(10,iV I.2.2)] (λe4 dj ea=>?_) (λa8=>?_));refine Ai dd λeb ec ed=>C 3 V (Br ec V V V (C 2 V ?_));cases ed;exact cp (Z.1,Z.2,eb) ((Y.Ae c8).Ae dj) ea V ai;refine Co c9 (λee ef=>?_) (λee eg=>?_);refine Ai ef λe5 ej ek=>C 3 V (Br ej V V V (C 6 V ?_));cases ek;exact a8 AL a7 V;refine Bl ?_;cases eg;exact a8 AL a7 V;intro a9;refine Hb 29 c6 (λel em=>?_) (λel eo=>?_);refine C 8 V ?_;cases em;exact AF (a9 _ _ ⟨ac,V,V,AL,ag⟩) V;refine Ai eo λe6 er eu=>C 2 V (B7 (aj.Aj (O.Ae Y)) er BI Gw ?_);rintro e7 e8 _ ⟨_,_,rfl,rfl,rfl⟩ ew;refine BS 1 ew C3 AE A7 ?_;refine C 3 V ?_;cases eu;exact AF (a9 _ _ ⟨ac,V,V,AL,ag⟩) V;refine A3 V ?_;cases cy;obtain rfl:=co _ ai;exact b3 Y ag V;refine A3 V ?_;cases b0;have ex:ap=(Sum.inr ()):=(az _ U).symm;exact AF (bo _ _ ⟨(),bv,ex,V,V,O,ay⟩) V
def MA(fu_:Nat)(p0:Int×Int×Int)(p1:Int×Int×Int):Option Bool:=Option.bind (if p0.1<p1.1 then(some true) else(if p0.1=p1.1 then(if p0.2.1<p1.2.1 then(some true) else(if p0.2.1=p1.2.1 then(some (decide (p0.2.2<p1.2.2))) else(some false))) else(some false))) λI=>some I
variable{r:Bool}
theorem YR{p0 p1:Int×Int×Int}(Z:MA fu_ p0 p1=some r):A2 J 145 [.agg #[iV p0.1,iV p0.2.1,iV p0.2.2],.agg #[iV p1.1,iV p1.2.1,iV p1.2.2]] E [] (λw E' B'=>w=.bool r/\B'=[]):=by
 refine Bq func145 λQ a9 cs H ac ag=>?_;unfold MA at Z;refine C 2 V (Cx ac λr2 bb ai K aj=>?_);refine Cx aj λbe bg I O U=>?_;refine C 4 V (BS 0 (K.Aj I) An AE A7 ?_);refine BS 0 O An AE A7 ?_;refine Ai Z λal am ap=>C 2 V (Gn 33 1 [] [(37,.bool al)] (λbi aq av=>?_) (λY=>?_));refine C 2 V ?_;cases ap;exact AX func145 V V (ag ((ai.Ae I).Ae aq) V ⟨V,V⟩ av);refine Hb 10 am (λaw ay=>?_) (λaw az=>?_);refine C 27 V ?_;cases ay;exact Y AL U V;refine BS 0 (K.Aj I) An AE A7 ?_;refine BS 0 O An AE A7 ?_;refine C 2 V (Hb 16 az (λa0 a1=>?_) (λa0 a2=>?_));refine BS 1 (K.Aj I) An AE A7 ?_;refine BS 1 O An AE A7 ?_;refine C 2 V (Hb 22 a1 (λa3 a4=>?_) (λa3 a5=>?_));refine C 15 V ?_;cases a4;exact Y AL U V;refine BS 1 (K.Aj I) An AE A7 ?_;refine BS 1 O An AE A7 ?_;refine C 2 V (Hb 28 a5 (λa6 a7=>?_) (λa6 a8=>?_));refine BS 2 (K.Aj I) An AE A7 ?_;refine BS 2 O An AE A7 ?_;refine C 5 V ?_;cases a7;exact Y AL U V;refine C 9 V ?_;cases a8;exact Y AL U V;refine C 21 V ?_;cases a2;exact Y AL U V
def Qc(fu_:Nat)(p0:AK)(p1:AK)(I:Int):Option (Bn Int ((Bool)⊕(Unit))):=if I<(p0.length:Int) then((ix p0 I).bind λK=>(ix p1 I).bind λO=>if K≠O then((ix p0 I).bind λU=>(ix p1 I).bind λY=>(MA fu_ U Y).bind λZ=>some (.done (Sum.inl Z))) else((Ax (I+1)).bind λac=>some (.more ac))) else(some (.done (Sum.inr ())))
def f173(fu_:Nat)(p0:AK)(p1:AK):Option Bool:=Option.bind (iter (Qc fu_ p0 p1) fu_ 0) λI=>Sum.elim (λr=>some r) (λK=>some false) I
theorem jc{O:Av}{U:Nat}{p0 p1:AK}(ag:Aq AI E a1 c2 p0)(ai:Aq AI E O U p1)(aj:f173 fu_ p0 p1=some r):A2 J 123 [sV a1 p0 c2,sV O p1 U] E [] (λw E' B'=>w=.bool r/\B'=[]):=by
 refine Bq func123 λQ cy cs H az al=>?_;unfold f173 at aj;let⟨am,a0,ap⟩:=bs aj;refine C 9 V (Bs (λL s=>∃(aq:Unit) (av:LH),am=Sum.inr aq/\Jm E H av [] [] L s) ?_ ?_);rintro _ _ ⟨aq,av,rfl,rfl,rfl,a2,a3⟩;refine have a4:=elim_inr ap;C 4 V ?_;cases a4;exact AX func123 V V (al a2 V ⟨V,V⟩ a3);intro a5;refine Ay (Dc a0 (λY=>[]) (λY=>[(0,sV a1 p0 c2),(1,sV O p1 U),(5,iV Y)]) AL az ?_);rintro Y Z I ac aw ⟨c0,K⟩ a6;have ay:=K;unfold Qc at ay;refine C 5 V (BB Am V V V (C 2 V (AW ay (λa7 a8=>?_) (λa7 a9=>?_))));refine C 4 V (Eu 8 λht=>?_);refine AY ht V [0,1] V (Ai a8 λc3 bb be=>Dd 2 (ag.Aj I) bb ht Am Bc ?_);rintro c4 c5 _ ⟨_,_,rfl,rfl,⟨_,_,rfl,rfl,rfl⟩⟩ bg;refine GA 3 ht bg Dl Bc V V V (AY ht V [4,5] V (Ai be λbi bn bo=>Dd 6 (ai.Aj I) bn ht Am Bc ?_));rintro c6 c7 _ ⟨_,_,rfl,rfl,⟨_,_,rfl,rfl,rfl⟩⟩ bv;refine GA 7 ht bv Dl Bc V V V (CJ [8] (As V (λ_ h=>TC (E:=Z) (E':=Z) (b:=bi) Zk AD AC ⟨_,_,V,V,⟨_,_,V,V,V⟩⟩ ⟨_,_,V,V,⟨_,_,V,V,V⟩⟩ (h _ _ V) (h _ _ V)) (A1 (AW bo (λbw bx=>?_) (λbw bz=>?_)))));refine D5 (Eu 8 λht=>?_);refine AY ht V [0,1] V (Ai bx λc8 b0 b1=>Dd 2 (ag.Aj I) b0 ht Am Bc ?_);rintro c9 dd _ ⟨_,_,rfl,rfl,⟨_,_,rfl,rfl,rfl⟩⟩ b2;refine GA 3 ht b2 Dl Bc V V V (AY ht V [4,5] V (Ai b1 λdj b3 b4=>Dd 6 (ai.Aj I) b3 ht Am Bc ?_));rintro ea eb _ ⟨_,_,rfl,rfl,⟨_,_,rfl,rfl,rfl⟩⟩ b5;refine GA 7 ht b5 Dl Bc V V V (CJ [8,9] (Ai b4 λec b6 ca=>Cs (YR b6) V V (A8 func145 V) ac λed cc ce=>C 2 V ?_));cases ca;obtain rfl:=aw _ K;have ci:=elim_inl ap;cases ci;exact AX func123 V V (al (I.Ae cc) V ⟨V,V⟩ ce);refine Ai bz λco cp ct=>C 4 V (Br cp V V V (C 2 V ?_));cases ct;exact a6 co I ac V K;refine A3 V ?_;cases a9;have cw:am=(Sum.inr ()):=(aw _ K).symm;exact AF (a5 _ _ ⟨(),Z,cw,V,V,I,ac⟩) V
def QU(fu_:Nat)(p0:AQ)(O:(List AQ)×Int)(K:(List AQ))(I:(List AQ)×Int):Option (Bn ((List AQ)×Int) ((List AQ))):=if I.2<(K.length:Int) then((ix p0 O.2).bind λU=>(ix K I.2).bind λY=>(CK ([U]:AQ) Y).bind λZ=>(CK I.1 ([Z]:List AQ)).bind λac=>(Ax (I.2+1)).bind λag=>some (.more (ac,ag))) else(some (.done I.1))
def QN(fu_:Nat)(p0:AQ)(p1:Int)(rec:(AQ)->Int->Option ((List AQ)))(I:(List AQ)×Int):Option (Bn ((List AQ)×Int) ((List AQ))):=if I.2<(p0.length:Int) then((Ax (I.2+1)).bind λK=>(Gr p0 K (p0.length:Int)).bind λO=>(Ax (p1 - 1)).bind λU=>(rec O U).bind λY=>Option.bind (iter (QU fu_ p0 I Y) fu_ (I.1,0)) λZ=>(Ax (I.2+1)).bind λac=>some (.more (Z,ac))) else(some (.done I.1))
def ON(rec:(AQ)->Int->Option ((List AQ)))(fu_:Nat)(p0:AQ)(p1:Int):Option ((List AQ)):=if p1=0 then(some ([[]]:List AQ)) else(Option.bind (iter (QN fu_ p0 p1 rec) fu_ ([],0)) λI=>some I)
variable{p1:Int}
abbrev DR:=@Go.Proofs.Tryz.underlying180
theorem dH{J:Judge Tryz.prog}{rec:(AQ)->Int->Option ((List AQ))}(b5:∀{E:LH}{a1:Av}{c2:Nat}{p0:AQ}{p1:Int}(a3:Aq De E a1 c2 p0) {r:(List AQ)}(a4:rec p0 p1=some r),A2 J 120 [sV a1 p0 c2,iV p1] E [] (λw E' B'=>∃(K:Av) (O:Nat),w= sV K r O/\B'=[]/\Aq (rL De) E' K O r)){E:LH}{p0:AQ}(a3:Aq De E a1 c2 p0){r:(List AQ)}(a4:ON rec fu_ p0 p1=some r):A2 J 120 [sV a1 p0 c2,iV p1] E [] (λw E' B'=>∃(K:Av) (O:Nat),w= sV K r O/\B'=[]/\Aq (rL De) E' K O r):=by
 refine Bq func120 λQ hw cs H bi bn=>?_;unfold ON at a4;refine C 10 V (AW a4 (λc4 b6=>?_) (λc4 ca=>?_));refine C 2 V (Gz (pp:=(rL De)) [nS] [[]] V V V DR Oa Sv AD V V V ⟨⟨_,_,V,Ba⟩,trivial⟩ bi λcc hx ce ci=>C 2 V (Cl 1 ce ci V λhy co cp ct=>?_));cases b6;exact AX func120 V V (bn co V ⟨(Bd cc),1,V,Ac,cp⟩ ct);let⟨bo,cw,cy⟩:=bs ca;refine C 10 V (Bs (λL s=>∃(a5:LH) (ac:Av) (ag:Nat) (a6:Seg),Jn E H a5 [a6] [(5,sV ac bo ag)] L s (OL 182 (rL De) a5 ac ag a6 bo)) ?_ ?_);rintro _ _ ⟨a5,ac,ag,a6,rfl,rfl,c0,c3,c5⟩;refine C 5 V (Cl 0 c5 c3 V λhz c6 c7 c8=>?_);cases cy;exact AX func120 V V (bn (c0.Ae c6) V ⟨ac,ag,V,Ac,c7⟩ c8);intro c9;refine Ay (Cm cw (λL s I=>∃(ai:LH) (U:Av) (Y:Nat) (Z:Seg),Jn E H ai [Z] [(0,sV a1 p0 c2),(1,iV p1),(5,sV U I.1 Y),(6,iV I.2)] L s (OL 182 (rL De) ai U Y Z I.1)) ⟨E,none,0,[],V,V,AL,bi,Cv⟩ ?_);rintro _ _ I ⟨ai,U,Y,Z,rfl,rfl,aj,bv,bw⟩ dd ⟨hA,a7⟩ dj;have bx:=a7;unfold QN at bx;refine C 5 V (BB BI V V V (C 2 V (AW bx (λea eb=>?_) (λea ec=>?_))));refine Ai eb λhB ed ee=>C 7 V (Br ed V V V (Ai ee λhC ef eg=>JS.cut (a3.Aj aj) ef V V V V V V BI Gw λhD hE ej=>Ai eg λhF ek el=>C 1 V (B9 ek V V V (Ai el λem eo er=>Cb (b5 ej eo) V V (A8 func120 V) bv ?_))));rintro _ a8 _ a9 ⟨eu,ew,rfl,rfl,ex⟩ ey;let⟨bb,eA,eC⟩:=bs er;refine C 6 V (Bs (λL s=>∃(al:LH) (am:Av) (ap:Nat) (aq:Seg),Jn a8 H al [aq] [(0,sV a1 p0 c2),(1,iV p1),(5,sV am bb ap),(6,iV I.2)] L s (OL 182 (rL De) al am ap aq bb)) ?_ ?_);rintro _ _ ⟨al,am,ap,aq,rfl,rfl,eN,e0,e1⟩;refine Ai eC λe3 e4 e5=>C 3 V (Br e4 V V V (C 2 V ?_));cases e5;exact AF (dj _ _ (bb,e3) ⟨al,am,ap,aq,V,V,((aj.Ae a9).Ae eN),e0,e1⟩ a7) V;intro e6;refine Ay (Cm eA (λL s av=>∃(aw:LH) (ay:Av) (az:Nat) (a0:Seg),Jn a8 H aw [a0] [(0,sV a1 p0 c2),(1,iV p1),(5,sV ay av.1 az),(6,iV I.2),(7,sV eu em ew),(8,iV av.2)] L s (OL 182 (rL De) aw ay az a0 av.1)) ⟨a8,U,Y,Z,V,V,AL,ey,(bw.Aj a9)⟩ ?_);rintro _ _ av ⟨aw,ay,az,a0,rfl,rfl,a2,bz,b0⟩ e7 ⟨hG,be⟩ e8;have b1:=be;unfold QU at b1;refine C 5 V (BB DR V V V (C 2 V (AW b1 (λff fk=>?_) (λff fl=>?_))));refine C 3 V (Eu 12 λht=>?_);refine AY ht V [0,1,2] V (Ai fk λbg fm fo=>Dd 3 (a3.Aj ((aj.Ae a9).Ae a2)) fm ht BI Gw ?_);rintro hH hI _ ⟨_,_,rfl,rfl,rfl⟩ fs;refine GA 4 ht fs Pu Gw V V V (AY ht V [6,7] V (Ai fo λhJ fv fw=>Dd 8 (ex.Aj a2) fv ht DR Oa ?_));rintro hK hL _ ⟨hM,hN,rfl,fN⟩ gc;refine Ec 9 ht 0 gc (Dv BI) V V V V (Ai fw λb2 ge gg=>BF (i:=5) V AC (Bi (pp:=De) [.agg #[iV bg.1,iV bg.2]] ([bg]:AQ) bz V V V BI Gw KJ AD V V V ⟨⟨_,_,V,V,V⟩,trivial⟩ λhO hP gh gt=>BF (i:=10) V AC (C1 1 gt ge V V V V V V V BI BI Gw (B3 FQ) KJ V AD AD gh fN V λgB gE hQ hR gO g3=>Hs 1 V g3 λg4=>FJ 2 gO g4 V λhS b3 g5 g6=>BF (i:=11) V AC (Bi (pp:=(rL De)) [sV gB b2 gE] ([b2]:List AQ) g6 V V V DR Oa Sv AD V V V ⟨⟨_,_,V,g5⟩,trivial⟩ λhT hU g7 g8=>CJ [12,13] (Cl 3 g7 g8 V λha b4 hb hc=>Ai gg λhe hf hk=>HB 0 hf V V V V V V V DR DR Oa (B3 type182) Sv V AD AD (b0.Aj (b3.Ae b4)) hb hc V λhl hm hn ho hp=>Ai hk λhq hr hu=>C 5 V (Br hr V V V (C 2 V (BO 1 hp V λhv=>?_))))))));cases hu;exact AF (e8 _ _ (he,hq) ⟨ha,hl,hm,hn,V,V,((a2.Ae b3).Ae b4),hv,ho⟩ be) V;refine A3 V ?_;cases fl;obtain rfl:=e7 _ be;exact AF (e6 _ _ ⟨aw,ay,az,a0,V,V,a2,bz,b0⟩) V;refine A3 V ?_;cases ec;obtain rfl:=dd _ a7;exact AF (c9 _ _ ⟨ai,U,Y,Z,V,V,aj,bv,bw⟩) V
def ND:Nat->Nat->(AQ)->Int->Option ((List AQ))
 | 0,_=>λ_ _=>none
 | n+1,fu_=>λp0 p1=>ON (ND n fu_) fu_ p0 p1
theorem dN{J:Judge Tryz.prog}{n:Nat}:∀{E:LH}{a1:Av}{c2:Nat}{p0:AQ}{p1:Int}(K:Aq De E a1 c2 p0) {r:(List AQ)}(I:ND n fu_ p0 p1=some r),A2 J 120 [sV a1 p0 c2,iV p1] E [] (λw E' B'=>∃(O:Av) (U:Nat),w= sV O r U/\B'=[]/\Aq (rL De) E' O U r):=by
 induction n with
 | zero=>intros;rename_i I;cases I
 | succ n Y=>intro E a1 c2 p0 p1 K r I;exact dH Y K I
def f170(fu_:Nat)(p0:AQ)(p1:Int):Option ((List AQ)):=ND fu_ fu_ p0 p1
theorem jG{p0:AQ}(O:Aq De E a1 c2 p0){r:(List AQ)}(U:f170 fu_ p0 p1=some r):A2 J 120 [sV a1 p0 c2,iV p1] E [] (λw E' B'=>∃(I:Av) (K:Nat),w= sV I r K/\B'=[]/\Aq (rL De) E' I K r):=dN O U
end Pal
namespace Pal
open Go Go.Conc
variable {P:Program}{J:Judge P}{Q:Gs_}{b:Frame}{ds:Ld_}{ops:Ao_}{cs:Lf_}{fuel:Nat}{D:Nat->Bool}{listed:Array Bool}{L:Env}{s:St}{E E' H:LH}{S:List Seg}
variable {t u ty e:TypeId}{p:String}{af:Ae_}{g:On_}{v:Value}{kd:IntKind}
section
variable {n:Nat}{k:Li_}{m:Nat}
variable {d:Option Tmp}{x y:Operand}{i:Nat}
theorem Take.alloc{jp bk:Nat}{o:Obj}{z:Value}(Y:Aw E H S)(I:S[jp]?=some [(bk,o)])(Z:ops[i]?=some ⟨d,.alloc e,ty,p,af,g⟩)(hw:A9 L ops ⟨d,.alloc e,ty,p,af,g⟩=some true)(ac:BC n d=true)(ag:zeroOf P e=some z)
  (h:∀r,Aw E H (S++ [[(r,.cells z.cells e (0,0))]])->AU J Q b n ds ops k cs m (AO [bk]) fuel (Bp listed i) (AG L d (.pointer (some ⟨r,0,none⟩))) (Ao E H (S++ [[(r,.cells z.cells e (0,0))]]))):
  Take J Q b n ds ops k cs m (AO [bk]) fuel listed L (Ao E H S) i:=by
 have K:jp<S.length:=(d7.1 I).1;refine Take.BK Y I Z (by simp[EP,ac]) hw λρ _ ai=>?_;show lp P (do pure (Next.value (← Instr.alloc e true (.tuple #[])))) _ _ _
 refine AH _ _ ?_;unfold Instr.alloc;refine AH _ _ (Is ag (AH _ _ (JC ai λr O=>?_)));rw[(Gb O).1];refine⟨_,S.set jp []++ [[(r,.cells z.cells e (0,0))]],V,V,(Gb O).2,by rw[sX (by simpa using K)];simp[K],λU=>?_⟩;have aj:(S.set jp []++ [[(r,Obj.cells z.cells e (0,0))]]).set jp [(bk,o)]=S++ [[(r,Obj.cells z.cells e (0,0))]]:=by
  rw[xd _ _ (by simpa using K),uF];congr 1;apply ud;intro q;rw[tD];split;rename_i e;subst e;rw[I];rfl
 rw[aj] at U ⊢;exact h r U
end
open Go.Proofs Go.Proofs.Tryz
variable {J:Judge Tryz.prog}
def TZ(fu_:Nat)(I:Int×AK):Option (Bn (Int×AK) (AK)):=Option.bind (if 0<I.1 then((ix I.2 I.1).bind λU=>(Ax (I.1 - 1)).bind λY=>(ix I.2 Y).bind λZ=>(MA fu_ U Z).bind λac=>some ac) else(some false)) λag=>if ag=true then((Ax (I.1 - 1)).bind λK=>(Ax (I.1 - 1)).bind λai=>(ix I.2 ai).bind λO=>(ix I.2 I.1).bind λaj=>(ix (I.2.set (Int.toNat I.1) O) K).bind λam=>(Ax (I.1 - 1)).bind λal=>some (.more (al,((I.2.set (Int.toNat I.1) O).set (Int.toNat K) aj)))) else(some (.done I.2))
def TE(fu_:Nat)(I:(List Int)×(AQ)×AK):Option (Bn ((List Int)×(AQ)×AK) ((AK×Bool)⊕((List Int)×AK))):=if 0<(I.2.1.length:Int) then((O7 fu_ (I.1.length:Int) I.2.1).bind λK=>Option.bind (if(!K.2.2)=true then(some true) else((ix I.1 K.1).bind λZ=>some (decide (Z=0)))) λac=>if ac=true then(some (.done (Sum.inl ([],false)))) else((ix I.1 K.1).bind λU=>(ix I.2.1 K.2.1).bind λag=>(ix I.2.1 K.2.1).bind λai=>(Ax (ag.1+ai.2)).bind λaj=>(Ax (aj - K.1)).bind λO=>(ix I.1 O).bind λa4=>(ix I.1 O).bind λal=>(ix I.1 K.1).bind λam=>(Ax (al+am)).bind λap=>Option.bind (if U<0 then((Ax (-(U))).bind λaq=>some (K.1,O,aq)) else(some (O,K.1,U))) λav=>(room I.2.2 av).bind λY=>(ix Y (0)).bind λa5=>(Ax ((Y.length:Int) - 1)).bind λaw=>Option.bind (iter (TZ fu_) fu_ (aw,Y)) λay=>(Gr I.2.1 0 K.2.1).bind λaz=>(Ax (K.2.1+1)).bind λa0=>(Gr I.2.1 a0 (I.2.1.length:Int)).bind λa1=>(CK ([]:AQ) az).bind λa2=>(CK a2 a1).bind λa3=>some (.more (((I.1.set (Int.toNat O) ap).set (Int.toNat K.1) 0),a3,ay)))) else(some (.done (Sum.inr (I.1,I.2.2))))
def Qs(fu_:Nat)(K:(List Int)×AK)(I:Int):Option (Bn Int ((AK×Bool)⊕(Unit))):=if I<(K.1.length:Int) then((ix K.1 I).bind λO=>if O≠0 then(some (.done (Sum.inl ([],false)))) else((Ax (I+1)).bind λU=>some (.more U))) else(some (.done (Sum.inr ())))
def f172(fu_:Nat)(p0:List Int)(p1:AQ):Option (AK×Bool):=(CK ([]:List Int) p0).bind λK=>(CK ([]:AQ) p1).bind λO=>Option.bind (iter (TE fu_) fu_ (K,O,[])) λU=>Sum.elim (λr=>some r) (λI=>Option.bind (iter (Qs fu_ I) fu_ 0) λY=>Sum.elim (λr=>some r) (λZ=>some (I.2,true)) Y) U
variable{a1:Av}{c2 fu_:Nat}
theorem jY{em:Av}{eo:Nat}{p0:List Int}{p1:AQ}(g4:Aq rI E a1 c2 p0)(g5:Aq De E em eo p1){r:AK×Bool}(er:f172 fu_ p0 p1=some r):A2 J 122 [sV a1 p0 c2,sV em p1 eo] E [] (λw E' B'=>∃(eu:Av) (ew:Nat),w=.tuple #[sV eu r.1 ew,.bool r.2]/\B'=[]/\Aq AI E' eu ew r.1):=by
 refine Bq func122 λQ o3 cs H g6 c8=>?_;unfold f172 at er;refine C 7 V (Mo (pp:=rI) V V V Ak AE g6 λo4 o5 g7 g8=>Ai er λo6 ha hb=>C 1 V (HB 1 ha V V V V V V V Ak Ak AE (B3 A5) Ca V AD AD g7 g4 g8 V λhc he hf hk hl=>Mo (pp:=De) V V V BI Gw hl λo7 o8 hm hn=>Ai hb λo9 ho hp=>C 1 V (HB 2 ho V V V V V V V BI BI Gw (B3 FQ) KJ V AD AD hm g5 hn V λhq hr hu hv hw=>?_)));let⟨ex,hx,ey⟩:=bs hp;refine C 8 V (Bs (λL s=>∃(aq:(List Int)×AK) (bn:LH) (b4:Av) (b5:Nat) (b6:Seg) (a3:Av) (a4:Nat) (bo:Seg),ex=Sum.inr aq/\Jn E H bn [b6,bo] [(0,sV b4 aq.1 b5),(6,sV a3 aq.2 a4)] L s (OL 3 rI bn b4 b5 b6 aq.1/\OL 27 AI bn a3 a4 bo aq.2)) ?_ ?_);rintro _ _ ⟨aq,bn,b4,b5,b6,a3,a4,bo,rfl,rfl,rfl,eA,hy,hz,hA⟩;have hB:=elim_inr ey;let⟨eC,hC,eN⟩:=bs hB;refine C 5 V (Bs (λL s=>∃(e0:Unit) (e1:LH),eC=Sum.inr e0/\Jm bn H e1 [bo] [(6,sV a3 aq.2 a4)] L s) ?_ ?_);rintro _ _ ⟨e0,e1,rfl,rfl,rfl,e3,hD⟩;refine have hE:=elim_inr eN;C 6 V (Cl 0 (hA.Aj e3) hD V λpa hF hG hH=>?_);cases hE;exact AX func122 V V (c8 ((eA.Ae e3).Ae hF) V ⟨a3,a4,V,V,hG⟩ hH);intro hI;refine Ay (Dc hC (λc9=>[b6,bo]) (λc9=>[(0,sV b4 aq.1 b5),(6,sV a3 aq.2 a4),(12,iV c9)]) AL hy ?_);rintro c9 hJ ca cc e4 ⟨pb,ce⟩ hK;have e5:=ce;unfold Qs at e5;refine C 5 V (BB Ak V V V (C 2 V (AW e5 (λhL hM=>?_) (λhL hN=>?_))));refine Ai hM λpc hO hP=>C 7 V (Ml 0 (hz.Aj ca) hO V V V V V V Ak AE ?_);rintro pd pe f106 _ hQ rfl hR pf pg pi pj;refine As V (λ_ h=>Az A7 (h _ _ V) (Cc cc hQ (hR 0 _ V))) (C 2 V (AW hP (λhS hT=>?_) (λhS hU=>?_)));refine C 5 V (BO 0 cc V λhV=>BO 1 hV V λhW=>?_);cases hT;obtain rfl:=e4 _ ce;have hX:=elim_inl eN;cases hX;exact AX func122 V V (c8 (eA.Ae ca) V ⟨none,0,V,V,Ba⟩ hW);refine Ai hU λhY h0 h1=>C 4 V (Br h0 V V V (C 2 V ?_));cases h1;exact hK hY ca cc V ce;refine A3 V (BO 0 cc V λh2=>?_);cases hN;have h3:eC=(Sum.inr ()):=(e4 _ ce).symm;exact AF (hI _ _ ⟨(),hJ,h3,V,V,ca,h2⟩) V;intro h4;refine Ay (Cm hx (λL s I=>∃(a5:LH) (bv:Av) (Z:Nat) (bw:Seg) (al:Av) (am:Nat) (dd:Seg) (az:Av) (a0:Nat) (a6:Seg),Jn E H a5 [bw,dd,a6] [(0,sV bv I.1 Z),(1,sV al I.2.1 am),(6,sV az I.2.2 a0)] L s (OL 3 rI a5 bv Z bw I.1/\OL 107 De a5 al am dd I.2.1/\OL 27 AI a5 az a0 a6 I.2.2)) ⟨E,hc,he,hf,hq,hr,hu,none,0,[],V,V,AL,hw,hk,hv,Cv⟩ ?_);rintro _ _ I ⟨a5,bv,Z,bw,al,am,dd,az,a0,a6,rfl,rfl,dj,e6,ci,h5,e7⟩ e8 ⟨pn,co⟩ h6;have ff:=co;unfold TE at ff;refine C 4 V (BB BI V V V (C 2 V (AW ff (λh7 h8=>?_) (λh7 h9=>?_))));refine C 5 V (BB Ak V V V (C 1 V (Cl 1 h5 e6 V λpo a7 bx ia=>Ai h8 λK ih ii=>Cs (jU bx ih) V V (A8 func144 V) ia λea ap eb=>C 12 V (As V (λ_ h=>CN (h _ _ V)) ?_))));let⟨io,it,i0⟩:=bs ii;refine C 1 V (HA [] (λL s=>∃(ec:LH),Jm ea H ec [bw,a6] [(0,sV bv I.1 Z),(1,sV al I.2.1 am),(6,sV az I.2.2 a0),(7,iV K.1),(8,iV K.2.1),(38,.bool io)] L s) ?_ ?_);rintro _ _ ⟨ec,rfl,rfl,av,a8⟩;refine A1 (Co i0 (λi1 i3=>?_) (λi1 i4=>?_));refine C 5 V (BO 0 a8 V λi5=>BO 1 i5 V λi6=>?_);cases i3;obtain rfl:=e8 _ co;have i7:=elim_inl ey;cases i7;exact AX func122 V V (c8 (((dj.Ae a7).Ae ap).Ae av) V ⟨none,0,V,V,Ba⟩ i6);refine Ai i4 λfk fl i8=>C 2 V ?_;obtain⟨O,f184,_,rfl,rfl,rfl,i9⟩:=OL.ni (ci.Aj ((a7.Ae ap).Ae av)) fl;refine EW 20 [O] ⟨⟨0,_,V⟩,trivial⟩ a8 λht=>AY ht V [0,1] V ?_;refine Ai i8 λpq jg ji=>Dd 2 (bx.Aj (ap.Ae av)) jg ht BI Gw ?_;rintro pr pt _ ⟨_,_,rfl,rfl,rfl⟩ jj;refine Cz 3 ht C3 AE V V V V (Fb 4 ht 0 jj a8 ⟨⟨0,_,V⟩,trivial⟩ A7 ?_);refine AY ht V [5,6] V (Ai ji λpu jr jt=>Dd 7 (bx.Aj (ap.Ae av)) jr ht BI Gw ?_);rintro pw px _ ⟨_,_,rfl,rfl,rfl⟩ jy;refine Cz 8 ht C3 AE V V V V (Fb 9 ht 1 jy a8 ⟨⟨0,_,V⟩,trivial⟩ A7 ?_);refine Ai jt λpy kb kc=>Bj 10 ht V V (λ_ h s' hs=>El (h _ _ V) (h _ _ V) kb) (Db 11 ht V V (Ai kc λY ke kf=>Bj 12 ht V V (λ_ h s' hs=>Ep (h _ _ V) (h _ _ V) ke) (AY ht V [13,14,15] V (Bj 16 ht V V (λ_ h s' hs=>Tj fl Ak AE (h _ _ V) (h _ _ V)) (Bj 17 ht V V (λ_ h s' hs=>Az A7 (h _ _ V) (ES 0 a8 V AV hs (i9 0 _ V))) (Bj 18 ht V V (λ_ h s' hs=>DZ [(0,1),(1,1),(2,1)] h BU An ⟨V,Bg A5,V,Bg A5,V,Bg A5,trivial⟩ V V) (BF (i:=19) V AC (Take.alloc (jp:=0) a8 V V V V BU λcp ki=>CJ [20] (BX 2 ki Bc λbz=>?_)))))))));refine Ai kf λpz pA kn=>C 2 V ?_;have aw:WL 3 rI ec O Z I.1.length f184 I.1:=⟨(ci.Aj ((a7.Ae ap).Ae av)),V⟩;refine Gl [16,18] [O] [cp] mixed V (CL 0 V V (CG 1 true V V (λ_ h s' hs=>Gm 0 0 An AE V V V (h _ _ V)) (Mn 2 V AC V V V (λ_ h s' hs=>Az A7 (h _ _ V) (ES 2 bz V AV hs V)) (CL 3 V V (CL 4 V V (CL 5 V V (CG 6 true V V (λ_ h s' hs=>Gm 0 0 An AE V V V (h _ _ V)) (Mn 7 V AC V V V (λ_ h s' hs=>Az A7 (h _ _ V) (ES 2 bz V AV hs V)) ?_))))))));let⟨pB,ct,ko⟩:=bs kn;obtain⟨_,rfl,kp⟩:=Cr aw ct;refine DM 8 aw.2 ct Ak AE ?_;refine EA 9 false V AC V V V (λ_ h s' hs=>have hs:=hs V;Az A7 (h _ _ V) (ES 0 bz V AV hs (kp 0 _ V))) (CL 10 V V (CL 11 V V ?_));let⟨pC,cw,ks⟩:=bs ko;obtain⟨_,rfl,kv⟩:=Cr aw cw;refine DM 12 aw.2 cw Ak AE ?_;refine EA 13 false V AC V V V (λ_ h s' hs=>have hs:=hs V;Az A7 (h _ _ V) (ES 0 bz V AV hs (kv 0 _ V))) (Ai ks λU k0 k1=>CG 14 true V V (λ_ h s' hs=>El (h _ _ V) (h _ _ V) k0) (DM 15 aw.2 ct Ak AE ?_));refine have fm:=D8 (x':=U) (ws':=[iV U]) aw aw.2 ct V;E3 16 0 bz AE ⟨⟨2,_,V,V⟩,trivial⟩ fm.2 λk2=>?_;refine DM 17 aw.2 cw Ak AE ?_;refine have ed:=D8 (x':=0) (ws':=[iV 0]) fm.1 aw.2 cw V;E3 18 0 k2 AE ⟨⟨2,_,V,V⟩,trivial⟩ ed.2 λa9=>?_;refine DG AC ?_;have k3:=(ed.1).1;have k4:(((I.1.set (Int.toNat Y) U).set (Int.toNat K.1) 0)).length=I.1.length:=(ed.1).2;refine EU (L':=[(0,.slice (Bd O) (((I.1.set (Int.toNat Y) U).set (Int.toNat K.1) 0)).length Z),(1,.slice al I.2.1.length am),(6,.slice az I.2.2.length a0),(8,iV K.2.1),(10,AA cp 0)]) ⟨by rw[k4];rfl,V,V,V,V,trivial⟩ (C 3 V (Cf An AE V V V (As (v:=iV fk) V (λ_ h=>Az A7 (h _ _ V) (Cc (j:=2) a9 V V)) (Ai k1 λbb k5 k6=>C 2 V (FE [bX O (Be (Be f184 (Int.toNat (Y)*1) [iV U]) (Int.toNat (K.1)*1) [iV 0]) 3,a6,bX cp #[iV bb.1,iV bb.2.1,iV bb.2.2] 27] [(0,.slice (Bd O) (((I.1.set (Int.toNat Y) U).set (Int.toNat K.1) 0)).length Z),(1,sV al I.2.1 am),(6,sV az I.2.2 a0),(8,iV K.2.1),(10,AA cp 0)] (λee b0 fo=>?_) (λfs=>?_))))));refine C 3 V (As V (λ_ h=>I1 (vs:=[iV bb.1,iV bb.2.1,iV bb.2.2]) Dl Bc (h _ _ V) (G6 2 fo V V)) (Ai k6 λbe k7 la=>D9 1 k7 V V V V (λ_=>V) V (λ_=>V) V V V Am Am Am Bc (B3 DH) BU V AD AD AD AD (e7.Aj (((a7.Ae ap).Ae av).Ae b0)) ⟨_,_,V,V,⟨_,_,V,V,V⟩⟩ fo V λpE pF a2 pG ld li=>Ai la λpI lm lq=>C 4 V ?_));let⟨ac,ls,lw,fv⟩:=WL.of ld lm;obtain⟨rfl,rfl⟩:=lw;refine C 2 V (As V (λ_ h=>Qj (fv).2 V Am (h _ _ V)) (Ai lq λpJ ly l3=>B9 ly V V V ?_));let⟨cy,l4,l5⟩:=bs l3;refine C 2 V (Bs (λL s=>∃(c0:LH) (c3:Av_),Jn ee H c0 [bX O (Be (Be f184 (Int.toNat (Y)*1) [iV U]) (Int.toNat (K.1)*1) [iV 0]) 3,bX ac c3 27] [(0,.slice (Bd O) (((I.1.set (Int.toNat Y) U).set (Int.toNat K.1) 0)).length Z),(1,sV al I.2.1 am),(6,.slice (Bd ac) be.length a2),(8,iV K.2.1)] L s (WL 27 AI c0 ac a2 be.length c3 cy)) ?_ ?_);rintro _ _ ⟨c0,c3,rfl,rfl,c4,l6,fw⟩;have ma:=(fw).1;have mb:cy.length=be.length:=(fw).2;refine EU (L':=[(0,.slice (Bd O) (((I.1.set (Int.toNat Y) U).set (Int.toNat K.1) 0)).length Z),(1,.slice al I.2.1.length am),(6,.slice (Bd ac) cy.length a2),(8,iV K.2.1)]) ⟨V,V,by rw[mb];rfl,V,trivial⟩ (Eu 9 λht=>AY ht V [1,2] V ?_);let⟨pK,mp,ms⟩:=bs l5;obtain⟨pL,pM,mv,m0⟩:=Aq.cut (bx.Aj (((ap.Ae av).Ae b0).Ae c4)) mp;refine IP 3 V ht AC V V V (λ_ h s' hs=>m0 BI Gw (h _ _ V) (h _ _ V) V) (AY ht V [5,6] V (Ai ms λpO m1 m2=>Bj 7 ht V V (λ_ h s' hs=>El (h _ _ V) (h _ _ V) m1) ?_));let⟨pP,m3,m5⟩:=bs m2;obtain⟨pR,pS,nc,nl⟩:=Aq.cut (bx.Aj (((ap.Ae av).Ae b0).Ae c4)) m3;refine IP 8 V ht AC V V V (λ_ h s' hs=>nl BI Gw (h _ _ V) V (h _ _ V)) (Ai m5 λpU nr nx=>BF (i:=0) V AC (EB (pp:=De) l6 V V V BI Gw λpW pY ny nE=>BF (i:=4) V AC (C1 2 nE nr V V V V V V V BI BI Gw (B3 FQ) KJ V AD AD ny mv V λp3 p4 p5 p6 nH nM=>CJ [9,10] (Ha 2 V nM λnN=>BO 2 nN V λnO=>Ai nx λnP nQ nR=>HB 3 nQ V V V V V V V BI BI Gw (B3 FQ) KJ V AD AD nH nc nO V λnT nU nV nW nX=>C 3 V (JS.swap 1 3 V V V nX λnY=>?_)))));cases nR;exact AF (h6 _ _ (((I.1.set (Int.toNat Y) U).set (Int.toNat K.1) 0),nP,cy) ⟨c0,(Bd O),Z,[(O,.cells (Be (Be f184 (Int.toNat (Y)*1) [iV U]) (Int.toNat (K.1)*1) [iV 0]) 3 (0,0))],nT,nU,nV,(Bd ac),a2,[(ac,.cells c3 27 (0,0))],V,V,(((((dj.Ae a7).Ae ap).Ae av).Ae b0).Ae c4),nY,(k3.Aj (b0.Ae c4)),nW,ma⟩ co) V;intro nZ;refine Ay (BO 2 li V λn0=>Cm l4 (λL s ay=>∃(b1:LH) (bg:Av_),Jn ee H b1 [bX O (Be (Be f184 (Int.toNat (Y)*1) [iV U]) (Int.toNat (K.1)*1) [iV 0]) 3,bX ac bg 27] [(0,.slice (Bd O) (((I.1.set (Int.toNat Y) U).set (Int.toNat K.1) 0)).length Z),(1,sV al I.2.1 am),(6,.slice (Bd ac) be.length a2),(8,iV K.2.1),(11,iV ay.1)] L s (WL 27 AI b1 ac a2 be.length bg ay.2)) ⟨ee,ls,V,V,AL,n0,fv⟩ ?_);rintro _ _ ay ⟨b1,bg,rfl,rfl,fN,b2,ag⟩ n3 ⟨p7,ef⟩ n4;have gc:=ef;unfold TZ at gc;refine C 2 V (EW 14 [ac] ⟨⟨1,_,V⟩,trivial⟩ b2 λht=>?_);refine AY ht V [0,1,2] V ?_;let⟨n6,ge,n7⟩:=bs gc;refine FK 0 (tR_ 14 0) (λL s=>∃(c5:LH),Jm b1 H c5 [bX O (Be (Be f184 (Int.toNat (Y)*1) [iV U]) (Int.toNat (K.1)*1) [iV 0]) 3,bX ac bg 27] [(0,.slice (Bd O) (((I.1.set (Int.toNat Y) U).set (Int.toNat K.1) 0)).length Z),(1,sV al I.2.1 am),(6,.slice (Bd ac) be.length a2),(8,iV K.2.1),(11,iV ay.1),(106,.bool n6)] L s) ?_ ?_;rintro _ _ ⟨c5,rfl,rfl,bi,c6⟩;refine DP AC (Co n7 (λn8 n9=>?_) (λn8 oa=>?_));refine C 3 V (Gl [15,17] [ac] [] mixed V (CL 0 V V (CL 1 V V (CL 2 V V (CL 3 V V (Ai n9 λgg ob oc=>CG 4 true V V (λ_ h s' hs=>Ep (h _ _ V) (h _ _ V) ob) (CL 5 V V (CL 6 V V (Ai oc λp8 od oe=>CG 7 true V V (λ_ h s' hs=>Ep (h _ _ V) (h _ _ V) od) ?_)))))))));let⟨ai,gh,og⟩:=bs oe;obtain⟨_,⟨_,_,rfl,rfl,⟨_,_,rfl,rfl,rfl⟩⟩,oh⟩:=Cr (ag.Aj bi) gh;refine DM 8 ag.2 gh Am Bc ?_;refine RD 9 [iV ai.1,iV ai.2.1,iV ai.2.2] 1 c6 oh Dl Bc ?_;refine CL 10 V V (CL 11 V V ?_);let⟨aj,c7,om⟩:=bs og;obtain⟨_,⟨_,_,rfl,rfl,⟨_,_,rfl,rfl,rfl⟩⟩,oo⟩:=Cr (ag.Aj bi) c7;refine DM 12 ag.2 c7 Am Bc ?_;refine RD 13 [iV aj.1,iV aj.2.1,iV aj.2.2] 1 c6 oo Dl Bc ?_;refine DM 14 ag.2 c7 Am Bc ?_;refine have b3:=D8 (x':=ai) (ws':=[iV ai.1,iV ai.2.1,iV ai.2.2]) (ag.Aj bi) ag.2 c7 ⟨_,_,V,V,⟨_,_,V,V,V⟩⟩;E3 15 1 c6 Bc trivial b3.2 λoq=>?_;let⟨p9,eg,ot⟩:=bs om;obtain⟨_,⟨_,_,rfl,rfl,⟨_,_,rfl,rfl,rfl⟩⟩,qa⟩:=Cr b3.1 eg;refine DM 16 (b3.1).2 eg Am Bc ?_;refine have gt:=D8 (x':=aj) (ws':=[iV aj.1,iV aj.2.1,iV aj.2.2]) b3.1 (b3.1).2 eg ⟨_,_,V,V,⟨_,_,V,V,V⟩⟩;E3 17 1 oq Bc trivial gt.2 λou=>?_;refine DG AC (Ai ot λov ow ox=>C 3 V (B9 ow V V V (C 2 V ?_)));cases ox;exact AF (n4 _ _ (ov,((ay.2.set (Int.toNat ay.1) ai).set (Int.toNat gg) aj)) ⟨c5,(Be (Be bg (Int.toNat (ay.1)*3) [iV ai.1,iV ai.2.1,iV ai.2.2]) (Int.toNat (gg)*3) [iV aj.1,iV aj.2.1,iV aj.2.2]),V,V,(fN.Ae bi),ou,gt.1⟩ ef) V;refine A3 V ?_;cases oa;obtain rfl:=n3 _ ef;exact AF (nZ _ _ ⟨c5,bg,V,V,(fN.Ae bi),c6,(ag.Aj bi)⟩) V;intro gB;refine GM (q:=0<ay.1) (i:=95) V (λej=>?_) (λej=>?_);refine have oy:=ip ge ej;AY ht V [3,4] V ?_;let⟨ek,gE,oz⟩:=bs oy;obtain⟨_,⟨_,_,rfl,rfl,⟨_,_,rfl,rfl,rfl⟩⟩,oA⟩:=Cr ag gE;refine GK 5 ht (ag).2 gE Am Bc ?_;refine RR 6 ht [iV ek.1,iV ek.2.1,iV ek.2.2] 1 b2 oA Dl Bc ?_;refine AY ht V [7,8] V (Ai oz λqb oB oD=>Bj 9 ht V V (λ_ h s' hs=>Ep (h _ _ V) (h _ _ V) oB) ?_);let⟨el,gO,oE⟩:=bs oD;obtain⟨_,⟨_,_,rfl,rfl,⟨_,_,rfl,rfl,rfl⟩⟩,oF⟩:=Cr ag gO;refine GK 10 ht (ag).2 gO Am Bc ?_;refine RR 11 ht [iV el.1,iV el.2.1,iV el.2.2] 1 b2 oF Dl Bc ?_;refine Ai oE λqc oG oH=>Xa (i:=12) ⟨⟨1,_,V⟩,trivial⟩ (YR oG) AC V V V (A8 func145 V) V b2 ?_;rintro _ oI _ oJ ⟨rfl,rfl⟩ oK;refine Db 13 ht V V ?_;cases oH;refine Da ?_ (gB _ _ ⟨oI,V,V,oJ,oK⟩);exact Ad;refine have oL:=im ge ej;AY ht V [3,4,5,6,7,8,9,10,11,12,13] V ?_;cases oL;refine Da ?_ (gB _ _ ⟨b1,V,V,AL,b2⟩);exact Ad;refine AW k5 (λoM oN=>?_) (λoM oO=>?_);refine CA (Cf An AE V V V (As (v:=iV K.1) V (λ_ h=>Az A7 (h _ _ V) (Cc (j:=2) a9 V V)) (Cf An AE V V V (As (v:=iV Y) V (λ_ h=>Az A7 (h _ _ V) (Cc (j:=2) a9 V V)) (Cf An AE V V V (As (v:=iV fk) V (λ_ h=>Az A7 (h _ _ V) (Cc (j:=2) a9 V V)) (Ai oN λqd oP oQ=>As V (λ_ h=>Ix (h _ _ V) oP) (As V (λ_ h=>DZ [(0,1),(1,1),(2,1)] h BU An ⟨V,Bg A5,V,Bg A5,V,Bg A5,trivial⟩ V V) (BX 2 a9 Bc λoR=>?_)))))))));refine A1 ?_;cases oQ;exact fs AL oR V;refine Bl ?_;cases oO;exact fs AL a9 V;intro g3;refine FX 32 it (λoS oT=>?_) (λoS oU=>?_);refine C 6 V ?_;cases oT;exact AF (g3 _ _ ⟨ea,V,V,AL,eb⟩) V;obtain⟨qe,oV,oW⟩:=bs oU;refine C 2 V (Ml 0 (ci.Aj (a7.Ae ap)) oV V V V V V V Ak AE ?_);rintro qf qg qh _ oX rfl oY qi qj qk ql;refine As V (λ_ h=>Az A7 (h _ _ V) (Cc eb oX (oY 0 _ V))) (C 2 V ?_);cases oW;exact AF (g3 _ _ ⟨ea,V,V,AL,eb⟩) V;refine A3 V (BO 1 e6 V λoZ=>?_);cases h9;have o0:ex=(Sum.inr (I.1,I.2.2)):=(e8 _ co).symm;exact AF (h4 _ _ ⟨(I.1,I.2.2),a5,bv,Z,bw,az,a0,a6,o0,V,V,dj,oZ,ci,e7⟩) V
def TG(fu_:Nat)(I:Int×AS):Option (Bn (Int×AS) (AS)):=Option.bind (if 0<I.1 then((ix I.2 I.1).bind λU=>(Ax (I.1 - 1)).bind λY=>(ix I.2 Y).bind λZ=>(f173 fu_ U Z).bind λac=>some ac) else(some false)) λag=>if ag=true then((Ax (I.1 - 1)).bind λK=>(Ax (I.1 - 1)).bind λai=>(ix I.2 ai).bind λO=>(ix I.2 I.1).bind λaj=>(ix (I.2.set (Int.toNat I.1) O) K).bind λam=>(Ax (I.1 - 1)).bind λal=>some (.more (al,((I.2.set (Int.toNat I.1) O).set (Int.toNat K) aj)))) else(some (.done I.2))
def Qb(fu_:Nat)(Y:(List Int))(O:(List AQ))(I:AS×Int):Option (Bn (AS×Int) (AS)):=if I.2<(O.length:Int) then(Option.bind ((ix O I.2).bind λZ=>(f172 fu_ Y Z).bind λU=>if(!U.2)=true then(some I.1) else((room I.1 U.1).bind λK=>(ix K (0)).bind λal=>(Ax ((K.length:Int) - 1)).bind λac=>Option.bind (iter (TG fu_) fu_ (ac,K)) λag=>some ag)) λai=>(Ax (I.2+1)).bind λaj=>some (.more (ai,aj))) else(some (.done I.1))
def f131(fu_:Nat)(p0:Bf)(p1:Int)(p2:Int×Int):Option (AS):=(f89 fu_ p0).bind λI=>(f171 fu_ (I.length:Int) p2).bind λK=>(f170 fu_ K p1).bind λO=>Option.bind (iter (Qb fu_ I O) fu_ ([],0)) λU=>some U
abbrev Bx:=@Go.Proofs.Tryz.underlying75
theorem jd{ci:Av}{co:Nat}{p0:Bf}{p1:Int}{p2:Int×Int}(er:Aq (rL rI) E a1 c2 p0.1)(eu:Aq AI E ci co p0.2){r:AS}(cp:f131 fu_ p0 p1 p2=some r):A2 J 83 [.agg #[sV a1 p0.1 c2,sV ci p0.2 co],iV p1,.agg #[iV p2.1,iV p2.2]] E [] (λw E' B'=>∃(ct:Av) (cw:Nat),w= sV ct r cw/\B'=[]/\Aq (rL AI) E' ct cw r):=by
 refine Bq func83 λQ i9 cs H ew ex=>?_;unfold f131 at cp;refine C 2 V (Cx ew λjg ji bz ey eA=>?_);refine Cx eA λjj jr a3 eC eN=>?_;refine C 8 V (Ch (ey.Aj a3) C8 B8 V V (Ai cp λZ e0 e1=>Cb (mX (er.Aj (bz.Ae a3)) (eu.Aj (bz.Ae a3)) e0) V V (A8 func119 V) eN ?_));rintro _ jt _ cy ⟨ac,ag,rfl,rfl,e3⟩ e4;refine C 5 V (BB Ak V V V (Ch (eC.Aj cy) Pu Gw V V (Ai e1 λjy e5 e6=>Cb (kQ e5) V V (A8 func121 V) e4 ?_)));rintro _ kb _ c0 ⟨kc,ke,rfl,rfl,e7⟩ e8;refine Ai e6 λai ff fk=>C 1 V (Cb (jG e7 ff) V V (A8 func120 V) e8 ?_);rintro _ b0 _ c3 ⟨aj,al,rfl,rfl,fl⟩ fm;let⟨c4,fo,fs⟩:=bs fk;refine C 7 V (Bs (λL s=>∃(b1:LH) (a4:Av) (a5:Nat) (b2:Seg),Jn b0 H b1 [b2] [(7,sV a4 c4 a5)] L s (OL 23 (rL AI) b1 a4 a5 b2 c4)) ?_ ?_);rintro _ _ ⟨b1,a4,a5,b2,rfl,rfl,fv,fw,fN⟩;refine C 5 V (Cl 0 fN fw V λkf gc ge gg=>?_);cases fs;exact AX func83 V V (ex ((((((bz.Ae a3).Ae cy).Ae c0).Ae c3).Ae fv).Ae gc) V ⟨a4,a5,V,V,ge⟩ gg);intro gh;refine Ay (Cm fo (λL s O=>∃(aq:LH) (av:Av) (aw:Nat) (ay:Seg),Jn b0 H aq [ay] [(7,sV av O.1 aw),(8,sV ac Z ag),(9,sV aj ai al),(10,iV O.2)] L s (OL 23 (rL AI) aq av aw ay O.1)) ⟨b0,none,0,[],V,V,AL,fm,Cv⟩ ?_);rintro _ _ O ⟨aq,av,aw,ay,rfl,rfl,a6,c5,b3⟩ gt ⟨ki,b4⟩ gB;have c6:=b4;unfold Qb at c6;refine C 5 V (BB DR V V V (C 2 V (AW c6 (λgE gO=>?_) (λgE g3=>?_))));let⟨b5,g4,g5⟩:=bs gO;refine C 2 V (Bs (λL s=>∃(a7:LH) (a8:Av) (a9:Nat) (bb:Seg),Jn aq H a7 [bb] [(7,sV a8 b5 a9),(8,sV ac Z ag),(9,sV aj ai al),(10,iV O.2)] L s (OL 23 (rL AI) a7 a8 a9 bb b5)) ?_ ?_);rintro _ _ ⟨a7,a8,a9,bb,rfl,rfl,g6,g7,g8⟩;refine Ai g5 λha hb hc=>C 2 V (Br hb V V V (C 2 V ?_));cases hc;exact AF (gB _ _ (b5,ha) ⟨a7,a8,a9,bb,V,V,(a6.Ae g6),g7,g8⟩ b4) V;intro c7;refine Ai g4 λkn he hf=>C 6 V (B7 (fl.Aj a6) he DR Oa ?_);rintro ko kp _ ⟨ks,kv,rfl,hk⟩ hl;refine CX 0 hl (Dv BI) V V V (Ai hf λk0 hm hn=>Cb (jY (e3.Aj ((c0.Ae c3).Ae a6)) hk hm) V V (A8 func122 V) c5 ?_);rintro _ be _ bg ⟨k1,k2,rfl,rfl,ho⟩ c8;refine C 10 V (As V (λ_ h=>CN (h _ _ V)) (A1 (Co hn (λhp hq=>?_) (λhp hr=>?_))));refine A3 V ?_;cases hq;exact AF (c7 _ _ ⟨be,av,aw,ay,V,V,bg,c8,(b3.Aj bg)⟩) V;refine Ai hr λam hu hv=>C 5 V (D9 0 hu V V V V (λ_=>V) V (λ_=>V) V V V Bx Bx Bx Ej (B3 type23) (Es type23) V AD AD AD AD (b3.Aj bg) ⟨_,_,V,ho⟩ c8 V λk3 k4 Y k5 hw hx=>Ai hv λk6 hy hz=>C 3 V ?_);let⟨I,f137,hA,c9⟩:=WL.of hw hy;obtain⟨rfl,rfl⟩:=hA;refine C 2 V (As V (λ_ h=>Qj (c9).2 V Bx (h _ _ V)) (Ai hz λk7 hB hC=>B9 hB V V V ?_));let⟨b6,hD,hE⟩:=bs hC;refine C 2 V (Bs (λL s=>∃(bi:LH) (f156:Av_),Jn be H bi [bX I f156 23] [(7,.slice (Bd I) am.length Y),(8,sV ac Z ag),(9,sV aj ai al),(10,iV O.2)] L s (WL 23 (rL AI) bi I Y am.length f156 b6)) ?_ ?_);rintro _ _ ⟨bi,f156,rfl,rfl,hF,hG,dd⟩;have hH:=(dd).1;have hI:b6.length=am.length:=(dd).2;refine EU (L':=[(7,.slice (Bd I) b6.length Y),(8,.slice ac Z.length ag),(9,.slice aj ai.length al),(10,iV O.2)]) ⟨by rw[hI];rfl,V,V,V,trivial⟩ (Og ?_);cases hE;exact AF (c7 _ _ ⟨bi,(Bd I),Y,[(I,.cells f156 23 (0,0))],V,V,(bg.Ae hF),hG,hH⟩) V;intro hJ;refine Ay (Cm hD (λL s U=>∃(az:LH) (f166:Av_),Jn be H az [bX I f166 23] [(7,.slice (Bd I) am.length Y),(8,sV ac Z ag),(9,sV aj ai al),(10,iV O.2),(13,iV U.1)] L s (WL 23 (rL AI) az I Y am.length f166 U.2)) ⟨be,f137,V,V,AL,hx,c9⟩ ?_);rintro _ _ U ⟨az,f166,rfl,rfl,dj,a0,K⟩ hK ⟨la,ca⟩ hL;have ea:=ca;unfold TG at ea;refine C 2 V (EW 14 [I] ⟨⟨0,_,V⟩,trivial⟩ a0 λht=>?_);refine AY ht V [0,1,2] V ?_;let⟨hM,eb,hN⟩:=bs ea;refine FK 0 (tR_ 14 0) (λL s=>∃(bn:LH),Jm az H bn [bX I f166 23] [(7,.slice (Bd I) am.length Y),(8,sV ac Z ag),(9,sV aj ai al),(10,iV O.2),(13,iV U.1),(59,.bool hM)] L s) ?_ ?_;rintro _ _ ⟨bn,rfl,rfl,ap,bo⟩;refine DP AC (Co hN (λhO hP=>?_) (λhO hQ=>?_));refine C 3 V (Gl [15,17] [I] [] mixed V (CL 0 V V (CL 1 V V (CL 2 V V (CL 3 V V (Ai hP λec hR hS=>CG 4 true V V (λ_ h s' hs=>Ep (h _ _ V) (h _ _ V) hR) (CL 5 V V (CL 6 V V (Ai hS λld hT hU=>CG 7 true V V (λ_ h s' hs=>Ep (h _ _ V) (h _ _ V) hT) ?_)))))))));obtain⟨bv,ed,hV⟩:=bs hU;obtain⟨_,⟨ee,ef,rfl,hW⟩,hX⟩:=Cr (K.Aj ap) ed;refine DM 8 K.2 ed Bx Ej ?_;refine EA 9 false V AC V V V (λ_ h s' hs=>have hs:=hs V;Az Fe (h _ _ V) (ES 0 bo V AV hs (hX 0 _ V))) (CL 10 V V (CL 11 V V ?_));let⟨bw,bx,hY⟩:=bs hV;obtain⟨_,⟨eg,ej,rfl,h0⟩,h1⟩:=Cr (K.Aj ap) bx;refine DM 12 K.2 bx Bx Ej ?_;refine EA 13 false V AC V V V (λ_ h s' hs=>have hs:=hs V;Az Fe (h _ _ V) (ES 0 bo V AV hs (h1 0 _ V))) (DM 14 K.2 bx Bx Ej ?_);refine have a2:=D8 (x':=bv) (ws':=[sV ee bv ef]) (K.Aj ap) K.2 bx ⟨_,_,V,hW⟩;E3 15 0 bo Ej trivial a2.2 λh2=>?_;let⟨li,cc,h3⟩:=bs hY;obtain⟨_,⟨lm,lq,rfl,ls⟩,lw⟩:=Cr a2.1 cc;refine DM 16 (a2.1).2 cc Bx Ej ?_;refine have ek:=D8 (x':=bw) (ws':=[sV eg bw ej]) a2.1 (a2.1).2 cc ⟨_,_,V,h0⟩;E3 17 0 h2 Ej trivial ek.2 λh4=>?_;refine DG AC (Ai h3 λh5 h6 h7=>C 3 V (B9 h6 V V V (C 2 V ?_)));cases h7;exact AF (hL _ _ (h5,((U.2.set (Int.toNat U.1) bv).set (Int.toNat ec) bw)) ⟨bn,(Be (Be f166 (Int.toNat (U.1)*1) [sV ee bv ef]) (Int.toNat (ec)*1) [sV eg bw ej]),V,V,(dj.Ae ap),h4,ek.1⟩ ca) V;refine A3 V ?_;cases hQ;obtain rfl:=hK _ ca;exact AF (hJ _ _ ⟨bn,f166,V,V,(dj.Ae ap),bo,(K.Aj ap)⟩) V;intro el;refine GM (q:=0<U.1) (i:=48) V (λce=>?_) (λce=>?_);refine have h8:=ip eb ce;AY ht V [3,4] V ?_;let⟨ly,em,h9⟩:=bs h8;obtain⟨_,⟨l3,l4,rfl,ia⟩,ih⟩:=Cr K em;refine GK 5 ht (K).2 em Bx Ej ?_;refine Bj 6 ht V V (λ_ h s' hs=>Az Fe (h _ _ V) (ES 0 a0 V AV hs (ih 0 _ V))) (AY ht V [7,8] V (Ai h9 λl5 ii io=>Bj 9 ht V V (λ_ h s' hs=>Ep (h _ _ V) (h _ _ V) ii) ?_));let⟨l6,eo,it⟩:=bs io;obtain⟨_,⟨ma,mb,rfl,i0⟩,i1⟩:=Cr K eo;refine GK 10 ht (K).2 eo Bx Ej ?_;refine Bj 11 ht V V (λ_ h s' hs=>Az Fe (h _ _ V) (ES 0 a0 V AV hs (i1 0 _ V))) (Ai it λmp i3 i4=>Xa (i:=12) ⟨⟨0,_,V⟩,trivial⟩ (jc ia i0 i3) AC V V V (A8 func123 V) V a0 ?_);rintro _ i5 _ i6 ⟨rfl,rfl⟩ i7;refine Db 13 ht V V ?_;cases i4;refine Da ?_ (el _ _ ⟨i5,V,V,i6,i7⟩);exact Ad;refine have i8:=im eb ce;AY ht V [3,4,5,6,7,8,9,10,11,12,13] V ?_;cases i8;refine Da ?_ (el _ _ ⟨az,V,V,AL,a0⟩);exact Ad;refine A3 V ?_;cases g3;obtain rfl:=gt _ b4;exact AF (gh _ _ ⟨aq,av,aw,ay,V,V,a6,c5,b3⟩) V
end Pal
namespace Pal
open Go Go.Conc
variable {P:Program}{t u ty e:TypeId}{p:String}{af:Ae_}{g:On_}{s:St}{ρ:Operand->Value}
section
variable {d:Option Tmp}{x:Operand}
end
open Go.Proofs Go.Proofs.Tryz
variable {E:LH}
variable {J:Judge Tryz.prog}
def Qx(fu_:Nat)(p0:Bf)(p1:Int×Int)(I:Int):Option (Bn Int ((AS)⊕(Unit))):=if I<(p0.1.length:Int) then((f131 fu_ p0 I p1).bind λK=>if 0<(K.length:Int) then(some (.done (Sum.inl K))) else((Ax (I+1)).bind λO=>some (.more O))) else(some (.done (Sum.inr ())))
def f107(fu_:Nat)(p0:Bf)(p1:Int×Int):Option (AS):=Option.bind (iter (Qx fu_ p0 p1) fu_ 0) λI=>Sum.elim (λr=>some r) (λK=>some ([])) I
variable{a1:Av}{c2 dn fu_:Nat}{p0:Bf}{r:AS}
theorem jb{Z:Av}{p1:Int×Int}(a4:Aq (rL rI) E a1 c2 p0.1)(a5:Aq AI E Z dn p0.2)(ag:f107 fu_ p0 p1=some r):A2 J 60 [.agg #[sV a1 p0.1 c2,sV Z p0.2 dn],.agg #[iV p1.1,iV p1.2]] E [] (λw E' B'=>∃(ai:Av) (aj:Nat),w= sV ai r aj/\B'=[]/\Aq (rL AI) E' ai aj r):=by
 refine Bq func60 λQ c0 cs H a6 al=>?_;unfold f107 at ag;refine C 2 V (Cx a6 λa7 c3 O am a8=>?_);refine Cx a8 λa9 bb K be bg=>?_;let⟨ap,bi,aq⟩:=bs ag;refine C 7 V (Bs (λL s=>∃(av:Unit) (aw:LH),ap=Sum.inr av/\Jm bb H aw [] [] L s) ?_ ?_);rintro _ _ ⟨av,aw,rfl,rfl,rfl,bn,bo⟩;refine have bv:=elim_inr aq;C 4 V ?_;cases bv;exact AX func60 V V (al ((O.Ae K).Ae bn) V ⟨none,0,V,V,Ba⟩ bo);intro bw;refine Ay (Dc bi (λY=>[]) (λY=>[(2,AA a7 0),(3,AA a9 0),(5,iV Y)]) AL bg ?_);rintro Y bx I ay az ⟨c4,U⟩ bz;have a0:=U;unfold Qx at a0;refine C 4 V (BS 0 (am.Aj (K.Ae I)) A0 Eo EJ ?_);refine BB Ar V V V (C 2 V (AW a0 (λb0 b1=>?_) (λb0 b2=>?_)));refine C 5 V (Ch (am.Aj (K.Ae I)) C8 B8 V V (C 1 V (Ch (be.Aj I) Pu Gw V V (Ai b1 λc5 b3 b4=>Cb (jd (a4.Aj ((O.Ae K).Ae I)) (a5.Aj ((O.Ae K).Ae I)) b3) V V (A8 func83 V) ay ?_))));rintro _ c6 _ a2 ⟨b5,b6,rfl,rfl,ca⟩ a3;refine C 5 V (BB Bx V V V (C 2 V (AW b4 (λcc ce=>?_) (λcc ci=>?_))));refine C 5 V ?_;cases ce;obtain rfl:=az _ U;have co:=elim_inl aq;cases co;exact AX func60 V V (al (((O.Ae K).Ae I).Ae a2) V ⟨b5,b6,V,V,ca⟩ a3);refine Ai ci λcp ct cw=>C 4 V (Br ct V V V (C 2 V ?_));cases cw;exact bz cp (I.Ae a2) a3 V U;refine A3 V ?_;cases b2;have cy:ap=(Sum.inr ()):=(az _ U).symm;exact AF (bw _ _ ⟨(),bx,cy,V,V,I,ay⟩) V
def f75(fu_:Nat)(p0:Bf):Option (AS):=(f107 fu_ p0 (0,0)).bind λI=>some I
theorem UJ{K:Av}(ac:Aq (rL rI) E a1 c2 p0.1)(ag:Aq AI E K dn p0.2)(U:f75 fu_ p0=some r):A2 J 37 [.agg #[sV a1 p0.1 c2,sV K p0.2 dn]] E [] (λw E' B'=>∃(Y:Av) (Z:Nat),w= sV Y r Z/\B'=[]/\Aq (rL AI) E' Y Z r):=by
 refine Bq func37 λQ a2 cs H ai aj=>?_;unfold f75 at U;refine C 2 V (Cx ai λa3 a4 I al am=>?_);refine C 4 V (Ch al C8 B8 V V (As V (λ_ h=>DZ [(0,1),(1,1)] h KJ C3 ⟨V,Bg A5,V,Bg A5,trivial⟩ V V) (Ai U λa5 ap aq=>Cb (jb (ac.Aj I) (ag.Aj I) ap) V V (A8 func60 V) am ?_)));rintro _ a6 _ av ⟨aw,ay,rfl,rfl,az⟩ a0;refine C 2 V ?_;cases aq;exact AX func37 V V (aj (I.Ae av) V ⟨aw,ay,V,V,az⟩ a0)
end Pal
namespace Pal
def Zb(n:Nat)(w:List Int):Prop:=∀j,n<=j->gN w j=0
variable{w:List Int}{n:Nat}{i:Int}
theorem KY{B:Int}(hb:BN B w)(I:n<=5)(K:0<=i)(hi:i<n):ix (w.take n) i=some (gN w i.toNat):=by
 have O:=hb.1
 grind [OY,F6]
variable{v:Int}
theorem Rr{i j:Nat}(h:i≠j):gN (w.set i v) j=gN w j:=by
 grind [gN]
theorem dA{d:DT}(K:0<=d.1)(O:0<=d.2.1)(U:d.1≠d.2.1):(IJ w d).take n=((w.take n).set d.1.toNat (gN w d.1.toNat - d.2.2)).set d.2.1.toNat (gN w d.2.1.toNat+d.2.2):=by
 unfold IJ GW;have I:d.2.1.toNat≠d.1.toNat:=by omega
 rw[Rr I,vJ,vJ,uT _ _ I,Int.sub_eq_add_neg]
theorem Zb.add(h:Zb n w)(hi:i<n)(I:0<=i):Zb n (GW w i v):=λj hj=>by
 unfold GW
 rw[Rr AB]
 exact h j hj
theorem Zb.zero(n:Nat):Zb n (List.replicate 5 0):=λj _=>by
 unfold gN
 rw[sP,vq]
 split<;>rfl
variable{o:OW}
theorem XU(h:VO o):Zb o.1.length (BV o):=by
 have:∀(ds:List DT) (w:List Int),Zb o.1.length w->(∀d∈ds,VD o.1.length d)->Zb o.1.length (ds.foldl IJ w):=by
  intro ds
  induction ds with
  | nil=>exact λw hw _=>hw
  | cons d ds I=>
   intro w hw hd;let⟨v1,v2,K,v4,_⟩:=hd d tI;exact I _ ((hw.add v4 K).add v2 v1) λx O=>hd x (kW _ O)
 exact this _ _ (Zb.zero _) h.ds
variable{F:Nat}
theorem kV(Z:100<F)(h:VO o):f89 F o=some ((BV o).take o.1.length):=by
 refine have K:=h.n5;have ac:=h.d8;CV ?_;unfold f89;refine AR (b:=List.replicate o.1.length 0) ?_ ?_;unfold GQ;rw[d9 AB];rfl
 refine AJ (S:=λr=>r=(BV o).take o.1.length) ?_ (λr O=>Ap O);refine Cn o.2.length (λi s=>s.2=(i:Int)/\∃w,s.1=w.take o.1.length/\w=(o.2.take i).foldl IJ (List.replicate 5 0)/\BN (20*i) w) ⟨rfl,List.replicate 5 0,by rw[List.take_replicate,uN K],rfl,rfl,AM⟩ AB ?_ ?_
 .rintro i ⟨s,c⟩ hi ⟨I,w,hs,hw,hb⟩;simp only at I hs;subst I;subst hs;let⟨v1,v2,U,v4,Y,v6,ag⟩:=h.ds _ (f5 hi);have g1:=hb.add (i:=o.2[i].2.1) (v:=o.2[i].2.2) (V:=10) AB AB AB AB;have g2:=g1.add (i:=o.2[i].1) (v:= -o.2[i].2.2) (V:=10) AB AB AB AB;have k1:=hb.bd (i:=o.2[i].2.1.toNat) AB;have ai:=hb.bd (i:=o.2[i].1.toNat) AB;unfold Rb;refine BJ AN (Bh (m:=i) rfl hi (AR (KY hb K AB AB) (AR (KY hb K AB AB) (A4 _ rfl (AR (KY hb K AB AB) (A4 _ rfl (A4 ((i+1:Nat):Int) AM (Ap ⟨rfl,IJ w o.2[i],(dA v1 U Y).symm,?_,g2.Aj AB⟩))))))));rw[tp,bZ hi,vd,← hw]
  rfl
 .rintro⟨s,c⟩ ⟨I,w,hs,hw,hb⟩;simp only at I hs;subst I;unfold Rb;rw[tf] at hw;exact BM AM (Ap ⟨_,rfl,by simp only;rw[hs,hw];rfl⟩)
def Ji(a k:Nat):List PR:=(List.range k).map λt:Nat=>((a:Int),((a+1+t:Nat):Int))
def Ig(n k:Nat):List PR:=(List.range k).flatMap λa=>Ji a (n - a - 1)
theorem cQ(a k:Nat):Ji a (k+1)=Ji a k++ [((a:Int),((a+1+k:Nat):Int))]:=by unfold Ji;rw[vO,tE];rfl
theorem bp(n k:Nat):Ig n (k+1)=Ig n k++Ji k (n - k - 1):=by unfold Ig;rw[vO,wB];simp
theorem SW(h:n<=5):(Ig n n).Perm (Et n):=by
 match n,h with
 | 0,_ | 1,_ | 2,_ | 3,_ | 4,_ | 5,_=>decide
def Ft(p:PR)(x:PR):Bool:=decide (x≠p)
theorem gL{p:PR}(ac:100<F)(ag:n<=5):f171 F (n:Int) p=some ((Ig n n).filter (Ft p)):=by
 refine CV ?_;unfold f171;refine AJ (S:=λr=>r=(Ig n n).filter (Ft p)) ?_ (λr O=>Ap O);refine Cn n (λi s=>s.2=(i:Int)/\s.1=(Ig n i).filter (Ft p)/\s.1.length<=10*i) ⟨V,V,AM⟩ AB ?_ ?_
 .rintro a ⟨w,c⟩ ai ⟨I,hw,U⟩;simp only at I hw U;subst I;unfold Qo;refine BJ AN (A4 ((a+1:Nat):Int) AM (AJ (S:=λr=>r=w++(Ji a (n - a - 1)).filter (Ft p)) ?_ ?_))
  .refine Cn (n - a - 1) (λt s=>s.2=((a+1+t:Nat):Int)/\s.1=w++(Ji a t).filter (Ft p)/\s.1.length<=w.length+t) ⟨V,by simp[Ji],AM⟩ AB ?_ ?_
   .rintro t ⟨v,c⟩ ht ⟨I,K,Y⟩;simp only at I K Y;subst I;unfold Qg;refine BJ AN ?_;have aj:(Ji a (t+1)).filter (Ft p)=(Ji a t).filter (Ft p)++(if Ft p ((a:Int),((a+1+t:Nat):Int))=true then [((a:Int),((a+1+t:Nat):Int))] else []):=by
     rw[cQ,List.filter_append,List.filter_cons];rfl
    refine AJ (S:=λr=>r=w++(Ji a (t+1)).filter (Ft p)/\r.length<=w.length+(t+1)) ?_ ?_
    .have hb:Ft p ((a:Int),((a+1+t:Nat):Int))=true↔¬(p.1=(a:Int)/\p.2=((a+1+t:Nat):Int)):=by
      obtain⟨p1,p2⟩:=p;unfold Ft;simp only[ne_eq,decide_not,vc,wa,f4];constructor;rintro h ⟨rfl,rfl⟩;exact h ⟨V,V⟩;rintro h ⟨rfl,rfl⟩;exact h ⟨V,V⟩
     refine Bw (λh=>?_) (λh=>?_)
     all_goals grind [It,Ap]
    .rintro r ⟨O,Z⟩;exact A4 ((a+1+(t+1):Nat):Int) AN (Ap ⟨V,O,Z⟩)
   .rintro⟨v,c⟩ ⟨I,K,_⟩;simp only at I K;subst I;unfold Qg;exact BM AN (Ap ⟨_,V,K⟩)
  .rintro r rfl;refine A4 ((a+1:Nat):Int) AM (Ap ⟨V,?_,?_⟩)
   all_goals grind [bp,Ft,Ji]
 .rintro⟨w,c⟩ ⟨I,hw,U⟩;simp only at I hw U;subst I;unfold Qo;exact BM AM (Ap ⟨_,V,hw⟩)
theorem aV(m:Nat):Dm (m+1) []=[]:=rfl
theorem XR{F:Nat}(Z:2000<F):∀(m N:Nat) (l:List PR),m<N->m<=10->l.length<=10->ND N F l (m:Int)=some (Dm m l)
 | 0,N,l,ac,_,_=>by
  obtain⟨N,rfl⟩:∃k,N=k+1:=⟨N - 1,AB⟩
  simp only[ND]
  unfold ON
  rw[d9 (show((0:Nat):Int)=0 from rfl)]
  cases l<;>rfl
 | m+1,N,l,ac,hm,ag=>by
  obtain⟨N,rfl⟩:∃k,N=k+1:=⟨N - 1,AB⟩
  refine CV ?_
  simp only[ND]
  unfold ON
  refine BM AB ?_
  have ai:∀k,k<=10->2^k<=1024:=λk U=>s3 (tx AD U) AD
  have Y:∀(m:Nat) (xs:List PR),xs.length<=10->(Dm m xs).length<=1024:=λm xs h=>s3 (Oi m xs) (ai _ h)
  refine AJ (S:=λr=>r=Dm (m+1) l) ?_ (λr aj=>Ap aj)
  refine Cn l.length (λi s=>s.2=(i:Int)/\s.1++Dm (m+1) (l.drop i)=Dm (m+1) l) ⟨V,AM⟩ AB ?_ ?_
  .rintro i ⟨acc,c⟩ hi ⟨I,K⟩
   simp only at I K;subst I;have hd:l.drop i=l[i]::l.drop (i+1):=tF hi;have ap:acc.length<=1024:=by
    have:=s7 List.length K;rw[sR] at this;have:=Y (m+1) l ag;omega
   unfold QN;refine BJ AN (A4 ((i+1:Nat):Int) AM (AR (b:=l.drop (i+1)) ?_ ?_));unfold Gr;rw[d9 AB,show Int.toNat (l.length:Int)=l.length by omega,tf,show Int.toNat ((i+1:Nat):Int)=i+1 by omega]
   refine A4 (m:Int) AB (AR (XR Z m N _ AB AB (by rw[wj];omega)) ?_);have aq:=Y m (l.drop (i+1)) (by rw[wj];omega);have al:∀c∈Dm m (l.drop (i+1)),c.length=m:=λc I=>(Lp (x:=(0,0)) I).1;have am:Dm (m+1) (l.drop i)=(Dm m (l.drop (i+1))).map (l[i]::·)++Dm (m+1) (l.drop (i+1)):=by rw[hd];rfl
   generalize Dm m (l.drop (i+1))=R at*;refine AJ (S:=λr=>r=acc++R.map (l[i]::·)) ?_ ?_
   .refine Cn R.length (λk s=>s.2=(k:Int)/\s.1=acc++(R.take k).map (l[i]::·)) ⟨V,AM⟩ AB ?_ ?_
    .rintro k ⟨v,c⟩ U ⟨I,O⟩;simp only at I O;subst I;have av:=al _ (f5 U);unfold QU;refine BJ AN (Bh (m:=i) V hi (Bh (m:=k) V U (FO AP ?_)));have aw:v.length<=2048:=by rw[O];simp;omega
     refine AR (b:=v++ [[l[i]]++R[k]]) (by unfold CK;rw[d9 AP]) (A4 ((k+1:Nat):Int) AM (Ap ⟨V,?_⟩));simp only;rw[tp,bZ U,tE,← lZ,← O]
     rfl
    .rintro⟨v,c⟩ ⟨I,O⟩;simp only at I O;subst I;unfold QU;rw[tf] at O;exact BM AM (Ap ⟨_,V,O⟩)
   .rintro r rfl;refine A4 ((i+1:Nat):Int) AM (Ap ⟨V,?_⟩);simp only;rw[lZ,← am];exact K
  .rintro⟨acc,c⟩ ⟨I,K⟩;simp only at I K;subst I;unfold QN;rw[vI,aV,s6] at K;exact BM AM (Ap ⟨_,V,K⟩)
theorem VV{α:Type}{l:List α}{i:Nat}(h:i<l.length):(l[i]::l.eraseIdx i).Perm l:=by
 rw[vn];refine tM.symm.trans ?_;rw[← tF h,w9]
theorem VS(n:Nat):∀(k:Nat) {l l':List PR}(w:List Int) (out:List DT),l.Perm l'->Er n k l w out=Er n k l' w out
 | 0,l,l',w,out,_=>rfl
 | k+1,l,l',w,out,h=>by
  have Y:GO n l=GO n l':=by
   unfold GO;congr 1;funext p;rw[h.countP_eq]
  unfold Er;rw[Y];cases U:GO n l' with
  | none=>rfl
  | some p=>
   simp only[Option.bind_some];split
   .rfl
   have Z:l'.countP (Bb p)=1:=by
    unfold GO at U;let⟨c1,_,_⟩:=tR.1 U;simpa using c1
   have ac:l.countP (Bb p)=1:=h.countP_eq _▸Z;have K:l.findIdx (Bb p)<l.length:=by
    obtain⟨x,I,ht⟩:=uV.1 (show 0<l.countP (Bb p) by omega);exact un ⟨x,I,ht⟩
   have O:l'.findIdx (Bb p)<l'.length:=by
    obtain⟨x,I,ht⟩:=uV.1 (show 0<l'.countP (Bb p) by omega);exact un ⟨x,I,ht⟩
   have t1:Bb p l[l.findIdx (Bb p)]=true:=uQ;have t2:Bb p l'[l'.findIdx (Bb p)]=true:=uQ;have ag:∀{m:List PR},m.countP (Bb p)=1->∀x∈m,Bb p x=true->∀y∈m,Bb p y=true->x=y:=by
    intro m hm x I ai y aj ty;have al:m.filter (Bb p)=[x]:=by
     have am:(m.filter (Bb p)).length=1:=by rw[← List.countP_eq_length_filter];exact hm
     let⟨z,ap⟩:=List.length_eq_one_iff.1 am;have:x∈m.filter (Bb p):=uu.2 ⟨I,ai⟩;rw[ap] at this ⊢;rw[de.1 this]
    have:y∈m.filter (Bb p):=uu.2 ⟨aj,ty⟩;rw[al] at this;exact(de.1 this).symm
   have e:l[l.findIdx (Bb p)]=l'[l'.findIdx (Bb p)]:=ag ac _ (f5 K) t1 _ (h.mem_iff.2 (f5 O)) t2;rw[Nk K,Nk O,e];refine VS n k _ _ ?_;have p1:(l[l.findIdx (Bb p)]::l.eraseIdx (l.findIdx (Bb p))).Perm l:=VV K;have p2:(l'[l'.findIdx (Bb p)]::l'.eraseIdx (l'.findIdx (Bb p))).Perm l':=VV O;rw[e] at p1;exact List.Perm.cons_inv ((p1.trans h).trans p2.symm)
variable{S:List PR}
theorem bK{S':List PR}(h:S.Perm S'):Fi n w S=Fi n w S':=by
 unfold Fi;rw[h.length_eq,VS n _ w [] h]
theorem Z8{β:Type}:∀{l l':List PR},l.Perm l'->∀(m:Nat) (f:List PR->Option β),(∀a b,a.Perm b->f a=f b)->((Dm m l).filterMap f).Perm ((Dm m l').filterMap f):=by
 intro l l' h
 induction h with
 | nil=>intro m f _;exact tu _
 | cons x h K=>
  intro m f I;cases m with
  | zero=>exact tu _
  | succ m=>
   simp only[Dm,u7,v7];exact(K m _ λa b O=>I _ _ (O.cons x)).append (K (m+1) f I)
 | swap x y l=>
  intro m f I;cases m with
  | zero=>exact tu _
  | succ m=>
   cases m with
   | zero=>
    have e:∀z:List PR,Dm 0 z=[[]]:=λz=>by cases z<;>rfl
    simp only[Dm,e,u7,v7,tX,wR,← lZ];exact wd _ lF
   | succ m=>
    simp only[Dm,u7,v7,tE,List.map_map,lZ];have e:((Dm m l).filterMap (f∘((y::·)∘(x::·))))=((Dm m l).filterMap (f∘((x::·)∘(y::·)))):=by
     congr 1;funext c;exact I _ _ (List.Perm.swap x y c)
    rw[e];refine tL _ ?_;rw[← lZ,← lZ];exact wd _ lF
 | trans Z ac U Y=>intro m f I;exact(U m f I).trans (Y m f I)
theorem XW(F:Nat)(a b:DT):MA F a b=some (Fu a b):=by
 refine CV ?_;unfold MA;refine AJ (S:=λc=>c=Fu a b) ?_ (λc I=>Ap I);have key:∀c:Bool,(c=true↔a.1<b.1∨(a.1=b.1/\(a.2.1<b.2.1∨(a.2.1=b.2.1/\a.2.2<b.2.2))))->c=Fu a b:=λc I=>by
  rw[Bool.eq_iff_iff,I,OB]
 refine Bw (λh=>Ap (key _ AP)) (λh=>Bw (λK=>?_) (λK=>Ap (key _ AP)));refine Bw (λO=>Ap (key _ AP)) (λO=>Bw (λU=>Ap (key _ AP)) (λU=>Ap (key _ AP)))
theorem bu(F:Nat):TZ F=NU (MA F):=rfl
theorem cC(F:Nat):TG F=NU (f173 F):=rfl
theorem gY{a b:List DT}(K:100<F)(I:a.length=b.length)(O:a.length<=40):f173 F a b=some (BL a b):=by
 refine CV ?_;unfold f173;refine AJ (S:=λr=>r=Sum.inl (BL a b)∨(r=Sum.inr ()/\BL a b=false)) ?_ ?_
 .refine Cn a.length (λi s=>s=(i:Int)/\a.take i=b.take i) ⟨V,AM⟩ AB ?_ ?_
  .rintro i s hi ⟨rfl,he⟩;have hb:i<b.length:=by omega
   have U:a.drop i=a[i]::a.drop (i+1):=tF hi;have Y:b.drop i=b[i]::b.drop (i+1):=tF hb;unfold Qc;refine BJ AB (Bh (m:=i) V hi (Bh (m:=i) V hb (Bw (λh=>?_) (λh=>?_))))
   .refine Bh (m:=i) V hi (Bh (m:=i) V hb (AR (XW _ _ _) (Ap (.inl ?_))))
    grind [BL,Ox]
   .refine A4 ((i+1:Nat):Int) AM (Ap ⟨V,?_⟩)
    grind
  .rintro s ⟨rfl,he⟩;unfold Qc;refine BM AB (Ap ⟨_,V,.inr ⟨V,?_⟩⟩);rw[Ox (i:=a.length) (jK _) AB he,vI,I,vI]
   rfl
 all_goals grind [Ap]
variable{l:List PR}
theorem gR(al:100<F)(am:n<=5)(ap:l.length<=20):O7 F (n:Int) l=some (match GO n l with | some p=>((p:Int),((l.findIdx (Bb p):Nat):Int),true) | none=>(0,0,false)):=by
 refine CV ?_;unfold O7;refine AJ (S:=λq=>(∃p,GO n l=some p/\q=Sum.inl ((p:Int),((l.findIdx (Bb p):Nat):Int),true))∨(GO n l=none/\q=Sum.inr ())) ?_ ?_
 .refine Cn n (λi s=>s=(i:Int)/\∀p,p<i->l.countP (Bb (p:Nat))≠1) ⟨V,AM⟩ AB ?_ ?_
  .rintro i s hi ⟨rfl,Z⟩;unfold QJ;refine BJ AB (AJ (S:=λr=>r.1=((l.countP (Bb i):Nat):Int)/\(r.1=1->r.2=((l.findIdx (Bb i):Nat):Int))) ?_ ?_)
   .refine Cn l.length (λj s=>s.2.2=(j:Int)/\s.1=(((l.take j).countP (Bb i):Nat):Int)/\(s.1≠0->∃a,s.2.1=((a:Nat):Int)/\∃h:a<l.length,Bb i l[a]=true)) ⟨V,AM,AM⟩ AB ?_ ?_
    .rintro j ⟨m,a,c⟩ hj ⟨I,hm,O⟩;simp only at I hm O;subst I;have hle:(l.take j).countP (Bb i)<=j:=by
      refine s3 xa ?_;rw[t7];omega
     unfold Qw;refine BJ AN (Bh (m:=j) V hj (AJ (S:=λc=>c=Bb i l[j]) ?_ ?_));unfold Bb;exact Bw (λh=>Ap (by simp[h])) (λh=>Bh (m:=j) V hj (Ap (by simp[h])))
     rintro c rfl;have key:(l.take (j+1)).countP (Bb i)=(l.take j).countP (Bb i)+if Bb i l[j]=true then 1 else 0:=by
      rw[tp,bZ hj,List.countP_append];simp only[um,wi,List.countP_nil,uo]
     refine AJ (S:=λr=>r.1=(((l.take (j+1)).countP (Bb i):Nat):Int)/\(r.1≠0->∃a,r.2=((a:Nat):Int)/\∃h:a<l.length,Bb i l[a]=true)) ?_ ?_;refine Bw (λh=>?_) (λh=>?_);refine Lx (((l.take (j+1)).countP (Bb i):Nat):Int) ?_ AB ?_ (Ap ⟨V,λ_=>⟨j,V,hj,h⟩⟩);rw[key,d9 h,hm];rfl;rw[key,d9 h];omega;exact Ap ⟨by rw[key,d0 h];exact hm,O⟩;rintro⟨m',aq⟩ ⟨U,Y⟩;simp only at U Y ⊢;exact A4 ((j+1:Nat):Int) AM (Ap ⟨V,U,Y⟩)
    .rintro⟨m,a,c⟩ ⟨I,hm,O⟩;simp only at I hm O;subst I;rw[tf] at hm;unfold Qw;refine BM AM (Ap ⟨_,V,hm,λac=>?_⟩);simp only at ac;obtain⟨k,ag,ai,aj⟩:=O AB;have:=Sy (p:=Bb i) (l:=l) (a:=k) AB ai aj;simp only;rw[this];exact ag
   .rintro⟨m,a⟩ ⟨U,Y⟩;simp only at U Y ⊢;refine Bw (λh=>Ap (.inl ⟨i,SQ hi AB Z,by rw[Y h]⟩)) (λh=>A4 ((i+1:Nat):Int) AM (Ap ⟨V,λp K=>?_⟩));rcases vk.1 K with K | rfl;exact Z p K;intro I;exact h (by rw[U,I];rfl)
  .rintro s ⟨rfl,Z⟩;unfold QJ;exact BM AB (Ap ⟨_,V,.inr ⟨VC Z,V⟩⟩)
 .rintro q (⟨p,K,rfl⟩ | ⟨K,rfl⟩);rw[K,Sum.elim_inl];exact Ap V;rw[K,Sum.elim_inr];exact Ap V
variable{p:Nat}{x:PR}
theorem dM{o:Nat}(I:o≠p)(K:x.1+x.2 - (p:Int)=o)(hm:gN w p≠0):(GX w (dP p x (gN w p))).take n=((w.take n).set o (gN w o+gN w p)).set p 0:=by
 unfold dP;rw[K];by_cases h:0<gN w p;rw[d9 h];unfold GX GW;simp only[tt];rw[Rr I,vJ,vJ,show gN w p+ -gN w p=0 by omega];rw[d0 h];unfold GX GW;simp only[tt];rw[Rr (ti I),vJ,vJ,show gN w p+ -gN w p=0 by omega,Int.neg_neg,uT _ _ (ti I)]
theorem Zb.pay{d:DT}(h:Zb n w)(a:d.1<n)(I:0<=d.1)(b:d.2.1<n)(K:0<=d.2.1):Zb n (GX w d):=(h.add a I).add b K
theorem nm(K:w.length=5)(O:Zb n w)(h:∀j,j<n->gN w j=0):w=List.replicate 5 0:=by
 refine Xm K V λj hj=>?_;rw[Zb.zero 0 j (tz _)];rcases mt j n with I | I;exact h j I;exact O j I
theorem iO{w0:List Int}(b4:2000<F)(K:n<=5)(ap:S.length<=10)(a7:∀x∈S,VP n x)(hw:BN 200 w0)(a8:Zb n w0):f172 F (w0.take n) S=some (match Fi n w0 S with | none=>([],false) | some r=>(r,true)):=by
 refine have b5:=Qy ap;CV ?_;unfold f172;refine have aq:=hw.1;AR (b:=w0.take n) (by unfold CK;rw[d9 AP];rfl) (AR (b:=S) (by unfold CK;rw[d9 AP];rfl) ?_);refine AJ (S:=λq=>(q=Sum.inl ([],false)/\Er n S.length S w0 []=none)∨∃w out,q=Sum.inr (w.take n,EK out)/\w.length=5/\Zb n w/\BN 1000000000000 w/\Er n S.length S w0 []=if w=List.replicate 5 0 then some out else none) ?_ ?_
 .refine Gc (λm s=>∃w out B,s.1=w.take n/\s.2.1.length=m/\s.2.2=EK out/\BN B w/\0<=B/\B*3^m<=1000000000000/\Zb n w/\(∀x∈s.2.1,VP n x)/\out.length+m<=10/\Er n S.length S w0 []=Er n m s.2.1 w out) ?_ (m:=S.length) ⟨w0,[],200,V,V,V,hw,AB,AB,a8,a7,by simpa using ap,V⟩ AB;rintro m ⟨v,l,b6⟩ ⟨w,out,B,Z,av,aw,I,a9,ay,az,ai,bb,O⟩;simp only at Z av aw ai O;subst Z;subst av;subst aw;have a0:B<=1000000000000:=by
   have Z:(1:Int)<=3^l.length:=by
    have:(0:Int)<3^l.length:=xk AD;omega
   have:=vB Z a9;omega
  have aq:=I.1;unfold TE;refine Bw (λbe=>?_) (λhzero=>?_)
  .simp only at be;have ac:(w.take n).length=n:=by rw[t7];omega
   obtain⟨k,bg⟩:∃k,l.length=k+1:=⟨l.length - 1,AB⟩;rw[bg] at ay bb O;have bi:B*3^(k+1)=(3*B)*3^k:=by rw[xi];rw[vj (3^k) 3,← xe,vj B 3]
   simp only[ac];refine AR (gR AB K AB) ?_;cases aj:GO n l with
   | none=>
    simp only;refine AJ (S:=λc=>c=true) (BJ V (Ap V)) ?_;rintro c rfl;refine BJ V (Ap (.inl ⟨V,?_⟩));rw[O];simp only[Er,aj,Option.bind_none]
   | some p=>
    simp only;have a1:=aj;unfold GO at a1;let⟨c1,c2,c3⟩:=tR.1 a1;have ca:l.countP (Bb p)=1:=by simpa using c1
    have c2:=s4.1 c2;have Y:l.findIdx (Bb p)<l.length:=by
     obtain⟨x,U,ht⟩:=uV.1 (show 0<l.countP (Bb p) by omega);exact un ⟨x,U,ht⟩
    have ht:Bb p l[l.findIdx (Bb p)]=true:=uQ;have U:=ai _ (f5 Y);have hb:=I.bd (i:=p) AB;have hg:Er n (k+1) l w out=if gN w p=0 then none else Er n k (l.eraseIdx (l.findIdx (Bb p))) (GX w (dP p l[l.findIdx (Bb p)] (gN w p))) (out++ [dP p l[l.findIdx (Bb p)] (gN w p)]):=by
     simp only[Er,aj,Option.bind_some,Nk Y]
    refine AJ (S:=λc=>c=decide (gN w p=0)) ?_ ?_;refine BM AD (AR (KY I K AB AB) (Ap ?_));rw[show Int.toNat (p:Int)=p by omega]
    rintro c rfl;refine Bw (λh=>Ap (.inl ⟨V,?_⟩)) (λh=>?_);rw[O,hg,d9 (uc h)]
    have ag:gN w p≠0:=λe=>h (th e);rw[d0 ag] at hg;have bn:=U;obtain⟨x1,x2,cc⟩:=bn;have ce:l[l.findIdx (Bb p)].1=(p:Int)∨l[l.findIdx (Bb p)].2=(p:Int):=by
     have key:∀x:PR,Bb p x=true->x.1=(p:Int)∨x.2=(p:Int):=λx h=>by unfold Bb at h;simpa using h
     exact key _ ht
    obtain⟨o,al⟩:∃o:Nat,(l[l.findIdx (Bb p)].1+l[l.findIdx (Bb p)].2 - (p:Int))=(o:Int):=⟨(l[l.findIdx (Bb p)].1+l[l.findIdx (Bb p)].2 - (p:Int)).toNat,AB⟩;have bo:o≠p:=by omega
    have ci:o<n:=by omega
    have co:=I.bd (i:=o) AB;let⟨a2,e2,a3,bv,cp,bw⟩:=Ux K U ht hb.1 hb.2;have a4:(dP p l[l.findIdx (Bb p)] (gN w p)).1<n/\(dP p l[l.findIdx (Bb p)] (gN w p)).2.1<n:=by
     unfold dP;split<;>simp only<;>omega
    obtain⟨-,g2⟩:=TX (F:=0) I a2 e2 a3 bv AB bw a0;have bx:=dM (n:=n) bo al ag;have hle:(l.eraseIdx (l.findIdx (Bb p))).length=k:=by rw[vb Y];omega
    refine AR (KY I K AB AB) ?_;rw[show Int.toNat (p:Int)=p by omega];refine Bh (m:=l.findIdx (Bb p)) V Y (Bh (m:=l.findIdx (Bb p)) V Y (A4 _ V (A4 (o:Int) al (AR (KY I K AB AB) (AR (KY I K AB AB) (AR (KY I K AB AB) ?_))))));rw[show Int.toNat (p:Int)=p by omega,show Int.toNat (o:Int)=o by omega];refine A4 (gN w o+gN w p) V (AJ (S:=λd=>d=dP p l[l.findIdx (Bb p)] (gN w p)) ?_ ?_);unfold dP;rw[al];refine Bw (λh=>?_) (λh=>Ap ?_);refine A4 _ V (Ap ?_);rw[d0 AB];rw[d9 AB]
    rintro d rfl;have ct:(EK out).length<=10:=by rw[PX];omega
    refine It (by first | omega | (simp only;omega)) ?_
    refine AR (b:=(EK out++ [dP p l[l.findIdx (Bb p)] (gN w p)])[0]'AM) (F6 (m:=0) V (bZ _)) (A4 ((EK out).length:Int) AM (AJ (S:=λr=>r=EK (out++ [dP p l[l.findIdx (Bb p)] (gN w p)])) ?_ ?_));rw[bu];refine(Tw (lt:=Fu) [] AB AB λy _=>XW _ _ _).Aj ?_;rintro r ⟨A,B,a5,rfl,bz,b0⟩;rw[M9,a5,s6];refine(TW bz ?_).symm;rcases b0 with rfl | ⟨cw,y,rfl,b1⟩;simp;have a6:=Xf out;rw[a5] at a6;exact VG a6 b1
    rintro r rfl;refine AR (b:=l.take (l.findIdx (Bb p))) (by unfold Gr;rw[d9 (by first | omega | (simp only;omega))];simp) ?_
    refine A4 ((l.findIdx (Bb p)+1:Nat):Int) AM (AR (b:=l.drop (l.findIdx (Bb p)+1)) ?_ ?_)
    .unfold Gr;rw[d9 (by first | omega | (simp only;omega))]
     try simp only
     rw[show Int.toNat (l.length:Int)=l.length by omega,tf,show Int.toNat ((l.findIdx (Bb p)+1:Nat):Int)=l.findIdx (Bb p)+1 by omega]
    refine AR (b:=l.take (l.findIdx (Bb p))) (by unfold CK;rw[d9 AP];rfl) (FO AP ?_);have he:l.take (l.findIdx (Bb p))++l.drop (l.findIdx (Bb p)+1)=l.eraseIdx (l.findIdx (Bb p)):=(vn _ _).symm;rw[he];refine Ap ⟨k,AB,_,_,3*B,bx.symm,hle,V,g2,AB,by rw[← bi];exact ay,az.pay a4.1 a2 a4.2 a3,λx U=>ai x (uy U),by simp;omega,O.trans hg⟩
  .simp only at hzero;refine Ap (.inr ⟨w,out,V,aq,az,I.Aj a0,?_⟩);rw[O,show l.length=0 by omega]
   rfl
 .rintro q (⟨rfl,hg⟩ | ⟨w,out,rfl,b2,b3,hb,hg⟩);rw[Sum.elim_inl];refine Ap ?_;unfold Fi;rw[hg];rfl
  .rw [Sum.elim_inr];have ac:(w.take n).length=n:=by rw[t7];omega
   refine AJ (S:=λq=>(q=Sum.inl ([],false)/\w≠List.replicate 5 0)∨(q=Sum.inr ()/\w=List.replicate 5 0)) ?_ ?_;refine Cn n (λi s=>s=(i:Int)/\∀j,j<i->gN w j=0) ⟨V,AM⟩ AB ?_ ?_;rintro i s hi ⟨rfl,am⟩;unfold Qs;simp only[ac];refine BJ AB (AR (KY hb K AB AB) ?_);rw[show Int.toNat (i:Int)=i by omega];refine Bw (λh=>Ap (.inl ⟨V,λe=>h (by rw[e];exact Zb.zero 0 i (tz _))⟩)) (λh=>A4 ((i+1:Nat):Int) AM (Ap ⟨V,λj hj=>?_⟩));rcases vk.1 hj with hj | rfl;exact am j hj;exact uq.1 h;rintro s ⟨rfl,am⟩;unfold Qs;simp only[ac];exact BM AB (Ap ⟨_,V,.inr ⟨V,nm b2 b3 am⟩⟩);rintro q (⟨rfl,ag⟩ | ⟨rfl,he⟩);rw[Sum.elim_inl];refine Ap ?_;unfold Fi;rw[hg,d0 ag];rfl;rw[Sum.elim_inr];refine Ap ?_;unfold Fi;rw[hg,d9 he];rfl
theorem fC{d:DT}(h:w.length=5):(IJ w d).length=5:=by unfold IJ GW;rw[sW,sW];exact h
def Gg(w:List Int)(A:Nat->Bool):Int:=(if A 0 then gN w 0 else 0)+(if A 1 then gN w 1 else 0)+(if A 2 then gN w 2 else 0)+(if A 3 then gN w 3 else 0)+(if A 4 then gN w 4 else 0)
theorem eQ{j:Nat}(hj:j<5):Gg w (λi=>i==j)=gN w j:=by
 grind [Gg]
theorem hZ{o:Nat}(I:p<5)(K:o<5)(O:o≠p)(X:Int):(if 0=p then -X else if 0=o then X else 0)+(if 1=p then -X else if 1=o then X else 0)+(if 2=p then -X else if 2=o then X else 0)+(if 3=p then -X else if 3=o then X else 0)+(if 4=p then -X else if 4=o then X else 0)=0:=by
 grind
theorem cI{v:List Int}{o:Nat}(K:p<5)(O:o<5)(U:o≠p)(h:∀j,gN v j=if j=p then 0 else if j=o then gN w o+gN w p else gN w j)(A:Nat->Bool):Gg v A=Gg w (λj=>if j=p then A o else A j):=by
 have key:∀j,(if A j=true then gN v j else 0)=(if(if j=p then A o else A j)=true then gN w j else 0)+(if j=p then -(if A o=true then gN w p else 0) else if j=o then(if A o=true then gN w p else 0) else 0):=by
  intro j;rw[h];by_cases I:j=p;subst I;rw[d9 rfl,d9 rfl,d9 rfl];cases A o<;>cases A j<;>simp<;>omega;rw[d0 I,d0 I,d0 I];by_cases e2:j=o;subst e2;rw[d9 rfl,d9 rfl];cases A j<;>simp;rw[d0 e2,d0 e2,Int.add_zero]
 have ai:=hZ K O U (if A o=true then gN w p else 0)
 have Y:=key 0;have k1:=key 1;have Z:=key 2;have ac:=key 3;have ag:=key 4;unfold Gg;rw[Y,k1,Z,ac,ag];generalize (if(if 0=p then A o else A 0)=true then gN w 0 else 0)=aj
 generalize (if(if 1=p then A o else A 1)=true then gN w 1 else 0)=a1
 generalize (if(if 2=p then A o else A 2)=true then gN w 2 else 0)=al
 generalize (if(if 3=p then A o else A 3)=true then gN w 3 else 0)=am
 generalize (if(if 4=p then A o else A 4)=true then gN w 4 else 0)=ap
 generalize (if A o=true then gN w p else 0)=X at*
 generalize (if 0=p then -X else if 0=o then X else 0)=aq at*
 generalize (if 1=p then -X else if 1=o then X else 0)=av at*
 generalize (if 2=p then -X else if 2=o then X else 0)=aw at*
 generalize (if 3=p then -X else if 3=o then X else 0)=ay at*
 generalize (if 4=p then -X else if 4=o then X else 0)=az at*
 omega
def s1(A:Nat->Bool)(d:DT):Int:=(if A d.2.1.toNat then d.2.2 else 0)+(if A d.1.toNat then -d.2.2 else 0)
theorem WS(hw:w.length=5)(I:0<=i)(K:i<5)(A:Nat->Bool):Gg (GW w i v) A=Gg w A+if A i.toNat then v else 0:=by
 unfold Gg;rw[Ms hw I K,Ms hw I K,Ms hw I K,Ms hw I K,Ms hw I K];obtain rfl | rfl | rfl | rfl | rfl:i=0∨i=1∨i=2∨i=3∨i=4:=by omega
 all_goals grind
theorem S8(A:Nat->Bool):∀(l:List DT) (w:List Int),(∀d∈l,(0<=d.1/\d.1<5)/\0<=d.2.1/\d.2.1<5)->w.length=5->Gg (l.foldl IJ w) A=Gg w A+(l.map (s1 A)).sum
 | [],w,_,_=>by simp
 | d::l,w,h,hw=>by
  let⟨⟨a1,I⟩,K,O⟩:=h d tI
  rw[u5,S8 A l _ (λx U=>h x (kW _ U)) (fC hw),tX,uJ]
  unfold IJ s1
  rw[WS (by unfold GW;rw[sW];exact hw) a1 I,WS hw K O]
  omega
theorem VO.Zz(h:VO o):∀d∈o.2,(0<=d.1/\d.1<5)/\0<=d.2.1/\d.2.1<5:=λd hd=>by
 have I:=h.n5
 obtain⟨a1,K,O,U,-⟩:=h.ds d hd;omega
abbrev z5:List Int:=List.replicate 5 0
def GD(n:Nat)(d:DT):Prop:=0<=d.1/\d.1<(n:Int)/\0<=d.2.1/\d.2.1<(n:Int)/\d.1≠d.2.1/\1<=d.2.2/\d.2.2<=72
def cN(j:Nat)(d:DT):Int:=(if(j:Int)=d.2.1 then d.2.2 else 0)+(if(j:Int)=d.1 then -d.2.2 else 0)
theorem Tt{d:DT}(h:w.length=5):(GX w d).length=5:=by unfold GX GW;rw[sW,sW];exact h
theorem gA{d:DT}(h:w.length=5)(I:n<=5)(g:GD n d)(j:Nat):gN (GX w d) j=gN w j - cN j d:=by
 obtain⟨K,O,U,Y,_⟩:=g
 grind [GW,cN,Ms,GX]
theorem WX{n:Nat}(I:n<=5):∀(x:List DT) (w:List Int),w.length=5->(∀d∈x,GD n d)->(x.foldl GX w).length=5/\∀j,gN (x.foldl GX w) j=gN w j - (x.map (cN j)).sum
 | [],w,h,_=>⟨h,AM⟩
 | d::x,w,h,K=>by
  let⟨O,U⟩:=WX I x (GX w d) (Tt h) (λe he=>K e (kW _ he))
  refine⟨O,λj=>?_⟩
  rw[u5,U,gA h I (K d tI),tX,uJ];omega
theorem Uu(j:Nat):gN z5 j=0:=by
 grind [gN]
theorem eT{l l':List Int}(h:l.Perm l'):l.sum=l'.sum:=by
 induction h with
 | nil=>rfl
 | cons _ _ I=>rw[uJ,uJ,I]
 | swap a b l=>simp only[uJ];omega
 | trans _ _ a b=>exact a.trans b
def S5(w:List Int):Int:=Gg w λ_=>true
theorem Xp(A:Nat->Bool):Gg z5 A=0:=by unfold Gg;simp[Uu]
theorem md(h:VO o)(A:Nat->Bool): -72<=Gg (BV o) A/\Gg (BV o) A<=72:=by
 have K:=h.d8;have:∀l:List DT,(∀d∈l,VD o.1.length d)-> -(9*(l.length:Int))<=(l.map (s1 A)).sum/\(l.map (s1 A)).sum<=9*l.length:=by
  intro l
  induction l with
  | nil=>simp
  | cons d l I=>
   intro hd;have:=I λe he=>hd e (kW _ he);let⟨_,_,_,_,_,O,U⟩:=hd d tI;rw[tX,uJ,tb];have: -9<=s1 A d/\s1 A d<=9:=by unfold s1;split<;>split<;>omega
   omega
 have k:=this o.2 h.ds;have e:=S8 A o.2 z5 h.Zz V;rw[Xp] at e;show -72<=Gg (o.2.foldl IJ z5) A/\Gg (o.2.foldl IJ z5) A<=72;omega
theorem nt(h:VO o):S5 (BV o)=0:=by
 have:∀l:List DT,(l.map (s1 λ_=>true)).sum=0:=by
  intro l
  induction l with
  | nil=>rfl
  | cons d l I=>rw[tX,uJ,I];unfold s1;simp;omega
 unfold S5 BV;rw[S8 _ _ _ h.Zz rfl,Xp,this];rfl
theorem YB{o:Nat}(hw:w.length=5)(I:p<5)(K:o<5)(O:o≠p)(U:x.1+x.2 - (p:Int)=o)(j:Nat):gN (GX w (dP p x (gN w p))) j=if j=p then 0 else if j=o then gN w o+gN w p else gN w j:=by
 grind [GW,dP,gN,Ms,GX]
theorem SJ:∀{m:Nat}{l c:List PR},c∈Dm m l->c.Sublist l
 | 0,l,c,h=>by
  rw[show Dm 0 l=[[]] by cases l<;>rfl] at h
  cases de.1 h
  exact List.nil_sublist _
 | m+1,[],c,h=>by cases h
 | m+1,y::ys,c,h=>by
  rcases sO.1 h with h | h
  .obtain⟨K,I,rfl⟩:=tn.1 h
   exact(SJ I).cons_cons y
  .exact(SJ h).cons y
theorem Vo{n:Nat}{w0:List Int}(ag:n<=5)(hb:∀A,-72<=Gg w0 A/\Gg w0 A<=72):∀(k:Nat) (l:List PR) (w:List Int) (out r:List DT),l.length=k->(∀x∈l,VP n x)->w.length=5->(∀A,∃B,Gg w A=Gg w0 B)->Er n k l w out=some r->
  ∃s,r=out++s/\s.length=k/\(∀d∈s,GD n d)/\s.foldl GX w=z5
 | 0,l,w,out,r,ai,O,hw,U,h=>by
  unfold Er at h
  split at h;rename_i e;cases h;exact⟨[],AM,V,λd hd=>(by cases hd),e⟩;cases h
 | k+1,l,w,out,r,ai,O,hw,U,h=>by
  unfold Er at h;let⟨p,Z,h⟩:=bind_some h;split at h;cases h
  rename_i aw;unfold GO at Z;let⟨c1,c2,c3⟩:=tR.1 Z;have c2:p<n:=s4.1 (by first | exact c2 | exact s4.2 c2)
  have ay:l.countP (Bb p)=1:=by simpa using c1
  have Y:l.findIdx (Bb p)<l.length:=by
   obtain⟨x,I,ht⟩:=uV.1 (show 0<l.countP (Bb p) by omega);exact un ⟨x,I,ht⟩
  rw[Nk Y] at h;have ht:Bb p l[l.findIdx (Bb p)]=true:=uQ;have I:=O _ (f5 Y);generalize l[l.findIdx (Bb p)]=x at h ht I;obtain⟨v1,v2,az⟩:=I;have aj:x.1+x.2 - (p:Int)=((x.1+x.2 - (p:Int)).toNat:Nat)/\(x.1+x.2 - (p:Int)).toNat<n/\(x.1+x.2 - (p:Int)).toNat≠p:=by
   unfold Bb at ht;simp only[t8,uj] at ht;omega
  obtain⟨al,a0,ac⟩:=aj;have hm: -72<=gN w p/\gN w p<=72:=by
   let⟨B,K⟩:=U λx=>x==p;rw[eQ AB] at K;rw[K];exact hb B
  have am:GD n (dP p x (gN w p)):=by
   unfold dP GD;split;simp only;omega;simp only;omega
  obtain⟨s,ap,e2,aq,av⟩:=Vo ag hb k _ _ _ r (by rw[vb Y];omega) (λx I=>O x (uy I)) (Tt hw) (λA=>by
   let⟨B,K⟩:=U λj=>if j=p then A (x.1+x.2 - (p:Int)).toNat else A j
   exact⟨B,(cI (p:=p) (o:=(x.1+x.2 - (p:Int)).toNat) AB AB ac (λj=>YB hw AB AB ac al j) A).trans K⟩) h
  refine⟨dP p x (gN w p)::s,by rw[ap];simp,by simp[e2],λd hd=>?_,by rw[u5];exact av⟩;rcases ja.1 hd with rfl | hd;exact am;exact aq d hd
theorem aB(l:List DT):(EK l).Perm l:=by
 have ins:∀(d:DT) (l:List DT),(Hw d l).Perm (d::l):=by
  intro d l
  induction l with
  | nil=>exact tu _
  | cons z I K=>
   unfold Hw;split;exact tu _;exact(K.cons z).trans (List.Perm.swap d z I)
 refine No (P:=λl=>(EK l).Perm l) (tu _) (λl d h=>?_) l
 grind [M9]
theorem GD.vt{d:DT}(g:GD n d):VT n d:=⟨g.1,g.2.1,g.2.2.1,g.2.2.2.1,g.2.2.2.2.1,g.2.2.2.2.2.1,g.2.2.2.2.2.2⟩
theorem dC:((List.range 6).all λn=>(List.range 6).all λm=>decide ((Dm m (Et n)).length<=300))=true:=by decide+kernel
theorem gk:∀l:LL,l≠ []->LG l∈l/\∀s∈l,BL s (LG l)=false:=by
 have:∀l:LL,l=[]∨((l.foldl FM ([],false)).1∈l/\(l.foldl FM ([],false)).2=true/\∀s∈l,BL s (l.foldl FM ([],false)).1=false):=by
  refine No (.inl V) λl x h=>.inr ?_;rw[vd];show(FM _ x).1∈l++ [x]/\(FM _ x).2=true/\∀s∈l++ [x],BL s (FM _ x).1=false;rcases h with rfl | ⟨U,K,O⟩;exact⟨by simp[FM],V,λs hs=>by cases de.1 hs;exact KX _⟩;generalize l.foldl FM ([],false)=b at*;unfold FM;rw[K];simp only[wI,wJ];by_cases I:BL x b.1=true;rw[d9 I];refine⟨AM,V,λs hs=>?_⟩;rcases sO.1 hs with hs | hs;exact Kn (Kr I) (O s hs);cases de.1 hs;exact KX _;rw[d0 I];refine⟨tv _ U,K,λs hs=>?_⟩;rcases sO.1 hs with hs | hs;exact O s hs;cases de.1 hs;exact s9.2 I
 intro l Y;rcases this l with h | ⟨a,_,c⟩;exact absurd h Y;exact⟨a,c⟩
def La(w:List Int):Nat->Int
 | 0=>gN w 0
 | k+1=>La w k+gN w (k+1)
def H2(w:List Int):Nat->Nat->List PR
 | _,0=>[]
 | k,j+1=>if La w k=0 then H2 w (k+1) j else((k:Int),((k+1:Nat):Int))::H2 w (k+1) j
theorem T8{w:List Int}:∀(j k:Nat),∀x∈H2 w k j,(k:Int)<=x.1/\x.1<x.2
 | 0,k,x,h=>by cases h
 | j+1,k,x,h=>by
  unfold H2 at h
  split at h;have:=T8 j (k+1) x h;omega;rcases ja.1 h with rfl | h;exact⟨AM,by simp;omega⟩;have:=T8 j (k+1) x h;omega
theorem YV{j k:Nat}(h:p<k):(H2 w k j).countP (Bb p)=0:=List.countP_eq_zero.2 λx I=>by
 have:=T8 j k x I
 unfold Bb
 simp;omega
theorem Tg{n:Nat}{w0:List Int}(ac:n<=5)(Z:Zb n w0)(hs:La w0 (n - 1)=0):∀(j k:Nat) (w:List Int) (out:List DT),k+j+1=n->w.length=5->(∀i,i<k->gN w i=0)->gN w k=La w0 k->(∀i,k<i->gN w i=gN w0 i)->∃r,Er n (H2 w0 k j).length (H2 w0 k j) w out=some r
 | 0,k,w,out,ag,K,U,O,I=>by
  refine⟨out,?_⟩
  show Er n 0 [] w out=some out
  unfold Er
  refine d9 (Xm K AM λi hi=>?_)
  refine Eq.trans ?_ (Uu i).symm
  rcases Nat.lt_trichotomy i k with q | rfl | q;exact U i q;rw[O,show i=n - 1 by omega];exact hs;rw[I i q];exact Z i AB
 | j+1,k,w,out,ag,K,U,O,I=>by
  unfold H2;by_cases e:La w0 k=0;rw[d9 e];refine Tg ac Z hs j (k+1) w out AB K (λi hi=>?_) ?_ (λi hi=>I i AB);rcases mt i k with q | q;exact U i q;rw[show i=k by omega,O,e];rw[I (k+1) AB];show _=La w0 k+_;omega
  .rw [d0 e,tb];have ht:Bb k ((k:Int),((k+1:Nat):Int))=true:=by simp[Bb]
   have ai:GO n (((k:Int),((k+1:Nat):Int))::H2 w0 (k+1) j)=some k:=SQ AB (by rw[wi,ht,YV (by omega)];rfl) λp Y=>by
    have:Bb p ((k:Int),((k+1:Nat):Int))=false:=by unfold Bb;simp;omega
    rw[wi,this,YV AB];simp
   have aj:(((k:Int),((k+1:Nat):Int))::H2 w0 (k+1) j).findIdx (Bb k)=0:=by rw[wL,ht];rfl
   unfold Er;rw[ai,Option.bind_some,d0 (by rw[O];exact e),aj,wV,List.getD_cons_zero];refine have Y:=λi=>YB (w:=w) (p:=k) (o:=k+1) (x:=((k:Int),((k+1:Nat):Int))) K AB AB AB AN i;Tg ac Z hs j (k+1) _ _ AB (Tt K) (λi hi=>?_) ?_ (λi hi=>?_);rw[Y];split;rfl;rw[d0 AB];exact U i AB;rw[Y,d0 AB,d9 rfl,O,I (k+1) AB];show _=La w0 k+_;omega;rw[Y,d0 AB,d0 AB];exact I i AB
theorem QK{w:List Int}:∀(j k:Nat),(H2 w k j).Sublist ((List.range' k j).map λi:Nat=>((i:Int),((i+1:Nat):Int)))
 | 0,k=>List.Sublist.slnil
 | j+1,k=>by
  rw[wT,tX]
  unfold H2
  split;exact(QK j (k+1)).cons _;exact(QK j (k+1)).cons_cons _
theorem cJ{c:List PR}(h:c.Sublist l):c∈Dm c.length l:=by
 induction h with
 | slnil=>exact de.2 rfl
 | @cons c l x h I=>
  match c,I with
  | [],_=>exact de.2 rfl
  | y::c,I=>exact tG _ I
 | @cons_cons c l x h I=>exact tv _ (tn.2 ⟨c,I,rfl⟩)
theorem cT:∀n,2<=n->n<=5->((List.range' 0 (n - 1)).map λi:Nat=>((i:Int),((i+1:Nat):Int))).Sublist (Et n)
 | 2,_,_ | 3,_,_ | 4,_,_ | 5,_,_=>by decide
theorem YW(h:VO o)(hw:(BV o).length=5):Fs o≠ []:=by
 have U:=h.n2;have K:=h.n5;have I:=XU h;have hs:La (BV o) (o.1.length - 1)=0:=by
  have O:=nt h;unfold S5 Gg at O;simp only[tS] at O;generalize BV o=w at*;generalize o.1.length=n at*;have ac:=I 2;have ag:=I 3;have ai:=I 4;rcases(show n=2∨n=3∨n=4∨n=5 by omega) with rfl | rfl | rfl | rfl<;>simp[La]<;>omega
 obtain⟨r,Y⟩:=Tg K I hs (o.1.length - 1) 0 (BV o) [] AB hw (λi hi=>by omega) rfl (λi _=>rfl);have Z:=(QK (w:=BV o) (o.1.length - 1) 0).trans (cT _ U K);have aj:(H2 (BV o) 0 (o.1.length - 1)).length<o.1.length:=by
  have:=(QK (w:=BV o) (o.1.length - 1) 0).length_le;rw[t9,List.length_range'] at this;omega
 have al:EK r∈DC o.1.length (BV o) (λ_=>true) (H2 (BV o) 0 (o.1.length - 1)).length [] (Et o.1.length):=by
  refine vT.2 ⟨H2 (BV o) 0 (o.1.length - 1),?_,?_⟩;rw[vM.2 λ_ _=>rfl];exact cJ Z;rw[tB];unfold Fi;rw[Y];rfl
 intro e;rcases am:((List.range o.1.length).map λm=>DC o.1.length (BV o) (λ_=>true) m [] (Et o.1.length)).find? λl=> !l.isEmpty with _ | L
 .grind
 .unfold Fs FW at e
  grind
variable{s:List DT}
theorem gS(hs:s∈Fs o):∃(c:List PR) (r:List DT),c.length<o.1.length/\(∀x∈c,VP o.1.length x)/\Er o.1.length c.length c (BV o) []=some r/\s.Perm r:=by
 rcases T2 (n:=o.1.length) (w:=BV o) (P:=λ_=>true) with e | ⟨m,hm,e,_⟩;have e:Fs o=[]:=e;rw[e] at hs;cases hs
 have e:Fs o=_:=e;rw[e] at hs;unfold DC at hs;let⟨c,I,hs⟩:=vT.1 hs;rw[tB] at hs;unfold Fi at hs;obtain⟨r,K,rfl⟩:=tr.1 hs;have U:=(Lp (x:=(0,0)) I).1;exact⟨c,r,AB,λx O=>Ou (uu.1 ((SJ I).subset O)).1,K,aB r⟩
theorem OF(h:VO o)(hw:(BV o).length=5)(hs:s∈Fs o):s.length+1<=o.1.length/\(∀d∈s,GD o.1.length d)/\∀a:Nat,(s.map (cN a)).sum=gN (BV o) a:=by
 have O:=h.n5;let⟨c,r,ac,U,Y,I⟩:=gS hs;let⟨s,K,e2,Z,ag⟩:=Vo O (md h) c.length c (BV o) [] r rfl U hw (λA=>⟨A,rfl⟩) Y;rw[tB] at K;subst K;refine⟨by rw[I.length_eq,e2];omega,λd hd=>Z d (I.mem_iff.1 hd),λa=>?_⟩
 grind [Uu,BV,WX,eT]
theorem YS(h:VO o):(Fs o).length<=300:=by
 have I:=h.n5;rcases T2 (n:=o.1.length) (w:=BV o) (P:=λ_=>true) with e | ⟨m,hm,e,_⟩;have e:Fs o=[]:=e;rw[e];simp;have e:Fs o=_:=e;rw[e];have:=uc (td.1 (td.1 dC o.1.length (s4.2 AB)) m (s4.2 AB));unfold DC;refine s3 (v5 _ _) ?_;rw[vM.2 λ_ _=>rfl];exact this
def Lc(o:OW)(r:List DT×List Int×Int):Prop:=
 (r.2.2=0/\r.1∈Fs o/\MM r.1 (S0 o) 0 r.2.1/\∀s∈Fs o,Ends s 0 (FG o.1)->BL s r.1=false)∨(r=([],[],11)/\∀s∈Fs o,¬Ends s 0 (FG o.1))
theorem lL(ac:5^16<F)(h:VO o)(hw:(BV o).length=5):Au (f27 F o) (Lc o):=by
 have ap:(5:Nat)^16=152587890625:=by decide
 have ag:=h.n5;have U:=YS h;unfold f27;refine AR (UF AB h) (BM AM (AR (YK AB h λx ai=>Ys ag x ai) (AJ (gf AB (s3 U AB) λs hs=>⟨by have:=(OF h hw hs).1;omega,λd hd=>?_⟩) ?_)));let⟨g1,g2,aq,av,aw,ay,az⟩:=(OF h hw hs).2.1 d hd;unfold BD;omega
 rintro r ⟨I,aj⟩;have I:(Fs o).Perm r:=I;have a0:r.length<=300:=by rw[← I.length_eq];exact U
 have Y:∀{i:Nat}(hi:i<r.length),r[i]∈Fs o:=λhi=>I.mem_iff.2 (f5 hi);refine AJ (S:=λq=>(∃v,q=Sum.inl v/\Lc o v)∨(q=Sum.inr ()/\∀s∈Fs o,¬Ends s 0 (FG o.1))) ?_ ?_
 .refine Cn r.length (λi s=>s=(i:Int)/\∀(j:Nat) (hj:j<r.length),j<i->¬Ends r[j] 0 (FG o.1)) ⟨V,λj _ h=>by omega⟩ AB ?_ ?_
  .rintro i _ hi ⟨rfl,K⟩;unfold Rm;refine BJ AB (Bh (m:=i) V hi (let⟨k1,al,_⟩:=OF h hw (Y hi);AJ (kL ⟨h,AB,λd hd=>(al d hd).vt,ac⟩) ?_));rintro⟨a1,is⟩ (⟨rfl,am⟩ | ⟨e,Z⟩);refine BJ V (Ap (.inl ⟨_,V,.inl ⟨V,Y hi,am,λs hs Z=>?_⟩⟩));obtain⟨j,hj,rfl⟩:=uC.1 (I.mem_iff.1 hs);rcases Nat.lt_trichotomy j i with q | rfl | q;exact absurd Z (K j hj q);exact KX _;exact aj i j _ _ (tz _) q hj (bZ hi) (bZ hj)
   .cases e;refine BM AM (A4 ((i+1:Nat):Int) AM (Ap ⟨V,λj hj a2=>?_⟩))
    grind
  .rintro _ ⟨rfl,K⟩;unfold Rm;refine BM AB (Ap ⟨_,V,.inr ⟨V,λs hs=>?_⟩⟩);obtain⟨j,hj,rfl⟩:=uC.1 (I.mem_iff.1 hs);exact K j hj hj
 .rintro q (⟨v,rfl,O⟩ | ⟨rfl,O⟩);exact Ap O;exact Ap (.inr ⟨V,O⟩)
def J6(l:List (List DT)):Prop:=l.Pairwise λa b=>BL b a=false
theorem iB{A B:List (List DT)}(h:J6 (A++B))(I:∀b∈B,BL s b=true)(U:A=[]∨∃K y,A=K++ [y]/\BL s y=false):J6 (A++s::B):=by
 refine let⟨k1,O,Y⟩:=vF.1 h;vF.2 ⟨k1,uL.2 ⟨λb hb=>Kr (I b hb),O⟩,λa Z b hb=>?_⟩
 grind [Kn]
theorem fe{P I:PR->Bool}(h:∀x,VP n x->P x=I x):FW n w P=FW n w I:=by
 have e:(Et n).filter P=(Et n).filter I:=List.filter_congr λx K=>h x (Ou K);unfold FW DC;rw[e]
theorem fO{m:Nat}{p:PR}(a8:3000<F)(h:VO o)(hm:m<=5):Au (f131 F o (m:Int) p) (λr=>r.Perm (DC o.1.length (BV o) (Ft p) m [] (Et o.1.length))/\J6 r):=by
 have U:=h.n5;obtain⟨-,hw⟩:=NG (F:=F) AB h;have am:=XU h;have a9:=hw.1;have ap:(Ig o.1.length o.1.length).length<=10:=by rw[(SW U).length_eq];exact SM U
 have ag:((Ig o.1.length o.1.length).filter (Ft p)).length<=10:=s3 (xb _ _) ap;have aq:∀x∈(Ig o.1.length o.1.length).filter (Ft p),VP o.1.length x:=λx I=>Ou ((SW U).mem_iff.1 (uu.1 I).1);unfold f131;refine AR (kV AB h) ?_;rw[show((BV o).take o.1.length).length=o.1.length by rw[t7];omega];refine AR (gL AB U) (AR (show f170 F _ (m:Int)=_ from XR AB m F _ AB AB ag) ?_);have av:((Dm m ((Ig o.1.length o.1.length).filter (Ft p))).filterMap (Fi o.1.length (BV o))).Perm (DC o.1.length (BV o) (Ft p) m [] (Et o.1.length)):=by
  have:=Z8 ((SW U).filter (Ft p)) m (Fi o.1.length (BV o)) λa b aw=>bK aw;unfold DC;exact this
 have bb:(Dm m ((Ig o.1.length o.1.length).filter (Ft p))).length<=1024:=s3 (Oi _ _) (s3 (tx AD ag) AD);have ay:∀c∈Dm m ((Ig o.1.length o.1.length).filter (Ft p)),c.length=m/\∀x∈c,VP o.1.length x:=λc K=>⟨(Lp (x:=(0,0)) K).1,λx I=>aq x ((Lp K).2 I)⟩;generalize Dm m ((Ig o.1.length o.1.length).filter (Ft p))=C at*;refine AJ (S:=λr=>r.Perm (C.filterMap (Fi o.1.length (BV o)))/\J6 r) ?_ (λr Z=>Ap ⟨Z.1.trans av,Z.2⟩);refine Cn C.length (λi s=>s.2=(i:Int)/\s.1.Perm ((C.take i).filterMap (Fi o.1.length (BV o)))/\(∀x∈s.1,x.length=m)/\J6 s.1) ⟨V,tu _,AM,List.Pairwise.nil⟩ AB ?_ ?_
 .rintro i ⟨v,c⟩ hi ⟨K,O,Y,ac⟩;simp only at K O Y ac;subst K;let⟨c1,c2⟩:=ay _ (f5 hi);have be:v.length<=1023:=by
   rw[O.length_eq];refine s3 (v5 _ _) ?_;rw[t7];omega
  have ai:(C.take (i+1)).filterMap (Fi o.1.length (BV o))=(C.take i).filterMap (Fi o.1.length (BV o))++(Fi o.1.length (BV o) C[i]).toList:=by
   rw[tp,bZ hi,u7];congr 1
  unfold Qb;refine BJ AN (AJ (S:=λr=>r.Perm ((C.take (i+1)).filterMap (Fi o.1.length (BV o)))/\(∀x∈r,x.length=m)/\J6 r) ?_ ?_)
  .refine Bh (m:=i) V hi (AR (iO AB U AB c2 hw am) ?_);cases hs:Fi o.1.length (BV o) C[i] with
   | none=>
    simp only;refine BJ V (Ap ⟨?_,Y,ac⟩);rw[ai,hs];simpa using O
   | some s=>
    simp only;have aj:s.length=m:=by
     have al:=hs;unfold Fi at al;obtain⟨r,Z,rfl⟩:=tr.1 al;have bg:=Qy (k:=C[i].length) AB;obtain⟨k1,az⟩:=P2 U C[i].length C[i] (BV o) [] r 200 rfl c2 hw AB AB AM Z;rw[PX,az,c1];simp
    refine BM AM (It AB (AR (b:=(v++ [s])[0]'AM) (F6 (m:=0) V (bZ _)) ?_));refine A4 (v.length:Int) AM (AJ (S:=λr=>∃A B,v=A++B/\r=A++s::B/\(∀b∈B,BL s b=true)/\(A=[]∨∃a0 y,A=a0++ [y]/\BL s y=false)) ?_ ?_);rw[cC];refine(Tw (lt:=BL) [] AB AB λy a1=>gY AB (by rw[aj,Y y a1]) AB).Aj ?_;rintro r ⟨A,B,a2,a3,a4,a5⟩;exact⟨A,B,a2,by rw[a3,s6],a4,a5⟩;rintro r ⟨A,B,rfl,rfl,i3,i4⟩;refine Ap ⟨?_,λx I=>?_,iB ac i3 i4⟩;rw[ai,hs];exact tM.trans ((List.Perm.cons s O).trans ((List.perm_append_singleton s _).symm));rcases sO.1 I with I | I;exact Y x (tv _ I);rcases ja.1 I with rfl | I;exact aj;exact Y x (tG _ I)
  .rintro r ⟨Z,a6,a7⟩;exact A4 ((i+1:Nat):Int) AM (Ap ⟨V,Z,a6,a7⟩)
 .rintro⟨v,c⟩ ⟨K,O,Y,ac⟩;simp only at K O Y ac;subst K;unfold Qb;rw[tf] at O;exact BM AM (Ap ⟨_,V,O,ac⟩)
theorem gM{p:PR}(U:3000<F)(h:VO o):Au (f107 F o p) (λr=>(r.Perm (FW o.1.length (BV o) (Ft p))/\J6 r)):=by
 have ag:=h.n5;unfold f107;refine AJ (S:=λq=>(∃r,q=Sum.inl r/\(r.Perm (FW o.1.length (BV o) (Ft p))/\J6 r))∨(q=Sum.inr ()/\FW o.1.length (BV o) (Ft p)=[])) ?_ ?_
 .refine Cn o.1.length (λi s=>s=(i:Int)/\∀j,j<i->DC o.1.length (BV o) (Ft p) j [] (Et o.1.length)=[]) ⟨V,AM⟩ AB ?_ ?_
  .rintro i s hi ⟨rfl,K⟩;unfold Qx;refine BJ AB (AJ (fO U h AB) ?_);rintro r ⟨I,Y⟩;refine Bw (λO=>Ap (.inl ⟨r,V,?_,Y⟩)) (λai=>?_)
   .refine I.trans ?_;unfold FW;rw[v9,show(List.range o.1.length).find? _=some i from tR.2 ⟨?_,s4.2 hi,λj hj=>?_⟩];exact tu _
    .simp only [Function.comp];cases Z:DC o.1.length (BV o) (Ft p) i [] (Et o.1.length) with
     | nil=>rw[Z] at I;rw[I.eq_nil] at O;simp at O
     | cons=>rfl
    .simp only [Function.comp];rw[K j hj];rfl
   .refine A4 ((i+1:Nat):Int) AM (Ap ⟨V,λj hj=>?_⟩);rcases vk.1 hj with hj | rfl;exact K j hj;have:r=[]:=vp.1 AB;rw[this] at I;exact I.symm.eq_nil
  .rintro s ⟨rfl,K⟩;unfold Qx;refine BM AB (Ap ⟨_,V,.inr ⟨V,?_⟩⟩);unfold FW;rw[v9,show(List.range o.1.length).find? _=none from u4.2 ?_];rfl;intro j hj;simp only[Function.comp];rw[K j (s4.1 hj)];simp
 .rintro q (⟨r,rfl,I⟩ | ⟨rfl,ac⟩);rw[Sum.elim_inl];exact Ap I;rw[Sum.elim_inr,ac];exact Ap ⟨tu _,List.Pairwise.nil⟩
theorem Ur(K:3000<F)(h:VO o):Au (f75 F o) (λr=>r.Perm (Fs o)/\J6 r):=by
 unfold f75;refine AJ (gM K h) (λr I=>Ap ⟨?_,I.2⟩);refine I.1.trans (List.Perm.of_eq (fe λx O=>?_));obtain⟨U,Y,Z⟩:=O
 grind [Ft]
open Go Go.Conc Go.Proofs Go.Proofs.Tryz
variable {E:LH}
variable {J:Judge Tryz.prog}
def QP(fu_:Nat)(p0:List Int)(p1:Int)(I:Int):Option (Bn Int ((Bool)⊕(Unit))):=if I<(p0.length:Int) then((ix p0 I).bind λK=>if K=p1 then(some (.done (Sum.inl true))) else((Ax (I+1)).bind λO=>some (.more O))) else(some (.done (Sum.inr ())))
def f124(fu_:Nat)(p0:List Int)(p1:Int):Option Bool:=Option.bind (iter (QP fu_ p0 p1) fu_ 0) λI=>Sum.elim (λr=>some r) (λK=>some false) I
theorem iT{a1:Av}{c2:Nat}{p0:List Int}{p1:Int}(ap:Aq rI E a1 c2 p0){fu_:Nat}{r:Bool}(Y:f124 fu_ p0 p1=some r):A2 J 71 [sV a1 p0 c2,iV p1] E [] (λw E' B'=>w=.bool r/\B'=[]):=by
 refine Bq func71 λQ bx cs H aq Z=>?_;unfold f124 at Y;let⟨ac,av,ag⟩:=bs Y;refine C 9 V (Bs (λL s=>∃(ai:Unit) (aj:LH),ac=Sum.inr ai/\Jm E H aj [] [] L s) ?_ ?_);rintro _ _ ⟨ai,aj,rfl,rfl,rfl,aw,ay⟩;refine have az:=elim_inr ag;C 4 V ?_;cases az;exact AX func71 V V (Z aw V ⟨V,V⟩ ay);intro a0;refine Ay (Dc av (λO=>[]) (λO=>[(0,sV a1 p0 c2),(1,iV p1),(5,iV O)]) AL aq ?_);rintro O a2 I U al ⟨bz,K⟩ a3;have am:=K;unfold QP at am;refine C 5 V (BB Ak V V V (C 2 V (AW am (λa4 a5=>?_) (λa4 a6=>?_))));refine Ai a5 λb0 a7 a8=>C 7 V (B7 (ap.Aj I) a7 Ak AE ?_);rintro b1 b2 _ rfl a9;refine CX 0 a9 A7 V V V (C 3 V (AW a8 (λbb be=>?_) (λbb bg=>?_)));refine C 4 V ?_;cases be;obtain rfl:=al _ K;have bi:=elim_inl ag;cases bi;exact AX func71 V V (Z I V ⟨V,V⟩ U);refine Ai bg λbn bo bv=>C 4 V (Br bo V V V (C 2 V ?_));cases bv;exact a3 bn I U V K;refine A3 V ?_;cases a6;have bw:ac=(Sum.inr ()):=(al _ K).symm;exact AF (a0 _ _ ⟨(),a2,bw,V,V,I,U⟩) V
end Pal
namespace Pal
open Go Go.Conc
variable{q:Nat×Obj}{g2:Seg}
theorem eU{S:List Seg}{g1 r:Seg}(j:Nat)(I:S[j]?=some (q::(g1++r++g2))):S.flatten.Perm (S.set j [q]++ [g1++g2,r]).flatten:=by
 have K:=(CB (seg':=[q]) I).1;have O:=(CB (seg':=[q]) I).2;rw[ug];refine K.trans (List.Perm.trans ?_ (O.symm.append_right _));rw[lZ (S.set j []).flatten];refine tL _ ?_;simp only[tk,vi,s6,tH,tB,lZ];exact List.Perm.cons _ (tL _ lF)
variable {P:Program}{Q:Gs_}{b:Frame}{ds:Ld_}{ops:Ao_}{cs:Lf_}{fuel:Nat}{listed:Array Bool}{L:Env}{E E' H:LH}{S:List Seg}
variable {t ty e e2:TypeId}{p:String}{af:Ae_}{g:On_}{todo:Li_}
variable{α:Type}{a:Option Addr}{c:Nat}{seg:Seg}
section
variable {J:Judge P}{n:Nat}{k:Li_}{m:Nat}
variable {d:Option Tmp}{x y:Operand}{i:Nat}
theorem Vb{α:Type}{pp:Rp α}:∀(rows:List Seg) (I:List (List α)) (hs:Lv_) {E:LH}{S:List Seg}{j:Nat}{g0:Seg},rows.length=I.length->hs.length=I.length->
  (∀(i:Nat) xs r h,I[i]?=some xs->rows[i]?=some r->hs[i]?=some h->∃O ci,h=.slice O xs.length ci/\OL e2 pp E O ci r xs)->Aw E H S->S[j]?=some (g0++rows.flatten)->
  (∀E',Le E E'->(∀(i:Nat) xs h,I[i]?=some xs->hs[i]?=some h->(rL pp).r E' [h] xs)->Aw E' H (S.set j g0)->JL J Q b n L ds todo cs (Ao E' H (S.set j g0)))->JL J Q b n L ds todo cs (Ao E H S)
 | [],[],[],E,S,j,g0,_,_,_,Z,K,h=>by
  have e:S.set j g0=S:=by
   rw[vi,s6] at K;let⟨_,h⟩:=d7.1 K;rw[← h];exact wm ..
  have:=h E (BQ _) (λi xs h al=>by simp at al);rw[e] at this;exact this Z
 | r::rows,xs::I,v::hs,E,S,j,g0,U,Y,ac,Z,K,h=>by
  obtain⟨O,ci,rfl,am⟩:=ac 0 xs r v V V V;refine have ap:=(d7.1 K).1;Cw (S':=S.set j (g0++rows.flatten)++ [r]) ?_ Z λaq=>?_;rw[Gx];refine(CB (seg':=g0++rows.flatten) K).1.trans (List.Perm.trans ?_ ((CB (seg':=g0++rows.flatten) K).2.symm.append_right _));rw[lZ];refine tL _ ?_;rw[tk,lZ];exact tL _ lF
  refine Cl (S.set j (g0++rows.flatten)).length am aq wF λa1 hle av ag=>?_;rw[I2] at ag ⊢;refine Cw (S':=S.set j (g0++rows.flatten)) AM ag λaw=>Vb (pp:=pp) rows I hs (j:=j) (g0:=g0) (by simpa using U) (by simpa using Y) (λi xs r q a b c=>?_) aw (tC ap) λay ai az aj=>?_;exact let⟨O,ci,k1,a0⟩:=ac (i+1) xs r q a b c;⟨O,ci,k1,a0.Aj hle⟩
  .rw [uF] at aj ⊢;refine h ay (hle.trans ai) (λi xs q a b=>?_) aj
   match i,a,b with
   | 0,a,b=>cases a;cases b;exact⟨_,_,rfl,av.Aj ai⟩
   | i+1,a,b=>exact az i xs q a b
 | [],_::_,_,_,_,_,_,U,_,_,_,_,_=>by simp at U
 | _::_,[],_,_,_,_,_,U,_,_,_,_,_=>by simp at U
 | _,[],_::_,_,_,_,_,_,Y,_,_,_,_=>by simp at Y
 | _,_::_,[],_,_,_,_,_,Y,_,_,_,_=>by simp at Y
theorem SA{pp:Rp α}{I:List (List α)}(j:Nat)(ac:Ct e e2 pp E a c seg I)(ag:Aw E H S)(O:S[j]?=some seg)
  (h:∀E',Le E E'->Aq (rL pp) E' a c I->Aw E' H (S.set j [])->JL J Q b n L ds todo cs (Ao E' H (S.set j []))):JL J Q b n L ds todo cs (Ao E H S):=by
 obtain⟨g0,hs,rows,rfl,ai,K,aj,al⟩:=ac;refine have am:=(d7.1 O).1;Vb (pp:=pp) rows I hs aj K al ag O λap aq av aw=>?_;have ay:OL e (rL pp) ap a c g0 I:=by
  obtain⟨wss,k1,U,az⟩:=ai;rw[K] at k1 U;refine⟨wss,k1,U,λi xs ws Y hw=>?_⟩;have hi:i<hs.length:=by rw[K];exact(d7.1 Y).1
  obtain⟨a0,-⟩:=az i _ ws (bZ hi) hw;rw[a0];exact av i xs _ Y (bZ hi)
 refine Cl j ay aw (tC am) λa1 a2 a3 Z=>?_;rw[uF] at Z ⊢;exact h a1 (aq.trans a2) a3 Z
end
def LU{α:Type}(e e2:TypeId)(p:Rp α)(E:LH)(a:Option Addr)(c n:Nat)(seg:Seg)(ys:List (List α)):Prop:=
 ∃(g0:Seg) (hs:Lv_) (rows:List Seg),seg=g0++rows.flatten/\OL e rV E a c g0 hs/\hs.length=n/\ys.length<=n/\rows.length=ys.length/\
  ∀(i:Nat) xs r h,ys[i]?=some xs->rows[i]?=some r->hs[n - ys.length+i]?=some h->∃I ci,h=.slice I xs.length ci/\OL e2 p E I ci r xs
theorem LU.of{e e2:TypeId}{p:Rp α}{E:LH}{I:List (List α)}(h:Ct e e2 p E a c seg I):LU e e2 p E a c I.length seg I:=
 let ⟨g0,hs,rows,K,O,U,Y,Z⟩:=h
 ⟨g0,hs,rows,K,O,U,jK _,Y,λi xs r q a b c=>Z i xs r q a b (by rw[vh,uo] at c;exact c)⟩
def R0{α:Type}(n:Nat)(ys:List (List α))(m:Int):Option (List α×List (List α)):=
 match ys with
 | []=>none
 | y::t=>if m=(n:Int) - ((t.length+1:Nat):Int) then some (y,t) else none
structure m7 {α:Type}(e e2:TypeId) (pp:Rp α) (E:LH) (a:Option Addr) (c n bk:Nat) (f:Av_) (I:Option Addr) (ci:Nat) (r g2:Seg) (m:Int) (y:List α) (t:List (List α)):Prop where
 ad:a=some ⟨bk,0,none⟩
 bd:0<=m/\m<(n:Int)
 hd:f[m.toNat*1]?=some (.slice I y.length ci)
 ol:OL e2 pp E I ci r y
 rest:LU e e2 pp E a c n ((bk,.cells f e (0,0))::g2) t
theorem LU.out{e e2:TypeId}{pp:Rp α}{E:LH}{n:Nat}{ys:List (List α)}{m:Int}{q:List α×List (List α)}(h:LU e e2 pp E a c n seg ys)(hm:R0 n ys m=some q):
  ∃(bk:Nat) (f:Av_) (O:Option Addr) (ci:Nat) (r g2:Seg),seg=(bk,.cells f e (0,0))::(r++g2)/\m7 e e2 pp E a c n bk f O ci r g2 m q.1 q.2:=by
 obtain⟨g0,hs,rows,rfl,U,Z,ac,K,I⟩:=h;unfold R0 at hm;split at hm;cases hm
 rename_i y t;split at hm
 rotate_left
 .cases hm
 rename_i am;cases hm;simp only[tb] at ac K
 match rows,K,I with
 | r::rows,K,I=>
 simp only[tb] at K I;have hi:m.toNat=n - (t.length+1):=by omega
 have hh:hs[n - (t.length+1)]?=some hs[n - (t.length+1)]:=bZ AB;obtain⟨O,ci,ag,ai⟩:=I 0 y r _ rfl rfl (by rw[tQ];exact hh);rw[ag] at hh;obtain⟨bk,f,ws,rfl,rfl,aj,Y,ap,aq⟩:=E8 U hh;obtain⟨rfl,-⟩:=aj;have al:(rV).n=1:=V;rw[al] at Y;refine⟨bk,f,O,ci,r,rows.flatten,by rw[tk];rfl,V,AB,by have:=Y 0 _ rfl;rw[hi];simpa using this,ai,_,hs,rows,V,U,Z,by show t.length<=n;omega,by show rows.length=t.length;omega,λi xs r' v a b c=>?_⟩;exact I (i+1) xs r' v a b (by rw[show n - (t.length+1)+(i+1)=n - t.length+i from by omega];exact c)
theorem Ct.nil{e e2:TypeId}{p:Rp α}{E:LH}:Ct e e2 p E none 0 [] []:=
 ⟨[],[],[],V,Cv,V,V,λi xs r h I=>by simp at I⟩
variable{I:Option Addr}{ci:Nat}
theorem Ct.one{e e2:TypeId}{p:Rp α}{E:LH}{g r:Seg}{ys:List α}(h:OL e rV E a c g [.slice I ys.length ci])(K:OL e2 p E I ci r ys):Ct e e2 p E a c (g++r) [ys]:=
 ⟨g,[.slice I ys.length ci],[r],AM,h,rfl,rfl,λi xs r' q a b c=>by
  match i,a,b,c with
  | 0,a,b,c=>cases a;cases b;cases c;exact⟨_,_,rfl,K⟩⟩
theorem Ct.snoc{e e2:TypeId}{p:Rp α}{E:LH}{g r:Seg}{hs:Lv_}{rows:List Seg}{K:List (List α)}{ys:List α}(h:OL e rV E a c g (hs++ [.slice I ys.length ci]))(O:hs.length=K.length)(U:rows.length=K.length)
  (Y:∀(i:Nat) xs r h,K[i]?=some xs->rows[i]?=some r->hs[i]?=some h->∃I ci,h=.slice I xs.length ci/\OL e2 p E I ci r xs) (Z:OL e2 p E I ci r ys):Ct e e2 p E a c (g++(rows++ [r]).flatten) (K++ [ys]):=
 ⟨g,_,rows++ [r],rfl,h,by simp[O],by simp[U],λi xs r' q a b c=>by
  rw[List.getElem?_append] at a b c
  rw[U] at b;rw[O] at c
  split at a
  .rename_i hi
   rw[d9 hi] at b c
   exact Y i xs r' q a b c
  .rename_i hi
   rw[d0 hi] at b c
   match hj:i - K.length,a,b,c with
   | 0,a,b,c=>cases a;cases b;cases c;exact⟨_,_,rfl,Z⟩⟩
theorem XA{s:St}{ρ:Operand->Value}{x y:Operand}{d:Option Tmp}{t ty e:TypeId}{p:String}{af:Ae_}{g:On_}{kd:IntKind}{n:Nat}{m:Int}{bk sz:Nat}(I:a=some ⟨bk,0,none⟩)(hm:0<=m/\m<(n:Int))(ht:P.underlying t=some (.slice e))(K:BA P e=some sz)(O:ρ x=.slice a n c)(U:ρ y=.int kd m):
  Yl P ⟨d,.indexAddr t x y,ty,p,af,g⟩ ρ s (.pointer (some ⟨bk,m.toNat*sz,none⟩)):=by
 refine Kk (xs:=List.replicate n ()) (xv:=()) I ?_ ht K (by rw[uw];exact O) U;unfold ix;rw[d9 hm.1];rw[vq,d9 AB]
variable {u:TypeId}{rest:List Nat}
variable{z:Value}
section
variable {J:Judge P}{n:Nat}{k:Li_}
variable {d:Option Tmp}{x y:Operand}{i:Nat}
theorem dx{S:List Seg}{r:Seg}(j:Nat)(I:S[j]?=some (q::(r++g2))):S.flatten.Perm (S.set j [q]++ [g2,r]).flatten:=eU (g1:=[]) j I
theorem gu{pp:Rp α}{t1 t2:TypeId}{dn:Nat}{K:Option Addr}{r:Seg}{O ai:List (List α)}{ys:List α}{aq:Nat}{d1:Tmp}{ats:Array TypeId}{aj:TypeId}{al:String}{am:Ae_}{g':On_}(j I:Nat)(az:room O ys=some ai)
  (a0:ops[i]?=some ⟨some d1,.buildSlice t2 1 #[(0,y)],aj,al,am,g'⟩) (hw:A9 L ops ⟨some d1,.buildSlice t2 1 #[(0,y)],aj,al,am,g'⟩=some true) (a1:Cd b n ⟨some d1,.buildSlice t2 1 #[(0,y)],aj,al,am,g'⟩=true)
  (a2:ops[aq]?=some ⟨d,.call ⟨.builtin .append,#[x,.tmp d1],ats⟩,ty,p,af,g⟩) (a3:∀w,A9 (AG L (some d1) w) ops ⟨d,.call ⟨.builtin .append,#[x,.tmp d1],ats⟩,ty,p,af,g⟩=some true) (a4:Cd b n ⟨d,.call ⟨.builtin .append,#[x,.tmp d1],ats⟩,ty,p,af,g⟩=true)
  (a5:∀w,ev (AG L (some d1) w) x=some (.slice a O.length c)) (a6:ev L y=some (.slice K ys.length ci)) (a7:ats[0]?=some t) (a8:ats[1]?=some t1) (ht:P.underlying t=some (.slice e)) (a9:P.underlying t1=some (.slice e)) (bb:P.underlying t2=some (.slice e)) (be:BA P e=some 1) (hb:GC P e=some dn) (bg:zeroOf P e=some z) (bi:z.cells.size=1)
  (bn:0<dn) (bo:dn<=64) (hg:Ct e e2 pp E a c seg O) (bv:OL e2 pp E K ci r ys) (bw:Aw E H S) (av:S[j]?=some seg) (bx:S[I]?=some r) (ap:I≠j)
  (h:∀w U Y seg',Ct e e2 pp E U Y seg' ai->Aw E H ((S.set j seg').set I [])->JL J Q b n (AG (AG L (some d1) w) d (.slice U ai.length Y)) ds (Ah ops rest k) cs (Ao E H ((S.set j seg').set I []))):
  JL J Q b n L ds (.inRegion ops (i::aq::rest)::k) cs (Ao E H S):=by
 obtain⟨bz,rfl⟩:=Wq az;obtain⟨g0,hs,rows,rfl,b0,Z,b1,b2⟩:=hg;refine have ac:=(d7.1 av).1;Ha j av bw λb3=>?_;have b4:(S.set j g0++ [rows.flatten])[j]?=some g0:=by
  rw[sX (by simpa using ac),tC ac]
 refine VU (pp:=rV) (v:=.slice K ys.length ci) (xv:=.slice K ys.length ci) j a0 hw a1 a2 a3 a4 (by rw[Z];exact a5) a6 a7 a8 ht a9 bb be hb bg bi bn bo AD AD (by rw[Z];exact bz) b0 ⟨V,V⟩ b3 b4 λw U Y g' b5 aw=>?_;rw[xd _ _ (by simpa using ac),uF] at aw ⊢;have el:(hs++ [Value.slice K ys.length ci]).length=(O++ [ys]).length:=by simp[Z]
 refine Cw (S':=(S.set j (g'++(rows++ [r]).flatten)).set I []) ?_ aw λb6=>?_
 .have ca:(S.set j g')[I]?=some r:=by rw[s0 (ti ap)];exact bx
  have p1:=(CB (seg':=([]:Seg)) ca).1;rw[Gx];refine(p1.append_right _).trans ?_;have ay:((S.set j g').set I [])[j]?=some g':=by rw[s0 ap,tC ac]
  have p2:=(CB (seg':=g'++(rows++ [r]).flatten) ay).1;have p3:=(CB (seg':=g'++(rows++ [r]).flatten) ay).2;have cc:((S.set j g').set I []).set j (g'++(rows++ [r]).flatten)=(S.set j (g'++(rows++ [r]).flatten)).set I []:=by rw[uT _ _ ap,uF]
  rw[cc] at p3;refine List.Perm.trans ?_ p3.symm;refine((p2.append_right r).append_right _).trans ?_;rw[lZ,lZ];refine tL _ (tL _ ?_);rw[ug];simpa using lF
 .have:=h w U Y _ (Ct.snoc b5 Z b1 b2 bv) b6;rw[el];exact this
theorem gG{pp:Rp α}{r:Seg}{ys:List α}(K:Nat)
  (U:ops[i]?=some ⟨d,.buildSlice t 1 #[(0,y)],ty,p,af,g⟩) (hw:A9 L ops ⟨d,.buildSlice t 1 #[(0,y)],ty,p,af,g⟩=some true) (Y:Cd b n ⟨d,.buildSlice t 1 #[(0,y)],ty,p,af,g⟩=true)
  (ht:P.underlying t=some (.slice e)) (Z:BA P e=some 1) (ac:zeroOf P e=some z) (ag:ev L y=some (.slice I ys.length ci)) (ai:OL e2 pp E I ci r ys) (aj:Aw E H S) (O:S[K]?=some r)
  (h:∀r' seg,Ct e e2 pp E (some ⟨r',0,none⟩) 1 seg [ys]->Aw E H (S.set K seg)->JL J Q b n (AG L d (.slice (some ⟨r',0,none⟩) [ys].length 1)) ds (Ah ops rest k) cs (Ao E H (S.set K seg))):
  JL J Q b n L ds (Ag ops i rest k) cs (Ao E H S):=by
 refine Gz (pp:=rV) [.slice I ys.length ci] [.slice I ys.length ci] U hw Y ht Z ac AD (by simp[ag]) V V ⟨⟨V,V⟩,trivial⟩ aj λr' seg al am=>Cw (S':=S.set K (seg++r)) ?_ am λap=>h r' _ (Ct.one al ai) ap;rw[Gx];refine((CB (seg':=seg++r) O).1.append_right seg).trans (List.Perm.trans ?_ (CB (seg':=seg++r) O).2.symm);rw[lZ];exact tL _ lF
end
structure nb {α:Type}(e e2:TypeId) (pp:Rp α) (E:LH) (a:Option Addr) (c bk:Nat) (f:Av_) (I K:Option Addr) (ci cj:Nat) (ac ag g:Seg) (ai:List (List α)) (i j:Int) (xs ys:List α):Prop where
 ad:a=some ⟨bk,0,none⟩
 hi:f[i.toNat*1]?=some (.slice I xs.length ci)
 hj:f[j.toNat*1]?=some (.slice K ys.length cj)
 oi:OL e2 pp E I ci ac xs
 oj:OL e2 pp E K cj ag ys
 close:∀E' Y Z O U,Le E E'->O.length=xs.length->U.length=ys.length->OL e2 pp E' I ci Y O->OL e2 pp E' K cj Z U->
  ∃g',g'.Perm ((bk,.cells f e (0,0))::(Y++Z++g))/\Ct e e2 pp E' a c g' ((ai.set i.toNat O).set j.toNat U)
def RZ(i j:Int):Option Unit:=if i=j then none else some ()
theorem Ct.ng{e e2:TypeId}{pp:Rp α}{E:LH}{O:List (List α)}{i j:Int}{xs ys:List α}{u:Unit}(h:Ct e e2 pp E a c seg O)(hi:ix O i=some xs)(hj:ix O j=some ys)(ai:RZ i j=some u):
  ∃(bk:Nat) (f:Av_) (U Y:Option Addr) (ci cj:Nat) (am ap g:Seg),seg.Perm ((bk,.cells f e (0,0))::(am++ap++g))/\nb e e2 pp E a c bk f U Y ci cj am ap g O i j xs ys:=by
 have a2:i≠j:=λe=>by unfold RZ at ai;rw[d9 e] at ai;cases ai
 obtain⟨g0,hs,rows,rfl,aj,a3,a4,al⟩:=h;obtain⟨m,rfl,hm⟩:=Ge hi;obtain⟨q,rfl,aq⟩:=Ge hj;have Z:m≠q:=λe=>a2 (by rw[e]);have lm:=(d7.1 hm).1;have bo:=(d7.1 aq).1;have av:rows[m]?=some rows[m]:=bZ AB;have aw:rows[q]?=some rows[q]:=bZ AB;have ac:hs[m]?=some hs[m]:=bZ AB;have ag:hs[q]?=some hs[q]:=bZ AB;let⟨U,ci,a5,a6⟩:=al m xs _ _ hm av ac;let⟨Y,cj,a7,a8⟩:=al q ys _ _ aq aw ag;rw[a5] at ac;rw[a7] at ag;obtain⟨bk,f,ws,rfl,rfl,a9,ay,bv,bw⟩:=E8 aj ac;let⟨bx,bz,ws',b0,az,bb,a0,_,_⟩:=E8 aj ag;simp only[vx,f4,Obj.cells.injEq,wQ] at az;obtain⟨rfl,rfl⟩:=az;obtain⟨rfl,-⟩:=a9;obtain⟨rfl,-⟩:=bb;have be:(rV).n=1:=V;rw[be] at ay a0;have key:∀I K:Seg,((rows.set m I).set q K).flatten.Perm (I++K++((rows.set m []).set q []).flatten):=λI K=>by
  have s1:(rows.set m I)[q]?=some rows[q]:=by rw[s0 Z];exact aw
  have p1:=(CB (seg':=K) s1).2;have s2:(rows.set q [])[m]?=some rows[m]:=by rw[s0 (ti Z)];exact av
  have p2:=(CB (seg':=I) s2).2;rw[uT _ _ (ti Z)] at p2;rw[uT (l:=rows) [] [] (ti Z)] at p2;refine p1.trans ((p2.append_right K).trans ?_);rw[lZ];exact lF
 have bg:(rows.set m rows[m]).set q rows[q]=rows:=by rw[wm,wm]
 refine⟨bk,f,U,Y,ci,cj,rows[m],rows[q],((rows.set m []).set q []).flatten,?_,V,by have:=ay 0 _ rfl;simpa using this,by have:=a0 0 _ rfl;simpa using this,a6,a8,λE' I K b1 b2 hle l1 l2 o1 o2=>?_⟩;have:=key rows[m] rows[q];rw[bg] at this;exact List.Perm.cons _ this;refine⟨[(bk,.cells f e (0,0))]++((rows.set m I).set q K).flatten,List.Perm.cons _ (key I K),_,hs,(rows.set m I).set q K,V,aj.Aj hle,by simpa using a3,by simpa using a4,λi bi r v a b c=>?_⟩;simp only[tt] at a;rw[tD] at a b;simp only[sW] at a b;by_cases e:q=i;subst e;rw[d9 rfl,d9 AB] at a b;cases a;cases b;rw[ag] at c;cases c;exact⟨Y,cj,by rw[l2],o2⟩;rw[d0 e,tD] at a b;by_cases a1:m=i;subst a1;rw[d9 rfl,d9 AB] at a b;cases a;cases b;rw[ac] at c;cases c;exact⟨U,ci,by rw[l1],o1⟩;rw[d0 a1] at a b;exact let⟨bn,c2,n1,n2⟩:=al i bi r v a b c;⟨bn,c2,n1,n2.Aj hle⟩
theorem mg{S:List Seg}{K g:Seg}(j:Nat)(O:S[j]?=some seg)(U:seg.Perm (q::(g2++K++g))):S.flatten.Perm (S.set j [q]++ [g,g2,K]).flatten:=by
 have Y:=(CB (seg':=[q]) O).1;have Z:=(CB (seg':=[q]) O).2;rw[ug];refine Y.trans ((U.append_left _).trans (List.Perm.trans ?_ (Z.symm.append_right _)));rw[lZ (S.set j []).flatten];refine tL _ ?_;simp only[tk,vi,s6,tH,tB];exact List.Perm.cons _ lF
theorem lf{S:List Seg}{Y g g':Seg}(j O I K:Nat)(ac:S[j]?=some [q])(hg:S[O]?=some g)(hi:S[I]?=some g2)(hj:S[K]?=some Y)(hd:j≠O/\j≠I/\j≠K/\O≠I/\O≠K/\I≠K)(ag:g'.Perm (q::(g2++Y++g))):
  S.flatten.Perm ((((S.set K []).set I []).set O []).set j g').flatten:=by
 obtain⟨d1,d2,d3,d4,d5,d6⟩:=hd;have p1:=(CB (seg':=([]:Seg)) hj).1;have ai:(S.set K [])[I]?=some g2:=by rw[s0 (ti d6)];exact hi
 have p2:=(CB (seg':=([]:Seg)) ai).1;have aj:((S.set K []).set I [])[O]?=some g:=by rw[s0 (ti d4),s0 (ti d5)];exact hg
 have p3:=(CB (seg':=([]:Seg)) aj).1;have Z:(((S.set K []).set I []).set O [])[j]?=some [q]:=by rw[s0 (ti d1),s0 (ti d2),s0 (ti d3)];exact ac
 refine have p4:=(CB (seg':=g') Z).1;have al:=(CB (seg':=g') Z).2;(p1.trans ((p2.append_right _).trans ((((p3.append_right _)).append_right _).trans ((((p4.append_right _).append_right _)).append_right _)))).trans (List.Perm.trans ?_ al.symm);simp only[lZ];refine tL _ (List.Perm.trans ?_ ag.symm);simp only[tH,tB];exact List.Perm.cons _ lF
end Pal
set_option autoImplicit false
open Go
namespace Pal
theorem Aq.Zr{P:Program}{E:LH}{α:Type}{pp:Rp α}{a:Option Addr}{c:Nat}{xs:List α}{xv:α}{mm:Int}(K:Aq pp E a c xs)(I:ix xs mm=some xv):
  ∃bk o ws,pp.r E ws xv/\At E bk o ws/\∀{s:St}{ρ:Operand->Value}{x y:Operand}{d:Option Tmp}{t ty e:TypeId}{p:String}{af:Ae_}{g:On_}{kd:IntKind},
   P.underlying t=some (.slice e)->BA P e=some pp.n->ρ x=.slice a xs.length c->ρ y=.int kd mm->Yl P ⟨d,.indexAddr t x y,ty,p,af,g⟩ ρ s (.pointer (some ⟨bk,o,none⟩)):=by
 obtain⟨mm,rfl,I⟩:=Ge I;have O:mm<xs.length:=(d7.1 I).1;obtain⟨aj,⟨rfl,_⟩ | ⟨bk,off,rfl,U⟩⟩:=K;simp at O
 refine let⟨ws,Y,Z⟩:=U mm xv I;⟨bk,off+mm*pp.n,ws,Y,Z,λ{s ρ x y d t ty e p af g kd} ht ac ag ai=>?_⟩;have:=Om (P:=P) (s:=s) (d:=d) (ty:=ty) (p:=p) (af:=af) (g:=g) ht ac ag ai ⟨AB,AB⟩;rw[EO rfl] at this;simpa using this
open Go Go.Conc Go.Proofs
variable {E:LH}
variable {J:Judge Tryz.prog}
def QA(fu_:Nat)(p0:List Int)(p1:List Int)(I:Int):Option (Bn (Int) ((Bool)⊕(Unit))):=
 if I<((p0).length:Int) then(
  (ix p0 (I)).bind λK=>
  (ix p1 (I)).bind λO=>
  if K≠O then(
   (ix p0 (I)).bind λU=>
   (ix p1 (I)).bind λY=>
   some (.done (Sum.inl (decide (U<Y))))
  ) else(
   (Ax (I+1)).bind λZ=>
   some (.more Z)
  )
 ) else(
  some (.done (Sum.inr ()))
 )
def f127(fu_:Nat)(p0:List Int)(p1:List Int):Option (Bool):=
 Option.bind (iter (QA fu_ p0 p1) fu_ 0) λI=>
 Sum.elim (λr=>some r) (λK=>
 some false
 ) I
variable{a1:Av}{c2 fu_:Nat}
abbrev Gv:=@Go.Proofs.Tryz.func74
theorem lG{O:Av}{U:Nat}{p0 w0:List Int}(ac:Aq rI E a1 c2 (p0))(ag:Aq rI E O U (w0)){r:Bool}(ai:f127 fu_ p0 w0=some r):A2 J 74 [.slice a1 (p0).length c2,.slice O (w0).length U] E [] (λw E' B'=>w=.bool r/\B'=[]):=by
 refine Bq Gv λQ ci cs H ay aj=>?_;unfold f127 at ai;let⟨al,az,am⟩:=bs ai;refine C 9 V (Bs (λL s=>∃(ap:Unit) (aq:LH),al=Sum.inr ap/\Jm E H aq [] [] L s) ?_ ?_);rintro _ _ ⟨ap,aq,rfl,rfl,rfl,a0,a2⟩;refine have a3:=elim_inr am;C 4 V ?_;cases a3;exact AX Gv V V (aj a0 V ⟨V,V⟩ a2);intro a4;refine Ay (Dc az (λY=>[]) (λY=>[(0,.slice a1 (p0).length c2),(1,.slice O (w0).length U),(5,iV Y)]) (BQ _) ay ?_);rintro Y a5 I Z av ⟨co,K⟩ a6;have aw:=K;unfold QA at aw;refine C 5 V (BB Ak V V V (C 2 V (AW aw (λa7 a8=>?_) (λa7 a9=>?_))));refine C 4 V (Eu 8 λht=>?_);refine AY ht V [0,1] V (Ai a8 λcp bb be=>Dd 2 (ac.Aj I) bb ht Ak AE ?_);rintro ct cw _ rfl bg;refine Ec 3 ht 0 bg A7 V V V V (AY ht V [4,5] V (Ai be λcy bi bn=>Dd 6 (ag.Aj I) bi ht Ak AE ?_));rintro c0 c3 _ rfl bo;refine Ec 7 ht 0 bo A7 V V V V (CJ [8] (C 2 V (AW bn (λbv bw=>?_) (λbv bx=>?_))));refine D5 (Eu 8 λht=>?_);refine AY ht V [0,1] V (Ai bw λc4 bz b0=>Dd 2 (ac.Aj I) bz ht Ak AE ?_);rintro c5 c6 _ rfl b1;refine Ec 3 ht 0 b1 A7 V V V V (AY ht V [4,5] V (Ai b0 λc7 b2 b3=>Dd 6 (ag.Aj I) b2 ht Ak AE ?_));rintro c8 c9 _ rfl b4;refine Ec 7 ht 0 b4 A7 V V V V (CJ [8,9] (C 3 V ?_));cases b3;obtain rfl:=av _ K;have b5:=elim_inl am;cases b5;exact AX Gv V V (aj I V ⟨V,V⟩ Z);refine Ai bx λb6 ca cc=>C 4 V (Br ca V V V (C 2 V ?_));cases cc;exact a6 b6 I Z V K;refine A3 V ?_;cases a9;have ce:al=(Sum.inr ()):=(av _ K).symm;exact AF (a4 _ _ ⟨(),a5,ce,V,V,I,Z⟩) V
def OV(fu_:Nat)(p0:Bf)(K:A6×Int)(I:A6×Int):Option (Bn (A6×Int) (A6)):=
 (ix p0.1 (K.2)).bind λY=>
 if I.2<((Y).length:Int) then(
  (ix I.1 (K.2)).bind λO=>
  (ix p0.1 (K.2)).bind λZ=>
  (ix Z (I.2)).bind λU=>
  (ix O (U)).bind λac=>
  (Ax (ac+1)).bind λag=>
  (Ax (I.2+1)).bind λai=>
  some (.more ((I.1.set (Int.toNat K.2) (O.set (Int.toNat U) ag)),ai))
 ) else(
  some (.done I.1)
 )
def Q9(fu_:Nat)(p0:Bf)(I:A6×Int):Option (Bn (A6×Int) (A6)):=
 if I.2<((I.1).length:Int) then(
  (GQ 10 (0:Int)).bind λK=>
  (ix I.1 (I.2)).bind λY=>
  Option.bind (iter (OV fu_ p0 I) fu_ ((I.1.set (Int.toNat I.2) K),0)) λO=>
  (Ax (I.2+1)).bind λU=>
  some (.more (O,U))
 ) else(
  some (.done I.1)
 )
def f79(fu_:Nat)(p0:Bf):Option (A6):=
 (GQ ((p0.1).length:Int) ([]:List Int)).bind λI=>
 Option.bind (iter (Q9 fu_ p0) fu_ (I,0)) λK=>
 some K
variable{r:A6}
theorem me{bo:Av}{bv:Nat}{p0:Bf}(bw:Aq (rL rI) E a1 c2 (p0.1))(hy:Aq AI E bo bv (p0.2))(bx:f79 fu_ p0=some r):A2 J 41 [.agg #[.slice a1 (p0.1).length c2,.slice bo (p0.2).length bv]] E [] (λw E' B'=>∃(bz:Av) (b0:Nat),w=.slice bz (r).length b0/\B'=[]/\Aq (rL rI) E' bz b0 (r)):=by
 refine Bq Tryz.func41 λQ hz cs H ct cw=>?_;unfold f79 at bx;refine C 2 V (Cx ct λZ a0 a2 a3 cy=>?_);refine C 4 V (BS 0 a3 A0 Eo EJ ?_);refine BB Ar V V V (Ai bx λK b1 c0=>E2 (pp:=(UZ rI)) b1 V V V V V Ar CU (B3 D6) AD Kh AD (.inl ⟨V,V⟩) cy λO c3 a4 c4=>?_);replace a4:=Ct.make (e2:=3) b1 a4;let⟨b2,c5,c6⟩:=bs c0;refine C 7 V (Bs (λL s=>∃(a5:LH) (a6:Seg),Jn a0 H a5 [a6] [(3,.slice (some ⟨O,0,none⟩) (b2).length (K).length)] L s (Ct 28 3 rI a5 (some ⟨O,0,none⟩) (K).length a6 (b2))) ?_ ?_);rintro _ _ ⟨a5,a6,rfl,rfl,c7,c8,c9⟩;refine C 5 V (SA 0 c9 c8 V λhA dd dj ea=>?_);cases c6;exact AX Tryz.func41 V V (cw ((a2.trans c7).trans dd) V ⟨(some ⟨O,0,none⟩),(K).length,V,V,dj⟩ ea);intro eb;refine Ay (Cm c5 (λL s I=>∃(ac:LH) (am:Seg),Jn a0 H ac [am] [(1,.pointer (some ⟨Z,0,none⟩)),(3,.slice (some ⟨O,0,none⟩) (I.1).length (K).length),(4,iV I.2)] L s (Ct 28 3 rI ac (some ⟨O,0,none⟩) (K).length am (I.1))) ⟨a0,c3,V,V,(BQ _),c4,a4⟩ ?_);rintro _ _ I ⟨ac,am,rfl,rfl,ai,b3,b4⟩ ec ⟨hB,a7⟩ ed;have b5:=a7;unfold Q9 at b5;refine C 5 V (BB Ar V V V (C 2 V (AW b5 (λee ef=>?_) (λee eg=>?_))));refine Ai ef λap ej ek=>C 7 V (E2 (pp:=rI) ej V V V V V Ak AE (B3 A5) AD Ca AD V b3 λhC hD el em=>Ai ek λhE b6 eo=>let⟨hF,f70,hG,hH,hI,hJ,hK,er,ca⟩:=Ct.rowOf b4 b6;As V (λ_ h=>Kk ca.ad b6 Ar CU (h _ _ V) (h _ _ V)) (Xl 0 1 ca el em (s7 some er) AD V CU V V V λeu ew ex=>?_));have a8:(I.1.set (Int.toNat I.2) ap).length=(I.1).length:=sW;refine EU (L':=[(1,.pointer (some ⟨Z,0,none⟩)),(3,.slice (some ⟨O,0,none⟩) ((I.1.set (Int.toNat I.2) ap)).length (K).length),(4,iV I.2),(10,iV I.2),(11,.slice (some ⟨O,0,none⟩) ((I.1.set (Int.toNat I.2) ap)).length (K).length),(12,iV ((I.1).length:Int)),(13,.bool (decide (I.2<((I.1).length:Int)))),(16,.slice (some ⟨O,0,none⟩) ((I.1.set (Int.toNat I.2) ap)).length (K).length),(17,iV I.2)]) ⟨V,by rw[a8];rfl,V,V,by rw[a8];rfl,V,V,by rw[a8];rfl,V,trivial⟩ ?_;let⟨a9,ey,eA⟩:=bs eo;refine C 5 V (Bs (λL s=>∃(aq:LH) (av:Seg),Jn ac H aq [av] [(1,.pointer (some ⟨Z,0,none⟩)),(3,.slice (some ⟨O,0,none⟩) (a9).length (K).length),(4,iV I.2)] L s (Ct 28 3 rI aq (some ⟨O,0,none⟩) (K).length av (a9))) ?_ ?_);rintro _ _ ⟨aq,av,rfl,rfl,eC,eN,e0⟩;refine Ai eA λe1 e3 e4=>C 3 V (Br e3 V V V (C 2 V ?_));cases e4;exact AF (ed _ _ (a9,e1) ⟨aq,av,V,V,(ai.trans eC),eN,e0⟩ a7) V;intro e5;refine Ay (Cm ey (λL s U=>∃(al:LH) (aw:Seg),Jn ac H al [aw] [(1,.pointer (some ⟨Z,0,none⟩)),(3,.slice (some ⟨O,0,none⟩) (U.1).length (K).length),(4,iV I.2),(5,iV U.2)] L s (Ct 28 3 rI al (some ⟨O,0,none⟩) (K).length aw (U.1))) ⟨ac,eu,V,V,(BQ _),ex,ew⟩ ?_);rintro _ _ U ⟨al,aw,rfl,rfl,aj,ay,cc⟩ e6 ⟨hL,bb⟩ e7;have ce:=bb;unfold OV at ce;refine C 4 V (BS 0 (a3.Aj (ai.trans aj)) A0 Eo EJ ?_);refine Ai ce λbe e8 ff=>C 1 V (B7 (bw.Aj ((a2.trans ai).trans aj)) e8 Ar CU ?_);rintro fk fl _ ⟨fm,fo,rfl,hM⟩ fs;refine CX 0 fs Fw V V V (BB Ak V V V (C 2 V (AW ff (λfv fw=>?_) (λfv fN=>?_))));refine C 3 V (RH 12 λht=>?_);refine AY ht V [0,1] V (Ai fw λaz ci gc=>let⟨ge,f128,hN,hO,gg,hP,gh,bg,bi⟩:=Ct.rowOf cc ci;Bj 2 ht V V (λ_ h s' hs=>Kk bi.ad ci Ar CU (h _ _ V) (h _ _ V)) (Bj 3 ht V V (λ_ h s' hs=>Az Fw (h _ _ V) (K4 hs (VA (j:=0) ay (s7 some bg) (List.Mem.head _) bi.hd))) (Cz 4 ht A0 Eo V V V V (Bj 5 ht V V (λ_ h s' hs=>Az EJ (h _ _ V) (K4 hs (HM (a3.Aj (ai.trans aj)) V))) (Db 6 ht V V (Ai gc λgt gB gE=>Dd 7 (bw.Aj ((a2.trans ai).trans aj)) gB ht Ar CU ?_))))));rintro gO g3 _ ⟨g4,g5,rfl,g6⟩ g7;refine Bj 8 ht V V (λ_ h s' hs=>Az Fw (h _ _ V) (K4 hs (HM (j:=0) g7 V))) (Db 9 ht V V (Ai gE λag g8 ha=>Dd 10 g6 g8 ht Ak AE ?_));rintro hb hc _ rfl he;refine Bj 11 ht V V (λ_ h s' hs=>Az A7 (h _ _ V) (K4 hs (HM (j:=0) he V))) (CJ [12,13,14,15,16] ?_);let⟨hf,bn,hk⟩:=bs ha;obtain⟨hl,f152,_,co,rfl,rfl,hm,hn,ho⟩:=OZ.elem bi bn;refine As V (λ_ h=>Kk co bn Ak AE (h _ _ V) (h _ _ V)) (As V (λ_ h=>Az A7 (h _ _ V) (VA (j:=0) ay (s7 some bg) iM (hm 0 _ V))) (Ai hk λY hp hq=>Br hp V V V (As V (λ_ h=>Kk co bn Ak AE (h _ _ V) (h _ _ V)) (fJ (off:=Int.toNat (ag)*1) 0 ay (s7 some bg) AE V V V (by have:=hn;simp only[Rp.n,rK,rN,rB,rP,rL] at this;show _+1<=_;omega) (by simp[Value.cells,Dz]) λhr=>?_))));have hu:=ho _ (Y) [iV Y] (BQ _) V;have cp:(U.1.set (Int.toNat I.2) (az.set (Int.toNat ag) Y)).length=(U.1).length:=sW;refine EU (L':=[(1,.pointer (some ⟨Z,0,none⟩)),(3,.slice (some ⟨O,0,none⟩) ((U.1.set (Int.toNat I.2) (az.set (Int.toNat ag) Y))).length (K).length),(4,iV I.2),(5,iV U.2),(20,iV U.2),(21,.pointer (some ⟨Z,0,none⟩)),(22,.slice a1 (p0.1).length c2),(23,iV I.2),(24,.pointer (some ⟨fk,fl,none⟩)),(25,.slice fm (be).length fo),(26,iV ((be).length:Int)),(27,.bool (decide (U.2<((be).length:Int)))),(30,.slice (some ⟨O,0,none⟩) ((U.1.set (Int.toNat I.2) (az.set (Int.toNat ag) Y))).length (K).length),(31,iV I.2),(34,.pointer (some ⟨Z,0,none⟩)),(35,.slice a1 (p0.1).length c2),(36,iV I.2),(37,.pointer (some ⟨gO,g3,none⟩)),(38,.slice g4 (gt).length g5),(39,iV U.2),(40,.pointer (some ⟨hb,hc,none⟩)),(41,iV ag),(43,iV hf),(44,iV Y)]) ⟨V,by rw[cp];rfl,V,V,V,V,V,V,V,V,V,V,by rw[cp];rfl,V,V,V,V,V,V,V,V,V,V,V,trivial⟩ (Ai hq λhv hw hx=>C 4 V (Br hw V V V (C 2 V ?_)));cases hx;exact AF (e7 _ _ ((U.1.set (Int.toNat I.2) (az.set (Int.toNat ag) Y)),hv) ⟨al,(rs (ge,.cells f128 28 (0,0)) gg (hl,.cells (Be f152 (Int.toNat (ag)*1) [iV Y]) 3 (0,0)) gh),V,V,aj,hr,hu⟩ bb) V;refine A3 V ?_;cases fN;obtain rfl:=e6 _ bb;exact AF (e5 _ _ ⟨al,aw,V,V,aj,ay,cc⟩) V;refine A3 V ?_;cases eg;obtain rfl:=ec _ a7;exact AF (eb _ _ ⟨ac,am,V,V,ai,b3,b4⟩) V
def OD(fu_:Nat)(p1:Int)(U:A6×Int)(O:A6)(I:A6×A6×Int):Option (Bn (A6×A6×Int) (A6)):=
 if I.2.2<(((O).length:Nat):Int) then(
  (R0 (O).length I.2.1 (I.2.2)).bind λK=>
  (ix K.1 (p1)).bind λac=>
  (room I.1 (K.1.set (Int.toNat p1) U.2)).bind λY=>
  (Ax (I.2.2+1)).bind λZ=>
  some (.more (Y,K.2,Z))
 ) else(
  some (.done I.1)
 )
def P6(fu_:Nat)(p0:List Int)(p1:Int)(p2:Int)(rec:(List Int)->Int->Int->Option (A6))(I:A6×Int):Option (Bn (A6×Int) (A6)):=
 (ix p0 (p1)).bind λO=>
 if I.2<=O then(
  (Ax (p1 - 1)).bind λU=>
  (Ax (I.2*p1)).bind λY=>
  (Ax (p2 - Y)).bind λZ=>
  (rec p0 U Z).bind λK=>
  Option.bind (iter (OD fu_ p1 I K) fu_ (I.1,K,0)) λac=>
  (Ax (I.2+1)).bind λag=>
  some (.more (ac,ag))
 ) else(
  some (.done I.1)
 )
def Mr(rec:(List Int)->Int->Int->Option (A6))(fu_:Nat)(p0:List Int)(p1:Int)(p2:Int):Option (A6):=
 if p2<0 then(
  some ([])
 ) else(
  if p1=0 then(
   if 0<p2 then(
    some ([])
   ) else(
    (GQ 10 (0:Int)).bind λI=>
    some ([I])
   )
  ) else(
   Option.bind (iter (P6 fu_ p0 p1 p2 rec) fu_ ([],0)) λK=>
   some K
  )
 )
abbrev Rw(J:Judge Tryz.prog)(rec:(List Int)->Int->Int->Option (A6)):Prop:=∀{E:LH}{a1:Av}{c2:Nat}{p0:List Int}{p1:Int}{p2:Int}(O:Aq rI E a1 c2 (p0)) {r:A6}(U:rec p0 p1 p2=some r),A2 J 72 [.slice a1 (p0).length c2,iV p1,iV p2] E [] (λw E' B'=>∃(I:Av) (K:Nat) (g0:Seg),w=.slice I (r).length K/\B'=g0/\Ct 28 3 rI E' I K g0 (r))
abbrev EE:=@Go.Proofs.Tryz.func72
theorem eR{J:Judge Tryz.prog}{rec:(List Int)->Int->Int->Option (A6)}(ci:Rw J rec):Rw J (Mr rec fu_):=by
 intro E a1 c2 p0 p1 p2 bn r bo;refine Bq EE λQ hy cs H aq av=>?_;unfold Mr at bo;refine C 10 V (AW bo (λc4 co=>?_) (λc4 cp=>?_));refine C 4 V ?_;cases co;exact AX EE V V (av (BQ _) V ⟨none,0,[],V,Ac,Ct.nil⟩ aq);refine C 7 V (AW cp (λct cw=>?_) (λct cy=>?_));refine C 6 V (AW cw (λc0 c3=>?_) (λc0 c5=>?_));refine C 4 V ?_;cases c3;exact AX EE V V (av (BQ _) V ⟨none,0,[],V,Ac,Ct.nil⟩ aq);refine Ai c5 λhz c6 c7=>C 3 V (E2 (pp:=rI) c6 V V V V V Ak AE (B3 A5) AD Ca AD V aq λhA hB c8 c9=>gG 1 V V V Ar CU Kh V c8 c9 V λdd dj ea eb=>C 2 V ?_);cases c7;exact AX EE V V (av (BQ _) V ⟨(some ⟨dd,0,none⟩),1,dj,V,Ac,ea⟩ eb);let⟨bv,ec,ed⟩:=bs cy;refine C 10 V (Bs (λL s=>∃(a8:LH) (aw:Av) (ay:Nat) (az:Seg),Jn E H a8 [az] [(7,.slice aw (bv).length ay)] L s (Ct 28 3 rI a8 aw ay az (bv))) ?_ ?_);rintro _ _ ⟨a8,aw,ay,az,rfl,rfl,ee,ef,eg⟩;refine C 5 V ?_;cases ed;exact AX EE V V (av ee V ⟨aw,ay,az,V,Ac,eg⟩ ef);intro ej;refine Ay (Cm ec (λL s I=>∃(a0:LH) (Z:Av) (ac:Nat) (ag:Seg),Jn E H a0 [ag] [(0,.slice a1 (p0).length c2),(1,iV p1),(2,iV p2),(7,.slice Z (I.1).length ac),(8,iV I.2)] L s (Ct 28 3 rI a0 Z ac ag (I.1))) ⟨E,none,0,[],V,V,(BQ _),aq,Ct.nil⟩ ?_);rintro _ _ I ⟨a0,Z,ac,ag,rfl,rfl,a2,bw,bx⟩ ek ⟨hC,a9⟩ el;have bz:=a9;unfold P6 at bz;refine Ai bz λhD em eo=>C 6 V (B7 (bn.Aj a2) em Ak AE ?_);rintro hE hF _ rfl er;refine CX 0 er A7 V V V (C 2 V (AW eo (λeu ew=>?_) (λeu ex=>?_)));refine Ai ew λhG ey eA=>C 7 V (B9 ey V V V (Ai eA λhH eC eN=>C 3 V (As V (λ_ h=>LA (h _ _ V) (h _ _ V) eC) (Ai eN λhI e0 e1=>B9 e0 V V V (Ai e1 λU e3 e4=>Cb (ci (bn.Aj a2) e3) V V (A8 EE V) bw ?_)))));rintro _ bb e5 b0 ⟨ai,aj,_,rfl,rfl,e6⟩ e7;have e8:=LU.of e6;let⟨be,ff,fk⟩:=bs e4;refine C 6 V (Bs (λL s=>∃(a3:LH) (a4:Av) (a5:Nat) (a6:Seg),Jn bb H a3 [a6] [(0,.slice a1 (p0).length c2),(1,iV p1),(2,iV p2),(7,.slice a4 (be).length a5),(8,iV I.2)] L s (Ct 28 3 rI a3 a4 a5 a6 (be))) ?_ ?_);rintro _ _ ⟨a3,a4,a5,a6,rfl,rfl,fl,fm,fo⟩;refine Ai fk λfs fv fw=>C 3 V (Br fv V V V (C 2 V ?_));cases fw;exact AF (el _ _ (be,fs) ⟨a3,a4,a5,a6,V,V,((a2.trans b0).trans fl),fm,fo⟩ a9) V;intro fN;refine Ay (Cm ff (λL s K=>∃(Y:LH) (al:Av) (am:Nat) (a7:Seg) (bg:Seg),Jn bb H Y [a7,bg] [(0,.slice a1 (p0).length c2),(1,iV p1),(2,iV p2),(7,.slice al (K.1).length am),(8,iV I.2),(9,.slice ai (U).length aj),(10,iV K.2.2)] L s (Ct 28 3 rI Y al am a7 (K.1)/\LU 28 3 rI Y ai aj (U).length bg (K.2.1))) ⟨bb,Z,ac,ag,e5,V,V,(BQ _),e7,(bx.Aj b0),e8⟩ ?_);rintro _ _ K ⟨Y,al,am,a7,bg,rfl,rfl,b1,b2,b3,gc⟩ ge ⟨hJ,bi⟩ gg;have b4:=bi;unfold OD at b4;refine C 5 V (BB Ar V V V (C 2 V (AW b4 (λgh gt=>?_) (λgh gB=>?_))));refine Ai gt λap gE gO=>C 4 V ?_;obtain⟨b5,f142,b6,ca,hK,g3,rfl,O⟩:=LU.out gc gE;refine Cw (dx 1 V) b2 λcc=>C 3 V (As V (λ_ h=>XA O.ad O.bd Ar CU (h _ _ V) (h _ _ V)) (As V (λ_ h=>Az Fw (h _ _ V) (Cc (j:=1) cc V O.hd)) (Ai gO λhL g4 g5=>C 2 V (Ml 3 O.ol g4 V V V V V V Ak AE ?_))));rintro g6 g7 f155 _ g8 rfl hM ha hb hN hO;refine FI 3 V V V cc V V AE (by simp[Value.cells,Dz]) g8 (by have:=ha;simp only[Rp.n,rK,rN,rB,rP,rL] at this;show _+1<=_;omega) λce=>?_;have hc:=hb (I.2) [iV I.2] V;have he:(ap.1.set (Int.toNat p1) I.2).length=(ap.1).length:=sW;refine EU (L':=[(0,.slice a1 (p0).length c2),(1,iV p1),(2,iV p2),(7,.slice al (K.1).length am),(8,iV I.2),(9,.slice ai (U).length aj),(10,iV K.2.2),(36,iV K.2.2),(37,.slice ai (U).length aj),(38,iV (((U).length:Nat):Int)),(39,.bool (decide (K.2.2<(((U).length:Nat):Int)))),(42,.slice ai (U).length aj),(43,iV K.2.2),(44,.pointer (some ⟨b5,Int.toNat (K.2.2)*1,none⟩)),(45,.slice b6 ((ap.1.set (Int.toNat p1) I.2)).length ca),(46,iV p1),(47,iV I.2),(48,.pointer (some ⟨g6,g7,none⟩))]) ⟨V,V,V,V,V,V,V,V,V,V,V,V,V,V,by rw[he];rfl,V,V,V,trivial⟩ (C 5 V (As V (λ_ h=>XA O.ad O.bd Ar CU (h _ _ V) (h _ _ V)) (As (v:=.slice b6 ((ap.1.set (Int.toNat p1) I.2)).length ca) V (λ_ h=>Az Fw (h _ _ V) (Cc (j:=1) ce V (by rw[sW];exact O.hd))) (Ai g5 λhf hk hl=>gu 0 3 hk V V V V (λ_=>V) V (λ_=>V) V V V Ar Ar Ar CU (B3 D6) Kh V AD AD b3 hc ce V V AD λhP hm hn ho hp hq=>HR 1 2 V V hq λhr=>Ai hl λhu hv hw=>C 5 V (Br hv V V V (C 2 V ?_))))));cases hw;exact AF (gg _ _ (hf,ap.2,hu) ⟨Y,hm,hn,ho,((b5,.cells f142 28 (0,0))::g3),V,V,b1,hr,hp,O.rest⟩ bi) V;refine A3 V (BO 1 b2 V λhx=>?_);cases gB;obtain rfl:=ge _ bi;exact AF (fN _ _ ⟨Y,al,am,a7,V,V,b1,hx,b3⟩) V;refine A3 V ?_;cases ex;obtain rfl:=ek _ a9;exact AF (ej _ _ ⟨a0,Z,ac,ag,V,V,a2,bw,bx⟩) V
def Nz:Nat->Nat->(List Int)->Int->Int->Option (A6)
 | 0,_=>λ_ _ _=>none
 | n+1,fu_=>λp0 p1 p2=>Mr (Nz n fu_) fu_ p0 p1 p2
theorem dq{J:Judge Tryz.prog}{n:Nat}:Rw J (Nz n fu_):=by
 induction n with
 | zero=>intro _ _ _ _ _ _ _ _ I;cases I
 | succ n K=>exact eR K
def f125(fu_:Nat)(p0:List Int)(p1:Int)(p2:Int):Option (A6):=Nz fu_ fu_ p0 p1 p2
theorem jN:Rw J (f125 fu_):=dq (n:=fu_) (fu_:=fu_)
def OC(fu_:Nat)(p0:A6)(I:A6×Int):Option (Bn (A6×Int) (A6)):=
 if I.2<((I.1).length:Int) then(
  (ix p0 (I.2)).bind λK=>
  (CK ([]:List Int) K).bind λO=>
  (ix I.1 (I.2)).bind λY=>
  (Ax (I.2+1)).bind λU=>
  some (.more ((I.1.set (Int.toNat I.2) O),U))
 ) else(
  some (.done I.1)
 )
def QG(fu_:Nat)(p1:Int×Int×Int)(p2:List Int)(I:A6×Int):Option (Bn (A6×Int) (A6)):=
 if I.2<=9 then(
  (RZ (p1.1) (p1.2.1)).bind λal=>
  (ix I.1 (p1.1)).bind λK=>
  (ix I.1 (p1.2.1)).bind λO=>
  (ix K (I.2)).bind λam=>
  (ix O (I.2)).bind λap=>
  (ix K (I.2)).bind λU=>
  (ix p2 (I.2)).bind λY=>
  (Ax (U - Y)).bind λZ=>
  (ix O (I.2)).bind λac=>
  (ix p2 (I.2)).bind λag=>
  (Ax (ac+ag)).bind λai=>
  (Ax (I.2+1)).bind λaj=>
  some (.more (((I.1.set (Int.toNat p1.1) (K.set (Int.toNat I.2) Z)).set (Int.toNat p1.2.1) (O.set (Int.toNat I.2) ai)),aj))
 ) else(
  some (.done I.1)
 )
def f126(fu_:Nat)(p0:A6)(p1:Int×Int×Int)(p2:List Int):Option (A6):=
 (GQ ((p0).length:Int) ([]:List Int)).bind λI=>
 Option.bind (iter (OC fu_ p0) fu_ (I,0)) λK=>
 Option.bind (iter (QG fu_ p1 p2) fu_ (K,0)) λO=>
 some O
theorem OK{Z:Av}{dn:Nat}{p0:A6}{p1:Int×Int×Int}{p2:List Int}(c4:Aq (rL rI) E a1 c2 (p0))(b3:Aq rI E Z dn (p2))(b4:f126 fu_ p0 p1 p2=some r):A2 J 73 [.slice a1 (p0).length c2,.agg #[iV p1.1,iV p1.2.1,iV p1.2.2],.slice Z (p2).length dn] E [] (λw E' B'=>∃(b5:Av) (b6:Nat),w=.slice b5 (r).length b6/\B'=[]/\Aq (rL rI) E' b5 b6 (r)):=by
 refine Bq Tryz.func73 λQ hQ cs H c5 c6=>?_;unfold f126 at b4;refine C 2 V (Cx c5 λai bi a6 a7 c7=>?_);refine C 5 V (BB Ar V V V (Ai b4 λO ca c8=>E2 (pp:=(UZ rI)) ca V V V V V Ar CU (B3 D6) AD Kh AD (.inl ⟨V,V⟩) c7 λU c9 bn dd=>?_));replace bn:=Ct.make (e2:=3) ca bn;let⟨cc,dj,ea⟩:=bs c8;refine C 7 V (Bs (λL s=>∃(am:LH) (a8:Seg),Jn bi H am [a8] [(2,.slice Z (p2).length dn),(4,.pointer (some ⟨ai,0,none⟩)),(7,.slice (some ⟨U,0,none⟩) (cc).length (O).length)] L s (Ct 28 3 rI am (some ⟨U,0,none⟩) (O).length a8 (cc))) ?_ ?_)
 .rintro _ _ ⟨am,a8,rfl,rfl,aj,eb,ec⟩;let⟨ce,ed,ee⟩:=bs ea;refine C 5 V (Bs (λL s=>∃(bo:LH) (bv:Seg),Jn am H bo [bv] [(7,.slice (some ⟨U,0,none⟩) (ce).length (O).length)] L s (Ct 28 3 rI bo (some ⟨U,0,none⟩) (O).length bv (ce))) ?_ ?_);rintro _ _ ⟨bo,bv,rfl,rfl,ef,eg,ej⟩;refine C 5 V (SA 0 ej eg V λhR ek el em=>?_);cases ee;exact AX Tryz.func73 V V (c6 (((a6.trans aj).trans ef).trans ek) V ⟨(some ⟨U,0,none⟩),(O).length,V,V,el⟩ em)
  .intro eo;refine Ay (Cm ed (λL s K=>∃(av:LH) (a9:Seg),Jn am H av [a9] [(2,.slice Z (p2).length dn),(4,.pointer (some ⟨ai,0,none⟩)),(7,.slice (some ⟨U,0,none⟩) (K.1).length (O).length),(9,iV K.2)] L s (Ct 28 3 rI av (some ⟨U,0,none⟩) (O).length a9 (K.1))) ⟨am,a8,V,V,(BQ _),eb,ec⟩ ?_);rintro _ _ K ⟨av,a9,rfl,rfl,ag,ci,co⟩ er ⟨hS,bw⟩ eu;have cp:=bw;unfold QG at cp;refine C 6 V (AW cp (λew ex=>?_) (λew ey=>?_))
   .refine Ai ex λhT eA eC=>Ai eC λaw bx eN=>Ai eN λay bz e0=>C 3 V ?_;obtain⟨e1,f84,hU,hV,hW,hX,hY,h0,h1,e3,Y⟩:=Ct.ng co bx bz eA;refine Cw (mg 0 V e3) ci λal=>?_;let⟨h2,e4,e5⟩:=bs e0;let⟨e6,f101,e7,az⟩:=WL.of Y.oi e4;obtain⟨rfl,rfl⟩:=e7;let⟨h3,e8,ff⟩:=bs e5;let⟨fk,f107,fl,a0⟩:=WL.of Y.oj e8;obtain⟨rfl,rfl⟩:=fl;refine Gl [39,41] [e6,fk] [e1] mixed V (CL 0 V V (CG 1 true V V (λ_ h s' hs=>Gm 0 0 An AE V V V (h _ _ V)) (I4 2 V AC V V V (λ_ h s' hs=>Az A7 (h _ _ V) (Eh (j:=0) (a7.Aj (aj.trans ag)) hs V)) (CG 3 true V V (λ_ h s' hs=>Kk Y.ad bx Ar CU (h _ _ V) (h _ _ V)) (Mn 4 V AC V V V (λ_ h s' hs=>Az Fw (h _ _ V) (ES 0 al V AV hs Y.hi)) (CL 5 V V (CL 6 V V (CG 7 true V V (λ_ h s' hs=>Gm 0 1 An AE V V V (h _ _ V)) (I4 8 V AC V V V (λ_ h s' hs=>Az A7 (h _ _ V) (Eh (a7.Aj (aj.trans ag)) hs V)) (CG 9 true V V (λ_ h s' hs=>Kk Y.ad bz Ar CU (h _ _ V) (h _ _ V)) (Mn 10 V AC V V V (λ_ h s' hs=>Az Fw (h _ _ V) (ES 0 al V AV hs Y.hj)) (CL 11 V V (CL 12 V V (CG 13 true V V (λ_ h s' hs=>Gm 0 0 An AE V V V (h _ _ V)) (I4 14 V AC V V V (λ_ h s' hs=>Az A7 (h _ _ V) (Eh (j:=0) (a7.Aj (aj.trans ag)) hs V)) (CG 15 true V V (λ_ h s' hs=>Kk Y.ad bx Ar CU (h _ _ V) (h _ _ V)) (Mn 16 V AC V V V (λ_ h s' hs=>Az Fw (h _ _ V) (ES 0 al V AV hs Y.hi)) (CL 17 V V ?_))))))))))))))))));let⟨h4,bb,fm⟩:=bs ff;obtain⟨_,rfl,fo⟩:=Cr az bb;refine DM 18 az.2 bb Ak AE ?_;refine EA 19 false V AC V V V (λ_ h s' hs=>have hs:=hs V;Az A7 (h _ _ V) (ES 2 al V AV hs (fo 0 _ V))) (CL 20 V V (CL 21 V V ?_));let⟨h5,fs,fv⟩:=bs fm;obtain⟨h6,h7,_,rfl,fw,fN⟩:=Aq.Zr (P:=Tryz.prog) (b3.Aj ((a6.trans aj).trans ag)) fs;refine EA 22 true V AC V V V (λ_ h s' hs=>fN Ak AE (h _ _ V) (h _ _ V)) (I4 23 V AC V V V (λ_ h s' hs=>Az A7 (h _ _ V) (Eh (j:=0) fw hs V)) (Ai fv λap gc ge=>CG 24 true V V (λ_ h s' hs=>Ep (h _ _ V) (h _ _ V) gc) (CL 25 V V (CG 26 true V V (λ_ h s' hs=>Gm 0 1 An AE V V V (h _ _ V)) (I4 27 V AC V V V (λ_ h s' hs=>Az A7 (h _ _ V) (Eh (a7.Aj (aj.trans ag)) hs V)) (CG 28 true V V (λ_ h s' hs=>Kk Y.ad bz Ar CU (h _ _ V) (h _ _ V)) (Mn 29 V AC V V V (λ_ h s' hs=>Az Fw (h _ _ V) (ES 0 al V AV hs Y.hj)) (CL 30 V V ?_))))))));let⟨h8,be,gg⟩:=bs ge;obtain⟨_,rfl,gh⟩:=Cr a0 be;refine DM 31 a0.2 be Ak AE ?_;refine EA 32 false V AC V V V (λ_ h s' hs=>have hs:=hs V;Az A7 (h _ _ V) (ES 3 al V AV hs (gh 0 _ V))) (CL 33 V V (CL 34 V V ?_));let⟨h9,gt,gB⟩:=bs gg;obtain⟨ia,ih,_,rfl,gE,gO⟩:=Aq.Zr (P:=Tryz.prog) (b3.Aj ((a6.trans aj).trans ag)) gt;refine EA 35 true V AC V V V (λ_ h s' hs=>gO Ak AE (h _ _ V) (h _ _ V)) (I4 36 V AC V V V (λ_ h s' hs=>Az A7 (h _ _ V) (Eh (j:=0) gE hs V)) (Ai gB λaq g3 g4=>CG 37 true V V (λ_ h s' hs=>El (h _ _ V) (h _ _ V) g3) (DM 38 az.2 bb Ak AE ?_)));refine have a2:=D8 (x':=ap) (ws':=[iV ap]) az az.2 bb V;E3 39 2 al AE ⟨⟨0,_,V,V⟩,trivial⟩ a2.2 λg5=>?_;refine DM 40 a0.2 be Ak AE ?_;refine have a3:=D8 (x':=aq) (ws':=[iV aq]) a0 a0.2 be V;E3 41 3 g5 AE ⟨⟨0,_,V,V⟩,trivial⟩ a3.2 λg6=>?_;refine DG AC ?_;have ii:=(a2.1).1;have io:((aw.set (Int.toNat K.2) ap)).length=(aw).length:=(a2.1).2;refine FC [(2,.slice Z (p2).length dn),(4,.pointer (some ⟨ai,0,none⟩)),(7,.slice (some ⟨U,0,none⟩) (K.1).length (O).length),(9,iV K.2)] V ?_;have it:=(a3.1).1;have i0:((ay.set (Int.toNat K.2) aq)).length=(ay).length:=(a3.1).2;refine FC [(2,.slice Z (p2).length dn),(4,.pointer (some ⟨ai,0,none⟩)),(7,.slice (some ⟨U,0,none⟩) (K.1).length (O).length),(9,iV K.2)] V (let⟨g7,g8,ha⟩:=Y.close _ _ _ _ _ (BQ _) (a2.1).2 (a3.1).2 (a2.1).1 (a3.1).1;Cw (lf 0 1 2 3 V V V V AD g8) g6 λhb=>?_);have hc:((K.1.set (Int.toNat p1.1) (aw.set (Int.toNat K.2) ap)).set (Int.toNat p1.2.1) (ay.set (Int.toNat K.2) aq)).length=(K.1).length:=by rw[sW,sW]
    refine EU (L':=[(2,.slice Z (p2).length dn),(4,.pointer (some ⟨ai,0,none⟩)),(7,.slice (some ⟨U,0,none⟩) (((K.1.set (Int.toNat p1.1) (aw.set (Int.toNat K.2) ap)).set (Int.toNat p1.2.1) (ay.set (Int.toNat K.2) aq))).length (O).length),(9,iV K.2)]) ⟨V,V,by rw[hc];rfl,V,trivial⟩ (Ai g4 λhe hf hk=>C 3 V (Br hf V V V (C 2 V ?_)));cases hk;exact AF (eu _ _ (((K.1.set (Int.toNat p1.1) (aw.set (Int.toNat K.2) ap)).set (Int.toNat p1.2.1) (ay.set (Int.toNat K.2) aq)),he) ⟨av,g7,V,V,ag,hb,ha⟩ bw) V
   .refine A3 V ?_;cases ey;obtain rfl:=er _ bw;exact AF (eo _ _ ⟨av,a9,V,V,ag,ci,co⟩) V
 .intro hl;refine Ay (Cm dj (λL s I=>∃(a4:LH) (bg:Seg),Jn bi H a4 [bg] [(0,.slice a1 (p0).length c2),(2,.slice Z (p2).length dn),(4,.pointer (some ⟨ai,0,none⟩)),(7,.slice (some ⟨U,0,none⟩) (I.1).length (O).length),(8,iV I.2)] L s (Ct 28 3 rI a4 (some ⟨U,0,none⟩) (O).length bg (I.1))) ⟨bi,c9,V,V,(BQ _),dd,bn⟩ ?_);rintro _ _ I ⟨a4,bg,rfl,rfl,b0,ct,cw⟩ hm ⟨i1,b1⟩ hn;have cy:=b1;unfold OC at cy;refine C 5 V (BB Ar V V V (C 2 V (AW cy (λho hp=>?_) (λho hq=>?_))));refine C 6 V (Mo (pp:=rI) V V V Ak AE ct λi3 i4 hr hu=>Ai hp λhv hw hx=>C 2 V (B7 (c4.Aj (a6.trans b0)) hw Ar CU ?_));rintro hy hz _ ⟨hA,hB,rfl,hC⟩ hD;refine CX 0 hD Fw V V V (Ai hx λa5 hE hF=>HB 1 hE V V V V V V V Ak Ak AE (B3 A5) Ca V AD AD hr hC hu V λi5 i6 i7 hG hH=>Ai hF λi8 c0 hI=>let⟨i9,jg,ji,jj,jr,jt,jy,hJ,c3⟩:=Ct.rowOf cw c0;As V (λ_ h=>Kk c3.ad c0 Ar CU (h _ _ V) (h _ _ V)) (Xl 0 1 c3 hG hH (s7 some hJ) AD V CU V V V λhK hL hM=>?_));have b2:(I.1.set (Int.toNat I.2) a5).length=(I.1).length:=sW;refine EU (L':=[(0,.slice a1 (p0).length c2),(2,.slice Z (p2).length dn),(4,.pointer (some ⟨ai,0,none⟩)),(7,.slice (some ⟨U,0,none⟩) ((I.1.set (Int.toNat I.2) a5)).length (O).length),(8,iV I.2),(13,iV I.2),(14,.slice (some ⟨U,0,none⟩) ((I.1.set (Int.toNat I.2) a5)).length (O).length),(15,iV ((I.1).length:Int)),(16,.bool (decide (I.2<((I.1).length:Int)))),(19,.slice (some ⟨U,0,none⟩) ((I.1.set (Int.toNat I.2) a5)).length (O).length),(20,iV I.2),(22,.slice a1 (p0).length c2),(23,iV I.2),(24,.pointer (some ⟨hy,hz,none⟩)),(25,.slice hA (hv).length hB)]) ⟨V,V,V,by rw[b2];rfl,V,V,by rw[b2];rfl,V,V,by rw[b2];rfl,V,V,V,V,V,trivial⟩ (Ai hI λhN hO hP=>C 4 V (Br hO V V V (C 2 V ?_)));cases hP;exact AF (hn _ _ ((I.1.set (Int.toNat I.2) a5),hN) ⟨a4,hK,V,V,b0,hM,hL⟩ b1) V;refine A3 V ?_;cases hq;obtain rfl:=hm _ b1;exact AF (hl _ _ ⟨a4,bg,V,V,b0,ct,cw⟩) V
end Pal
