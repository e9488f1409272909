/- DebtPennies is true for every input: if all coins are one pound: a part (6 of 9) of the proof of its row. -/
import Derived.Test.YtkcbafbhngehjaaGreatPna
import Derived.Test.YtkcbafbhngehjaaGreatPnc
import Derived.Test.YtkcbafbhngehjaaGreatPne
set_option linter.all false
set_option maxRecDepth 100000
namespace Pal
theorem gK{x y z:DT}(h:Fi x z=true):Fi x y=true∨Fi y z=true:=by
 rw[NH] at h;by_cases q:Fi x y=true;exact .inl q;right;have q:=Jw.1 (pz.2 q);rw[NH];omega
theorem VN{x y:DT}(K:Fi x y=false)(O:Fi y x=false):x=y:=by
 have K:=Jw.1 K;have O:=Jw.1 O;refine sK (by omega) (sK (by omega) (by omega))
theorem Nv(x y:DT)(a b:List DT):BI (x::a) (y::b)=if x=y then BI a b else Fi x y:=rfl
theorem KL:∀a:List DT,BI a a=false
 | []=>rfl
 | x::a=>by rw[Nv,eS rfl];exact KL a
theorem Sw:∀{a b c:List DT},BI a c=true->BI a b=true∨BI b c=true
 | [],[],c,h=>.inr h
 | [],_::_,_,_=>.inl rfl
 | _::_,_,[],h=>by cases h
 | x::a,[],z::c,_=>.inr rfl
 | x::a,y::b,z::c,h=>by
  rw[Nv] at h ⊢
  rw[Nv]
  by_cases e:x=z
  .subst e
   rw[eS rfl] at h;by_cases K:x=y;subst K;rw[eS rfl,eS rfl];exact Sw h;rw[d9 K,d9 (λq=>K q.symm)];by_cases q:Fi x y=true;exact .inl q;right;refine qb λk=>K (VN (pz.2 q) (pz.2 k))
  .rw [d9 e] at h;by_cases K:x=y;subst K;rw[d9 e];exact .inr h;rw[d9 K];by_cases e2:y=z;subst e2;exact .inl h;rw[d9 e2];exact gK h
theorem Ki{a b c:List DT}(K:BI b a=false)(O:BI c b=false):BI c a=false:=by
 refine pz.2 λq=>?_;rcases Sw (b:=b) q with q | q;rw[O] at q;cases q;rw[K] at q;cases q
theorem eV{x y:DT}(h:Fi x y=true):Fi y x=false:=by rw[NH] at h;rw[Jw];omega
theorem Ke:∀{a b:List DT},BI a b=true->BI b a=false
 | [],[],h=>by cases h
 | [],_::_,_=>rfl
 | _::_,[],h=>by cases h
 | x::a,y::b,h=>by
  rw[Nv] at h ⊢
  by_cases e:x=y;subst e;rw[eS rfl] at h ⊢;exact Ke h;rw[d9 e] at h;rw[d9 (λq=>e q.symm)];exact eV h
structure RS (l l':LL) (a b:Nat):Prop where
 len:l'.length=l.length
 out:∀i,i<a∨b<=i->l'[i]?=l[i]?
 cls:∀P:List DT->Prop,(∀i x,a<=i->i<b->l[i]?=some x->P x)->∀i x,a<=i->i<b->l'[i]?=some x->P x
theorem RS.refl(l:LL)(a b:Nat):RS l l a b:=⟨V,λ_ _=>V,λ_ h=>h⟩
variable{a:Nat}
theorem RS.trans{l1 l2 K:LL}{b:Nat}(h:RS l1 l2 a b)(k:RS l2 K a b):RS l1 K a b:=
 ⟨k.len.trans h.len,λi hi=>(k.out i hi).trans (h.out i hi),λP O=>k.cls P (h.cls P O)⟩
variable{l l':LL}
theorem RS.wide{b dn b':Nat}(h:RS l l' a b)(ag:dn<=a)(hb:b<=b'):RS l l' dn b':=by
 refine⟨h.len,λi hi=>h.out i (by omega),λP U i x Y Z K=>?_⟩;by_cases q:a<=i/\i<b;exact h.cls P (λj y k1 ai ac=>U j y (by omega) (by omega) ac) i x q.1 q.2 K;rw[h.out i (by omega)] at K;exact U i x Y Z K
variable{j:Nat}
theorem RS.sw{b i:Nat}(hi:i<l.length)(U:j<l.length)(Y:a<=i/\i<b)(Z:a<=j/\j<b):RS l ((l.set i l[j]).set j l[i]) a b:=by
 refine⟨by rw[pE,pE],λq ag=>by rw[qa (by omega),qa (by omega)],λP O q x k1 ac K=>?_⟩;rw[p8] at K;by_cases e:j=q;subst e;rw[eS rfl,pE,eS U] at K;cases K;exact O i _ Y.1 Y.2 (d6 hi);rw[d9 e,p8] at K;by_cases e2:i=q;subst e2;rw[eS rfl,eS hi] at K;cases K;exact O j _ Z.1 Z.2 (d6 U);rw[d9 e2] at K;exact O q x k1 ac K
def DZ(l:LL)(a b:Nat):Prop:=∀i j x y,a<=i->i<j->j<b->l[i]?=some x->l[j]?=some y->BI y x=false
variable{F:Nat}
theorem SL.cm{L:LL}(Z:5000<F)(h:SL L l){i:Nat}(hi:i<l.length)(K:j<l.length):Ao (f74 F l[i] l[j]) (λc=>c<0↔BI l[i] l[j]=true):=by
 let⟨a1,O⟩:=h.ok hi;let⟨_,U⟩:=h.ok K;unfold f74;exact AG (Sb (by omega) a1 O U) (λc Y=>An Y)
structure Kt (l:LL) (a j k:Nat):Prop where
 rest:∀p q x y,a<=p->p<q->q<k->p≠j->q≠j->l[p]?=some x->l[q]?=some y->BI y x=false
 last:∀q x y,j<q->q<k->l[j]?=some x->l[q]?=some y->BI y x=false
theorem Ys{k:Nat}{L:LL}(aw:5000<F)(h:SL L l)(aq:j<k)(a3:k<=L.length)(av:a<=j)(Y:Kt l a j k):
  Ao (Pal.iter (Pd F (a:Int)) F ((j:Int),l)) (λr=>SL L r/\RS l r a k/\DZ r a k):=by
 have a4:=h.n;refine Fy (λm s=>∃j:Nat,s.1=(j:Int)/\j=m/\j<k/\a<=j/\SL L s.2/\RS l s.2 a k/\Kt s.2 a j k) ?_ (m:=j) ⟨j,V,V,aq,av,h,RS.refl _ _ _,Y⟩ (by omega);rintro _ ⟨_,l'⟩ ⟨j,rfl,rfl,aq,av,h,ap,Y⟩;simp only at h ap Y;have a5:=h.len;unfold Pd;refine AG (S:=λc=>(c=true->a<j/\∀x y,l'[j - 1]?=some x->l'[j]?=some y->BI y x=true)/\(c=false->a<j->∀x y,l'[j - 1]?=some x->l'[j]?=some y->BI y x=false)) ?_ ?_
 .refine Bs (λk=>?_) (λk=>An ⟨by simp,λ_ q=>by simp only at k;omega⟩);simp only at k ⊢;have Z:j<l'.length:=by omega
  have U:j - 1<l'.length:=by omega
  refine Bi (m:=j) V Z (Ao.E ((j - 1:Nat):Int) (by omega) ?_);refine Bi (m:=j - 1) V U (AG (h.cm aw Z U) (λc am=>An ⟨λq=>⟨by omega,λx y O K=>?_⟩,λq _ x y O K=>?_⟩));rw[d6 U] at O;rw[d6 Z] at K;cases O;cases K;exact am.1 (qM q);rw[d6 U] at O;rw[d6 Z] at K;cases O;cases K;exact pz.2 λz=>s3 q (am.2 z)
 .intro c ⟨am,ay⟩;refine Bs (λk=>?_) (λk=>An ⟨h,ap,?_⟩)
  .let⟨a6,az⟩:=am k;have Z:j<l'.length:=by omega
   have U:j - 1<l'.length:=by omega
   refine Ao.E ((j - 1:Nat):Int) (by simp only;omega) (Ao.E ((j - 1:Nat):Int) (by simp only;omega) ?_);refine Bi (m:=j - 1) V U (Bi (m:=j) V Z ?_);refine Bi (m:=j - 1) V (by rw[pE];simp only;omega) (Ao.E ((j - 1:Nat):Int) (by simp only;omega) ?_);refine An ⟨j - 1,by omega,j - 1,V,V,by omega,by omega,?_⟩;simp only[nn];have a0:=az _ _ (d6 U) (d6 Z);refine⟨h.sw Z U,ap.trans (RS.sw Z U (by omega) (by omega)),?_,?_⟩
   .intro p q x y ag ai al a7 a8 O K;have ex:((l'.set j l'[j - 1]).set (j - 1) l'[j])[p]?=if p=j then some l'[j - 1] else l'[p]? :=by
     rw[qa (by omega),p8];by_cases e:j=p;rw[eS e,eS (by omega),eS e.symm];rw[d9 e,d9 (λz=>e z.symm)]
    have a1:((l'.set j l'[j - 1]).set (j - 1) l'[j])[q]?=if q=j then some l'[j - 1] else l'[q]? :=by
     rw[qa (by omega),p8];by_cases e:j=q;rw[eS e,eS (by omega),eS e.symm];rw[d9 e,d9 (λz=>e z.symm)]
    rw[ex] at O;rw[a1] at K;by_cases ac:p=j;rw[eS ac] at O;rw[d9 (by omega)] at K;cases O;exact Y.rest (j - 1) q _ y (by omega) (by omega) al (by omega) (by omega) (d6 U) K;rw[d9 ac] at O;by_cases e2:q=j;rw[eS e2] at K;cases K;exact Y.rest p (j - 1) x _ ag (by omega) (by omega) ac (by omega) O (d6 U);rw[d9 e2] at K;exact Y.rest p q x y ag ai al ac e2 O K
   .intro q x y ag ai O K;rw[qh (by rw[pE];omega)] at O;cases O;rw[qa (by omega),p8] at K;by_cases e:j=q;rw[eS e,eS (by omega)] at K;cases K;exact Ke a0;rw[d9 e] at K;exact Y.last q _ y (by omega) ai (d6 Z) K
  .have k:c=false:=by simpa using k
   intro p q x y ag ai al O K;by_cases ac:p=j;subst ac;exact Y.last q x y ai al O K
   .by_cases e2:q=j
    .subst e2;have hb:=ay k (by omega);have U:q - 1<l'.length:=by omega
     by_cases a2:p=q - 1;subst a2;exact hb x y O K;exact Ki (Y.rest p (q - 1) x _ ag (by omega) (by omega) ac (by omega) O (d6 U)) (hb _ y (d6 U) K)
    .exact Y.rest p q x y ag ai al ac e2 O K
theorem Vj{b:Nat}{L:LL}(ac:5000<F)(h:SL L l)(hb:b<=L.length)(ai:a<=b):Ao (f137 F l (a:Int) (b:Int)) (λr=>SL L r/\RS l r a b/\DZ r a b):=by
 have al:=h.n;unfold f137;refine Ao.E ((a+1:Nat):Int) (by simp) ?_;refine AG (S:=λr=>SL L r/\RS l r a b/\DZ r a b) ?_ (λr ag=>An ag);refine Fy (λm s=>∃i:Nat,s.1=(i:Int)/\m=b+1 - i/\a<i/\SL L s.2/\RS l s.2 a b/\DZ s.2 a i) ?_ (m:=b - a) ⟨a+1,V,by omega,by omega,h,RS.refl _ _ _,λi j x y K O Z=>by omega⟩ (by omega);rintro _ ⟨_,l'⟩ ⟨i,rfl,rfl,hi,h,U,Y⟩;simp only at h U Y;unfold R1;refine Bs (λk=>?_) (λk=>An ⟨h,U,λp q x y K O Z=>Y p q x y K O (by simp only at k;omega)⟩);simp only at k ⊢;refine AG (Ys ac h (j:=i) (k:=i+1) (a:=a) (by omega) (by omega) (by omega) ⟨λp q x y K O Z am ap=>Y p q x y K O (by omega),λq x y K O=>by omega⟩) ?_;rintro r ⟨r1,r2,r3⟩;refine Ao.E ((i+1:Nat):Int) (by simp) ?_;exact An ⟨b+1 - (i+1),by omega,i+1,V,V,by omega,r1,U.trans (r2.wide (no _) (by omega)),r3⟩
variable{body:Int->Option (Bj Int Int)}
theorem XG{i:Nat}(A:Nat->Prop)(ag:5000<F)(ai:j<=1023)(al:i<=1030)(Z:∀q:Nat,i<=q->q<=j->Ao (body (q:Int)) (λr=>(r=.more ((q+1:Nat):Int)/\A q)∨(r=.done (q:Int)/\¬A q)))(he:∀q:Nat,j<q->body (q:Int)=some (.done (q:Int))):
  Ao (Pal.iter body F (i:Int)) (λr=>∃q:Nat,r=(q:Int)/\i<=q/\(q<=j+1∨q=i)/\(∀p,i<=p->p<q->A p)/\(q<=j->¬A q)):=by
 refine Fy (λm s=>∃q:Nat,s=(q:Int)/\m=1030 - q/\i<=q/\(q<=j+1∨q=i)/\∀p,i<=p->p<q->A p) ?_ (m:=1030 - i) ⟨i,V,V,no _,.inr V,λp K O=>by omega⟩ (by omega);rintro _ _ ⟨q,rfl,rfl,K,O,U⟩;rcases mt j q with k | k;rw[he q k];exact An ⟨q,V,K,O,U,λz=>by omega⟩
 refine(Z q K k).M ?_;rintro _ (⟨rfl,Y⟩ | ⟨rfl,Y⟩);refine⟨1030 - (q+1),by omega,q+1,V,V,by omega,.inl (by omega),λp k1 ac=>?_⟩;rcases s5 (Nat.le_of_lt_succ ac) with z | rfl;exact U p k1 z;exact Y;exact⟨q,V,K,O,U,λ_=>Y⟩
theorem XD{i:Nat}(A:Nat->Prop)(ag:5000<F)(ai:j<=1023)(hi:1<=i)(Z:∀q:Nat,i<=q->q<=j->Ao (body (q:Int)) (λr=>(r=.more ((q - 1:Nat):Int)/\A q)∨(r=.done (q:Int)/\¬A q)))(he:∀q:Nat,q<i->body (q:Int)=some (.done (q:Int))):
  Ao (Pal.iter body F (j:Int)) (λr=>∃q:Nat,r=(q:Int)/\q<=j/\(i<=q+1∨q=j)/\(∀p,q<p->p<=j->A p)/\(i<=q->¬A q)):=by
 refine Fy (λm s=>∃q:Nat,s=(q:Int)/\q=m/\q<=j/\(i<=q+1∨q=j)/\∀p,q<p->p<=j->A p) ?_ (m:=j) ⟨j,V,V,no _,.inr V,λp K O=>by omega⟩ (by omega);rintro _ _ ⟨q,rfl,rfl,K,O,U⟩;rcases mt q i with k | k;rw[he q k];exact An ⟨q,V,K,O,U,λz=>by omega⟩
 refine(Z q k K).M ?_;rintro _ (⟨rfl,Y⟩ | ⟨rfl,Y⟩);refine⟨q - 1,by omega,q - 1,V,V,by omega,.inl (by omega),λp k1 ac=>?_⟩;rcases s5 (show q<=p by omega) with z | rfl;exact U p z ac;exact Y;exact⟨q,V,K,O,U,λ_=>Y⟩
abbrev L9(l:LL)(P:List DT)(p:Nat):Prop:=∀x,l[p]?=some x->BI x P=true
abbrev Ma(l:LL)(P:List DT)(p:Nat):Prop:=∀x,l[p]?=some x->BI x P=false
theorem T1{i:Nat}{L:LL}{P:List DT}{y:Int}(U:5000<F)(h:SL L l)(ac:l[a]?=some P)(ai:j<L.length)(hi:i<=1030):
  Ao (Pal.iter (MG F (a:Int) (y,(j:Int),l)) F (i:Int)) (λr=>∃q:Nat,r=(q:Int)/\i<=q/\(q<=j+1∨q=i)/\(∀p,i<=p->p<q->L9 l P p)/\(q<=j->¬L9 l P q)):=by
 have al:=h.n;have am:=h.len;obtain⟨Y,rfl⟩:=fx.1 ac;refine XG (L9 l l[a]) U (by omega) hi (λq ag ap=>?_) λq ag=>?_
 .have K:q<l.length:=by omega
  unfold MG;refine AG (S:=λc=>c=true↔L9 l l[a] q) ?_ ?_;refine B3 (by simp only;omega) (Bi (m:=q) V K ?_);refine Bi (m:=a) V Y (AG (h.cm U K Y) (λc O=>An ?_));simp only[qw];rw[O];exact⟨λz x Z=>by rw[d6 K] at Z;cases Z;exact z,λz=>z _ (d6 K)⟩;intro c O;refine Bs (λk=>?_) (λk=>An (.inr ⟨V,λz=>k (O.2 z)⟩));exact Ao.E ((q+1:Nat):Int) (by simp) (An (.inl ⟨V,O.1 k⟩))
 .unfold MG;rw[d9 (by simp only;omega)];rfl
theorem TX{i:Nat}{L:LL}{P:List DT}{y z:Int}(U:5000<F)(h:SL L l)(ac:l[a]?=some P)(ai:j<L.length)(hi:1<=i):
  Ao (Pal.iter (MB F (a:Int) (y,z,l) (i:Int)) F (j:Int)) (λr=>∃q:Nat,r=(q:Int)/\q<=j/\(i<=q+1∨q=j)/\(∀p,q<p->p<=j->Ma l P p)/\(i<=q->¬Ma l P q)):=by
 have al:=h.n;have am:=h.len;obtain⟨Y,rfl⟩:=fx.1 ac;refine XD (Ma l l[a]) U (by omega) hi (λq ag ap=>?_) λq ag=>?_
 .have K:q<l.length:=by omega
  unfold MB;refine AG (S:=λc=>c=true↔Ma l l[a] q) ?_ ?_;refine B3 (by omega) (Bi (m:=q) V K ?_);refine Bi (m:=a) V Y (AG (h.cm U K Y) (λc O=>An ?_));simp only[qw];rw[O];exact⟨λz x Z=>by rw[d6 K] at Z;cases Z;exact pz.2 z,λz=>pz.1 (z _ (d6 K))⟩;intro c O;refine Bs (λk=>?_) (λk=>An (.inr ⟨V,λz=>k (O.2 z)⟩));exact Ao.E ((q - 1:Nat):Int) (by omega) (An (.inl ⟨V,O.1 k⟩))
 .unfold MB;rw[d9 (by omega)];rfl
theorem Fq{i:Nat}(hi:i<l.length)(K:j<l.length)(p:Nat):((l.set i l[j]).set j l[i])[p]?=if p=j then some l[i] else if p=i then some l[j] else l[p]? :=by
 rw[p8,pE];by_cases e:j=p;rw[eS e,eS K,eS e.symm];rw[d9 e,d9 (λz=>e z.symm),p8];by_cases e2:i=p;rw[eS e2,eS hi,eS e2.symm];rw[d9 e2,d9 (λz=>e2 z.symm)]
structure JJ (l:LL) (P:List DT) (a b i j:Nat):Prop where
 pv:l[a]?=some P
 lo:∀p,a<p->p<i->L9 l P p
 hi:∀p,j<p->p<b->Ma l P p
variable{q:Nat}
theorem JJ.sw{P:List DT}{b i p:Nat}(h:JJ l P a b i j)(U:p<l.length)(Y:q<l.length)(am:a<p)(ap:p<q)(aq:q<b)(ac:∀k,i<=k->k<p->L9 l P k)(ag:∀k,q<k->k<=j->Ma l P k)(ai:¬L9 l P p)(al:¬Ma l P q):
  JJ ((l.set p l[q]).set q l[p]) P a b (p+1) (q - 1):=by
 refine⟨by rw[Fq U Y,d9 (by omega),d9 (by omega)];exact h.pv,λk k1 Z x K=>?_,λk k1 Z x K=>?_⟩;rw[Fq U Y,d9 (by omega)] at K;by_cases e:k=p;rw[eS e] at K;cases K;refine qb λz=>al λy O=>?_;rw[d6 Y] at O;cases O;exact pz.2 z;rw[d9 e] at K;by_cases z:k<i;exact h.lo k k1 z x K;exact ac k (by omega) (by omega) x K;rw[Fq U Y] at K;by_cases e:k=q;rw[eS e] at K;cases K;refine pz.2 λz=>ai λy O=>?_;rw[d6 U] at O;cases O;exact z;rw[d9 e,d9 (by omega)] at K;by_cases z:j<k;exact h.hi k z Z x K;exact ag k (by omega) (by omega) x K
theorem YK{b i:Nat}{L:LL}{P:List DT}(Z:5000<F)(h:SL L l)(hb:b<=L.length)(a0:a<b)(hi:a<i)(ac:i<=b)(ag:a<=j)(ai:j<b)(al:i<=j+1)(K:JJ l P a b i j):
  Ao (Pal.iter (Po F (a:Int)) F ((i:Int),(j:Int),l)) (λr=>∃q:Nat,r.1=(q:Int)/\a<=q/\q<b/\SL L r.2/\RS l r.2 a b/\JJ r.2 P a b (q+1) q):=by
 have a1:=h.n;refine Fy (λm s=>∃i j:Nat,s.1=(i:Int)/\s.2.1=(j:Int)/\m=b - i/\a<i/\i<=b/\a<=j/\j<b/\i<=j+1/\SL L s.2.2/\RS l s.2.2 a b/\JJ s.2.2 P a b i j) ?_ (m:=b - i) ⟨i,j,V,V,V,hi,ac,ag,ai,al,h,RS.refl _ _ _,K⟩ (by omega);rintro _ ⟨_,_,l'⟩ ⟨i,j,rfl,rfl,rfl,hi,ac,ag,ai,al,h,Y,K⟩;simp only at h Y K;have a2:=h.len;unfold Po;refine AG (T1 Z h K.pv (by omega) (by omega)) ?_;rintro _ ⟨p,rfl,p1,p2,p3,p4⟩;refine AG (TX Z h K.pv (by omega) (by omega)) ?_;rintro _ ⟨q,rfl,a3,a4,am,ap⟩;refine Bs (λk=>An ⟨q,V,by omega,by omega,h,Y,K.pv,λk k1 aq=>?_,λk k1 aq=>?_⟩) (λk=>?_);by_cases z:k<i;exact K.lo _ k1 z;exact p3 _ (by omega) (by omega);by_cases z:j<k;exact K.hi _ z aq;exact am _ k1 (by omega)
 have a5:p≠q:=λe=>by
  subst e;have aw:=p4 (by omega);have ay:=ap (by omega);refine aw λx az=>qb λz=>ay λy av=>?_;rw[az] at av;cases av;exact pz.2 z
 have O:p<l'.length:=by omega
 have U:q<l'.length:=by omega
 refine Bi (m:=q) V U (Bi (m:=p) V O ?_);refine Ao.E ((p+1:Nat):Int) (by simp) (Ao.E ((q - 1:Nat):Int) (by omega) ?_);refine An ⟨b - (p+1),by omega,p+1,q - 1,V,V,V,by omega,by omega,by omega,by omega,by omega,?_⟩;simp only[nn];exact⟨h.sw O U,Y.trans (RS.sw O U (by omega) (by omega)),K.sw O U (by omega) (by omega) (by omega) p3 am (p4 (by omega)) (ap (by omega))⟩
def Part(l:LL)(a b m:Nat):Prop:=∃P,l[m]?=some P/\(∀p x,a<=p->p<m->l[p]?=some x->BI P x=false)/\∀p x,m<p->p<b->l[p]?=some x->BI x P=false
theorem JJ.fin{P:List DT}{b:Nat}(h:JJ l P a b (q+1) q)(ag:a<=q)(U:a<l.length)(Y:q<l.length):Part ((l.set q l[a]).set a l[q]) a b q:=by
 have O:=h.pv;rw[d6 U] at O;have O:=f5 O;refine⟨P,?_,λp x Z ac K=>?_,λp x Z ac K=>?_⟩;rw[Fq Y U];by_cases e:q=a;subst e;rw[eS rfl,O];rw[d9 e,eS rfl,O];rw[Fq Y U] at K;by_cases e:p=a;rw[eS e] at K;cases K;exact Ke (h.lo q (by omega) (by omega) _ (d6 Y));rw[d9 e,d9 (by omega)] at K;exact Ke (h.lo p (by omega) (by omega) x K);rw[Fq Y U,d9 (by omega),d9 (by omega)] at K;exact h.hi p Z ac x K
variable{v:Nat}
theorem aJ{b:Nat}{L:LL}(am:5000<F)(h:SL L l)(hb:b<=L.length)(bi:a+12<b)(bn:a<=v)(bo:v<b):
  Ao (f144 F l (a:Int) (b:Int) (v:Int)) (λr=>∃q:Nat,r.1=(q:Int)/\a<=q/\q<b/\SL L r.2.2/\RS l r.2.2 a b/\Part r.2.2 a b q):=by
 have bv:=h.n;have a2:=h.len;have U:a<l.length:=by omega
 have Y:v<l.length:=by omega
 unfold f144;refine Bi (m:=v) V Y (Bi (m:=a) V U ?_);refine Ao.E ((a+1:Nat):Int) (by simp) (Ao.E ((b - 1:Nat):Int) (by omega) ?_);simp only[nn];have O:=h.sw (i:=a) (j:=v) U Y;have aq:=RS.sw (a:=a) (b:=b) U Y (by omega) (by omega);have Z:((l.set a l[v]).set v l[a])[a]?=some l[v]:=by
  rw[Fq U Y];by_cases e:a=v;subst e;rw[eS rfl];rw[d9 e,eS rfl]
 have bw:((l.set a l[v]).set v l[a]).length=L.length:=by rw[pE,pE];exact a2
 have a3:∀x y:List DT,Sa F l (a:Int) (v:Int) x y ((b - 1:Nat):Int)=MG F (a:Int) (0,((b - 1:Nat):Int),(l.set a x).set v y):=λx y=>rfl;have a4:∀(x y:List DT) (z:Int),RB F l (a:Int) (v:Int) x y z=MB F (a:Int) (0,0,(l.set a x).set v y) z:=λx y z=>rfl;rw[a3];simp only[a4];generalize l[v]=x at*;generalize l[a]=y at*;generalize (l.set a x).set v y=l' at*;have a5:JJ l' x a b (a+1) (b - 1):=⟨Z,λp a6 O=>by omega,λp a6 O=>by omega⟩;have ac:a<l'.length:=by omega
 refine AG (T1 am O Z (by omega) (by omega)) ?_;rintro _ ⟨p,rfl,p1,p2,p3,p4⟩;refine AG (TX am O Z (by omega) (by omega)) ?_;rintro _ ⟨q,rfl,bx,bz,av,aw⟩;refine Bs (λk=>?_) (λk=>?_)
 .have K:q<l'.length:=by omega
  refine Bi (m:=a) V ac (Bi (m:=q) V K ?_);refine An ⟨q,V,by omega,by omega,?_⟩;simp only[nn];have a7:JJ l' x a b (q+1) q:=⟨Z,λk k1 a8=>p3 k (by omega) (by omega),λk k1 a8=>av k k1 (by omega)⟩;exact⟨O.sw K ac,aq.trans (RS.sw K ac (by omega) (by omega)),a7.fin (by omega) ac K⟩
 .have b0:p≠q:=λe=>by
   subst e;have a9:=p4 (by omega);have bb:=aw (by omega);refine a9 λx be=>qb λz=>bb λy ay=>?_;rw[be] at ay;cases ay;exact pz.2 z
  have ag:p<l'.length:=by omega
  have K:q<l'.length:=by omega
  refine Bi (m:=q) V K (Bi (m:=p) V ag ?_);refine Ao.E ((p+1:Nat):Int) (by simp) (Ao.E ((q - 1:Nat):Int) (by omega) ?_);simp only[nn];refine AG (YK am (O.sw ag K) hb (by omega) (by omega) (by omega) (by omega) (by omega) (by omega) (a5.sw ag K (by omega) (by omega) (by omega) p3 av (p4 (by omega)) (aw (by omega)))) ?_;rintro⟨_,az⟩ ⟨r,rfl,r1,r2,ap,a0,a1⟩;simp only at ap a0 a1;have b1:=ap.len;have ai:a<az.length:=by omega
  have al:r<az.length:=by omega
  refine Bi (m:=a) V ai (Bi (m:=r) V al ?_);refine An ⟨r,V,r1,r2,?_⟩;simp only[nn];exact⟨ap.sw al ai,((aq.trans (RS.sw ag K (by omega) (by omega))).trans a0).trans (RS.sw al ai (by omega) (by omega)),a1.fin r1 ai al⟩
abbrev Me(l:LL)(P:List DT)(p:Nat):Prop:=∀x,l[p]?=some x->BI P x=true
abbrev L8(l:LL)(P:List DT)(p:Nat):Prop:=∀x,l[p]?=some x->BI P x=false
theorem Yt{i:Nat}{L:LL}{P:List DT}{y:Int}(U:5000<F)(h:SL L l)(ac:l[a]?=some P)(ai:j<L.length)(hi:i<=1030):
  Ao (Pal.iter (NC F (a:Int) (y,(j:Int),l)) F (i:Int)) (λr=>∃q:Nat,r=(q:Int)/\i<=q/\(q<=j+1∨q=i)/\(∀p,i<=p->p<q->L8 l P p)/\(q<=j->¬L8 l P q)):=by
 have al:=h.n;have am:=h.len;obtain⟨Y,rfl⟩:=fx.1 ac;refine XG (L8 l l[a]) U (by omega) hi (λq ag ap=>?_) λq ag=>?_
 .have K:q<l.length:=by omega
  unfold NC;refine AG (S:=λc=>c=true↔L8 l l[a] q) ?_ ?_;refine B3 (by simp only;omega) (Bi (m:=a) V Y ?_);refine Bi (m:=q) V K (AG (h.cm U Y K) (λc O=>An ?_));simp only[qw];rw[O];exact⟨λz x Z=>by rw[d6 K] at Z;cases Z;exact pz.2 z,λz=>pz.1 (z _ (d6 K))⟩;intro c O;refine Bs (λk=>?_) (λk=>An (.inr ⟨V,λz=>k (O.2 z)⟩));exact Ao.E ((q+1:Nat):Int) (by simp) (An (.inl ⟨V,O.1 k⟩))
 .unfold NC;rw[d9 (by simp only;omega)];rfl
theorem YQ{i:Nat}{L:LL}{P:List DT}{y z:Int}(U:5000<F)(h:SL L l)(ac:l[a]?=some P)(ai:j<L.length)(hi:1<=i):
  Ao (Pal.iter (NI F (a:Int) (y,z,l) (i:Int)) F (j:Int)) (λr=>∃q:Nat,r=(q:Int)/\q<=j/\(i<=q+1∨q=j)/\(∀p,q<p->p<=j->Me l P p)/\(i<=q->¬Me l P q)):=by
 have al:=h.n;have am:=h.len;obtain⟨Y,rfl⟩:=fx.1 ac;refine XD (Me l l[a]) U (by omega) hi (λq ag ap=>?_) λq ag=>?_
 .have K:q<l.length:=by omega
  unfold NI;refine AG (S:=λc=>c=true↔Me l l[a] q) ?_ ?_;refine B3 (by omega) (Bi (m:=a) V Y ?_);refine Bi (m:=q) V K (AG (h.cm U Y K) (λc O=>An ?_));simp only[qw];rw[O];exact⟨λz x Z=>by rw[d6 K] at Z;cases Z;exact z,λz=>z _ (d6 K)⟩;intro c O;refine Bs (λk=>?_) (λk=>An (.inr ⟨V,λz=>k (O.2 z)⟩));exact Ao.E ((q - 1:Nat):Int) (by omega) (An (.inl ⟨V,O.1 k⟩))
 .unfold NI;rw[d9 (by omega)];rfl
structure Mc (l:LL) (P:List DT) (a b i j:Nat):Prop where
 pv:l[a]?=some P
 lo:∀p,a<p->p<i->L8 l P p
 hi:∀p,j<p->p<b->Me l P p
theorem Mc.sw{P:List DT}{b i p:Nat}(h:Mc l P a b i j)(U:p<l.length)(Y:q<l.length)(am:a<p)(ap:p<q)(aq:q<b)(ac:∀k,i<=k->k<p->L8 l P k)(ag:∀k,q<k->k<=j->Me l P k)(ai:¬L8 l P p)(al:¬Me l P q):
  Mc ((l.set p l[q]).set q l[p]) P a b (p+1) (q - 1):=by
 refine⟨by rw[Fq U Y,d9 (by omega),d9 (by omega)];exact h.pv,λk k1 Z x K=>?_,λk k1 Z x K=>?_⟩;rw[Fq U Y,d9 (by omega)] at K;by_cases e:k=p;rw[eS e] at K;cases K;refine pz.2 λz=>al λy O=>?_;rw[d6 Y] at O;cases O;exact z;rw[d9 e] at K;by_cases z:k<i;exact h.lo k k1 z x K;exact ac k (by omega) (by omega) x K;rw[Fq U Y] at K;by_cases e:k=q;rw[eS e] at K;cases K;refine qb λz=>ai λy O=>?_;rw[d6 U] at O;cases O;exact pz.2 z;rw[d9 e,d9 (by omega)] at K;by_cases z:j<k;exact h.hi k z Z x K;exact ag k (by omega) (by omega) x K
theorem Yu{b i:Nat}{L:LL}{P:List DT}(Z:5000<F)(h:SL L l)(hb:b<=L.length)(a0:a<b)(hi:a<i)(ac:i<=b)(ag:a<=j)(ai:j<b)(al:i<=j+1)(K:Mc l P a b i j):
  Ao (Pal.iter (O4 F (a:Int)) F ((i:Int),(j:Int),l)) (λr=>∃q:Nat,r.1=(q:Int)/\a<q/\q<=b/\SL L r.2/\RS l r.2 a b/\Mc r.2 P a b q (q - 1)):=by
 have a1:=h.n;refine Fy (λm s=>∃i j:Nat,s.1=(i:Int)/\s.2.1=(j:Int)/\m=b - i/\a<i/\i<=b/\a<=j/\j<b/\i<=j+1/\SL L s.2.2/\RS l s.2.2 a b/\Mc s.2.2 P a b i j) ?_ (m:=b - i) ⟨i,j,V,V,V,hi,ac,ag,ai,al,h,RS.refl _ _ _,K⟩ (by omega);rintro _ ⟨_,_,l'⟩ ⟨i,j,rfl,rfl,rfl,hi,ac,ag,ai,al,h,Y,K⟩;simp only at h Y K;have a2:=h.len;unfold O4;refine AG (Yt Z h K.pv (by omega) (by omega)) ?_;rintro _ ⟨p,rfl,p1,p2,p3,p4⟩;refine AG (YQ Z h K.pv (by omega) (by omega)) ?_;rintro _ ⟨q,rfl,a3,a4,am,ap⟩;refine Bs (λk=>An ⟨p,V,by omega,by omega,h,Y,K.pv,λk k1 aq=>?_,λk k1 aq=>?_⟩) (λk=>?_);by_cases z:k<i;exact K.lo _ k1 z;exact p3 _ (by omega) (by omega);by_cases z:j<k;exact K.hi _ z aq;exact am _ (by omega) (by omega)
 have a5:p≠q:=λe=>by
  subst e;have aw:=p4 (by omega);have ay:=ap (by omega);refine ay λx az=>qb λz=>aw λy av=>?_;rw[az] at av;cases av;exact pz.2 z
 have O:p<l'.length:=by omega
 have U:q<l'.length:=by omega
 refine Bi (m:=q) V U (Bi (m:=p) V O ?_);refine Ao.E ((p+1:Nat):Int) (by simp) (Ao.E ((q - 1:Nat):Int) (by omega) ?_);refine An ⟨b - (p+1),by omega,p+1,q - 1,V,V,V,by omega,by omega,by omega,by omega,by omega,?_⟩;simp only[nn];exact⟨h.sw O U,Y.trans (RS.sw O U (by omega) (by omega)),K.sw O U (by omega) (by omega) (by omega) p3 am (p4 (by omega)) (ap (by omega))⟩
theorem aM{b:Nat}{L:LL}(U:5000<F)(h:SL L l)(hb:b<=L.length)(am:a+12<b)(ap:a<=v)(aq:v<b):
  Ao (f143 F l (a:Int) (b:Int) (v:Int)) (λr=>∃q:Nat,r.1=(q:Int)/\a<q/\q<=b/\SL L r.2/\RS l r.2 a b/\∃P,l[v]?=some P/\Mc r.2 P a b q (q - 1)):=by
 have av:=h.n;have aw:=h.len;have O:a<l.length:=by omega
 have K:v<l.length:=by omega
 unfold f143;refine Bi (m:=v) V K (Bi (m:=a) V O ?_);refine Ao.E ((a+1:Nat):Int) (by simp) (Ao.E ((b - 1:Nat):Int) (by omega) ?_);simp only[nn];have Y:((l.set a l[v]).set v l[a])[a]?=some l[v]:=by
  rw[Fq O K];by_cases e:a=v;subst e;rw[eS rfl];rw[d9 e,eS rfl]
 refine AG (Yu U (h.sw (i:=a) (j:=v) O K) hb (by omega) (by omega) (by omega) (by omega) (by omega) (by omega) ⟨Y,λp Z ac=>by omega,λp Z ac=>by omega⟩) ?_;rintro r ⟨q,r1,r2,r3,ag,ai,al⟩;exact An ⟨q,r1,r2,r3,ag,(RS.sw O K (by omega) (by omega)).trans ai,l[v],d6 K,al⟩
theorem bG{b:Nat}{L:LL}(Z:5000<F)(h:SL L l)(hb:b<=L.length)(ac:a<b):Ao (f141 F l (a:Int) (b:Int)) (λr=>SL L r/\RS l r a b):=by
 have ag:=h.n;unfold f141;refine Ao.E ((b - 1:Nat):Int) (by omega) ?_;refine AG (S:=λr=>SL L r/\RS l r a b) ?_ (λr Y=>An Y);refine Fy (λm s=>∃i j:Nat,s.1=(i:Int)/\s.2.1=(j:Int)/\j=m/\j<b/\a<=i/\SL L s.2.2/\RS l s.2.2 a b) ?_ (m:=b - 1) ⟨a,b - 1,V,V,V,by omega,no _,h,RS.refl _ _ _⟩ (by omega);rintro _ ⟨_,_,l'⟩ ⟨i,j,rfl,rfl,rfl,ai,al,h,K⟩;simp only at h K;have am:=h.len;unfold RO;refine Bs (λk=>?_) (λk=>An ⟨h,K⟩);simp only at k ⊢;have O:i<l'.length:=by omega
 have U:j<l'.length:=by omega
 refine Bi (m:=j) V U (Bi (m:=i) V O ?_);refine Ao.E ((i+1:Nat):Int) (by simp) (Ao.E ((j - 1:Nat):Int) (by omega) ?_);refine An ⟨j - 1,by omega,i+1,j - 1,V,V,V,by omega,by omega,?_⟩;simp only[nn];exact⟨h.sw O U,K.trans (RS.sw O U (by omega) (by omega))⟩
def H2(l:LL)(a b:Nat):Prop:=∀p x y,0<a->a<=p->p<b->l[a - 1]?=some y->l[p]?=some x->BI x y=false
theorem H2.rs{b:Nat}(h:H2 l a b)(O:RS l l' a b):H2 l' a b:=λp x y Y Z ac U K=>by
 rw[O.out (a - 1) (by omega)] at U
 exact O.cls (λx=>BI x y=false) (λi x k1 ag K=>h i x y Y k1 ag U K) p x Z ac K
theorem Kt.step{l:LL}{a j k:Nat}(Z:Kt l a j k)(Y:j<l.length)(U:j - 1<l.length)(av:a<j)(am:BI l[j] l[j - 1]=true):Kt ((l.set j l[j - 1]).set (j - 1) l[j]) a (j - 1) k:=by
 refine⟨?_,?_⟩;intro p q x y ag ai al ap aq O K;rw[Fq Y U,d9 ap] at O;rw[Fq Y U,d9 aq] at K;by_cases ac:p=j;rw[eS ac] at O;rw[d9 (by omega)] at K;cases O;exact Z.rest (j - 1) q _ y (by omega) (by omega) al (by omega) (by omega) (d6 U) K;rw[d9 ac] at O;by_cases e2:q=j;rw[eS e2] at K;cases K;exact Z.rest p (j - 1) x _ ag (by omega) (by omega) ac (by omega) O (d6 U);rw[d9 e2] at K;exact Z.rest p q x y ag ai al ac e2 O K;intro q x y ag ai O K;rw[Fq Y U,eS rfl] at O;cases O;rw[Fq Y U,d9 (by omega)] at K;by_cases e:q=j;rw[eS e] at K;cases K;exact Ke am;rw[d9 e] at K;exact Z.last q _ y (by omega) ai (d6 Y) K
theorem Kt.fin{k:Nat}(U:Kt l a j k)(am:k<=l.length)(ap:j<k)(hb:a<j->∀x y,l[j - 1]?=some x->l[j]?=some y->BI y x=false):DZ l a k:=by
 intro p q x y Z ac ag K O;by_cases Y:p=j;subst Y;exact U.last q x y ac ag K O
 .by_cases e2:q=j
  .subst e2;have ai:q - 1<l.length:=by omega
   by_cases al:p=q - 1;subst al;exact hb (by omega) x y K O;exact Ki (U.rest p (q - 1) x _ Z (by omega) (by omega) Y (by omega) K (d6 ai)) (hb (by omega) _ y (d6 ai) O)
  .exact U.rest p q x y Z ac ag Y e2 K O
theorem YE{b k:Nat}{L:LL}(ap:5000<F)(h:SL L l)(hb:b<=L.length)(aq:k<=b)(Z:j<k)(ag:a<=j)(U:Kt l a j k)(av:H2 l a b):
  Ao (Pal.iter (Pe F) F ((j:Int),l)) (λr=>SL L r/\RS l r a k/\DZ r a k):=by
 have az:=h.n;refine Fy (λm s=>∃j:Nat,s.1=(j:Int)/\j=m/\j<k/\a<=j/\SL L s.2/\RS l s.2 a k/\Kt s.2 a j k) ?_ (m:=j) ⟨j,V,V,Z,ag,h,RS.refl _ _ _,U⟩ (by omega);rintro _ ⟨_,l'⟩ ⟨j,rfl,rfl,Z,ag,h,Y,U⟩;simp only at h Y U;have a0:=h.len;have aw:=av.rs (Y.wide (no _) aq);unfold Pe;refine Bs (λk1=>?_) (λk1=>An ⟨h,Y,U.fin (by omega) Z λz=>by simp only at k1;omega⟩);simp only at k1 ⊢;have O:j<l'.length:=by omega
 have K:j - 1<l'.length:=by omega
 refine Bi (m:=j) V O (Ao.E ((j - 1:Nat):Int) (by omega) ?_);refine Bi (m:=j - 1) V K (AG (h.cm ap O K) ?_);intro z ai;refine Bs (λq=>An ⟨h,Y,U.fin (by omega) Z λ_ x y al am=>?_⟩) (λq=>?_);rw[d6 K] at al;rw[d6 O] at am;cases al;cases am;exact pz.2 λw=>q (ai.2 w)
 have ac:=ai.1 (tJ q);have ay:a<j:=by
  refine qb λw=>?_;have:j=a:=by omega
  subst this;rw[aw j _ _ (by omega) (no _) (by omega) (d6 K) (d6 O)] at ac;cases ac
 refine Ao.E ((j - 1:Nat):Int) (by omega) (Ao.E ((j - 1:Nat):Int) (by omega) ?_);refine Bi (m:=j - 1) V K (Bi (m:=j - 1) V (by rw[pE];omega) ?_);refine Ao.E ((j - 1:Nat):Int) (by omega) (An ⟨j - 1,by omega,j - 1,V,V,by omega,by omega,?_⟩);simp only[nn];exact⟨h.sw O K,Y.trans (RS.sw O K (by omega) (by omega)),U.step O K ay ac⟩
theorem Yx{i b:Nat}{L:LL}(Y:5000<F)(h:SL L l)(hb:b<=L.length)(Z:q<i):Ao (Pal.iter (Pl F (b:Int)) F ((i:Int),l)) (λr=>SL L r/\RS l r q b):=by
 have ac:=h.n;refine Fy (λm s=>∃j:Nat,s.1=(j:Int)/\m=b - j/\q<j/\SL L s.2/\RS l s.2 q b) ?_ (m:=b - i) ⟨i,V,V,Z,h,RS.refl _ _ _⟩ (by omega);rintro _ ⟨_,l'⟩ ⟨j,rfl,rfl,ag,h,O⟩;simp only at h O;have ai:=h.len;unfold Pl;refine Bs (λk=>?_) (λk=>An ⟨h,O⟩);simp only at k ⊢;have U:j<l'.length:=by omega
 have K:j - 1<l'.length:=by omega
 refine Bi (m:=j) V U (Ao.E ((j - 1:Nat):Int) (by omega) ?_);refine Bi (m:=j - 1) V K (AG (h.cmp Y U K) ?_);intro z _;refine Bs (λ_=>An ⟨h,O⟩) (λ_=>?_);refine Ao.E ((j - 1:Nat):Int) (by omega) (Ao.E ((j - 1:Nat):Int) (by omega) ?_);refine Bi (m:=j - 1) V K (Bi (m:=j - 1) V (by rw[pE];omega) ?_);refine Ao.E ((j+1:Nat):Int) (by simp) (An ⟨b - (j+1),by omega,j+1,V,V,by omega,?_⟩);simp only[nn];exact⟨h.sw U K,O.trans (RS.sw U K (by omega) (by omega))⟩
theorem Yp{b i:Nat}{L:LL}{u v:Int}(am:5000<F)(h:SL L l)(hb:b<=L.length)(ay:a<i)(ap:i<=b)(Y:DZ l a i):
  Ao (Pal.iter (Pj F (b:Int) (u,v,l)) F (i:Int)) (λr=>∃q:Nat,r=(q:Int)/\i<=q/\q<=b/\DZ l a q):=by
 have az:=h.n;have a0:=h.len;refine Fy (λm s=>∃q:Nat,s=(q:Int)/\m=b - q/\i<=q/\q<=b/\DZ l a q) ?_ (m:=b - i) ⟨i,V,V,no _,ap,Y⟩ (by omega);rintro _ _ ⟨q,rfl,rfl,aq,av,Y⟩;unfold Pj;refine AG (S:=λc=>c=true->q<b/\∀x y,l[q - 1]?=some x->l[q]?=some y->BI y x=false) ?_ ?_
 .refine Bs (λk=>?_) (λk=>An (by simp));have ac:q<l.length:=by omega
  have K:q - 1<l.length:=by omega
  refine Bi (m:=q) V ac (Ao.E ((q - 1:Nat):Int) (by omega) ?_);refine Bi (m:=q - 1) V K (AG (h.cm am ac K) (λc ag=>An (λz=>⟨by omega,λx y O U=>?_⟩)));rw[d6 K] at O;rw[d6 ac] at U;cases O;cases U;exact pz.2 λw=>qM z (ag.2 w)
 intro c ag;refine Bs (λk=>?_) (λk=>An ⟨q,V,aq,av,Y⟩);let⟨a1,ai⟩:=ag k;refine Ao.E ((q+1:Nat):Int) (by simp) (An ⟨b - (q+1),by omega,q+1,V,V,by omega,by omega,λp Z x y al g2 a2 O U=>?_⟩);by_cases e:Z=q
 .subst e;have K:Z - 1<l.length:=by omega
  by_cases aw:p=Z - 1;subst aw;exact ai x y O U;exact Ki (Y p (Z - 1) x _ al (by omega) (by omega) O (d6 K)) (ai _ y (d6 K) U)
 .exact Y p Z x y al g2 (by omega) O U
theorem ab{b:Nat}{L:LL}(av:5000<F)(h:SL L l)(hb:b<=L.length)(bn:a<b)(a7:H2 l a b):Ao (f142 F l (a:Int) (b:Int)) (λr=>SL L r.2/\RS l r.2 a b/\(r.1=true->DZ r.2 a b)):=by
 have bo:=h.n;unfold f142;refine Ao.E ((a+1:Nat):Int) (by simp) ?_;refine AG (S:=λr=>∃l',SL L l'/\RS l l' a b/\((r=Sum.inl (true,l')/\DZ l' a b)∨r=Sum.inl (false,l')∨r=Sum.inr l')) ?_ ?_
 .refine Fy (λm s=>∃i c:Nat,s.1=(i:Int)/\s.2.1=(c:Int)/\m=5 - c/\a<i/\i<=b/\SL L s.2.2/\RS l s.2.2 a b/\DZ s.2.2 a i) ?_ (m:=5) ⟨a+1,0,V,V,V,by omega,by omega,h,RS.refl _ _ _,λp q x y a0 a1 aw=>by omega⟩ (by omega);rintro _ ⟨_,_,l'⟩ ⟨i,c,rfl,rfl,rfl,a0,a1,h,K,al⟩;simp only at h K al;have bv:=h.len;unfold R9;refine Bs (λk=>?_) (λk=>An ⟨l',h,K,.inr (.inr V)⟩);simp only at k ⊢;refine AG (Yp (l:=l') av h hb a0 a1 al) ?_;rintro _ ⟨q,rfl,bw,a8,a2⟩;refine Bs (λe=>An ⟨l',h,K,.inl ⟨V,(show q=b by omega)▸a2⟩⟩) (λbx=>?_);refine Ao.E ((b - a:Nat):Int) (by omega) (Bs (λ_=>An ⟨l',h,K,.inr (.inl V)⟩) (λ_=>?_));have U:q<l'.length:=by omega
  have Y:q - 1<l'.length:=by omega
  refine Ao.E ((q - 1:Nat):Int) (by omega) (Ao.E ((q - 1:Nat):Int) (by omega) ?_);refine Bi (m:=q - 1) V Y (Bi (m:=q) V U ?_);refine Bi (m:=q - 1) V (by rw[pE];omega) (Ao.E ((q - a:Nat):Int) (by omega) ?_);simp only[nn];have aw:=h.sw (i:=q) (j:=q - 1) U Y;have ay:=K.trans (RS.sw (a:=a) (b:=b) U Y (by omega) (by omega));have a9:=a7.rs ay;refine AG (S:=λam=>SL L am/\RS l am a b/\DZ am a q) ?_ ?_;refine Bs (λa3=>?_) (λa3=>An ⟨aw,ay,λp Z x y ac g2 ap=>by omega⟩);refine Ao.E ((q - 1:Nat):Int) (by omega) (AG (YE (k:=q) av aw hb (by omega) (by omega) (by omega) ⟨λp Z x y ac g2 ap bz b0 ag ai=>?_,λp x y ac g2=>by omega⟩ a9) (λr O=>An ⟨O.1,ay.trans (O.2.1.wide (no _) (by omega)),O.2.2⟩));rw[Fq U Y,d9 (by omega),d9 (by omega)] at ag;rw[Fq U Y,d9 (by omega),d9 (by omega)] at ai;exact a2 p Z x y ac g2 ap ag ai
  rintro am ⟨a4,a5,a6⟩;refine Ao.E ((b - q:Nat):Int) (by omega) (AG (S:=λaq=>SL L aq/\RS l aq a b/\DZ aq a q) ?_ ?_);refine Bs (λa3=>?_) (λ_=>An ⟨a4,a5,a6⟩);refine Ao.E ((q+1:Nat):Int) (by simp) (AG (Yx (q:=q) av a4 hb (by omega)) (λr O=>An ⟨O.1,a5.trans (O.2.wide (by omega) (no _)),λp Z x y ac g2 ap ag ai=>?_⟩));rw[O.2.out p (by omega)] at ag;rw[O.2.out Z (by omega)] at ai;exact a6 p Z x y ac g2 ap ag ai
  rintro aq ⟨bb,be,bi⟩;exact Ao.E ((c+1:Nat):Int) (by simp) (An ⟨5 - (c+1),by omega,q,c+1,V,V,V,by omega,a8,bb,be,bi⟩)
 .rintro _ ⟨l',az,K,⟨rfl,al⟩ | rfl | rfl⟩;exact An ⟨az,K,λ_=>al⟩;exact An ⟨az,K,λz=>by cases z⟩;exact An ⟨az,K,λz=>by cases z⟩
theorem aY{b:Nat}{L:LL}(ag:5000<F)(h:SL L l)(hb:b<=L.length)(ai:a+12<b):Ao (f139 F l (a:Int) (b:Int)) (λr=>SL L r/\RS l r a b):=by
 have al:=h.n;unfold f139;refine Ao.E ((b - a:Nat):Int) (by omega) ?_;refine AG (S:=λr=>SL L r/\RS l r a b) ?_ (λr K=>An K);refine B3 (by omega) ?_;obtain⟨M,Z,am,ap,aq⟩:=cV (F:=F) (n:=b - a) (by omega) (by omega);refine Bg Z ?_;refine Bg (quo (k:=4) (by omega) (by omega)) ?_;refine Ao.E (((b - a)/4*2:Nat):Int) (by omega) ?_;refine Ao.E ((a+(b - a)/4*2:Nat):Int) (by omega) ?_;refine Ao.E ((a+(b - a)/4*2 - 1:Nat):Int) (by omega) ?_;refine AG (S:=λr=>SL L r.1/\RS l r.1 a b) ?_ (λr K=>An K);refine Fy (λm s=>∃i:Nat,s.2.1=(i:Int)/\m=L.length - i/\a<=i/\SL L s.2.2/\RS l s.2.2 a b) ?_ (m:=L.length - (a+(b - a)/4*2 - 1)) ⟨_,V,V,by omega,h,RS.refl _ _ _⟩ (by omega);rintro _ ⟨w,_,l'⟩ ⟨i,rfl,rfl,av,h,O⟩;simp only at h O;have aw:=h.len;unfold R3;refine Bg (quo (k:=4) (by omega) (by omega)) ?_;refine Ao.E (((b - a)/4*2:Nat):Int) (by omega) ?_;refine Ao.E ((a+(b - a)/4*2:Nat):Int) (by omega) ?_;refine Ao.E ((a+(b - a)/4*2+1:Nat):Int) (by omega) ?_;refine Bs (λk=>?_) (λk=>An ⟨h,O⟩);simp only at k;have hi:i<b:=by omega
 obtain⟨v,w',ev⟩:∃v w',Qs F w=some (v,w'):=⟨_,_,V⟩;refine Bg ev ?_
 dsimp only;generalize K:(v&&& (M+18446744073709551615)%2^64)%2^64=r;have ay:r<M:=by
  rw[← K];refine q4 (Nat.mod_le _ _) ?_;have e:(M+18446744073709551615)%2^64=M - 1:=by omega
  rw[e];exact q4 Nat.and_le_right (by omega)
 rw[gu (by omega)];refine AG (S:=λz=>∃q:Nat,z=(q:Int)/\q<b - a) ?_ ?_;refine Bs (λac=>?_) (λac=>An ⟨r,V,by omega⟩);exact Ao.E ((r - (b - a):Nat):Int) (by omega) (An ⟨r - (b - a),V,by omega⟩)
 rintro _ ⟨q,rfl,az⟩;have U:i<l'.length:=by omega
 have Y:a+q<l'.length:=by omega
 refine Ao.E ((a+q:Nat):Int) (by simp) (Ao.E ((a+q:Nat):Int) (by simp) ?_);refine Bi (m:=a+q) V Y (Bi (m:=i) V U ?_);refine Bi (m:=a+q) V (by rw[pE];omega) (Ao.E ((i+1:Nat):Int) (by simp) ?_);refine An ⟨L.length - (i+1),by omega,i+1,V,V,by omega,?_⟩;simp only[nn];exact⟨h.sw U Y,O.trans (RS.sw U Y (by omega) (by omega))⟩
def Hp(l:LL)(fi lo hi:Nat):Prop:=∀i c x y,lo<=i->(c=2*i+1∨c=2*i+2)->c<hi->l[fi+i]?=some x->l[fi+c]?=some y->BI x y=false
structure Nb (l:LL) (fi lo hi i:Nat):Prop where
 rest:∀j c x y,lo<=j->j≠i->(c=2*j+1∨c=2*j+2)->c<hi->l[fi+j]?=some x->l[fi+c]?=some y->BI x y=false
 over:∀j c x y,lo<=j->(i=2*j+1∨i=2*j+2)->(c=2*i+1∨c=2*i+2)->c<hi->l[fi+j]?=some x->l[fi+c]?=some y->BI x y=false
variable{fi hi lo:Nat}
theorem Nb.down{i:Nat}(h:Nb l fi lo hi i)(aq:fi+hi<=l.length)(av:lo<=i)(aw:i<hi)(ai:q=2*i+1∨q=2*i+2)(al:q<hi)(Z:fi+i<l.length)(U:fi+q<l.length)(am:BI l[fi+i] l[fi+q]=true)
  (ap:∀c y,(c=2*i+1∨c=2*i+2)->c<hi->l[fi+c]?=some y->BI l[fi+q] y=false):Nb ((l.set (fi+i) l[fi+q]).set (fi+q) l[fi+i]) fi lo hi q:=by
 have ay:fi+i≠fi+q:=by omega
 refine⟨λj c x y ag g2 Y ac O K=>?_,λj c x y ag g2 Y ac O K=>?_⟩;rw[Fq Z U,d9 (by omega)] at O;rw[Fq Z U] at K;by_cases e:j=i;subst e;rw[eS rfl] at O;cases O;by_cases e2:c=q;subst e2;rw[eS rfl] at K;cases K;exact Ke am;rw[d9 (by omega),d9 (by omega)] at K;exact ap c y Y ac K;rw[d9 (by omega)] at O;rw[d9 (by omega)] at K;by_cases e2:c=i;subst e2;rw[eS rfl] at K;cases K;exact h.over j q x _ ag Y ai al O (d6 U);rw[d9 (by omega)] at K;exact h.rest j c x y ag e Y ac O K
 .have:j=i:=by omega
  subst this;rw[Fq Z U,d9 (by omega),eS rfl] at O;cases O;rw[Fq Z U,d9 (by omega),d9 (by omega)] at K;exact h.rest q c _ y (by omega) (by omega) Y ac (d6 U) K
theorem Vm{L:LL}(aq:5000<F)(h:SL L l)(hh:fi+hi<=L.length)(a9:lo<=1024)(ac:Nb l fi lo hi lo):Ao (M3 F l (lo:Int) (hi:Int) (fi:Int)) (λr=>SL L r/\RS l r fi (fi+hi)/\Hp r fi lo hi):=by
 have bb:=h.n;unfold M3;refine AG (S:=λr=>∃l',(r=Sum.inl l'∨r=Sum.inr l')/\SL L l'/\RS l l' fi (fi+hi)/\Hp l' fi lo hi) ?_ (λr ⟨l',a0,av⟩=>by rcases a0 with rfl | rfl<;>exact An av);by_cases be:hi<=lo;refine Fy (λm s=>s=((lo:Int),l)) ?_ (m:=0) V (by omega);rintro _ _ rfl;unfold O8;refine Lr _ V (by simp only;omega) (by simp only;omega) (Lr _ V (by simp only;omega) (by simp only;omega) ?_);exact B3 (by simp only;omega) (An ⟨l,.inr V,h,RS.refl _ _ _,λi c x y U g2 ag=>by omega⟩)
 refine Fy (λm s=>∃i:Nat,s.1=(i:Int)/\m=hi - i/\lo<=i/\i<hi/\SL L s.2/\RS l s.2 fi (fi+hi)/\Nb s.2 fi lo hi i) ?_ (m:=hi - lo) ⟨lo,V,V,no _,by omega,h,RS.refl _ _ _,ac⟩ (by omega);rintro _ ⟨_,l'⟩ ⟨i,rfl,rfl,a1,a2,h,al,ac⟩;simp only at h al ac;have av:=h.len;unfold O8;refine Ao.E ((2*i:Nat):Int) (by simp) (Ao.E ((2*i+1:Nat):Int) (by simp) ?_);refine Bs (λk=>An ⟨l',.inr V,h,al,λj c x y U g2 ag O K=>?_⟩) (λk=>?_);exact ac.rest j c x y U (by omega) g2 ag O K
 refine Ao.E ((2*i+1+1:Nat):Int) (by simp) ?_;have am:fi+(2*i+1)<l'.length:=by omega
 refine AG (S:=λc=>(c=true->2*i+2<hi/\∀x y,l'[fi+(2*i+1)]?=some x->l'[fi+(2*i+2)]?=some y->BI x y=true)/\(c=false->2*i+2<hi->∀x y,l'[fi+(2*i+1)]?=some x->l'[fi+(2*i+2)]?=some y->BI x y=false)) ?_ ?_
 .refine Bs (λai=>?_) (λai=>An ⟨by simp,λ_ z=>by omega⟩);have ap:fi+(2*i+1)+1<l'.length:=by omega
  refine Ao.E ((fi+(2*i+1):Nat):Int) (by simp) (Bi (m:=fi+(2*i+1)) V am ?_);refine Ao.E ((fi+(2*i+1):Nat):Int) (by simp) (Ao.E ((fi+(2*i+1)+1:Nat):Int) (by simp) ?_);refine Bi (m:=fi+(2*i+1)+1) V ap (AG (h.cm aq am ap) (λc aw=>An ⟨λz=>⟨by omega,λx y O K=>?_⟩,λz _ x y O K=>?_⟩));rw[d6 am] at O;rw[show fi+(2*i+2)=fi+(2*i+1)+1 by omega,d6 ap] at K;cases O;cases K;exact aw.1 (qM z);rw[d6 am] at O;rw[show fi+(2*i+2)=fi+(2*i+1)+1 by omega,d6 ap] at K;cases O;cases K;exact pz.2 λw=>s3 z (aw.2 w)
 rintro c ⟨a3,a4⟩;refine AG (S:=λz=>∃q:Nat,z=(q:Int)/\(q=2*i+1∨q=2*i+2)/\q<hi/\∀c x y,(c=2*i+1∨c=2*i+2)->c<hi->l'[fi+q]?=some x->l'[fi+c]?=some y->BI x y=false) ?_ ?_;refine Bs (λai=>?_) (λai=>An ⟨2*i+1,V,.inl V,by omega,λa5 x y U g2 O K=>?_⟩);let⟨bi,a6⟩:=a3 ai;refine Ao.E ((2*i+1+1:Nat):Int) (by simp) (An ⟨2*i+1+1,V,.inr V,by omega,λa5 x y U g2 O K=>?_⟩);rcases U with rfl | rfl;exact Ke (a6 y x K O);have:x=y:=f5 (O.symm.trans K);subst this;exact KL x;rcases U with rfl | rfl;have:x=y:=f5 (O.symm.trans K);subst this;exact KL x;exact a4 (by simpa using ai) g2 x y O K
 rintro _ ⟨q,rfl,a7,a8,ay⟩;have Y:fi+i<l'.length:=by omega
 have Z:fi+q<l'.length:=by omega
 refine Ao.E ((fi+i:Nat):Int) (by simp) (Bi (m:=fi+i) V Y ?_);refine Ao.E ((fi+q:Nat):Int) (by simp) (Bi (m:=fi+q) V Z ?_);refine AG (h.cm aq Y Z) ?_;intro z az;refine Bs (λw=>An ⟨l',.inl V,h,al,λj c x y U g2 ag O K=>?_⟩) (λw=>?_);by_cases e:j=i;subst e;rw[d6 Y] at O;cases O;exact Ki (ay c _ y g2 ag (d6 Z) K) (pz.2 λw2=>w (az.2 w2));exact ac.rest j c x y U e g2 ag O K
 refine Ao.E ((fi+i:Nat):Int) (by simp) (Ao.E ((fi+q:Nat):Int) (by simp) ?_);refine Ao.E ((fi+q:Nat):Int) (by simp) (Bi (m:=fi+q) V Z ?_);refine Ao.E ((fi+i:Nat):Int) (by simp) (Bi (m:=fi+i) V Y ?_);refine Bi (m:=fi+i) V Y (Bi (m:=fi+q) V (by rw[pE];omega) ?_);refine An ⟨hi - q,by omega,q,V,V,by omega,by omega,?_⟩;simp only[nn];exact⟨h.sw Y Z,al.trans (RS.sw Y Z (by omega) (by omega)),ac.down (by omega) a1 a2 a7 a8 Y Z (az.1 (tJ w)) λc y U g2 K=>ay c _ y U g2 (d6 Z) K⟩
theorem Hp.root(h:Hp l fi 0 hi)(ac:fi+hi<=l.length):∀p x y,p<hi->l[fi]?=some x->l[fi+p]?=some y->BI x y=false:=by
 intro p
 induction p using Nat.strongRecOn with
 | _ p Y=>
  intro x y Z O K;rcases qo p with rfl | ag;rw[qq,O] at K;cases K;exact KL x
  .have U:fi+(p - 1)/2<l.length:=by omega
   exact Ki (h ((p - 1)/2) p _ y (qc _) (by omega) Z (d6 U) K) (Y ((p - 1)/2) (by omega) x _ (by omega) O (d6 U))
theorem aj{b:Nat}{L:LL}(aw:5000<F)(h:SL L l)(hb:b<=L.length)(a7:a<b):Ao (f138 F l (a:Int) (b:Int)) (λr=>SL L r/\RS l r a b/\DZ r a b):=by
 have a8:=h.n;unfold f138;refine Ao.E ((b - a:Nat):Int) (by omega) ?_;refine Ao.E ((b - a - 1:Nat):Int) (by omega) ?_;refine Bg (quo (k:=2) (by omega) (by omega)) ?_;refine AG (S:=λr=>SL L r/\RS l r a b/\Hp r a 0 (b - a)) ?_ ?_;refine Fy (λm s=>∃i:Nat,s.1=(i:Int) - 1/\i=m/\i<=b - a/\SL L s.2/\RS l s.2 a b/\Hp s.2 a i (b - a)) ?_ (m:=(b - a - 1)/2+1) ⟨(b - a - 1)/2+1,by simp only;omega,V,by omega,h,RS.refl _ _ _,λi c x y ag g2 Y=>by omega⟩ (by omega);rintro _ ⟨_,l'⟩ ⟨i,rfl,rfl,hi,h,Z,ac⟩;simp only at h Z ac;unfold RI;refine Bs (λk=>?_) (λk=>An ⟨h,Z,(show i=0 by simp only at k;omega)▸ac⟩);simp only at k ⊢;rw[show(i:Int) - 1=((i - 1:Nat):Int) by omega];refine AG (Vm aw h (lo:=i - 1) (hi:=b - a) (fi:=a) (by omega) (by omega) ⟨λj c x y ag g2 Y ap=>ac j c x y (by omega) Y ap,λj c x y ag g2=>by omega⟩) ?_;rintro r ⟨r1,r2,r3⟩;exact Ao.E (((i - 1:Nat):Int) - 1) V (An ⟨i - 1,by omega,i - 1,V,V,by omega,r1,Z.trans (r2.wide (no _) (by omega)),r3⟩)
 .rintro l0 ⟨az,a0,a1⟩;refine Ao.E ((b - a - 1:Nat):Int) (by omega) (AG (S:=λr=>SL L r/\RS l r a b/\DZ r a b) ?_ (λr a2=>An a2));refine Fy (λm s=>∃i:Nat,s.1=(i:Int) - 1/\i=m/\i<=b - a/\SL L s.2/\RS l s.2 a b/\Hp s.2 a 0 i/\DZ s.2 (a+i) b/\∀p q x y,a<=p->p<a+i->a+i<=q->q<b->s.2[p]?=some x->s.2[q]?=some y->BI y x=false) ?_ (m:=b - a) ⟨b - a,by simp only;omega,V,by omega,az,a0,a1,λp q x y ag g2 Y=>by omega,λp q x y ag g2 Y ap=>by omega⟩ (by omega);rintro _ ⟨_,l'⟩ ⟨i,rfl,rfl,hi,h,Z,ac,am,aq⟩;simp only at h Z ac am aq;have a9:=h.len;unfold R8;refine Bs (λk=>?_) (λk=>An ⟨h,Z,by rw[show i=0 by simp only at k;omega] at am;exact am⟩);simp only at k ⊢;rw[show(i:Int) - 1=((i - 1:Nat):Int) by omega];have ai:a<l'.length:=by omega
  have al:a+(i - 1)<l'.length:=by omega
  refine Ao.E ((a+(i - 1):Nat):Int) (by omega) (Ao.E ((a+(i - 1):Nat):Int) (by omega) ?_);refine Bi (m:=a+(i - 1)) V al (Bi (m:=a) V ai ?_);refine Bi (m:=a+(i - 1)) V (by rw[pE];omega) ?_;simp only[nn];have a3:=h.sw (i:=a) (j:=a+(i - 1)) ai al;have a4:=ac.root (by omega);have g2:=λp=>Fq (l:=l') ai al p;have a5:Nb ((l'.set a l'[a+(i - 1)]).set (a+(i - 1)) l'[a]) a 0 (i - 1) 0:=by
   refine⟨λj c x y _ ag Y ap K O=>?_,λj c x y ag Y=>by omega⟩;rw[g2,d9 (by omega),d9 (by omega)] at K;rw[g2,d9 (by omega),d9 (by omega)] at O;exact ac j c x y (qc _) Y (by omega) K O
  refine AG (Vm aw a3 (lo:=0) (hi:=i - 1) (fi:=a) (by omega) (by omega) a5) ?_;rintro r ⟨r1,r2,r3⟩;refine Ao.E (((i - 1:Nat):Int) - 1) V ?_;have old:∀(Q:List DT->Prop),(∀p x,a<=p->p<a+i->l'[p]?=some x->Q x)->∀p x,a<=p->p<a+(i - 1)->r[p]?=some x->Q x:=λQ ay=>r2.cls Q λp x k1 U K=>by
   rw[g2,d9 (by omega)] at K;by_cases e:p=a;rw[eS e] at K;cases K;exact ay (a+(i - 1)) _ (by omega) (by omega) (d6 al);rw[d9 e] at K;exact ay p x k1 (by omega) K
  have top:r[a+(i - 1)]?=some l'[a]:=by rw[r2.out _ (by omega),g2,eS rfl]
  have bk:∀q,a+i<=q->r[q]?=l'[q]? :=λq bb=>by rw[r2.out q (by omega),g2,d9 (by omega),d9 (by omega)]
  refine An ⟨i - 1,by omega,i - 1,V,V,by omega,r1,(Z.trans (RS.sw ai al (by omega) (by omega))).trans (r2.wide (no _) (by omega)),r3,?_,?_⟩;intro p q x y k1 U av K O;simp only at K O;rw[bk q (by omega)] at O;by_cases e:p=a+(i - 1);subst e;rw[top] at K;cases K;exact aq a q _ y (no _) (by omega) (by omega) av (d6 ai) O;rw[bk p (by omega)] at K;exact am p q x y (by omega) U av K O
  .intro p q x y k1 U av a6 K O;simp only at K O;by_cases e:q=a+(i - 1)
   .subst e;rw[top] at O;cases O;exact old (λx=>BI l'[a] x=false) (λp x k1 U K=>by
     have:=a4 (p - a) l'[a] x (by omega) (d6 ai) (by rw[show a+(p - a)=p by omega];exact K)
     exact this) p x k1 U K
   .rw [bk q (by omega)] at O;exact old (λx=>BI y x=false) (λp x k1 U K=>aq p q x y k1 U (by omega) a6 K O) p x k1 U K
theorem DZ.join{r:LL}{b:Nat}{P:List DT}(Z:r[q]?=some P)(ac:∀p x,a<=p->p<q->r[p]?=some x->BI P x=false)(ag:∀p x,q<p->p<b->r[p]?=some x->BI x P=false)(ai:DZ r a q)(al:DZ r (q+1) b):DZ r a b:=by
 intro i j x y k1 U Y K O;by_cases am:j<q;exact ai i j x y k1 U am K O
 by_cases e2:q<i;exact al i j x y e2 U Y K O
 by_cases ap:i=q;subst ap;rw[Z] at K;cases K;exact ag j y U Y O
 by_cases aq:j=q;subst aq;rw[Z] at O;cases O;exact ac i x k1 U K
 exact Ki (ac i x k1 (by omega) K) (ag j y (by omega) Y O)
theorem VW{P x y:List DT}(K:BI P x=true)(O:BI P y=false):BI x y=false:=by
 rcases Sw (b:=y) K with q | q;rw[O] at q;cases q;exact Ke q
def Ji(L l:LL)(a b:Nat)(r:LL):Prop:=SL L r/\RS l r a b/\DZ r a b
theorem Zy{N:Nat}{rec:LL->Int->Int->Int->Option LL}{L:LL}(al:5000<F)(b1:∀(l:LL) (a b:Nat) (k:Int),SL L l->H2 l a b->a<=b->b<=L.length->2*(b - a)<N->0<=k->k<=100->Ao (rec l (a:Int) (b:Int) k) (Ji L l a b))
  {ai ag:Nat}{k:Int}{l0:LL}(h:SL L l0) (a1:H2 l0 ai ag) (bv:ai<=ag) (hb:ag<=L.length) (b2:ag - ai<N) (bi:0<=k) (bn:k<=100):Ao (LA rec F l0 (ai:Int) (ag:Int) k) (Ji L l0 ai ag):=by
 have ea:=h.n;unfold LA;refine AG (S:=λr=>∃l',Ji L l0 ai ag l'/\r=Sum.inl l') ?_ ?_
 .refine Fy (λm s=>∃a b:Nat,s.1=(a:Int)/\s.2.1=(b:Int)/\m=b - a/\a<=b/\b<=L.length/\b - a<N/\0<=s.2.2.1/\s.2.2.1<=100/\SL L s.2.2.2.2.2/\H2 s.2.2.2.2.2 a b/\∀r,SL L r->RS s.2.2.2.2.2 r a b->DZ r a b->Ji L l0 ai ag r) ?_ (m:=ag - ai) ⟨ai,ag,V,V,V,bv,hb,b2,bi,bn,h,a1,λr co aw a2=>⟨co,aw,a2⟩⟩ (by omega);rintro _ ⟨_,_,k,t1,t2,l⟩ ⟨a,b,rfl,rfl,rfl,bv,hb,b2,bi,bn,h,a1,hW⟩;simp only at h bi bn a1 hW;have eb:=h.len;unfold OM;simp only;refine AG (S:=λr=>(∃l',Ji L l0 ai ag l'/\r=Sum.inl l')∨∃(ac b':Nat) (k':Int) (b3 b4:Bool) (l':LL),r=Sum.inr ((ac:Int),(b':Int),k',b3,b4,l')/\b' - ac<b - a/\ac<=b'/\b'<=L.length/\0<=k'/\k'<=100/\SL L l'/\H2 l' ac b'/\∀r,SL L r->RS l' r ac b'->DZ r ac b'->Ji L l0 ai ag r) ?_ ?_
  .refine Ao.E ((b - a:Nat):Int) (by omega) (Bs (λc=>?_) (λc=>?_));exact AG (Vj al h hb bv) (λr Z=>An (.inl ⟨r,hW r Z.1 Z.2.1 Z.2.2,V⟩))
   refine Bs (λc2=>?_) (λc2=>?_);exact AG (aj al h hb (by omega)) (λr Z=>An (.inl ⟨r,hW r Z.1 Z.2.1 Z.2.2,V⟩))
   refine AG (S:=λr=>0<=r.1/\r.1<=100/\SL L r.2/\RS l r.2 a b) ?_ ?_;refine Bs (λ_=>?_) (λ_=>An ⟨bi,bn,h,RS.refl _ _ _⟩);refine AG (aY al h hb (by omega)) ?_;intro r Z;exact Ao.E (k - 1) V (An ⟨by simp only;omega,by simp only;omega,Z.1,Z.2⟩)
   rintro⟨O,l2⟩ ⟨a3,g2,aw,bw⟩;simp only at a3 g2 aw bw ⊢;refine AG (cW al aw hb (by omega)) ?_;rintro⟨_,hint⟩ ⟨v,rfl,v1,v2⟩;simp only;refine AG (S:=λr=>∃v:Nat,r.1=(v:Int)/\a<=v/\v<b/\SL L r.2.2/\RS l r.2.2 a b) ?_ ?_;refine Bs (λ_=>?_) (λ_=>An ⟨v,V,v1,v2,aw,bw⟩);refine AG (bG al aw hb (by omega)) ?_;intro r Z;refine Ao.E ((b - 1:Nat):Int) (by omega) (Ao.E ((v - a:Nat):Int) (by omega) ?_);exact Ao.E ((b - 1 - (v - a):Nat):Int) (by omega) (An ⟨_,V,by omega,by omega,Z.1,bw.trans Z.2⟩)
   rintro⟨_,ec,ed⟩ ⟨v,rfl,v1,v2,a2,a4⟩;simp only at a2 a4 ⊢;refine AG (S:=λ_=>True) (Bs (λ_=>An trivial) (λ_=>An trivial)) ?_;intro z1 _;refine AG (S:=λ_=>True) (Bs (λ_=>An trivial) (λ_=>An trivial)) ?_;intro ee _;refine AG (S:=λr=>∃l',SL L l'/\RS l l' a b/\((r=Sum.inl l'/\DZ l' a b)∨r=Sum.inr l')) ?_ ?_;refine Bs (λ_=>?_) (λ_=>An ⟨_,a2,a4,.inr V⟩);refine AG (ab al a2 hb (by omega) (a1.rs a4)) ?_;intro r Z;exact Bs (λz=>An ⟨_,Z.1,a4.trans Z.2.1,.inl ⟨V,Z.2.2 z⟩⟩) (λ_=>An ⟨_,Z.1,a4.trans Z.2.1,.inr V⟩)
   rintro _ ⟨ay,a5,a6,⟨rfl,cp⟩ | rfl⟩;exact An (.inl ⟨ay,hW ay a5 a6 cp,V⟩)
   have ef:=a5.len;have b5:=a1.rs a6;simp only[Sum.elim_inr];have bx:v<ay.length:=by omega
   refine AG (S:=λc=>c=true->0<a/\∀w,ay[a - 1]?=some w->BI w ay[v]=false) ?_ ?_
   .refine Bs (λc3=>?_) (λ_=>An (by simp));have az:a - 1<ay.length:=by omega
    refine Ao.E ((a - 1:Nat):Int) (by omega) (Bi (m:=a - 1) V az ?_);refine Bi (m:=v) V bx (AG (a5.cm al az bx) (λc ct=>An λz=>⟨by omega,λw hw=>?_⟩));rw[d6 az] at hw;cases hw;exact pz.2 λw2=>qM z (ct.2 w2)
   intro eg cw;refine Bs (λz=>?_) (λ_=>?_)
   .let⟨cy,c0⟩:=cw z;refine AG (aM al a5 hb (by omega) v1 v2) ?_;rintro⟨_,aq⟩ ⟨q,rfl,b6,c1,av,am,P,ap,a7⟩;simp only at av am a7 ⊢;rw[d6 bx] at ap;have ap:=f5 ap;have ej:=av.len;have low:∀p x,a<=p->p<q->aq[p]?=some x->BI P x=false:=λp x k1 O K=>by
     by_cases e:p=a;subst e;rw[a7.pv] at K;cases K;exact KL _;exact a7.lo p (by omega) O x K
    have bz:=b5.rs am;refine An (.inr ⟨q,b,O,t1,t2,aq,V,by omega,by omega,hb,a3,g2,av,λp x y _ k1 O U K=>?_,λr a8 Y a9=>hW r a8 ((a6.trans am).trans (Y.wide (by omega) (no _))) ?_⟩);exact VW (a7.hi p (by omega) O x K) (low (q - 1) y (by omega) (by omega) U)
    .intro i j x y k1 O a0 K U;by_cases c5:q<=i;exact a9 i j x y c5 O a0 K U
     rw[Y.out i (by omega)] at K;by_cases e2:j<q
     .rw [Y.out j (by omega)] at U;have az:a - 1<aq.length:=by omega
      have ca:=am.out (a - 1) (by omega);rw[d6 az] at ca;have cc:=c0 _ ca.symm;rw[ap] at cc;exact Ki (Ki (low i x k1 (by omega) K) cc) (bz j y _ cy (by omega) (by omega) (d6 az) U)
     .exact VW (Y.cls (λy=>BI P y=true) (λp x k1 O K=>a7.hi p (by omega) O x K) j y (by omega) a0 U) (low i x k1 (by omega) K)
   .refine AG (aJ al a5 hb (by omega) v1 v2) ?_;rintro⟨_,t3,aq⟩ ⟨q,rfl,b6,c1,av,am,P,ap,b0,bo⟩;simp only at av am ap b0 bo ⊢;have bz:=b5.rs am;have ce:H2 aq a q:=λp x y bb k1 O=>bz p x y bb k1 (by omega);have ci:H2 aq (q+1) b:=λp x y _ k1 O U K=>by
     rw[Nat.add_sub_cancel,ap] at U;cases U;exact bo p x (by omega) O K
    refine Ao.E ((q - a:Nat):Int) (by omega) (Ao.E ((b - q:Nat):Int) (by omega) ?_);refine Bg (quo (k:=8) (by omega) (by omega)) (AG (S:=λr=>∃(ac b':Nat),r.1=(ac:Int)/\r.2.1=(b':Int)/\b' - ac<b - a/\ac<=b'/\b'<=L.length/\SL L r.2.2.2/\H2 r.2.2.2 ac b'/\∀z,SL L z->RS r.2.2.2 z ac b'->DZ z ac b'->Ji L l0 ai ag z) ?_ ?_);refine Bs (λc4=>?_) (λc4=>?_);refine AG (b1 aq a q O av ce b6 (by omega) (by omega) a3 g2) ?_;rintro r ⟨r1,r2,r3⟩;refine Ao.E ((q+1:Nat):Int) (by simp) (An ⟨q+1,b,V,V,by omega,by omega,hb,r1,λp x y bb k1 O U K=>?_,λz a8 Y a9=>hW z a8 (((a6.trans am).trans (r2.wide (no _) (by omega))).trans (Y.wide (by omega) (no _))) ?_⟩);simp only at K U;rw[r2.out _ (by omega)] at K;rw[r2.out _ (by omega)] at U;exact ci p x y bb k1 O U K;simp only at Y;refine DZ.join (q:=q) (P:=P) (by rw[Y.out q (by omega),r2.out q (by omega)];exact ap) (λp x k1 O K=>?_) (λp x k1 O K=>?_) (λi j x y k1 O a0 K U=>?_) a9;rw[Y.out p (by omega)] at K;exact r2.cls (λx=>BI P x=false) b0 p x k1 O K;exact Y.cls (λx=>BI x P=false) (λp x k1 O K=>by rw[r2.out p (by omega)] at K;exact bo p x (by omega) O K) p x k1 O K;rw[Y.out i (by omega)] at K;rw[Y.out j (by omega)] at U;exact r3 i j x y k1 O a0 K U;refine Ao.E ((q+1:Nat):Int) (by simp) (AG (b1 aq (q+1) b O av ci (by omega) hb (by omega) a3 g2) ?_);rintro r ⟨r1,r2,r3⟩;refine An ⟨a,q,V,V,by omega,by omega,by omega,r1,λp x y bb k1 O U K=>?_,λz a8 Y a9=>hW z a8 (((a6.trans am).trans (r2.wide (by omega) (no _))).trans (Y.wide (no _) (by omega))) ?_⟩;simp only at K U;rw[r2.out _ (by omega)] at K;rw[r2.out _ (by omega)] at U;exact ce p x y bb k1 O U K;simp only at Y;refine DZ.join (q:=q) (P:=P) (by rw[Y.out q (by omega),r2.out q (by omega)];exact ap) (λp x k1 O K=>?_) (λp x k1 O K=>?_) a9 (λi j x y k1 O a0 K U=>?_);exact Y.cls (λx=>BI P x=false) (λp x k1 O K=>by rw[r2.out p (by omega)] at K;exact b0 p x k1 O K) p x k1 O K;rw[Y.out p (by omega)] at K;exact r2.cls (λx=>BI x P=false) (λp x k1 O K=>bo p x (by omega) O K) p x k1 O K;rw[Y.out i (by omega)] at K;rw[Y.out j (by omega)] at U;exact r3 i j x y k1 O a0 K U
    rintro⟨_,_,t4,c6⟩ ⟨ac,b',rfl,rfl,d1,d2,d3,c7,c8,c9⟩;exact An (.inr ⟨ac,b',O,t4,t3,c6,V,d1,d2,d3,a3,g2,c7,c8,c9⟩)
  .rintro _ (⟨l',be,rfl⟩ | ⟨ac,b',k',b3,b4,l',rfl,d1,d2,d3,d4,d5,be,dd,dj⟩);exact An ⟨l',be,V⟩;exact An ⟨b' - ac,d1,ac,b',V,V,V,d2,d3,by omega,d4,d5,be,dd,dj⟩
 .rintro _ ⟨l',be,rfl⟩;exact An be
theorem Ug{F:Nat}{L:LL}(K:5000<F):∀(N:Nat) (l:LL) (a b:Nat) (k:Int),SL L l->H2 l a b->a<=b->b<=L.length->b - a<2*2^N->0<=k->k<=100->Ao (LB (N+1) F l (a:Int) (b:Int) k) (Ji L l a b)
 | 0,l,a,b,k,h,Y,O,hb,Z,ac,ag=>by
  unfold LB LA
  have ay:=h.n
  refine AG (S:=λr=>∃l',Ji L l a b l'/\r=Sum.inl l') ?_ ?_
  .refine Fy (λm s=>s=((a:Int),(b:Int),k,true,true,l)) ?_ (m:=0) V (by omega)
   rintro _ _ rfl;unfold OM;refine AG (S:=λr=>∃l',Ji L l a b l'/\r=Sum.inl l') ?_ ?_;refine Ao.E ((b - a:Nat):Int) (by simp only;omega) (B3 (by omega) ?_);exact AG (Vj K h hb O) (λr ai=>An ⟨r,ai,V⟩);rintro _ ⟨l',U,rfl⟩;exact An ⟨l',U,V⟩
  .rintro _ ⟨l',U,rfl⟩;exact An U
 | N+1,l,a,b,k,h,Y,O,hb,Z,ac,ag=>by
  unfold LB;exact Zy (N:=2*2^(N+1)) K (λl a b k al am g2 ap aq av aw=>Ug K N l a b k al am g2 ap (by rw[sR] at aq;omega) av aw) h Y O hb Z ac ag
theorem cG(O:5000<F)(Z:l.length<=1023)(U:∀s∈l,s.length<=40/\∀d∈s,BD d):Ao (f76 F l) (λr=>l.Perm r/\DZ r 0 r.length):=by
 unfold f76;have h:=pJ.1 dq l.length (pw.2 (by omega));split at h;rename_i m e;have:=qM h;refine Bg ((gb F _).trans e) ?_;have Y:=Ug (F:=F) (L:=l) O 9 l 0 l.length m ⟨q5 _,U,by omega⟩ (λp x y ac=>by omega) (by omega) (no _) (by omega) this.1 this.2;refine AG (S:=Ji l l 0 l.length) ?_ (λr K=>An ⟨K.1.p,by rw[K.2.1.len];exact K.2.2⟩);exact Y;cases h
theorem VU:∀{a b:List DT},BI a b=false->BI b a=false->a=b
 | [],[],_,_=>rfl
 | [],_::_,h,_=>by cases h
 | _::_,[],_,h=>by cases h
 | x::a,y::b,K,O=>by
  rw[Nv] at K O
  by_cases e:x=y;subst e;rw[eS rfl] at K O;rw[VU K O];rw[d9 e] at K;rw[d9 (λq=>e q.symm)] at O;exact absurd (VN K O) e
theorem Yz{x y:List DT}(K:x∈l)(O:y∈l)(U:∀z∈l,BI z x=false)(Y:∀z∈l,BI z y=false):x=y:=VU (Y x K) (U y O)
open Go Go.Conc
variable {κ ν:Type}
variable {pk:Rp κ}{pv:Rp ν}{ka va:Bool}{E E' H:LH}
variable {P:Program}{s:St}{t tm te:TypeId}{X:Halt->St->Prop}{bk:Nat}{o:Obj}{xs:List (κ×ν)}{w:Value}{v0:ν}
section
variable [DecidableEq κ]
theorem KG(x y:κ)(v:ν):∀xs:List (κ×ν),A8 (Ce xs x v) y=if y=x then some v else A8 xs y
 | []=>by
  unfold Ce A8
  by_cases h:y=x;rw[eS h];simp[h];rw[d9 h];simp[h]
 | z::U=>by
  have Y:=KG x y v U;unfold Ce;by_cases h:x=z.1;rw[eS h];by_cases K:y=x;rw[eS K];unfold A8;simp[K];rw[d9 K];unfold A8;rw[rh (by simpa using K),rh (by simpa using λe=>K (e.trans h.symm))]
  .rw [d9 h];by_cases O:y=z.1;rw[d9 (λe=>h (e.symm.trans O))];unfold A8;simp[O]
   .have:A8 (z::Ce U x v) y=A8 (Ce U x v) y:=by unfold A8;rw[rh (by simpa using O)]
    rw[this,Y];by_cases K:y=x;rw[eS K,eS K];rw[d9 K,d9 K];unfold A8;rw[rh (by simpa using O)]
open Classical in
variable {k:Value}{x:κ}
end
variable {J:Judge P}{Q:Gs_}{b:Frame}{n:Nat}{ds:Ld_}{ops:Ao_}{kk:Li_}{cs:Lf_}{L:Env}{S:List Seg}{fuel:Nat}{listed:Array Bool}
variable {u ty e:TypeId}{p:String}{af:Ae_}{g:On_}{rest:List Nat}{zv:Value}{x0:κ}{z0:ν}
section
variable [DecidableEq κ]
variable {m:Nat}
variable {d:Option Tmp}{x y z:Operand}{i:Nat}{k:Value}
end
end Pal
namespace Pal
abbrev CF:=Nat->Nat->Int
abbrev PU:=List (List (Int×Int))
def FL(C:CF)(x y c:Nat):CF:=λa b=>C a b - (if a=x/\b=c then 1 else 0)+(if a=y/\b=c then 1 else 0)
def Gy(C:CF)(x y:Nat)(v:Nat->Nat):CF:=λa b=>C a b - (if a=x then(v b:Int) else 0)+(if a=y then(v b:Int) else 0)
def wS(v:Nat->Nat):Nat:=v 1+2*v 2+3*v 3+4*v 4+5*v 5+6*v 6+7*v 7+8*v 8+9*v 9
def Ti(v:Nat->Nat)(lo:Nat):Prop:=∀b,v b≠0->lo<=b/\b<=9
def DW(C:CF)(d:DT)(K:CF):Prop:=∃v,Ti v 1/\(∀b,(v b:Int)<=C d.1.toNat b)/\(wS v:Int)=d.2.2/\K=Gy C d.1.toNat d.2.1.toNat v
inductive HP (x y:Nat):Nat->Nat->CF->CF->Prop
 | done {lo:Nat}{C:CF}:HP x y lo 0 C C
 | step {lo left c:Nat}{C K:CF}:lo<=c->c<=9->c<=left->0<C x c->HP x y c (left - c) (FL C x y c) K->HP x y lo left C K
def Na(v:Nat->Nat)(c:Nat):Nat->Nat:=λb=>if b=c then v b+1 else v b
def L6(v:Nat->Nat)(c:Nat):Nat->Nat:=λb=>if b=c then v b - 1 else v b
variable{v:Nat->Nat}
theorem cv{c:Nat}(K:1<=c)(O:c<=9):wS (Na v c)=wS v+c:=by
 have:c=1∨c=2∨c=3∨c=4∨c=5∨c=6∨c=7∨c=8∨c=9:=by omega
 rcases this with rfl | rfl | rfl | rfl | rfl | rfl | rfl | rfl | rfl<;>simp[wS,Na]<;>omega
theorem Z6{c:Nat}(K:1<=c)(O:c<=9)(U:0<v c):wS (L6 v c)+c=wS v:=by
 have:c=1∨c=2∨c=3∨c=4∨c=5∨c=6∨c=7∨c=8∨c=9:=by omega
 rcases this with rfl | rfl | rfl | rfl | rfl | rfl | rfl | rfl | rfl<;>simp[wS,L6]<;>omega
variable{C K:CF}
theorem fO{x y:Nat}(Z:x≠y){lo left:Nat}(h:HP x y lo left C K):1<=lo->(∀b,0<=C x b)->∃v,Ti v lo/\(∀b,(v b:Int)<=C x b)/\wS v=left/\K=Gy C x y v:=by
 induction h with
 | @done lo C=>
  intro _ O;exact⟨λ_=>0,λb hb=>absurd V hb,λb=>by simpa using O b,V,by funext a b;simp[Gy]⟩
 | @step lo left c C K al ac am ap _ ag=>
  intro aq O;obtain⟨v,v1,v2,ai,v4⟩:=ag (by omega) (λb=>by
   have:=O b
   unfold FL
   by_cases e:b=c;subst e;simp[Z];omega
   .simp [e];omega)
  refine⟨Na v c,λb hb=>?_,λb=>?_,?_,?_⟩;unfold Na at hb;by_cases e:b=c;omega;rw[d9 e] at hb;have:=v1 b hb;omega;have:=v2 b;unfold FL at this;unfold Na;by_cases e:b=c;subst e;simp[Z] at this;simp;omega;simp[e] at this;simp[e];omega;rw[cv (by omega) ac,ai];omega;rw[v4];funext a b;unfold Gy FL Na;by_cases e:b=c;by_cases U:a=x<;>by_cases Y:a=y<;>simp[e,U,Y]<;>omega;by_cases U:a=x<;>by_cases Y:a=y<;>simp[e,U,Y]
theorem Uf(v:Nat->Nat):∀k,(∃b,b<k/\v b≠0)->∃c,c<k/\v c≠0/\∀b,b<c->v b=0
 | 0,⟨b,hb,_⟩=>by omega
 | k+1,⟨b,hb,K⟩=>by
  by_cases h:∃b,b<k/\v b≠0
  .let⟨c,Z,U,Y⟩:=Uf v k h
   exact⟨c,by omega,U,Y⟩
  .have O:∀b,b<k->v b=0:=λb hb=>qb λq=>h ⟨b,hb,q⟩;have:b=k:=by
    rcases mt b k with q | q;exact absurd (O b q) K;omega
   subst this;exact⟨b,by omega,K,O⟩
theorem eJ{x y:Nat}(ag:x≠y):∀(left lo:Nat) (C:CF) (v:Nat->Nat),1<=lo->Ti v lo->(∀b,(v b:Int)<=C x b)->wS v=left->HP x y lo left C (Gy C x y v):=by
 intro left
 induction left using Nat.strongRecOn with
 | _ left ai=>
  intro lo C v am O Z hw;by_cases ac:left=0
  .subst ac;have K:v=λ_=>0:=by
    funext b;by_cases hb:1<=b/\b<=9
    .unfold wS at hw;have:b=1∨b=2∨b=3∨b=4∨b=5∨b=6∨b=7∨b=8∨b=9:=by omega
     rcases this with rfl | rfl | rfl | rfl | rfl | rfl | rfl | rfl | rfl<;>omega
    .exact qb λq=>hb (by have:=O b q;omega)
   have e:Gy C x y v=C:=by subst K;funext a b;simp[Gy]
   rw[e];exact .done
  .have hex:∃b,b<10/\v b≠0:=by
    refine qb λq=>ac ?_;have K:∀b,b<10->v b=0:=λb hb=>qb λr=>q ⟨b,hb,r⟩;rw[← hw];unfold wS;rw[K 1,K 2,K 3,K 4,K 5,K 6,K 7,K 8,K 9]<;>omega
   let⟨c,c1,c2,c3⟩:=Uf v 10 hex;let⟨s1,s2⟩:=O c c2;have ap:=Z6 (v:=v) (c:=c) (by omega) s2 (by omega);have al:=ai (left - c) (by omega) c (FL C x y c) (L6 v c) (by omega) (λb hb=>?_) (λb=>?_) (by omega)
   .refine .step (c:=c) s1 s2 (by omega) (by have:=Z c;omega) ?_;have e:Gy (FL C x y c) x y (L6 v c)=Gy C x y v:=by
     funext a b;unfold Gy FL L6;by_cases e:b=c;by_cases U:a=x<;>by_cases Y:a=y<;>simp[e,U,Y]<;>omega;by_cases U:a=x<;>by_cases Y:a=y<;>simp[e,U,Y]
    rw[← e];exact al
   unfold L6 at hb;by_cases e:b=c;omega;rw[d9 e] at hb;have:=O b hb;refine⟨?_,this.2⟩;rcases mt b c with q | q;exact absurd (c3 b q) hb;exact q;have:=Z b;unfold FL L6;by_cases e:b=c;subst e;simp[ag];omega;simp[e];exact this
def CJ:List Nat->List Nat->CF
 | l::L,o::w,a,b=>CJ L w a b+if a=o/\b=l then 1 else 0
 | _,_,_,_=>0
theorem RF:∀(L w:List Nat) (a b:Nat),0<=CJ L w a b
 | [],w,a,b=>by unfold CJ;exact tA _
 | _::_,[],a,b=>by unfold CJ;exact tA _
 | l::L,o::w,a,b=>by have:=RF L w a b;unfold CJ;split<;>omega
theorem VX:∀(L w:List Nat) (a b:Nat),CJ L w a b<=L.length
 | [],w,a,b=>by unfold CJ;simp
 | _::_,[],a,b=>by unfold CJ;omega
 | l::L,o::w,a,b=>by have:=VX L w a b;unfold CJ;rw[pM];split<;>omega
theorem VG{x y c:Nat}:∀{L w:List Nat},L.length=w.length->0<CJ L w x c->∃w':List Nat,w'.length=w.length/\(∀o∈w',o∈w∨o=y)/\CJ L w'=FL (CJ L w) x y c
 | [],[],_,h=>by unfold CJ at h;omega
 | [],_::_,h,_=>by simp at h
 | _::_,[],h,_=>by simp at h
 | l::L,o::w,U,h=>by
  by_cases O:x=o/\c=l;refine⟨y::w,V,λz K=>?_,?_⟩;rcases iO.1 K with rfl | K;exact .inr V;exact .inl (f7 _ K);funext a b;obtain⟨rfl,rfl⟩:=O;unfold FL;simp only[CJ];by_cases Y:a=x/\b=c<;>by_cases e2:a=y/\b=c<;>simp[Y,e2]<;>omega
  .have Z:0<CJ L w x c:=by
    unfold CJ at h;rw[d9 O] at h;omega
   obtain⟨w',ac,ag,ai⟩:=VG (L:=L) (w:=w) (by simpa using U) Z;refine⟨o::w',by simp[ac],λz K=>?_,?_⟩;rcases iO.1 K with rfl | K;exact .inl pK;rcases ag z K with q | q;exact .inl (f7 _ q);exact .inr q;funext a b;have:=tO (tO ai a) b;simp only[CJ,FL] at this ⊢;omega
theorem OP(l o:Nat)(L w:List Nat)(a b:Nat):CJ (l::L) (o::w) a b=CJ L w a b+if a=o/\b=l then 1 else 0:=rfl
def Dp(C:CF)(x:Nat):Nat->Nat
 | 0=>0
 | k+1=>(C x (9 - k)).toNat+Dp C x k
theorem Ro{C:CF}{x:Nat}(h:∀b,C x b=0):∀k,Dp C x k=0
 | 0=>rfl
 | k+1=>by
  show(C x (9 - k)).toNat+Dp C x k=0
  rw[h,Ro h k];rfl
theorem Vi(x l o:Nat)(L w:List Nat):∀k,k<=9->Dp (CJ (l::L) (o::w)) x k=Dp (CJ L w) x k+if x=o/\l<=9/\9<k+l then 1 else 0
 | 0,_=>by rw[d9 (by omega)];rfl
 | k+1,O=>by
  show(CJ (l::L) (o::w) x (9 - k)).toNat+Dp (CJ (l::L) (o::w)) x k=(CJ L w x (9 - k)).toNat+Dp (CJ L w) x k+_
  have U:=RF L w x (9 - k)
  rw[Vi x l o L w k (by omega),OP]
  by_cases e:x=o;by_cases e2:9 - k=l;rw[eS ⟨e,e2⟩,d9 (by omega),eS (by omega)];omega;rw[d9 (λq=>e2 q.2)];by_cases K:l<=9/\9<k+l;rw[eS ⟨e,K⟩,eS (by omega)];omega;rw[d9 (λq=>K q.2),d9 (by omega)];omega;rw[d9 (λq=>e q.1),d9 (λq=>e q.1),d9 (λq=>e q.1)];omega
theorem WB(x:Nat):∀(L w:List Nat) (k:Nat),k<=9->Dp (CJ L w) x k<=L.length
 | [],w,k,_=>by rw[Ro (λb=>by unfold CJ;rfl)];exact qc _
 | _::_,[],k,_=>by rw[Ro (λb=>by unfold CJ;rfl)];exact qc _
 | l::L,o::w,k,K=>by
  have:=WB x L w k K
  rw[Vi x l o L w k K,pM]
  split<;>omega
theorem fW{x y c:Nat}(O:x≠y)(Y:c<=9)(Z:1<=c)(ac:0<C x c):Dp (FL C x y c) x (10 - c)+1=Dp C x (10 - c):=by
 have lower:∀k,k<=9 - c->Dp (FL C x y c) x k=Dp C x k:=by
  intro k
  induction k with
  | zero=>intro _;rfl
  | succ k U=>
   intro K;simp only[Dp];rw[U (by omega)];congr 1;unfold FL;rw[d9 (by omega),d9 (by omega)];simp
 obtain⟨k,K⟩:∃k,10 - c=k+1:=⟨9 - c,by omega⟩;rw[K];simp only[Dp];rw[lower k (by omega),show 9 - k=c by omega];unfold FL;rw[eS ⟨rfl,rfl⟩,d9 (λq=>O q.1)];omega
structure SP (n:Nat) (L:List Nat) (p:PU):Prop where
 len:p.length=n
 keys:∀xs∈p,∀K∈xs,0<=K.1/\K.1<10
 own:∃w:List Nat,w.length=L.length/\(∀o∈w,o<n)/\AD p=CJ L w
theorem SP.nn{n:Nat}{L:List Nat}{p:PU}(h:SP n L p)(a b:Nat):0<=AD p a b:=by obtain⟨w,_,_,e⟩:=h.own;rw[e];exact RF _ _ _ _
theorem SP.le{n:Nat}{L:List Nat}{p:PU}(h:SP n L p)(a b:Nat):AD p a b<=L.length:=by obtain⟨w,_,_,e⟩:=h.own;rw[e];exact VX _ _ _ _
theorem Rc{κ ν:Type} [DecidableEq κ] (x y:κ):∀xs:List (κ×ν),A8 (DD xs x) y=if y=x then none else A8 xs y
 | []=>by simp[DD,A8]
 | z::xs=>by
  have U:=Rc x y xs
  unfold DD at U ⊢
  by_cases O:x=z.1
  .rw [tr (by simpa using O),U]
   by_cases K:y=x;rw[eS K,eS K];rw[d9 K,d9 K];have:y≠z.1:=λe=>K (e.trans O.symm);simp[A8,this]
  .rw [ts (by simpa using O)];by_cases K:y=z.1;rw[d9 (λe=>O (e.symm.trans K))];simp[A8,K]
   .have Y:A8 (z::xs.filter λy=>decide (x≠y.1)) y=A8 (xs.filter λy=>decide (x≠y.1)) y:=by simp[A8,K]
    have e2:A8 (z::xs) y=A8 xs y:=by simp[A8,K]
    rw[Y,e2,U]
theorem Rs{κ ν:Type} [DecidableEq κ] {x:κ}{v:ν}{K:κ×ν}:∀{xs:List (κ×ν)},K∈Ce xs x v->K.1=x∨∃u,(K.1,u)∈xs
 | [],h=>by cases d7.1 h;exact .inl rfl
 | y::ys,h=>by
  unfold Ce at h
  split at h;rcases iO.1 h with rfl | h;exact .inl V;exact .inr ⟨K.2,f7 _ h⟩;rcases iO.1 h with rfl | h;exact .inr ⟨K.2,pK⟩;rcases Rs h with h | ⟨u,h⟩;exact .inl h;exact .inr ⟨u,f7 _ h⟩
theorem dI{F n x y c:Nat}{L:List Nat}{p:PU}(bb:n<=5)(h:SP n L p)(be:L.length<=100)(bi:x<n)(bn:y<n)(av:x≠y)(bo:c<10)(aw:0<AD p x c):
  ∃q,M0 F p (x:Int) (y:Int) (c:Int)=some q/\SP n L q/\AD q=FL (AD p) x y c:=by
 have a0:=h.len;have ac:x<p.length:=by omega
 have ai:y<p.length:=by omega
 have ex:p[x]=p.getD x []:=by rw[gJ,d6 ac];rfl
 have al:p[y]=p.getD y []:=by rw[gJ,d6 ai];rfl
 have a1:=h.le x c;have a2:=h.le y c;have a3:=h.nn y c;unfold AD at aw a1 a2 a3;have a4:M0 F p (x:Int) (y:Int) (c:Int)=some ((p.set x (if(A8 (Ce p[x] (c:Int) ((A8 p[x] (c:Int)).getD 0 - 1)) (c:Int)).getD 0=0 then DD (Ce p[x] (c:Int) ((A8 p[x] (c:Int)).getD 0 - 1)) (c:Int) else Ce p[x] (c:Int) ((A8 p[x] (c:Int)).getD 0 - 1))).set y (Ce p[y] (c:Int) ((A8 p[y] (c:Int)).getD 0+1))):=by
  refine Fo ?_;unfold M0;refine Bi (m:=x) V ac (Bi (m:=y) V ai ?_);refine Bg (b:=List.replicate p.length (Go.Value.map none)) (by unfold LF;rw[eS (by omega)];simp) (Cb (by omega) ?_);refine Lr _ V (by rw[ex];omega) (by rw[ex];omega) (Lr _ V (by rw[al];omega) (by rw[al];omega) ?_);refine An ?_;rw[qF,qF]
 refine⟨_,a4,?_⟩;have ay:AD ((p.set x (if(A8 (Ce p[x] (c:Int) ((A8 p[x] (c:Int)).getD 0 - 1)) (c:Int)).getD 0=0 then DD (Ce p[x] (c:Int) ((A8 p[x] (c:Int)).getD 0 - 1)) (c:Int) else Ce p[x] (c:Int) ((A8 p[x] (c:Int)).getD 0 - 1))).set y (Ce p[y] (c:Int) ((A8 p[y] (c:Int)).getD 0+1)))=FL (AD p) x y c:=by
  funext a b;unfold AD FL;rw[gJ,p8,p8];by_cases am:y=a;subst am;rw[eS rfl,eS (by rw[pE];omega),d9 (λq:y=x/\b=c=>av q.1.symm)];simp only[Option.getD_some,al];rw[KG];by_cases K:b=c;subst K;simp;rw[d9 (by omega),d9 (λq=>K q.2)];simp
  .rw [d9 am];by_cases e2:x=a
   .subst e2;rw[eS rfl,eS (by omega),d9 (λq:x=y/\b=c=>av q.1)];simp only[Option.getD_some,ex];have az:∀z:Int,A8 (Ce (p.getD x []) (c:Int) z) (c:Int)=some z:=λz=>by rw[KG,eS rfl]
    rw[az,Option.getD_some];by_cases K:b=c;subst K;by_cases O:(A8 (p.getD x []) (b:Int)).getD 0 - 1=0;rw[eS O,Rc,eS rfl,eS ⟨trivial,rfl⟩,Option.getD_none];omega;rw[d9 O,az,eS ⟨trivial,rfl⟩,Option.getD_some];omega
    .have ap:¬((b:Int)=(c:Int)):=by omega
     rw[d9 (λq:True/\b=c=>K q.2)];by_cases O:(A8 (p.getD x []) (c:Int)).getD 0 - 1=0;rw[eS O,Rc,d9 ap,KG,d9 ap];omega;rw[d9 O,KG,d9 ap];omega
   .rw [d9 e2,d9 (λq=>e2 q.1.symm),d9 (λq=>am q.1.symm)];show(A8 (p[a]?.getD []) (b:Int)).getD 0=(A8 (p.getD a []) (b:Int)).getD 0 - 0+0;rw[gJ];omega
 refine⟨⟨by simp[a0],λxs U Y Z=>?_,?_⟩,ay⟩
 .have aq:∀(ag:List (Int×Int)) (u:Int),ag∈p->Y∈Ce ag (c:Int) u->0<=Y.1/\Y.1<10:=by
   intro ag u a5 a6;rcases Rs a6 with q | ⟨r,q⟩;rw[q];omega;exact h.keys ag a5 (Y.1,r) q
  rcases rx U with U | rfl;rcases rx U with U | rfl;exact h.keys xs U Y Z;split at Z;exact aq _ _ (pj ac) (re.1 Z).1;exact aq _ _ (pj ac) Z;exact aq _ _ (pj ai) Z
 .obtain⟨w,w1,w2,w3⟩:=h.own;have a7:0<CJ L w x c:=by rw[← w3];exact aw
  let⟨w',v1,v2,a8⟩:=VG (y:=y) w1.symm a7;refine⟨w',by omega,λo a9=>?_,by rw[ay,a8,w3]⟩;rcases v2 o a9 with q | q;exact w2 o q;omega
theorem au(C:CF)(x:Nat){c:Nat}(O:c<=9):Dp C x (10 - c)=(C x c).toNat+Dp C x (10 - (c+1)):=by
 obtain⟨k,K⟩:∃k,10 - c=k+1:=⟨9 - c,by omega⟩;rw[K,show 10 - (c+1)=k by omega];show(C x (9 - k)).toNat+Dp C x k=_;rw[show 9 - k=c by omega]
structure VT (n:Nat) (d:DT):Prop where
 x0:0<=d.1
 x1:d.1<(n:Int)
 y0:0<=d.2.1
 y1:d.2.1<(n:Int)
 ne:d.1≠d.2.1
 p0:1<=d.2.2
 p1:d.2.2<=72
theorem cI{F n:Nat}{L:List Nat}{d:DT}(a5:n<=5)(b6:L.length<=15)(hd:VT n d)(ca:100<F):∀(N left lo:Nat) (p:PU) (acc:List PU),left<N->left<=100->1<=lo->SP n L p->acc.length+2^Dp (AD p) d.1.toNat (10 - lo)<=2^20->
  Ao (NJ N F p (lo:Int) (left:Int) acc d) (λout=>∃new,out=acc++new/\new.length<=2^Dp (AD p) d.1.toNat (10 - lo)/\(∀q∈new,SP n L q/\HP d.1.toNat d.2.1.toNat lo left (AD p) (AD q))/\∀O,HP d.1.toNat d.2.1.toNat lo left (AD p) O->∃q∈new,AD q=O):=by
 obtain⟨x0,x1,y0,y1,cc,-,-⟩:=hd;intro N
 induction N with
 | zero=>intro left lo p acc h;omega
 | succ N a6=>
  intro left lo p acc ce ci co ag hb;have hlen:=ag.len;have a7:d.1.toNat<n:=by omega
  have a8:d.2.1.toNat<n:=by omega
  have a0:d.1.toNat≠d.2.1.toNat:=by omega
  have a9:1<=2^Dp (AD p) d.1.toNat (10 - lo):=sD;unfold NJ P9;refine Bs (λbb=>?_) (λbb=>?_)
  .obtain rfl:left=0:=by omega
   refine Jp (by omega) (An ⟨[p],V,a9,λq ap=>?_,λO h=>?_⟩);cases d7.1 ap;exact⟨ag,.done⟩
   .refine⟨p,d7.2 V,?_⟩;cases h with
    | done=>rfl
    | step a1 be a2=>omega
  .refine AG (S:=λout=>∃new,out=acc++new/\new.length<=2^Dp (AD p) d.1.toNat (10 - lo)/\(∀q∈new,SP n L q/\HP d.1.toNat d.2.1.toNat lo left (AD p) (AD q))/\∀O,HP d.1.toNat d.2.1.toNat lo left (AD p) O->∃q∈new,AD q=O) ?_ (λr bi=>An bi);refine Dt (min left 9+1 - lo) (λi s=>s.2=((lo+i:Nat):Int)/\∃new,s.1=acc++new/\new.length+2^Dp (AD p) d.1.toNat (10 - (lo+i))<=2^Dp (AD p) d.1.toNat (10 - lo)/\(∀q∈new,SP n L q/\HP d.1.toNat d.2.1.toNat lo left (AD p) (AD q))/\∀K,lo<=K->K<lo+i->K<=left->0<AD p d.1.toNat K->∀O,HP d.1.toNat d.2.1.toNat K (left - K) (FL (AD p) d.1.toNat d.2.1.toNat K) O->∃q∈new,AD q=O)
    ⟨rfl,[],by simp,by simp,(λq ap=>by cases ap),(λK cp ct=>by omega)⟩ (by omega) ?_ ?_
   .rintro i ⟨s,z⟩ hi ⟨Z,new,ac,aq,ai,al⟩;simp only at Z ac;subst Z;subst ac;have av:lo+i<=9:=by omega
    have bn:lo+i<=left:=by omega
    have cw:=au (AD p) d.1.toNat av;have cy:=ag.nn d.1.toNat (lo+i);unfold Pu;refine B3 (by simp only;omega) ?_;have bo:ix p d.1=some (p.getD d.1.toNat []):=HO (m:=d.1.toNat) (by omega) (by rw[gJ,d6 (by omega)];rfl);refine Bg bo ?_;refine AG (S:=λs=>∃Y,s=acc++Y/\Y.length+2^Dp (AD p) d.1.toNat (10 - (lo+i+1))<=2^Dp (AD p) d.1.toNat (10 - lo)/\(∀q∈Y,SP n L q/\HP d.1.toNat d.2.1.toNat lo left (AD p) (AD q))/\∀K,lo<=K->K<lo+i+1->K<=left->0<AD p d.1.toNat K->∀O,HP d.1.toNat d.2.1.toNat K (left - K) (FL (AD p) d.1.toNat d.2.1.toNat K) O->∃q∈Y,AD q=O) ?_ ?_
    .refine Bs (λU=>?_) (λU=>?_)
     .have U:0<AD p d.1.toNat (lo+i):=U;refine Ao.E ((left - (lo+i):Nat):Int) (by simp only;omega) ?_;obtain⟨q,a3,bv,aw⟩:=dI (F:=F) a5 ag (by omega) a7 a8 a0 (show lo+i<10 by omega) U;rw[show((d.1.toNat:Nat):Int)=d.1 by omega,show((d.2.1.toNat:Nat):Int)=d.2.1 by omega] at a3;refine Bg a3 ?_;have hm:=fW a0 av (by omega) U;rw[← aw] at hm;have c0:2^Dp (AD p) d.1.toNat (10 - (lo+i))=2*2^Dp (AD q) d.1.toNat (10 - (lo+i)):=by
       rw[← hm,sR];omega
      have hle:2^Dp (AD p) d.1.toNat (10 - (lo+i+1))<=2^Dp (AD q) d.1.toNat (10 - (lo+i)):=qj (by omega) (by omega);refine AG (a6 (left - (lo+i)) (lo+i) q (acc++new) (by omega) (by omega) (by omega) bv ?_) ?_;rw[pA];omega
      .rintro r ⟨n2,rfl,c1,bw,bx⟩;refine An ⟨new++n2,by rw[pF],?_,λu hu=>?_,λK k1 bz ay am O hC=>?_⟩;rw[pA];omega;rcases pg.1 hu with hu | hu;exact ai u hu;let⟨b0,a4⟩:=bw u hu;rw[aw] at a4;exact⟨b0,.step (by omega) av bn U a4⟩
       .rcases mt K (lo+i) with az | b1;let⟨u,hu,e⟩:=al K k1 az ay am O hC;exact⟨u,p9 _ hu,e⟩
        .obtain rfl:K=lo+i:=by omega
         rw[← aw] at hC;let⟨u,hu,e⟩:=bx O hC;exact⟨u,qd _ hu,e⟩
     .have U:¬0<AD p d.1.toNat (lo+i):=U;refine An ⟨new,V,?_,ai,λK k1 bz ay am=>?_⟩;rw[show Dp (AD p) d.1.toNat (10 - (lo+i+1))=Dp (AD p) d.1.toNat (10 - (lo+i)) by omega];exact aq
      .rcases mt K (lo+i) with az | b1;exact al K k1 az ay am
       .obtain rfl:K=lo+i:=by omega
        exact absurd am U
    .rintro s ⟨Y,rfl,b2,e2,b3⟩;exact Ao.E ((lo+(i+1):Nat):Int) (by simp only;omega) (An ⟨V,Y,V,b2,e2,b3⟩)
   .rintro⟨s,z⟩ ⟨Z,new,ac,aq,ai,al⟩;simp only at Z ac;subst Z;subst ac;unfold Pu;refine Cb (by simp only;omega) (An ⟨_,V,new,V,qg (Nat.le_add_right _ _) aq,ai,λO h=>?_⟩);cases h with
    | done=>omega
    | step a1 be a2 b4 b5=>exact al _ a1 (by omega) a2 b4 _ b5
theorem Vz{F n:Nat}{L:List Nat}{d:DT}{p:PU}(ac:n<=5)(U:L.length<=15)(hd:VT n d)(ag:100<F)(O:SP n L p):
  Ao (M8 F p d) (λl=>l.length<=2^15/\(∀q∈l,SP n L q/\DW (AD p) d (AD q))/\∀K,DW (AD p) d K->∃q∈l,AD q=K):=by
 have Y:d.1.toNat≠d.2.1.toNat:=by have:=hd.ne;have:=hd.x0;have:=hd.y0;omega
 have ai:Dp (AD p) d.1.toNat (10 - 1)<=15:=by
  obtain⟨w,_,_,e⟩:=O.own;rw[e];exact qg (WB _ L w 9 (by omega)) U
 have Z:2^Dp (AD p) d.1.toNat (10 - 1)<=2^15:=qj (by omega) ai;have az:=hd.p0;have a0:=hd.p1;unfold M8;refine AG (S:=λl=>l.length<=2^15/\(∀q∈l,SP n L q/\DW (AD p) d (AD q))/\∀K,DW (AD p) d K->∃q∈l,AD q=K) ?_ (λr al=>An al);unfold S9;have:=cI ac U hd ag F d.2.2.toNat 1 p [] (by omega) (by omega) (by omega) O (by rw[List.length_nil,qZ];exact qg Z (by decide));rw[show((d.2.2.toNat:Nat):Int)=d.2.2 by omega] at this;refine Ao.M this ?_;rintro out ⟨new,rfl,am,ap,aq⟩;refine⟨qg am Z,λq av=>?_,λK hC=>?_⟩;let⟨a1,aw⟩:=ap q av;let⟨v,v1,v2,ay,v4⟩:=fO Y aw (no 1) (O.nn _);exact⟨a1,v,v1,v2,by omega,v4⟩;obtain⟨v,v1,v2,ay,rfl⟩:=hC;exact aq _ (eJ Y _ 1 _ v (no 1) v1 v2 (by omega))
def EX(C:CF):List (List Int):=(List.range 5).map λa=>(List.range 10).map λb=>C a b
theorem V0{F n:Nat}{L:List Nat}{p:PU}(U:n<=5)(O:SP n L p):MY F p=some (EX (AD p)):=by
 have h:p.length<=5/\(p.all λxs=>xs.all λK=>decide (0<=K.1/\K.1<10))=true:=⟨by rw[O.len];exact U,pJ.2 λxs Y=>pJ.2 λK Z=>qf (O.keys xs Y K Z)⟩;unfold MY;rw[eS h];rfl
variable{a:Nat}
theorem SP.out{n:Nat}{L:List Nat}{p:PU}(Y:n<=5)(O:SP n L p){b:Nat}(h:5<=a∨10<=b):AD p a b=0:=by
 unfold AD;rcases h with h | h;rw[gJ,pU (by rw[O.len];omega)];rfl
 .have:A8 (p.getD a []) (b:Int)=none:=by
   unfold A8;rw[Option.map_eq_none_iff,q6];intro U K;rcases mt a p.length with q | q;rw[gJ,d6 q] at K;have:=O.keys _ (pj q) U K;simp;omega;rw[gJ,pU q] at K;cases K
  rw[this];rfl
theorem Wn{n:Nat}{L:List Nat}{p q:PU}(U:n<=5)(Z:SP n L p)(ac:SP n L q)(h:EX (AD p)=EX (AD q)):AD p=AD q:=by
 funext a b;by_cases Y:5<=a∨10<=b;rw[Z.out U Y,ac.out U Y];have K:=pB (λl=>l[a]?) h;simp only[EX,qe] at K;rw[rC (by omega)] at K;have O:=pB (λl=>l[b]?) (f5 K);simp only[qe] at O;rw[rC (by omega)] at O;exact f5 O
def N5(n:Nat):Nat->List (List Nat)
 | 0=>[[]]
 | k+1=>(List.range n).flatMap λx=>(N5 n k).map (x::·)
theorem UX{n:Nat}:∀{l:List Nat},(∀x∈l,x<n)->l∈N5 n l.length
 | [],_=>d7.2 rfl
 | x::l,h=>List.mem_flatMap.2 ⟨x,pw.2 (h x pK),pO.2 ⟨l,UX λy K=>h y (f7 _ K),rfl⟩⟩
theorem UE(n:Nat):∀k,(N5 n k).length=n^k
 | 0=>rfl
 | k+1=>by
  unfold N5
  rw[List.length_flatMap]
  simp only[qB,UE n k]
  rw[List.map_const',List.sum_replicate_nat,rv,sR,Nat.mul_comm]
theorem Ms{α:Type} [DecidableEq α]:∀{l m:List α},l.Nodup->(∀x∈l,x∈m)->l.length<=m.length
 | [],m,_,_=>qc _
 | x::l,m,h,K=>by
  let⟨Y,Z⟩:=rH.1 h
  have O:=K x pK
  have:=Ms (l:=l) (m:=m.erase x) Z λy U=>(List.mem_erase_of_ne (λe=>by subst e;exact Y U)).2 (K y (f7 _ U))
  rw[List.length_erase_of_mem O] at this
  have:=List.length_pos_of_mem O
  rw[pM];omega
theorem jz{n:Nat}{L:List Nat}{l:List PU}(K:n<=5)(O:L.length<=15)(U:∀q∈l,SP n L q)(hd:(l.map λq=>EX (AD q)).Nodup):l.length<=5^15:=by
 have:=Ms (m:=(N5 n L.length).map λw=>EX (CJ L w)) hd λx Y=>by
  obtain⟨q,Z,rfl⟩:=pO.1 Y;let⟨w,w1,w2,w3⟩:=(U q Z).own;refine pO.2 ⟨w,?_,by rw[w3]⟩;have:=UX w2
  rwa[w1] at this
 rw[qB,qB,UE] at this;refine qg this (qg (Nat.pow_le_pow_left K _) (qj (by omega) O))
inductive Gf (P:List DT):Nat->CF->List Int->Prop
 | nil {dn:Nat}{C:CF}:dn=2^P.length - 1->Gf P dn C []
 | cons {dn i:Nat}{C K:CF}{d:DT}{O:List Int}:P[i]?=some d->dn.testBit i=false->DW C d K->Gf P (dn|||2^i) K O->Gf P dn C ((i:Int)::O)
def Ends(P:List DT)(dn:Nat)(C:CF):Prop:=∃K,Gf P dn C K
variable{dn:Nat}
theorem Ends.cases{P:List DT}(h:Ends P dn C)(O:dn≠2^P.length - 1):∃(i:Nat) (d:DT) (K:CF),P[i]?=some d/\dn.testBit i=false/\DW C d K/\Ends P (dn|||2^i) K:=by
 obtain⟨U,h⟩:=h;cases h with
 | nil e=>exact absurd e O
 | cons a b c d=>exact⟨_,_,_,a,b,c,_,d⟩
theorem Pb{i:Nat}(h:i<8):Ja (i:Int)=some (2^i):=by
 unfold Ja;rw[eS (by omega),qF,Nat.one_shiftLeft,Nat.mod_eq_of_lt];exact qt (sS (by omega) h) (by decide)
theorem UK{i:Nat}(h:i<8):MR dn (i:Int)=some (dn>>>i):=by unfold MR;rw[eS (by omega),qF]
theorem Pv{m:Nat}(h:m<=8):2^m<=256:=qg (qj (by omega) h) (by decide)
theorem UY{i m:Nat}(hm:m<=8)(h:dn<2^m):MP (dn>>>i) 1=some (if dn.testBit i=true then 1 else 0):=by
 have K:dn>>>i<=dn:=by rw[ry];exact Nat.div_le_self _ _
 have O:=Pv hm;unfold MP;rw[eS (by omega),Nat.and_one_is_mod];congr 1;rw[Nat.testBit_eq_decide_div_mod_eq,ry];have:=sE (dn/2^i) (show 0<2 by omega);by_cases q:dn/2^i%2=1;rw[eS (qf q),q];rw[d9 (by simpa using q)];omega
theorem Ps{i m:Nat}(hm:m<=8)(h:dn<2^m)(hi:i<m):LX dn (2^i)=some (dn|||2^i)/\dn|||2^i<2^m:=by
 have O:=Pv hm;have K:2^i<2^m:=sS (by omega) hi;exact⟨eS (by omega),sG h K⟩
theorem Sy(dn i j:Nat):(dn|||2^i).testBit j=(dn.testBit j || decide (i=j)):=by rw[Nat.testBit_or,Nat.testBit_two_pow]
theorem Xh{i:Nat}(h:dn.testBit i=false):dn<dn|||2^i:=by
 rcases s5 (show dn<=dn|||2^i from Nat.left_le_or) with q | q;exact q;have:=Sy dn i i;rw[← q,h] at this;simp at this
variable {F n:Nat}{L:List Nat}{P:List DT}
structure SX (F n:Nat) (L:List Nat) (P:List DT):Prop where
 n5:n<=5
 Of:L.length<=15
 m8:P.length<=8
 ok:∀d∈P,VT n d
 fuel:5^16<F
def FM(n:Nat)(L:List Nat)(P:List DT)(sm:List ((Nat×List (List Int))×Bool)):Prop:=∀dn X b,A8 sm (dn,X)=some b->∀p,SP n L p->EX (AD p)=X->(b=true↔Ends P dn (AD p))
theorem SX.Qt(h:SX F n L P):100<F:=Nat.lt_trans (by decide) h.fuel
theorem cP(ag:SX F n L P):∀(N dn:Nat) (p:PU) (sm:List ((Nat×List (List Int))×Bool)),256<N+dn->dn<2^P.length->SP n L p->FM n L P sm->
  Ao (NO N F p dn P sm) (λr=>(r.1=true↔Ends P dn (AD p))/\FM n L P r.2):=by
 have hm:=ag.m8;have ci:=Pv hm;have bv:=ag.Qt;intro N
 induction N with
 | zero=>intro dn p sm Y ai;omega
 | succ N bw=>
  intro dn p sm co a6 aw ay;unfold NO PL;have bx:Ja ((P.length:Nat):Int)=some (2^P.length%256):=by
   unfold Ja;rw[eS (by omega),qF,Nat.one_shiftLeft]
  refine Bg bx ?_;have cp:1<=2^P.length:=sD;have bz:(2^P.length%256+(256 - 1))%256=2^P.length - 1:=by omega
  rw[bz];refine Bs (λaz=>An ⟨tN V ⟨[],.nil (by omega)⟩,ay⟩) (λaz=>?_);have az:dn≠2^P.length - 1:=λe=>az (by rw[e]);refine Bg (V0 ag.n5 aw) (Bs (λY=>?_) (λY=>?_));let⟨b,hb⟩:=sj.1 Y;rw[hb];exact An ⟨ay _ _ _ hb p aw V,ay⟩
  .have b0:A8 sm (dn,EX (AD p))=none:=by
    cases q:A8 sm (dn,EX (AD p)) with
    | none=>rfl
    | some b=>rw[q] at Y;exact absurd rfl Y
   rw[b0];refine AG (S:=λr=>(r.1=true↔Ends P dn (AD p))/\FM n L P r.2) ?_ ?_
   .refine Dt P.length (λi s=>s.2.2=(i:Int)/\FM n L P s.1/\(s.2.1=true->Ends P dn (AD p))/\(s.2.1=false->∀j<i,∀d O,P[j]?=some d->dn.testBit j=false->DW (AD p) d O->¬Ends P (dn|||2^j) O)) ⟨V,ay,(λh=>by cases h),(λ_ j a7=>by omega)⟩ (by omega) ?_ ?_
    .rintro i ⟨a8,is,z⟩ hi ⟨Z,al,ap,am⟩;simp only at Z al ap am;subst Z;have hd:=ag.ok _ (pj hi);let⟨b1,b2⟩:=Ps hm a6 hi;unfold Pg;refine B3 (by simp only;omega) (AG (S:=λr=>FM n L P r.2/\(r.1=true->Ends P dn (AD p))/\(r.1=false->∀j<i+1,∀d O,P[j]?=some d->dn.testBit j=false->DW (AD p) d O->¬Ends P (dn|||2^j) O)) ?_ ?_)
     .refine Bi (m:=i) V hi (Bg (UK (by omega)) ?_);refine Bg (UY hm a6) (AG (S:=λc=>c=(dn.testBit i || is)) ?_ ?_)
      .cases hb:dn.testBit i with
       | true=>exact B3 (by simp) (An rfl)
       | false=>exact Cb (by simp) (An rfl)
      rintro c rfl;refine Bs (λK=>An ⟨al,ap,λa9 j a7 d O Y ai a0=>?_⟩) (λK=>?_)
      .rw [show is=false from a9,Bool.or_false] at K;rcases mt j i with a1 | b3;exact am a9 j a1 d O Y ai a0
       .obtain rfl:j=i:=by omega
        rw[K] at ai;cases ai
      .have hb:dn.testBit i=false:=by cases q:dn.testBit i;rfl;rw[q] at K;exact absurd V K
       have a2:is=false:=by cases q:is;rfl;rw[q,Bool.or_true] at K;exact absurd V K
       subst a2;refine AG (Vz (d:=P[i]) ag.n5 ag.Of hd bv aw) ?_;rintro l ⟨l1,l2,b4⟩;refine AG (S:=λr=>FM n L P r.2/\(r.1=true->Ends P dn (AD p))/\(r.1=false->∀q∈l,¬Ends P (dn|||2^i) (AD q))) ?_ ?_
       .have b5:l.length<F:=q4 l1 (Nat.lt_trans (by decide) ag.fuel);have ct:(2:Nat)^15=32768:=by decide
        refine Dt l.length (λk s=>s.2.2=(k:Int)/\FM n L P s.1/\(s.2.1=true->Ends P dn (AD p))/\(s.2.1=false->∀q∈l.take k,¬Ends P (dn|||2^i) (AD q))) ⟨V,al,(λh=>by cases h),(λ_ q a3=>by cases a3)⟩ b5 ?_ ?_;rintro k ⟨bb,be,z⟩ a4 ⟨Z,t1,t2,t3⟩;simp only at Z t1 t2 t3;subst Z;let⟨sq,pv⟩:=l2 _ (pj a4);unfold PK;refine B3 (by simp only;omega) (Bi (m:=k) V a4 ?_);refine AG (S:=λr=>FM n L P r.2/\(r.1=true->Ends P dn (AD p))/\(r.1=false->∀q∈l.take (k+1),¬Ends P (dn|||2^i) (AD q))) ?_ ?_;refine Bs (λK=>An ⟨t1,(λ_=>t2 K),(λh=>by cases h)⟩) (λK=>?_);have K:be=false:=pz.2 K;refine Bg (Pb (by omega)) (Bg b1 ?_);have cw:=Xh hb;refine AG (bw (dn|||2^i) l[k] bb (by omega) b2 sq t1) ?_;rintro⟨b,a5⟩ ⟨U,ac⟩;refine An ⟨ac,λh=>?_,λh=>?_⟩;let⟨cy,b6⟩:=U.1 h;exact⟨_,.cons (d6 hi) hb pv b6⟩;refine Kc a4 (t3 K) λhe=>?_;have:=U.2 he;simp only at h this;rw[this] at h;cases h;rintro⟨b,a5⟩ ⟨U,ac,aq⟩;exact Ao.E ((k+1:Nat):Int) (by simp) (An ⟨V,U,ac,aq⟩);rintro⟨bb,be,z⟩ ⟨Z,t1,t2,t3⟩;simp only at Z t1 t2 t3;subst Z;unfold PK;rw[qk] at t3;exact Cb (by simp only;omega) (An ⟨_,V,t1,t2,t3⟩)
       .rintro⟨b,a5⟩ ⟨U,ac,aq⟩;refine An ⟨U,ac,λh j a7 d O Y ai a0=>?_⟩;rcases mt j i with a1 | b3;exact am V j a1 d O Y ai a0
        .obtain rfl:j=i:=by omega
         rw[d6 hi] at Y;cases Y;let⟨q,a3,e⟩:=b4 O a0;rw[← e];exact aq h q a3
     .rintro⟨b,a5⟩ ⟨U,ac,aq⟩;exact Ao.E ((i+1:Nat):Int) (by simp) (An ⟨V,U,ac,aq⟩)
    .rintro⟨a8,is,z⟩ ⟨Z,al,ap,am⟩;simp only at Z al ap am;subst Z;unfold Pg;refine Cb (by simp only;omega) (An ⟨_,V,⟨ap,λhe=>?_⟩,al⟩);simp only;cases a2:is with
     | true=>rfl
     | false=>
      let⟨i,d,O,bi,e2,ca,cc⟩:=he.cases az;exact absurd cc (am a2 i (fx.1 bi).1 d O bi e2 ca)
   .rintro⟨b,a8⟩ ⟨U,ac⟩;refine An ⟨U,λc0 X b' av ce bn bo=>?_⟩;simp only at av U;rw[KG] at av;split at av;rename_i e;cases av;cases e;rw[Wn ag.n5 bn aw bo];exact U;exact ac _ _ _ av ce bn bo
variable{sm:List ((Nat×List (List Int))×Bool)}
theorem bR(U:SX F n L P)(ac:dn<2^P.length){l:List PU}(aq:l.length<=5^15)(ag:∀q∈l,SP n L q)(ai:FM n L P sm):
  Ao (LQ F l dn P sm) (λr=>FM n L P r.2/\r.1.length<=l.length/\(∀q∈r.1,q∈l/\Ends P dn (AD q))/\∀q∈l,Ends P dn (AD q)->q∈r.1):=by
 have av:(5:Nat)^15=30517578125:=by decide
 have aw:(5:Nat)^16=152587890625:=by decide
 have ay:=U.fuel;unfold LQ;refine AG (S:=λr=>FM n L P r.2/\r.1.length<=l.length/\(∀q∈r.1,q∈l/\Ends P dn (AD q))/\∀q∈l,Ends P dn (AD q)->q∈r.1) ?_ (λr al=>An al);refine Dt l.length (λi s=>s.2.2=(i:Int)/\FM n L P s.1/\s.2.1.length<=i/\(∀q∈s.2.1,q∈l/\Ends P dn (AD q))/\∀q∈l.take i,Ends P dn (AD q)->q∈s.2.1) ⟨V,ai,qc _,(λq K=>by cases K),(λq K=>by cases K)⟩ (by omega) ?_ ?_;rintro i ⟨Y,out,z⟩ hi ⟨O,t1,t2,t3,t4⟩;simp only at O t1 t2 t3 t4;subst O;unfold O2;refine B3 (by simp only;omega) (Bi (m:=i) V hi ?_);refine AG (cP U F dn l[i] Y (by omega) ac (ag _ (pj hi)) t1) ?_;rintro⟨b,az⟩ ⟨Z,am⟩;refine AG (S:=λs=>s.length<=i+1/\(∀q∈s,q∈l/\Ends P dn (AD q))/\∀q∈l.take (i+1),Ends P dn (AD q)->q∈s) ?_ ?_;refine Bs (λhb=>?_) (λhb=>An ⟨by simp only;omega,t3,?_⟩);refine Jp (by simp only;omega) (An ⟨by show(out++ [_]).length<=i+1;rw[pA,qU];omega,λq K=>?_,?_⟩);rcases pg.1 K with K | K;exact t3 q K;cases d7.1 K;exact⟨pj hi,Z.1 hb⟩;exact Kc hi (λq K he=>p9 _ (t4 q K he)) λ_=>qd _ (d7.2 V);exact Kc hi t4 λhe=>absurd (Z.2 he) hb;rintro s ⟨v1,v2,ap⟩;exact Ao.E ((i+1:Nat):Int) (by simp) (An ⟨V,am,v1,v2,ap⟩);rintro⟨Y,out,z⟩ ⟨O,t1,t2,t3,t4⟩;simp only at O t1 t2 t3 t4;subst O;unfold O2;rw[qk] at t4;exact Cb (by simp only;omega) (An ⟨_,V,t1,t2,t3,t4⟩)
variable{now:List PU}
theorem ck(Y:SX F n L P){d:DT}(hd:VT n d)(a1:now.length<=5^15)(ac:∀q∈now,SP n L q):
  Ao (LS F now d) (λout=>out.length<=5^15/\(∀q∈out,SP n L q/\∃p∈now,DW (AD p) d (AD q))/\∀p∈now,∀K,DW (AD p) d K->∃q∈out,AD q=K):=by
 have a2:(5:Nat)^15=30517578125:=by decide
 have a3:(5:Nat)^16=152587890625:=by decide
 have a4:(2:Nat)^15=32768:=by decide
 have a5:=Y.fuel;have al:∀{out:List PU},(∀q∈out,SP n L q)->(out.map λq=>EX (AD q)).Nodup->out.length<=5^15:=λa b=>jz Y.n5 Y.Of a b;unfold LS;refine AG (S:=λr=>r.1.length<=5^15/\(∀q∈r.1,SP n L q/\∃p∈now,DW (AD p) d (AD q))/\∀p∈now,∀K,DW (AD p) d K->∃q∈r.1,AD q=K) ?_ (λr am=>An am);refine Dt now.length (λi s=>s.2.2=(i:Int)/\(∀X,(A8 s.1 X).getD false=true↔X∈s.2.1.map λq=>EX (AD q))/\(s.2.1.map λq=>EX (AD q)).Nodup/\(∀q∈s.2.1,SP n L q/\∃p∈now,DW (AD p) d (AD q))/\∀p∈now.take i,∀K,DW (AD p) d K->∃q∈s.2.1,AD q=K)
  ⟨rfl,(λX=>by simp[A8]),s0,(λq O=>by cases O),(λp ac=>by cases ac)⟩ (by omega) ?_ ?_
 .rintro i ⟨met,out,z⟩ hi ⟨U,t1,t2,t3,t4⟩;simp only at U t1 t2 t3 t4;subst U;unfold O6;refine B3 (by simp only;omega) (Bi (m:=i) V hi ?_);refine AG (Vz Y.n5 Y.Of hd Y.Qt (ac _ (pj hi))) ?_;rintro l ⟨l1,l2,ap⟩;refine AG (S:=λs=>(∀X,(A8 s.2 X).getD false=true↔X∈s.1.map λq=>EX (AD q))/\(s.1.map λq=>EX (AD q)).Nodup/\(∀q∈s.1,SP n L q/\∃p∈now,DW (AD p) d (AD q))/\(∀p∈now.take i,∀K,DW (AD p) d K->∃q∈s.1,AD q=K)/\∀q∈l,∃u∈s.1,AD u=AD q) ?_ ?_
  .refine Dt l.length (λk s=>s.2.2=(k:Int)/\(∀X,(A8 s.1 X).getD false=true↔X∈s.2.1.map λq=>EX (AD q))/\(s.2.1.map λq=>EX (AD q)).Nodup/\(∀q∈s.2.1,SP n L q/\∃p∈now,DW (AD p) d (AD q))/\(∀p∈now.take i,∀K,DW (AD p) d K->∃q∈s.2.1,AD q=K)/\∀q∈l.take k,∃u∈s.2.1,AD u=AD q)
    ⟨rfl,t1,t2,t3,t4,(λq O=>by cases O)⟩ (by omega) ?_ ?_
   .rintro k ⟨met,out,z⟩ Z ⟨U,t1,t2,t3,t4,t5⟩;simp only at U t1 t2 t3 t4 t5;subst U;let⟨sq,pv⟩:=l2 _ (pj Z);have a6:=al (λq O=>(t3 q O).1) t2;unfold O3;refine B3 (by simp only;omega) (Bi (m:=k) V Z ?_);refine Bg (V0 Y.n5 sq) (AG (S:=λs=>(∀X,(A8 s.2 X).getD false=true↔X∈s.1.map λq=>EX (AD q))/\(s.1.map λq=>EX (AD q)).Nodup/\(∀q∈s.1,SP n L q/\∃p∈now,DW (AD p) d (AD q))/\(∀p∈now.take i,∀K,DW (AD p) d K->∃q∈s.1,AD q=K)/\∀q∈l.take (k+1),∃u∈s.1,AD u=AD q) ?_ ?_)
    .refine Bs (λhb=>?_) (λhb=>An ⟨t1,t2,t3,t4,?_⟩)
     .have aq:EX (AD l[k]) ∉ out.map λq=>EX (AD q):=λh=>by
       rw[(t1 _).2 h] at hb;cases hb
      refine Jp (by simp only;omega) (An ⟨λX=>?_,?_,λq O=>?_,λp av K hC=>?_,?_⟩);simp only;rw[KG,ql,pg,List.map_singleton,d7,← t1];by_cases e:X=EX (AD l[k]);rw[eS e];simp[e];rw[d9 e];simp[e];simp only;rw[ql,qx];refine⟨t2,by simp,λa aw b hb e=>?_⟩;cases d7.1 hb;subst e;exact aq aw;rcases pg.1 O with O | O;exact t3 q O;cases d7.1 O;exact⟨sq,_,pj hi,pv⟩;let⟨q,O,e⟩:=t4 p av K hC;exact⟨q,p9 _ O,e⟩;refine Kc Z (λq O=>?_) ⟨_,qd _ (d7.2 V),V⟩;let⟨u,hu,e⟩:=t5 q O;exact⟨u,p9 _ hu,e⟩
     .refine Kc Z t5 ?_;have ay:EX (AD l[k])∈out.map λq=>EX (AD q):=(t1 _).1 (by
       cases q:(A8 met (EX (AD l[k]))).getD false with
       | true=>rfl
       | false=>rw[q] at hb;exact absurd rfl hb)
      let⟨u,hu,e⟩:=pO.1 ay;exact⟨u,hu,Wn Y.n5 (t3 u hu).1 sq e⟩
    .rintro⟨az,a0⟩ ⟨v1,v2,ag,v4,ai⟩;exact Ao.E ((k+1:Nat):Int) (by simp) (An ⟨V,v1,v2,ag,v4,ai⟩)
   .rintro⟨met,out,z⟩ ⟨U,t1,t2,t3,t4,t5⟩;simp only at U t1 t2 t3 t4 t5;subst U;unfold O3;rw[qk] at t5;exact Cb (by simp only;omega) (An ⟨_,V,t1,t2,t3,t4,t5⟩)
  .rintro⟨az,a0⟩ ⟨v1,v2,ag,v4,ai⟩;refine Ao.E ((i+1:Nat):Int) (by simp) (An ⟨V,v1,v2,ag,Kc hi v4 λK hC=>?_⟩);let⟨q,O,e⟩:=ap K hC;let⟨u,hu,e2⟩:=ai q O;exact⟨u,hu,e2.trans e⟩
 .rintro⟨met,out,z⟩ ⟨U,t1,t2,t3,t4⟩;simp only at U t1 t2 t3 t4;subst U;unfold O6;rw[qk] at t4;exact Cb (by simp only;omega) (An ⟨_,V,al (λq O=>(t3 q O).1) t2,t3,t4⟩)
def N3:List Int->List Int->Bool
 | x::xs,y::ys=>if x=y then N3 xs ys else decide (x<y)
 | _,_=>false
theorem Uu(x y:Int)(xs ys:List Int):N3 (x::xs) (y::ys)=if x=y then N3 xs ys else decide (x<y):=rfl
def Tk(P:List DT)(S:CF->Prop)(dn:Nat)(K:List Int):Prop:=(∃C,S C/\Gf P dn C K)/\∀C O,S C->Gf P dn C O->N3 O K=false
def Mb(P:List DT)(S:CF->Prop)(dn i:Nat)(K:List Int):Prop:=(∃C,S C/\Gf P dn C ((i:Int)::K))/\∀C O,S C->Gf P dn C ((i:Int)::O)->N3 O K=false
def EY(P:List DT)(S:CF->Prop)(dn i:Nat):Prop:=∃C d K,S C/\P[i]?=some d/\dn.testBit i=false/\DW C d K/\Ends P (dn|||2^i) K
variable{w0:List Int}
theorem Gf.XE{P:List DT}{S:CF->Prop}(hC:S C)(h:Gf P dn C w0)(Y:dn≠2^P.length - 1):∃(i:Nat) (d:DT) (K:CF) (O:List Int),w0=(i:Int)::O/\P[i]?=some d/\dn.testBit i=false/\DW C d K/\Gf P (dn|||2^i) K O/\EY P S dn i:=by
 cases h with
 | nil e=>exact absurd e Y
 | @cons _ i _ K d O a b c e=>exact⟨i,d,K,O,rfl,a,b,c,e,C,d,K,hC,a,b,c,O,e⟩
theorem Gf.fst{P:List DT}{i:Nat}(h:Gf P dn C ((i:Int)::w0)):∃(d:DT) (K:CF),P[i]?=some d/\dn.testBit i=false/\DW C d K/\Gf P (dn|||2^i) K w0:=by
 generalize U:(i:Int)::w0=q at h;cases h with
 | nil e=>cases U
 | @cons _ j _ K d Z a b c e=>
  injection U with ac Y;obtain rfl:i=j:=by omega
  subst Y;exact⟨d,K,a,b,c,e⟩
theorem Mb.step{P:List DT}{S O:CF->Prop}{dn i k:Nat}{Z:List Int}{d:DT}(hd:P[i]?=some d)(ac:∀K,O K↔((∃C,S C/\DW C d K)/\Ends P (dn|||2^i) K))(hb:dn.testBit i=false)(al:dn|||2^i≠2^P.length - 1)(am:∀j,j<k->¬EY P O (dn|||2^i) j)(h:Mb P O (dn|||2^i) k Z):Mb P S dn i ((k:Int)::Z):=by
 obtain⟨⟨K,ap,aq⟩,av⟩:=h;obtain⟨⟨C,hC,aw⟩,-⟩:=(ac K).1 ap;refine⟨⟨C,hC,.cons hd hb aw aq⟩,λay az a0 a1=>?_⟩;obtain⟨d2,U,ag,e2,a2,Y⟩:=a1.fst;rw[hd] at ag;cases ag;have ai:O U:=(ac U).2 ⟨⟨ay,a0,a2⟩,az,Y⟩;obtain⟨j,a5,a6,a3,rfl,-,-,-,-,a4⟩:=Y.XE ai al;have a7:k<=j:=by
  rcases mt j k with q | q;exact absurd a4 (am j q);exact q
 rw[Uu];by_cases e:(j:Int)=(k:Int)
 .rw [eS e];obtain rfl:j=k:=by omega
  exact av U a3 ai Y
 .rw [d9 e];exact p5 (by omega)
structure OS (m dn:Nat) (os:List Nat):Prop where
 nd:os.Nodup
 lt:∀i∈os,i<m
 bit:∀i,i<m->(dn.testBit i=true↔i∈os)
 dn:dn<2^m
variable{os:List Nat}
theorem OS.full{m:Nat}(h:OS m dn os):os.length=m↔dn=2^m - 1:=by
 have hle:os.length<=m:=by
  have:=Ms (m:=List.range m) h.nd λx K=>pw.2 (h.lt x K)
  rwa[rv] at this
 constructor
 .intro e;have O:∀i,i<m->i∈os:=by
   intro i hi;refine qb λU=>?_;have:=Ms (l:=i::os) (m:=List.range m) (rH.2 ⟨U,h.nd⟩) λx K=>by
    rcases iO.1 K with rfl | K;exact pw.2 hi;exact pw.2 (h.lt x K)
   rw[rv,pM] at this;omega
  refine sP λi=>?_;rw[rY];rcases mt i m with hi | hi;rw[(h.bit i hi).2 (O i hi),qf hi];rw[p5 (by omega)];exact ri (qt h.dn (qj (by omega) hi))
 .intro e;have:=Ms (l:=List.range m) (m:=os) List.nodup_range λx K=>by
   have K:=pw.1 K;refine(h.bit x K).1 ?_;rw[e,rY,qf K]
  rw[rv] at this;omega
theorem OS.snoc{m i:Nat}(h:OS m dn os)(hi:i<m)(hb:dn.testBit i=false):OS m (dn|||2^i) (os++ [i]):=by
 have O:i ∉ os:=λq=>by rw[(h.bit i hi).2 q] at hb;cases hb
 refine⟨?_,λj K=>?_,λj K=>?_,?_⟩;rw[qx];exact⟨h.nd,by simp,λa U b Y e=>by cases d7.1 Y;subst e;exact O U⟩;rcases pg.1 K with K | K;exact h.lt j K;cases d7.1 K;exact hi;rw[Sy,qz,qw,h.bit j K,pg,d7];exact⟨λq=>q.imp id Eq.symm,λq=>q.imp id Eq.symm⟩;exact sG h.dn (sS (by omega) hi)
variable{A:Type}{N:Nat}
theorem aQ{S:Type}{body:S->Option (Bj S A)}{s s':S}(h:body s=some (.more s')):Pal.iter body (N+1) s=Pal.iter body N s':=by
 conv=>lhs;unfold Pal.iter
 rw[h]
theorem U7{S:Type}{body:S->Option (Bj S A)}{s:S}{a:A}(h:body s=some (.done a)):Pal.iter body (N+1) s=some a:=by
 conv=>lhs;unfold Pal.iter
 rw[h]
def Fv(l:List PU):CF->Prop:=λC=>∃p∈l,AD p=C
theorem V5(U:SX F n L P){i:Nat}{d:DT}(ap:dn<2^P.length)(hd:P[i]?=some d)(hb:dn.testBit i=false)(aq:now.length<=5^15)(av:∀q∈now,SP n L q)(aw:FM n L P sm):
  ∃all r,LS F now d=some all/\LQ F all (dn|||2^i) P sm=some r/\FM n L P r.2/\r.1.length<=5^15/\(∀q∈r.1,SP n L q)/\(∀K,Fv r.1 K↔((∃C,Fv now C/\DW C d K)/\Ends P (dn|||2^i) K))/\(r.1=[]↔¬EY P (Fv now) dn i):=by
 have hi:i<P.length:=(fx.1 hd).1;have ay:=U.ok d (pC hd);let⟨all,az,a1,Z,a0⟩:=ck U ay aq av;obtain⟨-,a2⟩:=Ps U.m8 ap hi;let⟨r,a3,a4,bb,al,a5⟩:=bR U a2 a1 (λq O=>(Z q O).1) aw;have ac:∀K,Fv r.1 K↔((∃C,Fv now C/\DW C d K)/\Ends P (dn|||2^i) K):=by
  intro K;constructor;rintro⟨q,O,rfl⟩;let⟨c1,c2⟩:=al q O;obtain⟨-,p,ag,ai⟩:=Z q c1;exact⟨⟨_,⟨p,ag,V⟩,ai⟩,c2⟩;rintro⟨⟨C,⟨p,ag,rfl⟩,ai⟩,he⟩;obtain⟨q,O,rfl⟩:=a0 p ag K ai;exact⟨q,a5 q O he,V⟩
 refine⟨all,r,az,a3,a4,by omega,λq O=>(Z q (al q O).1).1,ac,?_⟩;constructor;rintro e ⟨C,d',K,k1,Y,am,a6,a7⟩;rw[hd] at Y;cases Y;obtain⟨q,O,-⟩:=(ac K).2 ⟨⟨C,k1,a6⟩,a7⟩;rw[e] at O;cases O
 .intro a8;cases a9:r.1 with
  | nil=>rfl
  | cons q l=>
   exfalso;obtain⟨⟨C,k1,Y⟩,am⟩:=(ac (AD q)).1 ⟨q,by rw[a9];exact pK,rfl⟩;exact a8 ⟨C,d,_,k1,hd,hb,Y,am⟩
variable{ci:Nat}
theorem Y1(K:SX F n L P)(O:dn<2^P.length){ag:List PU}{ai al:List ((Nat×List (List Int))×Bool)}{i0:Int}{am:List Int}(aq:now.length<=5^15)(av:∀q∈now,SP n L q)(aw:FM n L P sm)
  (hex:∃k,k<P.length/\EY P (Fv now) dn k):
  Ao (Pal.iter (O1 F P (al,ag,i0,am,ci) (now,ai) dn) F (sm,0)) (λr=>FM n L P r.2/\∃k:Nat,r.1=(k:Int)/\k<P.length/\EY P (Fv now) dn k/\∀j,j<k->¬EY P (Fv now) dn j):=by
 have hm:=K.m8;have a7:=K.Qt;refine Dt P.length (λi s=>s.2=(i:Int)/\FM n L P s.1/\∀j,j<i->¬EY P (Fv now) dn j) ⟨V,aw,λj ay=>by omega⟩ (by omega) ?_ ?_
 .rintro i ⟨az,z⟩ hi ⟨U,t1,t2⟩;simp only at U t1 t2;subst U;let⟨a0,a8⟩:=Ps hm O hi;unfold O1;refine B3 (by simp only;omega) (Bi (m:=i) V hi ?_);refine Bg (UK (by omega)) (Bg (UY hm O) ?_);refine AG (S:=λr=>FM n L P r.2/\(r.1=true↔EY P (Fv now) dn i)) ?_ ?_
  .cases hb:dn.testBit i with
   | true=>
    refine Cb (by simp) (An ⟨t1,rX (by simp) ?_⟩);rintro⟨C,d,a9,_,_,k,_⟩;rw[hb] at k;cases k
   | false=>
    let⟨all,r,a1,a2,a3,bb,be,bi,Y⟩:=V5 K O (d6 hi) hb aq av t1;refine B3 (by simp) (Bg (Pb (by omega)) ?_);refine Bg a0 (Bg a1 ?_);refine Bg a2 (An ⟨a3,?_⟩);rw[qw];constructor;intro q;refine sg λa4=>?_;rw[Y.2 a4] at q;exact absurd q (by simp);intro q;have:r.1≠ []:=λe=>Y.1 e q;have:=r9.2 this;omega
  .rintro⟨b,bn⟩ ⟨Z,ac⟩;refine Bs (λhb=>An ⟨Z,i,V,hi,ac.1 hb,t2⟩) (λhb=>?_);refine Ao.E ((i+1:Nat):Int) (by simp) (An ⟨V,Z,λj ay=>?_⟩);rcases mt j i with a5 | bo;exact t2 j a5
   .obtain rfl:j=i:=by omega
    exact λq=>hb (ac.2 q)
 .rintro⟨az,z⟩ ⟨U,t1,t2⟩;obtain⟨k,a6,hh⟩:=hex;exact absurd hh (t2 k a6)
theorem cu(K:SX F n L P):∀(N dn i:Nat) (os:List Nat) (now:List PU) (sm:List ((Nat×List (List Int))×Bool)),300<N+dn->OS P.length dn os->i<P.length->dn.testBit i=false->now.length<=5^15->(∀q∈now,SP n L q)->FM n L P sm->
  Ao (Pal.iter (NA F P) N (sm,now,(i:Int),os.map (λj:Nat=>(j:Int)),dn)) (λq=>∃r sm',q=Sum.inl (r,sm')/\((¬EY P (Fv now) dn i/\r=[])∨(EY P (Fv now) dn i/\∃O,r=os.map (λj:Nat=>(j:Int))++(i:Int)::O/\Mb P (Fv now) dn i O))):=by
 have hm:=K.m8;have ct:=Pv hm;intro N
 induction N with
 | zero=>intro dn i os now sm aq ac;have:=ac.dn;omega
 | succ N a7=>
  intro dn i os now sm cw U hi hb a8 a9 bb;have av:=U.dn;let⟨aw,be⟩:=Ps hm av hi;let⟨all,r,aq,ac,bi,ay,az,a0,ag⟩:=V5 K av (d6 hi) hb a8 a9 bb;have ai:=U.snoc hi hb;have cy:os.length<=8:=by
   have:=Ms (m:=List.range P.length) U.nd λx K=>pw.2 (U.lt x K);rw[rv] at this;omega
  have body:Ao (NA F P (sm,now,(i:Int),os.map (λj:Nat=>(j:Int)),dn)) (λst=>
    (∃sm',st=.done (Sum.inl ([],sm'))/\¬EY P (Fv now) dn i)∨
    (∃sm',st=.done (Sum.inl (os.map (λj:Nat=>(j:Int))++ [(i:Int)],sm'))/\EY P (Fv now) dn i/\dn|||2^i=2^P.length - 1)∨
    (∃sm' k,st=.more (sm',r.1,((k:Nat):Int),(os++ [i]).map (λj:Nat=>(j:Int)),dn|||2^i)/\EY P (Fv now) dn i/\dn|||2^i≠2^P.length - 1/\k<P.length/\EY P (Fv r.1) (dn|||2^i) k/\(∀j,j<k->¬EY P (Fv r.1) (dn|||2^i) j)/\FM n L P sm')):=by
   unfold NA
   dsimp only;refine Bi (m:=i) V hi (Bg (Pb (by omega)) ?_);refine Bg aw (Bg aq ?_);refine Bg ac (Bs (λa1=>An (.inl ⟨_,V,ag.1 (rE.1 (by omega))⟩)) (λa1=>?_));have al:EY P (Fv now) dn i:=sg λq=>a1 (by rw[ag.2 q];rfl);refine Bg (Pb (by omega)) (Bg aw ?_);refine Ao.Oe (by simp;omega) ?_;have hlen:(os.map (λj:Nat=>(j:Int))++ [(i:Int)]).length=(os++ [i]).length:=by simp
   refine Bs (λY=>An (.inr (.inl ⟨_,V,al,ai.full.1 (by omega)⟩))) (λY=>?_);have Z:dn|||2^i≠2^P.length - 1:=λe=>Y (by have:=ai.full.2 e;omega)
   have hex:∃k,k<P.length/\EY P (Fv r.1) (dn|||2^i) k:=by
    have bn:r.1≠ []:=λe=>ag.1 e al;let⟨q,a2⟩:=si _ bn;obtain⟨-,he⟩:=(a0 (AD q)).1 ⟨q,a2,V⟩;let⟨k,d,a3,a4,e2,bo,bv⟩:=he.cases Z;exact⟨k,(fx.1 a4).1,_,d,a3,⟨q,a2,V⟩,a4,e2,bo,bv⟩
   refine AG (Y1 K be ay az bi hex) ?_;rintro⟨z,sm'⟩ ⟨bw,k,a5,bx,bz,b0⟩;simp only at a5;subst a5;exact An (.inr (.inr ⟨sm',k,by simp only[ql,List.map_singleton],al,Z,bx,bz,b0,bw⟩))
  obtain⟨st,am,b1⟩:=body;have c0:=Xh hb;rcases b1 with⟨sm',rfl,ap⟩ | ⟨sm',rfl,hh,b2⟩ | ⟨sm',k,rfl,hh,Z,b3,a6,b4,b5⟩;rw[U7 am];exact An ⟨[],sm',V,.inl ⟨ap,V⟩⟩;rw[U7 am];refine An ⟨_,sm',V,.inr ⟨hh,[],V,?_⟩⟩;obtain⟨C,d,a3,k1,b6,ca,cc,c1⟩:=hh;exact⟨⟨C,k1,.cons b6 ca cc (.nil b2)⟩,λc2 ce _ _=>by cases ce<;>rfl⟩
  .rw [aQ am];have ci:(dn|||2^i).testBit k=false:=by obtain⟨_,_,_,_,_,q,_⟩:=a6;exact q
   refine(a7 (dn|||2^i) k (os++ [i]) r.1 sm' (by omega) ai b3 ci ay az b5).M ?_;rintro q ⟨r',co,rfl,Y⟩;refine⟨r',co,V,?_⟩;rcases Y with⟨ap,-⟩ | ⟨-,O,rfl,cp⟩;exact absurd a6 ap;refine .inr ⟨hh,(k:Int)::O,by simp,cp.step (d6 hi) a0 hb Z b4⟩
def En(ps:List (List Int)):CF:=λa b=>(((ps.getD a []).count (b:Int):Nat):Int)
def Kv(ps:List (List Int)):List Nat:=ps.flatMap λx=>x.map Int.toNat
def Md:Nat->List (List Int)->List Nat
 | _,[]=>[]
 | i,x::xs=>List.replicate x.length i++Md (i+1) xs
theorem UQ{os w2:List Nat}(a b:Nat):∀{O w1:List Nat},O.length=w1.length->CJ (O++os) (w1++w2) a b=CJ O w1 a b+CJ os w2 a b
 | [],[],_=>by show CJ os w2 a b=0+CJ os w2 a b;omega
 | l::O,o::w1,h=>by
  rw[qQ,qQ,OP,OP,UQ a b (by simpa using h)];omega
theorem UW(i a b:Nat):∀{x:List Int},(∀c∈x,0<=c)->CJ (x.map Int.toNat) (List.replicate x.length i) a b=if a=i then((x.count (b:Int):Nat):Int) else 0
 | [],_=>by show(0:Int)=_;simp
 | c::x,h=>by
  have U:=h c pK
  rw[pW,pM,sb,OP,UW i a b λy O=>h y (f7 _ O),List.count_cons]
  by_cases K:a=i
  .rw [eS K,eS K]
   by_cases hb:b=c.toNat;rw[eS ⟨K,hb⟩,eS (by rw[rb];omega)];omega;rw[d9 (λq=>hb q.2),d9 (by rw[rb];omega)];omega
  .rw [d9 K,d9 K,d9 (λq=>K q.1)];omega
theorem VZ(a b:Nat):∀(ps:List (List Int)) (i:Nat),(∀x∈ps,∀c∈x,0<=c)->CJ (Kv ps) (Md i ps) a b=if i<=a then En ps (a - i) b else 0
 | [],i,_=>by
  show(0:Int)=_
  split;unfold En;rw[gJ];simp;rfl
 | x::ps,i,h=>by
  have K:=VZ a b ps (i+1) λy O=>h y (f7 _ O);show CJ (x.map Int.toNat++Kv ps) (List.replicate x.length i++Md (i+1) ps) a b=_;rw[UQ a b (by simp),UW i a b (h x pK),K];by_cases e:a=i;subst e;rw[eS rfl,d9 (by omega),eS (no _),rT];unfold En;rw[List.getD_cons_zero];omega;rw[d9 e];by_cases e2:i<=a;rw[eS (by omega),eS e2];obtain⟨k,U⟩:∃k,a - i=k+1:=⟨a - i - 1,by omega⟩;unfold En;rw[U,List.getD_cons_succ,show a - (i+1)=k by omega];omega;rw[d9 (by omega),d9 e2];omega
theorem VF:∀(ps:List (List Int)) (i:Nat),(Md i ps).length=(Kv ps).length
 | [],_=>rfl
 | x::ps,i=>by
  show(List.replicate x.length i++Md (i+1) ps).length=(x.map Int.toNat++Kv ps).length
  rw[pA,pA,VF ps (i+1),rU,qB]
theorem WY:∀(ps:List (List Int)) (i:Nat),∀o∈Md i ps,o<i+ps.length
 | [],_,o,h=>by cases h
 | x::ps,i,o,h=>by
  rw[pM]
  rcases pg.1 h with h | h;have:=(List.mem_replicate.1 h).2;omega;have:=WY ps (i+1) o h;omega
theorem Vt:∀{ps:List (List Int)}{k:Nat},(∀x∈ps,x.length<=k)->(Kv ps).length<=ps.length*k
 | [],_,_=>qc _
 | x::ps,k,h=>by
  have:=Vt (ps:=ps) (k:=k) λy K=>h y (f7 _ K)
  have O:=h x pK
  show(x.map Int.toNat++Kv ps).length<=_
  rw[pA,qB,pM,qy];omega
theorem YH{x:List Int}{k:Nat}(K:k<x.length)(b:Int):(x.take (k+1)).count b=(x.take k).count b+if x[k]=b then 1 else 0:=by
 rw[qE,d6 K,List.count_append,rQ,List.count_singleton];by_cases e:x[k]=b;rw[eS e,eS (by simp[e])];rw[d9 e,d9 (by simp[e])]
variable{o:OW}
theorem bS{F:Nat}(aw:100<F)(h:VO o):Ao (f120 F o) (λp=>SP o.1.length (Kv o.1) p/\AD p=En o.1):=by
 have ay:=h.n5;unfold f120;refine AG (S:=λp=>p.length=o.1.length/\(∀xs∈p,∀K∈xs,0<=K.1/\K.1<10)/\∀a,a<o.1.length->∀b:Nat,AD p a b=En o.1 a b) ?_ ?_
 .refine Dt o.1.length (λi s=>s.2=(i:Int)/\s.1.length=i/\(∀xs∈s.1,∀K∈xs,0<=K.1/\K.1<10)/\∀a,a<i->∀b:Nat,AD s.1 a b=En o.1 a b) ⟨V,V,(λxs Z=>by cases Z),(λa am=>by omega)⟩ (by omega) ?_ ?_
  .rintro i ⟨s,z⟩ hi ⟨O,t1,t2,t3⟩;simp only at O t1 t2 t3;subst O;let⟨c1,c2⟩:=h.cs _ (pj hi);unfold Pn;refine B3 (by simp only;omega) (Bi (m:=i) V hi ?_);refine AG (S:=λm=>(∀K∈m,0<=K.1/\K.1<10)/\∀b:Nat,(A8 m (b:Int)).getD 0=((o.1[i].count (b:Int):Nat):Int)) ?_ ?_
   .refine Dt o.1[i].length (λk s=>s.2=(k:Int)/\(∀K∈s.1,0<=K.1/\K.1<10)/\∀b:Nat,(A8 s.1 (b:Int)).getD 0=(((o.1[i].take k).count (b:Int):Nat):Int)) ⟨V,(λK ac=>by cases ac),(λb=>V)⟩ (by omega) ?_ ?_
    .rintro k ⟨m,z⟩ ac ⟨O,Y,U⟩;simp only at O Y U;subst O;have ai:=c2 _ (pj ac);have ap:((o.1[i][k].toNat:Nat):Int)=o.1[i][k]:=by omega
     have ag:=U o.1[i][k].toNat;rw[ap] at ag;have hle:(o.1[i].take k).count o.1[i][k]<=k:=qg List.count_le_length (by rw[r6];omega);unfold Pk;refine B3 (by simp only;omega) ?_;refine Bi (m:=k) V ac ?_;refine Lr _ V (by simp only[ag];omega) (by simp only[ag];omega) ?_;refine Ao.E ((k+1:Nat):Int) (by simp) ?_;refine An ⟨V,λK aq=>?_,λb=>?_⟩;rcases Rs aq with q | ⟨r,q⟩;rw[q];omega;exact Y (K.1,r) q;simp only;rw[KG,YH ac];by_cases e:(b:Int)=o.1[i][k];rw[eS e,eS e.symm,Option.getD_some,ag,e];omega;rw[d9 e,d9 (λq=>e q.symm),U b];omega
    .rintro⟨m,z⟩ ⟨O,Y,U⟩;simp only at O Y U;subst O;unfold Pk;rw[qk] at U;exact Cb (by simp only;omega) (An ⟨_,V,Y,U⟩)
   .rintro m ⟨Y,U⟩;refine Jp (by simp only;omega) (Ao.E ((i+1:Nat):Int) (by simp) ?_);refine An ⟨V,by show(s++ [m]).length=i+1;rw[pA,qU];omega,λxs av=>?_,λa am b=>?_⟩;rcases pg.1 av with q | q;exact t2 xs q;cases d7.1 q;exact Y
    .simp only;rcases mt a i with q | q;rw[← t3 a q b];unfold AD;rw[gJ,po (by omega),gJ]
     .obtain rfl:a=i:=by omega
      unfold AD En;rw[gJ,pf (by omega),show a - s.length=0 by omega,gJ,d6 hi];exact U b
  .rintro⟨s,z⟩ ⟨O,t1,t2,t3⟩;simp only at O t1 t2 t3;subst O;unfold Pn;exact Cb (by simp only;omega) (An ⟨_,V,t1,t2,t3⟩)
 .rintro p ⟨t1,t2,t3⟩;have al:AD p=En o.1:=by
   funext a b;rcases mt a o.1.length with q | q;exact t3 a q b;unfold AD En;rw[gJ,pU (by omega),gJ,pU q];rfl
  refine An ⟨⟨t1,t2,Md 0 o.1,VF _ _,λx Z=>by have:=WY o.1 0 x Z;omega,?_⟩,al⟩;rw[al];funext a b;rw[VZ a b o.1 0 (λx Z c ai=>by have:=(h.cs x Z).2 c ai;omega),eS (qc _),ro]
theorem VO.Of(h:VO o):(Kv o.1).length<=15:=by
 have O:=Vt (ps:=o.1) (k:=3) λx K=>(h.cs x K).1;have:=h.n5;omega
structure PO (F:Nat) (o:OW) (P:List DT):Prop where
 vo:VO o
 m8:P.length<=8
 ok:∀d∈P,VT o.1.length d
 fuel:5^16<F
theorem PO.sx{F:Nat}{P:List DT}(h:PO F o P):SX F o.1.length (Kv o.1) P:=⟨h.vo.n5,h.vo.Of,h.m8,h.ok,h.fuel⟩
def S0(o:OW):CF->Prop:=λC=>En o.1=C
theorem di{F:Nat}{P:List DT}(h:PO F o P){j:Nat}(Z:j<P.length):Ao (JH F o P j) (λr=>(¬EY P (S0 o) 0 j/\r=[])∨(EY P (S0 o) 0 j/\∃K,r=(j:Int)::K/\Mb P (S0 o) 0 j K)):=by
 have U:=h.sx;have al:=h.fuel;have am:(5:Nat)^16=152587890625:=by decide
 unfold JH;refine AG (bS U.Qt h.vo) ?_;rintro p ⟨ac,Y⟩;have ag:Fv [p]=S0 o:=by
  funext C;unfold Fv S0;refine propext ⟨?_,λe=>⟨p,d7.2 V,by rw[Y];exact e⟩⟩;rintro⟨q,O,e⟩;cases d7.1 O;rw[← Y];exact e
 have key:=cu U F 0 j [] [p] [] (by omega) ⟨s0,(λi hi=>by cases hi),(λi hi=>by simp),sQ _⟩ Z (by simp) (by simp) (λq O=>by cases d7.1 O;exact ac) (λdn X b hb=>by cases hb);rw[ag] at key;refine AG (S:=λr=>(¬EY P (S0 o) 0 j/\r.1=[])∨(EY P (S0 o) 0 j/\∃K,r.1=(j:Int)::K/\Mb P (S0 o) 0 j K)) ?_ (λr ai=>An ai);unfold f119;refine AG key ?_;rintro q ⟨r,sm',rfl,O⟩;exact An O
theorem fI{F:Nat}{P:List DT}(h:PO F o P):Ao (f77 F o P) (λr=>(r.2=true/\Tk P (S0 o) 0 r.1)∨(r=([],false)/\¬Ends P 0 (En o.1))):=by
 have hm:=h.m8;unfold f77;refine Bs (λal=>An (.inl ⟨V,⟨_,V,.nil (by rw[al])⟩,λC am _ _=>by cases am<;>rfl⟩)) (λal=>?_);have ap:0≠2^P.length - 1:=by
  have:2^1<=2^P.length:=qj (by omega) (by omega);omega
 have ag:∀j,j<P.length->∃r,JH F o P j=some r/\Kp F o P j=r/\((¬EY P (S0 o) 0 j/\r=[])∨(EY P (S0 o) 0 j/\∃Y,r=(j:Int)::Y/\Mb P (S0 o) 0 j Y)):=λj O=>by
  let⟨r,Z,U⟩:=di h O;exact⟨r,Z,by unfold Kp;rw[Z];rfl,U⟩
 refine B3 ⟨by omega,pJ.2 λj O=>?_⟩ (An ?_);let⟨r,Z,_⟩:=ag j (pw.1 O);rw[Z];rfl
 have ai:∀j,j<P.length->((!(Kp F o P j).isEmpty)=true↔EY P (S0 o) 0 j):=λj O=>by
  let⟨r,_,U,K⟩:=ag j O;rw[U];rcases K with⟨K,rfl⟩ | ⟨K,Y,rfl,_⟩;exact rX (by simp) K;exact tN V K
 unfold ML;cases aq:(List.range P.length).find? λj=> !(Kp F o P j).isEmpty with
 | none=>
  refine .inr ⟨V,λhe=>?_⟩;let⟨i,d,av,ac,e2,aw,ay⟩:=he.cases ap;have hi:=(fx.1 ac).1;have:=q6.1 aq i (pw.2 hi);exact this ((ai i hi).2 ⟨_,d,av,V,ac,e2,aw,ay⟩)
 | some j=>
  let⟨f1,f2,f3⟩:=qP.1 aq;have O:=pw.1 f2;let⟨r,_,U,K⟩:=ag j O;have a2:=(ai j O).1 f1;rcases K with⟨K,_⟩ | ⟨K,Y,rfl,⟨C,hC,a3⟩,a4⟩;exact absurd a2 K
  refine .inl ⟨V,?_⟩;show Tk P (S0 o) 0 (Kp F o P j);rw[U];refine⟨⟨C,hC,a3⟩,λa5 am az a0=>?_⟩;obtain⟨i,d,av,a6,rfl,ac,e2,aw,ay,a7⟩:=a0.XE az ap;have hi:=(fx.1 ac).1;have a8:j<=i:=by
   rcases mt i j with q | q;have:=f3 i q;rw[ru] at this;have a1:=(ai i hi).2 a7;rw[this] at a1;cases a1;exact q
  rw[Uu];by_cases e:(i:Int)=(j:Int)
  .rw [eS e];obtain rfl:i=j:=by omega
   exact a4 a5 a6 az a0
  .rw [d9 e];exact p5 (by omega)
def Zb(n:Nat)(w:List Int):Prop:=∀j,n<=j->gN w j=0
variable{w:List Int}
theorem gn{i j:Nat}{v:Int}(h:i≠j):gN (w.set i v) j=gN w j:=by
 unfold gN;rw[gJ,qa h,gJ]
theorem Zb.add{n:Nat}{i v:Int}(h:Zb n w)(hi:i<n)(O:0<=i):Zb n (Gw w i v):=λj K=>by
 unfold Gw
 rw[gn (by omega)]
 exact h j K
theorem Zb.zero(n:Nat):Zb n (List.replicate 5 0):=λj _=>by
 unfold gN
 rw[gJ,sF]
 split<;>rfl
theorem VJ(h:VO o):Zb o.1.length (BS o):=by
 have:∀(ds:List DT) (w:List Int),Zb o.1.length w->(∀d∈ds,VD o.1.length d)->Zb o.1.length (ds.foldl Kq w):=by
  intro ds
  induction ds with
  | nil=>exact λw hw _=>hw
  | cons d ds K=>
   intro w hw hd;let⟨v1,v2,O,v4,_⟩:=hd d pK;exact K _ ((hw.add v4 O).add v2 v1) λx U=>hd x (f7 _ U)
 exact this _ _ (Zb.zero _) h.ds
theorem dr{d:DT}(h:w.length=5):(Kq w d).length=5:=by unfold Kq Gw;rw[pE,pE];exact h
def Fu(w:List Int)(A:Nat->Bool):Int:=(if A 0 then gN w 0 else 0)+(if A 1 then gN w 1 else 0)+(if A 2 then gN w 2 else 0)+(if A 3 then gN w 3 else 0)+(if A 4 then gN w 4 else 0)
theorem Z3{j:Nat}(K:j<5):Fu w (λi=>i==j)=gN w j:=by
 unfold Fu
 match j,K with
 | 0,_ | 1,_ | 2,_ | 3,_ | 4,_=>simp
theorem dB{p o:Nat}(O:p<5)(U:o<5)(K:o≠p)(X:Int):(if 0=p then -X else if 0=o then X else 0)+(if 1=p then -X else if 1=o then X else 0)+(if 2=p then -X else if 2=o then X else 0)+(if 3=p then -X else if 3=o then X else 0)+(if 4=p then -X else if 4=o then X else 0)=0:=by
 obtain rfl | rfl | rfl | rfl | rfl:p=0∨p=1∨p=2∨p=3∨p=4:=by omega
 all_goals
  obtain rfl | rfl | rfl | rfl | rfl:o=0∨o=1∨o=2∨o=3∨o=4:=by omega
  all_goals first | exact absurd rfl K | (simp;try omega)
theorem YY{v:List Int}{p o:Nat}(O:p<5)(U:o<5)(Y:o≠p)(h:∀j,gN v j=if j=p then 0 else if j=o then gN w o+gN w p else gN w j)(A:Nat->Bool):Fu v A=Fu w (λj=>if j=p then A o else A j):=by
 have key:∀j,(if A j=true then gN v j else 0)=(if(if j=p then A o else A j)=true then gN w j else 0)+(if j=p then -(if A o=true then gN w p else 0) else if j=o then(if A o=true then gN w p else 0) else 0):=by
  intro j;rw[h];by_cases K:j=p;subst K;rw[eS rfl,eS rfl,eS rfl];cases A o<;>cases A j<;>simp<;>omega;rw[d9 K,d9 K,d9 K];by_cases e2:j=o;subst e2;rw[eS rfl,eS rfl];cases A j<;>simp;rw[d9 e2,d9 e2,Int.add_zero]
 have al:=dB O U Y (if A o=true then gN w p else 0)
 have Z:=key 0;have k1:=key 1;have ac:=key 2;have ag:=key 3;have ai:=key 4;unfold Fu;rw[Z,k1,ac,ag,ai];generalize (if(if 0=p then A o else A 0)=true then gN w 0 else 0)=am
 generalize (if(if 1=p then A o else A 1)=true then gN w 1 else 0)=a1
 generalize (if(if 2=p then A o else A 2)=true then gN w 2 else 0)=ap
 generalize (if(if 3=p then A o else A 3)=true then gN w 3 else 0)=aq
 generalize (if(if 4=p then A o else A 4)=true then gN w 4 else 0)=av
 generalize (if A o=true then gN w p else 0)=X at*
 generalize (if 0=p then -X else if 0=o then X else 0)=aw at*
 generalize (if 1=p then -X else if 1=o then X else 0)=ay at*
 generalize (if 2=p then -X else if 2=o then X else 0)=az at*
 generalize (if 3=p then -X else if 3=o then X else 0)=a0 at*
 generalize (if 4=p then -X else if 4=o then X else 0)=a2 at*
 omega
def s1(A:Nat->Bool)(d:DT):Int:=(if A d.2.1.toNat then d.2.2 else 0)+(if A d.1.toNat then -d.2.2 else 0)
theorem Vk(hw:w.length=5){i v:Int}(K:0<=i)(O:i<5)(A:Nat->Bool):Fu (Gw w i v) A=Fu w A+if A i.toNat then v else 0:=by
 unfold Fu;rw[IT hw K O,IT hw K O,IT hw K O,IT hw K O,IT hw K O];obtain rfl | rfl | rfl | rfl | rfl:i=0∨i=1∨i=2∨i=3∨i=4:=by omega
 simp only[show Int.toNat 0=0 from rfl];cases A 0<;>simp<;>omega;simp only[show Int.toNat 1=1 from rfl];cases A 1<;>simp<;>omega;simp only[show Int.toNat 2=2 from rfl];cases A 2<;>simp<;>omega;simp only[show Int.toNat 3=3 from rfl];cases A 3<;>simp<;>omega;simp only[show Int.toNat 4=4 from rfl];cases A 4<;>simp<;>omega
theorem Rd(A:Nat->Bool):∀(l:List DT) (w:List Int),(∀d∈l,(0<=d.1/\d.1<5)/\0<=d.2.1/\d.2.1<5)->w.length=5->Fu (l.foldl Kq w) A=Fu w A+(l.map (s1 A)).sum
 | [],w,_,_=>by simp
 | d::l,w,h,hw=>by
  let⟨⟨a1,K⟩,O,U⟩:=h d pK
  rw[rq,Rd A l _ (λx Y=>h x (f7 _ Y)) (dr hw),pW,qO]
  unfold Kq s1
  rw[Vk (by unfold Gw;rw[pE];exact hw) a1 K,Vk hw O U]
  omega
theorem VO.XB(h:VO o):∀d∈o.2,(0<=d.1/\d.1<5)/\0<=d.2.1/\d.2.1<5:=λd hd=>by
 have K:=h.n5
 obtain⟨a1,O,U,Y,-⟩:=h.ds d hd;omega
abbrev z5:List Int:=List.replicate 5 0
def GD(n:Nat)(d:DT):Prop:=0<=d.1/\d.1<(n:Int)/\0<=d.2.1/\d.2.1<(n:Int)/\d.1≠d.2.1/\1<=d.2.2/\d.2.2<=72
def cN(j:Nat)(d:DT):Int:=(if(j:Int)=d.2.1 then d.2.2 else 0)+(if(j:Int)=d.1 then -d.2.2 else 0)
theorem R4{d:DT}(h:w.length=5):(Ht w d).length=5:=by unfold Ht Gw;rw[pE,pE];exact h
theorem dG{d:DT}{n:Nat}(h:w.length=5)(U:n<=5)(g:GD n d)(j:Nat):gN (Ht w d) j=gN w j - cN j d:=by
 obtain⟨K,Y,O,Z,_⟩:=g;unfold Ht cN;rw[IT (by unfold Gw;rw[pE];exact h) O (by omega),IT h K (by omega)];split<;>split<;>omega
theorem UL{n:Nat}(K:n<=5):∀(x:List DT) (w:List Int),w.length=5->(∀d∈x,GD n d)->(x.foldl Ht w).length=5/\∀j,gN (x.foldl Ht w) j=gN w j - (x.map (cN j)).sum
 | [],w,h,_=>⟨h,by simp⟩
 | d::x,w,h,O=>by
  let⟨U,Y⟩:=UL K x (Ht w d) (R4 h) (λe he=>O e (f7 _ he))
  refine⟨U,λj=>?_⟩
  rw[rq,Y,dG h K (O d pK),pW,qO];omega
theorem SR(j:Nat):gN z5 j=0:=by
 unfold gN;rw[gJ,sF];split<;>rfl
theorem Vh{l l':List Int}(h:l.Perm l'):l.sum=l'.sum:=by
 induction h with
 | nil=>rfl
 | cons _ _ K=>rw[qO,qO,K]
 | swap a b l=>simp only[qO];omega
 | trans _ _ a b=>exact a.trans b
def S5(w:List Int):Int:=Fu w λ_=>true
theorem VS(A:Nat->Bool):Fu z5 A=0:=by unfold Fu;simp[SR]
theorem gW(h:VO o)(A:Nat->Bool): -72<=Fu (BS o) A/\Fu (BS o) A<=72:=by
 have O:=h.d8;have:∀l:List DT,(∀d∈l,VD o.1.length d)-> -(9*(l.length:Int))<=(l.map (s1 A)).sum/\(l.map (s1 A)).sum<=9*l.length:=by
  intro l
  induction l with
  | nil=>simp
  | cons d l K=>
   intro hd;have:=K λe he=>hd e (f7 _ he);let⟨_,_,_,_,_,U,Y⟩:=hd d pK;rw[pW,qO,pM];have: -9<=s1 A d/\s1 A d<=9:=by unfold s1;split<;>split<;>omega
   omega
 have k:=this o.2 h.ds;have e:=Rd A o.2 z5 h.XB V;rw[VS] at e;show -72<=Fu (o.2.foldl Kq z5) A/\Fu (o.2.foldl Kq z5) A<=72;omega
theorem iZ(h:VO o):S5 (BS o)=0:=by
 have:∀l:List DT,(l.map (s1 λ_=>true)).sum=0:=by
  intro l
  induction l with
  | nil=>rfl
  | cons d l K=>rw[pW,qO,K];unfold s1;simp;omega
 unfold S5 BS;rw[Rd _ _ _ h.XB rfl,VS,this];rfl
def GO(o:OW)(k:Nat):List Int:=((List.range k).filter λh:Nat=>decide ((o.1.getD h []).sum< -gN (BS o) h)).map λh:Nat=>(h:Int)
theorem TR(o:OW)(k:Nat):GO o (k+1)=GO o k++(if(o.1.getD k []).sum< -gN (BS o) k then [(k:Int)] else []):=by
 unfold GO;rw[tx,List.filter_append,ql];congr 1;by_cases h:(o.1.getD k []).sum< -gN (BS o) k;rw[eS h];simp only[List.filter_cons,List.filter_nil,h,decide_true,qs,pW,th];rw[d9 h];simp only[List.filter_cons,List.filter_nil,h,decide_false,px,qp,th]
theorem Vo(o:OW)(k:Nat):(GO o k).length<=k:=by
 unfold GO;rw[qB];have K:=tE (λh:Nat=>decide ((o.1.getD h []).sum< -gN (BS o) h)) (List.range k);rw[rv] at K;exact K
theorem hZ{x:List Int}(h:CS x):x.length<=20/\∀c∈x,-1000<=c/\c<=1000:=⟨by have:=h.1;omega,λc K=>by have:=h.2 c K;omega⟩
theorem dY{F:Nat}(Z:100<F)(h:VO o):f39 F o=some (GO o o.1.length,0):=by
 have ap:=h.n5;let⟨hw,hb⟩:=NM Z h;refine Fo ?_;unfold f39;refine Bg (S2 Z h) ?_;refine Cb (by simp) ?_;refine Bg hw ?_;refine AG (S:=λr=>r=GO o o.1.length) ?_ (by rintro r rfl;exact An rfl);refine Dt 5 (λi s=>s.2=(i:Int)/\s.1=GO o (min i o.1.length)) ⟨V,by simp[GO]⟩ (by omega) ?_ ?_
 .rintro i ⟨l,z⟩ hi ⟨K,O⟩;simp only at K O;subst K;subst O;have aq:=Vo o (min i o.1.length);have av:=hb.bd hi;unfold PN
  dsimp only;refine B3 (by omega) (Bg (hb.ix (by omega) (by omega)) ?_);rw[show Int.toNat (i:Int)=i by omega];refine AG (S:=λq=>(q=true/\i<o.1.length/\(o.1.getD i []).sum< -gN (BS o) i)∨(q=false/\¬(i<o.1.length/\(o.1.getD i []).sum< -gN (BS o) i))) ?_ ?_
  .refine Bs (λag=>?_) (λag=>An (.inr ⟨V,by omega⟩));have U:i<o.1.length:=by omega
   let⟨c1,c2⟩:=hZ (h.cs _ (pj U));let⟨s1,s2,aw⟩:=Wt (F:=F) Z c1 c2;refine Bi (m:=i) V U (Bg s1 ?_);refine Ao.E _ V (An ?_);rw[Mw U];by_cases Y:(o.1[i]).sum< -gN (BS o) i;exact .inl ⟨qf Y,U,Y⟩;exact .inr ⟨p5 Y,λk=>Y k.2⟩
  .intro q ai;refine AG (S:=λr=>r=GO o (min (i+1) o.1.length)) ?_ ?_;rcases ai with⟨rfl,ac,al⟩ | ⟨rfl,ac⟩;rw[show min (i+1) o.1.length=i+1 by omega,TR,eS al,show min i o.1.length=i by omega];refine B3 V (Jp (by have:=Vo o i;omega) (An V));refine Cb (by simp) (An ?_);rcases mt i o.1.length with am | ay;rw[show min (i+1) o.1.length=i+1 by omega,TR,d9 (λk=>ac ⟨am,k⟩),show min i o.1.length=i by omega,pG];rw[show min (i+1) o.1.length=min i o.1.length by omega];rintro r rfl;exact Ao.E ((i+1:Nat):Int) (by simp) (An ⟨V,V⟩)
 .rintro⟨l,z⟩ ⟨K,O⟩;simp only at K O;subst K;subst O;unfold PN
  dsimp only;exact Cb (by omega) (An ⟨_,V,by rw[show min 5 o.1.length=o.1.length by omega]⟩)
theorem WE{p o:Nat}{x:PR}(hw:w.length=5)(ag:p<5)(ai:o<5)(Y:o≠p)(ac:x.1+x.2 - (p:Int)=o)(j:Nat):gN (Ht w (dP p x (gN w p))) j=if j=p then 0 else if j=o then gN w o+gN w p else gN w j:=by
 have Z:∀i v,(Gw w i v).length=5:=λi v=>by unfold Gw;rw[pE];exact hw
 unfold dP;rw[ac];unfold Ht;by_cases h:0<gN w p;rw[eS h];simp only;rw[IT (Z _ _) (by omega) (by omega),IT hw (by omega) (by omega)];have O:((j:Int)=(p:Int))=(j=p):=propext ⟨by omega,by omega⟩;have U:((j:Int)=(o:Int))=(j=o):=propext ⟨by omega,by omega⟩;simp only[O,U];by_cases K:j=p;subst K;rw[d9 (p6 Y),eS rfl,eS rfl];omega;rw[d9 K,d9 K];by_cases e2:j=o;subst e2;rw[eS rfl,eS rfl];omega;rw[d9 e2,d9 e2];omega;rw[d9 h];simp only;rw[IT (Z _ _) (by omega) (by omega),IT hw (by omega) (by omega)];have O:((j:Int)=(p:Int))=(j=p):=propext ⟨by omega,by omega⟩;have U:((j:Int)=(o:Int))=(j=o):=propext ⟨by omega,by omega⟩;simp only[O,U];by_cases K:j=p;subst K;rw[eS rfl,d9 (p6 Y),eS rfl];omega;rw[d9 K,d9 K];by_cases e2:j=o;subst e2;rw[eS rfl,eS rfl];omega;rw[d9 e2,d9 e2];omega
theorem Q4:∀{m:Nat}{l c:List PR},c∈GM m l->c.Sublist l
 | 0,l,c,h=>by
  rw[show GM 0 l=[[]] by cases l<;>rfl] at h
  cases d7.1 h
  exact List.nil_sublist _
 | m+1,[],c,h=>by cases h
 | m+1,y::ys,c,h=>by
  rcases pg.1 h with h | h
  .obtain⟨O,K,rfl⟩:=pO.1 h
   exact(Q4 K).cons_cons y
  .exact(Q4 h).cons y
theorem TM{n:Nat}{w0:List Int}(al:n<=5)(hb:∀A,-72<=Fu w0 A/\Fu w0 A<=72):∀(k:Nat) (l:List PR) (w:List Int) (out r:List DT),l.length=k->(∀x∈l,VP n x)->w.length=5->(∀A,∃B,Fu w A=Fu w0 B)->Ex n k l w out=some r->
  ∃s,r=out++s/\s.length=k/\(∀d∈s,GD n d)/\s.foldl Ht w=z5
 | 0,l,w,out,r,am,Y,hw,Z,h=>by
  unfold Ex at h
  split at h;rename_i e;cases h;exact⟨[],by simp,V,λd hd=>(by cases hd),e⟩;cases h
 | k+1,l,w,out,r,am,Y,hw,Z,h=>by
  unfold Ex at h;let⟨p,ag,h⟩:=bind_some h;split at h;cases h
  rename_i a0;unfold Kk at ag;let⟨c1,c2,c3⟩:=qP.1 ag;have c2:p<n:=pw.1 (by first | exact c2 | exact pw.2 c2)
  have a1:l.countP (BC p)=1:=by simpa using c1
  have ac:l.findIdx (BC p)<l.length:=by
   obtain⟨x,K,O⟩:=se.1 (show 0<l.countP (BC p) by omega);exact rz ⟨x,K,O⟩
  rw[Mw ac] at h;have O:BC p l[l.findIdx (BC p)]=true:=r7;have K:=Y _ (pj ac);generalize l[l.findIdx (BC p)]=x at h O K;obtain⟨v1,v2,a2⟩:=K;have ap:x.1+x.2 - (p:Int)=((x.1+x.2 - (p:Int)).toNat:Nat)/\(x.1+x.2 - (p:Int)).toNat<n/\(x.1+x.2 - (p:Int)).toNat≠p:=by
   unfold BC at O;simp only[qz,qw] at O;omega
  obtain⟨aq,a3,ai⟩:=ap;have hm: -72<=gN w p/\gN w p<=72:=by
   let⟨B,U⟩:=Z λx=>x==p;rw[Z3 (by omega)] at U;rw[U];exact hb B
  have av:GD n (dP p x (gN w p)):=by
   unfold dP GD;split;simp only;omega;simp only;omega
  obtain⟨s,aw,e2,ay,az⟩:=TM al hb k _ _ _ r (by rw[r8 ac];omega) (λx K=>Y x (q9 K)) (R4 hw) (λA=>by
   let⟨B,U⟩:=Z λj=>if j=p then A (x.1+x.2 - (p:Int)).toNat else A j
   exact⟨B,(YY (p:=p) (o:=(x.1+x.2 - (p:Int)).toNat) (by omega) (by omega) ai (λj=>WE hw (by omega) (by omega) ai aq j) A).trans U⟩) h
  refine⟨dP p x (gN w p)::s,by rw[aw];simp,by simp[e2],λd hd=>?_,by rw[rq];exact az⟩;rcases iO.1 hd with rfl | hd;exact av;exact ay d hd
theorem YV(l:List DT):(EL l).Perm l:=by
 have ins:∀(d:DT) (l:List DT),(Gx d l).Perm (d::l):=by
  intro d l
  induction l with
  | nil=>exact q5 _
  | cons z K O=>
   unfold Gx;split;exact q5 _;exact(O.cons z).trans (List.Perm.swap d z K)
 refine MD (P:=λl=>(EL l).Perm l) (q5 _) (λl d h=>?_) l;rw[Nq];exact(ins d _).trans ((h.cons d).trans (ta d l).symm)
def Kx(C:CF)(a:Nat):Int:=C a 1+2*C a 2+3*C a 3+4*C a 4+5*C a 5+6*C a 6+7*C a 7+8*C a 8+9*C a 9
theorem eF{x y:Nat}:Kx (Gy C x y v) a=Kx C a - (if a=x then(wS v:Int) else 0)+(if a=y then(wS v:Int) else 0):=by
 unfold Kx Gy wS;by_cases K:a=x<;>by_cases O:a=y<;>simp only[K,O,qs,qp,tP,false_and,eS,d9]<;>(try split)<;>(try split)<;>omega
theorem cr{n:Nat}{d:DT}(g:GD n d)(h:DW C d K)(O:∀a b,0<=C a b)(a:Nat):Kx K a=Kx C a+cN a d/\∀a b,0<=K a b:=by
 obtain⟨v,ac,U,Y,rfl⟩:=h;obtain⟨ag,g2,ai,al,am,ap,aq⟩:=g;constructor
 .rw [eF,Y];unfold cN;have Z:(a=d.1.toNat)↔((a:Int)=d.1):=by omega
  have e2:(a=d.2.1.toNat)↔((a:Int)=d.2.1):=by omega
  simp only[Z,e2];split<;>split<;>omega
 .intro a b;have:=O a b;have:=U b;unfold Gy;by_cases e:a=d.1.toNat;subst e;rw[eS rfl];split<;>omega;rw[d9 e];split<;>omega
def Jb(P:List DT)(dn a:Nat):Nat->Int
 | 0=>0
 | k+1=>Jb P dn a k+if dn.testBit k=true then 0 else cN a (P.getD k (0,0,0))
theorem Ve{P:List DT}{dn a i:Nat}(hb:dn.testBit i=false):∀k,Jb P dn a k=Jb P (dn|||2^i) a k+if i<k then cN a (P.getD i (0,0,0)) else 0
 | 0=>by simp[Jb]
 | k+1=>by
  unfold Jb
  rw[Ve hb k,Sy]
  by_cases e:i=k
  .subst e
   rw[hb];simp
  .have:(i<k+1)↔(i<k):=by omega
   simp only[this,p5 e,Bool.or_false];split<;>split<;>omega
theorem V2{P:List DT}{a:Nat}:∀k,k<=P.length->Jb P (2^P.length - 1) a k=0
 | 0,_=>rfl
 | k+1,K=>by
  unfold Jb
  rw[V2 k (by omega),eS];rfl;rw[rY];exact qf (by omega)
theorem UO{P:List DT}{a:Nat}:∀k,k<=P.length->Jb P 0 a k=((P.take k).map (cN a)).sum
 | 0,_=>by simp[Jb]
 | k+1,K=>by
  unfold Jb
  rw[UO k (by omega),Nat.zero_testBit,d9 (by simp),qE,d6 (by omega),Mw (by omega),rQ,ql,List.sum_append]
  simp
theorem dy{n:Nat}{P:List DT}(U:∀d∈P,GD n d):∀{dn:Nat}{C:CF}{O:List Int},Gf P dn C O->(∀a b,0<=C a b)->0<=Kx C a+Jb P dn a P.length:=by
 intro dn C O h
 induction h with
 | nil e=>
  intro K;subst e;rw[V2 _ (no _)];unfold Kx;have:=K a 1;have:=K a 2;have:=K a 3;have:=K a 4;have:=K a 5;have:=K a 6;have:=K a 7;have:=K a 8;have:=K a 9;omega
 | @cons dn i C ag d O hd hb Y _ Z=>
  intro K;have hi:=(fx.1 hd).1;have hm:d∈P:=pC hd;let⟨k1,ac⟩:=cr (U d hm) Y K a;have:=Z ac;rw[Ve hb,eS hi,gJ,hd,Option.getD_some];omega
theorem Wa:∀x:List Int,(∀c∈x,1<=c/\c<=9)->x.sum=(x.count 1:Int)+2*(x.count 2:Int)+3*(x.count 3:Int)+4*(x.count 4:Int)+5*(x.count 5:Int)+6*(x.count 6:Int)+7*(x.count 7:Int)+8*(x.count 8:Int)+9*(x.count 9:Int)
 | [],_=>by simp
 | c::x,h=>by
  let⟨O,U⟩:=h c pK
  rw[qO,Wa x λy K=>h y (f7 _ K)]
  obtain rfl | rfl | rfl | rfl | rfl | rfl | rfl | rfl | rfl:c=1∨c=2∨c=3∨c=4∨c=5∨c=6∨c=7∨c=8∨c=9:=by omega
  all_goals simp[List.count_cons];omega
theorem GD.vt{n:Nat}{d:DT}(g:GD n d):VT n d:=⟨g.1,g.2.1,g.2.2.1,g.2.2.2.1,g.2.2.2.2.1,g.2.2.2.2.2.1,g.2.2.2.2.2.2⟩
theorem aH:((List.range 6).all λn=>(List.range 6).all λm=>decide ((GM m (Eu n)).length<=300))=true:=by decide+kernel
theorem dH:∀l:LL,l≠ []->Km l∈l/\∀s∈l,BI s (Km l)=false:=by
 have:∀l:LL,l=[]∨((l.foldl EK ([],false)).1∈l/\(l.foldl EK ([],false)).2=true/\∀s∈l,BI s (l.foldl EK ([],false)).1=false):=by
  refine MD (.inl V) λl x h=>.inr ?_;rw[rS];show(EK _ x).1∈l++ [x]/\(EK _ x).2=true/\∀s∈l++ [x],BI s (EK _ x).1=false;rcases h with rfl | ⟨Z,U,Y⟩;exact⟨by simp[EK],V,λs K=>by cases d7.1 K;exact KL _⟩;generalize l.foldl EK ([],false)=b at*;unfold EK;rw[U];simp only[s6,s7];by_cases O:BI x b.1=true;rw[eS O];refine⟨by simp,V,λs K=>?_⟩;rcases pg.1 K with K | K;exact Ki (Ke O) (Y s K);cases d7.1 K;exact KL _;rw[d9 O];refine⟨p9 _ Z,U,λs K=>?_⟩;rcases pg.1 K with K | K;exact Y s K;cases d7.1 K;exact pz.2 O
 intro l ac;rcases this l with h | ⟨a,_,c⟩;exact absurd h ac;exact⟨a,c⟩
def Ku(w:List Int):Nat->Int
 | 0=>gN w 0
 | k+1=>Ku w k+gN w (k+1)
def He(w:List Int):Nat->Nat->List PR
 | _,0=>[]
 | k,j+1=>if Ku w k=0 then He w (k+1) j else((k:Int),((k+1:Nat):Int))::He w (k+1) j
theorem So{w:List Int}:∀(j k:Nat),∀x∈He w k j,(k:Int)<=x.1/\x.1<x.2
 | 0,k,x,h=>by cases h
 | j+1,k,x,h=>by
  unfold He at h
  split at h;have:=So j (k+1) x h;omega;rcases iO.1 h with rfl | h;exact⟨by simp,by simp;omega⟩;have:=So j (k+1) x h;omega
theorem Wx{j k p:Nat}(h:p<k):(He w k j).countP (BC p)=0:=List.countP_eq_zero.2 λx K=>by
 have:=So j k x K
 unfold BC
 simp;omega
theorem Rm{n:Nat}{w0:List Int}(ai:n<=5)(ac:Zb n w0)(ag:Ku w0 (n - 1)=0):∀(j k:Nat) (w:List Int) (out:List DT),k+j+1=n->w.length=5->(∀i,i<k->gN w i=0)->gN w k=Ku w0 k->(∀i,k<i->gN w i=gN w0 i)->∃r,Ex n (He w0 k j).length (He w0 k j) w out=some r
 | 0,k,w,out,am,O,Y,U,K=>by
  refine⟨out,?_⟩
  show Ex n 0 [] w out=some out
  unfold Ex
  refine eS (br O (by simp) λi hi=>?_)
  refine Eq.trans ?_ (SR i).symm
  rcases Nat.lt_trichotomy i k with q | rfl | q;exact Y i q;rw[U,show i=n - 1 by omega];exact ag;rw[K i q];exact ac i (by omega)
 | j+1,k,w,out,am,O,Y,U,K=>by
  unfold He;by_cases e:Ku w0 k=0;rw[eS e];refine Rm ai ac ag j (k+1) w out (by omega) O (λi hi=>?_) ?_ (λi hi=>K i (by omega));rcases mt i k with q | q;exact Y i q;rw[show i=k by omega,U,e];rw[K (k+1) (by omega)];show _=Ku w0 k+_;omega
  .rw [d9 e,pM];have al:BC k ((k:Int),((k+1:Nat):Int))=true:=by simp[BC]
   have ap:Kk n (((k:Int),((k+1:Nat):Int))::He w0 (k+1) j)=some k:=T6 (by omega) (by rw[sM,al,Wx (by omega)];rfl) λp Z=>by
    have:BC p ((k:Int),((k+1:Nat):Int))=false:=by unfold BC;simp;omega
    rw[sM,this,Wx (by omega)];simp
   have aq:(((k:Int),((k+1:Nat):Int))::He w0 (k+1) j).findIdx (BC k)=0:=by rw[tc,al];rfl
   unfold Ex;rw[ap,Option.bind_some,d9 (by rw[U];exact e),aq,tp,List.getD_cons_zero];have Z:=λi=>WE (w:=w) (p:=k) (o:=k+1) (x:=((k:Int),((k+1:Nat):Int))) O (by omega) (by omega) (by omega) (by simp only;omega) i;refine Rm ai ac ag j (k+1) _ _ (by omega) (R4 O) (λi hi=>?_) ?_ (λi hi=>?_);rw[Z];split;rfl;rw[d9 (by omega)];exact Y i (by omega);rw[Z,d9 (by omega),eS rfl,U,K (k+1) (by omega)];show _=Ku w0 k+_;omega;rw[Z,d9 (by omega),d9 (by omega)];exact K i (by omega)
theorem Pq{w:List Int}:∀(j k:Nat),(He w k j).Sublist ((List.range' k j).map λi:Nat=>((i:Int),((i+1:Nat):Int)))
 | 0,k=>List.Sublist.slnil
 | j+1,k=>by
  rw[ti,pW]
  unfold He
  split;exact(Pq j (k+1)).cons _;exact(Pq j (k+1)).cons_cons _
theorem ZD{c l:List PR}(h:c.Sublist l):c∈GM c.length l:=by
 induction h with
 | slnil=>exact d7.2 rfl
 | @cons c l x h K=>
  match c,K with
  | [],_=>exact d7.2 rfl
  | y::c,K=>exact qd _ K
 | @cons_cons c l x h K=>exact p9 _ (pO.2 ⟨c,K,rfl⟩)
theorem ZN:∀n,2<=n->n<=5->((List.range' 0 (n - 1)).map λi:Nat=>((i:Int),((i+1:Nat):Int))).Sublist (Eu n)
 | 2,_,_ | 3,_,_ | 4,_,_ | 5,_,_=>by decide
theorem iG(h:VO o)(hw:(BS o).length=5):EB o≠ []:=by
 have ac:=h.n2;have U:=h.n5;have K:=VJ h;have ag:Ku (BS o) (o.1.length - 1)=0:=by
  have Y:=iZ h;unfold S5 Fu at Y;simp only[qs] at Y;generalize BS o=w at*;generalize o.1.length=n at*;have ap:=K 2;have aq:=K 3;have av:=K 4;rcases(show n=2∨n=3∨n=4∨n=5 by omega) with rfl | rfl | rfl | rfl<;>simp[Ku]<;>omega
 obtain⟨r,ai⟩:=Rm U K ag (o.1.length - 1) 0 (BS o) [] (by omega) hw (λi hi=>by omega) rfl (λi _=>rfl);have al:=(Pq (w:=BS o) (o.1.length - 1) 0).trans (ZN _ ac U);have am:(He (BS o) 0 (o.1.length - 1)).length<o.1.length:=by
  have:=(Pq (w:=BS o) (o.1.length - 1) 0).length_le;rw[qB,List.length_range'] at this;omega
 have Z:EL r∈Dx o.1.length (BS o) (λ_=>true) (He (BS o) 0 (o.1.length - 1)).length [] (Eu o.1.length):=by
  refine sr.2 ⟨He (BS o) 0 (o.1.length - 1),?_,?_⟩;rw[sd.2 λ_ _=>rfl];exact ZD al;rw[qr];unfold I3;rw[ai];rfl
 intro e;rcases O:((List.range o.1.length).map λm=>Dx o.1.length (BS o) (λ_=>true) m [] (Eu o.1.length)).find? λl=> !l.isEmpty with _ | L;have:=q6.1 O _ (pO.2 ⟨_,pw.2 am,V⟩);rw[ru,Bool.not_eq_false,List.isEmpty_iff] at this;rw[this] at Z;cases Z;unfold EB FW at e;rw[O,Option.getD_some] at e;have:=List.find?_some O;rw[e] at this;cases this
variable{s:List DT}
theorem VE(K:s∈EB o):∃(c:List PR) (r:List DT),c.length<o.1.length/\(∀x∈c,VP o.1.length x)/\Ex o.1.length c.length c (BS o) []=some r/\s.Perm r:=by
 rcases R5 (n:=o.1.length) (w:=BS o) (P:=λ_=>true) with e | ⟨m,hm,e,_⟩;have e:EB o=[]:=e;rw[e] at K;cases K
 have e:EB o=_:=e;rw[e] at K;unfold Dx at K;let⟨c,O,K⟩:=sr.1 K;rw[qr] at K;unfold I3 at K;obtain⟨r,U,rfl⟩:=p7.1 K;have Z:=(Nr (x:=(0,0)) O).1;exact⟨c,r,by omega,λx Y=>Rx (re.1 ((Q4 O).subset Y)).1,U,YV r⟩
theorem Nz(h:VO o)(hw:(BS o).length=5)(Z:s∈EB o):s.length+1<=o.1.length/\(∀d∈s,GD o.1.length d)/\∀a:Nat,(s.map (cN a)).sum=gN (BS o) a:=by
 have O:=h.n5;let⟨c,r,al,ac,ag,K⟩:=VE Z;let⟨s,U,e2,Y,ai⟩:=TM O (gW h) c.length c (BS o) [] r rfl ac hw (λA=>⟨A,rfl⟩) ag;rw[qr] at U;subst U;refine⟨by rw[K.length_eq,e2];omega,λd hd=>Y d (K.mem_iff.1 hd),λa=>?_⟩;rw[Vh (K.map _)];have:=(UL O r (BS o) hw Y).2 a;rw[ai,SR] at this;omega
theorem fM(h:VO o):(EB o).length<=300:=by
 have K:=h.n5;rcases R5 (n:=o.1.length) (w:=BS o) (P:=λ_=>true) with e | ⟨m,hm,e,_⟩;have e:EB o=[]:=e;rw[e];simp;have e:EB o=_:=e;rw[e];have:=qM (pJ.1 (pJ.1 aH o.1.length (pw.2 (by omega))) m (pw.2 (by omega)));unfold Dx;refine qg (tn _ _) ?_;rw[sd.2 λ_ _=>rfl];exact this
def XA(o:OW)(r:List DT×List Int×Int):Prop:=
 (r.2.2=0/\r.1∈EB o/\Tk r.1 (S0 o) 0 r.2.1/\∀s∈EB o,Ends s 0 (En o.1)->BI s r.1=false)∨(r=([],[],11)/\∀s∈EB o,¬Ends s 0 (En o.1))
theorem ei{F:Nat}(al:5^16<F)(h:VO o)(hw:(BS o).length=5):Ao (f27 F o) (XA o):=by
 have ay:(5:Nat)^16=152587890625:=by decide
 have am:=h.n5;have ag:=fM h;unfold f27;refine Bg (S2 (by omega) h) ?_;refine Cb (by simp) ?_;refine Bg (WK (by omega) h λx ap=>Wq am x ap) ?_;refine AG (cG (by omega) (qg ag (by omega)) λs O=>⟨by have:=(Nz h hw O).1;omega,λd hd=>?_⟩) ?_;let⟨az,g2,a0,a1,a2,a3,a4⟩:=(Nz h hw O).2.1 d hd;unfold BD;omega
 rintro r ⟨U,aq⟩;have U:(EB o).Perm r:=U;have a5:r.length<=300:=by rw[← U.length_eq];exact ag
 have ai:∀{i:Nat}(hi:i<r.length),r[i]∈EB o:=λhi=>U.mem_iff.2 (pj hi);refine AG (S:=λq=>(∃v,q=Sum.inl v/\XA o v)∨(q=Sum.inr ()/\∀s∈EB o,¬Ends s 0 (En o.1))) ?_ ?_
 .refine Dt r.length (λi s=>s=(i:Int)/\∀(j:Nat) (K:j<r.length),j<i->¬Ends r[j] 0 (En o.1)) ⟨V,λj _ h=>by omega⟩ (by omega) ?_ ?_
  .rintro i _ hi ⟨rfl,Y⟩;unfold PV;refine B3 (by omega) (Bi (m:=i) V hi ?_);let⟨k1,av,_⟩:=Nz h hw (ai hi);refine AG (fI ⟨h,by omega,λd hd=>(av d hd).vt,al⟩) ?_;rintro⟨a6,is⟩ (⟨rfl,aw⟩ | ⟨e,Z⟩);refine B3 V (An (.inl ⟨_,V,.inl ⟨V,ai hi,aw,λs O Z=>?_⟩⟩));obtain⟨j,K,rfl⟩:=r4.1 (U.mem_iff.1 O);rcases Nat.lt_trichotomy j i with q | rfl | q;exact absurd Z (Y j K q);exact KL _;exact aq i j _ _ (qc _) q K (d6 hi) (d6 K)
   .cases e;refine Cb (by simp) (Ao.E ((i+1:Nat):Int) (by simp) (An ⟨V,λj K a7=>?_⟩));rcases mt j i with q | q;exact Y j K q
    .have:j=i:=by omega
     subst this;exact Z
  .rintro _ ⟨rfl,Y⟩;unfold PV;refine Cb (by omega) (An ⟨_,V,.inr ⟨V,λs O=>?_⟩⟩);obtain⟨j,K,rfl⟩:=r4.1 (U.mem_iff.1 O);exact Y j K K
 .rintro q (⟨v,rfl,ac⟩ | ⟨rfl,ac⟩);exact An ac;exact An (.inr ⟨V,ac⟩)
def SV:List DT->Prop
 | []=>True
 | d::l=>(∃p,(p=d.1∨p=d.2.1)/\∀e∈l,e.1≠p/\e.2.1≠p)/\SV l
inductive Ko:CF->List DT->CF->Prop
 | nil {C:CF}:Ko C [] C
 | cons {C K D:CF}{d:DT}{l:List DT}:DW C d K->Ko K l D->Ko C (d::l) D
variable{D:CF}
theorem Ko.snoc{E:CF}{l:List DT}{d:DT}(h:Ko C l D)(k:DW D d E):Ko C (l++ [d]) E:=by
 induction h with
 | nil=>exact .cons k .nil
 | cons a _ K=>exact .cons a (K k)
def mv(d:DT)(a:Nat):Int:=(if(a:Int)=d.1 then d.2.2 else 0) - (if(a:Int)=d.2.1 then d.2.2 else 0)
def H0:List DT->Nat->Int
 | [],_=>0
 | d::l,a=>H0 l a+mv d a
theorem Ri{a:Nat}:∀{l:List DT},(∀e∈l,e.1≠(a:Int)/\e.2.1≠(a:Int))->H0 l a=0
 | [],_=>rfl
 | d::l,h=>by
  have K:=h d pK
  unfold H0 mv
  rw[Ri λe he=>h e (f7 _ he),d9 (λq=>K.1 q.symm),d9 (λq=>K.2 q.symm)];rfl
def Ob(C:CF):Prop:=∀a,0<=C a 1/\∀b,b≠1->C a b=0
theorem VB{n:Nat}{d:DT}(hd:VT n d)(hC:Ob C)(h:d.2.2<=C d.1.toNat 1):∃O,DW C d O/\Ob O/\∀a,O a 1=C a 1 - mv d a:=by
 obtain⟨x0,x1,y0,y1,ne,p0,p1⟩:=hd;have key:∀a:Nat,Gy C d.1.toNat d.2.1.toNat (λb=>if b=1 then d.2.2.toNat else 0) a 1=C a 1 - mv d a:=λa=>by
  unfold Gy mv;by_cases K:a=d.1.toNat;rw[eS K,eS (show(a:Int)=d.1 by omega),d9 (show ¬a=d.2.1.toNat by omega),d9 (show ¬(a:Int)=d.2.1 by omega)];simp;omega;rw[d9 K,d9 (show ¬(a:Int)=d.1 by omega)];by_cases e2:a=d.2.1.toNat;rw[eS e2,eS (show(a:Int)=d.2.1 by omega)];simp;omega;rw[d9 e2,d9 (show ¬(a:Int)=d.2.1 by omega)];omega
 refine⟨Gy C d.1.toNat d.2.1.toNat (λb=>if b=1 then d.2.2.toNat else 0),⟨_,λb hb=>?_,λb=>?_,by simp[wS];omega,V⟩,λa=>⟨?_,λb hb=>?_⟩,key⟩;by_cases e:b=1;omega;exact absurd (d9 e) hb;by_cases e:b=1;subst e;rw[eS rfl];omega;rw[d9 e,(hC d.1.toNat).2 b e];omega
 .rw [key];have:=(hC a).1;unfold mv;by_cases K:(a:Int)=d.1
  .have:a=d.1.toNat:=by omega
   subst this;rw[eS K,d9 (by omega)];omega
  .rw [d9 K];split<;>omega
 .unfold Gy;rw[(hC a).2 b hb];simp[hb]
theorem Sx{n:Nat}:∀(l:List DT) (C:CF),SV l->(∀d∈l,VT n d)->Ob C->(∀a,H0 l a<=C a 1)->∃l' D,l'.Perm l/\Ko C l' D/\Ob D/\∀a,D a 1=C a 1 - H0 l a
 | [],C,_,_,hC,_=>⟨[],C,q5 _,.nil,hC,λa=>by unfold H0;omega⟩
 | d::l,C,⟨⟨p,ap,ag⟩,ai⟩,al,hC,O=>by
  have hd:=al d pK
  have am:∀e∈l,VT n e:=λe he=>al e (f7 _ he)
  have K:∀a,H0 (d::l) a=H0 l a+mv d a:=λa=>rfl
  obtain⟨x0,x1,y0,y1,ne,p0,p1⟩:=hd
  rcases ap with rfl | rfl
  .have aq:H0 l d.1.toNat=0:=Ri λe he=>by
    have:=ag e he;rw[Int.toNat_of_nonneg x0];exact this
   have hm:mv d d.1.toNat=d.2.2:=by unfold mv;rw[eS (by omega),d9 (by omega)];omega
   obtain⟨Y,c1,c2,c3⟩:=VB (n:=n) ⟨x0,x1,y0,y1,ne,p0,p1⟩ hC (by have:=O d.1.toNat;rw[K,aq,hm] at this;omega);obtain⟨l',D,Z,e2,ac,U⟩:=Sx l Y ai am c2 λa=>by rw[c3];have:=O a;rw[K] at this;omega
   exact⟨d::l',D,Z.cons d,.cons c1 e2,ac,λa=>by rw[U,c3,K];omega⟩
  .have av:H0 l d.2.1.toNat=0:=Ri λe he=>by
    have:=ag e he;rw[Int.toNat_of_nonneg y0];exact this
   obtain⟨l',D,Z,e2,ac,U⟩:=Sx l C ai am hC λa=>by
    have:=O a;rw[K] at this;unfold mv at this;by_cases q:(a:Int)=d.2.1
    .have:a=d.2.1.toNat:=by omega
     subst this;rw[av];exact(hC _).1
    .rw [d9 q] at this;split at this<;>omega
   have hm:mv d d.1.toNat=d.2.2:=by unfold mv;rw[eS (by omega),d9 (by omega)];omega
   obtain⟨Y,c1,c2,c3⟩:=VB (n:=n) (C:=D) ⟨x0,x1,y0,y1,ne,p0,p1⟩ ac (by rw[U];have:=O d.1.toNat;rw[K,hm] at this;omega);exact⟨l'++ [d],Y,(ta d l').trans (Z.cons d),e2.snoc c1,c2,λa=>by rw[c3,U,K];omega⟩
variable{α:Type}
theorem Z4{f:Nat->α}{l m:List α}(h:l.Perm m):∀idx:List Nat,m=idx.map f->∃K:List Nat,K.Perm idx/\l=K.map f:=by
 induction h with
 | nil=>intro idx e;exact⟨idx,q5 _,e⟩
 | @cons x l m _ U=>
  intro idx e
  match idx,e with
  | i::idx,e=>
   rw[pW] at e;let⟨O,e2⟩:=tK e;let⟨K,p1,p2⟩:=U idx e2;exact⟨i::K,p1.cons i,by rw[pW,O,p2]⟩
 | @swap x y l=>
  intro idx e
  match idx,e with
  | i::j::idx,e=>
   rw[pW,pW] at e;let⟨O,e2⟩:=tK e;let⟨e2,Y⟩:=tK e2;exact⟨j::i::idx,List.Perm.swap i j idx,by rw[pW,pW,O,e2,Y]⟩
 | trans _ _ Z ac=>
  intro idx e;let⟨i2,ag,ai⟩:=ac idx e;let⟨i1,p1,p2⟩:=Z i2 ai;exact⟨i1,p1.trans ag,p2⟩
theorem Wh{P:List DT}{d0:DT}:∀(O os:List Nat) (dn:Nat) (C D:CF),OS P.length dn os->(os++O).Perm (List.range P.length)->Ko C (O.map λi=>P.getD i d0) D->∃Y,Gf P dn C Y
 | [],os,dn,C,D,U,K,_=>by
  refine⟨[],Gf.nil (U.full.1 ?_)⟩
  have:=K.length_eq
  simpa using this
 | i::O,os,dn,C,D,U,K,h=>by
  have hi:i<P.length:=pw.1 (K.mem_iff.1 (by simp))
  have ac:i ∉ os:=λhm=>by
   have Z:=(K.nodup_iff.2 List.nodup_range)
   rw[qx] at Z
   exact Z.2.2 i hm i pK V
  have hb:dn.testBit i=false:=pz.2 λq=>ac ((U.bit i hi).1 q)
  cases h with
  | cons ag ai=>
   obtain⟨Y,al⟩:=Wh O (os++ [i]) _ _ D (U.snoc hi hb) (by rw[pF];exact K) ai
   refine⟨_,Gf.cons (i:=i) (d:=P[i]) (d6 hi) hb ?_ al⟩
   have e:P.getD i d0=P[i]:=by rw[gJ,d6 hi];rfl
   rw[← e];exact ag
theorem cZ{P l:List DT}(K:l.Perm P)(h:Ko C l D):Ends P 0 C:=by
 have e:P=(List.range P.length).map λi=>P.getD i (0,0,0):=by
  refine qN λi=>?_;rw[qe];rcases mt i P.length with q | q;rw[rC q,d6 q,qH,gJ,d6 q];rfl;rw[pU q,pU (by simpa using q)];rfl
 let⟨O,U,Y⟩:=Z4 K _ e;rw[Y] at h;exact Wh (d0:=(0,0,0)) O [] 0 C D ⟨.nil,by simp,λi hi=>by simp,sQ _⟩ (by simpa using U) h
theorem TY{n:Nat}:∀(k:Nat) (l:List PR) (w:List Int) (out r:List DT),l.length=k->Ex n k l w out=some r->
  ∃new,r=out++new/\SV new/\∀e∈new,∃x∈l,(e.1=x.1/\e.2.1=x.2)∨(e.1=x.2/\e.2.1=x.1)
 | 0,l,w,out,r,_,h=>by
  unfold Ex at h
  split at h;cases h;exact⟨[],by simp,trivial,by simp⟩;cases h
 | k+1,l,w,out,r,a0,h=>by
  unfold Ex at h;let⟨p,al,h⟩:=qW.1 h;split at h;cases h
  have am:l.countP (BC p)=1:=by
   have:=List.find?_some al;simpa using this
  have hex:∃x∈l,BC p x=true:=se.1 (by omega);have O:l.findIdx (BC p)<l.length:=rz hex;have U:BC p l[l.findIdx (BC p)]=true:=r7;have ap:l.getD (l.findIdx (BC p)) (0,0)=l[l.findIdx (BC p)]:=by rw[gJ,d6 O];rfl
  rw[ap] at h;generalize aq:l[l.findIdx (BC p)]=x at*;have Y:(x::l.eraseIdx (l.findIdx (BC p))).Perm l:=by
   have e:l=l.take (l.findIdx (BC p))++x::l.drop (l.findIdx (BC p)+1):=by
    rw[← aq,← qL O,tC]
   rw[sO];have:=(sL (a:=x) (l₁:=l.take (l.findIdx (BC p))) (l₂:=l.drop (l.findIdx (BC p)+1))).symm
   rwa[← e] at this
  have av:(l.eraseIdx (l.findIdx (BC p))).countP (BC p)=0:=by
   have:=Y.countP_eq (BC p);rw[sM,U,am] at this;simpa using this
  obtain⟨new,aw,e2,ai⟩:=TY k _ _ _ r (by rw[List.length_eraseIdx,eS O];omega) h;have ay:((dP p x (gN w p)).1=x.1/\(dP p x (gN w p)).2.1=x.2)∨((dP p x (gN w p)).1=x.2/\(dP p x (gN w p)).2.1=x.1):=by
   unfold BC at U;simp at U;unfold dP;split<;>simp only<;>omega
  have az:(p:Int)=(dP p x (gN w p)).1∨(p:Int)=(dP p x (gN w p)).2.1:=by
   unfold dP;split;exact .inr V;exact .inl V
  refine⟨dP p x (gN w p)::new,by rw[aw];simp,⟨⟨(p:Int),az,λe he=>?_⟩,e2⟩,λe he=>?_⟩;let⟨y,Z,ac⟩:=ai e he;have K:=List.countP_eq_zero.1 av y Z;unfold BC at K;simp at K;rcases ac with⟨z1,ag⟩ | ⟨z1,ag⟩;exact⟨by rw[z1];exact K.1,by rw[ag];exact K.2⟩;exact⟨by rw[z1];exact K.2,by rw[ag];exact K.1⟩;rcases iO.1 he with rfl | he;exact⟨x,Y.mem_iff.1 pK,ay⟩;let⟨y,Z,ac⟩:=ai e he;exact⟨y,Y.mem_iff.1 (f7 _ Z),ac⟩
theorem jf{x:List Int}(h:∀c∈x,c=1):((x.count 1:Nat):Int)=x.sum:=by
 induction x with
 | nil=>rfl
 | cons c x O=>
  have K:=h c pK;subst K;rw[List.count_cons_self,qO,← O λc K=>h c (f7 _ K)];omega
theorem ja{ps:List (List Int)}(h:∀x∈ps,∀c∈x,c=1):Ob (En ps)/\∀a,En ps a 1=(ps.getD a []).sum:=by
 have O:∀a,∀c∈ps.getD a [],c=1:=λa c K=>by
  rw[gJ] at K;cases e:ps[a]? with
  | none=>rw[e] at K;simp at K
  | some x=>rw[e] at K;exact h x (pC e) c K
 refine⟨λa=>⟨by unfold En;omega,λb hb=>?_⟩,λa=>jf (O a)⟩;unfold En;have:(ps.getD a []).count (b:Int)=0:=List.count_eq_zero.2 λhm=>hb (by have:=O a _ hm;omega);omega
open Go Go.Conc
variable {Q:Gs_}{b:Frame}{ds:Ld_}{ops:Ao_}{cs:Lf_}{fuel:Nat}{listed:Array Bool}{E E' H:LH}{S:List Seg}
variable {t ty e e2:TypeId}{p:String}{af:Ae_}{g:On_}{todo:Li_}
variable{seg:Seg}
section
variable {P:Program}{J:Judge P}{k:Li_}{m:Nat}{L:Env}
variable {d:Option Tmp}{x y:Operand}{i:Nat}
theorem Ts{α:Type}{pp:Rp α}:∀(rows:List Seg) (K:List (List α)) (U:Lv_) {E:LH}{S:List Seg}{j:Nat}{g0:Seg},rows.length=K.length->U.length=K.length->
  (∀(i:Nat) xs r h,K[i]?=some xs->rows[i]?=some r->U[i]?=some h->∃Y ci,h=.slice Y xs.length ci/\OL e2 pp E Y ci r xs)->Aq E H S->S[j]?=some (g0++rows.flatten)->
  (∀E',Le E E'->(∀(i:Nat) xs h,K[i]?=some xs->U[i]?=some h->(rL pp).r E' [h] xs)->Aq E' H (S.set j g0)->JL J Q b n L ds todo cs (Aj E' H (S.set j g0)))->JL J Q b n L ds todo cs (Aj E H S)
 | [],[],[],E,S,j,g0,_,_,_,ag,O,h=>by
  have e:S.set j g0=S:=by
   rw[sJ,pG] at O;let⟨_,h⟩:=fx.1 O;rw[← h];exact tG ..
  have:=h E (Le.refl _) (λi xs h aq=>by simp at aq);rw[e] at this;exact this ag
 | r::rows,xs::K,v::U,E,S,j,g0,Z,ac,ai,ag,O,h=>by
  obtain⟨Y,ci,rfl,av⟩:=ai 0 xs r v V V V;have aw:=(fx.1 O).1;refine JS.perm (S':=S.set j (g0++rows.flatten)++ [r]) ?_ ag λay=>?_;rw[GJ];refine(Ds (seg':=g0++rows.flatten) O).1.trans (List.Perm.trans ?_ ((Ds (seg':=g0++rows.flatten) O).2.symm.append_right _));rw[pF];refine q3 _ ?_;rw[pY,pF];exact q3 _ pr
  refine CH (S.set j (g0++rows.flatten)).length av ay List.getElem?_concat_length λa4 hle az al=>?_;rw[IQ] at al ⊢;refine JS.perm (S':=S.set j (g0++rows.flatten)) (by simp) al λa0=>Ts (pp:=pp) rows K U (j:=j) (g0:=g0) (by simpa using Z) (by simpa using ac) (λi xs r q a b c=>?_) a0 (qh aw) λa1 am a2 ap=>?_;let⟨Y,ci,k1,a3⟩:=ai (i+1) xs r q a b c;exact⟨Y,ci,k1,a3.M hle⟩
  .rw [rk] at ap ⊢;refine h a1 (hle.trans am) (λi xs q a b=>?_) ap
   match i,a,b with
   | 0,a,b=>cases a;cases b;exact⟨_,_,rfl,az.M am⟩
   | i+1,a,b=>exact a2 i xs q a b
 | [],_::_,_,_,_,_,_,Z,_,_,_,_,_=>by simp at Z
 | _::_,[],_,_,_,_,_,Z,_,_,_,_,_=>by simp at Z
 | _,[],_::_,_,_,_,_,_,ac,_,_,_,_=>by simp at ac
 | _,_::_,[],_,_,_,_,_,ac,_,_,_,_=>by simp at ac
theorem Yh{pp:Rp α}{a:Option Addr}{c:Nat}{K:List (List α)}(j:Nat)(ai:DX e e2 pp E a c seg K)(al:Aq E H S)(U:S[j]?=some seg)
  (h:∀E',Le E E'->Ap (rL pp) E' a c K->Aq E' H (S.set j [])->JL J Q b n L ds todo cs (Aj E' H (S.set j []))):JL J Q b n L ds todo cs (Aj E H S):=by
 obtain⟨g0,Y,rows,rfl,am,O,ap,aq⟩:=ai;have av:=(fx.1 U).1;refine Ts (pp:=pp) rows K Y ap O aq al U λaw ay az a0=>?_;have a1:OL e (rL pp) aw a c g0 K:=by
  obtain⟨wss,k1,Z,a2⟩:=am;rw[O] at k1 Z;refine⟨wss,k1,Z,λi xs ws ac hw=>?_⟩;have hi:i<Y.length:=by rw[O];exact(fx.1 ac).1
  obtain⟨a3,-⟩:=a2 i _ ws (d6 hi) hw;rw[a3];exact az i xs _ ac (d6 hi)
 refine CH j a1 a0 (qh av) λa4 a5 a6 ag=>?_;rw[rk] at ag ⊢;exact h a4 (ay.trans a5) a6 ag
end
theorem DX.nil{e e2:TypeId}{p:Rp α}{E:LH}:DX e e2 p E none 0 [] []:=
 ⟨[],[],[],V,OL.nil,V,V,λi xs r h K=>by simp at K⟩
theorem DX.snoc{e e2:TypeId}{p:Rp α}{E:LH}{a K:Option Addr}{c:Nat}{g r:Seg}{U:Lv_}{rows:List Seg}{O:List (List α)}{ys:List α}(h:OL e rV E a c g (U++ [.slice K ys.length ci]))(Y:U.length=O.length)(Z:rows.length=O.length)
  (ac:∀(i:Nat) xs r h,O[i]?=some xs->rows[i]?=some r->U[i]?=some h->∃K ci,h=.slice K xs.length ci/\OL e2 p E K ci r xs) (ag:OL e2 p E K ci r ys):DX e e2 p E a c (g++(rows++ [r]).flatten) (O++ [ys]):=
 ⟨g,_,rows++ [r],rfl,h,by simp[Y],by simp[Z],λi xs r' q a b c=>by
  rw[List.getElem?_append] at a b c
  rw[Z] at b;rw[Y] at c
  split at a
  .rename_i hi
   rw[eS hi] at b c
   exact ac i xs r' q a b c
  .rename_i hi
   rw[d9 hi] at b c
   match ai:i - O.length,a,b,c with
   | 0,a,b,c=>cases a;cases b;cases c;exact⟨_,_,rfl,ag⟩⟩
section
variable {P:Program}
end
variable {u:TypeId}{rest:List Nat}
section
variable {P:Program}{J:Judge P}{k:Li_}{L:Env}
variable {d:Option Tmp}{x y:Operand}{i:Nat}
theorem cn{pp:Rp α}{t1 t2:TypeId}{c:Nat}{a O:Option Addr}{r:Seg}{U al:List (List α)}{ys:List α}{aw:Nat}{d1:Tmp}{ats:Array TypeId}{am:TypeId}{ap:String}{aq:Ae_}{g':On_}{z:Value}(j K:Nat)(a1:room U ys=some al)
  (a2:ops[i]?=some ⟨some d1,.buildSlice t2 1 #[(0,y)],am,ap,aq,g'⟩) (hw:AY L ops ⟨some d1,.buildSlice t2 1 #[(0,y)],am,ap,aq,g'⟩=some true) (a3:BU b n ⟨some d1,.buildSlice t2 1 #[(0,y)],am,ap,aq,g'⟩=true)
  (a4:ops[aw]?=some ⟨d,.call ⟨.builtin .append,#[x,.tmp d1],ats⟩,ty,p,af,g⟩) (a5:∀w,AY (Ay L (some d1) w) ops ⟨d,.call ⟨.builtin .append,#[x,.tmp d1],ats⟩,ty,p,af,g⟩=some true) (a6:BU b n ⟨d,.call ⟨.builtin .append,#[x,.tmp d1],ats⟩,ty,p,af,g⟩=true)
  (a7:∀w,ev (Ay L (some d1) w) x=some (.slice a U.length c)) (a8:ev L y=some (.slice O ys.length ci)) (a9:ats[0]?=some t) (bb:ats[1]?=some t1) (be:P.underlying t=some (.slice e)) (bi:P.underlying t1=some (.slice e)) (bn:P.underlying t2=some (.slice e)) (bo:Bp P e=some 1) (hb:FY P e=some dn) (bv:zeroOf P e=some z) (bw:z.cells.size=1)
  (bx:0<dn) (bz:dn<=64) (b0:DX e e2 pp E a c seg U) (b1:OL e2 pp E O ci r ys) (b2:Aq E H S) (ay:S[j]?=some seg) (b3:S[K]?=some r) (av:K≠j)
  (h:∀w Y Z seg',DX e e2 pp E Y Z seg' al->Aq E H ((S.set j seg').set K [])->JL J Q b n (Ay (Ay L (some d1) w) d (.slice Y al.length Z)) ds (.inRegion ops rest::k) cs (Aj E H ((S.set j seg').set K []))):
  JL J Q b n L ds (.inRegion ops (i::aw::rest)::k) cs (Aj E H S):=by
 obtain⟨b4,rfl⟩:=Uv a1;obtain⟨g0,b5,rows,rfl,b6,ac,ca,cc⟩:=b0;have ag:=(fx.1 ay).1;refine F7 j ay b2 λce=>?_;have co:(S.set j g0++ [rows.flatten])[j]?=some g0:=by
  rw[po (by simpa using ag),qh ag]
 refine TW (pp:=rV) (v:=.slice O ys.length ci) (xv:=.slice O ys.length ci) j a2 hw a3 a4 a5 a6 (by rw[ac];exact a7) a8 a9 bb be bi bn bo hb bv bw bx bz (by decide) (by decide) (by rw[ac];exact b4) b6 ⟨V,V⟩ ce co λw Y Z g' cp az=>?_;rw[List.set_append_left _ _ (by simpa using ag),rk] at az ⊢;have el:(b5++ [Value.slice O ys.length ci]).length=(U++ [ys]).length:=by simp[ac]
 refine JS.perm (S':=(S.set j (g'++(rows++ [r]).flatten)).set K []) ?_ az λct=>?_
 .have cw:(S.set j g')[K]?=some r:=by rw[qa (p6 av)];exact b3
  have p1:=(Ds (seg':=([]:Seg)) cw).1;rw[GJ];refine(p1.append_right _).trans ?_;have a0:((S.set j g').set K [])[j]?=some g':=by rw[qa av,qh ag]
  have p2:=(Ds (seg':=g'++(rows++ [r]).flatten) a0).1;have p3:=(Ds (seg':=g'++(rows++ [r]).flatten) a0).2;have cy:((S.set j g').set K []).set j (g'++(rows++ [r]).flatten)=(S.set j (g'++(rows++ [r]).flatten)).set K []:=by rw[s9 _ _ av,rk]
  rw[cy] at p3;refine List.Perm.trans ?_ p3.symm;refine((p2.append_right r).append_right _).trans ?_;rw[pF,pF];refine q3 _ (q3 _ ?_);rw[qR];simpa using pr
 .have:=h w Y Z _ (DX.snoc cp ac ca cc b1) ct;rw[el];exact this
end
open Go.Proofs
variable {J:Judge Tryz.prog}
def RU(fu_:Nat)(Y:Bool×(Cx))(K:(List Int)×Int×Nat×(List Int)×Int):Option (Bj ((List Int)×Int×Nat×(List Int)×Int) ((List Int)×Cx)):=
 if 0<K.2.2.2.2 then(
  Option.bind (
   if Y.1=true then(
    (room K.2.2.2.1 1).bind λZ=>
    some (Z,K.1,K.2.1,K.2.2.1)
   ) else(
    (f81 fu_ (K.1,K.2.1,K.2.2.1) ([1,1,2,2,3,5]:List Int)).bind λO=>
    (room K.2.2.2.1 O.1).bind λac=>
    some (ac,O.2.1,O.2.2.1,O.2.2.2)
   )
  ) λU=>
  (Au (K.2.2.2.2 - 1)).bind λag=>
  some (.more (U.2.1,U.2.2.1,U.2.2.2,U.1,ag))
 ) else(
  some (.done (K.2.2.2.1,K.1,K.2.1,K.2.2.1))
 )
def Py(fu_:Nat)(Y:Int×(Cx))(Z:Bool×(Cx))(K:Bt×(List Int)×Int×Nat×Int):Option (Bj (Bt×(List Int)×Int×Nat×Int) ((List Int)×Int×Nat×Bt)):=
 if K.2.2.2.2<Y.1 then(
  (f36 fu_ (K.2.1,K.2.2.1,K.2.2.2.1) 3).bind λO=>
  Option.bind (iter (RU fu_ Z) fu_ (O.2.1,O.2.2.1,O.2.2.2,[],O.1)) λU=>
  (room K.1 U.1).bind λac=>
  (Au (K.2.2.2.2+1)).bind λag=>
  some (.more (ac,U.2.1,U.2.2.1,U.2.2.2,ag))
 ) else(
  some (.done (K.2.1,K.2.2.1,K.2.2.2.1,K.1))
 )
def R6(fu_:Nat)(U:Int×(Cx))(K:AH×(List Int)×Int×Nat×Int):Option (Bj (AH×(List Int)×Int×Nat×Int) ((List Int)×Int×Nat×AH)):=
 if 0<K.2.2.2.2 then(
  (f40 fu_ (K.2.1,K.2.2.1,K.2.2.2.1) U.1).bind λO=>
  (Ey K.1 ([O.1]:AH)).bind λY=>
  (Au (K.2.2.2.2 - 1)).bind λZ=>
  some (.more (Y,O.2.1,O.2.2.1,O.2.2.2,Z))
 ) else(
  some (.done (K.2.1,K.2.2.1,K.2.2.2.1,K.1))
 )
def N7(fu_:Nat)(p0:Cx)(p1:Int)(p2:Int):Option (Bq×(Cx)):=
 (f37 fu_ p0 2 p1).bind λZ=>
 (f32 fu_ Z.2 3).bind λK=>
 Option.bind (iter (Py fu_ Z K) fu_ ([],K.2.1,K.2.2.1,K.2.2.2,0)) λO=>
 (f36 fu_ (O.1,O.2.1,O.2.2.1) p2).bind λU=>
 Option.bind (iter (R6 fu_ Z) fu_ ([],U.2.1,U.2.2.1,U.2.2.2,U.1)) λY=>
 some ((O.2.2.2,Y.2.2.2),(Y.1,Y.2.1,Y.2.2.1))
variable{a1:Aw}{c2 fu_:Nat}
theorem eZ{bk:Nat}{p0:Cx}{p1 p2:Int}(g3:Ap rI E a1 c2 (p0.1)){r:Bq×(Cx)}(eu:N7 fu_ p0 p1 p2=some r):A6 J 5 [.pointer (some ⟨bk,0,none⟩),iV p1,iV p2] E [(bk,.cells #[.slice a1 (p0.1).length c2,iV p0.2.1,.int .u64 ((p0.2.2:Nat):Int)] 44 (0,0))] (λw E' B'=>∃(ew:Aw) (ex:Nat) (ey:Seg) (eA:Aw) (eC:Nat) (eN:Seg) (e0:Aw) (e1:Nat),w=.agg #[.slice ew (r.1.1).length ex,.slice eA (r.1.2).length eC]/\B'=[(bk,.cells #[.slice e0 (r.2.1).length e1,iV r.2.2.1,.int .u64 ((r.2.2.2:Nat):Int)] 44 (0,0))]++ey++eN/\DX 22 3 rI E' ew ex ey (r.1.1)/\OL 31 AE E' eA eC eN (r.1.2)/\Ap rI E' e0 e1 (r.2.1)):=by
 refine Bu Tryz.func5 λQ k2 cs H g4 g5=>?_;unfold N7 at eu;refine C 2 V (Cd g4 KB λU g6=>?_);refine C 3 V (Cd g6 KB λY g7=>?_);let⟨ay,g8,ha⟩:=bs eu;refine C 5 V (Cr 0 (SK g3 g8) V V QO g7 V ?_);rintro _ k3 _ hb ⟨k4,k5,rfl,rfl,hc⟩ he;let⟨bw,hf,hg⟩:=bs ha;refine C 5 V (Cr 0 (gT hc hf) V V (Be Tryz.func12 V) he V ?_);rintro _ c5 _ hj ⟨hk,hl,rfl,rfl,hm⟩ hn;let⟨Z,ho,hp⟩:=bs hg;refine C 7 V (BF (λL s=>∃(bx:LH) (c6:Aw) (c7:Nat) (ag:Aw) (ai:Nat) (a6:Seg),Jn c5 H bx [[(bk,.cells #[.slice c6 (Z.1).length c7,iV Z.2.1,.int .u64 ((Z.2.2.1:Nat):Int)] 44 (0,0))],[(U,.cells #[.slice none 0 0,.slice none 0 0] 28 (0,0))],[(Y,.cells #[.slice ag (Z.2.2.2).length ai,.slice none 0 0] 28 (0,0))],a6] [(0,.pointer (some ⟨bk,0,none⟩)),(2,iV p2),(6,.pointer (some ⟨U,0,none⟩)),(7,.pointer (some ⟨Y,0,none⟩)),(8,iV ay.1)] L s (Ap rI bx c6 c7 (Z.1)/\DX 22 3 rI bx ag ai a6 (Z.2.2.2))) ?_ ?_);rintro _ _ ⟨bx,c6,c7,ag,ai,a6,rfl,rfl,hq,hr,hs,ht⟩;let⟨k6,hu,hv⟩:=bs hp;refine C 5 V (Cr 0 (MM hs hu) V V Ml hr V ?_);rintro _ c8 _ e3 ⟨hw,hx,rfl,rfl,hy⟩ hz;let⟨al,hA,hB⟩:=bs hv;refine C 2 V (BF (λL s=>∃(bz:LH) (b0:Aw) (b1:Nat) (az:Aw) (a0:Nat) (b2:Seg),Jn c8 H bz [[(bk,.cells #[.slice b0 (al.1).length b1,iV al.2.1,.int .u64 ((al.2.2.1:Nat):Int)] 44 (0,0))],[(U,.cells #[.slice none 0 0,.slice none 0 0] 28 (0,0))],[(Y,.cells #[.slice ag (Z.2.2.2).length ai,.slice az (al.2.2.2).length a0] 28 (0,0))],a6,b2] [(6,.pointer (some ⟨U,0,none⟩)),(7,.pointer (some ⟨Y,0,none⟩))] L s (Ap rI bz b0 b1 (al.1)/\OL 31 AE bz az a0 b2 (al.2.2.2))) ?_ ?_);rintro _ _ ⟨bz,b0,b1,az,a0,b2,rfl,rfl,e4,e5,hC,hD⟩;refine C 2 V (Al V (λρ h=>Ia (vs:=[.slice ag (Z.2.2.2).length ai,.slice az (al.2.2.2).length a0]) Gm DK (h _ _ V) (GH (off:=0) 2 e5 V V)) ?_);refine JS.sx 1 e5 DK λhE=>?_;refine JL.done (JS.drop 2 hE V λe6=>?_);cases hB;refine JL.ret (v:=.agg #[.slice ag (Z.2.2.2).length ai,.slice az (al.2.2.2).length a0]) V V (BO.list Tryz.func5 V (vs:=[.agg #[.slice ag (Z.2.2.2).length ai,.slice az (al.2.2.2).length a0]]) ⟨⟨_,V,Ld.many (vs:=[.slice ag (Z.2.2.2).length ai,.slice az (al.2.2.2).length a0]) Gm DK (GH (off:=0) 1 e6 V V)⟩,trivial⟩) (ES 1 e6 V λhF=>?_);exact g5 ((((hb.trans hj).trans hq).trans e3).trans e4) V ⟨ag,ai,a6,az,a0,b2,b0,b1,V,(by first | rfl | simp | (simp[Value.cells])),(ht.M (e3.trans e4)),hD,hC⟩ hF;intro hG;refine JL.block (Cv hA (λL s ac=>∃(a9:LH) (a2:Aw) (a3:Nat) (b3:Seg) (b4:Aw) (b5:Nat),Jn c8 H a9 [[(bk,.cells #[.slice b4 (ac.2.1).length b5,iV ac.2.2.1,.int .u64 ((ac.2.2.2.1:Nat):Int)] 44 (0,0))],[(U,.cells #[.slice none 0 0,.slice none 0 0] 28 (0,0))],[(Y,.cells #[.slice ag (Z.2.2.2).length ai,.slice a2 (ac.1).length a3] 28 (0,0))],a6,b3] [(0,.pointer (some ⟨bk,0,none⟩)),(6,.pointer (some ⟨U,0,none⟩)),(7,.pointer (some ⟨Y,0,none⟩)),(8,iV ay.1),(13,iV ac.2.2.2.2)] L s (OL 31 AE a9 a2 a3 b3 (ac.1)/\Ap rI a9 b4 b5 (ac.2.1))) ⟨c8,none,0,[],hw,hx,V,V,(Le.refl _),hz,OL.nil,hy⟩ ?_);rintro _ _ ac ⟨a9,a2,a3,b3,b4,b5,rfl,rfl,b6,ca,cc,c9⟩ hH ⟨k7,bb⟩ dd;have e7:=bb;unfold R6 at e7;refine C 6 V (A4 e7 (λhI hK=>?_) (λhI hL=>?_));refine C 3 V (FU 6 λe8=>?_);refine JG.fd 0 e8 Tryz.underlying28 Hk V V V V (A5 e8 V [2,3] V ?_);let⟨K,ff,dj⟩:=bs hK;refine GL (i:=1) (j:=4) V (by decide+kernel) ?_ ?_;refine Take.y0 (v:=.slice a2 (ac.1).length a3) V V V (λρ h=>Yl.load Jl (h _ _ V) (B6 (j:=2) ca V V)) (JG.one (i:=4) V (by decide+kernel) ?_);refine Take.Wy (vs:=[.pointer (some ⟨bk,0,none⟩),iV ay.1]) 0 ca (Xq c9 ff) V V V (Be Tryz.func15 V) V V ?_;rintro _ k8 _ fk ⟨hM,hN,rfl,rfl,hO⟩ hP;refine JG.one (i:=5) V (by decide+kernel) (Take.FC (pp:=AE) [.agg #[iV K.1.1,iV K.1.2.1,iV K.1.2.2]] ([K.1]:AH) hP V V V Tryz.underlying26 BJ B5 (by decide) V V V ⟨⟨_,_,V,V,⟨_,_,V,V,V⟩⟩,trivial⟩ λk9 la hQ hR=>?_);refine Dl [6,7,8] (CH 5 hQ hR V λhS ea hT hU=>?_);obtain⟨hV,hW,hX⟩:=bs dj;refine KM (pp:=AE) 4 hW V V V V V V V Tryz.underlying26 Tryz.underlying26 BJ (EG Tryz.type31) B5 V (by decide) (by decide) (cc.M (fk.trans ea)) hT hU V λhY h0 h1 h2 h3=>JL.fd Tryz.underlying28 Hk V V V (JS.sx 2 h3 Hk λh4=>?_);let⟨h5,h6,h7⟩:=bs hX;refine C 4 V (BY h6 V V V ?_);refine C 2 V ?_;cases h7;exact AF (dd _ _ (hV,K.2.1,K.2.2.1,K.2.2.2,h5) ⟨hS,hY,h0,h1,hM,hN,V,V,((b6.trans fk).trans ea),h4,h2,(hO.M ea)⟩ bb) V;refine Take.Wy (vs:=[.pointer (some ⟨bk,0,none⟩),iV ay.1]) 0 ca (Xq c9 ff) V V V (Be Tryz.func15 V) V V ?_;rintro _ lb _ ce ⟨fl,fm,rfl,rfl,fo⟩ eb;refine GL (i:=1) (j:=5) V (by decide+kernel) ?_ ?_;refine Take.y0 (v:=.slice a2 (ac.1).length a3) V V V (λρ h=>Yl.load Jl (h _ _ V) (B6 (j:=2) eb V V)) (JG.one (i:=5) V (by decide+kernel) ?_);refine Take.FC (pp:=AE) [.agg #[iV K.1.1,iV K.1.2.1,iV K.1.2.2]] ([K.1]:AH) eb V V V Tryz.underlying26 BJ B5 (by decide) V V V ⟨⟨_,_,V,V,⟨_,_,V,V,V⟩⟩,trivial⟩ λld lf h8 h9=>Dl [6,7,8] (CH 5 h8 h9 V λia ec ih ii=>?_);let⟨io,i0,i1⟩:=bs dj;refine KM (pp:=AE) 4 i0 V V V V V V V Tryz.underlying26 Tryz.underlying26 BJ (EG Tryz.type31) B5 V (by decide) (by decide) (cc.M (ce.trans ec)) ih ii V λi3 i4 i5 i6 i7=>JL.fd Tryz.underlying28 Hk V V V (JS.sx 2 i7 Hk λi8=>?_);let⟨i9,jg,jj⟩:=bs i1;refine C 4 V (BY jg V V V ?_);refine C 2 V ?_;cases jj;exact AF (dd _ _ (io,K.2.1,K.2.2.1,K.2.2.2,i9) ⟨ia,i3,i4,i5,fl,fm,V,V,((b6.trans ce).trans ec),i8,i6,(fo.M ec)⟩ bb) V;refine Take.FC (pp:=AE) [.agg #[iV K.1.1,iV K.1.2.1,iV K.1.2.2]] ([K.1]:AH) eb V V V Tryz.underlying26 BJ B5 (by decide) V V V ⟨⟨_,_,V,V,⟨_,_,V,V,V⟩⟩,trivial⟩ λlg lh jp fs=>JG.one (i:=1) V (by decide+kernel) (Take.y0 (v:=.slice a2 (ac.1).length a3) V V V (λρ h=>Yl.load Jl (h _ _ V) (B6 (j:=2) fs V V)) ?_);refine Dl [6,7,8] (CH 5 jp fs V λjr ed jt jy=>?_);let⟨jA,jB,jC⟩:=bs dj;refine KM (pp:=AE) 4 jB V V V V V V V Tryz.underlying26 Tryz.underlying26 BJ (EG Tryz.type31) B5 V (by decide) (by decide) (cc.M (ce.trans ed)) jt jy V λjD jE jF jG jH=>JL.fd Tryz.underlying28 Hk V V V (JS.sx 2 jH Hk λjI=>?_);let⟨jJ,jK,jL⟩:=bs jC;refine C 4 V (BY jK V V V ?_);refine C 2 V ?_;cases jL;exact AF (dd _ _ (jA,K.2.1,K.2.2.1,K.2.2.2,jJ) ⟨jr,jD,jE,jF,fl,fm,V,V,((b6.trans ce).trans ed),jI,jG,(fo.M ed)⟩ bb) V;refine JL.exit V ?_;cases hL;obtain rfl:=hH _ bb;exact AF (hG _ _ ⟨a9,b4,b5,a2,a3,b3,V,V,b6,ca,c9,cc⟩) V;intro jM;refine JL.block (Cv ho (λL s O=>∃(be:LH) (ap:Aw) (aq:Nat) (a4:Seg) (ci:Aw) (co:Nat),Jn c5 H be [[(bk,.cells #[.slice ci (O.2.1).length co,iV O.2.2.1,.int .u64 ((O.2.2.2.1:Nat):Int)] 44 (0,0))],[(U,.cells #[.slice none 0 0,.slice none 0 0] 28 (0,0))],[(Y,.cells #[.slice ap (O.1).length aq,.slice none 0 0] 28 (0,0))],a4] [(0,.pointer (some ⟨bk,0,none⟩)),(2,iV p2),(6,.pointer (some ⟨U,0,none⟩)),(7,.pointer (some ⟨Y,0,none⟩)),(8,iV ay.1),(9,.bool bw.1),(10,iV O.2.2.2.2)] L s (DX 22 3 rI be ap aq a4 (O.1)/\Ap rI be ci co (O.2.1))) ⟨c5,none,0,[],hk,hl,V,V,(Le.refl _),hn,DX.nil,hm⟩ ?_);rintro _ _ O ⟨be,ap,aq,a4,ci,co,rfl,rfl,fv,fw,fN,gc⟩ jN ⟨li,ee⟩ jO;have ge:=ee;unfold Py at ge;refine C 7 V (A4 ge (λjP jQ=>?_) (λjP jR=>?_));let⟨lj,jS,jT⟩:=bs jQ;refine C 11 V (Cr 0 (MM gc jS) V V Ml fw V ?_);rintro _ ef _ gg ⟨jU,jV,rfl,rfl,jW⟩ jX;let⟨av,jY,jZ⟩:=bs jT;refine C 2 V (BF (λL s=>∃(bi:LH) (eg:Aw) (ej:Nat) (ek:Seg) (cp:Aw) (ct:Nat),Jn ef H bi [[(bk,.cells #[.slice cp (av.2.1).length ct,iV av.2.2.1,.int .u64 ((av.2.2.2:Nat):Int)] 44 (0,0))],[(U,.cells #[.slice none 0 0,.slice none 0 0] 28 (0,0))],[(Y,.cells #[.slice ap (O.1).length aq,.slice none 0 0] 28 (0,0))],a4,ek] [(0,.pointer (some ⟨bk,0,none⟩)),(2,iV p2),(6,.pointer (some ⟨U,0,none⟩)),(7,.pointer (some ⟨Y,0,none⟩)),(8,iV ay.1),(9,.bool bw.1),(10,iV O.2.2.2.2),(11,.slice eg (av.1).length ej)] L s (OL 3 rI bi eg ej ek (av.1)/\Ap rI bi cp ct (av.2.1))) ?_ ?_);rintro _ _ ⟨bi,eg,ej,ek,cp,ct,rfl,rfl,gh,gt,j0,j1⟩;refine JL.region (JL.fd Tryz.underlying28 FP V V V ?_);refine Al (v:=.slice ap (O.1).length aq) V (λρ h=>Yl.load F3 (h _ _ V) (B6 (j:=2) (off:=0) gt V V)) ?_;let⟨j2,j3,j4⟩:=bs jZ;refine C 1 V (cn (pp:=rI) (a:=ap) (c:=aq) 3 4 j3 V V V V (λ_=>V) V (λ_=>V) V V V Tryz.underlying25 Tryz.underlying25 Tryz.underlying25 GC (EG Tryz.type22) Nj V (by decide) (by decide) (fN.M (gg.trans gh)) j0 gt V V (by decide) λll j5 j6 j7 j8 j9=>?_);refine JL.fd Tryz.underlying28 FP V V V (JS.sx 2 j9 FP λkb=>?_);let⟨kc,ke,kf⟩:=bs j4;refine C 4 V (Bz ke V V V ?_);refine C 2 V ?_;cases kf;exact AF (jO _ _ (j2,av.2.1,av.2.2.1,av.2.2.2,kc) ⟨bi,j5,j6,j7,cp,ct,V,V,((fv.trans gg).trans gh),kb,j8,j1⟩ ee) V;intro kg;refine JL.block (Cv jY (λL s aw=>∃(a5:LH) (bn:Aw) (bo:Nat) (a7:Aw) (a8:Nat) (cw:Seg),Jn ef H a5 [[(bk,.cells #[.slice bn (aw.1).length bo,iV aw.2.1,.int .u64 ((aw.2.2.1:Nat):Int)] 44 (0,0))],[(U,.cells #[.slice none 0 0,.slice none 0 0] 28 (0,0))],[(Y,.cells #[.slice ap (O.1).length aq,.slice none 0 0] 28 (0,0))],a4,cw] [(0,.pointer (some ⟨bk,0,none⟩)),(2,iV p2),(6,.pointer (some ⟨U,0,none⟩)),(7,.pointer (some ⟨Y,0,none⟩)),(8,iV ay.1),(9,.bool bw.1),(10,iV O.2.2.2.2),(11,.slice a7 (aw.2.2.2.1).length a8),(12,iV aw.2.2.2.2)] L s (Ap rI a5 bn bo (aw.1)/\OL 3 rI a5 a7 a8 cw (aw.2.2.2.1))) ⟨ef,jU,jV,none,0,[],V,V,(Le.refl _),jX,jW,OL.nil⟩ ?_);rintro _ _ aw ⟨a5,bn,bo,a7,a8,cw,rfl,rfl,gB,el,em,eo⟩ kh ⟨lm,ep⟩ ki;have gE:=ep;unfold RU at gE;refine C 6 V (A4 gE (λkj kl=>?_) (λkj km=>?_));let⟨am,kn,ko⟩:=bs kl;refine C 7 V (BF (λL s=>∃(bv:LH) (cy:Aw) (c0:Nat) (c1:Seg) (c3:Aw) (c4:Nat),Jn a5 H bv [[(bk,.cells #[.slice c3 (am.2.1).length c4,iV am.2.2.1,.int .u64 ((am.2.2.2:Nat):Int)] 44 (0,0))],[(U,.cells #[.slice none 0 0,.slice none 0 0] 28 (0,0))],[(Y,.cells #[.slice ap (O.1).length aq,.slice none 0 0] 28 (0,0))],a4,c1] [(0,.pointer (some ⟨bk,0,none⟩)),(2,iV p2),(6,.pointer (some ⟨U,0,none⟩)),(7,.pointer (some ⟨Y,0,none⟩)),(8,iV ay.1),(9,.bool bw.1),(10,iV O.2.2.2.2),(11,.slice cy (am.1).length c0),(12,iV aw.2.2.2.2)] L s (OL 3 rI bv cy c0 c1 (am.1)/\Ap rI bv c3 c4 (am.2.1))) ?_ ?_);rintro _ _ ⟨bv,cy,c0,c1,c3,c4,rfl,rfl,kp,kq,kr,ks⟩;let⟨kt,ku,kv⟩:=bs ko;refine C 3 V (BY ku V V V ?_);refine C 2 V ?_;cases kv;exact AF (ki _ _ (am.2.1,am.2.2.1,am.2.2.2,am.1,kt) ⟨bv,c3,c4,cy,c0,c1,V,V,(gB.trans kp),kq,ks,kr⟩ ep) V;intro gO;refine CO kn (λkx ky=>?_) (λkx kz=>?_);let⟨lq,kA,kB⟩:=bs ky;refine C 2 V (JS.app (pp:=rI) (v:=iV 1) (a:=a7) (c:=a8) 4 kA V V V V (λ_=>V) V (λ_=>V) V V V Tryz.underlying22 Tryz.underlying22 Tryz.underlying22 AW (EG Tryz.type3) Dh V (by decide) (by decide) (by decide) (by decide) eo V el V λlr kC kD kF kG kI=>?_);refine C 2 V ?_;cases kB;exact AF (gO _ _ ⟨a5,kC,kD,kF,bn,bo,V,V,(Le.refl _),kI,kG,em⟩) V;refine C 3 V (Gr (pp:=rI) [iV 1,iV 1,iV 2,iV 2,iV 3,iV 5] [1,1,2,2,3,5] V V V Tryz.underlying22 AW Dh (by decide) V V V ⟨V,V,V,V,V,V,trivial⟩ el λls lu kJ kK=>?_);refine CH 5 kJ kK V λlw er kL kM=>?_;let⟨kN,kO,kP⟩:=bs kz;refine Cr 0 (Xg (em.M er) kL kO) V V (Be Tryz.func14 V) kM V ?_;rintro _ kQ _ g1 ⟨kR,kS,rfl,rfl,kT⟩ kU;obtain⟨lx,kV,kW⟩:=bs kP;refine JS.app (pp:=rI) (v:=iV kN.1) (a:=a7) (c:=a8) 4 kV V V V V (λ_=>V) V (λ_=>V) V V V Tryz.underlying22 Tryz.underlying22 Tryz.underlying22 AW (EG Tryz.type3) Dh V (by decide) (by decide) (by decide) (by decide) (eo.M (er.trans g1)) V kU V λlz kX kY kZ k0 k1=>C 2 V ?_;cases kW;exact AF (gO _ _ ⟨kQ,kX,kY,kZ,kR,kS,V,V,(er.trans g1),k1,k0,kT⟩) V;refine JL.exit V ?_;cases km;obtain rfl:=kh _ ep;exact AF (kg _ _ ⟨a5,a7,a8,cw,bn,bo,V,V,gB,el,eo,em⟩) V;refine JL.exit V ?_;cases jR;obtain rfl:=jN _ ee;exact AF (jM _ _ ⟨be,ci,co,ap,aq,a4,V,V,fv,fw,gc,fN⟩) V
def N2(fu_:Nat)(O:Bt×Int)(K:Bt×Int):Option (Bj (Bt×Int) (Bt)):=
 (ix K.1 (O.2)).bind λY=>
 if K.2<((Y).length:Int) then(
  (ix K.1 (O.2)).bind λU=>
  (ix U (K.2)).bind λac=>
  (Au (K.2+1)).bind λZ=>
  some (.more ((K.1.set (Int.toNat O.2) (U.set (Int.toNat K.2) 1)),Z))
 ) else(
  some (.done K.1)
 )
def N1(fu_:Nat)(K:Bt×Int):Option (Bj (Bt×Int) (Bt)):=
 if K.2<((K.1).length:Int) then(
  Option.bind (iter (N2 fu_ K) fu_ (K.1,0)) λO=>
  (Au (K.2+1)).bind λU=>
  some (.more (O,U))
 ) else(
  some (.done K.1)
 )
def NZ(fu_:Nat)(K:AH×Int):Option (Bj (AH×Int) (AH)):=
 if K.2<((K.1).length:Int) then(
  (ix K.1 (K.2)).bind λU=>
  (ix K.1 (K.2)).bind λO=>
  (Au (K.2+1)).bind λY=>
  some (.more ((K.1.set (Int.toNat K.2) (O.1,O.2.1,min (U.2.2) (2))),Y))
 ) else(
  some (.done K.1)
 )
def f6(fu_:Nat)(p0:List Int):Option (Bool):=
 (f20 fu_ p0).bind λag=>
 (N7 fu_ ag 5 5).bind λY=>
 Option.bind (iter (N1 fu_) fu_ (Y.1.1,0)) λK=>
 Option.bind (iter (NZ fu_) fu_ (Y.1.2,0)) λO=>
 (f39 fu_ (K,O)).bind λZ=>
 (f22 fu_ (K,O)).bind λac=>
 (f27 fu_ (K,O)).bind λU=>
 Option.bind (
  if Z.2≠0 then(
   some true
  ) else(
   some (decide (ac.2≠0))
  )
 ) λai=>
 if ai=true then(
  some false
 ) else(
  if 0<((Z.1).length:Int) then(
   Option.bind (
    if U.2.2=11 then(
     (f18 fu_).bind λal=>
     some al
    ) else(
     some false
    )
   ) λam=>
   some am
  ) else(
   Option.bind (
    if U.2.2=0 then(
     (f26 fu_ ac.1 U.1).bind λap=>
     some ap
    ) else(
     some false
    )
   ) λaq=>
   Option.bind (
    if aq=true then(
     (f18 fu_).bind λav=>
     some av
    ) else(
     some false
    )
   ) λaw=>
   some aw
  )
 )
set_option maxHeartbeats 4000000 in
theorem gP{E H:LH}{p0:List Int}(fo:Ap rI E a1 c2 (p0)){r:Bool}(c9:f6 fu_ p0=some r):(Ho Tryz.prog).ok (NF Tryz.prog (λv _=>v=.bool r)) (G (Frame.enter Tryz.prog 3 ([.slice a1 (p0).length c2]:Lv_).toArray .normal) []) (mk E H []):=by
 refine Y6 Tryz.func3 V V (pt V) ?_;have fs:Aq E H [[]]:=trivial;unfold f6 at c9;let⟨ks,fv,fw⟩:=bs c9;refine C 7 V (Cl (iB fo fv) V V (Be Tryz.func4 V) fs ?_);rintro _ kt _ ku ⟨kv,kx,ky,rfl,rfl,fN⟩ gc;let⟨a9,ge,gg⟩:=bs fw;refine C 5 V (Cr 1 (eZ fN ge) V V (Be Tryz.func5 V) gc V ?_);rintro _ b4 _ kz ⟨Z,ac,gh,az,a0,a2,kA,kB,rfl,rfl,gt,gB,kC⟩ gE;refine F7 1 V gE λgO=>F7 1 V gO λg1=>Cd g1 KB λY g3=>?_;refine JS.sx 4 g3 DK λg4=>?_;let⟨al,g5,g6⟩:=bs gg;refine C 6 V (BF (λL s=>∃(a3:LH) (a4:Seg),Jn b4 H a3 [a2,[(Y,.cells #[.slice Z (al).length ac,.slice az (a9.1.2).length a0] 28 (0,0))],a4] [(4,.pointer (some ⟨Y,0,none⟩))] L s (DX 22 3 rI a3 Z ac a4 (al))) ?_ ?_);rintro _ _ ⟨a3,a4,rfl,rfl,g7,g8,ha⟩;let⟨av,hb,hc⟩:=bs g6;refine C 5 V (BF (λL s=>∃(b5:LH) (a5:Aw) (a6:Nat) (b6:Seg),Jn a3 H b5 [[(Y,.cells #[.slice Z (al).length ac,.slice a5 (av).length a6] 28 (0,0))],a4,b6] [(4,.pointer (some ⟨Y,0,none⟩))] L s (OL 31 AE b5 a5 a6 b6 (av))) ?_ ?_);rintro _ _ ⟨b5,a5,a6,b6,rfl,rfl,he,dd,hf⟩;refine C 2 V (Al V (λρ h=>Ia (vs:=[.slice Z (al).length ac,.slice a5 (av).length a6]) Gm DK (h _ _ V) (GH (off:=0) 0 dd V V)) ?_);refine Yh 1 (ha.M he) dd V λkD hg ca hj=>CH 2 (hf.M hg) hj V λkF cc ce hk=>?_;let⟨hl,hm,hn⟩:=bs hc;refine Cl (Xc (p0:=(al,av)) (ca.M cc) ce hm) V V (Be Tryz.func6 V) hk ?_;rintro _ kG _ bv ⟨ho,hp,rfl,rfl,kI⟩ dj;refine C 8 V (Al V (λρ h=>Ia (vs:=[.slice Z (al).length ac,.slice a5 (av).length a6]) Gm DK (h _ _ V) (GH (off:=0) 0 dj V V)) ?_);let⟨hq,hr,hs⟩:=bs hn;refine Cl (Xe (p0:=(al,av)) (ca.M (cc.trans bv)) (ce.M bv) hr) V V (Be Tryz.func7 V) dj ?_;rintro _ kJ _ ea ⟨ht,hu,rfl,rfl,hv⟩ eb;refine C 8 V (Al V (λρ h=>Ia (vs:=[.slice Z (al).length ac,.slice a5 (av).length a6]) Gm DK (h _ _ V) (GH (off:=0) 0 eb V V)) ?_);let⟨ec,hw,hx⟩:=bs hs;refine Cl (Xf (p0:=(al,av)) (ca.M ((cc.trans bv).trans ea)) (ce.M (bv.trans ea)) hw) V V (Be Tryz.func8 V) eb ?_;rintro _ ci _ hy ⟨hz,hA,kK,kL,rfl,rfl,hB,kM⟩ ed;let⟨hC,hD,hE⟩:=bs hx;refine C 14 V (IK [] (λL s=>∃(ee:LH),Jm ci H ee [] [(8,.slice ho (hl.1).length hp),(10,.slice ht (hq.1).length hu),(12,.slice hz (ec.1).length hA),(14,iV ec.2.2),(83,.bool hC)] L s) ?_ ?_);rintro _ _ ⟨ee,rfl,rfl,ef,bw⟩;refine JL.done (CO hE (λhF hG=>?_) (λhF hH=>?_));refine C 4 V ?_;cases hG;exact IJ V (JO.end (v:=.bool false) V (by decide+kernel) Tryz.func3 V V V);refine C 5 V (JL.ln Tryz.underlying22 V V V ?_);refine C 2 V (A4 hH (λhI hK=>?_) (λhI hL=>?_));let⟨eg,hM,hN⟩:=bs hK;refine C 5 V (Ga 5 1 [] [(91,.bool eg)] (λkN kO kP=>?_) (λej=>?_));refine C 2 V ?_;obtain rfl:=(oi hN);exact IJ V (JO.end (v:=.bool eg) V (by decide+kernel) Tryz.func3 V V V);refine I2 89 hM (λhO hP=>?_) (λhO hQ=>?_);let⟨kQ,hR,hS⟩:=bs hP;refine Dg (Xa hR) V V (Be Tryz.func9 V) bw λkR hT hU=>C 1 V ?_;cases hS;exact ej hT hU V;refine C 2 V ?_;cases hQ;exact ej (Le.refl _) bw V;obtain⟨hV,hW,hX⟩:=bs hL;refine C 6 V (Ga 7 4 [] [(98,.bool hV)] (λkS kT ek=>?_) (λel=>?_));let⟨em,hY,h0⟩:=bs hX;refine C 1 V (Ga 10 1 [] [(101,.bool em)] (λkU kV kW=>?_) (λeo=>?_));refine C 2 V ?_;obtain rfl:=(oi h0);exact IJ V (JO.end (v:=.bool em) V (by decide+kernel) Tryz.func3 V V V);refine FR 99 hY (λh1 h2=>?_) (λh1 h3=>?_);let⟨kX,h4,h5⟩:=bs h2;refine Dg (Xa h4) V V (Be Tryz.func9 V) ek λkY h6 h7=>C 1 V ?_;cases h5;exact eo h6 h7 V;refine C 2 V ?_;cases h3;exact eo (Le.refl _) ek V;refine I2 94 hW (λh8 h9=>?_) (λh8 ia=>?_);let⟨kZ,ih,ii⟩:=bs h9;refine C 2 V (Dg (SG (hv.M (hy.trans ef)) (hB.M ef) ih) V V QN bw λk0 io i0=>?_);refine C 1 V ?_;cases ii;exact el io i0 V;refine C 4 V ?_;cases ia;exact el (Le.refl _) bw V;intro ep;refine I2 80 hD (λi1 i3=>?_) (λi1 i4=>?_);refine C 3 V (JS.drop 0 ed V λi5=>?_);cases i3;exact AF (ep _ _ ⟨ci,V,V,(Le.refl _),i5⟩) V;refine C 3 V (JS.drop 0 ed V λi6=>?_);cases i4;exact AF (ep _ _ ⟨ci,V,V,(Le.refl _),i6⟩) V;intro i7;refine JL.block (JS.swap 0 1 V V V g8 λi8=>?_);refine JS.swap 1 2 V V V i8 λi9=>Cv hb (λL s K=>∃(bb:LH) (be:Aw) (am:Nat) (bx:Seg),Jn a3 H bb [[(Y,.cells #[.slice Z (al).length ac,.slice be (K.1).length am] 28 (0,0))],a4,bx] [(4,.pointer (some ⟨Y,0,none⟩)),(7,iV K.2)] L s (OL 31 AE bb be am bx (K.1))) ⟨a3,az,a0,a2,V,V,(Le.refl _),i9,(gB.M g7)⟩ ?_;rintro _ _ K ⟨bb,be,am,bx,rfl,rfl,er,aw,co⟩ jg ⟨k1,cp⟩ jj;have eu:=cp;unfold NZ at eu;refine C 4 V (JL.fd Tryz.underlying28 Hk V V V ?_);refine Al (v:=.slice be (K.1).length am) V (λρ h=>Yl.load Jl (h _ _ V) (B6 (j:=0) (off:=1) aw V V)) (JL.ln Tryz.underlying26 V V V ?_);refine C 2 V (A4 eu (λjp jr=>?_) (λjp jt=>?_));refine C 3 V ?_;let⟨ai,ew,jy⟩:=bs jr;obtain⟨aq,k2,_,rfl,rfl,⟨_,_,rfl,rfl,⟨_,_,rfl,rfl,rfl⟩⟩,jA⟩:=OL.jd co ew;refine Em 10 [Y,aq] ⟨⟨0,_,V⟩,⟨2,_,V⟩,trivial⟩ aw λap=>JG.fd 0 ap Tryz.underlying28 Hk V V V V (G9 1 ap 1 0 aw Jl ?_);refine Dw 2 ap V V (JG.fd 3 ap Tryz.underlying28 Hk V V V V ?_);refine G9 4 ap 1 0 aw Jl ?_;refine Dw 5 ap V V (AP (v:=.pointer (some ⟨aq,(Int.toNat (K.2)*3),none⟩)) 6 ap V V (λρ h s' ct=>Rl ew Tryz.underlying26 BJ (h _ _ V) (h _ _ V)) ?_);refine JG.fd 7 ap Tryz.underlying31 AW V V V V (AP (v:=iV ai.2.2) 8 ap V V (λρ h s' ct=>Yl.load By (h _ _ V) (BR 2 aw V (by simp[AI]) ct (jA 2 _ V))) ?_);refine AP (v:=iV (min (ai.2.2) (2))) 9 ap V V (λρ h s' ct=>Yl.min2 (h _ _ V) (h _ _ V)) (Dl [10,11,12] ?_);let⟨O,jB,jC⟩:=bs jy;refine Pm 2 co jB V V V V V V Tryz.underlying26 BJ ?_;rintro bz bi ex _ jD ⟨_,_,rfl,rfl,⟨_,_,rfl,rfl,rfl⟩⟩ jE ey jF k3 k4;refine JL.fd Tryz.underlying31 AW V V V (JS.store (v:=iV (min (ai.2.2) (2))) (off:=bi+2) 2 V V V aw V V AW (by simp[Value.cells,C5]) jD (by have:=ey;simp only[Rp.n,rK,rN,rB,rP,rL] at this;show _+1<=_;omega) λeA=>?_);rw[Yo (m:=2) (ws:=[iV O.1,iV O.2.1,iV O.2.2]) (vs:=[iV O.1,iV O.2.1,iV (min (ai.2.2) (2))]) (by have:=ey;simp only[Rp.n,rK,rN,rB,rP,rL] at this;show _+3<=_;omega) jE rfl (pt rfl)] at eA ⊢;have jG:=jF ((O.1,O.2.1,min (ai.2.2) (2))) [iV O.1,iV O.2.1,iV (min (ai.2.2) (2))] ⟨_,_,V,V,⟨_,_,V,V,V⟩⟩;have b0:(K.1.set (Int.toNat K.2) (O.1,O.2.1,min (ai.2.2) (2))).length=(K.1).length:=pE;refine Fz (L':=[(4,.pointer (some ⟨Y,0,none⟩)),(7,iV K.2),(43,iV K.2),(44,.pointer (some ⟨Y,1,none⟩)),(45,.slice (some ⟨aq,0,none⟩) ((K.1.set (Int.toNat K.2) (O.1,O.2.1,min (ai.2.2) (2)))).length am),(46,iV ((K.1).length:Int)),(47,.bool (decide (K.2<((K.1).length:Int)))),(50,.pointer (some ⟨Y,1,none⟩)),(51,.slice (some ⟨aq,0,none⟩) ((K.1.set (Int.toNat K.2) (O.1,O.2.1,min (ai.2.2) (2)))).length am),(52,iV K.2),(53,.pointer (some ⟨Y,1,none⟩)),(54,.slice (some ⟨aq,0,none⟩) ((K.1.set (Int.toNat K.2) (O.1,O.2.1,min (ai.2.2) (2)))).length am),(55,iV K.2),(56,.pointer (some ⟨aq,(Int.toNat (K.2)*3),none⟩)),(57,.pointer (some ⟨aq,(Int.toNat (K.2)*3)+2,none⟩)),(58,iV ai.2.2),(59,iV (min (ai.2.2) (2))),(60,.pointer (some ⟨bz,bi,none⟩)),(61,.pointer (some ⟨bz,bi+2,none⟩))]) ⟨V,V,V,V,by rw[b0];rfl,V,V,V,by rw[b0];rfl,V,V,by rw[b0];rfl,V,V,V,V,V,V,V,trivial⟩ ?_;refine B7 (S':=[[(Y,.cells #[.slice Z (al).length ac,.slice (some ⟨aq,0,none⟩) ((K.1.set (Int.toNat K.2) (O.1,O.2.1,min (ai.2.2) (2)))).length am] 28 (0,0))],a4,[(bz,.cells (A3 ex bi [iV O.1,iV O.2.1,iV (min (ai.2.2) (2))]) 31 (0,0))]]) (by rw[b0]<;>rfl) eA λjH=>?_;let⟨jI,jJ,jK⟩:=bs jC;refine C 4 V (Bz jJ V V V ?_);refine C 2 V ?_;cases jK;exact AF (jj _ _ ((K.1.set (Int.toNat K.2) (O.1,O.2.1,min (ai.2.2) (2))),jI) ⟨bb,(some ⟨aq,0,none⟩),am,[(bz,.cells (A3 ex bi [iV O.1,iV O.2.1,iV (min (ai.2.2) (2))]) 31 (0,0))],V,V,er,jH,jG⟩ cp) V;refine JL.exit V ?_;cases jt;obtain rfl:=jg _ cp;exact AF (i7 _ _ ⟨bb,be,am,bx,V,V,er,aw,co⟩) V;intro jL;refine JL.block (JS.drop 1 g4 V λjM=>?_);refine JS.swap 3 4 V V V jM λjN=>Cv g5 (λL s ag=>∃(ay:LH) (bn:Seg),Jn b4 H ay [a2,[(Y,.cells #[.slice Z (ag.1).length ac,.slice az (a9.1.2).length a0] 28 (0,0))],bn] [(4,.pointer (some ⟨Y,0,none⟩)),(5,iV ag.2)] L s (DX 22 3 rI ay Z ac bn (ag.1))) ⟨b4,gh,V,V,(Le.refl _),jN,gt⟩ ?_;rintro _ _ ag ⟨ay,bn,rfl,rfl,eC,cw,eN⟩ jO ⟨k5,cy⟩ jP;have e0:=cy;unfold N1 at e0;refine C 4 V (JL.fd Tryz.underlying28 FP V V V ?_);refine Al (v:=.slice Z (ag.1).length ac) V (λρ h=>Yl.load F3 (h _ _ V) (B6 (j:=1) (off:=0) cw V V)) (JL.ln Tryz.underlying25 V V V ?_);refine C 2 V (A4 e0 (λjQ jR=>?_) (λjQ jS=>?_));let⟨c0,jT,jU⟩:=bs jR;refine C 7 V (BF (λL s=>∃(b1:LH) (b2:Seg),Jn ay H b1 [a2,[(Y,.cells #[.slice Z (c0).length ac,.slice az (a9.1.2).length a0] 28 (0,0))],b2] [(4,.pointer (some ⟨Y,0,none⟩)),(5,iV ag.2)] L s (DX 22 3 rI b1 Z ac b2 (c0))) ?_ ?_);rintro _ _ ⟨b1,b2,rfl,rfl,jV,jW,jX⟩;let⟨jY,jZ,j0⟩:=bs jU;refine C 3 V (Bz jZ V V V ?_);refine C 2 V ?_;cases j0;exact AF (jP _ _ (c0,jY) ⟨b1,b2,V,V,(eC.trans jV),jW,jX⟩ cy) V;intro j1;refine JL.block (Cv jT (λL s U=>∃(bo:LH) (b3:Seg),Jn ay H bo [a2,[(Y,.cells #[.slice Z (U.1).length ac,.slice az (a9.1.2).length a0] 28 (0,0))],b3] [(4,.pointer (some ⟨Y,0,none⟩)),(5,iV ag.2),(6,iV U.2)] L s (DX 22 3 rI bo Z ac b3 (U.1))) ⟨ay,bn,V,V,(Le.refl _),cw,eN⟩ ?_);rintro _ _ U ⟨bo,b3,rfl,rfl,e1,a7,c1⟩ j2 ⟨k6,c3⟩ j3;have e3:=c3;unfold N2 at e3;refine C 4 V (JL.fd Tryz.underlying28 FP V V V ?_);refine Al (v:=.slice Z (U.1).length ac) V (λρ h=>Yl.load F3 (h _ _ V) (B6 (j:=1) (off:=0) a7 V V)) ?_;let⟨c4,e4,j4⟩:=bs e3;refine C 1 V ?_;let⟨j5,k7,j6,j7,k8,k9,la,j8,e5⟩:=DX.rowOf c1 e4;refine Al (v:=.pointer (some ⟨j5,Int.toNat (ag.2)*1,none⟩)) V (λρ h=>Rv e5.ad e4 Tryz.underlying25 GC (h _ _ V) (h _ _ V)) (Al (v:=.slice j6 (c4).length j7) V (λρ h=>Yl.load J1 (h _ _ V) (T8 (j:=2) a7 (pB some j8) (List.Mem.head _) e5.hd)) ?_);refine JL.ln Tryz.underlying22 V V V (C 2 V ?_);refine A4 j4 (λj9 kb=>?_) (λj9 kc=>?_);refine C 4 V (JL.fd Tryz.underlying28 FP V V V ?_);refine Al (v:=.slice Z (U.1).length ac) V (λρ h=>Yl.load F3 (h _ _ V) (B6 (j:=1) (off:=0) a7 V V)) ?_;let⟨a8,e6,ke⟩:=bs kb;refine C 1 V ?_;let⟨c5,e7,kf,kg,e8,lb,ff,fk,c6⟩:=DX.rowOf c1 e6;refine Al (v:=.pointer (some ⟨c5,Int.toNat (ag.2)*1,none⟩)) V (λρ h=>Rv c6.ad e6 Tryz.underlying25 GC (h _ _ V) (h _ _ V)) (Al (v:=.slice kf (a8).length kg) V (λρ h=>Yl.load J1 (h _ _ V) (T8 (j:=2) a7 (pB some fk) (List.Mem.head _) c6.hd)) ?_);let⟨ld,fl,kh⟩:=bs ke;refine C 1 V ?_;obtain⟨c7,fm,_,ki,rfl,rfl,lf,kj,kl⟩:=Qq.elem c6 fl;refine Al (v:=.pointer (some ⟨c7,Int.toNat (U.2)*1,none⟩)) V (λρ h=>Rv ki fl Tryz.underlying22 AW (h _ _ V) (h _ _ V)) (dF (v:=iV 1) (off:=Int.toNat (U.2)*1) 2 a7 (pB some fk) AW V V V (by have:=kj;simp only[Rp.n,rK,rN,rB,rP,rL] at this;show _+1<=_;omega) (by simp[Value.cells,C5]) λkm=>?_);have kn:=kl _ (1) [iV 1] (Le.refl _) V;have c8:(U.1.set (Int.toNat ag.2) (a8.set (Int.toNat U.2) 1)).length=(U.1).length:=pE;refine Fz (L':=[(4,.pointer (some ⟨Y,0,none⟩)),(5,iV ag.2),(6,iV U.2),(26,iV U.2),(27,.pointer (some ⟨Y,0,none⟩)),(28,.slice Z ((U.1.set (Int.toNat ag.2) (a8.set (Int.toNat U.2) 1))).length ac),(29,iV ag.2),(32,iV ((c4).length:Int)),(33,.bool (decide (U.2<((c4).length:Int)))),(36,.pointer (some ⟨Y,0,none⟩)),(37,.slice Z ((U.1.set (Int.toNat ag.2) (a8.set (Int.toNat U.2) 1))).length ac),(38,iV ag.2),(41,iV U.2)]) ⟨V,V,V,V,V,by rw[c8];rfl,V,V,V,V,by rw[c8];rfl,V,V,trivial⟩ ?_;refine B7 (S':=[a2,[(Y,.cells #[.slice Z ((U.1.set (Int.toNat ag.2) (a8.set (Int.toNat U.2) 1))).length ac,.slice az (a9.1.2).length a0] 28 (0,0))],(rs (c5,.cells e7 22 (0,0)) e8 (c7,.cells (A3 fm (Int.toNat (U.2)*1) [iV 1]) 3 (0,0)) ff)]) (by rw[c8]<;>rfl) km λko=>?_;let⟨kp,kq,kr⟩:=bs kh;refine C 4 V (Bz kq V V V ?_);refine C 2 V ?_;cases kr;exact AF (j3 _ _ ((U.1.set (Int.toNat ag.2) (a8.set (Int.toNat U.2) 1)),kp) ⟨bo,(rs (c5,.cells e7 22 (0,0)) e8 (c7,.cells (A3 fm (Int.toNat (U.2)*1) [iV 1]) 3 (0,0)) ff),V,V,e1,ko,kn⟩ c3) V;refine JL.exit V ?_;cases kc;obtain rfl:=j2 _ c3;exact AF (j1 _ _ ⟨bo,b3,V,V,e1,a7,c1⟩) V;refine JL.exit V ?_;cases jS;obtain rfl:=jO _ cy;exact AF (jL _ _ ⟨ay,bn,V,V,eC,cw,eN⟩) V
end Pal
namespace Pal
theorem WH(a:Nat):∀l:List DT,H0 l a= -(l.map (cN a)).sum
 | []=>rfl
 | d::l=>by
  unfold H0
  rw[WH a l,pW,qO]
  unfold mv cN
  split<;>split<;>omega
variable{o:OW}
theorem UT{s:List DT}(h:VO o)(hw:(BS o).length=5)(Y:∀x∈o.1,∀c∈x,c=1)(O:GO o o.1.length=[])(U:s∈EB o):Ends s 0 (En o.1):=by
 let⟨k1,Z,ac⟩:=Nz h hw U;let⟨c,r,_,_,K,ag⟩:=VE U;let⟨_,e,ai,_⟩:=TY c.length c (BS o) [] r V K;rw[qr] at e;subst e;have K:=ag.symm;let⟨p1,p2⟩:=ja Y;have al:∀a,H0 r a<=En o.1 a 1:=λa=>by
  rw[p2,WH,Vh (K.map _),ac];by_cases am:a<o.1.length;unfold GO at O;have:=tz.1 (List.map_eq_nil_iff.1 O) a (pw.2 am);rw[qw] at this;omega;rw[VJ h a (by omega),gJ,pU (by omega)];simp
 let⟨l',D,ap,e2,_⟩:=Sx r (En o.1) ai (λd hd=>(Z d (K.mem_iff.1 hd)).vt) p1 al;exact cZ (ap.trans K) e2
theorem Zf{P:List DT}(h:VO o)(hw:(BS o).length=5)(Z:P∈EB o)(K:GO o o.1.length≠ []):¬Ends P 0 (En o.1):=by
 rintro⟨aq,ac⟩;let⟨k1,ag,ai⟩:=Nz h hw Z;let⟨p,K⟩:=si _ K;unfold GO at K;obtain⟨q,al,rfl⟩:=pO.1 K;let⟨O,U⟩:=re.1 al;have O:=pw.1 O;have U:=qM U;have Y:o.1.getD q []=o.1[q]:=Mw O;have am:=(h.cs _ (pj O)).2;have ap:=dy ag (a:=q) ac (λa b=>by unfold En;omega);rw[UO _ (no _),qk,ai] at ap;have av:Kx (En o.1) q=(o.1.getD q []).sum:=by
  rw[Y,Wa _ am];unfold Kx En;rw[Y];rfl
 omega
def upd{α:Type}(f:α->α)(l:List α)(k:Nat):List α:=(l.take k).map f++l.drop k
variable{α:Type}
theorem Ly(f:α->α)(l:List α)(k:Nat):(upd f l k).length=l.length:=by unfold upd;simp;omega
variable{k:Nat}
theorem Pt{f:α->α}{l:List α}(h:k<l.length):(upd f l k)[k]?=some l[k]:=by
 unfold upd;rw[pf (by simp;omega),qB,r6,ra (by omega),rT,rJ,qq,d6 h]
theorem RN{f:α->α}{l:List α}(h:k<l.length):(upd f l k).set k (f l[k])=upd f l (k+1):=by
 unfold upd;rw[List.set_append_right _ _ (by simp;omega),qB,r6,ra (by omega),rT,qL h,rj,qE,d6 h,ql];simp
theorem Sc(f:α->α)(l:List α):upd f l l.length=l.map f:=by unfold upd;simp
def one:Int->Int:=λ_=>1
def cap(d:DT):DT:=(d.1,d.2.1,min d.2.2 2)
variable{F:Nat}{ps:List (List Int)}
theorem dK{i:Nat}(Z:100<F)(hi:i<ps.length)(ac:ps[i].length<=3):Pal.iter (N2 F (ps,(i:Int))) F (ps,0)=some (ps.set i (ps[i].map one)):=by
 refine Fo ?_;have U:∀z:List Int,(ps.set i z)[i]?=some z:=λz=>qh hi;refine Dt ps[i].length (λk s=>s.2=(k:Int)/\s.1=ps.set i (upd one ps[i] k)) ⟨V,?_⟩ (by omega) ?_ ?_;show ps=ps.set i ps[i];rw[tG];rintro k ⟨q,c⟩ Y ⟨K,O⟩;simp only at K O;subst K;subst O;unfold N2;refine Bg (HO V (U _)) (B3 (by rw[Ly];simp only;omega) ?_);refine Bg (HO V (U _)) (Bg (HO V (Pt Y)) ?_);refine Ao.E ((k+1:Nat):Int) (by simp) (An ⟨V,?_⟩);simp only[qF,rk];exact pB _ (RN (f:=one) Y);rintro⟨q,c⟩ ⟨K,O⟩;simp only at K O;subst K;subst O;unfold N2;exact Bg (HO V (U _)) (Cb (by rw[Ly];simp only;omega) (An ⟨_,V,by rw[Sc]⟩))
theorem bW(Z:100<F)(ag:ps.length<=5)(ac:∀x∈ps,x.length<=3):Pal.iter (N1 F) F (ps,0)=some (ps.map (List.map one)):=by
 refine Fo (Dt ps.length (λk s=>s.2=(k:Int)/\s.1=upd (List.map one) ps k) ⟨V,V⟩ (by omega) ?_ ?_)
 .rintro k ⟨q,c⟩ U ⟨K,O⟩;simp only at K O;subst K;subst O;have Y:k<(upd (List.map one) ps k).length:=by rw[Ly];exact U
  have he:(upd (List.map one) ps k)[k]=ps[k]:=f5 ((d6 Y).symm.trans (Pt U));unfold N1;refine B3 (by rw[Ly];simp only;omega) ?_;refine Bg (dK Z Y (by rw[he];exact ac _ (pj U))) ?_;refine Ao.E ((k+1:Nat):Int) (by simp) (An ⟨V,?_⟩);simp only;rw[he];exact RN (f:=List.map one) U
 .rintro⟨q,c⟩ ⟨K,O⟩;simp only at K O;subst K;subst O;unfold N1;exact Cb (by rw[Ly];simp only;omega) (An ⟨_,V,Sc _ _⟩)
theorem dw{ds:List DT}(Y:100<F)(Z:ds.length<=8):Pal.iter (NZ F) F (ds,0)=some (ds.map cap):=by
 refine Fo (Dt ds.length (λk s=>s.2=(k:Int)/\s.1=upd cap ds k) ⟨V,V⟩ (by omega) ?_ ?_);rintro k ⟨q,c⟩ U ⟨K,O⟩;simp only at K O;subst K;subst O;unfold NZ;refine B3 (by rw[Ly];simp only;omega) (Bg (HO V (Pt U)) ?_);refine Bg (HO V (Pt U)) (Ao.E ((k+1:Nat):Int) (by simp) (An ⟨V,?_⟩));exact RN (f:=cap) U;rintro⟨q,c⟩ ⟨K,O⟩;simp only at K O;subst K;subst O;unfold NZ;exact Cb (by rw[Ly];simp only;omega) (An ⟨_,V,Sc _ _⟩)
theorem cz(F:Nat)(b:JK)(p q:Int):N7 F b p q=f31 F b p q:=by
 have e2:RU=PS:=V;have K:Py=P4:=by unfold Py;rw[e2];rfl
 have O:R6=PQ:=V;unfold N7 f31;rw[O,K]
theorem VO.jl(h:VO o):VO (o.1.map (List.map one),o.2.map cap):=by
 refine⟨by simpa using h.n2,by simpa using h.n5,λx K=>?_,by simpa using h.d8,λd hd=>?_⟩;obtain⟨y,O,rfl⟩:=pO.1 K;refine⟨by simpa using (h.cs y O).1,λc U=>?_⟩;obtain⟨_,_,rfl⟩:=pO.1 U;unfold one;omega;obtain⟨e,he,rfl⟩:=pO.1 hd;let⟨v1,v2,Y,v4,Z,v6,ac⟩:=h.ds e he;refine⟨v1,by rw[qB];exact v2,Y,by rw[qB];exact v4,Z,?_,?_⟩<;>unfold cap<;>simp only<;>omega
theorem ie(aq:5^16<F)(Z:f18 F=some true)(Xv:List Int):f6 F Xv=some true:=by
 have a0:(5:Nat)^16=152587890625:=by decide
 refine Fo ?_;unfold f6;refine AG (S:=λb=>BG 0 b) ?_ ?_;unfold f20;exact An ⟨tA 0,tA 0⟩
 intro b av;rw[cz];refine AG (eX (k:=0) (pm:=5) (dm:=5) (by omega) av (by omega) (by omega) (by omega) (by omega)) ?_;rintro⟨o,b⟩ ⟨al,_,_,_⟩;have U:VO o:=al;clear al;simp only;refine Bg (bW (by omega) U.n5 λx O=>(U.cs x O).1) (Bg (dw (by omega) U.d8) ?_);have h:=U.jl;have ac:∀x∈o.1.map (List.map one),∀c∈x,c=1:=λx O c ag=>by
  obtain⟨y,a1,rfl⟩:=pO.1 O;obtain⟨_,_,rfl⟩:=pO.1 ag
  rfl
 generalize o.1.map (List.map one)=ps at h ac;generalize o.2.map cap=ds at h;have hw:=(NM (F:=F) (by omega) h).2.1;refine Bg (dY (by omega) h) (Bg (fe (by omega) h) ?_);refine AG (ei aq h hw) ?_;rintro⟨x,a2,e⟩ O;refine Bg (b:=false) (by simp) (Cb (by simp) ?_);have ok:∀{b:Bool},b=true->(Option.bind (if b=true then(f18 F).bind λx=>some x else some false) λx=>some x)=some true:=λh=>by rw[eS h,Z];rfl
 by_cases K:GO (ps,ds) ps.length=[];simp only at K ⊢;refine Cb (by rw[K];simp) ?_;let⟨ai,aw⟩:=dH _ (iG h hw);rcases O with⟨Y,x1,x2,am⟩ | ⟨_,ay⟩;simp only at Y x1 x2 am;subst Y;have:x=Km (EB (ps,ds)):=Yz x1 ai (λz ap=>am z ap (UT h hw ac K ap)) aw;subst this;refine Bg (b:=true) ?_ ?_;rw[eS rfl,dQ (by omega) (by have:=Yj h;omega)];rfl;refine Bg (b:=true) ?_ (An V);rw[eS rfl,Z];rfl;exact absurd (UT h hw ac K ai) (ay _ ai)
 .simp only at K ⊢;have az:0<((GO (ps,ds) ps.length).length:Int):=by
   have:=r9.2 K;omega
  refine B3 az ?_;rcases O with⟨_,x1,x2,_⟩ | ⟨Y,_⟩;obtain⟨⟨C,hC,ag⟩,_⟩:=x2;cases hC;exact absurd ⟨_,ag⟩ (Zf h hw x1 K);cases Y;refine Bg (b:=true) ?_ (An V);rw[eS rfl,Z];rfl
end Pal
