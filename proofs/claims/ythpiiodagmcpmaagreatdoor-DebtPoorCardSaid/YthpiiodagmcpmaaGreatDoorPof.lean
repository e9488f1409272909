/- DebtPoor: a part (6 of 9) of the proof of its row. -/
import Derived.Test.YthpiiodagmcpmaaGreatDoorPoa
import Derived.Test.YthpiiodagmcpmaaGreatDoorPoc
import Derived.Test.YthpiiodagmcpmaaGreatDoorPoe
set_option linter.all false
set_option maxRecDepth 100000
namespace Pal
def HS(a b:DT):Bool:=decide (a.1<b.1∨(a.1=b.1/\(a.2.1<b.2.1∨(a.2.1=b.2.1/\a.2.2<b.2.2))))
theorem UT{a b:DT}:HS a b=true↔a.1<b.1∨(a.1=b.1/\(a.2.1<b.2.1∨(a.2.1=b.2.1/\a.2.2<b.2.2))):=by unfold HS;exact decide_eq_true_iff
theorem Mm{a b:DT}:HS a b=false↔¬(a.1<b.1∨(a.1=b.1/\(a.2.1<b.2.1∨(a.2.1=b.2.1/\a.2.2<b.2.2)))):=by unfold HS;exact decide_eq_false_iff_not
theorem UR{F:Nat}{a b:DT}(K:BD a)(hb:BD b):As (f113 F a b) (λc=>(c<0↔HS a b=true)/\(c=0↔a=b)):=by
 obtain⟨a1,O,U,Y,Z,ac⟩:=K;obtain⟨ag,al,am,ap,aq,av⟩:=hb;obtain⟨ax,ay,az⟩:=a;obtain⟨a0,a2,a3⟩:=b;simp only at a1 O U Y Z ac ag al am ap aq av;unfold f113;simp only [UT,Prod.mk.injEq];refine Bw (λh=>?_) (λh=>?_)
 .exact As.E _ V (Ap ⟨by omega,by omega⟩)
 refine Bw (λaw=>?_) (λaw=>?_)
 .exact As.E _ V (Ap ⟨by omega,by omega⟩)
 .exact As.E _ V (Ap ⟨by omega,by omega⟩)
def Gr(x:DT):List DT->List DT
 | []=> [x]
 | y::ys=>if HS x y=true then x::y::ys else y::Gr x ys
def ET(l:List DT):List DT:=l.foldl (λa x=>Gr x a) []
def MD(l:List DT):Prop:=l.Pairwise λa b=>HS b a=false
theorem Q0{x d:DT}:∀{l:List DT},d∈Gr x l↔d=x∨d∈l
 | []=>by simp [Gr]
 | y::ys=>by
  unfold Gr
  split
  .simp
  .rw [List.mem_cons,Q0,List.mem_cons];constructor
   .rintro(h | h | h)
    .exact .inr (.inl h)
    .exact .inl h
    .exact .inr (.inr h)
   .rintro(h | h | h)
    .exact .inr (.inl h)
    .exact .inl h
    .exact .inr (.inr h)
theorem Ul{x:DT}:∀{l:List DT},(Gr x l).length=l.length+1
 | []=>rfl
 | y::ys=>by
  unfold Gr
  split
  .rfl
  .rw [List.length_cons,Ul];rfl
theorem Ve{x:DT}:∀{l:List DT},MD l->MD (Gr x l)
 | [],_=>List.pairwise_singleton _ _
 | y::ys,h=>by
  obtain⟨U,Y⟩:=List.pairwise_cons.1 h
  unfold Gr
  split
  .rename_i O
   refine List.pairwise_cons.2 ⟨λz K=>?_,h⟩;have O:=UT.1 O;rcases List.mem_cons.1 K with rfl | K
   .rw [Mm];omega
   .have:=Mm.1 (U z K);rw [Mm];omega
  .rename_i O;refine List.pairwise_cons.2 ⟨λz K=>?_,Ve Y⟩;rcases Q0.1 K with rfl | K
   .exact Bool.eq_false_iff.2 O
   .exact U z K
theorem UU{x:DT}{B:List DT}(K:∀b∈B,HS x b=true):∀{A:List DT},(∀a∈A,HS x a=false)->Gr x (A++B)=A++x::B
 | [],_=>by
  cases B with
  | nil=>rfl
  | cons b bs=>simp only [List.nil_append,Gr,K b List.mem_cons_self,if_true]
 | a::A,O=>by
  have U:=O a List.mem_cons_self
  simp only [List.cons_append,Gr,U]
  rw [if_neg (by decide),UU K λz Y=>O z (List.mem_cons_of_mem _ Y)]
theorem MT(l:List DT)(x:DT):ET (l++ [x])=Gr x (ET l):=by unfold ET;rw [List.foldl_append];rfl
theorem bU:∀{k:Nat},k<=10->(3:Int) ^ k<=59049
 | 0,_ | 1,_ | 2,_ | 3,_ | 4,_ | 5,_ | 6,_ | 7,_ | 8,_ | 9,_ | 10,_=>by decide
 | _+11,h=>absurd h (by omega)
theorem OS{α:Type}{P:List α->Prop}(O:P [])(U:∀l x,P l->P (l++ [x])):∀l,P l:=by
 have:∀n (l:List α),l.length=n->P l:=by
  intro n
  induction n with
  | zero=>intro l K;cases List.length_eq_zero_iff.1 K;exact O
  | succ n Y=>
   intro l K;rcases Ta l with rfl | ⟨l',x,rfl⟩
   .cases K
   .exact U _ _ (Y _ (by simpa using K))
 exact λl=>this _ l V
theorem UA(l:List DT):MD (ET l):=OS (P:=λl=>MD (ET l)) List.Pairwise.nil (λl x h=>by rw [MT];exact Ve h) l
theorem Zw{d:DT}(l:List DT):d∈ET l↔d∈l:=OS (P:=λl=>d∈ET l↔d∈l) (Iff.rfl) (λl x h=>by rw [MT,Q0,h];simp [or_comm]) l
theorem Zj(l:List DT):(ET l).length=l.length:=OS (P:=λl=>(ET l).length=l.length) V (λl x h=>by rw [MT,Ul,h];simp) l
theorem Zz(F:Nat):ON F 0=P3 λx y=>(f113 F x y).bind λc=>some (decide (c<0)):=by
 funext s;unfold ON P3;simp only [Option.bind_assoc,Option.bind_some]
theorem X2{A B:List DT}{x y:DT}(O:MD ((A++ [y])++B))(U:HS x y=false):∀a∈A++ [y],HS x a=false:=by
 rw [List.append_assoc] at O;intro a K;rcases List.mem_append.1 K with K | K
 .have Y:=(List.pairwise_append.1 O).2.2 a K y (by simp);have Z:=Mm.1 Y;have ac:=Mm.1 U;rw [Mm];omega
 .cases List.mem_singleton.1 K;exact U
theorem cW{F:Nat}{l:List DT}(az:100<F)(a0:l.length<=20)(hb:∀d∈l,BD d):f193 F l 0 (l.length:Int)=some (ET l):=by
 refine DC ?_;unfold f193;refine As.E 1 V (AI (S:=λr=>r=ET l) ?_ (λr Y=>Ap Y));refine Dm (l.length - 1) (λi s=>s.1=((i+1:Nat):Int)/\s.2=ET (l.take (i+1))++l.drop (i+1)) ⟨V,?_⟩ (by omega) ?_ ?_
 .cases l with
  | nil=>rfl
  | cons x xs=>rfl
 .rintro i ⟨c,w⟩ hi ⟨K,hw⟩;simp only at K hw;subst K;have O:i+1<l.length:=by omega
  unfold OH;refine BZ (by simp only;omega) ?_;have Z:l.drop (i+1)=l[i+1]::l.drop (i+2):=List.drop_eq_getElem_cons O;have a1:(ET (l.take (i+1))).length=i+1:=by rw [Zj,List.length_take];omega
  have ac:∀d∈ET (l.take (i+1)),BD d:=λd hd=>hb d (List.mem_of_mem_take ((Zw _).1 hd));have ag:BD l[i+1]:=hb _ (List.getElem_mem O);have al:ET (l.take (i+2))=Gr l[i+1] (ET (l.take (i+1))):=by
   rw [List.take_add_one (i:=i+1),List.getElem?_eq_getElem O];exact MT _ _
  have am:=UA (l.take (i+1));generalize l[i+1]=x at*;generalize ET (l.take (i+1))=P at*;generalize l.drop (i+2)=R at*;refine AI (S:=λr=>r=Gr x P++R) ?_ ?_
  .rw [Zz,hw,Z];have ap:((i+1:Nat):Int)=(P.length:Int):=by omega
   rw [ap];refine(du (lt:=HS) R (by omega) (by omega) λy U=>?_).M ?_
   .obtain⟨c,aq,av,_⟩:=UR (F:=F) ag (ac y U);rw [aq,Option.bind_some];congr 1;rw [Bool.eq_iff_iff,decide_eq_true_eq];exact av
   .rintro r ⟨A,B,rfl,rfl,aw,ay⟩;rw [UU aw ?_]
    .simp
    .rcases ay with rfl | ⟨a2,y,rfl,U⟩
     .simp
     .exact X2 am U
  .rintro r rfl;refine As.E ((i+1+1:Nat):Int) (by simp) (Ap ⟨V,?_⟩);simp only;rw [al]
 .rintro⟨c,w⟩ ⟨K,hw⟩;simp only at K hw;subst K;unfold OH;refine BY (by simp only;omega) (Ap ⟨_,V,?_⟩);simp only;rw [hw,List.take_of_length_le (by omega),List.drop_eq_nil_of_le (by omega),List.append_nil]
theorem dM{F:Nat}:∀n,n<=12->∃r,f115 F (Cv ((n:Nat):Int))=some r
 | 0,_ | 1,_ | 2,_ | 3,_ | 4,_ | 5,_ | 6,_ | 7,_ | 8,_ | 9,_ | 10,_ | 11,_ | 12,_=>⟨_,rfl⟩
 | _+13,h=>absurd h (by omega)
theorem gF{F:Nat}{l:List DT}(K:100<F)(O:l.length<=12)(hb:∀d∈l,BD d):f90 F l=some (ET l):=by
 obtain⟨F,rfl⟩:∃k,F=k+1:=⟨F - 1,by omega⟩;obtain⟨x,U⟩:=dM (F:=F+1) l.length O;refine DC ?_;unfold f90;refine A6 (b:=l) (by unfold f129 Nw EK;rw [if_pos (by simp;omega)];rfl) (A6 (b:=ET l) ?_ (Ap V));refine DC ?_;unfold f130;refine A6 U (A6 (b:=ET l) ?_ (Ap V));refine DC ?_;unfold f169;refine AI (S:=λr=>r=Sum.inl (ET l)) ?_ (by rintro r rfl;rw [Sum.elim_inl];exact Ap rfl);refine Dm 0 (λ_ _=>True) trivial (by omega) (by intro i s h;omega) ?_;rintro s -;unfold Ru;refine As.E (l.length:Int) (by omega) (BZ (by omega) ?_);exact A6 (cW K (by omega) hb) (Ap ⟨_,V,V⟩)
def Ka(n:Nat)(w:List Int)(S:List PR):Option (List DT):=(Fu n S.length S w []).map ET
theorem ck{F:Nat}{o:OW}{S:List PR}(K:100<F)(h:VO o)(O:S.length<=10)(U:∀x∈S,VP o.1.length x):f135 F o S=some (match Ka o.1.length (BI o) S with | none=>([],false) | some r=>(r,true)):=by
 have Y:=h.n5;obtain⟨ac,g2⟩:=Mk K h;have Z:(200:Int)*3 ^ S.length<=1000000000000:=by
  have:=bU O;omega
 have e:=Vb (q:=o) K rfl Y S.length F S (BI o) [] 200 rfl (by omega) O U g2 (by omega) Z (by simp;omega);have e2:f175 F o S=some (match Ka o.1.length (BI o) S with | none=>(true,default) | some r=>(false,r)):=by
  refine DC ?_;unfold f175;refine A6 ac ?_;refine A6 (show Sw F S (BI o) o []=_ from e) ?_;unfold Ka;rcases ag:Fu o.1.length S.length S (BI o) [] with _ | r
  .exact BZ V (Ap V)
  .refine BY (by simp [NG]) ?_;obtain⟨k1,al⟩:=UE Y S.length S (BI o) [] r 200 rfl U g2 (by omega) Z (by simp) ag;exact A6 (gF K (by show r.length<=12;rw [al];simp;omega) k1) (Ap V)
 unfold f135;rw [e2,Option.bind_some];rcases Ka o.1.length (BI o) S with _ | r
 .rfl
 .rfl
def G0:Nat->List PR->List (List PR)
 | 0,_=> [[]]
 | _+1,[]=> []
 | m+1,x::xs=>(G0 m xs).map (x::·)++G0 (m+1) xs
theorem QB:∀(m:Nat) (l:List PR),(G0 m l).length<=2 ^ l.length
 | 0,l=>by simp only [G0,List.length_singleton];exact Nat.one_le_two_pow
 | m+1,[]=>by simp [G0]
 | m+1,x::xs=>by
  have K:=QB m xs;have O:=QB (m+1) xs
  simp only [G0,List.length_append,List.length_map,List.length_cons]
  rw [Nat.pow_succ];omega
theorem QC{x:PR}:∀{m:Nat} {l c:List PR},c∈G0 m l->c.length=m/\(x∈c->x∈l)
 | 0,l,c,h=>by rw [show G0 0 l= [[]] by cases l <;> rfl] at h;cases List.mem_singleton.1 h;exact⟨rfl,λh=>by cases h⟩
 | m+1,[],c,h=>by cases h
 | m+1,y::ys,c,h=>by
  rcases List.mem_append.1 h with h | h
  .obtain⟨U,O,rfl⟩:=List.mem_map.1 h
   have:=QC (x:=x) O;exact⟨by rw [List.length_cons,this.1],λK=>by
    rcases List.mem_cons.1 K with rfl | K
    .exact List.mem_cons_self
    .exact List.mem_cons_of_mem _ (this.2 K)⟩
  .have:=QC (x:=x) h;exact⟨this.1,λK=>List.mem_cons_of_mem _ (this.2 K)⟩
def Ee(n:Nat)(w:List Int)(P:PR->Bool)(m:Nat)(l ys:List PR):List (List DT):=(G0 m (ys.filter P)).filterMap λc=>Ka n w (l++c)
theorem bh{n:Nat}{w:List Int}{P:PR->Bool}{m:Nat}{l ys:List PR}:(Ee n w P m l ys).length<=2 ^ ys.length:=by
 unfold Ee;refine Nat.le_trans (List.length_filterMap_le _ _) (Nat.le_trans (QB _ _) ?_);exact Nat.pow_le_pow_right (by decide) (List.length_filter_le _ _)
theorem YM{n:Nat}{w:List Int}{P:PR->Bool}{m:Nat}{l xs:List PR}{x:PR}(h:P x=false):Ee n w P m l (x::xs)=Ee n w P m l xs:=by unfold Ee;rw [List.filter_cons_of_neg (by simp [h])]
theorem Y5{n:Nat}{w:List Int}{P:PR->Bool}{m:Nat}{l xs:List PR}{x:PR}(h:P x=true):Ee n w P (m+1) l (x::xs)=Ee n w P m (l++ [x]) xs++Ee n w P (m+1) l xs:=by
 unfold Ee;rw [List.filter_cons_of_pos h,G0,List.filterMap_append,List.filterMap_map];congr 2;funext c;simp
theorem U7{F:Nat}{o:OW}{ag m:Nat}{K:List PR}{P:PR->Bool}(al:100<F)(h:VO o)(hm:m<=5)(aw:K.length<=10)(am:∀x∈K,VP o.1.length x)(ap:∀x,VP o.1.length x->f136 F ag x.1 x.2=some (!P x)):
  ∀(k N:Nat) (l:List PR) (i:Nat) (b:List (List DT)),l.length+k=m->k<N->i<=K.length->(∀x∈l,VP o.1.length x)->b.length+2 ^ (K.length - i)<=1000000->
   Mj N F l (i:Int) (m:Int) o K ag b=some (true,b++Ee o.1.length (BI o) P k l (K.drop i))
 | 0,N,l,i,b,ay,az,hi,ac,hb=>by
  obtain⟨N,rfl⟩:∃k,N=k+1:=⟨N - 1,by omega⟩
  have a5:1<=2 ^ (K.length - i):=Nat.one_le_two_pow
  refine DC ?_
  simp only [Mj]
  unfold Nj
  refine BZ (by omega) ?_
  refine A6 (ck al h (by omega) ac) ?_
  refine AI (S:=λr=>r=(true,b++Ee o.1.length (BI o) P 0 l (K.drop i))) ?_ (λr a0=>Ap a0)
  have e:Ee o.1.length (BI o) P 0 l (K.drop i)=(Ka o.1.length (BI o) l).toList:=by
   unfold Ee;simp only [G0,List.filterMap_cons,List.append_nil,List.filterMap_nil];cases Ka o.1.length (BI o) l <;> rfl
  rw [e];rcases Ka o.1.length (BI o) l with _ | r
  .exact BZ V (Ap (by simp))
  .exact BY (by simp) (Hz (by omega) (Ap V))
 | k+1,N,l,i,b,ay,az,hi,ac,hb=>by
  obtain⟨N,rfl⟩:∃k,N=k+1:=⟨N - 1,by omega⟩;refine DC ?_;simp only [Mj];unfold Nj;refine BY (by omega) (AI (S:=λr=>r=Sum.inr (b++Ee o.1.length (BI o) P (k+1) l (K.drop i))) ?_ (by rintro r rfl;rw [Sum.elim_inr];exact Ap rfl));refine Fi (λz s=>∃j,z=K.length - j/\j<=K.length/\s.2=((j:Nat):Int)/\s.1++Ee o.1.length (BI o) P (k+1) l (K.drop j)=b++Ee o.1.length (BI o) P (k+1) l (K.drop i)/\s.1.length+2 ^ (K.length - j)<=1000000) ?_ (m:=K.length - i) ⟨i,V,hi,V,V,hb⟩ (by omega);rintro z ⟨acc,c⟩ ⟨j,rfl,a6,aq,he,hlen⟩;simp only at aq he hlen;subst aq;unfold Rj;refine Bw (λa1=>?_) (λa2=>?_)
  .simp only at a1;have O:j<K.length:=by omega
   have hd:K.drop j=K[j]::K.drop (j+1):=List.drop_eq_getElem_cons O;have av:=am _ (List.getElem_mem O);have a7:2 ^ (K.length - j)=2 ^ (K.length - (j+1))+2 ^ (K.length - (j+1)):=by
    rw [show K.length - j=K.length - (j+1)+1 by omega,Nat.pow_succ];omega
   have a8:0<2 ^ (K.length - (j+1)):=Nat.two_pow_pos _;refine AI (S:=λr=>∃Y,r=Sum.inr Y/\Y++Ee o.1.length (BI o) P (k+1) l (K.drop (j+1))=acc++Ee o.1.length (BI o) P (k+1) l (K.drop j)/\Y.length+2 ^ (K.length - (j+1))<=1000000) ?_ ?_
   .refine Bg (m:=j) V O (Bg (m:=j) V O ?_);refine A6 (ap _ av) ?_;by_cases Z:P K[j]=true
    .refine BY (by simp [Z]) ?_;refine Bg (m:=j) V O ?_;refine As.E ((j+1:Nat):Int) (by simp) ?_;refine As.Qc (by simp;omega) ?_;refine A6 (U7 al h hm aw am ap k N (l++ [K[j]]) (j+1) acc (by simp;omega) (by omega) (by omega) (λx U=>by
      rcases List.mem_append.1 U with U | U
      .exact ac x U
      .cases List.mem_singleton.1 U;exact av) (by omega)) ?_
     refine BY (by simp) (Ap ⟨_,V,?_,?_⟩)
     .rw [hd,Y5 Z,List.append_assoc]
     .have:=bh (n:=o.1.length) (w:=BI o) (P:=P) (m:=k) (l:=l++ [K[j]]) (ys:=K.drop (j+1));rw [List.length_drop] at this;rw [List.length_append];omega
    .refine BZ (by simp [Z]) (Ap ⟨_,V,?_,by simp only;omega⟩);rw [hd,YM (Bool.eq_false_iff.2 Z)]
   .rintro r ⟨Y,rfl,a3,a4⟩;rw [Sum.elim_inr];exact As.E ((j+1:Nat):Int) (by simp) (Ap ⟨K.length - (j+1),by omega,j+1,V,by omega,V,a3.trans he,a4⟩)
  .simp only at a2;refine Ap ?_;have:K.drop j= []:=List.drop_eq_nil_of_le (by omega);rw [this] at he;show Sum.inr _=_;rw [← he];unfold Ee;simp [G0]
def FW(n:Nat)(w:List Int)(P:PR->Bool):List (List DT):=(((List.range n).map λm=>Ee n w P m [] (ER n)).find? λl=> !l.isEmpty).getD []
theorem eK{F O:Nat}{o:OW}{P:PR->Bool}(Y:100<F)(h:VO o)(ag:∀x,VP o.1.length x->f136 F O x.1 x.2=some (!P x)):f71 F o O=some (FW o.1.length (BI o) P):=by
 have Z:=h.n5;have al:=X9 Z;refine DC ?_;unfold f71;have am:∀m,m<=5->f132 F o ((m:Nat):Int) O []=some (Ee o.1.length (BI o) P m [] (ER o.1.length)):=by
  intro m hm;refine DC ?_;unfold f132;refine A6 (cq Y Z) ?_;have ap:2 ^ ((ER o.1.length).length - 0)<=2 ^ 10:=Nat.pow_le_pow_right (by decide) (by omega);exact A6 (show f134 F [] 0 (m:Int) o (ER o.1.length) O []=_ from U7 Y h hm al (λx aq=>T7 aq) ag m F [] 0 [] (by simp) (by omega) (by omega) (by simp) (by simp at ap ⊢;omega)) (Ap (by simp))
 refine Dm o.1.length (λi s=>s=(i:Int)/\∀j,j<i->Ee o.1.length (BI o) P j [] (ER o.1.length)= []) ⟨V,by simp⟩ (by omega) ?_ ?_
 .rintro i s hi ⟨rfl,U⟩;unfold PK;refine BZ (by omega) (A6 (am i (by omega)) ?_);refine Bw (λac=>Ap ?_) (λaw=>?_)
  .show _=_;unfold FW;rw [List.find?_map,show(List.range o.1.length).find? _=some i from List.find?_range_eq_some.2 ⟨?_,List.mem_range.2 hi,λj K=>?_⟩]
   .rfl
   .simp only [Function.comp];cases av:Ee o.1.length (BI o) P i [] (ER o.1.length) with
    | nil=>rw [av] at ac;simp at ac
    | cons=>rfl
   .simp only [Function.comp];rw [U j K];rfl
  .refine As.E ((i+1:Nat):Int) (by simp) (Ap ⟨V,λj K=>?_⟩);rcases Nat.lt_succ_iff_lt_or_eq.1 K with K | rfl
   .exact U j K
   .exact List.length_eq_zero_iff.1 (by omega)
 .rintro s ⟨rfl,U⟩;unfold PK;refine BY (by omega) (Ap ⟨_,V,?_⟩);unfold FW;rw [List.find?_map,show(List.range o.1.length).find? _=none from List.find?_eq_none.2 ?_]
  .rfl
  .intro j K;simp only [Function.comp];rw [U j (List.mem_range.1 K)];simp
theorem fI{F n:Nat}(U:n<=5)(x:PR)(K:VP n x):f136 F 0 x.1 x.2=some (!(λ_=>true) x):=by
 obtain⟨Y,Z,ac⟩:=K;obtain⟨a,O⟩:∃a:Nat,x.1=(a:Int):=⟨x.1.toNat,by omega⟩;obtain⟨b,hb⟩:∃b:Nat,x.2=(b:Int):=⟨x.2.toNat,by omega⟩;rw [O,hb];have:b<=4:=by omega
 have:a<b:=by omega
 match a,b with
 | 0,1 | 0,2 | 0,3 | 0,4 | 1,2 | 1,3 | 1,4 | 2,3 | 2,4 | 3,4=>rfl
 | 0,0=>omega
 | a+1,0=>omega
 | a+1,1=>omega
 | a+2,2=>omega
 | a+3,3=>omega
 | a+4,4=>omega
 | a,b+5=>omega
abbrev Qb(o:OW):List (List DT):=FW o.1.length (BI o) λ_=>true
theorem dD{n:Nat}{w:List Int}{P:PR->Bool}:FW n w P= []∨∃m,m<n/\FW n w P=Ee n w P m [] (ER n)/\(∀j,j<m->Ee n w P j [] (ER n)= []):=by
 unfold FW;rw [List.find?_map];rcases h:(List.range n).find? ((λl:List (List DT)=> !l.isEmpty)∘λm=>Ee n w P m [] (ER n)) with _ | m
 .exact .inl V
 .obtain⟨Y,K,O⟩:=List.find?_range_eq_some.1 h;refine .inr ⟨m,List.mem_range.1 K,V,λj U=>?_⟩;have:=O j U;simpa using this
def Iy:List DT->List DT->Bool
 | [],[]=>false
 | [],_::_=>true
 | _::_,[]=>false
 | x::xs,y::ys=>if x=y then Iy xs ys else HS x y
theorem QV{a b:List DT}:∀{i:Nat},i<=a.length->i<=b.length->a.take i=b.take i->Iy a b=Iy (a.drop i) (b.drop i):=by
 induction a generalizing b with
 | nil=>intro i K _ _;simp at K;subst K;simp
 | cons x xs U=>
  intro i K O h;cases i with
  | zero=>simp
  | succ i=>
   cases b with
   | nil=>simp at O
   | cons y ys=>
    simp only [List.take_succ_cons,List.cons.injEq] at h;simp only [List.drop_succ_cons];rw [Iy,if_pos h.1];exact U (by simpa using K) (by simpa using O) h.2
theorem bE{F:Nat}{a b:List DT}(al:100<F)(am:a.length<=40)(U:∀d∈a,BD d)(Y:∀d∈b,BD d):As (f112 F a b) (λc=>c<0↔Iy a b=true):=by
 unfold f112;refine AI (S:=λr=>(∃c,r=Sum.inl c/\(c<0↔Iy a b=true))∨(r=Sum.inr ()/\a.length<=b.length/\a=b.take a.length)) ?_ ?_
 .refine Dm a.length (λi s=>s=(i:Int)/\i<=b.length/\a.take i=b.take i) ⟨V,by simp,by simp⟩ (by omega) ?_ ?_
  .rintro i s hi ⟨rfl,K,he⟩;unfold Pj;have O:a.drop i=a[i]::a.drop (i+1):=List.drop_eq_getElem_cons hi;refine BZ (by omega) (Bg (m:=i) V hi ?_);refine Bw (λh=>Ap (.inl ⟨1,V,?_⟩)) (λh=>?_)
   .rw [QV (i:=i) (by omega) K he,O,List.drop_eq_nil_of_le (by omega:b.length<=i)];simp [Iy]
   have hb:i<b.length:=by omega
   have Z:b.drop i=b[i]::b.drop (i+1):=List.drop_eq_getElem_cons hb;refine Bg (m:=i) V hb ?_;refine AI (UR (U _ (List.getElem_mem hi)) (Y _ (List.getElem_mem hb))) ?_;rintro c ⟨c1,c2⟩;refine Bw (λh=>Ap (.inl ⟨c,V,?_⟩)) (λh=>?_)
   .rw [QV (i:=i) (by omega) K he,O,Z,Iy,if_neg (λk=>h (c2.2 k))];exact c1
   .have heq:=c2.1 (Decidable.not_not.1 h);refine As.E ((i+1:Nat):Int) (by simp) ?_;refine Ap ⟨V,by omega,?_⟩;rw [List.take_add_one,List.take_add_one,he,List.getElem?_eq_getElem hi,List.getElem?_eq_getElem hb,heq]
  .rintro s ⟨rfl,K,he⟩;unfold Pj;rw [List.take_length] at he;exact BY (by omega) (Ap ⟨_,V,.inr ⟨V,K,he⟩⟩)
 .rintro r (⟨c,rfl,ac⟩ | ⟨rfl,ag,he⟩)
  .rw [Sum.elim_inl];exact Ap ac
  .rw [Sum.elim_inr];have e:Iy a b=Iy [] (b.drop a.length):=by
    rw [QV (i:=a.length) (Nat.le_refl _) ag (by rw [List.take_length];exact he),List.drop_length]
   refine Bw (λh=>Ap ?_) (λh=>Ap ?_)
   .rw [e];cases hd:b.drop a.length with
    | nil=>have:=congrArg List.length hd;simp at this;omega
    | cons=>simp [Iy]
   .rw [e,List.drop_eq_nil_of_le (by omega)];simp [Iy]
def Zb(n:Nat)(w:List Int):Prop:=∀j,n<=j->gN w j=0
theorem OF{w:List Int}{n:Nat}{i:Int}{B:Int}(hb:BN B w)(K:n<=5)(O:0<=i)(hi:i<n):ix (w.take n) i=some (gN w i.toNat):=by
 have U:=hb.1;have:i.toNat<(w.take n).length:=by rw [List.length_take];omega
 refine IW (m:=i.toNat) (by omega) ?_;rw [List.getElem?_eq_getElem this,List.getElem_take,KF (by omega)]
theorem RH{w:List Int}{i j:Nat}{v:Int}(h:i≠j):gN (w.set i v) j=gN w j:=by
 unfold gN;rw [List.getD_eq_getElem?_getD,List.getElem?_set_ne h,List.getD_eq_getElem?_getD]
theorem aa{w:List Int}{d:DT}{n:Nat}(O:0<=d.1)(U:0<=d.2.1)(Y:d.1≠d.2.1):(HN w d).take n=((w.take n).set d.1.toNat (gN w d.1.toNat - d.2.2)).set d.2.1.toNat (gN w d.2.1.toNat+d.2.2):=by
 unfold HN FV;have K:d.2.1.toNat≠d.1.toNat:=by omega
 rw [RH K,List.take_set,List.take_set,List.set_comm _ _ K,Int.sub_eq_add_neg]
theorem Zb.add{n:Nat}{w:List Int}{i v:Int}(h:Zb n w)(hi:i<n)(O:0<=i):Zb n (FV w i v):=λj K=>by
 unfold FV
 rw [RH (by omega)]
 exact h j K
theorem Zb.zero(n:Nat):Zb n (List.replicate 5 0):=λj _=>by
 unfold gN
 rw [List.getD_eq_getElem?_getD,List.getElem?_replicate]
 split <;> rfl
theorem bD{o:OW}(h:VO o):Zb o.1.length (BI o):=by
 have:∀(ds:List DT) (w:List Int),Zb o.1.length w->(∀d∈ds,VD o.1.length d)->Zb o.1.length (ds.foldl HN w):=by
  intro ds
  induction ds with
  | nil=>exact λw hw _=>hw
  | cons d ds K=>
   intro w hw hd;obtain⟨v1,v2,O,v4,_⟩:=hd d List.mem_cons_self;exact K _ ((hw.add v4 O).add v2 v1) λx U=>hd x (List.mem_cons_of_mem _ U)
 exact this _ _ (Zb.zero _) h.ds
theorem VK{F:Nat}{o:OW}(al:100<F)(h:VO o):f55 F o=some ((BI o).take o.1.length):=by
 have U:=h.n5;have am:=h.d8;refine DC ?_;unfold f55;refine A6 (b:=List.replicate o.1.length 0) ?_ ?_
 .unfold Ip;rw [if_pos (by omega)];rfl
 refine AI (S:=λr=>r=(BI o).take o.1.length) ?_ (λr Y=>Ap Y);refine Dm o.2.length (λi s=>s.2=(i:Int)/\∃w,s.1=w.take o.1.length/\w=(o.2.take i).foldl HN (List.replicate 5 0)/\BN (20*i) w) ⟨rfl,List.replicate 5 0,by rw [List.take_replicate,Nat.min_eq_left U],rfl,rfl,by simp⟩ (by omega) ?_ ?_
 .rintro i ⟨s,c⟩ hi ⟨K,w,O,hw,hb⟩;simp only at K O;subst K;subst O;obtain⟨v1,v2,Z,v4,ac,v6,ap⟩:=h.ds _ (List.getElem_mem hi);have ag:=hb.add (i:=o.2[i].2.1) (v:=o.2[i].2.2) (V:=10) (by omega) (by omega) (by omega) (by omega);have g2:=ag.add (i:=o.2[i].1) (v:= -o.2[i].2.2) (V:=10) (by omega) (by omega) (by omega) (by omega);have k1:=hb.bd (i:=o.2[i].2.1.toNat) (by omega);have aq:=hb.bd (i:=o.2[i].1.toNat) (by omega);unfold Nl;refine BZ (by simp only;omega) (Bg (m:=i) rfl hi ?_);refine A6 (OF hb U (by omega) (by omega)) (A6 (OF hb U (by omega) (by omega)) ?_);refine As.E _ rfl (A6 (OF hb U (by omega) (by omega)) ?_);refine As.E _ rfl (As.E ((i+1:Nat):Int) (by simp) ?_);refine Ap ⟨rfl,HN w o.2[i],(aa v1 Z ac).symm,?_,g2.M (by omega)⟩;rw [List.take_add_one,List.getElem?_eq_getElem hi,List.foldl_append,← hw]
  rfl
 .rintro⟨s,c⟩ ⟨K,w,O,hw,hb⟩;simp only at K O;subst K;unfold Nl;rw [List.take_length] at hw;exact BY (by simp) (Ap ⟨_,rfl,by simp only;rw [O,hw];rfl⟩)
theorem bS{w:List Int}{d:DT}(h:w.length=5):(HN w d).length=5:=by unfold HN FV;rw [List.length_set,List.length_set];exact h
def EB(w:List Int)(A:Nat->Bool):Int:=(if A 0 then gN w 0 else 0)+(if A 1 then gN w 1 else 0)+(if A 2 then gN w 2 else 0)+(if A 3 then gN w 3 else 0)+(if A 4 then gN w 4 else 0)
theorem QU{w:List Int}{j:Nat}(K:j<5):EB w (λi=>i==j)=gN w j:=by
 unfold EB
 match j,K with
 | 0,_ | 1,_ | 2,_ | 3,_ | 4,_=>simp
theorem cu{p o:Nat}(O:p<5)(U:o<5)(K:o≠p)(X:Int):(if 0=p then -X else if 0=o then X else 0)+(if 1=p then -X else if 1=o then X else 0)+(if 2=p then -X else if 2=o then X else 0)+(if 3=p then -X else if 3=o then X else 0)+(if 4=p then -X else if 4=o then X else 0)=0:=by
 obtain rfl | rfl | rfl | rfl | rfl:p=0∨p=1∨p=2∨p=3∨p=4:=by omega
 all_goals
  obtain rfl | rfl | rfl | rfl | rfl:o=0∨o=1∨o=2∨o=3∨o=4:=by omega
  all_goals first | exact absurd rfl K | (simp;try omega)
theorem TM{w v:List Int}{p o:Nat}(O:p<5)(U:o<5)(Y:o≠p)(h:∀j,gN v j=if j=p then 0 else if j=o then gN w o+gN w p else gN w j)(A:Nat->Bool):EB v A=EB w (λj=>if j=p then A o else A j):=by
 have key:∀j,(if A j=true then gN v j else 0)=(if(if j=p then A o else A j)=true then gN w j else 0)+(if j=p then -(if A o=true then gN w p else 0) else if j=o then(if A o=true then gN w p else 0) else 0):=by
  intro j;rw [h];by_cases K:j=p
  .subst K;rw [if_pos rfl,if_pos rfl,if_pos rfl];cases A o <;> cases A j <;> simp <;> omega
  .rw [if_neg K,if_neg K,if_neg K];by_cases e2:j=o
   .subst e2;rw [if_pos rfl,if_pos rfl];cases A j <;> simp
   .rw [if_neg e2,if_neg e2,Int.add_zero]
 have am:=cu O U Y (if A o=true then gN w p else 0)
 have Z:=key 0;have k1:=key 1;have ac:=key 2;have ag:=key 3;have al:=key 4;unfold EB;rw [Z,k1,ac,ag,al];generalize (if(if 0=p then A o else A 0)=true then gN w 0 else 0)=ap
 generalize (if(if 1=p then A o else A 1)=true then gN w 1 else 0)=a1
 generalize (if(if 2=p then A o else A 2)=true then gN w 2 else 0)=aq
 generalize (if(if 3=p then A o else A 3)=true then gN w 3 else 0)=av
 generalize (if(if 4=p then A o else A 4)=true then gN w 4 else 0)=aw
 generalize (if A o=true then gN w p else 0)=X at*
 generalize (if 0=p then -X else if 0=o then X else 0)=ay at*
 generalize (if 1=p then -X else if 1=o then X else 0)=az at*
 generalize (if 2=p then -X else if 2=o then X else 0)=a0 at*
 generalize (if 3=p then -X else if 3=o then X else 0)=a2 at*
 generalize (if 4=p then -X else if 4=o then X else 0)=a3 at*
 omega
def s1(A:Nat->Bool)(d:DT):Int:=(if A d.2.1.toNat then d.2.2 else 0)+(if A d.1.toNat then -d.2.2 else 0)
theorem Oy{w:List Int}(hw:w.length=5){i v:Int}(K:0<=i)(O:i<5)(A:Nat->Bool):EB (FV w i v) A=EB w A+if A i.toNat then v else 0:=by
 unfold EB;rw [IS hw K O,IS hw K O,IS hw K O,IS hw K O,IS hw K O];obtain rfl | rfl | rfl | rfl | rfl:i=0∨i=1∨i=2∨i=3∨i=4:=by omega
 .simp only [show Int.toNat 0=0 from rfl];cases A 0 <;> simp <;> omega
 .simp only [show Int.toNat 1=1 from rfl];cases A 1 <;> simp <;> omega
 .simp only [show Int.toNat 2=2 from rfl];cases A 2 <;> simp <;> omega
 .simp only [show Int.toNat 3=3 from rfl];cases A 3 <;> simp <;> omega
 .simp only [show Int.toNat 4=4 from rfl];cases A 4 <;> simp <;> omega
theorem QK(A:Nat->Bool):∀(l:List DT) (w:List Int),(∀d∈l,(0<=d.1/\d.1<5)/\0<=d.2.1/\d.2.1<5)->w.length=5->EB (l.foldl HN w) A=EB w A+(l.map (s1 A)).sum
 | [],w,_,_=>by simp
 | d::l,w,h,hw=>by
  obtain⟨⟨a1,K⟩,O,U⟩:=h d List.mem_cons_self
  rw [List.foldl_cons,QK A l _ (λx Y=>h x (List.mem_cons_of_mem _ Y)) (bS hw),List.map_cons,List.sum_cons]
  unfold HN s1
  rw [Oy (by unfold FV;rw [List.length_set];exact hw) a1 K,Oy hw O U]
  omega
theorem VO.W5{o:OW}(h:VO o):∀d∈o.2,(0<=d.1/\d.1<5)/\0<=d.2.1/\d.2.1<5:=λd hd=>by
 have K:=h.n5
 obtain⟨a1,O,U,Y,-⟩:=h.ds d hd;omega
structure PN (n:Nat) (K:List Nat):Prop where
 len:K.length=n
 nd:K.Nodup
 lt:∀x∈K,x<n
theorem PN.get{n:Nat}{K:List Nat}(h:PN n K){i:Nat}(hi:i<n):K.getD i 0<n:=by
 rw [List.getD_eq_getElem?_getD,List.getElem?_eq_getElem (by rw [h.len];exact hi)];exact h.lt _ (List.getElem_mem _)
theorem PN.inj{n:Nat}{K:List Nat}(h:PN n K){i j:Nat}(hi:i<n)(O:j<n)(e:K.getD i 0=K.getD j 0):i=j:=by
 have U:=h.len;rw [List.getD_eq_getElem?_getD,List.getD_eq_getElem?_getD,List.getElem?_eq_getElem (by omega),List.getElem?_eq_getElem (by omega)] at e;exact(List.getElem_inj h.nd).1 e
theorem VQ{F k:Nat}{b:Hq}{n:Nat}(ay:100<F)(hb:BG k b)(az:k<1000)(a0:n<=5):As (f49 F b (n:Int)) (λr=>∃K,PN n K/\K.Perm (List.range n)/\r.1=(K.map λi:Nat=>(i:Int))/\BG (k+n) r.2):=by
 unfold f49;refine AI (S:=λr=>∃K,PN n K/\K.Perm (List.range n)/\r.1=(K.map λi:Nat=>(i:Int))/\BG (k+n) r.2) ?_ (λr ag=>Ap ag);refine Dm n (λi s=>s.2.2.2.2=(i:Int)/\BG (k+i) (s.1,s.2.1,s.2.2.1)/\s.2.2.2.1.Perm ((List.range i).map λi:Nat=>(i:Int))) ⟨V,hb,.refl _⟩ (by omega) ?_ ?_
 .rintro i ⟨l,t,al,w,z⟩ hi ⟨U,Y,O⟩;simp only at U Y O;subst U;have am:w.length=i:=by rw [O.length_eq];simp
  unfold Pp;refine BZ (by simp only;omega) (AI (KB Y (by omega) (by simp only;omega)) ?_);rintro⟨j,a1⟩ ⟨ap,aq,g2⟩;simp only at ap aq g2 ⊢;obtain⟨j,rfl⟩:∃m:Nat,j=(m:Int):=⟨j.toNat,by omega⟩;have a2:j<=i:=by omega
  refine Hz (by omega) ?_;have a3:(w++ [(i:Int)]).length=i+1:=by simp [am]
  refine Bg (m:=j) V (by omega) (Bg (m:=i) V (by omega) ?_);refine Bg (m:=j) V (by rw [List.length_set];omega) (As.E ((i+1:Nat):Int) (by simp) ?_);refine Ap ⟨V,g2,?_⟩;simp only;rw [show Int.toNat (i:Int)=i by omega,show Int.toNat (j:Int)=j by omega];have av:(w++ [(i:Int)])[i]'(by omega)=(i:Int):=by
   rw [List.getElem_append_right (by omega)];simp
  have aw:(((w++ [(i:Int)]).set i ((w++ [(i:Int)])[j]'(by omega))).set j (i:Int)).Perm (w++ [(i:Int)]):=by
   have:=List.set_set_perm (show i<(w++ [(i:Int)]).length by omega) (show j<(w++ [(i:Int)]).length by omega);rw [av] at this;exact this
  refine aw.trans ?_;rw [List.range_succ,List.map_append];exact O.append_right _
 .rintro⟨l,t,al,w,z⟩ ⟨U,Y,O⟩;simp only at U Y O;subst U;unfold Pp;have Z:(w.map Int.toNat).Perm (List.range n):=by
   have:=O.map Int.toNat;rw [List.map_map] at this;have e:(Int.toNat∘λi:Nat=>(i:Int))=id:=by funext i;simp
   rwa [e,List.map_id] at this
  refine BY (by simp only;omega) (Ap ⟨_,V,w.map Int.toNat,?_,Z,?_,Y⟩)
  .exact⟨by rw [Z.length_eq];simp,Z.nodup_iff.2 List.nodup_range,λx ac=>List.mem_range.1 (Z.mem_iff.1 ac)⟩
  .simp only;rw [List.map_map];refine(List.map_id _).symm.trans (List.map_congr_left λx ac=>?_);obtain⟨y,-,rfl⟩:=List.mem_map.1 (O.mem_iff.1 ac);simp
open Go Go.Conc Go.Proofs
variable {J:Judge Tryz.prog}{E:LH}
def Rl(fu_:Nat)(p0:Bh)(K:(List Int)×Int):Option (Br ((List Int)×Int) ((List Int))):=
 if K.2<((p0.2).length:Int) then(
  (ix p0.2 (K.2)).bind λO=>
  (ix K.1 (O.1)).bind λal=>
  (ix K.1 (O.1)).bind λU=>
  (Av (U - O.2.2)).bind λY=>
  (ix K.1 (O.2.1)).bind λZ=>
  (Av (Z+O.2.2)).bind λac=>
  (Av (K.2+1)).bind λag=>
  some (.more (((K.1.set (Int.toNat O.1) Y).set (Int.toNat O.2.1) ac),ag))
 ) else(
  some (.done K.1)
 )
def NI(fu_:Nat)(p0:Bh):Option ((List Int)):=
 (Ip ((p0.1).length:Int) (0:Int)).bind λK=>
 Option.bind (iter (Rl fu_ p0) fu_ (K,0)) λO=>
 some O
theorem ez{a1:Aq}{c2:Nat}{be:Aq}{bi:Nat}{p0:Bh}(e7:Ao (rL rI) E a1 c2 (p0.1))(b5:Ao Az E be bi (p0.2)){fu_:Nat}{r:(List Int)}(bn:NI fu_ p0=some r):AT J 7 [.agg #[.slice a1 (p0.1).length c2,.slice be (p0.2).length bi]] E [] (λw E' B'=>∃(bo:Aq) (bv:Nat) (g0:Seg),w= .slice bo (r).length bv/\B'=g0/\OL 3 rI E' bo bv g0 (r)):=by
 refine Bp Tryz.func7 λQ e8 cs H b6 ca=>?_;unfold NI at bn;refine C 2 V (DG b6 λbw a5 bx a6 cc=>?_);refine C 4 V (Cb 0 a6 Tryz.underlying28 FC FK ?_);refine JL.ln Tryz.underlying25 V V V ?_;obtain⟨ce,ci,co⟩:=bs bn;refine JS.make (pp:=rI) ci V V V V V Tryz.underlying22 AH (DF Tryz.type3) (by decide) CR (by decide) V cc λcp ct cw cy=>?_;obtain⟨bz,c0,c1⟩:=bs co;refine C 7 V (Bx (λL s=>∃(a7:LH) (aq:Aq) (av:Nat) (aw:Seg),Jn a5 H a7 [aw] [(3,.slice aq (bz).length av)] L s (OL 3 rI a7 aq av aw (bz))) ?_ ?_)
 .rintro _ _ ⟨a7,aq,av,aw,rfl,rfl,c3,c4,c5⟩;refine C 5 V ?_;obtain rfl:=oi c1;exact A2 Tryz.func7 V V (ca (bx.trans c3) V ⟨aq,av,aw,V,(by first | rfl | simp | (simp [Value.cells])),c5⟩ c4)
 .intro c6;refine JL.block (Cn c0 (λL s Y=>∃(ay:LH) (az:Aq) (ac:Nat) (a0:Seg),Jn a5 H ay [a0] [(1,.pointer (some ⟨bw,0,none⟩)),(3,.slice az (Y.1).length ac),(4,iV Y.2)] L s (OL 3 rI ay az ac a0 (Y.1))) ⟨a5,(some ⟨cp,0,none⟩),(ce).length,ct,V,V,(Le.refl _),cy,cw⟩ ?_);rintro _ _ Y ⟨ay,az,ac,a0,rfl,rfl,ap,b0,b1⟩ c7 ⟨ff,a8⟩ c8;have b2:=a8;unfold Rl at b2;refine C 4 V (Cb 1 (a6.M ap) Tryz.underlying28 GU IE ?_);refine JL.ln Tryz.underlying26 V V V (C 2 V ?_);refine A1 b2 (λc9 dd=>?_) (λc9 ea=>?_)
  .refine C 5 V (Cb 1 (a6.M ap) Tryz.underlying28 GU IE ?_);obtain⟨O,eb,ec⟩:=bs dd;refine C 1 V (JS.ix (b5.M (bx.trans ap)) eb Tryz.underlying26 Bt ?_);rintro fk fl _ ⟨_,_,rfl,rfl,⟨_,_,rfl,rfl,rfl⟩⟩ ed;refine Cf ed DX Bt V V (B2 b0 BR λU ee=>?_);refine JS.sx 1 ee Bt λef=>?_;refine Df 1 ef V λeg b3 ag a9=>?_;obtain⟨fm,ej,ek⟩:=bs ec;refine JL.done ?_;obtain⟨a2,f77,el,Z⟩:=WL.of (b1.M b3) ej;obtain⟨rfl,rfl⟩:=el;refine FO [23,25] [a2] [] mixed V (AO 0 V V ?_);refine C6 (v:= .pointer (some ⟨U,0,none⟩)) 1 true V V (λρ h s' K=>Ft (a:=⟨U,0,none⟩) 0 0 Tryz.underlying49 AH V V V (h _ _ V)) (Hf (v:=iV O.1) 2 V (by decide+kernel) V V V (λρ h s' K=>Yl.load Ba (h _ _ V) (At.GC (j:=0) ag K V)) ?_);refine AO 3 V V (C6 (v:= .pointer (some ⟨U,1,none⟩)) 4 true V V (λρ h s' K=>Ft (a:=⟨U,0,none⟩) 0 1 Tryz.underlying49 AH V V V (h _ _ V)) ?_);refine Hf (v:=iV O.2.1) 5 V (by decide+kernel) V V V (λρ h s' K=>Yl.load Ba (h _ _ V) (At.GC (j:=1) ag K V)) (AO 6 V V ?_);refine C6 (v:= .pointer (some ⟨U,0,none⟩)) 7 true V V (λρ h s' K=>Ft (a:=⟨U,0,none⟩) 0 0 Tryz.underlying49 AH V V V (h _ _ V)) (Hf (v:=iV O.1) 8 V (by decide+kernel) V V V (λρ h s' K=>Yl.load Ba (h _ _ V) (At.GC (j:=0) ag K V)) ?_);obtain⟨em,a3,eo⟩:=bs ek;obtain⟨_,rfl,ep⟩:=WL.at Z a3;refine JB.ix 9 Z.2 a3 Tryz.underlying22 AH ?_;refine JB.val (v:=iV em) 10 false V (by decide+kernel) V V V (λρ h s' K=>have K:=K V;Yl.load Ba (h _ _ V) (BM 0 a9 V (by simp [AD]) K (ep 0 _ V))) (C6 (v:= .pointer (some ⟨U,2,none⟩)) 11 true V V (λρ h s' K=>Ft (a:=⟨U,0,none⟩) 0 2 Tryz.underlying49 AH V V V (h _ _ V)) ?_);refine Hf (v:=iV O.2.2) 12 V (by decide+kernel) V V V (λρ h s' K=>Yl.load Ba (h _ _ V) (At.GC (j:=2) ag K V)) ?_;obtain⟨al,er,eu⟩:=bs eo;refine C6 13 true V V (λρ h s' K=>El (h _ _ V) (h _ _ V) er) (AO 14 V V ?_);refine C6 (v:= .pointer (some ⟨U,1,none⟩)) 15 true V V (λρ h s' K=>Ft (a:=⟨U,0,none⟩) 0 1 Tryz.underlying49 AH V V V (h _ _ V)) (Hf (v:=iV O.2.1) 16 V (by decide+kernel) V V V (λρ h s' K=>Yl.load Ba (h _ _ V) (At.GC (j:=1) ag K V)) ?_);obtain⟨ew,a4,ex⟩:=bs eu;obtain⟨_,rfl,ey⟩:=WL.at Z a4;refine JB.ix 17 Z.2 a4 Tryz.underlying22 AH ?_;refine JB.val (v:=iV ew) 18 false V (by decide+kernel) V V V (λρ h s' K=>have K:=K V;Yl.load Ba (h _ _ V) (BM 0 a9 V (by simp [AD]) K (ey 0 _ V))) (C6 (v:= .pointer (some ⟨U,2,none⟩)) 19 true V V (λρ h s' K=>Ft (a:=⟨U,0,none⟩) 0 2 Tryz.underlying49 AH V V V (h _ _ V)) ?_);refine Hf (v:=iV O.2.2) 20 V (by decide+kernel) V V V (λρ h s' K=>Yl.load Ba (h _ _ V) (At.GC (j:=2) ag K V)) ?_;obtain⟨am,eA,eC⟩:=bs ex;refine C6 21 true V V (λρ h s' K=>Dy (h _ _ V) (h _ _ V) eA) (JB.ix 22 Z.2 a3 Tryz.underlying22 AH ?_);have b4:=WL.put (x':=al) (ws':= [iV al]) Z Z.2 a3 V;refine JB.sx 23 0 a9 AH trivial b4.2 λeN=>?_;refine JB.ix 24 Z.2 a4 Tryz.underlying22 AH ?_;have bb:=WL.put (x':=am) (ws':= [iV am]) b4.1 Z.2 a4 V;refine JB.sx 25 0 eN AH trivial bb.2 λe0=>?_;refine JB.fin (by decide+kernel) ?_;have e1:=(bb.1).1;have e3:(((Y.1.set (Int.toNat O.1) al).set (Int.toNat O.2.1) am)).length=(Y.1).length:=(bb.1).2;refine EH (L':= [(1,.pointer (some ⟨bw,0,none⟩)),(3,.slice (some ⟨a2,0,none⟩) (((Y.1.set (Int.toNat O.1) al).set (Int.toNat O.2.1) am)).length ac),(4,iV Y.2)]) ⟨V,by rw [e3];rfl,V,trivial⟩ ?_;obtain⟨e4,e5,e6⟩:=bs eC;refine C 3 V (Bv e5 V V V ?_);refine C 2 V ?_;obtain rfl:=oi e6;exact AF (c8 _ _ (((Y.1.set (Int.toNat O.1) al).set (Int.toNat O.2.1) am),e4) ⟨eg,(some ⟨a2,0,none⟩),ac,[(a2,.cells (A9 (A9 f77 (Int.toNat (O.1)*1) [iV al]) (Int.toNat (O.2.1)*1) [iV am]) 3 (0,0))],V,V,(ap.trans b3),e0,e1⟩ a8) V
  .refine JL.exit V ?_;obtain rfl:=oi ea;obtain rfl:=c7 _ a8;exact AF (c6 _ _ ⟨ay,az,ac,a0,V,V,ap,b0,b1⟩) V
def M9(fu_:Nat)(ac:(List Int)×(Cd))(K:(List Int)×Int×Nat×(List Int)×AG×Int):Option (Br ((List Int)×Int×Nat×(List Int)×AG×Int) (AG×Cd)):=
 if 0<K.2.2.2.2.2 then(
  (ix ac.1 (K.2.2.2.2.2)).bind λZ=>
  (Av (K.2.2.2.2.2 - 1)).bind λag=>
  (f36 fu_ (K.1,K.2.1,K.2.2.1) ag).bind λY=>
  (ix ac.1 (Y.1)).bind λO=>
  (ix K.2.2.2.1 (Z)).bind λU=>
  (ix K.2.2.2.1 (O)).bind λal=>
  (Av (al+U)).bind λam=>
  (ix K.2.2.2.1 (O)).bind λa0=>
  Option.bind (
   if 0<U then(
    (room K.2.2.2.2.1 (O,Z,U)).bind λap=>
    some ap
   ) else(
    Option.bind (
     if U<0 then(
      (Av (-(U))).bind λaq=>
      (room K.2.2.2.2.1 (Z,O,aq)).bind λav=>
      some av
     ) else(
      some K.2.2.2.2.1
     )
    ) λaw=>
    some aw
   )
  ) λay=>
  (Av (K.2.2.2.2.2 - 1)).bind λaz=>
  some (.more (Y.2.1,Y.2.2.1,Y.2.2.2,(K.2.2.2.1.set (Int.toNat O) am),ay,az))
 ) else(
  some (.done (K.2.2.2.2.1,K.1,K.2.1,K.2.2.1))
 )
def M7(fu_:Nat)(O:AG×Cd)(U:(List Int)×(Cd))(K:AG×Int):Option (Br (AG×Int) (AG)):=
 if K.2<((O.1).length:Int) then(
  (ix U.1 (K.2)).bind λZ=>
  (ix K.1 (Z)).bind λal=>
  (ix U.1 (K.2)).bind λY=>
  (ix O.1 (K.2)).bind λac=>
  (ix K.1 (Y)).bind λam=>
  (Av (K.2+1)).bind λag=>
  some (.more ((K.1.set (Int.toNat Y) ac),ag))
 ) else(
  some (.done K.1)
 )
def ND(fu_:Nat)(p0:Cd)(p1:Bh):Option (AG×(Cd)):=
 (NI fu_ p1).bind λU=>
 (f49 fu_ p0 ((U).length:Int)).bind λK=>
 (Av (((K.1).length:Int) - 1)).bind λZ=>
 Option.bind (iter (M9 fu_ K) fu_ (K.2.1,K.2.2.1,K.2.2.2,U,[],Z)) λO=>
 (Ip ((O.1).length:Int) ((0,0,0):Int×Int×Int)).bind λac=>
 (f49 fu_ O.2 ((O.1).length:Int)).bind λY=>
 Option.bind (iter (M7 fu_ O Y) fu_ (ac,0)) λag=>
 some (ag,Y.2)
theorem eY{bk:Nat}{a1:Aq}{c2:Nat}{ey:Aq}{eA:Nat}{eC:Aq}{eN:Nat}{p0:Cd}{p1:Bh}(g1:Ao rI E a1 c2 (p0.1))(g3:Ao (rL rI) E ey eA (p1.1))(g4:Ao Az E eC eN (p1.2)){fu_:Nat}{r:AG×(Cd)}(e0:ND fu_ p0 p1=some r):AT J 11 [.pointer (some ⟨bk,0,none⟩),.agg #[.slice ey (p1.1).length eA,.slice eC (p1.2).length eN]] E [(bk,.cells #[.slice a1 (p0.1).length c2,iV p0.2.1,.int .u64 ((p0.2.2:Nat):Int)] 43 (0,0))] (λw E' B'=>∃(e1:Aq) (e3:Nat) (e4:Aq) (e5:Nat),w= .slice e1 (r.1).length e3/\B'= [(bk,.cells #[.slice e4 (r.2.1).length e5,iV r.2.2.1,.int .u64 ((r.2.2.2:Nat):Int)] 43 (0,0))]/\Ao Az E' e1 e3 (r.1)/\Ao rI E' e4 e5 (r.2.1)):=by
 refine Bp Tryz.func11 λQ k2 cs H g5 g6=>?_;unfold ND at e0;refine C 2 V (DG g5 λk3 k4 bv g7 g8=>?_);refine C 4 V (Cf g7 Fq De V V ?_);obtain⟨k5,ha,hb⟩:=bs e0;refine B7 (ez (g3.M bv) (g4.M bv) ha) V V (A5 Tryz.func7 V) g8 ?_;rintro _ k6 hc e6 ⟨hd,he,_,rfl,rfl,hf⟩ hg;refine C 6 V (JL.ln Tryz.underlying22 V V V ?_);obtain⟨a0,hj,hk⟩:=bs hb;refine Cc 0 (Wz (g1.M (bv.trans e6)) hj) V V (A5 Tryz.func35 V) hg V ?_;rintro _ c4 _ e7 ⟨a2,a3,hl,hm,rfl,rfl,e8,hn⟩ ho;refine C 10 V (JL.ln Tryz.underlying22 V V V ?_);obtain⟨k7,hp,hq⟩:=bs hk;refine BV hp V V V ?_;obtain⟨am,hr,hs⟩:=bs hq;refine C 2 V (Bx (λL s=>∃(bw:LH) (a8:Aq) (a9:Nat) (c5:Seg) (c6:Aq) (c7:Nat),Jn c4 H bw [[(bk,.cells #[.slice c6 (am.2.1).length c7,iV am.2.2.1,.int .u64 ((am.2.2.2:Nat):Int)] 43 (0,0))],c5] [(0,.pointer (some ⟨bk,0,none⟩)),(7,.slice a8 (am.1).length a9)] L s (OL 49 Az bw a8 a9 c5 (am.1)/\Ao rI bw c6 c7 (am.2.1))) ?_ ?_)
 .rintro _ _ ⟨bw,a8,a9,c5,c6,c7,rfl,rfl,ht,hu,hv,hw⟩;refine JL.seq (Cp 1 hv hu V λk8 ff hx hy=>?_);refine C 2 V (JL.ln Tryz.underlying26 V V V ?_);obtain⟨hz,hA,hB⟩:=bs hs;refine JS.make (pp:=Az) hA V V V V V Tryz.underlying26 Bt (DF Tryz.type49) (by decide) BR (by decide) ⟨_,_,V,V,⟨_,_,V,V,V⟩⟩ hy λhC hD hE hF=>C 6 V (JL.ln Tryz.underlying26 V V V ?_);obtain⟨ap,hG,hH⟩:=bs hB;refine Cc 0 (Wz (hw.M ff) hG) V V (A5 Tryz.func35 V) hF V ?_;rintro _ c8 _ c9 ⟨fk,fl,dd,ea,rfl,rfl,hI,hK⟩ hL;obtain⟨fm,hM,hN⟩:=bs hH;refine C 7 V (Bx (λL s=>∃(eb:LH) (bx:Aq) (bz:Nat) (ec:Seg),Jn c8 H eb [[(bk,.cells #[.slice dd (ap.2.1).length ea,iV ap.2.2.1,.int .u64 ((ap.2.2.2:Nat):Int)] 43 (0,0))],ec] [(12,.slice bx (fm).length bz)] L s (OL 49 Az eb bx bz ec (fm))) ?_ ?_)
  .rintro _ _ ⟨eb,bx,bz,ec,rfl,rfl,fo,hO,hP⟩;refine C 5 V (Cp 1 hP hO V λk9 fs hQ hR=>?_);obtain rfl:=oi hN;exact A2 Tryz.func11 V V (g6 (((((((bv.trans e6).trans e7).trans ht).trans ff).trans c9).trans fo).trans fs) V ⟨bx,bz,dd,ea,V,V,hQ,(hK.M (fo.trans fs))⟩ hR)
  .intro hS;refine JL.block (Cn hM (λL s al=>∃(bb:LH) (b0:Aq) (a4:Nat) (b1:Seg),Jn c8 H bb [[(bk,.cells #[.slice dd (ap.2.1).length ea,iV ap.2.2.1,.int .u64 ((ap.2.2.2:Nat):Int)] 43 (0,0))],b1] [(7,.slice a8 (am.1).length a9),(12,.slice b0 (al.1).length a4),(13,.slice fk (ap.1).length fl),(14,iV al.2)] L s (OL 49 Az bb b0 a4 b1 (al.1))) ⟨c8,(some ⟨hC,0,none⟩),(hz).length,hD,V,V,(Le.refl _),hL,(hE.M c9)⟩ ?_);rintro _ _ al ⟨bb,b0,a4,b1,rfl,rfl,b2,fv,fw⟩ hT ⟨la,ed⟩ hU;have fN:=ed;unfold M7 at fN;refine C 5 V (JL.ln Tryz.underlying26 V V V ?_);refine C 2 V (A1 fN (λhV hW=>?_) (λhV hX=>?_))
   .obtain⟨lb,ld,hY⟩:=bs hW;obtain⟨lf,h0,h1⟩:=bs hY;refine C 3 V ?_;obtain⟨b3,f145,h2,b4⟩:=WL.of fw h0;obtain⟨rfl,rfl⟩:=h2;refine FO [10] [b3] [] mixed V (AO 0 V V ?_);refine AO 1 V V (AO 2 V V ?_);obtain⟨be,h3,h4⟩:=bs h1;obtain⟨h5,h6,_,rfl,h7,h8⟩:=Ao.WY (P:=Tryz.prog) (hI.M b2) h3;refine JB.val (v:= .pointer (some ⟨h5,h6,none⟩)) 3 true V (by decide+kernel) V V V (λρ h s' a5=>h8 Tryz.underlying22 AH (h _ _ V) (h _ _ V)) (Hf (v:=iV be) 4 V (by decide+kernel) V V V (λρ h s' a5=>Yl.load Ba (h _ _ V) (At.GC (j:=0) h7 a5 V)) ?_);refine AO 5 V V (AO 6 V V ?_);obtain⟨O,h9,ia⟩:=bs h4;obtain⟨ih,ii,_,⟨_,_,rfl,rfl,⟨_,_,rfl,rfl,rfl⟩⟩,io,i0⟩:=Ao.WY (P:=Tryz.prog) (hx.M (c9.trans b2)) h9;refine JB.val (v:= .pointer (some ⟨ih,ii,none⟩)) 7 true V (by decide+kernel) V V V (λρ h s' a5=>i0 Tryz.underlying26 Bt (h _ _ V) (h _ _ V)) (Hf (v:= .agg #[iV O.1,iV O.2.1,iV O.2.2]) 8 V (by decide+kernel) V V V (λρ h s' a5=>IN (vs:= [iV O.1,iV O.2.1,iV O.2.2]) DX Bt (h _ _ V) (At.RS io a5)) ?_);obtain⟨lg,ee,i1⟩:=bs ia;obtain⟨_,⟨_,_,rfl,rfl,⟨_,_,rfl,rfl,rfl⟩⟩,lh⟩:=WL.at b4 ee;refine JB.ix 9 b4.2 ee Tryz.underlying26 Bt ?_;have ef:=WL.put (x':=O) (ws':= [iV O.1,iV O.2.1,iV O.2.2]) b4 b4.2 ee ⟨_,_,V,V,⟨_,_,V,V,V⟩⟩;refine JB.sx 10 1 fv Bt trivial ef.2 λi3=>?_;refine JB.fin (by decide+kernel) ?_;have i4:=(ef.1).1;have i5:((al.1.set (Int.toNat be) O)).length=(al.1).length:=(ef.1).2;refine EH (L':= [(7,.slice a8 (am.1).length a9),(12,.slice (some ⟨b3,0,none⟩) ((al.1.set (Int.toNat be) O)).length a4),(13,.slice fk (ap.1).length fl),(14,iV al.2)]) ⟨V,by rw [i5];rfl,V,V,trivial⟩ ?_;obtain⟨i6,i7,i8⟩:=bs i1;refine C 3 V (Bv i7 V V V ?_);refine C 2 V ?_;obtain rfl:=oi i8;exact AF (hU _ _ ((al.1.set (Int.toNat be) O),i6) ⟨bb,(some ⟨b3,0,none⟩),a4,[(b3,.cells (A9 f145 (Int.toNat (be)*3) [iV O.1,iV O.2.1,iV O.2.2]) 49 (0,0))],V,V,b2,i3,i4⟩ ed) V
   .refine JL.exit V ?_;obtain rfl:=oi hX;obtain rfl:=hT _ ed;exact AF (hS _ _ ⟨bb,b0,a4,b1,V,V,b2,fv,fw⟩) V
 .intro i9;refine JL.block (Cn hr (λL s K=>∃(a6:LH) (b5:Aq) (b6:Nat) (Z:Aq) (ac:Nat) (eg:Seg) (aq:Aq) (av:Nat) (bi:Seg),Jn c4 H a6 [[(bk,.cells #[.slice b5 (K.1).length b6,iV K.2.1,.int .u64 ((K.2.2.1:Nat):Int)] 43 (0,0))],eg,bi] [(0,.pointer (some ⟨bk,0,none⟩)),(5,.slice Z (K.2.2.2.1).length ac),(6,.slice a2 (a0.1).length a3),(7,.slice aq (K.2.2.2.2.1).length av),(8,iV K.2.2.2.2.2)] L s (Ao rI a6 b5 b6 (K.1)/\OL 3 rI a6 Z ac eg (K.2.2.2.1)/\OL 49 Az a6 aq av bi (K.2.2.2.2.1))) ⟨c4,hl,hm,hd,he,hc,none,0,[],V,V,(Le.refl _),ho,hn,(hf.M e7),OL.nil⟩ ?_);rintro _ _ K ⟨a6,b5,b6,Z,ac,eg,aq,av,bi,rfl,rfl,ca,gc,ge,ej,cc⟩ jg ⟨li,ek⟩ jj;have gg:=ek;unfold M9 at gg;refine C 6 V (A1 gg (λjp jt=>?_) (λjp jy=>?_))
  .refine C 4 V (Fl 12 λaw=>?_);refine A7 aw V [0,1] V ?_;obtain⟨az,jO,jP⟩:=bs jt;refine Fo 2 (e8.M ca) jO aw Tryz.underlying22 AH ?_;rintro jQ jR _ rfl jS;refine Eu 3 aw 0 jS Ba V V V V (A7 aw V [4,5,6] V ?_);obtain⟨gh,jT,jU⟩:=bs jP;refine AQ 7 aw V V (λρ h s' a5=>El (h _ _ V) (h _ _ V) jT) ?_;obtain⟨ag,jV,jW⟩:=bs jU;refine Om (i:=8) (vs:= [.pointer (some ⟨bk,0,none⟩),iV gh]) 0 (λ_ h=>by cases h) (KJ ge jV) (by decide+kernel) V V V Km V gc V ?_;rintro _ bn _ ay ⟨el,em,rfl,rfl,jX⟩ eo;obtain⟨U,jY,jZ⟩:=bs jW;refine Fo 9 (e8.M (ca.trans ay)) jY aw Tryz.underlying22 AH ?_;rintro j0 j1 _ rfl j2;refine Eu 10 aw 0 j2 Ba V V V V (Dj 11 aw V V ?_);refine CZ [12] ?_;obtain⟨a7,j3,j4⟩:=bs jZ;refine C 6 V (J2 1 (ej.M ay) j3 V V V V V V Tryz.underlying22 AH ?_);rintro j5 j6 lj _ j7 rfl j8 ll lm lq lr;refine An (v:=iV a7) V (λρ h=>Yl.load Ba (h _ _ V) (B5 (j:=1) eo j7 (j8 0 _ V))) ?_;obtain⟨gt,j9,kb⟩:=bs j4;refine C 8 V (J2 1 (ej.M ay) j9 V V V V V V Tryz.underlying22 AH ?_);rintro kc ke ls _ kf rfl kg lu lw lx lz;refine An (v:=iV gt) V (λρ h=>Yl.load Ba (h _ _ V) (B5 (j:=1) eo kf (kg 0 _ V))) ?_;obtain⟨Y,kh,ki⟩:=bs kb;refine C 1 V (Bv kh V V V ?_);obtain⟨lA,kj,kl⟩:=bs ki;refine J2 1 (ej.M ay) kj V V V V V V Tryz.underlying22 AH ?_;rintro ce bo ep _ km rfl lB kn ko lC lD;refine JS.store (v:=iV Y) (off:=bo) 1 V V V eo V V AH (by simp [Value.cells,C5]) km (by have:=kn;simp only [Rp.n,rK,rN,rB,rP,rL] at this;show _+1<=_;omega) λer=>?_;have kp:=ko (Y) [iV Y] V;have ci:(K.2.2.2.1.set (Int.toNat U) Y).length=(K.2.2.2.1).length:=List.length_set;refine EH (L':= [(0,.pointer (some ⟨bk,0,none⟩)),(5,.slice Z ((K.2.2.2.1.set (Int.toNat U) Y)).length ac),(6,.slice a2 (a0.1).length a3),(7,.slice aq (K.2.2.2.2.1).length av),(8,iV K.2.2.2.2.2),(24,iV K.2.2.2.2.2),(25,.bool (decide (0<K.2.2.2.2.2))),(28,.slice a2 (a0.1).length a3),(29,iV K.2.2.2.2.2),(30,.pointer (some ⟨jQ,jR,none⟩)),(31,iV az),(32,.slice a2 (a0.1).length a3),(33,.pointer (some ⟨bk,0,none⟩)),(34,iV K.2.2.2.2.2),(35,iV gh),(36,iV ag.1),(37,.pointer (some ⟨j0,j1,none⟩)),(38,iV U),(9,iV az),(10,iV U),(39,.slice Z ((K.2.2.2.1.set (Int.toNat U) Y)).length ac),(40,iV az),(41,.pointer (some ⟨j5,j6,none⟩)),(42,iV a7),(11,iV a7),(43,.slice Z ((K.2.2.2.1.set (Int.toNat U) Y)).length ac),(44,iV U),(45,.slice Z ((K.2.2.2.1.set (Int.toNat U) Y)).length ac),(46,iV U),(47,.pointer (some ⟨kc,ke,none⟩)),(48,iV gt),(49,iV a7),(50,iV Y),(51,.pointer (some ⟨ce,bo,none⟩))]) ⟨V,by rw [ci];rfl,V,V,V,V,V,V,V,V,V,V,V,V,V,V,V,V,V,V,by rw [ci];rfl,V,V,V,V,by rw [ci];rfl,V,by rw [ci];rfl,V,V,V,V,V,V,trivial⟩ ?_;obtain⟨eu,kq,kr⟩:=bs kl;refine C 6 V (Bx (λL s=>∃(co:LH) (cp:Aq) (ct:Nat) (cw:Seg),Jn bn H co [[(bk,.cells #[.slice el (ag.2.1).length em,iV ag.2.2.1,.int .u64 ((ag.2.2.2:Nat):Int)] 43 (0,0))],[(ce,.cells (A9 ep bo [iV Y]) 3 (0,0))],cw] [(0,.pointer (some ⟨bk,0,none⟩)),(5,.slice Z ((K.2.2.2.1.set (Int.toNat U) Y)).length ac),(6,.slice a2 (a0.1).length a3),(7,.slice cp (eu).length ct),(8,iV K.2.2.2.2.2)] L s (OL 49 Az co cp ct cw (eu))) ?_ ?_)
   .rintro _ _ ⟨co,cp,ct,cw,rfl,rfl,ew,ks,kt⟩;obtain⟨ku,kv,kx⟩:=bs kr;refine C 3 V (BV kv V V V ?_);refine C 2 V ?_;obtain rfl:=oi kx;exact AF (jj _ _ (ag.2.1,ag.2.2.1,ag.2.2.2,(K.2.2.2.1.set (Int.toNat U) Y),eu,ku) ⟨co,el,em,Z,ac,[(ce,.cells (A9 ep bo [iV Y]) 3 (0,0))],cp,ct,cw,V,V,((ca.trans ay).trans ew),ks,(jX.M ew),(kp.M ew),kt⟩ ek) V
   .intro gE;refine A1 kq (λky kz=>?_) (λky kA=>?_)
    .refine C 5 V (An (v:= .agg #[iV U,iV az,iV a7]) V (λρ h=>C4 [(0,1),(1,1),(2,1)] h BR Tryz.underlying49 ⟨V,AX Tryz.type3,V,AX Tryz.type3,V,AX Tryz.type3,trivial⟩ V V) ?_);obtain⟨lE,kB,kC⟩:=bs kz;refine JS.app (pp:=Az) (v:= .agg #[iV U,iV az,iV a7]) (a:=aq) (c:=av) 2 kB V V V V (λ_=>V) V (λ_=>V) V V V Tryz.underlying26 Tryz.underlying26 Tryz.underlying26 Bt (DF Tryz.type49) BR V (by decide) (by decide) (by decide) (by decide) (cc.M ay) ⟨_,_,V,V,⟨_,_,V,V,V⟩⟩ er V λlF kD kF kG kI kJ=>C 2 V ?_;obtain rfl:=oi kC;exact AF (gE _ _ ⟨bn,kD,kF,kG,V,V,(Le.refl _),kJ,kI⟩) V
    .obtain⟨gO,kK,kL⟩:=bs kA;refine C 5 V (Bx (λL s=>∃(cy:LH) (c0:Aq) (c1:Nat) (c3:Seg),Jn bn H cy [[(bk,.cells #[.slice el (ag.2.1).length em,iV ag.2.2.1,.int .u64 ((ag.2.2.2:Nat):Int)] 43 (0,0))],[(ce,.cells (A9 ep bo [iV Y]) 3 (0,0))],c3] [(0,.pointer (some ⟨bk,0,none⟩)),(5,.slice Z ((K.2.2.2.1.set (Int.toNat U) Y)).length ac),(6,.slice a2 (a0.1).length a3),(7,.slice c0 (gO).length c1),(8,iV K.2.2.2.2.2)] L s (OL 49 Az cy c0 c1 c3 (gO))) ?_ ?_)
     .rintro _ _ ⟨cy,c0,c1,c3,rfl,rfl,kM,kN,kO⟩;obtain rfl:=oi kL;exact AF (gE _ _ ⟨cy,c0,c1,c3,V,V,kM,kN,kO⟩) V
     .intro g0;refine A1 kK (λkP kQ=>?_) (λkP kR=>?_)
      .obtain⟨ex,kS,kT⟩:=bs kQ;refine C 5 V (An (v:=iV ex) V (λρ h=>HC (h _ _ V) kS) ?_);refine An (v:= .agg #[iV az,iV U,iV ex]) V (λρ h=>C4 [(0,1),(1,1),(2,1)] h BR Tryz.underlying49 ⟨V,AX Tryz.type3,V,AX Tryz.type3,V,AX Tryz.type3,trivial⟩ V V) ?_;obtain⟨lG,kU,kV⟩:=bs kT;refine JS.app (pp:=Az) (v:= .agg #[iV az,iV U,iV ex]) (a:=aq) (c:=av) 2 kU V V V V (λ_=>V) V (λ_=>V) V V V Tryz.underlying26 Tryz.underlying26 Tryz.underlying26 Bt (DF Tryz.type49) BR V (by decide) (by decide) (by decide) (by decide) (cc.M ay) ⟨_,_,V,V,⟨_,_,V,V,V⟩⟩ er V λlH kW kX kY kZ k0=>C 2 V ?_;obtain rfl:=oi kV;exact AF (g0 _ _ ⟨bn,kW,kX,kY,V,V,(Le.refl _),k0,kZ⟩) V
      .refine JL.skip ?_;obtain rfl:=oi kR;exact AF (g0 _ _ ⟨bn,aq,av,bi,V,V,(Le.refl _),er,(cc.M ay)⟩) V
  .refine JL.exit V (JS.drop 1 gc V λk1=>?_);obtain rfl:=oi jy;obtain rfl:=jg _ ek;exact AF (i9 _ _ ⟨a6,aq,av,bi,b5,b6,V,V,ca,k1,cc,ge⟩) V
end Pal
namespace Pal
abbrev z5:List Int:=List.replicate 5 0
def GD(n:Nat)(d:DT):Prop:=0<=d.1/\d.1<(n:Int)/\0<=d.2.1/\d.2.1<(n:Int)/\d.1≠d.2.1/\1<=d.2.2/\d.2.2<=72
theorem eG{F n:Nat}{d:DT}(O:n<1000)(h:GD n d):f86 F d (n:Int) 72=some 0:=by
 obtain⟨U,Y,Z,ac,K,ag,al⟩:=h;show f88 F (n:Int) d 72=some 0;refine DC ?_;unfold f88;refine As.E ((n:Int) - 1) V (A6 (Lr _ _ _ _) ?_);refine A6 (b:=false) ?_ ?_
 .rw [if_neg (by simp;omega)];refine DC (As.E ((n:Int) - 1) V (A6 (Lr _ _ _ _) (Ap ?_)));simp;omega
 refine BY (by simp) (BY K ?_);exact A6 (Lr _ _ _ _) (BY (by simp;omega) (Ap V))
def eD(d:DT):Nat:=(max d.1 d.2.1 - 1).toNat+4*(min d.1 d.2.1).toNat
theorem Sl{n:Nat}{d:DT}(K:n<=5)(h:GD n d):eD d<20:=by
 obtain⟨O,U,Y,Z,_⟩:=h;unfold eD;omega
theorem Vm{F n:Nat}{d:DT}(ac:n<=5)(h:GD n d):f106 F d.1 d.2.1=some (2 ^ eD d):=by
 obtain⟨O,U,Y,Z,K,_⟩:=h;obtain⟨x,y,p⟩:=d;simp only at O U Y Z K;have key:∀a b:Fin 5,a≠b->f106 0 ((a.val:Nat):Int) ((b.val:Nat):Int)=some (2 ^ eD (((a.val:Nat):Int),((b.val:Nat):Int),0)):=by decide+kernel
 obtain⟨a,rfl⟩:∃a:Nat,x=(a:Int):=⟨x.toNat,by omega⟩;obtain⟨b,rfl⟩:∃b:Nat,y=(b:Int):=⟨y.toNat,by omega⟩;exact key ⟨a,by omega⟩ ⟨b,by omega⟩ (λe=>K (by rw [Fin.mk.injEq] at e;omega))
theorem Wr{n:Nat}{d d':DT}(Y:n<=5)(h:GD n d)(K:GD n d')(e:eD d=eD d'):(d.1=d'.1/\d.2.1=d'.2.1)∨(d.1=d'.2.1/\d.2.1=d'.1):=by
 obtain⟨Z,ac,ag,al,O,_⟩:=h;obtain⟨am,g2,ap,aq,U,_⟩:=K;unfold eD at e;rcases Int.lt_or_gt_of_ne O with k | k <;> rcases Int.lt_or_gt_of_ne U with k' | k'
 .rw [Int.max_eq_right (by omega),Int.min_eq_left (by omega),Int.max_eq_right (by omega),Int.min_eq_left (by omega)] at e;omega
 .rw [Int.max_eq_right (by omega),Int.min_eq_left (by omega),Int.max_eq_left (by omega),Int.min_eq_right (by omega)] at e;omega
 .rw [Int.max_eq_left (by omega),Int.min_eq_right (by omega),Int.max_eq_right (by omega),Int.min_eq_left (by omega)] at e;omega
 .rw [Int.max_eq_left (by omega),Int.min_eq_right (by omega),Int.max_eq_left (by omega),Int.min_eq_right (by omega)] at e;omega
def GF(l:List DT):Nat:=l.foldl (λm d=>m ||| 2 ^ eD d) 0
theorem Zd(l:List DT)(d:DT):GF (l++ [d])=GF l ||| 2 ^ eD d:=by unfold GF;rw [List.foldl_append];rfl
theorem UF(l:List DT)(k:Nat):(GF l).testBit k=true↔k∈l.map eD:=by
 have:∀(l:List DT) (m:Nat),(l.foldl (λm d=>m ||| 2 ^ eD d) m).testBit k=true↔m.testBit k=true∨k∈l.map eD:=by
  intro l
  induction l with
  | nil=>simp
  | cons d l K=>
   intro m;rw [List.foldl_cons,K,Nat.testBit_or,Nat.testBit_two_pow,List.map_cons,List.mem_cons];simp only [Bool.or_eq_true,decide_eq_true_eq];constructor
   .rintro((h | h) | h)
    .exact .inl h
    .exact .inr (.inl h.symm)
    .exact .inr (.inr h)
   .rintro(h | h | h)
    .exact .inl (.inl h)
    .exact .inl (.inr h.symm)
    .exact .inr h
 rw [GF,this];simp
theorem Vi{n:Nat}(K:n<=5){l:List DT}(h:∀d∈l,GD n d):GF l<2 ^ 20:=by
 refine Nat.lt_pow_two_of_testBit _ λi hi=>?_;rcases hb:(GF l).testBit i with _ | _
 .rfl
 .obtain⟨d,hd,e⟩:=List.mem_map.1 ((UF l i).1 hb);have:=Sl K (h d hd);omega
theorem cX{F n:Nat}{l:List DT}{d:DT}(U:n<=5)(Z:∀d∈l,GD n d)(h:GD n d):f136 F (GF l) d.1 d.2.1=some (decide (eD d∈l.map eD)):=by
 have ac:(2:Nat) ^ eD d<2 ^ 20:=Nat.pow_lt_pow_right (by decide) (Sl U h);have hm:=Vi U Z;refine DC ?_;unfold f136;refine A6 (Vm U h) ?_;refine A6 (b:=GF l&&& 2 ^ eD d) (by unfold Pv;rw [if_pos (by omega)]) (Ap ?_);have e:(GF l&&& 2 ^ eD d=0)↔¬(GF l).testBit (eD d)=true:=by
  constructor
  .intro O K;have:(GF l&&& 2 ^ eD d).testBit (eD d)=true:=by rw [Nat.testBit_and,K,Nat.testBit_two_pow];simp
   rw [O,Nat.zero_testBit] at this;cases this
  .intro O;refine Nat.eq_of_testBit_eq λi=>?_;rw [Nat.testBit_and,Nat.testBit_two_pow,Nat.zero_testBit];by_cases hi:eD d=i
   .subst hi;simp at O;rw [O];rfl
   .simp [hi]
 rw [UF] at e;apply decide_eq_decide.2;constructor
 .intro K;exact Classical.byContradiction λY=>K (by rw [e.2 Y])
 .intro K Y;exact e.1 (by omega) K
theorem dF{F n:Nat}{l:List DT}{d:DT}(K:n<=5)(O:∀d∈l,GD n d)(h:GD n d):Nz F (GF l) d.1 d.2.1=some (GF (l++ [d])):=by
 have U:(2:Nat) ^ eD d<2 ^ 20:=Nat.pow_lt_pow_right (by decide) (Sl K h);have hm:=Vi K O;refine DC ?_;unfold Nz;refine A6 (Vm K h) ?_;refine A6 (b:=GF l ||| 2 ^ eD d) (by unfold PW;rw [if_pos (by omega)]) (Ap (Zd l d).symm)
theorem BN.pay{B:Int}{w:List Int}{n:Nat}{d:DT}(h:BN B w)(U:n<=5)(g:GD n d):BN (B+144) (C7 w d):=by
 obtain⟨K,Y,O,Z,ac,ag,al⟩:=g;exact((h.add (i:=d.1) (v:=d.2.2) (V:=72) K (by omega) (by omega) (by omega)).add (i:=d.2.1) (v:= -d.2.2) (V:=72) O (by omega) (by omega) (by omega)).M (by omega)
theorem Tv{α:Type} [DecidableEq α] {x:List α}{i:Nat}(hi:i<x.length):(x.take (i+1)).Nodup↔(x.take i).Nodup/\x[i] ∉ x.take i:=by
 rw [List.take_add_one,List.getElem?_eq_getElem hi,Option.toList_some,List.nodup_append];constructor
 .rintro⟨K,_,O⟩;exact⟨K,λh=>O _ h _ (List.mem_singleton.2 V) V⟩
 .rintro⟨K,O⟩;exact⟨K,by simp,λa U b hb e=>O (by rw [List.mem_singleton] at hb;subst hb;subst e;exact U)⟩
theorem bY{F:Nat}{o:OW}{x:List DT}(am:100<F)(h:VO o)(Y:∀d∈x,GD o.1.length d)(aw:x.length<=8):
  NF F o x=some (if(x.map eD).Nodup then(if x.foldl C7 (BI o)=z5 then none else some 9) else some 4):=by
 have Z:=h.n5;refine DC ?_;unfold NF;refine BY (by omega) ?_;obtain⟨a1,ap⟩:=Mk am h;refine A6 a1 ?_;refine AI (S:=λr=>(r=Sum.inl (some 4)/\¬(x.map eD).Nodup)∨(r=Sum.inr (x.foldl C7 (BI o))/\(x.map eD).Nodup)) ?_ ?_
 .refine Dm x.length (λi s=>s=((x.take i).foldl C7 (BI o),GF (x.take i),(i:Int))/\((x.map eD).take i).Nodup/\BN (200+144*i) ((x.take i).foldl C7 (BI o))) ⟨V,.nil,ap.M (by omega)⟩ (by omega) ?_ ?_
  .rintro i _ hi ⟨rfl,K,hb⟩;unfold OR;refine BZ (by simp only;omega) (Bg (m:=i) V hi ?_);have O:=Y _ (List.getElem_mem hi);have ac:∀d∈x.take i,GD o.1.length d:=λd hd=>Y d (List.mem_of_mem_take hd);refine A6 (eG (by omega) O) (BY (by simp) ?_);refine A6 (cX Z ac O) ?_;have ag:i<(x.map eD).length:=by simpa using hi
   have al:(x.map eD)[i]=eD x[i]:=by simp
   rw [List.map_take];refine Bw (λhm=>Ap ?_) (λhm=>?_)
   .refine .inl ⟨V,λaq=>?_⟩;have:=((Tv ag).1 (aq.sublist (List.take_sublist _ _))).2;rw [al] at this;exact this (of_decide_eq_true hm)
   .refine A6 (dF Z ac O) ?_;obtain⟨ay,g2,az,a0,a2,a3,a4⟩:=O;obtain⟨av,_⟩:=Rc (F:=F) (d:=x[i]) hb (by omega) (by omega) (by omega) (by omega) (by omega) (by omega) (by omega);refine A6 av (As.E ((i+1:Nat):Int) (by simp) ?_);refine Ap ⟨?_,(Tv ag).2 ⟨K,by rw [al];simpa using hm⟩,?_⟩
    .rw [List.take_add_one,List.getElem?_eq_getElem hi,Option.toList_some,List.foldl_append];rfl
    .rw [List.take_add_one,List.getElem?_eq_getElem hi,Option.toList_some,List.foldl_append];exact(BN.pay hb Z (Y _ (List.getElem_mem hi))).M (by omega)
  .rintro _ ⟨rfl,K,hb⟩;unfold OR;refine BY (by simp only;omega) (Ap ⟨_,V,.inr ⟨?_,?_⟩⟩)
   .rw [List.take_length]
   .rwa [List.take_of_length_le (by simp)] at K
 .rintro r (⟨rfl,K⟩ | ⟨rfl,K⟩)
  .rw [if_neg K];exact Ap V
  .rw [if_pos K];simp only [Sum.elim_inr];by_cases U:x.foldl C7 (BI o)=z5
   .rw [if_pos U];exact BY (λh=>h U) (Ap V)
   .rw [if_neg U];exact BZ U (Ap V)
def cN(j:Nat)(d:DT):Int:=(if(j:Int)=d.2.1 then d.2.2 else 0)+(if(j:Int)=d.1 then -d.2.2 else 0)
theorem Q9{w:List Int}{d:DT}(h:w.length=5):(C7 w d).length=5:=by unfold C7 FV;rw [List.length_set,List.length_set];exact h
theorem Rm{w:List Int}{d:DT}{n:Nat}(h:w.length=5)(U:n<=5)(g:GD n d)(j:Nat):gN (C7 w d) j=gN w j - cN j d:=by
 obtain⟨K,Y,O,Z,_⟩:=g;unfold C7 cN;rw [IS (by unfold FV;rw [List.length_set];exact h) O (by omega),IS h K (by omega)];split <;> split <;> omega
theorem L9{n:Nat}(K:n<=5):∀(x:List DT) (w:List Int),w.length=5->(∀d∈x,GD n d)->(x.foldl C7 w).length=5/\∀j,gN (x.foldl C7 w) j=gN w j - (x.map (cN j)).sum
 | [],w,h,_=>⟨h,by simp⟩
 | d::x,w,h,O=>by
  obtain⟨U,Y⟩:=L9 K x (C7 w d) (Q9 h) (λe he=>O e (List.mem_cons_of_mem _ he))
  refine⟨U,λj=>?_⟩
  rw [List.foldl_cons,Y,Rm h K (O d List.mem_cons_self),List.map_cons,List.sum_cons];omega
theorem Sa(j:Nat):gN z5 j=0:=by
 unfold gN;rw [List.getD_eq_getElem?_getD,List.getElem?_replicate];split <;> rfl
theorem aG{l l':List Int}(h:l.Perm l'):l.sum=l'.sum:=by
 induction h with
 | nil=>rfl
 | cons _ _ K=>rw [List.sum_cons,List.sum_cons,K]
 | swap a b l=>simp only [List.sum_cons];omega
 | trans _ _ a b=>exact a.trans b
theorem Zr{n:Nat}{w:List Int}{x y:List DT}(K:n<=5)(hw:w.length=5)(O:∀d∈x,GD n d)(U:x.Perm y):x.foldl C7 w=y.foldl C7 w:=by
 obtain⟨a1,Y⟩:=L9 K x w hw O;obtain⟨Z,ac⟩:=L9 K y w hw (λd hd=>O d (U.mem_iff.2 hd));refine Ua a1 Z λj _=>?_;rw [Y,ac,aG (U.map (cN j))]
def S5(w:List Int):Int:=EB w λ_=>true
theorem eP{w:List Int}{d:DT}{n:Nat}(h:w.length=5)(U:n<=5)(g:GD n d):S5 (C7 w d)=S5 w:=by
 obtain⟨K,Y,O,Z,_⟩:=g;unfold S5 C7;rw [Oy (by unfold FV;rw [List.length_set];exact h) O (by omega),Oy h K (by omega)];simp;omega
theorem UY(A:Nat->Bool):EB z5 A=0:=by unfold EB;simp [Sa]
theorem Sk{o:OW}(h:VO o)(A:Nat->Bool): -72<=EB (BI o) A/\EB (BI o) A<=72:=by
 have O:=h.d8;have:∀l:List DT,(∀d∈l,VD o.1.length d)-> -(9*(l.length:Int))<=(l.map (s1 A)).sum/\(l.map (s1 A)).sum<=9*l.length:=by
  intro l
  induction l with
  | nil=>simp
  | cons d l K=>
   intro hd;have:=K λe he=>hd e (List.mem_cons_of_mem _ he);obtain⟨_,_,_,_,_,U,Y⟩:=hd d List.mem_cons_self;rw [List.map_cons,List.sum_cons,List.length_cons];have: -9<=s1 A d/\s1 A d<=9:=by unfold s1;split <;> split <;> omega
   omega
 have k:=this o.2 h.ds;have e:=QK A o.2 z5 h.W5 V;rw [UY] at e;show -72<=EB (o.2.foldl HN z5) A/\EB (o.2.foldl HN z5) A<=72;omega
theorem jz{o:OW}(h:VO o):S5 (BI o)=0:=by
 have:∀l:List DT,(l.map (s1 λ_=>true)).sum=0:=by
  intro l
  induction l with
  | nil=>rfl
  | cons d l K=>rw [List.map_cons,List.sum_cons,K];unfold s1;simp;omega
 unfold S5 BI;rw [QK _ _ _ h.W5 rfl,UY,this];rfl
structure PI (n:Nat) (K:List Nat) (w:List Int) (i:Nat) (m:List Int) (out:List DT):Prop where
 ml:m.length=n
 gd:∀d∈out,GD n d
 W3:∀k,i<k->k<n->gN (out.foldl C7 w) (K.getD k 0)=0
 rest:∀k,k<=i->k<n->gN m (K.getD k 0)=gN (out.foldl C7 w) (K.getD k 0)
 sub:∀A,∃B,EB (out.foldl C7 w) A=EB w B
 pl:∀d∈out,∃k j,i<k/\k<n/\j<k/\((d.1=((K.getD k 0:Nat):Int)/\d.2.1=((K.getD j 0:Nat):Int))∨(d.1=((K.getD j 0:Nat):Int)/\d.2.1=((K.getD k 0:Nat):Int)))
 nd:(out.map eD).Nodup
 ol:out.length+i+1<=n
def JC(out:List DT)(u v:Nat)(z:Int):List DT:=if 0<z then out++ [((u:Int),(v:Int),z)] else if z<0 then out++ [((v:Int),(u:Int),-z)] else out
theorem PI.step{n:Nat}{K:List Nat}{w:List Int}{i j:Nat}{m:List Int}{out:List DT}(h:PI n K w i m out)(ag:n<=5)(hw:w.length=5)(hb:∀A,-72<=EB w A/\EB w A<=72)(U:PN n K)(be:0<i)(hi:i<n)(ay:j<i):
  PI n K w (i - 1) (m.set (K.getD j 0) (gN m (K.getD j 0)+gN m (K.getD i 0))) (JC out (K.getD j 0) (K.getD i 0) (gN m (K.getD i 0))):=by
 have bi:=U.get hi;have hu:=U.get (show j<n by omega);have a6:K.getD j 0≠K.getD i 0:=λe=>by have:=U.inj (by omega) hi e;omega
 have al:=h.rest i (Nat.le_refl _) hi;have e2:=h.rest j (by omega) (by omega);obtain⟨az,bn⟩:=L9 ag out w hw h.gd;have bo: -72<=gN m (K.getD i 0)/\gN m (K.getD i 0)<=72:=by
  obtain⟨B,am⟩:=h.sub λx=>x==K.getD i 0;rw [QU (by omega)] at am;rw [al,am];exact hb B
 have O:∀d∈JC out (K.getD j 0) (K.getD i 0) (gN m (K.getD i 0)),GD n d:=by
  intro d hd;unfold JC at hd;split at hd
  .rcases List.mem_append.1 hd with hd | hd
   .exact h.gd d hd
   .rw [List.mem_singleton] at hd;subst hd;unfold GD;simp only;omega
  .split at hd
   .rcases List.mem_append.1 hd with hd | hd
    .exact h.gd d hd
    .rw [List.mem_singleton] at hd;subst hd;unfold GD;simp only;omega
   .exact h.gd d hd
 have aq:∀k,gN ((JC out (K.getD j 0) (K.getD i 0) (gN m (K.getD i 0))).foldl C7 w) k=if k=K.getD i 0 then 0 else if k=K.getD j 0 then gN (out.foldl C7 w) (K.getD j 0)+gN (out.foldl C7 w) (K.getD i 0) else gN (out.foldl C7 w) k:=by
  intro k;unfold JC at O ⊢;rw [← al];split
  .rename_i Y;rw [if_pos Y] at O;have g:=O _ (List.mem_append_right _ List.mem_cons_self);rw [List.foldl_append,List.foldl_cons,List.foldl_nil,Rm az ag g];unfold cN;simp only;by_cases k1:k=K.getD i 0
   .subst k1;rw [if_pos rfl,if_neg (by omega),if_pos rfl];omega
   .rw [if_neg (by omega),if_neg k1];by_cases Z:k=K.getD j 0
    .subst Z;rw [if_pos rfl,if_pos rfl];omega
    .rw [if_neg (by omega),if_neg Z];omega
  .split
   .rename_i av Y;rw [if_neg av,if_pos Y] at O;have g:=O _ (List.mem_append_right _ List.mem_cons_self);rw [List.foldl_append,List.foldl_cons,List.foldl_nil,Rm az ag g];unfold cN;simp only;by_cases k1:k=K.getD i 0
    .subst k1;rw [if_neg (by omega),if_pos rfl,if_pos rfl];omega
    .by_cases Z:k=K.getD j 0
     .subst Z;rw [if_pos rfl,if_neg (by omega),if_neg k1,if_pos rfl];omega
     .rw [if_neg (by omega),if_neg (by omega),if_neg k1,if_neg Z];omega
   .have Y:gN m (K.getD i 0)=0:=by omega
    by_cases k1:k=K.getD i 0
    .subst k1;rw [if_pos rfl,← al,Y]
    .rw [if_neg k1];by_cases Z:k=K.getD j 0
     .subst Z;rw [if_pos rfl,Y];omega
     .rw [if_neg Z]
 have a7:∀d:DT,GD n d->(d.1=((K.getD i 0:Nat):Int)/\d.2.1=((K.getD j 0:Nat):Int)∨d.1=((K.getD j 0:Nat):Int)/\d.2.1=((K.getD i 0:Nat):Int))->eD d ∉ out.map eD:=by
  intro d hd a0 hm;obtain⟨d',a2,e⟩:=List.mem_map.1 hm;obtain⟨k,l,a8,ap,a3,a4⟩:=h.pl d' a2;have a1:K.getD k 0≠K.getD i 0:=λe=>by have:=U.inj ap hi e;omega
  have bv:K.getD k 0≠K.getD j 0:=λe=>by have:=U.inj ap (by omega) e;omega
  have:=Wr ag (h.gd d' a2) hd e;omega
 refine⟨by rw [List.length_set];exact h.ml,O,λk a9 ac=>?_,λk a9 ac=>?_,λA=>?_,λd hd=>?_,?_,?_⟩
 .rw [aq];by_cases a5:k=i
  .subst a5;rw [if_pos rfl]
  .rw [if_neg (λe=>a5 (U.inj ac hi e)),if_neg (λe=>by have:=U.inj ac (show j<n by omega) e;omega)];exact h.W3 k (by omega) ac
 .rw [aq,if_neg (λe=>by have:=U.inj ac hi e;omega)];by_cases aw:k=j
  .subst aw;rw [if_pos rfl,← al,← e2];unfold gN;rw [List.getD_eq_getElem?_getD,List.getElem?_set_self (by rw [h.ml];exact hu)];rfl
  .rw [if_neg (λe=>aw (U.inj ac (by omega) e)),RH (λe=>aw (U.inj ac (by omega) e.symm))];exact h.rest k (by omega) ac
 .obtain⟨B,am⟩:=h.sub λx=>if x=K.getD i 0 then A (K.getD j 0) else A x
  exact⟨B,(TM (p:=K.getD i 0) (o:=K.getD j 0) (by omega) (by omega) a6 aq A).trans am⟩
 .unfold JC at hd;have old:d∈out->_:=λhd=>let ⟨k,l,a8,ap,a3,a4⟩:=h.pl d hd;(⟨k,l,by omega,ap,a3,a4⟩:∃k j,i - 1<k/\k<n/\j<k/\((d.1=((K.getD k 0:Nat):Int)/\d.2.1=((K.getD j 0:Nat):Int))∨(d.1=((K.getD j 0:Nat):Int)/\d.2.1=((K.getD k 0:Nat):Int))));split at hd
  .rcases List.mem_append.1 hd with hd | hd
   .exact old hd
   .rw [List.mem_singleton] at hd;subst hd;exact⟨i,j,by omega,hi,ay,.inr ⟨V,V⟩⟩
  .split at hd
   .rcases List.mem_append.1 hd with hd | hd
    .exact old hd
    .rw [List.mem_singleton] at hd;subst hd;exact⟨i,j,by omega,hi,ay,.inl ⟨V,V⟩⟩
   .exact old hd
 .have add:∀d:DT,GD n d->(d.1=((K.getD i 0:Nat):Int)/\d.2.1=((K.getD j 0:Nat):Int)∨d.1=((K.getD j 0:Nat):Int)/\d.2.1=((K.getD i 0:Nat):Int))->((out++ [d]).map eD).Nodup:=by
   intro d hd a0;rw [List.map_append,List.nodup_append];refine⟨h.nd,by simp,λa bb b hb e=>?_⟩;simp at hb;subst hb;subst e;exact a7 d hd a0 bb
  unfold JC at O ⊢;split
  .rename_i Y;rw [if_pos Y] at O;exact add _ (O _ (List.mem_append_right _ List.mem_cons_self)) (.inr ⟨V,V⟩)
  .split
   .rename_i av Y;rw [if_neg av,if_pos Y] at O;exact add _ (O _ (List.mem_append_right _ List.mem_cons_self)) (.inl ⟨V,V⟩)
   .exact h.nd
 .have:=h.ol;unfold JC;split
  .rw [List.length_append,List.length_singleton];omega
  .split
   .rw [List.length_append,List.length_singleton];omega
   .omega
theorem PI.fin{n:Nat}{U:List Nat}{o:OW}{m:List Int}{out:List DT}(h:PI n U (BI o) 0 m out)(Z:VO o)(am:o.1.length=n)(hw:(BI o).length=5)(ap:U.Perm (List.range n)):out.foldl C7 (BI o)=z5:=by
 have aq:n<=5:=am▸Z.n5;have a1:2<=n:=am▸Z.n2;obtain⟨ay,az⟩:=L9 aq out (BI o) hw h.gd;have a2:U.length=n:=by rw [ap.length_eq];simp
 have O:S5 (out.foldl C7 (BI o))=0:=by
  have:∀(l:List DT) (w:List Int),w.length=5->(∀d∈l,GD n d)->S5 (l.foldl C7 w)=S5 w:=by
   intro l
   induction l with
   | nil=>exact λ_ _ _=>rfl
   | cons d l ac=>exact λw hw Y=>(ac _ (Q9 hw) λe he=>Y e (List.mem_cons_of_mem _ he)).trans (eP hw aq (Y d List.mem_cons_self))
  rw [this _ _ hw h.gd,jz Z]
 have K:∀j,j<5->j≠U.getD 0 0->gN (out.foldl C7 (BI o)) j=0:=by
  intro j av ag;rcases Nat.lt_or_ge j n with aw | aw
  .obtain⟨k,a0,e⟩:=List.getElem_of_mem (ap.mem_iff.2 (List.mem_range.2 aw));have al:U.getD k 0=j:=(Ie a0).trans e;have a3:k≠0:=λe=>ag (by rw [e] at al;exact al.symm);rw [← al];exact h.W3 k (by omega) (by omega)
  .rw [az,bD Z j (by omega)];have:∀l:List DT,(∀d∈l,GD n d)->(l.map (cN j)).sum=0:=by
    intro l
    induction l with
    | nil=>exact λ_=>rfl
    | cons d l ac=>
     intro Y;obtain⟨a4,g2,a5,a6,_⟩:=Y d List.mem_cons_self;rw [List.map_cons,List.sum_cons,ac λe he=>Y e (List.mem_cons_of_mem _ he)];unfold cN;rw [if_neg (by omega),if_neg (by omega)];rfl
   rw [this out h.gd];rfl
 refine Ua ay V λj av=>?_;rw [Sa];by_cases ag:j=U.getD 0 0
 .unfold S5 EB at O;simp only [if_true] at O;obtain rfl | rfl | rfl | rfl | rfl:j=0∨j=1∨j=2∨j=3∨j=4:=by omega
  .rw [K 1 (by omega) (by omega),K 2 (by omega) (by omega),K 3 (by omega) (by omega),K 4 (by omega) (by omega)] at O;omega
  .rw [K 0 (by omega) (by omega),K 2 (by omega) (by omega),K 3 (by omega) (by omega),K 4 (by omega) (by omega)] at O;omega
  .rw [K 1 (by omega) (by omega),K 0 (by omega) (by omega),K 3 (by omega) (by omega),K 4 (by omega) (by omega)] at O;omega
  .rw [K 1 (by omega) (by omega),K 2 (by omega) (by omega),K 0 (by omega) (by omega),K 4 (by omega) (by omega)] at O;omega
  .rw [K 1 (by omega) (by omega),K 2 (by omega) (by omega),K 3 (by omega) (by omega),K 0 (by omega) (by omega)] at O;omega
 .exact K j av ag
theorem dv(F:Nat)(o:OW):NI F o=f55 F o:=by
 have e:Rl F o=Nl F o:=by funext s;rfl
 unfold f55 NI;rw [e]
structure RP (o:OW) (x:List DT):Prop where
 gd:∀d∈x,GD o.1.length d
 nd:(x.map eD).Nodup
 z:x.foldl C7 (BI o)=z5
 len:x.length+1<=o.1.length
theorem RP.perm{o:OW}{x y:List DT}(h:RP o x)(K:x.Perm y)(O:VO o)(hw:(BI o).length=5):RP o y:=
 ⟨λd hd=>h.gd d (K.mem_iff.2 hd),(K.map eD).nodup_iff.1 h.nd,(Zr O.n5 hw h.gd K).symm.trans h.z,by rw [← K.length_eq];exact h.len⟩
theorem Sd{l:List Int}{j:Nat}(h:j<l.length):ix l (j:Int)=some (gN l j):=by
 refine IW (m:=j) V ?_;rw [List.getElem?_eq_getElem h,KF h]
theorem Zm{F k:Nat}{o:OW}{b aw:Hq}{K:List Nat}(ay:100<F)(h:VO o)(hb:BG k b)(az:k<2000)(U:PN o.1.length K)(al:K.Perm (List.range o.1.length)):
  As (Pal.iter (M9 F (K.map (λi:Nat=>(i:Int)),aw)) F (b.1,b.2.1,b.2.2,(BI o).take o.1.length,[],((o.1.length - 1:Nat):Int))) (λr=>RP o r.1/\BG (k+5) r.2):=by
 obtain⟨_,Y⟩:=Mk ay h;have a0:=h.n5;have a7:=h.n2;refine Dm (o.1.length - 1) (λt s=>∃i,i=o.1.length - 1 - t/\s.2.2.2.2.2=(i:Int)/\BG (k+t) (s.1,s.2.1,s.2.2.1)/\PI o.1.length K (BI o) i s.2.2.2.1 s.2.2.2.2.1) ⟨_,V,by simp,hb,?_⟩ (by omega) ?_ ?_
 .refine⟨by rw [List.length_take,Y.1];omega,λd hd=>absurd hd List.not_mem_nil,λk a1 am=>by omega,λk a1 am=>?_,λA=>⟨A,V⟩,λd hd=>absurd hd List.not_mem_nil,.nil,by simp;omega⟩;have az:=U.get am;rw [List.foldl_nil,KF (by rw [List.length_take,Y.1];omega),KF (by rw [Y.1];omega),List.getElem_take]
 .rintro t ⟨l,z,a2,m,out,c⟩ a8 ⟨i,hi,Z,ac,O⟩;simp only at Z ac O;subst Z;have a3:0<i:=by omega
  have ag:i<o.1.length:=by omega
  unfold M9;refine BZ (by simp only;omega) ?_;simp only;have a9:K.length=o.1.length:=by rw [al.length_eq];simp
  have ap:∀q,q<o.1.length->ix (K.map λi:Nat=>(i:Int)) (q:Int)=some ((K.getD q 0:Nat):Int):=λq aq=>by
   refine IW (m:=q) V ?_;rw [List.getElem?_map,List.getElem?_eq_getElem (by omega),Option.map_some,Ie (by omega)]
  refine A6 (ap i ag) (As.E ((i:Int) - 1) V ?_);refine AI (KB ac (by omega) (by omega)) ?_;rintro⟨j,bb⟩ ⟨a4,a5,g2⟩;simp only at a4 a5 g2 ⊢;obtain⟨j,rfl⟩:∃q:Nat,j=(q:Int):=⟨j.toNat,by omega⟩;have a6:j<i:=by omega
  refine A6 (ap j (by omega)) ?_;have be:=U.get ag;have hu:=U.get (show j<o.1.length by omega);have bi:=O.ml;have bd:∀q,q<=i-> -72<=gN m (K.getD q 0)/\gN m (K.getD q 0)<=72:=λq aq=>by
   obtain⟨B,av⟩:=O.sub λx=>x==K.getD q 0;have bn:=U.get (show q<o.1.length by omega);rw [QU (by omega)] at av;rw [O.rest q aq (by omega),av];exact Sk h B
  have bo:=bd i (Nat.le_refl _);have bv:=bd j (by omega);refine A6 (Sd (by omega)) ?_;refine A6 (Sd (by omega)) ?_;refine As.E _ V ?_;refine A6 (Sd (by omega)) ?_;have bw:=O.ol;refine A6 (b:=JC out (K.getD j 0) (K.getD i 0) (gN m (K.getD i 0))) ?_ ?_
  .unfold JC;split
   .exact DC (Hz (by omega) (Ap V))
   .split
    .exact DC (A6 (DC (As.E _ V (Hz (by omega) (Ap V)))) (Ap V))
    .rfl
  refine As.E ((i - 1:Nat):Int) (by omega) (Ap ⟨i - 1,by omega,V,g2,?_⟩);simp only [Int.toNat_natCast];exact O.step a0 Y.1 (Sk h) U a3 ag a6
 .rintro⟨l,z,a2,m,out,c⟩ ⟨i,hi,Z,ac,O⟩;simp only at Z ac O;subst Z;obtain rfl:i=0:=by omega
  unfold M9;refine BY (by simp) (Ap ⟨_,V,⟨O.gd,O.nd,O.fin h V Y.1 al,by have:=O.ol;omega⟩,ac.M (by omega)⟩)
theorem ZB{F:Nat}{out:List DT}{K:List Nat}{b ap:Hq}(av:100<F)(aw:out.length<=5)(ag:PN out.length K)(al:K.Perm (List.range out.length)):
  As (Pal.iter (M7 F (out,b) (K.map (λi:Nat=>(i:Int)),ap)) F (List.replicate out.length (0,0,0),0)) (λr=>out.Perm r):=by
 have ay:K.length=out.length:=by rw [al.length_eq];simp
 refine Dm out.length (λt s=>s.2=(t:Int)/\s.1.length=out.length/\∀q,q<t->s.1[K.getD q 0]? =out[q]?) ⟨V,by simp,λq O=>by omega⟩ (by omega) ?_ ?_
 .rintro t ⟨l,c⟩ Z ⟨U,ac,Y⟩;simp only at U ac Y;subst U;unfold M7;refine BZ (by simp only;omega) ?_;simp only;have hu:=ag.get Z;have am:ix (K.map λi:Nat=>(i:Int)) (t:Int)=some ((K.getD t 0:Nat):Int):=by
   refine IW (m:=t) V ?_;rw [List.getElem?_map,List.getElem?_eq_getElem (by omega),Option.map_some,Ie (by omega)]
  refine A6 am (Bg (m:=K.getD t 0) V (by omega) ?_);refine A6 am (Bg (m:=t) V Z ?_);refine Bg (m:=K.getD t 0) V (by omega) (As.E ((t+1:Nat):Int) (by simp) ?_);refine Ap ⟨V,by simp [ac],λq O=>?_⟩;simp only [Int.toNat_natCast];by_cases e:q=t
  .subst e;rw [List.getElem?_set_self (by omega),List.getElem?_eq_getElem Z]
  .rw [List.getElem?_set_ne (λk=>e (ag.inj Z (by omega) k).symm)];exact Y q (by omega)
 .rintro⟨l,c⟩ ⟨U,ac,Y⟩;simp only at U ac Y;subst U;unfold M7;refine BY (by simp) (Ap ⟨_,V,?_⟩);simp only;have aq:out=K.map λp=>l.getD p (0,0,0):=by
   refine List.ext_getElem? λq=>?_;rcases Nat.lt_or_ge q out.length with O | O
   .have:=ag.get O;rw [← Y q O,List.getElem?_eq_getElem (show K.getD q 0<l.length by omega),List.getElem?_map,List.getElem?_eq_getElem (show q<K.length by omega),Option.map_some,← Ie (l:=K) (d:=0) (by omega),Ie (l:=l) (by omega)]
   .rw [List.getElem?_eq_none O,List.getElem?_eq_none (by simp;omega)]
  have e2:(List.range out.length).map (λp=>l.getD p (0,0,0))=l:=by
   refine List.ext_getElem? λq=>?_;rcases Nat.lt_or_ge q out.length with O | O
   .rw [List.getElem?_map,List.getElem?_range O,Option.map_some,Ie (by omega),List.getElem?_eq_getElem (by omega)]
   .rw [List.getElem?_eq_none (by simp;omega),List.getElem?_eq_none (by omega)]
  rw [aq];refine(al.map _).trans ?_;rw [e2]
theorem dh{F k:Nat}{o:OW}{b:Hq}(K:100<F)(h:VO o)(hb:BG k b)(ay:k<900):As (ND F b o) (λr=>RP o r.1/\BG (k+20) r.2):=by
 obtain⟨_,U⟩:=Mk K h;have al:=h.n5;have az:=h.n2;have hlen:((BI o).take o.1.length).length=o.1.length:=by rw [List.length_take,U.1];omega
 unfold ND;refine A6 ((dv F o).trans (VK K h)) ?_;rw [hlen];refine AI (VQ K hb (by omega) al) ?_;rintro⟨a0,a1⟩ ⟨am,ap,Y,rfl,Z⟩;simp only at Z ⊢;have a2:am.length=o.1.length:=by rw [Y.length_eq];simp
 refine As.E ((o.1.length - 1:Nat):Int) (by simp;omega) (AI (Zm K h Z (by omega) ap Y) ?_);rintro⟨out,a3⟩ ⟨O,ac⟩;simp only at O ac ⊢;have a4:=O.len;refine A6 (b:=List.replicate out.length (0,0,0)) (by unfold Ip;rw [if_pos (by omega)];simp) (AI (VQ K ac (by omega) (by omega)) ?_);rintro⟨pl,a5⟩ ⟨a6,aq,av,rfl,ag⟩;simp only at ag ⊢;refine AI (ZB K (by omega) aq av) ?_;intro l aw;exact Ap ⟨O.perm aw h U.1,ag.M (by omega)⟩
theorem bK{F:Nat}{l:List Int}(ac:100<F)(ag:l.length<=20)(hb:∀x∈l,-1000<=x/\x<=1000):NJ F l=some l.sum:=by
 refine DC ?_;unfold NJ;refine AI (S:=λr=>r=l.sum) ?_ (λr U=>Ap U);refine Dm l.length (λi s=>s.2=(i:Int)/\s.1=(l.take i).sum/\ -1000*(i:Int)<=s.1/\s.1<=1000*i) ⟨V,V,by simp,by simp⟩ (by omega) ?_ ?_
 .rintro i ⟨s,c⟩ hi ⟨O,K,Y,Z⟩;simp only at O K Y Z;subst O;have:=hb _ (List.getElem_mem hi);unfold OZ;refine BZ (by simp only;omega) (Bg (m:=i) V hi ?_);refine Kx _ V (by simp only;omega) (by simp only;omega) (As.E ((i+1:Nat):Int) (by simp) ?_);exact Ap ⟨V,by rw [T4 hi,← K],by simp only;omega,by simp only;omega⟩
 .rintro⟨s,c⟩ ⟨O,K,_⟩;simp only at O K;subst O;unfold OZ;rw [List.take_length] at K;exact BY (by simp) (Ap ⟨_,V,K⟩)
open Go Go.Conc
variable {κ ν:Type}
variable {pk:Rp κ}{pv:Rp ν}{ka va:Bool}{E E' H:LH}
variable {P:Program}{s:St}{t tm te:TypeId}{X:Halt->St->Prop}{bk:Nat}{o:Obj}{xs:List (κ×ν)}{w:Value}{v0:ν}
section
variable [DecidableEq κ]
theorem Kt(x y:κ)(v:ν):∀xs:List (κ×ν),Bd (Cg xs x v) y=if y=x then some v else Bd xs y
 | []=>by
  unfold Cg Bd
  by_cases h:y=x
  .rw [if_pos h];simp [h]
  .rw [if_neg h];simp [h]
 | z::U=>by
  have Y:=Kt x y v U;unfold Cg;by_cases h:x=z.1
  .rw [if_pos h];by_cases K:y=x
   .rw [if_pos K];unfold Bd;simp [K]
   .rw [if_neg K];unfold Bd;rw [List.find?_cons_of_neg (by simpa using K),List.find?_cons_of_neg (by simpa using λe=>K (e.trans h.symm))]
  .rw [if_neg h];by_cases O:y=z.1
   .rw [if_neg (λe=>h (e.symm.trans O))];unfold Bd;simp [O]
   .have:Bd (z::Cg U x v) y=Bd (Cg U x v) y:=by unfold Bd;rw [List.find?_cons_of_neg (by simpa using O)]
    rw [this,Y];by_cases K:y=x
    .rw [if_pos K,if_pos K]
    .rw [if_neg K,if_neg K];unfold Bd;rw [List.find?_cons_of_neg (by simpa using O)]
open Classical in
variable {k:Value}{x:κ}
end
variable {J:Judge P}{Q:Gs_}{b:Frame}{n:Nat}{ds:Ld_}{ops:Ao_}{kk:Li_}{cs:Lf_}{L:Env}{S:List Seg}{fuel:Nat}{listed:Array Bool}
variable {u ty e:TypeId}{p:String}{af:Ae_}{g:On_}{rest:List Nat}{zv:Value}{x0:κ}{z0:ν}
section
variable [DecidableEq κ]
variable {m:Nat}
variable {d:Option Tmp}{x y z:Operand}{i:Nat}{k:Value}
end
end Pal
namespace Pal
abbrev CF:=Nat->Nat->Int
abbrev PU:=List (List (Int×Int))
def Hs(C:CF)(x y c:Nat):CF:=λa b=>C a b - (if a=x/\b=c then 1 else 0)+(if a=y/\b=c then 1 else 0)
def LS(C:CF)(x y:Nat)(v:Nat->Nat):CF:=λa b=>C a b - (if a=x then(v b:Int) else 0)+(if a=y then(v b:Int) else 0)
def wS(v:Nat->Nat):Nat:=v 1+2*v 2+3*v 3+4*v 4+5*v 5+6*v 6+7*v 7+8*v 8+9*v 9
def W9(v:Nat->Nat)(lo:Nat):Prop:=∀b,v b≠0->lo<=b/\b<=9
def I3(C:CF)(d:DT)(K:CF):Prop:=∃v,W9 v 1/\(∀b,(v b:Int)<=C d.1.toNat b)/\(wS v:Int)=d.2.2/\K=LS C d.1.toNat d.2.1.toNat v
inductive KG (x y:Nat):Nat->Nat->CF->CF->Prop
 | done {lo:Nat} {C:CF}:KG x y lo 0 C C
 | step {lo left c:Nat} {C K:CF}:lo<=c->c<=9->c<=left->0<C x c->KG x y c (left - c) (Hs C x y c) K->KG x y lo left C K
def MC(v:Nat->Nat)(c:Nat):Nat->Nat:=λb=>if b=c then v b+1 else v b
theorem cE{v:Nat->Nat}{c:Nat}(K:1<=c)(O:c<=9):wS (MC v c)=wS v+c:=by
 have:c=1∨c=2∨c=3∨c=4∨c=5∨c=6∨c=7∨c=8∨c=9:=by omega
 rcases this with rfl | rfl | rfl | rfl | rfl | rfl | rfl | rfl | rfl <;> simp [wS,MC] <;> omega
theorem gr{x y:Nat}(Z:x≠y){lo left:Nat}{C K:CF}(h:KG x y lo left C K):1<=lo->(∀b,0<=C x b)->∃v,W9 v lo/\(∀b,(v b:Int)<=C x b)/\wS v=left/\K=LS C x y v:=by
 induction h with
 | @done lo C=>
  intro _ O;exact⟨λ_=>0,λb hb=>absurd V hb,λb=>by simpa using O b,V,by funext a b;simp [LS]⟩
 | @step lo left c C K am ac ap aq _ ag=>
  intro av O;obtain⟨v,v1,v2,al,v4⟩:=ag (by omega) (λb=>by
   have:=O b
   unfold Hs
   by_cases e:b=c
   .subst e;simp [Z];omega
   .simp [e];omega)
  refine⟨MC v c,λb hb=>?_,λb=>?_,?_,?_⟩
  .unfold MC at hb;by_cases e:b=c
   .omega
   .rw [if_neg e] at hb;have:=v1 b hb;omega
  .have:=v2 b;unfold Hs at this;unfold MC;by_cases e:b=c
   .subst e;simp [Z] at this;simp;omega
   .simp [e] at this;simp [e];omega
  .rw [cE (by omega) ac,al];omega
  .rw [v4];funext a b;unfold LS Hs MC;by_cases e:b=c
   .by_cases U:a=x <;> by_cases Y:a=y <;> simp [e,U,Y] <;> omega
   .by_cases U:a=x <;> by_cases Y:a=y <;> simp [e,U,Y]
def CE:List Nat->List Nat->CF
 | l::L,o::w,a,b=>CE L w a b+if a=o/\b=l then 1 else 0
 | _,_,_,_=>0
theorem Rs:∀(L w:List Nat) (a b:Nat),0<=CE L w a b
 | [],w,a,b=>by unfold CE;exact Int.le_refl _
 | _::_,[],a,b=>by unfold CE;exact Int.le_refl _
 | l::L,o::w,a,b=>by have:=Rs L w a b;unfold CE;split <;> omega
theorem U5:∀(L w:List Nat) (a b:Nat),CE L w a b<=L.length
 | [],w,a,b=>by unfold CE;simp
 | _::_,[],a,b=>by unfold CE;omega
 | l::L,o::w,a,b=>by have:=U5 L w a b;unfold CE;rw [List.length_cons];split <;> omega
theorem U2{x y c:Nat}:∀{L w:List Nat},L.length=w.length->0<CE L w x c->∃w':List Nat,w'.length=w.length/\(∀o∈w',o∈w∨o=y)/\CE L w'=Hs (CE L w) x y c
 | [],[],_,h=>by unfold CE at h;omega
 | [],_::_,h,_=>by simp at h
 | _::_,[],h,_=>by simp at h
 | l::L,o::w,U,h=>by
  by_cases O:x=o/\c=l
  .refine⟨y::w,V,λz K=>?_,?_⟩
   .rcases List.mem_cons.1 K with rfl | K
    .exact .inr V
    .exact .inl (List.mem_cons_of_mem _ K)
   .funext a b;obtain⟨rfl,rfl⟩:=O;unfold Hs;simp only [CE];by_cases Y:a=x/\b=c <;> by_cases e2:a=y/\b=c <;> simp [Y,e2] <;> omega
  .have Z:0<CE L w x c:=by
    unfold CE at h;rw [if_neg O] at h;omega
   obtain⟨w',ac,ag,al⟩:=U2 (L:=L) (w:=w) (by simpa using U) Z;refine⟨o::w',by simp [ac],λz K=>?_,?_⟩
   .rcases List.mem_cons.1 K with rfl | K
    .exact .inl List.mem_cons_self
    .rcases ag z K with q | q
     .exact .inl (List.mem_cons_of_mem _ q)
     .exact .inr q
   .funext a b;have:=congrFun (congrFun al a) b;simp only [CE,Hs] at this ⊢;omega
theorem Ot(l o:Nat)(L w:List Nat)(a b:Nat):CE (l::L) (o::w) a b=CE L w a b+if a=o/\b=l then 1 else 0:=rfl
def Ds(C:CF)(x:Nat):Nat->Nat
 | 0=>0
 | k+1=>(C x (9 - k)).toNat+Ds C x k
theorem QT{C:CF}{x:Nat}(h:∀b,C x b=0):∀k,Ds C x k=0
 | 0=>rfl
 | k+1=>by
  show(C x (9 - k)).toNat+Ds C x k=0
  rw [h,QT h k];rfl
theorem T8(x l o:Nat)(L w:List Nat):∀k,k<=9->Ds (CE (l::L) (o::w)) x k=Ds (CE L w) x k+if x=o/\l<=9/\9<k+l then 1 else 0
 | 0,_=>by rw [if_neg (by omega)];rfl
 | k+1,O=>by
  show(CE (l::L) (o::w) x (9 - k)).toNat+Ds (CE (l::L) (o::w)) x k=(CE L w x (9 - k)).toNat+Ds (CE L w) x k+_
  have U:=Rs L w x (9 - k)
  rw [T8 x l o L w k (by omega),Ot]
  by_cases e:x=o
  .by_cases e2:9 - k=l
   .rw [if_pos ⟨e,e2⟩,if_neg (by omega),if_pos (by omega)];omega
   .rw [if_neg (λq=>e2 q.2)];by_cases K:l<=9/\9<k+l
    .rw [if_pos ⟨e,K⟩,if_pos (by omega)];omega
    .rw [if_neg (λq=>K q.2),if_neg (by omega)];omega
  .rw [if_neg (λq=>e q.1),if_neg (λq=>e q.1),if_neg (λq=>e q.1)];omega
theorem Wa(x:Nat):∀(L w:List Nat) (k:Nat),k<=9->Ds (CE L w) x k<=L.length
 | [],w,k,_=>by rw [QT (λb=>by unfold CE;rfl)];exact Nat.zero_le _
 | _::_,[],k,_=>by rw [QT (λb=>by unfold CE;rfl)];exact Nat.zero_le _
 | l::L,o::w,k,K=>by
  have:=Wa x L w k K
  rw [T8 x l o L w k K,List.length_cons]
  split <;> omega
theorem eM{C:CF}{x y c:Nat}(O:x≠y)(Y:c<=9)(Z:1<=c)(ac:0<C x c):Ds (Hs C x y c) x (10 - c)+1=Ds C x (10 - c):=by
 have lower:∀k,k<=9 - c->Ds (Hs C x y c) x k=Ds C x k:=by
  intro k
  induction k with
  | zero=>intro _;rfl
  | succ k U=>
   intro K;simp only [Ds];rw [U (by omega)];congr 1;unfold Hs;rw [if_neg (by omega),if_neg (by omega)];simp
 obtain⟨k,K⟩:∃k,10 - c=k+1:=⟨9 - c,by omega⟩;rw [K];simp only [Ds];rw [lower k (by omega),show 9 - k=c by omega];unfold Hs;rw [if_pos ⟨rfl,rfl⟩,if_neg (λq=>O q.1)];omega
structure SP (n:Nat) (L:List Nat) (p:PU):Prop where
 len:p.length=n
 keys:∀xs∈p,∀K∈xs,0<=K.1/\K.1<10
 own:∃w:List Nat,w.length=L.length/\(∀o∈w,o<n)/\A0 p=CE L w
theorem SP.nn{n:Nat}{L:List Nat}{p:PU}(h:SP n L p)(a b:Nat):0<=A0 p a b:=by obtain⟨w,_,_,e⟩:=h.own;rw [e];exact Rs _ _ _ _
theorem SP.le{n:Nat}{L:List Nat}{p:PU}(h:SP n L p)(a b:Nat):A0 p a b<=L.length:=by obtain⟨w,_,_,e⟩:=h.own;rw [e];exact U5 _ _ _ _
theorem QP{κ ν:Type} [DecidableEq κ] (x y:κ):∀xs:List (κ×ν),Bd (DL xs x) y=if y=x then none else Bd xs y
 | []=>by simp [DL,Bd]
 | z::xs=>by
  have U:=QP x y xs
  unfold DL at U ⊢
  by_cases O:x=z.1
  .rw [List.filter_cons_of_neg (by simpa using O),U]
   by_cases K:y=x
   .rw [if_pos K,if_pos K]
   .rw [if_neg K,if_neg K];have:y≠z.1:=λe=>K (e.trans O.symm);simp [Bd,this]
  .rw [List.filter_cons_of_pos (by simpa using O)];by_cases K:y=z.1
   .rw [if_neg (λe=>O (e.symm.trans K))];simp [Bd,K]
   .have Y:Bd (z::xs.filter λy=>decide (x≠y.1)) y=Bd (xs.filter λy=>decide (x≠y.1)) y:=by simp [Bd,K]
    have e2:Bd (z::xs) y=Bd xs y:=by simp [Bd,K]
    rw [Y,e2,U]
theorem Q2{κ ν:Type} [DecidableEq κ] {x:κ}{v:ν}{K:κ×ν}:∀{xs:List (κ×ν)},K∈Cg xs x v->K.1=x∨∃u,(K.1,u)∈xs
 | [],h=>by cases List.mem_singleton.1 h;exact .inl rfl
 | y::ys,h=>by
  unfold Cg at h
  split at h
  .rcases List.mem_cons.1 h with rfl | h
   .exact .inl V
   .exact .inr ⟨K.2,List.mem_cons_of_mem _ h⟩
  .rcases List.mem_cons.1 h with rfl | h
   .exact .inr ⟨K.2,List.mem_cons_self⟩
   .rcases Q2 h with h | ⟨u,h⟩
    .exact .inl h
    .exact .inr ⟨u,List.mem_cons_of_mem _ h⟩
theorem dc{F n x y c:Nat}{L:List Nat}{p:PU}(be:n<=5)(h:SP n L p)(bi:L.length<=100)(bn:x<n)(bo:y<n)(aw:x≠y)(bv:c<10)(ay:0<A0 p x c):
  ∃q,My F p (x:Int) (y:Int) (c:Int)=some q/\SP n L q/\A0 q=Hs (A0 p) x y c:=by
 have a1:=h.len;have ac:x<p.length:=by omega
 have al:y<p.length:=by omega
 have ex:p[x]=p.getD x []:=by rw [List.getD_eq_getElem?_getD,List.getElem?_eq_getElem ac];rfl
 have am:p[y]=p.getD y []:=by rw [List.getD_eq_getElem?_getD,List.getElem?_eq_getElem al];rfl
 have a2:=h.le x c;have a3:=h.le y c;have a4:=h.nn y c;unfold A0 at ay a2 a3 a4;have a5:My F p (x:Int) (y:Int) (c:Int)=some ((p.set x (if(Bd (Cg p[x] (c:Int) ((Bd p[x] (c:Int)).getD 0 - 1)) (c:Int)).getD 0=0 then DL (Cg p[x] (c:Int) ((Bd p[x] (c:Int)).getD 0 - 1)) (c:Int) else Cg p[x] (c:Int) ((Bd p[x] (c:Int)).getD 0 - 1))).set y (Cg p[y] (c:Int) ((Bd p[y] (c:Int)).getD 0+1))):=by
  refine DC ?_;unfold My;refine Bg (m:=x) V ac (Bg (m:=y) V al ?_);refine A6 (b:=List.replicate p.length (Go.Value.map none)) (by unfold Ip;rw [if_pos (by omega)];simp) (BY (by omega) ?_);refine Kx _ V (by rw [ex];omega) (by rw [ex];omega) (Kx _ V (by rw [am];omega) (by rw [am];omega) ?_);refine Ap ?_;rw [Int.toNat_natCast,Int.toNat_natCast]
 refine⟨_,a5,?_⟩;have az:A0 ((p.set x (if(Bd (Cg p[x] (c:Int) ((Bd p[x] (c:Int)).getD 0 - 1)) (c:Int)).getD 0=0 then DL (Cg p[x] (c:Int) ((Bd p[x] (c:Int)).getD 0 - 1)) (c:Int) else Cg p[x] (c:Int) ((Bd p[x] (c:Int)).getD 0 - 1))).set y (Cg p[y] (c:Int) ((Bd p[y] (c:Int)).getD 0+1)))=Hs (A0 p) x y c:=by
  funext a b;unfold A0 Hs;rw [List.getD_eq_getElem?_getD,List.getElem?_set,List.getElem?_set];by_cases ap:y=a
  .subst ap;rw [if_pos rfl,if_pos (by rw [List.length_set];omega),if_neg (λq:y=x/\b=c=>aw q.1.symm)];simp only [Option.getD_some,am];rw [Kt];by_cases K:b=c
   .subst K;simp
   .rw [if_neg (by omega),if_neg (λq=>K q.2)];simp
  .rw [if_neg ap];by_cases e2:x=a
   .subst e2;rw [if_pos rfl,if_pos (by omega),if_neg (λq:x=y/\b=c=>aw q.1)];simp only [Option.getD_some,ex];have a0:∀z:Int,Bd (Cg (p.getD x []) (c:Int) z) (c:Int)=some z:=λz=>by rw [Kt,if_pos rfl]
    rw [a0,Option.getD_some];by_cases K:b=c
    .subst K;by_cases O:(Bd (p.getD x []) (b:Int)).getD 0 - 1=0
     .rw [if_pos O,QP,if_pos rfl,if_pos ⟨trivial,rfl⟩,Option.getD_none];omega
     .rw [if_neg O,a0,if_pos ⟨trivial,rfl⟩,Option.getD_some];omega
    .have aq:¬((b:Int)=(c:Int)):=by omega
     rw [if_neg (λq:True/\b=c=>K q.2)];by_cases O:(Bd (p.getD x []) (c:Int)).getD 0 - 1=0
     .rw [if_pos O,QP,if_neg aq,Kt,if_neg aq];omega
     .rw [if_neg O,Kt,if_neg aq];omega
   .rw [if_neg e2,if_neg (λq=>e2 q.1.symm),if_neg (λq=>ap q.1.symm)];show(Bd (p[a]?.getD []) (b:Int)).getD 0=(Bd (p.getD a []) (b:Int)).getD 0 - 0+0;rw [List.getD_eq_getElem?_getD];omega
 refine⟨⟨by simp [a1],λxs U Y Z=>?_,?_⟩,az⟩
 .have av:∀(ag:List (Int×Int)) (u:Int),ag∈p->Y∈Cg ag (c:Int) u->0<=Y.1/\Y.1<10:=by
   intro ag u a6 a7;rcases Q2 a7 with q | ⟨r,q⟩
   .rw [q];omega
   .exact h.keys ag a6 (Y.1,r) q
  rcases List.mem_or_eq_of_mem_set U with U | rfl
  .rcases List.mem_or_eq_of_mem_set U with U | rfl
   .exact h.keys xs U Y Z
   .split at Z
    .exact av _ _ (List.getElem_mem ac) (List.mem_filter.1 Z).1
    .exact av _ _ (List.getElem_mem ac) Z
  .exact av _ _ (List.getElem_mem al) Z
 .obtain⟨w,w1,w2,w3⟩:=h.own;have a8:0<CE L w x c:=by rw [← w3];exact ay
  obtain⟨w',v1,v2,a9⟩:=U2 (y:=y) w1.symm a8;refine⟨w',by omega,λo bb=>?_,by rw [az,a9,w3]⟩;rcases v2 o bb with q | q
  .exact w2 o q
  .omega
theorem ZI(C:CF)(x:Nat){c:Nat}(O:c<=9):Ds C x (10 - c)=(C x c).toNat+Ds C x (10 - (c+1)):=by
 obtain⟨k,K⟩:∃k,10 - c=k+1:=⟨9 - c,by omega⟩;rw [K,show 10 - (c+1)=k by omega];show(C x (9 - k)).toNat+Ds C x k=_;rw [show 9 - k=c by omega]
structure VT (n:Nat) (d:DT):Prop where
 x0:0<=d.1
 x1:d.1<(n:Int)
 y0:0<=d.2.1
 y1:d.2.1<(n:Int)
 ne:d.1≠d.2.1
 p0:1<=d.2.2
 p1:d.2.2<=72
def FA(C:CF):List (List Int):=(List.range 5).map λa=>(List.range 10).map λb=>C a b
theorem U3{F n:Nat}{L:List Nat}{p:PU}(U:n<=5)(O:SP n L p):f187 F p=some (FA (A0 p)):=by
 have h:p.length<=5/\(p.all λxs=>xs.all λK=>decide (0<=K.1/\K.1<10))=true:=⟨by rw [O.len];exact U,List.all_eq_true.2 λxs Y=>List.all_eq_true.2 λK Z=>decide_eq_true (O.keys xs Y K Z)⟩;unfold f187;rw [if_pos h];rfl
theorem SP.out{n:Nat}{L:List Nat}{p:PU}(Y:n<=5)(O:SP n L p){a b:Nat}(h:5<=a∨10<=b):A0 p a b=0:=by
 unfold A0;rcases h with h | h
 .rw [List.getD_eq_getElem?_getD,List.getElem?_eq_none (by rw [O.len];omega)];rfl
 .have:Bd (p.getD a []) (b:Int)=none:=by
   unfold Bd;rw [Option.map_eq_none_iff,List.find?_eq_none];intro U K;rcases Nat.lt_or_ge a p.length with q | q
   .rw [List.getD_eq_getElem?_getD,List.getElem?_eq_getElem q] at K;have:=O.keys _ (List.getElem_mem q) U K;simp;omega
   .rw [List.getD_eq_getElem?_getD,List.getElem?_eq_none q] at K;cases K
  rw [this];rfl
theorem gR{n:Nat}{L:List Nat}{p q:PU}(U:n<=5)(Z:SP n L p)(ac:SP n L q)(h:FA (A0 p)=FA (A0 q)):A0 p=A0 q:=by
 funext a b;by_cases Y:5<=a∨10<=b
 .rw [Z.out U Y,ac.out U Y]
 .have K:=congrArg (λl=>l[a]?) h;simp only [FA,List.getElem?_map] at K;rw [List.getElem?_range (by omega)] at K;have O:=congrArg (λl=>l[b]?) (Option.some.inj K);simp only [List.getElem?_map] at O;rw [List.getElem?_range (by omega)] at O;exact Option.some.inj O
def NH(n:Nat):Nat->List (List Nat)
 | 0=> [[]]
 | k+1=>(List.range n).flatMap λx=>(NH n k).map (x::·)
theorem Up{n:Nat}:∀{l:List Nat},(∀x∈l,x<n)->l∈NH n l.length
 | [],_=>List.mem_singleton.2 rfl
 | x::l,h=>List.mem_flatMap.2 ⟨x,List.mem_range.2 (h x List.mem_cons_self),List.mem_map.2 ⟨l,Up λy K=>h y (List.mem_cons_of_mem _ K),rfl⟩⟩
theorem Uf(n:Nat):∀k,(NH n k).length=n ^ k
 | 0=>rfl
 | k+1=>by
  unfold NH
  rw [List.length_flatMap]
  simp only [List.length_map,Uf n k]
  rw [List.map_const',List.sum_replicate_nat,List.length_range,Nat.pow_succ,Nat.mul_comm]
theorem Ty{α:Type} [DecidableEq α]:∀{l m:List α},l.Nodup->(∀x∈l,x∈m)->l.length<=m.length
 | [],m,_,_=>Nat.zero_le _
 | x::l,m,h,K=>by
  obtain⟨Y,Z⟩:=List.nodup_cons.1 h
  have O:=K x List.mem_cons_self
  have:=Ty (l:=l) (m:=m.erase x) Z λy U=>(List.mem_erase_of_ne (λe=>by subst e;exact Y U)).2 (K y (List.mem_cons_of_mem _ U))
  rw [List.length_erase_of_mem O] at this
  have:=List.length_pos_of_mem O
  rw [List.length_cons];omega
theorem jI{n:Nat}{L:List Nat}{l:List PU}(K:n<=5)(O:L.length<=15)(U:∀q∈l,SP n L q)(hd:(l.map λq=>FA (A0 q)).Nodup):l.length<=5 ^ 15:=by
 have:=Ty (m:=(NH n L.length).map λw=>FA (CE L w)) hd λx Y=>by
  obtain⟨q,Z,rfl⟩:=List.mem_map.1 Y;obtain⟨w,w1,w2,w3⟩:=(U q Z).own;refine List.mem_map.2 ⟨w,?_,by rw [w3]⟩;have:=Up w2
  rwa [w1] at this
 rw [List.length_map,List.length_map,Uf] at this;refine Nat.le_trans this (Nat.le_trans (Nat.pow_le_pow_left K _) (Nat.pow_le_pow_right (by omega) O))
inductive NN (P:List DT):Nat->CF->List Int->Prop
 | nil {dn:Nat} {C:CF}:dn=2 ^ P.length - 1->NN P dn C []
 | cons {dn i:Nat} {C K:CF} {d:DT} {O:List Int}:P[i]? =some d->dn.testBit i=false->I3 C d K->NN P (dn ||| 2 ^ i) K O->NN P dn C ((i:Int)::O)
def Ends(P:List DT)(dn:Nat)(C:CF):Prop:=∃K,NN P dn C K
theorem U1{i:Nat}(h:i<8):I9 (i:Int)=some (2 ^ i):=by
 unfold I9;rw [if_pos (by omega),Int.toNat_natCast,Nat.one_shiftLeft,Nat.mod_eq_of_lt];exact Nat.lt_of_lt_of_le (Nat.pow_lt_pow_right (by omega) h) (by decide)
theorem aX{dn i:Nat}(h:i<8):Mt dn (i:Int)=some (dn>>>i):=by unfold Mt;rw [if_pos (by omega),Int.toNat_natCast]
theorem Rw{m:Nat}(h:m<=8):2 ^ m<=256:=Nat.le_trans (Nat.pow_le_pow_right (by omega) h) (by decide)
theorem aI{dn i m:Nat}(hm:m<=8)(h:dn<2 ^ m):Mq (dn>>>i) 1=some (if dn.testBit i=true then 1 else 0):=by
 have K:dn>>>i<=dn:=by rw [Nat.shiftRight_eq_div_pow];exact Nat.div_le_self _ _
 have O:=Rw hm;unfold Mq;rw [if_pos (by omega),Nat.and_one_is_mod];congr 1;rw [Nat.testBit_eq_decide_div_mod_eq,Nat.shiftRight_eq_div_pow];have:=Nat.mod_lt (dn / 2 ^ i) (show 0<2 by omega);by_cases q:dn / 2 ^ i % 2=1
 .rw [if_pos (decide_eq_true q),q]
 .rw [if_neg (by simpa using q)];omega
theorem RA{dn i m:Nat}(hm:m<=8)(h:dn<2 ^ m)(hi:i<m):LC dn (2 ^ i)=some (dn ||| 2 ^ i)/\dn ||| 2 ^ i<2 ^ m:=by
 have O:=Rw hm;have K:2 ^ i<2 ^ m:=Nat.pow_lt_pow_right (by omega) hi;exact⟨if_pos (by omega),Nat.or_lt_two_pow h K⟩
theorem VG(dn i j:Nat):(dn ||| 2 ^ i).testBit j=(dn.testBit j || decide (i=j)):=by rw [Nat.testBit_or,Nat.testBit_two_pow]
theorem jd{dn i:Nat}(h:dn.testBit i=false):dn<dn ||| 2 ^ i:=by
 rcases Nat.lt_or_eq_of_le (show dn<=dn ||| 2 ^ i from Nat.left_le_or) with q | q
 .exact q
 .have:=VG dn i i;rw [← q,h] at this;simp at this
variable {F n:Nat}{L:List Nat}{P:List DT}
structure SX (F n:Nat) (L:List Nat) (P:List DT):Prop where
 n5:n<=5
 NM:L.length<=15
 m8:P.length<=8
 ok:∀d∈P,VT n d
 fuel:5 ^ 16<F
theorem SX.Sr(h:SX F n L P):100<F:=Nat.lt_trans (by decide) h.fuel
def W6(P:List DT)(S:CF->Prop)(dn i:Nat):Prop:=∃C d K,S C/\P[i]? =some d/\dn.testBit i=false/\I3 C d K/\Ends P (dn ||| 2 ^ i) K
def SB(l:List PU):CF->Prop:=λC=>∃p∈l,A0 p=C
def Gq(ps:List (List Int)):CF:=λa b=>(((ps.getD a []).count (b:Int):Nat):Int)
def Kc(ps:List (List Int)):List Nat:=ps.flatMap λx=>x.map Int.toNat
def LQ:Nat->List (List Int)->List Nat
 | _,[]=> []
 | i,x::xs=>List.replicate x.length i++LQ (i+1) xs
theorem Uw{K w2:List Nat}(a b:Nat):∀{O w1:List Nat},O.length=w1.length->CE (O++K) (w1++w2) a b=CE O w1 a b+CE K w2 a b
 | [],[],_=>by show CE K w2 a b=0+CE K w2 a b;omega
 | l::O,o::w1,h=>by
  rw [List.cons_append,List.cons_append,Ot,Ot,Uw a b (by simpa using h)];omega
theorem UG(i a b:Nat):∀{x:List Int},(∀c∈x,0<=c)->CE (x.map Int.toNat) (List.replicate x.length i) a b=if a=i then((x.count (b:Int):Nat):Int) else 0
 | [],_=>by show(0:Int)=_;simp
 | c::x,h=>by
  have U:=h c List.mem_cons_self
  rw [List.map_cons,List.length_cons,List.replicate_succ,Ot,UG i a b λy O=>h y (List.mem_cons_of_mem _ O),List.count_cons]
  by_cases K:a=i
  .rw [if_pos K,if_pos K]
   by_cases hb:b=c.toNat
   .rw [if_pos ⟨K,hb⟩,if_pos (by rw [beq_iff_eq];omega)];omega
   .rw [if_neg (λq=>hb q.2),if_neg (by rw [beq_iff_eq];omega)];omega
  .rw [if_neg K,if_neg K,if_neg (λq=>K q.1)];omega
theorem Vf(a b:Nat):∀(ps:List (List Int)) (i:Nat),(∀x∈ps,∀c∈x,0<=c)->CE (Kc ps) (LQ i ps) a b=if i<=a then Gq ps (a - i) b else 0
 | [],i,_=>by
  show(0:Int)=_
  split
  .unfold Gq;rw [List.getD_eq_getElem?_getD];simp
  .rfl
 | x::ps,i,h=>by
  have K:=Vf a b ps (i+1) λy O=>h y (List.mem_cons_of_mem _ O);show CE (x.map Int.toNat++Kc ps) (List.replicate x.length i++LQ (i+1) ps) a b=_;rw [Uw a b (by simp),UG i a b (h x List.mem_cons_self),K];by_cases e:a=i
  .subst e;rw [if_pos rfl,if_neg (by omega),if_pos (Nat.le_refl _),Nat.sub_self];unfold Gq;rw [List.getD_cons_zero];omega
  .rw [if_neg e];by_cases e2:i<=a
   .rw [if_pos (by omega),if_pos e2];obtain⟨k,U⟩:∃k,a - i=k+1:=⟨a - i - 1,by omega⟩;unfold Gq;rw [U,List.getD_cons_succ,show a - (i+1)=k by omega];omega
   .rw [if_neg (by omega),if_neg e2];omega
theorem Vj:∀(ps:List (List Int)) (i:Nat),(LQ i ps).length=(Kc ps).length
 | [],_=>rfl
 | x::ps,i=>by
  show(List.replicate x.length i++LQ (i+1) ps).length=(x.map Int.toNat++Kc ps).length
  rw [List.length_append,List.length_append,Vj ps (i+1),List.length_replicate,List.length_map]
theorem VY:∀(ps:List (List Int)) (i:Nat),∀o∈LQ i ps,o<i+ps.length
 | [],_,o,h=>by cases h
 | x::ps,i,o,h=>by
  rw [List.length_cons]
  rcases List.mem_append.1 h with h | h
  .have:=(List.mem_replicate.1 h).2;omega
  .have:=VY ps (i+1) o h;omega
theorem US:∀{ps:List (List Int)} {k:Nat},(∀x∈ps,x.length<=k)->(Kc ps).length<=ps.length*k
 | [],_,_=>Nat.zero_le _
 | x::ps,k,h=>by
  have:=US (ps:=ps) (k:=k) λy K=>h y (List.mem_cons_of_mem _ K)
  have O:=h x List.mem_cons_self
  show(x.map Int.toNat++Kc ps).length<=_
  rw [List.length_append,List.length_map,List.length_cons,Nat.succ_mul];omega
theorem Yk{x:List Int}{k:Nat}(K:k<x.length)(b:Int):(x.take (k+1)).count b=(x.take k).count b+if x[k]=b then 1 else 0:=by
 rw [List.take_add_one,List.getElem?_eq_getElem K,List.count_append,Option.toList_some,List.count_singleton];by_cases e:x[k]=b
 .rw [if_pos e,if_pos (by simp [e])]
 .rw [if_neg e,if_neg (by simp [e])]
theorem dw{F:Nat}{o:OW}(ay:100<F)(h:VO o):As (f120 F o) (λp=>SP o.1.length (Kc o.1) p/\A0 p=Gq o.1):=by
 have az:=h.n5;unfold f120;refine AI (S:=λp=>p.length=o.1.length/\(∀xs∈p,∀K∈xs,0<=K.1/\K.1<10)/\∀a,a<o.1.length->∀b:Nat,A0 p a b=Gq o.1 a b) ?_ ?_
 .refine Dm o.1.length (λi s=>s.2=(i:Int)/\s.1.length=i/\(∀xs∈s.1,∀K∈xs,0<=K.1/\K.1<10)/\∀a,a<i->∀b:Nat,A0 s.1 a b=Gq o.1 a b) ⟨V,V,(λxs Z=>by cases Z),(λa ap=>by omega)⟩ (by omega) ?_ ?_
  .rintro i ⟨s,z⟩ hi ⟨O,t1,t2,t3⟩;simp only at O t1 t2 t3;subst O;obtain⟨c1,c2⟩:=h.cs _ (List.getElem_mem hi);unfold OO;refine BZ (by simp only;omega) (Bg (m:=i) V hi ?_);refine AI (S:=λm=>(∀K∈m,0<=K.1/\K.1<10)/\∀b:Nat,(Bd m (b:Int)).getD 0=((o.1[i].count (b:Int):Nat):Int)) ?_ ?_
   .refine Dm o.1[i].length (λk s=>s.2=(k:Int)/\(∀K∈s.1,0<=K.1/\K.1<10)/\∀b:Nat,(Bd s.1 (b:Int)).getD 0=(((o.1[i].take k).count (b:Int):Nat):Int)) ⟨V,(λK ac=>by cases ac),(λb=>V)⟩ (by omega) ?_ ?_
    .rintro k ⟨m,z⟩ ac ⟨O,Y,U⟩;simp only at O Y U;subst O;have al:=c2 _ (List.getElem_mem ac);have aq:((o.1[i][k].toNat:Nat):Int)=o.1[i][k]:=by omega
     have ag:=U o.1[i][k].toNat;rw [aq] at ag;have hle:(o.1[i].take k).count o.1[i][k]<=k:=Nat.le_trans List.count_le_length (by rw [List.length_take];omega);unfold Pf;refine BZ (by simp only;omega) ?_;refine Bg (m:=k) V ac ?_;refine Kx _ V (by simp only [ag];omega) (by simp only [ag];omega) ?_;refine As.E ((k+1:Nat):Int) (by simp) ?_;refine Ap ⟨V,λK av=>?_,λb=>?_⟩
     .rcases Q2 av with q | ⟨r,q⟩
      .rw [q];omega
      .exact Y (K.1,r) q
     .simp only;rw [Kt,Yk ac];by_cases e:(b:Int)=o.1[i][k]
      .rw [if_pos e,if_pos e.symm,Option.getD_some,ag,e];omega
      .rw [if_neg e,if_neg (λq=>e q.symm),U b];omega
    .rintro⟨m,z⟩ ⟨O,Y,U⟩;simp only at O Y U;subst O;unfold Pf;rw [List.take_length] at U;exact BY (by simp only;omega) (Ap ⟨_,V,Y,U⟩)
   .rintro m ⟨Y,U⟩;refine Hz (by simp only;omega) (As.E ((i+1:Nat):Int) (by simp) ?_);refine Ap ⟨V,by show(s++ [m]).length=i+1;rw [List.length_append,List.length_singleton];omega,λxs aw=>?_,λa ap b=>?_⟩
    .rcases List.mem_append.1 aw with q | q
     .exact t2 xs q
     .cases List.mem_singleton.1 q;exact Y
    .simp only;rcases Nat.lt_or_ge a i with q | q
     .rw [← t3 a q b];unfold A0;rw [List.getD_eq_getElem?_getD,List.getElem?_append_left (by omega),List.getD_eq_getElem?_getD]
     .obtain rfl:a=i:=by omega
      unfold A0 Gq;rw [List.getD_eq_getElem?_getD,List.getElem?_append_right (by omega),show a - s.length=0 by omega,List.getD_eq_getElem?_getD,List.getElem?_eq_getElem hi];exact U b
  .rintro⟨s,z⟩ ⟨O,t1,t2,t3⟩;simp only at O t1 t2 t3;subst O;unfold OO;exact BY (by simp only;omega) (Ap ⟨_,V,t1,t2,t3⟩)
 .rintro p ⟨t1,t2,t3⟩;have am:A0 p=Gq o.1:=by
   funext a b;rcases Nat.lt_or_ge a o.1.length with q | q
   .exact t3 a q b
   .unfold A0 Gq;rw [List.getD_eq_getElem?_getD,List.getElem?_eq_none (by omega),List.getD_eq_getElem?_getD,List.getElem?_eq_none q];rfl
  refine Ap ⟨⟨t1,t2,LQ 0 o.1,Vj _ _,λx Z=>by have:=VY o.1 0 x Z;omega,?_⟩,am⟩;rw [am];funext a b;rw [Vf a b o.1 0 (λx Z c al=>by have:=(h.cs x Z).2 c al;omega),if_pos (Nat.zero_le _),Nat.sub_zero]
theorem VO.NM{o:OW}(h:VO o):(Kc o.1).length<=15:=by
 have O:=US (ps:=o.1) (k:=3) λx K=>(h.cs x K).1;have:=h.n5;omega
structure PO (F:Nat) (o:OW) (P:List DT):Prop where
 vo:VO o
 m8:P.length<=8
 ok:∀d∈P,VT o.1.length d
 fuel:5 ^ 16<F
theorem PO.sx{F:Nat}{o:OW}{P:List DT}(h:PO F o P):SX F o.1.length (Kc o.1) P:=⟨h.vo.n5,h.vo.NM,h.m8,h.ok,h.fuel⟩
def S0(o:OW):CF->Prop:=λC=>Gq o.1=C
def Ez(o:OW)(k:Nat):List Int:=((List.range k).filter λh:Nat=>decide ((o.1.getD h []).sum< -gN (BI o) h)).map λh:Nat=>(h:Int)
theorem Ok(o:OW)(k:Nat):Ez o (k+1)=Ez o k++(if(o.1.getD k []).sum< -gN (BI o) k then [(k:Int)] else []):=by
 unfold Ez;rw [List.range_succ,List.filter_append,List.map_append];congr 1;by_cases h:(o.1.getD k []).sum< -gN (BI o) k
 .rw [if_pos h];simp only [List.filter_cons,List.filter_nil,h,decide_true,if_true,List.map_cons,List.map_nil]
 .rw [if_neg h];simp only [List.filter_cons,List.filter_nil,h,decide_false,Bool.false_eq_true,if_false,List.map_nil]
theorem QZ(o:OW)(k:Nat):(Ez o k).length<=k:=by
 unfold Ez;rw [List.length_map];have K:=List.length_filter_le (λh:Nat=>decide ((o.1.getD h []).sum< -gN (BI o) h)) (List.range k);rw [List.length_range] at K;exact K
theorem WE{x:List Int}(h:CS x):x.length<=20/\∀c∈x,-1000<=c/\c<=1000:=⟨by have:=h.1;omega,λc K=>by have:=h.2 c K;omega⟩
theorem gx{F:Nat}{o:OW}(Z:100<F)(h:VO o):f39 F o=some (Ez o o.1.length,0):=by
 have aq:=h.n5;obtain⟨hw,hb⟩:=Mk Z h;refine DC ?_;unfold f39;refine A6 (Sj Z h) ?_;refine BY (by simp) ?_;refine A6 hw ?_;refine AI (S:=λr=>r=Ez o o.1.length) ?_ (by rintro r rfl;exact Ap rfl);refine Dm 5 (λi s=>s.2=(i:Int)/\s.1=Ez o (min i o.1.length)) ⟨V,by simp [Ez]⟩ (by omega) ?_ ?_
 .rintro i ⟨l,z⟩ hi ⟨K,O⟩;simp only at K O;subst K;subst O;have av:=QZ o (min i o.1.length);have aw:=hb.bd hi;unfold Po
  dsimp only;refine BZ (by omega) (A6 (hb.ix (by omega) (by omega)) ?_);rw [show Int.toNat (i:Int)=i by omega];refine AI (S:=λq=>(q=true/\i<o.1.length/\(o.1.getD i []).sum< -gN (BI o) i)∨(q=false/\¬(i<o.1.length/\(o.1.getD i []).sum< -gN (BI o) i))) ?_ ?_
  .refine Bw (λag=>?_) (λag=>Ap (.inr ⟨V,by omega⟩));have U:i<o.1.length:=by omega
   obtain⟨c1,c2⟩:=WE (h.cs _ (List.getElem_mem U));obtain⟨s1,s2,ay⟩:=RI (F:=F) Z c1 c2;refine Bg (m:=i) V U (A6 s1 ?_);refine As.E _ V (Ap ?_);rw [Ie U];by_cases Y:(o.1[i]).sum< -gN (BI o) i
   .exact .inl ⟨decide_eq_true Y,U,Y⟩
   .exact .inr ⟨decide_eq_false Y,λk=>Y k.2⟩
  .intro q al;refine AI (S:=λr=>r=Ez o (min (i+1) o.1.length)) ?_ ?_
   .rcases al with⟨rfl,ac,am⟩ | ⟨rfl,ac⟩
    .rw [show min (i+1) o.1.length=i+1 by omega,Ok,if_pos am,show min i o.1.length=i by omega];refine BZ V (Hz (by have:=QZ o i;omega) (Ap V))
    .refine BY (by simp) (Ap ?_);rcases Nat.lt_or_ge i o.1.length with ap | az
     .rw [show min (i+1) o.1.length=i+1 by omega,Ok,if_neg (λk=>ac ⟨ap,k⟩),show min i o.1.length=i by omega,List.append_nil]
     .rw [show min (i+1) o.1.length=min i o.1.length by omega]
   .rintro r rfl;exact As.E ((i+1:Nat):Int) (by simp) (Ap ⟨V,V⟩)
 .rintro⟨l,z⟩ ⟨K,O⟩;simp only at K O;subst K;subst O;unfold Po
  dsimp only;exact BY (by omega) (Ap ⟨_,V,by rw [show min 5 o.1.length=o.1.length by omega]⟩)
theorem fD{w:List Int}{p o:Nat}{x:PR}(hw:w.length=5)(ag:p<5)(al:o<5)(Y:o≠p)(ac:x.1+x.2 - (p:Int)=o)(j:Nat):gN (C7 w (dP p x (gN w p))) j=if j=p then 0 else if j=o then gN w o+gN w p else gN w j:=by
 have Z:∀i v,(FV w i v).length=5:=λi v=>by unfold FV;rw [List.length_set];exact hw
 unfold dP;rw [ac];unfold C7;by_cases h:0<gN w p
 .rw [if_pos h];simp only;rw [IS (Z _ _) (by omega) (by omega),IS hw (by omega) (by omega)];have O:((j:Int)=(p:Int))=(j=p):=propext ⟨by omega,by omega⟩;have U:((j:Int)=(o:Int))=(j=o):=propext ⟨by omega,by omega⟩;simp only [O,U];by_cases K:j=p
  .subst K;rw [if_neg (Ne.symm Y),if_pos rfl,if_pos rfl];omega
  .rw [if_neg K,if_neg K];by_cases e2:j=o
   .subst e2;rw [if_pos rfl,if_pos rfl];omega
   .rw [if_neg e2,if_neg e2];omega
 .rw [if_neg h];simp only;rw [IS (Z _ _) (by omega) (by omega),IS hw (by omega) (by omega)];have O:((j:Int)=(p:Int))=(j=p):=propext ⟨by omega,by omega⟩;have U:((j:Int)=(o:Int))=(j=o):=propext ⟨by omega,by omega⟩;simp only [O,U];by_cases K:j=p
  .subst K;rw [if_pos rfl,if_neg (Ne.symm Y),if_pos rfl];omega
  .rw [if_neg K,if_neg K];by_cases e2:j=o
   .subst e2;rw [if_pos rfl,if_pos rfl];omega
   .rw [if_neg e2,if_neg e2];omega
theorem Ye{α:Type}{l:List α}{i:Nat}(h:i<l.length):(l[i]::l.eraseIdx i).Perm l:=by
 rw [List.eraseIdx_eq_take_drop_succ];refine List.perm_middle.symm.trans ?_;rw [← List.drop_eq_getElem_cons h,List.take_append_drop]
def NQ(d:DT):PR:=(min d.1 d.2.1,max d.1 d.2.1)
theorem fe{n p:Nat}{x:PR}{m:Int}(O:VP n x)(K:BP p x=true):NQ (dP p x m)=x:=by
 obtain⟨v1,v2,U⟩:=O;unfold BP at K;simp at K;obtain⟨x1,x2⟩:=x;simp only at v1 v2 U K;unfold NQ dP;split <;> simp only [Prod.mk.injEq] <;> omega
theorem S7{n:Nat}:∀(k:Nat) (l:List PR) (w:List Int) (out r:List DT),l.length=k->(∀x∈l,VP n x)->Fu n k l w out=some r->(r.map NQ).Perm (out.map NQ++l)
 | 0,l,w,out,r,Z,U,h=>by
  unfold Fu at h
  split at h
  .cases h
   rw [List.length_eq_zero_iff.1 Z,List.append_nil]
  .cases h
 | k+1,l,w,out,r,Z,U,h=>by
  unfold Fu at h;obtain⟨p,ac,h⟩:=bind_some h;split at h
  .cases h
  unfold J7 at ac;obtain⟨c1,c2,c3⟩:=List.find?_range_eq_some.1 ac;have ag:l.countP (BP p)=1:=by simpa using c1
  have O:l.findIdx (BP p)<l.length:=by
   obtain⟨x,K,Y⟩:=List.countP_pos_iff.1 (show 0<l.countP (BP p) by omega);exact List.findIdx_lt_length_of_exists ⟨x,K,Y⟩
  rw [Ie O] at h;have Y:BP p l[l.findIdx (BP p)]=true:=List.findIdx_getElem;have K:=U _ (List.getElem_mem O);have:=S7 k _ _ _ r (by rw [List.length_eraseIdx_of_lt O];omega) (λx K=>U x (List.mem_of_mem_eraseIdx K)) h;refine this.trans ?_;rw [List.map_append,List.map_singleton,fe K Y,List.append_assoc];exact List.Perm.append_left _ (Ye O)
theorem QA:∀{m:Nat} {l c:List PR},c∈G0 m l->c.Sublist l
 | 0,l,c,h=>by
  rw [show G0 0 l= [[]] by cases l <;> rfl] at h
  cases List.mem_singleton.1 h
  exact List.nil_sublist _
 | m+1,[],c,h=>by cases h
 | m+1,y::ys,c,h=>by
  rcases List.mem_append.1 h with h | h
  .obtain⟨O,K,rfl⟩:=List.mem_map.1 h
   exact(QA K).cons_cons y
  .exact(QA h).cons y
theorem XA{n:Nat}(h:n<=5):(ER n).Nodup:=by
 match n,h with
 | 0,_ | 1,_ | 2,_ | 3,_ | 4,_ | 5,_=>decide
theorem Te{n:Nat}{w0:List Int}(am:n<=5)(hb:∀A,-72<=EB w0 A/\EB w0 A<=72):∀(k:Nat) (l:List PR) (w:List Int) (out r:List DT),l.length=k->(∀x∈l,VP n x)->w.length=5->(∀A,∃B,EB w A=EB w0 B)->Fu n k l w out=some r->
  ∃s,r=out++s/\s.length=k/\(∀d∈s,GD n d)/\s.foldl C7 w=z5
 | 0,l,w,out,r,ap,Y,hw,Z,h=>by
  unfold Fu at h
  split at h
  .rename_i e;cases h;exact⟨[],by simp,V,λd hd=>(by cases hd),e⟩
  .cases h
 | k+1,l,w,out,r,ap,Y,hw,Z,h=>by
  unfold Fu at h;obtain⟨p,ag,h⟩:=bind_some h;split at h
  .cases h
  rename_i a1;unfold J7 at ag;obtain⟨c1,c2,c3⟩:=List.find?_range_eq_some.1 ag;have c2:p<n:=List.mem_range.1 (by first | exact c2 | exact List.mem_range.2 c2)
  have a2:l.countP (BP p)=1:=by simpa using c1
  have ac:l.findIdx (BP p)<l.length:=by
   obtain⟨x,K,O⟩:=List.countP_pos_iff.1 (show 0<l.countP (BP p) by omega);exact List.findIdx_lt_length_of_exists ⟨x,K,O⟩
  rw [Ie ac] at h;have O:BP p l[l.findIdx (BP p)]=true:=List.findIdx_getElem;have K:=Y _ (List.getElem_mem ac);generalize l[l.findIdx (BP p)]=x at h O K;obtain⟨v1,v2,a3⟩:=K;have aq:x.1+x.2 - (p:Int)=((x.1+x.2 - (p:Int)).toNat:Nat)/\(x.1+x.2 - (p:Int)).toNat<n/\(x.1+x.2 - (p:Int)).toNat≠p:=by
   unfold BP at O;simp only [Bool.or_eq_true,decide_eq_true_eq] at O;omega
  obtain⟨av,a4,al⟩:=aq;have hm: -72<=gN w p/\gN w p<=72:=by
   obtain⟨B,U⟩:=Z λx=>x==p;rw [QU (by omega)] at U;rw [U];exact hb B
  have aw:GD n (dP p x (gN w p)):=by
   unfold dP GD;split
   .simp only;omega
   .simp only;omega
  obtain⟨s,ay,e2,az,a0⟩:=Te am hb k _ _ _ r (by rw [List.length_eraseIdx_of_lt ac];omega) (λx K=>Y x (List.mem_of_mem_eraseIdx K)) (Q9 hw) (λA=>by
   obtain⟨B,U⟩:=Z λj=>if j=p then A (x.1+x.2 - (p:Int)).toNat else A j
   exact⟨B,(TM (p:=p) (o:=(x.1+x.2 - (p:Int)).toNat) (by omega) (by omega) al (λj=>fD hw (by omega) (by omega) al av j) A).trans U⟩) h
  refine⟨dP p x (gN w p)::s,by rw [ay];simp,by simp [e2],λd hd=>?_,by rw [List.foldl_cons];exact a0⟩;rcases List.mem_cons.1 hd with rfl | hd
  .exact aw
  .exact az d hd
theorem Ti(l:List DT):(ET l).Perm l:=by
 have ins:∀(d:DT) (l:List DT),(Gr d l).Perm (d::l):=by
  intro d l
  induction l with
  | nil=>exact List.Perm.refl _
  | cons z K O=>
   unfold Gr;split
   .exact List.Perm.refl _
   .exact(O.cons z).trans (List.Perm.swap d z K)
 refine OS (P:=λl=>(ET l).Perm l) (List.Perm.refl _) (λl d h=>?_) l;rw [MT];exact(ins d _).trans ((h.cons d).trans (List.perm_append_singleton d l).symm)
theorem YC{o:OW}{m:Nat}{s:List DT}(h:VO o)(hw:(BI o).length=5)(hm:m<o.1.length)(K:s∈Ee o.1.length (BI o) (λ_=>true) m [] (ER o.1.length)):RP o s/\MD s/\s.length=m:=by
 have O:=h.n5;unfold Ee at K;obtain⟨c,Z,K⟩:=List.mem_filterMap.1 K;rw [List.nil_append] at K;unfold Ka at K;obtain⟨r,ac,rfl⟩:=Option.map_eq_some_iff.1 K;have ag:=QA Z;have aq:=(QC (x:=(0,0)) Z).1;have al:∀x∈c,VP o.1.length x:=λx av=>T7 (List.mem_filter.1 (ag.subset av)).1;have aw:c.Nodup:=((XA O).filter _).sublist ag;have am:=S7 c.length c (BI o) [] r V al ac;rw [List.map_nil,List.nil_append] at am;obtain⟨s,ap,e2,U,ay⟩:=Te O (Sk h) c.length c (BI o) [] r rfl al hw (λA=>⟨A,rfl⟩) ac;rw [List.nil_append] at ap;subst ap;have az:RP o r:=⟨U,by
  have a0:=am.nodup_iff.2 aw
  refine List.pairwise_map.2 ((List.pairwise_map.1 a0).imp_of_mem λ{a b} a1 hb a2 e=>a2 ?_)
  have:=Wr O (U a a1) (U b hb) e
  unfold NQ
  rcases this with⟨k1,Y⟩ | ⟨k1,Y⟩
  .rw [k1,Y]
  .rw [k1,Y,Int.min_comm,Int.max_comm],ay,by omega⟩
 exact⟨az.perm (Ti r).symm h hw,UA r,by rw [(Ti r).length_eq,e2,aq]⟩
theorem dJ{F n:Nat}{L:List Nat}{d:DT}(ay:n<=5)(be:L.length<=15)(hd:VT n d)(bi:100<F):∀(N left lo:Nat) (p:PU) (acc:List PU),left<N->left<=100->1<=lo->SP n L p->acc.length+2 ^ Ds (A0 p) d.1.toNat (10 - lo)<=2 ^ 20->
  As (Nm N F p (lo:Int) (left:Int) acc d) (λout=>∃new,out=acc++new/\new.length<=2 ^ Ds (A0 p) d.1.toNat (10 - lo)/\(∀q∈new,SP n L q/\KG d.1.toNat d.2.1.toNat lo left (A0 p) (A0 q))):=by
 obtain⟨x0,x1,y0,y1,bn,-,-⟩:=hd;intro N
 induction N with
 | zero=>intro left lo p acc h;omega
 | succ N az=>
  intro left lo p acc bo bv bw Z hb;have hlen:=Z.len;have a0:d.1.toNat<n:=by omega
  have a1:d.2.1.toNat<n:=by omega
  have ap:d.1.toNat≠d.2.1.toNat:=by omega
  have a2:1<=2 ^ Ds (A0 p) d.1.toNat (10 - lo):=Nat.one_le_two_pow;unfold Nm PC;refine Bw (λa3=>?_) (λa3=>?_)
  .obtain rfl:left=0:=by omega
   refine Hz (by omega) (Ap ⟨[p],V,a2,λq ag=>?_⟩);cases List.mem_singleton.1 ag;exact⟨Z,.done⟩
  .refine AI (S:=λout=>∃new,out=acc++new/\new.length<=2 ^ Ds (A0 p) d.1.toNat (10 - lo)/\(∀q∈new,SP n L q/\KG d.1.toNat d.2.1.toNat lo left (A0 p) (A0 q))) ?_ (λr a4=>Ap a4);refine Dm (min left 9+1 - lo) (λi s=>s.2=((lo+i:Nat):Int)/\∃new,s.1=acc++new/\new.length+2 ^ Ds (A0 p) d.1.toNat (10 - (lo+i))<=2 ^ Ds (A0 p) d.1.toNat (10 - lo)/\(∀q∈new,SP n L q/\KG d.1.toNat d.2.1.toNat lo left (A0 p) (A0 q)))
    ⟨rfl,[],by simp,by simp,(λq ag=>by cases ag)⟩ (by omega) ?_ ?_
   .rintro i ⟨s,z⟩ hi ⟨O,new,U,al,ac⟩;simp only at O U;subst O;subst U;have am:lo+i<=9:=by omega
    have a5:lo+i<=left:=by omega
    have bx:=ZI (A0 p) d.1.toNat am;have bz:=Z.nn d.1.toNat (lo+i);unfold OY;refine BZ (by simp only;omega) ?_;have a6:ix p d.1=some (p.getD d.1.toNat []):=IW (m:=d.1.toNat) (by omega) (by rw [List.getD_eq_getElem?_getD,List.getElem?_eq_getElem (by omega)];rfl);refine A6 a6 ?_;refine AI (S:=λs=>∃Y,s=acc++Y/\Y.length+2 ^ Ds (A0 p) d.1.toNat (10 - (lo+i+1))<=2 ^ Ds (A0 p) d.1.toNat (10 - lo)/\(∀q∈Y,SP n L q/\KG d.1.toNat d.2.1.toNat lo left (A0 p) (A0 q))) ?_ ?_
    .refine Bw (λK=>?_) (λK=>?_)
     .have K:0<A0 p d.1.toNat (lo+i):=K;refine As.E ((left - (lo+i):Nat):Int) (by simp only;omega) ?_;obtain⟨q,aq,a7,av⟩:=dc (F:=F) ay Z (by omega) a0 a1 ap (show lo+i<10 by omega) K;rw [show((d.1.toNat:Nat):Int)=d.1 by omega,show((d.2.1.toNat:Nat):Int)=d.2.1 by omega] at aq;refine A6 aq ?_;have hm:=eM ap am (by omega) K;rw [← av] at hm;have b0:2 ^ Ds (A0 p) d.1.toNat (10 - (lo+i))=2*2 ^ Ds (A0 q) d.1.toNat (10 - (lo+i)):=by
       rw [← hm,Nat.pow_succ];omega
      have hle:2 ^ Ds (A0 p) d.1.toNat (10 - (lo+i+1))<=2 ^ Ds (A0 q) d.1.toNat (10 - (lo+i)):=Nat.pow_le_pow_right (by omega) (by omega);refine AI (az (left - (lo+i)) (lo+i) q (acc++new) (by omega) (by omega) (by omega) a7 ?_) ?_
      .rw [List.length_append];omega
      .rintro r ⟨n2,rfl,b1,a8⟩;refine Ap ⟨new++n2,by rw [List.append_assoc],?_,λu hu=>?_⟩
       .rw [List.length_append];omega
       .rcases List.mem_append.1 hu with hu | hu
        .exact ac u hu
        .obtain⟨a9,aw⟩:=a8 u hu;rw [av] at aw;exact⟨a9,.step (by omega) am a5 K aw⟩
     .have K:¬0<A0 p d.1.toNat (lo+i):=K;refine Ap ⟨new,V,?_,ac⟩;rw [show Ds (A0 p) d.1.toNat (10 - (lo+i+1))=Ds (A0 p) d.1.toNat (10 - (lo+i)) by omega];exact al
    .rintro s ⟨Y,rfl,bb,e2⟩;exact As.E ((lo+(i+1):Nat):Int) (by simp only;omega) (Ap ⟨V,Y,V,bb,e2⟩)
   .rintro⟨s,z⟩ ⟨O,new,U,al,ac⟩;simp only at O U;subst O;subst U;unfold OY;refine BY (by simp only;omega) (Ap ⟨_,V,new,V,Nat.le_trans (Nat.le_add_right _ _) al,ac⟩)
theorem UQ{F n:Nat}{L:List Nat}{d:DT}{p:PU}(Y:n<=5)(O:L.length<=15)(hd:VT n d)(Z:100<F)(K:SP n L p):
  As (f186 F p d) (λl=>l.length<=2 ^ 15/\(∀q∈l,SP n L q/\I3 (A0 p) d (A0 q))):=by
 have ac:d.1.toNat≠d.2.1.toNat:=by have:=hd.ne;have:=hd.x0;have:=hd.y0;omega
 have ag:Ds (A0 p) d.1.toNat (10 - 1)<=15:=by
  obtain⟨w,_,_,e⟩:=K.own;rw [e];exact Nat.le_trans (Wa _ L w 9 (by omega)) O
 have U:2 ^ Ds (A0 p) d.1.toNat (10 - 1)<=2 ^ 15:=Nat.pow_le_pow_right (by omega) ag;have aw:=hd.p0;have ay:=hd.p1;unfold f186;refine AI (S:=λl=>l.length<=2 ^ 15/\(∀q∈l,SP n L q/\I3 (A0 p) d (A0 q))) ?_ (λr al=>Ap al);unfold Sx;have:=dJ Y O hd Z F d.2.2.toNat 1 p [] (by omega) (by omega) (by omega) K (by rw [List.length_nil,Nat.zero_add];exact Nat.le_trans U (by decide));rw [show((d.2.2.toNat:Nat):Int)=d.2.2 by omega] at this;refine As.M this ?_;rintro out ⟨new,rfl,am,ap⟩;refine⟨Nat.le_trans am U,λq aq=>?_⟩
 .obtain⟨a1,av⟩:=ap q aq;obtain⟨v,v1,v2,az,v4⟩:=gr ac av (Nat.le_refl 1) (K.nn _);exact⟨a1,v,v1,v2,by omega,v4⟩
def HU(n:Nat)(L:List Nat)(P:List DT)(sm:List ((Nat×List (List Int))×Bool)):Prop:=∀dn X,Bd sm (dn,X)=some true->∀p,SP n L p->FA (A0 p)=X->Ends P dn (A0 p)
theorem dO(Z:SX F n L P):∀(N dn:Nat) (p:PU) (sm:List ((Nat×List (List Int))×Bool)),256<N+dn->dn<2 ^ P.length->SP n L p->HU n L P sm->
  As (Nh N F p dn P sm) (λr=>(r.1=true->Ends P dn (A0 p))/\HU n L P r.2):=by
 have hm:=Z.m8;have bw:=Rw hm;have a5:=Z.Sr;intro N
 induction N with
 | zero=>intro dn p sm ag bx;omega
 | succ N a6=>
  intro dn p sm bz ay ap aq;unfold Nh Pk;have a7:I9 ((P.length:Nat):Int)=some (2 ^ P.length % 256):=by
   unfold I9;rw [if_pos (by omega),Int.toNat_natCast,Nat.one_shiftLeft]
  refine A6 a7 ?_;have b0:1<=2 ^ P.length:=Nat.one_le_two_pow;have a8:(2 ^ P.length % 256+(256 - 1)) % 256=2 ^ P.length - 1:=by omega
  rw [a8];refine Bw (λav=>Ap ⟨λ_=>⟨[],.nil (by omega)⟩,aq⟩) (λav=>?_);have av:dn≠2 ^ P.length - 1:=λe=>av (by rw [e]);refine A6 (U3 Z.n5 ap) (Bw (λag=>?_) (λag=>?_))
  .obtain⟨b,hb⟩:=Option.isSome_iff_exists.1 ag;rw [hb];exact Ap ⟨λh=>aq _ _ (by rw [hb];exact congrArg some h) p ap V,aq⟩
  .have a9:Bd sm (dn,FA (A0 p))=none:=by
    cases q:Bd sm (dn,FA (A0 p)) with
    | none=>rfl
    | some b=>rw [q] at ag;exact absurd rfl ag
   rw [a9];refine AI (S:=λr=>(r.1=true->Ends P dn (A0 p))/\HU n L P r.2) ?_ ?_
   .refine Dm P.length (λi s=>s.2.2=(i:Int)/\HU n L P s.1/\(s.2.1=true->Ends P dn (A0 p))) ⟨V,aq,(λh=>by cases h)⟩ (by omega) ?_ ?_
    .rintro i ⟨az,is,z⟩ hi ⟨K,ac,al⟩;simp only at K ac al;subst K;have hd:=Z.ok _ (List.getElem_mem hi);obtain⟨bb,be⟩:=RA hm ay hi;unfold O2;refine BZ (by simp only;omega) (AI (S:=λr=>HU n L P r.2/\(r.1=true->Ends P dn (A0 p))) ?_ ?_)
     .refine Bg (m:=i) V hi (A6 (aX (by omega)) ?_);refine A6 (aI hm ay) (AI (S:=λc=>c=(dn.testBit i || is)) ?_ ?_)
      .cases hb:dn.testBit i with
       | true=>exact BZ (by simp) (Ap rfl)
       | false=>exact BY (by simp) (Ap rfl)
      rintro c rfl;refine Bw (λU=>Ap ⟨ac,al⟩) (λU=>?_)
      .have hb:dn.testBit i=false:=by cases q:dn.testBit i;rfl;rw [q] at U;exact absurd V U
       have bi:is=false:=by cases q:is;rfl;rw [q,Bool.or_true] at U;exact absurd V U
       subst bi;refine AI (UQ (d:=P[i]) Z.n5 Z.NM hd a5 ap) ?_;rintro l ⟨l1,l2⟩;refine AI (S:=λr=>HU n L P r.2/\(r.1=true->Ends P dn (A0 p))) ?_ ?_
       .have bn:l.length<F:=Nat.lt_of_le_of_lt l1 (Nat.lt_trans (by decide) Z.fuel);have b1:(2:Nat) ^ 15=32768:=by decide
        refine Dm l.length (λk s=>s.2.2=(k:Int)/\HU n L P s.1/\(s.2.1=true->Ends P dn (A0 p))) ⟨V,ac,(λh=>by cases h)⟩ bn ?_ ?_
        .rintro k ⟨a0,a1,z⟩ a2 ⟨K,t1,t2⟩;simp only at K t1 t2;subst K;obtain⟨sq,pv⟩:=l2 _ (List.getElem_mem a2);unfold OX;refine BZ (by simp only;omega) (Bg (m:=k) V a2 ?_);refine AI (S:=λr=>HU n L P r.2/\(r.1=true->Ends P dn (A0 p))) ?_ ?_
         .refine Bw (λU=>Ap ⟨t1,(λ_=>t2 U)⟩) (λU=>?_);have U:a1=false:=Bool.eq_false_iff.2 U;refine A6 (U1 (by omega)) (A6 bb ?_);have b2:=jd hb;refine AI (a6 (dn ||| 2 ^ i) l[k] a0 (by omega) be sq t1) ?_;rintro⟨b,aw⟩ ⟨O,Y⟩;refine Ap ⟨Y,λh=>?_⟩;obtain⟨b3,bo⟩:=O h;exact⟨_,.cons (List.getElem?_eq_getElem hi) hb pv bo⟩
         .rintro⟨b,aw⟩ ⟨O,Y⟩;exact As.E ((k+1:Nat):Int) (by simp) (Ap ⟨V,O,Y⟩)
        .rintro⟨a0,a1,z⟩ ⟨K,t1,t2⟩;simp only at K t1 t2;subst K;unfold OX;exact BY (by simp only;omega) (Ap ⟨_,V,t1,t2⟩)
       .rintro⟨b,aw⟩ ⟨O,Y⟩;exact Ap ⟨O,Y⟩
     .rintro⟨b,aw⟩ ⟨O,Y⟩;exact As.E ((i+1:Nat):Int) (by simp) (Ap ⟨V,O,Y⟩)
    .rintro⟨az,is,z⟩ ⟨K,ac,al⟩;simp only at K ac al;subst K;unfold O2;refine BY (by simp only;omega) (Ap ⟨_,V,al,ac⟩)
   .rintro⟨b,az⟩ ⟨O,Y⟩;refine Ap ⟨O,λb4 X am bv a3 a4=>?_⟩;simp only at am O;rw [Kt] at am;split at am
    .rename_i e;cases e;rw [gR Z.n5 a3 ap a4];exact O (Option.some.inj am)
    .exact Y _ _ am bv a3 a4
theorem b7(U:SX F n L P){dn:Nat}(Z:dn<2 ^ P.length){l:List PU}(aq:l.length<=5 ^ 15)(ac:∀q∈l,SP n L q){sm:List ((Nat×List (List Int))×Bool)}(ag:HU n L P sm):
  As (f160 F l dn P sm) (λr=>HU n L P r.2/\r.1.length<=l.length/\(∀q∈r.1,q∈l/\Ends P dn (A0 q))):=by
 have av:(5:Nat) ^ 15=30517578125:=by decide
 have aw:(5:Nat) ^ 16=152587890625:=by decide
 have ay:=U.fuel;unfold f160;refine AI (S:=λr=>HU n L P r.2/\r.1.length<=l.length/\(∀q∈r.1,q∈l/\Ends P dn (A0 q))) ?_ (λr al=>Ap al);refine Dm l.length (λi s=>s.2.2=(i:Int)/\HU n L P s.1/\s.2.1.length<=i/\(∀q∈s.2.1,q∈l/\Ends P dn (A0 q))) ⟨V,ag,Nat.zero_le _,(λq K=>by cases K)⟩ (by omega) ?_ ?_
 .rintro i ⟨Y,out,z⟩ hi ⟨O,t1,t2,t3⟩;simp only at O t1 t2 t3;subst O;unfold Pe;refine BZ (by simp only;omega) (Bg (m:=i) V hi ?_);refine AI (dO U F dn l[i] Y (by omega) Z (ac _ (List.getElem_mem hi)) t1) ?_;rintro⟨b,az⟩ ⟨am,ap⟩;refine AI (S:=λs=>s.length<=i+1/\(∀q∈s,q∈l/\Ends P dn (A0 q))) ?_ ?_
  .refine Bw (λhb=>?_) (λhb=>Ap ⟨by simp only;omega,t3⟩)
   .refine Hz (by simp only;omega) (Ap ⟨by show(out++ [_]).length<=i+1;rw [List.length_append,List.length_singleton];omega,λq K=>?_⟩)
    .rcases List.mem_append.1 K with K | K
     .exact t3 q K
     .cases List.mem_singleton.1 K;exact⟨List.getElem_mem hi,am hb⟩
  .rintro s ⟨v1,v2⟩;exact As.E ((i+1:Nat):Int) (by simp) (Ap ⟨V,ap,v1,v2⟩)
 .rintro⟨Y,out,z⟩ ⟨O,t1,t2,t3⟩;simp only at O t1 t2 t3;subst O;unfold Pe;exact BY (by simp only;omega) (Ap ⟨_,V,t1,t2,t3⟩)
theorem cI(U:SX F n L P){d:DT}(hd:VT n d){now:List PU}(aw:now.length<=5 ^ 15)(ag:∀q∈now,SP n L q):
  As (f161 F now d) (λout=>out.length<=5 ^ 15/\(∀q∈out,SP n L q/\∃p∈now,I3 (A0 p) d (A0 q))):=by
 have ay:(5:Nat) ^ 15=30517578125:=by decide
 have az:(5:Nat) ^ 16=152587890625:=by decide
 have a0:(2:Nat) ^ 15=32768:=by decide
 have a1:=U.fuel;have Z:∀{out:List PU},(∀q∈out,SP n L q)->(out.map λq=>FA (A0 q)).Nodup->out.length<=5 ^ 15:=λa b=>jI U.n5 U.NM a b;unfold f161;refine AI (S:=λr=>r.1.length<=5 ^ 15/\(∀q∈r.1,SP n L q/\∃p∈now,I3 (A0 p) d (A0 q))) ?_ (λr al=>Ap al);refine Dm now.length (λi s=>s.2.2=(i:Int)/\(∀X,(Bd s.1 X).getD false=true↔X∈s.2.1.map λq=>FA (A0 q))/\(s.2.1.map λq=>FA (A0 q)).Nodup/\(∀q∈s.2.1,SP n L q/\∃p∈now,I3 (A0 p) d (A0 q)))
  ⟨rfl,(λX=>by simp [Bd]),List.nodup_nil,(λq K=>by cases K)⟩ (by omega) ?_ ?_
 .rintro i ⟨met,out,z⟩ hi ⟨O,t1,t2,t3⟩;simp only at O t1 t2 t3;subst O;unfold OQ;refine BZ (by simp only;omega) (Bg (m:=i) V hi ?_);refine AI (UQ U.n5 U.NM hd U.Sr (ag _ (List.getElem_mem hi))) ?_;rintro l ⟨l1,l2⟩;refine AI (S:=λs=>(∀X,(Bd s.2 X).getD false=true↔X∈s.1.map λq=>FA (A0 q))/\(s.1.map λq=>FA (A0 q)).Nodup/\(∀q∈s.1,SP n L q/\∃p∈now,I3 (A0 p) d (A0 q))) ?_ ?_
  .refine Dm l.length (λk s=>s.2.2=(k:Int)/\(∀X,(Bd s.1 X).getD false=true↔X∈s.2.1.map λq=>FA (A0 q))/\(s.2.1.map λq=>FA (A0 q)).Nodup/\(∀q∈s.2.1,SP n L q/\∃p∈now,I3 (A0 p) d (A0 q)))
    ⟨rfl,t1,t2,t3⟩ (by omega) ?_ ?_
   .rintro k ⟨met,out,z⟩ ac ⟨O,t1,t2,t3⟩;simp only at O t1 t2 t3;subst O;obtain⟨sq,pv⟩:=l2 _ (List.getElem_mem ac);have a2:=Z (λq K=>(t3 q K).1) t2;unfold O4;refine BZ (by simp only;omega) (Bg (m:=k) V ac ?_);refine A6 (U3 U.n5 sq) (AI (S:=λs=>(∀X,(Bd s.2 X).getD false=true↔X∈s.1.map λq=>FA (A0 q))/\(s.1.map λq=>FA (A0 q)).Nodup/\(∀q∈s.1,SP n L q/\∃p∈now,I3 (A0 p) d (A0 q))) ?_ ?_)
    .refine Bw (λhb=>?_) (λhb=>Ap ⟨t1,t2,t3⟩)
     .have am:FA (A0 l[k]) ∉ out.map λq=>FA (A0 q):=λh=>by
       rw [(t1 _).2 h] at hb;cases hb
      refine Hz (by simp only;omega) (Ap ⟨λX=>?_,?_,λq K=>?_⟩)
      .simp only;rw [Kt,List.map_append,List.mem_append,List.map_singleton,List.mem_singleton,← t1];by_cases e:X=FA (A0 l[k])
       .rw [if_pos e];simp [e]
       .rw [if_neg e];simp [e]
      .simp only;rw [List.map_append,List.nodup_append];refine⟨t2,by simp,λa ap b hb e=>?_⟩;cases List.mem_singleton.1 hb;subst e;exact am ap
      .rcases List.mem_append.1 K with K | K
       .exact t3 q K
       .cases List.mem_singleton.1 K;exact⟨sq,_,List.getElem_mem hi,pv⟩
    .rintro⟨aq,av⟩ ⟨v1,v2,Y⟩;exact As.E ((k+1:Nat):Int) (by simp) (Ap ⟨V,v1,v2,Y⟩)
   .rintro⟨met,out,z⟩ ⟨O,t1,t2,t3⟩;simp only at O t1 t2 t3;subst O;unfold O4;exact BY (by simp only;omega) (Ap ⟨_,V,t1,t2,t3⟩)
  .rintro⟨aq,av⟩ ⟨v1,v2,Y⟩;exact As.E ((i+1:Nat):Int) (by simp) (Ap ⟨V,v1,v2,Y⟩)
 .rintro⟨met,out,z⟩ ⟨O,t1,t2,t3⟩;simp only at O t1 t2 t3;subst O;unfold OQ;exact BY (by simp only;omega) (Ap ⟨_,V,Z (λq K=>(t3 q K).1) t2,t3⟩)
theorem eh{F n:Nat}{L:List Nat}{P:List DT}(K:SX F n L P){dn i:Nat}{d:DT}(U:dn<2 ^ P.length)(hd:P[i]? =some d)(hb:dn.testBit i=false){now:List PU}(Y:now.length<=5 ^ 15)(Z:∀q∈now,SP n L q){sm:List ((Nat×List (List Int))×Bool)}(ac:HU n L P sm)(ag:¬W6 P (SB now) dn i):
  ∃all r,f161 F now d=some all/\f160 F all (dn ||| 2 ^ i) P sm=some r/\r.1= []:=by
 have hi:i<P.length:=(List.getElem?_eq_some_iff.1 hd).1;obtain⟨all,al,a1,O⟩:=cI K (K.ok d (List.mem_of_getElem? hd)) Y Z;obtain⟨-,am⟩:=RA K.m8 U hi;obtain⟨r,ap,a0,a2,aq⟩:=b7 K am a1 (λq av=>(O q av).1) ac;refine⟨all,r,al,ap,?_⟩;cases aw:r.1 with
 | nil=>rfl
 | cons q l=>
  exfalso;obtain⟨c1,c2⟩:=aq q (by rw [aw];exact List.mem_cons_self);obtain⟨-,p,ay,az⟩:=O q c1;exact ag ⟨_,d,_,⟨p,ay,V⟩,hd,hb,az,c2⟩
theorem YB{F:Nat}{o:OW}{P:List DT}(h:PO F o P)(Z:¬Ends P 0 (Gq o.1)){j:Nat}(O:j<P.length):Jz F o P j=some []:=by
 have U:=h.sx;have hm:=h.m8;have a1:=h.fuel;have a2:(5:Nat) ^ 16=152587890625:=by decide
 have hd:P[j]? =some P[j]:=List.getElem?_eq_getElem O;have ac:¬W6 P (S0 o) 0 j:=by
  rintro⟨C,d,a3,k1,ag,al,am,a4,ap⟩;cases k1;exact Z ⟨_,.cons ag al am ap⟩
 refine DC ?_;unfold Jz;refine AI (dw U.Sr h.vo) ?_;rintro p ⟨aq,Y⟩;have av:SB [p]=S0 o:=by
  funext C;unfold SB S0;refine propext ⟨?_,λe=>⟨p,List.mem_singleton.2 V,by rw [Y];exact e⟩⟩;rintro⟨q,K,e⟩;cases List.mem_singleton.1 K;rw [← Y];exact e
 obtain⟨all,r,aw,ay,az⟩:=eh U (dn:=0) (now:= [p]) (sm:= []) (Nat.two_pow_pos _) hd (Nat.zero_testBit _) (by simp) (λq K=>by cases List.mem_singleton.1 K;exact aq) (λdn X hb=>by cases hb) (by rw [av];exact ac);obtain⟨a0,-⟩:=RA (dn:=0) hm (Nat.two_pow_pos _) O;refine AI (S:=λq=>q.1= []) ?_ (λq K=>Ap K);unfold f119;refine AI (S:=λq=>∃m,q=Sum.inl ([],m)) ?_ (λq ⟨m,e⟩=>by subst e;exact Ap rfl);refine Fi (λm s=>s=([],[p],(j:Int),[],0)) ?_ (m:=0) V (by omega);rintro _ _ rfl;unfold Ra
 dsimp only;refine Bg (m:=j) V O (A6 (U1 (by omega)) ?_);refine A6 a0 (A6 aw ?_);exact A6 ay (BZ (by rw [az];rfl) (Ap ⟨_,V⟩))
theorem ZJ{F:Nat}{o:OW}{P:List DT}(h:PO F o P)(O:¬Ends P 0 (Gq o.1)):f77 F o P=some ([],false):=by
 have hm:=h.m8;have hw:∀j,j<P.length->Jz F o P j=some []:=λj K=>YB h O K;unfold f77;rw [if_neg,if_pos]
 .rw [TR λk U=>by unfold NA;rw [hw k U];rfl]
 .exact⟨by omega,List.all_eq_true.2 λj K=>by rw [hw j (List.mem_range.1 K)];rfl⟩
 .intro Y;exact O ⟨[],.nil (by rw [Y])⟩
abbrev LL:=List (List DT)
structure SL (L l:LL):Prop where
 p:L.Perm l
 c:∀s∈L,s.length<=40/\∀d∈s,BD d
 n:L.length<=1024
theorem SL.len{L l:LL}(h:SL L l):l.length=L.length:=h.p.length_eq.symm
theorem SL.ok{L l:LL}(h:SL L l){i:Nat}(hi:i<l.length):l[i].length<=40/\∀d∈l[i],BD d:=h.c _ (h.p.mem_iff.2 (List.getElem_mem hi))
theorem SL.sw{L l:LL}(h:SL L l){i j:Nat}(hi:i<l.length)(K:j<l.length):SL L ((l.set i l[j]).set j l[i]):=⟨h.p.trans (List.set_set_perm hi K).symm,h.c,h.n⟩
theorem SL.cmp{F:Nat}{L l:LL}(Y:5000<F)(h:SL L l){i j:Nat}(hi:i<l.length)(K:j<l.length):As (f74 F l[i] l[j]) (λ_=>True):=by
 obtain⟨a1,O⟩:=h.ok hi;obtain⟨_,U⟩:=h.ok K;unfold f74;exact AI (bE (by omega) a1 O U) (λc _=>Ap trivial)
theorem nn(i:Nat):Int.toNat (i:Int)=i:=Int.toNat_natCast i
theorem Zy{F a j:Nat}{L l:LL}(U:5000<F)(h:SL L l)(K:j<L.length)(O:a<=j):As (Pal.iter (OG F (a:Int)) F ((j:Int),l)) (SL L):=by
 have Z:=h.n;refine Fi (λm s=>∃j:Nat,s.1=(j:Int)/\j=m/\j<L.length/\a<=j/\SL L s.2) ?_ (m:=j) ⟨j,V,V,K,O,h⟩ (by omega);rintro _ ⟨_,l⟩ ⟨j,rfl,rfl,K,O,h⟩;simp only at h;have ac:=h.len;unfold OG;refine AI (S:=λc=>c=true->a<j) ?_ ?_
 .refine Bw (λk=>?_) (λk=>Ap (by simp));simp only at k ⊢;refine Bg (m:=j) V (by omega) (As.E ((j - 1:Nat):Int) (by omega) ?_);exact Bg (m:=j - 1) V (by omega) (AI (h.cmp U (by omega) (by omega)) (λc _=>Ap (λ_=>by omega)))
 .intro c Y;refine Bw (λk=>?_) (λk=>Ap h);have:=Y k;refine As.E ((j - 1:Nat):Int) (by simp only;omega) (As.E ((j - 1:Nat):Int) (by simp only;omega) ?_);refine Bg (m:=j - 1) V (by simp only;omega) (Bg (m:=j) V (by simp only;omega) ?_);refine Bg (m:=j - 1) V (by rw [List.length_set];simp only;omega) (As.E ((j - 1:Nat):Int) (by simp only;omega) ?_);refine Ap ⟨j - 1,by omega,j - 1,V,V,by omega,by omega,?_⟩;simp only [nn];exact h.sw (by omega) (by omega)
theorem U6{F a b:Nat}{L l:LL}(O:5000<F)(h:SL L l)(hb:b<=L.length)(U:a<=b):As (f137 F l (a:Int) (b:Int)) (SL L):=by
 have Y:=h.n;unfold f137;refine As.E ((a+1:Nat):Int) (by simp) ?_;refine AI (S:=SL L) ?_ (λr K=>Ap K);refine Fi (λm s=>∃i:Nat,s.1=(i:Int)/\m=b+1 - i/\a<i/\SL L s.2) ?_ (m:=b - a) ⟨a+1,V,by omega,by omega,h⟩ (by omega);rintro _ ⟨_,l⟩ ⟨i,rfl,rfl,hi,h⟩;simp only at h;unfold Re;refine Bw (λk=>?_) (λk=>Ap h);simp only at k ⊢;refine AI (Zy O h (j:=i) (by omega) (by omega)) ?_;intro r K;refine As.E ((i+1:Nat):Int) (by simp) ?_;exact Ap ⟨b+1 - (i+1),by omega,i+1,V,V,by omega,K⟩
theorem Vq{F lo hi fi:Nat}{L l:LL}(O:5000<F)(h:SL L l)(hh:fi+hi<=L.length)(ac:lo<=1024):As (f176 F l (lo:Int) (hi:Int) (fi:Int)) (SL L):=by
 have ag:=h.n;unfold f176;refine AI (S:=λr=>∃l',(r=Sum.inl l'∨r=Sum.inr l')/\SL L l') ?_ (λr ⟨l',Y,U⟩=>by rcases Y with rfl | rfl <;> exact Ap U);by_cases al:hi<=lo
 .refine Fi (λm s=>s=((lo:Int),l)) ?_ (m:=0) V (by omega);rintro _ _ rfl;unfold OK;refine Kx _ V (by simp only;omega) (by simp only;omega) (Kx _ V (by simp only;omega) (by simp only;omega) ?_);exact BZ (by simp only;omega) (Ap ⟨l,.inr V,h⟩)
 refine Fi (λm s=>∃i:Nat,s.1=(i:Int)/\m=hi - i/\i<hi/\SL L s.2) ?_ (m:=hi - lo) ⟨lo,V,V,by omega,h⟩ (by omega);rintro _ ⟨_,l⟩ ⟨i,rfl,rfl,am,h⟩;simp only at h;have U:=h.len;unfold OK;refine As.E ((2*i:Nat):Int) (by simp) (As.E ((2*i+1:Nat):Int) (by simp) ?_);refine Bw (λk=>Ap ⟨l,.inr V,h⟩) (λk=>?_);refine As.E ((2*i+1+1:Nat):Int) (by simp) (AI (S:=λc=>c=true->2*i+2<hi) ?_ ?_)
 .refine Bw (λK=>?_) (λK=>Ap (by simp));refine As.E ((fi+(2*i+1):Nat):Int) (by simp) (Bg (m:=fi+(2*i+1)) V (by simp only;omega) ?_);refine As.E ((fi+(2*i+1):Nat):Int) (by simp) (As.E ((fi+(2*i+1)+1:Nat):Int) (by simp) ?_);exact Bg (m:=fi+(2*i+1)+1) V (by simp only;omega) (AI (h.cmp O (by omega) (by omega)) (λc _=>Ap (λ_=>by omega)))
 intro c Z;refine AI (S:=λz=>∃q:Nat,z=(q:Int)/\i<q/\q<hi) ?_ ?_
 .refine Bw (λK=>?_) (λK=>Ap ⟨2*i+1,V,by omega,by omega⟩);have:=Z K;exact As.E ((2*i+1+1:Nat):Int) (by simp) (Ap ⟨2*i+1+1,V,by omega,by omega⟩)
 rintro _ ⟨q,rfl,ap,aq⟩;refine As.E ((fi+i:Nat):Int) (by simp) (Bg (m:=fi+i) V (by simp only;omega) ?_);refine As.E ((fi+q:Nat):Int) (by simp) (Bg (m:=fi+q) V (by simp only;omega) ?_);refine AI (h.cmp O (by omega) (by omega)) ?_;intro z _;refine Bw (λ_=>Ap ⟨l,.inl V,h⟩) (λ_=>?_);refine As.E ((fi+i:Nat):Int) (by simp) (As.E ((fi+q:Nat):Int) (by simp) ?_);refine As.E ((fi+q:Nat):Int) (by simp) (Bg (m:=fi+q) V (by simp only;omega) ?_);refine As.E ((fi+i:Nat):Int) (by simp) (Bg (m:=fi+i) V (by simp only;omega) ?_);refine Bg (m:=fi+i) V (by simp only;omega) (Bg (m:=fi+q) V (by rw [List.length_set];simp only;omega) ?_);refine Ap ⟨hi - q,by omega,q,V,V,by omega,?_⟩;simp only [nn];exact h.sw (by omega) (by omega)
theorem quo{x k:Nat}(K:0<k)(O:x<1000000):I8 (x:Int) (k:Int)=some ((x / k:Nat):Int):=by
 unfold I8;rw [if_neg (by omega),show(x:Int).tdiv (k:Int)=((x / k:Nat):Int) from rfl];have:=Nat.div_le_self x k;generalize x / k=y at this ⊢;exact if_pos ⟨by omega,by omega⟩
theorem cg{F a b:Nat}{L l:LL}(O:5000<F)(h:SL L l)(hb:b<=L.length)(Y:a<b):As (f138 F l (a:Int) (b:Int)) (SL L):=by
 have Z:=h.n;unfold f138;refine As.E ((b - a:Nat):Int) (by omega) ?_;refine As.E ((b - a - 1:Nat):Int) (by omega) ?_;refine A6 (quo (k:=2) (by omega) (by omega)) ?_;refine AI (S:=SL L) ?_ ?_
 .refine Fi (λm s=>∃i:Nat,s.1=(i:Int) - 1/\i=m/\i<=b - a/\SL L s.2) ?_ (m:=(b - a - 1) / 2+1) ⟨(b - a - 1) / 2+1,by simp only;omega,V,by omega,h⟩ (by omega);rintro _ ⟨_,l⟩ ⟨i,rfl,rfl,hi,h⟩;simp only at h;unfold Rg;refine Bw (λk=>?_) (λk=>Ap h);simp only at k ⊢;rw [show(i:Int) - 1=((i - 1:Nat):Int) by omega];refine AI (Vq O h (lo:=i - 1) (hi:=b - a) (fi:=a) (by omega) (by omega)) ?_;intro r K;exact As.E (((i - 1:Nat):Int) - 1) V (Ap ⟨i - 1,by omega,i - 1,V,V,by omega,K⟩)
 .intro l h;refine As.E ((b - a - 1:Nat):Int) (by omega) (AI (S:=SL L) ?_ (λr K=>Ap K));refine Fi (λm s=>∃i:Nat,s.1=(i:Int) - 1/\i=m/\i<=b - a/\SL L s.2) ?_ (m:=b - a) ⟨b - a,by simp only;omega,V,by omega,h⟩ (by omega);rintro _ ⟨_,l⟩ ⟨i,rfl,rfl,hi,h⟩;simp only at h;have ac:=h.len;unfold Rr;refine Bw (λk=>?_) (λk=>Ap h);simp only at k ⊢;rw [show(i:Int) - 1=((i - 1:Nat):Int) by omega];refine As.E ((a+(i - 1):Nat):Int) (by omega) (As.E ((a+(i - 1):Nat):Int) (by omega) ?_);refine Bg (m:=a+(i - 1)) V (by omega) (Bg (m:=a) V (by omega) ?_);refine Bg (m:=a+(i - 1)) V (by rw [List.length_set];omega) ?_;simp only [nn];have U:=h.sw (i:=a) (j:=a+(i - 1)) (by omega) (by omega);refine AI (Vq O U (lo:=0) (hi:=i - 1) (fi:=a) (by omega) (by omega)) ?_;intro r K;exact As.E (((i - 1:Nat):Int) - 1) V (Ap ⟨i - 1,by omega,i - 1,V,V,by omega,K⟩)
theorem cb{F a b:Nat}{L l:LL}(O:5000<F)(h:SL L l)(hb:b<=L.length)(U:a<b):As (f141 F l (a:Int) (b:Int)) (SL L):=by
 have Y:=h.n;unfold f141;refine As.E ((b - 1:Nat):Int) (by omega) ?_;refine AI (S:=SL L) ?_ (λr K=>Ap K);refine Fi (λm s=>∃i j:Nat,s.1=(i:Int)/\s.2.1=(j:Int)/\j=m/\j<L.length/\SL L s.2.2) ?_ (m:=b - 1) ⟨a,b - 1,V,V,V,by omega,h⟩ (by omega);rintro _ ⟨_,_,l⟩ ⟨i,j,rfl,rfl,rfl,Z,h⟩;simp only at h;have ac:=h.len;unfold Rt;refine Bw (λk=>?_) (λk=>Ap h);simp only at k ⊢;refine Bg (m:=j) V (by omega) ?_;refine Bg (m:=i) V (by omega) ?_;refine As.E ((i+1:Nat):Int) (by simp) ?_;refine As.E ((j - 1:Nat):Int) (by omega) ?_;refine Ap ⟨j - 1,by omega,i+1,j - 1,V,V,V,by omega,?_⟩;simp only [nn];exact h.sw (by omega) (by omega)
theorem Q8{F i j k:Nat}{L l:LL}(K:5000<F)(h:SL L l)(hi:i<L.length)(O:j<L.length)(U:k<=100):
  As (LK F l (i:Int) (j:Int) (k:Int)) (λr=>∃u v w:Nat,r=((u:Int),(v:Int),(w:Int))/\((u=i/\v=j)∨(u=j/\v=i))/\w<=k+1):=by
 have Y:=h.len;have Z:=h.n;unfold LK;refine Bg (m:=j) V (by omega) ?_;refine Bg (m:=i) V (by omega) ?_;refine AI (h.cmp K (by omega) (by omega)) ?_;intro z _;refine Bw (λ_=>?_) (λ_=>Ap ⟨i,j,k,V,.inl ⟨V,V⟩,by omega⟩);refine As.E ((k+1:Nat):Int) (by simp) ?_;exact Ap ⟨j,i,k+1,V,.inr ⟨V,V⟩,by omega⟩
theorem Vk{F i j q k:Nat}{L l:LL}(K:5000<F)(h:SL L l)(hi:i<L.length)(O:j<L.length)(U:q<L.length)(ag:k<=90):
  As (f180 F l (i:Int) (j:Int) (q:Int) (k:Int)) (λr=>∃u w:Nat,r=((u:Int),(w:Int))/\(u=i∨u=j∨u=q)/\w<=k+3):=by
 unfold f180;refine AI (Q8 K h hi O (by omega)) ?_;rintro _ ⟨Y,v1,w1,rfl,al,k1⟩;refine AI (Q8 K h (i:=v1) (j:=q) (by omega) U (k:=w1) (by omega)) ?_;rintro _ ⟨Z,v2,w2,rfl,e2,am⟩;refine AI (Q8 K h (i:=Y) (j:=Z) (by omega) (by omega) (k:=w2) (by omega)) ?_;rintro _ ⟨ap,ac,w3,rfl,aq,av⟩;exact Ap ⟨ac,w3,V,by omega,by omega⟩
theorem Rh{F i k:Nat}{L l:LL}(K:5000<F)(h:SL L l)(U:1<=i)(hi:i+1<L.length)(O:k<=90):
  As (f179 F l (i:Int) (k:Int)) (λr=>∃u w:Nat,r=((u:Int),(w:Int))/\(u=i - 1∨u=i∨u=i+1)/\w<=k+3):=by
 have Y:=h.n;unfold f179;refine As.E ((i - 1:Nat):Int) (by omega) ?_;refine As.E ((i+1:Nat):Int) (by simp) ?_;refine AI (Vk K h (i:=i - 1) (j:=i) (q:=i+1) (by omega) (by omega) (by omega) O) ?_;rintro _ ⟨u,w,rfl,e,k1⟩;exact Ap ⟨u,w,V,e,k1⟩
theorem cK{F a b:Nat}{L l:LL}(K:5000<F)(h:SL L l)(hb:b<=L.length)(ag:a+12<b):
  As (f140 F l (a:Int) (b:Int)) (λr=>∃u:Nat,r.1=(u:Int)/\a<=u/\u<b):=by
 have al:=h.n;unfold f140;refine As.E ((b - a:Nat):Int) (by omega) ?_;refine A6 (quo (k:=4) (by omega) (by omega)) ?_;refine As.E (((b - a) / 4:Nat):Int) (by omega) ?_;refine As.E ((a+(b - a) / 4:Nat):Int) (by omega) ?_;refine A6 (quo (k:=4) (by omega) (by omega)) ?_;refine As.E (((b - a) / 4*2:Nat):Int) (by omega) ?_;refine As.E ((a+(b - a) / 4*2:Nat):Int) (by omega) ?_;refine A6 (quo (k:=4) (by omega) (by omega)) ?_;refine As.E (((b - a) / 4*3:Nat):Int) (by omega) ?_;refine As.E ((a+(b - a) / 4*3:Nat):Int) (by omega) ?_;refine AI (S:=λr=>∃u:Nat,r.1=(u:Int)/\a<=u/\u<b) ?_ ?_
 .refine BZ (by omega) (AI (S:=λr=>∃x y z w:Nat,r=((x:Int),(y:Int),(z:Int),(w:Int))/\(a<=x/\x<b)/\(a<=y/\y<b)/\(a<=z/\z<b)/\w<=20) ?_ ?_)
  .refine Bw (λk=>?_) (λk=>Ap ⟨_,_,_,0,V,⟨by omega,by omega⟩,⟨by omega,by omega⟩,⟨by omega,by omega⟩,by omega⟩);refine AI (Rh K h (i:=a+(b - a) / 4) (k:=0) (by omega) (by omega) (by omega)) ?_;rintro _ ⟨Y,w1,rfl,am,k1⟩;refine AI (Rh K h (i:=a+(b - a) / 4*2) (k:=w1) (by omega) (by omega) (by omega)) ?_;rintro _ ⟨Z,w2,rfl,e2,ap⟩;refine AI (Rh K h (i:=a+(b - a) / 4*3) (k:=w2) (by omega) (by omega) (by omega)) ?_;rintro _ ⟨ac,w3,rfl,aq,av⟩;exact Ap ⟨Y,Z,ac,w3,V,⟨by omega,by omega⟩,⟨by omega,by omega⟩,⟨by omega,by omega⟩,by omega⟩
  .rintro _ ⟨x,y,z,w,rfl,aw,ay,az,hw⟩;refine AI (Vk K h (i:=x) (j:=y) (q:=z) (k:=w) (by omega) (by omega) (by omega) (by omega)) ?_;rintro _ ⟨u,w',rfl,e,_⟩;exact Ap ⟨u,V,by omega,by omega⟩
 .rintro⟨_,w⟩ ⟨u,rfl,O,U⟩;refine Bw (λ_=>Ap ⟨u,V,O,U⟩) (λ_=>?_);exact Bw (λ_=>Ap ⟨u,V,O,U⟩) (λ_=>Ap ⟨u,V,O,U⟩)
theorem dN:((List.range 1025).all λn=>match f177 0 ((n:Nat):Int) with | some m=>decide (n<m/\(m<=2*n∨n=0)/\m<=4096) | none=>false)=true:=by decide+kernel
theorem fR(F:Nat)(x:Int):f177 F x=f177 0 x:=rfl
theorem dL{F n:Nat}(K:n<=1024)(O:0<n):∃m:Nat,f177 F (n:Int)=some m/\n<m/\m<=2*n/\m<=4096:=by
 have h:=List.all_eq_true.1 dN n (List.mem_range.2 (by omega));rw [fR];split at h
 .rename_i m e;have:=of_decide_eq_true h;exact⟨m,e,this.1,by omega,this.2.2⟩
 .cases h
theorem gi{a:Nat}(h:a<2 ^ 62):JE a=(a:Int):=TC h
theorem cB{F a b:Nat}{L l:LL}(Y:5000<F)(h:SL L l)(hb:b<=L.length)(Z:a+12<b):As (f139 F l (a:Int) (b:Int)) (SL L):=by
 have ac:=h.n;unfold f139;refine As.E ((b - a:Nat):Int) (by omega) ?_;refine AI (S:=SL L) ?_ (λr K=>Ap K);refine BZ (by omega) ?_;obtain⟨M,O,ag,al,am⟩:=dL (F:=F) (n:=b - a) (by omega) (by omega);refine A6 O ?_;refine A6 (quo (k:=4) (by omega) (by omega)) ?_;refine As.E (((b - a) / 4*2:Nat):Int) (by omega) ?_;refine As.E ((a+(b - a) / 4*2:Nat):Int) (by omega) ?_;refine As.E ((a+(b - a) / 4*2 - 1:Nat):Int) (by omega) ?_;refine AI (S:=λr=>SL L r.1) ?_ (λr K=>Ap K);refine Fi (λm s=>∃i:Nat,s.2.1=(i:Int)/\m=L.length - i/\SL L s.2.2) ?_ (m:=L.length - (a+(b - a) / 4*2 - 1)) ⟨_,V,V,h⟩ (by omega);rintro _ ⟨w,_,l⟩ ⟨i,rfl,rfl,h⟩;simp only at h;have ap:=h.len;unfold Rn;refine A6 (quo (k:=4) (by omega) (by omega)) ?_;refine As.E (((b - a) / 4*2:Nat):Int) (by omega) ?_;refine As.E ((a+(b - a) / 4*2:Nat):Int) (by omega) ?_;refine As.E ((a+(b - a) / 4*2+1:Nat):Int) (by omega) ?_;refine Bw (λk=>?_) (λk=>Ap h);simp only at k;have hi:i<b:=by omega
 obtain⟨v,w',ev⟩:∃v w',f178 F w=some (v,w'):=⟨_,_,V⟩;refine A6 ev ?_
 dsimp only;generalize K:(v&&& (M+18446744073709551615) % 2 ^ 64) % 2 ^ 64=r;have aq:r<M:=by
  rw [← K];refine Nat.lt_of_le_of_lt (Nat.mod_le _ _) ?_;have e:(M+18446744073709551615) % 2 ^ 64=M - 1:=by omega
  rw [e];exact Nat.lt_of_le_of_lt Nat.and_le_right (by omega)
 rw [gi (by omega)];refine AI (S:=λz=>∃q:Nat,z=(q:Int)/\q<b - a) ?_ ?_
 .refine Bw (λU=>?_) (λU=>Ap ⟨r,V,by omega⟩);exact As.E ((r - (b - a):Nat):Int) (by omega) (Ap ⟨r - (b - a),V,by omega⟩)
 rintro _ ⟨q,rfl,av⟩;refine As.E ((a+q:Nat):Int) (by simp) (As.E ((a+q:Nat):Int) (by simp) ?_);refine Bg (m:=a+q) V (by omega) (Bg (m:=i) V (by omega) ?_);refine Bg (m:=a+q) V (by rw [List.length_set];omega) (As.E ((i+1:Nat):Int) (by simp) ?_);refine Ap ⟨L.length - (i+1),by omega,i+1,V,V,?_⟩;simp only [nn];exact h.sw (by omega) (by omega)
theorem ZC{F a b:Nat}{L l:LL}{x:Int×Int×LL}(K:5000<F)(h:SL L x.2.2)(hb:b<=L.length)(ac:0<a)(O:a<=b):As (Pal.iter (Pg F (b:Int) x) F (a:Int)) (λr=>∃i:Nat,r=(i:Int)/\a<=i/\i<=b):=by
 have ag:=h.n;have al:=h.len;refine Fi (λm s=>∃i:Nat,s=(i:Int)/\m=b - i/\a<=i/\i<=b) ?_ (m:=b - a) ⟨a,V,V,by omega,O⟩ (by omega);rintro _ _ ⟨i,rfl,rfl,U,Y⟩;unfold Pg;refine AI (S:=λc=>c=true->i<b) ?_ ?_
 .refine Bw (λk=>?_) (λk=>Ap (by simp));refine Bg (m:=i) V (by omega) (As.E ((i - 1:Nat):Int) (by omega) ?_);exact Bg (m:=i - 1) V (by omega) (AI (h.cmp K (by omega) (by omega)) (λc _=>Ap (λ_=>by omega)))
 intro c Z;refine Bw (λk=>?_) (λk=>Ap ⟨i,V,U,Y⟩);have:=Z k;exact As.E ((i+1:Nat):Int) (by simp) (Ap ⟨b - (i+1),by omega,i+1,V,V,by omega,by omega⟩)
theorem YS{F i:Nat}{L l:LL}(K:5000<F)(h:SL L l)(hi:i<L.length):As (Pal.iter (O6 F) F ((i:Int),l)) (SL L):=by
 have O:=h.n;refine Fi (λm s=>∃j:Nat,s.1=(j:Int)/\j=m/\j<L.length/\SL L s.2) ?_ (m:=i) ⟨i,V,V,hi,h⟩ (by omega);rintro _ ⟨_,l⟩ ⟨j,rfl,rfl,U,h⟩;simp only at h;have Y:=h.len;unfold O6;refine Bw (λk=>?_) (λk=>Ap h);simp only at k ⊢;refine Bg (m:=j) V (by omega) ?_;refine As.E ((j - 1:Nat):Int) (by omega) ?_;refine Bg (m:=j - 1) V (by omega) ?_;refine AI (h.cmp K (by omega) (by omega)) ?_;intro z _;refine Bw (λ_=>Ap h) (λ_=>?_);refine As.E ((j - 1:Nat):Int) (by omega) ?_;refine As.E ((j - 1:Nat):Int) (by omega) ?_;refine Bg (m:=j - 1) V (by omega) ?_;refine Bg (m:=j - 1) V (by rw [List.length_set];omega) ?_;refine As.E ((j - 1:Nat):Int) (by omega) ?_;refine Ap ⟨j - 1,by omega,j - 1,V,V,by omega,?_⟩;simp only [nn];exact h.sw (by omega) (by omega)
theorem Yr{F i b:Nat}{L l:LL}(K:5000<F)(h:SL L l)(hb:b<=L.length)(O:0<i):As (Pal.iter (O5 F (b:Int)) F ((i:Int),l)) (SL L):=by
 have U:=h.n;refine Fi (λm s=>∃j:Nat,s.1=(j:Int)/\m=b - j/\0<j/\SL L s.2) ?_ (m:=b - i) ⟨i,V,V,O,h⟩ (by omega);rintro _ ⟨_,l⟩ ⟨j,rfl,rfl,Y,h⟩;simp only at h;have Z:=h.len;unfold O5;refine Bw (λk=>?_) (λk=>Ap h);simp only at k ⊢;refine Bg (m:=j) V (by omega) ?_;refine As.E ((j - 1:Nat):Int) (by omega) ?_;refine Bg (m:=j - 1) V (by omega) ?_;refine AI (h.cmp K (by omega) (by omega)) ?_;intro z _;refine Bw (λ_=>Ap h) (λ_=>?_);refine As.E ((j - 1:Nat):Int) (by omega) ?_;refine As.E ((j - 1:Nat):Int) (by omega) ?_;refine Bg (m:=j - 1) V (by omega) ?_;refine Bg (m:=j - 1) V (by rw [List.length_set];omega) ?_;refine As.E ((j+1:Nat):Int) (by simp) ?_;refine Ap ⟨b - (j+1),by omega,j+1,V,V,by omega,?_⟩;simp only [nn];exact h.sw (by omega) (by omega)
theorem db{F a b:Nat}{L l:LL}(K:5000<F)(h:SL L l)(hb:b<=L.length)(ap:a<b):As (f142 F l (a:Int) (b:Int)) (λr=>SL L r.2):=by
 have aq:=h.n;unfold f142;refine As.E ((a+1:Nat):Int) (by simp) ?_;refine AI (S:=λr=>∃l',SL L l'/\((∃t,r=Sum.inl (t,l'))∨r=Sum.inr l')) ?_ ?_
 .refine Fi (λm s=>∃i c:Nat,s.1=(i:Int)/\s.2.1=(c:Int)/\m=5 - c/\a<i/\i<=b/\SL L s.2.2) ?_ (m:=5) ⟨a+1,0,V,V,V,by omega,by omega,h⟩ (by omega);rintro _ ⟨_,_,l⟩ ⟨i,c,rfl,rfl,rfl,av,ac,h⟩;simp only at h;have aw:=h.len;unfold Ry;refine Bw (λk=>?_) (λk=>Ap ⟨l,h,.inr V⟩);simp only at k ⊢;refine AI (ZC (l:=l) K (x:=((i:Int),(c:Int),l)) h hb (by omega) ac) ?_;rintro _ ⟨q,rfl,ay,ag⟩;refine Bw (λ_=>Ap ⟨l,h,.inl ⟨_,V⟩⟩) (λaz=>?_);refine As.E ((b - a:Nat):Int) (by omega) (Bw (λ_=>Ap ⟨l,h,.inl ⟨_,V⟩⟩) (λ_=>?_));refine As.E ((q - 1:Nat):Int) (by omega) (As.E ((q - 1:Nat):Int) (by omega) ?_);refine Bg (m:=q - 1) V (by omega) (Bg (m:=q) V (by omega) ?_);refine Bg (m:=q - 1) V (by rw [List.length_set];omega) (As.E ((q - a:Nat):Int) (by omega) ?_);simp only [nn];have U:=h.sw (i:=q) (j:=q - 1) (by omega) (by omega);refine AI (S:=SL L) ?_ ?_
  .refine Bw (λal=>?_) (λ_=>Ap U);exact As.E ((q - 1:Nat):Int) (by omega) (AI (YS K U (by omega)) (λr O=>Ap O))
  intro a0 Y;refine As.E ((b - q:Nat):Int) (by omega) (AI (S:=SL L) ?_ ?_)
  .refine Bw (λal=>?_) (λ_=>Ap Y);exact As.E ((q+1:Nat):Int) (by simp) (AI (Yr K Y hb (by omega)) (λr O=>Ap O))
  intro a1 am;exact As.E ((c+1:Nat):Int) (by simp) (Ap ⟨5 - (c+1),by omega,q,c+1,V,V,V,by omega,ag,am⟩)
 .rintro _ ⟨l',Z,⟨t,rfl⟩ | rfl⟩
  .exact Ap Z
  .exact Ap Z
theorem SD{F i j:Nat}{body:Int->Option (Br Int Int)}(Y:5000<F)(Z:j<=1023)(ac:i<=1030)(U:∀q:Nat,i<=q->q<=j->As (body (q:Int)) (λr=>r= .more ((q+1:Nat):Int)∨r= .done (q:Int)))(he:∀q:Nat,j<q->body (q:Int)=some (.done (q:Int))):As (Pal.iter body F (i:Int)) (λr=>∃q:Nat,r=(q:Int)/\i<=q/\(q<=j+1∨q=i)):=by
 refine Fi (λm s=>∃q:Nat,s=(q:Int)/\m=1030 - q/\i<=q/\(q<=j+1∨q=i)) ?_ (m:=1030 - i) ⟨i,V,V,Nat.le_refl _,.inr V⟩ (by omega);rintro _ _ ⟨q,rfl,rfl,K,O⟩;rcases Nat.lt_or_ge j q with k | k
 .rw [he q k];exact Ap ⟨q,V,K,O⟩
 refine(U q K k).M ?_;rintro _ (rfl | rfl)
 .exact⟨1030 - (q+1),by omega,q+1,V,V,by omega,.inl (by omega)⟩
 .exact⟨q,V,K,O⟩
theorem SE{F i j:Nat}{body:Int->Option (Br Int Int)}(Y:5000<F)(Z:j<=1023)(hi:1<=i)(U:∀q:Nat,i<=q->q<=j->As (body (q:Int)) (λr=>r= .more ((q - 1:Nat):Int)∨r= .done (q:Int)))(he:∀q:Nat,q<i->body (q:Int)=some (.done (q:Int))):As (Pal.iter body F (j:Int)) (λr=>∃q:Nat,r=(q:Int)/\q<=j/\(i<=q+1∨q=j)):=by
 refine Fi (λm s=>∃q:Nat,s=(q:Int)/\q=m/\q<=j/\(i<=q+1∨q=j)) ?_ (m:=j) ⟨j,V,V,Nat.le_refl _,.inr V⟩ (by omega);rintro _ _ ⟨q,rfl,rfl,K,O⟩;rcases Nat.lt_or_ge q i with k | k
 .rw [he q k];exact Ap ⟨q,V,K,O⟩
 refine(U q k K).M ?_;rintro _ (rfl | rfl)
 .exact⟨q - 1,by omega,q - 1,V,V,by omega,.inl (by omega)⟩
 .exact⟨q,V,K,O⟩
theorem YR{F a i j:Nat}{L l:LL}{y z:Int}(K:5000<F)(h:SL L l)(U:a<L.length)(Y:j<L.length)(hi:i<=1030):As (Pal.iter (M6 F (a:Int) (y,(j:Int),l)) F (i:Int)) (λr=>∃q:Nat,r=(q:Int)/\i<=q/\(q<=j+1∨q=i)):=by
 have Z:=h.n;have ac:=h.len;refine SD K (by omega) hi (λq O ag=>?_) λq O=>?_
 .unfold M6;refine AI (S:=λ_=>True) ?_ ?_
  .refine BZ (by simp only;omega) (Bg (m:=q) V (by simp only;omega) ?_);exact Bg (m:=a) V (by simp only;omega) (AI (h.cmp K (by omega) (by omega)) (λc _=>Ap trivial))
  .intro c _;refine Bw (λ_=>?_) (λ_=>Ap (.inr V));exact As.E ((q+1:Nat):Int) (by simp) (Ap (.inl V))
 .unfold M6;rw [if_neg (by simp only;omega)];rfl
theorem YU{F a i j:Nat}{L l:LL}{y z:Int}(K:5000<F)(h:SL L l)(U:a<L.length)(Y:j<L.length)(hi:1<=i):As (Pal.iter (Ng F (a:Int) (y,z,l) (i:Int)) F (j:Int)) (λr=>∃q:Nat,r=(q:Int)/\q<=j/\(i<=q+1∨q=j)):=by
 have Z:=h.n;have ac:=h.len;refine SE K (by omega) hi (λq O ag=>?_) λq O=>?_
 .unfold Ng;refine AI (S:=λ_=>True) ?_ ?_
  .refine BZ (by omega) (Bg (m:=q) V (by simp only;omega) ?_);exact Bg (m:=a) V (by simp only;omega) (AI (h.cmp K (by omega) (by omega)) (λc _=>Ap trivial))
  .intro c _;refine Bw (λ_=>?_) (λ_=>Ap (.inr V));exact As.E ((q - 1:Nat):Int) (by omega) (Ap (.inl V))
 .unfold Ng;rw [if_neg (by omega)];rfl
theorem Zk{F a i j:Nat}{L l:LL}{y z:Int}(K:5000<F)(h:SL L l)(U:a<L.length)(Y:j<L.length)(hi:i<=1030):As (Pal.iter (Nc F (a:Int) (y,(j:Int),l)) F (i:Int)) (λr=>∃q:Nat,r=(q:Int)/\i<=q/\(q<=j+1∨q=i)):=by
 have Z:=h.n;have ac:=h.len;refine SD K (by omega) hi (λq O ag=>?_) λq O=>?_
 .unfold Nc;refine AI (S:=λ_=>True) ?_ ?_
  .refine BZ (by simp only;omega) (Bg (m:=a) V (by simp only;omega) ?_);exact Bg (m:=q) V (by simp only;omega) (AI (h.cmp K (by omega) (by omega)) (λc _=>Ap trivial))
  .intro c _;refine Bw (λ_=>?_) (λ_=>Ap (.inr V));exact As.E ((q+1:Nat):Int) (by simp) (Ap (.inl V))
 .unfold Nc;rw [if_neg (by simp only;omega)];rfl
theorem YN{F a i j:Nat}{L l:LL}{y z:Int}(K:5000<F)(h:SL L l)(U:a<L.length)(Y:j<L.length)(hi:1<=i):As (Pal.iter (M5 F (a:Int) (y,z,l) (i:Int)) F (j:Int)) (λr=>∃q:Nat,r=(q:Int)/\q<=j/\(i<=q+1∨q=j)):=by
 have Z:=h.n;have ac:=h.len;refine SE K (by omega) hi (λq O ag=>?_) λq O=>?_
 .unfold M5;refine AI (S:=λ_=>True) ?_ ?_
  .refine BZ (by omega) (Bg (m:=a) V (by simp only;omega) ?_);exact Bg (m:=q) V (by simp only;omega) (AI (h.cmp K (by omega) (by omega)) (λc _=>Ap trivial))
  .intro c _;refine Bw (λ_=>?_) (λ_=>Ap (.inr V));exact As.E ((q - 1:Nat):Int) (by omega) (Ap (.inl V))
 .unfold M5;rw [if_neg (by omega)];rfl
theorem Zc{F a b i j:Nat}{L l:LL}(K:5000<F)(h:SL L l)(hb:b<=L.length)(Z:a<b)(hi:a<i)(O:i<=b)(U:a<=j)(Y:j<b):As (Pal.iter (OE F (a:Int)) F ((i:Int),(j:Int),l)) (λr=>∃q:Nat,r.1=(q:Int)/\a<=q/\q<b/\SL L r.2):=by
 have ac:=h.n;refine Fi (λm s=>∃i j:Nat,s.1=(i:Int)/\s.2.1=(j:Int)/\m=b - i/\a<i/\i<=b/\a<=j/\j<b/\SL L s.2.2) ?_ (m:=b - i) ⟨i,j,V,V,V,hi,O,U,Y,h⟩ (by omega);rintro _ ⟨_,_,l⟩ ⟨i,j,rfl,rfl,rfl,hi,O,U,Y,h⟩;simp only at h;have ag:=h.len;unfold OE;refine AI (YR (z:=0) K h (by omega) (by omega) (by omega)) ?_;rintro _ ⟨p,rfl,p1,p2⟩;refine AI (YU K h (by omega) (by omega) (by omega)) ?_;rintro _ ⟨q,rfl,al,am⟩;refine Bw (λk=>Ap ⟨q,V,by omega,by omega,h⟩) (λk=>?_);refine Bg (m:=q) V (by simp only;omega) ?_;refine Bg (m:=p) V (by simp only;omega) ?_;refine As.E ((p+1:Nat):Int) (by simp) ?_;refine As.E ((q - 1:Nat):Int) (by omega) ?_;refine Ap ⟨b - (p+1),by omega,p+1,q - 1,V,V,V,by omega,by omega,by omega,by omega,?_⟩;simp only [nn];exact h.sw (by omega) (by omega)
theorem YH{F a b i j:Nat}{L l:LL}(K:5000<F)(h:SL L l)(hb:b<=L.length)(Z:a<b)(hi:a<i)(O:i<=b)(U:a<=j)(Y:j<b):As (Pal.iter (Pa F (a:Int)) F ((i:Int),(j:Int),l)) (λr=>∃q:Nat,r.1=(q:Int)/\a<q/\q<=b/\SL L r.2):=by
 have ac:=h.n;refine Fi (λm s=>∃i j:Nat,s.1=(i:Int)/\s.2.1=(j:Int)/\m=b - i/\a<i/\i<=b/\a<=j/\j<b/\SL L s.2.2) ?_ (m:=b - i) ⟨i,j,V,V,V,hi,O,U,Y,h⟩ (by omega);rintro _ ⟨_,_,l⟩ ⟨i,j,rfl,rfl,rfl,hi,O,U,Y,h⟩;simp only at h;have ag:=h.len;unfold Pa;refine AI (Zk (z:=0) K h (by omega) (by omega) (by omega)) ?_;rintro _ ⟨p,rfl,p1,p2⟩;refine AI (YN K h (by omega) (by omega) (by omega)) ?_;rintro _ ⟨q,rfl,al,am⟩;refine Bw (λk=>Ap ⟨p,V,by omega,by omega,h⟩) (λk=>?_);refine Bg (m:=q) V (by simp only;omega) ?_;refine Bg (m:=p) V (by simp only;omega) ?_;refine As.E ((p+1:Nat):Int) (by simp) ?_;refine As.E ((q - 1:Nat):Int) (by omega) ?_;refine Ap ⟨b - (p+1),by omega,p+1,q - 1,V,V,V,by omega,by omega,by omega,by omega,?_⟩;simp only [nn];exact h.sw (by omega) (by omega)
theorem dE{F a b v:Nat}{L l:LL}(K:5000<F)(h:SL L l)(hb:b<=L.length)(U:a+12<b)(Y:a<=v)(Z:v<b):As (f143 F l (a:Int) (b:Int) (v:Int)) (λr=>∃q:Nat,r.1=(q:Int)/\a<q/\q<=b/\SL L r.2):=by
 have ac:=h.n;have ag:=h.len;unfold f143;refine Bg (m:=v) V (by omega) ?_;refine Bg (m:=a) V (by omega) ?_;refine As.E ((a+1:Nat):Int) (by simp) ?_;refine As.E ((b - 1:Nat):Int) (by omega) ?_;simp only [nn];exact AI (YH K (h.sw (by omega) (by omega)) hb (by omega) (by omega) (by omega) (by omega) (by omega)) (λr O=>Ap O)
theorem cA{F a b v:Nat}{L l:LL}(K:5000<F)(h:SL L l)(hb:b<=L.length)(ag:a+12<b)(al:a<=v)(am:v<b):As (f144 F l (a:Int) (b:Int) (v:Int)) (λr=>∃q:Nat,r.1=(q:Int)/\a<=q/\q<b/\SL L r.2.2):=by
 have ap:=h.n;have ac:=h.len;unfold f144;refine Bg (m:=v) V (by omega) ?_;refine Bg (m:=a) V (by omega) ?_;refine As.E ((a+1:Nat):Int) (by simp) ?_;refine As.E ((b - 1:Nat):Int) (by omega) ?_;simp only [nn];have U:=h.sw (i:=a) (j:=v) (by omega) (by omega);generalize aq:l[v]=x at*;generalize av:l[a]=y at*;have aw:((l.set a x).set v y).length=L.length:=by rw [List.length_set,List.length_set];exact ac
 generalize Z:(l.set a x).set v y=l' at*;refine AI (S:=λr=>∃q:Nat,r=(q:Int)/\a+1<=q/\(q<=(b - 1)+1∨q=a+1)) ?_ ?_
 .refine SD K (by omega) (by omega) (λq Y O=>?_) λq Y=>?_
  .unfold O3;simp only [nn,Z];refine AI (S:=λ_=>True) ?_ ?_
   .refine BZ (by omega) (Bg (m:=q) V (by omega) ?_);exact Bg (m:=a) V (by omega) (AI (U.cmp K (by omega) (by omega)) (λc _=>Ap trivial))
   .intro c _;refine Bw (λ_=>?_) (λ_=>Ap (.inr V));exact As.E ((q+1:Nat):Int) (by simp) (Ap (.inl V))
  .unfold O3;rw [if_neg (by omega)];rfl
 rintro _ ⟨p,rfl,p1,p2⟩;refine AI (S:=λr=>∃q:Nat,r=(q:Int)/\q<=b - 1/\(p<=q+1∨q=b - 1)) ?_ ?_
 .refine SE K (by omega) (by omega) (λq Y O=>?_) λq Y=>?_
  .unfold O9;simp only [nn,Z];refine AI (S:=λ_=>True) ?_ ?_
   .refine BZ (by omega) (Bg (m:=q) V (by omega) ?_);exact Bg (m:=a) V (by omega) (AI (U.cmp K (by omega) (by omega)) (λc _=>Ap trivial))
   .intro c _;refine Bw (λ_=>?_) (λ_=>Ap (.inr V));exact As.E ((q - 1:Nat):Int) (by omega) (Ap (.inl V))
  .unfold O9;rw [if_neg (by omega)];rfl
 rintro _ ⟨q,rfl,ay,az⟩;refine Bw (λk=>?_) (λk=>?_)
 .refine Bg (m:=a) V (by omega) (Bg (m:=q) V (by omega) ?_);refine Ap ⟨q,V,by omega,by omega,?_⟩;simp only [nn];exact U.sw (by omega) (by omega)
 .refine Bg (m:=q) V (by omega) (Bg (m:=p) V (by omega) ?_);refine As.E ((p+1:Nat):Int) (by simp) (As.E ((q - 1:Nat):Int) (by omega) ?_);simp only [nn];refine AI (Zc K (U.sw (i:=p) (j:=q) (by omega) (by omega)) hb (by omega) (by omega) (by omega) (by omega) (by omega)) ?_;rintro⟨_,a0⟩ ⟨r,rfl,r1,r2,O⟩;simp only at O;have a1:=O.len;refine Bg (m:=a) V (by simp only;omega) (Bg (m:=r) V (by simp only;omega) ?_);refine Ap ⟨r,V,r1,r2,?_⟩;simp only [nn];exact O.sw (by omega) (by omega)
theorem Z5{F N:Nat}{rec:LL->Int->Int->Int->Option LL}{L:LL}(U:5000<F)(az:∀(l:LL) (a b:Nat) (k:Int),SL L l->a<=b->b<=L.length->2*(b - a)<N->0<=k->k<=100->As (rec l (a:Int) (b:Int) k) (SL L)){a b:Nat}{k:Int}{l:LL}(h:SL L l)(aw:a<=b)(hb:b<=L.length)(a0:b - a<N)(al:0<=k)(am:k<=100):As (Lp rec F l (a:Int) (b:Int) k) (SL L):=by
 have a8:=h.n;unfold Lp;refine AI (S:=λr=>∃l',SL L l'/\r=Sum.inl l') ?_ ?_
 .refine Fi (λm s=>∃a b:Nat,s.1=(a:Int)/\s.2.1=(b:Int)/\m=b - a/\a<=b/\b<=L.length/\b - a<N/\0<=s.2.2.1/\s.2.2.1<=100/\SL L s.2.2.2.2.2) ?_ (m:=b - a) ⟨a,b,V,V,V,aw,hb,a0,al,am,h⟩ (by omega);rintro _ ⟨_,_,k,t1,t2,l⟩ ⟨a,b,rfl,rfl,rfl,aw,hb,a0,al,am,h⟩;simp only at h al am;have a9:=h.len;unfold Ov;simp only;refine AI (S:=λr=>(∃l',SL L l'/\r=Sum.inl l')∨∃(O b':Nat) (k':Int) (a1 a2:Bool) (l':LL),r=Sum.inr ((O:Int),(b':Int),k',a1,a2,l')/\b' - O<b - a/\O<=b'/\b'<=L.length/\0<=k'/\k'<=100/\SL L l') ?_ ?_
  .refine As.E ((b - a:Nat):Int) (by omega) (Bw (λc=>?_) (λc=>?_))
   .exact AI (U6 U h hb aw) (λr K=>Ap (.inl ⟨r,K,V⟩))
   refine Bw (λc2=>?_) (λc2=>?_)
   .exact AI (cg U h hb (by omega)) (λr K=>Ap (.inl ⟨r,K,V⟩))
   refine AI (S:=λr=>0<=r.1/\r.1<=100/\SL L r.2) ?_ ?_
   .refine Bw (λ_=>?_) (λ_=>Ap ⟨al,am,h⟩);refine AI (cB U h hb (by omega)) ?_;intro r K;exact As.E (k - 1) V (Ap ⟨by simp only;omega,by simp only;omega,K⟩)
   rintro⟨ap,l2⟩ ⟨Y,g2,aq⟩;simp only at Y g2 aq ⊢;refine AI (cK U aq hb (by omega)) ?_;rintro⟨_,hint⟩ ⟨v,rfl,v1,v2⟩;simp only;refine AI (S:=λr=>∃v:Nat,r.1=(v:Int)/\a<=v/\v<b/\SL L r.2.2) ?_ ?_
   .refine Bw (λ_=>?_) (λ_=>Ap ⟨v,V,v1,v2,aq⟩);refine AI (cb U aq hb (by omega)) ?_;intro r K;refine As.E ((b - 1:Nat):Int) (by omega) (As.E ((v - a:Nat):Int) (by omega) ?_);exact As.E ((b - 1 - (v - a):Nat):Int) (by omega) (Ap ⟨_,V,by omega,by omega,K⟩)
   rintro⟨_,bb,be⟩ ⟨v,rfl,v1,v2,ay⟩;simp only at ay ⊢;refine AI (S:=λ_=>True) (Bw (λ_=>Ap trivial) (λ_=>Ap trivial)) ?_;intro z1 _;refine AI (S:=λ_=>True) (Bw (λ_=>Ap trivial) (λ_=>Ap trivial)) ?_;intro bi _;refine AI (S:=λr=>∃l',SL L l'/\(r=Sum.inl l'∨r=Sum.inr l')) ?_ ?_
   .refine Bw (λ_=>?_) (λ_=>Ap ⟨_,ay,.inr V⟩);refine AI (db U ay hb (by omega)) ?_;intro r K;exact Bw (λ_=>Ap ⟨_,K,.inl V⟩) (λ_=>Ap ⟨_,K,.inr V⟩)
   rintro _ ⟨a4,Z,rfl | rfl⟩
   .exact Ap (.inl ⟨a4,Z,V⟩)
   have bn:=Z.len;simp only [Sum.elim_inr];refine AI (S:=λ_=>True) ?_ ?_
   .refine Bw (λc3=>?_) (λ_=>Ap trivial);refine As.E ((a - 1:Nat):Int) (by omega) (Bg (m:=a - 1) V (by omega) ?_);exact Bg (m:=v) V (by omega) (AI (Z.cmp U (by omega) (by omega)) (λc _=>Ap trivial))
   intro bo _;refine Bw (λ_=>?_) (λ_=>?_)
   .refine AI (dE U Z hb (by omega) v1 v2) ?_;rintro⟨_,av⟩ ⟨q,rfl,a3,a5,ac⟩;exact Ap (.inr ⟨q,b,ap,t1,t2,av,V,by omega,by omega,hb,Y,g2,ac⟩)
   .refine AI (cA U Z hb (by omega) v1 v2) ?_;rintro⟨_,t3,av⟩ ⟨q,rfl,a3,a5,ac⟩;simp only at ac ⊢;refine As.E ((q - a:Nat):Int) (by omega) (As.E ((b - q:Nat):Int) (by omega) ?_);refine A6 (quo (k:=8) (by omega) (by omega)) (AI (S:=λr=>∃(O b':Nat),r.1=(O:Int)/\r.2.1=(b':Int)/\b' - O<b - a/\O<=b'/\b'<=L.length/\SL L r.2.2.2) ?_ ?_)
    .refine Bw (λc4=>?_) (λc4=>?_)
     .refine AI (az av a q ap ac a3 (by omega) (by omega) Y g2) ?_;intro r K;exact As.E ((q+1:Nat):Int) (by simp) (Ap ⟨q+1,b,V,V,by omega,by omega,hb,K⟩)
     .refine As.E ((q+1:Nat):Int) (by simp) (AI (az av (q+1) b ap ac (by omega) hb (by omega) Y g2) ?_);intro r K;exact Ap ⟨a,q,V,V,by omega,by omega,by omega,K⟩
    rintro⟨_,_,t4,a6⟩ ⟨O,b',rfl,rfl,d1,d2,d3,a7⟩;exact Ap (.inr ⟨O,b',ap,t4,t3,a6,V,d1,d2,d3,Y,g2,a7⟩)
  .rintro _ (⟨l',ag,rfl⟩ | ⟨O,b',k',a1,a2,l',rfl,d1,d2,d3,d4,d5,ag⟩)
   .exact Ap ⟨l',ag,V⟩
   .exact Ap ⟨b' - O,d1,O,b',V,V,V,d2,d3,by omega,d4,d5,ag⟩
 .rintro _ ⟨l',ag,rfl⟩;exact Ap ag
theorem UJ{F:Nat}{L:LL}(K:5000<F):∀(N:Nat) (l:LL) (a b:Nat) (k:Int),SL L l->a<=b->b<=L.length->b - a<2*2 ^ N->0<=k->k<=100->As (Lq (N+1) F l (a:Int) (b:Int) k) (SL L)
 | 0,l,a,b,k,h,O,hb,Y,Z,ac=>by
  unfold Lq Lp
  have aw:=h.n
  refine AI (S:=λr=>∃l',SL L l'/\r=Sum.inl l') ?_ ?_
  .refine Fi (λm s=>s=((a:Int),(b:Int),k,true,true,l)) ?_ (m:=0) V (by omega)
   rintro _ _ rfl;unfold Ov;refine AI (S:=λr=>∃l',SL L l'/\r=Sum.inl l') ?_ ?_
   .refine As.E ((b - a:Nat):Int) (by simp only;omega) (BZ (by omega) ?_);exact AI (U6 K h hb O) (λr ag=>Ap ⟨r,ag,V⟩)
   .rintro _ ⟨l',U,rfl⟩;exact Ap ⟨l',U,V⟩
  .rintro _ ⟨l',U,rfl⟩;exact Ap U
 | N+1,l,a,b,k,h,O,hb,Y,Z,ac=>by
  unfold Lq;exact Z5 (N:=2*2 ^ (N+1)) K (λl a b k al g2 am ap aq av=>UJ K N l a b k al g2 am (by rw [Nat.pow_succ] at ap;omega) aq av) h O hb Y Z ac
theorem cQ:((List.range 1025).all λn=>match f115 0 (Cv ((n:Nat):Int)) with | some m=>decide (0<=m/\m<=100) | none=>false)=true:=by decide+kernel
theorem eF(F:Nat)(x:Nat):f115 F x=f115 0 x:=rfl
theorem aR{F:Nat}{l:LL}(K:5000<F)(Z:l.length<=1023)(O:∀s∈l,s.length<=40/\∀d∈s,BD d):As (f76 F l) (λr=>l.Perm r):=by
 unfold f76;have h:=List.all_eq_true.1 cQ l.length (List.mem_range.2 (by omega));split at h
 .rename_i m e;have:=of_decide_eq_true h;refine A6 ((eF F _).trans e) (AI (S:=SL l) ?_ (λr U=>Ap U.p));have Y:=UJ (F:=F) (L:=l) K 9 l 0 l.length m ⟨List.Perm.refl _,O,by omega⟩ (by omega) (Nat.le_refl _) (by omega) this.1 this.2;exact Y
 .cases h
open Go Go.Conc Go.Proofs
def NB(fu_:Nat)(p0:Bh)(p1:AG):Option ((List Int)×Int):=
 (f70 fu_ p0 ([])).bind λK=>
 if K.2≠0 then(
  some ([],K.2)
 ) else(
  (NF fu_ K.1 p1).bind λY=>
  (WH fu_ Y).bind λO=>
  if O≠0 then(
   some ([],O)
  ) else(
   (f77 fu_ K.1 p1).bind λU=>
   if(!U.2)=true then(
    some ([],11)
   ) else(
    some (U.1,0)
   )
  )
 )
theorem eU{E:LH}{a1:Aq}{c2:Nat}{ag:Aq}{al:Nat}{am:Aq}{ap:Nat}{p0:Bh}{p1:AG}(a7:GE E)(a8:Ao (rL rI) E a1 c2 (p0.1))(a9:Ao Az E ag al (p0.2))(aq:Ao Az E am ap (p1)){fu_:Nat}{r:(List Int)×Int}(av:NB fu_ p0 p1=some r):AT (GY Tryz.prog) 10 [.agg #[.slice a1 (p0.1).length c2,.slice ag (p0.2).length al],.slice am (p1).length ap] E [] (λw E' B'=>∃(aw:Aq) (ay:Nat),w= .tuple #[.slice aw (r.1).length ay,iV r.2]/\B'= []/\Ao rI E' aw ay (r.1)):=by
 refine Bp Tryz.func10 λQ c5 cs H bb ac=>?_;unfold NB at av;refine C 2 V (DG bb λc6 c7 O be bi=>?_);refine C 5 V (Cf be Fq De V V ?_);obtain⟨c8,bn,bo⟩:=bs av;refine B7 (Lx (a8.M O) (a9.M O) Ao.nil bn) V V K4 bi ?_;rintro _ c9 _ Y ⟨dd,ea,eb,ec,rfl,rfl,az,a0⟩ bv;refine C 3 V (B2 bv H5 λed bw=>?_);refine JS.sx 3 bw DY λbx=>?_;refine Df 3 bx V λee K a2 a3=>C 8 V (A1 bo (λbz b0=>?_) (λbz b1=>?_))
 .refine C 6 V ?_;obtain rfl:=oi b0;exact A2 Tryz.func10 V V (ac ((O.trans Y).trans K) V ⟨none,0,V,V,Ao.nil⟩ a3)
 .refine C 4 V (Cf a2 FL DY V V ?_);obtain⟨ef,b2,b3⟩:=bs b1;refine C 1 V (B7 (dW (az.M K) (a0.M K) (aq.M ((O.trans Y).trans K)) b2) V V (A5 Tryz.func33 V) a3 ?_);rintro eg ej _ U ⟨_,rfl,rfl,b4⟩ b5;obtain⟨ek,b6,ca⟩:=bs b3;refine CC (dx (a7.M (((O.trans Y).trans K).trans U)) b4 b6) V V (A5 Tryz.func32 V) b5 λel Z a4=>C 7 V (A1 ca (λcc ce=>?_) (λcc ci=>?_))
  .refine C 6 V ?_;obtain rfl:=oi ce;exact A2 Tryz.func10 V V (ac ((((O.trans Y).trans K).trans U).trans Z) V ⟨none,0,V,V,Ao.nil⟩ a4)
  .refine C 3 V (Cf (a2.M (U.trans Z)) FL DY V V ?_);obtain⟨co,cp,ct⟩:=bs ci;refine C 1 V (B7 (Ww (az.M ((K.trans U).trans Z)) (a0.M ((K.trans U).trans Z)) (aq.M ((((O.trans Y).trans K).trans U).trans Z)) cp) V V (A5 Tryz.func34 V) a4 ?_);rintro _ em _ a5 ⟨cw,cy,rfl,rfl,c0⟩ a6;refine C 10 V (An (v:= .bool (!co.2)) V (λρ h=>Yl.not (h _ _ V)) ?_);refine JL.done (Ct ct (λc1 c3=>?_) (λc1 c4=>?_))
   .refine C 5 V ?_;obtain rfl:=oi c3;exact A2 Tryz.func10 V V (ac (((((O.trans Y).trans K).trans U).trans Z).trans a5) V ⟨none,0,V,V,Ao.nil⟩ a6)
   .refine C 7 V ?_;obtain rfl:=oi c4;exact A2 Tryz.func10 V V (ac (((((O.trans Y).trans K).trans U).trans Z).trans a5) V ⟨cw,cy,V,V,c0⟩ a6)
def Nb(fu_:Nat)(Y:Bh×(Cd))(O:(List Int)×Int)(U:(List Int))(K:Int×Int):Option (Br (Int×Int) ((Bool)⊕(Int))):=
 if K.2<((U).length:Int) then(
  Option.bind (
   (ix Y.1.1 (K.2)).bind λZ=>
   (ix U (K.2)).bind λac=>
   (NJ fu_ Z).bind λag=>
   (Av (ag+ac)).bind λal=>
   if 0<=al then(
    some (Sum.inr K.1)
   ) else(
    Option.bind (
     if((O.1).length:Int)<=K.1 then(
      some true
     ) else(
      (ix O.1 (K.1)).bind λam=>
      some (decide (am≠K.2))
     )
    ) λap=>
    if ap=true then(
     some (Sum.inl false)
    ) else(
     (Av (K.1+1)).bind λaq=>
     some (Sum.inr aq)
    )
   )
  ) λav=>Sum.elim (λr=>some (.done (Sum.inl r))) (λaw=>
  (Av (K.2+1)).bind λay=>
  some (.more (aw,ay))
  ) av
 ) else(
  some (.done (Sum.inr K.1))
 )
def P8(fu_:Nat)(p0:List Int):Option (Bool):=
 (f20 fu_ p0).bind λY=>
 (f31 fu_ Y 5 5).bind λK=>
 (f39 fu_ K.1).bind λO=>
 (f55 fu_ K.1).bind λZ=>
 Option.bind (iter (Nb fu_ K O Z) fu_ (0,0)) λac=>
 Sum.elim (λr=>some r) (λU=>
 Option.bind (
  if O.2≠0 then(
   some true
  ) else(
   some (decide (U≠((O.1).length:Int)))
  )
 ) λag=>
 if ag=true then(
  some false
 ) else(
  if U=0 then(
   (f18 fu_).bind λal=>
   some al
  ) else(
   (ND fu_ K.2 K.1).bind λam=>
   (NB fu_ K.1 am.1).bind λap=>
   (f27 fu_ K.1).bind λaq=>
   Option.bind (
    if ap.2=11 then(
     some (decide (aq.2.2=11))
    ) else(
     some false
    )
   ) λav=>
   Option.bind (
    if av=true then(
     (f18 fu_).bind λaw=>
     some aw
    ) else(
     some false
    )
   ) λay=>
   some ay
  )
 )
 ) ac
theorem an{E H:LH}{a1:Aq}{c2:Nat}{p0:List Int}(c9:GE E)(dd:Ao rI E a1 c2 (p0)){fu_:Nat}{r:Bool}(b0:P8 fu_ p0=some r):(GY Tryz.prog).ok (Na Tryz.prog (λv _=>v= .bool r)) (G (Frame.enter Tryz.prog 3 ([.slice a1 (p0).length c2]:Lv_).toArray .normal) []) (mk E H []):=by
 refine Ze Tryz.func3 V V (Nat.le_of_ble_eq_true V) ?_;have ea:Au E H [[]]:=trivial;unfold P8 at b0;obtain⟨i5,eb,ec⟩:=bs b0;refine C 7 V (B7 (iT dd eb) V V (A5 Tryz.func4 V) ea ?_);rintro _ i6 _ ed ⟨ac,i7,i8,rfl,rfl,ee⟩ ef;obtain⟨K,eg,ej⟩:=bs ec;refine C 5 V (Cc 1 (jb ee eg) V V (A5 Tryz.func5 V) ef V ?_);rintro _ i9 _ ek ⟨b1,b2,b3,b4,az,a0,rfl,rfl,aq,a2,el⟩ em;refine B2 em Kn λa3 eo=>?_;refine JS.sx 2 eo De λep=>?_;refine Df 2 ep V λjg Y av er=>C 3 V (Cf av Fq De V V ?_);obtain⟨ap,eu,ew⟩:=bs ej;refine B7 (WN (aq.M Y) (a2.M Y) eu) V V (A5 Tryz.func6 V) er ?_;rintro _ jj _ O ⟨a5,a6,rfl,rfl,ex⟩ ey;refine C 8 V (Cf (av.M O) Fq De V V ?_);obtain⟨be,eA,eC⟩:=bs ew;refine B7 (iO (aq.M (Y.trans O)) (a2.M (Y.trans O)) eA) V V (A5 Tryz.func7 V) ey ?_;rintro _ eN _ U ⟨bi,bn,rfl,rfl,e0⟩ e1;obtain⟨b5,e3,b6⟩:=bs eC;refine C 11 V (Bx (λL s=>∃(a7:Int) (a4:LH),b5=Sum.inr a7/\Jm eN H a4 [[(ac,.cells #[.slice az (K.2.1).length a0,iV K.2.2.1,.int .u64 ((K.2.2.2:Nat):Int)] 43 (0,0))]] [(3,.pointer (some ⟨ac,0,none⟩)),(4,.pointer (some ⟨a3,0,none⟩)),(5,.slice a5 (ap.1).length a6),(6,iV ap.2),(8,iV a7)] L s) ?_ ?_)
 .rintro _ _ ⟨a7,a4,rfl,rfl,rfl,ag,ca⟩;have e4:=elim_inr b6;obtain⟨e5,e6,e7⟩:=bs e4;refine C 6 V (Ib [] (λL s=>∃(cc:LH),Jm a4 H cc [[(ac,.cells #[.slice az (K.2.1).length a0,iV K.2.2.1,.int .u64 ((K.2.2.2:Nat):Int)] 43 (0,0))]] [(3,.pointer (some ⟨ac,0,none⟩)),(4,.pointer (some ⟨a3,0,none⟩)),(8,iV a7),(65,.bool e5)] L s) ?_ ?_)
  .rintro _ _ ⟨cc,rfl,rfl,al,bo⟩;refine JL.done (Ct e7 (λe8 ff=>?_) (λe8 fk=>?_))
   .refine C 4 V (JS.drop 0 bo V λjp=>?_);obtain rfl:=oi ff;exact H9 V (JO.end (v:= .bool false) V (by decide+kernel) Tryz.func3 V V V)
   .refine C 7 V (A1 fk (λfl fm=>?_) (λfl fo=>?_))
    .obtain⟨fs,fv,fw⟩:=bs fm;refine C 2 V (CC (WR fv) V V (A5 Tryz.func9 V) bo λjt jy fN=>?_);refine C 2 V (JS.drop 0 fN V λjO=>?_);obtain rfl:=oi fw;exact H9 V (JO.end (v:= .bool fs) V (by decide+kernel) Tryz.func3 V V V)
    .refine C 2 V (Fl 9 λZ=>?_);refine Jq 0 Z (av.M (((O.trans U).trans ag).trans al)) Fq De V V V (Dj 1 Z V V ?_);refine Jq 2 Z (av.M (((O.trans U).trans ag).trans al)) Fq De V V V ?_;obtain⟨gc,ge,gg⟩:=bs fo;refine Om (i:=3) (vs:= [.pointer (some ⟨ac,0,none⟩),.agg #[.slice b1 (K.1.1).length b2,.slice b3 (K.1.2).length b4]]) 0 (λ_ h=>by cases h) (eY (el.M ((((Y.trans O).trans U).trans ag).trans al)) (aq.M ((((Y.trans O).trans U).trans ag).trans al)) (a2.M ((((Y.trans O).trans U).trans ag).trans al)) ge) (by decide+kernel) V V V (A5 Tryz.func11 V) V bo V ?_;rintro _ jP _ aw ⟨gh,gt,jQ,jR,rfl,rfl,gE,jS⟩ gO;obtain⟨jT,g0,g1⟩:=bs gg;refine JG.call (i:=4) (vs:= [.agg #[.slice b1 (K.1.1).length b2,.slice b3 (K.1.2).length b4],.slice gh (gc.1).length gt]) (eU (c9.M (((((((ed.trans ek).trans Y).trans O).trans U).trans ag).trans al).trans aw)) (aq.M (((((Y.trans O).trans U).trans ag).trans al).trans aw)) (a2.M (((((Y.trans O).trans U).trans ag).trans al).trans aw)) gE g0) (by decide+kernel) V V V (A5 Tryz.func10 V) V gO ?_;rintro _ jU _ bv ⟨jV,jW,rfl,rfl,jX⟩ g3;refine A7 Z V [5,6,7,8] V (CZ [9] ?_);refine C 4 V (Cf (av.M (((((O.trans U).trans ag).trans al).trans aw).trans bv)) Fq De V V ?_);obtain⟨jY,g4,g5⟩:=bs g1;refine B7 (WC (aq.M ((((((Y.trans O).trans U).trans ag).trans al).trans aw).trans bv)) (a2.M ((((((Y.trans O).trans U).trans ag).trans al).trans aw).trans bv)) g4) V V (A5 Tryz.func12 V) g3 ?_;rintro _ jZ _ j0 ⟨j1,j2,j3,j4,rfl,rfl,j5,j6⟩ ce;obtain⟨g6,g7,g8⟩:=bs g5;refine C 13 V (Gj 6 4 [] [(88,.bool g6)] (λj7 j8 ci=>?_) (λco=>?_))
     .obtain⟨cp,ha,hb⟩:=bs g8;refine C 1 V (Gj 9 1 [] [(91,.bool cp)] (λj9 kb kc=>?_) (λct=>?_))
      .refine C 2 V ?_;obtain rfl:=oi hb;exact H9 V (JO.end (v:= .bool cp) V (by decide+kernel) Tryz.func3 V V V)
      .refine FQ 89 ha (λhc hd=>?_) (λhc he=>?_)
       .obtain⟨ke,hf,hg⟩:=bs hd;refine CC (WR hf) V V (A5 Tryz.func9 V) ci λkf hj hk=>C 1 V ?_;obtain rfl:=oi hg;exact ct hj hk V
       .refine C 2 V ?_;obtain rfl:=oi he;exact ct (Le.refl _) ci V
     .refine IY 85 g7 (λhl hm=>?_) (λhl hn=>?_)
      .refine C 3 V (JS.drop 0 ce V λho=>?_);obtain rfl:=oi hm;exact co (Le.refl _) ho V
      .refine C 3 V (JS.drop 0 ce V λhp=>?_);obtain rfl:=oi hn;exact co (Le.refl _) hp V
  .intro cw;refine IY 60 e6 (λhq hr=>?_) (λhq hs=>?_)
   .refine C 5 V ?_;obtain rfl:=oi hr;exact AF (cw _ _ ⟨a4,V,V,(Le.refl _),ca⟩) V
   .refine C 2 V (JL.ln Tryz.underlying22 V V V ?_);refine C 2 V ?_;obtain rfl:=oi hs;exact AF (cw _ _ ⟨a4,V,V,(Le.refl _),ca⟩) V
 .intro ht;refine JL.block (Em e3 (λam=> [[(ac,.cells #[.slice az (K.2.1).length a0,iV K.2.2.1,.int .u64 ((K.2.2.2:Nat):Int)] 43 (0,0))]]) (λam=> [(3,.pointer (some ⟨ac,0,none⟩)),(4,.pointer (some ⟨a3,0,none⟩)),(5,.slice a5 (ap.1).length a6),(6,iV ap.2),(7,.slice bi (be).length bn),(8,iV am.1),(9,iV am.2)]) (Le.refl _) e1 ?_);rintro am cy ay c0 c1 ⟨kg,a8⟩ hu;have c3:=a8;unfold Nb at c3;refine C 5 V (JL.ln Tryz.underlying22 V V V ?_);refine C 2 V (A1 c3 (λhv hw=>?_) (λhv hx=>?_))
  .obtain⟨hy,hz,c4⟩:=bs hw;refine C 2 V (Bx (λL s=>∃(a9:Int) (c5:LH),hy=Sum.inr a9/\Jm cy H c5 [[(ac,.cells #[.slice az (K.2.1).length a0,iV K.2.2.1,.int .u64 ((K.2.2.2:Nat):Int)] 43 (0,0))]] [(3,.pointer (some ⟨ac,0,none⟩)),(4,.pointer (some ⟨a3,0,none⟩)),(5,.slice a5 (ap.1).length a6),(6,iV ap.2),(7,.slice bi (be).length bn),(8,iV a9),(9,iV am.2)] L s) ?_ ?_)
   .rintro _ _ ⟨a9,c5,rfl,rfl,rfl,hA,hB⟩;have hC:=elim_inr c4;obtain⟨hD,hE,hF⟩:=bs hC;refine C 2 V (Bv hE V V V ?_);refine C 2 V ?_;obtain rfl:=oi hF;exact hu (a9,hD) (ay.trans hA) hB V a8
   .intro c6;refine C 3 V (Fl 10 λZ=>?_);refine JG.fd 0 Z Tryz.underlying28 FC V V V V (Eu 1 Z 0 (av.M ((O.trans U).trans ay)) FK V V V V ?_);refine Dj 2 Z V V ?_;obtain⟨hG,hH,hI⟩:=bs hz;refine Fo 3 (aq.M (((Y.trans O).trans U).trans ay)) hH Z Tryz.underlying25 GV ?_;rintro kh ki _ ⟨hK,hL,rfl,hM⟩ hN;refine Eu 4 Z 0 hN Kl V V V V (A7 Z V [6,7] V ?_);obtain⟨kj,hO,hP⟩:=bs hI;refine Fo 8 (e0.M ay) hO Z Tryz.underlying22 AH ?_;rintro kl km _ rfl hQ;refine Eu 9 Z 0 hQ Ba V V V V ?_;obtain⟨kn,hR,hS⟩:=bs hP;refine JG.call (i:=5) (vs:= [.slice hK (hG).length hL]) (gl hM hR) (by decide+kernel) V V V (A5 Tryz.func8 V) V c0 ?_;rintro _ bb _ bw ⟨rfl,rfl⟩ bx;refine CZ [10,11] ?_;obtain⟨ko,hT,hU⟩:=bs hS;refine Bv hT V V V (C 2 V ?_);refine A1 hU (λhV hW=>?_) (λhV hX=>?_)
    .exact JL.exit V (AF (c6 _ _ ⟨am.1,bb,(Option.some.inj hW).symm,V,V,bw,bx⟩) V)
    .refine C 6 V (JL.ln Tryz.underlying22 V V V ?_);obtain⟨hY,h0,h1⟩:=bs hX;refine C 2 V (Ib [] (λL s=>∃(bz:LH),Jm bb H bz [[(ac,.cells #[.slice az (K.2.1).length a0,iV K.2.2.1,.int .u64 ((K.2.2.2:Nat):Int)] 43 (0,0))]] [(3,.pointer (some ⟨ac,0,none⟩)),(4,.pointer (some ⟨a3,0,none⟩)),(5,.slice a5 (ap.1).length a6),(6,iV ap.2),(7,.slice bi (be).length bn),(8,iV am.1),(9,iV am.2),(55,.bool hY)] L s) ?_ ?_)
     .rintro _ _ ⟨bz,rfl,rfl,h2,c7⟩;refine JL.done (Ct h1 (λh3 h4=>?_) (λh3 h5=>?_))
      .refine C 4 V (JS.drop 0 c7 V λkp=>?_);obtain rfl:=oi h4;have h6:=elim_inl c4;obtain rfl:=oi h6;obtain rfl:=c1 _ a8;have h7:=elim_inl b6;obtain rfl:=oi h7;exact H9 V (JO.end (v:= .bool false) V (by decide+kernel) Tryz.func3 V V V)
      .obtain⟨h8,h9,ia⟩:=bs h5;refine C 3 V (Bv h9 V V V ?_);exact C 3 V (AF (c6 _ _ ⟨h8,bz,(Option.some.inj ia).symm,V,V,(bw.trans h2),c7⟩) V)
     .intro c8;refine IY 48 h0 (λih ii=>?_) (λih io=>?_)
      .refine C 7 V ?_;obtain rfl:=oi ii;exact AF (c8 _ _ ⟨bb,V,V,(Le.refl _),bx⟩) V
      .obtain⟨kq,i0,i1⟩:=bs io;refine C 2 V (JS.ix (ex.M ((U.trans ay).trans bw)) i0 Tryz.underlying22 AH ?_);rintro kr ks _ rfl i3;refine Dh 0 i3 Ba V V V (C 3 V ?_);obtain rfl:=oi i1;exact AF (c8 _ _ ⟨bb,V,V,(Le.refl _),bx⟩) V
  .refine JL.exit V ?_;obtain rfl:=oi hx;have i4:b5=(Sum.inr am.1):=(c1 _ a8).symm;exact AF (ht _ _ ⟨am.1,cy,i4,V,V,ay,c0⟩) V
end Pal
namespace Pal
def Ke(C:CF)(a:Nat):Int:=C a 1+2*C a 2+3*C a 3+4*C a 4+5*C a 5+6*C a 6+7*C a 7+8*C a 8+9*C a 9
theorem ga{C:CF}{x y a:Nat}{v:Nat->Nat}:Ke (LS C x y v) a=Ke C a - (if a=x then(wS v:Int) else 0)+(if a=y then(wS v:Int) else 0):=by
 unfold Ke LS wS;by_cases K:a=x <;> by_cases O:a=y <;> simp only [K,O,if_true,if_false,true_and,false_and,if_pos,if_neg] <;> (try split) <;> (try split) <;> omega
theorem dk{n:Nat}{C K:CF}{d:DT}(g:GD n d)(h:I3 C d K)(O:∀a b,0<=C a b)(a:Nat):Ke K a=Ke C a+cN a d/\∀a b,0<=K a b:=by
 obtain⟨v,ac,U,Y,rfl⟩:=h;obtain⟨ag,g2,al,am,ap,aq,av⟩:=g;constructor
 .rw [ga,Y];unfold cN;have Z:(a=d.1.toNat)↔((a:Int)=d.1):=by omega
  have e2:(a=d.2.1.toNat)↔((a:Int)=d.2.1):=by omega
  simp only [Z,e2];split <;> split <;> omega
 .intro a b;have:=O a b;have:=U b;unfold LS;by_cases e:a=d.1.toNat
  .subst e;rw [if_pos rfl];split <;> omega
  .rw [if_neg e];split <;> omega
def I4(P:List DT)(dn a:Nat):Nat->Int
 | 0=>0
 | k+1=>I4 P dn a k+if dn.testBit k=true then 0 else cN a (P.getD k (0,0,0))
theorem UI{P:List DT}{dn a i:Nat}(hb:dn.testBit i=false):∀k,I4 P dn a k=I4 P (dn ||| 2 ^ i) a k+if i<k then cN a (P.getD i (0,0,0)) else 0
 | 0=>by simp [I4]
 | k+1=>by
  unfold I4
  rw [UI hb k,VG]
  by_cases e:i=k
  .subst e
   rw [hb];simp
  .have:(i<k+1)↔(i<k):=by omega
   simp only [this,decide_eq_false e,Bool.or_false];split <;> split <;> omega
theorem U8{P:List DT}{a:Nat}:∀k,k<=P.length->I4 P (2 ^ P.length - 1) a k=0
 | 0,_=>rfl
 | k+1,K=>by
  unfold I4
  rw [U8 k (by omega),if_pos]
  .rfl
  .rw [Nat.testBit_two_pow_sub_one];exact decide_eq_true (by omega)
theorem Ur{P:List DT}{a:Nat}:∀k,k<=P.length->I4 P 0 a k=((P.take k).map (cN a)).sum
 | 0,_=>by simp [I4]
 | k+1,K=>by
  unfold I4
  rw [Ur k (by omega),Nat.zero_testBit,if_neg (by simp),List.take_add_one,List.getElem?_eq_getElem (by omega),Ie (by omega),Option.toList_some,List.map_append,List.sum_append]
  simp
theorem cf{n:Nat}{P:List DT}(U:∀d∈P,GD n d){a:Nat}:∀{dn:Nat} {C:CF} {O:List Int},NN P dn C O->(∀a b,0<=C a b)->0<=Ke C a+I4 P dn a P.length:=by
 intro dn C O h
 induction h with
 | nil e=>
  intro K;subst e;rw [U8 _ (Nat.le_refl _)];unfold Ke;have:=K a 1;have:=K a 2;have:=K a 3;have:=K a 4;have:=K a 5;have:=K a 6;have:=K a 7;have:=K a 8;have:=K a 9;omega
 | @cons dn i C ag d O hd hb Y _ Z=>
  intro K;have hi:=(List.getElem?_eq_some_iff.1 hd).1;have hm:d∈P:=List.mem_of_getElem? hd;obtain⟨k1,ac⟩:=dk (U d hm) Y K a;have:=Z ac;rw [UI hb,if_pos hi,List.getD_eq_getElem?_getD,hd,Option.getD_some];omega
theorem U4:∀x:List Int,(∀c∈x,1<=c/\c<=9)->x.sum=(x.count 1:Int)+2*(x.count 2:Int)+3*(x.count 3:Int)+4*(x.count 4:Int)+5*(x.count 5:Int)+6*(x.count 6:Int)+7*(x.count 7:Int)+8*(x.count 8:Int)+9*(x.count 9:Int)
 | [],_=>by simp
 | c::x,h=>by
  obtain⟨O,U⟩:=h c List.mem_cons_self
  rw [List.sum_cons,U4 x λy K=>h y (List.mem_cons_of_mem _ K)]
  obtain rfl | rfl | rfl | rfl | rfl | rfl | rfl | rfl | rfl:c=1∨c=2∨c=3∨c=4∨c=5∨c=6∨c=7∨c=8∨c=9:=by omega
  all_goals simp [List.count_cons];omega
theorem YD{o:OW}{P:List DT}(h:VO o)(hw:(BI o).length=5)(U:RP o P)(K:Ez o o.1.length≠ []):¬Ends P 0 (Gq o.1):=by
 rintro⟨aq,ac⟩;obtain⟨p,K⟩:=List.exists_mem_of_ne_nil _ K;unfold Ez at K;obtain⟨q,ag,rfl⟩:=List.mem_map.1 K;obtain⟨O,Y⟩:=List.mem_filter.1 ag;have O:=List.mem_range.1 O;have Y:=of_decide_eq_true Y;have Z:o.1.getD q []=o.1[q]:=by rw [List.getD_eq_getElem?_getD,List.getElem?_eq_getElem O];rfl
 have al:=(h.cs _ (List.getElem_mem O)).2;have am:=cf U.gd (a:=q) ac (λa b=>by unfold Gq;omega);rw [Ur _ (Nat.le_refl _),List.take_length] at am;obtain⟨_,ap⟩:=L9 h.n5 P (BI o) hw U.gd;have:=ap q;rw [U.z,Sa] at this;have av:Ke (Gq o.1) q=(o.1.getD q []).sum:=by
  rw [Z,U4 _ al];unfold Ke Gq;rw [Z];rfl
 omega
theorem GD.vt{n:Nat}{d:DT}(g:GD n d):VT n d:=⟨g.1,g.2.1,g.2.2.1,g.2.2.2.1,g.2.2.2.2.1,g.2.2.2.2.2.1,g.2.2.2.2.2.2⟩
theorem Tt{F:Nat}{o:OW}{P:List DT}(O:5 ^ 16<F)(h:VO o)(hw:(BI o).length=5)(K:RP o P)(U:Ez o o.1.length≠ []):f77 F o P=some ([],false):=by
 have Y:=h.n5;have Z:=K.len;exact ZJ ⟨h,by omega,λd hd=>(K.gd d hd).vt,O⟩ (YD h hw K U)
theorem YP{F:Nat}{o:OW}{P:List DT}(O:5 ^ 16<F)(h:VO o)(hw:(BI o).length=5)(K:RP o P)(U:Ez o o.1.length≠ []):NB F o P=some ([],11):=by
 have Y:(5:Nat) ^ 16=152587890625:=by decide
 have Z:=h.n5;have ac:=K.len;refine DC ?_;unfold NB;refine A6 (Sj (by omega) h) ?_;refine BY (by simp) ?_;refine A6 (bY (by omega) h K.gd (by omega)) ?_;rw [if_pos K.nd,if_pos K.z];refine A6 (b:=0) V ?_;refine BY (by simp) ?_;refine A6 (Tt O h hw K U) ?_;exact BZ V (Ap V)
theorem br:((List.range 6).all λn=>(List.range 6).all λm=>decide ((G0 m (ER n)).length<=300))=true:=by decide+kernel
theorem aJ{F:Nat}{o:OW}(Y:5 ^ 16<F)(h:VO o)(hw:(BI o).length=5)(Z:Ez o o.1.length≠ []):f27 F o=some ([],[],11):=by
 have ap:(5:Nat) ^ 16=152587890625:=by decide
 have ac:=h.n5;refine DC ?_;unfold f27;refine A6 (Sj (by omega) h) ?_;refine BY (by simp) ?_;refine A6 (eK (by omega) h λx ag=>fI ac x ag) ?_;have O:(Qb o).length<=300/\∀s∈Qb o,RP o s:=by
  rcases dD (n:=o.1.length) (w:=BI o) (P:=λ_=>true) with e | ⟨m,hm,e,_⟩
  .have e:Qb o= []:=e;rw [e];exact⟨by simp,λs K=>by cases K⟩
  .have e:Qb o=_:=e;rw [e];refine⟨?_,λs K=>(YC h hw hm K).1⟩;have:=of_decide_eq_true (List.all_eq_true.1 (List.all_eq_true.1 br o.1.length (List.mem_range.2 (by omega))) m (List.mem_range.2 (by omega)));unfold Ee;refine Nat.le_trans (List.length_filterMap_le _ _) ?_;rw [List.filter_eq_self.2 λ_ _=>rfl];exact this
 refine AI (aR (by omega) (Nat.le_trans O.1 (by omega)) λs K=>⟨by have:=(O.2 s K).len;omega,λd hd=>?_⟩) ?_
 .obtain⟨aq,g2,av,aw,ay,az,a0⟩:=(O.2 s K).gd d hd;unfold BD;omega
 intro r U;have al:∀s∈r,RP o s:=λs K=>O.2 s (U.mem_iff.2 K);have a1:r.length<=300:=by rw [← U.length_eq];exact O.1
 refine AI (S:=λq=>q=Sum.inr ()) ?_ (λq am=>by subst am;exact Ap rfl);refine Dm r.length (λi s=>s=(i:Int)) V (by omega) ?_ ?_
 .rintro i _ hi rfl;unfold Px;refine BZ (by omega) (Bg (m:=i) V hi ?_);refine A6 (Tt Y h hw (al _ (List.getElem_mem hi)) Z) (BY (by simp) ?_);exact As.E ((i+1:Nat):Int) (by simp) (Ap V)
 .rintro _ rfl;unfold Px;exact BY (by omega) (Ap ⟨_,V,V⟩)
theorem Yy{F:Nat}{o:OW}{b:Hq}(ap:5000<F)(h:VO o)(U:BN 200 (BI o)):As (Pal.iter (Nb F (o,b) (Ez o o.1.length,0) ((BI o).take o.1.length)) F (0,0)) (λr=>r=Sum.inr ((Ez o o.1.length).length:Int)):=by
 have ac:=h.n5;have hlen:((BI o).take o.1.length).length=o.1.length:=by rw [List.length_take,U.1];omega
 refine Dm o.1.length (λi s=>s=(((Ez o i).length:Int),(i:Int))) V (by omega) ?_ ?_
 .rintro i _ hi rfl;unfold Nb;refine BZ (by simp only;omega) ?_;have O:=WE (h.cs _ (List.getElem_mem hi));have ag:(o.1.getD i [])=o.1[i]:=by rw [List.getD_eq_getElem?_getD,List.getElem?_eq_getElem hi];rfl
  have aq:=U.bd (i:=i) (by omega);have av: -20000<=o.1[i].sum/\o.1[i].sum<=20000:=(RI (F:=F) (by omega) O.1 O.2).2;have K:=Ok o i;rw [ag] at K;have hle:=QZ o i;refine AI (S:=λr=>r=Sum.inr ((Ez o (i+1)).length:Int)) ?_ ?_
  .refine Bg (m:=i) V hi (A6 (OF U ac (i:=(i:Int)) (by omega) (by omega)) ?_);simp only [nn];refine A6 (bK (by omega) O.1 O.2) (As.E _ V ?_);refine Bw (λc=>Ap ?_) (λc=>?_)
   .rw [K,if_neg (by omega),List.append_nil]
   .rw [if_pos (by omega)] at K;have Y:(Ez o o.1.length)[(Ez o i).length]? =some (i:Int):=by
     have:∀k,i+1<=k->(Ez o k)[(Ez o i).length]? =some (i:Int):=by
      intro k aw
      induction k with
      | zero=>omega
      | succ k Z=>
       rcases Nat.lt_or_ge i k with q | q
       .rw [Ok,List.getElem?_append_left]
        .exact Z (by omega)
        .exact(List.getElem?_eq_some_iff.1 (Z (by omega))).1
       .obtain rfl:k=i:=by omega
        rw [K,List.getElem?_append_right (Nat.le_refl _),Nat.sub_self];rfl
     exact this _ (by omega)
    have al:=(List.getElem?_eq_some_iff.1 Y).1;refine A6 (b:=false) ?_ ?_
    .rw [if_neg (by omega)];refine DC (Bg (m:=(Ez o i).length) V al (Ap ?_));have:=(List.getElem?_eq_some_iff.1 Y).2;rw [this];simp
    refine BY (by simp) (As.E (((Ez o i).length+1:Nat):Int) (by simp) ?_);refine Ap ?_;rw [K];simp
  .intro r am;rw [am,Sum.elim_inr];exact As.E ((i+1:Nat):Int) (by simp) (Ap V)
 .rintro _ rfl;unfold Nb;exact BY (by simp only;omega) (Ap ⟨_,V,V⟩)
theorem bT{F:Nat}(O:5 ^ 16<F)(U:f18 F=some true)(WZ:List Int):P8 F WZ=some true:=by
 have ap:(5:Nat) ^ 16=152587890625:=by decide
 refine DC ?_;unfold P8;refine AI (S:=λb=>BG 0 b) ?_ ?_
 .unfold f20;exact Ap ⟨Int.le_refl 0,Int.le_refl 0⟩
 intro b al;refine AI (dV (k:=0) (pm:=5) (dm:=5) (by omega) al (by omega) (by omega) (by omega) (by omega)) ?_;rintro⟨o,b⟩ ⟨Y,_,_,Z⟩;have h:VO o:=Y;have hb:BG 100 b:=Z.M (by omega);clear Y Z;simp only;obtain⟨_,K⟩:=Mk (F:=F) (by omega) h;refine A6 (gx (by omega) h) (A6 (VK (by omega) h) ?_);refine AI (Yy (by omega) h K) ?_;rintro _ rfl;simp only [Sum.elim_inr];refine A6 (b:=false) (by rw [if_neg (by simp)];simp) (BY (by simp) ?_);refine Bw (λ_=>?_) (λam=>?_)
 .exact A6 U (Ap V)
 have ac:Ez o o.1.length≠ []:=λe=>am (by rw [e];rfl);refine AI (dh (by omega) h hb (by omega)) ?_;rintro⟨own,aq⟩ ⟨ag,_⟩;simp only at ag ⊢;refine A6 (YP O h K.1 ag ac) ?_;refine A6 (aJ O h K.1 ac) ?_;refine A6 (b:=true) V ?_;refine A6 (b:=true) ?_ (Ap V);rw [if_pos rfl];exact DC (A6 U (Ap V))
end Pal
