/- DebtCoins: a part (6 of 9) of the proof of its row. -/
import Derived.Test.YtgpbjmfcllmohaaGreatDoorCoa
import Derived.Test.YtgpbjmfcllmohaaGreatDoorCoc
import Derived.Test.YtgpbjmfcllmohaaGreatDoorCoe
set_option linter.all false
set_option maxRecDepth 100000
namespace Pal
variable{α:Type}
theorem Ts(l:List α):l=[]∨∃A y,l=A++ [y]:=by
 rcases List.eq_nil_or_concat l with h | ⟨A,y,h⟩;exact .inl h;exact .inr ⟨A,y,by rw[h,List.concat_eq_append]⟩
def Qu{α:Type}(less:α->α->Option Bool)(s:Int×List α):Option (Bt (Int×List α) (List α)):=
 Option.bind (
  if 0<s.1 then(
   (ix s.2 (s.1)).bind λx=>
   (Av (s.1 - 1)).bind λj=>
   (ix s.2 (j)).bind λy=>
   (less x y).bind λc=>
   some c
  ) else(
   some false
  )
 ) λc=>
 if c=true then(
  (Av (s.1 - 1)).bind λj=>
  (Av (s.1 - 1)).bind λk=>
  (ix s.2 (k)).bind λy=>
  (ix s.2 (s.1)).bind λx=>
  (ix (s.2.set (Int.toNat s.1) y) (j)).bind λ_=>
  (Av (s.1 - 1)).bind λm=>
  some (.more (m,((s.2.set (Int.toNat s.1) y).set (Int.toNat j) x)))
 ) else(
  some (.done s.2)
 )
variable{F:Nat}
theorem dg{less:α->α->Option Bool}{lt:α->α->Bool}{P:List α}{x:α}(R:List α)(av:P.length<F)(aw:P.length<=1024)(am:∀y∈P,less x y=some (lt x y)):
  As (Pal.iter (Qu less) F ((P.length:Int),P++x::R)) (λr=>∃A B,P=A++B/\r=A++x::(B++R)/\(∀b∈B,lt x b=true)/\(A=[]∨∃K y,A=K++ [y]/\lt x y=false)):=by
 refine FF (λm s=>∃A B,A.length=m/\s.1=((m:Nat):Int)/\s.2=A++x::(B++R)/\P=A++B/\∀b∈B,lt x b=true) ?_ (m:=P.length) ⟨P,[],V,V,V,by simp,by simp⟩ (by omega);rintro m ⟨c,v⟩ ⟨A,B,U,ag,O,Y,ai⟩;simp only at ag O;subst ag;have ay:A.length+B.length=P.length:=by rw[Y,pJ]
 have al:v[m]?=some x:=by rw[O,nL (by omega),U,tf];rfl
 unfold Qu;refine AJ (S:=λc=>(c=true/\∃K y,A=K++ [y]/\lt x y=true)∨(c=false/\(A=[]∨∃K y,A=K++ [y]/\lt x y=false))) ?_ ?_
 .refine BB (λh=>?_) (λh=>?_)
  .simp only at h;rcases Ts A with rfl | ⟨K,y,rfl⟩;simp at U;omega
   have ap:K.length+1=m:=by simpa using U
   have ac:v[m - 1]?=some y:=by rw[O,pE,nL (by omega),show m - 1 - K.length=0 by omega];rfl
   refine Ba (I7 V al) (As.E ((m - 1:Nat):Int) (by simp only;omega) ?_);refine Ba (I7 V ac) (Ba (am y (by rw[Y];simp)) ?_);refine Ap ?_;cases Z:lt x y with
   | true=>exact .inl ⟨rfl,K,y,rfl,Z⟩
   | false=>exact .inr ⟨rfl,.inr ⟨K,y,rfl,Z⟩⟩
  .refine Ap (.inr ⟨V,.inl ?_⟩);cases A with
   | nil=>rfl
   | cons a A=>simp at U h;omega
 .rintro c (⟨rfl,K,y,rfl,Z⟩ | ⟨rfl,aq⟩)
  .have ap:K.length+1=m:=by simpa using U
   have ac:v[m - 1]?=some y:=by rw[O,pE,nL (by omega),show m - 1 - K.length=0 by omega];rfl
   have az:m<v.length:=by rw[O];simp;omega
   refine B6 V (As.E ((m - 1:Nat):Int) (by simp only;omega) ?_);refine As.E ((m - 1:Nat):Int) (by simp only;omega) (Ba (I7 V ac) ?_);refine Ba (I7 V al) (Bj (m:=m - 1) V (by simp only[qa];omega) ?_);refine As.E ((m - 1:Nat):Int) (by simp only;omega) (Ap ⟨m - 1,by omega,K,y::B,by omega,V,?_,by rw[Y];simp,λb hb=>?_⟩);simp only;rw[show Int.toNat ((m:Nat):Int)=K.length+1 by omega,show Int.toNat ((m - 1:Nat):Int)=K.length by omega,O];simp;rcases gv.1 hb with rfl | hb;exact Z;exact ai b hb
  .exact Cb (by simp) (Ap ⟨A,B,Y,O,ai,aq⟩)
def H7(a b:DT):Bool:=decide (a.1<b.1∨(a.1=b.1/\(a.2.1<b.2.1∨(a.2.1=b.2.1/\a.2.2<b.2.2))))
variable{b:DT}
theorem Vm{a:DT}:H7 a b=true↔a.1<b.1∨(a.1=b.1/\(a.2.1<b.2.1∨(a.2.1=b.2.1/\a.2.2<b.2.2))):=by unfold H7;exact decide_eq_true_iff
theorem MC{a:DT}:H7 a b=false↔¬(a.1<b.1∨(a.1=b.1/\(a.2.1<b.2.1∨(a.2.1=b.2.1/\a.2.2<b.2.2)))):=by unfold H7;exact t8
theorem VK{a:DT}(K:BD a)(hb:BD b):As (f113 F a b) (λc=>(c<0↔H7 a b=true)/\(c=0↔a=b)):=by
 obtain⟨a1,O,U,Y,Z,ac⟩:=K;obtain⟨ag,ai,al,am,ap,aq⟩:=hb;obtain⟨ax,aw,ay⟩:=a;obtain⟨az,a0,a2⟩:=b;simp only at a1 O U Y Z ac ag ai al am ap aq;unfold f113;simp only[Vm,fZ];refine BB (λh=>?_) (λh=>?_);exact As.E _ V (Ap ⟨by omega,by omega⟩)
 refine BB (λav=>?_) (λav=>?_);exact As.E _ V (Ap ⟨by omega,by omega⟩);exact As.E _ V (Ap ⟨by omega,by omega⟩)
def GG(x:DT):List DT->List DT
 | []=>[x]
 | y::ys=>if H7 x y=true then x::y::ys else y::GG x ys
def EY(l:List DT):List DT:=l.foldl (λa x=>GG x a) []
def MS(l:List DT):Prop:=l.Pairwise λa b=>H7 b a=false
theorem Rl{x d:DT}:∀{l:List DT},d∈GG x l↔d=x∨d∈l
 | []=>by simp[GG]
 | y::ys=>by
  unfold GG
  split;simp;rw[gv,Rl,gv];constructor;rintro(h | h | h);exact .inr (.inl h);exact .inl h;exact .inr (.inr h);rintro(h | h | h);exact .inr (.inl h);exact .inl h;exact .inr (.inr h)
theorem Ux{x:DT}:∀{l:List DT},(GG x l).length=l.length+1
 | []=>rfl
 | y::ys=>by
  unfold GG
  split;rfl;rw[qz,Ux];rfl
theorem Vf{x:DT}:∀{l:List DT},MS l->MS (GG x l)
 | [],_=>List.pairwise_singleton _ _
 | y::ys,h=>by
  let⟨U,Y⟩:=si.1 h
  unfold GG
  split
  .rename_i O
   refine si.2 ⟨λz K=>?_,h⟩;have O:=Vm.1 O;rcases gv.1 K with rfl | K;rw[MC];omega;have:=MC.1 (U z K);rw[MC];omega
  .rename_i O;refine si.2 ⟨λz K=>?_,Vf Y⟩;rcases Rl.1 K with rfl | K;exact tp.2 O;exact U z K
theorem Vj{x:DT}{B:List DT}(K:∀b∈B,H7 x b=true):∀{A:List DT},(∀a∈A,H7 x a=false)->GG x (A++B)=A++x::B
 | [],_=>by
  cases B with
  | nil=>rfl
  | cons b bs=>simp only[qS,GG,K b qw,q1]
 | a::A,O=>by
  have U:=O a qw
  simp only[qX,GG,U]
  rw[d9 (by decide),Vj K λz Y=>O z (f8 _ Y)]
theorem Nc(l:List DT)(x:DT):EY (l++ [x])=GG x (EY l):=by unfold EY;rw[rH];rfl
theorem dh:∀{k:Nat},k<=10->(3:Int)^k<=59049
 | 0,_ | 1,_ | 2,_ | 3,_ | 4,_ | 5,_ | 6,_ | 7,_ | 8,_ | 9,_ | 10,_=>by decide
 | _+11,h=>absurd h (by omega)
theorem Pn{P:List α->Prop}(O:P [])(U:∀l x,P l->P (l++ [x])):∀l,P l:=by
 have:∀n (l:List α),l.length=n->P l:=by
  intro n
  induction n with
  | zero=>intro l K;cases r9.1 K;exact O
  | succ n Y=>
   intro l K;rcases Ts l with rfl | ⟨l',x,rfl⟩;cases K;exact U _ _ (Y _ (by simpa using K))
 exact λl=>this _ l V
theorem UP(l:List DT):MS (EY l):=Pn (P:=λl=>MS (EY l)) List.Pairwise.nil (λl x h=>by rw[Nc];exact Vf h) l
theorem Zz{d:DT}(l:List DT):d∈EY l↔d∈l:=Pn (P:=λl=>d∈EY l↔d∈l) (Iff.rfl) (λl x h=>by rw[Nc,Rl,h];simp[or_comm]) l
theorem ZH(l:List DT):(EY l).length=l.length:=Pn (P:=λl=>(EY l).length=l.length) V (λl x h=>by rw[Nc,Ux,h];simp) l
theorem ZT(F:Nat):Px F 0=Qu λx y=>(f113 F x y).bind λc=>some (decide (c<0)):=by
 funext s;unfold Px Qu;simp only[Option.bind_assoc,Option.bind_some]
theorem YH{A B:List DT}{x y:DT}(O:MS ((A++ [y])++B))(U:H7 x y=false):∀a∈A++ [y],H7 x a=false:=by
 rw[pE] at O;intro a K;rcases gM.1 K with K | K;have Y:=(uo.1 O).2.2 a K y (by simp);have Z:=MC.1 Y;have ac:=MC.1 U;rw[MC];omega;cases aj.1 K;exact U
theorem di{l:List DT}(ay:100<F)(az:l.length<=20)(hb:∀d∈l,BD d):f193 F l 0 (l.length:Int)=some (EY l):=by
 refine ED ?_;unfold f193;refine As.E 1 V (AJ (S:=λr=>r=EY l) ?_ (λr Y=>Ap Y));refine DL (l.length - 1) (λi s=>s.1=((i+1:Nat):Int)/\s.2=EY (l.take (i+1))++l.drop (i+1)) ⟨V,?_⟩ (by omega) ?_ ?_
 .cases l with
  | nil=>rfl
  | cons x xs=>rfl
 .rintro i ⟨c,w⟩ hi ⟨K,hw⟩;simp only at K hw;subst K;have O:i+1<l.length:=by omega
  unfold O6;refine B6 (by simp only;omega) ?_;have Z:l.drop (i+1)=l[i+1]::l.drop (i+2):=rx O;have a0:(EY (l.take (i+1))).length=i+1:=by rw[ZH,rS];omega
  have ac:∀d∈EY (l.take (i+1)),BD d:=λd hd=>hb d (ur ((Zz _).1 hd));have ag:BD l[i+1]:=hb _ (j9 O);have ai:EY (l.take (i+2))=GG l[i+1] (EY (l.take (i+1))):=by
   rw[q4 (i:=i+1),d6 O];exact Nc _ _
  have al:=UP (l.take (i+1));generalize l[i+1]=x at*;generalize EY (l.take (i+1))=P at*;generalize l.drop (i+2)=R at*;refine AJ (S:=λr=>r=GG x P++R) ?_ ?_
  .rw [ZT,hw,Z];have am:((i+1:Nat):Int)=(P.length:Int):=by omega
   rw[am];refine(dg (lt:=H7) R (by omega) (by omega) λy U=>?_).Ah ?_;let⟨c,ap,aq,_⟩:=VK (F:=F) ag (ac y U);rw[ap,Option.bind_some];congr 1;rw[Bool.eq_iff_iff,rt];exact aq;rintro r ⟨A,B,rfl,rfl,av,aw⟩;rw[Vj av ?_];simp;rcases aw with rfl | ⟨a1,y,rfl,U⟩;simp;exact YH al U
  .rintro r rfl;refine As.E ((i+1+1:Nat):Int) (by simp) (Ap ⟨V,?_⟩);simp only;rw[ai]
 .rintro⟨c,w⟩ ⟨K,hw⟩;simp only at K hw;subst K;unfold O6;refine Cb (by simp only;omega) (Ap ⟨_,V,?_⟩);simp only;rw[hw,rj (by omega),sQ (by omega),qk]
theorem eY:∀n,n<=12->∃r,f115 F (CC ((n:Nat):Int))=some r
 | 0,_ | 1,_ | 2,_ | 3,_ | 4,_ | 5,_ | 6,_ | 7,_ | 8,_ | 9,_ | 10,_ | 11,_ | 12,_=>⟨_,rfl⟩
 | _+13,h=>absurd h (by omega)
theorem fX{l:List DT}(K:100<F)(O:l.length<=12)(hb:∀d∈l,BD d):f90 F l=some (EY l):=by
 obtain⟨F,rfl⟩:∃k,F=k+1:=⟨F - 1,by omega⟩;let⟨x,U⟩:=eY (F:=F+1) l.length O;refine ED ?_;unfold f90;refine Ba (b:=l) (by unfold f129 NQ Ds;rw[d7 (by simp;omega)];rfl) (Ba (b:=EY l) ?_ (Ap V));refine ED ?_;unfold f130;refine Ba U (Ba (b:=EY l) ?_ (Ap V));refine ED ?_;unfold f169;refine AJ (S:=λr=>r=Sum.inl (EY l)) ?_ (by rintro r rfl;rw[Sum.elim_inl];exact Ap rfl);refine DL 0 (λ_ _=>True) trivial (by omega) (by intro i s h;omega) ?_;rintro s -;unfold RS;refine As.E (l.length:Int) (by omega) (B6 (by omega) ?_);exact Ba (di K (by omega) hb) (Ap ⟨_,V,V⟩)
def Kp(n:Nat)(w:List Int)(S:List PR):Option (List DT):=(FI n S.length S w []).map EY
variable{o:OW}
theorem eS{S:List PR}(K:100<F)(h:VO o)(O:S.length<=10)(U:∀x∈S,VP o.1.length x):f135 F o S=some (match Kp o.1.length (BZ o) S with | none=>([],false) | some r=>(r,true)):=by
 have Y:=h.n5;let⟨g1,g2⟩:=NG K h;have Z:(200:Int)*3^S.length<=1000000000000:=by
  have:=dh O;omega
 have e:=Va (q:=o) K rfl Y S.length F S (BZ o) [] 200 rfl (by omega) O U g2 (by omega) Z (by simp;omega);have e2:f175 F o S=some (match Kp o.1.length (BZ o) S with | none=>(true,default) | some r=>(false,r)):=by
  refine ED ?_;unfold f175;refine Ba g1 ?_;refine Ba (show SH F S (BZ o) o []=_ from e) ?_;unfold Kp;rcases ac:FI o.1.length S.length S (BZ o) [] with _ | r;exact B6 V (Ap V);refine Cb (by simp[NS]) ?_;obtain⟨k1,ag⟩:=UT Y S.length S (BZ o) [] r 200 rfl U g2 (by omega) Z (by simp) ac;exact Ba (fX K (by show r.length<=12;rw[ag];simp;omega) k1) (Ap V)
 unfold f135;rw[e2,Option.bind_some];rcases Kp o.1.length (BZ o) S with _ | r
 .rfl
 .rfl
def Hd:Nat->List PR->List (List PR)
 | 0,_=>[[]]
 | _+1,[]=>[]
 | m+1,x::xs=>(Hd m xs).map (x::·)++Hd (m+1) xs
theorem QT:∀(m:Nat) (l:List PR),(Hd m l).length<=2^l.length
 | 0,l=>by simp only[Hd,ro];exact tk
 | m+1,[]=>by simp[Hd]
 | m+1,x::xs=>by
  have K:=QT m xs;have O:=QT (m+1) xs
  simp only[Hd,pJ,r6,qz]
  rw[tA];omega
theorem QX{x:PR}:∀{m:Nat}{l c:List PR},c∈Hd m l->c.length=m/\(x∈c->x∈l)
 | 0,l,c,h=>by rw[show Hd 0 l=[[]] by cases l<;>rfl] at h;cases aj.1 h;exact⟨rfl,λh=>by cases h⟩
 | m+1,[],c,h=>by cases h
 | m+1,y::ys,c,h=>by
  rcases gM.1 h with h | h
  .obtain⟨U,O,rfl⟩:=qK.1 h
   have:=QX (x:=x) O;exact⟨by rw[qz,this.1],λK=>by
    rcases gv.1 K with rfl | K;exact qw
    .exact f8 _ (this.2 K)⟩
  .have:=QX (x:=x) h;exact⟨this.1,λK=>f8 _ (this.2 K)⟩
def El(n:Nat)(w:List Int)(P:PR->Bool)(m:Nat)(l ys:List PR):List (List DT):=(Hd m (ys.filter P)).filterMap λc=>Kp n w (l++c)
variable{n:Nat}{w:List Int}{P:PR->Bool}{l:List PR}
theorem aE{m:Nat}{ys:List PR}:(El n w P m l ys).length<=2^ys.length:=by
 unfold El;refine qW (t7 _ _) (qW (QT _ _) ?_);exact q0 (by decide) (List.length_filter_le _ _)
variable{xs:List PR}
theorem Y0{m:Nat}{x:PR}(h:P x=false):El n w P m l (x::xs)=El n w P m l xs:=by unfold El;rw[t9 (by simp[h])]
theorem ZU{m:Nat}{x:PR}(h:P x=true):El n w P (m+1) l (x::xs)=El n w P m (l++ [x]) xs++El n w P (m+1) l xs:=by
 unfold El;rw[ua h,Hd,List.filterMap_append,List.filterMap_map];congr 2;funext c;simp
theorem VN{F:Nat}{o:OW}{dn m:Nat}{K:List PR}{P:PR->Bool}(ai:100<F)(h:VO o)(hm:m<=5)(av:K.length<=10)(al:∀x∈K,VP o.1.length x)(am:∀x,VP o.1.length x->f136 F dn x.1 x.2=some (!P x)):
  ∀(k N:Nat) (l:List PR) (i:Nat) (b:List (List DT)),l.length+k=m->k<N->i<=K.length->(∀x∈l,VP o.1.length x)->b.length+2^(K.length - i)<=1000000->
   My N F l (i:Int) (m:Int) o K dn b=some (true,b++El o.1.length (BZ o) P k l (K.drop i))
 | 0,N,l,i,b,aw,ay,hi,ac,hb=>by
  obtain⟨N,rfl⟩:∃k,N=k+1:=⟨N - 1,by omega⟩
  have a4:1<=2^(K.length - i):=tk
  refine ED ?_
  simp only[My]
  unfold NI
  refine B6 (by omega) ?_
  refine Ba (eS ai h (by omega) ac) ?_
  refine AJ (S:=λr=>r=(true,b++El o.1.length (BZ o) P 0 l (K.drop i))) ?_ (λr az=>Ap az)
  have e:El o.1.length (BZ o) P 0 l (K.drop i)=(Kp o.1.length (BZ o) l).toList:=by
   unfold El;simp only[Hd,List.filterMap_cons,qk,List.filterMap_nil];cases Kp o.1.length (BZ o) l<;>rfl
  rw[e];rcases Kp o.1.length (BZ o) l with _ | r;exact B6 V (Ap (by simp));exact Cb (by simp) (Im (by omega) (Ap V))
 | k+1,N,l,i,b,aw,ay,hi,ac,hb=>by
  obtain⟨N,rfl⟩:∃k,N=k+1:=⟨N - 1,by omega⟩;refine ED ?_;simp only[My];unfold NI;refine Cb (by omega) (AJ (S:=λr=>r=Sum.inr (b++El o.1.length (BZ o) P (k+1) l (K.drop i))) ?_ (by rintro r rfl;rw[Sum.elim_inr];exact Ap rfl));refine FF (λz s=>∃j,z=K.length - j/\j<=K.length/\s.2=((j:Nat):Int)/\s.1++El o.1.length (BZ o) P (k+1) l (K.drop j)=b++El o.1.length (BZ o) P (k+1) l (K.drop i)/\s.1.length+2^(K.length - j)<=1000000) ?_ (m:=K.length - i) ⟨i,V,hi,V,V,hb⟩ (by omega);rintro z ⟨acc,c⟩ ⟨j,rfl,a5,ap,he,hlen⟩;simp only at ap he hlen;subst ap;unfold RA;refine BB (λa0=>?_) (λa1=>?_)
  .simp only at a0;have O:j<K.length:=by omega
   have hd:K.drop j=K[j]::K.drop (j+1):=rx O;have aq:=al _ (j9 O);have a6:2^(K.length - j)=2^(K.length - (j+1))+2^(K.length - (j+1)):=by
    rw[show K.length - j=K.length - (j+1)+1 by omega,tA];omega
   have a7:0<2^(K.length - (j+1)):=ue _;refine AJ (S:=λr=>∃Y,r=Sum.inr Y/\Y++El o.1.length (BZ o) P (k+1) l (K.drop (j+1))=acc++El o.1.length (BZ o) P (k+1) l (K.drop j)/\Y.length+2^(K.length - (j+1))<=1000000) ?_ ?_
   .refine Bj (m:=j) V O (Bj (m:=j) V O ?_);refine Ba (am _ aq) ?_;by_cases Z:P K[j]=true
    .refine Cb (by simp[Z]) ?_;refine Bj (m:=j) V O ?_;refine As.E ((j+1:Nat):Int) (by simp) ?_;refine As.MQ (by simp;omega) ?_;refine Ba (VN ai h hm av al am k N (l++ [K[j]]) (j+1) acc (by simp;omega) (by omega) (by omega) (λx U=>by
      rcases gM.1 U with U | U;exact ac x U
      .cases aj.1 U;exact aq) (by omega)) ?_
     refine Cb (by simp) (Ap ⟨_,V,?_,?_⟩);rw[hd,ZU Z,pE];have:=aE (n:=o.1.length) (w:=BZ o) (P:=P) (m:=k) (l:=l++ [K[j]]) (ys:=K.drop (j+1));rw[List.length_drop] at this;rw[pJ];omega
    .refine B6 (by simp[Z]) (Ap ⟨_,V,?_,by simp only;omega⟩);rw[hd,Y0 (tp.2 Z)]
   .rintro r ⟨Y,rfl,a2,a3⟩;rw[Sum.elim_inr];exact As.E ((j+1:Nat):Int) (by simp) (Ap ⟨K.length - (j+1),by omega,j+1,V,by omega,V,a2.trans he,a3⟩)
  .simp only at a1;refine Ap ?_;have:K.drop j=[]:=sQ (by omega);rw[this] at he;show Sum.inr _=_;rw[← he];unfold El;simp[Hd]
def FW(n:Nat)(w:List Int)(P:PR->Bool):List (List DT):=(((List.range n).map λm=>El n w P m [] (EW n)).find? λl=> !l.isEmpty).getD []
theorem gY{dn:Nat}(Y:100<F)(h:VO o)(ag:∀x,VP o.1.length x->f136 F dn x.1 x.2=some (!P x)):f71 F o dn=some (FW o.1.length (BZ o) P):=by
 have Z:=h.n5;have ai:=Yw Z;refine ED ?_;unfold f71;have al:∀m,m<=5->f132 F o ((m:Nat):Int) dn []=some (El o.1.length (BZ o) P m [] (EW o.1.length)):=by
  intro m hm;refine ED ?_;unfold f132;refine Ba (dQ Y Z) ?_;have am:2^((EW o.1.length).length - 0)<=2^10:=q0 (by decide) (by omega);exact Ba (show f134 F [] 0 (m:Int) o (EW o.1.length) dn []=_ from VN Y h hm ai (λx ap=>UZ ap) ag m F [] 0 [] (by simp) (by omega) (by omega) (by simp) (by simp at am ⊢;omega)) (Ap (by simp))
 refine DL o.1.length (λi s=>s=(i:Int)/\∀j,j<i->El o.1.length (BZ o) P j [] (EW o.1.length)=[]) ⟨V,by simp⟩ (by omega) ?_ ?_
 .rintro i s hi ⟨rfl,U⟩;unfold Qh;refine B6 (by omega) (Ba (al i (by omega)) ?_);refine BB (λac=>Ap ?_) (λav=>?_)
  .show _=_;unfold FW;rw[ul,show(List.range o.1.length).find? _=some i from rk.2 ⟨?_,qc.2 hi,λj K=>?_⟩];rfl
   .simp only [Function.comp];cases aq:El o.1.length (BZ o) P i [] (EW o.1.length) with
    | nil=>rw[aq] at ac;simp at ac
    | cons=>rfl
   .simp only [Function.comp];rw[U j K];rfl
  .refine As.E ((i+1:Nat):Int) (by simp) (Ap ⟨V,λj K=>?_⟩);rcases t6.1 K with K | rfl;exact U j K;exact r9.1 (by omega)
 .rintro s ⟨rfl,U⟩;unfold Qh;refine Cb (by omega) (Ap ⟨_,V,?_⟩);unfold FW;rw[ul,show(List.range o.1.length).find? _=none from sj.2 ?_];rfl;intro j K;simp only[Function.comp];rw[U j (qc.1 K)];simp
theorem fp(U:n<=5)(x:PR)(K:VP n x):f136 F 0 x.1 x.2=some (!(λ_=>true) x):=by
 obtain⟨Y,Z,ac⟩:=K;obtain⟨a,O⟩:∃a:Nat,x.1=(a:Int):=⟨x.1.toNat,by omega⟩;obtain⟨b,hb⟩:∃b:Nat,x.2=(b:Int):=⟨x.2.toNat,by omega⟩;rw[O,hb];have:b<=4:=by omega
 have:a<b:=by omega
 match a,b with
 | 0,1 | 0,2 | 0,3 | 0,4 | 1,2 | 1,3 | 1,4 | 2,3 | 2,4 | 3,4=>rfl
 | 0,0=>omega
 | a+1,0=>omega
 | a+1,1=>omega
 | a+2,2=>omega
 | a+3,3=>omega
 | a+4,4=>omega
 | a,b+5=>omega
abbrev Kv(o:OW):List (List DT):=FW o.1.length (BZ o) λ_=>true
theorem jv(K:100<F)(h:VO o):f71 F o 0=some (Kv o):=gY K h λx O=>fp h.n5 x O
theorem cF:FW n w P=[]∨∃m,m<n/\FW n w P=El n w P m [] (EW n)/\(∀j,j<m->El n w P j [] (EW n)=[]):=by
 unfold FW;rw[ul];rcases h:(List.range n).find? ((λl:List (List DT)=> !l.isEmpty)∘λm=>El n w P m [] (EW n)) with _ | m;exact .inl V;let⟨Y,K,O⟩:=rk.1 h;refine .inr ⟨m,qc.1 K,V,λj U=>?_⟩;have:=O j U;simpa using this
def IF:List DT->List DT->Bool
 | [],[]=>false
 | [],_::_=>true
 | _::_,[]=>false
 | x::xs,y::ys=>if x=y then IF xs ys else H7 x y
theorem Rf{a b:List DT}:∀{i:Nat},i<=a.length->i<=b.length->a.take i=b.take i->IF a b=IF (a.drop i) (b.drop i):=by
 induction a generalizing b with
 | nil=>intro i K _ _;simp at K;subst K;simp
 | cons x xs U=>
  intro i K O h;cases i with
  | zero=>simp
  | succ i=>
   cases b with
   | nil=>simp at O
   | cons y ys=>
    simp only[List.take_succ_cons,tz] at h;simp only[List.drop_succ_cons];rw[IF,d7 h.1];exact U (by simpa using K) (by simpa using O) h.2
theorem cq{a b:List DT}(ai:100<F)(al:a.length<=40)(U:∀d∈a,BD d)(Y:∀d∈b,BD d):As (f112 F a b) (λc=>c<0↔IF a b=true):=by
 unfold f112;refine AJ (S:=λr=>(∃c,r=Sum.inl c/\(c<0↔IF a b=true))∨(r=Sum.inr ()/\a.length<=b.length/\a=b.take a.length)) ?_ ?_
 .refine DL a.length (λi s=>s=(i:Int)/\i<=b.length/\a.take i=b.take i) ⟨V,by simp,by simp⟩ (by omega) ?_ ?_
  .rintro i s hi ⟨rfl,K,he⟩;unfold O2;have O:a.drop i=a[i]::a.drop (i+1):=rx hi;refine B6 (by omega) (Bj (m:=i) V hi ?_);refine BB (λh=>Ap (.inl ⟨1,V,?_⟩)) (λh=>?_);rw[Rf (i:=i) (by omega) K he,O,sQ (by omega:b.length<=i)];simp[IF]
   have hb:i<b.length:=by omega
   have Z:b.drop i=b[i]::b.drop (i+1):=rx hb;refine Bj (m:=i) V hb ?_;refine AJ (VK (U _ (j9 hi)) (Y _ (j9 hb))) ?_;rintro c ⟨c1,c2⟩;refine BB (λh=>Ap (.inl ⟨c,V,?_⟩)) (λh=>?_);rw[Rf (i:=i) (by omega) K he,O,Z,IF,d9 (λk=>h (c2.2 k))];exact c1;have heq:=c2.1 (rG.1 h);refine As.E ((i+1:Nat):Int) (by simp) ?_;refine Ap ⟨V,by omega,?_⟩;rw[q4,q4,he,d6 hi,d6 hb,heq]
  .rintro s ⟨rfl,K,he⟩;unfold O2;rw[qP] at he;exact Cb (by omega) (Ap ⟨_,V,.inr ⟨V,K,he⟩⟩)
 .rintro r (⟨c,rfl,ac⟩ | ⟨rfl,ag,he⟩);rw[Sum.elim_inl];exact Ap ac
  .rw [Sum.elim_inr];have e:IF a b=IF [] (b.drop a.length):=by
    rw[Rf (i:=a.length) (oU _) ag (by rw[qP];exact he),List.drop_length]
   refine BB (λh=>Ap ?_) (λh=>Ap ?_)
   .rw [e];cases hd:b.drop a.length with
    | nil=>have:=qm List.length hd;simp at this;omega
    | cons=>simp[IF]
   .rw [e,sQ (by omega)];simp[IF]
def Zb(n:Nat)(w:List Int):Prop:=∀j,n<=j->gN w j=0
variable{i:Int}
theorem RG{B:Int}(hb:BN B w)(K:n<=5)(O:0<=i)(hi:i<n):ix (w.take n) i=some (gN w i.toNat):=by
 have U:=hb.1;have:i.toNat<(w.take n).length:=by rw[rS];omega
 refine I7 (m:=i.toNat) (by omega) ?_;rw[d6 this,List.getElem_take,KV (by omega)]
variable{j:Nat}{v:Int}
theorem R7{i:Nat}(h:i≠j):gN (w.set i v) j=gN w j:=by
 unfold gN;rw[f7,qD h,f7]
theorem aB{d:DT}(O:0<=d.1)(U:0<=d.2.1)(Y:d.1≠d.2.1):(HX w d).take n=((w.take n).set d.1.toNat (gN w d.1.toNat - d.2.2)).set d.2.1.toNat (gN w d.2.1.toNat+d.2.2):=by
 unfold HX F8;have K:d.2.1.toNat≠d.1.toNat:=by omega
 rw[R7 K,List.take_set,List.take_set,sJ _ _ K,Int.sub_eq_add_neg]
theorem Zb.add(h:Zb n w)(hi:i<n)(O:0<=i):Zb n (F8 w i v):=λj K=>by
 unfold F8
 rw[R7 (by omega)]
 exact h j K
theorem Zb.zero(n:Nat):Zb n (List.replicate 5 0):=λj _=>by
 unfold gN
 rw[f7,tn]
 split<;>rfl
theorem eG(h:VO o):Zb o.1.length (BZ o):=by
 have:∀(ds:List DT) (w:List Int),Zb o.1.length w->(∀d∈ds,VD o.1.length d)->Zb o.1.length (ds.foldl HX w):=by
  intro ds
  induction ds with
  | nil=>exact λw hw _=>hw
  | cons d ds K=>
   intro w hw hd;let⟨v1,v2,O,v4,_⟩:=hd d qw;exact K _ ((hw.add v4 O).add v2 v1) λx U=>hd x (f8 _ U)
 exact this _ _ (Zb.zero _) h.ds
theorem fO(ag:100<F)(h:VO o):f55 F o=some ((BZ o).take o.1.length):=by
 have U:=h.n5;have ai:=h.d8;refine ED ?_;unfold f55;refine Ba (b:=List.replicate o.1.length 0) ?_ ?_;unfold Gy;rw[d7 (by omega)];rfl
 refine AJ (S:=λr=>r=(BZ o).take o.1.length) ?_ (λr Y=>Ap Y);refine DL o.2.length (λi s=>s.2=(i:Int)/\∃w,s.1=w.take o.1.length/\w=(o.2.take i).foldl HX (List.replicate 5 0)/\BN (20*i) w) ⟨rfl,List.replicate 5 0,by rw[List.take_replicate,sk U],rfl,rfl,by simp⟩ (by omega) ?_ ?_
 .rintro i ⟨s,c⟩ hi ⟨K,w,O,hw,hb⟩;simp only at K O;subst K;subst O;let⟨v1,v2,Z,v4,ac,v6,al⟩:=h.ds _ (j9 hi);have g1:=hb.add (i:=o.2[i].2.1) (v:=o.2[i].2.2) (V:=10) (by omega) (by omega) (by omega) (by omega);have g2:=g1.add (i:=o.2[i].1) (v:= -o.2[i].2.2) (V:=10) (by omega) (by omega) (by omega) (by omega);have k1:=hb.bd (i:=o.2[i].2.1.toNat) (by omega);have am:=hb.bd (i:=o.2[i].1.toNat) (by omega);unfold PH;refine B6 (by simp only;omega) (Bj (m:=i) rfl hi ?_);refine Ba (RG hb U (by omega) (by omega)) (Ba (RG hb U (by omega) (by omega)) ?_);refine As.E _ rfl (Ba (RG hb U (by omega) (by omega)) ?_);refine As.E _ rfl (As.E ((i+1:Nat):Int) (by simp) ?_);refine Ap ⟨rfl,HX w o.2[i],(aB v1 Z ac).symm,?_,g2.Ah (by omega)⟩;rw[q4,d6 hi,rH,← hw]
  rfl
 .rintro⟨s,c⟩ ⟨K,w,O,hw,hb⟩;simp only at K O;subst K;unfold PH;rw[qP] at hw;exact Cb (by simp) (Ap ⟨_,rfl,by simp only;rw[O,hw];rfl⟩)
theorem eE{d:DT}(h:w.length=5):(HX w d).length=5:=by unfold HX F8;rw[qa,qa];exact h
def EK(w:List Int)(A:Nat->Bool):Int:=(if A 0 then gN w 0 else 0)+(if A 1 then gN w 1 else 0)+(if A 2 then gN w 2 else 0)+(if A 3 then gN w 3 else 0)+(if A 4 then gN w 4 else 0)
theorem Rd(K:j<5):EK w (λi=>i==j)=gN w j:=by
 unfold EK
 match j,K with
 | 0,_ | 1,_ | 2,_ | 3,_ | 4,_=>simp
variable{p:Nat}
theorem dK{o:Nat}(O:p<5)(U:o<5)(K:o≠p)(X:Int):(if 0=p then -X else if 0=o then X else 0)+(if 1=p then -X else if 1=o then X else 0)+(if 2=p then -X else if 2=o then X else 0)+(if 3=p then -X else if 3=o then X else 0)+(if 4=p then -X else if 4=o then X else 0)=0:=by
 obtain rfl | rfl | rfl | rfl | rfl:p=0∨p=1∨p=2∨p=3∨p=4:=by omega
 all_goals
  obtain rfl | rfl | rfl | rfl | rfl:o=0∨o=1∨o=2∨o=3∨o=4:=by omega
  all_goals first | exact absurd rfl K | (simp;try omega)
theorem TR{v:List Int}{o:Nat}(O:p<5)(U:o<5)(Y:o≠p)(h:∀j,gN v j=if j=p then 0 else if j=o then gN w o+gN w p else gN w j)(A:Nat->Bool):EK v A=EK w (λj=>if j=p then A o else A j):=by
 have key:∀j,(if A j=true then gN v j else 0)=(if(if j=p then A o else A j)=true then gN w j else 0)+(if j=p then -(if A o=true then gN w p else 0) else if j=o then(if A o=true then gN w p else 0) else 0):=by
  intro j;rw[h];by_cases K:j=p;subst K;rw[d7 rfl,d7 rfl,d7 rfl];cases A o<;>cases A j<;>simp<;>omega;rw[d9 K,d9 K,d9 K];by_cases e2:j=o;subst e2;rw[d7 rfl,d7 rfl];cases A j<;>simp;rw[d9 e2,d9 e2,Int.add_zero]
 have al:=dK O U Y (if A o=true then gN w p else 0)
 have Z:=key 0;have k1:=key 1;have ac:=key 2;have ag:=key 3;have ai:=key 4;unfold EK;rw[Z,k1,ac,ag,ai];generalize (if(if 0=p then A o else A 0)=true then gN w 0 else 0)=am
 generalize (if(if 1=p then A o else A 1)=true then gN w 1 else 0)=a1
 generalize (if(if 2=p then A o else A 2)=true then gN w 2 else 0)=ap
 generalize (if(if 3=p then A o else A 3)=true then gN w 3 else 0)=aq
 generalize (if(if 4=p then A o else A 4)=true then gN w 4 else 0)=av
 generalize (if A o=true then gN w p else 0)=X at*
 generalize (if 0=p then -X else if 0=o then X else 0)=aw at*
 generalize (if 1=p then -X else if 1=o then X else 0)=ay at*
 generalize (if 2=p then -X else if 2=o then X else 0)=az at*
 generalize (if 3=p then -X else if 3=o then X else 0)=a0 at*
 generalize (if 4=p then -X else if 4=o then X else 0)=a2 at*
 omega
def s1(A:Nat->Bool)(d:DT):Int:=(if A d.2.1.toNat then d.2.2 else 0)+(if A d.1.toNat then -d.2.2 else 0)
theorem OO(hw:w.length=5)(K:0<=i)(O:i<5)(A:Nat->Bool):EK (F8 w i v) A=EK w A+if A i.toNat then v else 0:=by
 unfold EK;rw[I1 hw K O,I1 hw K O,I1 hw K O,I1 hw K O,I1 hw K O];obtain rfl | rfl | rfl | rfl | rfl:i=0∨i=1∨i=2∨i=3∨i=4:=by omega
 simp only[show Int.toNat 0=0 from rfl];cases A 0<;>simp<;>omega;simp only[show Int.toNat 1=1 from rfl];cases A 1<;>simp<;>omega;simp only[show Int.toNat 2=2 from rfl];cases A 2<;>simp<;>omega;simp only[show Int.toNat 3=3 from rfl];cases A 3<;>simp<;>omega;simp only[show Int.toNat 4=4 from rfl];cases A 4<;>simp<;>omega
theorem Q1(A:Nat->Bool):∀(l:List DT) (w:List Int),(∀d∈l,(0<=d.1/\d.1<5)/\0<=d.2.1/\d.2.1<5)->w.length=5->EK (l.foldl HX w) A=EK w A+(l.map (s1 A)).sum
 | [],w,_,_=>by simp
 | d::l,w,h,hw=>by
  let⟨⟨a1,K⟩,O,U⟩:=h d qw
  rw[rv,Q1 A l _ (λx Y=>h x (f8 _ Y)) (eE hw),q7,rE]
  unfold HX s1
  rw[OO (by unfold F8;rw[qa];exact hw) a1 K,OO hw O U]
  omega
theorem VO.Xx(h:VO o):∀d∈o.2,(0<=d.1/\d.1<5)/\0<=d.2.1/\d.2.1<5:=λd hd=>by
 have K:=h.n5
 obtain⟨a1,O,U,Y,-⟩:=h.ds d hd;omega
structure PN (n:Nat) (K:List Nat):Prop where
 len:K.length=n
 nd:K.Nodup
 lt:∀x∈K,x<n
variable{K:List Nat}
theorem PN.get(h:PN n K){i:Nat}(hi:i<n):K.getD i 0<n:=by
 rw[f7,d6 (by rw[h.len];exact hi)];exact h.lt _ (j9 _)
theorem PN.inj(h:PN n K){i:Nat}(hi:i<n)(O:j<n)(e:K.getD i 0=K.getD j 0):i=j:=by
 have U:=h.len;rw[f7,f7,d6 (by omega),d6 (by omega)] at e;exact(List.getElem_inj h.nd).1 e
theorem WK{k:Nat}{b:H4}(aw:100<F)(hb:BG k b)(ay:k<1000)(az:n<=5):As (f49 F b (n:Int)) (λr=>∃K,PN n K/\K.Perm (List.range n)/\r.1=(K.map λi:Nat=>(i:Int))/\BG (k+n) r.2):=by
 unfold f49;refine AJ (S:=λr=>∃K,PN n K/\K.Perm (List.range n)/\r.1=(K.map λi:Nat=>(i:Int))/\BG (k+n) r.2) ?_ (λr ag=>Ap ag);refine DL n (λi s=>s.2.2.2.2=(i:Int)/\BG (k+i) (s.1,s.2.1,s.2.2.1)/\s.2.2.2.1.Perm ((List.range i).map λi:Nat=>(i:Int))) ⟨V,hb,.refl _⟩ (by omega) ?_ ?_
 .rintro i ⟨l,t,ai,w,z⟩ hi ⟨U,Y,O⟩;simp only at U Y O;subst U;have al:w.length=i:=by rw[O.length_eq];simp
  unfold PV;refine B6 (by simp only;omega) (AJ (Ki Y (by omega) (by simp only;omega)) ?_);rintro⟨j,a0⟩ ⟨am,ap,g2⟩;simp only at am ap g2 ⊢;obtain⟨j,rfl⟩:∃m:Nat,j=(m:Int):=⟨j.toNat,by omega⟩;have a1:j<=i:=by omega
  refine Im (by omega) ?_;have a2:(w++ [(i:Int)]).length=i+1:=by simp[al]
  refine Bj (m:=j) V (by omega) (Bj (m:=i) V (by omega) ?_);refine Bj (m:=j) V (by rw[qa];omega) (As.E ((i+1:Nat):Int) (by simp) ?_);refine Ap ⟨V,g2,?_⟩;simp only;rw[show Int.toNat (i:Int)=i by omega,show Int.toNat (j:Int)=j by omega];have aq:(w++ [(i:Int)])[i]'(by omega)=(i:Int):=by
   rw[List.getElem_append_right (by omega)];simp
  have av:(((w++ [(i:Int)]).set i ((w++ [(i:Int)])[j]'(by omega))).set j (i:Int)).Perm (w++ [(i:Int)]):=by
   have:=List.set_set_perm (show i<(w++ [(i:Int)]).length by omega) (show j<(w++ [(i:Int)]).length by omega);rw[aq] at this;exact this
  refine av.trans ?_;rw[uf,qN];exact O.append_right _
 .rintro⟨l,t,ai,w,z⟩ ⟨U,Y,O⟩;simp only at U Y O;subst U;unfold PV;have Z:(w.map Int.toNat).Perm (List.range n):=by
   have:=O.map Int.toNat;rw[List.map_map] at this;have e:(Int.toNat∘λi:Nat=>(i:Int))=id:=by funext i;simp
   rwa[e,List.map_id] at this
  refine Cb (by simp only;omega) (Ap ⟨_,V,w.map Int.toNat,?_,Z,?_,Y⟩);exact⟨by rw[Z.length_eq];simp,Z.nodup_iff.2 List.nodup_range,λx ac=>qc.1 (Z.mem_iff.1 ac)⟩;simp only;rw[List.map_map];refine(List.map_id _).symm.trans (List.map_congr_left λx ac=>?_);obtain⟨y,-,rfl⟩:=qK.1 (O.mem_iff.1 ac);simp
open Go Go.Conc Go.Proofs
variable {J:Judge Tryz.prog}{E:LH}
def RI(fu_:Nat)(p0:Bi)(K:(List Int)×Int):Option (Bt ((List Int)×Int) ((List Int))):=
 if K.2<((p0.2).length:Int) then(
  (ix p0.2 (K.2)).bind λO=>
  (ix K.1 (O.1)).bind λai=>
  (ix K.1 (O.1)).bind λU=>
  (Av (U - O.2.2)).bind λY=>
  (ix K.1 (O.2.1)).bind λZ=>
  (Av (Z+O.2.2)).bind λac=>
  (Av (K.2+1)).bind λag=>
  some (.more (((K.1.set (Int.toNat O.1) Y).set (Int.toNat O.2.1) ac),ag))
 ) else(
  some (.done K.1)
 )
def NU(fu_:Nat)(p0:Bi):Option ((List Int)):=
 (Gy ((p0.1).length:Int) (0:Int)).bind λK=>
 Option.bind (iter (RI fu_ p0) fu_ (K,0)) λO=>
 some O
variable{a1:Aq}{c2 fu_:Nat}
theorem fY{bb:Aq}{be:Nat}{p0:Bi}(e5:Ao (rL rI) E a1 c2 (p0.1))(b4:Ao Ay E bb be (p0.2)){r:(List Int)}(bi:NU fu_ p0=some r):AW J 16 [.agg #[.slice a1 (p0.1).length c2,.slice bb (p0.2).length be]] E [] (λw E' B'=>∃(bn:Aq) (bo:Nat) (g0:Seg),w=.slice bn (r).length bo/\B'=g0/\OL 3 rI E' bn bo g0 (r)):=by
 refine Bs Tryz.func16 λQ e6 cs H b5 b6=>?_;unfold NU at bi;refine C 2 V (DX b5 λbv a4 bw a5 ca=>?_);refine C 4 V (Cg 0 a5 Tryz.underlying28 Fj Fy ?_);refine JL.ln Tryz.underlying25 V V V ?_;let⟨cc,ce,ci⟩:=bs bi;refine JS.make (pp:=rI) ce V V V V V Tryz.underlying22 AO (Dv Tryz.type3) (by decide) CJ (by decide) V ca λco cp ct cw=>?_;let⟨bx,cy,c0⟩:=bs ci;refine C 7 V (BF (λL s=>∃(a6:LH) (ap:Aq) (aq:Nat) (av:Seg),Jn a4 H a6 [av] [(3,.slice ap (bx).length aq)] L s (OL 3 rI a6 ap aq av (bx))) ?_ ?_);rintro _ _ ⟨a6,ap,aq,av,rfl,rfl,c1,c3,c4⟩;refine C 5 V ?_;cases c0;exact A4 Tryz.func16 V V (b6 (bw.trans c1) V ⟨ap,aq,av,V,(by first | rfl | simp | (simp[Value.cells])),c4⟩ c3);intro c5;refine JL.block (Cr cy (λL s Y=>∃(aw:LH) (ay:Aq) (ac:Nat) (az:Seg),Jn a4 H aw [az] [(1,.pointer (some ⟨bv,0,none⟩)),(3,.slice ay (Y.1).length ac),(4,iV Y.2)] L s (OL 3 rI aw ay ac az (Y.1))) ⟨a4,(some ⟨co,0,none⟩),(cc).length,cp,V,V,(Le.refl _),cw,ct⟩ ?_);rintro _ _ Y ⟨aw,ay,ac,az,rfl,rfl,am,bz,b0⟩ c6 ⟨e7,a7⟩ c7;have b1:=a7;unfold RI at b1;refine C 4 V (Cg 1 (a5.Ah am) Tryz.underlying28 Hp Jp ?_);refine JL.ln Tryz.underlying26 V V V (C 2 V ?_);refine A5 b1 (λc8 c9=>?_) (λc8 dd=>?_);refine C 5 V (Cg 1 (a5.Ah am) Tryz.underlying28 Hp Jp ?_);let⟨O,dj,ea⟩:=bs c9;refine C 1 V (JS.ix (b4.Ah (bw.trans am)) dj Tryz.underlying26 Bx ?_);rintro e8 ff _ ⟨_,_,rfl,rfl,⟨_,_,rfl,rfl,rfl⟩⟩ eb;refine Cf eb Eh Bx V V (B3 bz BT λU ec=>?_);refine JS.sx 1 ec Bx λed=>?_;refine Dl 1 ed V λee b2 ag a8=>?_;let⟨fk,ef,eg⟩:=bs ea;refine JL.done ?_;let⟨a0,f77,ej,Z⟩:=WL.of (b0.Ah b2) ef;obtain⟨rfl,rfl⟩:=ej;refine Gi [23,25] [a0] [] mixed V (AV 0 V V ?_);refine Ew (v:=.pointer (some ⟨U,0,none⟩)) 1 true V V (λρ h s' K=>Hc (a:=⟨U,0,none⟩) 0 0 Tryz.underlying47 AO V V V (h _ _ V)) (KP (v:=iV O.1) 2 V (by decide+kernel) V V V (λρ h s' K=>Yl.load Br (h _ _ V) (At.JF (j:=0) ag K V)) ?_);refine AV 3 V V (Ew (v:=.pointer (some ⟨U,1,none⟩)) 4 true V V (λρ h s' K=>Hc (a:=⟨U,0,none⟩) 0 1 Tryz.underlying47 AO V V V (h _ _ V)) ?_);refine KP (v:=iV O.2.1) 5 V (by decide+kernel) V V V (λρ h s' K=>Yl.load Br (h _ _ V) (At.JF (j:=1) ag K V)) (AV 6 V V ?_);refine Ew (v:=.pointer (some ⟨U,0,none⟩)) 7 true V V (λρ h s' K=>Hc (a:=⟨U,0,none⟩) 0 0 Tryz.underlying47 AO V V V (h _ _ V)) (KP (v:=iV O.1) 8 V (by decide+kernel) V V V (λρ h s' K=>Yl.load Br (h _ _ V) (At.JF (j:=0) ag K V)) ?_);let⟨ek,a2,el⟩:=bs eg;obtain⟨_,rfl,em⟩:=WL.at Z a2;refine JB.ix 9 Z.2 a2 Tryz.underlying22 AO ?_;refine JB.val (v:=iV ek) 10 false V (by decide+kernel) V V V (λρ h s' K=>have K:=K V;Yl.load Br (h _ _ V) (BP 0 a8 V (by simp[Az]) K (em 0 _ V))) (Ew (v:=.pointer (some ⟨U,2,none⟩)) 11 true V V (λρ h s' K=>Hc (a:=⟨U,0,none⟩) 0 2 Tryz.underlying47 AO V V V (h _ _ V)) ?_);refine KP (v:=iV O.2.2) 12 V (by decide+kernel) V V V (λρ h s' K=>Yl.load Br (h _ _ V) (At.JF (j:=2) ag K V)) ?_;let⟨ai,eo,ep⟩:=bs el;refine Ew 13 true V V (λρ h s' K=>EA (h _ _ V) (h _ _ V) eo) (AV 14 V V ?_);refine Ew (v:=.pointer (some ⟨U,1,none⟩)) 15 true V V (λρ h s' K=>Hc (a:=⟨U,0,none⟩) 0 1 Tryz.underlying47 AO V V V (h _ _ V)) (KP (v:=iV O.2.1) 16 V (by decide+kernel) V V V (λρ h s' K=>Yl.load Br (h _ _ V) (At.JF (j:=1) ag K V)) ?_);let⟨er,a3,eu⟩:=bs ep;obtain⟨_,rfl,ew⟩:=WL.at Z a3;refine JB.ix 17 Z.2 a3 Tryz.underlying22 AO ?_;refine JB.val (v:=iV er) 18 false V (by decide+kernel) V V V (λρ h s' K=>have K:=K V;Yl.load Br (h _ _ V) (BP 0 a8 V (by simp[Az]) K (ew 0 _ V))) (Ew (v:=.pointer (some ⟨U,2,none⟩)) 19 true V V (λρ h s' K=>Hc (a:=⟨U,0,none⟩) 0 2 Tryz.underlying47 AO V V V (h _ _ V)) ?_);refine KP (v:=iV O.2.2) 20 V (by decide+kernel) V V V (λρ h s' K=>Yl.load Br (h _ _ V) (At.JF (j:=2) ag K V)) ?_;let⟨al,ex,ey⟩:=bs eu;refine Ew 21 true V V (λρ h s' K=>DW (h _ _ V) (h _ _ V) ex) (JB.ix 22 Z.2 a2 Tryz.underlying22 AO ?_);have b3:=WL.put (x':=ai) (ws':=[iV ai]) Z Z.2 a2 V;refine JB.sx 23 0 a8 AO trivial b3.2 λeA=>?_;refine JB.ix 24 Z.2 a3 Tryz.underlying22 AO ?_;have a9:=WL.put (x':=al) (ws':=[iV al]) b3.1 Z.2 a3 V;refine JB.sx 25 0 eA AO trivial a9.2 λeC=>?_;refine JB.fin (by decide+kernel) ?_;have eN:=(a9.1).1;have e0:(((Y.1.set (Int.toNat O.1) ai).set (Int.toNat O.2.1) al)).length=(Y.1).length:=(a9.1).2;refine EF (L':=[(1,.pointer (some ⟨bv,0,none⟩)),(3,.slice (some ⟨a0,0,none⟩) (((Y.1.set (Int.toNat O.1) ai).set (Int.toNat O.2.1) al)).length ac),(4,iV Y.2)]) ⟨V,by rw[e0];rfl,V,trivial⟩ ?_;let⟨e1,e3,e4⟩:=bs ey;refine C 3 V (BE e3 V V V ?_);refine C 2 V ?_;cases e4;exact AH (c7 _ _ (((Y.1.set (Int.toNat O.1) ai).set (Int.toNat O.2.1) al),e1) ⟨ee,(some ⟨a0,0,none⟩),ac,[(a0,.cells (A9 (A9 f77 (Int.toNat (O.1)*1) [iV ai]) (Int.toNat (O.2.1)*1) [iV al]) 3 (0,0))],V,V,(am.trans b2),eC,eN⟩ a7) V;refine JL.exit V ?_;cases dd;obtain rfl:=c6 _ a7;exact AH (c5 _ _ ⟨aw,ay,ac,az,V,V,am,bz,b0⟩) V
def Nq(fu_:Nat)(ac:(List Int)×(Ci))(K:(List Int)×Int×Nat×(List Int)×AE×Int):Option (Bt ((List Int)×Int×Nat×(List Int)×AE×Int) (AE×Ci)):=
 if 0<K.2.2.2.2.2 then(
  (ix ac.1 (K.2.2.2.2.2)).bind λZ=>
  (Av (K.2.2.2.2.2 - 1)).bind λag=>
  (f36 fu_ (K.1,K.2.1,K.2.2.1) ag).bind λY=>
  (ix ac.1 (Y.1)).bind λO=>
  (ix K.2.2.2.1 (Z)).bind λU=>
  (ix K.2.2.2.1 (O)).bind λai=>
  (Av (ai+U)).bind λal=>
  (ix K.2.2.2.1 (O)).bind λaz=>
  Option.bind (
   if 0<U then(
    (room K.2.2.2.2.1 (O,Z,U)).bind λam=>
    some am
   ) else(
    Option.bind (
     if U<0 then(
      (Av (-(U))).bind λap=>
      (room K.2.2.2.2.1 (Z,O,ap)).bind λaq=>
      some aq
     ) else(
      some K.2.2.2.2.1
     )
    ) λav=>
    some av
   )
  ) λaw=>
  (Av (K.2.2.2.2.2 - 1)).bind λay=>
  some (.more (Y.2.1,Y.2.2.1,Y.2.2.2,(K.2.2.2.1.set (Int.toNat O) al),aw,ay))
 ) else(
  some (.done (K.2.2.2.2.1,K.1,K.2.1,K.2.2.1))
 )
def Nw(fu_:Nat)(O:AE×Ci)(U:(List Int)×(Ci))(K:AE×Int):Option (Bt (AE×Int) (AE)):=
 if K.2<((O.1).length:Int) then(
  (ix U.1 (K.2)).bind λZ=>
  (ix K.1 (Z)).bind λai=>
  (ix U.1 (K.2)).bind λY=>
  (ix O.1 (K.2)).bind λac=>
  (ix K.1 (Y)).bind λal=>
  (Av (K.2+1)).bind λag=>
  some (.more ((K.1.set (Int.toNat Y) ac),ag))
 ) else(
  some (.done K.1)
 )
def NZ(fu_:Nat)(p0:Ci)(p1:Bi):Option (AE×(Ci)):=
 (NU fu_ p1).bind λU=>
 (f49 fu_ p0 ((U).length:Int)).bind λK=>
 (Av (((K.1).length:Int) - 1)).bind λZ=>
 Option.bind (iter (Nq fu_ K) fu_ (K.2.1,K.2.2.1,K.2.2.2,U,[],Z)) λO=>
 (Gy ((O.1).length:Int) ((0,0,0):Int×Int×Int)).bind λac=>
 (f49 fu_ O.2 ((O.1).length:Int)).bind λY=>
 Option.bind (iter (Nw fu_ O Y) fu_ (ac,0)) λag=>
 some (ag,Y.2)
theorem iW{bk:Nat}{ew:Aq}{ex:Nat}{ey:Aq}{eA:Nat}{p0:Ci}{p1:Bi}(gO:Ao rI E a1 c2 (p0.1))(g3:Ao (rL rI) E ew ex (p1.1))(g4:Ao Ay E ey eA (p1.2)){r:AE×(Ci)}(eC:NZ fu_ p0 p1=some r):AW J 6 [.pointer (some ⟨bk,0,none⟩),.agg #[.slice ew (p1.1).length ex,.slice ey (p1.2).length eA]] E [(bk,.cells #[.slice a1 (p0.1).length c2,iV p0.2.1,.int .u64 ((p0.2.2:Nat):Int)] 43 (0,0))] (λw E' B'=>∃(eN:Aq) (e0:Nat) (e1:Aq) (e3:Nat),w=.slice eN (r.1).length e0/\B'=[(bk,.cells #[.slice e1 (r.2.1).length e3,iV r.2.2.1,.int .u64 ((r.2.2.2:Nat):Int)] 43 (0,0))]/\Ao Ay E' eN e0 (r.1)/\Ao rI E' e1 e3 (r.2.1)):=by
 refine Bs Tryz.func6 λQ lR cs H g5 g6=>?_;unfold NZ at eC;refine C 2 V (DX g5 λlS lT bo g7 g8=>?_);refine C 4 V (Cf g7 Fi CK V V ?_);let⟨lU,ha,hb⟩:=bs eC;refine B4 (fY (g3.Ah bo) (g4.Ah bo) ha) V V (A8 Tryz.func16 V) g8 ?_;rintro _ lV hc e4 ⟨he,hf,_,rfl,rfl,hg⟩ hj;refine C 6 V (JL.ln Tryz.underlying22 V V V ?_);let⟨az,hk,hl⟩:=bs hb;refine Cc 0 (W6 (gO.Ah (bo.trans e4)) hk) V V (A8 Tryz.func17 V) hj V ?_;rintro _ c3 _ e5 ⟨a0,a2,hm,hn,rfl,rfl,e6,ho⟩ hp;refine C 10 V (JL.ln Tryz.underlying22 V V V ?_);let⟨lW,hq,hr⟩:=bs hl;refine BW hq V V V ?_;let⟨al,hs,ht⟩:=bs hr;refine C 2 V (BF (λL s=>∃(bv:LH) (a7:Aq) (a8:Nat) (c4:Seg) (c5:Aq) (c6:Nat),Jn c3 H bv [[(bk,.cells #[.slice c5 (al.2.1).length c6,iV al.2.2.1,.int .u64 ((al.2.2.2:Nat):Int)] 43 (0,0))],c4] [(0,.pointer (some ⟨bk,0,none⟩)),(7,.slice a7 (al.1).length a8)] L s (OL 47 Ay bv a7 a8 c4 (al.1)/\Ao rI bv c5 c6 (al.2.1))) ?_ ?_);rintro _ _ ⟨bv,a7,a8,c4,c5,c6,rfl,rfl,hu,hv,hw,hx⟩;refine JL.seq (Cp 1 hw hv V λlX e7 hy hz=>?_);refine C 2 V (JL.ln Tryz.underlying26 V V V ?_);let⟨hA,hB,hC⟩:=bs ht;refine JS.make (pp:=Ay) hB V V V V V Tryz.underlying26 Bx (Dv Tryz.type47) (by decide) BT (by decide) ⟨_,_,V,V,⟨_,_,V,V,V⟩⟩ hz λhD hE hF hG=>C 6 V (JL.ln Tryz.underlying26 V V V ?_);let⟨am,hH,hI⟩:=bs hC;refine Cc 0 (W6 (hx.Ah e7) hH) V V (A8 Tryz.func17 V) hG V ?_;rintro _ c7 _ c8 ⟨e8,ff,c9,dd,rfl,rfl,hJ,hK⟩ hL;let⟨fk,hM,hN⟩:=bs hI;refine C 7 V (BF (λL s=>∃(dj:LH) (bw:Aq) (bx:Nat) (ea:Seg),Jn c7 H dj [[(bk,.cells #[.slice c9 (am.2.1).length dd,iV am.2.2.1,.int .u64 ((am.2.2.2:Nat):Int)] 43 (0,0))],ea] [(12,.slice bw (fk).length bx)] L s (OL 47 Ay dj bw bx ea (fk))) ?_ ?_);rintro _ _ ⟨dj,bw,bx,ea,rfl,rfl,fl,hO,hP⟩;refine C 5 V (Cp 1 hP hO V λlY fm hQ hR=>?_);cases hN;exact A4 Tryz.func6 V V (g6 (((((((bo.trans e4).trans e5).trans hu).trans e7).trans c8).trans fl).trans fm) V ⟨bw,bx,c9,dd,V,V,hQ,(hK.Ah (fl.trans fm))⟩ hR);intro hS;refine JL.block (Cr hM (λL s ai=>∃(a9:LH) (bz:Aq) (a3:Nat) (b0:Seg),Jn c7 H a9 [[(bk,.cells #[.slice c9 (am.2.1).length dd,iV am.2.2.1,.int .u64 ((am.2.2.2:Nat):Int)] 43 (0,0))],b0] [(7,.slice a7 (al.1).length a8),(12,.slice bz (ai.1).length a3),(13,.slice e8 (am.1).length ff),(14,iV ai.2)] L s (OL 47 Ay a9 bz a3 b0 (ai.1))) ⟨c7,(some ⟨hD,0,none⟩),(hA).length,hE,V,V,(Le.refl _),hL,(hF.Ah c8)⟩ ?_);rintro _ _ ai ⟨a9,bz,a3,b0,rfl,rfl,b1,fo,fs⟩ hT ⟨lZ,eb⟩ hU;have fv:=eb;unfold Nw at fv;refine C 5 V (JL.ln Tryz.underlying26 V V V ?_);refine C 2 V (A5 fv (λhV hW=>?_) (λhV hX=>?_));let⟨l3,l4,hY⟩:=bs hW;let⟨l5,h0,h1⟩:=bs hY;refine C 3 V ?_;let⟨b2,f145,h2,b3⟩:=WL.of fs h0;obtain⟨rfl,rfl⟩:=h2;refine Gi [10] [b2] [] mixed V (AV 0 V V ?_);refine AV 1 V V (AV 2 V V ?_);let⟨bb,h3,h4⟩:=bs h1;obtain⟨h5,h6,_,rfl,h7,h8⟩:=Ao.Xo (P:=Tryz.prog) (hJ.Ah b1) h3;refine JB.val (v:=.pointer (some ⟨h5,h6,none⟩)) 3 true V (by decide+kernel) V V V (λρ h s' a4=>h8 Tryz.underlying22 AO (h _ _ V) (h _ _ V)) (KP (v:=iV bb) 4 V (by decide+kernel) V V V (λρ h s' a4=>Yl.load Br (h _ _ V) (At.JF (j:=0) h7 a4 V)) ?_);refine AV 5 V V (AV 6 V V ?_);let⟨O,h9,ia⟩:=bs h4;obtain⟨ih,ii,_,⟨_,_,rfl,rfl,⟨_,_,rfl,rfl,rfl⟩⟩,io,i0⟩:=Ao.Xo (P:=Tryz.prog) (hy.Ah (c8.trans b1)) h9;refine JB.val (v:=.pointer (some ⟨ih,ii,none⟩)) 7 true V (by decide+kernel) V V V (λρ h s' a4=>i0 Tryz.underlying26 Bx (h _ _ V) (h _ _ V)) (KP (v:=.agg #[iV O.1,iV O.2.1,iV O.2.2]) 8 V (by decide+kernel) V V V (λρ h s' a4=>IV (vs:=[iV O.1,iV O.2.1,iV O.2.2]) Eh Bx (h _ _ V) (At.R2 io a4)) ?_);let⟨l6,ec,i1⟩:=bs ia;obtain⟨_,⟨_,_,rfl,rfl,⟨_,_,rfl,rfl,rfl⟩⟩,l7⟩:=WL.at b3 ec;refine JB.ix 9 b3.2 ec Tryz.underlying26 Bx ?_;have ed:=WL.put (x':=O) (ws':=[iV O.1,iV O.2.1,iV O.2.2]) b3 b3.2 ec ⟨_,_,V,V,⟨_,_,V,V,V⟩⟩;refine JB.sx 10 1 fo Bx trivial ed.2 λi3=>?_;refine JB.fin (by decide+kernel) ?_;have i4:=(ed.1).1;have i5:((ai.1.set (Int.toNat bb) O)).length=(ai.1).length:=(ed.1).2;refine EF (L':=[(7,.slice a7 (al.1).length a8),(12,.slice (some ⟨b2,0,none⟩) ((ai.1.set (Int.toNat bb) O)).length a3),(13,.slice e8 (am.1).length ff),(14,iV ai.2)]) ⟨V,by rw[i5];rfl,V,V,trivial⟩ ?_;let⟨i6,i7,i8⟩:=bs i1;refine C 3 V (BE i7 V V V ?_);refine C 2 V ?_;cases i8;exact AH (hU _ _ ((ai.1.set (Int.toNat bb) O),i6) ⟨a9,(some ⟨b2,0,none⟩),a3,[(b2,.cells (A9 f145 (Int.toNat (bb)*3) [iV O.1,iV O.2.1,iV O.2.2]) 47 (0,0))],V,V,b1,i3,i4⟩ eb) V;refine JL.exit V ?_;cases hX;obtain rfl:=hT _ eb;exact AH (hS _ _ ⟨a9,bz,a3,b0,V,V,b1,fo,fs⟩) V;intro i9;refine JL.block (Cr hs (λL s K=>∃(a5:LH) (b4:Aq) (b5:Nat) (Z:Aq) (ac:Nat) (ee:Seg) (ap:Aq) (aq:Nat) (be:Seg),Jn c3 H a5 [[(bk,.cells #[.slice b4 (K.1).length b5,iV K.2.1,.int .u64 ((K.2.2.1:Nat):Int)] 43 (0,0))],ee,be] [(0,.pointer (some ⟨bk,0,none⟩)),(5,.slice Z (K.2.2.2.1).length ac),(6,.slice a0 (az.1).length a2),(7,.slice ap (K.2.2.2.2.1).length aq),(8,iV K.2.2.2.2.2)] L s (Ao rI a5 b4 b5 (K.1)/\OL 3 rI a5 Z ac ee (K.2.2.2.1)/\OL 47 Ay a5 ap aq be (K.2.2.2.2.1))) ⟨c3,hm,hn,he,hf,hc,none,0,[],V,V,(Le.refl _),hp,ho,(hg.Ah e5),OL.nil⟩ ?_);rintro _ _ K ⟨a5,b4,b5,Z,ac,ee,ap,aq,be,rfl,rfl,b6,fw,fN,ef,ca⟩ jj ⟨l8,eg⟩ jt;have gc:=eg;unfold Nq at gc;refine C 6 V (A5 gc (λjy j0=>?_) (λjy j1=>?_));refine C 4 V (FH 12 λav=>?_);refine Bb av V [0,1] V ?_;let⟨ay,kb,kc⟩:=bs j0;refine FQ 2 (e6.Ah b6) kb av Tryz.underlying22 AO ?_;rintro ke kf _ rfl ki;refine EI 3 av 0 ki Br V V V V (Bb av V [4,5,6] V ?_);let⟨ge,kn,ko⟩:=bs kc;refine AS 7 av V V (λρ h s' a4=>EA (h _ _ V) (h _ _ V) kn) ?_;let⟨ag,kp,ks⟩:=bs ko;refine OC (i:=8) (vs:=[.pointer (some ⟨bk,0,none⟩),iV ge]) 0 (λ_ h=>by cases h) (Ko fN kp) (by decide+kernel) V V V J4 V fw V ?_;rintro _ bi _ aw ⟨ej,ek,rfl,rfl,kv⟩ el;let⟨U,kK,kL⟩:=bs ks;refine FQ 9 (e6.Ah (b6.trans aw)) kK av Tryz.underlying22 AO ?_;rintro kM kN _ rfl kO;refine EI 10 av 0 kO Br V V V V (Dr 11 av V V ?_);refine Dc [12] ?_;let⟨a6,kP,kQ⟩:=bs kL;refine C 6 V (Kf 1 (ef.Ah aw) kP V V V V V V Tryz.underlying22 AO ?_);rintro kR kS l9 _ kT rfl kU ma mb mc md;refine An (v:=iV a6) V (λρ h=>Yl.load Br (h _ _ V) (B8 (j:=1) el kT (kU 0 _ V))) ?_;obtain⟨gg,kV,kW⟩:=bs kQ;refine C 8 V (Kf 1 (ef.Ah aw) kV V V V V V V Tryz.underlying22 AO ?_);rintro kX kY me _ kZ rfl k0 mf mg mh mi;refine An (v:=iV gg) V (λρ h=>Yl.load Br (h _ _ V) (B8 (j:=1) el kZ (k0 0 _ V))) ?_;let⟨Y,k1,k2⟩:=bs kW;refine C 1 V (BE k1 V V V ?_);let⟨mj,k3,k4⟩:=bs k2;refine Kf 1 (ef.Ah aw) k3 V V V V V V Tryz.underlying22 AO ?_;rintro cc bn em _ k5 rfl mm k6 k7 mo mp;refine JS.store (v:=iV Y) (off:=bn) 1 V V V el V V AO (by simp[Value.cells,CM]) k5 (by have:=k6;simp only[Rp.n,rK,rN,rB,rP,rL] at this;show _+1<=_;omega) λeo=>?_;have k8:=k7 (Y) [iV Y] V;have ce:(K.2.2.2.1.set (Int.toNat U) Y).length=(K.2.2.2.1).length:=qa;refine EF (L':=[(0,.pointer (some ⟨bk,0,none⟩)),(5,.slice Z ((K.2.2.2.1.set (Int.toNat U) Y)).length ac),(6,.slice a0 (az.1).length a2),(7,.slice ap (K.2.2.2.2.1).length aq),(8,iV K.2.2.2.2.2),(24,iV K.2.2.2.2.2),(25,.bool (decide (0<K.2.2.2.2.2))),(28,.slice a0 (az.1).length a2),(29,iV K.2.2.2.2.2),(30,.pointer (some ⟨ke,kf,none⟩)),(31,iV ay),(32,.slice a0 (az.1).length a2),(33,.pointer (some ⟨bk,0,none⟩)),(34,iV K.2.2.2.2.2),(35,iV ge),(36,iV ag.1),(37,.pointer (some ⟨kM,kN,none⟩)),(38,iV U),(9,iV ay),(10,iV U),(39,.slice Z ((K.2.2.2.1.set (Int.toNat U) Y)).length ac),(40,iV ay),(41,.pointer (some ⟨kR,kS,none⟩)),(42,iV a6),(11,iV a6),(43,.slice Z ((K.2.2.2.1.set (Int.toNat U) Y)).length ac),(44,iV U),(45,.slice Z ((K.2.2.2.1.set (Int.toNat U) Y)).length ac),(46,iV U),(47,.pointer (some ⟨kX,kY,none⟩)),(48,iV gg),(49,iV a6),(50,iV Y),(51,.pointer (some ⟨cc,bn,none⟩))]) ⟨V,by rw[ce];rfl,V,V,V,V,V,V,V,V,V,V,V,V,V,V,V,V,V,V,by rw[ce];rfl,V,V,V,V,by rw[ce];rfl,V,by rw[ce];rfl,V,V,V,V,V,V,trivial⟩ ?_;let⟨ep,k9,la⟩:=bs k4;refine C 6 V (BF (λL s=>∃(ci:LH) (co:Aq) (cp:Nat) (ct:Seg),Jn bi H ci [[(bk,.cells #[.slice ej (ag.2.1).length ek,iV ag.2.2.1,.int .u64 ((ag.2.2.2:Nat):Int)] 43 (0,0))],[(cc,.cells (A9 em bn [iV Y]) 3 (0,0))],ct] [(0,.pointer (some ⟨bk,0,none⟩)),(5,.slice Z ((K.2.2.2.1.set (Int.toNat U) Y)).length ac),(6,.slice a0 (az.1).length a2),(7,.slice co (ep).length cp),(8,iV K.2.2.2.2.2)] L s (OL 47 Ay ci co cp ct (ep))) ?_ ?_);rintro _ _ ⟨ci,co,cp,ct,rfl,rfl,er,lb,ld⟩;let⟨lf,lg,lh⟩:=bs la;refine C 3 V (BW lg V V V ?_);refine C 2 V ?_;cases lh;exact AH (jt _ _ (ag.2.1,ag.2.2.1,ag.2.2.2,(K.2.2.2.1.set (Int.toNat U) Y),ep,lf) ⟨ci,ej,ek,Z,ac,[(cc,.cells (A9 em bn [iV Y]) 3 (0,0))],co,cp,ct,V,V,((b6.trans aw).trans er),lb,(kv.Ah er),(k8.Ah er),ld⟩ eg) V;intro gh;refine A5 k9 (λli lj=>?_) (λli ll=>?_);refine C 5 V (An (v:=.agg #[iV U,iV ay,iV a6]) V (λρ h=>C5 [(0,1),(1,1),(2,1)] h BT Tryz.underlying47 ⟨V,A2 Tryz.type3,V,A2 Tryz.type3,V,A2 Tryz.type3,trivial⟩ V V) ?_);let⟨mq,lm,lq⟩:=bs lj;refine JS.app (pp:=Ay) (v:=.agg #[iV U,iV ay,iV a6]) (a:=ap) (c:=aq) 2 lm V V V V (λ_=>V) V (λ_=>V) V V V Tryz.underlying26 Tryz.underlying26 Tryz.underlying26 Bx (Dv Tryz.type47) BT V (by decide) (by decide) (by decide) (by decide) (ca.Ah aw) ⟨_,_,V,V,⟨_,_,V,V,V⟩⟩ eo V λmr lr ls lu lw lx=>C 2 V ?_;cases lq;exact AH (gh _ _ ⟨bi,lr,ls,lu,V,V,(Le.refl _),lx,lw⟩) V;let⟨gt,lz,lA⟩:=bs ll;refine C 5 V (BF (λL s=>∃(cw:LH) (cy:Aq) (c0:Nat) (c1:Seg),Jn bi H cw [[(bk,.cells #[.slice ej (ag.2.1).length ek,iV ag.2.2.1,.int .u64 ((ag.2.2.2:Nat):Int)] 43 (0,0))],[(cc,.cells (A9 em bn [iV Y]) 3 (0,0))],c1] [(0,.pointer (some ⟨bk,0,none⟩)),(5,.slice Z ((K.2.2.2.1.set (Int.toNat U) Y)).length ac),(6,.slice a0 (az.1).length a2),(7,.slice cy (gt).length c0),(8,iV K.2.2.2.2.2)] L s (OL 47 Ay cw cy c0 c1 (gt))) ?_ ?_);rintro _ _ ⟨cw,cy,c0,c1,rfl,rfl,lB,lC,lD⟩;cases lA;exact AH (gh _ _ ⟨cw,cy,c0,c1,V,V,lB,lC,lD⟩) V;intro gE;refine A5 lz (λlE lF=>?_) (λlE lG=>?_);let⟨eu,lH,lI⟩:=bs lF;refine C 5 V (An (v:=iV eu) V (λρ h=>HN (h _ _ V) lH) ?_);refine An (v:=.agg #[iV ay,iV U,iV eu]) V (λρ h=>C5 [(0,1),(1,1),(2,1)] h BT Tryz.underlying47 ⟨V,A2 Tryz.type3,V,A2 Tryz.type3,V,A2 Tryz.type3,trivial⟩ V V) ?_;let⟨ms,lJ,lK⟩:=bs lI;refine JS.app (pp:=Ay) (v:=.agg #[iV ay,iV U,iV eu]) (a:=ap) (c:=aq) 2 lJ V V V V (λ_=>V) V (λ_=>V) V V V Tryz.underlying26 Tryz.underlying26 Tryz.underlying26 Bx (Dv Tryz.type47) BT V (by decide) (by decide) (by decide) (by decide) (ca.Ah aw) ⟨_,_,V,V,⟨_,_,V,V,V⟩⟩ eo V λmv lL lM lN lO lP=>C 2 V ?_;cases lK;exact AH (gE _ _ ⟨bi,lL,lM,lN,V,V,(Le.refl _),lP,lO⟩) V;refine JL.skip ?_;cases lG;exact AH (gE _ _ ⟨bi,ap,aq,be,V,V,(Le.refl _),eo,(ca.Ah aw)⟩) V;refine JL.exit V (JS.drop 1 fw V λlQ=>?_);cases j1;obtain rfl:=jj _ eg;exact AH (i9 _ _ ⟨a5,ap,aq,be,b4,b5,V,V,b6,lQ,ca,fN⟩) V
end Pal
namespace Pal
abbrev z5:List Int:=List.replicate 5 0
def GD(n:Nat)(d:DT):Prop:=0<=d.1/\d.1<(n:Int)/\0<=d.2.1/\d.2.1<(n:Int)/\d.1≠d.2.1/\1<=d.2.2/\d.2.2<=72
variable{F:Nat}
theorem fy{n:Nat}{d:DT}(O:n<1000)(h:GD n d):f86 F d (n:Int) 72=some 0:=by
 obtain⟨U,Y,Z,ac,K,ag,ai⟩:=h;show f88 F (n:Int) d 72=some 0;refine ED ?_;unfold f88;refine As.E ((n:Int) - 1) V (Ba (LG _ _ _ _) ?_);refine Ba (b:=false) ?_ ?_;rw[d9 (by simp;omega)];refine ED (As.E ((n:Int) - 1) V (Ba (LG _ _ _ _) (Ap ?_)));simp;omega
 refine Cb (by simp) (Cb K ?_);exact Ba (LG _ _ _ _) (Cb (by simp;omega) (Ap V))
def eD(d:DT):Nat:=(max d.1 d.2.1 - 1).toNat+4*(min d.1 d.2.1).toNat
theorem SB{n:Nat}{d:DT}(K:n<=5)(h:GD n d):eD d<20:=by
 obtain⟨O,U,Y,Z,_⟩:=h;unfold eD;omega
theorem VQ{n:Nat}{d:DT}(ac:n<=5)(h:GD n d):f106 F d.1 d.2.1=some (2^eD d):=by
 obtain⟨O,U,Y,Z,K,_⟩:=h;obtain⟨x,y,p⟩:=d;simp only at O U Y Z K;have key:∀a b:Fin 5,a≠b->f106 0 ((a.val:Nat):Int) ((b.val:Nat):Int)=some (2^eD (((a.val:Nat):Int),((b.val:Nat):Int),0)):=by decide+kernel
 obtain⟨a,rfl⟩:∃a:Nat,x=(a:Int):=⟨x.toNat,by omega⟩;obtain⟨b,rfl⟩:∃b:Nat,y=(b:Int):=⟨y.toNat,by omega⟩;exact key ⟨a,by omega⟩ ⟨b,by omega⟩ (λe=>K (by rw[Fin.mk.injEq] at e;omega))
theorem Xb{n:Nat}{d d':DT}(Y:n<=5)(h:GD n d)(K:GD n d')(e:eD d=eD d'):(d.1=d'.1/\d.2.1=d'.2.1)∨(d.1=d'.2.1/\d.2.1=d'.1):=by
 obtain⟨Z,ac,ag,ai,O,_⟩:=h;obtain⟨g1,g2,al,am,U,_⟩:=K;unfold eD at e;rcases Int.lt_or_gt_of_ne O with k | k<;>rcases Int.lt_or_gt_of_ne U with k' | k';rw[tt (by omega),tB (by omega),tt (by omega),tB (by omega)] at e;omega;rw[tt (by omega),tB (by omega),tC (by omega),tu (by omega)] at e;omega;rw[tC (by omega),tu (by omega),tt (by omega),tB (by omega)] at e;omega;rw[tC (by omega),tu (by omega),tC (by omega),tu (by omega)] at e;omega
def GW(l:List DT):Nat:=l.foldl (λm d=>m|||2^eD d) 0
theorem YT(l:List DT)(d:DT):GW (l++ [d])=GW l|||2^eD d:=by unfold GW;rw[rH];rfl
theorem UE(l:List DT)(k:Nat):(GW l).testBit k=true↔k∈l.map eD:=by
 have:∀(l:List DT) (m:Nat),(l.foldl (λm d=>m|||2^eD d) m).testBit k=true↔m.testBit k=true∨k∈l.map eD:=by
  intro l
  induction l with
  | nil=>simp
  | cons d l K=>
   intro m;rw[rv,K,uk,s6,q7,gv];simp only[rb,rt];constructor;rintro((h | h) | h);exact .inl h;exact .inr (.inl h.symm);exact .inr (.inr h);rintro(h | h | h);exact .inl (.inl h);exact .inl (.inr h.symm);exact .inr h
 rw[GW,this];simp
variable{l:List DT}
theorem VU{n:Nat}(K:n<=5)(h:∀d∈l,GD n d):GW l<2^20:=by
 refine Nat.lt_pow_two_of_testBit _ λi hi=>?_;rcases hb:(GW l).testBit i with _ | _;rfl;let⟨d,hd,e⟩:=qK.1 ((UE l i).1 hb);have:=SB K (h d hd);omega
theorem eP{n:Nat}{d:DT}(U:n<=5)(Z:∀d∈l,GD n d)(h:GD n d):f136 F (GW l) d.1 d.2.1=some (decide (eD d∈l.map eD)):=by
 have ac:(2:Nat)^eD d<2^20:=sC (by decide) (SB U h);have hm:=VU U Z;refine ED ?_;unfold f136;refine Ba (VQ U h) ?_;refine Ba (b:=GW l&&& 2^eD d) (by unfold PS;rw[d7 (by omega)]) (Ap ?_);have e:(GW l&&& 2^eD d=0)↔¬(GW l).testBit (eD d)=true:=by
  constructor
  .intro O K;have:(GW l&&& 2^eD d).testBit (eD d)=true:=by rw[s7,K,s6];simp
   rw[O,Nat.zero_testBit] at this;cases this
  .intro O;refine s0 λi=>?_;rw[s7,s6,Nat.zero_testBit];by_cases hi:eD d=i;subst hi;simp at O;rw[O];rfl;simp[hi]
 rw[UE] at e;apply decide_eq_decide.2;constructor;intro K;exact sB λY=>K (by rw[e.2 Y]);intro K Y;exact e.1 (by omega) K
theorem eZ{n:Nat}{d:DT}(K:n<=5)(O:∀d∈l,GD n d)(h:GD n d):NT F (GW l) d.1 d.2.1=some (GW (l++ [d])):=by
 have U:(2:Nat)^eD d<2^20:=sC (by decide) (SB K h);have hm:=VU K O;refine ED ?_;unfold NT;refine Ba (VQ K h) ?_;refine Ba (b:=GW l|||2^eD d) (by unfold P5;rw[d7 (by omega)]) (Ap (YT l d).symm)
theorem BN.pay{B:Int}{w:List Int}{n:Nat}{d:DT}(h:BN B w)(U:n<=5)(g:GD n d):BN (B+144) (Dd w d):=by
 obtain⟨K,Y,O,Z,ac,ag,ai⟩:=g;exact((h.add (i:=d.1) (v:=d.2.2) (V:=72) K (by omega) (by omega) (by omega)).add (i:=d.2.1) (v:= -d.2.2) (V:=72) O (by omega) (by omega) (by omega)).Ah (by omega)
theorem TH{α:Type} [DecidableEq α] {x:List α}{i:Nat}(hi:i<x.length):(x.take (i+1)).Nodup↔(x.take i).Nodup/\x[i] ∉ x.take i:=by
 rw[q4,d6 hi,rD,qO];constructor;rintro⟨K,_,O⟩;exact⟨K,λh=>O _ h _ (aj.2 V) V⟩;rintro⟨K,O⟩;exact⟨K,by simp,λa U b hb e=>O (by rw[aj] at hb;subst hb;subst e;exact U)⟩
theorem dU{o:OW}{x:List DT}(al:100<F)(h:VO o)(Y:∀d∈x,GD o.1.length d)(av:x.length<=8):
  NR F o x=some (if(x.map eD).Nodup then(if x.foldl Dd (BZ o)=z5 then none else some 9) else some 4):=by
 have Z:=h.n5;refine ED ?_;unfold NR;refine Cb (by omega) ?_;let⟨a1,am⟩:=NG al h;refine Ba a1 ?_;refine AJ (S:=λr=>(r=Sum.inl (some 4)/\¬(x.map eD).Nodup)∨(r=Sum.inr (x.foldl Dd (BZ o))/\(x.map eD).Nodup)) ?_ ?_
 .refine DL x.length (λi s=>s=((x.take i).foldl Dd (BZ o),GW (x.take i),(i:Int))/\((x.map eD).take i).Nodup/\BN (200+144*i) ((x.take i).foldl Dd (BZ o))) ⟨V,.nil,am.Ah (by omega)⟩ (by omega) ?_ ?_
  .rintro i _ hi ⟨rfl,K,hb⟩;unfold Py;refine B6 (by simp only;omega) (Bj (m:=i) V hi ?_);have O:=Y _ (j9 hi);have ac:∀d∈x.take i,GD o.1.length d:=λd hd=>Y d (ur hd);refine Ba (fy (by omega) O) (Cb (by simp) ?_);refine Ba (eP Z ac O) ?_;have ag:i<(x.map eD).length:=by simpa using hi
   have ai:(x.map eD)[i]=eD x[i]:=by simp
   rw[List.map_take];refine BB (λhm=>Ap ?_) (λhm=>?_);refine .inl ⟨V,λap=>?_⟩;have:=((TH ag).1 (ap.sublist (List.take_sublist _ _))).2;rw[ai] at this;exact this (su hm);refine Ba (eZ Z ac O) ?_;obtain⟨g1,g2,aw,ay,az,a0,a2⟩:=O;obtain⟨aq,_⟩:=Rt (F:=F) (d:=x[i]) hb (by omega) (by omega) (by omega) (by omega) (by omega) (by omega) (by omega);refine Ba aq (As.E ((i+1:Nat):Int) (by simp) ?_);refine Ap ⟨?_,(TH ag).2 ⟨K,by rw[ai];simpa using hm⟩,?_⟩;rw[q4,d6 hi,rD,rH];rfl;rw[q4,d6 hi,rD,rH];exact(BN.pay hb Z (Y _ (j9 hi))).Ah (by omega)
  .rintro _ ⟨rfl,K,hb⟩;unfold Py;refine Cb (by simp only;omega) (Ap ⟨_,V,.inr ⟨?_,?_⟩⟩);rw[qP];rwa[rj (by simp)] at K
 .rintro r (⟨rfl,K⟩ | ⟨rfl,K⟩);rw[d9 K];exact Ap V;rw[d7 K];simp only[Sum.elim_inr];by_cases U:x.foldl Dd (BZ o)=z5;rw[d7 U];exact Cb (λh=>h U) (Ap V);rw[d9 U];exact B6 U (Ap V)
def cN(j:Nat)(d:DT):Int:=(if(j:Int)=d.2.1 then d.2.2 else 0)+(if(j:Int)=d.1 then -d.2.2 else 0)
theorem Rn{w:List Int}{d:DT}(h:w.length=5):(Dd w d).length=5:=by unfold Dd F8;rw[qa,qa];exact h
theorem Rr{w:List Int}{d:DT}{n:Nat}(h:w.length=5)(U:n<=5)(g:GD n d)(j:Nat):gN (Dd w d) j=gN w j - cN j d:=by
 obtain⟨K,Y,O,Z,_⟩:=g;unfold Dd cN;rw[I1 (by unfold F8;rw[qa];exact h) O (by omega),I1 h K (by omega)];split<;>split<;>omega
theorem Nm{n:Nat}(K:n<=5):∀(x:List DT) (w:List Int),w.length=5->(∀d∈x,GD n d)->(x.foldl Dd w).length=5/\∀j,gN (x.foldl Dd w) j=gN w j - (x.map (cN j)).sum
 | [],w,h,_=>⟨h,by simp⟩
 | d::x,w,h,O=>by
  let⟨U,Y⟩:=Nm K x (Dd w d) (Rn h) (λe he=>O e (f8 _ he))
  refine⟨U,λj=>?_⟩
  rw[rv,Y,Rr h K (O d qw),q7,rE];omega
theorem W9(j:Nat):gN z5 j=0:=by
 unfold gN;rw[f7,tn];split<;>rfl
theorem bF{l l':List Int}(h:l.Perm l'):l.sum=l'.sum:=by
 induction h with
 | nil=>rfl
 | cons _ _ K=>rw[rE,rE,K]
 | swap a b l=>simp only[rE];omega
 | trans _ _ a b=>exact a.trans b
theorem Zk{n:Nat}{w:List Int}{x y:List DT}(K:n<=5)(hw:w.length=5)(O:∀d∈x,GD n d)(U:x.Perm y):x.foldl Dd w=y.foldl Dd w:=by
 let⟨a1,Y⟩:=Nm K x w hw O;let⟨Z,ac⟩:=Nm K y w hw (λd hd=>O d (U.mem_iff.2 hd));refine Uz a1 Z λj _=>?_;rw[Y,ac,bF (U.map (cN j))]
def S5(w:List Int):Int:=EK w λ_=>true
theorem iB{w:List Int}{d:DT}{n:Nat}(h:w.length=5)(U:n<=5)(g:GD n d):S5 (Dd w d)=S5 w:=by
 obtain⟨K,Y,O,Z,_⟩:=g;unfold S5 Dd;rw[OO (by unfold F8;rw[qa];exact h) O (by omega),OO h K (by omega)];simp;omega
theorem Vn(A:Nat->Bool):EK z5 A=0:=by unfold EK;simp[W9]
theorem Sy{o:OW}(h:VO o)(A:Nat->Bool): -72<=EK (BZ o) A/\EK (BZ o) A<=72:=by
 have O:=h.d8;have:∀l:List DT,(∀d∈l,VD o.1.length d)-> -(9*(l.length:Int))<=(l.map (s1 A)).sum/\(l.map (s1 A)).sum<=9*l.length:=by
  intro l
  induction l with
  | nil=>simp
  | cons d l K=>
   intro hd;have:=K λe he=>hd e (f8 _ he);let⟨_,_,_,_,_,U,Y⟩:=hd d qw;rw[q7,rE,qz];have: -9<=s1 A d/\s1 A d<=9:=by unfold s1;split<;>split<;>omega
   omega
 have k:=this o.2 h.ds;have e:=Q1 A o.2 z5 h.Xx V;rw[Vn] at e;show -72<=EK (o.2.foldl HX z5) A/\EK (o.2.foldl HX z5) A<=72;omega
theorem km{o:OW}(h:VO o):S5 (BZ o)=0:=by
 have:∀l:List DT,(l.map (s1 λ_=>true)).sum=0:=by
  intro l
  induction l with
  | nil=>rfl
  | cons d l K=>rw[q7,rE,K];unfold s1;simp;omega
 unfold S5 BZ;rw[Q1 _ _ _ h.Xx rfl,Vn,this];rfl
structure PI (n:Nat) (K:List Nat) (w:List Int) (i:Nat) (m:List Int) (out:List DT):Prop where
 ml:m.length=n
 gd:∀d∈out,GD n d
 Xu:∀k,i<k->k<n->gN (out.foldl Dd w) (K.getD k 0)=0
 rest:∀k,k<=i->k<n->gN m (K.getD k 0)=gN (out.foldl Dd w) (K.getD k 0)
 sub:∀A,∃B,EK (out.foldl Dd w) A=EK w B
 pl:∀d∈out,∃k j,i<k/\k<n/\j<k/\((d.1=((K.getD k 0:Nat):Int)/\d.2.1=((K.getD j 0:Nat):Int))∨(d.1=((K.getD j 0:Nat):Int)/\d.2.1=((K.getD k 0:Nat):Int)))
 nd:(out.map eD).Nodup
 ol:out.length+i+1<=n
def JU(out:List DT)(u v:Nat)(z:Int):List DT:=if 0<z then out++ [((u:Int),(v:Int),z)] else if z<0 then out++ [((v:Int),(u:Int),-z)] else out
theorem PI.step{n:Nat}{K:List Nat}{w:List Int}{i j:Nat}{m:List Int}{out:List DT}(h:PI n K w i m out)(ag:n<=5)(hw:w.length=5)(hb:∀A,-72<=EK w A/\EK w A<=72)(U:PN n K)(bb:0<i)(hi:i<n)(aw:j<i):
  PI n K w (i - 1) (m.set (K.getD j 0) (gN m (K.getD j 0)+gN m (K.getD i 0))) (JU out (K.getD j 0) (K.getD i 0) (gN m (K.getD i 0))):=by
 have be:=U.get hi;have hu:=U.get (show j<n by omega);have a5:K.getD j 0≠K.getD i 0:=λe=>by have:=U.inj (by omega) hi e;omega
 have ai:=h.rest i (oU _) hi;have e2:=h.rest j (by omega) (by omega);let⟨ay,bi⟩:=Nm ag out w hw h.gd;have bn: -72<=gN m (K.getD i 0)/\gN m (K.getD i 0)<=72:=by
  let⟨B,al⟩:=h.sub λx=>x==K.getD i 0;rw[Rd (by omega)] at al;rw[ai,al];exact hb B
 have O:∀d∈JU out (K.getD j 0) (K.getD i 0) (gN m (K.getD i 0)),GD n d:=by
  intro d hd;unfold JU at hd;split at hd;rcases gM.1 hd with hd | hd;exact h.gd d hd;rw[aj] at hd;subst hd;unfold GD;simp only;omega;split at hd;rcases gM.1 hd with hd | hd;exact h.gd d hd;rw[aj] at hd;subst hd;unfold GD;simp only;omega;exact h.gd d hd
 have ap:∀k,gN ((JU out (K.getD j 0) (K.getD i 0) (gN m (K.getD i 0))).foldl Dd w) k=if k=K.getD i 0 then 0 else if k=K.getD j 0 then gN (out.foldl Dd w) (K.getD j 0)+gN (out.foldl Dd w) (K.getD i 0) else gN (out.foldl Dd w) k:=by
  intro k;unfold JU at O ⊢;rw[← ai];split;rename_i Y;rw[d7 Y] at O;have g:=O _ (qG _ qw);rw[rH,rv,um,Rr ay ag g];unfold cN;simp only;by_cases k1:k=K.getD i 0;subst k1;rw[d7 rfl,d9 (by omega),d7 rfl];omega;rw[d9 (by omega),d9 k1];by_cases Z:k=K.getD j 0;subst Z;rw[d7 rfl,d7 rfl];omega;rw[d9 (by omega),d9 Z];omega
  .split;rename_i aq Y;rw[d9 aq,d7 Y] at O;have g:=O _ (qG _ qw);rw[rH,rv,um,Rr ay ag g];unfold cN;simp only;by_cases k1:k=K.getD i 0;subst k1;rw[d9 (by omega),d7 rfl,d7 rfl];omega;by_cases Z:k=K.getD j 0;subst Z;rw[d7 rfl,d9 (by omega),d9 k1,d7 rfl];omega;rw[d9 (by omega),d9 (by omega),d9 k1,d9 Z];omega
   .have Y:gN m (K.getD i 0)=0:=by omega
    by_cases k1:k=K.getD i 0;subst k1;rw[d7 rfl,← ai,Y];rw[d9 k1];by_cases Z:k=K.getD j 0;subst Z;rw[d7 rfl,Y];omega;rw[d9 Z]
 have a6:∀d:DT,GD n d->(d.1=((K.getD i 0:Nat):Int)/\d.2.1=((K.getD j 0:Nat):Int)∨d.1=((K.getD j 0:Nat):Int)/\d.2.1=((K.getD i 0:Nat):Int))->eD d ∉ out.map eD:=by
  intro d hd az hm;let⟨d',a0,e⟩:=qK.1 hm;let⟨k,l,a7,am,a2,a3⟩:=h.pl d' a0;have a1:K.getD k 0≠K.getD i 0:=λe=>by have:=U.inj am hi e;omega
  have bo:K.getD k 0≠K.getD j 0:=λe=>by have:=U.inj am (by omega) e;omega
  have:=Xb ag (h.gd d' a0) hd e;omega
 refine⟨by rw[qa];exact h.ml,O,λk a8 ac=>?_,λk a8 ac=>?_,λA=>?_,λd hd=>?_,?_,?_⟩;rw[ap];by_cases a4:k=i;subst a4;rw[d7 rfl];rw[d9 (λe=>a4 (U.inj ac hi e)),d9 (λe=>by have:=U.inj ac (show j<n by omega) e;omega)];exact h.Xu k (by omega) ac;rw[ap,d9 (λe=>by have:=U.inj ac hi e;omega)];by_cases av:k=j;subst av;rw[d7 rfl,← ai,← e2];unfold gN;rw[f7,qM (by rw[h.ml];exact hu)];rfl;rw[d9 (λe=>av (U.inj ac (by omega) e)),R7 (λe=>av (U.inj ac (by omega) e.symm))];exact h.rest k (by omega) ac
 .let⟨B,al⟩:=h.sub λx=>if x=K.getD i 0 then A (K.getD j 0) else A x
  exact⟨B,(TR (p:=K.getD i 0) (o:=K.getD j 0) (by omega) (by omega) a5 ap A).trans al⟩
 .unfold JU at hd;have old:d∈out->_:=λhd=>let ⟨k,l,a7,am,a2,a3⟩:=h.pl d hd;(⟨k,l,by omega,am,a2,a3⟩:∃k j,i - 1<k/\k<n/\j<k/\((d.1=((K.getD k 0:Nat):Int)/\d.2.1=((K.getD j 0:Nat):Int))∨(d.1=((K.getD j 0:Nat):Int)/\d.2.1=((K.getD k 0:Nat):Int))));split at hd;rcases gM.1 hd with hd | hd;exact old hd;rw[aj] at hd;subst hd;exact⟨i,j,by omega,hi,aw,.inr ⟨V,V⟩⟩;split at hd;rcases gM.1 hd with hd | hd;exact old hd;rw[aj] at hd;subst hd;exact⟨i,j,by omega,hi,aw,.inl ⟨V,V⟩⟩;exact old hd
 .have add:∀d:DT,GD n d->(d.1=((K.getD i 0:Nat):Int)/\d.2.1=((K.getD j 0:Nat):Int)∨d.1=((K.getD j 0:Nat):Int)/\d.2.1=((K.getD i 0:Nat):Int))->((out++ [d]).map eD).Nodup:=by
   intro d hd az;rw[qN,qO];refine⟨h.nd,by simp,λa a9 b hb e=>?_⟩;simp at hb;subst hb;subst e;exact a6 d hd az a9
  unfold JU at O ⊢;split;rename_i Y;rw[d7 Y] at O;exact add _ (O _ (qG _ qw)) (.inr ⟨V,V⟩);split;rename_i aq Y;rw[d9 aq,d7 Y] at O;exact add _ (O _ (qG _ qw)) (.inl ⟨V,V⟩);exact h.nd
 .have:=h.ol;unfold JU;split;rw[pJ,ro];omega;split;rw[pJ,ro];omega;omega
theorem PI.fin{n:Nat}{U:List Nat}{o:OW}{m:List Int}{out:List DT}(h:PI n U (BZ o) 0 m out)(Z:VO o)(al:o.1.length=n)(hw:(BZ o).length=5)(am:U.Perm (List.range n)):out.foldl Dd (BZ o)=z5:=by
 have ap:n<=5:=al▸Z.n5;have a0:2<=n:=al▸Z.n2;let⟨aw,ay⟩:=Nm ap out (BZ o) hw h.gd;have a1:U.length=n:=by rw[am.length_eq];simp
 have O:S5 (out.foldl Dd (BZ o))=0:=by
  have:∀(l:List DT) (w:List Int),w.length=5->(∀d∈l,GD n d)->S5 (l.foldl Dd w)=S5 w:=by
   intro l
   induction l with
   | nil=>exact λ_ _ _=>rfl
   | cons d l ac=>exact λw hw Y=>(ac _ (Rn hw) λe he=>Y e (f8 _ he)).trans (iB hw ap (Y d qw))
  rw[this _ _ hw h.gd,km Z]
 have K:∀j,j<5->j≠U.getD 0 0->gN (out.foldl Dd (BZ o)) j=0:=by
  intro j aq ag;rcases gD j n with av | av;let⟨k,az,e⟩:=List.getElem_of_mem (am.mem_iff.2 (qc.2 av));have ai:U.getD k 0=j:=(Jv az).trans e;have a2:k≠0:=λe=>ag (by rw[e] at ai;exact ai.symm);rw[← ai];exact h.Xu k (by omega) (by omega)
  .rw [ay,eG Z j (by omega)];have:∀l:List DT,(∀d∈l,GD n d)->(l.map (cN j)).sum=0:=by
    intro l
    induction l with
    | nil=>exact λ_=>rfl
    | cons d l ac=>
     intro Y;let⟨g1,g2,a3,a4,_⟩:=Y d qw;rw[q7,rE,ac λe he=>Y e (f8 _ he)];unfold cN;rw[d9 (by omega),d9 (by omega)];rfl
   rw[this out h.gd];rfl
 refine Uz aw V λj aq=>?_;rw[W9];by_cases ag:j=U.getD 0 0
 .unfold S5 EK at O;simp only[q1] at O;obtain rfl | rfl | rfl | rfl | rfl:j=0∨j=1∨j=2∨j=3∨j=4:=by omega
  rw[K 1 (by omega) (by omega),K 2 (by omega) (by omega),K 3 (by omega) (by omega),K 4 (by omega) (by omega)] at O;omega;rw[K 0 (by omega) (by omega),K 2 (by omega) (by omega),K 3 (by omega) (by omega),K 4 (by omega) (by omega)] at O;omega;rw[K 1 (by omega) (by omega),K 0 (by omega) (by omega),K 3 (by omega) (by omega),K 4 (by omega) (by omega)] at O;omega;rw[K 1 (by omega) (by omega),K 2 (by omega) (by omega),K 0 (by omega) (by omega),K 4 (by omega) (by omega)] at O;omega;rw[K 1 (by omega) (by omega),K 2 (by omega) (by omega),K 3 (by omega) (by omega),K 0 (by omega) (by omega)] at O;omega
 .exact K j aq ag
theorem eI(F:Nat)(o:OW):NU F o=f55 F o:=by
 have e:RI F o=PH F o:=by funext s;rfl
 unfold f55 NU;rw[e]
structure RP (o:OW) (x:List DT):Prop where
 gd:∀d∈x,GD o.1.length d
 nd:(x.map eD).Nodup
 z:x.foldl Dd (BZ o)=z5
 len:x.length+1<=o.1.length
theorem RP.perm{o:OW}{x y:List DT}(h:RP o x)(K:x.Perm y)(O:VO o)(hw:(BZ o).length=5):RP o y:=
 ⟨λd hd=>h.gd d (K.mem_iff.2 hd),(K.map eD).nodup_iff.1 h.nd,(Zk O.n5 hw h.gd K).symm.trans h.z,by rw[← K.length_eq];exact h.len⟩
theorem Su{l:List Int}{j:Nat}(h:j<l.length):ix l (j:Int)=some (gN l j):=by
 refine I7 (m:=j) V ?_;rw[d6 h,KV h]
variable{K:List Nat}
theorem Zy{k:Nat}{o:OW}{b av:H4}(aw:100<F)(h:VO o)(hb:BG k b)(ay:k<2000)(U:PN o.1.length K)(ai:K.Perm (List.range o.1.length)):
  As (Pal.iter (Nq F (K.map (λi:Nat=>(i:Int)),av)) F (b.1,b.2.1,b.2.2,(BZ o).take o.1.length,[],((o.1.length - 1:Nat):Int))) (λr=>RP o r.1/\BG (k+5) r.2):=by
 let⟨_,Y⟩:=NG aw h;have az:=h.n5;have a6:=h.n2;refine DL (o.1.length - 1) (λt s=>∃i,i=o.1.length - 1 - t/\s.2.2.2.2.2=(i:Int)/\BG (k+t) (s.1,s.2.1,s.2.2.1)/\PI o.1.length K (BZ o) i s.2.2.2.1 s.2.2.2.2.1) ⟨_,V,by simp,hb,?_⟩ (by omega) ?_ ?_;refine⟨by rw[rS,Y.1];omega,λd hd=>absurd hd pe,λk a0 al=>by omega,λk a0 al=>?_,λA=>⟨A,V⟩,λd hd=>absurd hd pe,.nil,by simp;omega⟩;have ay:=U.get al;rw[um,KV (by rw[rS,Y.1];omega),KV (by rw[Y.1];omega),List.getElem_take]
 .rintro t ⟨l,z,a1,m,out,c⟩ a7 ⟨i,hi,Z,ac,O⟩;simp only at Z ac O;subst Z;have a2:0<i:=by omega
  have ag:i<o.1.length:=by omega
  unfold Nq;refine B6 (by simp only;omega) ?_;simp only;have a8:K.length=o.1.length:=by rw[ai.length_eq];simp
  have am:∀q,q<o.1.length->ix (K.map λi:Nat=>(i:Int)) (q:Int)=some ((K.getD q 0:Nat):Int):=λq ap=>by
   refine I7 (m:=q) V ?_;rw[qI,d6 (by omega),ra,Jv (by omega)]
  refine Ba (am i ag) (As.E ((i:Int) - 1) V ?_);refine AJ (Ki ac (by omega) (by omega)) ?_;rintro⟨j,a9⟩ ⟨a3,a4,g2⟩;simp only at a3 a4 g2 ⊢;obtain⟨j,rfl⟩:∃q:Nat,j=(q:Int):=⟨j.toNat,by omega⟩;have a5:j<i:=by omega
  refine Ba (am j (by omega)) ?_;have bb:=U.get ag;have hu:=U.get (show j<o.1.length by omega);have be:=O.ml;have bd:∀q,q<=i-> -72<=gN m (K.getD q 0)/\gN m (K.getD q 0)<=72:=λq ap=>by
   let⟨B,aq⟩:=O.sub λx=>x==K.getD q 0;have bi:=U.get (show q<o.1.length by omega);rw[Rd (by omega)] at aq;rw[O.rest q ap (by omega),aq];exact Sy h B
  have bn:=bd i (oU _);have bo:=bd j (by omega);refine Ba (Su (by omega)) ?_;refine Ba (Su (by omega)) ?_;refine As.E _ V ?_;refine Ba (Su (by omega)) ?_;have bv:=O.ol;refine Ba (b:=JU out (K.getD j 0) (K.getD i 0) (gN m (K.getD i 0))) ?_ ?_;unfold JU;split;exact ED (Im (by omega) (Ap V));split;exact ED (Ba (ED (As.E _ V (Im (by omega) (Ap V)))) (Ap V));rfl
  refine As.E ((i - 1:Nat):Int) (by omega) (Ap ⟨i - 1,by omega,V,g2,?_⟩);simp only[q5];exact O.step az Y.1 (Sy h) U a2 ag a5
 .rintro⟨l,z,a1,m,out,c⟩ ⟨i,hi,Z,ac,O⟩;simp only at Z ac O;subst Z;obtain rfl:i=0:=by omega
  unfold Nq;refine Cb (by simp) (Ap ⟨_,V,⟨O.gd,O.nd,O.fin h V Y.1 ai,by have:=O.ol;omega⟩,ac.Ah (by omega)⟩)
theorem Zd{out:List DT}{b am:H4}(aq:100<F)(av:out.length<=5)(ag:PN out.length K)(ai:K.Perm (List.range out.length)):
  As (Pal.iter (Nw F (out,b) (K.map (λi:Nat=>(i:Int)),am)) F (List.replicate out.length (0,0,0),0)) (λr=>out.Perm r):=by
 have aw:K.length=out.length:=by rw[ai.length_eq];simp
 refine DL out.length (λt s=>s.2=(t:Int)/\s.1.length=out.length/\∀q,q<t->s.1[K.getD q 0]?=out[q]?) ⟨V,by simp,λq O=>by omega⟩ (by omega) ?_ ?_
 .rintro t ⟨l,c⟩ Z ⟨U,ac,Y⟩;simp only at U ac Y;subst U;unfold Nw;refine B6 (by simp only;omega) ?_;simp only;have hu:=ag.get Z;have al:ix (K.map λi:Nat=>(i:Int)) (t:Int)=some ((K.getD t 0:Nat):Int):=by
   refine I7 (m:=t) V ?_;rw[qI,d6 (by omega),ra,Jv (by omega)]
  refine Ba al (Bj (m:=K.getD t 0) V (by omega) ?_);refine Ba al (Bj (m:=t) V Z ?_);refine Bj (m:=K.getD t 0) V (by omega) (As.E ((t+1:Nat):Int) (by simp) ?_);refine Ap ⟨V,by simp[ac],λq O=>?_⟩;simp only[q5];by_cases e:q=t;subst e;rw[qM (by omega),d6 Z];rw[qD (λk=>e (ag.inj Z (by omega) k).symm)];exact Y q (by omega)
 .rintro⟨l,c⟩ ⟨U,ac,Y⟩;simp only at U ac Y;subst U;unfold Nw;refine Cb (by simp) (Ap ⟨_,V,?_⟩);simp only;have ap:out=K.map λp=>l.getD p (0,0,0):=by
   refine q3 λq=>?_;rcases gD q out.length with O | O;have:=ag.get O;rw[← Y q O,d6 (show K.getD q 0<l.length by omega),qI,d6 (show q<K.length by omega),ra,← Jv (l:=K) (d:=0) (by omega),Jv (l:=l) (by omega)];rw[qy O,qy (by simp;omega)]
  have e2:(List.range out.length).map (λp=>l.getD p (0,0,0))=l:=by
   refine q3 λq=>?_;rcases gD q out.length with O | O;rw[qI,sH O,ra,Jv (by omega),d6 (by omega)];rw[qy (by simp;omega),qy (by omega)]
  rw[ap];refine(ai.map _).trans ?_;rw[e2]
theorem cR{k:Nat}{o:OW}{b:H4}(K:100<F)(h:VO o)(hb:BG k b)(aw:k<900):As (NZ F b o) (λr=>RP o r.1/\BG (k+20) r.2):=by
 let⟨_,U⟩:=NG K h;have ai:=h.n5;have ay:=h.n2;have hlen:((BZ o).take o.1.length).length=o.1.length:=by rw[rS,U.1];omega
 unfold NZ;refine Ba ((eI F o).trans (fO K h)) ?_;rw[hlen];refine AJ (WK K hb (by omega) ai) ?_;rintro⟨az,a0⟩ ⟨al,am,Y,rfl,Z⟩;simp only at Z ⊢;have a1:al.length=o.1.length:=by rw[Y.length_eq];simp
 refine As.E ((o.1.length - 1:Nat):Int) (by simp;omega) (AJ (Zy K h Z (by omega) am Y) ?_);rintro⟨out,a2⟩ ⟨O,ac⟩;simp only at O ac ⊢;have a3:=O.len;refine Ba (b:=List.replicate out.length (0,0,0)) (by unfold Gy;rw[d7 (by omega)];simp) (AJ (WK K ac (by omega) (by omega)) ?_);rintro⟨pl,a4⟩ ⟨a5,ap,aq,rfl,ag⟩;simp only at ag ⊢;refine AJ (Zd K (by omega) ap aq) ?_;intro l av;exact Ap ⟨O.perm av h U.1,ag.Ah (by omega)⟩
open Go Go.Conc
variable {κ ν:Type}
variable {pk:Rp κ}{pv:Rp ν}{ka va:Bool}{E E' H:LH}
variable {P:Program}{s:St}{t tm te:TypeId}{X:Halt->St->Prop}{bk:Nat}{o:Obj}{xs:List (κ×ν)}{w:Value}{v0:ν}
section
variable [DecidableEq κ]
theorem KJ(x y:κ)(v:ν):∀xs:List (κ×ν),Bh (Ck xs x v) y=if y=x then some v else Bh xs y
 | []=>by
  unfold Ck Bh
  by_cases h:y=x;rw[d7 h];simp[h];rw[d9 h];simp[h]
 | z::U=>by
  have Y:=KJ x y v U;unfold Ck;by_cases h:x=z.1;rw[d7 h];by_cases K:y=x;rw[d7 K];unfold Bh;simp[K];rw[d9 K];unfold Bh;rw[sb (by simpa using K),sb (by simpa using λe=>K (e.trans h.symm))]
  .rw [d9 h];by_cases O:y=z.1;rw[d9 (λe=>h (e.symm.trans O))];unfold Bh;simp[O]
   .have:Bh (z::Ck U x v) y=Bh (Ck U x v) y:=by unfold Bh;rw[sb (by simpa using O)]
    rw[this,Y];by_cases K:y=x;rw[d7 K,d7 K];rw[d9 K,d9 K];unfold Bh;rw[sb (by simpa using O)]
open Classical in
variable {k:Value}{x:κ}
end
variable {J:Judge P}{Q:Gs_}{b:Frame}{n:Nat}{ds:Ld_}{ops:Ao_}{kk:Li_}{cs:Lf_}{L:Env}{S:List Seg}{fuel:Nat}{listed:Array Bool}
variable {u ty e:TypeId}{p:String}{af:Ae_}{g:On_}{rest:List Nat}{zv:Value}{x0:κ}{z0:ν}
section
variable [DecidableEq κ]
variable {m:Nat}
variable {d:Option Tmp}{x y z:Operand}{i:Nat}{k:Value}
end
end Pal
namespace Pal
abbrev CF:=Nat->Nat->Int
abbrev PU:=List (List (Int×Int))
def FV(C:CF)(x y c:Nat):CF:=λa b=>C a b - (if a=x/\b=c then 1 else 0)+(if a=y/\b=c then 1 else 0)
def JW(C:CF)(x y:Nat)(v:Nat->Nat):CF:=λa b=>C a b - (if a=x then(v b:Int) else 0)+(if a=y then(v b:Int) else 0)
def wS(v:Nat->Nat):Nat:=v 1+2*v 2+3*v 3+4*v 4+5*v 5+6*v 6+7*v 7+8*v 8+9*v 9
def SW(v:Nat->Nat)(lo:Nat):Prop:=∀b,v b≠0->lo<=b/\b<=9
def Ex(C:CF)(d:DT)(K:CF):Prop:=∃v,SW v 1/\(∀b,(v b:Int)<=C d.1.toNat b)/\(wS v:Int)=d.2.2/\K=JW C d.1.toNat d.2.1.toNat v
inductive HS (x y:Nat):Nat->Nat->CF->CF->Prop
 | done {lo:Nat}{C:CF}:HS x y lo 0 C C
 | step {lo left c:Nat}{C K:CF}:lo<=c->c<=9->c<=left->0<C x c->HS x y c (left - c) (FV C x y c) K->HS x y lo left C K
def MR(v:Nat->Nat)(c:Nat):Nat->Nat:=λb=>if b=c then v b+1 else v b
def L6(v:Nat->Nat)(c:Nat):Nat->Nat:=λb=>if b=c then v b - 1 else v b
variable{v:Nat->Nat}
theorem dW{c:Nat}(K:1<=c)(O:c<=9):wS (MR v c)=wS v+c:=by
 have:c=1∨c=2∨c=3∨c=4∨c=5∨c=6∨c=7∨c=8∨c=9:=by omega
 rcases this with rfl | rfl | rfl | rfl | rfl | rfl | rfl | rfl | rfl<;>simp[wS,MR]<;>omega
theorem cm{c:Nat}(K:1<=c)(O:c<=9)(U:0<v c):wS (L6 v c)+c=wS v:=by
 have:c=1∨c=2∨c=3∨c=4∨c=5∨c=6∨c=7∨c=8∨c=9:=by omega
 rcases this with rfl | rfl | rfl | rfl | rfl | rfl | rfl | rfl | rfl<;>simp[wS,L6]<;>omega
variable{lo:Nat}{C:CF}
theorem gG{x y:Nat}(Z:x≠y){left:Nat}{K:CF}(h:HS x y lo left C K):1<=lo->(∀b,0<=C x b)->∃v,SW v lo/\(∀b,(v b:Int)<=C x b)/\wS v=left/\K=JW C x y v:=by
 induction h with
 | @done lo C=>
  intro _ O;exact⟨λ_=>0,λb hb=>absurd V hb,λb=>by simpa using O b,V,by funext a b;simp[JW]⟩
 | @step lo left c C K al ac am ap _ ag=>
  intro aq O;obtain⟨v,v1,v2,ai,v4⟩:=ag (by omega) (λb=>by
   have:=O b
   unfold FV
   by_cases e:b=c;subst e;simp[Z];omega
   .simp [e];omega)
  refine⟨MR v c,λb hb=>?_,λb=>?_,?_,?_⟩;unfold MR at hb;by_cases e:b=c;omega;rw[d9 e] at hb;have:=v1 b hb;omega;have:=v2 b;unfold FV at this;unfold MR;by_cases e:b=c;subst e;simp[Z] at this;simp;omega;simp[e] at this;simp[e];omega;rw[dW (by omega) ac,ai];omega;rw[v4];funext a b;unfold JW FV MR;by_cases e:b=c;by_cases U:a=x<;>by_cases Y:a=y<;>simp[e,U,Y]<;>omega;by_cases U:a=x<;>by_cases Y:a=y<;>simp[e,U,Y]
theorem Ud(v:Nat->Nat):∀k,(∃b,b<k/\v b≠0)->∃c,c<k/\v c≠0/\∀b,b<c->v b=0
 | 0,⟨b,hb,_⟩=>by omega
 | k+1,⟨b,hb,K⟩=>by
  by_cases h:∃b,b<k/\v b≠0
  .let⟨c,Z,U,Y⟩:=Ud v k h
   exact⟨c,by omega,U,Y⟩
  .have O:∀b,b<k->v b=0:=λb hb=>rZ λq=>h ⟨b,hb,q⟩;have:b=k:=by
    rcases gD b k with q | q;exact absurd (O b q) K;omega
   subst this;exact⟨b,by omega,K,O⟩
theorem iF{x y:Nat}(ag:x≠y):∀(left lo:Nat) (C:CF) (v:Nat->Nat),1<=lo->SW v lo->(∀b,(v b:Int)<=C x b)->wS v=left->HS x y lo left C (JW C x y v):=by
 intro left
 induction left using Nat.strongRecOn with
 | _ left ai=>
  intro lo C v am O Z hw;by_cases ac:left=0
  .subst ac;have K:v=λ_=>0:=by
    funext b;by_cases hb:1<=b/\b<=9
    .unfold wS at hw;have:b=1∨b=2∨b=3∨b=4∨b=5∨b=6∨b=7∨b=8∨b=9:=by omega
     rcases this with rfl | rfl | rfl | rfl | rfl | rfl | rfl | rfl | rfl<;>omega
    .exact rZ λq=>hb (by have:=O b q;omega)
   have e:JW C x y v=C:=by subst K;funext a b;simp[JW]
   rw[e];exact .done
  .have hex:∃b,b<10/\v b≠0:=by
    refine rZ λq=>ac ?_;have K:∀b,b<10->v b=0:=λb hb=>rZ λr=>q ⟨b,hb,r⟩;rw[← hw];unfold wS;rw[K 1,K 2,K 3,K 4,K 5,K 6,K 7,K 8,K 9]<;>omega
   let⟨c,c1,c2,c3⟩:=Ud v 10 hex;let⟨s1,s2⟩:=O c c2;have ap:=cm (v:=v) (c:=c) (by omega) s2 (by omega);have al:=ai (left - c) (by omega) c (FV C x y c) (L6 v c) (by omega) (λb hb=>?_) (λb=>?_) (by omega)
   .refine .step (c:=c) s1 s2 (by omega) (by have:=Z c;omega) ?_;have e:JW (FV C x y c) x y (L6 v c)=JW C x y v:=by
     funext a b;unfold JW FV L6;by_cases e:b=c;by_cases U:a=x<;>by_cases Y:a=y<;>simp[e,U,Y]<;>omega;by_cases U:a=x<;>by_cases Y:a=y<;>simp[e,U,Y]
    rw[← e];exact al
   unfold L6 at hb;by_cases e:b=c;omega;rw[d9 e] at hb;have:=O b hb;refine⟨?_,this.2⟩;rcases gD b c with q | q;exact absurd (c3 b q) hb;exact q;have:=Z b;unfold FV L6;by_cases e:b=c;subst e;simp[ag];omega;simp[e];exact this
def CO:List Nat->List Nat->CF
 | l::L,o::w,a,b=>CO L w a b+if a=o/\b=l then 1 else 0
 | _,_,_,_=>0
theorem RJ:∀(L w:List Nat) (a b:Nat),0<=CO L w a b
 | [],w,a,b=>by unfold CO;exact tr _
 | _::_,[],a,b=>by unfold CO;exact tr _
 | l::L,o::w,a,b=>by have:=RJ L w a b;unfold CO;split<;>omega
theorem Vw:∀(L w:List Nat) (a b:Nat),CO L w a b<=L.length
 | [],w,a,b=>by unfold CO;simp
 | _::_,[],a,b=>by unfold CO;omega
 | l::L,o::w,a,b=>by have:=Vw L w a b;unfold CO;rw[qz];split<;>omega
theorem VR{x y c:Nat}:∀{L w:List Nat},L.length=w.length->0<CO L w x c->∃w':List Nat,w'.length=w.length/\(∀o∈w',o∈w∨o=y)/\CO L w'=FV (CO L w) x y c
 | [],[],_,h=>by unfold CO at h;omega
 | [],_::_,h,_=>by simp at h
 | _::_,[],h,_=>by simp at h
 | l::L,o::w,U,h=>by
  by_cases O:x=o/\c=l;refine⟨y::w,V,λz K=>?_,?_⟩;rcases gv.1 K with rfl | K;exact .inr V;exact .inl (f8 _ K);funext a b;obtain⟨rfl,rfl⟩:=O;unfold FV;simp only[CO];by_cases Y:a=x/\b=c<;>by_cases e2:a=y/\b=c<;>simp[Y,e2]<;>omega
  .have Z:0<CO L w x c:=by
    unfold CO at h;rw[d9 O] at h;omega
   obtain⟨w',ac,ag,ai⟩:=VR (L:=L) (w:=w) (by simpa using U) Z;refine⟨o::w',by simp[ac],λz K=>?_,?_⟩;rcases gv.1 K with rfl | K;exact .inl qw;rcases ag z K with q | q;exact .inl (f8 _ q);exact .inr q;funext a b;have:=uy (uy ai a) b;simp only[CO,FV] at this ⊢;omega
theorem OG(l o:Nat)(L w:List Nat)(a b:Nat):CO (l::L) (o::w) a b=CO L w a b+if a=o/\b=l then 1 else 0:=rfl
def DD(C:CF)(x:Nat):Nat->Nat
 | 0=>0
 | k+1=>(C x (9 - k)).toNat+DD C x k
theorem Rc{C:CF}{x:Nat}(h:∀b,C x b=0):∀k,DD C x k=0
 | 0=>rfl
 | k+1=>by
  show(C x (9 - k)).toNat+DD C x k=0
  rw[h,Rc h k];rfl
theorem UD(x l o:Nat)(L w:List Nat):∀k,k<=9->DD (CO (l::L) (o::w)) x k=DD (CO L w) x k+if x=o/\l<=9/\9<k+l then 1 else 0
 | 0,_=>by rw[d9 (by omega)];rfl
 | k+1,O=>by
  show(CO (l::L) (o::w) x (9 - k)).toNat+DD (CO (l::L) (o::w)) x k=(CO L w x (9 - k)).toNat+DD (CO L w) x k+_
  have U:=RJ L w x (9 - k)
  rw[UD x l o L w k (by omega),OG]
  by_cases e:x=o;by_cases e2:9 - k=l;rw[d7 ⟨e,e2⟩,d9 (by omega),d7 (by omega)];omega;rw[d9 (λq=>e2 q.2)];by_cases K:l<=9/\9<k+l;rw[d7 ⟨e,K⟩,d7 (by omega)];omega;rw[d9 (λq=>K q.2),d9 (by omega)];omega;rw[d9 (λq=>e q.1),d9 (λq=>e q.1),d9 (λq=>e q.1)];omega
theorem WM(x:Nat):∀(L w:List Nat) (k:Nat),k<=9->DD (CO L w) x k<=L.length
 | [],w,k,_=>by rw[Rc (λb=>by unfold CO;rfl)];exact qV _
 | _::_,[],k,_=>by rw[Rc (λb=>by unfold CO;rfl)];exact qV _
 | l::L,o::w,k,K=>by
  have:=WM x L w k K
  rw[UD x l o L w k K,qz]
  split<;>omega
theorem fQ{x y c:Nat}(O:x≠y)(Y:c<=9)(Z:1<=c)(ac:0<C x c):DD (FV C x y c) x (10 - c)+1=DD C x (10 - c):=by
 have lower:∀k,k<=9 - c->DD (FV C x y c) x k=DD C x k:=by
  intro k
  induction k with
  | zero=>intro _;rfl
  | succ k U=>
   intro K;simp only[DD];rw[U (by omega)];congr 1;unfold FV;rw[d9 (by omega),d9 (by omega)];simp
 obtain⟨k,K⟩:∃k,10 - c=k+1:=⟨9 - c,by omega⟩;rw[K];simp only[DD];rw[lower k (by omega),show 9 - k=c by omega];unfold FV;rw[d7 ⟨rfl,rfl⟩,d9 (λq=>O q.1)];omega
structure SP (n:Nat) (L:List Nat) (p:PU):Prop where
 len:p.length=n
 keys:∀xs∈p,∀K∈xs,0<=K.1/\K.1<10
 own:∃w:List Nat,w.length=L.length/\(∀o∈w,o<n)/\AK p=CO L w
variable{p:PU}
theorem SP.nn{n:Nat}{L:List Nat}(h:SP n L p)(a b:Nat):0<=AK p a b:=by obtain⟨w,_,_,e⟩:=h.own;rw[e];exact RJ _ _ _ _
theorem SP.le{n:Nat}{L:List Nat}(h:SP n L p)(a b:Nat):AK p a b<=L.length:=by obtain⟨w,_,_,e⟩:=h.own;rw[e];exact Vw _ _ _ _
theorem Q4{κ ν:Type} [DecidableEq κ] (x y:κ):∀xs:List (κ×ν),Bh (Ed xs x) y=if y=x then none else Bh xs y
 | []=>by simp[Ed,Bh]
 | z::xs=>by
  have U:=Q4 x y xs
  unfold Ed at U ⊢
  by_cases O:x=z.1
  .rw [t9 (by simpa using O),U]
   by_cases K:y=x;rw[d7 K,d7 K];rw[d9 K,d9 K];have:y≠z.1:=λe=>K (e.trans O.symm);simp[Bh,this]
  .rw [ua (by simpa using O)];by_cases K:y=z.1;rw[d9 (λe=>O (e.symm.trans K))];simp[Bh,K]
   .have Y:Bh (z::xs.filter λy=>decide (x≠y.1)) y=Bh (xs.filter λy=>decide (x≠y.1)) y:=by simp[Bh,K]
    have e2:Bh (z::xs) y=Bh xs y:=by simp[Bh,K]
    rw[Y,e2,U]
theorem Re{κ ν:Type} [DecidableEq κ] {x:κ}{v:ν}{K:κ×ν}:∀{xs:List (κ×ν)},K∈Ck xs x v->K.1=x∨∃u,(K.1,u)∈xs
 | [],h=>by cases aj.1 h;exact .inl rfl
 | y::ys,h=>by
  unfold Ck at h
  split at h;rcases gv.1 h with rfl | h;exact .inl V;exact .inr ⟨K.2,f8 _ h⟩;rcases gv.1 h with rfl | h;exact .inr ⟨K.2,qw⟩;rcases Re h with h | ⟨u,h⟩;exact .inl h;exact .inr ⟨u,f8 _ h⟩
theorem dT{F n x y c:Nat}{L:List Nat}(bb:n<=5)(h:SP n L p)(be:L.length<=100)(bi:x<n)(bn:y<n)(av:x≠y)(bo:c<10)(aw:0<AK p x c):
  ∃q,MK F p (x:Int) (y:Int) (c:Int)=some q/\SP n L q/\AK q=FV (AK p) x y c:=by
 have a0:=h.len;have ac:x<p.length:=by omega
 have ai:y<p.length:=by omega
 have ex:p[x]=p.getD x []:=by rw[f7,d6 ac];rfl
 have al:p[y]=p.getD y []:=by rw[f7,d6 ai];rfl
 have a1:=h.le x c;have a2:=h.le y c;have a3:=h.nn y c;unfold AK at aw a1 a2 a3;have a4:MK F p (x:Int) (y:Int) (c:Int)=some ((p.set x (if(Bh (Ck p[x] (c:Int) ((Bh p[x] (c:Int)).getD 0 - 1)) (c:Int)).getD 0=0 then Ed (Ck p[x] (c:Int) ((Bh p[x] (c:Int)).getD 0 - 1)) (c:Int) else Ck p[x] (c:Int) ((Bh p[x] (c:Int)).getD 0 - 1))).set y (Ck p[y] (c:Int) ((Bh p[y] (c:Int)).getD 0+1))):=by
  refine ED ?_;unfold MK;refine Bj (m:=x) V ac (Bj (m:=y) V ai ?_);refine Ba (b:=List.replicate p.length (Go.Value.map none)) (by unfold Gy;rw[d7 (by omega)];simp) (Cb (by omega) ?_);refine LA _ V (by rw[ex];omega) (by rw[ex];omega) (LA _ V (by rw[al];omega) (by rw[al];omega) ?_);refine Ap ?_;rw[q5,q5]
 refine⟨_,a4,?_⟩;have ay:AK ((p.set x (if(Bh (Ck p[x] (c:Int) ((Bh p[x] (c:Int)).getD 0 - 1)) (c:Int)).getD 0=0 then Ed (Ck p[x] (c:Int) ((Bh p[x] (c:Int)).getD 0 - 1)) (c:Int) else Ck p[x] (c:Int) ((Bh p[x] (c:Int)).getD 0 - 1))).set y (Ck p[y] (c:Int) ((Bh p[y] (c:Int)).getD 0+1)))=FV (AK p) x y c:=by
  funext a b;unfold AK FV;rw[f7,qT,qT];by_cases am:y=a;subst am;rw[d7 rfl,d7 (by rw[qa];omega),d9 (λq:y=x/\b=c=>av q.1.symm)];simp only[Option.getD_some,al];rw[KJ];by_cases K:b=c;subst K;simp;rw[d9 (by omega),d9 (λq=>K q.2)];simp
  .rw [d9 am];by_cases e2:x=a
   .subst e2;rw[d7 rfl,d7 (by omega),d9 (λq:x=y/\b=c=>av q.1)];simp only[Option.getD_some,ex];have az:∀z:Int,Bh (Ck (p.getD x []) (c:Int) z) (c:Int)=some z:=λz=>by rw[KJ,d7 rfl]
    rw[az,Option.getD_some];by_cases K:b=c;subst K;by_cases O:(Bh (p.getD x []) (b:Int)).getD 0 - 1=0;rw[d7 O,Q4,d7 rfl,d7 ⟨trivial,rfl⟩,Option.getD_none];omega;rw[d9 O,az,d7 ⟨trivial,rfl⟩,Option.getD_some];omega
    .have ap:¬((b:Int)=(c:Int)):=by omega
     rw[d9 (λq:True/\b=c=>K q.2)];by_cases O:(Bh (p.getD x []) (c:Int)).getD 0 - 1=0;rw[d7 O,Q4,d9 ap,KJ,d9 ap];omega;rw[d9 O,KJ,d9 ap];omega
   .rw [d9 e2,d9 (λq=>e2 q.1.symm),d9 (λq=>am q.1.symm)];show(Bh (p[a]?.getD []) (b:Int)).getD 0=(Bh (p.getD a []) (b:Int)).getD 0 - 0+0;rw[f7];omega
 refine⟨⟨by simp[a0],λxs U Y Z=>?_,?_⟩,ay⟩
 .have aq:∀(ag:List (Int×Int)) (u:Int),ag∈p->Y∈Ck ag (c:Int) u->0<=Y.1/\Y.1<10:=by
   intro ag u a5 a6;rcases Re a6 with q | ⟨r,q⟩;rw[q];omega;exact h.keys ag a5 (Y.1,r) q
  rcases rX U with U | rfl;rcases rX U with U | rfl;exact h.keys xs U Y Z;split at Z;exact aq _ _ (j9 ac) (sP.1 Z).1;exact aq _ _ (j9 ac) Z;exact aq _ _ (j9 ai) Z
 .obtain⟨w,w1,w2,w3⟩:=h.own;have a7:0<CO L w x c:=by rw[← w3];exact aw
  let⟨w',v1,v2,a8⟩:=VR (y:=y) w1.symm a7;refine⟨w',by omega,λo a9=>?_,by rw[ay,a8,w3]⟩;rcases v2 o a9 with q | q;exact w2 o q;omega
theorem bH(C:CF)(x:Nat){c:Nat}(O:c<=9):DD C x (10 - c)=(C x c).toNat+DD C x (10 - (c+1)):=by
 obtain⟨k,K⟩:∃k,10 - c=k+1:=⟨9 - c,by omega⟩;rw[K,show 10 - (c+1)=k by omega];show(C x (9 - k)).toNat+DD C x k=_;rw[show 9 - k=c by omega]
structure VT (n:Nat) (d:DT):Prop where
 x0:0<=d.1
 x1:d.1<(n:Int)
 y0:0<=d.2.1
 y1:d.2.1<(n:Int)
 ne:d.1≠d.2.1
 p0:1<=d.2.2
 p1:d.2.2<=72
variable{d:DT}
theorem dY{F n:Nat}{L:List Nat}(a5:n<=5)(b6:L.length<=15)(hd:VT n d)(ca:100<F):∀(N left lo:Nat) (p:PU) (acc:List PU),left<N->left<=100->1<=lo->SP n L p->acc.length+2^DD (AK p) d.1.toNat (10 - lo)<=2^20->
  As (NA N F p (lo:Int) (left:Int) acc d) (λout=>∃new,out=acc++new/\new.length<=2^DD (AK p) d.1.toNat (10 - lo)/\(∀q∈new,SP n L q/\HS d.1.toNat d.2.1.toNat lo left (AK p) (AK q))/\∀O,HS d.1.toNat d.2.1.toNat lo left (AK p) O->∃q∈new,AK q=O):=by
 obtain⟨x0,x1,y0,y1,cc,-,-⟩:=hd;intro N
 induction N with
 | zero=>intro left lo p acc h;omega
 | succ N a6=>
  intro left lo p acc ce ci co ag hb;have hlen:=ag.len;have a7:d.1.toNat<n:=by omega
  have a8:d.2.1.toNat<n:=by omega
  have a0:d.1.toNat≠d.2.1.toNat:=by omega
  have a9:1<=2^DD (AK p) d.1.toNat (10 - lo):=tk;unfold NA PE;refine BB (λbb=>?_) (λbb=>?_)
  .obtain rfl:left=0:=by omega
   refine Im (by omega) (Ap ⟨[p],V,a9,λq ap=>?_,λO h=>?_⟩);cases aj.1 ap;exact⟨ag,.done⟩
   .refine⟨p,aj.2 V,?_⟩;cases h with
    | done=>rfl
    | step a1 be a2=>omega
  .refine AJ (S:=λout=>∃new,out=acc++new/\new.length<=2^DD (AK p) d.1.toNat (10 - lo)/\(∀q∈new,SP n L q/\HS d.1.toNat d.2.1.toNat lo left (AK p) (AK q))/\∀O,HS d.1.toNat d.2.1.toNat lo left (AK p) O->∃q∈new,AK q=O) ?_ (λr bi=>Ap bi);refine DL (min left 9+1 - lo) (λi s=>s.2=((lo+i:Nat):Int)/\∃new,s.1=acc++new/\new.length+2^DD (AK p) d.1.toNat (10 - (lo+i))<=2^DD (AK p) d.1.toNat (10 - lo)/\(∀q∈new,SP n L q/\HS d.1.toNat d.2.1.toNat lo left (AK p) (AK q))/\∀K,lo<=K->K<lo+i->K<=left->0<AK p d.1.toNat K->∀O,HS d.1.toNat d.2.1.toNat K (left - K) (FV (AK p) d.1.toNat d.2.1.toNat K) O->∃q∈new,AK q=O)
    ⟨rfl,[],by simp,by simp,(λq ap=>by cases ap),(λK cp ct=>by omega)⟩ (by omega) ?_ ?_
   .rintro i ⟨s,z⟩ hi ⟨Z,new,ac,aq,ai,al⟩;simp only at Z ac;subst Z;subst ac;have av:lo+i<=9:=by omega
    have bn:lo+i<=left:=by omega
    have cw:=bH (AK p) d.1.toNat av;have cy:=ag.nn d.1.toNat (lo+i);unfold Pb;refine B6 (by simp only;omega) ?_;have bo:ix p d.1=some (p.getD d.1.toNat []):=I7 (m:=d.1.toNat) (by omega) (by rw[f7,d6 (by omega)];rfl);refine Ba bo ?_;refine AJ (S:=λs=>∃Y,s=acc++Y/\Y.length+2^DD (AK p) d.1.toNat (10 - (lo+i+1))<=2^DD (AK p) d.1.toNat (10 - lo)/\(∀q∈Y,SP n L q/\HS d.1.toNat d.2.1.toNat lo left (AK p) (AK q))/\∀K,lo<=K->K<lo+i+1->K<=left->0<AK p d.1.toNat K->∀O,HS d.1.toNat d.2.1.toNat K (left - K) (FV (AK p) d.1.toNat d.2.1.toNat K) O->∃q∈Y,AK q=O) ?_ ?_
    .refine BB (λU=>?_) (λU=>?_)
     .have U:0<AK p d.1.toNat (lo+i):=U;refine As.E ((left - (lo+i):Nat):Int) (by simp only;omega) ?_;obtain⟨q,a3,bv,aw⟩:=dT (F:=F) a5 ag (by omega) a7 a8 a0 (show lo+i<10 by omega) U;rw[show((d.1.toNat:Nat):Int)=d.1 by omega,show((d.2.1.toNat:Nat):Int)=d.2.1 by omega] at a3;refine Ba a3 ?_;have hm:=fQ a0 av (by omega) U;rw[← aw] at hm;have c0:2^DD (AK p) d.1.toNat (10 - (lo+i))=2*2^DD (AK q) d.1.toNat (10 - (lo+i)):=by
       rw[← hm,tA];omega
      have hle:2^DD (AK p) d.1.toNat (10 - (lo+i+1))<=2^DD (AK q) d.1.toNat (10 - (lo+i)):=q0 (by omega) (by omega);refine AJ (a6 (left - (lo+i)) (lo+i) q (acc++new) (by omega) (by omega) (by omega) bv ?_) ?_;rw[pJ];omega
      .rintro r ⟨n2,rfl,c1,bw,bx⟩;refine Ap ⟨new++n2,by rw[pE],?_,λu hu=>?_,λK k1 bz ay am O hC=>?_⟩;rw[pJ];omega;rcases gM.1 hu with hu | hu;exact ai u hu;let⟨b0,a4⟩:=bw u hu;rw[aw] at a4;exact⟨b0,.step (by omega) av bn U a4⟩
       .rcases gD K (lo+i) with az | b1;let⟨u,hu,e⟩:=al K k1 az ay am O hC;exact⟨u,qZ _ hu,e⟩
        .obtain rfl:K=lo+i:=by omega
         rw[← aw] at hC;let⟨u,hu,e⟩:=bx O hC;exact⟨u,qG _ hu,e⟩
     .have U:¬0<AK p d.1.toNat (lo+i):=U;refine Ap ⟨new,V,?_,ai,λK k1 bz ay am=>?_⟩;rw[show DD (AK p) d.1.toNat (10 - (lo+i+1))=DD (AK p) d.1.toNat (10 - (lo+i)) by omega];exact aq
      .rcases gD K (lo+i) with az | b1;exact al K k1 az ay am
       .obtain rfl:K=lo+i:=by omega
        exact absurd am U
    .rintro s ⟨Y,rfl,b2,e2,b3⟩;exact As.E ((lo+(i+1):Nat):Int) (by simp only;omega) (Ap ⟨V,Y,V,b2,e2,b3⟩)
   .rintro⟨s,z⟩ ⟨Z,new,ac,aq,ai,al⟩;simp only at Z ac;subst Z;subst ac;unfold Pb;refine Cb (by simp only;omega) (Ap ⟨_,V,new,V,qW (Nat.le_add_right _ _) aq,ai,λO h=>?_⟩);cases h with
    | done=>omega
    | step a1 be a2 b4 b5=>exact al _ a1 (by omega) a2 b4 _ b5
theorem VF{F n:Nat}{L:List Nat}(ac:n<=5)(U:L.length<=15)(hd:VT n d)(ag:100<F)(O:SP n L p):
  As (f186 F p d) (λl=>l.length<=2^15/\(∀q∈l,SP n L q/\Ex (AK p) d (AK q))/\∀K,Ex (AK p) d K->∃q∈l,AK q=K):=by
 have Y:d.1.toNat≠d.2.1.toNat:=by have:=hd.ne;have:=hd.x0;have:=hd.y0;omega
 have ai:DD (AK p) d.1.toNat (10 - 1)<=15:=by
  obtain⟨w,_,_,e⟩:=O.own;rw[e];exact qW (WM _ L w 9 (by omega)) U
 have Z:2^DD (AK p) d.1.toNat (10 - 1)<=2^15:=q0 (by omega) ai;have az:=hd.p0;have a0:=hd.p1;unfold f186;refine AJ (S:=λl=>l.length<=2^15/\(∀q∈l,SP n L q/\Ex (AK p) d (AK q))/\∀K,Ex (AK p) d K->∃q∈l,AK q=K) ?_ (λr al=>Ap al);unfold SG;have:=dY ac U hd ag F d.2.2.toNat 1 p [] (by omega) (by omega) (by omega) O (by rw[List.length_nil,rO];exact qW Z (by decide));rw[show((d.2.2.toNat:Nat):Int)=d.2.2 by omega] at this;refine As.Ah this ?_;rintro out ⟨new,rfl,am,ap,aq⟩;refine⟨qW am Z,λq av=>?_,λK hC=>?_⟩;let⟨a1,aw⟩:=ap q av;let⟨v,v1,v2,ay,v4⟩:=gG Y aw (oU 1) (O.nn _);exact⟨a1,v,v1,v2,by omega,v4⟩;obtain⟨v,v1,v2,ay,rfl⟩:=hC;exact aq _ (iF Y _ 1 _ v (oU 1) v1 v2 (by omega))
def Fh(C:CF):List (List Int):=(List.range 5).map λa=>(List.range 10).map λb=>C a b
theorem VM{F n:Nat}{L:List Nat}(U:n<=5)(O:SP n L p):f187 F p=some (Fh (AK p)):=by
 have h:p.length<=5/\(p.all λxs=>xs.all λK=>decide (0<=K.1/\K.1<10))=true:=⟨by rw[O.len];exact U,qs.2 λxs Y=>qs.2 λK Z=>rg (O.keys xs Y K Z)⟩;unfold f187;rw[d7 h];rfl
variable{a b:Nat}
theorem SP.out{n:Nat}{L:List Nat}(Y:n<=5)(O:SP n L p)(h:5<=a∨10<=b):AK p a b=0:=by
 unfold AK;rcases h with h | h;rw[f7,qy (by rw[O.len];omega)];rfl
 .have:Bh (p.getD a []) (b:Int)=none:=by
   unfold Bh;rw[Option.map_eq_none_iff,sj];intro U K;rcases gD a p.length with q | q;rw[f7,d6 q] at K;have:=O.keys _ (j9 q) U K;simp;omega;rw[f7,qy q] at K;cases K
  rw[this];rfl
theorem WJ{n:Nat}{L:List Nat}{q:PU}(U:n<=5)(Z:SP n L p)(ac:SP n L q)(h:Fh (AK p)=Fh (AK q)):AK p=AK q:=by
 funext a b;by_cases Y:5<=a∨10<=b;rw[Z.out U Y,ac.out U Y];have K:=qm (λl=>l[a]?) h;simp only[Fh,qI] at K;rw[sH (by omega)] at K;have O:=qm (λl=>l[b]?) (f6 K);simp only[qI] at O;rw[sH (by omega)] at O;exact f6 O
def NX(n:Nat):Nat->List (List Nat)
 | 0=>[[]]
 | k+1=>(List.range n).flatMap λx=>(NX n k).map (x::·)
theorem Uv{n:Nat}:∀{l:List Nat},(∀x∈l,x<n)->l∈NX n l.length
 | [],_=>aj.2 rfl
 | x::l,h=>List.mem_flatMap.2 ⟨x,qc.2 (h x qw),qK.2 ⟨l,Uv λy K=>h y (f8 _ K),rfl⟩⟩
theorem UQ(n:Nat):∀k,(NX n k).length=n^k
 | 0=>rfl
 | k+1=>by
  unfold NX
  rw[List.length_flatMap]
  simp only[r6,UQ n k]
  rw[List.map_const',List.sum_replicate_nat,sT,tA,Nat.mul_comm]
theorem Mi{α:Type} [DecidableEq α]:∀{l m:List α},l.Nodup->(∀x∈l,x∈m)->l.length<=m.length
 | [],m,_,_=>qV _
 | x::l,m,h,K=>by
  let⟨Y,Z⟩:=sM.1 h
  have O:=K x qw
  have:=Mi (l:=l) (m:=m.erase x) Z λy U=>(List.mem_erase_of_ne (λe=>by subst e;exact Y U)).2 (K y (f8 _ U))
  rw[List.length_erase_of_mem O] at this
  have:=List.length_pos_of_mem O
  rw[qz];omega
theorem kA{n:Nat}{L:List Nat}{l:List PU}(K:n<=5)(O:L.length<=15)(U:∀q∈l,SP n L q)(hd:(l.map λq=>Fh (AK q)).Nodup):l.length<=5^15:=by
 have:=Mi (m:=(NX n L.length).map λw=>Fh (CO L w)) hd λx Y=>by
  obtain⟨q,Z,rfl⟩:=qK.1 Y;let⟨w,w1,w2,w3⟩:=(U q Z).own;refine qK.2 ⟨w,?_,by rw[w3]⟩;have:=Uv w2
  rwa[w1] at this
 rw[r6,r6,UQ] at this;refine qW this (qW (Nat.pow_le_pow_left K _) (q0 (by omega) O))
inductive G3 (P:List DT):Nat->CF->List Int->Prop
 | nil {dn:Nat}{C:CF}:dn=2^P.length - 1->G3 P dn C []
 | cons {dn i:Nat}{C K:CF}{d:DT}{O:List Int}:P[i]?=some d->dn.testBit i=false->Ex C d K->G3 P (dn|||2^i) K O->G3 P dn C ((i:Int)::O)
def Ends(P:List DT)(dn:Nat)(C:CF):Prop:=∃K,G3 P dn C K
variable{dn:Nat}
theorem Ends.cases{P:List DT}(h:Ends P dn C)(O:dn≠2^P.length - 1):∃(i:Nat) (d:DT) (K:CF),P[i]?=some d/\dn.testBit i=false/\Ex C d K/\Ends P (dn|||2^i) K:=by
 obtain⟨U,h⟩:=h;cases h with
 | nil e=>exact absurd e O
 | cons a b c d=>exact⟨_,_,_,a,b,c,_,d⟩
theorem Pf{i:Nat}(h:i<8):Jb (i:Int)=some (2^i):=by
 unfold Jb;rw[d7 (by omega),q5,Nat.one_shiftLeft,Nat.mod_eq_of_lt];exact q6 (sC (by omega) h) (by decide)
theorem Un{i:Nat}(h:i<8):MG dn (i:Int)=some (dn>>>i):=by unfold MG;rw[d7 (by omega),q5]
theorem Pd{m:Nat}(h:m<=8):2^m<=256:=qW (q0 (by omega) h) (by decide)
theorem Uy{i m:Nat}(hm:m<=8)(h:dn<2^m):MJ (dn>>>i) 1=some (if dn.testBit i=true then 1 else 0):=by
 have K:dn>>>i<=dn:=by rw[sy];exact Nat.div_le_self _ _
 have O:=Pd hm;unfold MJ;rw[d7 (by omega),Nat.and_one_is_mod];congr 1;rw[Nat.testBit_eq_decide_div_mod_eq,sy];have:=tl (dn/2^i) (show 0<2 by omega);by_cases q:dn/2^i%2=1;rw[d7 (rg q),q];rw[d9 (by simpa using q)];omega
theorem Pv{i m:Nat}(hm:m<=8)(h:dn<2^m)(hi:i<m):L4 dn (2^i)=some (dn|||2^i)/\dn|||2^i<2^m:=by
 have O:=Pd hm;have K:2^i<2^m:=sC (by omega) hi;exact⟨d7 (by omega),sS h K⟩
theorem WR(dn i j:Nat):(dn|||2^i).testBit j=(dn.testBit j || decide (i=j)):=by rw[uk,s6]
theorem W5{i:Nat}(h:dn.testBit i=false):dn<dn|||2^i:=by
 rcases Nat.lt_or_eq_of_le (show dn<=dn|||2^i from Nat.left_le_or) with q | q;exact q;have:=WR dn i i;rw[← q,h] at this;simp at this
variable {F n:Nat}{L:List Nat}{P:List DT}
structure SX (F n:Nat) (L:List Nat) (P:List DT):Prop where
 n5:n<=5
 N1:L.length<=15
 m8:P.length<=8
 ok:∀d∈P,VT n d
 fuel:5^16<F
def FX(n:Nat)(L:List Nat)(P:List DT)(sm:List ((Nat×List (List Int))×Bool)):Prop:=∀dn X b,Bh sm (dn,X)=some b->∀p,SP n L p->Fh (AK p)=X->(b=true↔Ends P dn (AK p))
theorem SX.Qn(h:SX F n L P):100<F:=Nat.lt_trans (by decide) h.fuel
theorem cW(ag:SX F n L P):∀(N dn:Nat) (p:PU) (sm:List ((Nat×List (List Int))×Bool)),256<N+dn->dn<2^P.length->SP n L p->FX n L P sm->
  As (NB N F p dn P sm) (λr=>(r.1=true↔Ends P dn (AK p))/\FX n L P r.2):=by
 have hm:=ag.m8;have ci:=Pd hm;have bv:=ag.Qn;intro N
 induction N with
 | zero=>intro dn p sm Y ai;omega
 | succ N bw=>
  intro dn p sm co a6 aw ay;unfold NB PK;have bx:Jb ((P.length:Nat):Int)=some (2^P.length%256):=by
   unfold Jb;rw[d7 (by omega),q5,Nat.one_shiftLeft]
  refine Ba bx ?_;have cp:1<=2^P.length:=tk;have bz:(2^P.length%256+(256 - 1))%256=2^P.length - 1:=by omega
  rw[bz];refine BB (λaz=>Ap ⟨ug V ⟨[],.nil (by omega)⟩,ay⟩) (λaz=>?_);have az:dn≠2^P.length - 1:=λe=>az (by rw[e]);refine Ba (VM ag.n5 aw) (BB (λY=>?_) (λY=>?_));let⟨b,hb⟩:=s9.1 Y;rw[hb];exact Ap ⟨ay _ _ _ hb p aw V,ay⟩
  .have b0:Bh sm (dn,Fh (AK p))=none:=by
    cases q:Bh sm (dn,Fh (AK p)) with
    | none=>rfl
    | some b=>rw[q] at Y;exact absurd rfl Y
   rw[b0];refine AJ (S:=λr=>(r.1=true↔Ends P dn (AK p))/\FX n L P r.2) ?_ ?_
   .refine DL P.length (λi s=>s.2.2=(i:Int)/\FX n L P s.1/\(s.2.1=true->Ends P dn (AK p))/\(s.2.1=false->∀j<i,∀d O,P[j]?=some d->dn.testBit j=false->Ex (AK p) d O->¬Ends P (dn|||2^j) O)) ⟨V,ay,(λh=>by cases h),(λ_ j a7=>by omega)⟩ (by omega) ?_ ?_
    .rintro i ⟨a8,is,z⟩ hi ⟨Z,al,ap,am⟩;simp only at Z al ap am;subst Z;have hd:=ag.ok _ (j9 hi);let⟨b1,b2⟩:=Pv hm a6 hi;unfold Pw;refine B6 (by simp only;omega) (AJ (S:=λr=>FX n L P r.2/\(r.1=true->Ends P dn (AK p))/\(r.1=false->∀j<i+1,∀d O,P[j]?=some d->dn.testBit j=false->Ex (AK p) d O->¬Ends P (dn|||2^j) O)) ?_ ?_)
     .refine Bj (m:=i) V hi (Ba (Un (by omega)) ?_);refine Ba (Uy hm a6) (AJ (S:=λc=>c=(dn.testBit i || is)) ?_ ?_)
      .cases hb:dn.testBit i with
       | true=>exact B6 (by simp) (Ap rfl)
       | false=>exact Cb (by simp) (Ap rfl)
      rintro c rfl;refine BB (λK=>Ap ⟨al,ap,λa9 j a7 d O Y ai a0=>?_⟩) (λK=>?_)
      .rw [show is=false from a9,Bool.or_false] at K;rcases gD j i with a1 | b3;exact am a9 j a1 d O Y ai a0
       .obtain rfl:j=i:=by omega
        rw[K] at ai;cases ai
      .have hb:dn.testBit i=false:=by cases q:dn.testBit i;rfl;rw[q] at K;exact absurd V K
       have a2:is=false:=by cases q:is;rfl;rw[q,Bool.or_true] at K;exact absurd V K
       subst a2;refine AJ (VF (d:=P[i]) ag.n5 ag.N1 hd bv aw) ?_;rintro l ⟨l1,l2,b4⟩;refine AJ (S:=λr=>FX n L P r.2/\(r.1=true->Ends P dn (AK p))/\(r.1=false->∀q∈l,¬Ends P (dn|||2^i) (AK q))) ?_ ?_
       .have b5:l.length<F:=rW l1 (Nat.lt_trans (by decide) ag.fuel);have ct:(2:Nat)^15=32768:=by decide
        refine DL l.length (λk s=>s.2.2=(k:Int)/\FX n L P s.1/\(s.2.1=true->Ends P dn (AK p))/\(s.2.1=false->∀q∈l.take k,¬Ends P (dn|||2^i) (AK q))) ⟨V,al,(λh=>by cases h),(λ_ q a3=>by cases a3)⟩ b5 ?_ ?_;rintro k ⟨bb,be,z⟩ a4 ⟨Z,t1,t2,t3⟩;simp only at Z t1 t2 t3;subst Z;let⟨sq,pv⟩:=l2 _ (j9 a4);unfold PC;refine B6 (by simp only;omega) (Bj (m:=k) V a4 ?_);refine AJ (S:=λr=>FX n L P r.2/\(r.1=true->Ends P dn (AK p))/\(r.1=false->∀q∈l.take (k+1),¬Ends P (dn|||2^i) (AK q))) ?_ ?_;refine BB (λK=>Ap ⟨t1,(λ_=>t2 K),(λh=>by cases h)⟩) (λK=>?_);have K:be=false:=tp.2 K;refine Ba (Pf (by omega)) (Ba b1 ?_);have cw:=W5 hb;refine AJ (bw (dn|||2^i) l[k] bb (by omega) b2 sq t1) ?_;rintro⟨b,a5⟩ ⟨U,ac⟩;refine Ap ⟨ac,λh=>?_,λh=>?_⟩;let⟨cy,b6⟩:=U.1 h;exact⟨_,.cons (d6 hi) hb pv b6⟩;refine Jz a4 (t3 K) λhe=>?_;have:=U.2 he;simp only at h this;rw[this] at h;cases h;rintro⟨b,a5⟩ ⟨U,ac,aq⟩;exact As.E ((k+1:Nat):Int) (by simp) (Ap ⟨V,U,ac,aq⟩);rintro⟨bb,be,z⟩ ⟨Z,t1,t2,t3⟩;simp only at Z t1 t2 t3;subst Z;unfold PC;rw[qP] at t3;exact Cb (by simp only;omega) (Ap ⟨_,V,t1,t2,t3⟩)
       .rintro⟨b,a5⟩ ⟨U,ac,aq⟩;refine Ap ⟨U,ac,λh j a7 d O Y ai a0=>?_⟩;rcases gD j i with a1 | b3;exact am V j a1 d O Y ai a0
        .obtain rfl:j=i:=by omega
         rw[d6 hi] at Y;cases Y;let⟨q,a3,e⟩:=b4 O a0;rw[← e];exact aq h q a3
     .rintro⟨b,a5⟩ ⟨U,ac,aq⟩;exact As.E ((i+1:Nat):Int) (by simp) (Ap ⟨V,U,ac,aq⟩)
    .rintro⟨a8,is,z⟩ ⟨Z,al,ap,am⟩;simp only at Z al ap am;subst Z;unfold Pw;refine Cb (by simp only;omega) (Ap ⟨_,V,⟨ap,λhe=>?_⟩,al⟩);simp only;cases a2:is with
     | true=>rfl
     | false=>
      let⟨i,d,O,bi,e2,ca,cc⟩:=he.cases az;exact absurd cc (am a2 i (d0.1 bi).1 d O bi e2 ca)
   .rintro⟨b,a8⟩ ⟨U,ac⟩;refine Ap ⟨U,λc0 X b' av ce bn bo=>?_⟩;simp only at av U;rw[KJ] at av;split at av;rename_i e;cases av;cases e;rw[WJ ag.n5 bn aw bo];exact U;exact ac _ _ _ av ce bn bo
variable{sm:List ((Nat×List (List Int))×Bool)}
theorem dD(U:SX F n L P)(ac:dn<2^P.length){l:List PU}(aq:l.length<=5^15)(ag:∀q∈l,SP n L q)(ai:FX n L P sm):
  As (f160 F l dn P sm) (λr=>FX n L P r.2/\r.1.length<=l.length/\(∀q∈r.1,q∈l/\Ends P dn (AK q))/\∀q∈l,Ends P dn (AK q)->q∈r.1):=by
 have av:(5:Nat)^15=30517578125:=by decide
 have aw:(5:Nat)^16=152587890625:=by decide
 have ay:=U.fuel;unfold f160;refine AJ (S:=λr=>FX n L P r.2/\r.1.length<=l.length/\(∀q∈r.1,q∈l/\Ends P dn (AK q))/\∀q∈l,Ends P dn (AK q)->q∈r.1) ?_ (λr al=>Ap al);refine DL l.length (λi s=>s.2.2=(i:Int)/\FX n L P s.1/\s.2.1.length<=i/\(∀q∈s.2.1,q∈l/\Ends P dn (AK q))/\∀q∈l.take i,Ends P dn (AK q)->q∈s.2.1) ⟨V,ai,qV _,(λq K=>by cases K),(λq K=>by cases K)⟩ (by omega) ?_ ?_;rintro i ⟨Y,out,z⟩ hi ⟨O,t1,t2,t3,t4⟩;simp only at O t1 t2 t3 t4;subst O;unfold Pg;refine B6 (by simp only;omega) (Bj (m:=i) V hi ?_);refine AJ (cW U F dn l[i] Y (by omega) ac (ag _ (j9 hi)) t1) ?_;rintro⟨b,az⟩ ⟨Z,am⟩;refine AJ (S:=λs=>s.length<=i+1/\(∀q∈s,q∈l/\Ends P dn (AK q))/\∀q∈l.take (i+1),Ends P dn (AK q)->q∈s) ?_ ?_;refine BB (λhb=>?_) (λhb=>Ap ⟨by simp only;omega,t3,?_⟩);refine Im (by simp only;omega) (Ap ⟨by show(out++ [_]).length<=i+1;rw[pJ,ro];omega,λq K=>?_,?_⟩);rcases gM.1 K with K | K;exact t3 q K;cases aj.1 K;exact⟨j9 hi,Z.1 hb⟩;exact Jz hi (λq K he=>qZ _ (t4 q K he)) λ_=>qG _ (aj.2 V);exact Jz hi t4 λhe=>absurd (Z.2 he) hb;rintro s ⟨v1,v2,ap⟩;exact As.E ((i+1:Nat):Int) (by simp) (Ap ⟨V,am,v1,v2,ap⟩);rintro⟨Y,out,z⟩ ⟨O,t1,t2,t3,t4⟩;simp only at O t1 t2 t3 t4;subst O;unfold Pg;rw[qP] at t4;exact Cb (by simp only;omega) (Ap ⟨_,V,t1,t2,t3,t4⟩)
variable{now:List PU}
theorem ez(Y:SX F n L P)(hd:VT n d)(a1:now.length<=5^15)(ac:∀q∈now,SP n L q):
  As (f161 F now d) (λout=>out.length<=5^15/\(∀q∈out,SP n L q/\∃p∈now,Ex (AK p) d (AK q))/\∀p∈now,∀K,Ex (AK p) d K->∃q∈out,AK q=K):=by
 have a2:(5:Nat)^15=30517578125:=by decide
 have a3:(5:Nat)^16=152587890625:=by decide
 have a4:(2:Nat)^15=32768:=by decide
 have a5:=Y.fuel;have al:∀{out:List PU},(∀q∈out,SP n L q)->(out.map λq=>Fh (AK q)).Nodup->out.length<=5^15:=λa b=>kA Y.n5 Y.N1 a b;unfold f161;refine AJ (S:=λr=>r.1.length<=5^15/\(∀q∈r.1,SP n L q/\∃p∈now,Ex (AK p) d (AK q))/\∀p∈now,∀K,Ex (AK p) d K->∃q∈r.1,AK q=K) ?_ (λr am=>Ap am);refine DL now.length (λi s=>s.2.2=(i:Int)/\(∀X,(Bh s.1 X).getD false=true↔X∈s.2.1.map λq=>Fh (AK q))/\(s.2.1.map λq=>Fh (AK q)).Nodup/\(∀q∈s.2.1,SP n L q/\∃p∈now,Ex (AK p) d (AK q))/\∀p∈now.take i,∀K,Ex (AK p) d K->∃q∈s.2.1,AK q=K)
  ⟨rfl,(λX=>by simp[Bh]),tL,(λq O=>by cases O),(λp ac=>by cases ac)⟩ (by omega) ?_ ?_
 .rintro i ⟨met,out,z⟩ hi ⟨U,t1,t2,t3,t4⟩;simp only at U t1 t2 t3 t4;subst U;unfold OR;refine B6 (by simp only;omega) (Bj (m:=i) V hi ?_);refine AJ (VF Y.n5 Y.N1 hd Y.Qn (ac _ (j9 hi))) ?_;rintro l ⟨l1,l2,ap⟩;refine AJ (S:=λs=>(∀X,(Bh s.2 X).getD false=true↔X∈s.1.map λq=>Fh (AK q))/\(s.1.map λq=>Fh (AK q)).Nodup/\(∀q∈s.1,SP n L q/\∃p∈now,Ex (AK p) d (AK q))/\(∀p∈now.take i,∀K,Ex (AK p) d K->∃q∈s.1,AK q=K)/\∀q∈l,∃u∈s.1,AK u=AK q) ?_ ?_
  .refine DL l.length (λk s=>s.2.2=(k:Int)/\(∀X,(Bh s.1 X).getD false=true↔X∈s.2.1.map λq=>Fh (AK q))/\(s.2.1.map λq=>Fh (AK q)).Nodup/\(∀q∈s.2.1,SP n L q/\∃p∈now,Ex (AK p) d (AK q))/\(∀p∈now.take i,∀K,Ex (AK p) d K->∃q∈s.2.1,AK q=K)/\∀q∈l.take k,∃u∈s.2.1,AK u=AK q)
    ⟨rfl,t1,t2,t3,t4,(λq O=>by cases O)⟩ (by omega) ?_ ?_
   .rintro k ⟨met,out,z⟩ Z ⟨U,t1,t2,t3,t4,t5⟩;simp only at U t1 t2 t3 t4 t5;subst U;let⟨sq,pv⟩:=l2 _ (j9 Z);have a6:=al (λq O=>(t3 q O).1) t2;unfold Pp;refine B6 (by simp only;omega) (Bj (m:=k) V Z ?_);refine Ba (VM Y.n5 sq) (AJ (S:=λs=>(∀X,(Bh s.2 X).getD false=true↔X∈s.1.map λq=>Fh (AK q))/\(s.1.map λq=>Fh (AK q)).Nodup/\(∀q∈s.1,SP n L q/\∃p∈now,Ex (AK p) d (AK q))/\(∀p∈now.take i,∀K,Ex (AK p) d K->∃q∈s.1,AK q=K)/\∀q∈l.take (k+1),∃u∈s.1,AK u=AK q) ?_ ?_)
    .refine BB (λhb=>?_) (λhb=>Ap ⟨t1,t2,t3,t4,?_⟩)
     .have aq:Fh (AK l[k]) ∉ out.map λq=>Fh (AK q):=λh=>by
       rw[(t1 _).2 h] at hb;cases hb
      refine Im (by simp only;omega) (Ap ⟨λX=>?_,?_,λq O=>?_,λp av K hC=>?_,?_⟩);simp only;rw[KJ,qN,gM,tP,aj,← t1];by_cases e:X=Fh (AK l[k]);rw[d7 e];simp[e];rw[d9 e];simp[e];simp only;rw[qN,qO];refine⟨t2,by simp,λa aw b hb e=>?_⟩;cases aj.1 hb;subst e;exact aq aw;rcases gM.1 O with O | O;exact t3 q O;cases aj.1 O;exact⟨sq,_,j9 hi,pv⟩;let⟨q,O,e⟩:=t4 p av K hC;exact⟨q,qZ _ O,e⟩;refine Jz Z (λq O=>?_) ⟨_,qG _ (aj.2 V),V⟩;let⟨u,hu,e⟩:=t5 q O;exact⟨u,qZ _ hu,e⟩
     .refine Jz Z t5 ?_;have ay:Fh (AK l[k])∈out.map λq=>Fh (AK q):=(t1 _).1 (by
       cases q:(Bh met (Fh (AK l[k]))).getD false with
       | true=>rfl
       | false=>rw[q] at hb;exact absurd rfl hb)
      let⟨u,hu,e⟩:=qK.1 ay;exact⟨u,hu,WJ Y.n5 (t3 u hu).1 sq e⟩
    .rintro⟨az,a0⟩ ⟨v1,v2,ag,v4,ai⟩;exact As.E ((k+1:Nat):Int) (by simp) (Ap ⟨V,v1,v2,ag,v4,ai⟩)
   .rintro⟨met,out,z⟩ ⟨U,t1,t2,t3,t4,t5⟩;simp only at U t1 t2 t3 t4 t5;subst U;unfold Pp;rw[qP] at t5;exact Cb (by simp only;omega) (Ap ⟨_,V,t1,t2,t3,t4,t5⟩)
  .rintro⟨az,a0⟩ ⟨v1,v2,ag,v4,ai⟩;refine As.E ((i+1:Nat):Int) (by simp) (Ap ⟨V,v1,v2,ag,Jz hi v4 λK hC=>?_⟩);let⟨q,O,e⟩:=ap K hC;let⟨u,hu,e2⟩:=ai q O;exact⟨u,hu,e2.trans e⟩
 .rintro⟨met,out,z⟩ ⟨U,t1,t2,t3,t4⟩;simp only at U t1 t2 t3 t4;subst U;unfold OR;rw[qP] at t4;exact Cb (by simp only;omega) (Ap ⟨_,V,al (λq O=>(t3 q O).1) t2,t3,t4⟩)
def NY:List Int->List Int->Bool
 | x::xs,y::ys=>if x=y then NY xs ys else decide (x<y)
 | _,_=>false
theorem T0(x y:Int)(xs ys:List Int):NY (x::xs) (y::ys)=if x=y then NY xs ys else decide (x<y):=rfl
def Xt(P:List DT)(S:CF->Prop)(dn:Nat)(K:List Int):Prop:=(∃C,S C/\G3 P dn C K)/\∀C O,S C->G3 P dn C O->NY O K=false
def Mc(P:List DT)(S:CF->Prop)(dn i:Nat)(K:List Int):Prop:=(∃C,S C/\G3 P dn C ((i:Int)::K))/\∀C O,S C->G3 P dn C ((i:Int)::O)->NY O K=false
def Ff(P:List DT)(S:CF->Prop)(dn i:Nat):Prop:=∃C d K,S C/\P[i]?=some d/\dn.testBit i=false/\Ex C d K/\Ends P (dn|||2^i) K
theorem G3.Xs{P:List DT}{S:CF->Prop}{U:List Int}(hC:S C)(h:G3 P dn C U)(Y:dn≠2^P.length - 1):∃(i:Nat) (d:DT) (K:CF) (O:List Int),U=(i:Int)::O/\P[i]?=some d/\dn.testBit i=false/\Ex C d K/\G3 P (dn|||2^i) K O/\Ff P S dn i:=by
 cases h with
 | nil e=>exact absurd e Y
 | @cons _ i _ K d O a b c e=>exact⟨i,d,K,O,rfl,a,b,c,e,C,d,K,hC,a,b,c,O,e⟩
theorem G3.fst{P:List DT}{i:Nat}{O:List Int}(h:G3 P dn C ((i:Int)::O)):∃(d:DT) (K:CF),P[i]?=some d/\dn.testBit i=false/\Ex C d K/\G3 P (dn|||2^i) K O:=by
 generalize U:(i:Int)::O=q at h;cases h with
 | nil e=>cases U
 | @cons _ j _ K d Z a b c e=>
  injection U with ac Y;obtain rfl:i=j:=by omega
  subst Y;exact⟨d,K,a,b,c,e⟩
theorem Mc.step{P:List DT}{S S1:CF->Prop}{dn i k:Nat}{Y:List Int}{d:DT}(hd:P[i]?=some d)(Z:∀K,S1 K↔((∃C,S C/\Ex C d K)/\Ends P (dn|||2^i) K))(hb:dn.testBit i=false)(ai:dn|||2^i≠2^P.length - 1)(al:∀j,j<k->¬Ff P S1 (dn|||2^i) j)(h:Mc P S1 (dn|||2^i) k Y):Mc P S dn i ((k:Int)::Y):=by
 obtain⟨⟨K,am,ap⟩,aq⟩:=h;obtain⟨⟨C,hC,av⟩,-⟩:=(Z K).1 am;refine⟨⟨C,hC,.cons hd hb av ap⟩,λaw ay az a0=>?_⟩;obtain⟨d2,O,ac,e2,a1,U⟩:=a0.fst;rw[hd] at ac;cases ac;have ag:S1 O:=(Z O).2 ⟨⟨aw,az,a1⟩,ay,U⟩;obtain⟨j,a4,a5,a2,rfl,-,-,-,-,a3⟩:=U.Xs ag ai;have a6:k<=j:=by
  rcases gD j k with q | q;exact absurd a3 (al j q);exact q
 rw[T0];by_cases e:(j:Int)=(k:Int)
 .rw [d7 e];obtain rfl:j=k:=by omega
  exact aq O a2 ag U
 .rw [d9 e];exact qQ (by omega)
structure OS (m dn:Nat) (os:List Nat):Prop where
 nd:os.Nodup
 lt:∀i∈os,i<m
 bit:∀i,i<m->(dn.testBit i=true↔i∈os)
 dn:dn<2^m
variable{os:List Nat}
theorem OS.full{m:Nat}(h:OS m dn os):os.length=m↔dn=2^m - 1:=by
 have hle:os.length<=m:=by
  have:=Mi (m:=List.range m) h.nd λx K=>qc.2 (h.lt x K)
  rwa[sT] at this
 constructor
 .intro e;have O:∀i,i<m->i∈os:=by
   intro i hi;refine rZ λU=>?_;have:=Mi (l:=i::os) (m:=List.range m) (sM.2 ⟨U,h.nd⟩) λx K=>by
    rcases gv.1 K with rfl | K;exact qc.2 hi;exact qc.2 (h.lt x K)
   rw[sT,qz] at this;omega
  refine s0 λi=>?_;rw[tQ];rcases gD i m with hi | hi;rw[(h.bit i hi).2 (O i hi),rg hi];rw[qQ (by omega)];exact sc (q6 h.dn (q0 (by omega) hi))
 .intro e;have:=Mi (l:=List.range m) (m:=os) List.nodup_range λx K=>by
   have K:=qc.1 K;refine(h.bit x K).1 ?_;rw[e,tQ,rg K]
  rw[sT] at this;omega
theorem OS.snoc{m i:Nat}(h:OS m dn os)(hi:i<m)(hb:dn.testBit i=false):OS m (dn|||2^i) (os++ [i]):=by
 have O:i ∉ os:=λq=>by rw[(h.bit i hi).2 q] at hb;cases hb
 refine⟨?_,λj K=>?_,λj K=>?_,?_⟩;rw[qO];exact⟨h.nd,by simp,λa U b Y e=>by cases aj.1 Y;subst e;exact O U⟩;rcases gM.1 K with K | K;exact h.lt j K;cases aj.1 K;exact hi;rw[WR,rb,rt,h.bit j K,gM,aj];exact⟨λq=>q.imp id Eq.symm,λq=>q.imp id Eq.symm⟩;exact sS h.dn (sC (by omega) hi)
variable{A S:Type}
theorem aV{body:S->Option (Bt S A)}{s s':S}{N:Nat}(h:body s=some (.more s')):Pal.iter body (N+1) s=Pal.iter body N s':=by
 conv=>lhs;unfold Pal.iter
 rw[h]
theorem UJ{body:S->Option (Bt S A)}{s:S}{a:A}{N:Nat}(h:body s=some (.done a)):Pal.iter body (N+1) s=some a:=by
 conv=>lhs;unfold Pal.iter
 rw[h]
def FE(l:List PU):CF->Prop:=λC=>∃p∈l,AK p=C
theorem Vh(U:SX F n L P){i:Nat}(ap:dn<2^P.length)(hd:P[i]?=some d)(hb:dn.testBit i=false)(aq:now.length<=5^15)(av:∀q∈now,SP n L q)(aw:FX n L P sm):
  ∃all r,f161 F now d=some all/\f160 F all (dn|||2^i) P sm=some r/\FX n L P r.2/\r.1.length<=5^15/\(∀q∈r.1,SP n L q)/\(∀K,FE r.1 K↔((∃C,FE now C/\Ex C d K)/\Ends P (dn|||2^i) K))/\(r.1=[]↔¬Ff P (FE now) dn i):=by
 have hi:i<P.length:=(d0.1 hd).1;have ay:=U.ok d (qi hd);let⟨all,az,a1,Z,a0⟩:=ez U ay aq av;obtain⟨-,a2⟩:=Pv U.m8 ap hi;let⟨r,a3,a4,bb,al,a5⟩:=dD U a2 a1 (λq O=>(Z q O).1) aw;have ac:∀K,FE r.1 K↔((∃C,FE now C/\Ex C d K)/\Ends P (dn|||2^i) K):=by
  intro K;constructor;rintro⟨q,O,rfl⟩;let⟨c1,c2⟩:=al q O;obtain⟨-,p,ag,ai⟩:=Z q c1;exact⟨⟨_,⟨p,ag,V⟩,ai⟩,c2⟩;rintro⟨⟨C,⟨p,ag,rfl⟩,ai⟩,he⟩;obtain⟨q,O,rfl⟩:=a0 p ag K ai;exact⟨q,a5 q O he,V⟩
 refine⟨all,r,az,a3,a4,by omega,λq O=>(Z q (al q O).1).1,ac,?_⟩;constructor;rintro e ⟨C,d',K,k1,Y,am,a6,a7⟩;rw[hd] at Y;cases Y;obtain⟨q,O,-⟩:=(ac K).2 ⟨⟨C,k1,a6⟩,a7⟩;rw[e] at O;cases O
 .intro a8;cases a9:r.1 with
  | nil=>rfl
  | cons q l=>
   exfalso;obtain⟨⟨C,k1,Y⟩,am⟩:=(ac (AK q)).1 ⟨q,by rw[a9];exact qw,rfl⟩;exact a8 ⟨C,d,_,k1,hd,hb,Y,am⟩
theorem Z0(K:SX F n L P)(O:dn<2^P.length){ag:List PU}{ai al:List ((Nat×List (List Int))×Bool)}{i0:Int}{am:List Int}{ap:Nat}(aq:now.length<=5^15)(av:∀q∈now,SP n L q)(aw:FX n L P sm)
  (hex:∃k,k<P.length/\Ff P (FE now) dn k):
  As (Pal.iter (OT F P (al,ag,i0,am,ap) (now,ai) dn) F (sm,0)) (λr=>FX n L P r.2/\∃k:Nat,r.1=(k:Int)/\k<P.length/\Ff P (FE now) dn k/\∀j,j<k->¬Ff P (FE now) dn j):=by
 have hm:=K.m8;have a7:=K.Qn;refine DL P.length (λi s=>s.2=(i:Int)/\FX n L P s.1/\∀j,j<i->¬Ff P (FE now) dn j) ⟨V,aw,λj ay=>by omega⟩ (by omega) ?_ ?_
 .rintro i ⟨az,z⟩ hi ⟨U,t1,t2⟩;simp only at U t1 t2;subst U;let⟨a0,a8⟩:=Pv hm O hi;unfold OT;refine B6 (by simp only;omega) (Bj (m:=i) V hi ?_);refine Ba (Un (by omega)) (Ba (Uy hm O) ?_);refine AJ (S:=λr=>FX n L P r.2/\(r.1=true↔Ff P (FE now) dn i)) ?_ ?_
  .cases hb:dn.testBit i with
   | true=>
    refine Cb (by simp) (Ap ⟨t1,sD (by simp) ?_⟩);rintro⟨C,d,a9,_,_,k,_⟩;rw[hb] at k;cases k
   | false=>
    let⟨all,r,a1,a2,a3,bb,be,bi,Y⟩:=Vh K O (d6 hi) hb aq av t1;refine B6 (by simp) (Ba (Pf (by omega)) ?_);refine Ba a0 (Ba a1 ?_);refine Ba a2 (Ap ⟨a3,?_⟩);rw[rt];constructor;intro q;refine sB λa4=>?_;rw[Y.2 a4] at q;exact absurd q (by simp);intro q;have:r.1≠ []:=λe=>Y.1 e q;have:=tH.2 this;omega
  .rintro⟨b,bn⟩ ⟨Z,ac⟩;refine BB (λhb=>Ap ⟨Z,i,V,hi,ac.1 hb,t2⟩) (λhb=>?_);refine As.E ((i+1:Nat):Int) (by simp) (Ap ⟨V,Z,λj ay=>?_⟩);rcases gD j i with a5 | bo;exact t2 j a5
   .obtain rfl:j=i:=by omega
    exact λq=>hb (ac.2 q)
 .rintro⟨az,z⟩ ⟨U,t1,t2⟩;obtain⟨k,a6,hh⟩:=hex;exact absurd hh (t2 k a6)
theorem cE(K:SX F n L P):∀(N dn i:Nat) (os:List Nat) (now:List PU) (sm:List ((Nat×List (List Int))×Bool)),300<N+dn->OS P.length dn os->i<P.length->dn.testBit i=false->now.length<=5^15->(∀q∈now,SP n L q)->FX n L P sm->
  As (Pal.iter (Ns F P) N (sm,now,(i:Int),os.map (λj:Nat=>(j:Int)),dn)) (λq=>∃r sm',q=Sum.inl (r,sm')/\((¬Ff P (FE now) dn i/\r=[])∨(Ff P (FE now) dn i/\∃O,r=os.map (λj:Nat=>(j:Int))++(i:Int)::O/\Mc P (FE now) dn i O))):=by
 have hm:=K.m8;have ct:=Pd hm;intro N
 induction N with
 | zero=>intro dn i os now sm aq ac;have:=ac.dn;omega
 | succ N a7=>
  intro dn i os now sm cw U hi hb a8 a9 bb;have av:=U.dn;let⟨aw,be⟩:=Pv hm av hi;let⟨all,r,aq,ac,bi,ay,az,a0,ag⟩:=Vh K av (d6 hi) hb a8 a9 bb;have ai:=U.snoc hi hb;have cy:os.length<=8:=by
   have:=Mi (m:=List.range P.length) U.nd λx K=>qc.2 (U.lt x K);rw[sT] at this;omega
  have body:As (Ns F P (sm,now,(i:Int),os.map (λj:Nat=>(j:Int)),dn)) (λst=>
    (∃sm',st=.done (Sum.inl ([],sm'))/\¬Ff P (FE now) dn i)∨
    (∃sm',st=.done (Sum.inl (os.map (λj:Nat=>(j:Int))++ [(i:Int)],sm'))/\Ff P (FE now) dn i/\dn|||2^i=2^P.length - 1)∨
    (∃sm' k,st=.more (sm',r.1,((k:Nat):Int),(os++ [i]).map (λj:Nat=>(j:Int)),dn|||2^i)/\Ff P (FE now) dn i/\dn|||2^i≠2^P.length - 1/\k<P.length/\Ff P (FE r.1) (dn|||2^i) k/\(∀j,j<k->¬Ff P (FE r.1) (dn|||2^i) j)/\FX n L P sm')):=by
   unfold Ns
   dsimp only;refine Bj (m:=i) V hi (Ba (Pf (by omega)) ?_);refine Ba aw (Ba aq ?_);refine Ba ac (BB (λa1=>Ap (.inl ⟨_,V,ag.1 (r9.1 (by omega))⟩)) (λa1=>?_));have al:Ff P (FE now) dn i:=sB λq=>a1 (by rw[ag.2 q];rfl);refine Ba (Pf (by omega)) (Ba aw ?_);refine As.MQ (by simp;omega) ?_;have hlen:(os.map (λj:Nat=>(j:Int))++ [(i:Int)]).length=(os++ [i]).length:=by simp
   refine BB (λY=>Ap (.inr (.inl ⟨_,V,al,ai.full.1 (by omega)⟩))) (λY=>?_);have Z:dn|||2^i≠2^P.length - 1:=λe=>Y (by have:=ai.full.2 e;omega)
   have hex:∃k,k<P.length/\Ff P (FE r.1) (dn|||2^i) k:=by
    have bn:r.1≠ []:=λe=>ag.1 e al;let⟨q,a2⟩:=tT _ bn;obtain⟨-,he⟩:=(a0 (AK q)).1 ⟨q,a2,V⟩;let⟨k,d,a3,a4,e2,bo,bv⟩:=he.cases Z;exact⟨k,(d0.1 a4).1,_,d,a3,⟨q,a2,V⟩,a4,e2,bo,bv⟩
   refine AJ (Z0 K be ay az bi hex) ?_;rintro⟨z,sm'⟩ ⟨bw,k,a5,bx,bz,b0⟩;simp only at a5;subst a5;exact Ap (.inr (.inr ⟨sm',k,by simp only[qN,tP],al,Z,bx,bz,b0,bw⟩))
  obtain⟨st,am,b1⟩:=body;have c0:=W5 hb;rcases b1 with⟨sm',rfl,ap⟩ | ⟨sm',rfl,hh,b2⟩ | ⟨sm',k,rfl,hh,Z,b3,a6,b4,b5⟩;rw[UJ am];exact Ap ⟨[],sm',V,.inl ⟨ap,V⟩⟩;rw[UJ am];refine Ap ⟨_,sm',V,.inr ⟨hh,[],V,?_⟩⟩;obtain⟨C,d,a3,k1,b6,ca,cc,c1⟩:=hh;exact⟨⟨C,k1,.cons b6 ca cc (.nil b2)⟩,λc2 ce _ _=>by cases ce<;>rfl⟩
  .rw [aV am];have ci:(dn|||2^i).testBit k=false:=by obtain⟨_,_,_,_,_,q,_⟩:=a6;exact q
   refine(a7 (dn|||2^i) k (os++ [i]) r.1 sm' (by omega) ai b3 ci ay az b5).Ah ?_;rintro q ⟨r',co,rfl,Y⟩;refine⟨r',co,V,?_⟩;rcases Y with⟨ap,-⟩ | ⟨-,O,rfl,cp⟩;exact absurd a6 ap;refine .inr ⟨hh,(k:Int)::O,by simp,cp.step (d6 hi) a0 hb Z b4⟩
def Fs(ps:List (List Int)):CF:=λa b=>(((ps.getD a []).count (b:Int):Nat):Int)
def Ku(ps:List (List Int)):List Nat:=ps.flatMap λx=>x.map Int.toNat
def L9:Nat->List (List Int)->List Nat
 | _,[]=>[]
 | i,x::xs=>List.replicate x.length i++L9 (i+1) xs
theorem U0{K w2:List Nat}(a b:Nat):∀{O w1:List Nat},O.length=w1.length->CO (O++K) (w1++w2) a b=CO O w1 a b+CO K w2 a b
 | [],[],_=>by show CO K w2 a b=0+CO K w2 a b;omega
 | l::O,o::w1,h=>by
  rw[qX,qX,OG,OG,U0 a b (by simpa using h)];omega
theorem U4(i a b:Nat):∀{x:List Int},(∀c∈x,0<=c)->CO (x.map Int.toNat) (List.replicate x.length i) a b=if a=i then((x.count (b:Int):Nat):Int) else 0
 | [],_=>by show(0:Int)=_;simp
 | c::x,h=>by
  have U:=h c qw
  rw[q7,qz,sG,OG,U4 i a b λy O=>h y (f8 _ O),List.count_cons]
  by_cases K:a=i
  .rw [d7 K,d7 K]
   by_cases hb:b=c.toNat;rw[d7 ⟨K,hb⟩,d7 (by rw[rR];omega)];omega;rw[d9 (λq=>hb q.2),d9 (by rw[rR];omega)];omega
  .rw [d9 K,d9 K,d9 (λq=>K q.1)];omega
theorem Vp(a b:Nat):∀(ps:List (List Int)) (i:Nat),(∀x∈ps,∀c∈x,0<=c)->CO (Ku ps) (L9 i ps) a b=if i<=a then Fs ps (a - i) b else 0
 | [],i,_=>by
  show(0:Int)=_
  split;unfold Fs;rw[f7];simp;rfl
 | x::ps,i,h=>by
  have K:=Vp a b ps (i+1) λy O=>h y (f8 _ O);show CO (x.map Int.toNat++Ku ps) (List.replicate x.length i++L9 (i+1) ps) a b=_;rw[U0 a b (by simp),U4 i a b (h x qw),K];by_cases e:a=i;subst e;rw[d7 rfl,d9 (by omega),d7 (oU _),tf];unfold Fs;rw[List.getD_cons_zero];omega;rw[d9 e];by_cases e2:i<=a;rw[d7 (by omega),d7 e2];obtain⟨k,U⟩:∃k,a - i=k+1:=⟨a - i - 1,by omega⟩;unfold Fs;rw[U,List.getD_cons_succ,show a - (i+1)=k by omega];omega;rw[d9 (by omega),d9 e2];omega
theorem Vo:∀(ps:List (List Int)) (i:Nat),(L9 i ps).length=(Ku ps).length
 | [],_=>rfl
 | x::ps,i=>by
  show(List.replicate x.length i++L9 (i+1) ps).length=(x.map Int.toNat++Ku ps).length
  rw[pJ,pJ,Vo ps (i+1),sn,r6]
theorem Wu:∀(ps:List (List Int)) (i:Nat),∀o∈L9 i ps,o<i+ps.length
 | [],_,o,h=>by cases h
 | x::ps,i,o,h=>by
  rw[qz]
  rcases gM.1 h with h | h;have:=(sO.1 h).2;omega;have:=Wu ps (i+1) o h;omega
theorem Vs:∀{ps:List (List Int)}{k:Nat},(∀x∈ps,x.length<=k)->(Ku ps).length<=ps.length*k
 | [],_,_=>qV _
 | x::ps,k,h=>by
  have:=Vs (ps:=ps) (k:=k) λy K=>h y (f8 _ K)
  have O:=h x qw
  show(x.map Int.toNat++Ku ps).length<=_
  rw[pJ,r6,qz,rf];omega
theorem Yz{x:List Int}{k:Nat}(K:k<x.length)(b:Int):(x.take (k+1)).count b=(x.take k).count b+if x[k]=b then 1 else 0:=by
 rw[q4,d6 K,List.count_append,rD,List.count_singleton];by_cases e:x[k]=b;rw[d7 e,d7 (by simp[e])];rw[d9 e,d9 (by simp[e])]
variable{o:OW}
theorem eL{F:Nat}(aw:100<F)(h:VO o):As (f120 F o) (λp=>SP o.1.length (Ku o.1) p/\AK p=Fs o.1):=by
 have ay:=h.n5;unfold f120;refine AJ (S:=λp=>p.length=o.1.length/\(∀xs∈p,∀K∈xs,0<=K.1/\K.1<10)/\∀a,a<o.1.length->∀b:Nat,AK p a b=Fs o.1 a b) ?_ ?_
 .refine DL o.1.length (λi s=>s.2=(i:Int)/\s.1.length=i/\(∀xs∈s.1,∀K∈xs,0<=K.1/\K.1<10)/\∀a,a<i->∀b:Nat,AK s.1 a b=Fs o.1 a b) ⟨V,V,(λxs Z=>by cases Z),(λa am=>by omega)⟩ (by omega) ?_ ?_
  .rintro i ⟨s,z⟩ hi ⟨O,t1,t2,t3⟩;simp only at O t1 t2 t3;subst O;let⟨c1,c2⟩:=h.cs _ (j9 hi);unfold Pa;refine B6 (by simp only;omega) (Bj (m:=i) V hi ?_);refine AJ (S:=λm=>(∀K∈m,0<=K.1/\K.1<10)/\∀b:Nat,(Bh m (b:Int)).getD 0=((o.1[i].count (b:Int):Nat):Int)) ?_ ?_
   .refine DL o.1[i].length (λk s=>s.2=(k:Int)/\(∀K∈s.1,0<=K.1/\K.1<10)/\∀b:Nat,(Bh s.1 (b:Int)).getD 0=(((o.1[i].take k).count (b:Int):Nat):Int)) ⟨V,(λK ac=>by cases ac),(λb=>V)⟩ (by omega) ?_ ?_
    .rintro k ⟨m,z⟩ ac ⟨O,Y,U⟩;simp only at O Y U;subst O;have ai:=c2 _ (j9 ac);have ap:((o.1[i][k].toNat:Nat):Int)=o.1[i][k]:=by omega
     have ag:=U o.1[i][k].toNat;rw[ap] at ag;have hle:(o.1[i].take k).count o.1[i][k]<=k:=qW List.count_le_length (by rw[rS];omega);unfold Pt;refine B6 (by simp only;omega) ?_;refine Bj (m:=k) V ac ?_;refine LA _ V (by simp only[ag];omega) (by simp only[ag];omega) ?_;refine As.E ((k+1:Nat):Int) (by simp) ?_;refine Ap ⟨V,λK aq=>?_,λb=>?_⟩;rcases Re aq with q | ⟨r,q⟩;rw[q];omega;exact Y (K.1,r) q;simp only;rw[KJ,Yz ac];by_cases e:(b:Int)=o.1[i][k];rw[d7 e,d7 e.symm,Option.getD_some,ag,e];omega;rw[d9 e,d9 (λq=>e q.symm),U b];omega
    .rintro⟨m,z⟩ ⟨O,Y,U⟩;simp only at O Y U;subst O;unfold Pt;rw[qP] at U;exact Cb (by simp only;omega) (Ap ⟨_,V,Y,U⟩)
   .rintro m ⟨Y,U⟩;refine Im (by simp only;omega) (As.E ((i+1:Nat):Int) (by simp) ?_);refine Ap ⟨V,by show(s++ [m]).length=i+1;rw[pJ,ro];omega,λxs av=>?_,λa am b=>?_⟩;rcases gM.1 av with q | q;exact t2 xs q;cases aj.1 q;exact Y
    .simp only;rcases gD a i with q | q;rw[← t3 a q b];unfold AK;rw[f7,p8 (by omega),f7]
     .obtain rfl:a=i:=by omega
      unfold AK Fs;rw[f7,nL (by omega),show a - s.length=0 by omega,f7,d6 hi];exact U b
  .rintro⟨s,z⟩ ⟨O,t1,t2,t3⟩;simp only at O t1 t2 t3;subst O;unfold Pa;exact Cb (by simp only;omega) (Ap ⟨_,V,t1,t2,t3⟩)
 .rintro p ⟨t1,t2,t3⟩;have al:AK p=Fs o.1:=by
   funext a b;rcases gD a o.1.length with q | q;exact t3 a q b;unfold AK Fs;rw[f7,qy (by omega),f7,qy q];rfl
  refine Ap ⟨⟨t1,t2,L9 0 o.1,Vo _ _,λx Z=>by have:=Wu o.1 0 x Z;omega,?_⟩,al⟩;rw[al];funext a b;rw[Vp a b o.1 0 (λx Z c ai=>by have:=(h.cs x Z).2 c ai;omega),d7 (qV _),sg]
theorem VO.N1(h:VO o):(Ku o.1).length<=15:=by
 have O:=Vs (ps:=o.1) (k:=3) λx K=>(h.cs x K).1;have:=h.n5;omega
structure PO (F:Nat) (o:OW) (P:List DT):Prop where
 vo:VO o
 m8:P.length<=8
 ok:∀d∈P,VT o.1.length d
 fuel:5^16<F
theorem PO.sx{F:Nat}{P:List DT}(h:PO F o P):SX F o.1.length (Ku o.1) P:=⟨h.vo.n5,h.vo.N1,h.m8,h.ok,h.fuel⟩
def S0(o:OW):CF->Prop:=λC=>Fs o.1=C
variable{j:Nat}
theorem dG{F:Nat}{P:List DT}(h:PO F o P)(Z:j<P.length):As (JI F o P j) (λr=>(¬Ff P (S0 o) 0 j/\r=[])∨(Ff P (S0 o) 0 j/\∃K,r=(j:Int)::K/\Mc P (S0 o) 0 j K)):=by
 have U:=h.sx;have al:=h.fuel;have am:(5:Nat)^16=152587890625:=by decide
 unfold JI;refine AJ (eL U.Qn h.vo) ?_;rintro p ⟨ac,Y⟩;have ag:FE [p]=S0 o:=by
  funext C;unfold FE S0;refine propext ⟨?_,λe=>⟨p,aj.2 V,by rw[Y];exact e⟩⟩;rintro⟨q,O,e⟩;cases aj.1 O;rw[← Y];exact e
 have key:=cE U F 0 j [] [p] [] (by omega) ⟨tL,(λi hi=>by cases hi),(λi hi=>by simp),ue _⟩ Z (by simp) (by simp) (λq O=>by cases aj.1 O;exact ac) (λdn X b hb=>by cases hb);rw[ag] at key;refine AJ (S:=λr=>(¬Ff P (S0 o) 0 j/\r.1=[])∨(Ff P (S0 o) 0 j/\∃K,r.1=(j:Int)::K/\Mc P (S0 o) 0 j K)) ?_ (λr ai=>Ap ai);unfold f119;refine AJ key ?_;rintro q ⟨r,sm',rfl,O⟩;exact Ap O
theorem iH{F:Nat}{P:List DT}(h:PO F o P):As (f77 F o P) (λr=>(r.2=true/\Xt P (S0 o) 0 r.1)∨(r=([],false)/\¬Ends P 0 (Fs o.1))):=by
 have hm:=h.m8;unfold f77;refine BB (λal=>Ap (.inl ⟨V,⟨_,V,.nil (by rw[al])⟩,λC am _ _=>by cases am<;>rfl⟩)) (λal=>?_);have ap:0≠2^P.length - 1:=by
  have:2^1<=2^P.length:=q0 (by omega) (by omega);omega
 have ag:∀j,j<P.length->∃r,JI F o P j=some r/\Kq F o P j=r/\((¬Ff P (S0 o) 0 j/\r=[])∨(Ff P (S0 o) 0 j/\∃Y,r=(j:Int)::Y/\Mc P (S0 o) 0 j Y)):=λj O=>by
  let⟨r,Z,U⟩:=dG h O;exact⟨r,Z,by unfold Kq;rw[Z];rfl,U⟩
 refine B6 ⟨by omega,qs.2 λj O=>?_⟩ (Ap ?_);let⟨r,Z,_⟩:=ag j (qc.1 O);rw[Z];rfl
 have ai:∀j,j<P.length->((!(Kq F o P j).isEmpty)=true↔Ff P (S0 o) 0 j):=λj O=>by
  let⟨r,_,U,K⟩:=ag j O;rw[U];rcases K with⟨K,rfl⟩ | ⟨K,Y,rfl,_⟩;exact sD (by simp) K;exact ug V K
 unfold Mz;cases aq:(List.range P.length).find? λj=> !(Kq F o P j).isEmpty with
 | none=>
  refine .inr ⟨V,λhe=>?_⟩;let⟨i,d,av,ac,e2,aw,ay⟩:=he.cases ap;have hi:=(d0.1 ac).1;have:=sj.1 aq i (qc.2 hi);exact this ((ai i hi).2 ⟨_,d,av,V,ac,e2,aw,ay⟩)
 | some j=>
  let⟨f1,f2,f3⟩:=rk.1 aq;have O:=qc.1 f2;let⟨r,_,U,K⟩:=ag j O;have a2:=(ai j O).1 f1;rcases K with⟨K,_⟩ | ⟨K,Y,rfl,⟨C,hC,a3⟩,a4⟩;exact absurd a2 K
  refine .inl ⟨V,?_⟩;show Xt P (S0 o) 0 (Kq F o P j);rw[U];refine⟨⟨C,hC,a3⟩,λa5 am az a0=>?_⟩;obtain⟨i,d,av,a6,rfl,ac,e2,aw,ay,a7⟩:=a0.Xs az ap;have hi:=(d0.1 ac).1;have a8:j<=i:=by
   rcases gD i j with q | q;have:=f3 i q;rw[sR] at this;have a1:=(ai i hi).2 a7;rw[this] at a1;cases a1;exact q
  rw[T0];by_cases e:(i:Int)=(j:Int)
  .rw [d7 e];obtain rfl:i=j:=by omega
   exact a4 a5 a6 az a0
  .rw [d9 e];exact qQ (by omega)
theorem gK{w:List Int}{p o:Nat}{x:PR}(hw:w.length=5)(ag:p<5)(ai:o<5)(Y:o≠p)(ac:x.1+x.2 - (p:Int)=o)(j:Nat):gN (Dd w (dP p x (gN w p))) j=if j=p then 0 else if j=o then gN w o+gN w p else gN w j:=by
 have Z:∀i v,(F8 w i v).length=5:=λi v=>by unfold F8;rw[qa];exact hw
 unfold dP;rw[ac];unfold Dd;by_cases h:0<gN w p;rw[d7 h];simp only;rw[I1 (Z _ _) (by omega) (by omega),I1 hw (by omega) (by omega)];have O:((j:Int)=(p:Int))=(j=p):=propext ⟨by omega,by omega⟩;have U:((j:Int)=(o:Int))=(j=o):=propext ⟨by omega,by omega⟩;simp only[O,U];by_cases K:j=p;subst K;rw[d9 (qH Y),d7 rfl,d7 rfl];omega;rw[d9 K,d9 K];by_cases e2:j=o;subst e2;rw[d7 rfl,d7 rfl];omega;rw[d9 e2,d9 e2];omega;rw[d9 h];simp only;rw[I1 (Z _ _) (by omega) (by omega),I1 hw (by omega) (by omega)];have O:((j:Int)=(p:Int))=(j=p):=propext ⟨by omega,by omega⟩;have U:((j:Int)=(o:Int))=(j=o):=propext ⟨by omega,by omega⟩;simp only[O,U];by_cases K:j=p;subst K;rw[d7 rfl,d9 (qH Y),d7 rfl];omega;rw[d9 K,d9 K];by_cases e2:j=o;subst e2;rw[d7 rfl,d7 rfl];omega;rw[d9 e2,d9 e2];omega
theorem Yu{α:Type}{l:List α}{i:Nat}(h:i<l.length):(l[i]::l.eraseIdx i).Perm l:=by
 rw[tx];refine qt.symm.trans ?_;rw[← rx h,ui]
def N4(d:DT):PR:=(min d.1 d.2.1,max d.1 d.2.1)
theorem iv{n p:Nat}{x:PR}{m:Int}(O:VP n x)(K:BR p x=true):N4 (dP p x m)=x:=by
 obtain⟨v1,v2,U⟩:=O;unfold BR at K;simp at K;obtain⟨x1,x2⟩:=x;simp only at v1 v2 U K;unfold N4 dP;split<;>simp only[fZ]<;>omega
theorem Tu{n:Nat}:∀(k:Nat) (l:List PR) (w:List Int) (out r:List DT),l.length=k->(∀x∈l,VP n x)->FI n k l w out=some r->(r.map N4).Perm (out.map N4++l)
 | 0,l,w,out,r,Z,U,h=>by
  unfold FI at h
  split at h
  .cases h
   rw[r9.1 Z,qk]
  .cases h
 | k+1,l,w,out,r,Z,U,h=>by
  unfold FI at h;let⟨p,ac,h⟩:=bind_some h;split at h;cases h
  unfold Kj at ac;let⟨c1,c2,c3⟩:=rk.1 ac;have ag:l.countP (BR p)=1:=by simpa using c1
  have O:l.findIdx (BR p)<l.length:=by
   obtain⟨x,K,Y⟩:=s5.1 (show 0<l.countP (BR p) by omega);exact sE ⟨x,K,Y⟩
  rw[Jv O] at h;have Y:BR p l[l.findIdx (BR p)]=true:=s3;have K:=U _ (j9 O);have:=Tu k _ _ _ r (by rw[ss O];omega) (λx K=>U x (rC K)) h;refine this.trans ?_;rw[qN,tP,iv K Y,pE];exact rp _ (Yu O)
theorem QV:∀{m:Nat}{l c:List PR},c∈Hd m l->c.Sublist l
 | 0,l,c,h=>by
  rw[show Hd 0 l=[[]] by cases l<;>rfl] at h
  cases aj.1 h
  exact List.nil_sublist _
 | m+1,[],c,h=>by cases h
 | m+1,y::ys,c,h=>by
  rcases gM.1 h with h | h
  .obtain⟨O,K,rfl⟩:=qK.1 h
   exact(QV K).cons_cons y
  .exact(QV h).cons y
theorem XX{n:Nat}(h:n<=5):(EW n).Nodup:=by
 match n,h with
 | 0,_ | 1,_ | 2,_ | 3,_ | 4,_ | 5,_=>decide
theorem Tv{n:Nat}{w0:List Int}(al:n<=5)(hb:∀A,-72<=EK w0 A/\EK w0 A<=72):∀(k:Nat) (l:List PR) (w:List Int) (out r:List DT),l.length=k->(∀x∈l,VP n x)->w.length=5->(∀A,∃B,EK w A=EK w0 B)->FI n k l w out=some r->
  ∃s,r=out++s/\s.length=k/\(∀d∈s,GD n d)/\s.foldl Dd w=z5
 | 0,l,w,out,r,am,Y,hw,Z,h=>by
  unfold FI at h
  split at h;rename_i e;cases h;exact⟨[],by simp,V,λd hd=>(by cases hd),e⟩;cases h
 | k+1,l,w,out,r,am,Y,hw,Z,h=>by
  unfold FI at h;let⟨p,ag,h⟩:=bind_some h;split at h;cases h
  rename_i a0;unfold Kj at ag;let⟨c1,c2,c3⟩:=rk.1 ag;have c2:p<n:=qc.1 (by first | exact c2 | exact qc.2 c2)
  have a1:l.countP (BR p)=1:=by simpa using c1
  have ac:l.findIdx (BR p)<l.length:=by
   obtain⟨x,K,O⟩:=s5.1 (show 0<l.countP (BR p) by omega);exact sE ⟨x,K,O⟩
  rw[Jv ac] at h;have O:BR p l[l.findIdx (BR p)]=true:=s3;have K:=Y _ (j9 ac);generalize l[l.findIdx (BR p)]=x at h O K;obtain⟨v1,v2,a2⟩:=K;have ap:x.1+x.2 - (p:Int)=((x.1+x.2 - (p:Int)).toNat:Nat)/\(x.1+x.2 - (p:Int)).toNat<n/\(x.1+x.2 - (p:Int)).toNat≠p:=by
   unfold BR at O;simp only[rb,rt] at O;omega
  obtain⟨aq,a3,ai⟩:=ap;have hm: -72<=gN w p/\gN w p<=72:=by
   let⟨B,U⟩:=Z λx=>x==p;rw[Rd (by omega)] at U;rw[U];exact hb B
  have av:GD n (dP p x (gN w p)):=by
   unfold dP GD;split;simp only;omega;simp only;omega
  obtain⟨s,aw,e2,ay,az⟩:=Tv al hb k _ _ _ r (by rw[ss ac];omega) (λx K=>Y x (rC K)) (Rn hw) (λA=>by
   let⟨B,U⟩:=Z λj=>if j=p then A (x.1+x.2 - (p:Int)).toNat else A j
   exact⟨B,(TR (p:=p) (o:=(x.1+x.2 - (p:Int)).toNat) (by omega) (by omega) ai (λj=>gK hw (by omega) (by omega) ai aq j) A).trans U⟩) h
  refine⟨dP p x (gN w p)::s,by rw[aw];simp,by simp[e2],λd hd=>?_,by rw[rv];exact az⟩;rcases gv.1 hd with rfl | hd;exact av;exact ay d hd
theorem TK(l:List DT):(EY l).Perm l:=by
 have ins:∀(d:DT) (l:List DT),(GG d l).Perm (d::l):=by
  intro d l
  induction l with
  | nil=>exact qJ _
  | cons z K O=>
   unfold GG;split;exact qJ _;exact(O.cons z).trans (List.Perm.swap d z K)
 refine Pn (P:=λl=>(EY l).Perm l) (qJ _) (λl d h=>?_) l;rw[Nc];exact(ins d _).trans ((h.cons d).trans (List.perm_append_singleton d l).symm)
theorem Zw{m:Nat}{s:List DT}(h:VO o)(hw:(BZ o).length=5)(hm:m<o.1.length)(K:s∈El o.1.length (BZ o) (λ_=>true) m [] (EW o.1.length)):RP o s/\MS s/\s.length=m:=by
 have O:=h.n5;unfold El at K;let⟨c,Z,K⟩:=List.mem_filterMap.1 K;rw[qS] at K;unfold Kp at K;obtain⟨r,ac,rfl⟩:=qL.1 K;have ag:=QV Z;have ap:=(QX (x:=(0,0)) Z).1;have ai:∀x∈c,VP o.1.length x:=λx aq=>UZ (sP.1 (ag.subset aq)).1;have av:c.Nodup:=((XX O).filter _).sublist ag;have al:=Tu c.length c (BZ o) [] r V ai ac;rw[uw,qS] at al;let⟨s,am,e2,U,aw⟩:=Tv O (Sy h) c.length c (BZ o) [] r rfl ai hw (λA=>⟨A,rfl⟩) ac;rw[qS] at am;subst am;have ay:RP o r:=⟨U,by
  have az:=al.nodup_iff.2 av
  refine tS.2 ((tS.1 az).imp_of_mem λ{a b} a0 hb a1 e=>a1 ?_)
  have:=Xb O (U a a0) (U b hb) e
  unfold N4
  rcases this with⟨k1,Y⟩ | ⟨k1,Y⟩;rw[k1,Y]
  .rw [k1,Y,Int.min_comm,Int.max_comm],aw,by omega⟩
 exact⟨ay.perm (TK r).symm h hw,UP r,by rw[(TK r).length_eq,e2,ap]⟩
abbrev LL:=List (List DT)
structure SL (L l:LL):Prop where
 p:L.Perm l
 c:∀s∈L,s.length<=40/\∀d∈s,BD d
 n:L.length<=1024
theorem SL.len{L l:LL}(h:SL L l):l.length=L.length:=h.p.length_eq.symm
theorem SL.ok{L l:LL}(h:SL L l){i:Nat}(hi:i<l.length):l[i].length<=40/\∀d∈l[i],BD d:=h.c _ (h.p.mem_iff.2 (j9 hi))
theorem SL.sw{L l:LL}(h:SL L l){i:Nat}(hi:i<l.length)(K:j<l.length):SL L ((l.set i l[j]).set j l[i]):=⟨h.p.trans (List.set_set_perm hi K).symm,h.c,h.n⟩
theorem SL.cmp{F:Nat}{L l:LL}(Y:5000<F)(h:SL L l){i:Nat}(hi:i<l.length)(K:j<l.length):As (f74 F l[i] l[j]) (λ_=>True):=by
 let⟨a1,O⟩:=h.ok hi;let⟨_,U⟩:=h.ok K;unfold f74;exact AJ (cq (by omega) a1 O U) (λc _=>Ap trivial)
theorem nn(i:Nat):Int.toNat (i:Int)=i:=q5 i
theorem Y9{F:Nat}{L l:LL}(U:5000<F)(h:SL L l)(K:j<L.length)(O:a<=j):As (Pal.iter (Pz F (a:Int)) F ((j:Int),l)) (SL L):=by
 have Z:=h.n;refine FF (λm s=>∃j:Nat,s.1=(j:Int)/\j=m/\j<L.length/\a<=j/\SL L s.2) ?_ (m:=j) ⟨j,V,V,K,O,h⟩ (by omega);rintro _ ⟨_,l⟩ ⟨j,rfl,rfl,K,O,h⟩;simp only at h;have ac:=h.len;unfold Pz;refine AJ (S:=λc=>c=true->a<j) ?_ ?_;refine BB (λk=>?_) (λk=>Ap (by simp));simp only at k ⊢;refine Bj (m:=j) V (by omega) (As.E ((j - 1:Nat):Int) (by omega) ?_);exact Bj (m:=j - 1) V (by omega) (AJ (h.cmp U (by omega) (by omega)) (λc _=>Ap (λ_=>by omega)));intro c Y;refine BB (λk=>?_) (λk=>Ap h);have:=Y k;refine As.E ((j - 1:Nat):Int) (by simp only;omega) (As.E ((j - 1:Nat):Int) (by simp only;omega) ?_);refine Bj (m:=j - 1) V (by simp only;omega) (Bj (m:=j) V (by simp only;omega) ?_);refine Bj (m:=j - 1) V (by rw[qa];simp only;omega) (As.E ((j - 1:Nat):Int) (by simp only;omega) ?_);refine Ap ⟨j - 1,by omega,j - 1,V,V,by omega,by omega,?_⟩;simp only[nn];exact h.sw (by omega) (by omega)
theorem Vx{F:Nat}{L l:LL}(O:5000<F)(h:SL L l)(hb:b<=L.length)(U:a<=b):As (f137 F l (a:Int) (b:Int)) (SL L):=by
 have Y:=h.n;unfold f137;refine As.E ((a+1:Nat):Int) (by simp) ?_;refine AJ (S:=SL L) ?_ (λr K=>Ap K);refine FF (λm s=>∃i:Nat,s.1=(i:Int)/\m=b+1 - i/\a<i/\SL L s.2) ?_ (m:=b - a) ⟨a+1,V,by omega,by omega,h⟩ (by omega);rintro _ ⟨_,l⟩ ⟨i,rfl,rfl,hi,h⟩;simp only at h;unfold RD;refine BB (λk=>?_) (λk=>Ap h);simp only at k ⊢;refine AJ (Y9 O h (j:=i) (by omega) (by omega)) ?_;intro r K;refine As.E ((i+1:Nat):Int) (by simp) ?_;exact Ap ⟨b+1 - (i+1),by omega,i+1,V,V,by omega,K⟩
theorem VV{F hi fi:Nat}{L l:LL}(O:5000<F)(h:SL L l)(hh:fi+hi<=L.length)(ac:lo<=1024):As (f176 F l (lo:Int) (hi:Int) (fi:Int)) (SL L):=by
 have ag:=h.n;unfold f176;refine AJ (S:=λr=>∃l',(r=Sum.inl l'∨r=Sum.inr l')/\SL L l') ?_ (λr ⟨l',Y,U⟩=>by rcases Y with rfl | rfl<;>exact Ap U);by_cases ai:hi<=lo;refine FF (λm s=>s=((lo:Int),l)) ?_ (m:=0) V (by omega);rintro _ _ rfl;unfold Ps;refine LA _ V (by simp only;omega) (by simp only;omega) (LA _ V (by simp only;omega) (by simp only;omega) ?_);exact B6 (by simp only;omega) (Ap ⟨l,.inr V,h⟩)
 refine FF (λm s=>∃i:Nat,s.1=(i:Int)/\m=hi - i/\i<hi/\SL L s.2) ?_ (m:=hi - lo) ⟨lo,V,V,by omega,h⟩ (by omega);rintro _ ⟨_,l⟩ ⟨i,rfl,rfl,al,h⟩;simp only at h;have U:=h.len;unfold Ps;refine As.E ((2*i:Nat):Int) (by simp) (As.E ((2*i+1:Nat):Int) (by simp) ?_);refine BB (λk=>Ap ⟨l,.inr V,h⟩) (λk=>?_);refine As.E ((2*i+1+1:Nat):Int) (by simp) (AJ (S:=λc=>c=true->2*i+2<hi) ?_ ?_);refine BB (λK=>?_) (λK=>Ap (by simp));refine As.E ((fi+(2*i+1):Nat):Int) (by simp) (Bj (m:=fi+(2*i+1)) V (by simp only;omega) ?_);refine As.E ((fi+(2*i+1):Nat):Int) (by simp) (As.E ((fi+(2*i+1)+1:Nat):Int) (by simp) ?_);exact Bj (m:=fi+(2*i+1)+1) V (by simp only;omega) (AJ (h.cmp O (by omega) (by omega)) (λc _=>Ap (λ_=>by omega)))
 intro c Z;refine AJ (S:=λz=>∃q:Nat,z=(q:Int)/\i<q/\q<hi) ?_ ?_;refine BB (λK=>?_) (λK=>Ap ⟨2*i+1,V,by omega,by omega⟩);have:=Z K;exact As.E ((2*i+1+1:Nat):Int) (by simp) (Ap ⟨2*i+1+1,V,by omega,by omega⟩)
 rintro _ ⟨q,rfl,am,ap⟩;refine As.E ((fi+i:Nat):Int) (by simp) (Bj (m:=fi+i) V (by simp only;omega) ?_);refine As.E ((fi+q:Nat):Int) (by simp) (Bj (m:=fi+q) V (by simp only;omega) ?_);refine AJ (h.cmp O (by omega) (by omega)) ?_;intro z _;refine BB (λ_=>Ap ⟨l,.inl V,h⟩) (λ_=>?_);refine As.E ((fi+i:Nat):Int) (by simp) (As.E ((fi+q:Nat):Int) (by simp) ?_);refine As.E ((fi+q:Nat):Int) (by simp) (Bj (m:=fi+q) V (by simp only;omega) ?_);refine As.E ((fi+i:Nat):Int) (by simp) (Bj (m:=fi+i) V (by simp only;omega) ?_);refine Bj (m:=fi+i) V (by simp only;omega) (Bj (m:=fi+q) V (by rw[qa];simp only;omega) ?_);refine Ap ⟨hi - q,by omega,q,V,V,by omega,?_⟩;simp only[nn];exact h.sw (by omega) (by omega)
theorem quo{x k:Nat}(K:0<k)(O:x<1000000):Je (x:Int) (k:Int)=some ((x/k:Nat):Int):=by
 unfold Je;rw[d9 (by omega),show(x:Int).tdiv (k:Int)=((x/k:Nat):Int) from rfl];have:=Nat.div_le_self x k;generalize x/k=y at this ⊢;exact d7 ⟨by omega,by omega⟩
theorem eV{F:Nat}{L l:LL}(O:5000<F)(h:SL L l)(hb:b<=L.length)(Y:a<b):As (f138 F l (a:Int) (b:Int)) (SL L):=by
 have Z:=h.n;unfold f138;refine As.E ((b - a:Nat):Int) (by omega) ?_;refine As.E ((b - a - 1:Nat):Int) (by omega) ?_;refine Ba (quo (k:=2) (by omega) (by omega)) ?_;refine AJ (S:=SL L) ?_ ?_;refine FF (λm s=>∃i:Nat,s.1=(i:Int) - 1/\i=m/\i<=b - a/\SL L s.2) ?_ (m:=(b - a - 1)/2+1) ⟨(b - a - 1)/2+1,by simp only;omega,V,by omega,h⟩ (by omega);rintro _ ⟨_,l⟩ ⟨i,rfl,rfl,hi,h⟩;simp only at h;unfold RB;refine BB (λk=>?_) (λk=>Ap h);simp only at k ⊢;rw[show(i:Int) - 1=((i - 1:Nat):Int) by omega];refine AJ (VV O h (lo:=i - 1) (hi:=b - a) (fi:=a) (by omega) (by omega)) ?_;intro r K;exact As.E (((i - 1:Nat):Int) - 1) V (Ap ⟨i - 1,by omega,i - 1,V,V,by omega,K⟩);intro l h;refine As.E ((b - a - 1:Nat):Int) (by omega) (AJ (S:=SL L) ?_ (λr K=>Ap K));refine FF (λm s=>∃i:Nat,s.1=(i:Int) - 1/\i=m/\i<=b - a/\SL L s.2) ?_ (m:=b - a) ⟨b - a,by simp only;omega,V,by omega,h⟩ (by omega);rintro _ ⟨_,l⟩ ⟨i,rfl,rfl,hi,h⟩;simp only at h;have ac:=h.len;unfold RR;refine BB (λk=>?_) (λk=>Ap h);simp only at k ⊢;rw[show(i:Int) - 1=((i - 1:Nat):Int) by omega];refine As.E ((a+(i - 1):Nat):Int) (by omega) (As.E ((a+(i - 1):Nat):Int) (by omega) ?_);refine Bj (m:=a+(i - 1)) V (by omega) (Bj (m:=a) V (by omega) ?_);refine Bj (m:=a+(i - 1)) V (by rw[qa];omega) ?_;simp only[nn];have U:=h.sw (i:=a) (j:=a+(i - 1)) (by omega) (by omega);refine AJ (VV O U (lo:=0) (hi:=i - 1) (fi:=a) (by omega) (by omega)) ?_;intro r K;exact As.E (((i - 1:Nat):Int) - 1) V (Ap ⟨i - 1,by omega,i - 1,V,V,by omega,K⟩)
theorem da{F:Nat}{L l:LL}(O:5000<F)(h:SL L l)(hb:b<=L.length)(U:a<b):As (f141 F l (a:Int) (b:Int)) (SL L):=by
 have Y:=h.n;unfold f141;refine As.E ((b - 1:Nat):Int) (by omega) ?_;refine AJ (S:=SL L) ?_ (λr K=>Ap K);refine FF (λm s=>∃i j:Nat,s.1=(i:Int)/\s.2.1=(j:Int)/\j=m/\j<L.length/\SL L s.2.2) ?_ (m:=b - 1) ⟨a,b - 1,V,V,V,by omega,h⟩ (by omega);rintro _ ⟨_,_,l⟩ ⟨i,j,rfl,rfl,rfl,Z,h⟩;simp only at h;have ac:=h.len;unfold Ro;refine BB (λk=>?_) (λk=>Ap h);simp only at k ⊢;refine Bj (m:=j) V (by omega) ?_;refine Bj (m:=i) V (by omega) ?_;refine As.E ((i+1:Nat):Int) (by simp) ?_;refine As.E ((j - 1:Nat):Int) (by omega) ?_;refine Ap ⟨j - 1,by omega,i+1,j - 1,V,V,V,by omega,?_⟩;simp only[nn];exact h.sw (by omega) (by omega)
theorem Rm{F i k:Nat}{L l:LL}(K:5000<F)(h:SL L l)(hi:i<L.length)(O:j<L.length)(U:k<=100):
  As (LZ F l (i:Int) (j:Int) (k:Int)) (λr=>∃u v w:Nat,r=((u:Int),(v:Int),(w:Int))/\((u=i/\v=j)∨(u=j/\v=i))/\w<=k+1):=by
 have Y:=h.len;have Z:=h.n;unfold LZ;refine Bj (m:=j) V (by omega) ?_;refine Bj (m:=i) V (by omega) ?_;refine AJ (h.cmp K (by omega) (by omega)) ?_;intro z _;refine BB (λ_=>?_) (λ_=>Ap ⟨i,j,k,V,.inl ⟨V,V⟩,by omega⟩);refine As.E ((k+1:Nat):Int) (by simp) ?_;exact Ap ⟨j,i,k+1,V,.inr ⟨V,V⟩,by omega⟩
theorem VC{F i q k:Nat}{L l:LL}(K:5000<F)(h:SL L l)(hi:i<L.length)(O:j<L.length)(U:q<L.length)(ag:k<=90):
  As (f180 F l (i:Int) (j:Int) (q:Int) (k:Int)) (λr=>∃u w:Nat,r=((u:Int),(w:Int))/\(u=i∨u=j∨u=q)/\w<=k+3):=by
 unfold f180;refine AJ (Rm K h hi O (by omega)) ?_;rintro _ ⟨Y,v1,w1,rfl,ai,k1⟩;refine AJ (Rm K h (i:=v1) (j:=q) (by omega) U (k:=w1) (by omega)) ?_;rintro _ ⟨Z,v2,w2,rfl,e2,al⟩;refine AJ (Rm K h (i:=Y) (j:=Z) (by omega) (by omega) (k:=w2) (by omega)) ?_;rintro _ ⟨am,ac,w3,rfl,ap,aq⟩;exact Ap ⟨ac,w3,V,by omega,by omega⟩
theorem Rv{F i k:Nat}{L l:LL}(K:5000<F)(h:SL L l)(U:1<=i)(hi:i+1<L.length)(O:k<=90):
  As (f179 F l (i:Int) (k:Int)) (λr=>∃u w:Nat,r=((u:Int),(w:Int))/\(u=i - 1∨u=i∨u=i+1)/\w<=k+3):=by
 have Y:=h.n;unfold f179;refine As.E ((i - 1:Nat):Int) (by omega) ?_;refine As.E ((i+1:Nat):Int) (by simp) ?_;refine AJ (VC K h (i:=i - 1) (j:=i) (q:=i+1) (by omega) (by omega) (by omega) O) ?_;rintro _ ⟨u,w,rfl,e,k1⟩;exact Ap ⟨u,w,V,e,k1⟩
theorem dy{F:Nat}{L l:LL}(K:5000<F)(h:SL L l)(hb:b<=L.length)(ag:a+12<b):
  As (f140 F l (a:Int) (b:Int)) (λr=>∃u:Nat,r.1=(u:Int)/\a<=u/\u<b):=by
 have ai:=h.n;unfold f140;refine As.E ((b - a:Nat):Int) (by omega) ?_;refine Ba (quo (k:=4) (by omega) (by omega)) ?_;refine As.E (((b - a)/4:Nat):Int) (by omega) ?_;refine As.E ((a+(b - a)/4:Nat):Int) (by omega) ?_;refine Ba (quo (k:=4) (by omega) (by omega)) ?_;refine As.E (((b - a)/4*2:Nat):Int) (by omega) ?_;refine As.E ((a+(b - a)/4*2:Nat):Int) (by omega) ?_;refine Ba (quo (k:=4) (by omega) (by omega)) ?_;refine As.E (((b - a)/4*3:Nat):Int) (by omega) ?_;refine As.E ((a+(b - a)/4*3:Nat):Int) (by omega) ?_;refine AJ (S:=λr=>∃u:Nat,r.1=(u:Int)/\a<=u/\u<b) ?_ ?_;refine B6 (by omega) (AJ (S:=λr=>∃x y z w:Nat,r=((x:Int),(y:Int),(z:Int),(w:Int))/\(a<=x/\x<b)/\(a<=y/\y<b)/\(a<=z/\z<b)/\w<=20) ?_ ?_);refine BB (λk=>?_) (λk=>Ap ⟨_,_,_,0,V,⟨by omega,by omega⟩,⟨by omega,by omega⟩,⟨by omega,by omega⟩,by omega⟩);refine AJ (Rv K h (i:=a+(b - a)/4) (k:=0) (by omega) (by omega) (by omega)) ?_;rintro _ ⟨Y,w1,rfl,al,k1⟩;refine AJ (Rv K h (i:=a+(b - a)/4*2) (k:=w1) (by omega) (by omega) (by omega)) ?_;rintro _ ⟨Z,w2,rfl,e2,am⟩;refine AJ (Rv K h (i:=a+(b - a)/4*3) (k:=w2) (by omega) (by omega) (by omega)) ?_;rintro _ ⟨ac,w3,rfl,ap,aq⟩;exact Ap ⟨Y,Z,ac,w3,V,⟨by omega,by omega⟩,⟨by omega,by omega⟩,⟨by omega,by omega⟩,by omega⟩;rintro _ ⟨x,y,z,w,rfl,av,aw,ay,hw⟩;refine AJ (VC K h (i:=x) (j:=y) (q:=z) (k:=w) (by omega) (by omega) (by omega) (by omega)) ?_;rintro _ ⟨u,w',rfl,e,_⟩;exact Ap ⟨u,V,by omega,by omega⟩;rintro⟨_,w⟩ ⟨u,rfl,O,U⟩;refine BB (λ_=>Ap ⟨u,V,O,U⟩) (λ_=>?_);exact BB (λ_=>Ap ⟨u,V,O,U⟩) (λ_=>Ap ⟨u,V,O,U⟩)
theorem eT:((List.range 1025).all λn=>match f177 0 ((n:Nat):Int) with | some m=>decide (n<m/\(m<=2*n∨n=0)/\m<=4096) | none=>false)=true:=by decide+kernel
theorem fh(F:Nat)(x:Int):f177 F x=f177 0 x:=rfl
theorem et{F n:Nat}(K:n<=1024)(O:0<n):∃m:Nat,f177 F (n:Int)=some m/\n<m/\m<=2*n/\m<=4096:=by
 have h:=qs.1 eT n (qc.2 (by omega));rw[fh];split at h;rename_i m e;have:=su h;exact⟨m,e,this.1,by omega,this.2.2⟩;cases h
theorem iA(h:a<2^62):JR a=(a:Int):=Uf h
theorem dA{F:Nat}{L l:LL}(Y:5000<F)(h:SL L l)(hb:b<=L.length)(Z:a+12<b):As (f139 F l (a:Int) (b:Int)) (SL L):=by
 have ac:=h.n;unfold f139;refine As.E ((b - a:Nat):Int) (by omega) ?_;refine AJ (S:=SL L) ?_ (λr K=>Ap K);refine B6 (by omega) ?_;obtain⟨M,O,ag,ai,al⟩:=et (F:=F) (n:=b - a) (by omega) (by omega);refine Ba O ?_;refine Ba (quo (k:=4) (by omega) (by omega)) ?_;refine As.E (((b - a)/4*2:Nat):Int) (by omega) ?_;refine As.E ((a+(b - a)/4*2:Nat):Int) (by omega) ?_;refine As.E ((a+(b - a)/4*2 - 1:Nat):Int) (by omega) ?_;refine AJ (S:=λr=>SL L r.1) ?_ (λr K=>Ap K);refine FF (λm s=>∃i:Nat,s.2.1=(i:Int)/\m=L.length - i/\SL L s.2.2) ?_ (m:=L.length - (a+(b - a)/4*2 - 1)) ⟨_,V,V,h⟩ (by omega);rintro _ ⟨w,_,l⟩ ⟨i,rfl,rfl,h⟩;simp only at h;have am:=h.len;unfold RH;refine Ba (quo (k:=4) (by omega) (by omega)) ?_;refine As.E (((b - a)/4*2:Nat):Int) (by omega) ?_;refine As.E ((a+(b - a)/4*2:Nat):Int) (by omega) ?_;refine As.E ((a+(b - a)/4*2+1:Nat):Int) (by omega) ?_;refine BB (λk=>?_) (λk=>Ap h);simp only at k;have hi:i<b:=by omega
 obtain⟨v,w',ev⟩:∃v w',f178 F w=some (v,w'):=⟨_,_,V⟩;refine Ba ev ?_
 dsimp only;generalize K:(v&&& (M+18446744073709551615)%2^64)%2^64=r;have ap:r<M:=by
  rw[← K];refine rW (Nat.mod_le _ _) ?_;have e:(M+18446744073709551615)%2^64=M - 1:=by omega
  rw[e];exact rW Nat.and_le_right (by omega)
 rw[iA (by omega)];refine AJ (S:=λz=>∃q:Nat,z=(q:Int)/\q<b - a) ?_ ?_;refine BB (λU=>?_) (λU=>Ap ⟨r,V,by omega⟩);exact As.E ((r - (b - a):Nat):Int) (by omega) (Ap ⟨r - (b - a),V,by omega⟩)
 rintro _ ⟨q,rfl,aq⟩;refine As.E ((a+q:Nat):Int) (by simp) (As.E ((a+q:Nat):Int) (by simp) ?_);refine Bj (m:=a+q) V (by omega) (Bj (m:=i) V (by omega) ?_);refine Bj (m:=a+q) V (by rw[qa];omega) (As.E ((i+1:Nat):Int) (by simp) ?_);refine Ap ⟨L.length - (i+1),by omega,i+1,V,V,?_⟩;simp only[nn];exact h.sw (by omega) (by omega)
theorem YY{F:Nat}{L l:LL}{x:Int×Int×LL}(K:5000<F)(h:SL L x.2.2)(hb:b<=L.length)(ac:0<a)(O:a<=b):As (Pal.iter (OZ F (b:Int) x) F (a:Int)) (λr=>∃i:Nat,r=(i:Int)/\a<=i/\i<=b):=by
 have ag:=h.n;have ai:=h.len;refine FF (λm s=>∃i:Nat,s=(i:Int)/\m=b - i/\a<=i/\i<=b) ?_ (m:=b - a) ⟨a,V,V,by omega,O⟩ (by omega);rintro _ _ ⟨i,rfl,rfl,U,Y⟩;unfold OZ;refine AJ (S:=λc=>c=true->i<b) ?_ ?_;refine BB (λk=>?_) (λk=>Ap (by simp));refine Bj (m:=i) V (by omega) (As.E ((i - 1:Nat):Int) (by omega) ?_);exact Bj (m:=i - 1) V (by omega) (AJ (h.cmp K (by omega) (by omega)) (λc _=>Ap (λ_=>by omega)))
 intro c Z;refine BB (λk=>?_) (λk=>Ap ⟨i,V,U,Y⟩);have:=Z k;exact As.E ((i+1:Nat):Int) (by simp) (Ap ⟨b - (i+1),by omega,i+1,V,V,by omega,by omega⟩)
theorem YU{F i:Nat}{L l:LL}(K:5000<F)(h:SL L l)(hi:i<L.length):As (Pal.iter (Pr F) F ((i:Int),l)) (SL L):=by
 have O:=h.n;refine FF (λm s=>∃j:Nat,s.1=(j:Int)/\j=m/\j<L.length/\SL L s.2) ?_ (m:=i) ⟨i,V,V,hi,h⟩ (by omega);rintro _ ⟨_,l⟩ ⟨j,rfl,rfl,U,h⟩;simp only at h;have Y:=h.len;unfold Pr;refine BB (λk=>?_) (λk=>Ap h);simp only at k ⊢;refine Bj (m:=j) V (by omega) ?_;refine As.E ((j - 1:Nat):Int) (by omega) ?_;refine Bj (m:=j - 1) V (by omega) ?_;refine AJ (h.cmp K (by omega) (by omega)) ?_;intro z _;refine BB (λ_=>Ap h) (λ_=>?_);refine As.E ((j - 1:Nat):Int) (by omega) ?_;refine As.E ((j - 1:Nat):Int) (by omega) ?_;refine Bj (m:=j - 1) V (by omega) ?_;refine Bj (m:=j - 1) V (by rw[qa];omega) ?_;refine As.E ((j - 1:Nat):Int) (by omega) ?_;refine Ap ⟨j - 1,by omega,j - 1,V,V,by omega,?_⟩;simp only[nn];exact h.sw (by omega) (by omega)
theorem Za{F i:Nat}{L l:LL}(K:5000<F)(h:SL L l)(hb:b<=L.length)(O:0<i):As (Pal.iter (Pe F (b:Int)) F ((i:Int),l)) (SL L):=by
 have U:=h.n;refine FF (λm s=>∃j:Nat,s.1=(j:Int)/\m=b - j/\0<j/\SL L s.2) ?_ (m:=b - i) ⟨i,V,V,O,h⟩ (by omega);rintro _ ⟨_,l⟩ ⟨j,rfl,rfl,Y,h⟩;simp only at h;have Z:=h.len;unfold Pe;refine BB (λk=>?_) (λk=>Ap h);simp only at k ⊢;refine Bj (m:=j) V (by omega) ?_;refine As.E ((j - 1:Nat):Int) (by omega) ?_;refine Bj (m:=j - 1) V (by omega) ?_;refine AJ (h.cmp K (by omega) (by omega)) ?_;intro z _;refine BB (λ_=>Ap h) (λ_=>?_);refine As.E ((j - 1:Nat):Int) (by omega) ?_;refine As.E ((j - 1:Nat):Int) (by omega) ?_;refine Bj (m:=j - 1) V (by omega) ?_;refine Bj (m:=j - 1) V (by rw[qa];omega) ?_;refine As.E ((j+1:Nat):Int) (by simp) ?_;refine Ap ⟨b - (j+1),by omega,j+1,V,V,by omega,?_⟩;simp only[nn];exact h.sw (by omega) (by omega)
theorem eK{F:Nat}{L l:LL}(K:5000<F)(h:SL L l)(hb:b<=L.length)(am:a<b):As (f142 F l (a:Int) (b:Int)) (λr=>SL L r.2):=by
 have ap:=h.n;unfold f142;refine As.E ((a+1:Nat):Int) (by simp) ?_;refine AJ (S:=λr=>∃l',SL L l'/\((∃t,r=Sum.inl (t,l'))∨r=Sum.inr l')) ?_ ?_
 .refine FF (λm s=>∃i c:Nat,s.1=(i:Int)/\s.2.1=(c:Int)/\m=5 - c/\a<i/\i<=b/\SL L s.2.2) ?_ (m:=5) ⟨a+1,0,V,V,V,by omega,by omega,h⟩ (by omega);rintro _ ⟨_,_,l⟩ ⟨i,c,rfl,rfl,rfl,aq,ac,h⟩;simp only at h;have av:=h.len;unfold Rq;refine BB (λk=>?_) (λk=>Ap ⟨l,h,.inr V⟩);simp only at k ⊢;refine AJ (YY (l:=l) K (x:=((i:Int),(c:Int),l)) h hb (by omega) ac) ?_;rintro _ ⟨q,rfl,aw,ag⟩;refine BB (λ_=>Ap ⟨l,h,.inl ⟨_,V⟩⟩) (λay=>?_);refine As.E ((b - a:Nat):Int) (by omega) (BB (λ_=>Ap ⟨l,h,.inl ⟨_,V⟩⟩) (λ_=>?_));refine As.E ((q - 1:Nat):Int) (by omega) (As.E ((q - 1:Nat):Int) (by omega) ?_);refine Bj (m:=q - 1) V (by omega) (Bj (m:=q) V (by omega) ?_);refine Bj (m:=q - 1) V (by rw[qa];omega) (As.E ((q - a:Nat):Int) (by omega) ?_);simp only[nn];have U:=h.sw (i:=q) (j:=q - 1) (by omega) (by omega);refine AJ (S:=SL L) ?_ ?_;refine BB (λai=>?_) (λ_=>Ap U);exact As.E ((q - 1:Nat):Int) (by omega) (AJ (YU K U (by omega)) (λr O=>Ap O))
  intro az Y;refine As.E ((b - q:Nat):Int) (by omega) (AJ (S:=SL L) ?_ ?_);refine BB (λai=>?_) (λ_=>Ap Y);exact As.E ((q+1:Nat):Int) (by simp) (AJ (Za K Y hb (by omega)) (λr O=>Ap O))
  intro a0 al;exact As.E ((c+1:Nat):Int) (by simp) (Ap ⟨5 - (c+1),by omega,q,c+1,V,V,V,by omega,ag,al⟩)
 .rintro _ ⟨l',Z,⟨t,rfl⟩ | rfl⟩;exact Ap Z;exact Ap Z
variable{body:Int->Option (Bt Int Int)}
theorem S3{F i:Nat}(Y:5000<F)(Z:j<=1023)(ac:i<=1030)(U:∀q:Nat,i<=q->q<=j->As (body (q:Int)) (λr=>r=.more ((q+1:Nat):Int)∨r=.done (q:Int)))(he:∀q:Nat,j<q->body (q:Int)=some (.done (q:Int))):As (Pal.iter body F (i:Int)) (λr=>∃q:Nat,r=(q:Int)/\i<=q/\(q<=j+1∨q=i)):=by
 refine FF (λm s=>∃q:Nat,s=(q:Int)/\m=1030 - q/\i<=q/\(q<=j+1∨q=i)) ?_ (m:=1030 - i) ⟨i,V,V,oU _,.inr V⟩ (by omega);rintro _ _ ⟨q,rfl,rfl,K,O⟩;rcases gD j q with k | k;rw[he q k];exact Ap ⟨q,V,K,O⟩
 refine(U q K k).Ah ?_;rintro _ (rfl | rfl);exact⟨1030 - (q+1),by omega,q+1,V,V,by omega,.inl (by omega)⟩;exact⟨q,V,K,O⟩
theorem SZ{F i:Nat}(Y:5000<F)(Z:j<=1023)(hi:1<=i)(U:∀q:Nat,i<=q->q<=j->As (body (q:Int)) (λr=>r=.more ((q - 1:Nat):Int)∨r=.done (q:Int)))(he:∀q:Nat,q<i->body (q:Int)=some (.done (q:Int))):As (Pal.iter body F (j:Int)) (λr=>∃q:Nat,r=(q:Int)/\q<=j/\(i<=q+1∨q=j)):=by
 refine FF (λm s=>∃q:Nat,s=(q:Int)/\q=m/\q<=j/\(i<=q+1∨q=j)) ?_ (m:=j) ⟨j,V,V,oU _,.inr V⟩ (by omega);rintro _ _ ⟨q,rfl,rfl,K,O⟩;rcases gD q i with k | k;rw[he q k];exact Ap ⟨q,V,K,O⟩
 refine(U q k K).Ah ?_;rintro _ (rfl | rfl);exact⟨q - 1,by omega,q - 1,V,V,by omega,.inl (by omega)⟩;exact⟨q,V,K,O⟩
theorem Zc{F i:Nat}{L l:LL}{y z:Int}(K:5000<F)(h:SL L l)(U:a<L.length)(Y:j<L.length)(hi:i<=1030):As (Pal.iter (Nu F (a:Int) (y,(j:Int),l)) F (i:Int)) (λr=>∃q:Nat,r=(q:Int)/\i<=q/\(q<=j+1∨q=i)):=by
 have Z:=h.n;have ac:=h.len;refine S3 K (by omega) hi (λq O ag=>?_) λq O=>?_;unfold Nu;refine AJ (S:=λ_=>True) ?_ ?_;refine B6 (by simp only;omega) (Bj (m:=q) V (by simp only;omega) ?_);exact Bj (m:=a) V (by simp only;omega) (AJ (h.cmp K (by omega) (by omega)) (λc _=>Ap trivial));intro c _;refine BB (λ_=>?_) (λ_=>Ap (.inr V));exact As.E ((q+1:Nat):Int) (by simp) (Ap (.inl V));unfold Nu;rw[d9 (by simp only;omega)];rfl
theorem ZJ{F i:Nat}{L l:LL}{y z:Int}(K:5000<F)(h:SL L l)(U:a<L.length)(Y:j<L.length)(hi:1<=i):As (Pal.iter (Np F (a:Int) (y,z,l) (i:Int)) F (j:Int)) (λr=>∃q:Nat,r=(q:Int)/\q<=j/\(i<=q+1∨q=j)):=by
 have Z:=h.n;have ac:=h.len;refine SZ K (by omega) hi (λq O ag=>?_) λq O=>?_;unfold Np;refine AJ (S:=λ_=>True) ?_ ?_;refine B6 (by omega) (Bj (m:=q) V (by simp only;omega) ?_);exact Bj (m:=a) V (by simp only;omega) (AJ (h.cmp K (by omega) (by omega)) (λc _=>Ap trivial));intro c _;refine BB (λ_=>?_) (λ_=>Ap (.inr V));exact As.E ((q - 1:Nat):Int) (by omega) (Ap (.inl V));unfold Np;rw[d9 (by omega)];rfl
theorem ZZ{F i:Nat}{L l:LL}{y z:Int}(K:5000<F)(h:SL L l)(U:a<L.length)(Y:j<L.length)(hi:i<=1030):As (Pal.iter (Nt F (a:Int) (y,(j:Int),l)) F (i:Int)) (λr=>∃q:Nat,r=(q:Int)/\i<=q/\(q<=j+1∨q=i)):=by
 have Z:=h.n;have ac:=h.len;refine S3 K (by omega) hi (λq O ag=>?_) λq O=>?_;unfold Nt;refine AJ (S:=λ_=>True) ?_ ?_;refine B6 (by simp only;omega) (Bj (m:=a) V (by simp only;omega) ?_);exact Bj (m:=q) V (by simp only;omega) (AJ (h.cmp K (by omega) (by omega)) (λc _=>Ap trivial));intro c _;refine BB (λ_=>?_) (λ_=>Ap (.inr V));exact As.E ((q+1:Nat):Int) (by simp) (Ap (.inl V));unfold Nt;rw[d9 (by simp only;omega)];rfl
theorem Y7{F i:Nat}{L l:LL}{y z:Int}(K:5000<F)(h:SL L l)(U:a<L.length)(Y:j<L.length)(hi:1<=i):As (Pal.iter (Nz F (a:Int) (y,z,l) (i:Int)) F (j:Int)) (λr=>∃q:Nat,r=(q:Int)/\q<=j/\(i<=q+1∨q=j)):=by
 have Z:=h.n;have ac:=h.len;refine SZ K (by omega) hi (λq O ag=>?_) λq O=>?_;unfold Nz;refine AJ (S:=λ_=>True) ?_ ?_;refine B6 (by omega) (Bj (m:=a) V (by simp only;omega) ?_);exact Bj (m:=q) V (by simp only;omega) (AJ (h.cmp K (by omega) (by omega)) (λc _=>Ap trivial));intro c _;refine BB (λ_=>?_) (λ_=>Ap (.inr V));exact As.E ((q - 1:Nat):Int) (by omega) (Ap (.inl V));unfold Nz;rw[d9 (by omega)];rfl
theorem Zn{F i:Nat}{L l:LL}(K:5000<F)(h:SL L l)(hb:b<=L.length)(Z:a<b)(hi:a<i)(O:i<=b)(U:a<=j)(Y:j<b):As (Pal.iter (O3 F (a:Int)) F ((i:Int),(j:Int),l)) (λr=>∃q:Nat,r.1=(q:Int)/\a<=q/\q<b/\SL L r.2):=by
 have ac:=h.n;refine FF (λm s=>∃i j:Nat,s.1=(i:Int)/\s.2.1=(j:Int)/\m=b - i/\a<i/\i<=b/\a<=j/\j<b/\SL L s.2.2) ?_ (m:=b - i) ⟨i,j,V,V,V,hi,O,U,Y,h⟩ (by omega);rintro _ ⟨_,_,l⟩ ⟨i,j,rfl,rfl,rfl,hi,O,U,Y,h⟩;simp only at h;have ag:=h.len;unfold O3;refine AJ (Zc (z:=0) K h (by omega) (by omega) (by omega)) ?_;rintro _ ⟨p,rfl,p1,p2⟩;refine AJ (ZJ K h (by omega) (by omega) (by omega)) ?_;rintro _ ⟨q,rfl,ai,al⟩;refine BB (λk=>Ap ⟨q,V,by omega,by omega,h⟩) (λk=>?_);refine Bj (m:=q) V (by simp only;omega) ?_;refine Bj (m:=p) V (by simp only;omega) ?_;refine As.E ((p+1:Nat):Int) (by simp) ?_;refine As.E ((q - 1:Nat):Int) (by omega) ?_;refine Ap ⟨b - (p+1),by omega,p+1,q - 1,V,V,V,by omega,by omega,by omega,by omega,?_⟩;simp only[nn];exact h.sw (by omega) (by omega)
theorem ZL{F i:Nat}{L l:LL}(K:5000<F)(h:SL L l)(hb:b<=L.length)(Z:a<b)(hi:a<i)(O:i<=b)(U:a<=j)(Y:j<b):As (Pal.iter (Pj F (a:Int)) F ((i:Int),(j:Int),l)) (λr=>∃q:Nat,r.1=(q:Int)/\a<q/\q<=b/\SL L r.2):=by
 have ac:=h.n;refine FF (λm s=>∃i j:Nat,s.1=(i:Int)/\s.2.1=(j:Int)/\m=b - i/\a<i/\i<=b/\a<=j/\j<b/\SL L s.2.2) ?_ (m:=b - i) ⟨i,j,V,V,V,hi,O,U,Y,h⟩ (by omega);rintro _ ⟨_,_,l⟩ ⟨i,j,rfl,rfl,rfl,hi,O,U,Y,h⟩;simp only at h;have ag:=h.len;unfold Pj;refine AJ (ZZ (z:=0) K h (by omega) (by omega) (by omega)) ?_;rintro _ ⟨p,rfl,p1,p2⟩;refine AJ (Y7 K h (by omega) (by omega) (by omega)) ?_;rintro _ ⟨q,rfl,ai,al⟩;refine BB (λk=>Ap ⟨p,V,by omega,by omega,h⟩) (λk=>?_);refine Bj (m:=q) V (by simp only;omega) ?_;refine Bj (m:=p) V (by simp only;omega) ?_;refine As.E ((p+1:Nat):Int) (by simp) ?_;refine As.E ((q - 1:Nat):Int) (by omega) ?_;refine Ap ⟨b - (p+1),by omega,p+1,q - 1,V,V,V,by omega,by omega,by omega,by omega,?_⟩;simp only[nn];exact h.sw (by omega) (by omega)
theorem dZ{F v:Nat}{L l:LL}(K:5000<F)(h:SL L l)(hb:b<=L.length)(U:a+12<b)(Y:a<=v)(Z:v<b):As (f143 F l (a:Int) (b:Int) (v:Int)) (λr=>∃q:Nat,r.1=(q:Int)/\a<q/\q<=b/\SL L r.2):=by
 have ac:=h.n;have ag:=h.len;unfold f143;refine Bj (m:=v) V (by omega) ?_;refine Bj (m:=a) V (by omega) ?_;refine As.E ((a+1:Nat):Int) (by simp) ?_;refine As.E ((b - 1:Nat):Int) (by omega) ?_;simp only[nn];exact AJ (ZL K (h.sw (by omega) (by omega)) hb (by omega) (by omega) (by omega) (by omega) (by omega)) (λr O=>Ap O)
theorem dH{F v:Nat}{L l:LL}(K:5000<F)(h:SL L l)(hb:b<=L.length)(ag:a+12<b)(ai:a<=v)(al:v<b):As (f144 F l (a:Int) (b:Int) (v:Int)) (λr=>∃q:Nat,r.1=(q:Int)/\a<=q/\q<b/\SL L r.2.2):=by
 have am:=h.n;have ac:=h.len;unfold f144;refine Bj (m:=v) V (by omega) ?_;refine Bj (m:=a) V (by omega) ?_;refine As.E ((a+1:Nat):Int) (by simp) ?_;refine As.E ((b - 1:Nat):Int) (by omega) ?_;simp only[nn];have U:=h.sw (i:=a) (j:=v) (by omega) (by omega);generalize ap:l[v]=x at*;generalize aq:l[a]=y at*;have av:((l.set a x).set v y).length=L.length:=by rw[qa,qa];exact ac
 generalize Z:(l.set a x).set v y=l' at*;refine AJ (S:=λr=>∃q:Nat,r=(q:Int)/\a+1<=q/\(q<=(b - 1)+1∨q=a+1)) ?_ ?_;refine S3 K (by omega) (by omega) (λq Y O=>?_) λq Y=>?_;unfold OV;simp only[nn,Z];refine AJ (S:=λ_=>True) ?_ ?_;refine B6 (by omega) (Bj (m:=q) V (by omega) ?_);exact Bj (m:=a) V (by omega) (AJ (U.cmp K (by omega) (by omega)) (λc _=>Ap trivial));intro c _;refine BB (λ_=>?_) (λ_=>Ap (.inr V));exact As.E ((q+1:Nat):Int) (by simp) (Ap (.inl V));unfold OV;rw[d9 (by omega)];rfl
 rintro _ ⟨p,rfl,p1,p2⟩;refine AJ (S:=λr=>∃q:Nat,r=(q:Int)/\q<=b - 1/\(p<=q+1∨q=b - 1)) ?_ ?_;refine SZ K (by omega) (by omega) (λq Y O=>?_) λq Y=>?_;unfold O7;simp only[nn,Z];refine AJ (S:=λ_=>True) ?_ ?_;refine B6 (by omega) (Bj (m:=q) V (by omega) ?_);exact Bj (m:=a) V (by omega) (AJ (U.cmp K (by omega) (by omega)) (λc _=>Ap trivial));intro c _;refine BB (λ_=>?_) (λ_=>Ap (.inr V));exact As.E ((q - 1:Nat):Int) (by omega) (Ap (.inl V));unfold O7;rw[d9 (by omega)];rfl
 rintro _ ⟨q,rfl,aw,ay⟩;refine BB (λk=>?_) (λk=>?_);refine Bj (m:=a) V (by omega) (Bj (m:=q) V (by omega) ?_);refine Ap ⟨q,V,by omega,by omega,?_⟩;simp only[nn];exact U.sw (by omega) (by omega);refine Bj (m:=q) V (by omega) (Bj (m:=p) V (by omega) ?_);refine As.E ((p+1:Nat):Int) (by simp) (As.E ((q - 1:Nat):Int) (by omega) ?_);simp only[nn];refine AJ (Zn K (U.sw (i:=p) (j:=q) (by omega) (by omega)) hb (by omega) (by omega) (by omega) (by omega) (by omega)) ?_;rintro⟨_,az⟩ ⟨r,rfl,r1,r2,O⟩;simp only at O;have a0:=O.len;refine Bj (m:=a) V (by simp only;omega) (Bj (m:=r) V (by simp only;omega) ?_);refine Ap ⟨r,V,r1,r2,?_⟩;simp only[nn];exact O.sw (by omega) (by omega)
theorem bq{F N:Nat}{rec:LL->Int->Int->Int->Option LL}{L:LL}(U:5000<F)(aw:∀(l:LL) (a b:Nat) (k:Int),SL L l->a<=b->b<=L.length->2*(b - a)<N->0<=k->k<=100->As (rec l (a:Int) (b:Int) k) (SL L)){k:Int}{l:LL}(h:SL L l)(aq:a<=b)(hb:b<=L.length)(ay:b - a<N)(ag:0<=k)(ai:k<=100):As (LJ rec F l (a:Int) (b:Int) k) (SL L):=by
 have a6:=h.n;unfold LJ;refine AJ (S:=λr=>∃l',SL L l'/\r=Sum.inl l') ?_ ?_
 .refine FF (λm s=>∃a b:Nat,s.1=(a:Int)/\s.2.1=(b:Int)/\m=b - a/\a<=b/\b<=L.length/\b - a<N/\0<=s.2.2.1/\s.2.2.1<=100/\SL L s.2.2.2.2.2) ?_ (m:=b - a) ⟨a,b,V,V,V,aq,hb,ay,ag,ai,h⟩ (by omega);rintro _ ⟨_,_,k,t1,t2,l⟩ ⟨a,b,rfl,rfl,rfl,aq,hb,ay,ag,ai,h⟩;simp only at h ag ai;have a7:=h.len;unfold OH;simp only;refine AJ (S:=λr=>(∃l',SL L l'/\r=Sum.inl l')∨∃(O b':Nat) (k':Int) (az a0:Bool) (l':LL),r=Sum.inr ((O:Int),(b':Int),k',az,a0,l')/\b' - O<b - a/\O<=b'/\b'<=L.length/\0<=k'/\k'<=100/\SL L l') ?_ ?_
  .refine As.E ((b - a:Nat):Int) (by omega) (BB (λc=>?_) (λc=>?_));exact AJ (Vx U h hb aq) (λr K=>Ap (.inl ⟨r,K,V⟩))
   refine BB (λc2=>?_) (λc2=>?_);exact AJ (eV U h hb (by omega)) (λr K=>Ap (.inl ⟨r,K,V⟩))
   refine AJ (S:=λr=>0<=r.1/\r.1<=100/\SL L r.2) ?_ ?_;refine BB (λ_=>?_) (λ_=>Ap ⟨ag,ai,h⟩);refine AJ (dA U h hb (by omega)) ?_;intro r K;exact As.E (k - 1) V (Ap ⟨by simp only;omega,by simp only;omega,K⟩)
   rintro⟨al,l2⟩ ⟨g1,g2,am⟩;simp only at g1 g2 am ⊢;refine AJ (dy U am hb (by omega)) ?_;rintro⟨_,hint⟩ ⟨v,rfl,v1,v2⟩;simp only;refine AJ (S:=λr=>∃v:Nat,r.1=(v:Int)/\a<=v/\v<b/\SL L r.2.2) ?_ ?_;refine BB (λ_=>?_) (λ_=>Ap ⟨v,V,v1,v2,am⟩);refine AJ (da U am hb (by omega)) ?_;intro r K;refine As.E ((b - 1:Nat):Int) (by omega) (As.E ((v - a:Nat):Int) (by omega) ?_);exact As.E ((b - 1 - (v - a):Nat):Int) (by omega) (Ap ⟨_,V,by omega,by omega,K⟩)
   rintro⟨_,a8,a9⟩ ⟨v,rfl,v1,v2,av⟩;simp only at av ⊢;refine AJ (S:=λ_=>True) (BB (λ_=>Ap trivial) (λ_=>Ap trivial)) ?_;intro z1 _;refine AJ (S:=λ_=>True) (BB (λ_=>Ap trivial) (λ_=>Ap trivial)) ?_;intro bb _;refine AJ (S:=λr=>∃l',SL L l'/\(r=Sum.inl l'∨r=Sum.inr l')) ?_ ?_;refine BB (λ_=>?_) (λ_=>Ap ⟨_,av,.inr V⟩);refine AJ (eK U av hb (by omega)) ?_;intro r K;exact BB (λ_=>Ap ⟨_,K,.inl V⟩) (λ_=>Ap ⟨_,K,.inr V⟩)
   rintro _ ⟨a2,Y,rfl | rfl⟩;exact Ap (.inl ⟨a2,Y,V⟩)
   have be:=Y.len;simp only[Sum.elim_inr];refine AJ (S:=λ_=>True) ?_ ?_;refine BB (λc3=>?_) (λ_=>Ap trivial);refine As.E ((a - 1:Nat):Int) (by omega) (Bj (m:=a - 1) V (by omega) ?_);exact Bj (m:=v) V (by omega) (AJ (Y.cmp U (by omega) (by omega)) (λc _=>Ap trivial))
   intro bi _;refine BB (λ_=>?_) (λ_=>?_);refine AJ (dZ U Y hb (by omega) v1 v2) ?_;rintro⟨_,ap⟩ ⟨q,rfl,a1,a3,Z⟩;exact Ap (.inr ⟨q,b,al,t1,t2,ap,V,by omega,by omega,hb,g1,g2,Z⟩)
   .refine AJ (dH U Y hb (by omega) v1 v2) ?_;rintro⟨_,t3,ap⟩ ⟨q,rfl,a1,a3,Z⟩;simp only at Z ⊢;refine As.E ((q - a:Nat):Int) (by omega) (As.E ((b - q:Nat):Int) (by omega) ?_);refine Ba (quo (k:=8) (by omega) (by omega)) (AJ (S:=λr=>∃(O b':Nat),r.1=(O:Int)/\r.2.1=(b':Int)/\b' - O<b - a/\O<=b'/\b'<=L.length/\SL L r.2.2.2) ?_ ?_);refine BB (λc4=>?_) (λc4=>?_);refine AJ (aw ap a q al Z a1 (by omega) (by omega) g1 g2) ?_;intro r K;exact As.E ((q+1:Nat):Int) (by simp) (Ap ⟨q+1,b,V,V,by omega,by omega,hb,K⟩);refine As.E ((q+1:Nat):Int) (by simp) (AJ (aw ap (q+1) b al Z (by omega) hb (by omega) g1 g2) ?_);intro r K;exact Ap ⟨a,q,V,V,by omega,by omega,by omega,K⟩
    rintro⟨_,_,t4,a4⟩ ⟨O,b',rfl,rfl,d1,d2,d3,a5⟩;exact Ap (.inr ⟨O,b',al,t4,t3,a4,V,d1,d2,d3,g1,g2,a5⟩)
  .rintro _ (⟨l',ac,rfl⟩ | ⟨O,b',k',az,a0,l',rfl,d1,d2,d3,d4,d5,ac⟩);exact Ap ⟨l',ac,V⟩;exact Ap ⟨b' - O,d1,O,b',V,V,V,d2,d3,by omega,d4,d5,ac⟩
 .rintro _ ⟨l',ac,rfl⟩;exact Ap ac
theorem Ul{F:Nat}{L:LL}(K:5000<F):∀(N:Nat) (l:LL) (a b:Nat) (k:Int),SL L l->a<=b->b<=L.length->b - a<2*2^N->0<=k->k<=100->As (LF (N+1) F l (a:Int) (b:Int) k) (SL L)
 | 0,l,a,b,k,h,O,hb,Y,Z,ac=>by
  unfold LF LJ
  have aq:=h.n
  refine AJ (S:=λr=>∃l',SL L l'/\r=Sum.inl l') ?_ ?_
  .refine FF (λm s=>s=((a:Int),(b:Int),k,true,true,l)) ?_ (m:=0) V (by omega)
   rintro _ _ rfl;unfold OH;refine AJ (S:=λr=>∃l',SL L l'/\r=Sum.inl l') ?_ ?_;refine As.E ((b - a:Nat):Int) (by simp only;omega) (B6 (by omega) ?_);exact AJ (Vx K h hb O) (λr ag=>Ap ⟨r,ag,V⟩);rintro _ ⟨l',U,rfl⟩;exact Ap ⟨l',U,V⟩
  .rintro _ ⟨l',U,rfl⟩;exact Ap U
 | N+1,l,a,b,k,h,O,hb,Y,Z,ac=>by
  unfold LF;exact bq (N:=2*2^(N+1)) K (λl a b k g1 g2 ai al am ap=>Ul K N l a b k g1 g2 ai (by rw[tA] at al;omega) am ap) h O hb Y Z ac
theorem df:((List.range 1025).all λn=>match f115 0 (CC ((n:Nat):Int)) with | some m=>decide (0<=m/\m<=100) | none=>false)=true:=by decide+kernel
theorem jc(F:Nat)(x:Nat):f115 F x=f115 0 x:=rfl
theorem aF{F:Nat}{l:LL}(K:5000<F)(Z:l.length<=1023)(O:∀s∈l,s.length<=40/\∀d∈s,BD d):As (f76 F l) (λr=>l.Perm r):=by
 unfold f76;have h:=qs.1 df l.length (qc.2 (by omega));split at h;rename_i m e;have:=su h;refine Ba ((jc F _).trans e) (AJ (S:=SL l) ?_ (λr U=>Ap U.p));have Y:=Ul (F:=F) (L:=l) K 9 l 0 l.length m ⟨qJ _,O,by omega⟩ (by omega) (oU _) (by omega) this.1 this.2;exact Y;cases h
open Go Go.Conc Go.Proofs
def MO(fu_:Nat)(p0:Bi)(p1:AE):Option ((List Int)×Int):=
 (f70 fu_ p0 ([])).bind λK=>
 if K.2≠0 then(
  some ([],K.2)
 ) else(
  (NR fu_ K.1 p1).bind λY=>
  (Xg fu_ Y).bind λO=>
  if O≠0 then(
   some ([],O)
  ) else(
   (f77 fu_ K.1 p1).bind λU=>
   if(!U.2)=true then(
    some ([],11)
   ) else(
    some (U.1,0)
   )
  )
 )
theorem Wx{E:LH}{a1:Aq}{c2:Nat}{ag al:Aq}{am:Nat}{p0:Bi}{p1:AE}(a6:GE E)(a7:Ao (rL rI) E a1 c2 (p0.1))(a8:Ao Ay E ag dn (p0.2))(ap:Ao Ay E al am (p1)){fu_:Nat}{r:(List Int)×Int}(aq:MO fu_ p0 p1=some r):AW (Hb Tryz.prog) 10 [.agg #[.slice a1 (p0.1).length c2,.slice ag (p0.2).length dn],.slice al (p1).length am] E [] (λw E' B'=>∃(av:Aq) (aw:Nat),w=.tuple #[.slice av (r.1).length aw,iV r.2]/\B'=[]/\Ao rI E' av aw (r.1)):=by
 refine Bs Tryz.func10 λQ c4 cs H a9 ac=>?_;unfold MO at aq;refine C 2 V (DX a9 λc5 c6 O bb be=>?_);refine C 5 V (Cf bb Fi CK V V ?_);let⟨c7,bi,bn⟩:=bs aq;refine B4 (LM (a7.Ah O) (a8.Ah O) Ao.nil bi) V V Ll be ?_;rintro _ c8 _ Y ⟨c9,dd,dj,ea,rfl,rfl,ay,az⟩ bo;refine C 3 V (B3 bo Ih λeb bv=>?_);refine JS.sx 3 bv Ef λbw=>?_;refine Dl 3 bw V λec K a0 a2=>C 8 V (A5 bn (λbx bz=>?_) (λbx b0=>?_));refine C 6 V ?_;cases bz;exact A4 Tryz.func10 V V (ac ((O.trans Y).trans K) V ⟨none,0,V,V,Ao.nil⟩ a2);refine C 4 V (Cf a0 F0 Ef V V ?_);let⟨ed,b1,b2⟩:=bs b0;refine C 1 V (B4 (fT (ay.Ah K) (az.Ah K) (ap.Ah ((O.trans Y).trans K)) b1) V V (A8 Tryz.func23 V) a2 ?_);rintro ee ef _ U ⟨_,rfl,rfl,b3⟩ b4;let⟨eg,b5,b6⟩:=bs b2;refine CW (dc (a6.Ah (((O.trans Y).trans K).trans U)) b3 b5) V V (A8 Tryz.func22 V) b4 λej Z a3=>C 7 V (A5 b6 (λca cc=>?_) (λca ce=>?_));refine C 6 V ?_;cases cc;exact A4 Tryz.func10 V V (ac ((((O.trans Y).trans K).trans U).trans Z) V ⟨none,0,V,V,Ao.nil⟩ a3);refine C 3 V (Cf (a0.Ah (U.trans Z)) F0 Ef V V ?_);let⟨ci,co,cp⟩:=bs ce;refine C 1 V (B4 (W3 (ay.Ah ((K.trans U).trans Z)) (az.Ah ((K.trans U).trans Z)) (ap.Ah ((((O.trans Y).trans K).trans U).trans Z)) co) V V (A8 Tryz.func24 V) a3 ?_);rintro _ ek _ a4 ⟨ct,cw,rfl,rfl,cy⟩ a5;refine C 10 V (An (v:=.bool (!ci.2)) V (λρ h=>Yl.not (h _ _ V)) ?_);refine JL.done (CH cp (λc0 c1=>?_) (λc0 c3=>?_));refine C 5 V ?_;cases c1;exact A4 Tryz.func10 V V (ac (((((O.trans Y).trans K).trans U).trans Z).trans a4) V ⟨none,0,V,V,Ao.nil⟩ a5);refine C 7 V ?_;cases c3;exact A4 Tryz.func10 V V (ac (((((O.trans Y).trans K).trans U).trans Z).trans a4) V ⟨ct,cw,V,V,cy⟩ a5)
end Pal
namespace Pal
open Go Go.Conc
variable{q:Nat×Obj}{g1 g2:Seg}
theorem bO{S:List Seg}{r:Seg}(j:Nat)(K:S[j]?=some (q::(g1++r++g2))):S.flatten.Perm (S.set j [q]++ [g1++g2,r]).flatten:=by
 have O:=(Dm (seg':=[q]) K).1;have U:=(Dm (seg':=[q]) K).2;rw[ru];refine O.trans (List.Perm.trans ?_ (U.symm.append_right _));rw[pE (S.set j []).flatten];refine rp _ ?_;simp only[qC,sY,qk,qX,qS,pE];exact List.Perm.cons _ (rp _ no)
theorem eQ{S:List Seg}{r:Seg}{j jg jr:Nat}(K:S[j]?=some [q])(Y:S[jg]?=some (g1++g2))(Z:S[jr]?=some r)(O:j≠jg)(ac:j≠jr)(ag:jg≠jr):
  S.flatten.Perm (((S.set j (q::(g1++r++g2))).set jg []).set jr []).flatten:=by
 have U:=(d0.1 K).1;have e:S.set j [q]=S:=by
  let⟨_,h⟩:=d0.1 K;rw[← h];exact un ..
 have p1:=UA (A1:=[q]) (g':=q::(g1++g2)) (r0:=[]) U O Y (by simp);rw[e] at p1;have ai:(S.set jg [])[jr]?=some r:=by rw[qD ag];exact Z
 have p2:=UA (S:=S.set jg []) (A1:=q::(g1++g2)) (g':=q::(g1++r++g2)) (r0:=[]) (by simpa using U) ac ai (by
  simp only[qk,qX,pE]
  exact List.Perm.cons _ (rp _ no))
 rw[sJ _ _ O] at p1 ⊢;exact p1.trans p2
variable {P:Program}{J:Judge P}{Q:Gs_}{b:Frame}{n:Nat}{ds:Ld_}{ops:Ao_}{cs:Lf_}{fuel:Nat}{listed:Array Bool}{L:Env}{E E' H:LH}{S:List Seg}
variable {t ty e e2:TypeId}{p:String}{af:Ae_}{g:On_}{todo:Li_}
variable{α:Type}{c dn:Nat}{a:Option Addr}
section
variable {k:Li_}{m:Nat}
variable {d:Option Tmp}{x y:Operand}{i:Nat}
theorem cv{pp:Rp α}{bk ci:Nat}{U am:Option Addr}{f:Av_}{r0 r:Seg}{Y:List (List α)}{K:Int}{xs ys:List α}{rest:List Nat}(j jg jr:Nat)(Z:Sq e e2 pp E a c bk f am ci g1 r0 g2 Y K xs)(hle:Le E E')(ap:OL e2 pp E' U dn r ys)(aq:Au E' H S)
  (ac:S[j]?=some [(bk,.cells f e (0,0))]) (av:S[jg]?=some (g1++g2)) (aw:S[jr]?=some r) (ag:j≠jg) (ai:j≠jr) (ay:jg≠jr)
  (az:Bz P t=some 1) (a0:Fu b n L ops i=some ⟨d,.store t x y,ty,p,af,g⟩) (a1:ev L x=some (.pointer (some ⟨bk,K.toNat*1,none⟩))) (a2:ev L y=some (.slice U ys.length dn))
  (h:∀g',ER e e2 pp E' a c g' (Y.set K.toNat ys)->Au E' H (((S.set j g').set jg []).set jr [])->JL J Q b n (AB L d undef) ds (.inRegion ops rest::k) cs (Ak E' H (((S.set j g').set jg []).set jr []))):
  JL J Q b n L ds (.inRegion ops (i::rest)::k) cs (Ak E' H S):=by
 have a3:=(d0.1 ac).1;refine WC (v:=.slice U ys.length dn) (c:=f) (e:=e) (off:=K.toNat*1) (A:=[]) (seg':=[(bk,.cells (A9 f (K.toNat*1) [.slice U ys.length dn]) e (0,0))]) j aq ac (qJ _) (qJ _) az a0 a1 a2 Z.sz (by simp[Value.cells,CM]) λa4=>?_;refine JS.perm (eQ (q:=(bk,.cells (A9 f (K.toNat*1) [.slice U ys.length dn]) e (0,0))) (g1:=g1) (g2:=g2) (r:=r) (j:=j) (jg:=jg) (jr:=jr) (by rw[qM a3]) (by rw[qD ag];exact av) (by rw[qD ai];exact aw) ag ai ay) a4 λal=>?_;rw[rJ] at al ⊢;exact h _ (Z.put _ _ _ _ _ hle ap) al
theorem Tb{α:Type}{pp:Rp α}:∀(rows:List Seg) (K:List (List α)) (U:Lv_) {E:LH}{S:List Seg}{j:Nat}{g0:Seg},rows.length=K.length->U.length=K.length->
  (∀(i:Nat) xs r h,K[i]?=some xs->rows[i]?=some r->U[i]?=some h->∃Y ci,h=.slice Y xs.length ci/\OL e2 pp E Y ci r xs)->Au E H S->S[j]?=some (g0++rows.flatten)->
  (∀E',Le E E'->(∀(i:Nat) xs h,K[i]?=some xs->U[i]?=some h->(rL pp).r E' [h] xs)->Au E' H (S.set j g0)->JL J Q b n L ds todo cs (Ak E' H (S.set j g0)))->JL J Q b n L ds todo cs (Ak E H S)
 | [],[],[],E,S,j,g0,_,_,_,ag,O,h=>by
  have e:S.set j g0=S:=by
   rw[sY,qk] at O;let⟨_,h⟩:=d0.1 O;rw[← h];exact un ..
  have:=h E (Le.refl _) (λi xs h aq=>by simp at aq);rw[e] at this;exact this ag
 | r::rows,xs::K,v::U,E,S,j,g0,Z,ac,ai,ag,O,h=>by
  obtain⟨Y,ci,rfl,av⟩:=ai 0 xs r v V V V;have aw:=(d0.1 O).1;refine JS.perm (S':=S.set j (g0++rows.flatten)++ [r]) ?_ ag λay=>?_;rw[Gh];refine(Dm (seg':=g0++rows.flatten) O).1.trans (List.Perm.trans ?_ ((Dm (seg':=g0++rows.flatten) O).2.symm.append_right _));rw[pE];refine rp _ ?_;rw[qC,pE];exact rp _ no
  refine Cp (S.set j (g0++rows.flatten)).length av ay tN λa4 hle az al=>?_;rw[HO] at al ⊢;refine JS.perm (S':=S.set j (g0++rows.flatten)) (by simp) al λa0=>Tb (pp:=pp) rows K U (j:=j) (g0:=g0) (by simpa using Z) (by simpa using ac) (λi xs r q a b c=>?_) a0 (qM aw) λa1 am a2 ap=>?_;let⟨Y,ci,k1,a3⟩:=ai (i+1) xs r q a b c;exact⟨Y,ci,k1,a3.Ah hle⟩
  .rw [rJ] at ap ⊢;refine h a1 (hle.trans am) (λi xs q a b=>?_) ap
   match i,a,b with
   | 0,a,b=>cases a;cases b;exact⟨_,_,rfl,az.Ah am⟩
   | i+1,a,b=>exact a2 i xs q a b
 | [],_::_,_,_,_,_,_,Z,_,_,_,_,_=>by simp at Z
 | _::_,[],_,_,_,_,_,Z,_,_,_,_,_=>by simp at Z
 | _,[],_::_,_,_,_,_,_,ac,_,_,_,_=>by simp at ac
 | _,_::_,[],_,_,_,_,_,ac,_,_,_,_=>by simp at ac
theorem Ye{pp:Rp α}{seg:Seg}{K:List (List α)}(j:Nat)(ai:ER e e2 pp E a c seg K)(al:Au E H S)(U:S[j]?=some seg)
  (h:∀E',Le E E'->Ao (rL pp) E' a c K->Au E' H (S.set j [])->JL J Q b n L ds todo cs (Ak E' H (S.set j []))):JL J Q b n L ds todo cs (Ak E H S):=by
 obtain⟨g0,Y,rows,rfl,am,O,ap,aq⟩:=ai;have av:=(d0.1 U).1;refine Tb (pp:=pp) rows K Y ap O aq al U λaw ay az a0=>?_;have a1:OL e (rL pp) aw a c g0 K:=by
  obtain⟨wss,k1,Z,a2⟩:=am;rw[O] at k1 Z;refine⟨wss,k1,Z,λi xs ws ac hw=>?_⟩;have hi:i<Y.length:=by rw[O];exact(d0.1 ac).1
  obtain⟨a3,-⟩:=a2 i _ ws (d6 hi) hw;rw[a3];exact az i xs _ ac (d6 hi)
 refine Cp j a1 a0 (qM av) λa4 a5 a6 ag=>?_;rw[rJ] at ag ⊢;exact h a4 (ay.trans a5) a6 ag
end
open Go.Proofs
variable {J:Judge Tryz.prog}
def Sw(fu_:Nat)(p0:List Int):Option ((List Int)):=
 (Ds ([]:List Int) p0).bind λK=>
 some K
variable{a1:Aq}{c2 fu_:Nat}{p0:List Int}
theorem cn(Y:Ao rI E a1 c2 (p0)){r:(List Int)}(K:Sw fu_ p0=some r):AW J 40 [.slice a1 (p0).length c2] E [] (λw E' B'=>∃(O:Aq) (U:Nat) (g0:Seg),w=.slice O (r).length U/\B'=g0/\OL 3 rI E' O U g0 (r)):=by
 refine Bs Tryz.func40 λQ az cs H Z ac=>?_;unfold Sw at K;refine C 6 V (OX (pp:=rI) V V V Tryz.underlying22 AO Z λa0 a2 ag ai=>?_);let⟨a3,al,am⟩:=bs K;refine C 1 V (Jy (pp:=rI) 1 al V V V V V V V Tryz.underlying22 Tryz.underlying22 AO (Dv Tryz.type3) CJ V (by decide) (by decide) ag Y ai V λap aq av aw ay=>?_);refine C 2 V ?_;cases am;exact A4 Tryz.func40 V V (ac (Le.refl _) V ⟨ap,aq,av,V,(by first | rfl | simp | (simp[Value.cells])),aw⟩ ay)
def Vy(fu_:Nat)(p0:Bv)(K:Bv×Int):Option (Bt (Bv×Int) (Bv)):=
 if K.2<((p0).length:Int) then(
  (ix p0 (K.2)).bind λO=>
  (Sw fu_ O).bind λU=>
  (ix K.1 (K.2)).bind λZ=>
  (Av (K.2+1)).bind λY=>
  some (.more ((K.1.set (Int.toNat K.2) U),Y))
 ) else(
  some (.done K.1)
 )
def SR(fu_:Nat)(p0:Bv):Option (Bv):=
 (Gy ((p0).length:Int) ([]:List Int)).bind λK=>
 Option.bind (iter (Vy fu_ p0) fu_ (K,0)) λO=>
 some O
theorem iM{p0:Bv}(a8:Ao (rL rI) E a1 c2 (p0)){r:Bv}(aq:SR fu_ p0=some r):AW J 18 [.slice a1 (p0).length c2] E [] (λw E' B'=>∃(av:Aq) (aw:Nat) (g0:Seg),w=.slice av (r).length aw/\B'=g0/\ER 22 3 rI E' av aw g0 (r)):=by
 refine Bs Tryz.func18 λQ ec cs H a9 bb=>?_;unfold SR at aq;refine C 7 V (JL.ln Tryz.underlying25 V V V ?_);let⟨O,ay,be⟩:=bs aq;refine JS.make (pp:=(Xv rI)) ay V V V V V Tryz.underlying25 Fz (Dv Tryz.type22) (by decide) Mh (by decide) (.inl ⟨V,V⟩) a9 λU bi ai bn=>?_;replace ai:=ER.make (e2:=3) ay ai;let⟨az,bo,bv⟩:=bs be;refine C 7 V (BF (λL s=>∃(al:LH) (Y:Seg),Jn E H al [Y] [(3,.slice (some ⟨U,0,none⟩) (az).length (O).length)] L s (ER 22 3 rI al (some ⟨U,0,none⟩) (O).length Y (az))) ?_ ?_);rintro _ _ ⟨al,Y,rfl,rfl,bw,bx,bz⟩;refine C 5 V ?_;cases bv;exact A4 Tryz.func18 V V (bb bw V ⟨(some ⟨U,0,none⟩),(O).length,Y,V,(by first | rfl | simp | (simp[Value.cells])),bz⟩ bx);intro b0;refine JL.block (Cr bo (λL s K=>∃(Z:LH) (ac:Seg),Jn E H Z [ac] [(0,.slice a1 (p0).length c2),(3,.slice (some ⟨U,0,none⟩) (K.1).length (O).length),(4,iV K.2)] L s (ER 22 3 rI Z (some ⟨U,0,none⟩) (O).length ac (K.1))) ⟨E,bi,V,V,(Le.refl _),bn,ai⟩ ?_);rintro _ _ K ⟨Z,ac,rfl,rfl,am,a0,a2⟩ b1 ⟨ed,ap⟩ b2;have a3:=ap;unfold Vy at a3;refine C 5 V (JL.ln Tryz.underlying25 V V V ?_);refine C 2 V (A5 a3 (λb3 b4=>?_) (λb3 b5=>?_));let⟨b6,ca,cc⟩:=bs b4;refine C 8 V (JS.ix (a8.Ah am) ca Tryz.underlying25 Fz ?_);rintro ce ci _ ⟨co,cp,rfl,ct⟩ cw;refine Dw 0 cw Jq V V V ?_;let⟨ag,cy,c0⟩:=bs cc;refine B4 (cn ct cy) V V (A8 Tryz.func40 V) a0 ?_;rintro _ c1 ee a4 ⟨ef,eg,_,rfl,rfl,c3⟩ c4;let⟨ej,a5,c5⟩:=bs c0;let⟨c6,f66,ek,el,em,eo,ep,c7,a6⟩:=ER.rowOf (a2.Ah a4) a5;refine An (v:=.pointer (some ⟨c6,Int.toNat (K.2)*1,none⟩)) V (λρ h=>OP a6.ad a5 Tryz.underlying25 Fz (h _ _ V) (h _ _ V)) (b9 0 1 a6 c3 c4 (qm some c7) (by decide) V Fz V V V λc8 c9 dd=>?_);have a7:(K.1.set (Int.toNat K.2) ag).length=(K.1).length:=qa;refine EF (L':=[(0,.slice a1 (p0).length c2),(3,.slice (some ⟨U,0,none⟩) ((K.1.set (Int.toNat K.2) ag)).length (O).length),(4,iV K.2),(8,iV K.2),(9,.slice a1 (p0).length c2),(10,iV ((p0).length:Int)),(11,.bool (decide (K.2<((p0).length:Int)))),(14,.slice (some ⟨U,0,none⟩) ((K.1.set (Int.toNat K.2) ag)).length (O).length),(15,iV K.2),(16,.slice a1 (p0).length c2),(17,iV K.2),(18,.pointer (some ⟨ce,ci,none⟩)),(19,.slice co (b6).length cp)]) ⟨V,by rw[a7];rfl,V,V,V,V,V,by rw[a7];rfl,V,V,V,V,V,trivial⟩ ?_;let⟨dj,ea,eb⟩:=bs c5;refine C 4 V (BE ea V V V ?_);refine C 2 V ?_;cases eb;exact AH (b2 _ _ ((K.1.set (Int.toNat K.2) ag),dj) ⟨c1,c8,V,V,(am.trans a4),dd,c9⟩ ap) V;refine JL.exit V ?_;cases b5;obtain rfl:=b1 _ ap;exact AH (b0 _ _ ⟨Z,ac,V,V,am,a0,a2⟩) V
def SK(fu_:Nat)(p0:AE):Option (AE):=
 (Ds ([]:AE) p0).bind λK=>
 some K
theorem iO{p0:AE}(Y:Ao Ay E a1 c2 (p0)){r:AE}(K:SK fu_ p0=some r):AW J 19 [.slice a1 (p0).length c2] E [] (λw E' B'=>∃(O:Aq) (U:Nat) (g0:Seg),w=.slice O (r).length U/\B'=g0/\OL 47 Ay E' O U g0 (r)):=by
 refine Bs Tryz.func19 λQ az cs H Z ac=>?_;unfold SK at K;refine C 6 V (OX (pp:=Ay) V V V Tryz.underlying26 Bx Z λa0 a2 ag ai=>?_);let⟨a3,al,am⟩:=bs K;refine C 1 V (Jy (pp:=Ay) 1 al V V V V V V V Tryz.underlying26 Tryz.underlying26 Bx (Dv Tryz.type47) BT V (by decide) (by decide) ag Y ai V λap aq av aw ay=>?_);refine C 2 V ?_;cases am;exact A4 Tryz.func19 V V (ac (Le.refl _) V ⟨ap,aq,av,V,(by first | rfl | simp | (simp[Value.cells])),aw⟩ ay)
def SS(fu_:Nat)(p0:Bi):Option (Bi):=
 (SR fu_ p0.1).bind λK=>
 (SK fu_ p0.2).bind λO=>
 some (K,O)
theorem iJ{al:Aq}{p0:Bi}(a6:Ao (rL rI) E a1 c2 (p0.1))(a7:Ao Ay E al dn (p0.2)){r:Bi}(ap:SS fu_ p0=some r):AW J 7 [.agg #[.slice a1 (p0.1).length c2,.slice al (p0.2).length dn]] E [] (λw E' B'=>∃(aq:Aq) (av:Nat) (aw:Seg) (ay:Aq) (az:Nat),w=.agg #[.slice aq (r.1).length av,.slice ay (r.2).length az]/\B'=aw/\ER 22 3 rI E' aq av aw (r.1)/\Ao Ay E' ay az (r.2)):=by
 refine Bs Tryz.func7 λQ b5 cs H a8 a9=>?_;unfold SS at ap;refine C 2 V (DX a8 λb6 ca ai a0 bb=>?_);refine B3 bb IL λcc be=>?_;refine C 2 V (FH 5 λZ=>?_);refine JG.fd 0 Z Tryz.underlying28 Fj V V V V (EI 1 Z 0 a0 Fy V V V V ?_);refine JG.fd 3 Z Tryz.underlying28 Hp V V V V (EI 4 Z 1 a0 Jp V V V V ?_);let⟨ac,bi,bn⟩:=bs ap;refine JG.call (i:=2) (vs:=[.slice a1 (p0.1).length c2]) (iM (a6.Ah ai) bi) (by decide+kernel) V V V (A8 Tryz.func18 V) V be ?_;rintro _ ce bo a2 ⟨K,O,_,rfl,rfl,bv⟩ bw;refine Dc [5,6,7] ?_;let⟨ag,bx,bz⟩:=bs bn;refine B4 (iO (a7.Ah (ai.trans a2)) bx) V V (A8 Tryz.func19 V) bw ?_;rintro _ ci co a3 ⟨U,Y,_,rfl,rfl,b0⟩ b1;refine An (v:=.agg #[.slice K (ac).length O,.slice U (ag).length Y]) V (λρ h=>C5 [(0,1),(1,1)] h IL Tryz.underlying28 ⟨V,A2 Tryz.type25,V,A2 Tryz.type26,trivial⟩ V V) (JS.sx 2 b1 CK λb2=>?_);refine JL.done (Cp 4 b0 b2 V λcp a4 b3 a5=>?_);cases bz;refine JL.ret (v:=.agg #[.slice K (ac).length O,.slice U (ag).length Y]) V V (BL.list Tryz.func7 V (vs:=[.agg #[.slice K (ac).length O,.slice U (ag).length Y]]) ⟨⟨_,V,Ld.many (vs:=[.slice K (ac).length O,.slice U (ag).length Y]) Fi CK (Hq (off:=0) 2 a5 V V)⟩,trivial⟩) (EO 2 a5 V λb4=>?_);exact a9 (((ai.trans a2).trans a3).trans a4) V ⟨K,O,bo,U,Y,V,(by first | rfl | simp | (simp[Value.cells])),(bv.Ah (a3.trans a4)),b3⟩ b4
def Ql(fu_:Nat)(p0:List Int):Option (Bool):=
 (f20 fu_ p0).bind λal=>
 (f31 fu_ al 5 4).bind λU=>
 (NZ fu_ U.2 U.1).bind λZ=>
 (SS fu_ U.1).bind λK=>
 (Av (((K.1).length:Int) - 1)).bind λam=>
 (f36 fu_ Z.2 am).bind λO=>
 (ix K.1 (O.1)).bind λap=>
 Option.bind (
  if((ap).length:Int)<3 then(
   (ix K.1 (O.1)).bind λaq=>
   (f37 fu_ O.2 1 9).bind λY=>
   (Ds aq ([Y.1]:List Int)).bind λav=>
   some ((K.1.set (Int.toNat O.1) av),Y.2.1,Y.2.2.1,Y.2.2.2)
  ) else(
   some (K.1,O.2.1,O.2.2.1,O.2.2.2)
  )
 ) λai=>
 (MO fu_ U.1 Z.1).bind λac=>
 (MO fu_ (ai.1,K.2) Z.1).bind λaw=>
 (f27 fu_ U.1).bind λag=>
 (f27 fu_ (ai.1,K.2)).bind λay=>
 Option.bind (
  if ac.2=0 then(
   some true
  ) else(
   some (decide (ac.2=11))
  )
 ) λaz=>
 Option.bind (
  if az=true then(
   if aw.2=0 then(
    some true
   ) else(
    some (decide (ac.2=11))
   )
  ) else(
   some false
  )
 ) λa0=>
 Option.bind (
  if a0=true then(
   if ag.2.2=0 then(
    some true
   ) else(
    some (decide (ag.2.2=11))
   )
  ) else(
   some false
  )
 ) λa1=>
 Option.bind (
  if a1=true then(
   if ay.2.2=0 then(
    some true
   ) else(
    some (decide (ag.2.2=11))
   )
  ) else(
   some false
  )
 ) λa2=>
 Option.bind (
  if a2=true then(
   (f18 fu_).bind λa3=>
   some a3
  ) else(
   some false
  )
 ) λa4=>
 some a4
set_option maxHeartbeats 4000000 in
theorem aZ{E H:LH}(c1:GE E)(e1:Ao rI E a1 c2 (p0)){r:Bool}(c3:Ql fu_ p0=some r):(Hb Tryz.prog).ok (Nr Tryz.prog (λv _=>v=.bool r)) (G (Frame.enter Tryz.prog 3 ([.slice a1 (p0).length c2]:Lv_).toArray .normal) []) (mk E H []):=by
 refine ZC Tryz.func3 V V (pY V) ?_;have e3:Au E H [[]]:=trivial;unfold Ql at c3;let⟨kT,e4,e5⟩:=bs c3;refine C 7 V (B4 (jQ e1 e4) V V (A8 Tryz.func4 V) e3 ?_);rintro _ kU _ c4 ⟨ay,kV,kW,rfl,rfl,e6⟩ e7;let⟨a0,e8,ff⟩:=bs e5;refine C 5 V (Cc 1 (jY e6 e8) V V (A8 Tryz.func5 V) e7 V ?_);rintro _ kX _ c5 ⟨bv,bw,bx,bz,kY,kZ,rfl,rfl,a9,bb,fk⟩ fl;refine B3 fl IL λc6 fm=>?_;refine JS.sx 2 fm CK λfo=>?_;refine Dl 2 fo V λk0 am be fs=>C 4 V (Cf be Fi CK V V ?_);let⟨b0,fv,fw⟩:=bs ff;refine Cc 1 (iW (fk.Ah am) (a9.Ah am) (bb.Ah am) fv) V V (A8 Tryz.func6 V) fs V ?_;rintro _ k1 _ ap ⟨b1,b2,k2,k3,rfl,rfl,c7,fN⟩ gc;refine C 4 V (Cf (be.Ah ap) Fi CK V V ?_);let⟨ac,ge,gg⟩:=bs fw;refine B4 (iJ (a9.Ah (am.trans ap)) (bb.Ah (am.trans ap)) ge) V V (A8 Tryz.func7 V) gc ?_;rintro _ k4 gh aq ⟨ag,ai,_,c8,c9,rfl,rfl,b3,dd⟩ gt;refine B3 gt IL λaz gE=>?_;refine JS.sx 4 gE CK λgO=>?_;refine C 2 V (Dl 4 gO V λg3 U a4 g4=>?_);refine C 2 V (Cg 0 a4 Tryz.underlying28 Fj Fy ?_);refine JL.ln Tryz.underlying25 V V V ?_;let⟨g5,g6,g7⟩:=bs gg;refine BW g6 V V V ?_;let⟨O,g8,ha⟩:=bs g7;refine Cc 1 (Ko (fN.Ah (aq.trans U)) g8) V V J4 g4 V ?_;rintro _ dj _ K ⟨ea,eb,rfl,rfl,ec⟩ b4;refine C 5 V (Cg 0 (a4.Ah K) Tryz.underlying28 Fj Fy ?_);let⟨bi,ed,hb⟩:=bs ha;refine C 1 V ?_;let⟨ee,f85,ef,eg,k5,k6,k7,hc,ej⟩:=ER.rowOf (b3.Ah (U.trans K)) ed;refine An (v:=.pointer (some ⟨ee,Int.toNat (O.1)*1,none⟩)) V (λρ h=>OP ej.ad ed Tryz.underlying25 Fz (h _ _ V) (h _ _ V)) (An (v:=.slice ef (bi).length eg) V (λρ h=>Yl.load Jq (h _ _ V) (YA (j:=3) b4 (qm some hc) (List.Mem.head _) ej.hd)) ?_);refine JL.ln Tryz.underlying22 V V V ?_;let⟨al,ek,he⟩:=bs hb;refine C 2 V (BF (λL s=>∃(bn:LH) (b5:Seg) (el:Aq) (em:Nat),Jn dj H bn [b5] [(4,.pointer (some ⟨c6,0,none⟩)),(5,.slice b1 (b0.1).length b2),(6,.pointer (some ⟨az,0,none⟩)),(34,.slice ag (al.1).length ai)] L s (ER 22 3 rI bn ag ai b5 (al.1)/\Ao rI bn el em (al.2.1))) ?_ ?_)
 .rintro _ _ ⟨bn,b5,el,em,rfl,rfl,Y,hf,hg,k8⟩;refine JL.seq ?_;have hj:(al.1).length=(ac.1).length:=(by have e:=ek;split at e;let⟨_,_,e⟩:=bind_some e;let⟨_,_,e⟩:=bind_some e;let⟨_,_,e⟩:=bind_some e;cases e;exact qa;cases e;rfl);have eo:At g3 az 0 [.slice ag (al.1).length ai,.slice c8 (ac.2).length c9]:=by rw[hj];exact a4
  refine Ye 0 hg hf V λk9 Z ep hk=>JL.region (Cf (be.Ah (((((ap.trans aq).trans U).trans K).trans Y).trans Z)) Fi CK V V ?_);let⟨hl,hm,hn⟩:=bs he;refine C 1 V (B4 (Wx (c1.Ah ((((((((c4.trans c5).trans am).trans ap).trans aq).trans U).trans K).trans Y).trans Z)) (a9.Ah ((((((am.trans ap).trans aq).trans U).trans K).trans Y).trans Z)) (bb.Ah ((((((am.trans ap).trans aq).trans U).trans K).trans Y).trans Z)) (c7.Ah ((((aq.trans U).trans K).trans Y).trans Z)) hm) V V (A8 Tryz.func10 V) hk ?_);rintro _ la _ av ⟨lb,ld,rfl,rfl,lf⟩ ho;refine C 8 V (Cf (eo.Ah (((K.trans Y).trans Z).trans av)) Fi CK V V ?_);let⟨hp,hq,hr⟩:=bs hn;refine C 1 V (B4 (Wx (c1.Ah (((((((((c4.trans c5).trans am).trans ap).trans aq).trans U).trans K).trans Y).trans Z).trans av)) (p0:=(al.1,ac.2)) (ep.Ah av) (dd.Ah ((((U.trans K).trans Y).trans Z).trans av)) (c7.Ah (((((aq.trans U).trans K).trans Y).trans Z).trans av)) hq) V V (A8 Tryz.func10 V) ho ?_);rintro _ lg _ a2 ⟨lh,li,rfl,rfl,lj⟩ hs;refine C 8 V (Cf (be.Ah (((((((ap.trans aq).trans U).trans K).trans Y).trans Z).trans av).trans a2)) Fi CK V V ?_);let⟨b6,ht,hu⟩:=bs hr;refine B4 (Sv (a9.Ah ((((((((am.trans ap).trans aq).trans U).trans K).trans Y).trans Z).trans av).trans a2)) (bb.Ah ((((((((am.trans ap).trans aq).trans U).trans K).trans Y).trans Z).trans av).trans a2)) ht) V V QF hs ?_;rintro _ ll _ ca ⟨lm,lq,lr,ls,rfl,rfl,lu,lw⟩ hv;refine C 10 V (Cf (eo.Ah (((((K.trans Y).trans Z).trans av).trans a2).trans ca)) Fi CK V V ?_);let⟨cc,hw,hx⟩:=bs hu;refine B4 (Sv (p0:=(al.1,ac.2)) (ep.Ah ((av.trans a2).trans ca)) (dd.Ah ((((((U.trans K).trans Y).trans Z).trans av).trans a2).trans ca)) hw) V V QF hv ?_;rintro _ lx _ lz ⟨lA,lB,lC,lD,rfl,rfl,lE,lF⟩ er;let⟨hy,hz,hA⟩:=bs hx;refine C 13 V (FR 6 28 [] [(9,iV hl.2),(11,iV hp.2),(14,iV b6.2.2),(17,iV cc.2.2),(34,.slice ag (al.1).length ai),(82,.bool hy)] (λlG lH ce=>?_) (λeu=>?_));let⟨hB,hC,hD⟩:=bs hA;refine C 1 V (FR 14 20 [] [(14,iV b6.2.2),(17,iV cc.2.2),(34,.slice ag (al.1).length ai),(90,.bool hB)] (λlI lJ ci=>?_) (λco=>?_));let⟨hE,hF,hG⟩:=bs hD;refine C 1 V (FR 22 12 [] [(14,iV b6.2.2),(17,iV cc.2.2),(34,.slice ag (al.1).length ai),(98,.bool hE)] (λlK lL cp=>?_) (λct=>?_));let⟨hH,hI,hJ⟩:=bs hG;refine C 1 V (FR 30 4 [] [(34,.slice ag (al.1).length ai),(106,.bool hH)] (λlM lN ew=>?_) (λcw=>?_));let⟨ex,hK,hL⟩:=bs hJ;refine C 1 V (FR 33 1 [] [(34,.slice ag (al.1).length ai),(109,.bool ex)] (λlO lP lQ=>?_) (λey=>?_));refine C 2 V ?_;obtain rfl:=(oi hL);exact J9 V (JO.end (v:=.bool ex) V (by decide+kernel) Tryz.func3 V V V);refine FB 107 hK (λhM hN=>?_) (λhM hO=>?_);let⟨lR,hP,hQ⟩:=bs hN;refine CW (jx hP) V V (A8 Tryz.func12 V) ew λlS hR hS=>C 1 V ?_;cases hQ;exact ey hR hS V;refine C 2 V ?_;cases hO;exact ey (Le.refl _) ew V;refine FB 99 hI (λhT hU=>?_) (λhT hV=>?_);refine C 3 V (Iz 102 hU (λhW hX=>?_) (λhW hY=>?_));refine C 4 V ?_;cases hX;exact cw (Le.refl _) cp V;refine C 4 V ?_;cases hY;exact cw (Le.refl _) cp V;refine C 7 V ?_;cases hV;exact cw (Le.refl _) cp V;refine FB 91 hF (λh0 h1=>?_) (λh0 h2=>?_);refine C 3 V (Iz 94 h1 (λh3 h4=>?_) (λh3 h5=>?_));refine C 4 V ?_;cases h4;exact ct (Le.refl _) ci V;refine C 4 V ?_;cases h5;exact ct (Le.refl _) ci V;refine C 7 V ?_;cases h2;exact ct (Le.refl _) ci V;refine FB 83 hC (λh6 h7=>?_) (λh6 h8=>?_);refine C 3 V (Iz 86 h7 (λh9 ia=>?_) (λh9 ih=>?_));refine C 4 V ?_;cases ia;exact co (Le.refl _) ce V;refine C 4 V ?_;cases ih;exact co (Le.refl _) ce V;refine C 7 V ?_;cases h8;exact co (Le.refl _) ce V;refine Iz 79 hz (λii io=>?_) (λii i0=>?_);refine C 3 V ?_;cases io;exact eu (Le.refl _) er V;refine C 3 V ?_;cases i0;exact eu (Le.refl _) er V
 .intro eA;refine A5 ek (λi1 i3=>?_) (λi1 i4=>?_);let⟨i5,cy,i6⟩:=bs i3;obtain⟨a5,i7,i8,i9,eC,jj,eN,rfl,a6⟩:=ER.rowOf (b3.Ah (U.trans K)) cy;refine JS.perm (S':=[[],[(ay,.cells #[.slice ea (O.2.1).length eb,iV O.2.2.1,.int .u64 ((O.2.2.2:Nat):Int)] 43 (0,0))],[],[(a5,.cells i7 22 (0,0))],[],(eC++eN),jj]) (bO 3 V) b4 λa7=>Eu 12 [a5] ⟨⟨3,_,V⟩,trivial⟩ a7 λaw=>JG.fd 0 aw Tryz.underlying28 Fj V V V V (JG.lp 1 aw 0 (a4.Ah K) a7 ⟨⟨3,_,V⟩,trivial⟩ Fy ?_);refine Dr 2 aw V V (JG.fd 3 aw Tryz.underlying28 Fj V V V V ?_);refine JG.lp 4 aw 0 (a4.Ah K) a7 ⟨⟨3,_,V⟩,trivial⟩ Fy ?_;refine Dr 5 aw V V (AS (v:=.pointer (some ⟨a5,Int.toNat (O.1)*1,none⟩)) 6 aw V V (λρ h s' e0=>OP a6.ad cy Tryz.underlying25 Fz (h _ _ V) (h _ _ V)) ?_);refine AS (v:=.slice i8 (i5).length i9) 7 aw V V (λρ h s' e0=>Yl.load Jq (h _ _ V) (BP 3 a7 V (by simp[Az]) e0 a6.hd)) (Dr 8 aw V V ?_);let⟨bo,jt,jy⟩:=bs i6;refine OC (i:=9) (vs:=[.pointer (some ⟨ay,0,none⟩),iV 1,iV 9]) 1 (by exact λx j0=>Hv.mem (bks:=[a5]) (by exact⟨⟨3,_,rfl⟩,trivial⟩) x (by simpa [Az] using j0)) (P8 ec jt) (by decide+kernel) V V V Om V a7 V ?_;rintro _ j1 _ c0 ⟨kb,kc,rfl,rfl,ke⟩ kf;let⟨a3,ki,kn⟩:=bs jy;refine JG.one (i:=10) V (by decide+kernel) (Take.lit (pp:=rI) (jp:=3) [iV bo.1] ([bo.1]:List Int) kf V V V V Tryz.underlying22 AO CJ (by decide) V V V ⟨V,trivial⟩ λko lT kp ks=>?_);refine JG.one (i:=11) V (by decide+kernel) (Take.app (pp:=rI) (jp:=3) 6 7 ks V ki V V V V V V V Tryz.underlying22 Tryz.underlying22 AO (Dv Tryz.type3) CJ V (by decide) (by decide) (a6.ol.Ah c0) kp V V V V λlU lV lW lX kv kK=>?_);refine Dc [12,13] (GN 6 V kK λkL=>?_);refine JS.drop 6 kL V λkM=>An (v:=.pointer (some ⟨a5,Int.toNat (O.1)*1,none⟩)) V (λρ h=>OP a6.ad cy Tryz.underlying25 Fz (h _ _ V) (h _ _ V)) (cv (g1:=eC) (g2:=eN) 3 5 8 a6 c0 kv kM V V V (by decide) (by decide) (by decide) Fz V V V λkN kO kP=>?_);have a8:(ac.1.set (Int.toNat O.1) a3).length=(ac.1).length:=qa;refine EF (L':=[(0,.slice a1 (p0).length c2),(2,.bool false),(18,.slice a1 (p0).length c2),(19,.pointer (some ⟨ay,0,none⟩)),(3,.pointer (some ⟨ay,0,none⟩)),(20,.pointer (some ⟨ay,0,none⟩)),(21,.agg #[.slice bv (a0.1.1).length bw,.slice bx (a0.1.2).length bz]),(4,.pointer (some ⟨c6,0,none⟩)),(22,.pointer (some ⟨ay,0,none⟩)),(23,.agg #[.slice bv (a0.1.1).length bw,.slice bx (a0.1.2).length bz]),(24,.slice b1 (b0.1).length b2),(5,.slice b1 (b0.1).length b2),(25,.agg #[.slice bv (a0.1.1).length bw,.slice bx (a0.1.2).length bz]),(26,.agg #[.slice ag ((ac.1.set (Int.toNat O.1) a3)).length ai,.slice c8 (ac.2).length c9]),(6,.pointer (some ⟨az,0,none⟩)),(27,.pointer (some ⟨ay,0,none⟩)),(28,.pointer (some ⟨az,0,none⟩)),(29,.slice ag ((ac.1.set (Int.toNat O.1) a3)).length ai),(30,iV ((ac.1).length:Int)),(31,iV g5),(32,iV O.1),(7,iV O.1),(33,.pointer (some ⟨az,0,none⟩)),(34,.slice ag ((ac.1.set (Int.toNat O.1) a3)).length ai),(35,iV O.1),(36,.pointer (some ⟨ee,Int.toNat (O.1)*1,none⟩)),(37,.slice ef (bi).length eg),(38,iV ((bi).length:Int)),(39,.bool (decide (((bi).length:Int)<3))),(40,.pointer (some ⟨az,0,none⟩)),(41,.slice ag ((ac.1.set (Int.toNat O.1) a3)).length ai),(42,iV O.1),(43,.pointer (some ⟨az,0,none⟩)),(44,.slice ag ((ac.1.set (Int.toNat O.1) a3)).length ai),(45,iV O.1),(48,.pointer (some ⟨ay,0,none⟩)),(49,iV bo.1),(50,.slice (some ⟨ko,0,none⟩) (([bo.1]:List Int)).length 1)]) ⟨V,V,V,V,V,V,V,V,V,V,V,V,V,by rw[a8];rfl,V,V,V,by rw[a8];rfl,V,V,V,V,V,by rw[a8];rfl,V,V,V,V,V,V,by rw[a8];rfl,V,V,by rw[a8];rfl,V,V,V,V,trivial⟩ ?_;refine JL.done (JS.drop 1 kP V λkQ=>?_);refine JS.drop 7 kQ V λkR=>?_;cases kn;exact AH (eA _ _ ⟨j1,kN,kb,kc,V,V,c0,kR,kO,ke⟩) V;refine JL.skip (JS.drop 1 b4 V λkS=>?_);cases i4;exact AH (eA _ _ ⟨dj,gh,ea,eb,V,V,(Le.refl _),kS,(b3.Ah (U.trans K)),ec⟩) V
end Pal
namespace Pal
variable{d:DT}
theorem cf{C K O:CF}(h:Ex C d O)(hle:∀a b,C a b<=K a b):∃U,Ex K d U/\∀a b,O a b<=U a b:=by
 obtain⟨v,Y,Z,ac,rfl⟩:=h;exact⟨_,⟨v,Y,λb=>Int.le_trans (Z b) (hle _ b),ac,V⟩,λa b=>Int.add_le_add_right (Int.sub_le_sub_right (hle a b) _) _⟩
variable{P:List DT}
theorem UB:∀{dn:Nat}{C:CF}{O:List Int},G3 P dn C O->∀{K:CF},(∀a b,C a b<=K a b)->G3 P dn K O:=by
 intro dn C O h
 induction h with
 | nil e=>intro K _;exact .nil e
 | cons hd hb U _ Y=>
  intro K hle;let⟨ac,k1,Z⟩:=cf U hle;exact .cons hd hb k1 (Y Z)
theorem GD.vt{n:Nat}(g:GD n d):VT n d:=⟨g.1,g.2.1,g.2.2.1,g.2.2.2.1,g.2.2.2.2.1,g.2.2.2.2.2.1,g.2.2.2.2.2.2⟩
variable{F:Nat}{o:OW}
theorem VI(U:5^16<F)(h:VO o)(O:RP o P):As (f77 F o P) (λr=>r.2=true↔Ends P 0 (Fs o.1)):=by
 have Z:=h.n5;have ac:=O.len;refine(iH ⟨h,by omega,λd hd=>(O.gd d hd).vt,U⟩).Ah ?_;rintro r (⟨K,⟨C,hC,Y⟩,_⟩ | ⟨rfl,K⟩);cases hC;exact ug K ⟨_,Y⟩;exact sD (by simp) K
theorem Ui(O:5^16<F)(h:VO o)(K:RP o P):As (MO F o P) (λr=>(r.2=0/\Ends P 0 (Fs o.1))∨(r.2=11/\¬Ends P 0 (Fs o.1))):=by
 have U:(5:Nat)^16=152587890625:=by decide
 have Y:=h.n5;have Z:=K.len;unfold MO;refine Ba (WY (by omega) h) ?_;refine Cb (by simp) ?_;refine Ba (dU (by omega) h K.gd (by omega)) ?_;rw[d7 K.nd,d7 K.z];refine Ba (b:=0) V ?_;refine Cb (by simp) ?_;refine AJ (VI O h K) ?_;rintro⟨l,is⟩ hi;cases is with
 | false=>exact B6 rfl (Ap (.inr ⟨rfl,λe=>absurd (hi.2 e) (by simp)⟩))
 | true=>exact Cb (by simp) (Ap (.inl ⟨rfl,hi.1 rfl⟩))
theorem b8:((List.range 6).all λn=>(List.range 6).all λm=>decide ((Hd m (EW n)).length<=300))=true:=by decide+kernel
theorem Vd(ag:5^16<F)(h:VO o)(hw:(BZ o).length=5):As (f27 F o) (λr=>(r.2.2=0/\∃s∈Kv o,Ends s 0 (Fs o.1))∨(r.2.2=11/\¬∃s∈Kv o,Ends s 0 (Fs o.1))):=by
 have ap:(5:Nat)^16=152587890625:=by decide
 have aq:=h.n5;unfold f27;refine Ba (WY (by omega) h) ?_;refine Cb (by simp) ?_;refine Ba (jv (by omega) h) ?_;have O:(Kv o).length<=300/\∀s∈Kv o,RP o s:=by
  rcases cF (n:=o.1.length) (w:=BZ o) (P:=λ_=>true) with e | ⟨m,hm,e,_⟩;have e:Kv o=[]:=e;rw[e];exact⟨by simp,λs K=>by cases K⟩;have e:Kv o=_:=e;rw[e];refine⟨?_,λs K=>(Zw h hw hm K).1⟩;have:=su (qs.1 (qs.1 b8 o.1.length (qc.2 (by omega))) m (qc.2 (by omega)));unfold El;refine qW (t7 _ _) ?_;rw[tI.2 λ_ _=>rfl];exact this
 refine AJ (aF (by omega) (qW O.1 (by omega)) λs K=>⟨by have:=(O.2 s K).len;omega,λd hd=>?_⟩) ?_;let⟨g1,g2,av,aw,ay,az,a0⟩:=(O.2 s K).gd d hd;unfold BD;omega
 intro r U;have a1:r.length<=300:=by rw[← U.length_eq];exact O.1
 refine AJ (S:=λq=>(∃s l,q=Sum.inl (s,l,0)/\s∈r/\Ends s 0 (Fs o.1))∨(q=Sum.inr ()/\∀s∈r,¬Ends s 0 (Fs o.1))) ?_ ?_;refine DL r.length (λi s=>s=(i:Int)/\∀x∈r.take i,¬Ends x 0 (Fs o.1)) ⟨V,λx ai=>by cases ai⟩ (by omega) ?_ ?_;rintro i _ hi ⟨rfl,Y⟩;unfold PM;refine B6 (by omega) (Bj (m:=i) V hi ?_);refine AJ (VI ag h (O.2 _ (U.mem_iff.2 (j9 hi)))) ?_;rintro⟨l,is⟩ ac;refine BB (λc=>Ap (.inl ⟨_,_,V,j9 hi,ac.1 c⟩)) (λc=>?_);exact As.E ((i+1:Nat):Int) (by simp) (Ap ⟨V,Jz hi Y λe=>c (ac.2 e)⟩);rintro _ ⟨rfl,Y⟩;unfold PM;rw[qP] at Y;exact Cb (by omega) (Ap ⟨_,V,.inr ⟨V,Y⟩⟩);rintro q (⟨s,l,rfl,Z,al⟩ | ⟨rfl,Z⟩);exact Ap (.inl ⟨V,s,U.mem_iff.2 Z,al⟩);exact Ap (.inr ⟨V,λ⟨s,k1,am⟩=>Z s (U.mem_iff.1 k1) am⟩)
theorem dE(Z:5^16<F)(ac:f18 F=some true)(Xk:List Int):Ql F Xk=some true:=by
 have bi:(5:Nat)^16=152587890625:=by decide
 refine ED ?_;unfold Ql;refine AJ (S:=λb=>BG 0 b) ?_ ?_;unfold f20;exact Ap ⟨tr 0,tr 0⟩
 intro b a5;refine AJ (iK (k:=0) (pm:=5) (dm:=4) (by omega) a5 (by omega) (by omega) (by omega) (by omega)) ?_;rintro⟨o,b⟩ ⟨aw,_,_,ay⟩;have h:VO o:=aw;have hb:BG 100 b:=ay.Ah (by omega);clear aw ay;simp only;obtain⟨_,az⟩:=NG (F:=F) (by omega) h;refine AJ (cR (by omega) h hb (by omega)) ?_;rintro⟨P,bn⟩ ⟨K,a0⟩;simp only at K a0 ⊢;refine Ba (b:=o) (gV (by omega) h.nv) ?_;have bo:=h.n2;have bv:=h.n5;refine As.E ((o.1.length - 1:Nat):Int) (by omega) (AJ (Ki a0 (by omega) (by omega)) ?_);rintro⟨i,bw⟩ ⟨i1,i2,a1⟩;simp only at i1 i2 a1 ⊢;obtain⟨m,rfl⟩:∃m:Nat,i=m:=⟨i.toNat,by omega⟩;have hm:m<o.1.length:=by omega
 have a6:=h.cs _ (j9 hm);refine Bj (m:=m) V hm ?_;refine AJ (S:=λr=>r.1.length=o.1.length/\(∀x∈r.1,CS x)/\∀a b,Fs o.1 a b<=Fs r.1 a b) ?_ ?_;refine BB (λc=>?_) (λ_=>Ap ⟨V,h.cs,λa b=>tr _⟩);refine Bj (m:=m) V hm (AJ (PL a1 (by omega) (by omega) (by omega) (by omega)) ?_);rintro⟨z,bx⟩ ⟨z1,a2,_⟩;simp only at z1 a2;refine As.MQ (by simp;omega) (Ap ⟨qa,λx O=>?_,λa b=>?_⟩);rcases rX O with O | rfl;exact h.cs x O;refine⟨by simp;omega,λy U=>?_⟩;rcases gM.1 U with U | U;exact a6.2 y U;cases aj.1 U;exact⟨z1,a2⟩;unfold Fs;simp only;rw[f7,f7,qT,q5];by_cases e:m=a;subst e;rw[d7 rfl,d7 hm,d6 hm,Option.getD_some,Option.getD_some,List.count_append];omega;rw[d9 e];exact tr _
 rintro⟨ps,bz⟩ ⟨Y,a3,hle⟩;simp only at Y a3 hle ⊢;have O:VO (ps,o.2):=⟨by show 2<=ps.length;omega,by show ps.length<=5;omega,a3,h.d8,by show ∀d∈o.2,VD ps.length d;rw[Y];exact h.ds⟩;have a7:RP (ps,o.2) P:=⟨by show ∀d∈P,GD ps.length d;rw[Y];exact K.gd,K.nd,K.z,by show P.length+1<=ps.length;rw[Y];exact K.len⟩;have a8:Kv (ps,o.2)=Kv o:=by show FW ps.length (BZ o) _=_;rw[Y]
 refine AJ (Ui Z h K) ?_;rintro⟨_,ag⟩ ai;refine AJ (Ui Z O a7) ?_;rintro⟨_,e2⟩ a4;refine AJ (Vd Z h az.1) ?_;rintro⟨_,_,al⟩ am;refine AJ (Vd Z O az.1) ?_;rintro⟨_,_,a9⟩ ap;rw[a8] at ap;simp only at ai a4 am ap ⊢;have g1:ag=0∨ag=11:=ai.imp tY tY;have bb:al=0∨al=11:=am.imp tY tY;have k1:e2=0∨ag=11:=by
  rcases ai with⟨_,aq,av⟩ | ⟨e,_⟩;rcases a4 with⟨e,_⟩ | ⟨_,n⟩;exact .inl e;exact absurd ⟨aq,UB av hle⟩ n;exact .inr e
 have be:a9=0∨al=11:=by
  rcases am with⟨_,s,ac,aq,av⟩ | ⟨e,_⟩;rcases ap with⟨e,_⟩ | ⟨_,n⟩;exact .inl e;exact absurd ⟨s,ac,aq,UB av hle⟩ n;exact .inr e
 refine Ba (b:=true) (by rcases g1 with e | e<;>simp[e]) (Ba (b:=true) (by rcases k1 with e | e<;>simp[e]) ?_);refine Ba (b:=true) (by rcases bb with e | e<;>simp[e]) (Ba (b:=true) (by rcases be with e | e<;>simp[e]) ?_);refine Ba (b:=true) ?_ (Ap V);rw[d7 rfl];exact ED (Ba ac (Ap V))
end Pal
