/- DebtRights: a part (6 of 9) of the proof of its row. -/
import Derived.Test.YticmfbehkooleaaGreatDoorRib
import Derived.Test.YticmfbehkooleaaGreatDoorRic
import Derived.Test.YticmfbehkooleaaGreatDoorRie
set_option linter.all false
set_option maxRecDepth 100000
namespace Pal
def EX:List Int->List Int->Bool
 | x::xs,y::ys=>if x=y then EX xs ys else decide (x<y)
 | _,_=>false
theorem J3(x y:Int)(xs ys:List Int):EX (x::xs) (y::ys)=if x=y then EX xs ys else decide (x<y):=rfl
theorem TS:∀{a b:List Int},a.length=b.length->EX a b=false->EX b a=false->a=b
 | [],[],_,_,_=>rfl
 | x::xs,y::ys,U,K,O=>by
  rw[J3] at K O
  by_cases e:x=y
  .subst e
   rw[d0 rfl] at K O;rw[TS (by simpa using U) K O]
  .rw [d7 e] at K;rw[d7 (λq=>e q.symm)] at O;have K:=sN K;have O:=sN O;omega
def NM(P:List DT)(S:CF->Prop)(dn:Nat)(K:List Int):Prop:=(∃C,S C/\Ge P dn C K)/\∀C O,S C->Ge P dn C O->EX O K=false
def LL(P:List DT)(S:CF->Prop)(dn i:Nat)(K:List Int):Prop:=(∃C,S C/\Ge P dn C ((i:Int)::K))/\∀C O,S C->Ge P dn C ((i:Int)::O)->EX O K=false
def Ex(P:List DT)(S:CF->Prop)(dn i:Nat):Prop:=∃C d K,S C/\P[i]?=some d/\dn.testBit i=false/\EK C d K/\Ends P (dn|||2^i) K
variable{S:CF->Prop}{dn:Nat}{C:CF}
theorem Ge.SD{P:List DT}{U:List Int}(hC:S C)(h:Ge P dn C U)(Y:dn≠2^P.length - 1):∃(i:Nat) (d:DT) (K:CF) (O:List Int),U=(i:Int)::O/\P[i]?=some d/\dn.testBit i=false/\EK C d K/\Ge P (dn|||2^i) K O/\Ex P S dn i:=by
 cases h with
 | nil e=>exact absurd e Y
 | @cons _ i _ K d O a b c e=>exact⟨i,d,K,O,rfl,a,b,c,e,C,d,K,hC,a,b,c,O,e⟩
theorem Ge.fst{P:List DT}{i:Nat}{O:List Int}(h:Ge P dn C ((i:Int)::O)):∃(d:DT) (K:CF),P[i]?=some d/\dn.testBit i=false/\EK C d K/\Ge P (dn|||2^i) K O:=by
 generalize U:(i:Int)::O=q at h;cases h with
 | nil e=>cases U
 | @cons _ j _ K d Z a b c e=>
  injection U with ac Y;obtain rfl:i=j:=by omega
  subst Y;exact⟨d,K,a,b,c,e⟩
variable{k:Nat}{d:DT}
theorem LL.step{P:List DT}{S1:CF->Prop}{i:Nat}{Y:List Int}(hd:P[i]?=some d)(Z:∀K,S1 K↔((∃C,S C/\EK C d K)/\Ends P (dn|||2^i) K))(hb:dn.testBit i=false)(ai:dn|||2^i≠2^P.length - 1)(aj:∀j,j<k->¬Ex P S1 (dn|||2^i) j)(h:LL P S1 (dn|||2^i) k Y):LL P S dn i ((k:Int)::Y):=by
 obtain⟨⟨K,al,am⟩,ap⟩:=h;obtain⟨⟨C,hC,aq⟩,-⟩:=(Z K).1 al;refine⟨⟨C,hC,.cons hd hb aq am⟩,λaw a0 a1 a2=>?_⟩;obtain⟨d2,O,ac,e2,a3,U⟩:=a2.fst;rw[hd] at ac;cases ac;have ag:S1 O:=(Z O).2 ⟨⟨aw,a1,a3⟩,a0,U⟩;obtain⟨j,a5,a6,a4,rfl,-,-,-,-,hj⟩:=U.SD ag ai;have a7:k<=j:=by
  rcases f7 j k with q | q;exact absurd hj (aj j q);exact q
 rw[J3];by_cases e:(j:Int)=(k:Int)
 .rw [d0 e];obtain rfl:j=k:=by omega
  exact ap O a4 ag U
 .rw [d7 e];exact qX (by omega)
structure OS (m dn:Nat) (os:List Nat):Prop where
 nd:os.Nodup
 lt:∀i∈os,i<m
 bit:∀i,i<m->(dn.testBit i=true↔i∈os)
 dn:dn<2^m
variable{m:Nat}{os:List Nat}
theorem OS.full(h:OS m dn os):os.length=m↔dn=2^m - 1:=by
 have hle:os.length<=m:=by
  have:=KA (m:=List.range m) h.nd λx K=>q7.2 (h.lt x K)
  rwa[sb] at this
 constructor
 .intro e;have O:∀i,i<m->i∈os:=by
   intro i hi;refine sd λU=>?_;have:=KA (l:=i::os) (m:=List.range m) (tc.2 ⟨U,h.nd⟩) λx K=>by
    rcases fP.1 K with rfl | K;exact q7.2 hi;exact q7.2 (h.lt x K)
   rw[sb,q4] at this;omega
  refine tn λi=>?_;rw[uc];rcases f7 i m with hi | hi;rw[(h.bit i hi).2 (O i hi),qR hi];rw[qX (by omega)];exact sM (rz h.dn (rv (by omega) hi))
 .intro e;have:=KA (l:=List.range m) (m:=os) List.nodup_range λx K=>by
   have K:=q7.1 K;refine(h.bit x K).1 ?_;rw[e,uc,qR K]
  rw[sb] at this;omega
theorem OS.snoc{i:Nat}(h:OS m dn os)(hi:i<m)(hb:dn.testBit i=false):OS m (dn|||2^i) (os++ [i]):=by
 have K:i ∉ os:=λq=>by rw[(h.bit i hi).2 q] at hb;cases hb
 refine⟨?_,λj hj=>?_,λj hj=>?_,?_⟩;rw[rS];exact⟨h.nd,by simp,λa O b U e=>by cases aX.1 U;subst e;exact K O⟩;rcases ik.1 hj with hj | hj;exact h.lt j hj;cases aX.1 hj;exact hi;rw[V4,rO,sF,h.bit j hj,ik,aX];exact⟨λq=>q.imp id Eq.symm,λq=>q.imp id Eq.symm⟩;exact tg h.dn (s4 (by omega) hi)
variable{A:Type}{N:Nat}
theorem ao{S:Type}{body:S->Option (Bq S A)}{s s':S}(h:body s=some (.more s')):Pal.iter body (N+1) s=Pal.iter body N s':=by
 conv=>lhs;unfold Pal.iter
 rw[h]
theorem UH{S:Type}{body:S->Option (Bq S A)}{s:S}{a:A}(h:body s=some (.done a)):Pal.iter body (N+1) s=some a:=by
 conv=>lhs;unfold Pal.iter
 rw[h]
variable {F:Nat}{L:List Nat}{P:List DT}
variable{now:List PU}{sm:List ((Nat×List (List Int))×Bool)}
section
variable {n:Nat}
def FJ(l:List PU):CF->Prop:=λC=>∃p∈l,AJ p=C
theorem U4(U:SX F n L P){i:Nat}(am:dn<2^P.length)(hd:P[i]?=some d)(hb:dn.testBit i=false)(ap:now.length<=5^15)(aq:∀q∈now,SP n L q)(aw:Gc n L P sm):
  ∃all r,f161 F now d=some all/\f160 F all (dn|||2^i) P sm=some r/\Gc n L P r.2/\r.1.length<=5^15/\(∀q∈r.1,SP n L q)/\(∀K,FJ r.1 K↔((∃C,FJ now C/\EK C d K)/\Ends P (dn|||2^i) K))/\(r.1=[]↔¬Ex P (FJ now) dn i):=by
 have hi:i<P.length:=(dY.1 hd).1;have a0:=U.ok d (qL hd);let⟨all,a2,a1,Z,a3⟩:=cu U a0 ap aq;obtain⟨-,a4⟩:=OK U.m8 am hi;let⟨r,a5,a6,bg,aj,a7⟩:=cF U a4 a1 (λq O=>(Z q O).1) aw;have ac:∀K,FJ r.1 K↔((∃C,FJ now C/\EK C d K)/\Ends P (dn|||2^i) K):=by
  intro K;constructor;rintro⟨q,O,rfl⟩;let⟨c1,c2⟩:=aj q O;obtain⟨-,p,ag,ai⟩:=Z q c1;exact⟨⟨_,⟨p,ag,V⟩,ai⟩,c2⟩;rintro⟨⟨C,⟨p,ag,rfl⟩,ai⟩,he⟩;obtain⟨q,O,rfl⟩:=a3 p ag K ai;exact⟨q,a7 q O he,V⟩
 refine⟨all,r,a2,a5,a6,by omega,λq O=>(Z q (aj q O).1).1,ac,?_⟩;constructor;rintro e ⟨C,d',K,k1,Y,al,a8,a9⟩;rw[hd] at Y;cases Y;obtain⟨q,O,-⟩:=(ac K).2 ⟨⟨C,k1,a8⟩,a9⟩;rw[e] at O;cases O
 .intro bb;cases be:r.1 with
  | nil=>rfl
  | cons q l=>
   exfalso;obtain⟨⟨C,k1,Y⟩,al⟩:=(ac (AJ q)).1 ⟨q,by rw[be];exact rT,rfl⟩;exact bb ⟨C,d,_,k1,hd,hb,Y,al⟩
theorem Zr(K:SX F n L P)(O:dn<2^P.length){ag:List PU}{ai aj:List ((Nat×List (List Int))×Bool)}{i0:Int}{al:List Int}{am:Nat}(ap:now.length<=5^15)(aq:∀q∈now,SP n L q)(aw:Gc n L P sm)
  (hex:∃k,k<P.length/\Ex P (FJ now) dn k):
  AI (Pal.iter (O6 F P (aj,ag,i0,al,am) (now,ai) dn) F (sm,0)) (λr=>Gc n L P r.2/\∃k:Nat,r.1=(k:Int)/\k<P.length/\Ex P (FJ now) dn k/\∀j,j<k->¬Ex P (FJ now) dn j):=by
 have hm:=K.m8;have a8:=K.Qh;refine CQ P.length (λi s=>s.2=(i:Int)/\Gc n L P s.1/\∀j,j<i->¬Ex P (FJ now) dn j) ⟨V,aw,λj hj=>by omega⟩ (by omega) ?_ ?_
 .rintro i ⟨a0,z⟩ hi ⟨U,t1,t2⟩;simp only at U t1 t2;subst U;let⟨a1,a9⟩:=OK hm O hi;unfold O6;refine BW (by simp only;omega) (Cf (m:=i) V hi ?_);refine AW (UL (by omega)) (AW (Ue hm O) ?_);refine Bv (S:=λr=>Gc n L P r.2/\(r.1=true↔Ex P (FJ now) dn i)) ?_ ?_
  .cases hb:dn.testBit i with
   | true=>
    refine BT (by simp) (Aw ⟨t1,tk (by simp) ?_⟩);rintro⟨C,d,bb,_,_,k,_⟩;rw[hb] at k;cases k
   | false=>
    let⟨all,r,a2,a3,a4,be,bg,bi,Y⟩:=U4 K O (bI hi) hb ap aq t1;refine BW (by simp) (AW (OD (by omega)) ?_);refine AW a1 (AW a2 ?_);refine AW a3 (Aw ⟨a4,?_⟩);rw[sF];constructor;intro q;refine s3 λa5=>?_;rw[Y.2 a5] at q;exact absurd q (by simp);intro q;have:r.1≠ []:=λe=>Y.1 e q;have:=tX.2 this;omega
  .rintro⟨b,bo⟩ ⟨Z,ac⟩;refine CG (λhb=>Aw ⟨Z,i,V,hi,ac.1 hb,t2⟩) (λhb=>?_);refine AI.E ((i+1:Nat):Int) (by simp) (Aw ⟨V,Z,λj hj=>?_⟩);rcases f7 j i with a6 | bv;exact t2 j a6
   .obtain rfl:j=i:=by omega
    exact λq=>hb (ac.2 q)
 .rintro⟨a0,z⟩ ⟨U,t1,t2⟩;obtain⟨k,a7,hh⟩:=hex;exact absurd hh (t2 k a7)
theorem bP(K:SX F n L P):∀(N dn i:Nat) (os:List Nat) (now:List PU) (sm:List ((Nat×List (List Int))×Bool)),300<N+dn->OS P.length dn os->i<P.length->dn.testBit i=false->now.length<=5^15->(∀q∈now,SP n L q)->Gc n L P sm->
  AI (Pal.iter (Nb F P) N (sm,now,(i:Int),os.map (λj:Nat=>(j:Int)),dn)) (λq=>∃r sm',q=Sum.inl (r,sm')/\((¬Ex P (FJ now) dn i/\r=[])∨(Ex P (FJ now) dn i/\∃O,r=os.map (λj:Nat=>(j:Int))++(i:Int)::O/\LL P (FJ now) dn i O))):=by
 have hm:=K.m8;have cy:=O7 hm;intro N
 induction N with
 | zero=>intro dn i os now sm ap ac;have:=ac.dn;omega
 | succ N a9=>
  intro dn i os now sm c0 U hi hb bb be bg;have aq:=U.dn;let⟨aw,bi⟩:=OK hm aq hi;let⟨all,r,ap,ac,bo,a0,a1,a2,ag⟩:=U4 K aq (bI hi) hb bb be bg;have ai:=U.snoc hi hb;have c1:os.length<=8:=by
   have:=KA (m:=List.range P.length) U.nd λx K=>q7.2 (U.lt x K);rw[sb] at this;omega
  have body:AI (Nb F P (sm,now,(i:Int),os.map (λj:Nat=>(j:Int)),dn)) (λst=>
    (∃sm',st=.done (Sum.inl ([],sm'))/\¬Ex P (FJ now) dn i)∨
    (∃sm',st=.done (Sum.inl (os.map (λj:Nat=>(j:Int))++ [(i:Int)],sm'))/\Ex P (FJ now) dn i/\dn|||2^i=2^P.length - 1)∨
    (∃sm' k,st=.more (sm',r.1,((k:Nat):Int),(os++ [i]).map (λj:Nat=>(j:Int)),dn|||2^i)/\Ex P (FJ now) dn i/\dn|||2^i≠2^P.length - 1/\k<P.length/\Ex P (FJ r.1) (dn|||2^i) k/\(∀j,j<k->¬Ex P (FJ r.1) (dn|||2^i) j)/\Gc n L P sm')):=by
   unfold Nb
   dsimp only;refine Cf (m:=i) V hi (AW (OD (by omega)) ?_);refine AW aw (AW ap ?_);refine AW ac (CG (λa3=>Aw (.inl ⟨_,V,ag.1 (uq.1 (by omega))⟩)) (λa3=>?_));have aj:Ex P (FJ now) dn i:=s3 λq=>a3 (by rw[ag.2 q];rfl);refine AW (OD (by omega)) (AW aw ?_);refine AI.LM (by simp;omega) ?_;have hlen:(os.map (λj:Nat=>(j:Int))++ [(i:Int)]).length=(os++ [i]).length:=by simp
   refine CG (λY=>Aw (.inr (.inl ⟨_,V,aj,ai.full.1 (by omega)⟩))) (λY=>?_);have Z:dn|||2^i≠2^P.length - 1:=λe=>Y (by have:=ai.full.2 e;omega)
   have hex:∃k,k<P.length/\Ex P (FJ r.1) (dn|||2^i) k:=by
    have bv:r.1≠ []:=λe=>ag.1 e aj;let⟨q,a4⟩:=ug _ bv;obtain⟨-,he⟩:=(a2 (AJ q)).1 ⟨q,a4,V⟩;let⟨k,d,a5,a6,e2,bw,bx⟩:=he.cases Z;exact⟨k,(dY.1 a6).1,_,d,a5,⟨q,a4,V⟩,a6,e2,bw,bx⟩
   refine Bv (Zr K bi a0 a1 bo hex) ?_;rintro⟨z,sm'⟩ ⟨b0,k,a7,b1,b2,b3⟩;simp only at a7;subst a7;exact Aw (.inr (.inr ⟨sm',k,by simp only[ru,List.map_singleton],aj,Z,b1,b2,b3,b0⟩))
  obtain⟨st,al,b4⟩:=body;have c2:=Xj hb;rcases b4 with⟨sm',rfl,am⟩ | ⟨sm',rfl,hh,b5⟩ | ⟨sm',k,rfl,hh,Z,b6,a8,ca,cc⟩;rw[UH al];exact Aw ⟨[],sm',V,.inl ⟨am,V⟩⟩;rw[UH al];refine Aw ⟨_,sm',V,.inr ⟨hh,[],V,?_⟩⟩;obtain⟨C,d,a5,k1,ce,ci,ck,c3⟩:=hh;exact⟨⟨C,k1,.cons ce ci ck (.nil b5)⟩,λc4 co _ _=>by cases co<;>rfl⟩
  .rw [ao al];have cp:(dn|||2^i).testBit k=false:=by obtain⟨_,_,_,_,_,q,_⟩:=a8;exact q
   refine(a9 (dn|||2^i) k (os++ [i]) r.1 sm' (by omega) ai b6 cp a0 a1 cc).Ag ?_;rintro q ⟨r',ct,rfl,Y⟩;refine⟨r',ct,V,?_⟩;rcases Y with⟨am,-⟩ | ⟨-,O,rfl,cw⟩;exact absurd a8 am;refine .inr ⟨hh,(k:Int)::O,by simp,cw.step (bI hi) a2 hb Z ca⟩
end
def Gb(ps:List (List Int)):CF:=λa b=>(((ps.getD a []).count (b:Int):Nat):Int)
def JK(ps:List (List Int)):List Nat:=ps.flatMap λx=>x.map Int.toNat
def KX:Nat->List (List Int)->List Nat
 | _,[]=>[]
 | i,x::xs=>List.replicate x.length i++KX (i+1) xs
theorem Uj{K w2:List Nat}(a b:Nat):∀{O w1:List Nat},O.length=w1.length->C5 (O++K) (w1++w2) a b=C5 O w1 a b+C5 K w2 a b
 | [],[],_=>by show C5 K w2 a b=0+C5 K w2 a b;omega
 | l::O,o::w1,h=>by
  rw[rh,rh,Om,Om,Uj a b (by simpa using h)];omega
theorem Uc(i a b:Nat):∀{x:List Int},(∀c∈x,0<=c)->C5 (x.map Int.toNat) (List.replicate x.length i) a b=if a=i then((x.count (b:Int):Nat):Int) else 0
 | [],_=>by show(0:Int)=_;simp
 | c::x,h=>by
  have U:=h c rT
  rw[r8,q4,sI,Om,Uc i a b λy O=>h y (f9 _ O),List.count_cons]
  by_cases K:a=i
  .rw [d0 K,d0 K]
   by_cases hb:b=c.toNat;rw[d0 ⟨K,hb⟩,d0 (by rw[sB];omega)];omega;rw[d7 (λq=>hb q.2),d7 (by rw[sB];omega)];omega
  .rw [d7 K,d7 K,d7 (λq=>K q.1)];omega
theorem Rj(a b:Nat):∀(ps:List (List Int)) (i:Nat),(∀x∈ps,∀c∈x,0<=c)->C5 (JK ps) (KX i ps) a b=if i<=a then Gb ps (a - i) b else 0
 | [],i,_=>by
  show(0:Int)=_
  split;unfold Gb;rw[f4];simp;rfl
 | x::ps,i,h=>by
  have K:=Rj a b ps (i+1) λy O=>h y (f9 _ O);show C5 (x.map Int.toNat++JK ps) (List.replicate x.length i++KX (i+1) ps) a b=_;rw[Uj a b (by simp),Uc i a b (h x rT),K];by_cases e:a=i;subst e;rw[d0 rfl,d7 (by omega),d0 (qH _),ti];unfold Gb;rw[List.getD_cons_zero];omega;rw[d7 e];by_cases e2:i<=a;rw[d0 (by omega),d0 e2];obtain⟨k,U⟩:∃k,a - i=k+1:=⟨a - i - 1,by omega⟩;unfold Gb;rw[U,List.getD_cons_succ,show a - (i+1)=k by omega];omega;rw[d7 (by omega),d7 e2];omega
theorem Ry:∀(ps:List (List Int)) (i:Nat),(KX i ps).length=(JK ps).length
 | [],_=>rfl
 | x::ps,i=>by
  show(List.replicate x.length i++KX (i+1) ps).length=(x.map Int.toNat++JK ps).length
  rw[qT,qT,Ry ps (i+1),sf,r5]
theorem RO:∀(ps:List (List Int)) (i:Nat),∀o∈KX i ps,o<i+ps.length
 | [],_,o,h=>by cases h
 | x::ps,i,o,h=>by
  rw[q4]
  rcases ik.1 h with h | h;have:=(sR.1 h).2;omega;have:=RO ps (i+1) o h;omega
theorem US:∀{ps:List (List Int)}{k:Nat},(∀x∈ps,x.length<=k)->(JK ps).length<=ps.length*k
 | [],_,_=>rl _
 | x::ps,k,h=>by
  have:=US (ps:=ps) (k:=k) λy K=>h y (f9 _ K)
  have O:=h x rT
  show(x.map Int.toNat++JK ps).length<=_
  rw[qT,r5,q4,rF];omega
theorem Tr{x:List Int}(K:k<x.length)(b:Int):(x.take (k+1)).count b=(x.take k).count b+if x[k]=b then 1 else 0:=by
 rw[ri,bI K,List.count_append,rJ,List.count_singleton];by_cases e:x[k]=b;rw[d0 e,d0 (by simp[e])];rw[d7 e,d7 (by simp[e])]
variable{o:OW}
theorem dy{F:Nat}(aw:100<F)(h:VO o):AI (f120 F o) (λp=>SP o.1.length (JK o.1) p/\AJ p=Gb o.1):=by
 have a0:=h.n5;unfold f120;refine Bv (S:=λp=>p.length=o.1.length/\(∀xs∈p,∀K∈xs,0<=K.1/\K.1<10)/\∀a,a<o.1.length->∀b:Nat,AJ p a b=Gb o.1 a b) ?_ ?_
 .refine CQ o.1.length (λi s=>s.2=(i:Int)/\s.1.length=i/\(∀xs∈s.1,∀K∈xs,0<=K.1/\K.1<10)/\∀a,a<i->∀b:Nat,AJ s.1 a b=Gb o.1 a b) ⟨V,V,(λxs Z=>by cases Z),(λa al=>by omega)⟩ (by omega) ?_ ?_
  .rintro i ⟨s,z⟩ hi ⟨O,t1,t2,t3⟩;simp only at O t1 t2 t3;subst O;let⟨c1,c2⟩:=h.cs _ (no hi);unfold OQ;refine BW (by simp only;omega) (Cf (m:=i) V hi ?_);refine Bv (S:=λm=>(∀K∈m,0<=K.1/\K.1<10)/\∀b:Nat,(Bn m (b:Int)).getD 0=((o.1[i].count (b:Int):Nat):Int)) ?_ ?_
   .refine CQ o.1[i].length (λk s=>s.2=(k:Int)/\(∀K∈s.1,0<=K.1/\K.1<10)/\∀b:Nat,(Bn s.1 (b:Int)).getD 0=(((o.1[i].take k).count (b:Int):Nat):Int)) ⟨V,(λK ac=>by cases ac),(λb=>V)⟩ (by omega) ?_ ?_
    .rintro k ⟨m,z⟩ ac ⟨O,Y,U⟩;simp only at O Y U;subst O;have ai:=c2 _ (no ac);have am:((o.1[i][k].toNat:Nat):Int)=o.1[i][k]:=by omega
     have ag:=U o.1[i][k].toNat;rw[am] at ag;have hle:(o.1[i].take k).count o.1[i][k]<=k:=q8 uE (by rw[rU];omega);unfold O8;refine BW (by simp only;omega) ?_;refine Cf (m:=k) V ac ?_;refine OY _ V (by simp only[ag];omega) (by simp only[ag];omega) ?_;refine AI.E ((k+1:Nat):Int) (by simp) ?_;refine Aw ⟨V,λK ap=>?_,λb=>?_⟩;rcases Rg ap with q | ⟨r,q⟩;rw[q];omega;exact Y (K.1,r) q;simp only;rw[KB,Tr ac];by_cases e:(b:Int)=o.1[i][k];rw[d0 e,d0 e.symm,Option.getD_some,ag,e];omega;rw[d7 e,d7 (λq=>e q.symm),U b];omega
    .rintro⟨m,z⟩ ⟨O,Y,U⟩;simp only at O Y U;subst O;unfold O8;rw[ra] at U;exact BT (by simp only;omega) (Aw ⟨_,V,Y,U⟩)
   .rintro m ⟨Y,U⟩;refine IW (by simp only;omega) (AI.E ((i+1:Nat):Int) (by simp) ?_);refine Aw ⟨V,by show(s++ [m]).length=i+1;rw[qT,r9];omega,λxs aq=>?_,λa al b=>?_⟩;rcases ik.1 aq with q | q;exact t2 xs q;cases aX.1 q;exact Y
    .simp only;rcases f7 a i with q | q;rw[← t3 a q b];unfold AJ;rw[f4,qO (by omega),f4]
     .obtain rfl:a=i:=by omega
      unfold AJ Gb;rw[f4,qK (by omega),show a - s.length=0 by omega,f4,bI hi];exact U b
  .rintro⟨s,z⟩ ⟨O,t1,t2,t3⟩;simp only at O t1 t2 t3;subst O;unfold OQ;exact BT (by simp only;omega) (Aw ⟨_,V,t1,t2,t3⟩)
 .rintro p ⟨t1,t2,t3⟩;have aj:AJ p=Gb o.1:=by
   funext a b;rcases f7 a o.1.length with q | q;exact t3 a q b;unfold AJ Gb;rw[f4,rb (by omega),f4,rb q];rfl
  refine Aw ⟨⟨t1,t2,KX 0 o.1,Ry _ _,λx Z=>by have:=RO o.1 0 x Z;omega,?_⟩,aj⟩;rw[aj];funext a b;rw[Rj a b o.1 0 (λx Z c ai=>by have:=(h.cs x Z).2 c ai;omega),d0 (rl _),sC]
theorem VO.LS(h:VO o):(JK o.1).length<=15:=by
 have O:=US (ps:=o.1) (k:=3) λx K=>(h.cs x K).1;have:=h.n5;omega
structure PO (F:Nat) (o:OW) (P:List DT):Prop where
 vo:VO o
 m8:P.length<=8
 ok:∀d∈P,VT o.1.length d
 fuel:5^16<F
theorem PO.sx{F:Nat}{P:List DT}(h:PO F o P):SX F o.1.length (JK o.1) P:=⟨h.vo.n5,h.vo.LS,h.m8,h.ok,h.fuel⟩
def S0(o:OW):CF->Prop:=λC=>Gb o.1=C
theorem cI{F:Nat}{P:List DT}(h:PO F o P){j:Nat}(hj:j<P.length):AI (JI F o P j) (λr=>(¬Ex P (S0 o) 0 j/\r=[])∨(Ex P (S0 o) 0 j/\∃K,r=(j:Int)::K/\LL P (S0 o) 0 j K)):=by
 have U:=h.sx;have ai:=h.fuel;have aj:(5:Nat)^16=152587890625:=by decide
 unfold JI;refine Bv (dy U.Qh h.vo) ?_;rintro p ⟨Z,Y⟩;have ac:FJ [p]=S0 o:=by
  funext C;unfold FJ S0;refine propext ⟨?_,λe=>⟨p,aX.2 V,by rw[Y];exact e⟩⟩;rintro⟨q,O,e⟩;cases aX.1 O;rw[← Y];exact e
 have key:=bP U F 0 j [] [p] [] (by omega) ⟨t6,(λi hi=>by cases hi),(λi hi=>by simp),ux _⟩ hj (by simp) (by simp) (λq O=>by cases aX.1 O;exact Z) (λdn X b hb=>by cases hb);rw[ac] at key;refine Bv (S:=λr=>(¬Ex P (S0 o) 0 j/\r.1=[])∨(Ex P (S0 o) 0 j/\∃K,r.1=(j:Int)::K/\LL P (S0 o) 0 j K)) ?_ (λr ag=>Aw ag);unfold f119;refine Bv key ?_;rintro q ⟨r,sm',rfl,O⟩;exact Aw O
theorem dW{F:Nat}{P:List DT}(h:PO F o P):AI (f77 F o P) (λr=>(r.2=true/\NM P (S0 o) 0 r.1)∨(r=([],false)/\¬Ends P 0 (Gb o.1))):=by
 have hm:=h.m8;unfold f77;refine CG (λai=>Aw (.inl ⟨V,⟨_,V,.nil (by rw[ai])⟩,λC aj _ _=>by cases aj<;>rfl⟩)) (λai=>?_);have al:0≠2^P.length - 1:=by
  have:2^1<=2^P.length:=rv (by omega) (by omega);omega
 have ac:∀j,j<P.length->∃r,JI F o P j=some r/\Ki F o P j=r/\((¬Ex P (S0 o) 0 j/\r=[])∨(Ex P (S0 o) 0 j/\∃U,r=(j:Int)::U/\LL P (S0 o) 0 j U)):=λj hj=>by
  let⟨r,Y,O⟩:=cI h hj;exact⟨r,Y,by unfold Ki;rw[Y];rfl,O⟩
 refine BW ⟨by omega,q3.2 λj hj=>?_⟩ (Aw ?_);let⟨r,Y,_⟩:=ac j (q7.1 hj);rw[Y];rfl
 have ag:∀j,j<P.length->((!(Ki F o P j).isEmpty)=true↔Ex P (S0 o) 0 j):=λj hj=>by
  let⟨r,_,O,K⟩:=ac j hj;rw[O];rcases K with⟨K,rfl⟩ | ⟨K,U,rfl,_⟩;exact tk (by simp) K;exact uL V K
 unfold Mn;cases am:(List.range P.length).find? λj=> !(Ki F o P j).isEmpty with
 | none=>
  refine .inr ⟨V,λhe=>?_⟩;let⟨i,d,ap,Z,e2,aq,aw⟩:=he.cases al;have hi:=(dY.1 Z).1;have:=tH.1 am i (q7.2 hi);exact this ((ag i hi).2 ⟨_,d,ap,V,Z,e2,aq,aw⟩)
 | some j=>
  let⟨f1,f2,f3⟩:=um.1 am;have hj:=q7.1 f2;let⟨r,_,O,K⟩:=ac j hj;have a3:=(ag j hj).1 f1;rcases K with⟨K,_⟩ | ⟨K,U,rfl,⟨C,hC,a4⟩,a5⟩;exact absurd a3 K
  refine .inl ⟨V,?_⟩;show NM P (S0 o) 0 (Ki F o P j);rw[O];refine⟨⟨C,hC,a4⟩,λa6 aj a0 a1=>?_⟩;obtain⟨i,d,ap,a7,rfl,Z,e2,aq,aw,a8⟩:=a1.SD a0 al;have hi:=(dY.1 Z).1;have a9:j<=i:=by
   rcases f7 i j with q | q;have:=f3 i q;rw[tf] at this;have a2:=(ag i hi).2 a8;rw[this] at a2;cases a2;exact q
  rw[J3];by_cases e:(i:Int)=(j:Int)
  .rw [d0 e];obtain rfl:i=j:=by omega
   exact a5 a6 a7 a0 a1
  .rw [d7 e];exact qX (by omega)
open Go Go.Conc Go.Proofs
variable {J:Judge Tryz.prog}{E:LH}
def MG(fu_:Nat)(p0:A0)(p1:AB):Option (Int):=
 (f70 fu_ p0 ([])).bind λK=>
 if K.2≠0 then(
  some K.2
 ) else(
  (KU fu_ K.1 p1).bind λO=>
  (P7 fu_ O).bind λU=>
  some U
 )
variable{a1:Ap}{c2 fu_:Nat}{p0:A0}{p1:AB}
theorem eQ{Y ac:Ap}{bi:Nat}(ap:GE E)(aq:Am (rL rI) E a1 c2 (p0.1))(aw:Am Ay E Y dn (p0.2))(a0:Am Ay E ac bi (p1)){r:Int}(ai:MG fu_ p0 p1=some r):AY J 13 [.agg #[.slice a1 (p0.1).length c2,.slice Y (p0.2).length dn],.slice ac (p1).length bi] E [] (λw E' B'=>w=iV r/\B'=[]):=by
 refine Bm Tryz.func13 λQ b6 cs H a2 aj=>?_;unfold MG at ai;refine C 2 V (Cs a2 λca cc K a3 a4=>?_);refine C 4 V (BQ a3 Cb BD V V ?_);let⟨ce,a5,a6⟩:=bs ai;refine BU (KL (aq.Ag K) (aw.Ag K) Am.nil a5) V V Kt a4 ?_;rintro _ ci _ U ⟨ck,co,cp,ct,rfl,rfl,a7,a8⟩ a9;refine C 3 V (BZ a9 HM λcw bb=>?_);refine JS.sx 3 bb Ee λbe=>?_;refine C8 3 be V λcy O bg al=>C 8 V (AP a6 (λbi bo=>?_) (λbi bv=>?_));refine C 5 V ?_;cases bo;exact AK Tryz.func13 V V (aj ((K.trans U).trans O) V ⟨V,V⟩ al);refine C 3 V (BQ bg F1 Ee V V ?_);let⟨c0,bw,bx⟩:=bs bv;refine C 1 V (BU (WH (a7.Ag O) (a8.Ag O) (a0.Ag ((K.trans U).trans O)) bw) V V (A4 Tryz.func42 V) al ?_);rintro c1 c3 _ am ⟨_,rfl,rfl,b0⟩ b1;let⟨c4,b2,b3⟩:=bs bx;refine B9 (U0 (ap.Ag (((K.trans U).trans O).trans am)) b0 b2) V V (A4 Tryz.func41 V) b1 λc5 b4 b5=>C 2 V ?_;cases b3;exact AK Tryz.func13 V V (aj ((((K.trans U).trans O).trans am).trans b4) V ⟨V,V⟩ b5)
def Lw(fu_:Nat)(p0:A0)(p1:AB):Option ((List Int)×Int):=
 (f70 fu_ p0 ([])).bind λK=>
 if K.2≠0 then(
  some ([],K.2)
 ) else(
  (KU fu_ K.1 p1).bind λY=>
  (P7 fu_ Y).bind λO=>
  if O≠0 then(
   some ([],O)
  ) else(
   (f77 fu_ K.1 p1).bind λU=>
   if(!U.2)=true then(
    some ([],11)
   ) else(
    some (U.1,0)
   )
  )
 )
theorem gq{E:LH}{ag aj:Ap}{ci:Nat}(a8:GE E)(a9:Am (rL rI) E a1 c2 (p0.1))(bb:Am Ay E ag dn (p0.2))(am:Am Ay E aj ci (p1)){r:(List Int)×Int}(ap:Lw fu_ p0 p1=some r):AY (Hj Tryz.prog) 15 [.agg #[.slice a1 (p0.1).length c2,.slice ag (p0.2).length dn],.slice aj (p1).length ci] E [] (λw E' B'=>∃(aq:Ap) (aw:Nat),w=.tuple #[.slice aq (r.1).length aw,iV r.2]/\B'=[]/\Am rI E' aq aw (r.1)):=by
 refine Bm Tryz.func15 λQ c6 cs H be ac=>?_;unfold Lw at ap;refine C 2 V (Cs be λc7 c8 O bg bi=>?_);refine C 5 V (BQ bg Cb BD V V ?_);let⟨c9,bo,bv⟩:=bs ap;refine BU (KL (a9.Ag O) (bb.Ag O) Am.nil bo) V V Kt bi ?_;rintro _ dd _ Y ⟨dj,ea,eb,ec,rfl,rfl,a0,a2⟩ bw;refine C 3 V (BZ bw HM λed bx=>?_);refine JS.sx 3 bx Ee λb0=>?_;refine C8 3 b0 V λee K a3 a4=>C 8 V (AP bv (λb1 b2=>?_) (λb1 b3=>?_));refine C 6 V ?_;cases b2;exact AK Tryz.func15 V V (ac ((O.trans Y).trans K) V ⟨none,0,V,V,Am.nil⟩ a4);refine C 4 V (BQ a3 F1 Ee V V ?_);let⟨ef,b4,b5⟩:=bs b3;refine C 1 V (BU (WH (a0.Ag K) (a2.Ag K) (am.Ag ((O.trans Y).trans K)) b4) V V (A4 Tryz.func42 V) a4 ?_);rintro eg ej _ U ⟨_,rfl,rfl,b6⟩ ca;let⟨ek,cc,ce⟩:=bs b5;refine B9 (U0 (a8.Ag (((O.trans Y).trans K).trans U)) b6 cc) V V (A4 Tryz.func41 V) ca λel Z a5=>C 7 V (AP ce (λci ck=>?_) (λci co=>?_));refine C 6 V ?_;cases ck;exact AK Tryz.func15 V V (ac ((((O.trans Y).trans K).trans U).trans Z) V ⟨none,0,V,V,Am.nil⟩ a5);refine C 3 V (BQ (a3.Ag (U.trans Z)) F1 Ee V V ?_);let⟨cp,ct,cw⟩:=bs co;refine C 1 V (BU (Xi (a0.Ag ((K.trans U).trans Z)) (a2.Ag ((K.trans U).trans Z)) (am.Ag ((((O.trans Y).trans K).trans U).trans Z)) ct) V V (A4 Tryz.func44 V) a5 ?_);rintro _ em _ a6 ⟨cy,c0,rfl,rfl,c1⟩ a7;refine C 10 V (Ao (v:=.bool (!cp.2)) V (λρ h=>Yl.not (h _ _ V)) ?_);refine JL.done (Cm cw (λc3 c4=>?_) (λc3 c5=>?_));refine C 5 V ?_;cases c4;exact AK Tryz.func15 V V (ac (((((O.trans Y).trans K).trans U).trans Z).trans a6) V ⟨none,0,V,V,Am.nil⟩ a7);refine C 7 V ?_;cases c5;exact AK Tryz.func15 V V (ac (((((O.trans Y).trans K).trans U).trans Z).trans a6) V ⟨cy,c0,V,V,c1⟩ a7)
open Go.Proofs.Tryz
end Pal
namespace Pal
open Go Go.Conc
variable {P:Program}{J:Judge P}{Q:Gs_}{b:Frame}{ds:Ld_}{ops:Ao_}{k:Li_}{cs:Lf_}{m fuel:Nat}{D:Nat->Bool}{listed:Array Bool}{L:Env}{E E' H:LH}{S:List Seg}
variable {t u ty e:TypeId}{p:String}{af:Ae_}{g:On_}{v:Value}{kd:IntKind}
section
variable {n:Nat}{s:St}
variable {d:Option Tmp}{x y:Operand}{i:Nat}
end
open Go.Proofs Go.Proofs.Tryz
variable {J:Judge Tryz.prog}
end Pal
namespace Pal
open Go Go.Conc
variable {P:Program}{t u ty e:TypeId}{p:String}{af:Ae_}{g:On_}{ρ:Operand->Value}
section
variable {d:Option Tmp}{x:Operand}{s:St}
end
open Go.Proofs Go.Proofs.Tryz
variable {E:LH}
variable {J:Judge Tryz.prog}
variable {J:Judge Tryz.prog}
def PF(fu_:Nat)(p1:Int)(K:(List Int)×Int×Nat×(List Int)×Int):Option (Bq ((List Int)×Int×Nat×(List Int)×Int) ((List Int)×B4)):=if K.2.2.2.2<p1 then((f36 fu_ (K.1,K.2.1,K.2.2.1) K.2.2.2.2).bind λO=>(room K.2.2.2.1 K.2.2.2.2).bind λU=>(ix U O.1).bind λY=>(ix U K.2.2.2.2).bind λac=>(ix (U.set (Int.toNat K.2.2.2.2) Y) O.1).bind λag=>(Az (K.2.2.2.2+1)).bind λZ=>some (.more (O.2.1,O.2.2.1,O.2.2.2,((U.set (Int.toNat K.2.2.2.2) Y).set (Int.toNat O.1) K.2.2.2.2),Z))) else(some (.done (K.2.2.2.1,K.1,K.2.1,K.2.2.1)))
def f49(fu_:Nat)(p0:B4)(p1:Int):Option ((List Int)×(B4)):=Option.bind (iter (PF fu_ p1) fu_ (p0.1,p0.2.1,p0.2.2,[],0)) λK=>some K
theorem Xh{bk:Nat}{a1:Ap}{c2:Nat}{p0:B4}{p1:Int}(ck:Am rI E a1 c2 p0.1){fu_:Nat}{r:(List Int)×(B4)}(be:f49 fu_ p0 p1=some r):AY J 38 [Ar bk 0,iV p1] E [(bk,.cells #[sV a1 p0.1 c2,iV p0.2.1,.int .u64 ((p0.2.2:Nat):Int)] 61 (0,0))] (λw E' B'=>∃(bg:Ap) (bi:Nat) (bo:Ap) (bv:Nat),w= sV bg r.1 bi/\B'=[(bk,.cells #[sV bo r.2.1 bv,iV r.2.2.1,.int .u64 ((r.2.2.2:Nat):Int)] 61 (0,0))]/\Am rI E' bg bi r.1/\Am rI E' bo bv r.2.1):=by
 refine Bm func38 λQ fk cs H co cp=>?_;unfold f49 at be;let⟨ag,ct,cw⟩:=bs be;refine C 13 V (Bu (λL s=>∃(aq:LH) (aw:Ap) (a0:Nat) (a7:Seg) (a2:Ap) (a3:Nat),Jn E H aq [bX bk #[sV a2 ag.2.1 a3,iV ag.2.2.1,.int .u64 ((ag.2.2.2:Nat):Int)] 61,a7] [(5,sV aw ag.1 a0)] L s (OL 3 rI aq aw a0 a7 ag.1/\Am rI aq a2 a3 ag.2.1)) ?_ ?_);rintro _ _ ⟨aq,aw,a0,a7,a2,a3,rfl,rfl,cy,c0,c1,c3⟩;refine C 5 V (BO 1 c1 c0 V λfl bw c4 c5=>?_);cases cw;exact AK func38 V V (cp (cy.Ad bw) V ⟨aw,a0,a2,a3,V,V,c4,(c3.Ag bw)⟩ c5);intro c6;refine JL.block (Co ct (λL s K=>∃(ai:LH) (a4:Ap) (a5:Nat) (aj:Ap) (al:Nat) (a6:Seg),Jn E H ai [bX bk #[sV a4 K.1 a5,iV K.2.1,.int .u64 ((K.2.2.1:Nat):Int)] 61,a6] [(0,Ar bk 0),(1,iV p1),(5,sV aj K.2.2.2.1 al),(6,iV K.2.2.2.2)] L s (Am rI ai a4 a5 K.1/\OL 3 rI ai aj al a6 K.2.2.2.1)) ⟨E,a1,c2,none,0,[],V,V,AL,co,ck,OL.nil⟩ ?_);rintro _ _ K ⟨ai,a4,a5,aj,al,a6,rfl,rfl,bx,b0,b1,b2⟩ c7 ⟨fm,a8⟩ c8;have b3:=a8;unfold PF at b3;refine C 7 V (AP b3 (λc9 dd=>?_) (λc9 dj=>?_));let⟨U,ea,eb⟩:=bs dd;refine C 7 V (Cw 0 (Ke b1 ea) V V JY b0 V ?_);rintro _ ec _ b4 ⟨ed,ee,rfl,rfl,ef⟩ eg;let⟨Y,ej,ek⟩:=bs eb;refine C 6 V (JS.app (pp:=rI) (v:=iV K.2.2.2.2) (a:=aj) (c:=al) 1 ej V V V V (λ_=>V) V (λ_=>V) V V V underlying28 underlying28 underlying28 Av (BJ type3) BR V (by decide) (by decide) (by decide) (by decide) (b2.Ag b4) V eg V λfo Z ac fs b5 b6=>?_);let⟨O,el,em⟩:=bs ek;refine C 9 V (HS 1 b5 el V V V V V V underlying28 Av ?_);rintro ca cc f77 _ eo rfl er fv fw fN gc;refine Ao (v:=iV O) V (λρ h=>Yl.load AV (h _ _ V) (BY (j:=1) b6 eo (er 0 _ V))) ?_;let⟨ge,et,eu⟩:=bs em;refine C 1 V (HS 1 b5 et V V V V V V underlying28 Av ?_);rintro ce a9 f88 _ ew rfl gg ex ey gh gt;refine JS.store (v:=iV O) (off:=a9) 1 V V V b6 V V Av (by simp[Value.cells,CL]) ew (by have:=ex;simp only[Rp.n,rK,rN,rB,rP,rL] at this;show _+1<=_;omega) λeA=>?_;have eC:=ey O [iV O] V;have am:(Y.set (Int.toNat K.2.2.2.2) O).length=Y.length:=qY;refine DR (L':=[(0,Ar bk 0),(1,iV p1),(6,iV K.2.2.2.2),(8,iV K.2.2.2.2),(9,iV p1),(10,.bool (decide (K.2.2.2.2<p1))),(13,Ar bk 0),(14,iV K.2.2.2.2),(15,iV U.1),(7,iV U.1),(17,iV K.2.2.2.2),(19,.slice Z ((Y.set (Int.toNat K.2.2.2.2) O)).length ac),(5,.slice Z ((Y.set (Int.toNat K.2.2.2.2) O)).length ac),(20,.slice Z ((Y.set (Int.toNat K.2.2.2.2) O)).length ac),(21,iV K.2.2.2.2),(22,.slice Z ((Y.set (Int.toNat K.2.2.2.2) O)).length ac),(23,iV U.1),(24,.slice Z ((Y.set (Int.toNat K.2.2.2.2) O)).length ac),(25,iV U.1),(26,Ar ca cc),(27,iV O),(28,iV K.2.2.2.2),(29,Ar ce a9)]) ⟨V,V,V,V,V,V,V,V,V,V,V,by rw[am];rfl,by rw[am];rfl,by rw[am];rfl,V,by rw[am];rfl,V,by rw[am];rfl,V,V,V,V,V,trivial⟩ ?_;let⟨gE,eN,e0⟩:=bs eu;refine HS 1 eC eN V V V V V V underlying28 Av ?_;rintro ci bb f102 _ e1 rfl gO e3 e4 g3 g4;refine JS.store (v:=iV K.2.2.2.2) (off:=bb) 1 V V V eA V V Av (by simp[Value.cells,CL]) e1 (by have:=e3;simp only[Rp.n,rK,rN,rB,rP,rL] at this;show _+1<=_;omega) λe5=>?_;have e6:=e4 K.2.2.2.2 [iV K.2.2.2.2] V;have ap:((Y.set (Int.toNat K.2.2.2.2) O).set (Int.toNat U.1) K.2.2.2.2).length=((Y.set (Int.toNat K.2.2.2.2) O)).length:=qY;refine DR (L':=[(0,Ar bk 0),(1,iV p1),(6,iV K.2.2.2.2),(8,iV K.2.2.2.2),(9,iV p1),(10,.bool (decide (K.2.2.2.2<p1))),(13,Ar bk 0),(14,iV K.2.2.2.2),(15,iV U.1),(7,iV U.1),(17,iV K.2.2.2.2),(19,.slice Z (((Y.set (Int.toNat K.2.2.2.2) O).set (Int.toNat U.1) K.2.2.2.2)).length ac),(5,.slice Z (((Y.set (Int.toNat K.2.2.2.2) O).set (Int.toNat U.1) K.2.2.2.2)).length ac),(20,.slice Z (((Y.set (Int.toNat K.2.2.2.2) O).set (Int.toNat U.1) K.2.2.2.2)).length ac),(21,iV K.2.2.2.2),(22,.slice Z (((Y.set (Int.toNat K.2.2.2.2) O).set (Int.toNat U.1) K.2.2.2.2)).length ac),(23,iV U.1),(24,.slice Z (((Y.set (Int.toNat K.2.2.2.2) O).set (Int.toNat U.1) K.2.2.2.2)).length ac),(25,iV U.1),(26,Ar ca cc),(27,iV O),(28,iV K.2.2.2.2),(29,Ar ce a9),(30,Ar ci bb)]) ⟨V,V,V,V,V,V,V,V,V,V,V,by rw[ap];rfl,by rw[ap];rfl,by rw[ap];rfl,V,by rw[ap];rfl,V,by rw[ap];rfl,V,V,V,V,V,V,trivial⟩ ?_;let⟨e7,e8,ff⟩:=bs e0;refine C 4 V (Bw e8 V V V ?_);refine C 2 V ?_;cases ff;exact AD (c8 _ _ (U.2.1,U.2.2.1,U.2.2.2,((Y.set (Int.toNat K.2.2.2.2) O).set (Int.toNat U.1) K.2.2.2.2),e7) ⟨ec,ed,ee,Z,ac,[(ci,.cells (Bf f102 bb [iV K.2.2.2.2]) 3 (0,0))],V,V,(bx.Ad b4),e5,ef,e6⟩ a8) V;refine JL.exit V ?_;cases dj;obtain rfl:=c7 _ a8;exact AD (c6 _ _ ⟨ai,aj,al,a6,a4,a5,V,V,bx,b0,b2,b1⟩) V
end Pal
namespace Pal
open Go Go.Conc Go.Proofs
variable {E:LH}
variable {J:Judge Tryz.prog}
def Rl(fu_:Nat)(p0:A0)(K:(List Int)×Int):Option (Bq ((List Int)×Int) ((List Int))):=
 if K.2<((p0.2).length:Int) then(
  (ix p0.2 (K.2)).bind λO=>
  (ix K.1 (O.1)).bind λai=>
  (ix K.1 (O.1)).bind λU=>
  (Az (U - O.2.2)).bind λY=>
  (ix K.1 (O.2.1)).bind λZ=>
  (Az (Z+O.2.2)).bind λac=>
  (Az (K.2+1)).bind λag=>
  some (.more (((K.1.set (Int.toNat O.1) Y).set (Int.toNat O.2.1) ac),ag))
 ) else(
  some (.done K.1)
 )
def NJ(fu_:Nat)(p0:A0):Option ((List Int)):=
 (Fx ((p0.1).length:Int) (0:Int)).bind λK=>
 Option.bind (iter (Rl fu_ p0) fu_ (K,0)) λO=>
 some O
variable{a1:Ap}{c2 fu_:Nat}
theorem gA{bg:Ap}{bi:Nat}{p0:A0}(e7:Am (rL rI) E a1 c2 (p0.1))(ca:Am Ay E bg bi (p0.2)){r:(List Int)}(bo:NJ fu_ p0=some r):AY J 37 [.agg #[.slice a1 (p0.1).length c2,.slice bg (p0.2).length bi]] E [] (λw E' B'=>∃(bv:Ap) (bw:Nat) (g0:Seg),w=.slice bv (r).length bw/\B'=g0/\OL 3 rI E' bv bw g0 (r)):=by
 refine Bm Tryz.func37 λQ e8 cs H cc ce=>?_;unfold NJ at bo;refine C 2 V (Cs cc λbx a6 b0 a7 ci=>?_);refine C 4 V (BH 0 a7 Tryz.underlying25 DD Ed ?_);refine JL.ln Tryz.underlying22 V V V ?_;let⟨ck,co,cp⟩:=bs bo;refine JS.make (pp:=rI) co V V V V V Tryz.underlying28 Av (BJ Tryz.type3) (by decide) BR (by decide) V ci λct cw cy c0=>?_;let⟨b1,c1,c3⟩:=bs cp;refine C 7 V (Bu (λL s=>∃(a8:LH) (am:Ap) (ap:Nat) (aq:Seg),Jn a6 H a8 [aq] [(3,.slice am (b1).length ap)] L s (OL 3 rI a8 am ap aq (b1))) ?_ ?_);rintro _ _ ⟨a8,am,ap,aq,rfl,rfl,c4,c5,c6⟩;refine C 5 V ?_;cases c3;exact AK Tryz.func37 V V (ce (b0.trans c4) V ⟨am,ap,aq,V,(by first | rfl | simp | (simp[Value.cells])),c6⟩ c5);intro c7;refine JL.block (Co c1 (λL s Y=>∃(aw:LH) (a0:Ap) (ac:Nat) (a2:Seg),Jn a6 H aw [a2] [(1,.pointer (some ⟨bx,0,none⟩)),(3,.slice a0 (Y.1).length ac),(4,iV Y.2)] L s (OL 3 rI aw a0 ac a2 (Y.1))) ⟨a6,(some ⟨ct,0,none⟩),(ck).length,cw,V,V,(Le.refl _),c0,cy⟩ ?_);rintro _ _ Y ⟨aw,a0,ac,a2,rfl,rfl,al,b2,b3⟩ c8 ⟨ff,a9⟩ c9;have b4:=a9;unfold Rl at b4;refine C 4 V (BH 1 (a7.Ag al) Tryz.underlying25 Cv EO ?_);refine JL.ln Tryz.underlying23 V V V (C 2 V ?_);refine AP b4 (λdd dj=>?_) (λdd ea=>?_);refine C 5 V (BH 1 (a7.Ag al) Tryz.underlying25 Cv EO ?_);let⟨O,eb,ec⟩:=bs dj;refine C 1 V (JS.ix (ca.Ag (b0.trans al)) eb Tryz.underlying23 AX ?_);rintro fk fl _ ⟨_,_,rfl,rfl,⟨_,_,rfl,rfl,rfl⟩⟩ ed;refine BQ ed C7 AX V V (BZ b2 BC λU ee=>?_);refine JS.sx 1 ee AX λef=>?_;refine C8 1 ef V λeg b5 ag bb=>?_;let⟨fm,ej,ek⟩:=bs ec;refine JL.done ?_;let⟨a3,f77,el,Z⟩:=WL.of (b3.Ag b5) ej;obtain⟨rfl,rfl⟩:=el;refine Hi [23,25] [a3] [] mixed V (Bo 0 V V ?_);refine Cy (v:=.pointer (some ⟨U,0,none⟩)) 1 true V V (λρ h s' K=>Ep (a:=⟨U,0,none⟩) 0 0 Tryz.underlying27 Av V V V (h _ _ V)) (EV (v:=iV O.1) 2 V (by decide+kernel) V V V (λρ h s' K=>Yl.load AV (h _ _ V) (At.EI (j:=0) ag K V)) ?_);refine Bo 3 V V (Cy (v:=.pointer (some ⟨U,1,none⟩)) 4 true V V (λρ h s' K=>Ep (a:=⟨U,0,none⟩) 0 1 Tryz.underlying27 Av V V V (h _ _ V)) ?_);refine EV (v:=iV O.2.1) 5 V (by decide+kernel) V V V (λρ h s' K=>Yl.load AV (h _ _ V) (At.EI (j:=1) ag K V)) (Bo 6 V V ?_);refine Cy (v:=.pointer (some ⟨U,0,none⟩)) 7 true V V (λρ h s' K=>Ep (a:=⟨U,0,none⟩) 0 0 Tryz.underlying27 Av V V V (h _ _ V)) (EV (v:=iV O.1) 8 V (by decide+kernel) V V V (λρ h s' K=>Yl.load AV (h _ _ V) (At.EI (j:=0) ag K V)) ?_);let⟨em,a4,eo⟩:=bs ek;obtain⟨_,rfl,er⟩:=WL.at Z a4;refine JB.ix 9 Z.2 a4 Tryz.underlying28 Av ?_;refine JB.val (v:=iV em) 10 false V (by decide+kernel) V V V (λρ h s' K=>have K:=K V;Yl.load AV (h _ _ V) (B8 0 bb V (by simp[AH]) K (er 0 _ V))) (Cy (v:=.pointer (some ⟨U,2,none⟩)) 11 true V V (λρ h s' K=>Ep (a:=⟨U,0,none⟩) 0 2 Tryz.underlying27 Av V V V (h _ _ V)) ?_);refine EV (v:=iV O.2.2) 12 V (by decide+kernel) V V V (λρ h s' K=>Yl.load AV (h _ _ V) (At.EI (j:=2) ag K V)) ?_;let⟨ai,et,eu⟩:=bs eo;refine Cy 13 true V V (λρ h s' K=>Eo (h _ _ V) (h _ _ V) et) (Bo 14 V V ?_);refine Cy (v:=.pointer (some ⟨U,1,none⟩)) 15 true V V (λρ h s' K=>Ep (a:=⟨U,0,none⟩) 0 1 Tryz.underlying27 Av V V V (h _ _ V)) (EV (v:=iV O.2.1) 16 V (by decide+kernel) V V V (λρ h s' K=>Yl.load AV (h _ _ V) (At.EI (j:=1) ag K V)) ?_);let⟨ew,a5,ex⟩:=bs eu;obtain⟨_,rfl,ey⟩:=WL.at Z a5;refine JB.ix 17 Z.2 a5 Tryz.underlying28 Av ?_;refine JB.val (v:=iV ew) 18 false V (by decide+kernel) V V V (λρ h s' K=>have K:=K V;Yl.load AV (h _ _ V) (B8 0 bb V (by simp[AH]) K (ey 0 _ V))) (Cy (v:=.pointer (some ⟨U,2,none⟩)) 19 true V V (λρ h s' K=>Ep (a:=⟨U,0,none⟩) 0 2 Tryz.underlying27 Av V V V (h _ _ V)) ?_);refine EV (v:=iV O.2.2) 20 V (by decide+kernel) V V V (λρ h s' K=>Yl.load AV (h _ _ V) (At.EI (j:=2) ag K V)) ?_;let⟨aj,eA,eC⟩:=bs ex;refine Cy 21 true V V (λρ h s' K=>F5 (h _ _ V) (h _ _ V) eA) (JB.ix 22 Z.2 a4 Tryz.underlying28 Av ?_);have b6:=WL.put (x':=ai) (ws':=[iV ai]) Z Z.2 a4 V;refine JB.sx 23 0 bb Av trivial b6.2 λeN=>?_;refine JB.ix 24 Z.2 a5 Tryz.underlying28 Av ?_;have be:=WL.put (x':=aj) (ws':=[iV aj]) b6.1 Z.2 a5 V;refine JB.sx 25 0 eN Av trivial be.2 λe0=>?_;refine JB.fin (by decide+kernel) ?_;have e1:=(be.1).1;have e3:(((Y.1.set (Int.toNat O.1) ai).set (Int.toNat O.2.1) aj)).length=(Y.1).length:=(be.1).2;refine DR (L':=[(1,.pointer (some ⟨bx,0,none⟩)),(3,.slice (some ⟨a3,0,none⟩) (((Y.1.set (Int.toNat O.1) ai).set (Int.toNat O.2.1) aj)).length ac),(4,iV Y.2)]) ⟨V,by rw[e3];rfl,V,trivial⟩ ?_;let⟨e4,e5,e6⟩:=bs eC;refine C 3 V (Bw e5 V V V ?_);refine C 2 V ?_;cases e6;exact AD (c9 _ _ (((Y.1.set (Int.toNat O.1) ai).set (Int.toNat O.2.1) aj),e4) ⟨eg,(some ⟨a3,0,none⟩),ac,[(a3,.cells (Bf (Bf f77 (Int.toNat (O.1)*1) [iV ai]) (Int.toNat (O.2.1)*1) [iV aj]) 3 (0,0))],V,V,(al.trans b5),e0,e1⟩ a9) V;refine JL.exit V ?_;cases ea;obtain rfl:=c8 _ a9;exact AD (c7 _ _ ⟨aw,a0,ac,a2,V,V,al,b2,b3⟩) V
def M7(fu_:Nat)(ac:(List Int)×(B4))(K:(List Int)×Int×Nat×(List Int)×AB×Int):Option (Bq ((List Int)×Int×Nat×(List Int)×AB×Int) (AB×B4)):=
 if 0<K.2.2.2.2.2 then(
  (ix ac.1 (K.2.2.2.2.2)).bind λZ=>
  (Az (K.2.2.2.2.2 - 1)).bind λag=>
  (f36 fu_ (K.1,K.2.1,K.2.2.1) ag).bind λY=>
  (ix ac.1 (Y.1)).bind λO=>
  (ix K.2.2.2.1 (Z)).bind λU=>
  (ix K.2.2.2.1 (O)).bind λai=>
  (Az (ai+U)).bind λaj=>
  (ix K.2.2.2.1 (O)).bind λa1=>
  Option.bind (
   if 0<U then(
    (room K.2.2.2.2.1 (O,Z,U)).bind λal=>
    some al
   ) else(
    Option.bind (
     if U<0 then(
      (Az (-(U))).bind λam=>
      (room K.2.2.2.2.1 (Z,O,am)).bind λap=>
      some ap
     ) else(
      some K.2.2.2.2.1
     )
    ) λaq=>
    some aq
   )
  ) λaw=>
  (Az (K.2.2.2.2.2 - 1)).bind λa0=>
  some (.more (Y.2.1,Y.2.2.1,Y.2.2.2,(K.2.2.2.1.set (Int.toNat O) aj),aw,a0))
 ) else(
  some (.done (K.2.2.2.2.1,K.1,K.2.1,K.2.2.1))
 )
def Nj(fu_:Nat)(O:AB×B4)(U:(List Int)×(B4))(K:AB×Int):Option (Bq (AB×Int) (AB)):=
 if K.2<((O.1).length:Int) then(
  (ix U.1 (K.2)).bind λZ=>
  (ix K.1 (Z)).bind λai=>
  (ix U.1 (K.2)).bind λY=>
  (ix O.1 (K.2)).bind λac=>
  (ix K.1 (Y)).bind λaj=>
  (Az (K.2+1)).bind λag=>
  some (.more ((K.1.set (Int.toNat Y) ac),ag))
 ) else(
  some (.done K.1)
 )
def NG(fu_:Nat)(p0:B4)(p1:A0):Option (AB×(B4)):=
 (NJ fu_ p1).bind λU=>
 (f49 fu_ p0 ((U).length:Int)).bind λK=>
 (Az (((K.1).length:Int) - 1)).bind λZ=>
 Option.bind (iter (M7 fu_ K) fu_ (K.2.1,K.2.2.1,K.2.2.2,U,[],Z)) λO=>
 (Fx ((O.1).length:Int) ((0,0,0):Int×Int×Int)).bind λac=>
 (f49 fu_ O.2 ((O.1).length:Int)).bind λY=>
 Option.bind (iter (Nj fu_ O Y) fu_ (ac,0)) λag=>
 some (ag,Y.2)
theorem eI{bk:Nat}{ey:Ap}{eA:Nat}{eC:Ap}{eN:Nat}{p0:B4}{p1:A0}(g4:Am rI E a1 c2 (p0.1))(g5:Am (rL rI) E ey eA (p1.1))(g6:Am Ay E eC eN (p1.2)){r:AB×(B4)}(e0:NG fu_ p0 p1=some r):AY J 9 [.pointer (some ⟨bk,0,none⟩),.agg #[.slice ey (p1.1).length eA,.slice eC (p1.2).length eN]] E [(bk,.cells #[.slice a1 (p0.1).length c2,iV p0.2.1,.int .u64 ((p0.2.2:Nat):Int)] 61 (0,0))] (λw E' B'=>∃(e1:Ap) (e3:Nat) (e4:Ap) (e5:Nat),w=.slice e1 (r.1).length e3/\B'=[(bk,.cells #[.slice e4 (r.2.1).length e5,iV r.2.2.1,.int .u64 ((r.2.2.2:Nat):Int)] 61 (0,0))]/\Am Ay E' e1 e3 (r.1)/\Am rI E' e4 e5 (r.2.1)):=by
 refine Bm Tryz.func9 λQ k8 cs H g7 g8=>?_;unfold NG at e0;refine C 2 V (Cs g7 λk9 la bw ha hb=>?_);refine C 4 V (BQ ha Cb BD V V ?_);let⟨lb,hc,he⟩:=bs e0;refine BU (gA (g5.Ag bw) (g6.Ag bw) hc) V V (A4 Tryz.func37 V) hb ?_;rintro _ ld hf e6 ⟨hg,hk,_,rfl,rfl,hl⟩ hm;refine C 6 V (JL.ln Tryz.underlying28 V V V ?_);let⟨a2,hn,ho⟩:=bs he;refine Cw 0 (Xh (g4.Ag (bw.trans e6)) hn) V V (A4 Tryz.func38 V) hm V ?_;rintro _ c5 _ e7 ⟨a3,a4,hp,hq,rfl,rfl,e8,hr⟩ hs;refine C 10 V (JL.ln Tryz.underlying28 V V V ?_);let⟨lf,ht,hu⟩:=bs ho;refine Cx ht V V V ?_;let⟨aj,hv,hw⟩:=bs hu;refine C 2 V (Bu (λL s=>∃(bx:LH) (a9:Ap) (bb:Nat) (c6:Seg) (c7:Ap) (c8:Nat),Jn c5 H bx [[(bk,.cells #[.slice c7 (aj.2.1).length c8,iV aj.2.2.1,.int .u64 ((aj.2.2.2:Nat):Int)] 61 (0,0))],c6] [(0,.pointer (some ⟨bk,0,none⟩)),(7,.slice a9 (aj.1).length bb)] L s (OL 27 Ay bx a9 bb c6 (aj.1)/\Am rI bx c7 c8 (aj.2.1))) ?_ ?_);rintro _ _ ⟨bx,a9,bb,c6,c7,c8,rfl,rfl,hx,hy,hz,hA⟩;refine JL.seq (BO 1 hz hy V λlg ff hB hC=>?_);refine C 2 V (JL.ln Tryz.underlying23 V V V ?_);let⟨hD,hE,hF⟩:=bs hw;refine JS.make (pp:=Ay) hE V V V V V Tryz.underlying23 AX (BJ Tryz.type27) (by decide) BC (by decide) ⟨_,_,V,V,⟨_,_,V,V,V⟩⟩ hC λhG hH hI hJ=>C 6 V (JL.ln Tryz.underlying23 V V V ?_);let⟨al,hK,hL⟩:=bs hF;refine Cw 0 (Xh (hA.Ag ff) hK) V V (A4 Tryz.func38 V) hJ V ?_;rintro _ c9 _ dd ⟨fk,fl,dj,ea,rfl,rfl,hM,hN⟩ hO;let⟨fm,hP,hQ⟩:=bs hL;refine C 7 V (Bu (λL s=>∃(eb:LH) (b0:Ap) (b1:Nat) (ec:Seg),Jn c9 H eb [[(bk,.cells #[.slice dj (al.2.1).length ea,iV al.2.2.1,.int .u64 ((al.2.2.2:Nat):Int)] 61 (0,0))],ec] [(12,.slice b0 (fm).length b1)] L s (OL 27 Ay eb b0 b1 ec (fm))) ?_ ?_);rintro _ _ ⟨eb,b0,b1,ec,rfl,rfl,fo,hR,hS⟩;refine C 5 V (BO 1 hS hR V λlh fs hT hU=>?_);cases hQ;exact AK Tryz.func9 V V (g8 (((((((bw.trans e6).trans e7).trans hx).trans ff).trans dd).trans fo).trans fs) V ⟨b0,b1,dj,ea,V,V,hT,(hN.Ag (fo.trans fs))⟩ hU);intro hV;refine JL.block (Co hP (λL s ai=>∃(be:LH) (b2:Ap) (a5:Nat) (b3:Seg),Jn c9 H be [[(bk,.cells #[.slice dj (al.2.1).length ea,iV al.2.2.1,.int .u64 ((al.2.2.2:Nat):Int)] 61 (0,0))],b3] [(7,.slice a9 (aj.1).length bb),(12,.slice b2 (ai.1).length a5),(13,.slice fk (al.1).length fl),(14,iV ai.2)] L s (OL 27 Ay be b2 a5 b3 (ai.1))) ⟨c9,(some ⟨hG,0,none⟩),(hD).length,hH,V,V,(Le.refl _),hO,(hI.Ag dd)⟩ ?_);rintro _ _ ai ⟨be,b2,a5,b3,rfl,rfl,b4,fv,fw⟩ hW ⟨li,ed⟩ hX;have fN:=ed;unfold Nj at fN;refine C 5 V (JL.ln Tryz.underlying23 V V V ?_);refine C 2 V (AP fN (λhY h0=>?_) (λhY h1=>?_));let⟨lj,ll,h2⟩:=bs h0;let⟨lm,h3,h4⟩:=bs h2;refine C 3 V ?_;let⟨b5,f145,h5,b6⟩:=WL.of fw h3;obtain⟨rfl,rfl⟩:=h5;refine Hi [10] [b5] [] mixed V (Bo 0 V V ?_);refine Bo 1 V V (Bo 2 V V ?_);let⟨bg,h6,h7⟩:=bs h4;obtain⟨h8,h9,_,rfl,ia,ih⟩:=Am.Qk (P:=Tryz.prog) (hM.Ag b4) h6;refine JB.val (v:=.pointer (some ⟨h8,h9,none⟩)) 3 true V (by decide+kernel) V V V (λρ h s' a6=>ih Tryz.underlying28 Av (h _ _ V) (h _ _ V)) (EV (v:=iV bg) 4 V (by decide+kernel) V V V (λρ h s' a6=>Yl.load AV (h _ _ V) (At.EI (j:=0) ia a6 V)) ?_);refine Bo 5 V V (Bo 6 V V ?_);let⟨O,ii,io⟩:=bs h7;obtain⟨i0,i1,_,⟨_,_,rfl,rfl,⟨_,_,rfl,rfl,rfl⟩⟩,i3,i4⟩:=Am.Qk (P:=Tryz.prog) (hB.Ag (dd.trans b4)) ii;refine JB.val (v:=.pointer (some ⟨i0,i1,none⟩)) 7 true V (by decide+kernel) V V V (λρ h s' a6=>i4 Tryz.underlying23 AX (h _ _ V) (h _ _ V)) (EV (v:=.agg #[iV O.1,iV O.2.1,iV O.2.2]) 8 V (by decide+kernel) V V V (λρ h s' a6=>F4 (vs:=[iV O.1,iV O.2.1,iV O.2.2]) C7 AX (h _ _ V) (At.R3 i3 a6)) ?_);let⟨lq,ee,i5⟩:=bs io;obtain⟨_,⟨_,_,rfl,rfl,⟨_,_,rfl,rfl,rfl⟩⟩,lr⟩:=WL.at b6 ee;refine JB.ix 9 b6.2 ee Tryz.underlying23 AX ?_;have ef:=WL.put (x':=O) (ws':=[iV O.1,iV O.2.1,iV O.2.2]) b6 b6.2 ee ⟨_,_,V,V,⟨_,_,V,V,V⟩⟩;refine JB.sx 10 1 fv AX trivial ef.2 λi6=>?_;refine JB.fin (by decide+kernel) ?_;have i7:=(ef.1).1;have i8:((ai.1.set (Int.toNat bg) O)).length=(ai.1).length:=(ef.1).2;refine DR (L':=[(7,.slice a9 (aj.1).length bb),(12,.slice (some ⟨b5,0,none⟩) ((ai.1.set (Int.toNat bg) O)).length a5),(13,.slice fk (al.1).length fl),(14,iV ai.2)]) ⟨V,by rw[i8];rfl,V,V,trivial⟩ ?_;let⟨i9,jg,ji⟩:=bs i5;refine C 3 V (Bw jg V V V ?_);refine C 2 V ?_;cases ji;exact AD (hX _ _ ((ai.1.set (Int.toNat bg) O),i9) ⟨be,(some ⟨b5,0,none⟩),a5,[(b5,.cells (Bf f145 (Int.toNat (bg)*3) [iV O.1,iV O.2.1,iV O.2.2]) 27 (0,0))],V,V,b4,i6,i7⟩ ed) V;refine JL.exit V ?_;cases h1;obtain rfl:=hW _ ed;exact AD (hV _ _ ⟨be,b2,a5,b3,V,V,b4,fv,fw⟩) V;intro jj;refine JL.block (Co hv (λL s K=>∃(a7:LH) (ca:Ap) (cc:Nat) (Z:Ap) (ac:Nat) (eg:Seg) (am:Ap) (ap:Nat) (bi:Seg),Jn c5 H a7 [[(bk,.cells #[.slice ca (K.1).length cc,iV K.2.1,.int .u64 ((K.2.2.1:Nat):Int)] 61 (0,0))],eg,bi] [(0,.pointer (some ⟨bk,0,none⟩)),(5,.slice Z (K.2.2.2.1).length ac),(6,.slice a3 (a2.1).length a4),(7,.slice am (K.2.2.2.2.1).length ap),(8,iV K.2.2.2.2.2)] L s (Am rI a7 ca cc (K.1)/\OL 3 rI a7 Z ac eg (K.2.2.2.1)/\OL 27 Ay a7 am ap bi (K.2.2.2.2.1))) ⟨c5,hp,hq,hg,hk,hf,none,0,[],V,V,(Le.refl _),hs,hr,(hl.Ag e7),OL.nil⟩ ?_);rintro _ _ K ⟨a7,ca,cc,Z,ac,eg,am,ap,bi,rfl,rfl,ce,gc,ge,ej,ci⟩ jp ⟨ls,ek⟩ jr;have gg:=ek;unfold M7 at gg;refine C 6 V (AP gg (λjt jy=>?_) (λjt jT=>?_));refine C 4 V (Ei 12 λaq=>?_);refine A9 aq V [0,1] V ?_;obtain⟨a0,jU,jV⟩:=bs jy;refine CU 2 (e8.Ag ce) jU aq Tryz.underlying28 Av ?_;rintro jW jX _ rfl jY;refine CY 3 aq 0 jY AV V V V V (A9 aq V [4,5,6] V ?_);let⟨gh,jZ,j0⟩:=bs jV;refine A6 7 aq V V (λρ h s' a6=>Eo (h _ _ V) (h _ _ V) jZ) ?_;let⟨ag,j1,j2⟩:=bs j0;refine Ol (i:=8) (vs:=[.pointer (some ⟨bk,0,none⟩),iV gh]) 0 (λ_ h=>by cases h) (Ke ge j1) (by decide+kernel) V V V JY V gc V ?_;rintro _ bo _ aw ⟨el,em,rfl,rfl,j3⟩ eo;let⟨U,j4,j5⟩:=bs j2;refine CU 9 (e8.Ag (ce.trans aw)) j4 aq Tryz.underlying28 Av ?_;rintro j6 j7 _ rfl j8;refine CY 10 aq 0 j8 AV V V V V (Dt 11 aq V V ?_);refine Cn [12] ?_;let⟨a8,j9,kb⟩:=bs j5;refine C 6 V (HS 1 (ej.Ag aw) j9 V V V V V V Tryz.underlying28 Av ?_);rintro kc ke lu _ kf rfl kg lw lx lz lA;refine Ao (v:=iV a8) V (λρ h=>Yl.load AV (h _ _ V) (BY (j:=1) eo kf (kg 0 _ V))) ?_;let⟨gt,kh,ki⟩:=bs kb;refine C 8 V (HS 1 (ej.Ag aw) kh V V V V V V Tryz.underlying28 Av ?_);rintro kj kl lB _ km rfl kn lC lD lE lF;refine Ao (v:=iV gt) V (λρ h=>Yl.load AV (h _ _ V) (BY (j:=1) eo km (kn 0 _ V))) ?_;let⟨Y,ko,kp⟩:=bs ki;refine C 1 V (Bw ko V V V ?_);let⟨lG,kq,kr⟩:=bs kp;refine HS 1 (ej.Ag aw) kq V V V V V V Tryz.underlying28 Av ?_;rintro ck bv er _ ks rfl lH kt ku lI lJ;refine JS.store (v:=iV Y) (off:=bv) 1 V V V eo V V Av (by simp[Value.cells,CL]) ks (by have:=kt;simp only[Rp.n,rK,rN,rB,rP,rL] at this;show _+1<=_;omega) λet=>?_;have kv:=ku (Y) [iV Y] V;have co:(K.2.2.2.1.set (Int.toNat U) Y).length=(K.2.2.2.1).length:=qY;refine DR (L':=[(0,.pointer (some ⟨bk,0,none⟩)),(5,.slice Z ((K.2.2.2.1.set (Int.toNat U) Y)).length ac),(6,.slice a3 (a2.1).length a4),(7,.slice am (K.2.2.2.2.1).length ap),(8,iV K.2.2.2.2.2),(24,iV K.2.2.2.2.2),(25,.bool (decide (0<K.2.2.2.2.2))),(28,.slice a3 (a2.1).length a4),(29,iV K.2.2.2.2.2),(30,.pointer (some ⟨jW,jX,none⟩)),(31,iV a0),(32,.slice a3 (a2.1).length a4),(33,.pointer (some ⟨bk,0,none⟩)),(34,iV K.2.2.2.2.2),(35,iV gh),(36,iV ag.1),(37,.pointer (some ⟨j6,j7,none⟩)),(38,iV U),(9,iV a0),(10,iV U),(39,.slice Z ((K.2.2.2.1.set (Int.toNat U) Y)).length ac),(40,iV a0),(41,.pointer (some ⟨kc,ke,none⟩)),(42,iV a8),(11,iV a8),(43,.slice Z ((K.2.2.2.1.set (Int.toNat U) Y)).length ac),(44,iV U),(45,.slice Z ((K.2.2.2.1.set (Int.toNat U) Y)).length ac),(46,iV U),(47,.pointer (some ⟨kj,kl,none⟩)),(48,iV gt),(49,iV a8),(50,iV Y),(51,.pointer (some ⟨ck,bv,none⟩))]) ⟨V,by rw[co];rfl,V,V,V,V,V,V,V,V,V,V,V,V,V,V,V,V,V,V,by rw[co];rfl,V,V,V,V,by rw[co];rfl,V,by rw[co];rfl,V,V,V,V,V,V,trivial⟩ ?_;let⟨eu,kx,ky⟩:=bs kr;refine C 6 V (Bu (λL s=>∃(cp:LH) (ct:Ap) (cw:Nat) (cy:Seg),Jn bo H cp [[(bk,.cells #[.slice el (ag.2.1).length em,iV ag.2.2.1,.int .u64 ((ag.2.2.2:Nat):Int)] 61 (0,0))],[(ck,.cells (Bf er bv [iV Y]) 3 (0,0))],cy] [(0,.pointer (some ⟨bk,0,none⟩)),(5,.slice Z ((K.2.2.2.1.set (Int.toNat U) Y)).length ac),(6,.slice a3 (a2.1).length a4),(7,.slice ct (eu).length cw),(8,iV K.2.2.2.2.2)] L s (OL 27 Ay cp ct cw cy (eu))) ?_ ?_);rintro _ _ ⟨cp,ct,cw,cy,rfl,rfl,ew,kz,kA⟩;let⟨kB,kC,kD⟩:=bs ky;refine C 3 V (Cx kC V V V ?_);refine C 2 V ?_;cases kD;exact AD (jr _ _ (ag.2.1,ag.2.2.1,ag.2.2.2,(K.2.2.2.1.set (Int.toNat U) Y),eu,kB) ⟨cp,el,em,Z,ac,[(ck,.cells (Bf er bv [iV Y]) 3 (0,0))],ct,cw,cy,V,V,((ce.trans aw).trans ew),kz,(j3.Ag ew),(kv.Ag ew),kA⟩ ek) V;intro gE;refine AP kx (λkF kG=>?_) (λkF kI=>?_);refine C 5 V (Ao (v:=.agg #[iV U,iV a0,iV a8]) V (λρ h=>Dk [(0,1),(1,1),(2,1)] h BC Tryz.underlying27 ⟨V,A5 Tryz.type3,V,A5 Tryz.type3,V,A5 Tryz.type3,trivial⟩ V V) ?_);let⟨lK,kJ,kK⟩:=bs kG;refine JS.app (pp:=Ay) (v:=.agg #[iV U,iV a0,iV a8]) (a:=am) (c:=ap) 2 kJ V V V V (λ_=>V) V (λ_=>V) V V V Tryz.underlying23 Tryz.underlying23 Tryz.underlying23 AX (BJ Tryz.type27) BC V (by decide) (by decide) (by decide) (by decide) (ci.Ag aw) ⟨_,_,V,V,⟨_,_,V,V,V⟩⟩ et V λlL kL kM kN kO kP=>C 2 V ?_;cases kK;exact AD (gE _ _ ⟨bo,kL,kM,kN,V,V,(Le.refl _),kP,kO⟩) V;let⟨gO,kQ,kR⟩:=bs kI;refine C 5 V (Bu (λL s=>∃(c0:LH) (c1:Ap) (c3:Nat) (c4:Seg),Jn bo H c0 [[(bk,.cells #[.slice el (ag.2.1).length em,iV ag.2.2.1,.int .u64 ((ag.2.2.2:Nat):Int)] 61 (0,0))],[(ck,.cells (Bf er bv [iV Y]) 3 (0,0))],c4] [(0,.pointer (some ⟨bk,0,none⟩)),(5,.slice Z ((K.2.2.2.1.set (Int.toNat U) Y)).length ac),(6,.slice a3 (a2.1).length a4),(7,.slice c1 (gO).length c3),(8,iV K.2.2.2.2.2)] L s (OL 27 Ay c0 c1 c3 c4 (gO))) ?_ ?_);rintro _ _ ⟨c0,c1,c3,c4,rfl,rfl,kS,kT,kU⟩;cases kR;exact AD (gE _ _ ⟨c0,c1,c3,c4,V,V,kS,kT,kU⟩) V;intro g3;refine AP kQ (λkV kW=>?_) (λkV kX=>?_);let⟨ex,kY,kZ⟩:=bs kW;refine C 5 V (Ao (v:=iV ex) V (λρ h=>HP (h _ _ V) kY) ?_);refine Ao (v:=.agg #[iV a0,iV U,iV ex]) V (λρ h=>Dk [(0,1),(1,1),(2,1)] h BC Tryz.underlying27 ⟨V,A5 Tryz.type3,V,A5 Tryz.type3,V,A5 Tryz.type3,trivial⟩ V V) ?_;let⟨lM,k0,k1⟩:=bs kZ;refine JS.app (pp:=Ay) (v:=.agg #[iV a0,iV U,iV ex]) (a:=am) (c:=ap) 2 k0 V V V V (λ_=>V) V (λ_=>V) V V V Tryz.underlying23 Tryz.underlying23 Tryz.underlying23 AX (BJ Tryz.type27) BC V (by decide) (by decide) (by decide) (by decide) (ci.Ag aw) ⟨_,_,V,V,⟨_,_,V,V,V⟩⟩ et V λlN k2 k3 k4 k5 k6=>C 2 V ?_;cases k1;exact AD (g3 _ _ ⟨bo,k2,k3,k4,V,V,(Le.refl _),k6,k5⟩) V;refine JL.skip ?_;cases kX;exact AD (g3 _ _ ⟨bo,am,ap,bi,V,V,(Le.refl _),et,(ci.Ag aw)⟩) V;refine JL.exit V (JS.drop 1 gc V λk7=>?_);cases jT;obtain rfl:=jp _ ek;exact AD (jj _ _ ⟨a7,am,ap,bi,ca,cc,V,V,ce,k7,ci,ge⟩) V
end Pal
namespace Pal
open Go Go.Conc
theorem aD{S:List Seg}{q:Nat×Obj}{g1 r g2:Seg}(j:Nat)(K:S[j]?=some (q::(g1++r++g2))):S.flatten.Perm (S.set j [q]++ [g1++g2,r]).flatten:=by
 have O:=(Cl (seg':=[q]) K).1;have U:=(Cl (seg':=[q]) K).2;rw[rX];refine O.trans (List.Perm.trans ?_ (U.symm.append_right _));rw[qI (S.set j []).flatten];refine rp _ ?_;simp only[q1,s7,qW,rh,rG,qI];exact List.Perm.cons _ (rp _ f8)
variable {P:Program}{Q:Gs_}{b:Frame}{ds:Ld_}{ops:Ao_}{k:Li_}{cs:Lf_}{m fuel:Nat}{listed:Array Bool}{L:Env}{E E' H:LH}{S:List Seg}
variable {t ty e e2:TypeId}{p:String}{af:Ae_}{g:On_}{todo:Li_}
section
variable {J:Judge P}{n:Nat}
variable {d:Option Tmp}{x y:Operand}{i:Nat}
theorem SQ{α:Type}{pp:Rp α}:∀(rows:List Seg) (K:List (List α)) (U:Lv_) {E:LH}{S:List Seg}{j:Nat}{g0:Seg},rows.length=K.length->U.length=K.length->
  (∀(i:Nat) xs r h,K[i]?=some xs->rows[i]?=some r->U[i]?=some h->∃Y ci,h=.slice Y xs.length ci/\OL e2 pp E Y ci r xs)->Au E H S->S[j]?=some (g0++rows.flatten)->
  (∀E',Le E E'->(∀(i:Nat) xs h,K[i]?=some xs->U[i]?=some h->(rL pp).r E' [h] xs)->Au E' H (S.set j g0)->JL J Q b n L ds todo cs (Ak E' H (S.set j g0)))->JL J Q b n L ds todo cs (Ak E H S)
 | [],[],[],E,S,j,g0,_,_,_,ag,O,h=>by
  have e:S.set j g0=S:=by
   rw[s7,qW] at O;let⟨_,h⟩:=dY.1 O;rw[← h];exact tR ..
  have:=h E (Le.refl _) (λi xs h ap=>by simp at ap);rw[e] at this;exact this ag
 | r::rows,xs::K,v::U,E,S,j,g0,Z,ac,ai,ag,O,h=>by
  obtain⟨Y,ci,rfl,aq⟩:=ai 0 xs r v V V V;have aw:=(dY.1 O).1;refine JS.perm (S':=S.set j (g0++rows.flatten)++ [r]) ?_ ag λa0=>?_;rw[F2];refine(Cl (seg':=g0++rows.flatten) O).1.trans (List.Perm.trans ?_ ((Cl (seg':=g0++rows.flatten) O).2.symm.append_right _));rw[qI];refine rp _ ?_;rw[q1,qI];exact rp _ f8
  refine BO (S.set j (g0++rows.flatten)).length aq a0 t9 λa6 hle a1 aj=>?_;rw[HT] at aj ⊢;refine JS.perm (S':=S.set j (g0++rows.flatten)) (by simp) aj λa2=>SQ (pp:=pp) rows K U (j:=j) (g0:=g0) (by simpa using Z) (by simpa using ac) (λi xs r q a b c=>?_) a2 (rc aw) λa3 al a4 am=>?_;let⟨Y,ci,k1,a5⟩:=ai (i+1) xs r q a b c;exact⟨Y,ci,k1,a5.Ag hle⟩
  .rw [sw] at am ⊢;refine h a3 (hle.trans al) (λi xs q a b=>?_) am
   match i,a,b with
   | 0,a,b=>cases a;cases b;exact⟨_,_,rfl,a1.Ag al⟩
   | i+1,a,b=>exact a4 i xs q a b
 | [],_::_,_,_,_,_,_,Z,_,_,_,_,_=>by simp at Z
 | _::_,[],_,_,_,_,_,Z,_,_,_,_,_=>by simp at Z
 | _,[],_::_,_,_,_,_,_,ac,_,_,_,_=>by simp at ac
 | _,_::_,[],_,_,_,_,_,ac,_,_,_,_=>by simp at ac
theorem QP{α:Type}{pp:Rp α}{a:Option Addr}{c:Nat}{seg:Seg}{K:List (List α)}(j:Nat)(ai:Cd e e2 pp E a c seg K)(aj:Au E H S)(U:S[j]?=some seg)
  (h:∀E',Le E E'->Am (rL pp) E' a c K->Au E' H (S.set j [])->JL J Q b n L ds todo cs (Ak E' H (S.set j []))):JL J Q b n L ds todo cs (Ak E H S):=by
 obtain⟨g0,Y,rows,rfl,al,O,am,ap⟩:=ai;have aq:=(dY.1 U).1;refine SQ (pp:=pp) rows K Y am O ap aj U λaw a0 a1 a2=>?_;have a3:OL e (rL pp) aw a c g0 K:=by
  obtain⟨wss,k1,Z,a4⟩:=al;rw[O] at k1 Z;refine⟨wss,k1,Z,λi xs ws ac hw=>?_⟩;have hi:i<Y.length:=by rw[O];exact(dY.1 ac).1
  obtain⟨a5,-⟩:=a4 i _ ws (bI hi) hw;rw[a5];exact a1 i xs _ ac (bI hi)
 refine BO j a3 a2 (rc aq) λa6 a7 a8 ag=>?_;rw[sw] at ag ⊢;exact h a6 (a0.trans a7) a8 ag
end
open Go.Proofs
variable {J:Judge Tryz.prog}
def RF(fu_:Nat)(p0:A0)(K:(List Int)×Int):Option (Bq ((List Int)×Int) ((List Int))):=
 if K.2<((p0.2).length:Int) then(
  (ix p0.2 (K.2)).bind λO=>
  (ix K.1 (O.1)).bind λai=>
  (ix K.1 (O.1)).bind λU=>
  (Az (U - O.2.2)).bind λY=>
  (ix K.1 (O.2.1)).bind λZ=>
  (Az (Z+O.2.2)).bind λac=>
  (Az (K.2+1)).bind λag=>
  some (.more (((K.1.set (Int.toNat O.1) Y).set (Int.toNat O.2.1) ac),ag))
 ) else(
  some (.done K.1)
 )
def NH(fu_:Nat)(p0:A0):Option ((List Int)):=
 (Fx ((p0.1).length:Int) (0:Int)).bind λK=>
 Option.bind (iter (RF fu_ p0) fu_ (K,0)) λO=>
 some O
variable{a1:Ap}{c2 fu_:Nat}{p0:A0}
theorem fK{bg:Ap}{bi:Nat}(e7:Am (rL rI) E a1 c2 (p0.1))(ca:Am Ay E bg bi (p0.2)){r:(List Int)}(bo:NH fu_ p0=some r):AY J 43 [.agg #[.slice a1 (p0.1).length c2,.slice bg (p0.2).length bi]] E [] (λw E' B'=>∃(bv:Ap) (bw:Nat) (g0:Seg),w=.slice bv (r).length bw/\B'=g0/\OL 3 rI E' bv bw g0 (r)):=by
 refine Bm Tryz.func43 λQ e8 cs H cc ce=>?_;unfold NH at bo;refine C 2 V (Cs cc λbx a6 b0 a7 ci=>?_);refine C 4 V (BH 0 a7 Tryz.underlying25 DD Ed ?_);refine JL.ln Tryz.underlying22 V V V ?_;let⟨ck,co,cp⟩:=bs bo;refine JS.make (pp:=rI) co V V V V V Tryz.underlying28 Av (BJ Tryz.type3) (by decide) BR (by decide) V ci λct cw cy c0=>?_;let⟨b1,c1,c3⟩:=bs cp;refine C 7 V (Bu (λL s=>∃(a8:LH) (am:Ap) (ap:Nat) (aq:Seg),Jn a6 H a8 [aq] [(3,.slice am (b1).length ap)] L s (OL 3 rI a8 am ap aq (b1))) ?_ ?_);rintro _ _ ⟨a8,am,ap,aq,rfl,rfl,c4,c5,c6⟩;refine C 5 V ?_;cases c3;exact AK Tryz.func43 V V (ce (b0.trans c4) V ⟨am,ap,aq,V,(by first | rfl | simp | (simp[Value.cells])),c6⟩ c5);intro c7;refine JL.block (Co c1 (λL s Y=>∃(aw:LH) (a0:Ap) (ac:Nat) (a2:Seg),Jn a6 H aw [a2] [(1,.pointer (some ⟨bx,0,none⟩)),(3,.slice a0 (Y.1).length ac),(4,iV Y.2)] L s (OL 3 rI aw a0 ac a2 (Y.1))) ⟨a6,(some ⟨ct,0,none⟩),(ck).length,cw,V,V,(Le.refl _),c0,cy⟩ ?_);rintro _ _ Y ⟨aw,a0,ac,a2,rfl,rfl,al,b2,b3⟩ c8 ⟨ff,a9⟩ c9;have b4:=a9;unfold RF at b4;refine C 4 V (BH 1 (a7.Ag al) Tryz.underlying25 Cv EO ?_);refine JL.ln Tryz.underlying23 V V V (C 2 V ?_);refine AP b4 (λdd dj=>?_) (λdd ea=>?_);refine C 5 V (BH 1 (a7.Ag al) Tryz.underlying25 Cv EO ?_);let⟨O,eb,ec⟩:=bs dj;refine C 1 V (JS.ix (ca.Ag (b0.trans al)) eb Tryz.underlying23 AX ?_);rintro fk fl _ ⟨_,_,rfl,rfl,⟨_,_,rfl,rfl,rfl⟩⟩ ed;refine BQ ed C7 AX V V (BZ b2 BC λU ee=>?_);refine JS.sx 1 ee AX λef=>?_;refine C8 1 ef V λeg b5 ag bb=>?_;let⟨fm,ej,ek⟩:=bs ec;refine JL.done ?_;let⟨a3,f77,el,Z⟩:=WL.of (b3.Ag b5) ej;obtain⟨rfl,rfl⟩:=el;refine Hi [23,25] [a3] [] mixed V (Bo 0 V V ?_);refine Cy (v:=.pointer (some ⟨U,0,none⟩)) 1 true V V (λρ h s' K=>Ep (a:=⟨U,0,none⟩) 0 0 Tryz.underlying27 Av V V V (h _ _ V)) (EV (v:=iV O.1) 2 V (by decide+kernel) V V V (λρ h s' K=>Yl.load AV (h _ _ V) (At.EI (j:=0) ag K V)) ?_);refine Bo 3 V V (Cy (v:=.pointer (some ⟨U,1,none⟩)) 4 true V V (λρ h s' K=>Ep (a:=⟨U,0,none⟩) 0 1 Tryz.underlying27 Av V V V (h _ _ V)) ?_);refine EV (v:=iV O.2.1) 5 V (by decide+kernel) V V V (λρ h s' K=>Yl.load AV (h _ _ V) (At.EI (j:=1) ag K V)) (Bo 6 V V ?_);refine Cy (v:=.pointer (some ⟨U,0,none⟩)) 7 true V V (λρ h s' K=>Ep (a:=⟨U,0,none⟩) 0 0 Tryz.underlying27 Av V V V (h _ _ V)) (EV (v:=iV O.1) 8 V (by decide+kernel) V V V (λρ h s' K=>Yl.load AV (h _ _ V) (At.EI (j:=0) ag K V)) ?_);let⟨em,a4,eo⟩:=bs ek;obtain⟨_,rfl,er⟩:=WL.at Z a4;refine JB.ix 9 Z.2 a4 Tryz.underlying28 Av ?_;refine JB.val (v:=iV em) 10 false V (by decide+kernel) V V V (λρ h s' K=>have K:=K V;Yl.load AV (h _ _ V) (B8 0 bb V (by simp[AH]) K (er 0 _ V))) (Cy (v:=.pointer (some ⟨U,2,none⟩)) 11 true V V (λρ h s' K=>Ep (a:=⟨U,0,none⟩) 0 2 Tryz.underlying27 Av V V V (h _ _ V)) ?_);refine EV (v:=iV O.2.2) 12 V (by decide+kernel) V V V (λρ h s' K=>Yl.load AV (h _ _ V) (At.EI (j:=2) ag K V)) ?_;let⟨ai,et,eu⟩:=bs eo;refine Cy 13 true V V (λρ h s' K=>Eo (h _ _ V) (h _ _ V) et) (Bo 14 V V ?_);refine Cy (v:=.pointer (some ⟨U,1,none⟩)) 15 true V V (λρ h s' K=>Ep (a:=⟨U,0,none⟩) 0 1 Tryz.underlying27 Av V V V (h _ _ V)) (EV (v:=iV O.2.1) 16 V (by decide+kernel) V V V (λρ h s' K=>Yl.load AV (h _ _ V) (At.EI (j:=1) ag K V)) ?_);let⟨ew,a5,ex⟩:=bs eu;obtain⟨_,rfl,ey⟩:=WL.at Z a5;refine JB.ix 17 Z.2 a5 Tryz.underlying28 Av ?_;refine JB.val (v:=iV ew) 18 false V (by decide+kernel) V V V (λρ h s' K=>have K:=K V;Yl.load AV (h _ _ V) (B8 0 bb V (by simp[AH]) K (ey 0 _ V))) (Cy (v:=.pointer (some ⟨U,2,none⟩)) 19 true V V (λρ h s' K=>Ep (a:=⟨U,0,none⟩) 0 2 Tryz.underlying27 Av V V V (h _ _ V)) ?_);refine EV (v:=iV O.2.2) 20 V (by decide+kernel) V V V (λρ h s' K=>Yl.load AV (h _ _ V) (At.EI (j:=2) ag K V)) ?_;let⟨aj,eA,eC⟩:=bs ex;refine Cy 21 true V V (λρ h s' K=>F5 (h _ _ V) (h _ _ V) eA) (JB.ix 22 Z.2 a4 Tryz.underlying28 Av ?_);have b6:=WL.put (x':=ai) (ws':=[iV ai]) Z Z.2 a4 V;refine JB.sx 23 0 bb Av trivial b6.2 λeN=>?_;refine JB.ix 24 Z.2 a5 Tryz.underlying28 Av ?_;have be:=WL.put (x':=aj) (ws':=[iV aj]) b6.1 Z.2 a5 V;refine JB.sx 25 0 eN Av trivial be.2 λe0=>?_;refine JB.fin (by decide+kernel) ?_;have e1:=(be.1).1;have e3:(((Y.1.set (Int.toNat O.1) ai).set (Int.toNat O.2.1) aj)).length=(Y.1).length:=(be.1).2;refine DR (L':=[(1,.pointer (some ⟨bx,0,none⟩)),(3,.slice (some ⟨a3,0,none⟩) (((Y.1.set (Int.toNat O.1) ai).set (Int.toNat O.2.1) aj)).length ac),(4,iV Y.2)]) ⟨V,by rw[e3];rfl,V,trivial⟩ ?_;let⟨e4,e5,e6⟩:=bs eC;refine C 3 V (Bw e5 V V V ?_);refine C 2 V ?_;cases e6;exact AD (c9 _ _ (((Y.1.set (Int.toNat O.1) ai).set (Int.toNat O.2.1) aj),e4) ⟨eg,(some ⟨a3,0,none⟩),ac,[(a3,.cells (Bf (Bf f77 (Int.toNat (O.1)*1) [iV ai]) (Int.toNat (O.2.1)*1) [iV aj]) 3 (0,0))],V,V,(al.trans b5),e0,e1⟩ a9) V;refine JL.exit V ?_;cases ea;obtain rfl:=c8 _ a9;exact AD (c7 _ _ ⟨aw,a0,ac,a2,V,V,al,b2,b3⟩) V
def Nf(fu_:Nat)(p1:AB)(Y:(List Int)×Int)(K:Int×Int×Int)(U:Int):Option (Bq (Int) ((Int)⊕(Unit))):=
 if U<Y.2 then(
  (ix p1 (U)).bind λO=>
  Option.bind (
   if K.1=O.1 then(
    some (decide (K.2.1=O.2.1))
   ) else(
    some false
   )
  ) λZ=>
  Option.bind (
   if Z=true then(
    some true
   ) else(
    if K.1=O.2.1 then(
     some (decide (K.2.1=O.1))
    ) else(
     some false
    )
   )
  ) λac=>
  if ac=true then(
   some (.done (Sum.inl 4))
  ) else(
   (Az (U+1)).bind λag=>
   some (.more ag)
  )
 ) else(
  some (.done (Sum.inr ()))
 )
def OT(fu_:Nat)(p1:AB)(K:(List Int)×Int):Option (Bq ((List Int)×Int) ((Int)⊕((List Int)))):=
 if K.2<((p1).length:Int) then(
  (ix p1 (K.2)).bind λO=>
  (f88 fu_ ((K.1).length:Int) O 72).bind λU=>
  if U≠0 then(
   some (.done (Sum.inl U))
  ) else(
   Option.bind (iter (Nf fu_ p1 K O) fu_ 0) λY=>
   Sum.elim (λr=>some (.done (Sum.inl r))) (λal=>
   (ix K.1 (O.1)).bind λam=>
   (ix K.1 (O.1)).bind λZ=>
   (Az (Z+O.2.2)).bind λac=>
   (ix K.1 (O.2.1)).bind λag=>
   (Az (ag - O.2.2)).bind λai=>
   (Az (K.2+1)).bind λaj=>
   some (.more (((K.1.set (Int.toNat O.1) ac).set (Int.toNat O.2.1) ai),aj))
   ) Y
  )
 ) else(
  some (.done (Sum.inr K.1))
 )
def OZ(fu_:Nat)(O:(List Int))(K:Int):Option (Bq (Int) ((Int)⊕(Unit))):=
 if K<((O).length:Int) then(
  (ix O (K)).bind λU=>
  if U≠0 then(
   some (.done (Sum.inl 9))
  ) else(
   (Az (K+1)).bind λY=>
   some (.more Y)
  )
 ) else(
  some (.done (Sum.inr ()))
 )
def IC(fu_:Nat)(p0:A0)(p1:AB):Option (Int):=
 (f48 fu_ p0).bind λK=>
 if K≠0 then(
  some K
 ) else(
  if 8<((p1).length:Int) then(
   some 6
  ) else(
   (NH fu_ p0).bind λO=>
   Option.bind (iter (OT fu_ p1) fu_ (O,0)) λU=>
   Sum.elim (λr=>some r) (λY=>
   Option.bind (iter (OZ fu_ Y) fu_ 0) λZ=>
   Sum.elim (λr=>some r) (λac=>
   some 0
   ) Z
   ) U
  )
 )
theorem VR{c4:Ap}{c5:Nat}{am:Ap}{ap:Nat}{p1:AB}(c6:Am (rL rI) E a1 c2 (p0.1))(c7:Am Ay E c4 c5 (p0.2))(c8:Am Ay E am ap (p1)){r:Int}(c9:IC fu_ p0 p1=some r):AY J 14 [.agg #[.slice a1 (p0.1).length c2,.slice c4 (p0.2).length c5],.slice am (p1).length ap] E [] (λw E' B'=>w=iV r/\B'=[]):=by
 refine Bm Tryz.func14 λQ kf cs H e3 a3=>?_;unfold IC at c9;refine C 2 V (Cs e3 λkg kh ac dd e4=>?_);refine C 5 V (BQ dd Cb BD V V ?_);let⟨ki,e5,e6⟩:=bs c9;refine B9 (W5 (c6.Ag ac) (c7.Ag ac) e5) V V (A4 Tryz.func8 V) e4 λkj ag ci=>C 7 V (AP e6 (λe7 e8=>?_) (λe7 ff=>?_));refine C 5 V ?_;cases e8;exact AK Tryz.func14 V V (a3 (ac.trans ag) V ⟨V,V⟩ ci);refine C 5 V (JL.ln Tryz.underlying23 V V V ?_);refine C 2 V (AP ff (λfk fl=>?_) (λfk fm=>?_));refine C 4 V ?_;cases fl;exact AK Tryz.func14 V V (a3 (ac.trans ag) V ⟨V,V⟩ ci);refine C 3 V (BQ (dd.Ag ag) Cb BD V V ?_);let⟨kl,fo,fs⟩:=bs fm;refine BU (fK (c6.Ag (ac.trans ag)) (c7.Ag (ac.trans ag)) fo) V V (A4 Tryz.func43 V) ci ?_;rintro _ ck fv a4 ⟨fw,fN,_,rfl,rfl,gc⟩ ge;let⟨dj,gg,co⟩:=bs fs;refine C 7 V (Bu (λL s=>∃(bb:(List Int)) (bo:LH) (bv:Ap) (bw:Nat) (bx:Seg),dj=Sum.inr bb/\Jn ck H bo [bx] [(6,.slice bv (bb).length bw)] L s (OL 3 rI bo bv bw bx (bb))) ?_ ?_);rintro _ _ ⟨bb,bo,bv,bw,bx,rfl,rfl,rfl,ea,gh,gt⟩;have gE:=elim_inr co;let⟨eb,gO,ec⟩:=bs gE;refine C 5 V (Bu (λL s=>∃(ed:Unit) (ee:LH),eb=Sum.inr ed/\Jm bo H ee [] [] L s) ?_ ?_);rintro _ _ ⟨ed,ee,rfl,rfl,rfl,g3,g4⟩;have g5:=elim_inr ec;refine C 4 V ?_;cases g5;exact AK Tryz.func14 V V (a3 ((((ac.trans ag).trans a4).trans ea).trans g3) V ⟨V,V⟩ g4);intro g6;refine JL.block (Du gO (λcp=>[bx]) (λcp=>[(6,.slice bv (bb).length bw),(12,iV cp)]) (Le.refl _) gh ?_);rintro cp g7 b0 b1 ef ⟨km,b2⟩ g8;have eg:=b2;unfold OZ at eg;refine C 5 V (JL.ln Tryz.underlying28 V V V ?_);refine C 2 V (AP eg (λha hb=>?_) (λha hc=>?_));let⟨he,hf,hg⟩:=bs hb;refine C 7 V (HS 0 (gt.Ag b0) hf V V V V V V Tryz.underlying28 Av ?_);rintro kn ko f95 _ hk rfl hl kp kq kr ks;refine Ao (v:=iV he) V (λρ h=>Yl.load AV (h _ _ V) (BY (j:=0) b1 hk (hl 0 _ V))) (C 2 V ?_);refine AP hg (λhm hn=>?_) (λhm ho=>?_);refine C 4 V (JS.drop 0 b1 V λhp=>?_);cases hn;obtain rfl:=ef _ b2;have hq:=elim_inl ec;cases hq;exact AK Tryz.func14 V V (a3 ((((ac.trans ag).trans a4).trans ea).trans b0) V ⟨V,V⟩ hp);let⟨hr,hs,ht⟩:=bs ho;refine C 4 V (Bw hs V V V ?_);refine C 2 V ?_;cases ht;exact g8 hr b0 b1 V b2;refine JL.exit V (JS.drop 0 b1 V λhu=>?_);cases hc;have hv:eb=(Sum.inr ()):=(ef _ b2).symm;exact AD (g6 _ _ ⟨(),g7,hv,V,V,b0,hu⟩) V;intro hw;refine JL.block (Co gg (λL s O=>∃(b3:LH) (aq:Ap) (aj:Nat) (aw:Seg),Jn ck H b3 [aw] [(1,.slice am (p1).length ap),(6,.slice aq (O.1).length aj),(7,iV O.2)] L s (OL 3 rI b3 aq aj aw (O.1))) ⟨ck,fw,fN,fv,V,V,(Le.refl _),ge,gc⟩ ?_);rintro _ _ O ⟨b3,aq,aj,aw,rfl,rfl,a5,ej,ek⟩ ct ⟨kt,be⟩ hx;have el:=be;unfold OT at el;refine C 5 V (JL.ln Tryz.underlying23 V V V ?_);refine C 2 V (AP el (λhy hz=>?_) (λhy hA=>?_));let⟨Z,hB,hC⟩:=bs hz;refine C 7 V (JS.ix (c8.Ag (((ac.trans ag).trans a4).trans a5)) hB Tryz.underlying23 AX ?_);rintro ku kv _ ⟨_,_,rfl,rfl,⟨_,_,rfl,rfl,rfl⟩⟩ hD;refine BQ hD C7 AX V V (BZ ej BC λU hE=>?_);refine JS.sx 1 hE AX λhF=>?_;refine C8 1 hF V λkx bg ai hG=>C 5 V (JL.ln Tryz.underlying28 V V V ?_);refine BQ ai C7 AX V V ?_;let⟨ky,hH,hI⟩:=bs hC;refine B9 (Xk hH) V V (A4 Tryz.func36 V) hG λhJ Y em=>C 7 V (AP hI (λhK hL=>?_) (λhK hM=>?_));refine C 5 V (JS.drop 0 em V λhN=>?_);cases hL;obtain rfl:=ct _ be;have hO:=elim_inl co;cases hO;exact AK Tryz.func14 V V (a3 (((((ac.trans ag).trans a4).trans a5).trans bg).trans Y) V ⟨V,V⟩ hN);let⟨eo,hP,er⟩:=bs hM;refine C 6 V (Bu (λL s=>∃(et:Unit) (cw:LH),eo=Sum.inr et/\Jm hJ H cw [aw] [(1,.slice am (p1).length ap),(6,.slice aq (O.1).length aj),(7,iV O.2),(8,.pointer (some ⟨U,0,none⟩))] L s) ?_ ?_);rintro _ _ ⟨et,cw,rfl,rfl,rfl,a0,cy⟩;have hQ:=elim_inr er;let⟨kz,hR,hS⟩:=bs hQ;let⟨b4,f178,hT,al⟩:=WL.of (ek.Ag ((bg.trans Y).trans a0)) hR;obtain⟨rfl,rfl⟩:=hT;refine Hi [23,25] [b4] [] mixed V (Bo 0 V V ?_);refine Cy (v:=.pointer (some ⟨U,0,none⟩)) 1 true V V (λρ h s' K=>Ep (a:=⟨U,0,none⟩) 0 0 Tryz.underlying27 Av V V V (h _ _ V)) (EV (v:=iV Z.1) 2 V (by decide+kernel) V V V (λρ h s' K=>Yl.load AV (h _ _ V) (At.EI (j:=0) (ai.Ag (Y.trans a0)) K V)) ?_);refine Bo 3 V V (Cy (v:=.pointer (some ⟨U,1,none⟩)) 4 true V V (λρ h s' K=>Ep (a:=⟨U,0,none⟩) 0 1 Tryz.underlying27 Av V V V (h _ _ V)) ?_);refine EV (v:=iV Z.2.1) 5 V (by decide+kernel) V V V (λρ h s' K=>Yl.load AV (h _ _ V) (At.EI (j:=1) (ai.Ag (Y.trans a0)) K V)) (Bo 6 V V ?_);refine Cy (v:=.pointer (some ⟨U,0,none⟩)) 7 true V V (λρ h s' K=>Ep (a:=⟨U,0,none⟩) 0 0 Tryz.underlying27 Av V V V (h _ _ V)) (EV (v:=iV Z.1) 8 V (by decide+kernel) V V V (λρ h s' K=>Yl.load AV (h _ _ V) (At.EI (j:=0) (ai.Ag (Y.trans a0)) K V)) ?_);obtain⟨hU,b5,hV⟩:=bs hS;obtain⟨_,rfl,hW⟩:=WL.at al b5;refine JB.ix 9 al.2 b5 Tryz.underlying28 Av ?_;refine JB.val (v:=iV hU) 10 false V (by decide+kernel) V V V (λρ h s' K=>have K:=K V;Yl.load AV (h _ _ V) (B8 0 cy V (by simp[AH]) K (hW 0 _ V))) (Cy (v:=.pointer (some ⟨U,2,none⟩)) 11 true V V (λρ h s' K=>Ep (a:=⟨U,0,none⟩) 0 2 Tryz.underlying27 Av V V V (h _ _ V)) ?_);refine EV (v:=iV Z.2.2) 12 V (by decide+kernel) V V V (λρ h s' K=>Yl.load AV (h _ _ V) (At.EI (j:=2) (ai.Ag (Y.trans a0)) K V)) ?_;let⟨a6,hX,hY⟩:=bs hV;refine Cy 13 true V V (λρ h s' K=>F5 (h _ _ V) (h _ _ V) hX) (Bo 14 V V ?_);refine Cy (v:=.pointer (some ⟨U,1,none⟩)) 15 true V V (λρ h s' K=>Ep (a:=⟨U,0,none⟩) 0 1 Tryz.underlying27 Av V V V (h _ _ V)) (EV (v:=iV Z.2.1) 16 V (by decide+kernel) V V V (λρ h s' K=>Yl.load AV (h _ _ V) (At.EI (j:=1) (ai.Ag (Y.trans a0)) K V)) ?_);let⟨h0,b6,h1⟩:=bs hY;obtain⟨_,rfl,h2⟩:=WL.at al b6;refine JB.ix 17 al.2 b6 Tryz.underlying28 Av ?_;refine JB.val (v:=iV h0) 18 false V (by decide+kernel) V V V (λρ h s' K=>have K:=K V;Yl.load AV (h _ _ V) (B8 0 cy V (by simp[AH]) K (h2 0 _ V))) (Cy (v:=.pointer (some ⟨U,2,none⟩)) 19 true V V (λρ h s' K=>Ep (a:=⟨U,0,none⟩) 0 2 Tryz.underlying27 Av V V V (h _ _ V)) ?_);refine EV (v:=iV Z.2.2) 20 V (by decide+kernel) V V V (λρ h s' K=>Yl.load AV (h _ _ V) (At.EI (j:=2) (ai.Ag (Y.trans a0)) K V)) ?_;let⟨a7,h3,h4⟩:=bs h1;refine Cy 21 true V V (λρ h s' K=>Eo (h _ _ V) (h _ _ V) h3) (JB.ix 22 al.2 b5 Tryz.underlying28 Av ?_);have eu:=WL.put (x':=a6) (ws':=[iV a6]) al al.2 b5 V;refine JB.sx 23 0 cy Av trivial eu.2 λh5=>?_;refine JB.ix 24 al.2 b6 Tryz.underlying28 Av ?_;have c0:=WL.put (x':=a7) (ws':=[iV a7]) eu.1 al.2 b6 V;refine JB.sx 25 0 h5 Av trivial c0.2 λh6=>?_;refine JB.fin (by decide+kernel) ?_;have h7:=(c0.1).1;have h8:(((O.1.set (Int.toNat Z.1) a6).set (Int.toNat Z.2.1) a7)).length=(O.1).length:=(c0.1).2;refine DR (L':=[(1,.slice am (p1).length ap),(6,.slice (some ⟨b4,0,none⟩) (((O.1.set (Int.toNat Z.1) a6).set (Int.toNat Z.2.1) a7)).length aj),(7,iV O.2)]) ⟨V,by rw[h8];rfl,V,trivial⟩ ?_;let⟨h9,ia,ih⟩:=bs h4;refine C 3 V (Bw ia V V V ?_);refine C 2 V ?_;cases ih;exact AD (hx _ _ (((O.1.set (Int.toNat Z.1) a6).set (Int.toNat Z.2.1) a7),h9) ⟨cw,(some ⟨b4,0,none⟩),aj,[(b4,.cells (Bf (Bf f178 (Int.toNat (Z.1)*1) [iV a6]) (Int.toNat (Z.2.1)*1) [iV a7]) 3 (0,0))],V,V,(((a5.trans bg).trans Y).trans a0),h6,h7⟩ be) V;intro ii;refine JL.block (Du hP (λbi=>[aw]) (λbi=>[(1,.slice am (p1).length ap),(6,.slice aq (O.1).length aj),(7,iV O.2),(8,.pointer (some ⟨U,0,none⟩)),(10,iV bi)]) (Le.refl _) em ?_);rintro bi io a2 ew ex ⟨kA,ca⟩ i0;have ey:=ca;unfold Nf at ey;refine C 7 V (AP ey (λi1 i3=>?_) (λi1 i4=>?_));let⟨kB,i5,i6⟩:=bs i3;refine C 7 V (JS.ix (c8.Ag ((((((ac.trans ag).trans a4).trans a5).trans bg).trans Y).trans a2)) i5 Tryz.underlying23 AX ?_);rintro kC kD _ ⟨_,_,rfl,rfl,⟨_,_,rfl,rfl,rfl⟩⟩ i7;refine BQ i7 C7 AX V V (BZ ew BC λi8 i9=>?_);refine JS.sx 1 i9 AX λjg=>?_;refine C8 1 jg V λkF a8 cc eA=>C 3 V (BH 0 (ai.Ag ((Y.trans a2).trans a8)) Tryz.underlying27 Av AV ?_);refine BH 0 cc Tryz.underlying27 Av AV ?_;let⟨ji,jj,jp⟩:=bs i6;refine C 2 V (Gm 12 14 [aw] [(1,.slice am (p1).length ap),(6,.slice aq (O.1).length aj),(7,iV O.2),(8,.pointer (some ⟨U,0,none⟩)),(10,iV bi),(11,.pointer (some ⟨i8,0,none⟩)),(60,.bool ji)] (λce a9 c1=>?_) (λeC=>?_));let⟨jr,jt,jy⟩:=bs jp;refine C 1 V (Hh [] (λL s=>∃(eN:LH),Jm ce H eN [aw] [(1,.slice am (p1).length ap),(6,.slice aq (O.1).length aj),(7,iV O.2),(8,.pointer (some ⟨U,0,none⟩)),(10,iV bi),(74,.bool jr)] L s) ?_ ?_);rintro _ _ ⟨eN,rfl,rfl,e0,e1⟩;refine JL.done (Cm jy (λjT jU=>?_) (λjT jV=>?_));refine C 4 V (JS.drop 0 e1 V λjW=>?_);cases jU;obtain rfl:=ex _ ca;have jX:=elim_inl er;cases jX;obtain rfl:=ct _ be;have jY:=elim_inl co;cases jY;exact AK Tryz.func14 V V (a3 (((((((((ac.trans ag).trans a4).trans a5).trans bg).trans Y).trans a2).trans a8).trans a9).trans e0) V ⟨V,V⟩ jW);let⟨jZ,j0,j1⟩:=bs jV;refine C 4 V (Bw j0 V V V ?_);refine C 2 V ?_;cases j1;exact i0 jZ (((a2.trans a8).trans a9).trans e0) e1 V ca;intro c3;refine Fy 61 jt (λj2 j3=>?_) (λj2 j4=>?_);refine C 13 V ?_;cases j3;exact AD (c3 _ _ ⟨ce,V,V,(Le.refl _),c1⟩) V;refine BH 0 (ai.Ag (((Y.trans a2).trans a8).trans a9)) Tryz.underlying27 Av AV ?_;refine BH 1 (cc.Ag a9) Tryz.underlying27 Av AV ?_;refine C 2 V (Hy 67 j4 (λj5 j6=>?_) (λj5 j7=>?_));refine BH 1 (ai.Ag (((Y.trans a2).trans a8).trans a9)) Tryz.underlying27 Av AV ?_;refine BH 0 (cc.Ag a9) Tryz.underlying27 Av AV ?_;refine C 3 V ?_;cases j6;exact AD (c3 _ _ ⟨ce,V,V,(Le.refl _),c1⟩) V;refine C 7 V ?_;cases j7;exact AD (c3 _ _ ⟨ce,V,V,(Le.refl _),c1⟩) V;refine Hy 54 jj (λj8 j9=>?_) (λj8 kb=>?_);refine BH 1 (ai.Ag ((Y.trans a2).trans a8)) Tryz.underlying27 Av AV ?_;refine BH 1 cc Tryz.underlying27 Av AV ?_;refine C 2 V ?_;cases j9;exact eC (Le.refl _) eA V;refine C 6 V ?_;cases kb;exact eC (Le.refl _) eA V;refine JL.exit V ?_;cases i4;have kc:eo=(Sum.inr ()):=(ex _ ca).symm;exact AD (ii _ _ ⟨(),io,kc,V,V,a2,ew⟩) V;refine JL.exit V ?_;cases hA;have ke:dj=(Sum.inr O.1):=(ct _ be).symm;exact AD (hw _ _ ⟨O.1,b3,aq,aj,aw,ke,V,V,a5,ej,ek⟩) V
end Pal
namespace Pal
open Go Go.Conc
def K0{α:Type}(e e2:TypeId)(p:Rp α)(E:LH)(a:Option Addr)(c n:Nat)(seg:Seg)(ys:List (List α)):Prop:=
 ∃(g0:Seg) (K:Lv_) (rows:List Seg),seg=g0++rows.flatten/\OL e rV E a c g0 K/\K.length=n/\ys.length<=n/\rows.length=ys.length/\
  ∀(i:Nat) xs r h,ys[i]?=some xs->rows[i]?=some r->K[n - ys.length+i]?=some h->∃O ci,h=.slice O xs.length ci/\OL e2 p E O ci r xs
variable{α:Type}{a:Option Addr}{c:Nat}{seg:Seg}
theorem K0.of{e e2:TypeId}{p:Rp α}{E:LH}{K:List (List α)}(h:Cd e e2 p E a c seg K):K0 e e2 p E a c K.length seg K:=
 let ⟨g0,O,rows,U,Y,Z,ac,ag⟩:=h
 ⟨g0,O,rows,U,Y,Z,qH _,ac,λi xs r q a b c=>ag i xs r q a b (by rw[ti,sj] at c;exact c)⟩
def Qe{α:Type}(n:Nat)(ys:List (List α))(m:Int):Option (List α×List (List α)):=
 match ys with
 | []=>none
 | y::t=>if m=(n:Int) - ((t.length+1:Nat):Int) then some (y,t) else none
structure jx {α:Type}(e e2:TypeId) (pp:Rp α) (E:LH) (a:Option Addr) (c n bk:Nat) (f:Av_) (K:Option Addr) (ci:Nat) (r g2:Seg) (m:Int) (y:List α) (t:List (List α)):Prop where
 ad:a=some ⟨bk,0,none⟩
 bd:0<=m/\m<(n:Int)
 hd:f[m.toNat*1]?=some (.slice K y.length ci)
 ol:OL e2 pp E K ci r y
 rest:K0 e e2 pp E a c n ((bk,.cells f e (0,0))::g2) t
variable{m:Int}
theorem K0.out{e e2:TypeId}{pp:Rp α}{E:LH}{n:Nat}{ys:List (List α)}{q:List α×List (List α)}(h:K0 e e2 pp E a c n seg ys)(hm:Qe n ys m=some q):
  ∃(bk:Nat) (f:Av_) (U:Option Addr) (ci:Nat) (r g2:Seg),seg=(bk,.cells f e (0,0))::(r++g2)/\jx e e2 pp E a c n bk f U ci r g2 m q.1 q.2:=by
 obtain⟨g0,Y,rows,rfl,Z,ag,ai,O,K⟩:=h;unfold Qe at hm;split at hm;cases hm
 rename_i y t;split at hm
 rotate_left
 .cases hm
 rename_i aq;cases hm;simp only[q4] at ai O
 match rows,O,K with
 | r::rows,O,K=>
 simp only[q4] at O K;have hi:m.toNat=n - (t.length+1):=by omega
 have hh:Y[n - (t.length+1)]?=some Y[n - (t.length+1)]:=bI (by omega);obtain⟨U,ci,aj,al⟩:=K 0 y r _ rfl rfl (by rw[rE];exact hh);rw[aj] at hh;obtain⟨bk,f,ws,rfl,rfl,am,ac,aw,a0⟩:=OL.get Z hh;obtain⟨rfl,-⟩:=am;have ap:(rV).n=1:=V;rw[ap] at ac;refine⟨bk,f,U,ci,r,rows.flatten,by rw[q1];rfl,V,by omega,by have:=ac 0 _ rfl;rw[hi];simpa using this,al,_,Y,rows,V,Z,ag,by show t.length<=n;omega,by show rows.length=t.length;omega,λi xs r' v a b c=>?_⟩;exact K (i+1) xs r' v a b (by rw[show n - (t.length+1)+(i+1)=n - t.length+i from by omega];exact c)
theorem Cd.nil{e e2:TypeId}{p:Rp α}{E:LH}:Cd e e2 p E none 0 [] []:=
 ⟨[],[],[],V,OL.nil,V,V,λi xs r h K=>by simp at K⟩
variable{K:Option Addr}{ci:Nat}
theorem Cd.one{e e2:TypeId}{p:Rp α}{E:LH}{g r:Seg}{ys:List α}(h:OL e rV E a c g [.slice K ys.length ci])(O:OL e2 p E K ci r ys):Cd e e2 p E a c (g++r) [ys]:=
 ⟨g,[.slice K ys.length ci],[r],by simp,h,rfl,rfl,λi xs r' q a b c=>by
  match i,a,b,c with
  | 0,a,b,c=>cases a;cases b;cases c;exact⟨_,_,rfl,O⟩⟩
theorem Cd.snoc{e e2:TypeId}{p:Rp α}{E:LH}{g r:Seg}{U:Lv_}{rows:List Seg}{O:List (List α)}{ys:List α}(h:OL e rV E a c g (U++ [.slice K ys.length ci]))(Y:U.length=O.length)(Z:rows.length=O.length)
  (ac:∀(i:Nat) xs r h,O[i]?=some xs->rows[i]?=some r->U[i]?=some h->∃K ci,h=.slice K xs.length ci/\OL e2 p E K ci r xs) (ag:OL e2 p E K ci r ys):Cd e e2 p E a c (g++(rows++ [r]).flatten) (O++ [ys]):=
 ⟨g,_,rows++ [r],rfl,h,by simp[Y],by simp[Z],λi xs r' q a b c=>by
  rw[List.getElem?_append] at a b c
  rw[Z] at b;rw[Y] at c
  split at a
  .rename_i hi
   rw[d0 hi] at b c
   exact ac i xs r' q a b c
  .rename_i hi
   rw[d7 hi] at b c
   match hj:i - O.length,a,b,c with
   | 0,a,b,c=>cases a;cases b;cases c;exact⟨_,_,rfl,ag⟩⟩
variable {P:Program}
theorem Vs{s:St}{ρ:Operand->Value}{x y:Operand}{d:Option Tmp}{t ty e:TypeId}{p:String}{af:Ae_}{g:On_}{kd:IntKind}{n bk sz:Nat}(K:a=some ⟨bk,0,none⟩)(hm:0<=m/\m<(n:Int))(O:P.underlying t=some (.slice e))(U:Bz P e=some sz)(Y:ρ x=.slice a n c)(Z:ρ y=.int kd m):
  Yl P ⟨d,.indexAddr t x y,ty,p,af,g⟩ ρ s (.pointer (some ⟨bk,m.toNat*sz,none⟩)):=by
 refine Jp (xs:=List.replicate n ()) (xv:=()) K ?_ O U (by rw[sf];exact Y) Z;unfold ix;rw[d0 hm.1];rw[sH,d0 (by omega)]
variable {Q:Gs_}{b:Frame}{ds:Ld_}{ops:Ao_}{k:Li_}{cs:Lf_}{L:Env}{E E' H:LH}{S:List Seg}
variable {t u ty e e2:TypeId}{p:String}{af:Ae_}{g:On_}{rest:List Nat}
variable{q:Nat×Obj}{g2:Seg}{c2:Nat}{z:Value}
section
variable {J:Judge P}{n:Nat}
variable {d:Option Tmp}{x y:Operand}{i:Nat}
theorem bu{S:List Seg}{r:Seg}(j:Nat)(K:S[j]?=some (q::(r++g2))):S.flatten.Perm (S.set j [q]++ [g2,r]).flatten:=aD (g1:=[]) j K
theorem bW{pp:Rp α}{t1 t2:TypeId}{O:Option Addr}{r:Seg}{U aj:List (List α)}{ys:List α}{aw:Nat}{d1:Tmp}{ats:Array TypeId}{al:TypeId}{am:String}{ap:Ae_}{g':On_}(j K:Nat)(a3:room U ys=some aj)
  (a4:ops[i]?=some ⟨some d1,.buildSlice t2 1 #[(0,y)],al,am,ap,g'⟩) (hw:A3 L ops ⟨some d1,.buildSlice t2 1 #[(0,y)],al,am,ap,g'⟩=some true) (a5:BV b n ⟨some d1,.buildSlice t2 1 #[(0,y)],al,am,ap,g'⟩=true)
  (a6:ops[aw]?=some ⟨d,.call ⟨.builtin .append,#[x,.tmp d1],ats⟩,ty,p,af,g⟩) (a7:∀w,A3 (AE L (some d1) w) ops ⟨d,.call ⟨.builtin .append,#[x,.tmp d1],ats⟩,ty,p,af,g⟩=some true) (a8:BV b n ⟨d,.call ⟨.builtin .append,#[x,.tmp d1],ats⟩,ty,p,af,g⟩=true)
  (a9:∀w,ev (AE L (some d1) w) x=some (.slice a U.length c)) (bb:ev L y=some (.slice O ys.length ci)) (be:ats[0]?=some t) (bg:ats[1]?=some t1) (bi:P.underlying t=some (.slice e)) (bo:P.underlying t1=some (.slice e)) (bv:P.underlying t2=some (.slice e)) (bw:Bz P e=some 1) (hb:Ga P e=some c2) (bx:zeroOf P e=some z) (b0:z.cells.size=1)
  (b1:0<c2) (b2:c2<=64) (b3:Cd e e2 pp E a c seg U) (b4:OL e2 pp E O ci r ys) (b5:Au E H S) (a0:S[j]?=some seg) (b6:S[K]?=some r) (aq:K≠j)
  (h:∀w Y Z seg',Cd e e2 pp E Y Z seg' aj->Au E H ((S.set j seg').set K [])->JL J Q b n (AE (AE L (some d1) w) d (.slice Y aj.length Z)) ds (.inRegion ops rest::k) cs (Ak E H ((S.set j seg').set K []))):
  JL J Q b n L ds (.inRegion ops (i::aw::rest)::k) cs (Ak E H S):=by
 obtain⟨ca,rfl⟩:=T1 a3;obtain⟨g0,cc,rows,rfl,ce,ac,ck,co⟩:=b3;have ag:=(dY.1 a0).1;refine Fh j a0 b5 λcp=>?_;have ct:(S.set j g0++ [rows.flatten])[j]?=some g0:=by
  rw[qO (by simpa using ag),rc ag]
 refine Ti (pp:=rV) (v:=.slice O ys.length ci) (xv:=.slice O ys.length ci) j a4 hw a5 a6 a7 a8 (by rw[ac];exact a9) bb be bg bi bo bv bw hb bx b0 b1 b2 (by decide) (by decide) (by rw[ac];exact ca) ce ⟨V,V⟩ cp ct λw Y Z g' cw a1=>?_;rw[List.set_append_left _ _ (by simpa using ag),sw] at a1 ⊢;have el:(cc++ [Value.slice O ys.length ci]).length=(U++ [ys]).length:=by simp[ac]
 refine JS.perm (S':=(S.set j (g'++(rows++ [r]).flatten)).set K []) ?_ a1 λcy=>?_
 .have c0:(S.set j g')[K]?=some r:=by rw[qU (q2 aq)];exact b6
  have p1:=(Cl (seg':=([]:Seg)) c0).1;rw[F2];refine(p1.append_right _).trans ?_;have a2:((S.set j g').set K [])[j]?=some g':=by rw[qU aq,rc ag]
  have p2:=(Cl (seg':=g'++(rows++ [r]).flatten) a2).1;have p3:=(Cl (seg':=g'++(rows++ [r]).flatten) a2).2;have c1:((S.set j g').set K []).set j (g'++(rows++ [r]).flatten)=(S.set j (g'++(rows++ [r]).flatten)).set K []:=by rw[sW _ _ aq,sw]
  rw[c1] at p3;refine List.Perm.trans ?_ p3.symm;refine((p2.append_right r).append_right _).trans ?_;rw[qI,qI];refine rp _ (rp _ ?_);rw[rX];simpa using f8
 .have:=h w Y Z _ (Cd.snoc cw ac ck co b4) cy;rw[el];exact this
theorem cN{pp:Rp α}{r:Seg}{ys:List α}(O:Nat)
  (Y:ops[i]?=some ⟨d,.buildSlice t 1 #[(0,y)],ty,p,af,g⟩) (hw:A3 L ops ⟨d,.buildSlice t 1 #[(0,y)],ty,p,af,g⟩=some true) (Z:BV b n ⟨d,.buildSlice t 1 #[(0,y)],ty,p,af,g⟩=true)
  (ac:P.underlying t=some (.slice e)) (ag:Bz P e=some 1) (ai:zeroOf P e=some z) (aj:ev L y=some (.slice K ys.length ci)) (al:OL e2 pp E K ci r ys) (am:Au E H S) (U:S[O]?=some r)
  (h:∀r' seg,Cd e e2 pp E (some ⟨r',0,none⟩) 1 seg [ys]->Au E H (S.set O seg)->JL J Q b n (AE L d (.slice (some ⟨r',0,none⟩) [ys].length 1)) ds (.inRegion ops rest::k) cs (Ak E H (S.set O seg))):
  JL J Q b n L ds (.inRegion ops (i::rest)::k) cs (Ak E H S):=by
 refine FO (pp:=rV) [.slice K ys.length ci] [.slice K ys.length ci] Y hw Z ac ag ai (by decide) (by simp[aj]) V V ⟨⟨V,V⟩,trivial⟩ am λr' seg ap aq=>JS.perm (S':=S.set O (seg++r)) ?_ aq λaw=>h r' _ (Cd.one ap al) aw;rw[F2];refine((Cl (seg':=seg++r) U).1.append_right seg).trans (List.Perm.trans ?_ (Cl (seg':=seg++r) U).2.symm);rw[qI];exact rp _ f8
end
structure jw {α:Type}(e e2:TypeId) (pp:Rp α) (E:LH) (a:Option Addr) (c bk:Nat) (f:Av_) (K O:Option Addr) (ci cj:Nat) (ag ai g:Seg) (aj:List (List α)) (i j:Int) (xs ys:List α):Prop where
 ad:a=some ⟨bk,0,none⟩
 hi:f[i.toNat*1]?=some (.slice K xs.length ci)
 hj:f[j.toNat*1]?=some (.slice O ys.length cj)
 oi:OL e2 pp E K ci ag xs
 oj:OL e2 pp E O cj ai ys
 close:∀E' Z ac U Y,Le E E'->U.length=xs.length->Y.length=ys.length->OL e2 pp E' K ci Z U->OL e2 pp E' O cj ac Y->
  ∃g',g'.Perm ((bk,.cells f e (0,0))::(Z++ac++g))/\Cd e e2 pp E' a c g' ((aj.set i.toNat U).set j.toNat Y)
def Qn(i j:Int):Option Unit:=if i=j then none else some ()
theorem Cd.ja{e e2:TypeId}{pp:Rp α}{E:LH}{Y:List (List α)}{i j:Int}{xs ys:List α}{u:Unit}(h:Cd e e2 pp E a c seg Y)(hi:ix Y i=some xs)(hj:ix Y j=some ys)(al:Qn i j=some u):
  ∃(bk:Nat) (f:Av_) (Z ac:Option Addr) (ci cj:Nat) (aq aw g:Seg),seg.Perm ((bk,.cells f e (0,0))::(aq++aw++g))/\jw e e2 pp E a c bk f Z ac ci cj aq aw g Y i j xs ys:=by
 have a7:i≠j:=λe=>by unfold Qn at al;rw[d0 e] at al;cases al
 obtain⟨g0,U,rows,rfl,am,a8,a9,ap⟩:=h;obtain⟨m,rfl,hm⟩:=FP hi;obtain⟨q,rfl,a0⟩:=FP hj;have ag:m≠q:=λe=>a7 (by rw[e]);have lm:=(dY.1 hm).1;have b4:=(dY.1 a0).1;have a1:rows[m]?=some rows[m]:=bI (by omega);have a2:rows[q]?=some rows[q]:=bI (by omega);have ai:U[m]?=some U[m]:=bI (by omega);have aj:U[q]?=some U[q]:=bI (by omega);let⟨Z,ci,bb,be⟩:=ap m xs _ _ hm a1 ai;let⟨ac,cj,bg,bi⟩:=ap q ys _ _ a0 a2 aj;rw[bb] at ai;rw[bg] at aj;obtain⟨bk,f,ws,rfl,rfl,bo,a3,b5,b6⟩:=OL.get am ai;let⟨ca,cc,ws',ce,a4,bv,a5,_,_⟩:=OL.get am aj;simp only[tu,d9,Obj.cells.injEq,uk] at a4;obtain⟨rfl,rfl⟩:=a4;obtain⟨rfl,-⟩:=bo;obtain⟨rfl,-⟩:=bv;have bw:(rV).n=1:=V;rw[bw] at a3 a5;have key:∀K O:Seg,((rows.set m K).set q O).flatten.Perm (K++O++((rows.set m []).set q []).flatten):=λK O=>by
  have s1:(rows.set m K)[q]?=some rows[q]:=by rw[qU ag];exact a2
  have p1:=(Cl (seg':=O) s1).2;have s2:(rows.set q [])[m]?=some rows[m]:=by rw[qU (q2 ag)];exact a1
  have p2:=(Cl (seg':=K) s2).2;rw[sW _ _ (q2 ag)] at p2;rw[sW (l:=rows) [] [] (q2 ag)] at p2;refine p1.trans ((p2.append_right O).trans ?_);rw[qI];exact f8
 have bx:(rows.set m rows[m]).set q rows[q]=rows:=by rw[tR,tR]
 refine⟨bk,f,Z,ac,ci,cj,rows[m],rows[q],((rows.set m []).set q []).flatten,?_,V,by have:=a3 0 _ rfl;simpa using this,by have:=a5 0 _ rfl;simpa using this,be,bi,λE' K O ck co hle l1 l2 b0 b1=>?_⟩;have:=key rows[m] rows[q];rw[bx] at this;exact List.Perm.cons _ this;refine⟨[(bk,.cells f e (0,0))]++((rows.set m K).set q O).flatten,List.Perm.cons _ (key K O),_,U,(rows.set m K).set q O,V,am.Ag hle,by simpa using a8,by simpa using a9,λi b2 r v a b c=>?_⟩;simp only[rk] at a;rw[rj] at a b;simp only[qY] at a b;by_cases e:q=i;subst e;rw[d0 rfl,d0 (by omega)] at a b;cases a;cases b;rw[aj] at c;cases c;exact⟨ac,cj,by rw[l2],b1⟩;rw[d7 e,rj] at a b;by_cases a6:m=i;subst a6;rw[d0 rfl,d0 (by omega)] at a b;cases a;cases b;rw[ai] at c;cases c;exact⟨Z,ci,by rw[l1],b0⟩;rw[d7 a6] at a b;let⟨b3,c2,n1,n2⟩:=ap i b2 r v a b c;exact⟨b3,c2,n1,n2.Ag hle⟩
theorem iB{S:List Seg}{O g:Seg}(j:Nat)(U:S[j]?=some seg)(Y:seg.Perm (q::(g2++O++g))):S.flatten.Perm (S.set j [q]++ [g,g2,O]).flatten:=by
 have Z:=(Cl (seg':=[q]) U).1;have ac:=(Cl (seg':=[q]) U).2;rw[rX];refine Z.trans ((Y.append_left _).trans (List.Perm.trans ?_ (ac.symm.append_right _)));rw[qI (S.set j []).flatten];refine rp _ ?_;simp only[q1,s7,qW,rh,rG];exact List.Perm.cons _ f8
theorem gi{S:List Seg}{Z g g':Seg}(j U K O:Nat)(ag:S[j]?=some [q])(ai:S[U]?=some g)(hi:S[K]?=some g2)(hj:S[O]?=some Z)(hd:j≠U/\j≠K/\j≠O/\U≠K/\U≠O/\K≠O)(aj:g'.Perm (q::(g2++Z++g))):
  S.flatten.Perm ((((S.set O []).set K []).set U []).set j g').flatten:=by
 obtain⟨d1,d2,d3,d4,d5,d6⟩:=hd;have p1:=(Cl (seg':=([]:Seg)) hj).1;have al:(S.set O [])[K]?=some g2:=by rw[qU (q2 d6)];exact hi
 have p2:=(Cl (seg':=([]:Seg)) al).1;have am:((S.set O []).set K [])[U]?=some g:=by rw[qU (q2 d4),qU (q2 d5)];exact ai
 have p3:=(Cl (seg':=([]:Seg)) am).1;have ac:(((S.set O []).set K []).set U [])[j]?=some [q]:=by rw[qU (q2 d1),qU (q2 d2),qU (q2 d3)];exact ag
 have p4:=(Cl (seg':=g') ac).1;have ap:=(Cl (seg':=g') ac).2;refine(p1.trans ((p2.append_right _).trans ((((p3.append_right _)).append_right _).trans ((((p4.append_right _).append_right _)).append_right _)))).trans (List.Perm.trans ?_ ap.symm);simp only[qI];refine rp _ (List.Perm.trans ?_ aj.symm);simp only[rh,rG];refine List.Perm.cons _ ?_;exact f8
open Go.Proofs
variable {J:Judge Tryz.prog}
def O9(fu_:Nat)(p0:List Int)(p1:List Int)(K:Int):Option (Bq (Int) ((Bool)⊕(Unit))):=
 if K<((p0).length:Int) then(
  (ix p0 (K)).bind λO=>
  (ix p1 (K)).bind λU=>
  if O≠U then(
   (ix p0 (K)).bind λY=>
   (ix p1 (K)).bind λZ=>
   some (.done (Sum.inl (decide (Y<Z))))
  ) else(
   (Az (K+1)).bind λac=>
   some (.more ac)
  )
 ) else(
  some (.done (Sum.inr ()))
 )
def f127(fu_:Nat)(p0:List Int)(p1:List Int):Option (Bool):=
 Option.bind (iter (O9 fu_ p0 p1) fu_ 0) λK=>
 Sum.elim (λr=>some r) (λO=>
 some false
 ) K
variable{a1:Ap}{dn fu_:Nat}{p0:List Int}
theorem gQ{bg:Ap}{p1:List Int}(ai:Am rI E a1 c2 (p0))(aj:Am rI E bg dn (p1)){r:Bool}(al:f127 fu_ p0 p1=some r):AY J 80 [.slice a1 (p0).length c2,.slice bg (p1).length dn] E [] (λw E' B'=>w=.bool r/\B'=[]):=by
 refine Bm Tryz.func80 λQ c0 cs H a4 am=>?_;unfold f127 at al;let⟨ap,a5,aq⟩:=bs al;refine C 9 V (Bu (λL s=>∃(aw:Unit) (a0:LH),ap=Sum.inr aw/\Jm E H a0 [] [] L s) ?_ ?_);rintro _ _ ⟨aw,a0,rfl,rfl,rfl,a6,a7⟩;have a8:=elim_inr aq;refine C 4 V ?_;cases a8;exact AK Tryz.func80 V V (am a6 V ⟨V,V⟩ a7);intro a9;refine JL.block (Du a5 (λac=>[]) (λac=>[(0,.slice a1 (p0).length c2),(1,.slice bg (p1).length dn),(5,iV ac)]) (Le.refl _) a4 ?_);rintro ac bb O ag a2 ⟨c1,U⟩ be;have a3:=U;unfold O9 at a3;refine C 5 V (JL.ln Tryz.underlying28 V V V ?_);refine C 2 V (AP a3 (λbg bi=>?_) (λbg bo=>?_));refine C 4 V (Ei 8 λK=>?_);refine A9 K V [0,1] V ?_;let⟨c3,bv,bw⟩:=bs bi;refine CU 2 (ai.Ag O) bv K Tryz.underlying28 Av ?_;rintro c4 c5 _ rfl bx;refine CY 3 K 0 bx AV V V V V (A9 K V [4,5] V ?_);let⟨c6,b0,b1⟩:=bs bw;refine CU 6 (aj.Ag O) b0 K Tryz.underlying28 Av ?_;rintro c7 c8 _ rfl b2;refine CY 7 K 0 b2 AV V V V V (Cn [8] ?_);refine C 2 V (AP b1 (λb3 b4=>?_) (λb3 b5=>?_));refine JL.seq (Ei 8 λK=>?_);refine A9 K V [0,1] V ?_;let⟨c9,b6,ca⟩:=bs b4;refine CU 2 (ai.Ag O) b6 K Tryz.underlying28 Av ?_;rintro dd dj _ rfl cc;refine CY 3 K 0 cc AV V V V V (A9 K V [4,5] V ?_);let⟨ea,ce,ci⟩:=bs ca;refine CU 6 (aj.Ag O) ce K Tryz.underlying28 Av ?_;rintro eb ec _ rfl ck;refine CY 7 K 0 ck AV V V V V (Cn [8,9] ?_);refine C 3 V ?_;cases ci;obtain rfl:=a2 _ U;have co:=elim_inl aq;cases co;exact AK Tryz.func80 V V (am O V ⟨V,V⟩ ag);let⟨cp,ct,cw⟩:=bs b5;refine C 4 V (Bw ct V V V ?_);refine C 2 V ?_;cases cw;exact be cp O ag V U;refine JL.exit V ?_;cases bo;have cy:ap=(Sum.inr ()):=(a2 _ U).symm;exact AD (a9 _ _ ⟨(),bb,cy,V,V,O,ag⟩) V
def Nr(fu_:Nat)(p0:A0)(O:AZ×Int)(K:AZ×Int):Option (Bq (AZ×Int) (AZ)):=
 (ix p0.1 (O.2)).bind λZ=>
 if K.2<((Z).length:Int) then(
  (ix K.1 (O.2)).bind λU=>
  (ix p0.1 (O.2)).bind λac=>
  (ix ac (K.2)).bind λY=>
  (ix U (Y)).bind λag=>
  (Az (ag+1)).bind λai=>
  (Az (K.2+1)).bind λaj=>
  some (.more ((K.1.set (Int.toNat O.2) (U.set (Int.toNat Y) ai)),aj))
 ) else(
  some (.done K.1)
 )
def Px(fu_:Nat)(p0:A0)(K:AZ×Int):Option (Bq (AZ×Int) (AZ)):=
 if K.2<((K.1).length:Int) then(
  (Fx 10 (0:Int)).bind λO=>
  (ix K.1 (K.2)).bind λZ=>
  Option.bind (iter (Nr fu_ p0 K) fu_ ((K.1.set (Int.toNat K.2) O),0)) λU=>
  (Az (K.2+1)).bind λY=>
  some (.more (U,Y))
 ) else(
  some (.done K.1)
 )
def f79(fu_:Nat)(p0:A0):Option (AZ):=
 (Fx ((p0.1).length:Int) ([]:List Int)).bind λK=>
 Option.bind (iter (Px fu_ p0) fu_ (K,0)) λO=>
 some O
theorem iC{b4:Ap}{b5:Nat}{p0:A0}(b6:Am (rL rI) E a1 c2 (p0.1))(hE:Am Ay E b4 b5 (p0.2)){r:AZ}(ca:f79 fu_ p0=some r):AY J 46 [.agg #[.slice a1 (p0.1).length c2,.slice b4 (p0.2).length b5]] E [] (λw E' B'=>∃(cc:Ap) (ce:Nat),w=.slice cc (r).length ce/\B'=[]/\Am (rL rI) E' cc ce (r)):=by
 refine Bm Tryz.func46 λQ hF cs H dj ea=>?_;unfold f79 at ca;refine C 2 V (Cs dj λaj a7 a8 a9 eb=>?_);refine C 4 V (BH 0 a9 Tryz.underlying25 DD Ed ?_);refine JL.ln Tryz.underlying22 V V V ?_;let⟨O,ci,ec⟩:=bs ca;refine JS.make (pp:=(SH rI)) ci V V V V V Tryz.underlying22 CE (BJ Tryz.type28) (by decide) Jl (by decide) (.inl ⟨V,V⟩) eb λU ed bb ee=>?_;replace bb:=Cd.make (e2:=3) ci bb;let⟨ck,ef,eg⟩:=bs ec;refine C 7 V (Bu (λL s=>∃(be:LH) (bg:Seg),Jn a7 H be [bg] [(3,.slice (some ⟨U,0,none⟩) (ck).length (O).length)] L s (Cd 28 3 rI be (some ⟨U,0,none⟩) (O).length bg (ck))) ?_ ?_);rintro _ _ ⟨be,bg,rfl,rfl,ej,ek,el⟩;refine C 5 V (QP 0 el ek V λhG em eo er=>?_);cases eg;exact AK Tryz.func46 V V (ea ((a8.trans ej).trans em) V ⟨(some ⟨U,0,none⟩),(O).length,V,V,eo⟩ er);intro et;refine JL.block (Co ef (λL s K=>∃(al:LH) (a0:Seg),Jn a7 H al [a0] [(1,.pointer (some ⟨aj,0,none⟩)),(3,.slice (some ⟨U,0,none⟩) (K.1).length (O).length),(4,iV K.2)] L s (Cd 28 3 rI al (some ⟨U,0,none⟩) (O).length a0 (K.1))) ⟨a7,ed,V,V,(Le.refl _),ee,bb⟩ ?_);rintro _ _ K ⟨al,a0,rfl,rfl,am,co,cp⟩ eu ⟨hH,bi⟩ ew;have ct:=bi;unfold Px at ct;refine C 5 V (JL.ln Tryz.underlying22 V V V ?_);refine C 2 V (AP ct (λex ey=>?_) (λex eA=>?_));let⟨a2,eC,eN⟩:=bs ey;refine C 7 V (JS.make (pp:=rI) eC V V V V V Tryz.underlying28 Av (BJ Tryz.type3) (by decide) BR (by decide) V co λhI hJ e0 e1=>?_);let⟨hK,cw,e3⟩:=bs eN;let⟨e4,f70,hL,hM,hN,hO,hP,e5,cy⟩:=Cd.rowOf cp cw;refine Ao (v:=.pointer (some ⟨e4,Int.toNat (K.2)*1,none⟩)) V (λρ h=>Jp cy.ad cw Tryz.underlying22 CE (h _ _ V) (h _ _ V)) (UN 0 1 cy e0 e1 (qS some e5) (by decide) V CE V V V λe6 e7 e8=>?_);have bo:(K.1.set (Int.toNat K.2) a2).length=(K.1).length:=qY;refine DR (L':=[(1,.pointer (some ⟨aj,0,none⟩)),(3,.slice (some ⟨U,0,none⟩) ((K.1.set (Int.toNat K.2) a2)).length (O).length),(4,iV K.2),(10,iV K.2),(11,.slice (some ⟨U,0,none⟩) ((K.1.set (Int.toNat K.2) a2)).length (O).length),(12,iV ((K.1).length:Int)),(13,.bool (decide (K.2<((K.1).length:Int)))),(16,.slice (some ⟨U,0,none⟩) ((K.1.set (Int.toNat K.2) a2)).length (O).length),(17,iV K.2)]) ⟨V,by rw[bo];rfl,V,V,by rw[bo];rfl,V,V,by rw[bo];rfl,V,trivial⟩ ?_;let⟨bv,ff,fk⟩:=bs e3;refine C 5 V (Bu (λL s=>∃(a3:LH) (a4:Seg),Jn al H a3 [a4] [(1,.pointer (some ⟨aj,0,none⟩)),(3,.slice (some ⟨U,0,none⟩) (bv).length (O).length),(4,iV K.2)] L s (Cd 28 3 rI a3 (some ⟨U,0,none⟩) (O).length a4 (bv))) ?_ ?_);rintro _ _ ⟨a3,a4,rfl,rfl,fl,fm,fo⟩;let⟨fs,fv,fw⟩:=bs fk;refine C 3 V (Bw fv V V V ?_);refine C 2 V ?_;cases fw;exact AD (ew _ _ (bv,fs) ⟨a3,a4,V,V,(am.trans fl),fm,fo⟩ bi) V;intro fN;refine JL.block (Co ff (λL s Y=>∃(aq:LH) (a5:Seg),Jn al H aq [a5] [(1,.pointer (some ⟨aj,0,none⟩)),(3,.slice (some ⟨U,0,none⟩) (Y.1).length (O).length),(4,iV K.2),(5,iV Y.2)] L s (Cd 28 3 rI aq (some ⟨U,0,none⟩) (O).length a5 (Y.1))) ⟨al,e6,V,V,(Le.refl _),e8,e7⟩ ?_);rintro _ _ Y ⟨aq,a5,rfl,rfl,ap,a6,c0⟩ gc ⟨hQ,bw⟩ ge;have c1:=bw;unfold Nr at c1;refine C 4 V (BH 0 (a9.Ag (am.trans ap)) Tryz.underlying25 DD Ed ?_);let⟨bx,gg,gh⟩:=bs c1;refine C 1 V (JS.ix (b6.Ag ((a8.trans am).trans ap)) gg Tryz.underlying22 CE ?_);rintro gt gE _ ⟨gO,g3,rfl,hR⟩ g4;refine CJ 0 g4 ET V V V (JL.ln Tryz.underlying28 V V V ?_);refine C 2 V (AP gh (λg5 g6=>?_) (λg5 g7=>?_));refine C 3 V (P6 12 λZ=>?_);refine A9 Z V [0,1] V ?_;let⟨aw,c3,g8⟩:=bs g6;let⟨c4,f128,ha,hb,hc,hS,he,b0,b1⟩:=Cd.rowOf c0 c3;refine A6 (v:=.pointer (some ⟨c4,Int.toNat (K.2)*1,none⟩)) 2 Z V V (λρ h s' ai=>Jp b1.ad c3 Tryz.underlying22 CE (h _ _ V) (h _ _ V)) (A6 (v:=.slice ha (aw).length hb) 3 Z V V (λρ h s' ai=>Yl.load ET (h _ _ V) (Kf ai (Tg (j:=0) a6 (qS some b0) (List.Mem.head _) b1.hd))) ?_);refine JG.fd 4 Z Tryz.underlying25 DD V V V V (A6 (v:=.slice a1 (p0.1).length c2) 5 Z V V (λρ h s' ai=>Yl.load Ed (h _ _ V) (Kf ai (At.Iy (j:=0) (a9.Ag (am.trans ap)) V))) ?_);refine Dt 6 Z V V ?_;let⟨c5,hf,hg⟩:=bs g8;refine CU 7 (b6.Ag ((a8.trans am).trans ap)) hf Z Tryz.underlying22 CE ?_;rintro hk hl _ ⟨c6,c7,rfl,hm⟩ hn;refine A6 (v:=.slice c6 (c5).length c7) 8 Z V V (λρ h s' ai=>Yl.load ET (h _ _ V) (Kf ai (At.Iy (j:=0) hn V))) (Dt 9 Z V V ?_);let⟨ac,ho,hp⟩:=bs hg;refine CU 10 hm ho Z Tryz.underlying28 Av ?_;rintro hq hr _ rfl hs;refine A6 (v:=iV ac) 11 Z V V (λρ h s' ai=>Yl.load AV (h _ _ V) (Kf ai (At.Iy (j:=0) hs V))) (Cn [12,13,14,15,16] ?_);let⟨c8,b2,ht⟩:=bs hp;obtain⟨b3,f152,_,c9,rfl,rfl,hu,hv,hw⟩:=Nw.elem b1 b2;refine Ao (v:=.pointer (some ⟨b3,Int.toNat (ac)*1,none⟩)) V (λρ h=>Jp c9 b2 Tryz.underlying28 Av (h _ _ V) (h _ _ V)) (Ao (v:=iV c8) V (λρ h=>Yl.load AV (h _ _ V) (Tg (j:=0) a6 (qS some b0) cg (hu 0 _ V))) ?_);let⟨ag,hx,hy⟩:=bs ht;refine Bw hx V V V (Ao (v:=.pointer (some ⟨b3,Int.toNat (ac)*1,none⟩)) V (λρ h=>Jp c9 b2 Tryz.underlying28 Av (h _ _ V) (h _ _ V)) ?_);refine bT (v:=iV ag) (off:=Int.toNat (ac)*1) 0 a6 (qS some b0) Av V V V (by have:=hv;simp only[Rp.n,rK,rN,rB,rP,rL] at this;show _+1<=_;omega) (by simp[Value.cells,CL]) λhz=>?_;have hA:=hw _ (ag) [iV ag] (Le.refl _) V;have dd:(Y.1.set (Int.toNat K.2) (aw.set (Int.toNat ac) ag)).length=(Y.1).length:=qY;refine DR (L':=[(1,.pointer (some ⟨aj,0,none⟩)),(3,.slice (some ⟨U,0,none⟩) ((Y.1.set (Int.toNat K.2) (aw.set (Int.toNat ac) ag))).length (O).length),(4,iV K.2),(5,iV Y.2),(20,iV Y.2),(21,.pointer (some ⟨aj,0,none⟩)),(22,.slice a1 (p0.1).length c2),(23,iV K.2),(24,.pointer (some ⟨gt,gE,none⟩)),(25,.slice gO (bx).length g3),(26,iV ((bx).length:Int)),(27,.bool (decide (Y.2<((bx).length:Int)))),(30,.slice (some ⟨U,0,none⟩) ((Y.1.set (Int.toNat K.2) (aw.set (Int.toNat ac) ag))).length (O).length),(31,iV K.2),(34,.pointer (some ⟨aj,0,none⟩)),(35,.slice a1 (p0.1).length c2),(36,iV K.2),(37,.pointer (some ⟨hk,hl,none⟩)),(38,.slice c6 (c5).length c7),(39,iV Y.2),(40,.pointer (some ⟨hq,hr,none⟩)),(41,iV ac),(43,iV c8),(44,iV ag)]) ⟨V,by rw[dd];rfl,V,V,V,V,V,V,V,V,V,V,by rw[dd];rfl,V,V,V,V,V,V,V,V,V,V,V,trivial⟩ ?_;let⟨hB,hC,hD⟩:=bs hy;refine C 4 V (Bw hC V V V ?_);refine C 2 V ?_;cases hD;exact AD (ge _ _ ((Y.1.set (Int.toNat K.2) (aw.set (Int.toNat ac) ag)),hB) ⟨aq,(rs (c4,.cells f128 28 (0,0)) hc (b3,.cells (Bf f152 (Int.toNat (ac)*1) [iV ag]) 3 (0,0)) he),V,V,ap,hz,hA⟩ bw) V;refine JL.exit V ?_;cases g7;obtain rfl:=gc _ bw;exact AD (fN _ _ ⟨aq,a5,V,V,ap,a6,c0⟩) V;refine JL.exit V ?_;cases eA;obtain rfl:=eu _ bi;exact AD (et _ _ ⟨al,a0,V,V,am,co,cp⟩) V
def M8(fu_:Nat)(p1:Int)(Y:AZ×Int)(U:AZ)(K:AZ×AZ×Int):Option (Bq (AZ×AZ×Int) (AZ)):=
 if K.2.2<(((U).length:Nat):Int) then(
  (Qe (U).length K.2.1 (K.2.2)).bind λO=>
  (ix O.1 (p1)).bind λag=>
  (room K.1 (O.1.set (Int.toNat p1) Y.2)).bind λZ=>
  (Az (K.2.2+1)).bind λac=>
  some (.more (Z,O.2,ac))
 ) else(
  some (.done K.1)
 )
def OB(fu_:Nat)(p0:List Int)(p1:Int)(p2:Int)(rec:(List Int)->Int->Int->Option (AZ))(K:AZ×Int):Option (Bq (AZ×Int) (AZ)):=
 (ix p0 (p1)).bind λU=>
 if K.2<=U then(
  (Az (p1 - 1)).bind λY=>
  (Az (K.2*p1)).bind λZ=>
  (Az (p2 - Z)).bind λac=>
  (rec p0 Y ac).bind λO=>
  Option.bind (iter (M8 fu_ p1 K O) fu_ (K.1,O,0)) λag=>
  (Az (K.2+1)).bind λai=>
  some (.more (ag,ai))
 ) else(
  some (.done K.1)
 )
def Ln(rec:(List Int)->Int->Int->Option (AZ))(fu_:Nat)(p0:List Int)(p1:Int)(p2:Int):Option (AZ):=
 if p2<0 then(
  some ([])
 ) else(
  if p1=0 then(
   if 0<p2 then(
    some ([])
   ) else(
    (Fx 10 (0:Int)).bind λK=>
    some ([K])
   )
  ) else(
   Option.bind (iter (OB fu_ p0 p1 p2 rec) fu_ ([],0)) λO=>
   some O
  )
 )
abbrev P1(J:Judge Tryz.prog)(rec:(List Int)->Int->Int->Option (AZ)):Prop:=∀{E:LH}{a1:Ap}{c2:Nat}{p0:List Int}{p1:Int}{p2:Int}(U:Am rI E a1 c2 (p0)) {r:AZ}(Y:rec p0 p1 p2=some r),AY J 78 [.slice a1 (p0).length c2,iV p1,iV p2] E [] (λw E' B'=>∃(K:Ap) (O:Nat) (g0:Seg),w=.slice K (r).length O/\B'=g0/\Cd 28 3 rI E' K O g0 (r))
theorem aT{J:Judge Tryz.prog}{rec:(List Int)->Int->Int->Option (AZ)}(c1:P1 J rec):P1 J (Ln rec fu_):=by
 intro E a1 c2 p0 p1 p2 b3 r b4;refine Bm Tryz.func78 λQ hA cs H a2 a3=>?_;unfold Ln at b4;refine C 10 V (AP b4 (λc4 c3=>?_) (λc4 c5=>?_));refine C 4 V ?_;cases c3;exact AK Tryz.func78 V V (a3 (Le.refl _) V ⟨none,0,[],V,(by first | rfl | simp),Cd.nil⟩ a2);refine C 7 V (AP c5 (λc6 c7=>?_) (λc6 c8=>?_));refine C 6 V (AP c7 (λc9 dd=>?_) (λc9 dj=>?_));refine C 4 V ?_;cases dd;exact AK Tryz.func78 V V (a3 (Le.refl _) V ⟨none,0,[],V,(by first | rfl | simp),Cd.nil⟩ a2);let⟨hB,ea,eb⟩:=bs dj;refine C 3 V (JS.make (pp:=rI) ea V V V V V Tryz.underlying28 Av (BJ Tryz.type3) (by decide) BR (by decide) V a2 λhC hD ec ed=>?_);refine cN (pp:=rI) 1 V V V Tryz.underlying22 CE Jl V ec ed V λee ef eg ej=>C 2 V ?_;cases eb;exact AK Tryz.func78 V V (a3 (Le.refl _) V ⟨(some ⟨ee,0,none⟩),1,ef,V,(by first | rfl | simp),eg⟩ ej);let⟨b5,ek,el⟩:=bs c8;refine C 10 V (Bu (λL s=>∃(bi:LH) (a4:Ap) (a5:Nat) (a6:Seg),Jn E H bi [a6] [(7,.slice a4 (b5).length a5)] L s (Cd 28 3 rI bi a4 a5 a6 (b5))) ?_ ?_);rintro _ _ ⟨bi,a4,a5,a6,rfl,rfl,em,eo,er⟩;refine C 5 V ?_;cases el;exact AK Tryz.func78 V V (a3 em V ⟨a4,a5,a6,V,(by first | rfl | simp),er⟩ eo);intro et;refine JL.block (Co ek (λL s K=>∃(a7:LH) (aj:Ap) (al:Nat) (am:Seg),Jn E H a7 [am] [(0,.slice a1 (p0).length c2),(1,iV p1),(2,iV p2),(7,.slice aj (K.1).length al),(8,iV K.2)] L s (Cd 28 3 rI a7 aj al am (K.1))) ⟨E,none,0,[],V,V,(Le.refl _),a2,Cd.nil⟩ ?_);rintro _ _ K ⟨a7,aj,al,am,rfl,rfl,a8,b6,ca⟩ eu ⟨hE,bo⟩ ew;have cc:=bo;unfold OB at cc;let⟨hF,ex,ey⟩:=bs cc;refine C 6 V (JS.ix (b3.Ag a8) ex Tryz.underlying28 Av ?_);rintro hG hH _ rfl eA;refine CJ 0 eA AV V V V (C 2 V ?_);refine AP ey (λeC eN=>?_) (λeC e0=>?_);let⟨hI,e1,e3⟩:=bs eN;refine C 7 V (Cx e1 V V V ?_);let⟨hJ,e4,e5⟩:=bs e3;refine C 3 V (Ao V (λρ h=>Na (h _ _ V) (h _ _ V) e4) ?_);let⟨hK,e6,e7⟩:=bs e5;refine Cx e6 V V V ?_;let⟨Y,e8,ff⟩:=bs e7;refine BU (c1 (b3.Ag a8) e8) V V (A4 Tryz.func78 V) b6 ?_;rintro _ bv fk ce ⟨ap,aq,_,rfl,rfl,fl⟩ fm;have fo:=K0.of fl;let⟨bw,fs,fv⟩:=bs ff;refine C 6 V (Bu (λL s=>∃(a9:LH) (bb:Ap) (be:Nat) (bg:Seg),Jn bv H a9 [bg] [(0,.slice a1 (p0).length c2),(1,iV p1),(2,iV p2),(7,.slice bb (bw).length be),(8,iV K.2)] L s (Cd 28 3 rI a9 bb be bg (bw))) ?_ ?_);rintro _ _ ⟨a9,bb,be,bg,rfl,rfl,fw,fN,gc⟩;let⟨ge,gg,gh⟩:=bs fv;refine C 3 V (Bw gg V V V ?_);refine C 2 V ?_;cases gh;exact AD (ew _ _ (bw,ge) ⟨a9,bb,be,bg,V,V,((a8.trans ce).trans fw),fN,gc⟩ bo) V;intro gt;refine JL.block (Co fs (λL s O=>∃(Z:LH) (ac:Ap) (ag:Nat) (aw:Seg) (bx:Seg),Jn bv H Z [aw,bx] [(0,.slice a1 (p0).length c2),(1,iV p1),(2,iV p2),(7,.slice ac (O.1).length ag),(8,iV K.2),(9,.slice ap (Y).length aq),(10,iV O.2.2)] L s (Cd 28 3 rI Z ac ag aw (O.1)/\K0 28 3 rI Z ap aq (Y).length bx (O.2.1))) ⟨bv,aj,al,am,fk,V,V,(Le.refl _),fm,(ca.Ag ce),fo⟩ ?_);rintro _ _ O ⟨Z,ac,ag,aw,bx,rfl,rfl,ci,ck,co,gE⟩ gO ⟨hL,b0⟩ g3;have cp:=b0;unfold M8 at cp;refine C 5 V (JL.ln Tryz.underlying22 V V V ?_);refine C 2 V (AP cp (λg4 g5=>?_) (λg4 g6=>?_));let⟨ai,g7,g8⟩:=bs g5;refine C 4 V ?_;obtain⟨a0,f142,b1,b2,ha,ct,rfl,U⟩:=K0.out gE g7;refine JS.perm (S':=[aw,[(a0,.cells f142 28 (0,0))],ct,ha]) (bu 1 V) ck λcw=>C 3 V (Ao (v:=.pointer (some ⟨a0,Int.toNat (O.2.2)*1,none⟩)) V (λρ h=>Vs U.ad U.bd Tryz.underlying22 CE (h _ _ V) (h _ _ V)) ?_);refine Ao (v:=.slice b1 (ai.1).length b2) V (λρ h=>Yl.load ET (h _ _ V) (BY (j:=1) cw V U.hd)) ?_;let⟨hM,hb,hc⟩:=bs g8;refine C 2 V (HS 3 U.ol hb V V V V V V Tryz.underlying28 Av ?_);rintro he cy f155 _ hf rfl hN hg hk hO hP;refine JS.store (v:=iV K.2) (off:=cy) 3 V V V cw V V Av (by simp[Value.cells,CL]) hf (by have:=hg;simp only[Rp.n,rK,rN,rB,rP,rL] at this;show _+1<=_;omega) λc0=>?_;have hl:=hk (K.2) [iV K.2] V;have hm:(ai.1.set (Int.toNat p1) K.2).length=(ai.1).length:=qY;refine DR (L':=[(0,.slice a1 (p0).length c2),(1,iV p1),(2,iV p2),(7,.slice ac (O.1).length ag),(8,iV K.2),(9,.slice ap (Y).length aq),(10,iV O.2.2),(36,iV O.2.2),(37,.slice ap (Y).length aq),(38,iV (((Y).length:Nat):Int)),(39,.bool (decide (O.2.2<(((Y).length:Nat):Int)))),(42,.slice ap (Y).length aq),(43,iV O.2.2),(44,.pointer (some ⟨a0,Int.toNat (O.2.2)*1,none⟩)),(45,.slice b1 ((ai.1.set (Int.toNat p1) K.2)).length b2),(46,iV p1),(47,iV K.2),(48,.pointer (some ⟨he,cy,none⟩))]) ⟨V,V,V,V,V,V,V,V,V,V,V,V,V,V,by rw[hm];rfl,V,V,V,trivial⟩ ?_;refine C 5 V (Ao (v:=.pointer (some ⟨a0,Int.toNat (O.2.2)*1,none⟩)) V (λρ h=>Vs U.ad U.bd Tryz.underlying22 CE (h _ _ V) (h _ _ V)) ?_);refine Ao (v:=.slice b1 ((ai.1.set (Int.toNat p1) K.2)).length b2) V (λρ h=>Yl.load ET (h _ _ V) (BY (j:=1) c0 V (by rw[qY];exact U.hd))) ?_;let⟨hn,ho,hp⟩:=bs hc;refine bW (pp:=rI) (a:=ac) (c:=ag) 0 3 ho V V V V (λ_=>V) V (λ_=>V) V V V Tryz.underlying22 Tryz.underlying22 Tryz.underlying22 CE (BJ Tryz.type28) Jl V (by decide) (by decide) co hl c0 V V (by decide) λhQ hq hr hs ht hu=>Hf 1 2 V V hu λhv=>?_;let⟨hw,hx,hy⟩:=bs hp;refine C 5 V (Bw hx V V V ?_);refine C 2 V ?_;cases hy;exact AD (g3 _ _ (hn,ai.2,hw) ⟨Z,hq,hr,hs,((a0,.cells f142 28 (0,0))::ct),V,V,ci,hv,ht,U.rest⟩ b0) V;refine JL.exit V (JS.drop 1 ck V λhz=>?_);cases g6;obtain rfl:=gO _ b0;exact AD (gt _ _ ⟨Z,ac,ag,aw,V,V,ci,hz,co⟩) V;refine JL.exit V ?_;cases e0;obtain rfl:=eu _ bo;exact AD (et _ _ ⟨a7,aj,al,am,V,V,a8,b6,ca⟩) V
def Mq:Nat->Nat->(List Int)->Int->Int->Option (AZ)
 | 0,_=>λ_ _ _=>none
 | n+1,fu_=>λp0 p1 p2=>Ln (Mq n fu_) fu_ p0 p1 p2
theorem bA{J:Judge Tryz.prog}{n:Nat}:P1 J (Mq n fu_):=by
 induction n with
 | zero=>intro _ _ _ _ _ _ _ _ K;cases K
 | succ n O=>exact aT O
def f125(fu_:Nat)(p0:List Int)(p1:Int)(p2:Int):Option (AZ):=Mq fu_ fu_ p0 p1 p2
theorem gk:P1 J (f125 fu_):=bA (n:=fu_) (fu_:=fu_)
def Nh(fu_:Nat)(p0:AZ)(K:AZ×Int):Option (Bq (AZ×Int) (AZ)):=
 if K.2<((K.1).length:Int) then(
  (ix p0 (K.2)).bind λO=>
  (CZ ([]:List Int) O).bind λU=>
  (ix K.1 (K.2)).bind λZ=>
  (Az (K.2+1)).bind λY=>
  some (.more ((K.1.set (Int.toNat K.2) U),Y))
 ) else(
  some (.done K.1)
 )
def OU(fu_:Nat)(p1:Int×Int×Int)(p2:List Int)(K:AZ×Int):Option (Bq (AZ×Int) (AZ)):=
 if K.2<=9 then(
  (Qn (p1.1) (p1.2.1)).bind λam=>
  (ix K.1 (p1.1)).bind λO=>
  (ix K.1 (p1.2.1)).bind λU=>
  (ix O (K.2)).bind λap=>
  (ix U (K.2)).bind λaq=>
  (ix O (K.2)).bind λY=>
  (ix p2 (K.2)).bind λZ=>
  (Az (Y - Z)).bind λac=>
  (ix U (K.2)).bind λag=>
  (ix p2 (K.2)).bind λai=>
  (Az (ag+ai)).bind λaj=>
  (Az (K.2+1)).bind λal=>
  some (.more (((K.1.set (Int.toNat p1.1) (O.set (Int.toNat K.2) ac)).set (Int.toNat p1.2.1) (U.set (Int.toNat K.2) aj)),al))
 ) else(
  some (.done K.1)
 )
def f126(fu_:Nat)(p0:AZ)(p1:Int×Int×Int)(p2:List Int):Option (AZ):=
 (Fx ((p0).length:Int) ([]:List Int)).bind λK=>
 Option.bind (iter (Nh fu_ p0) fu_ (K,0)) λO=>
 Option.bind (iter (OU fu_ p1 p2) fu_ (O,0)) λU=>
 some U
theorem Nn{ai:Ap}{p0:AZ}{p1:Int×Int×Int}{p2:List Int}(ed:Am (rL rI) E a1 c2 (p0))(cp:Am rI E ai dn (p2)){r:AZ}(ct:f126 fu_ p0 p1 p2=some r):AY J 79 [.slice a1 (p0).length c2,.agg #[iV p1.1,iV p1.2.1,iV p1.2.2],.slice ai (p2).length dn] E [] (λw E' B'=>∃(cw:Ap) (cy:Nat),w=.slice cw (r).length cy/\B'=[]/\Am (rL rI) E' cw cy (r)):=by
 refine Bm Tryz.func79 λQ h7 cs H ee ef=>?_;unfold f126 at ct;refine C 2 V (Cs ee λY b1 bg bi eg=>?_);refine C 5 V (JL.ln Tryz.underlying22 V V V ?_);let⟨Z,c0,ej⟩:=bs ct;refine JS.make (pp:=(SH rI)) c0 V V V V V Tryz.underlying22 CE (BJ Tryz.type28) (by decide) Jl (by decide) (.inl ⟨V,V⟩) eg λac ek b2 el=>?_;replace b2:=Cd.make (e2:=3) c0 b2;let⟨c1,em,eo⟩:=bs ej;refine C 7 V (Bu (λL s=>∃(a0:LH) (bo:Seg),Jn b1 H a0 [bo] [(2,.slice ai (p2).length dn),(4,.pointer (some ⟨Y,0,none⟩)),(7,.slice (some ⟨ac,0,none⟩) (c1).length (Z).length)] L s (Cd 28 3 rI a0 (some ⟨ac,0,none⟩) (Z).length bo (c1))) ?_ ?_)
 .rintro _ _ ⟨a0,bo,rfl,rfl,am,er,et⟩;let⟨c3,eu,ew⟩:=bs eo;refine C 5 V (Bu (λL s=>∃(b3:LH) (b4:Seg),Jn a0 H b3 [b4] [(7,.slice (some ⟨ac,0,none⟩) (c3).length (Z).length)] L s (Cd 28 3 rI b3 (some ⟨ac,0,none⟩) (Z).length b4 (c3))) ?_ ?_);rintro _ _ ⟨b3,b4,rfl,rfl,ex,ey,eA⟩;refine C 5 V (QP 0 eA ey V λh8 eC eN e0=>?_);cases ew;exact AK Tryz.func79 V V (ef (((bg.trans am).trans ex).trans eC) V ⟨(some ⟨ac,0,none⟩),(Z).length,V,V,eN⟩ e0)
  .intro e1;refine JL.block (Co eu (λL s U=>∃(a5:LH) (bv:Seg),Jn a0 H a5 [bv] [(2,.slice ai (p2).length dn),(4,.pointer (some ⟨Y,0,none⟩)),(7,.slice (some ⟨ac,0,none⟩) (U.1).length (Z).length),(9,iV U.2)] L s (Cd 28 3 rI a5 (some ⟨ac,0,none⟩) (Z).length bv (U.1))) ⟨a0,bo,V,V,(Le.refl _),er,et⟩ ?_);rintro _ _ U ⟨a5,bv,rfl,rfl,al,c4,c5⟩ e3 ⟨h9,b5⟩ e4;have c6:=b5;unfold OU at c6;refine C 6 V (AP c6 (λe5 e6=>?_) (λe5 e7=>?_))
   .let⟨ia,e8,ff⟩:=bs e6;let⟨ap,b6,fk⟩:=bs ff;let⟨aq,ca,fl⟩:=bs fk;refine C 3 V ?_;let⟨a2,f84,ih,ii,c7,c8,fm,fo,fs,fv,ag⟩:=Cd.ja c5 b6 ca e8;refine JS.perm (S':=[[(a2,.cells f84 28 (0,0))],fs,fm,fo]) (iB 0 V fv) c4 λaw=>?_;let⟨io,fw,fN⟩:=bs fl;let⟨cc,f101,gc,a6⟩:=WL.of ag.oi fw;obtain⟨rfl,rfl⟩:=gc;let⟨i0,ge,gg⟩:=bs fN;let⟨ce,f107,gh,a7⟩:=WL.of ag.oj ge;obtain⟨rfl,rfl⟩:=gh;refine Hi [39,41] [cc,ce] [a2] mixed V (Bo 0 V V ?_);refine Cy (v:=.pointer (some ⟨Y,0,none⟩)) 1 true V V (λρ h s' K=>Ep (a:=⟨Y,0,none⟩) 0 0 Tryz.underlying27 Av V V V (h _ _ V)) (EV (v:=iV p1.1) 2 V (by decide+kernel) V V V (λρ h s' K=>Yl.load AV (h _ _ V) (At.EI (j:=0) (bi.Ag (am.trans al)) K V)) ?_);refine Cy (v:=.pointer (some ⟨a2,Int.toNat (p1.1)*1,none⟩)) 3 true V V (λρ h s' K=>Jp ag.ad b6 Tryz.underlying22 CE (h _ _ V) (h _ _ V)) (Nc (v:=.slice (some ⟨cc,0,none⟩) (ap).length c7) 4 V (by decide+kernel) V V V (λρ h s' K=>Yl.load ET (h _ _ V) (B8 0 aw V (by simp[AH]) K ag.hi)) ?_);refine Bo 5 V V (Bo 6 V V ?_);refine Cy (v:=.pointer (some ⟨Y,1,none⟩)) 7 true V V (λρ h s' K=>Ep (a:=⟨Y,0,none⟩) 0 1 Tryz.underlying27 Av V V V (h _ _ V)) (EV (v:=iV p1.2.1) 8 V (by decide+kernel) V V V (λρ h s' K=>Yl.load AV (h _ _ V) (At.EI (j:=1) (bi.Ag (am.trans al)) K V)) ?_);refine Cy (v:=.pointer (some ⟨a2,Int.toNat (p1.2.1)*1,none⟩)) 9 true V V (λρ h s' K=>Jp ag.ad ca Tryz.underlying22 CE (h _ _ V) (h _ _ V)) (Nc (v:=.slice (some ⟨ce,0,none⟩) (aq).length c8) 10 V (by decide+kernel) V V V (λρ h s' K=>Yl.load ET (h _ _ V) (B8 0 aw V (by simp[AH]) K ag.hj)) ?_);refine Bo 11 V V (Bo 12 V V ?_);refine Cy (v:=.pointer (some ⟨Y,0,none⟩)) 13 true V V (λρ h s' K=>Ep (a:=⟨Y,0,none⟩) 0 0 Tryz.underlying27 Av V V V (h _ _ V)) (EV (v:=iV p1.1) 14 V (by decide+kernel) V V V (λρ h s' K=>Yl.load AV (h _ _ V) (At.EI (j:=0) (bi.Ag (am.trans al)) K V)) ?_);refine Cy (v:=.pointer (some ⟨a2,Int.toNat (p1.1)*1,none⟩)) 15 true V V (λρ h s' K=>Jp ag.ad b6 Tryz.underlying22 CE (h _ _ V) (h _ _ V)) (Nc (v:=.slice (some ⟨cc,0,none⟩) (ap).length c7) 16 V (by decide+kernel) V V V (λρ h s' K=>Yl.load ET (h _ _ V) (B8 0 aw V (by simp[AH]) K ag.hi)) ?_);refine Bo 17 V V ?_;let⟨gt,bw,gE⟩:=bs gg;obtain⟨_,rfl,gO⟩:=WL.at a6 bw;refine JB.ix 18 a6.2 bw Tryz.underlying28 Av ?_;refine JB.val (v:=iV gt) 19 false V (by decide+kernel) V V V (λρ h s' K=>have K:=K V;Yl.load AV (h _ _ V) (B8 2 aw V (by simp[AH]) K (gO 0 _ V))) (Bo 20 V V ?_);refine Bo 21 V V ?_;let⟨g3,g4,g5⟩:=bs gE;obtain⟨g6,g7,_,rfl,g8,ha⟩:=Am.Qk (P:=Tryz.prog) (cp.Ag ((bg.trans am).trans al)) g4;refine JB.val (v:=.pointer (some ⟨g6,g7,none⟩)) 22 true V (by decide+kernel) V V V (λρ h s' K=>ha Tryz.underlying28 Av (h _ _ V) (h _ _ V)) (EV (v:=iV g3) 23 V (by decide+kernel) V V V (λρ h s' K=>Yl.load AV (h _ _ V) (At.EI (j:=0) g8 K V)) ?_);let⟨a3,hb,hc⟩:=bs g5;refine Cy 24 true V V (λρ h s' K=>Eo (h _ _ V) (h _ _ V) hb) (Bo 25 V V ?_);refine Cy (v:=.pointer (some ⟨Y,1,none⟩)) 26 true V V (λρ h s' K=>Ep (a:=⟨Y,0,none⟩) 0 1 Tryz.underlying27 Av V V V (h _ _ V)) (EV (v:=iV p1.2.1) 27 V (by decide+kernel) V V V (λρ h s' K=>Yl.load AV (h _ _ V) (At.EI (j:=1) (bi.Ag (am.trans al)) K V)) ?_);refine Cy (v:=.pointer (some ⟨a2,Int.toNat (p1.2.1)*1,none⟩)) 28 true V V (λρ h s' K=>Jp ag.ad ca Tryz.underlying22 CE (h _ _ V) (h _ _ V)) (Nc (v:=.slice (some ⟨ce,0,none⟩) (aq).length c8) 29 V (by decide+kernel) V V V (λρ h s' K=>Yl.load ET (h _ _ V) (B8 0 aw V (by simp[AH]) K ag.hj)) ?_);refine Bo 30 V V ?_;let⟨he,bx,hf⟩:=bs hc;obtain⟨_,rfl,hg⟩:=WL.at a7 bx;refine JB.ix 31 a7.2 bx Tryz.underlying28 Av ?_;refine JB.val (v:=iV he) 32 false V (by decide+kernel) V V V (λρ h s' K=>have K:=K V;Yl.load AV (h _ _ V) (B8 3 aw V (by simp[AH]) K (hg 0 _ V))) (Bo 33 V V ?_);refine Bo 34 V V ?_;let⟨hk,hl,hm⟩:=bs hf;obtain⟨hn,ho,_,rfl,hp,hq⟩:=Am.Qk (P:=Tryz.prog) (cp.Ag ((bg.trans am).trans al)) hl;refine JB.val (v:=.pointer (some ⟨hn,ho,none⟩)) 35 true V (by decide+kernel) V V V (λρ h s' K=>hq Tryz.underlying28 Av (h _ _ V) (h _ _ V)) (EV (v:=iV hk) 36 V (by decide+kernel) V V V (λρ h s' K=>Yl.load AV (h _ _ V) (At.EI (j:=0) hp K V)) ?_);let⟨a4,hr,hs⟩:=bs hm;refine Cy 37 true V V (λρ h s' K=>F5 (h _ _ V) (h _ _ V) hr) (JB.ix 38 a6.2 bw Tryz.underlying28 Av ?_);have a8:=WL.put (x':=a3) (ws':=[iV a3]) a6 a6.2 bw V;refine JB.sx 39 2 aw Av ⟨⟨0,_,V,V⟩,trivial⟩ a8.2 λht=>?_;refine JB.ix 40 a7.2 bx Tryz.underlying28 Av ?_;have a9:=WL.put (x':=a4) (ws':=[iV a4]) a7 a7.2 bx V;refine JB.sx 41 3 ht Av ⟨⟨0,_,V,V⟩,trivial⟩ a9.2 λhu=>?_;refine JB.fin (by decide+kernel) ?_;have i1:=(a8.1).1;have i3:((ap.set (Int.toNat U.2) a3)).length=(ap).length:=(a8.1).2;refine EW [(2,.slice ai (p2).length dn),(4,.pointer (some ⟨Y,0,none⟩)),(7,.slice (some ⟨ac,0,none⟩) (U.1).length (Z).length),(9,iV U.2)] V ?_;have i4:=(a9.1).1;have i5:((aq.set (Int.toNat U.2) a4)).length=(aq).length:=(a9.1).2;refine EW [(2,.slice ai (p2).length dn),(4,.pointer (some ⟨Y,0,none⟩)),(7,.slice (some ⟨ac,0,none⟩) (U.1).length (Z).length),(9,iV U.2)] V ?_;let⟨c9,hv,hw⟩:=ag.close _ _ _ _ _ (Le.refl _) (a8.1).2 (a9.1).2 (a8.1).1 (a9.1).1;refine JS.perm (S':=[c9,[],[],[]]) (gi 0 1 2 3 V V V V (by decide) hv) hu λhx=>?_;have hy:((U.1.set (Int.toNat p1.1) (ap.set (Int.toNat U.2) a3)).set (Int.toNat p1.2.1) (aq.set (Int.toNat U.2) a4)).length=(U.1).length:=by rw[qY,qY]
    refine DR (L':=[(2,.slice ai (p2).length dn),(4,.pointer (some ⟨Y,0,none⟩)),(7,.slice (some ⟨ac,0,none⟩) (((U.1.set (Int.toNat p1.1) (ap.set (Int.toNat U.2) a3)).set (Int.toNat p1.2.1) (aq.set (Int.toNat U.2) a4))).length (Z).length),(9,iV U.2)]) ⟨V,V,by rw[hy];rfl,V,trivial⟩ ?_;let⟨hz,hA,hB⟩:=bs hs;refine C 3 V (Bw hA V V V ?_);refine C 2 V ?_;cases hB;exact AD (e4 _ _ (((U.1.set (Int.toNat p1.1) (ap.set (Int.toNat U.2) a3)).set (Int.toNat p1.2.1) (aq.set (Int.toNat U.2) a4)),hz) ⟨a5,c9,V,V,al,hx,hw⟩ b5) V
   .refine JL.exit V ?_;cases e7;obtain rfl:=e3 _ b5;exact AD (e1 _ _ ⟨a5,bv,V,V,al,c4,c5⟩) V
 .intro hC;refine JL.block (Co em (λL s O=>∃(bb:LH) (b0:Seg),Jn b1 H bb [b0] [(0,.slice a1 (p0).length c2),(2,.slice ai (p2).length dn),(4,.pointer (some ⟨Y,0,none⟩)),(7,.slice (some ⟨ac,0,none⟩) (O.1).length (Z).length),(8,iV O.2)] L s (Cd 28 3 rI bb (some ⟨ac,0,none⟩) (Z).length b0 (O.1))) ⟨b1,ek,V,V,(Le.refl _),el,b2⟩ ?_);rintro _ _ O ⟨bb,b0,rfl,rfl,ci,dd,dj⟩ hD ⟨i6,ck⟩ hE;have ea:=ck;unfold Nh at ea;refine C 5 V (JL.ln Tryz.underlying22 V V V ?_);refine C 2 V (AP ea (λhF hG=>?_) (λhF hH=>?_));refine C 6 V (Mk (pp:=rI) V V V Tryz.underlying28 Av dd λi7 i8 hI hJ=>?_);let⟨hK,hL,hM⟩:=bs hG;refine C 2 V (JS.ix (ed.Ag (bg.trans ci)) hL Tryz.underlying22 CE ?_);rintro hN hO _ ⟨hP,hQ,rfl,hR⟩ hS;refine CJ 0 hS ET V V V ?_;let⟨be,hT,hU⟩:=bs hM;refine FM (pp:=rI) 1 hT V V V V V V V Tryz.underlying28 Tryz.underlying28 Av (BJ Tryz.type3) BR V (by decide) (by decide) hI hR hJ V λi9 jg ji hV hW=>?_;let⟨jj,eb,hX⟩:=bs hU;let⟨hY,f191,jp,jr,jt,jy,jT,h0,ec⟩:=Cd.rowOf dj eb;refine Ao (v:=.pointer (some ⟨hY,Int.toNat (O.2)*1,none⟩)) V (λρ h=>Jp ec.ad eb Tryz.underlying22 CE (h _ _ V) (h _ _ V)) (UN 0 1 ec hV hW (qS some h0) (by decide) V CE V V V λh1 h2 h3=>?_);have co:(O.1.set (Int.toNat O.2) be).length=(O.1).length:=qY;refine DR (L':=[(0,.slice a1 (p0).length c2),(2,.slice ai (p2).length dn),(4,.pointer (some ⟨Y,0,none⟩)),(7,.slice (some ⟨ac,0,none⟩) ((O.1.set (Int.toNat O.2) be)).length (Z).length),(8,iV O.2),(13,iV O.2),(14,.slice (some ⟨ac,0,none⟩) ((O.1.set (Int.toNat O.2) be)).length (Z).length),(15,iV ((O.1).length:Int)),(16,.bool (decide (O.2<((O.1).length:Int)))),(19,.slice (some ⟨ac,0,none⟩) ((O.1.set (Int.toNat O.2) be)).length (Z).length),(20,iV O.2),(22,.slice a1 (p0).length c2),(23,iV O.2),(24,.pointer (some ⟨hN,hO,none⟩)),(25,.slice hP (hK).length hQ)]) ⟨V,V,V,by rw[co];rfl,V,V,by rw[co];rfl,V,V,by rw[co];rfl,V,V,V,V,V,trivial⟩ ?_;let⟨h4,h5,h6⟩:=bs hX;refine C 4 V (Bw h5 V V V ?_);refine C 2 V ?_;cases h6;exact AD (hE _ _ ((O.1.set (Int.toNat O.2) be),h4) ⟨bb,h1,V,V,ci,h3,h2⟩ ck) V;refine JL.exit V ?_;cases hH;obtain rfl:=hD _ ck;exact AD (hC _ _ ⟨bb,b0,V,V,ci,dd,dj⟩) V
open Go.Proofs.Tryz
variable {J:Judge Tryz.prog}
def O5(fu_:Nat)(p0:List Int)(p1:Int)(K:Int):Option (Bq Int ((Bool)⊕(Unit))):=if K<(p0.length:Int) then((ix p0 K).bind λO=>if O=p1 then(some (.done (Sum.inl true))) else((Az (K+1)).bind λU=>some (.more U))) else(some (.done (Sum.inr ())))
def f124(fu_:Nat)(p0:List Int)(p1:Int):Option Bool:=Option.bind (iter (O5 fu_ p0 p1) fu_ 0) λK=>Sum.elim (λr=>some r) (λO=>some false) K
theorem gK{p1:Int}(aq:Am rI E a1 c2 p0){r:Bool}(Z:f124 fu_ p0 p1=some r):AY J 77 [sV a1 p0 c2,iV p1] E [] (λw E' B'=>w=.bool r/\B'=[]):=by
 refine Bm func77 λQ b4 cs H aw ac=>?_;unfold f124 at Z;let⟨ag,a0,ai⟩:=bs Z;refine C 9 V (Bu (λL s=>∃(aj:Unit) (al:LH),ag=Sum.inr aj/\Jm E H al [] [] L s) ?_ ?_);rintro _ _ ⟨aj,al,rfl,rfl,rfl,a2,a3⟩;have a4:=elim_inr ai;refine C 4 V ?_;cases a4;exact AK func77 V V (ac a2 V ⟨V,V⟩ a3);intro a5;refine JL.block (Du a0 (λU=>[]) (λU=>[(0,sV a1 p0 c2),(1,iV p1),(5,iV U)]) AL aw ?_);rintro U a6 K Y am ⟨b5,O⟩ a7;have ap:=O;unfold O5 at ap;refine C 5 V (JL.ln underlying28 V V V ?_);refine C 2 V (AP ap (λa8 a9=>?_) (λa8 bb=>?_));let⟨b6,be,bg⟩:=bs a9;refine C 7 V (JS.ix (aq.Ag K) be underlying28 Av ?_);rintro ca cc _ rfl bi;refine CJ 0 bi AV V V V (C 3 V ?_);refine AP bg (λbo bv=>?_) (λbo bw=>?_);refine C 4 V ?_;cases bv;obtain rfl:=am _ O;have bx:=elim_inl ai;cases bx;exact AK func77 V V (ac K V ⟨V,V⟩ Y);let⟨b0,b1,b2⟩:=bs bw;refine C 4 V (Bw b1 V V V ?_);refine C 2 V ?_;cases b2;exact a7 b0 K Y V O;refine JL.exit V ?_;cases bb;have b3:ag=(Sum.inr ()):=(am _ O).symm;exact AD (a5 _ _ ⟨(),a6,b3,V,V,K,Y⟩) V
end Pal
namespace Pal
open Go Go.Conc Go.Proofs
variable {E:LH}
variable {J:Judge Tryz.prog}
def Nk(fu_:Nat)(p0:AZ)(p1:AB)(p2:List Int)(rec:AZ->AB->(List Int)->Option ((List Int)×Bool))(U:Int)(Y:AZ)(K:(List Int)×Int):Option (Bq ((List Int)×Int) ((List Int))):=
 if K.2<((Y).length:Int) then(
  (ix p1 (U)).bind λZ=>
  (ix Y (K.2)).bind λac=>
  (f126 fu_ p0 Z ac).bind λag=>
  (CZ ([]:List Int) p2).bind λai=>
  (CZ ai ([U]:List Int)).bind λaj=>
  (rec ag p1 aj).bind λO=>
  Option.bind (
   if O.2=true then(
    if((K.1).length:Int)=0 then(
     some true
    ) else(
     (f127 fu_ O.1 K.1).bind λal=>
     some al
    )
   ) else(
    some false
   )
  ) λam=>
  Option.bind (
   if am=true then(
    some O.1
   ) else(
    some K.1
   )
  ) λap=>
  (Az (K.2+1)).bind λaq=>
  some (.more (ap,aq))
 ) else(
  some (.done K.1)
 )
def PH(fu_:Nat)(p0:AZ)(p1:AB)(p2:List Int)(rec:AZ->AB->(List Int)->Option ((List Int)×Bool))(K:Int):Option (Bq (Int) (((List Int)×Bool)⊕(Unit))):=
 if K<((p1).length:Int) then(
  Option.bind (
   (f124 fu_ p2 K).bind λU=>
   if U=true then(
    some (Sum.inr ())
   ) else(
    (ix p1 (K)).bind λY=>
    (ix p0 (Y.1)).bind λZ=>
    (ix p1 (K)).bind λac=>
    (f125 fu_ Z 9 ac.2.2).bind λag=>
    Option.bind (iter (Nk fu_ p0 p1 p2 rec K ag) fu_ ([],0)) λO=>
    if 0<((O).length:Int) then(
     some (Sum.inl (O,true))
    ) else(
     some (Sum.inr ())
    )
   )
  ) λai=>Sum.elim (λr=>some (.done (Sum.inl r))) (λal=>
  (Az (K+1)).bind λaj=>
  some (.more aj)
  ) ai
 ) else(
  some (.done (Sum.inr ()))
 )
def NB(rec:AZ->AB->(List Int)->Option ((List Int)×Bool))(fu_:Nat)(p0:AZ)(p1:AB)(p2:List Int):Option ((List Int)×Bool):=
 if((p2).length:Int)=((p1).length:Int) then(
  some (p2,true)
 ) else(
  Option.bind (iter (PH fu_ p0 p1 p2 rec) fu_ 0) λK=>
  Sum.elim (λr=>some r) (λO=>
  some ([],false)
  ) K
 )
abbrev Qg(J:Judge Tryz.prog)(rec:AZ->AB->(List Int)->Option ((List Int)×Bool)):Prop:=∀{E:LH}{a1:Ap}{c2:Nat}{K:Ap}{O:Nat}{U:Ap}{Y:Nat}{p0:AZ}{p1:AB}{p2:List Int}(ag:Am (rL rI) E a1 c2 (p0)) (ai:Am Ay E K O (p1)) (aj:Am rI E U Y (p2)) {r:(List Int)×Bool}(al:rec p0 p1 p2=some r),AY J 45 [.slice a1 (p0).length c2,.slice K (p1).length O,.slice U (p2).length Y] E [] (λw E' B'=>∃(Z:Ap) (ac:Nat),w=.tuple #[.slice Z (r.1).length ac,.bool r.2]/\B'=[]/\Am rI E' Z ac (r.1))
variable{fu_:Nat}
theorem cZ{J:Judge Tryz.prog}{rec:AZ->AB->(List Int)->Option ((List Int)×Bool)}(a2:Qg J rec):Qg J (NB rec fu_):=by
 intro E a1 c2 ai aj a3 a4 p0 p1 p2 bo am ap r eA;refine Bm Tryz.func45 λQ nI cs H eC ek=>?_;unfold NB at eA;refine C 9 V (JL.ln Tryz.underlying28 V V V ?_);refine C 1 V (JL.ln Tryz.underlying23 V V V ?_);refine C 2 V (AP eA (λhQ hR=>?_) (λhQ hS=>?_));refine C 6 V ?_;cases hR;exact AK Tryz.func45 V V (ek (Le.refl _) V ⟨a3,a4,V,(by first | rfl | simp),ap⟩ eC);let⟨eN,hT,e0⟩:=bs hS;refine C 6 V (Bu (λL s=>∃(e1:Unit) (e3:LH),eN=Sum.inr e1/\Jm E H e3 [] [] L s) ?_ ?_);rintro _ _ ⟨e1,e3,rfl,rfl,rfl,hU,hV⟩;have hW:=elim_inr e0;refine C 5 V ?_;cases hW;exact AK Tryz.func45 V V (ek hU V ⟨none,0,V,(by first | rfl | simp),Am.nil⟩ hV);intro hX;refine JL.block (Du hT (λag=>[]) (λag=>[(0,.slice a1 (p0).length c2),(1,.slice ai (p1).length aj),(2,.slice a3 (p2).length a4),(8,iV ag)]) (Le.refl _) eC ?_);rintro ag e4 K e5 e6 ⟨nJ,ck⟩ hY;have e7:=ck;unfold PH at e7;refine C 5 V (JL.ln Tryz.underlying23 V V V ?_);refine C 2 V (AP e7 (λh0 h1=>?_) (λh0 h2=>?_));let⟨h3,h4,e8⟩:=bs h1;refine C 2 V (Bu (λL s=>∃(ff:Unit) (fk:LH),h3=Sum.inr ff/\Jm e4 H fk [] [(0,.slice a1 (p0).length c2),(1,.slice ai (p1).length aj),(2,.slice a3 (p2).length a4),(8,iV ag)] L s) ?_ ?_);rintro _ _ ⟨ff,fk,rfl,rfl,rfl,h5,h6⟩;have h7:=elim_inr e8;let⟨h8,h9,ia⟩:=bs h7;refine C 2 V (Bw h9 V V V ?_);refine C 2 V ?_;cases ia;exact hY h8 (K.trans h5) h6 V ck;intro fl;let⟨nK,ih,ii⟩:=bs h4;refine C 6 V (B9 (gK (ap.Ag K) ih) V V (A4 Tryz.func77 V) e5 λio O fm=>?_);refine JL.done (Cm ii (λi0 i1=>?_) (λi0 i3=>?_));exact JL.exit V (AD (fl _ _ ⟨(),io,(ep i1).symm,V,V,O,fm⟩) V);refine C 6 V (Ei 13 λU=>?_);refine A9 U V [0,1,2] V ?_;let⟨nL,i4,i5⟩:=bs i3;refine CU 3 (am.Ag (K.trans O)) i4 U Tryz.underlying23 AX ?_;rintro nM nN _ ⟨_,_,rfl,rfl,⟨_,_,rfl,rfl,rfl⟩⟩ i6;refine JG.fd 4 U Tryz.underlying27 Av V V V V (CY 5 U 0 i6 AV V V V V ?_);let⟨nO,i7,i8⟩:=bs i5;refine CU 6 (bo.Ag (K.trans O)) i7 U Tryz.underlying22 CE ?_;rintro nP nQ _ ⟨nR,nT,rfl,i9⟩ jg;refine CY 7 U 0 jg ET V V V V (A9 U V [8,9] V ?_);let⟨nU,ji,jj⟩:=bs i8;refine CU 10 (am.Ag (K.trans O)) ji U Tryz.underlying23 AX ?_;rintro nV nW _ ⟨_,_,rfl,rfl,⟨_,_,rfl,rfl,rfl⟩⟩ jp;refine JG.fd 11 U Tryz.underlying27 Av V V V V (CY 12 U 2 jp AV V V V V ?_);refine Cn [13,14] ?_;let⟨co,jr,jt⟩:=bs jj;refine BU (gk i9 jr) V V (A4 Tryz.func78 V) fm ?_;rintro _ nX nY Z ⟨cp,ct,_,rfl,rfl,jy⟩ jT;refine C 4 V (QP 1 jy jT V λel ac jU jV=>?_);let⟨fo,jW,jX⟩:=bs jt;refine C 3 V (Bu (λL s=>∃(cw:LH) (cy:Ap) (c0:Nat),Jn el H cw [] [(0,.slice a1 (p0).length c2),(1,.slice ai (p1).length aj),(2,.slice a3 (p2).length a4),(8,iV ag),(9,.slice cy (fo).length c0)] L s (Am rI cw cy c0 (fo))) ?_ ?_);rintro _ _ ⟨cw,cy,c0,rfl,rfl,fs,fv,jY⟩;refine C 3 V (JL.ln Tryz.underlying28 V V V ?_);refine C 2 V (AP jX (λjZ j0=>?_) (λjZ j1=>?_));refine C 6 V ?_;cases j0;have j2:=elim_inl e8;cases j2;obtain rfl:=e6 _ ck;have j3:=elim_inl e0;cases j3;exact AK Tryz.func45 V V (ek ((((K.trans O).trans Z).trans ac).trans fs) V ⟨cy,c0,V,(by first | rfl | simp),jY⟩ fv);exact C 2 V (AD (fl _ _ ⟨(),cw,(ep j1).symm,V,V,(((O.trans Z).trans ac).trans fs),fv⟩) V);intro j4;refine JL.block (Co jW (λL s aq=>∃(b0:LH) (be:Ap) (bg:Nat),Jn el H b0 [] [(0,.slice a1 (p0).length c2),(1,.slice ai (p1).length aj),(2,.slice a3 (p2).length a4),(8,iV ag),(9,.slice be (aq.1).length bg),(10,.slice cp (co).length ct),(11,iV aq.2)] L s (Am rI b0 be bg (aq.1))) ⟨el,none,0,V,V,(Le.refl _),jV,Am.nil⟩ ?_);rintro _ _ aq ⟨b0,be,bg,rfl,rfl,Y,c1,em⟩ j5 ⟨nZ,eo⟩ j6;have fw:=eo;unfold Nk at fw;refine C 5 V (JL.ln Tryz.underlying22 V V V ?_);refine C 2 V (AP fw (λj7 j8=>?_) (λj7 j9=>?_));refine C 4 V (Ei 22 λU=>?_);refine A9 U V [0,1,2] V ?_;let⟨al,kb,kc⟩:=bs j8;refine CU 3 (am.Ag ((((K.trans O).trans Z).trans ac).trans Y)) kb U Tryz.underlying23 AX ?_;rintro n0 n3 _ ⟨_,_,rfl,rfl,⟨_,_,rfl,rfl,rfl⟩⟩ ke;refine GK 4 U ke C7 AX V V V (A9 U V [5,6] V ?_);let⟨b1,kf,kg⟩:=bs kc;refine CU 7 (jU.Ag Y) kf U Tryz.underlying22 CE ?_;rintro n4 n6 _ ⟨b2,b3,rfl,b4⟩ kh;refine CY 8 U 0 kh ET V V V V (A9 U V [10,12,14] V ?_);let⟨aw,b5,ki⟩:=bs kg;let⟨n7,a5,kj⟩:=bs ki;let⟨a6,a7,kl⟩:=bs kj;let⟨c3,a8,km⟩:=bs kl;refine F3 1 (tR_ 22 1) (λL s=>∃(bi:LH) (fN:Seg) (gc:Ap) (ge:Nat) (b6:Ap) (ca:Nat),Jn b0 H bi [fN] [(0,.slice a1 (p0).length c2),(1,.slice ai (p1).length aj),(2,.slice a3 (p2).length a4),(8,iV ag),(9,.slice be (aq.1).length bg),(10,.slice cp (co).length ct),(11,iV aq.2),(12,.slice b6 (c3.1).length ca),(69,.bool c3.2)] L s (Am (rL rI) bi gc ge (aw)/\Am rI bi b6 ca (c3.1))) ?_ ?_;rintro _ _ ⟨bi,fN,gc,ge,b6,ca,rfl,rfl,er,et,n8,gg⟩;refine Cn [22] ?_;let⟨kn,ko,kp⟩:=bs km;refine C 6 V (Hh [] (λL s=>∃(cc:LH),Jm bi H cc [] [(0,.slice a1 (p0).length c2),(1,.slice ai (p1).length aj),(2,.slice a3 (p2).length a4),(8,iV ag),(9,.slice be (aq.1).length bg),(10,.slice cp (co).length ct),(11,iV aq.2),(12,.slice b6 (c3.1).length ca),(80,.bool kn)] L s) ?_ ?_);rintro _ _ ⟨cc,rfl,rfl,eu,gh⟩;let⟨ew,kq,kr⟩:=bs kp;refine JL.done (Bu (λL s=>∃(c4:LH) (c5:Ap) (c6:Nat),Jn cc H c4 [] [(0,.slice a1 (p0).length c2),(1,.slice ai (p1).length aj),(2,.slice a3 (p2).length a4),(8,iV ag),(9,.slice c5 (ew).length c6),(10,.slice cp (co).length ct),(11,iV aq.2)] L s (Am rI c4 c5 c6 (ew))) ?_ ?_);rintro _ _ ⟨c4,c5,c6,rfl,rfl,ks,kt,ku⟩;let⟨kv,kx,ky⟩:=bs kr;refine C 3 V (Bw kx V V V ?_);refine C 2 V ?_;cases ky;exact AD (j6 _ _ (ew,kv) ⟨c4,c5,c6,V,V,(((Y.trans er).trans eu).trans ks),kt,ku⟩ eo) V;intro gt;refine Cm kq (λkz kA=>?_) (λkz kB=>?_);refine C 4 V ?_;cases kA;exact AD (gt _ _ ⟨cc,b6,ca,V,V,(Le.refl _),gh,(gg.Ag eu)⟩) V;refine JL.skip ?_;cases kB;exact AD (gt _ _ ⟨cc,be,bg,V,V,(Le.refl _),gh,(em.Ag (er.trans eu))⟩) V;intro ex;refine Fy 71 ko (λkC kD=>?_) (λkC kF=>?_);refine C 1 V (JL.ln Tryz.underlying28 V V V ?_);refine C 2 V (Hy 75 kD (λkG kI=>?_) (λkG kJ=>?_));refine C 5 V (JS.drop 0 et V λkK=>?_);cases kI;exact AD (ex _ _ ⟨bi,V,V,(Le.refl _),kK⟩) V;let⟨n9,kL,kM⟩:=bs kJ;refine C 2 V (B9 (gQ gg (em.Ag er) kL) V V (A4 Tryz.func80 V) et λkN kO kP=>?_);refine C 2 V (JS.drop 0 kP V λkQ=>?_);cases kM;exact AD (ex _ _ ⟨kN,V,V,kO,kQ⟩) V;refine C 9 V (JS.drop 0 et V λkR=>?_);cases kF;exact AD (ex _ _ ⟨bi,V,V,(Le.refl _),kR⟩) V;intro a9;refine Ma (i:=9) (j:=11) (l:=15) V (by decide+kernel) ?_ ?_ ?_;refine Take.C4 (vs:=[.slice a1 (p0).length c2,.agg #[iV al.1,iV al.2.1,iV al.2.2],.slice b2 (b1).length b3]) c1 (Nn (bo.Ag ((((K.trans O).trans Z).trans ac).trans Y)) b4 b5) V V V MP V ?_;rintro _ oa _ a0 ⟨bv,bw,rfl,rfl,bx⟩ gE;refine EH (i:=11) (j:=15) V (by decide+kernel) ?_ ?_;refine Take.JC (pp:=rI) gE V V V Tryz.underlying28 Av λob oc gO g3=>EH (i:=13) (j:=15) V (by decide+kernel) ?_ ?_;refine Take.GZ (pp:=rI) 1 g3 a5 V V V V V V V Tryz.underlying28 Tryz.underlying28 Av (BJ Tryz.type3) BR V (by decide) (by decide) gO (ap.Ag (((((K.trans O).trans Z).trans ac).trans Y).trans a0)) V λod oe g4 og kS kT=>JG.one (i:=15) V (by decide+kernel) (Take.DL (pp:=rI) [iV ag] ([ag]:List Int) kT V V V Tryz.underlying28 Av BR (by decide) V V V ⟨V,trivial⟩ λoh g5 kU kV=>?_);refine GX 1 V kV λkW=>JG.one (i:=16) V (by decide+kernel) (Take.app0 (pp:=rI) 3 2 kW a7 V V V V V V V Tryz.underlying28 Tryz.underlying28 Av (BJ Tryz.type3) BR V (by decide) (by decide) kS kU V V λkX kY g6 om kZ k0=>?_);refine GX 3 V k0 λk1=>Fg 4 kZ k1 V λoo c7 k2 k3=>JG.one (i:=17) V (by decide+kernel) (Take.C4 (vs:=[.slice bv (aw).length bw,.slice ai (p1).length aj,.slice kX (a6).length kY]) k3 (a2 (bx.Ag c7) (am.Ag ((((((K.trans O).trans Z).trans ac).trans Y).trans a0).trans c7)) k2 a8) V V V JX V ?_);rintro _ k4 _ g7 ⟨k5,k6,rfl,rfl,k7⟩ k8;refine A9 U V [18,19,20,21] V (AQ.perm (S':=[g4++g5++g6]) (by simp) k8 λk9=>?_);exact DG (a9 _ _ ⟨k4,(g4++g5++g6),bv,bw,k5,k6,V,V,((a0.trans c7).trans g7),k9,(bx.Ag (c7.trans g7)),k7⟩) V;refine Take.DL (pp:=rI) [iV ag] ([ag]:List Int) g3 V V V Tryz.underlying28 Av BR (by decide) V V V ⟨V,trivial⟩ λoq g8 la lb=>JG.one (i:=13) V (by decide+kernel) (Take.GZ (pp:=rI) 1 lb a5 V V V V V V V Tryz.underlying28 Tryz.underlying28 Av (BJ Tryz.type3) BR V (by decide) (by decide) gO (ap.Ag (((((K.trans O).trans Z).trans ac).trans Y).trans a0)) V λot ou ha ov ld lf=>?_);refine GX 1 V lf λlg=>JG.one (i:=16) V (by decide+kernel) (Take.app0 (pp:=rI) 3 2 lg a7 V V V V V V V Tryz.underlying28 Tryz.underlying28 Av (BJ Tryz.type3) BR V (by decide) (by decide) ld la V V λlh li hb ow lj ll=>?_);refine GX 3 V ll λlm=>Fg 4 lj lm V λox c8 lq lr=>JG.one (i:=17) V (by decide+kernel) (Take.C4 (vs:=[.slice bv (aw).length bw,.slice ai (p1).length aj,.slice lh (a6).length li]) lr (a2 (bx.Ag c8) (am.Ag ((((((K.trans O).trans Z).trans ac).trans Y).trans a0).trans c8)) lq a8) V V V JX V ?_);rintro _ ls _ hc ⟨lu,lw,rfl,rfl,lx⟩ lz;refine A9 U V [18,19,20,21] V (AQ.perm (S':=[ha++g8++hb]) (by simp) lz λlA=>?_);exact DG (a9 _ _ ⟨ls,(ha++g8++hb),bv,bw,lu,lw,V,V,((a0.trans c8).trans hc),lA,(bx.Ag (c8.trans hc)),lx⟩) V;refine Take.DL (pp:=rI) [iV ag] ([ag]:List Int) gE V V V Tryz.underlying28 Av BR (by decide) V V V ⟨V,trivial⟩ λoy he lB lC=>JG.one (i:=11) V (by decide+kernel) (Take.JC (pp:=rI) lC V V V Tryz.underlying28 Av λoz oA lD lE=>?_);refine JG.one (i:=13) V (by decide+kernel) (Take.GZ (pp:=rI) 2 lE a5 V V V V V V V Tryz.underlying28 Tryz.underlying28 Av (BJ Tryz.type3) BR V (by decide) (by decide) lD (ap.Ag (((((K.trans O).trans Z).trans ac).trans Y).trans a0)) V λoB oD hf oE lF lG=>?_);refine GX 2 V lG λlH=>JG.one (i:=16) V (by decide+kernel) (Take.app0 (pp:=rI) 3 1 lH a7 V V V V V V V Tryz.underlying28 Tryz.underlying28 Av (BJ Tryz.type3) BR V (by decide) (by decide) lF lB V V λlI lJ hg oF lK lL=>?_);refine GX 3 V lL λlM=>Fg 4 lK lM V λoG c9 lN lO=>JG.one (i:=17) V (by decide+kernel) (Take.C4 (vs:=[.slice bv (aw).length bw,.slice ai (p1).length aj,.slice lI (a6).length lJ]) lO (a2 (bx.Ag c9) (am.Ag ((((((K.trans O).trans Z).trans ac).trans Y).trans a0).trans c9)) lN a8) V V V JX V ?_);rintro _ lP _ hk ⟨lQ,lR,rfl,rfl,lS⟩ lT;refine A9 U V [18,19,20,21] V (AQ.perm (S':=[he++hf++hg]) (by simp) lT λlU=>?_);exact DG (a9 _ _ ⟨lP,(he++hf++hg),bv,bw,lQ,lR,V,V,((a0.trans c9).trans hk),lU,(bx.Ag (c9.trans hk)),lS⟩) V;refine Take.JC (pp:=rI) c1 V V V Tryz.underlying28 Av λoH oI ey hl=>EH (i:=9) (j:=15) V (by decide+kernel) ?_ ?_;refine Take.C4 (vs:=[.slice a1 (p0).length c2,.agg #[iV al.1,iV al.2.1,iV al.2.2],.slice b2 (b1).length b3]) hl (Nn (bo.Ag ((((K.trans O).trans Z).trans ac).trans Y)) b4 b5) V V V MP V ?_;rintro _ oJ _ bb ⟨dd,dj,rfl,rfl,ea⟩ hm;refine EH (i:=13) (j:=15) V (by decide+kernel) ?_ ?_;refine Take.GZ (pp:=rI) 0 hm a5 V V V V V V V Tryz.underlying28 Tryz.underlying28 Av (BJ Tryz.type3) BR V (by decide) (by decide) (ey.Ag bb) (ap.Ag (((((K.trans O).trans Z).trans ac).trans Y).trans bb)) V λoK oL hn oM lV lW=>JG.one (i:=15) V (by decide+kernel) (Take.DL (pp:=rI) [iV ag] ([ag]:List Int) lW V V V Tryz.underlying28 Av BR (by decide) V V V ⟨V,trivial⟩ λoN ho lX lY=>?_);refine GX 0 V lY λlZ=>JG.one (i:=16) V (by decide+kernel) (Take.app0 (pp:=rI) 3 2 lZ a7 V V V V V V V Tryz.underlying28 Tryz.underlying28 Av (BJ Tryz.type3) BR V (by decide) (by decide) lV lX V V λl3 l4 hp oO l5 l6=>?_);refine GX 3 V l6 λl7=>Fg 4 l5 l7 V λoP eb l8 l9=>JG.one (i:=17) V (by decide+kernel) (Take.C4 (vs:=[.slice dd (aw).length dj,.slice ai (p1).length aj,.slice l3 (a6).length l4]) l9 (a2 (ea.Ag eb) (am.Ag ((((((K.trans O).trans Z).trans ac).trans Y).trans bb).trans eb)) l8 a8) V V V JX V ?_);rintro _ ma _ hq ⟨mb,mc,rfl,rfl,md⟩ me;refine A9 U V [18,19,20,21] V (AQ.perm (S':=[hn++ho++hp]) (by simp) me λmf=>?_);exact DG (a9 _ _ ⟨ma,(hn++ho++hp),dd,dj,mb,mc,V,V,((bb.trans eb).trans hq),mf,(ea.Ag (eb.trans hq)),md⟩) V;refine Take.DL (pp:=rI) [iV ag] ([ag]:List Int) hm V V V Tryz.underlying28 Av BR (by decide) V V V ⟨V,trivial⟩ λoQ hr mg mh=>JG.one (i:=13) V (by decide+kernel) (Take.GZ (pp:=rI) 0 mh a5 V V V V V V V Tryz.underlying28 Tryz.underlying28 Av (BJ Tryz.type3) BR V (by decide) (by decide) (ey.Ag bb) (ap.Ag (((((K.trans O).trans Z).trans ac).trans Y).trans bb)) V λoR oS hs oT mi mj=>?_);refine GX 0 V mj λml=>JG.one (i:=16) V (by decide+kernel) (Take.app0 (pp:=rI) 3 2 ml a7 V V V V V V V Tryz.underlying28 Tryz.underlying28 Av (BJ Tryz.type3) BR V (by decide) (by decide) mi mg V V λmm mo ht oU mp mq=>?_);refine GX 3 V mq λmr=>Fg 4 mp mr V λoV ec ms mv=>JG.one (i:=17) V (by decide+kernel) (Take.C4 (vs:=[.slice dd (aw).length dj,.slice ai (p1).length aj,.slice mm (a6).length mo]) mv (a2 (ea.Ag ec) (am.Ag ((((((K.trans O).trans Z).trans ac).trans Y).trans bb).trans ec)) ms a8) V V V JX V ?_);rintro _ mw _ hu ⟨my,mz,rfl,rfl,mB⟩ mC;refine A9 U V [18,19,20,21] V (AQ.perm (S':=[hs++hr++ht]) (by simp) mC λmD=>?_);exact DG (a9 _ _ ⟨mw,(hs++hr++ht),dd,dj,my,mz,V,V,((bb.trans ec).trans hu),mD,(ea.Ag (ec.trans hu)),mB⟩) V;refine Take.DL (pp:=rI) [iV ag] ([ag]:List Int) hl V V V Tryz.underlying28 Av BR (by decide) V V V ⟨V,trivial⟩ λoW hv mE mF=>JG.one (i:=9) V (by decide+kernel) (Take.C4 (vs:=[.slice a1 (p0).length c2,.agg #[iV al.1,iV al.2.1,iV al.2.2],.slice b2 (b1).length b3]) mF (Nn (bo.Ag ((((K.trans O).trans Z).trans ac).trans Y)) b4 b5) V V V MP V ?_);rintro _ oX _ ce ⟨hw,hx,rfl,rfl,hy⟩ mG;refine JG.one (i:=13) V (by decide+kernel) (Take.GZ (pp:=rI) 0 mG a5 V V V V V V V Tryz.underlying28 Tryz.underlying28 Av (BJ Tryz.type3) BR V (by decide) (by decide) (ey.Ag ce) (ap.Ag (((((K.trans O).trans Z).trans ac).trans Y).trans ce)) V λoY oZ hz o0 mH mI=>?_);refine GX 0 V mI λmJ=>JG.one (i:=16) V (by decide+kernel) (Take.app0 (pp:=rI) 3 1 mJ a7 V V V V V V V Tryz.underlying28 Tryz.underlying28 Av (BJ Tryz.type3) BR V (by decide) (by decide) mH (mE.Ag ce) V V λmK mL hA o1 mM mO=>?_);refine GX 3 V mO λmP=>Fg 4 mM mP V λo2 ed mQ mR=>JG.one (i:=17) V (by decide+kernel) (Take.C4 (vs:=[.slice hw (aw).length hx,.slice ai (p1).length aj,.slice mK (a6).length mL]) mR (a2 (hy.Ag ed) (am.Ag ((((((K.trans O).trans Z).trans ac).trans Y).trans ce).trans ed)) mQ a8) V V V JX V ?_);rintro _ mS _ hB ⟨mT,mU,rfl,rfl,mV⟩ mW;refine A9 U V [18,19,20,21] V (AQ.perm (S':=[hz++hv++hA]) (by simp) mW λmX=>?_);exact DG (a9 _ _ ⟨mS,(hz++hv++hA),hw,hx,mT,mU,V,V,((ce.trans ed).trans hB),mX,(hy.Ag (ed.trans hB)),mV⟩) V;refine Take.DL (pp:=rI) [iV ag] ([ag]:List Int) c1 V V V Tryz.underlying28 Av BR (by decide) V V V ⟨V,trivial⟩ λo3 ee hC hD=>EH (i:=9) (j:=11) V (by decide+kernel) ?_ ?_;refine Take.C4 (vs:=[.slice a1 (p0).length c2,.agg #[iV al.1,iV al.2.1,iV al.2.2],.slice b2 (b1).length b3]) hD (Nn (bo.Ag ((((K.trans O).trans Z).trans ac).trans Y)) b4 b5) V V V MP V ?_;rintro _ o4 _ ef ⟨hE,hF,rfl,rfl,hG⟩ mY;refine JG.one (i:=11) V (by decide+kernel) (Take.JC (pp:=rI) mY V V V Tryz.underlying28 Av λo5 o6 mZ m0=>?_);refine JG.one (i:=13) V (by decide+kernel) (Take.GZ (pp:=rI) 2 m0 a5 V V V V V V V Tryz.underlying28 Tryz.underlying28 Av (BJ Tryz.type3) BR V (by decide) (by decide) mZ (ap.Ag (((((K.trans O).trans Z).trans ac).trans Y).trans ef)) V λo7 o8 hH o9 m1 m2=>?_);refine GX 2 V m2 λm3=>JG.one (i:=16) V (by decide+kernel) (Take.app0 (pp:=rI) 3 0 m3 a7 V V V V V V V Tryz.underlying28 Tryz.underlying28 Av (BJ Tryz.type3) BR V (by decide) (by decide) m1 (hC.Ag ef) V V λm4 m5 hI pa m6 m7=>?_);refine GX 3 V m7 λm9=>Fg 4 m6 m9 V λpb eg na nb=>JG.one (i:=17) V (by decide+kernel) (Take.C4 (vs:=[.slice hE (aw).length hF,.slice ai (p1).length aj,.slice m4 (a6).length m5]) nb (a2 (hG.Ag eg) (am.Ag ((((((K.trans O).trans Z).trans ac).trans Y).trans ef).trans eg)) na a8) V V V JX V ?_);rintro _ nc _ hJ ⟨nf,ng,rfl,rfl,nh⟩ ni;refine A9 U V [18,19,20,21] V (AQ.perm (S':=[ee++hH++hI]) (by simp) ni λnj=>?_);exact DG (a9 _ _ ⟨nc,(ee++hH++hI),hE,hF,nf,ng,V,V,((ef.trans eg).trans hJ),nj,(hG.Ag (eg.trans hJ)),nh⟩) V;refine Take.JC (pp:=rI) hD V V V Tryz.underlying28 Av λpc pd nk nl=>JG.one (i:=9) V (by decide+kernel) (Take.C4 (vs:=[.slice a1 (p0).length c2,.agg #[iV al.1,iV al.2.1,iV al.2.2],.slice b2 (b1).length b3]) nl (Nn (bo.Ag ((((K.trans O).trans Z).trans ac).trans Y)) b4 b5) V V V MP V ?_);rintro _ pe _ ci ⟨hK,hL,rfl,rfl,hM⟩ nm;refine JG.one (i:=13) V (by decide+kernel) (Take.GZ (pp:=rI) 1 nm a5 V V V V V V V Tryz.underlying28 Tryz.underlying28 Av (BJ Tryz.type3) BR V (by decide) (by decide) (nk.Ag ci) (ap.Ag (((((K.trans O).trans Z).trans ac).trans Y).trans ci)) V λpf pg hN pi np nq=>?_);refine GX 1 V nq λnr=>JG.one (i:=16) V (by decide+kernel) (Take.app0 (pp:=rI) 3 0 nr a7 V V V V V V V Tryz.underlying28 Tryz.underlying28 Av (BJ Tryz.type3) BR V (by decide) (by decide) np (hC.Ag ci) V V λns nt hO pj nu nx=>?_);refine GX 3 V nx λny=>Fg 4 nu ny V λpn ej nz nA=>JG.one (i:=17) V (by decide+kernel) (Take.C4 (vs:=[.slice hK (aw).length hL,.slice ai (p1).length aj,.slice ns (a6).length nt]) nA (a2 (hM.Ag ej) (am.Ag ((((((K.trans O).trans Z).trans ac).trans Y).trans ci).trans ej)) nz a8) V V V JX V ?_);rintro _ nB _ hP ⟨nC,nD,rfl,rfl,nE⟩ nF;refine A9 U V [18,19,20,21] V (AQ.perm (S':=[ee++hN++hO]) (by simp) nF λnG=>?_);exact DG (a9 _ _ ⟨nB,(ee++hN++hO),hK,hL,nC,nD,V,V,((ci.trans ej).trans hP),nG,(hM.Ag (ej.trans hP)),nE⟩) V;refine JL.exit V ?_;cases j9;obtain rfl:=j5 _ eo;exact AD (j4 _ _ ⟨b0,be,bg,V,V,Y,c1,em⟩) V;refine JL.exit V ?_;cases h2;have nH:eN=(Sum.inr ()):=(e6 _ ck).symm;exact AD (hX _ _ ⟨(),e4,nH,V,V,K,e5⟩) V
def NA:Nat->Nat->AZ->AB->(List Int)->Option ((List Int)×Bool)
 | 0,_=>λ_ _ _=>none
 | n+1,fu_=>λp0 p1 p2=>NB (NA n fu_) fu_ p0 p1 p2
theorem cP{J:Judge Tryz.prog}{n:Nat}:Qg J (NA n fu_):=by
 induction n with
 | zero=>intro _ _ _ _ _ _ _ _ _ _ _ _ _ _ K;cases K
 | succ n O=>exact cZ O
def f78(fu_:Nat)(p0:AZ)(p1:AB)(p2:List Int):Option ((List Int)×Bool):=NA fu_ fu_ p0 p1 p2
theorem iA:Qg J (f78 fu_):=cP (n:=fu_) (fu_:=fu_)
def LB(fu_:Nat)(p0:A0)(p1:AB):Option ((List Int)×Int):=
 (IC fu_ p0 p1).bind λK=>
 if K≠0 then(
  some ([],K)
 ) else(
  (f79 fu_ p0).bind λU=>
  (f78 fu_ U p1 ([])).bind λO=>
  if(!O.2)=true then(
   some ([],11)
  ) else(
   some (O.1,0)
  )
 )
theorem fB{a1:Ap}{c2:Nat}{Z:Ap}{ac:Nat}{ag:Ap}{dn:Nat}{p0:A0}{p1:AB}(aj:Am (rL rI) E a1 c2 (p0.1))(al:Am Ay E Z ac (p0.2))(am:Am Ay E ag dn (p1)){r:(List Int)×Int}(ap:LB fu_ p0 p1=some r):AY J 16 [.agg #[.slice a1 (p0.1).length c2,.slice Z (p0.2).length ac],.slice ag (p1).length dn] E [] (λw E' B'=>∃(aq:Ap) (aw:Nat),w=.tuple #[.slice aq (r.1).length aw,iV r.2]/\B'=[]/\Am rI E' aq aw (r.1)):=by
 refine Bm Tryz.func16 λQ ca cs H a5 U=>?_;unfold LB at ap;refine C 2 V (Cs a5 λcc ce K a0 a6=>?_);refine C 6 V (BQ a0 Cb BD V V ?_);let⟨ci,a7,a8⟩:=bs ap;refine C 1 V (B9 (VR (aj.Ag K) (al.Ag K) (am.Ag K) a7) V V (A4 Tryz.func14 V) a6 λck O a2=>?_);refine C 7 V (AP a8 (λa9 bb=>?_) (λa9 be=>?_));refine C 6 V ?_;cases bb;exact AK Tryz.func16 V V (U (K.trans O) V ⟨none,0,V,V,Am.nil⟩ a2);refine C 3 V (BQ (a0.Ag O) Cb BD V V ?_);let⟨co,bg,bi⟩:=bs be;refine BU (iC (aj.Ag (K.trans O)) (al.Ag (K.trans O)) bg) V V (A4 Tryz.func46 V) a2 ?_;rintro _ cp _ Y ⟨ct,cw,rfl,rfl,bo⟩ bv;let⟨bw,bx,b0⟩:=bs bi;refine C 1 V (BU (iA bo (am.Ag ((K.trans O).trans Y)) Am.nil bx) V V JX bv ?_);rintro _ cy _ a3 ⟨b1,b2,rfl,rfl,b3⟩ a4;refine C 10 V (Ao (v:=.bool (!bw.2)) V (λρ h=>Yl.not (h _ _ V)) ?_);refine JL.done (Cm b0 (λb4 b5=>?_) (λb4 b6=>?_));refine C 5 V ?_;cases b5;exact AK Tryz.func16 V V (U (((K.trans O).trans Y).trans a3) V ⟨none,0,V,V,Am.nil⟩ a4);refine C 7 V ?_;cases b6;exact AK Tryz.func16 V V (U (((K.trans O).trans Y).trans a3) V ⟨b1,b2,V,V,b3⟩ a4)
end Pal
namespace Pal
open Go
def Fj(c:List Int):Nat->Int->List (List Int)
 | 0,p=>if p=0 then [List.replicate 10 0] else []
 | s+1,p=>if p<0 then [] else(List.range ((c.getD (s+1) 0).toNat+1)).flatMap λn:Nat=>(Fj c s (p - (n:Int)*((s+1:Nat):Int))).map λv=>v.set (s+1) (n:Int)
theorem Ta(c:List Int):∀(s:Nat) (p:Int),∀v∈Fj c s p,v.length=10
 | 0,p=>by
  intro v K
  unfold Fj at K
  split at K;simp at K;subst K;simp;cases K
 | s+1,p=>by
  intro v K;unfold Fj at K;split at K;cases K;obtain⟨n,-,K⟩:=tN.1 K;obtain⟨u,hu,rfl⟩:=q9.1 K;rw[qY];exact Ta c s _ u hu
theorem QT{α β:Type}{f:α->List β}{k:Nat}:∀{l:List α},(∀x∈l,(f x).length<=k)->(l.flatMap f).length<=l.length*k
 | [],_=>by simp
 | x::l,h=>by
  rw[List.flatMap_cons,qT,q4,rF]
  have:=QT (l:=l) λy K=>h y (f9 _ K)
  have:=h x rT
  omega
theorem Q8{c:List Int}(hb:∀x∈c,0<=x/\x<=15):∀(s:Nat) (p:Int),(Fj c s p).length<=16^s
 | 0,p=>by unfold Fj;split<;>simp
 | s+1,p=>by
  unfold Fj
  split;simp
  .refine q8 (QT (k:=16^s) λn _=>?_) ?_;rw[r5];exact Q8 hb s _
   .rw [sb,un,uJ];refine Nat.mul_le_mul_left _ ?_;have:(c.getD (s+1) 0)<=15:=by
     rw[f4];cases h:c[s+1]? with
     | none=>simp
     | some x=>exact(hb x (qL h)).2
    omega
theorem Y4{F s:Nat}{n:Int}{O K x:List (List Int)}(U:x.length<F)(Z:s<10)(Y:∀v∈x,v.length=10)(ac:K.length+x.length<=2^40):
  iter (M8 F (s:Int) (O,n) x) F (K,x,0)=some (K++x.map λv=>v.set s n):=by
 refine Ef (CQ x.length (λi st=>st=(K++(x.take i).map (λv=>v.set s n),x.drop i,(i:Int))) (by simp) U ?_ ?_)
 .rintro i _ hi rfl;unfold M8;refine BW (by simp only;omega) (AW (b:=(x[i],x.drop (i+1))) ?_ ?_);rw[sc hi];unfold Qe;simp only;rw[d0 (by rw[List.length_drop];omega)]
  have ag:=Y _ (no hi);refine Cf (m:=s) V (by simp only;omega) ?_;refine IW (by rw[qT,r5,rU];omega) ?_;refine AI.E ((i+1:Nat):Int) (by simp) ?_ (by omega) (by omega);refine Aw ?_;show _=_;rw[ri,bI hi,rJ,ru,qI];simp
 .rintro _ rfl;unfold M8;exact BT (by simp) (Aw ⟨_,V,by rw[ra]⟩)
theorem Vf{F:Nat}{c:List Int}(Z:5^16<F)(ac:c.length=10)(hb:∀x∈c,0<=x/\x<=15):∀(s N:Nat) (p:Int),s<=9->s<N-> -200<=p->p<=72->Mq N F c (s:Int) p=some (Fj c s p)
 | 0,0,_,_,h,_,_=>by omega
 | s+1,0,_,_,h,_,_=>by omega
 | 0,N+1,p,_,_,ag,ai=>by
  show Ln (Mq N F) F c ((0:Nat):Int) p=_
  unfold Ln Fj
  by_cases K:p<0;rw[d0 K,d7 (by omega)];rw[d7 K,d0 (show((0:Nat):Int)=0 from rfl)];by_cases U:0<p;rw[d0 U,d7 (by omega)];rw[d7 U,d0 (by omega)];rfl
 | s+1,N+1,p,am,ap,ag,ai=>by
  show Ln (Mq N F) F c ((s+1:Nat):Int) p=_;unfold Ln
  conv=>rhs;unfold Fj
  by_cases K:p<0;rw[d0 K,d0 K]
  .rw [d7 K,d7 K,d7 (by omega)];refine Ef ?_;have O:s+1<c.length:=by omega
   have aj:c.getD (s+1) 0=c[s+1]:=by rw[f4,bI O];rfl
   have aq:=hb _ (no O);rw[aj];have hlen:=λq=>Q8 (c:=c) hb s q;have Y:16^s<=16^8:=rv (by omega) (by omega);refine Bv (S:=λr=>r=(List.range (c[s+1].toNat+1)).flatMap λn:Nat=>(Fj c s (p - (n:Int)*((s+1:Nat):Int))).map λv=>v.set (s+1) (n:Int)) ?_ λr al=>Aw al;refine CQ (c[s+1].toNat+1) (λn st=>st=((List.range n).flatMap λn:Nat=>(Fj c s (p - (n:Int)*((s+1:Nat):Int))).map λv=>v.set (s+1) (n:Int),(n:Int))) (by simp) (by omega) ?_ ?_
   .rintro n _ aw rfl;unfold OB;refine Cf (m:=s+1) V O (BW (by simp only;omega) ?_);refine AI.E ((s:Nat):Int) (by omega) ?_;have hm:(n:Int)*((s+1:Nat):Int)<=15*9:=Int.mul_le_mul (by omega) (by omega) (by omega) (by omega);have a0:0<=(n:Int)*((s+1:Nat):Int):=Int.mul_nonneg (by omega) (by omega);refine AI.E ((n:Int)*((s+1:Nat):Int)) V (AI.E (p - (n:Int)*((s+1:Nat):Int)) V ?_);refine AW (Vf Z ac hb s N _ (by omega) (by omega) (by omega) (by omega)) ?_;have a1:((List.range n).flatMap λn:Nat=>(Fj c s (p - (n:Int)*((s+1:Nat):Int))).map λv=>v.set (s+1) (n:Int)).length<=16*16^8:=by
     refine q8 (QT (k:=16^8) λq _=>?_) (re _ (by rw[sb];omega));rw[r5];exact q8 (hlen _) Y
    refine AW (Y4 (sS (q8 (hlen _) Y) (by omega)) (by omega) (Ta c s _) (by simp only;have:=hlen (p - (n:Int)*((s+1:Nat):Int));omega)) ?_;refine AI.E ((n+1:Nat):Int) (by simp) (Aw ?_);show _=_;rw[List.range_succ,List.flatMap_append];simp
   .rintro _ rfl;unfold OB;exact Cf (m:=s+1) V O (BT (by simp only;omega) (Aw ⟨_,V,V⟩))
def ws(f:Nat->Nat):Nat->Nat
 | 0=>0
 | s+1=>ws f s+(s+1)*f (s+1)
theorem Re{f g:Nat->Nat}:∀s,(∀b,1<=b->b<=s->f b=g b)->ws f s=ws g s
 | 0,_=>rfl
 | s+1,h=>by unfold ws;rw[Re s λb K O=>h b K (by omega),h (s+1) (by omega) (by omega)]
theorem Xy(f:Nat->Nat):ws f 9=wS f:=by simp[ws,wS]
def vec(f:Nat->Nat):List Int:=(List.range 10).map λb=>(f b:Int)
theorem Rs(f:Nat->Nat):(vec f).length=10:=by simp[vec]
variable{f:Nat->Nat}
theorem Mg{b:Nat}(h:b<10):(vec f)[b]?=some (f b:Int):=by unfold vec;simp[h]
variable{k:Nat}
theorem U7(f:Nat->Nat){n:Nat}(K:k<10):(vec f).set k (n:Int)=vec (λb=>if b=k then n else f b):=by
 refine r7 λi=>?_;rw[rj,Rs];by_cases hi:i<10;rw[Mg hi,Mg hi];by_cases e:k=i;subst e;rw[d0 rfl,d0 K,d0 rfl];rw[d7 e,d7 (λq=>e q.symm)];rw[d7 (by omega),rb (by rw[Rs];omega),rb (by rw[Rs];omega)]
def SV(c:List Int)(s:Nat)(p:Int)(f:Nat->Nat):Prop:=(∀b,b=0∨s<b->f b=0)/\(∀b,1<=b->b<=s->(f b:Int)<=c.getD b 0)/\(ws f s:Int)=p
theorem Ov{c:List Int}(Y:∀b,0<=c.getD b 0):∀(s:Nat) (p:Int) (u:List Int),s<=9->(u∈Fj c s p↔∃f,u=vec f/\SV c s p f)
 | 0,p,u,_=>by
  unfold Fj
  constructor
  .intro h
   split at h;rename_i Z;simp at h;exact⟨λ_=>0,by rw[h];rfl,λb _=>V,λb K O=>by omega,by subst Z;rfl⟩;cases h
  .rintro⟨f,rfl,K,O,U⟩;have:p=0:=by rw[← U];rfl
   rw[d0 this];have e:f=λ_=>0:=funext λb=>K b (by omega);subst e;simp;rfl
 | s+1,p,u,am=>by
  unfold Fj;constructor
  .intro h;split at h;cases h
   .let⟨n,ag,ai⟩:=tN.1 h;obtain⟨v,aj,rfl⟩:=q9.1 ai;obtain⟨f,rfl,K,O,U⟩:=(Ov Y s _ v (by omega)).1 aj;have ag:=q7.1 ag;have ap:=Y (s+1);refine⟨_,U7 f (by omega),λb hb=>?_,λb ac al=>?_,?_⟩
    .show(if b=s+1 then n else f b)=0
     rw[d7 (by omega)];exact K b (by omega)
    .show(((if b=s+1 then n else f b):Nat):Int)<=_
     by_cases e:b=s+1;rw[d0 e,e];omega;rw[d7 e];exact O b ac (by omega)
    .show((ws (λb=>if b=s+1 then n else f b) s+(s+1)*(if s+1=s+1 then n else f (s+1)):Nat):Int)=p
     rw[Re (g:=f) s λb K O=>by show(if b=s+1 then n else f b)=f b;rw[d7 (by omega)],d0 rfl,Int.natCast_add,ur,U,Int.mul_comm]
     omega
  .rintro⟨f,rfl,K,O,U⟩;have Z:¬p<0:=by rw[← U];omega
   rw[d7 Z];have aq:=O (s+1) (by omega) (by omega);refine tN.2 ⟨f (s+1),q7.2 (by omega),q9.2 ⟨vec λb=>if b=s+1 then 0 else f b,(Ov Y s _ _ (by omega)).2 ⟨_,V,λb hb=>?_,λb ac al=>?_,?_⟩,?_⟩⟩
   .show(if b=s+1 then 0 else f b)=0
    by_cases e:b=s+1;rw[d0 e];rw[d7 e];exact K b (by omega)
   .show(((if b=s+1 then 0 else f b):Nat):Int)<=_
    rw[d7 (by omega)];exact O b ac (by omega)
   .rw [Re (g:=f) s λb K O=>by show(if b=s+1 then 0 else f b)=f b;rw[d7 (by omega)]]
    have e:((ws f (s+1):Nat):Int)=(ws f s:Int)+((s+1:Nat):Int)*(f (s+1):Int):=by show((ws f s+(s+1)*f (s+1):Nat):Int)=_;rw[Int.natCast_add,ur]
    rw[e] at U;rw[Int.mul_comm (f (s+1):Int)];omega
   .show(vec _).set (s+1) ((f (s+1):Nat):Int)=vec f;rw[U7 _ (by omega)];congr 1;funext b;by_cases e:b=s+1;rw[d0 e,e];rw[d7 e,d7 e]
def G8(n:Nat)(ps:List (List Int))(C:CF):Prop:=ps.length=n/\∀a,a<n->∃r,ps[a]?=some r/\r.length=10/\∀b,b<10->r[b]?=some (C a b)
variable{ps:List (List Int)}{C K:CF}
theorem G8.congr{n:Nat}(h:G8 n ps C)(e:∀a b,a<n->b<10->C a b=K a b):G8 n ps K:=
 ⟨h.1,λa O=>let ⟨r,U,Y,Z⟩:=h.2 a O;⟨r,U,Y,λb hb=>by rw[Z b hb,e a b O hb]⟩⟩
theorem G8.upd{n:Nat}(h:G8 n ps C){a:Nat}{r:List Int}{z:Int}(Z:a<n)(ai:k<10)(ac:ps[a]?=some r):G8 n (ps.set a (r.set k z)) (λK b'=>if K=a/\b'=k then z else C K b'):=by
 refine⟨by rw[qY];exact h.1,λK ag=>?_⟩;let⟨r',O,U,Y⟩:=h.2 K ag;by_cases e:K=a
 .subst e;rw[ac] at O;cases O;refine⟨r.set k z,by rw[rc (by rw[h.1];exact Z)],by rw[qY];exact U,λb hb=>?_⟩;show _=some (if K=K/\b=k then z else C K b)
  rw[rj];by_cases e:k=b;subst e;rw[d0 rfl,d0 (by omega),d0 ⟨rfl,rfl⟩];rw[d7 e,d7 (λq=>e q.2.symm)];exact Y b hb
 .refine⟨r',by rw[qU (λq=>e q.symm)];exact O,U,λb hb=>?_⟩;show _=some (if K=a/\b=k then z else C K b)
  rw[d7 (λq=>e q.1)];exact Y b hb
def CW(n:Nat)(L:List Nat)(C:CF):Prop:=∃w:List Nat,w.length=L.length/\(∀o∈w,o<n)/\C=C5 L w
theorem CW.nn{n:Nat}{L:List Nat}(h:CW n L C)(a b:Nat):0<=C a b/\C a b<=L.length:=by
 obtain⟨w,_,_,rfl⟩:=h;exact⟨OJ _ _ _ _,Rx _ _ _ _⟩
theorem CW.path{n x y:Nat}{L:List Nat}{lo left:Nat}(U:y<n)(h:Hx x y lo left C K):CW n L C->CW n L K:=by
 induction h with
 | done=>exact id
 | step _ _ _ Y _ Z=>
  rintro⟨w,O,ac,rfl⟩;let⟨w',k1,ag,ai⟩:=RE (y:=y) O.symm Y;exact Z ⟨w',by rw[k1,O],λo aj=>(ag o aj).elim (ac o) (λe=>e▸U),ai.symm⟩
variable{d:DT}
theorem CW.pay{n:Nat}{L:List Nat}(hd:VT n d)(hC:CW n L C)(h:EK C d K):CW n L K:=by
 obtain⟨v,O,U,Y,rfl⟩:=h;obtain⟨a1,Z,ac,ag,ai,_,_⟩:=hd;exact CW.path (by omega) (WA (by omega) _ 1 C v (by omega) O U V) hC
theorem Rb(b:List Int):EX [] b=false:=by cases b<;>rfl
theorem cD{F:Nat}{a b:List Int}(O:1000<F)(U:a.length=b.length)(Y:a.length<=900):f127 F a b=some (EX a b):=by
 refine Ef ?_;unfold f127;refine Bv (S:=λr=>r=Sum.inl (EX a b)∨(r=Sum.inr ()/\EX a b=false)) ?_ ?_
 .refine CQ a.length (λi s=>s=(i:Int)/\EX a b=EX (a.drop i) (b.drop i)) ⟨V,by simp⟩ (by omega) ?_ ?_
  .rintro i _ hi ⟨rfl,h⟩;unfold O9;have K:i<b.length:=by omega
   rw[sc hi,sc K,J3] at h;refine BW (by omega) (AI.X i hi ?_);refine AI.X i K (CG (λe=>?_) (λe=>?_));refine AI.X i hi (AI.X i K ?_);refine Aw ?_;show _∨_;rw[d7 e] at h;exact .inl (by rw[h]);refine AI.E ((i+1:Nat):Int) (by omega) (Aw ?_);rw[d0 (s5 e)] at h;exact⟨V,h⟩
  .rintro _ ⟨rfl,h⟩;unfold O9;rw[uo,Rb] at h;exact BT (by omega) (Aw ⟨_,V,.inr ⟨V,h⟩⟩)
 .rintro r (rfl | ⟨rfl,h⟩);exact Aw V;exact Aw h.symm
theorem ah{F n:Nat}(Y:100<F)(Z:n<=5)(h:G8 n ps C):iter (Nh F ps) F (List.replicate ps.length [],0)=some ps:=by
 refine Ef ?_;have ac:=h.1;refine CQ ps.length (λi s=>s=(ps.take i++List.replicate (ps.length - i) [],(i:Int))) (by simp) (by omega) ?_ ?_
 .rintro i _ hi rfl;unfold Nh;have hlen:(ps.take i++List.replicate (ps.length - i) ([]:List Int)).length=ps.length:=by rw[qT,rU,sf];omega
  refine BW (by simp only[hlen];omega) (AI.X i hi ?_);obtain⟨r,K,O,_⟩:=h.2 i (by omega);have U:=(dY.1 K).2;refine AI.LM (by rw[U,O];decide) (Cf (m:=i) V (by simp only[hlen];exact hi) ?_);refine AI.E ((i+1:Nat):Int) (by simp) (Aw ?_);show _=_;rw[rG];simp only[rk];congr 1;rw[List.set_append_right _ _ (by rw[rU];omega),rU,sy (by omega),ti,ri,bI hi,rJ,qI];congr 1;rw[show ps.length - i=(ps.length - (i+1))+1 by omega,sI]
  rfl
 .rintro _ rfl;unfold Nh;refine BT (by simp) (Aw ⟨_,V,by simp⟩)
variable{v:Nat->Nat}
theorem dC{F n:Nat}(ai:100<F)(aj:n<=5)(h:G8 n ps C)(hd:VT n d)(al:∀b,(v b:Int)<=1000)(hC:∀a b,0<=C a b/\C a b<=1000):
  AI (f126 F ps d (vec v)) (λr=>G8 n r (Ft C d.1.toNat d.2.1.toNat v)):=by
 obtain⟨x0,x1,y0,y1,ne,_,_⟩:=hd;have a4:=h.1;unfold f126;refine AW (b:=List.replicate ps.length []) (by unfold Fx;rw[d0 (by omega)];simp) (AW (ah ai aj h) ?_);refine Bv (S:=λr=>G8 n r (Ft C d.1.toNat d.2.1.toNat v)) ?_ λr K=>Aw K;refine CQ 10 (λk s=>s.2=(k:Int)/\G8 n s.1 (Ft C d.1.toNat d.2.1.toNat λb=>if b<k then v b else 0)) ⟨V,h.congr λa b _ _=>by simp[Ft]⟩ (by omega) ?_ ?_
 .rintro k ⟨s,i⟩ O ⟨hi,K⟩;simp only at hi K;subst hi;unfold OU;obtain⟨rx,a1,a5,am⟩:=K.2 d.1.toNat (by omega);obtain⟨a6,ac,a7,ap⟩:=K.2 d.2.1.toNat (by omega);have ex:=am k O;have Y:=ap k O;have U:d.1.toNat≠d.2.1.toNat:=by omega
  have aq:Ft C d.1.toNat d.2.1.toNat (λb=>if b<k then v b else 0) d.1.toNat k=C d.1.toNat k:=by simp[Ft,U]
  have aw:Ft C d.1.toNat d.2.1.toNat (λb=>if b<k then v b else 0) d.2.1.toNat k=C d.2.1.toNat k:=by simp[Ft,U.symm]
  rw[aq] at ex;rw[aw] at Y;have cx:=hC d.1.toNat k;have a8:=hC d.2.1.toNat k;have a9:=al k;refine BW (by simp only;omega) (AW (b:=()) (by unfold Qn;rw[d7 ne]) ?_);refine AW (F8 (m:=d.1.toNat) (by omega) a1) (AW (F8 (m:=d.2.1.toNat) (by omega) ac) ?_);refine AW (F8 (m:=k) V ex) (AW (F8 (m:=k) V Y) ?_);refine AW (F8 (m:=k) V ex) (AW (F8 (m:=k) V (Mg O)) ?_);refine AI.E (C d.1.toNat k - v k) V (AW (F8 (m:=k) V Y) ?_);refine AW (F8 (m:=k) V (Mg O)) (AI.E (C d.2.1.toNat k+v k) V ?_);refine AI.E ((k+1:Nat):Int) (by simp) (Aw ⟨V,?_⟩);simp only[rk];have a0:=K.upd (z:=C d.1.toNat k - v k) (show d.1.toNat<n by omega) O a1;have a2:=a0.upd (z:=C d.2.1.toNat k+v k) (show d.2.1.toNat<n by omega) O (by rw[qU U];exact ac);refine a2.congr λa b a3 hb=>?_;simp only[Ft];by_cases Z:b=k;subst Z;by_cases e2:a=d.2.1.toNat;subst e2;simp[U.symm];by_cases ag:a=d.1.toNat;subst ag;simp[U];simp[e2,ag]
  .rw [d7 (λq=>Z q.2),d7 (λq=>Z q.2)];have:(b<k+1)↔(b<k):=by omega
   simp only[this]
 .rintro⟨s,i⟩ ⟨hi,K⟩;simp only at hi K;subst hi;unfold OU;refine BT (by simp) (Aw ⟨_,V,K.congr λa b a3 hb=>?_⟩);simp only[Ft,d0 hb]
theorem Yz(a:List Int):EX a []=false:=by cases a<;>rfl
theorem UP:∀(p a b:List Int),EX (p++a) (p++b)=EX a b
 | [],_,_=>rfl
 | x::p,a,b=>by rw[rh,rh,J3,d0 rfl,UP p]
theorem Tn:∀{a b c:List Int},EX a b=true->EX b c=true->EX a c=true
 | [],b,_,h,_=>by rw[Rb] at h;cases h
 | _::_,[],_,h,_=>by cases h
 | _::_,_::_,[],_,h=>by cases h
 | x::a,y::b,z::c,O,K=>by
  rw[J3] at O K ⊢
  by_cases U:x=y
  .subst U
   rw[d0 rfl] at O;by_cases e2:x=z;subst e2;rw[d0 rfl] at K ⊢;exact Tn O K;rw[d7 e2] at K ⊢;exact K
  .rw [d7 U] at O;have O:=sX O;by_cases e2:y=z;subst e2;rw[d7 U];exact qR O;rw[d7 e2] at K;have K:=sX K;rw[d7 (by omega)];exact qR (by omega)
theorem Vi:∀{a b c:List Int},a.length=b.length->b.length=c.length->EX a c=true->EX a b=true∨EX b c=true
 | [],_,c,_,_,h=>by rw[Rb] at h;cases h
 | x::a,y::b,z::c,l1,l2,h=>by
  rw[J3] at h ⊢
  rw[J3]
  by_cases e:x=z
  .subst e
   rw[d0 rfl] at h;by_cases K:x=y;subst K;rw[d0 rfl,d0 rfl];exact Vi (by simpa using l1) (by simpa using l2) h;rw[d7 K,d7 (λq=>K q.symm)];rcases ud K with q | q;exact .inl (qR q);exact .inr (qR q)
  .rw [d7 e] at h;have h:=sX h;by_cases K:x=y;subst K;rw[d7 e];exact .inr (qR h);rw[d7 K];by_cases q:x<y;exact .inl (qR q);rw[d7 (by omega)];exact .inr (qR (by omega))
variable{dn:Nat}
theorem Ge.len{P:List DT}{K:List Int}(h:Ge P dn C K):∀{os:List Nat},OS P.length dn os->os.length+K.length=P.length:=by
 induction h with
 | nil e=>intro os O;rw[O.full.2 e];rfl
 | @cons dn i _ _ d K hd hb _ _ U=>
  intro os O;have:=U (O.snoc (dY.1 hd).1 hb);rw[qT,r9] at this;rw[q4];omega
variable{c:List Int}{p:Int}
theorem dt{s:Nat}{q:Int}{g:Nat->Nat}(U:s<=9)(K:SV c s p f)(O:SV c s q g)(e:vec f=vec g):f=g:=by
 funext b;by_cases hb:b<10;have:=Mg (f:=f) hb;rw[e,Mg hb] at this;exact(Int.ofNat.inj (ep this)).symm;rw[K.1 b (by omega),O.1 b (by omega)]
def ND(P:List DT)(dn:Nat)(C:CF)(O:List Int)(r:List Int×Bool):Prop:=
 (r.2=true/\∃K,r.1=O++K/\NM P (λX=>C=X) dn K)∨(r=([],false)/\¬Ends P dn C)
abbrev FK(os:List Nat):List Int:=os.map λi:Nat=>(i:Int)
variable{os:List Nat}{i:Nat}
theorem da{F:Nat}(Z:1000<F)(O:os.length<=900):f124 F (FK os) (i:Int)=some (decide (i∈os)):=by
 have U:decide ((i:Int)∈FK os)=decide (i∈os):=by
  by_cases h:i∈os;rw[qR h,qR (q9.2 ⟨i,h,rfl⟩)]
  .rw [qX h,qX λq=>?_];let⟨j,hj,e⟩:=q9.1 q;have:j=i:=by omega
   exact h (this▸hj)
 rw[← U];generalize Y:FK os=L;have ac:L.length<=900:=by rw[← Y,r5];exact O
 refine Ef ?_;unfold f124;refine Bv (S:=λr=>(r=Sum.inl true/\(i:Int)∈L)∨(r=Sum.inr ()/\(i:Int) ∉ L)) ?_ ?_;refine CQ L.length (λk s=>s=(k:Int)/\(i:Int) ∉ L.take k) ⟨V,by simp⟩ (by omega) ?_ ?_;rintro k _ K ⟨rfl,h⟩;unfold O5;refine BW (by omega) (AI.X k K ?_);refine CG (λe=>?_) (λe=>?_);exact Aw (.inl ⟨V,e▸no K⟩);refine AI.E ((k+1:Nat):Int) (by omega) (Aw ⟨V,λq=>?_⟩);rw[ri,bI K,rJ,ik,aX] at q;exact q.elim h (λq=>e q.symm);rintro _ ⟨rfl,h⟩;unfold O5;rw[ra] at h;exact BT (by omega) (Aw ⟨_,V,.inr ⟨V,h⟩⟩);rintro r (⟨rfl,h⟩ | ⟨rfl,h⟩);exact Aw (qR h).symm;exact Aw (qX h).symm
theorem V8{x:Nat}(Z:∀b,b<10->c[b]?=some (C x b))(ac:∀b,0<=C x b):SV c 9 p v↔(Qt v 1/\(∀b,(v b:Int)<=C x b)/\(wS v:Int)=p):=by
 have Y:∀b,b<10->c.getD b 0=C x b:=λb hb=>by rw[f4,Z b hb];rfl
 constructor;rintro⟨K,O,U⟩;refine⟨λb hb=>?_,λb=>?_,by rw[← Xy];exact U⟩;have:=mt (K b) hb;omega;by_cases q:b=0∨9<b;rw[K b q];exact ac b;have:=O b (by omega) (by omega);rw[Y b (by omega)] at this;exact this;rintro⟨K,O,U⟩;refine⟨λb hb=>?_,λb ag ai=>by rw[Y b (by omega)];exact O b,by rw[Xy];exact U⟩;refine sd λq=>?_;have:=K b q;omega
def W9(P:List DT)(dn:Nat)(C:CF)(d:DT)(Y:List Int)(S:(Nat->Nat)->Prop)(O:List Int):Prop:=
 (O=[]/\∀v,S v->¬Ends P dn (Ft C d.1.toNat d.2.1.toNat v))∨
 ∃K,O=Y++K/\(∃v,S v/\Ge P dn (Ft C d.1.toNat d.2.1.toNat v) K)/\∀v U,S v->Ge P dn (Ft C d.1.toNat d.2.1.toNat v) U->EX U K=false
theorem fD{F:Nat}(K:5^16<F)(O:c.length=10)(hb:∀x∈c,0<=x/\x<=15)(U: -200<=p)(Y:p<=72):f125 F c 9 p=some (Fj c 9 p):=by
 unfold f125;exact Vf K O hb 9 F p (by omega) (by omega) U Y
variable {F:Nat}{L:List Nat}{P:List DT}
section
variable {n:Nat}
theorem ZZ(ai:SX F n L P){rec:List (List Int)->List DT->List Int->Option (List Int×Bool)}(a2:OS P.length dn os)(b2:G8 n ps C)(hC:CW n L C)(hd:P[i]?=some d)(hb:dn.testBit i=false)
  (b3:∀ap a3,G8 n ap a3->CW n L a3->AI (rec ap P (FK (os++ [i]))) (ND P (dn|||2^i) a3 (FK (os++ [i])))) (ct:c.length=10) (bg:∀b,b<10->c[b]?=some (C d.1.toNat b)):
  AI (iter (Nk F ps P (FK os) rec (i:Int) (Fj c 9 d.2.2)) F ([],0)) (W9 P (dn|||2^i) C d (FK (os++ [i])) (SV c 9 d.2.2)):=by
 have cw:=ai.fuel;have hm:=ai.m8;have b4:i<P.length:=(dY.1 hd).1;have bi:=ai.ok d (qL hd);have cy:=ai.LS;have aq:=λa b=>hC.nn a b;have bo:∀z∈c,0<=z/\z<=15:=λz b5=>by
  let⟨b,hb⟩:=qZ.1 b5;have aj:=(dY.1 hb).1;rw[bg b (by omega)] at hb;cases hb;have:=aq d.1.toNat b;omega
 have bv:∀b,0<=c.getD b 0:=λb=>by
  rw[f4];cases h:c[b]? with
  | none=>simp
  | some z=>exact(bo z (qL h)).1
 have b6:=λv=>V8 (p:=d.2.2) (v:=v) bg λb=>(aq d.1.toNat b).1;have a4:=a2.snoc b4 hb;have c0:os.length<=8:=by
  have:=KA (m:=List.range P.length) a2.nd λx ai=>q7.2 (a2.lt x ai);rw[sb] at this;omega
 have hlen:=Q8 (c:=c) bo 9 d.2.2;refine CQ (Fj c 9 d.2.2).length (λk s=>s.2=(k:Int)/\W9 P (dn|||2^i) C d (FK (os++ [i])) (λv=>SV c 9 d.2.2 v/\vec v∈(Fj c 9 d.2.2).take k) s.1) ⟨V,.inl ⟨V,λv h=>by simp at h⟩⟩ (by omega) ?_ ?_
 .rintro k ⟨bw,q⟩ a5 ⟨am,al⟩;simp only at am al;subst am;unfold Nk;refine BW (by simp only;omega) (AW (F8 (m:=i) V hd) ?_);refine AI.X k a5 ?_;obtain⟨f,bx,a6⟩:=(Ov bv 9 d.2.2 _ (by omega)).1 (no a5);have aw:=(b6 f).1 a6;have ca:EK C d (Ft C d.1.toNat d.2.1.toNat f):=⟨f,aw.1,aw.2.1,aw.2.2,V⟩;rw[bx];refine Bv (dC (by omega) ai.n5 b2 bi (v:=f) (λb=>by have:=aw.2.1 b;have:=aq d.1.toNat b;omega) λa b=>by have:=aq a b;omega) λap cc=>AI.LM (by simp;omega) (AI.LM (by simp;omega) ?_);rw[show([]++FK os++ [(i:Int)])=FK (os++ [i]) by simp[FK]];refine Bv (b3 ap _ cc (hC.pay bi ca)) λr ce=>?_;have step:∀v,(SV c 9 d.2.2 v/\vec v∈(Fj c 9 d.2.2).take (k+1))↔(SV c 9 d.2.2 v/\vec v∈(Fj c 9 d.2.2).take k)∨v=f:=λv=>by
   rw[ri,bI a5,rJ,ik,aX,bx];constructor;rintro⟨ac,Y | Y⟩;exact .inl ⟨ac,Y⟩;exact .inr (dt (by omega) ac a6 Y);rintro(⟨ac,Y⟩ | rfl);exact⟨ac,.inl Y⟩;exact⟨a6,.inr V⟩
  rcases ce with⟨Y,ag,a7,⟨X,rfl,a8⟩,a9⟩ | ⟨rfl,b0⟩
  .rcases al with⟨rfl,bb⟩ | ⟨Z,rfl,⟨v0,be,a0⟩,a1⟩;refine AW (b:=true) (by rw[d0 Y];exact d0 rfl) (AW (b:=r.1) (d0 V) ?_);refine AI.E ((k+1:Nat):Int) (by simp) (Aw ⟨V,.inr ⟨ag,a7,⟨f,(step f).2 (.inr V),a8⟩,λv U K O=>?_⟩⟩);rcases(step v).1 K with K | rfl;exact absurd ⟨U,O⟩ (bb v K);exact a9 _ U V O
   .have l1:=a8.len a4;have l0:=a0.len a4;have ci:¬((FK (os++ [i])++Z).length:Int)=0:=by simp;omega
    have ck:f127 F r.1 (FK (os++ [i])++Z)=some (EX ag Z):=by
     rw[a7,cD (by omega) (by simp;omega) (by simp at l1 ⊢;omega),UP]
    refine AW (b:=EX ag Z) (by rw[d0 Y,d7 ci,ck];rfl) ?_;by_cases aj:EX ag Z=true;rw[aj];refine AW (b:=r.1) (d0 V) (AI.E ((k+1:Nat):Int) (by simp) ?_);refine Aw ⟨V,.inr ⟨ag,a7,⟨f,(step f).2 (.inr V),a8⟩,λv U K O=>?_⟩⟩;rcases(step v).1 K with K | rfl;have b1:=a1 v U K O;refine sY.2 λq=>?_;rw[Tn q aj] at b1;cases b1;exact a9 _ U V O;have aj:=sY.2 aj;rw[aj];refine AW (b:=FK (os++ [i])++Z) (d7 (by simp)) ?_;refine AI.E ((k+1:Nat):Int) (by simp) ?_;refine Aw ⟨V,.inr ⟨Z,V,⟨v0,(step v0).2 (.inl be),a0⟩,λv U K O=>?_⟩⟩;rcases(step v).1 K with K | rfl;exact a1 v U K O;have l2:=O.len a4;refine sY.2 λq=>?_;rcases Vi (b:=ag) (by omega) (by omega) q with q | q;rw[a9 _ U rfl O] at q;cases q;rw[aj] at q;cases q
  .refine AW (b:=false) (d7 (by simp)) (AW (b:=bw) (d7 (by simp)) ?_);refine AI.E ((k+1:Nat):Int) (by simp) (Aw ⟨V,?_⟩);rcases al with⟨rfl,bb⟩ | ⟨Z,rfl,⟨v0,be,a0⟩,a1⟩;refine .inl ⟨V,λv K=>?_⟩;rcases(step v).1 K with K | rfl;exact bb v K;exact b0;refine .inr ⟨Z,V,⟨v0,(step v0).2 (.inl be),a0⟩,λv U K O=>?_⟩;rcases(step v).1 K with K | rfl;exact a1 v U K O;exact absurd ⟨U,O⟩ b0
 .rintro⟨bw,q⟩ ⟨am,al⟩;simp only at am al;subst am;unfold Nk;refine BT (by simp) (Aw ⟨_,V,?_⟩);have all:∀v,SV c 9 d.2.2 v->vec v∈(Fj c 9 d.2.2).take (Fj c 9 d.2.2).length:=λv K=>by
   rw[ra];exact(Ov bv 9 d.2.2 _ (by omega)).2 ⟨v,V,K⟩
  rcases al with⟨ac,Y⟩ | ⟨ag,ac,⟨v,Y,co⟩,cp⟩;exact .inl ⟨ac,λv K=>Y v ⟨K,all v K⟩⟩;exact .inr ⟨ag,ac,⟨v,Y.1,co⟩,λv U K O=>cp v U ⟨K,all v K⟩ O⟩
theorem V6(K:SX F n L P):∀(N:Nat) (os:List Nat) (dn:Nat) (ps:List (List Int)) (C:CF),OS P.length dn os->G8 n ps C->CW n L C->P.length - os.length<N->AI (NA N F ps P (FK os)) (ND P dn C (FK os))
 | 0,_,_,_,_,_,_,_,h=>by omega
 | N+1,os,dn,ps,C,O,aq,hC,b5=>by
  have a5:=K.fuel
  have hm:=K.m8
  have b6:=K.LS
  have ca:os.length<=P.length:=by
   have:=KA (m:=List.range P.length) O.nd λx K=>q7.2 (O.lt x K)
   rwa[sb] at this
  have aw:(FK os).length=os.length:=r5 ..;show AI (NB (NA N F) F ps P (FK os)) _;unfold NB;by_cases ac:os.length=P.length;rw[d0 (by rw[aw,ac])];have e:=O.full.1 ac;refine Aw (.inl ⟨V,[],by simp,⟨C,V,Ge.nil e⟩,λX a0 _ _=>Yz a0⟩)
  .rw [d7 (by rw[aw];omega)];have a1:dn≠2^P.length - 1:=λq=>ac (O.full.2 q);refine Bv (S:=λq=>(∃r,q=Sum.inl r/\ND P dn C (FK os) r)∨(q=Sum.inr ()/\∀j,j<P.length->¬Ex P (λX=>C=X) dn j)) ?_ ?_
   .refine CQ P.length (λi s=>s=(i:Int)/\∀j,j<i->¬Ex P (λX=>C=X) dn j) ⟨V,λj hj=>by omega⟩ (by omega) ?_ ?_
    .rintro i _ hi ⟨rfl,a2⟩;unfold PH;refine BW (by omega) ?_;have Xw:∀{st},¬Ex P (λX=>C=X) dn i->st=(Bq.more ((i+1:Nat):Int):Bq Int ((List Int×Bool)⊕Unit))->Bq.sat (λs=>s=((i+1:Nat):Int)/\∀j,j<i+1->¬Ex P (λX=>C=X) dn j) (λq=>(∃r,q=Sum.inl r/\ND P dn C (FK os) r)∨(q=Sum.inr ()/\∀j,j<P.length->¬Ex P (λX=>C=X) dn j)) st:=by
      rintro _ h rfl;refine⟨V,λj hj=>?_⟩;rcases Nat.lt_or_eq_of_le (Nat.le_of_lt_succ hj) with q | rfl;exact a2 j q;exact h
     have hd:P[i]?=some P[i]:=bI hi;refine Bv (S:=λq=>(∃r,q=Sum.inl r/\ND P dn C (FK os) r)∨(q=Sum.inr ()/\¬Ex P (λX=>C=X) dn i)) ?_ ?_
     .refine AW (da (by omega) (by omega)) ?_;by_cases Z:i∈os;rw[qR Z,d0 rfl];refine Aw (.inr ⟨V,λ⟨_,_,_,_,_,hb,_⟩=>?_⟩);rw[(O.bit i hi).2 Z] at hb;cases hb
      .rw [qX Z,d7 (by simp)];have hb:dn.testBit i=false:=sY.2 λq=>Z ((O.bit i hi).1 q);have a6:=K.ok _ (no hi);obtain⟨x0,x1,y0,y1,ne,p0,p1⟩:=a6;obtain⟨c,a7,a3,ag⟩:=aq.2 P[i].1.toNat (by omega);have a8:∀z∈c,0<=z/\z<=15:=λz a9=>by
        let⟨b,hb⟩:=qZ.1 a9;have cc:=(dY.1 hb).1;rw[ag b (by omega)] at hb;cases hb;have:=hC.nn P[i].1.toNat b;omega
       refine AI.X i hi (AW (F8 (m:=P[i].1.toNat) (by omega) a7) ?_);refine AI.X i hi (AW (fD a5 a3 a8 (by omega) (by omega)) ?_);refine Bv (ZZ K O aq hC hd hb (λbb U be bg=>V6 K N (os++ [i]) _ bb U (O.snoc hi hb) be bg (by rw[qT,r9];omega)) a3 ag) λce bi=>?_;have ai:=λv=>V8 (p:=P[i].2.2) (v:=v) ag λb=>(hC.nn P[i].1.toNat b).1;rcases bi with⟨rfl,bo⟩ | ⟨bv,rfl,⟨v,bw,bx⟩,b0⟩;refine BT (by simp) (Aw (.inr ⟨V,?_⟩));rintro⟨_,d,U,rfl,a4,_,⟨v,s1,s2,aj,rfl⟩,al⟩;rw[hd] at a4;cases a4;exact bo v ((ai v).2 ⟨s1,s2,aj⟩) al
       .refine BW (by simp;omega) (Aw (.inl ⟨_,V,.inl ⟨V,(i:Int)::bv,by simp[FK],⟨C,V,?_⟩,?_⟩⟩));have am:=(ai v).1 bw;exact Ge.cons hd hb ⟨v,am.1,am.2.1,am.2.2,V⟩ bx
        .rintro _ a0 rfl b1;obtain⟨j,d,U,b2,rfl,Y,e2,⟨w,s1,s2,aj,rfl⟩,ap,b3⟩:=b1.SD (S:=λX=>C=X) rfl a1;rw[J3];by_cases e:(j:Int)=(i:Int)
         .rw [d0 e];have:j=i:=by omega
          subst this;rw[hd] at Y;cases Y;exact b0 w b2 ((ai w).2 ⟨s1,s2,aj⟩) ap
         .rw [d7 e];refine qX λq=>a2 j (by omega) b3
     .rintro q (⟨r,rfl,h⟩ | ⟨rfl,h⟩);exact Aw (.inl ⟨r,V,h⟩);rw[Sum.elim_inr];exact AI.E ((i+1:Nat):Int) (by omega) (Aw (Xw h V))
    .rintro _ ⟨rfl,h⟩;unfold PH;exact BT (by omega) (Aw ⟨_,V,.inr ⟨V,h⟩⟩)
   .rintro q (⟨r,rfl,h⟩ | ⟨rfl,h⟩);exact Aw h;refine Aw (.inr ⟨V,λal=>?_⟩);let⟨i,d,U,Y,e2,b4,ap⟩:=al.cases a1;exact h i (dY.1 Y).1 ⟨C,d,U,V,Y,e2,b4,ap⟩
end
open Go.Conc Go.Proofs Go.Proofs.Tryz
variable {E:LH}
variable {J:Judge Tryz.prog}
variable {J:Judge Tryz.prog}
end Pal
namespace Pal
def gN(l:List Int)(i:Nat):Int:=l.getD i 0
def JH(l:List Int)(i v:Int):List Int:=l.set i.toNat (gN l i.toNat+v)
def BN(B:Int)(l:List Int):Prop:=l.length=5/\∀x∈l,-B<=x/\x<=B
variable{l:List Int}{i:Nat}
theorem Mt(h:i<l.length):gN l i=l[i]:=by unfold gN;rw[f4,bI h];rfl
variable{B:Int}
theorem BN.bd(h:BN B l)(hi:i<5): -B<=gN l i/\gN l i<=B:=by
 rw[Mt (by have:=h.1;omega)];exact h.2 _ (no _)
theorem BN.ix(h:BN B l){i:Int}(K:0<=i)(hi:i<5):ix l i=some (gN l i.toNat):=by
 have:=h.1;rw[Mt (show i.toNat<l.length by omega)];exact F8 (m:=i.toNat) (by omega) (bI _)
theorem BN.Ag{C:Int}(h:BN B l)(O:B<=C):BN C l:=⟨h.1,λx K=>by have:=h.2 x K;omega⟩
variable{v:Int}
theorem BN.add{V:Int}(h:BN B l){i:Int}(O:0<=i)(hi:i<5)(U: -V<=v)(Y:v<=V):BN (B+V) (JH l i v):=by
 have hb:=h.bd (i:=i.toNat) (by omega);refine⟨by unfold JH;rw[qY];exact h.1,λx K=>?_⟩;rcases sr K with K | rfl;have:=h.2 x K;omega;omega
theorem aH{l':List Int}(h:l.length=5)(U:l'.length=5)(k:∀j,j<5->gN l j=gN l' j):l=l':=by
 refine List.ext_getElem (by omega) λj K O=>?_;rw[← Mt K,← Mt O];exact k j (by omega)
def FA(l:List Int)(d:DT):List Int:=JH (JH l d.1 d.2.2) d.2.1 (-d.2.2)
def Lt(l:List Int)(d:DT):List Int:=JH (JH l d.2.1 d.2.2) d.1 (-d.2.2)
def Er(o:OW):List Int:=o.2.foldl Lt (List.replicate 5 0)
variable{F:Nat}{d:DT}
theorem dH(h:BN B l)(a1:0<=d.1)(K:d.1<5)(O:0<=d.2.1)(U:d.2.1<5)(p1: -B<=d.2.2)(p2:d.2.2<=B)(Y:B<=1000000000000):f204 F l d=some (FA l d)/\BN (3*B) (FA l d):=by
 have g1:=h.add a1 K p1 p2;have g2:=g1.add O U (show -B<= -d.2.2 by omega) (by omega);have k1:=h.bd (i:=d.1.toNat) (by omega);have Z:=g1.bd (i:=d.2.1.toNat) (by omega);refine⟨?_,g2.Ag (by omega)⟩;refine Ef ?_;unfold f204;refine AW (h.ix a1 K) ?_;refine AI.E _ V ?_;refine AW (h.ix a1 K) ?_;refine AW (g1.ix O U) ?_;refine AI.E _ V ?_;refine AW (g1.ix O U) ?_;exact Aw V
variable{o:OW}
theorem RQ(Z:100<F)(h:VO o):f84 F o=some (Er o)/\BN 200 (Er o):=by
 have ac:=h.n5;have ag:=h.d8;have:AI (f84 F o) (λr=>r=Er o/\BN 200 r):=by
  unfold f84;refine Bv (S:=λr=>r=Er o/\BN 200 r) ?_ (λr O=>Aw O);refine CQ o.2.length (λi s=>s.2=(i:Int)/\s.1=(o.2.take i).foldl Lt (List.replicate 5 0)/\BN (20*i) s.1) ⟨rfl,rfl,rfl,by simp⟩ (by omega) ?_ ?_
  .rintro i ⟨w,c⟩ hi ⟨K,hw,hb⟩;simp only at K hw hb;subst K;let⟨v1,v2,ai,v4,aj,v6,al⟩:=h.ds _ (no hi);have g1:=hb.add (i:=o.2[i].2.1) (v:=o.2[i].2.2) (V:=10) (by omega) (by omega) (by omega) (by omega);have g2:=g1.add (i:=o.2[i].1) (v:= -o.2[i].2.2) (V:=10) (by omega) (by omega) (by omega) (by omega);have k1:=hb.bd (i:=o.2[i].2.1.toNat) (by omega);have am:=g1.bd (i:=o.2[i].1.toNat) (by omega);unfold Pu;refine BW (by simp only;omega) (Cf (m:=i) rfl hi ?_);refine AW (hb.ix (by omega) (by omega)) (AI.E _ rfl ?_);refine AW (hb.ix (by omega) (by omega)) (AW (g1.ix (by omega) (by omega)) ?_);refine AI.E _ rfl (AW (g1.ix (by omega) (by omega)) ?_);refine AI.E ((i+1:Nat):Int) (by simp) (Aw ⟨rfl,?_,g2.Ag (by omega)⟩);simp only;rw[ri,bI hi,sZ,← hw]
   rfl
  .rintro⟨w,c⟩ ⟨K,hw,hb⟩;simp only at K hw hb;subst K;unfold Pu;rw[ra] at hw;exact BT (by simp) (Aw ⟨_,rfl,hw,hb.Ag (by omega)⟩)
 obtain⟨r,U,rfl,Y⟩:=this;exact⟨U,Y⟩
theorem ZW{α:Type}{l:List α}{d:α}(h:i<l.length):l.getD i d=l[i]:=by rw[f4,bI h];rfl
def Zb(n:Nat)(w:List Int):Prop:=∀j,n<=j->gN w j=0
variable{w:List Int}{n:Nat}
theorem Mm{i:Int}(hb:BN B w)(K:n<=5)(O:0<=i)(hi:i<n):ix (w.take n) i=some (gN w i.toNat):=by
 have U:=hb.1;have:i.toNat<(w.take n).length:=by rw[rU];omega
 refine F8 (m:=i.toNat) (by omega) ?_;rw[bI this,List.getElem_take,Mt (by omega)]
theorem RI{j:Nat}(h:i≠j):gN (w.set i v) j=gN w j:=by
 unfold gN;rw[f4,qU h,f4]
theorem aZ(O:0<=d.1)(U:0<=d.2.1)(Y:d.1≠d.2.1):(Lt w d).take n=((w.take n).set d.1.toNat (gN w d.1.toNat - d.2.2)).set d.2.1.toNat (gN w d.2.1.toNat+d.2.2):=by
 unfold Lt JH;have K:d.2.1.toNat≠d.1.toNat:=by omega
 rw[RI K,ue,ue,sW _ _ K,Int.sub_eq_add_neg]
theorem Zb.add{i:Int}(h:Zb n w)(hi:i<n)(K:0<=i):Zb n (JH w i v):=λj hj=>by
 unfold JH
 rw[RI (by omega)]
 exact h j hj
theorem Zb.zero(n:Nat):Zb n (List.replicate 5 0):=λj _=>by
 unfold gN
 rw[f4,sH]
 split<;>rfl
theorem cJ(h:VO o):Zb o.1.length (Er o):=by
 have:∀(ds:List DT) (w:List Int),Zb o.1.length w->(∀d∈ds,VD o.1.length d)->Zb o.1.length (ds.foldl Lt w):=by
  intro ds
  induction ds with
  | nil=>exact λw hw _=>hw
  | cons d ds K=>
   intro w hw hd;let⟨v1,v2,O,v4,_⟩:=hd d rT;exact K _ ((hw.add v4 O).add v2 v1) λx U=>hd x (f9 _ U)
 exact this _ _ (Zb.zero _) h.ds
theorem V3(ag:100<F)(h:VO o):f55 F o=some ((Er o).take o.1.length):=by
 have U:=h.n5;have ai:=h.d8;refine Ef ?_;unfold f55;refine AW (b:=List.replicate o.1.length 0) ?_ ?_;unfold Fx;rw[d0 (by omega)];rfl
 refine Bv (S:=λr=>r=(Er o).take o.1.length) ?_ (λr Y=>Aw Y);refine CQ o.2.length (λi s=>s.2=(i:Int)/\∃w,s.1=w.take o.1.length/\w=(o.2.take i).foldl Lt (List.replicate 5 0)/\BN (20*i) w) ⟨rfl,List.replicate 5 0,by rw[List.take_replicate,sy U],rfl,rfl,by simp⟩ (by omega) ?_ ?_
 .rintro i ⟨s,c⟩ hi ⟨K,w,O,hw,hb⟩;simp only at K O;subst K;subst O;let⟨v1,v2,Z,v4,ac,v6,aj⟩:=h.ds _ (no hi);have g1:=hb.add (i:=o.2[i].2.1) (v:=o.2[i].2.2) (V:=10) (by omega) (by omega) (by omega) (by omega);have g2:=g1.add (i:=o.2[i].1) (v:= -o.2[i].2.2) (V:=10) (by omega) (by omega) (by omega) (by omega);have k1:=hb.bd (i:=o.2[i].2.1.toNat) (by omega);have al:=hb.bd (i:=o.2[i].1.toNat) (by omega);unfold No;refine BW (by simp only;omega) (Cf (m:=i) rfl hi ?_);refine AW (Mm hb U (by omega) (by omega)) (AW (Mm hb U (by omega) (by omega)) ?_);refine AI.E _ rfl (AW (Mm hb U (by omega) (by omega)) ?_);refine AI.E _ rfl (AI.E ((i+1:Nat):Int) (by simp) ?_);refine Aw ⟨rfl,Lt w o.2[i],(aZ v1 Z ac).symm,?_,g2.Ag (by omega)⟩;rw[ri,bI hi,sZ,← hw]
  rfl
 .rintro⟨s,c⟩ ⟨K,w,O,hw,hb⟩;simp only at K O;subst K;unfold No;rw[ra] at hw;exact BT (by simp) (Aw ⟨_,rfl,by simp only;rw[O,hw];rfl⟩)
def s1(A:Nat->Bool)(d:DT):Int:=(if A d.2.1.toNat then d.2.2 else 0)+(if A d.1.toNat then -d.2.2 else 0)
structure PN (n:Nat) (K:List Nat):Prop where
 len:K.length=n
 nd:K.Nodup
 lt:∀x∈K,x<n
theorem PN.get{K:List Nat}(h:PN n K)(hi:i<n):K.getD i 0<n:=by
 rw[f4,bI (by rw[h.len];exact hi)];exact h.lt _ (no _)
theorem VN{k:Nat}{b:Hq}(aw:100<F)(hb:BG k b)(a0:k<1000)(a1:n<=5):AI (f49 F b (n:Int)) (λr=>∃K,PN n K/\K.Perm (List.range n)/\r.1=(K.map λi:Nat=>(i:Int))/\BG (k+n) r.2):=by
 unfold f49;refine Bv (S:=λr=>∃K,PN n K/\K.Perm (List.range n)/\r.1=(K.map λi:Nat=>(i:Int))/\BG (k+n) r.2) ?_ (λr ag=>Aw ag);refine CQ n (λi s=>s.2.2.2.2=(i:Int)/\BG (k+i) (s.1,s.2.1,s.2.2.1)/\s.2.2.2.1.Perm ((List.range i).map λi:Nat=>(i:Int))) ⟨V,hb,.refl _⟩ (by omega) ?_ ?_
 .rintro i ⟨l,t,ai,w,z⟩ hi ⟨U,Y,O⟩;simp only at U Y O;subst U;have aj:w.length=i:=by rw[O.length_eq];simp
  unfold PF;refine BW (by simp only;omega) (Bv (Kb Y (by omega) (by simp only;omega)) ?_);rintro⟨j,a2⟩ ⟨al,am,g2⟩;simp only at al am g2 ⊢;obtain⟨j,rfl⟩:∃m:Nat,j=(m:Int):=⟨j.toNat,by omega⟩;have hj:j<=i:=by omega
  refine IW (by omega) ?_;have a3:(w++ [(i:Int)]).length=i+1:=by simp[aj]
  refine Cf (m:=j) V (by omega) (Cf (m:=i) V (by omega) ?_);refine Cf (m:=j) V (by rw[qY];omega) (AI.E ((i+1:Nat):Int) (by simp) ?_);refine Aw ⟨V,g2,?_⟩;simp only;rw[show Int.toNat (i:Int)=i by omega,show Int.toNat (j:Int)=j by omega];have ap:(w++ [(i:Int)])[i]'(by omega)=(i:Int):=by
   rw[List.getElem_append_right (by omega)];simp
  have aq:(((w++ [(i:Int)]).set i ((w++ [(i:Int)])[j]'(by omega))).set j (i:Int)).Perm (w++ [(i:Int)]):=by
   have:=List.set_set_perm (show i<(w++ [(i:Int)]).length by omega) (show j<(w++ [(i:Int)]).length by omega);rw[ap] at this;exact this
  refine aq.trans ?_;rw[List.range_succ,ru];exact O.append_right _
 .rintro⟨l,t,ai,w,z⟩ ⟨U,Y,O⟩;simp only at U Y O;subst U;unfold PF;have Z:(w.map Int.toNat).Perm (List.range n):=by
   have:=O.map Int.toNat;rw[List.map_map] at this;have e:(Int.toNat∘λi:Nat=>(i:Int))=id:=by funext i;simp
   rwa[e,List.map_id] at this
  refine BT (by simp only;omega) (Aw ⟨_,V,w.map Int.toNat,?_,Z,?_,Y⟩);exact⟨by rw[Z.length_eq];simp,Z.nodup_iff.2 List.nodup_range,λx ac=>q7.1 (Z.mem_iff.1 ac)⟩;simp only;rw[List.map_map];refine(List.map_id _).symm.trans (List.map_congr_left λx ac=>?_);obtain⟨y,-,rfl⟩:=q9.1 (O.mem_iff.1 ac);simp
abbrev z5:List Int:=List.replicate 5 0
def GD(n:Nat)(d:DT):Prop:=0<=d.1/\d.1<(n:Int)/\0<=d.2.1/\d.2.1<(n:Int)/\d.1≠d.2.1/\1<=d.2.2/\d.2.2<=72
def eD(d:DT):Nat:=(max d.1 d.2.1 - 1).toNat+4*(min d.1 d.2.1).toNat
theorem Si(K:n<=5)(h:GD n d):eD d<20:=by
 obtain⟨O,U,Y,Z,_⟩:=h;unfold eD;omega
theorem U6(ac:n<=5)(h:GD n d):f106 F d.1 d.2.1=some (2^eD d):=by
 obtain⟨O,U,Y,Z,K,_⟩:=h;obtain⟨x,y,p⟩:=d;simp only at O U Y Z K;have key:∀a b:Fin 5,a≠b->f106 0 ((a.val:Nat):Int) ((b.val:Nat):Int)=some (2^eD (((a.val:Nat):Int),((b.val:Nat):Int),0)):=by decide+kernel
 obtain⟨a,rfl⟩:∃a:Nat,x=(a:Int):=⟨x.toNat,by omega⟩;obtain⟨b,rfl⟩:∃b:Nat,y=(b:Int):=⟨y.toNat,by omega⟩;exact key ⟨a,by omega⟩ ⟨b,by omega⟩ (λe=>K (by rw[Fin.mk.injEq] at e;omega))
theorem ic{d':DT}(Y:n<=5)(h:GD n d)(K:GD n d')(e:eD d=eD d'):(d.1=d'.1/\d.2.1=d'.2.1)∨(d.1=d'.2.1/\d.2.1=d'.1):=by
 obtain⟨Z,ac,ag,ai,O,_⟩:=h;obtain⟨g1,g2,aj,al,U,_⟩:=K;unfold eD at e;rcases ud O with k | k<;>rcases ud U with k' | k';rw[tO (by omega),tS (by omega),tO (by omega),tS (by omega)] at e;omega;rw[tO (by omega),tS (by omega),tT (by omega),tP (by omega)] at e;omega;rw[tT (by omega),tP (by omega),tO (by omega),tS (by omega)] at e;omega;rw[tT (by omega),tP (by omega),tT (by omega),tP (by omega)] at e;omega
def G2(l:List DT):Nat:=l.foldl (λm d=>m|||2^eD d) 0
theorem YZ(l:List DT)(d:DT):G2 (l++ [d])=G2 l|||2^eD d:=by unfold G2;rw[sZ];rfl
theorem Up(l:List DT)(k:Nat):(G2 l).testBit k=true↔k∈l.map eD:=by
 have:∀(l:List DT) (m:Nat),(l.foldl (λm d=>m|||2^eD d) m).testBit k=true↔m.testBit k=true∨k∈l.map eD:=by
  intro l
  induction l with
  | nil=>simp
  | cons d l K=>
   intro m;rw[tt,K,uB,ts,r8,fP];simp only[rO,sF];constructor;rintro((h | h) | h);exact .inl h;exact .inr (.inl h.symm);exact .inr (.inr h);rintro(h | h | h);exact .inl (.inl h);exact .inl (.inr h.symm);exact .inr h
 rw[G2,this];simp
theorem Vq(K:n<=5){l:List DT}(h:∀d∈l,GD n d):G2 l<2^20:=by
 refine Nat.lt_pow_two_of_testBit _ λi hi=>?_;rcases hb:(G2 l).testBit i with _ | _;rfl;let⟨d,hd,e⟩:=q9.1 ((Up l i).1 hb);have:=Si K (h d hd);omega
theorem bK{l:List DT}(U:n<=5)(Z:∀d∈l,GD n d)(h:GD n d):f136 F (G2 l) d.1 d.2.1=some (decide (eD d∈l.map eD)):=by
 have ac:(2:Nat)^eD d<2^20:=s4 (by decide) (Si U h);have hm:=Vq U Z;refine Ef ?_;unfold f136;refine AW (U6 U h) ?_;refine AW (b:=G2 l&&& 2^eD d) (by unfold Pq;rw[d0 (by omega)]) (Aw ?_);have e:(G2 l&&& 2^eD d=0)↔¬(G2 l).testBit (eD d)=true:=by
  constructor
  .intro O K;have:(G2 l&&& 2^eD d).testBit (eD d)=true:=by rw[tx,K,ts];simp
   rw[O,Nat.zero_testBit] at this;cases this
  .intro O;refine tn λi=>?_;rw[tx,ts,Nat.zero_testBit];by_cases hi:eD d=i;subst hi;simp at O;rw[O];rfl;simp[hi]
 rw[Up] at e;apply decide_eq_decide.2;constructor;intro K;exact s3 λY=>K (by rw[e.2 Y]);intro K Y;exact e.1 (by omega) K
theorem dB{l:List DT}(K:n<=5)(O:∀d∈l,GD n d)(h:GD n d):NI F (G2 l) d.1 d.2.1=some (G2 (l++ [d])):=by
 have U:(2:Nat)^eD d<2^20:=s4 (by decide) (Si K h);have hm:=Vq K O;refine Ef ?_;unfold NI;refine AW (U6 K h) ?_;refine AW (b:=G2 l|||2^eD d) (by unfold P9;rw[d0 (by omega)]) (Aw (YZ l d).symm)
theorem BN.pay(h:BN B w)(U:n<=5)(g:GD n d):BN (B+144) (FA w d):=by
 obtain⟨K,Y,O,Z,ac,ag,ai⟩:=g;exact((h.add (i:=d.1) (v:=d.2.2) (V:=72) K (by omega) (by omega) (by omega)).add (i:=d.2.1) (v:= -d.2.2) (V:=72) O (by omega) (by omega) (by omega)).Ag (by omega)
theorem gY(j:Nat):gN z5 j=0:=by
 unfold gN;rw[f4,sH];split<;>rfl
open Go Go.Conc Go.Proofs
variable {E:LH}
variable {J:Judge Tryz.prog}
def MD(fu_:Nat)(p0:AB):Option (AB):=
 (CZ ([]:AB) p0).bind λK=>
 some K
variable{a1:Ap}{c2 fu_:Nat}
theorem Py{p0:AB}(Y:Am Ay E a1 c2 (p0)){r:AB}(K:MD fu_ p0=some r):AY J 10 [.slice a1 (p0).length c2] E [] (λw E' B'=>∃(O:Ap) (U:Nat) (g0:Seg),w=.slice O (r).length U/\B'=g0/\OL 27 Ay E' O U g0 (r)):=by
 refine Bm Tryz.func10 λQ a2 cs H Z ac=>?_;unfold MD at K;refine C 6 V (Mk (pp:=Ay) V V V Tryz.underlying23 AX Z λa3 a4 ag ai=>?_);let⟨a5,aj,al⟩:=bs K;refine C 1 V (FM (pp:=Ay) 1 aj V V V V V V V Tryz.underlying23 Tryz.underlying23 AX (BJ Tryz.type27) BC V (by decide) (by decide) ag Y ai V λam ap aq aw a0=>?_);refine C 2 V ?_;cases al;exact AK Tryz.func10 V V (ac (Le.refl _) V ⟨am,ap,aq,V,(by first | rfl | simp | (simp[Value.cells])),aw⟩ a0)
def Ni(fu_:Nat)(U:(List A0)×(B4))(Y:(List Int)×Int×Nat×Int)(O:Bg×B4)(K:Int):Option (Bq (Int) ((Bool)⊕(Unit))):=
 if K<((O.1).length:Int) then(
  Option.bind (
   (ix U.1 (Y.2.2.2)).bind λaj=>
   (ix O.1 (K)).bind λal=>
   (f21 fu_ aj).bind λac=>
   (MD fu_ al).bind λZ=>
   (ix U.1 (Y.2.2.2)).bind λam=>
   (ix O.1 (K)).bind λap=>
   (MG fu_ ac Z).bind λaq=>
   (IC fu_ am ap).bind λaw=>
   if aq≠aw then(
    some (Sum.inl false)
   ) else(
    if 5<((Z).length:Int) then(
     some (Sum.inr ())
    ) else(
     (Lw fu_ ac Z).bind λag=>
     (ix U.1 (Y.2.2.2)).bind λa0=>
     (ix O.1 (K)).bind λa1=>
     (LB fu_ a0 a1).bind λai=>
     Option.bind (
      if ag.2≠ai.2 then(
       some true
      ) else(
       (f29 fu_ ag.1 ai.1).bind λa2=>
       some (!a2)
      )
     ) λa3=>
     Option.bind (
      if a3=true then(
       some true
      ) else(
       (ix U.1 (Y.2.2.2)).bind λa4=>
       (f30 fu_ ac a4).bind λa5=>
       some (!a5)
      )
     ) λa6=>
     Option.bind (
      if a6=true then(
       some true
      ) else(
       (ix O.1 (K)).bind λa7=>
       (f26 fu_ Z a7).bind λa8=>
       some (!a8)
      )
     ) λa9=>
     if a9=true then(
      some (Sum.inl false)
     ) else(
      some (Sum.inr ())
     )
    )
   )
  ) λbb=>Sum.elim (λr=>some (.done (Sum.inl r))) (λbg=>
  (Az (K+1)).bind λbe=>
  some (.more be)
  ) bb
 ) else(
  some (.done (Sum.inr ()))
 )
def OA(fu_:Nat)(p1:Int×Int×Int)(p2:AB)(Z:(List A0)×(B4))(K:(List Int)×Int×Nat×Int):Option (Bq ((List Int)×Int×Nat×Int) ((Bool)⊕(B4))):=
 if K.2.2.2<((Z.1).length:Int) then(
  (ix Z.1 (K.2.2.2)).bind λai=>
  (f48 fu_ ai).bind λaj=>
  Option.bind (
   if aj=0 then(
    (ix Z.1 (K.2.2.2)).bind λal=>
    (NG fu_ (K.1,K.2.1,K.2.2.1) al).bind λO=>
    (MD fu_ O.1).bind λU=>
    Option.bind (
     if 0<((U).length:Int) then(
      (Az (((U).length:Int) - 1)).bind λam=>
      (f36 fu_ O.2 am).bind λY=>
      (ix U (Y.1)).bind λa0=>
      some ((U.set (Int.toNat Y.1) p1),Y.2.1,Y.2.2.1,Y.2.2.2)
     ) else(
      some (U,O.2.1,O.2.2.1,O.2.2.2)
     )
    ) λac=>
    (CZ ([p2]:Bg) ([O.1,ac.1]:Bg)).bind λap=>
    some (ap,ac.2.1,ac.2.2.1,ac.2.2.2)
   ) else(
    some (([p2]:Bg),K.1,K.2.1,K.2.2.1)
   )
  ) λag=>
  Option.bind (iter (Ni fu_ Z K ag) fu_ 0) λaq=>
  Sum.elim (λr=>some (.done (Sum.inl r))) (λa1=>
  (Az (K.2.2.2+1)).bind λaw=>
  some (.more (ag.2.1,ag.2.2.1,ag.2.2.2,aw))
  ) aq
 ) else(
  some (.done (Sum.inr (K.1,K.2.1,K.2.2.1)))
 )
def Qi(fu_:Nat)(p0:A0)(p1:Int×Int×Int)(p2:AB)(p3:List Int):Option (Bool):=
 (f17 fu_ p0).bind λO=>
 Option.bind (
  if O=true then(
   some true
  ) else(
   some (decide (20<((p2).length:Int)))
  )
 ) λU=>
 if U=true then(
  (f18 fu_).bind λY=>
  some Y
 ) else(
  (f20 fu_ p3).bind λZ=>
  (f19 fu_ p0 p1 Z).bind λK=>
  Option.bind (iter (OA fu_ p1 p2 K) fu_ (K.2.1,K.2.2.1,K.2.2.2,0)) λac=>
  Sum.elim (λr=>some r) (λai=>
  (f18 fu_).bind λag=>
  some ag
  ) ac
 )
theorem bB{E H:LH}{hn:Ap}{ho:Nat}{al:Ap}{am:Nat}{eA:Ap}{eC:Nat}{p0:A0}{p1:Int×Int×Int}{p2:AB}{p3:List Int}(hp:GE E)(hq:Am (rL rI) E a1 c2 (p0.1))(hr:Am Ay E hn ho (p0.2))(j0:Am Ay E al am (p2))(j1:Am rI E eA eC (p3)){r:Bool}(hs:Qi fu_ p0 p1 p2 p3=some r):(Hj Tryz.prog).ok (Ng Tryz.prog (λv _=>v=.bool r)) (G (Frame.enter Tryz.prog 3 ([.agg #[.slice a1 (p0.1).length c2,.slice hn (p0.2).length ho],.agg #[iV p1.1,iV p1.2.1,iV p1.2.2],.slice al (p2).length am,.slice eA (p3).length eC]:Lv_).toArray .normal) []) (mk E H []):=by
 refine Zu Tryz.func3 V V (qN V) ?_;have j2:Au E H [[]]:=trivial;unfold Qi at hs;refine C 2 V (Cs j2 λj3 pu bo ht j4=>?_);refine Cs j4 λa3 pw a7 hu j5=>?_;refine C 5 V (BQ (ht.Ag a7) Cb BD V V ?_);let⟨px,j6,j7⟩:=bs hs;refine B9 (g9 (hq.Ag (bo.trans a7)) (hr.Ag (bo.trans a7)) j6) V V (A4 Tryz.func4 V) j5 λeN a9 hv=>?_;let⟨j8,j9,kb⟩:=bs j7;refine C 1 V (Hh [] (λL s=>∃(hw:LH),Jm eN H hw [] [(2,.slice al (p2).length am),(3,.slice eA (p3).length eC),(4,.pointer (some ⟨j3,0,none⟩)),(5,.pointer (some ⟨a3,0,none⟩)),(29,.bool j8)] L s) ?_ ?_);rintro _ _ ⟨hw,rfl,rfl,bb,hx⟩;refine JL.done (Cm kb (λkc ke=>?_) (λkc kf=>?_));let⟨kg,kh,ki⟩:=bs ke;refine C 2 V (B9 (WZ kh) V V (A4 Tryz.func5 V) hx λpy pz pA=>?_);refine C 2 V ?_;cases ki;exact Ik V (JO.end (v:=.bool r) V (by decide+kernel) Tryz.func3 V V V);let⟨pB,kj,kl⟩:=bs kf;refine C 4 V (BU (iX (j1.Ag (((bo.trans a7).trans a9).trans bb)) kj) V V (A4 Tryz.func6 V) hx ?_);rintro _ pC _ bv ⟨U,pE,pF,rfl,rfl,km⟩ kn;refine C 4 V (BQ (ht.Ag (((a7.trans a9).trans bb).trans bv)) Cb BD V V ?_);refine BQ (hu.Ag ((a9.trans bb).trans bv)) C7 AX V V ?_;let⟨ap,ko,kp⟩:=bs kl;refine C 1 V (Cw 0 (ir (hq.Ag ((((bo.trans a7).trans a9).trans bb).trans bv)) (hr.Ag ((((bo.trans a7).trans a9).trans bb).trans bv)) km ko) V V (A4 Tryz.func7 V) kn V ?_);rintro _ e0 _ eb ⟨aw,a0,kq,kr,rfl,rfl,ca,ks⟩ kt;let⟨hy,ku,e1⟩:=bs kp;refine C 7 V (Bu (λL s=>∃(e3:B4) (e4:LH) (hz:Ap) (hA:Nat),hy=Sum.inr e3/\Jn e0 H e4 [] [] L s (Am rI e4 hz hA (e3.1))) ?_ ?_);rintro _ _ ⟨e3,e4,hz,hA,rfl,rfl,rfl,pG,kv,pI⟩;have kx:=elim_inr e1;let⟨ky,kz,kA⟩:=bs kx;refine C 2 V (B9 (WZ kz) V V (A4 Tryz.func5 V) kv λpJ pK pL=>?_);refine C 2 V ?_;cases kA;exact Ik V (JO.end (v:=.bool r) V (by decide+kernel) Tryz.func3 V V V);intro kB;refine JL.block (Co ku (λL s Y=>∃(ec:LH) (ct:Ap) (cw:Nat),Jn e0 H ec [[(U,.cells #[.slice ct (Y.1).length cw,iV Y.2.1,.int .u64 ((Y.2.2.1:Nat):Int)] 61 (0,0))]] [(2,.slice al (p2).length am),(5,.pointer (some ⟨a3,0,none⟩)),(9,.pointer (some ⟨U,0,none⟩)),(10,.slice aw (ap.1).length a0),(11,iV Y.2.2.2)] L s (Am rI ec ct cw (Y.1))) ⟨e0,kq,kr,V,V,(Le.refl _),kt,ks⟩ ?_);rintro _ _ Y ⟨ec,ct,cw,rfl,rfl,a4,hB,e5⟩ e6 ⟨pM,cy⟩ kC;have hC:=cy;unfold OA at hC;refine C 5 V (JL.ln Tryz.underlying33 V V V ?_);refine C 2 V (AP hC (λkD kF=>?_) (λkD kG=>?_));refine C 6 V (FO (pp:=(rL Ay)) [.slice al (p2).length am] [p2] V V V Tryz.underlying35 Cv QG (by decide) V V V ⟨⟨_,_,V,(j0.Ag ((((((bo.trans a7).trans a9).trans bb).trans bv).trans eb).trans a4))⟩,trivial⟩ hB λed hD hE kI=>?_);let⟨hF,kJ,kK⟩:=bs kF;refine C 7 V (JS.ix (ca.Ag a4) kJ Tryz.underlying33 BD ?_);rintro kL kM _ ⟨_,_,rfl,⟨kN,kO,rfl,kP⟩,⟨kQ,kR,rfl,kS⟩⟩ kT;refine BQ kT Cb BD V V ?_;obtain⟨hG,kU,kV⟩:=bs kK;refine B9 (W5 kP kS kU) V V (A4 Tryz.func8 V) kI λhH a2 hI=>?_;let⟨K,kW,kX⟩:=bs kV;refine C 2 V (Bu (λL s=>∃(ee:LH) (be:Ap) (bg:Nat) (e7:Seg) (ac:Ap) (ag:Nat),Jn hH H ee [[(U,.cells #[.slice ac (K.2.1).length ag,iV K.2.2.1,.int .u64 ((K.2.2.2:Nat):Int)] 61 (0,0))],e7] [(2,.slice al (p2).length am),(5,.pointer (some ⟨a3,0,none⟩)),(9,.pointer (some ⟨U,0,none⟩)),(10,.slice aw (ap.1).length a0),(11,iV Y.2.2.2),(12,.slice be (K.1).length bg)] L s (OL 23 (rL Ay) ee be bg e7 (K.1)/\Am rI ee ac ag (K.2.1))) ?_ ?_);rintro _ _ ⟨ee,be,bg,e7,ac,ag,rfl,rfl,b3,kY,kZ,k0⟩;refine JL.seq (BO 1 kZ kY V λk1 bw ef k2=>?_);let⟨hJ,k3,e8⟩:=bs kX;refine C 3 V (Bu (λL s=>∃(hK:Unit) (ff:LH),hJ=Sum.inr hK/\Jm k1 H ff [[(U,.cells #[.slice ac (K.2.1).length ag,iV K.2.2.1,.int .u64 ((K.2.2.2:Nat):Int)] 61 (0,0))]] [(2,.slice al (p2).length am),(5,.pointer (some ⟨a3,0,none⟩)),(9,.pointer (some ⟨U,0,none⟩)),(10,.slice aw (ap.1).length a0),(11,iV Y.2.2.2)] L s) ?_ ?_);rintro _ _ ⟨hK,ff,rfl,rfl,rfl,hL,k4⟩;have k5:=elim_inr e8;let⟨k6,k7,k8⟩:=bs k5;refine C 3 V (Bw k7 V V V ?_);refine C 2 V ?_;cases k8;exact AD (kC _ _ (K.2.1,K.2.2.1,K.2.2.2,k6) ⟨ff,ac,ag,V,V,((((a4.trans a2).trans b3).trans bw).trans hL),k4,(k0.Ag (bw.trans hL))⟩ cy) V;intro k9;refine JL.block (Du k3 (λbx=>[[(U,.cells #[.slice ac (K.2.1).length ag,iV K.2.2.1,.int .u64 ((K.2.2.2:Nat):Int)] 61 (0,0))]]) (λbx=>[(2,.slice al (p2).length am),(5,.pointer (some ⟨a3,0,none⟩)),(9,.pointer (some ⟨U,0,none⟩)),(10,.slice aw (ap.1).length a0),(11,iV Y.2.2.2),(12,.slice be (K.1).length bg),(16,iV bx)]) (Le.refl _) k2 ?_);rintro bx fk a5 fl fm ⟨pO,c0⟩ la;have hM:=c0;unfold Ni at hM;refine C 5 V (JL.ln Tryz.underlying35 V V V ?_);refine C 2 V (AP hM (λlb ld=>?_) (λlb lf=>?_));let⟨lg,lh,fo⟩:=bs ld;refine C 2 V (Bu (λL s=>∃(hN:Unit) (hO:LH),lg=Sum.inr hN/\Jm fk H hO [[(U,.cells #[.slice ac (K.2.1).length ag,iV K.2.2.1,.int .u64 ((K.2.2.2:Nat):Int)] 61 (0,0))]] [(2,.slice al (p2).length am),(5,.pointer (some ⟨a3,0,none⟩)),(9,.pointer (some ⟨U,0,none⟩)),(10,.slice aw (ap.1).length a0),(11,iV Y.2.2.2),(12,.slice be (K.1).length bg),(16,iV bx)] L s) ?_ ?_);rintro _ _ ⟨hN,hO,rfl,rfl,rfl,li,lj⟩;have ll:=elim_inr fo;let⟨lm,lq,lr⟩:=bs ll;refine C 2 V (Bw lq V V V ?_);refine C 2 V ?_;cases lr;exact la lm (a5.trans li) lj V c0;intro hP;refine C 2 V (Ei 11 λO=>?_);refine A9 O V [0,1] V ?_;let⟨eg,ls,lu⟩:=bs lh;refine CU 2 (ca.Ag ((((a4.trans a2).trans b3).trans bw).trans a5)) ls O Tryz.underlying33 BD ?_;rintro pP pR _ ⟨_,_,rfl,⟨hQ,hR,rfl,hS⟩,⟨hT,hU,rfl,hV⟩⟩ lw;refine GK 3 O lw Cb BD V V V (A9 O V [5,6] V ?_);let⟨fs,lx,lz⟩:=bs lu;refine CU 7 (ef.Ag a5) lx O Tryz.underlying35 Cv ?_;rintro pS pU _ ⟨fv,fw,rfl,fN⟩ lA;refine CY 8 O 0 lA EO V V V V ?_;let⟨b0,hW,lB⟩:=bs lz;let⟨cc,gc,lC⟩:=bs lB;refine F3 2 (tR_ 11 2) (λL s=>∃(c1:LH) (c3:Ap) (c4:Nat) (c5:Ap) (c6:Nat) (b4:Ap) (b5:Nat) (ge:Seg) (ej:Nat),Jn fk H c1 [[],[(U,.cells #[.slice ac (K.2.1).length ag,iV K.2.2.1,.int .u64 ((K.2.2.2:Nat):Int)] 61 (0,0))],ge,[(ej,.cells #[.slice none 0 0,.slice none 0 0] 25 (0,0))]] [(2,.slice al (p2).length am),(5,.pointer (some ⟨a3,0,none⟩)),(9,.pointer (some ⟨U,0,none⟩)),(10,.slice aw (ap.1).length a0),(11,iV Y.2.2.2),(12,.slice be (K.1).length bg),(16,iV bx),(17,.pointer (some ⟨ej,0,none⟩)),(85,.agg #[.slice c3 (b0.1).length c4,.slice c5 (b0.2).length c6]),(90,.slice b4 (cc).length b5)] L s (Am (rL rI) c1 c3 c4 (b0.1)/\Am Ay c1 c5 c6 (b0.2)/\OL 27 Ay c1 b4 b5 ge (cc))) ?_ ?_;rintro _ _ ⟨c1,c3,c4,c5,c6,b4,b5,ge,ej,rfl,rfl,a8,lD,gg,gh,lE⟩;refine Cn [11,12] (JS.sx 3 lD BD λlF=>?_);refine C8 3 lF V λpW aj gt lG=>C 4 V (BO 2 (lE.Ag aj) lG V λpY Z gE lH=>?_);refine Ei 11 λO=>GK 0 O (gt.Ag Z) Cb BD V V V (A9 O V [1,3,4] V ?_);let⟨p4,lI,lJ⟩:=bs lC;refine CU 5 (ca.Ag (((((((a4.trans a2).trans b3).trans bw).trans a5).trans a8).trans aj).trans Z)) lI O Tryz.underlying33 BD ?_;rintro p5 p6 _ ⟨_,_,rfl,⟨p7,p8,rfl,lK⟩,⟨p9,qa,rfl,lL⟩⟩ lM;refine GK 6 O lM Cb BD V V V (A9 O V [7,8] V ?_);let⟨qb,lN,lO⟩:=bs lJ;refine CU 9 (ef.Ag (((a5.trans a8).trans aj).trans Z)) lN O Tryz.underlying35 Cv ?_;rintro qc qd _ ⟨qe,qf,rfl,lP⟩ lQ;refine CY 10 O 0 lQ EO V V V V ?_;let⟨qg,lR,lS⟩:=bs lO;refine JG.call (i:=2) (vs:=[.agg #[.slice c3 (b0.1).length c4,.slice c5 (b0.2).length c6],.slice b4 (cc).length b5]) (eQ (hp.Ag (((((((((((((bo.trans a7).trans a9).trans bb).trans bv).trans eb).trans a4).trans a2).trans b3).trans bw).trans a5).trans a8).trans aj).trans Z)) (gg.Ag (aj.trans Z)) (gh.Ag (aj.trans Z)) gE lR) (by decide+kernel) V V V (A4 Tryz.func13 V) V lH ?_;rintro _ qh _ ai ⟨rfl,rfl⟩ lT;refine Cn [11,12] ?_;obtain⟨qi,lU,lV⟩:=bs lS;refine B9 (VR (lK.Ag ai) (lL.Ag ai) (lP.Ag ai) lU) V V (A4 Tryz.func14 V) lT λlW aq gO=>C 2 V (AP lV (λlX lY=>?_) (λlX lZ=>?_));refine C 4 V (JS.drop 1 gO V λqj=>?_);cases lY;have l3:=elim_inl fo;cases l3;obtain rfl:=fm _ c0;have l4:=elim_inl e8;cases l4;obtain rfl:=e6 _ cy;have l5:=elim_inl e1;cases l5;exact Ik V (JO.end (v:=.bool false) V (by decide+kernel) Tryz.func3 V V V);refine C 5 V (JL.ln Tryz.underlying23 V V V ?_);refine C 2 V (AP lZ (λl6 l7=>?_) (λl6 l8=>?_));exact JL.exit V (AD (hP _ _ ⟨(),lW,(ep l7).symm,V,V,((((a8.trans aj).trans Z).trans ai).trans aq),gO⟩) V);refine C 3 V (BQ (gt.Ag ((Z.trans ai).trans aq)) Cb BD V V ?_);let⟨hX,l9,ma⟩:=bs l8;refine C 1 V (BU (gq (hp.Ag (((((((((((((((bo.trans a7).trans a9).trans bb).trans bv).trans eb).trans a4).trans a2).trans b3).trans bw).trans a5).trans a8).trans aj).trans Z).trans ai).trans aq)) (gg.Ag (((aj.trans Z).trans ai).trans aq)) (gh.Ag (((aj.trans Z).trans ai).trans aq)) (gE.Ag (ai.trans aq)) l9) V V (A4 Tryz.func15 V) gO ?_);rintro _ qk _ bi ⟨mb,mc,rfl,rfl,md⟩ me;refine C 7 V (Ei 13 λO=>?_);refine A9 O V [0,1] V ?_;let⟨hY,mf,mg⟩:=bs ma;refine CU 2 (ca.Ag ((((((((((a4.trans a2).trans b3).trans bw).trans a5).trans a8).trans aj).trans Z).trans ai).trans aq).trans bi)) mf O Tryz.underlying33 BD ?_;rintro ql qm _ ⟨_,_,rfl,⟨mh,mi,rfl,mj⟩,⟨ml,mm,rfl,mo⟩⟩ mp;refine GK 3 O mp Cb BD V V V (A9 O V [4,5] V ?_);let⟨mq,mr,ms⟩:=bs mg;refine CU 6 (ef.Ag ((((((a5.trans a8).trans aj).trans Z).trans ai).trans aq).trans bi)) mr O Tryz.underlying35 Cv ?_;rintro qn qo _ ⟨mv,mw,rfl,my⟩ mz;refine CY 7 O 0 mz EO V V V V ?_;let⟨h0,mB,mC⟩:=bs ms;refine JG.call (i:=8) (vs:=[.agg #[.slice mh (hY.1).length mi,.slice ml (hY.2).length mm],.slice mv (mq).length mw]) (fB mj mo my mB) (by decide+kernel) V V V (A4 Tryz.func16 V) V me ?_;rintro _ h1 _ b1 ⟨mD,mE,rfl,rfl,mF⟩ h2;refine A9 O V [9,10,11,12] V (Cn [13] ?_);refine C 3 V (Ei 27 λO=>?_);refine A9 O V [0,1,2,3] V ?_;let⟨h3,h4,mG⟩:=bs mC;refine F3 18 (tR_ 9 18) (λL s=>∃(ek:LH),Jm h1 H ek [[(U,.cells #[.slice ac (K.2.1).length ag,iV K.2.2.1,.int .u64 ((K.2.2.2:Nat):Int)] 61 (0,0))]] [(2,.slice al (p2).length am),(5,.pointer (some ⟨a3,0,none⟩)),(9,.pointer (some ⟨U,0,none⟩)),(10,.slice aw (ap.1).length a0),(11,iV Y.2.2.2),(12,.slice be (K.1).length bg),(16,iV bx),(17,.pointer (some ⟨ej,0,none⟩)),(18,.slice b4 (cc).length b5),(133,.bool h3)] L s) ?_ ?_;rintro _ _ ⟨ek,rfl,rfl,b6,h5⟩;refine Dt 9 O V V ?_;let⟨h6,h7,mH⟩:=bs mG;refine F3 9 (tR_ 18 9) (λL s=>∃(el:LH),Jm ek H el [[(U,.cells #[.slice ac (K.2.1).length ag,iV K.2.2.1,.int .u64 ((K.2.2.2:Nat):Int)] 61 (0,0))]] [(2,.slice al (p2).length am),(5,.pointer (some ⟨a3,0,none⟩)),(9,.pointer (some ⟨U,0,none⟩)),(10,.slice aw (ap.1).length a0),(11,iV Y.2.2.2),(12,.slice be (K.1).length bg),(16,iV bx),(18,.slice b4 (cc).length b5),(142,.bool h6)] L s) ?_ ?_;rintro _ _ ⟨el,rfl,rfl,g3,h8⟩;refine Dt 18 O V V ?_;let⟨mI,h9,mJ⟩:=bs mH;refine F3 0 (tR_ 27 0) (λL s=>∃(g4:LH),Jm el H g4 [[(U,.cells #[.slice ac (K.2.1).length ag,iV K.2.2.1,.int .u64 ((K.2.2.2:Nat):Int)] 61 (0,0))]] [(2,.slice al (p2).length am),(5,.pointer (some ⟨a3,0,none⟩)),(9,.pointer (some ⟨U,0,none⟩)),(10,.slice aw (ap.1).length a0),(11,iV Y.2.2.2),(12,.slice be (K.1).length bg),(16,iV bx),(151,.bool mI)] L s) ?_ ?_;rintro _ _ ⟨g4,rfl,rfl,mK,ia⟩;refine AQ.fin (by decide+kernel) (Cm mJ (λmL mM=>?_) (λmL mO=>?_));refine C 4 V (JS.drop 0 ia V λqp=>?_);cases mM;have mP:=elim_inl fo;cases mP;obtain rfl:=fm _ c0;have mQ:=elim_inl e8;cases mQ;obtain rfl:=e6 _ cy;have mR:=elim_inl e1;cases mR;exact Ik V (JO.end (v:=.bool false) V (by decide+kernel) Tryz.func3 V V V);exact C 2 V (AD (hP _ _ ⟨(),g4,(ep mO).symm,V,V,(((((((((a8.trans aj).trans Z).trans ai).trans aq).trans bi).trans b1).trans b6).trans g3).trans mK),ia⟩) V);intro ih;refine Tt (c:=h6) (i:=143) V (λg5=>?_) (λg5=>?_);have mS:=ip h9 g5;refine A9 O V [19,20,21,22,23,24,25,26] V ?_;cases mS;refine En ?_ (ih _ _ ⟨el,V,V,(Le.refl _),h8⟩);exact⟨V,V,V,V,V,V,V,V,trivial⟩;have mT:=ib h9 g5;refine A9 O V [19,20,21] V ?_;obtain⟨mU,mV,mW⟩:=bs mT;refine CU 22 (ef.Ag (((((((((a5.trans a8).trans aj).trans Z).trans ai).trans aq).trans bi).trans b1).trans b6).trans g3)) mV O Tryz.underlying35 Cv ?_;rintro qq qr _ ⟨mX,mY,rfl,mZ⟩ m0;refine CY 23 O 0 m0 EO V V V V ?_;let⟨m1,m2,m3⟩:=bs mW;refine JG.call (i:=24) (vs:=[.slice b4 (cc).length b5,.slice mX (mU).length mY]) (PZ (gE.Ag (((((ai.trans aq).trans bi).trans b1).trans b6).trans g3)) mZ m2) (by decide+kernel) V V V N3 V h8 ?_;rintro _ m4 _ m5 ⟨rfl,rfl⟩ m6;refine A6 (v:=.bool (!m1)) 25 O V V (λρ h s' g6=>Yl.not (h _ _ V)) ?_;refine Dt 26 O V V ?_;cases m3;refine En ?_ (ih _ _ ⟨m4,V,V,m5,m6⟩);exact⟨V,V,V,V,V,V,V,V,trivial⟩;intro ii;refine Tt (c:=h3) (i:=134) V (λg7=>?_) (λg7=>?_);have m7:=ip h7 g7;refine A9 O V [10,11,12,13,14,15,16,17] V ?_;cases m7;refine En ?_ (ii _ _ ⟨ek,V,V,(Le.refl _),h5⟩);exact⟨V,V,V,V,V,V,V,V,V,trivial⟩;have m9:=ib h7 g7;refine GK 10 O (gt.Ag (((((Z.trans ai).trans aq).trans bi).trans b1).trans b6)) Cb BD V V V ?_;refine A9 O V [11,12] V ?_;let⟨io,na,nb⟩:=bs m9;refine CU 13 (ca.Ag ((((((((((((a4.trans a2).trans b3).trans bw).trans a5).trans a8).trans aj).trans Z).trans ai).trans aq).trans bi).trans b1).trans b6)) na O Tryz.underlying33 BD ?_;rintro qs qt _ ⟨_,_,rfl,⟨nc,nf,rfl,ng⟩,⟨nh,ni,rfl,nj⟩⟩ nk;refine GK 14 O nk Cb BD V V V ?_;let⟨nl,nm,np⟩:=bs nb;refine JG.call (i:=15) (vs:=[.agg #[.slice c3 (b0.1).length c4,.slice c5 (b0.2).length c6],.agg #[.slice nc (io.1).length nf,.slice nh (io.2).length ni]]) (iT (gg.Ag ((((((aj.trans Z).trans ai).trans aq).trans bi).trans b1).trans b6)) (gh.Ag ((((((aj.trans Z).trans ai).trans aq).trans bi).trans b1).trans b6)) ng nj nm) (by decide+kernel) V V V (A4 Tryz.func18 V) V h5 ?_;rintro _ nq _ nr ⟨rfl,rfl⟩ ns;refine A6 (v:=.bool (!nl)) 16 O V V (λρ h s' g6=>Yl.not (h _ _ V)) ?_;refine Dt 17 O V V ?_;cases np;refine En ?_ (ii _ _ ⟨nq,V,V,nr,ns⟩);exact⟨V,V,V,V,V,V,V,V,V,trivial⟩;intro i0;refine Hs (q:=hX.2≠h0.2) (i:=128) V (λg8=>?_) (λg8=>?_);have nt:=ip h4 g8;refine A9 O V [4,5,6,7,8] V ?_;cases nt;refine En ?_ (i0 _ _ ⟨h1,V,V,(Le.refl _),h2⟩);exact⟨V,V,V,V,V,V,V,V,V,V,trivial⟩;have nu:=im h4 g8;refine A9 O V [4,5] V ?_;let⟨nx,ny,nz⟩:=bs nu;refine JG.call (i:=6) (vs:=[.slice mb (hX.1).length mc,.slice mD (h0.1).length mE]) (Mv (md.Ag b1) mF ny) (by decide+kernel) V V V LW V h2 ?_;rintro _ nA _ nB ⟨rfl,rfl⟩ nC;refine A6 (v:=.bool (!nx)) 7 O V V (λρ h s' g6=>Yl.not (h _ _ V)) ?_;refine Dt 8 O V V ?_;cases nz;refine En ?_ (i0 _ _ ⟨nA,V,V,nB,nC⟩);exact⟨V,V,V,V,V,V,V,V,V,V,trivial⟩;intro ha;refine EH (i:=4) (j:=10) V (by decide+kernel) ?_ ?_;refine Take.C4 (vs:=[.agg #[.slice hQ (eg.1).length hR,.slice hT (eg.2).length hU]]) fl (W1 hS hV hW) V V V (A4 Tryz.func12 V) V ?_;rintro _ qu _ em ⟨i1,i3,i4,i5,rfl,rfl,i6,i7⟩ i8;refine EH (i:=9) (j:=10) V (by decide+kernel) ?_ ?_;refine Take.C4 (vs:=[.slice fv (fs).length fw]) i8 (Py (fN.Ag em) gc) V V V MN V ?_;rintro _ nD i9 hb ⟨nE,nF,_,rfl,rfl,nG⟩ nH;refine JG.one (i:=10) V (by decide+kernel) (Take.Iu nH V V V GV λjg nI=>?_);exact AQ.perm (S':=[[],[(U,.cells #[.slice ac (K.2.1).length ag,iV K.2.2.1,.int .u64 ((K.2.2.2:Nat):Int)] 61 (0,0))],i9,[(jg,.cells #[.slice none 0 0,.slice none 0 0] 25 (0,0))]]) (.refl _) nI λnJ=>DG (ha _ _ ⟨nD,i1,i3,i4,i5,nE,nF,i9,jg,V,V,(em.trans hb),nJ,(i6.Ag hb),(i7.Ag hb),nG⟩) V;refine Take.Iu i8 V V V GV λc7 nK=>JG.one (i:=9) V (by decide+kernel) (Take.C4 (vs:=[.slice fv (fs).length fw]) nK (Py (fN.Ag em) gc) V V V MN V ?_);rintro _ nL c8 hc ⟨nM,nN,_,rfl,rfl,nO⟩ nP;exact Ty (S1:=[[(U,.cells #[.slice ac (K.2.1).length ag,iV K.2.2.1,.int .u64 ((K.2.2.2:Nat):Int)] 61 (0,0))],[],[(c7,.cells #[.slice none 0 0,.slice none 0 0] 25 (0,0))],c8]) (S':=[[],[(U,.cells #[.slice ac (K.2.1).length ag,iV K.2.2.1,.int .u64 ((K.2.2.2:Nat):Int)] 61 (0,0))],c8,[(c7,.cells #[.slice none 0 0,.slice none 0 0] 25 (0,0))]]) V ((sK (α:=Seg) (l₁:=[[(U,.cells #[.slice ac (K.2.1).length ag,iV K.2.2.1,.int .u64 ((K.2.2.2:Nat):Int)] 61 (0,0))]]) (a:=[]) (l₂:=[[(c7,.cells #[.slice none 0 0,.slice none 0 0] 25 (0,0))],c8])).trans ((((sK (α:=Seg) (l₁:=[[(c7,.cells #[.slice none 0 0,.slice none 0 0] 25 (0,0))]]) (a:=c8) (l₂:=[])).trans ((s6 _).cons _)).cons _).cons _)) nP λnQ=>DG (ha _ _ ⟨nL,i1,i3,i4,i5,nM,nN,c8,c7,V,V,(em.trans hc),nQ,(i6.Ag hc),(i7.Ag hc),nO⟩) V;refine Take.Iu fl V V V GV λc9 nR=>JG.one (i:=4) V (by decide+kernel) (Take.C4 (vs:=[.agg #[.slice hQ (eg.1).length hR,.slice hT (eg.2).length hU]]) nR (W1 hS hV hW) V V V (A4 Tryz.func12 V) V ?_);rintro _ qv _ ji ⟨nT,nU,nV,nW,rfl,rfl,nX,nY⟩ nZ;refine JG.one (i:=9) V (by decide+kernel) (Take.C4 (vs:=[.slice fv (fs).length fw]) nZ (Py (fN.Ag ji) gc) V V V MN V ?_);rintro _ n0 dd he ⟨n3,n4,_,rfl,rfl,n6⟩ n7;exact Ty (S1:=[[(U,.cells #[.slice ac (K.2.1).length ag,iV K.2.2.1,.int .u64 ((K.2.2.2:Nat):Int)] 61 (0,0))],[(c9,.cells #[.slice none 0 0,.slice none 0 0] 25 (0,0))],[],dd]) (S':=[[],[(U,.cells #[.slice ac (K.2.1).length ag,iV K.2.2.1,.int .u64 ((K.2.2.2:Nat):Int)] 61 (0,0))],dd,[(c9,.cells #[.slice none 0 0,.slice none 0 0] 25 (0,0))]]) V ((sK (α:=Seg) (l₁:=[[(U,.cells #[.slice ac (K.2.1).length ag,iV K.2.2.1,.int .u64 ((K.2.2.2:Nat):Int)] 61 (0,0))],[(c9,.cells #[.slice none 0 0,.slice none 0 0] 25 (0,0))]]) (a:=[]) (l₂:=[dd])).trans ((((sK (α:=Seg) (l₁:=[[(c9,.cells #[.slice none 0 0,.slice none 0 0] 25 (0,0))]]) (a:=dd) (l₂:=[])).trans ((s6 _).cons _)).cons _).cons _)) n7 λn8=>DG (ha _ _ ⟨n0,nT,nU,nV,nW,n3,n4,dd,c9,V,V,(ji.trans he),n8,(nX.Ag he),(nY.Ag he),n6⟩) V;refine JL.exit V ?_;cases lf;have n9:hJ=(Sum.inr ()):=(fm _ c0).symm;exact AD (k9 _ _ ⟨(),fk,n9,V,V,a5,fl⟩) V;intro jj;refine AP kW (λoa ob=>?_) (λoa oc=>?_);let⟨jp,od,oe⟩:=bs ob;refine C 5 V (JS.ix (ca.Ag (a4.trans a2)) od Tryz.underlying33 BD ?_);rintro og oh _ ⟨_,_,rfl,⟨om,oo,rfl,oq⟩,⟨ot,ou,rfl,ov⟩⟩ ow;refine BQ ow Cb BD V V ?_;let⟨ce,ox,oy⟩:=bs oe;refine Cw 0 (eI (e5.Ag a2) oq ov ox) V V (A4 Tryz.func9 V) hI V ?_;rintro _ qw _ hf ⟨dj,ea,oz,oA,rfl,rfl,jr,jt⟩ oB;let⟨a6,oD,oE⟩:=bs oy;refine C 5 V (BU (Py jr oD) V V MN oB ?_);rintro _ jy oF ci ⟨ck,co,_,rfl,rfl,jT⟩ jU;refine C 6 V (JL.ln Tryz.underlying23 V V V ?_);let⟨b2,oG,oH⟩:=bs oE;refine C 7 V (Bu (λL s=>∃(eo:LH) (er:Ap) (et:Nat) (hg:Seg) (eu:Ap) (ew:Nat),Jn jy H eo [[(U,.cells #[.slice eu (b2.2.1).length ew,iV b2.2.2.1,.int .u64 ((b2.2.2.2:Nat):Int)] 61 (0,0))],hD,hg] [(2,.slice al (p2).length am),(5,.pointer (some ⟨a3,0,none⟩)),(9,.pointer (some ⟨U,0,none⟩)),(10,.slice aw (ap.1).length a0),(11,iV Y.2.2.2),(12,.slice (some ⟨ed,0,none⟩) (([p2]:Bg)).length 1),(13,.slice dj (ce.1).length ea),(14,.slice er (b2.1).length et)] L s (OL 27 Ay eo er et hg (b2.1)/\Am rI eo eu ew (b2.2.1))) ?_ ?_);rintro _ _ ⟨eo,er,et,hg,eu,ew,rfl,rfl,hk,oI,oJ,oK⟩;refine C 4 V (BO 2 oJ oI V λqx ex oL oM=>?_);refine FO (pp:=(rL Ay)) [.slice dj (ce.1).length ea,.slice er (b2.1).length et] [ce.1,b2.1] V V V Tryz.underlying35 Cv QG (by decide) V V V ⟨⟨_,_,V,(jr.Ag ((ci.trans hk).trans ex))⟩,⟨_,_,V,oL⟩,trivial⟩ oM λqy qz oN oO=>BO 3 oN oO V λoP hl oQ oR=>?_;let⟨qB,oS,oT⟩:=bs oH;refine FM (pp:=(rL Ay)) 1 oS V V V V V V V Tryz.underlying35 Tryz.underlying35 Cv (BJ Tryz.type23) QG V (by decide) (by decide) (hE.Ag (((((a2.trans hf).trans ci).trans hk).trans ex).trans hl)) oQ oR V λoU oV oW oX oY=>C 2 V ?_;cases oT;exact AD (jj _ _ ⟨oP,oU,oV,oW,eu,ew,V,V,((((hf.trans ci).trans hk).trans ex).trans hl),oY,oX,(oK.Ag (ex.trans hl))⟩) V;intro jV;refine AP oG (λoZ o0=>?_) (λoZ o1=>?_);refine Ei 6 λO=>A9 O V [0,1,2] V ?_;let⟨jW,o2,o3⟩:=bs o0;refine A6 3 O V V (λρ h s' g6=>Eo (h _ _ V) (h _ _ V) o2) (GK 5 O (hu.Ag (((((((a9.trans bb).trans bv).trans eb).trans a4).trans a2).trans hf).trans ci)) C7 AX V V V ?_);let⟨cp,o4,o5⟩:=bs o3;refine Ol (i:=4) (vs:=[.pointer (some ⟨U,0,none⟩),iV jW]) 0 (λ_ h=>by cases h) (Ke (jt.Ag ci) o4) (by decide+kernel) V V V JY V jU V ?_;rintro _ o6 _ jX ⟨o7,o8,rfl,rfl,o9⟩ pa;refine Cn [6,7] ?_;let⟨qC,pb,pc⟩:=bs o5;refine HS 3 (jT.Ag jX) pb V V V V V V Tryz.underlying23 AX ?_;rintro jY hm pd _ pe ⟨_,_,rfl,rfl,⟨_,_,rfl,rfl,rfl⟩⟩ qD pf pg qE qF;refine JS.store (v:=.agg #[iV p1.1,iV p1.2.1,iV p1.2.2]) (off:=hm) 3 V V V pa V V AX (by simp[Value.cells,CL]) pe (by have:=pf;simp only[Rp.n,rK,rN,rB,rP,rL] at this;show _+3<=_;omega) λpi=>?_;have pj:=pg (p1) [iV p1.1,iV p1.2.1,iV p1.2.2] ⟨_,_,V,V,⟨_,_,V,V,V⟩⟩;have ey:(a6.set (Int.toNat cp.1) p1).length=(a6).length:=qY;refine DR (L':=[(2,.slice al (p2).length am),(5,.pointer (some ⟨a3,0,none⟩)),(9,.pointer (some ⟨U,0,none⟩)),(10,.slice aw (ap.1).length a0),(11,iV Y.2.2.2),(37,iV Y.2.2.2),(38,.slice aw (ap.1).length a0),(39,iV ((ap.1).length:Int)),(40,.bool (decide (Y.2.2.2<((ap.1).length:Int)))),(43,.slice al (p2).length am),(44,.slice (some ⟨ed,0,none⟩) (([p2]:Bg)).length 1),(12,.slice (some ⟨ed,0,none⟩) (([p2]:Bg)).length 1),(45,.slice aw (ap.1).length a0),(46,iV Y.2.2.2),(47,.pointer (some ⟨kL,kM,none⟩)),(48,.agg #[.slice kN (hF.1).length kO,.slice kQ (hF.2).length kR]),(49,iV hG),(50,.bool (decide (hG=0))),(51,.pointer (some ⟨U,0,none⟩)),(52,.slice aw (ap.1).length a0),(53,iV Y.2.2.2),(54,.pointer (some ⟨og,oh,none⟩)),(55,.agg #[.slice om (jp.1).length oo,.slice ot (jp.2).length ou]),(56,.slice dj (ce.1).length ea),(13,.slice dj (ce.1).length ea),(57,.slice dj (ce.1).length ea),(58,.slice ck ((a6.set (Int.toNat cp.1) p1)).length co),(14,.slice ck ((a6.set (Int.toNat cp.1) p1)).length co),(59,.slice ck ((a6.set (Int.toNat cp.1) p1)).length co),(60,iV ((a6).length:Int)),(15,iV ((a6).length:Int)),(61,iV ((a6).length:Int)),(62,.bool (decide (0<((a6).length:Int)))),(63,.slice ck ((a6.set (Int.toNat cp.1) p1)).length co),(64,.pointer (some ⟨U,0,none⟩)),(65,iV ((a6).length:Int)),(66,iV jW),(68,.agg #[iV p1.1,iV p1.2.1,iV p1.2.2]),(67,iV cp.1),(69,.pointer (some ⟨jY,hm,none⟩))]) ⟨V,V,V,V,V,V,V,V,V,V,V,V,V,V,V,V,V,V,V,V,V,V,V,V,V,V,by rw[ey];rfl,by rw[ey];rfl,by rw[ey];rfl,V,V,V,V,by rw[ey];rfl,V,V,V,V,V,V,trivial⟩ ?_;refine JL.done ?_;cases pc;exact AD (jV _ _ ⟨o6,ck,co,[(jY,.cells (Bf pd hm [iV p1.1,iV p1.2.1,iV p1.2.2]) 27 (0,0))],o7,o8,V,V,jX,pi,pj,o9⟩) V;refine JL.skip ?_;cases o1;exact AD (jV _ _ ⟨jy,ck,co,oF,oz,oA,V,V,(Le.refl _),jU,jT,(jt.Ag ci)⟩) V;refine JL.skip ?_;cases oc;exact AD (jj _ _ ⟨hH,(some ⟨ed,0,none⟩),1,hD,ct,cw,V,V,(Le.refl _),hI,(hE.Ag a2),(e5.Ag a2)⟩) V;refine JL.exit V (JS.drop 0 hB V λpn=>?_);cases kG;have po:hy=(Sum.inr (Y.1,Y.2.1,Y.2.2.1)):=(e6 _ cy).symm;exact AD (kB _ _ ⟨(Y.1,Y.2.1,Y.2.2.1),ec,ct,cw,po,V,V,a4,pn,e5⟩) V;intro jZ;refine Fy 25 j9 (λpq pr=>?_) (λpq pt=>?_);refine C 4 V ?_;cases pr;exact AD (jZ _ _ ⟨eN,V,V,(Le.refl _),hv⟩) V;refine C 1 V (JL.ln Tryz.underlying23 V V V ?_);refine C 2 V ?_;cases pt;exact AD (jZ _ _ ⟨eN,V,V,(Le.refl _),hv⟩) V
end Pal
namespace Pal
open Go
variable{F n:Nat}{d:DT}
theorem dP(K:n<1000):AI (f88 F (n:Int) d 72) (λr=>r=0↔GD n d):=Xg K
def H7(F n:Nat)(d:DT):Int:=(f88 F (n:Int) d 72).getD 0
theorem RR(d:DT)(O:n<1000):f88 F (n:Int) d 72=some (H7 F n d)/\(H7 F n d=0↔GD n d):=by
 let⟨c,K,U⟩:=dP (F:=F) (d:=d) O;have e:H7 F n d=c:=by unfold H7;rw[K];rfl
 rw[e];exact⟨K,U⟩
def IL(K:DT->Int)(w0:List Int):List DT->List DT->Int
 | pre,[]=>if pre.foldl FA w0=z5 then 0 else 9
 | pre,d::l=>if K d≠0 then K d else if eD d∈pre.map eD then 4 else IL K w0 (pre++ [d]) l
variable{o:OW}{x:List DT}
theorem bf(aj:100<F)(h:VO o)(aq:x.length<=8):
  KU F o x=some (if IL (H7 F o.1.length) (Er o) [] x=0 then none else some (IL (H7 F o.1.length) (Er o) [] x)):=by
 have ag:=h.n5;generalize al:IL (H7 F o.1.length) (Er o) [] x=R;refine Ef ?_;unfold KU;refine BT (by omega) ?_;let⟨a1,am⟩:=RQ aj h;refine AW a1 ?_;refine Bv (S:=λr=>(r=Sum.inl (some R)/\R≠0)∨(r=Sum.inr (x.foldl FA (Er o))/\R=if x.foldl FA (Er o)=z5 then 0 else 9)) ?_ ?_
 .refine CQ x.length (λi s=>s=((x.take i).foldl FA (Er o),G2 (x.take i),(i:Int))/\(∀d∈x.take i,GD o.1.length d)/\BN (200+144*i) ((x.take i).foldl FA (Er o))/\R=IL (H7 F o.1.length) (Er o) (x.take i) (x.drop i)) ⟨V,λd hd=>by simp at hd,am.Ag (by omega),by simpa using al.symm⟩ (by omega) ?_ ?_
  .rintro i _ hi ⟨rfl,U,hb,K⟩;rw[sc hi] at K;unfold IL at K;unfold O3;refine BW (by simp only;omega) (Cf (m:=i) V hi ?_);obtain⟨c1,c2⟩:=RR (F:=F) x[i] (show o.1.length<1000 by omega);refine AW (b:=H7 F o.1.length x[i]) (by rw[gW];exact c1) (CG (λe=>Aw ?_) (λe=>?_));rw[d0 e] at K;exact .inl ⟨by rw[K],by rw[K];exact e⟩
   rw[d7 e] at K;have Y:=c2.1 (s5 e);refine AW (bK ag U Y) (CG (λhm=>Aw ?_) (λhm=>?_));rw[d0 (sX hm)] at K;exact .inl ⟨by rw[K],by rw[K];decide⟩
   .rw [d7 (sN (sY.2 hm))] at K;refine AW (dB ag U Y) ?_;have ai:=Y;obtain⟨g1,g2,aw,a0,a2,a3,a4⟩:=Y;obtain⟨ap,_⟩:=dH (F:=F) (d:=x[i]) hb (by omega) (by omega) (by omega) (by omega) (by omega) (by omega) (by omega);refine AW ap (AI.E ((i+1:Nat):Int) (by simp) ?_);have Z:x.take (i+1)=x.take i++ [x[i]]:=by rw[ri,bI hi,rJ]
    refine Aw ⟨?_,?_,?_,by rw[Z];exact K⟩;rw[Z,sZ];rfl;rw[Z];intro d hd;rcases ik.1 hd with hd | hd;exact U d hd;rw[aX.1 hd];exact ai;rw[Z,sZ];exact(BN.pay hb ag ai).Ag (by omega)
  .rintro _ ⟨rfl,U,hb,K⟩;unfold O3;rw[ra,uo] at K;refine BT (by simp only;omega) (Aw ⟨_,V,.inr ⟨?_,K⟩⟩);rw[ra]
 .rintro r (⟨rfl,O⟩ | ⟨rfl,O⟩);rw[d7 O];exact Aw V;rw[Sum.elim_inr];by_cases ac:x.foldl FA (Er o)=z5;rw[d0 ac] at O;subst O;exact BT (λh=>h ac) (Aw V);rw[d7 ac] at O;rw[O];exact BW ac (Aw V)
theorem dT{q:DT}(h:(d.1=q.1/\d.2.1=q.2.1)∨(d.1=q.2.1/\d.2.1=q.1)):eD d=eD q:=by
 unfold eD;rcases h with⟨K,O⟩ | ⟨K,O⟩;rw[K,O];rw[K,O,Int.max_comm,Int.min_comm]
theorem YO{i:Nat}{s:List Int}(ai:100<F)(Y:n<=5)(hi:i<x.length)(aj:x.length<=8)(Z:∀q∈x.take i,GD n q)(ac:GD n d):
  iter (Nf F x (s,(i:Int)) d) F 0=some (if eD d∈(x.take i).map eD then Sum.inl 4 else Sum.inr ()):=by
 refine Ef (CQ i (λk st=>st=(k:Int)/\eD d ∉ (x.take k).map eD) ⟨V,by simp⟩ (by omega) ?_ ?_)
 .rintro k _ al ⟨rfl,O⟩;unfold Nf;refine BW (by simp only;omega) ?_;have U:k<x.length:=by omega
  refine AI.X k U ?_;have ag:GD n x[k]:=Z _ (by rw[tz];exact⟨k,by omega,rfl⟩);have tw:((d.1=x[k].1/\d.2.1=x[k].2.1)∨(d.1=x[k].2.1/\d.2.1=x[k].1))↔eD d=eD x[k]:=⟨dT,ic Y ac ag⟩;refine AW (b:=decide (d.1=x[k].1/\d.2.1=x[k].2.1)) (by by_cases e:d.1=x[k].1<;>simp[e]) (AW (b:=decide (eD d=eD x[k])) ?_ ?_);by_cases e:d.1=x[k].1/\d.2.1=x[k].2.1;rw[d0 (qR e),qR (tw.1 (.inl e))];rw[d7 (by simpa using e)];by_cases e2:d.1=x[k].2.1;rw[d0 e2];by_cases K:d.2.1=x[k].1;rw[qR K,qR (tw.1 (.inr ⟨e2,K⟩))];rw[qX K,qX λz=>(tw.2 z).elim e λz=>K z.2];rw[d7 e2,qX λz=>(tw.2 z).elim e λz=>e2 z.1]
  by_cases e:eD d=eD x[k];rw[qR e];refine BW V (Aw ?_);show _=_;rw[d0];rw[e];exact q9.2 ⟨x[k],by rw[tz];exact⟨k,by omega,rfl⟩,V⟩;rw[qX e];refine BT (by simp) (AI.E ((k+1:Nat):Int) (by omega) ?_);refine Aw ⟨V,λz=>?_⟩;rw[ri,bI U,rJ,ru,ik] at z;exact z.elim O λz=>e (by simpa using z)
 .rintro _ ⟨rfl,O⟩;unfold Nf;exact BT (by simp) (Aw ⟨_,V,by rw[d7 O]⟩)
variable{w:List Int}
theorem aJ(O:0<=d.1)(U:0<=d.2.1)(Y:d.1≠d.2.1):(FA w d).take n=((w.take n).set d.1.toNat (gN w d.1.toNat+d.2.2)).set d.2.1.toNat (gN w d.2.1.toNat - d.2.2):=by
 unfold FA JH;have K:d.1.toNat≠d.2.1.toNat:=by omega
 rw[RI K,ue,ue,Int.sub_eq_add_neg]
theorem jE(hw:w.length=5)(Y:n<=5)(K:Zb n w):(∀y∈w.take n,y=0)↔w=z5:=by
 constructor
 .intro h;refine aH hw (by simp) λj hj=>?_;rw[gY];by_cases q:j<n
  .have O:j<w.length:=by omega
   rw[Mt O];exact h _ (by rw[tz];exact⟨j,by omega,rfl⟩)
  .exact K j (by omega)
 .rintro rfl y U;exact(sR.1 (uF U)).2
theorem aO(ac:100<F)(h:VO o)(a1:x.length<=8):IC F o x=some (IL (H7 F o.1.length) (Er o) [] x):=by
 have U:=h.n5;generalize a2:IL (H7 F o.1.length) (Er o) [] x=R;let⟨_,a3⟩:=RQ ac h;refine Ef ?_;unfold IC;let⟨c,k1,a4⟩:=Nm ac h.nv;have:c=0:=a4.2 h;subst this;refine AW k1 ?_;refine BT (by simp) ?_;refine BT (by omega) ?_;have a5:NH F o=f55 F o:=by
  have e:RF F o=No F o:=by funext s;rfl
  unfold NH f55;rw[e]
 refine AW (a5.trans (V3 ac h)) (Bv (S:=λr=>(r=Sum.inl R/\R≠0)∨(r=Sum.inr ((x.foldl FA (Er o)).take o.1.length)/\(x.foldl FA (Er o)).length=5/\Zb o.1.length (x.foldl FA (Er o))/\R=if x.foldl FA (Er o)=z5 then 0 else 9)) ?_ ?_)
 .refine CQ x.length (λi s=>s=(((x.take i).foldl FA (Er o)).take o.1.length,(i:Int))/\(∀d∈x.take i,GD o.1.length d)/\BN (200+144*i) ((x.take i).foldl FA (Er o))/\Zb o.1.length ((x.take i).foldl FA (Er o))/\R=IL (H7 F o.1.length) (Er o) (x.take i) (x.drop i)) ⟨V,λd hd=>by simp at hd,a3.Ag (by omega),cJ h,by simpa using a2.symm⟩ (by omega) ?_ ?_
  .rintro i _ hi ⟨rfl,ai,hb,O,K⟩;rw[sc hi] at K;unfold IL at K;unfold OT;have a6:(((x.take i).foldl FA (Er o)).take o.1.length).length=o.1.length:=by rw[rU,hb.1];omega
   refine BW (by simp only;omega) (Cf (m:=i) V hi ?_);obtain⟨c1,c2⟩:=RR (F:=F) x[i] (show o.1.length<1000 by omega);refine AW (b:=H7 F o.1.length x[i]) (by simp only[a6];exact c1) (CG (λe=>Aw ?_) (λe=>?_));rw[d0 e] at K;exact .inl ⟨by rw[K],by rw[K];exact e⟩
   rw[d7 e] at K;have aj:=c2.1 (s5 e);refine AW (YO ac U hi a1 ai aj) ?_;by_cases hm:eD x[i]∈(x.take i).map eD;rw[d0 hm] at K ⊢;exact Aw (.inl ⟨by rw[K],by rw[K];decide⟩)
   .rw [d7 hm] at K ⊢;rw[Sum.elim_inr];have ap:=aj;obtain⟨g1,g2,aq,a7,a8,a9,bb⟩:=aj;have be:=hb.bd (i:=x[i].1.toNat) (by omega);have bg:=hb.bd (i:=x[i].2.1.toNat) (by omega);refine AW (Mm hb U (by omega) (by omega)) (AW (Mm hb U (by omega) (by omega)) ?_);refine AI.E _ V (AW (Mm hb U (by omega) (by omega)) ?_);refine AI.E _ V (AI.E ((i+1:Nat):Int) (by simp) ?_);have al:x.take (i+1)=x.take i++ [x[i]]:=by rw[ri,bI hi,rJ]
    have am:(x.take (i+1)).foldl FA (Er o)=FA ((x.take i).foldl FA (Er o)) x[i]:=by rw[al,sZ];rfl
    refine Aw ⟨?_,?_,?_,?_,by rw[al];exact K⟩;rw[am,aJ g1 aq a8];rw[al];intro d hd;rcases ik.1 hd with hd | hd;exact ai d hd;rw[aX.1 hd];exact ap;rw[am];exact(BN.pay hb U ap).Ag (by omega);rw[am];exact(O.add g2 g1).add a7 aq
  .rintro _ ⟨rfl,ai,hb,O,K⟩;unfold OT;rw[ra] at hb O K;rw[uo] at K;refine BT (by simp only;omega) (Aw ⟨_,V,.inr ⟨?_,hb.1,O,K⟩⟩);rw[ra]
 .rintro r (⟨rfl,Y⟩ | ⟨rfl,aw,O,Y⟩);exact Aw V;rw[Sum.elim_inr];generalize hw:x.foldl FA (Er o)=w at aw O Y;have a0:=jE aw U O;refine Bv (S:=λr=>(r=Sum.inl 9/\w≠z5)∨(r=Sum.inr ()/\w=z5)) ?_ ?_;refine CQ (w.take o.1.length).length (λi s=>s=(i:Int)/\∀y∈(w.take o.1.length).take i,y=0) ⟨V,by simp⟩ (by rw[rU];omega) ?_ ?_;rintro i _ hi ⟨rfl,ag⟩;unfold OZ;refine BW (by omega) (AI.X i hi ?_);refine CG (λe=>Aw (.inl ⟨V,λq=>e (a0.2 q _ (no hi))⟩)) (λe=>?_);refine AI.E ((i+1:Nat):Int) (by omega) ?_ (by omega) (by rw[rU] at hi;omega);refine Aw ⟨V,λy Z=>?_⟩;rw[ri,bI hi,rJ] at Z;rcases ik.1 Z with Z | Z;exact ag y Z;rw[aX.1 Z];exact s5 e;rintro _ ⟨rfl,ag⟩;unfold OZ;rw[ra] at ag;exact BT (by omega) (Aw ⟨_,V,.inr ⟨V,a0.1 ag⟩⟩);rintro r (⟨rfl,q⟩ | ⟨rfl,q⟩);rw[d7 q] at Y;exact Aw Y.symm;rw[d0 q] at Y;exact Aw Y.symm
end Pal
namespace Pal
def Xw(out:List DT)(u v:Nat)(z:Int):List DT:=if 0<z then out++ [((u:Int),(v:Int),z)] else if z<0 then out++ [((v:Int),(u:Int),-z)] else out
theorem dh(F:Nat)(o:OW):NJ F o=f55 F o:=by
 have e:Rl F o=No F o:=by funext s;rfl
 unfold f55 NJ;rw[e]
variable{n:Nat}{K:List Nat}
theorem PS(O:K.length=n){q:Nat}(U:q<n):ix (K.map λi:Nat=>(i:Int)) (q:Int)=some ((K.getD q 0:Nat):Int):=by
 refine F8 (m:=q) V ?_;rw[rf,bI (by omega),rZ,ZW (by omega)]
variable{F k:Nat}{b:Hq}
theorem YQ{w:List Int}{am:Hq}(a1:n<=5)(a2:2<=n)(a3:100<F)(hb:BG k b)(a4:k<2000)(ai:PN n K)(aj:K.length=n)(ap:w.length=n)(hw:∀z∈w,-200<=z/\z<=200):
  AI (Pal.iter (M7 F (K.map (λi:Nat=>(i:Int)),am)) F (b.1,b.2.1,b.2.2,w,[],((n - 1:Nat):Int))) (λr=>r.1.length<=5/\BG (k+5) r.2):=by
 refine CQ (n - 1) (λt s=>∃i,i=n - 1 - t/\s.2.2.2.2.2=(i:Int)/\BG (k+t) (s.1,s.2.1,s.2.2.1)/\s.2.2.2.1.length=n/\(∀z∈s.2.2.2.1,-((200*2^t:Nat):Int)<=z/\z<=((200*2^t:Nat):Int))/\s.2.2.2.2.1.length<=t) ⟨_,V,by simp,hb,ap,by simpa using hw,by simp⟩ (by omega) ?_ ?_;rintro t ⟨l,z,aq,m,out,c⟩ a5 ⟨i,hi,O,U,al,Y,Z⟩;simp only at O U al Y Z;subst O;unfold M7;refine BW (by simp only;omega) ?_;simp only;refine AW (PS aj (show i<n by omega)) (AI.E ((i:Int) - 1) V ?_);refine Bv (Kb U (by omega) (by omega)) ?_;rintro⟨j,a6⟩ ⟨aw,a0,g2⟩;simp only at aw a0 g2 ⊢;obtain⟨j,rfl⟩:∃q:Nat,j=(q:Int):=⟨j.toNat,by omega⟩;refine AW (PS aj (show j<n by omega)) ?_;have a7:=ai.get (show i<n by omega);have hu:=ai.get (show j<n by omega);have a8:2^t<=2^4:=rv (by omega) (by omega);have c1:=Y _ (no (show K.getD i 0<m.length by omega));have c2:=Y _ (no (show K.getD j 0<m.length by omega));refine Cf (m:=K.getD i 0) V (by omega) (Cf (m:=K.getD j 0) V (by omega) ?_);refine AI.E _ V (Cf (m:=K.getD j 0) V (by omega) ?_);refine Bv (S:=λq=>q.length<=t+1) ?_ λq ac=>?_;refine CG (λ_=>IW (by omega) (Aw (by simp;omega))) (λ_=>?_);refine Bv (S:=λq=>q.length<=t+1) ?_ λq ac=>Aw ac;exact CG (λ_=>AI.E _ V (IW (by omega) (Aw (by simp;omega)))) (λ_=>Aw (by omega));refine AI.E ((i - 1:Nat):Int) (by omega) (Aw ⟨i - 1,by omega,V,g2,by simp only[qY];exact al,λy ag=>?_,ac⟩);rw[un];rcases sr ag with ag | rfl;have:=Y y ag;omega;omega;rintro⟨l,z,aq,m,out,c⟩ ⟨i,hi,O,U,_,_,Z⟩;simp only at O U Z;subst O;unfold M7;exact BT (by simp only;omega) (Aw ⟨_,V,by simp only;omega,U.Ag (by omega)⟩)
theorem Zm{out:List DT}{ac:Hq}(ai:100<F)(aj:out.length<=5)(ag:PN out.length K)(Z:K.length=out.length):
  AI (Pal.iter (Nj F (out,b) (K.map (λi:Nat=>(i:Int)),ac)) F (List.replicate out.length (0,0,0),0)) (λr=>r.length=out.length):=by
 refine CQ out.length (λt s=>s.2=(t:Int)/\s.1.length=out.length) ⟨V,by simp⟩ (by omega) ?_ ?_;rintro t ⟨l,c⟩ Y ⟨O,U⟩;simp only at O U;subst O;unfold Nj;refine BW (by simp only;omega) ?_;simp only;have hu:=ag.get Y;refine AW (PS Z Y) (Cf (m:=K.getD t 0) V (by omega) ?_);refine AW (PS Z Y) (Cf (m:=t) V Y ?_);refine Cf (m:=K.getD t 0) V (by omega) (AI.E ((t+1:Nat):Int) (by simp) ?_);exact Aw ⟨V,by simp[U]⟩;rintro⟨l,c⟩ ⟨O,U⟩;simp only at O U;subst O;unfold Nj;exact BT (by simp) (Aw ⟨_,V,U⟩)
variable{o:OW}
theorem ZO(K:100<F)(h:VO o)(hb:BG k b)(a1:k<900):AI (NG F b o) (λr=>r.1.length<=5/\BG (k+20) r.2):=by
 let⟨_,O⟩:=RQ K h;have U:=h.n5;have ag:=h.n2;have hlen:((Er o).take o.1.length).length=o.1.length:=by rw[rU,O.1];omega
 unfold NG;refine AW ((dh F o).trans (V3 K h)) ?_;rw[hlen];refine Bv (VN K hb (by omega) U) ?_;rintro⟨a2,a3⟩ ⟨ai,aj,al,rfl,Y⟩;simp only at Y ⊢;have am:ai.length=o.1.length:=by rw[al.length_eq];simp
 refine AI.E ((o.1.length - 1:Nat):Int) (by simp;omega) (Bv (YQ U ag K Y (by omega) aj am hlen λz ap=>O.2 z (uF ap)) ?_);rintro⟨out,a4⟩ ⟨aq,Z⟩;simp only at aq Z ⊢;refine AW (b:=List.replicate out.length (0,0,0)) (by unfold Fx;rw[d0 (by omega)];simp) (Bv (VN K Z (by omega) (by omega)) ?_);rintro⟨pl,a5⟩ ⟨a6,aw,a0,rfl,ac⟩;simp only at ac ⊢;refine Bv (Zm K (by omega) aw (by rw[a0.length_eq];simp)) ?_;intro l a7;exact Aw ⟨by simp only;omega,ac.Ag (by omega)⟩
theorem VO.jC(h:VO o):NV 10 o:=⟨by have:=h.n5;omega,λx K=>by have:=(h.cs x K).1;omega,by have:=h.d8;omega⟩
theorem dU(K:100<F)(hb:BG k b)(O:k<1000):AI (f31 F b 5 6) (λr=>NV 10 r.1/\BG (k+100) r.2):=(dZ (pm:=5) (dm:=6) K hb O (by omega) (by omega) (by omega)).Ag λ_ h=>⟨h.1.jC,h.2.2.2⟩
theorem fE{d:DT}(Y:100<F)(O:NV 20 o)(hb:BG k b)(Z:k<500):AI (f19 F o d b) (λr=>(∃a c,r.1=[o,a,c]/\NV 30 a/\NV 30 c)/\BG (k+101) r.2):=by
 unfold f19;refine Bv (dU Y hb (by omega)) ?_;rintro⟨a,ac⟩ ⟨K,g1⟩;simp only at K g1 ⊢;refine Bv (eO K (by omega)) ?_;rintro _ rfl;refine Bv (WJ g1 (by omega) (by omega) (by omega)) ?_;rintro⟨y,ag⟩ g2;simp only at g2 ⊢;have ai:=K.l2;refine Bv (S:=λr=>r.length<=20/\∀x∈r,x.length<=20) ?_ ?_;refine CG (λ_=>?_) (λ_=>?_);exact AW (V9 Y (O.up (m:=40) (by omega)).l1 (O.up (m:=40) (by omega)).n1) (Aw ⟨O.l1,O.n1⟩);exact Aw ⟨q8 K.l1 (by omega),λx U=>q8 (K.n1 x U) (by omega)⟩;rintro r ⟨r1,r2⟩;exact Aw ⟨⟨a,_,V,K.up (by omega),⟨q8 r1 (by omega),λx U=>q8 (r2 x U) (by omega),by simp;omega⟩⟩,g2⟩
open Go
variable{i:Nat}
theorem Z6{sl:List (List Int)}{z:Int}(al:100<F)(h:VO o)(hi:i<o.1.length)(ag:i<sl.length):
  AI (iter (Nr F o (sl,(i:Int))) F (sl.set i (List.replicate 10 0),0)) (λq=>∃r,q=sl.set i r/\r.length=10/\∀b,b<10->r[b]?=some (Gb o.1 i b)):=by
 let⟨c1,c2⟩:=h.cs _ (no hi);have ai:o.1.getD i []=o.1[i]:=by rw[f4,bI hi];rfl
 refine CQ o.1[i].length (λk st=>st.2=(k:Int)/\∃r,st.1=sl.set i r/\r.length=10/\∀b:Nat,b<10->r[b]?=some ((((o.1[i].take k).count (b:Int):Nat)):Int)) ⟨V,List.replicate 10 0,V,by simp,λb hb=>by rw[sH,d0 hb];simp⟩ (by omega) ?_ ?_
 .rintro k ⟨st,q⟩ Y ⟨K,r,O,Z,U⟩;simp only at K O;subst K;subst O;unfold Nr;refine Cf (m:=i) V hi (BW (by simp only;omega) ?_);refine AW (F8 (m:=i) V (rc ag)) ?_;refine Cf (m:=i) V hi (Cf (m:=k) V Y ?_);let⟨k1,am⟩:=c2 _ (no Y);obtain⟨c,ac⟩:∃c:Nat,o.1[i][k]=(c:Int):=⟨o.1[i][k].toNat,by omega⟩;have aj:c<10:=by omega
  refine AW (F8 (m:=c) ac (U c aj)) ?_;have ap:(o.1[i].take k).count (c:Int)<=3:=q8 uE (by rw[rU];omega);refine AI.E ((((o.1[i].take k).count (c:Int):Nat):Int)+1) V (AI.E ((k+1:Nat):Int) (by simp) ?_);refine Aw ⟨V,r.set c ((((o.1[i].take k).count (c:Int):Nat):Int)+1),?_,by rw[qY];exact Z,λb hb=>?_⟩;show(sl.set i r).set ((i:Int).toNat) (r.set (o.1[i][k]).toNat _)=_;rw[ac,rk,rk,sw];rw[rj,Tr Y,ac];by_cases e:c=b;subst e;rw[d0 rfl,d0 (by omega),d0 rfl];rfl;rw[d7 e,d7 (by omega)];exact U b hb
 .rintro⟨st,q⟩ ⟨K,r,O,Z,U⟩;simp only at K O;subst K;subst O;unfold Nr;refine Cf (m:=i) V hi (BT (by simp) (Aw ⟨_,V,r,V,Z,λb hb=>?_⟩));rw[U b hb,ra];unfold Gb;rw[ai]
theorem eL(Y:100<F)(h:VO o):AI (f79 F o) (λps=>G8 o.1.length ps (Gb o.1)):=by
 have aj:=h.n5;unfold f79;refine AW (b:=List.replicate o.1.length []) (by unfold Fx;rw[d0 (by omega)];simp) ?_;refine Bv (S:=λps=>G8 o.1.length ps (Gb o.1)) ?_ λr K=>Aw K;refine CQ o.1.length (λi s=>s.2=(i:Int)/\s.1.length=o.1.length/\∀a,a<i->∃r,s.1[a]?=some r/\r.length=10/\∀b,b<10->r[b]?=some (Gb o.1 a b)) ⟨V,by simp,λa Z=>by omega⟩ (by omega) ?_ ?_;rintro i ⟨s,q⟩ hi ⟨U,O,K⟩;simp only at U O K;subst U;unfold Px;refine BW (by simp only;omega) (AW (b:=List.replicate 10 0) V ?_);refine Cf (m:=i) V (by simp only;omega) (Bv (Z6 (z:=0) Y h hi (by omega)) ?_);rintro _ ⟨r,rfl,ac,ag⟩;refine AI.E ((i+1:Nat):Int) (by simp) (Aw ⟨V,by simp only[qY];exact O,λa Z=>?_⟩);by_cases e:i=a;subst e;exact⟨r,rc (by omega),ac,ag⟩;obtain⟨r',g1,g2,ai⟩:=K a (by omega);exact⟨r',by simp only;rw[qU e];exact g1,g2,ai⟩;rintro⟨s,q⟩ ⟨U,O,K⟩;simp only at U O K;subst U;unfold Px;exact BT (by simp only[O];omega) (Aw ⟨_,V,O,K⟩)
theorem Uh{K:DT->Int}{w0:List Int}:∀{x pre:List DT},IL K w0 pre x=0->∀d∈x,K d=0
 | [],_,_=>by simp
 | d::l,pre,h=>by
  unfold IL at h
  by_cases e:K d≠0;rw[d0 e] at h;exact absurd h e;rw[d7 e] at h;by_cases m:eD d∈pre.map eD;rw[d0 m] at h;cases h;rw[d7 m] at h;intro q O;rcases fP.1 O with rfl | O;exact s5 e;exact Uh h q O
theorem Um(x:List DT)(K:100<F)(h:VO o):∃c,IC F o x=some c/\KU F o x=some (if c=0 then none else some c)/\(c=0->x.length<=8/\∀d∈x,GD o.1.length d):=by
 have Y:=h.n5;by_cases O:x.length<=8;refine⟨_,aO K h O,bf K h O,λe=>⟨O,λd hd=>(RR d (by omega)).2.1 (Uh e d hd)⟩⟩;refine⟨6,?_,?_,λe=>by cases e⟩;let⟨c,k1,U⟩:=Nm K h.nv;have:c=0:=U.2 h;subst this;refine Ef ?_;unfold IC;refine AW k1 (BT (by simp) ?_);exact BW (by omega) (Aw V);refine Ef ?_;unfold KU;exact BW (by omega) (Aw V)
theorem Ru(F:Nat)(c:Int):P7 F (if c=0 then none else some c)=some c:=by
 by_cases e:c=0;subst e;rw[d0 rfl];rfl;rw[d7 e];rfl
theorem WS(O:100<F)(h:NV 40 o):∃e,f48 F o=some e/\(e=0->VO o)/\(e≠0->f70 F o []=some (([],[]),e)):=by
 let⟨e,K,U⟩:=Nm O h;refine⟨e,K,U.1,λY=>?_⟩;refine Ef ?_;unfold f70;exact AW ((WT F o).trans K) (BW Y (Aw V))
theorem ZY(x:List DT)(K:100<F)(h:NV 40 o):∃c,MG F o x=some c/\IC F o x=some c:=by
 let⟨e,U,Y,Z⟩:=WS K h;by_cases he:e=0;have O:=Y he;let⟨c,k1,ac,_⟩:=Um x K O;refine⟨c,?_,k1⟩;refine Ef ?_;unfold MG;refine AW (Sc K O) ?_;refine BT (by simp) ?_;refine AW ac ?_;exact AW (Ru F c) (Aw V);refine⟨e,Ef ?_,Ef ?_⟩;unfold MG;exact AW (Z he) (BW he (Aw V));unfold IC;exact AW U (BW he (Aw V))
theorem Pw(m:Nat):OS m 0 []:=⟨.nil,by simp,λi hi=>by simp,ux m⟩
theorem bz{P:List DT}{S:CF->Prop}{K ρ:List Int}(h:NM P S 0 K)(k:NM P S 0 ρ):K=ρ:=by
 obtain⟨⟨C,hC,O⟩,U⟩:=h;obtain⟨⟨D,Y,k1⟩,Z⟩:=k;have l1:=O.len (Pw _);have l2:=k1.len (Pw _);exact TS (by omega) (Z C K hC O) (U D ρ Y k1)
theorem jK(h:VO o):CW o.1.length (JK o.1) (Gb o.1):=by
 refine⟨KX 0 o.1,Ry _ _,λq K=>by have:=RO _ _ q K;omega,?_⟩;funext a b;rw[Rj a b o.1 0 λx O c U=>by have:=((h.cs x O).2 c U).1;omega,d0 (rl _),sC]
theorem ei{x:List DT}(ap:5^16<F)(h:NV 40 o):∃r,Lw F o x=some r/\LB F o x=some r/\r.1.length<=40:=by
 have ac:100<F:=by omega
 let⟨e,aq,aw,a0⟩:=WS ac h;by_cases he:e=0
 .have Y:=aw he;let⟨c,k1,ag,a2⟩:=Um x ac Y;by_cases K:c=0
  .let⟨a3,a4⟩:=a2 K;subst K;have a5:∀d∈x,VT o.1.length d:=λd hd=>by
    let⟨a1,O,a6,a7,a8,a9,bb⟩:=a4 d hd;exact⟨a1,O,a6,a7,a8,a9,bb⟩
   have ai:PO F o x:=⟨Y,a3,a5,ap⟩;let⟨r,r1,r2⟩:=dW ai;let⟨ps,p1,p2⟩:=eL ac Y;obtain⟨q,be,aj⟩:=V6 ai.sx F [] 0 ps _ (Pw _) p2 (jK Y) (by rw[ut];omega);have bg:f78 F ps x []=some q:=be;have bi:r=q:=by
    obtain⟨bx,b0⟩:=r;obtain⟨bo,b1⟩:=q;rcases r2 with⟨a1,O⟩ | ⟨a1,O⟩<;>rcases aj with⟨U,al,Z,am⟩ | ⟨U,Z⟩;simp only at a1 O U Z;subst a1;subst U;have bv:bo=al:=Z;subst bv;exact qS (λz=>(z,true)) (bz O am);obtain⟨⟨C,hC,K⟩,_⟩:=O;have hC:Gb o.1=C:=hC;subst hC;exact absurd ⟨_,K⟩ Z;obtain⟨⟨C,hC,K⟩,_⟩:=am;have hC:Gb o.1=C:=hC;subst hC;exact absurd ⟨_,K⟩ O;rw[a1,U]
   subst bi;have hlen:r.1.length<=40:=by
    rcases aj with⟨U,al,Z,⟨C,_,K⟩,_⟩ | ⟨U,_⟩;have:=K.len (Pw _);rw[Z];simp at this ⊢;omega;rw[U];simp
   refine⟨if(!r.2)=true then([],11) else(r.1,0),Ef ?_,Ef ?_,by split<;>simp[hlen]⟩;unfold Lw;refine AW (Sc ac Y) (BT (by simp) ?_);refine AW ag (AW (Ru F 0) ?_);refine BT (by simp) (AW r1 ?_);refine CG (λq=>Aw (by rw[d0 q])) (λq=>Aw (by rw[d7 q]));unfold LB;refine AW k1 (BT (by simp) ?_);refine AW p1 (AW bg ?_);refine CG (λq=>Aw (by rw[d0 q])) (λq=>Aw (by rw[d7 q]))
  .refine⟨([],c),Ef ?_,Ef ?_,by simp⟩;unfold Lw;refine AW (Sc ac Y) (BT (by simp) ?_);refine AW ag (AW (Ru F c) ?_);exact BW K (Aw V);unfold LB;exact AW k1 (BW K (Aw V))
 .have bw:IC F o x=some e:=by
   refine Ef ?_;unfold IC;exact AW aq (BW he (Aw V))
  refine⟨([],e),Ef ?_,Ef ?_,by simp⟩;unfold Lw;exact AW (a0 he) (BW he (Aw V));unfold LB;exact AW bw (BW he (Aw V))
theorem YU{os:List OW}{Z:List Int×Int×Nat}{l:List Int}{t:Int}{ac:Nat}{ls:List (List DT)}{ag:List Int×Int×Nat}(ai:5^16<F)(hi:i<os.length)(aj:NV 30 os[i])(am:ls.length<=4)(al:∀x∈ls,x.length<=20):
  AI (iter (Ni F (os,Z) (l,t,ac,(i:Int)) (ls,ag)) F 0) (λq=>q=Sum.inr ()):=by
 have K:100<F:=by omega
 have O:NV 40 os[i]:=aj.up (by omega);have U:ix os (i:Int)=some os[i]:=F8 (m:=i) V (bI hi);refine CQ ls.length (λj s=>s=(j:Int)) V (by omega) ?_ ?_
 .rintro j s hj rfl;have ap:=al _ (no hj);have Y:ix ls (j:Int)=some ls[j]:=F8 (m:=j) V (bI hj);unfold Ni
  dsimp only;refine BW (by omega) (Bv (S:=λq=>q=Sum.inr ()) ?_ ?_);refine AW U (AW Y ?_);refine AW (fG K O) (AW (b:=ls[j]) (by unfold MD CZ;rw[d0 (by simp;omega)];rfl) ?_);refine AW U (AW Y ?_);let⟨c,c1,c2⟩:=ZY ls[j] K O;refine AW c1 (AW c2 ?_);refine BT (by simp) (CG (λ_=>Aw V) (λ_=>?_));let⟨r,r1,r2,r3⟩:=ei (x:=ls[j]) ai O;refine AW r1 (AW U ?_);refine AW Y (AW r2 ?_);refine AW (b:=false) (by rw[d7 (by simp),We K r3];rfl) (AW (b:=false) (by rw[d7 (by simp),U,Option.bind_some,fL K O];rfl) ?_);exact AW (b:=false) (by rw[d7 (by simp),Y,Option.bind_some,WO K (by omega)];rfl) (BT (by simp) (Aw V));rintro q rfl;rw[Sum.elim_inr];exact AI.E ((j+1:Nat):Int) (by omega) (Aw V)
 .rintro s rfl;unfold Ni;exact BT (by simp) (Aw ⟨_,V,V⟩)
theorem bU(a1:5^16<F)(ai:f18 F=some true)(o:OW)(d:DT)(Y:List DT)(Qj:List Int):Qi F o d Y Qj=some true:=by
 have U:100<F:=by omega
 refine Ef ?_;unfold Qi;refine Bv (fg U) ?_;intro c Z;refine Bv (S:=λq=>q=false->c=false/\Y.length<=20) ?_ ?_;refine CG (λh=>Aw (λq=>by cases q)) (λh=>Aw λq=>?_);have:=sN q;exact⟨by simpa using h,by omega⟩
 intro c2 a2;refine CG (λ_=>AW ai (Aw V)) (λh=>?_);obtain⟨a3,aj⟩:=a2 (by simpa using h);have al:=Z a3;refine AW (b:=(Qj,0,2685821657736338717)) V (Bv (fE (k:=0) (b:=(Qj,0,2685821657736338717)) U al ⟨uy _,uy _⟩ (by omega)) ?_);rintro⟨os,b⟩ ⟨⟨a,c,e,a4,Z⟩,hb⟩;simp only at e hb;have a5:∀x∈os,NV 30 x:=by
  intro x K;rw[e] at K;simp only[fP,qG,rq] at K;rcases K with rfl | rfl | rfl;exact al.up (by omega);exact a4;exact Z
 have hlen:os.length=3:=by rw[e];rfl
 clear e
 dsimp only;refine Bv (S:=λq=>∃b,q=Sum.inr b) ?_ ?_
 .refine CQ 3 (λi s=>s.2.2.2=(i:Int)/\BG (101+30*i) (s.1,s.2.1,s.2.2.1)) ⟨V,hb.Ag (by omega)⟩ (by omega) ?_ ?_
  .rintro i ⟨l,t,a6,z⟩ hi ⟨O,ac⟩;simp only at O ac;subst O;have ag:i<os.length:=by omega
   have am:=a5 _ (no ag);have ap:ix os (i:Int)=some os[i]:=F8 (m:=i) V (bI ag);unfold OA
   dsimp only;refine BW (by omega) (AW ap ?_);obtain⟨e,a7,e2⟩:=Nm U (am.up (m:=40) (by omega));refine AW a7 (Bv (S:=λr=>r.1.length<=4/\(∀x∈r.1,x.length<=20)/\BG (101+30*i+30) r.2) ?_ ?_);refine CG (λhe=>?_) (λhe=>?_);have a8:=e2.1 he;refine AW ap ?_;refine Bv (ZO U a8 ac (by omega)) ?_;rintro⟨y,be⟩ ⟨a9,g2⟩;simp only at a9 g2 ⊢;refine AW (b:=y) (by unfold MD CZ;rw[d0 (by simp;omega)];rfl) ?_;refine Bv (S:=λr=>r.1.length<=20/\BG (101+30*i+30) r.2) ?_ ?_;refine CG (λbg=>?_) (λ_=>Aw ⟨by simp only;omega,g2.Ag (by omega)⟩);refine AI.E ((y.length - 1:Nat):Int) (by omega) (Bv (Kb g2 (by omega) (by omega)) ?_);rintro⟨p,bi⟩ ⟨p1,p2,aq⟩;simp only at p1 p2 aq ⊢;exact Cf (m:=p.toNat) (by omega) (by omega) (Aw ⟨by simp only[qY];omega,aq.Ag (by omega)⟩);rintro⟨bb,bo⟩ ⟨l2,aw⟩;simp only at l2 aw ⊢;refine AW (b:=[Y,y,bb]) V (Aw ⟨by simp,λx K=>?_,aw⟩);simp only[fP,qG,rq] at K;rcases K with rfl | rfl | rfl;exact aj;omega;exact l2;refine Aw ⟨by simp,λx K=>?_,ac.Ag (by omega)⟩;simp only[fP,qG,rq] at K;subst K;exact aj;rintro⟨ls,bv⟩ ⟨l1,l2,a0⟩;simp only at l1 l2 a0 ⊢;refine Bv (YU a1 ag am l1 l2) ?_;rintro q rfl;rw[Sum.elim_inr];refine AI.E ((i+1:Nat):Int) (by omega) (Aw ⟨V,?_⟩);simp only;exact a0.Ag (by omega)
  .rintro⟨l,t,a6,z⟩ ⟨O,_⟩;simp only at O;subst O;unfold OA
   dsimp only;exact BT (by omega) (Aw ⟨_,V,_,V⟩)
 .rintro q ⟨b,rfl⟩;rw[Sum.elim_inr];exact AW ai (Aw V)
end Pal
