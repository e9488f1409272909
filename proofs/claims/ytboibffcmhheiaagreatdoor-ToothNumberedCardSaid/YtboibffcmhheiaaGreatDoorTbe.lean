/- ToothNumbered: with other numbers of the mouths all answers are the same Part 5 of 8. -/
import Derived.Test.YtboibffcmhheiaaGreatDoorTbb
import Derived.Test.YtboibffcmhheiaaGreatDoorTbc
import Derived.Test.YtboibffcmhheiaaGreatDoorTbd
import Derived.ProofKit
set_option linter.all false
set_option maxRecDepth 100000
namespace Pal
def En(J:JW)(K:BE):Nat→Nat→List Int→Nat→List (List Int×Nat)
 | 0,_,ms,fl=> [(ms,fl)]
 | k+1,sm,ms,fl=>(Ct sm 16).flatMap fun m=>if Fb J K ms.length m=true then En J K k (CJ (J.1.getD m.toNat [])) (ms++ [m]) (fl ||| CW K ms.length m K.length) else []
theorem Pj(s:Nat):(Ct s 16).length≤16:=M0 s 16
theorem Jz{α β:Type}{f:α→List β}{b:Nat}:∀{l:List α},(∀x∈l,(f x).length≤b)→(l.flatMap f).length≤l.length*b
 | [],_=>by simp
 | x::l,h=>by
  have O:=h x (by simp)
  have U:=Jz (l:=l) (fun y K=>h y (by simp [K]))
  simp only [List.flatMap_cons,List.length_append,List.length_cons,Nat.succ_mul]
  omega
theorem LG(J:JW)(K:BE):∀k sm ms fl,(En J K k sm ms fl).length≤16 ^ k
 | 0,_,_,_=>by simp [En]
 | k+1,sm,ms,fl=>by
  unfold En
  refine Nat.le_trans (Jz (b:=16 ^ k) fun m _=>?_) ?_
  ·split
   ·exact LG J K k _ _ _
   ·simp
  ·rw [Nat.pow_succ,Nat.mul_comm];exact Nat.mul_le_mul_left _ (Pj sm)
theorem Uc{k:Nat}(h:k≤7):16 ^ k≤268435456:=Nat.le_trans (Nat.pow_le_pow_right (by omega) h) (by decide)
theorem OX{α β:Type}{step:List β→α→Option (List β)}{f:α→List β}:∀{l:List α} {ac:List β},(∀(l1 l2:List α) x,l=l1++x::l2→step (ac++l1.flatMap f) x=some (ac++(l1++ [x]).flatMap f))→EU step l ac=some (ac++l.flatMap f)
 | [],ac,_=>by simp [EU]
 | x::l,ac,h=>by
  have K:=h [] l x rfl
  simp only [List.flatMap_nil,List.append_nil,List.nil_append] at K
  unfold EU
  rw [K]
  simp only [Option.bind_some]
  rw [OX (f:=f) (ac:=ac++ [x].flatMap f) (l:=l) ?_]
  ·simp
  ·intro l1 l2 y O;have:=h (x::l1) l2 y (by rw [O];rfl);simp only [List.flatMap_cons,List.flatMap_nil,List.append_nil,List.cons_append,List.append_assoc] at this ⊢;simpa using this
theorem Sr{α β:Type}{step:List β→α→Option (List β)}{f:α→List β}{l:List α}{ac:List β}(h:∀(l1 l2:List α) x,l=l1++x::l2→step (ac++l1.flatMap f) x=some (ac++l1.flatMap f++f x)):EU step l ac=some (ac++l.flatMap f):=
 OX fun l1 l2 x e=>by rw [h l1 l2 x e];simp
theorem VM{F n:Nat}{J:JW}{A:List Nat}{K:BE}{age:Int}{ok:List (List Int×Nat)→Bool}(Y:100<F)(hJ:VJ n J)(U:B5 n K)(ap:∀l:List (List Int×Nat),l.length≤16 ^ 7→(∀x∈l,x.2<65536)→ok l=true):
  ∀(k g sm:Nat) (ms:List Int) (fl:Nat) (ac:List (List Int×Nat)),ms.length+k=Ey K+1→k<g→sm<2 ^ n→fl<65536→ac.length+16 ^ k≤16 ^ 7→(∀x∈ac,x.2<65536)→
   H5 ok F (J.1,J.2,A) K age g sm ms fl ac=some (ac++En J K k sm ms fl)∧∀x∈En J K k sm ms fl,x.2<65536:=by
 have aF:=Nk U;have aq:=hJ.le;have aG:=Qd aq;intro k
 induction k with
 | zero=>
  intro g sm ms fl ac ar au ah V hlen Z;obtain⟨g,rfl⟩:∃g',g=g'+1:=⟨g - 1,by omega⟩;refine⟨?_,fun x O=>by simp [En] at O;subst O;exact V⟩;unfold H5;have aa:H2 F (J.1,J.2,A) K age ms fl sm=some none:=by
   unfold H2;rw [PF U];simp only [Option.bind_some];rw [if_pos (by omega)]
  rw [aa];simp only [Option.bind_some,Jg];rw [if_pos]
  ·rfl
  ·refine ap _ (by simpa using hlen) fun x O=>?_;rcases List.mem_append.1 O with O | O
   ·exact Z x O
   ·simp at O;subst O;exact V
 | succ k ai=>
  intro g sm ms fl ac ar au ah V hlen Z;obtain⟨g,rfl⟩:∃g',g=g'+1:=⟨g - 1,by omega⟩;have aH:ms.length≤6:=by omega
  have aI:=Pj sm;have aj:∀m∈Ct sm 16,∃q:Nat,m=(q:Int)∧q<n:=fun m hm=>by
   obtain⟨q,_,q2,av⟩:=GZ.1 hm;exact⟨q,av,Hp ah q2⟩
  have ak:∀m:Int,fl ||| CW K ms.length m K.length<65536:=fun m=>Mx V (L8 _ _ _ _ (by have:=U.len;omega))
  have al:∀q:Nat,q<n→CJ (J.1.getD q [])<2 ^ n:=fun q W=>by
   rcases Nat.lt_or_ge (CJ (J.1.getD q [])) (2 ^ n) with h | h
   ·exact h
   ·obtain⟨i,aJ,am⟩:=Nat.exists_ge_and_testBit_of_ge_two_pow h;rw [Ln (fun x O=>((hJ.EA q).inr x O).1)] at am;have:=(hJ.EA q).inr _ (of_decide_eq_true am);omega
  have an:∀m∈Ct sm 16,Fb J K ms.length m=true→∀x∈En J K k (CJ (J.1.getD m.toNat [])) (ms++ [m]) (fl ||| CW K ms.length m K.length),x.2<65536:=fun m hm hb=>by
   obtain⟨q,rfl,W⟩:=aj m hm;have aw:16 ^ k≤16 ^ 7:=Nat.pow_le_pow_right (by omega) (by omega);exact(ai (k+1) _ _ _ [] (by simp;omega) (by omega) (al q W) (ak _) (by simpa using aw) (fun x O=>by simp at O)).2
  constructor
  ·unfold H5;have aa:H2 F (J.1,J.2,A) K age ms fl sm=some (some (Ct sm 16)):=by
    unfold H2;rw [PF U];simp only [Option.bind_some];rw [if_neg (by omega),NF Y (by omega)];rfl
   rw [aa];simp only [Option.bind_some,Jg];rw [if_pos (by omega)];have e:En J K (k+1) sm ms fl=(Ct sm 16).flatMap fun m=>if Fb J K ms.length m=true then En J K k (CJ (J.1.getD m.toNat [])) (ms++ [m]) (fl ||| CW K ms.length m K.length) else []:=rfl
   rw [e];refine Sr fun l1 l2 m hm=>?_;have ay:m∈Ct sm 16:=by rw [hm];simp
   obtain⟨q,rfl,W⟩:=aj m ay;unfold Oe;rw [Uy Y hJ U W (by omega) V];simp only [Option.bind_some];by_cases hb:Fb J K ms.length (q:Int)=true
   ·rw [if_pos hb,if_pos hb];simp only;have az:Kt F (J.1,J.2,A) K age (ms++ [(q:Int)]) (fl ||| CW K ms.length (q:Int) K.length) (q:Int)=some (CJ (J.1.getD q [])):=by
     unfold Kt;have aA:J.1[q]? =some (J.1.getD q []):=by rw [List.getD_eq_getElem?_getD,List.getElem?_eq_getElem (by have:=hJ.l1;omega)];rfl
     have ao:=hJ.EA q;rw [CU (m:=q) rfl aA];simp only [Option.bind_some];rw [Qq Y (by have:=ao.len;omega) (fun x O=>by have:=ao.inr x O;omega)];rfl
    rw [az];simp only [Option.bind_some];have aB:l1.length+1≤16:=by
     have:=congrArg List.length hm;simp at this;omega
    have aK:(l1.flatMap fun m=>if Fb J K ms.length m=true then En J K k (CJ (J.1.getD m.toNat [])) (ms++ [m]) (fl ||| CW K ms.length m K.length) else []).length≤l1.length*16 ^ k:=Jz fun y _=>by
     split
     ·exact LG _ _ _ _ _ _
     ·simp
    have hmul:l1.length*16 ^ k+16 ^ k≤16 ^ (k+1):=by
     rw [Nat.pow_succ,← Nat.succ_mul,Nat.mul_comm _ 16];exact Nat.mul_le_mul_right _ aB
    have:=ai g (CJ (J.1.getD q [])) (ms++ [(q:Int)]) (fl ||| CW K ms.length (q:Int) K.length) (ac++l1.flatMap fun m=>if Fb J K ms.length m=true then En J K k (CJ (J.1.getD m.toNat [])) (ms++ [m]) (fl ||| CW K ms.length m K.length) else []) (by simp;omega) (by omega) (al q W) (ak _) (by rw [List.length_append];omega) ?_
    ·rw [this.1,show((q:Int)).toNat=q by omega]
    ·intro x O;rcases List.mem_append.1 O with O | O
     ·exact Z x O
     ·obtain⟨y,aC,ab⟩:=List.mem_flatMap.1 O;have aD:y∈Ct sm 16:=by rw [hm];simp [aC]
      split at ab
      ·rename_i aE;exact an y aD aE x ab
      ·simp at ab
   ·rw [if_neg hb,if_neg hb];simp
  ·intro x O;unfold En at O;obtain⟨m,hm,ae⟩:=List.mem_flatMap.1 O;split at ae
   ·rename_i hb;exact an m hm hb x ae
   ·simp at ae
end Pal
namespace Pal
abbrev Cu:=Int×List Int×Nat
def DJ(t:Cu):Nat:=(Ct t.2.2 16).length
theorem UG{F:Nat}{t:Cu}(K:100<F)(h:t.2.2<65536):f130 F t=some (DJ t:Int):=by
 unfold f130;rw [NF K h];rfl
def Dm(K:List Cu)(q:Int×List Cu):Prop:=(K= []∧q=(0,[]))∨∃k:Nat,q.1=(k:Int)∧(∃t∈K,DJ t=k)∧(∀t∈K,k≤DJ t)∧q.2=K.filter (fun t=>decide (DJ t=k))
theorem Dm.len{K:List Cu}{q:Int×List Cu}(h:Dm K q):q.2.length≤K.length:=by
 rcases h with⟨_,rfl⟩ | ⟨k,_,_,_,h⟩
 ·simp
 ·rw [h];exact List.length_filter_le _ _
theorem Dm.sub{K:List Cu}{q:Int×List Cu}(h:Dm K q):∀t∈q.2,t∈K∧(DJ t:Int)=q.1:=by
 rcases h with⟨_,rfl⟩ | ⟨k,O,_,_,h⟩
 ·simp
 ·intro t ht;rw [h] at ht;obtain⟨a,b⟩:=List.mem_filter.1 ht;exact⟨a,by rw [O,of_decide_eq_true b]⟩
theorem Dm.snoc(F:Nat){O:List Cu}{q:Int×List Cu}{t:Cu}(h:Dm O q)(ak:O.length<2 ^ 39):∃K,H3 F q.1 q.2 t (DJ t:Int)=some K∧Dm (O++ [t]) K:=by
 have ae:=h.len;obtain⟨le,all⟩:=q;simp only at ae ⊢;have fresh:∀c:Bool,c=true→(∀s∈O,DJ t<DJ s)→∃K:Int×List Cu,(Option.bind (if c=true then some ((DJ t:Int),([]:List Cu)) else some (le,all)) fun U=>Option.bind (if(DJ t:Int)=U.1 then(DC U.2 ([t]:List Cu)).bind fun ah=>some ah else some U.2) fun ai=>some (U.1,ai))=some K∧Dm (O++ [t]) K:=by
  rintro c rfl V;refine⟨((DJ t:Int),[t]),?_,.inr ⟨DJ t,rfl,⟨t,by simp,rfl⟩,?_,?_⟩⟩
  ·simp [DC]
  ·intro s hs;rcases List.mem_append.1 hs with hs | hs
   ·exact Nat.le_of_lt (V s hs)
   ·simp at hs;subst hs;exact Nat.le_refl _
  ·rw [List.filter_append,List.filter_eq_nil_iff.2 fun s hs=>by have:=V s hs;simp;omega];simp
 unfold H3;rcases h with⟨rfl,he⟩ | ⟨k,ab,⟨s,hs,Y⟩,Z,W⟩
 ·cases he;simp only [List.length_nil];obtain⟨K,aa,e2⟩:=fresh true rfl (fun s hs=>by simp at hs);exact⟨K,by simpa using aa,e2⟩
 ·simp only at ab W;subst ab;have aj:¬((all.length:Int)=0):=by
   have:s∈all:=by rw [W];exact List.mem_filter.2 ⟨hs,by simpa using Y⟩
   have:=List.length_pos_of_mem this;omega
  rw [if_neg aj];simp only [Option.bind_some];rcases Nat.lt_trichotomy (DJ t) k with V | heq | al
  ·obtain⟨K,aa,e2⟩:=fresh (decide ((DJ t:Int)<(k:Int))) (decide_eq_true (by omega)) (fun s hs=>Nat.lt_of_lt_of_le V (Z s hs));exact⟨K,aa,e2⟩
  ·rw [if_neg (by rw [decide_eq_true_iff];omega)];simp only [Option.bind_some];rw [if_pos (by omega)];refine⟨((k:Int),all++ [t]),?_,.inr ⟨k,rfl,⟨s,by simp [hs],Y⟩,?_,?_⟩⟩
   ·unfold DC;rw [if_pos (by simp;omega)];rfl
   ·intro u hu;rcases List.mem_append.1 hu with hu | hu
    ·exact Z u hu
    ·simp at hu;subst hu;omega
   ·rw [List.filter_append,W];simp [heq]
  ·rw [if_neg (by rw [decide_eq_true_iff];omega)];simp only [Option.bind_some];rw [if_neg (by omega)];refine⟨((k:Int),all),rfl,.inr ⟨k,rfl,⟨s,by simp [hs],Y⟩,?_,?_⟩⟩
   ·intro u hu;rcases List.mem_append.1 hu with hu | hu
    ·exact Z u hu
    ·simp at hu;subst hu;omega
   ·rw [List.filter_append,← W];have:¬DJ t=k:=by omega
    simp [this]
theorem M6{F:Nat}{a:Int}(O:100<F):∀(l:List (List Int×Nat)) (K:List Cu) (q:Int×List Cu),Dm K q→K.length+l.length<2 ^ 39→(∀x∈l,x.2<65536)→
  ∃U,EU (add1 F a) l q=some U∧Dm (K++l.map fun x=>(a,x.1,x.2)) U
 | [],K,q,h,_,_=>⟨q,rfl,by simpa using h⟩
 | x::l,K,q,h,W,V=>by
  simp only [List.length_cons] at W
  obtain⟨q1,Y,e2⟩:=h.snoc F (t:=(a,x.1,x.2)) (by omega)
  obtain⟨q2,Z,aa⟩:=M6 O l (K++ [(a,x.1,x.2)]) q1 e2 (by simp;omega) (fun y ab=>V y (by simp [ab]))
  refine⟨q2,?_,by simpa using aa⟩
  unfold EU add1
  rw [UG (t:=(a,x.1,x.2)) O (V x (by simp))]
  simp only [Option.bind_some]
  rw [Y];exact Z
def TA(J:JW)(K:BE)(a:Nat):List Cu:=(En J K (Ey K+1) (AG J a) [] 0).map fun x=>((a:Int),x.1,x.2)
def TT(J:JW)(K:BE):List Cu:=(List.range 13).flatMap (TA J K)
theorem Rb{n:Nat}{J:JW}{K:BE}(O:B5 n K)(a:Nat):(TA J K a).length≤268435456:=by
 unfold TA;rw [List.length_map];exact Nat.le_trans (LG _ _ _ _ _ _) (Uc (by have:=Nk O;omega))
theorem Nm{F n a:Nat}{J:JW}{K:BE}(O:100<F)(hJ:VJ n J)(U:B5 n K)(V:a<13):∃q,Gj F (J.1,J.2,FP J) K (a:Int)=some q∧Dm (TA J K a) q∧∀t∈TA J K a,t.2.2<65536:=by
 have ae:=Nk U;have W:(16:Nat) ^ (Ey K+1)≤16 ^ 7:=Nat.pow_le_pow_right (by omega) (by omega);have Y:∀l:List (List Int×Nat),l.length≤16 ^ 7→(∀x∈l,x.2<65536)→(G6 F (a:Int) l).isSome=true:=fun l ah Z=>by
  obtain⟨q,e,_⟩:=M6 (a:=(a:Int)) O l [] (0,[]) (.inl ⟨rfl,rfl⟩) (by simp;omega) Z;unfold G6;rw [e];rfl
 obtain⟨d1,d2⟩:=VM (A:=FP J) (age:=(a:Int)) (ok:=fun ac=>(G6 F (a:Int) ac).isSome) O hJ U Y (Ey K+1) F (AG J a) [] 0 [] (by simp) (by omega) (H0 hJ a) (by omega) (by simpa using W) (by simp);obtain⟨q,aa,e2⟩:=M6 (a:=(a:Int)) O (En J K (Ey K+1) (AG J a) [] 0) [] (0,[]) (.inl ⟨rfl,rfl⟩) (by have:=LG J K (Ey K+1) (AG J a) [] 0;simp;omega) d2;refine⟨q,?_,by unfold TA;simpa using e2,?_⟩
 ·unfold Gj Jl;rw [CU (m:=a) rfl (Vb J V)];simp only [Option.bind_some];rw [d1];simp only [Option.bind_some,List.nil_append];exact aa
 ·intro t ht;obtain⟨x,ab,rfl⟩:=List.mem_map.1 ht;exact d2 x ab
theorem O2{F n:Nat}{J:JW}{K:BE}(U:100<F)(hJ:VJ n J)(V:B5 n K):∃qs:Nat→Int×List Cu,Jb F (J.1,J.2,FP J) K=some (CS qs)∧∀j,j<13→Dm (TA J K j) (qs j):=by
 refine⟨fun j=>(Gj F (J.1,J.2,FP J) K ((j:Nat):Int)).getD (0,[]),?_,fun j O=>?_⟩
 ·unfold Jb;rw [if_pos];rw [List.all_eq_true];intro j O;obtain⟨q,e,_⟩:=Nm U hJ V (List.mem_range.1 O);rw [e];rfl
 ·obtain⟨q,e,h,_⟩:=Nm U hJ V O;simp only [e];exact h
theorem Lr{α β:Type}{f g:α→List β}:∀{l:List α},(∀x∈l,f x=g x)→l.flatMap f=l.flatMap g
 | [],_=>rfl
 | x::l,h=>by rw [List.flatMap_cons,List.flatMap_cons,h x (by simp),Lr fun y K=>h y (by simp [K])]
theorem Dm.flat{T:Nat→List Cu}{Q:Nat→Int×List Cu}{l:List Nat}{r:Int×List Cu}(h:∀j∈l,Dm (T j) (Q j))(ai:Dm (l.flatMap fun j=>(Q j).2) r):Dm (l.flatMap T) r:=by
 have Iv:∀j∈l,(Q j).2= []→T j= []:=fun j K e=>by
  rcases h j K with⟨U,_⟩ | ⟨k,_,⟨t,ht,Y⟩,_,Z⟩
  ·exact U
  ·have:t∈(Q j).2:=by rw [Z];exact List.mem_filter.2 ⟨ht,by simpa using Y⟩
   rw [e] at this;simp at this
 rcases ai with⟨U,rfl⟩ | ⟨k,U,⟨t,ht,Y⟩,ah,Z⟩
 ·refine .inl ⟨?_,rfl⟩;rw [List.flatMap_eq_nil_iff] at U ⊢;exact fun j K=>Iv j K (U j K)
 ·have low:∀j∈l,∀s∈T j,∃O:Nat,(Q j).2=(T j).filter (fun t=>decide (DJ t=O))∧k≤O∧O≤DJ s:=fun j K s hs=>by
   rcases h j K with⟨aa,_⟩ | ⟨O,_,⟨u,hu,ab⟩,V,W⟩
   ·rw [aa] at hs;simp at hs
   ·refine⟨O,W,?_,V s hs⟩;have:=ah u (List.mem_flatMap.2 ⟨j,K,by rw [W];exact List.mem_filter.2 ⟨hu,by simpa using ab⟩⟩);omega
  refine .inr ⟨k,U,?_,?_,?_⟩
  ·obtain⟨j,K,aj⟩:=List.mem_flatMap.1 ht;exact⟨t,List.mem_flatMap.2 ⟨j,K,((h j K).sub t aj).1⟩,Y⟩
  ·intro s hs;obtain⟨j,K,ak⟩:=List.mem_flatMap.1 hs;obtain⟨O,_,g2,V⟩:=low j K s ak;omega
  ·rw [Z,List.filter_flatMap,List.filter_flatMap];refine Lr fun j K=>?_;rcases h j K with⟨aa,g2⟩ | ⟨O,_,⟨u,hu,ab⟩,V,W⟩
   ·rw [aa,g2]
   ·obtain⟨am,an,e2,ao⟩:=low j K u hu;rw [W,List.filter_filter];by_cases e:O=k
    ·subst e;exact List.filter_congr fun x _=>by simp
    ·have ap:k<O:=by
      have al:u∈(Q j).2:=by rw [W];exact List.mem_filter.2 ⟨hu,by simpa using ab⟩
      have:=ah u (List.mem_flatMap.2 ⟨j,K,al⟩);omega
     rw [List.filter_eq_nil_iff.2 fun x ae=>?_,List.filter_eq_nil_iff.2 fun x ae=>?_]
     ·have:=V x ae;simp;omega
     ·have:=V x ae;simp;omega
theorem SG{qs:Nat→Int×List Cu}{p:Int×Int×List Cu}(h:p∈CS qs):∃j,j<13∧p=partOf qs j∧0<(qs j).2.length:=by
 unfold CS at h;obtain⟨j,K,rfl⟩:=List.mem_map.1 h;obtain⟨O,U⟩:=List.mem_filter.1 K;exact⟨j,List.mem_range.1 O,rfl,of_decide_eq_true U⟩
theorem ON(qs:Nat→Int×List Cu):(CS qs).length≤13:=by
 unfold CS;rw [List.length_map];exact Nat.le_trans (List.length_filter_le _ _) (by simp)
theorem Sb(qs:Nat→Int×List Cu):((CS qs).flatMap fun p=>p.2.2)=(List.range 13).flatMap fun j=>(qs j).2:=by
 unfold CS;rw [List.flatMap_map];generalize List.range 13=l
 induction l with
 | nil=>rfl
 | cons j l K=>
  rw [List.filter_cons,List.flatMap_cons];split
  ·rw [List.flatMap_cons,K];rfl
  ·rename_i h;have:(qs j).2= []:=List.length_eq_zero_iff.1 (by simpa using h);rw [K,this];rfl
theorem VS{F:Nat}{p:Int×Int×List Cu}{pre:List Cu}{le:Int}{all:List Cu}(W:268435456<F)(Y:p.2.2.length≤268435456)(Z:pre.length<2 ^ 38)(V:∀t∈p.2.2,(DJ t:Int)=p.2.1)(h:Dm pre (le,all)):
  A0 (iter (J9 F p) F (le,all,0)) (fun r=>Dm (pre++p.2.2) r):=by
 refine C5 p.2.2.length (fun i s=>s.2.2=(i:Int)∧Dm (pre++p.2.2.take i) (s.1,s.2.1)) ⟨rfl,by simpa using h⟩ (by omega) ?_ ?_
 ·rintro i ⟨a,b,c⟩ hi ⟨O,K⟩;simp only at O K;subst O;unfold J9;refine Ci (by simp only;omega) (BN (m:=i) rfl hi ?_);obtain⟨q,U,e2⟩:=K.snoc F (t:=p.2.2[i]) (by simp;omega);rw [V _ (List.getElem_mem hi)] at U;refine AW U (A9 ((i+1:Nat):Int) (by simp) (by omega) (by omega) ?_);refine Aq ⟨rfl,?_⟩;rw [List.take_add_one,List.getElem?_eq_getElem hi];simpa using e2
 ·rintro⟨a,b,c⟩ ⟨O,K⟩;simp only at O K;subst O;unfold J9;refine Br (by simp) (Aq ⟨_,rfl,?_⟩);rw [List.take_length] at K;exact K
theorem Wi{F n:Nat}{J:JW}{W:BE}(ab:268435456<F)(hJ:VJ n J)(aa:B5 n W):A0 (f93 F (J.1,J.2,FP J) W) (fun r=>Dm (TT J W) r):=by
 obtain⟨qs,e,Y⟩:=O2 (F:=F) (by omega) hJ aa;unfold f93;refine AW e ?_;have ai:=ON qs;have hlen:∀p∈CS qs,p.2.2.length≤268435456∧∀t∈p.2.2,(DJ t:Int)=p.2.1:=fun p Z=>by
  obtain⟨j,U,rfl,_⟩:=SG Z;exact⟨Nat.le_trans (Y j U).len (Rb aa j),fun t ht=>((Y j U).sub t ht).2⟩
 refine AS (S:=fun r=>Dm ((CS qs).flatMap fun p=>p.2.2) r) ?_ ?_
 ·refine C5 (CS qs).length (fun i s=>s.2.2=(i:Int)∧Dm (((CS qs).take i).flatMap fun p=>p.2.2) (s.1,s.2.1)) ⟨rfl,.inl ⟨rfl,rfl⟩⟩ (by omega) ?_ ?_
  ·rintro i ⟨a,b,c⟩ hi ⟨O,K⟩;simp only at O K;subst O;unfold LZ;refine Ci (by simp only;omega) (BN (m:=i) rfl hi ?_);obtain⟨ae,g2⟩:=hlen _ (List.getElem_mem hi);have aj:(((CS qs).take i).flatMap fun p=>p.2.2).length≤((CS qs).take i).length*268435456:=Jz fun p Z=>(hlen p (List.mem_of_mem_take Z)).1;have ah:((CS qs).take i).length≤13:=by rw [List.length_take];omega
   have hmul:((CS qs).take i).length*268435456≤13*268435456:=Nat.mul_le_mul_right _ ah;refine AS (VS ab ae (by omega) g2 K) ?_;intro r V;refine A9 ((i+1:Nat):Int) (by simp) (by omega) (by omega) ?_;refine Aq ⟨rfl,?_⟩;rw [List.take_add_one,List.getElem?_eq_getElem hi];simp only [Option.toList_some,List.flatMap_append,List.flatMap_cons,List.flatMap_nil,List.append_nil];exact V
  ·rintro⟨a,b,c⟩ ⟨O,K⟩;simp only at O K;subst O;unfold LZ;refine Br (by simp) (Aq ⟨_,rfl,?_⟩);rw [List.take_length] at K;exact K
 ·intro r V;refine Aq ?_;rw [Sb] at V;exact Dm.flat (fun j U=>Y j (List.mem_range.1 U)) V
end Pal
namespace Pal
theorem Dm.UP{K:List Cu}{q:Int×List Cu}(h:Dm K q):q.2= []↔K= []:=by
 rcases h with⟨O,rfl⟩ | ⟨k,_,⟨t,ht,U⟩,_,V⟩
 ·simp [O]
 ·constructor
  ·intro e;have:t∈q.2:=by rw [V];exact List.mem_filter.2 ⟨ht,by simpa using U⟩
   rw [e] at this;simp at this
  ·rintro rfl;simp at ht
def Hv(J:JW)(K:BE)(k:Nat):Prop:=(∃t∈TT J K,DJ t=k)∧∀t∈TT J K,k≤DJ t
def DV(J:JW)(K:BE)(k:Nat):List Cu:=(TT J K).filter fun t=>decide (DJ t=k)
theorem Hv.uniq{J:JW}{K:BE}{k k':Nat}(h:Hv J K k)(O:Hv J K k'):k=k':=by
 obtain⟨⟨t,ht,Z⟩,U⟩:=h;obtain⟨⟨V,W,aa⟩,Y⟩:=O;have:=U V W;have:=Y t ht;omega
theorem Ww{J:JW}{U:BE}{t:Cu}:t∈TT J U↔∃a,a<13∧t∈TA J U a:=by
 unfold TT;rw [List.mem_flatMap];exact⟨fun⟨a,K,O⟩=>⟨a,List.mem_range.1 K,O⟩,fun⟨a,K,O⟩=>⟨a,List.mem_range.2 K,O⟩⟩
theorem Wy{J:JW}{K:BE}{a:Nat}{t:Cu}(h:t∈TA J K a):t.1=(a:Int):=by
 obtain⟨x,_,rfl⟩:=List.mem_map.1 h;rfl
theorem WZ{F n:Nat}{J:JW}{K:BE}(U:100<F)(hJ:VJ n J)(V:B5 n K){t:Cu}(ht:t∈TT J K):t.2.2<65536∧0≤t.1∧t.1<13:=by
 obtain⟨a,W,O⟩:=Ww.1 ht;obtain⟨_,_,_,h⟩:=Nm U hJ V W;have:=Wy O;exact⟨h t O,by omega,by omega⟩
theorem Wg{n:Nat}{J:JW}{K:BE}(O:B5 n K):(TT J K).length≤13*268435456:=by
 unfold TT;have:=Jz (l:=List.range 13) (f:=TA J K) (b:=268435456) fun a _=>Rb O a;simpa using this
theorem Q3{F n:Nat}{J:JW}{K:BE}{p:Int}(b:Bool)(W:268435456<F)(hJ:VJ n J)(U:B5 n K)(Y:K.length≤4)(Z: -1≤p∧p<(K.length:Int)):
  A0 (f78 F J K p b) (fun r=>Dm (TT J K) r.2.1∧r.2.2=if TT J K= []∧b=false then 11 else 0):=by
 unfold f78;refine AW (NP (by omega) hJ U Y) (Br (by simp) ?_);refine A9 ((K.length:Int) - 1) rfl (by omega) (by omega) (AW (IZ F _ _ _) ?_);refine Br (by simp;omega) (AW (Q0 (by omega) hJ) ?_);refine AW (b:=(J.1,J.2,FP J)) rfl (AS (Wi W hJ U) ?_);intro r O;have V:=O.UP;refine AS (S:=fun c=>c=decide (TT J K= []∧b=false)) ?_ ?_
 ·refine Cc (fun h=>?_) (fun h=>?_)
  ·have:TT J K= []:=V.1 (List.length_eq_zero_iff.1 (by omega));refine Aq ?_;cases b <;> simp [this]
  ·have:TT J K≠ []:=fun e=>h (by rw [V.2 e];rfl);exact Aq (by simp [this])
 ·rintro c rfl;refine Cc (fun h=>?_) (fun h=>?_)
  ·exact Aq ⟨O,by rw [if_pos (of_decide_eq_true h)]⟩
  ·exact Aq ⟨O,by rw [if_neg (of_decide_eq_false (by simpa using h))]⟩
theorem asked{F n:Nat}{J:JW}{K:BE}{p:Int}(Z:268435456<F)(hJ:VJ n J)(aa:B5 n K)(O:K.length≤4)(ab: -1≤p∧p<(K.length:Int)):
  A0 (f78 F J K p false) (fun r=>(TT J K= []∧r.2.1=(0,[])∧r.2.2=11)∨∃k,Hv J K k∧r.2.1=((k:Int),DV J K k)∧r.2.2=0):=by
 refine(Q3 false Z hJ aa O ab).Ai ?_;rintro⟨x,⟨q1,q2⟩,e⟩ ⟨W,V⟩;simp only at W V;rcases W with⟨U,O⟩ | ⟨k,U,O,ae,Y⟩
 ·exact .inl ⟨U,O,by rw [V,if_pos (by simp [U])]⟩
 ·refine .inr ⟨k,⟨O,ae⟩,?_,?_⟩
  ·simp only at U Y;rw [U,Y];rfl
  ·obtain⟨t,ht,_⟩:=O;simp only;rw [V,if_neg];rintro⟨ah,_⟩;rw [ah] at ht;simp at ht
theorem QQ{F n:Nat}{J:JW}{K:BE}(W:268435456<F)(hJ:VJ n J)(Y:B5 n K)(Z:K.length≤4):
  A0 (f47 F J K) (fun r=>(TT J K= []∧r=(0,11))∨∃k,Hv J K k∧r=((k:Int),0)):=by
 unfold f47;refine AS (asked W hJ Y Z ⟨by omega,by omega⟩) ?_;rintro⟨x,q,e⟩ (⟨V,O,U⟩ | ⟨k,V,O,U⟩)
 ·simp only at O U;subst O;subst U;exact Aq (.inl ⟨V,rfl⟩)
 ·simp only at O U;subst O;subst U;exact Aq (.inr ⟨k,V,rfl⟩)
def vd(c l:Nat):Int:=if c=0 then 2 else if c<l then 3 else 1
theorem Q6{F n p:Nat}{J:JW}{K:BE}(ah:3489660928<F)(hJ:VJ n J)(V:B5 n K)(Z:K.length≤4)(ai:p<K.length):
  A0 (f49 F J K (p:Int)) (fun r=>(TT J K= []∧r=(0,11))∨∃k,Hv J K k∧r=(vd ((DV J K k).filter fun t=>t.2.2.testBit p).length (DV J K k).length,0)):=by
 unfold f49;refine AW (NP (by omega) hJ V Z) (Br (by simp) ?_);refine A9 ((K.length:Int) - 1) rfl (by omega) (by omega) (AW (IZ F _ _ _) ?_);refine Br (by simp;omega) (AS (asked (p:=(p:Int)) (by omega) hJ V Z ⟨by omega,by omega⟩) ?_);rintro⟨x,q,e⟩ (⟨W,O,U⟩ | ⟨k,W,O,U⟩)
 ·simp only at O U;subst O;subst U;exact Ci (by simp) (Aq (.inl ⟨W,rfl⟩))
 ·simp only at O U;subst O;subst U;refine Br (by simp) ?_;have ab:(DV J K k).length≤3489660928:=Nat.le_trans (List.length_filter_le _ _) (Wg V);refine AS (S:=fun c=>c=(((DV J K k).filter fun t=>t.2.2.testBit p).length:Int)) ?_ ?_
  ·refine C5 (DV J K k).length (fun i s=>s=((((((DV J K k).take i).filter fun t=>t.2.2.testBit p).length:Nat):Int),(i:Int))) rfl (by omega) ?_ ?_
   ·rintro i s hi rfl;unfold L6;have hm:=List.getElem_mem hi;obtain⟨ae,_,_⟩:=WZ (F:=F) (by omega) hJ V (List.mem_filter.1 hm).1;refine Ci (by simp only;omega) (BN (m:=i) rfl hi ?_);refine AW (Qo F ae (by omega)) ?_;have aj:(((DV J K k).take i).filter fun t=>t.2.2.testBit p).length≤3489660928:=Nat.le_trans (List.length_filter_le _ _) (by rw [List.length_take];omega);refine AS (S:=fun c=>c=((((DV J K k).take (i+1)).filter fun t=>t.2.2.testBit p).length:Int)) ?_ ?_
    ·rw [List.take_add_one,List.getElem?_eq_getElem hi];simp only [Option.toList_some];rw [List.filter_append];refine Cc (fun h=>?_) (fun h=>?_)
     ·refine A9 ((((DV J K k).take i).filter fun t=>t.2.2.testBit p).length+1:Int) rfl (by omega) (by omega) (Aq ?_);simp [List.filter_cons,h]
     ·refine Aq ?_;simp [List.filter_cons,h]
    ·rintro c rfl;exact A9 ((i+1:Nat):Int) (by simp) (by omega) (by omega) (Aq rfl)
   ·rintro s rfl;unfold L6;refine Br (by simp) (Aq ⟨_,rfl,?_⟩);rw [List.take_length]
  ·rintro c rfl;refine AS (S:=fun v=>v=vd ((DV J K k).filter fun t=>t.2.2.testBit p).length (DV J K k).length) ?_ (by rintro v rfl;exact Aq (.inr ⟨k,W,rfl⟩));have aa:((DV J K k).filter fun t=>t.2.2.testBit p).length≤(DV J K k).length:=List.length_filter_le _ _;generalize ((DV J K k).filter fun t=>t.2.2.testBit p).length=c at aa;generalize (DV J K k).length=l at ab aa;refine AS (S:=fun v=>v=vd c l - 1) ?_ ?_
   ·refine AS (S:=fun b=>b=decide (0<c∧c<l)) ?_ ?_
    ·refine Cc (fun h=>Aq ?_) (fun h=>Aq ?_)
     ·exact decide_eq_decide.2 (by omega)
     ·exact(decide_eq_false (by omega)).symm
    ·rintro b rfl;unfold vd;refine Cc (fun h=>?_) (fun h=>?_)
     ·have h:=of_decide_eq_true h;refine A9 1 rfl (by omega) (by omega) ?_;refine A9 2 rfl (by omega) (by omega) ?_;refine Aq ?_;rw [if_neg (by omega),if_pos h.2];rfl
     ·have h:¬(0<c∧c<l):=fun Y=>h (decide_eq_true Y);refine Cc (fun Y=>?_) (fun Y=>?_)
      ·refine A9 1 rfl (by omega) (by omega) (Aq ?_);rw [if_pos (by omega)];rfl
      ·refine Aq ?_;rw [if_neg (by omega),if_neg (by omega)];rfl
   ·rintro v rfl;have:1≤vd c l∧vd c l≤3:=by unfold vd;split <;> (try split) <;> omega
    exact A9 (vd c l) (by omega) (by omega) (by omega) (Aq rfl)
def FL(J:JW)(K:BE)(p:Nat):List Int:=((List.range 13).filter fun a=>(TA J K a).any fun t=>decide (DJ t≤p)).map fun(a:Nat)=>(a:Int)
theorem SM(J:JW)(K:BE)(p:Nat):(FL J K p).length≤13:=by
 unfold FL;rw [List.length_map];exact Nat.le_trans (List.length_filter_le _ _) (by simp)
theorem Q5{F n p:Nat}{J:JW}{K:BE}(al:268435456<F)(hJ:VJ n J)(O:B5 n K)(W:K.length≤4)(am:p≤4):f43 F J K (p:Int)=some (if FL J K p= [] then([],11) else(FL J K p,0)):=by
 obtain⟨qs,e,Y⟩:=O2 (F:=F) (by omega) hJ O;have an:=ON qs;refine Eh ?_;unfold f43;refine AW (NP (by omega) hJ O W) (Br (by simp) ?_);refine AW (IZ F _ _ _) (Br (by simp;omega) ?_);refine AW (Q0 (by omega) hJ) (AW (b:=(J.1,J.2,FP J)) rfl ?_);refine AW e ?_;have Z:((CS qs).filter fun q=>decide (q.2.1≤(p:Int))).map (fun q=>q.1)=FL J K p:=by
  unfold CS FL;rw [List.filter_map,List.map_map,List.filter_filter];have:(List.range 13).filter (fun j=>((fun q:Int×Int×List Cu=>decide (q.2.1≤(p:Int)))∘partOf qs) j&&decide (0<(qs j).2.length))=(List.range 13).filter fun a=>(TA J K a).any fun t=>decide (DJ t≤p):=by
   refine List.filter_congr fun j aa=>?_;have ab:=Y j (List.mem_range.1 aa);rw [Bool.eq_iff_iff];simp only [Function.comp,partOf,Bool.and_eq_true,decide_eq_true_iff,List.any_eq_true];rcases ab with⟨U,g2⟩ | ⟨k,U,⟨t,ht,ae⟩,ah,ai⟩
   ·constructor
    ·rintro⟨_,h⟩;rw [g2] at h;simp at h
    ·rintro⟨t,ht,_⟩;rw [U] at ht;simp at ht
   ·have:t∈(qs j).2:=by rw [ai];exact List.mem_filter.2 ⟨ht,by simpa using ae⟩
    have aj:=List.length_pos_of_mem this;constructor
    ·rintro⟨ak,_⟩;have V:(qs j).1≤(p:Int):=of_decide_eq_true ak;exact⟨t,ht,by omega⟩
    ·rintro⟨s,hs,ao⟩;have:=ah s hs;have V:(qs j).1≤(p:Int):=by omega
     exact⟨decide_eq_true V,aj⟩
  rw [this];rfl
 refine AS (S:=fun r=>r=FL J K p) ?_ ?_
 ·rw [← Z];refine C5 (CS qs).length (fun i s=>s=((((CS qs).take i).filter fun q=>decide (q.2.1≤(p:Int))).map (fun q=>q.1),(i:Int))) rfl (by omega) ?_ ?_
  ·rintro i s hi rfl;unfold Mc;refine Ci (by simp only;omega) (BN (m:=i) rfl hi ?_);refine AS (S:=fun c=>c=(((CS qs).take (i+1)).filter fun q=>decide (q.2.1≤(p:Int))).map (fun q=>q.1)) ?_ ?_
   ·rw [List.take_add_one,List.getElem?_eq_getElem hi];simp only [Option.toList_some];rw [List.filter_append,List.map_append];refine Cc (fun h=>?_) (fun h=>?_)
    ·refine Hl ?_ (Aq ?_)
     ·rw [List.length_map];exact Nat.le_trans (Nat.add_le_add_right (Nat.le_trans (List.length_filter_le _ _) (show((CS qs).take i).length≤13 by rw [List.length_take];omega)) 1) (by omega)
     ·simp [List.filter_cons,h]
    ·refine Aq ?_;simp [List.filter_cons,h]
   ·rintro c rfl;exact A9 ((i+1:Nat):Int) (by simp) (by omega) (by omega) (Aq rfl)
  ·rintro s rfl;unfold Mc;refine Br (by simp) (Aq ⟨_,rfl,?_⟩);rw [List.take_length]
 ·rintro r rfl;refine Cc (fun h=>?_) (fun h=>?_)
  ·rw [if_pos (List.length_eq_zero_iff.1 (by omega))];exact Aq rfl
  ·rw [if_neg (fun e=>h (by rw [e];rfl))];exact Aq rfl
end Pal
namespace Pal
def Gi(J:JW)(a:Nat)(p:List Int):Prop:=(∀m,p[0]? =some m→∃k:Nat,m=(k:Int)∧(AG J a).testBit k=true)∧∀(y:Nat) m m',p[y]? =some m→p[y+1]? =some m'→m'∈J.1.getD m.toNat []
theorem Gi.range{n a:Nat}{J:JW}{p:List Int}(hJ:VJ n J)(h:Gi J a p):∀(y:Nat) m,p[y]? =some m→0≤m∧m<(n:Int)
 | 0,m,hm=>by
  obtain⟨k,rfl,K⟩:=h.1 m hm
  have:=Hp (H0 hJ a) K
  omega
 | y+1,m,hm=>by
  have O:y<p.length:=by have:=(List.getElem?_eq_some_iff.1 hm).1;omega
  exact(hJ.EA _).inr _ (h.2 y p[y] m (List.getElem?_eq_getElem O) hm)
theorem Gi.take{a:Nat}{J:JW}{p:List Int}(h:Gi J a p)(k:Nat):Gi J a (p.take k):=by
 have key:∀(y:Nat) m,(p.take k)[y]? =some m→p[y]? =some m:=fun y m hm=>by
  rw [List.getElem?_take] at hm;split at hm
  ·exact hm
  ·cases hm
 exact⟨fun m hm=>h.1 m (key 0 m hm),fun y m m' K O=>h.2 y m m' (key _ _ K) (key _ _ O)⟩
theorem Gi.snoc{a:Nat}{J:JW}{p:List Int}{m x:Int}(h:Gi J a (p++ [m]))(U:x∈J.1.getD m.toNat []):Gi J a (p++ [m]++ [x]):=by
 constructor
 ·intro y O;rw [List.getElem?_append_left (by simp)] at O;exact h.1 y O
 ·intro y u V hu K;rcases Nat.lt_or_ge (y+1) (p++ [m]).length with W | Y
  ·rw [List.getElem?_append_left (by omega)] at hu;rw [List.getElem?_append_left W] at K;exact h.2 y u V hu K
  ·have Z:=(List.getElem?_eq_some_iff.1 K).1;simp only [List.length_append,List.length_singleton] at Y Z;have e:y=p.length:=by omega
   subst e;rw [List.getElem?_append_left (by simp),List.getElem?_append_right (by omega)] at hu;rw [List.getElem?_append_right (by simp)] at K;simp at hu K;subst hu;subst K;exact U
theorem UH{n a q:Nat}{J:JW}{x:Int}(hJ:VJ n J)(K:(AG J a).testBit q=true)(O:x∈J.1.getD q []):∃k:Nat,x=(k:Int)∧(AG J (a+1)).testBit k=true:=by
 have U:=(hJ.EA q).inr x O;refine⟨x.toNat,by omega,?_⟩;show(F6 J.1 (AG J a)).testBit _=true;rw [J2 hJ];exact⟨q,by have:=Hp (H0 hJ a) K;have:=hJ.le;omega,K,by rw [show((x.toNat:Nat):Int)=x by omega];exact O⟩
theorem VJ.RE{n q:Nat}{J:JW}(hJ:VJ n J)(O:q<n):J.1[q]? =some (J.1.getD q [])∧0<(J.1.getD q []).length:=by
 have U:=hJ.l1;have K:J.1[q]? =some (J.1.getD q []):=by rw [List.getD_eq_getElem?_getD,List.getElem?_eq_getElem (by omega)];rfl
 exact⟨K,(hJ.nx q _ K).2⟩
theorem WH{F k n yrs:Nat}{b:DX}{J:JW}(az:100<F)(hJ:VJ n J)(hb:BG k b)(aA:k<1000)(aB:yrs≤20):
  A0 (f45 F b J (yrs:Int)) (fun r=>∃a:Nat,r.1=(a:Int)∧a≤6∧r.2.1.length=yrs∧Gi J a r.2.1∧BG (k+30) r.2.2):=by
 have aC:=hJ.le;have aD:=hJ.pos;unfold f45;refine AS (G8 hb (by omega) (by omega)) ?_;rintro⟨ag,aE⟩ ⟨ao,g2,am⟩;simp only at ao g2 am ⊢;obtain⟨a,rfl⟩:∃a:Nat,ag=(a:Int):=⟨ag.toNat,by omega⟩;refine AS (S:=fun r=>∃q:Nat,r.1=(q:Int)∧(AG J a).testBit q=true∧BG (k+7) r.2) ?_ ?_
 ·refine C5 a (fun i s=>∃q:Nat,s.2.2.2.1=(q:Int)∧(AG J i).testBit q=true∧s.2.2.2.2=(i:Int)∧BG (k+1+i) (s.1,s.2.1,s.2.2.1)) ⟨0,rfl,by show(1:Nat).testBit 0=true;decide,rfl,am⟩ (by omega) ?_ ?_
  ·rintro i ⟨s1,s2,aj,W,ai⟩ hi ⟨q,K,Y,Z,aa⟩;simp only at K Z aa;subst K;subst Z;unfold L9;have ap:=Hp (H0 hJ i) Y;obtain⟨ak,al⟩:=hJ.RE ap;refine Ci (by simp only;omega) (AW (CU (m:=q) rfl ak) ?_);refine AS (LV (F:=F) aa (by omega) al (by have:=(hJ.EA q).len;omega)) ?_;rintro⟨x,aq⟩ ⟨ab,ae⟩;simp only at ab ae ⊢;obtain⟨ar,rfl,au⟩:=UH hJ Y ab;exact A9 ((i+1:Nat):Int) (by simp) (by omega) (by omega) (Aq ⟨ar,rfl,au,rfl,ae⟩)
  ·rintro⟨s1,s2,aj,W,ai⟩ ⟨q,K,Y,Z,aa⟩;simp only at K Z aa;subst K;subst Z;unfold L9;exact Br (by simp) (Aq ⟨_,rfl,q,rfl,Y,aa.Ai (by omega)⟩)
 ·rintro⟨aF,aq⟩ ⟨q,K,Y,ae⟩;simp only at K ae ⊢;subst K;refine AS (S:=fun r=>r.1.length=yrs∧Gi J a r.1∧BG (k+30) r.2) ?_ ?_
  ·refine C5 yrs (fun i s=>s.2.2.2.2.1.length=i∧s.2.2.2.2.2=(i:Int)∧Gi J a (s.2.2.2.2.1++ [s.2.2.2.1])∧BG (k+7+i) (s.1,s.2.1,s.2.2.1)) ⟨rfl,rfl,⟨?_,?_⟩,ae⟩ (by omega) ?_ ?_
   ·intro m hm;simp at hm;subst hm;exact⟨q,rfl,Y⟩
   ·intro y m m' _ av;simp at av
   ·rintro i ⟨s1,s2,aj,W,ai,aw⟩ hi ⟨O,V,U,ah⟩;simp only at O V U ah;subst V;unfold Mh;have aG:=U.range hJ i W (by rw [List.getElem?_append_right (by omega)];simp [O]);obtain⟨u,hu⟩:∃u:Nat,W=(u:Int):=⟨W.toNat,by omega⟩;subst hu;obtain⟨ak,al⟩:=hJ.RE (q:=u) (by omega);refine Ci (by simp only;omega) (Hl (by simp only;omega) ?_);refine AW (CU (m:=u) rfl ak) (AS (LV (F:=F) ah (by omega) al (by have:=(hJ.EA u).len;omega)) ?_);rintro⟨x,ay⟩ ⟨ab,an⟩;simp only at ab an ⊢;exact A9 ((i+1:Nat):Int) (by simp) (by omega) (by omega) (Aq ⟨by simp [O],rfl,U.snoc (by simpa using ab),an⟩)
   ·rintro⟨s1,s2,aj,W,ai,aw⟩ ⟨O,V,U,ah⟩;simp only at O V U ah;subst V;unfold Mh;refine Br (by simp) (Aq ⟨_,rfl,O,?_,ah.Ai (by omega)⟩);have:=U.take ai.length
    rwa [List.take_left' rfl] at this
  ·rintro⟨ms,ay⟩ ⟨O,V,U⟩;exact Aq ⟨a,rfl,by omega,O,V,U⟩
theorem B5.snoc{n:Nat}{O:BE}{l:Int×Int}(h:B5 n O)(Z:O.length<4)(V:0≤l.1∧l.1≤6)(W:0≤l.2∧l.2<(n:Int))(Y:∀x∈O,x.1≤l.1):B5 n (O++ [l]) where
 len:=by simp;omega
 yr x K:=by
  rcases List.mem_append.1 K with K | K
  ·exact h.yr x K
  ·simp at K;subst K;exact V
 sn x K:=by
  rcases List.mem_append.1 K with K | K
  ·exact h.sn x K
  ·simp at K;subst K;exact W
 Gr:=by
  rw [List.pairwise_append];exact⟨h.Gr,by simp,fun x K y U=>by simp at U;subst U;exact Y x K⟩
theorem B5.nil{n:Nat}:B5 n []:=⟨by simp,by simp,by simp,by simp⟩
theorem WI{F k n many:Nat}{b:DX}{J:JW}{ms:List Int}(fl:Bool)(aD:100<F)(hJ:VJ n J)(hb:BG k b)(aE:k<1000)(hm:many≤4)(ao:0<ms.length∧ms.length≤7)(Y:∀(y:Nat) m,ms[y]? =some m→0≤m∧m<(n:Int)):
  A0 (f46 F b J ms (many:Int) fl) (fun r=>B5 n r.1∧r.1.length≤many∧(∀l∈r.1,l.1.toNat<ms.length)∧(fl=false→∀l∈r.1,ms[l.1.toNat]? =some l.2)∧BG (k+30) r.2):=by
 have ap:=hJ.l2;unfold f46;refine AS (G8 hb (by omega) (by omega)) ?_;rintro⟨ct,aF⟩ ⟨aq,g2,ah⟩;simp only at aq g2 ah ⊢;obtain⟨c,rfl⟩:∃c:Nat,ct=(c:Int):=⟨ct.toNat,by omega⟩;refine AS (S:=fun r=>B5 n r.1∧r.1.length≤many∧(∀l∈r.1,l.1.toNat<ms.length)∧(fl=false→∀l∈r.1,ms[l.1.toNat]? =some l.2)∧BG (k+30) r.2) ?_ (fun r Y=>Aq Y);refine Lt (fun m s=>∃y:Nat,s.2.2.2.2.2=(m:Int)∧s.2.2.2.2.1=(y:Int)∧y<ms.length∧s.2.2.2.1.length+m≤many∧B5 n s.2.2.2.1∧(∀l∈s.2.2.2.1,l.1≤(y:Int))∧(fl=false→∀l∈s.2.2.2.1,ms[l.1.toNat]? =some l.2)∧BG (k+29 - 4*m) (s.1,s.2.1,s.2.2.1)) ?_ (m:=c) ⟨0,rfl,rfl,ao.1,by simp;omega,B5.nil,by simp,by simp,ah.Ai (by omega)⟩ (by omega);rintro m ⟨s1,s2,aG,out,yr,cnt⟩ ⟨y,ai,e2,aH,hlen,U,hle,Z,aa⟩;simp only at ai e2 hlen U hle Z aa;subst ai;subst e2;unfold NI;refine Cc (fun ar=>?_) (fun au=>?_)
 ·simp only at ar;have aI:0<m:=by omega
  refine A9 ((ms.length - 1:Nat):Int) (by omega) (by omega) (by omega) (A9 ((y+2:Nat):Int) (by simp only;omega) (by omega) (by omega) ?_);refine AS (NJ (F:=F) aa (by omega) (by simp only;omega) (by simp only;omega) (by omega)) ?_;rintro⟨aj,aJ⟩ ⟨v1,v2,ab⟩;simp only at v1 v2 ab ⊢;obtain⟨z,rfl⟩:∃z:Nat,aj=(z:Int):=⟨aj.toNat,by omega⟩;have ak:z<ms.length:=by omega
  have V:ms[z]? =some ms[z]:=List.getElem?_eq_getElem ak;obtain⟨aK,av⟩:=Y z _ V;obtain⟨q,aw⟩:∃q:Nat,ms[z]=(q:Int):=⟨ms[z].toNat,by omega⟩;rw [aw] at V av;have aL:q<n:=by omega
  have ay:J.2[q]? =some (J.2.getD q []):=by rw [List.getD_eq_getElem?_getD,List.getElem?_eq_getElem (by omega)];rfl
  have al:=hJ.Jq q;refine AW (CU (m:=z) rfl V) ?_;refine AW (CU (m:=z) rfl V) ?_;refine AW (CU (m:=q) rfl ay) ?_;refine AS (S:=fun c=>c=true→fl=true∧0<(J.2.getD q []).length) ?_ ?_
  ·refine Cc (fun h=>Aq fun O=>⟨h,by have:=of_decide_eq_true O;omega⟩) (fun _=>Aq fun O=>by cases O)
  ·intro aM az;refine AS (S:=fun r=>(r.1=true→fl=true∧0<(J.2.getD q []).length)∧BG (k+29 - 4*m+2) r.2) ?_ ?_
   ·refine Cc (fun h=>?_) (fun _=>Aq ⟨fun O=>(by cases O),BG.Ai ab (by omega)⟩);refine AS (Kf (F:=F) ab (by omega) (by omega) (by omega)) ?_;rintro⟨o,aA⟩ W;exact Aq ⟨fun _=>az h,W⟩
   ·rintro⟨c2,aA⟩ ⟨am,W⟩;simp only at am W ⊢;refine AS (S:=fun r=>0≤r.2.2.2∧r.2.2.2<(n:Int)∧(fl=false→r.2.2.2=(q:Int))∧BG (k+29 - 4*m+3) (r.1,r.2.1,r.2.2.1)) ?_ ?_
    ·refine Cc (fun h=>?_) (fun _=>Aq ⟨by simp only;omega,by simp only;omega,fun _=>rfl,BG.Ai W (by omega)⟩);obtain⟨f1,f2⟩:=am h;refine AS (LV (F:=F) W (by omega) f2 (by have:=al.len;omega)) ?_;rintro⟨x,aN⟩ ⟨ae,aB⟩;have:=al.inr x ae;exact Aq ⟨this.1,this.2,fun O=>(by rw [f1] at O;cases O),aB⟩
    ·rintro⟨u1,aO,aP,sn⟩ ⟨w1,w2,w3,w4⟩;simp only at w1 w2 w3 w4 ⊢;refine Hl (by have:=U.len;omega) (A9 ((m - 1:Nat):Int) (by omega) (by omega) (by omega) ?_);refine Aq ⟨m - 1,by omega,z,rfl,rfl,ak,by simp;omega,?_,?_,?_,w4.Ai (by omega)⟩
     ·exact U.snoc (by have:=U.len;omega) ⟨by simp only;omega,by simp only;omega⟩ ⟨w1,w2⟩ fun x ae=>by have:=hle x ae;simp only;omega
     ·intro l K;rcases List.mem_append.1 K with K | K
      ·have:=hle l K;omega
      ·simp at K;subst K;exact Int.le_refl _
     ·intro an l K;rcases List.mem_append.1 K with K | K
      ·exact Z an l K
      ·simp at K;subst K;rw [w3 an];exact V
 ·simp only at au;have aC:m=0:=by omega
  subst aC;exact Aq ⟨U,by omega,fun l K=>by have aQ:=hle l K;have ap:=U.yr l K;omega,Z,aa.Ai (by omega)⟩
theorem B5.set{n i:Nat}{K:BE}{s:Int}(h:B5 n K)(hi:i<K.length)(hs:0≤s∧s<(n:Int)):B5 n (K.set i (K[i].1,s)):=by
 have hm:=List.getElem_mem hi;refine⟨by simpa using h.len,fun l O=>?_,fun l O=>?_,?_⟩
 ·rcases List.mem_or_eq_of_mem_set O with U | rfl
  ·exact h.yr l U
  ·exact h.yr K[i] hm
 ·rcases List.mem_or_eq_of_mem_set O with U | rfl
  ·exact h.sn l U
  ·exact hs
 ·have key:(K.set i (K[i].1,s)).map (fun l=>l.1)=K.map (fun l=>l.1):=by
   rw [List.map_set];apply List.ext_getElem?;intro j;by_cases e:i=j
   ·subst e;rw [List.getElem?_set_self (by simpa using hi)];simp [hi]
   ·rw [List.getElem?_set_ne e]
  have V:(K.map fun l=>l.1).Pairwise (·≤·):=List.pairwise_map.2 h.Gr;rw [← key] at V;exact List.pairwise_map.1 V
theorem VP{F k n many:Nat}{b:DX}{J:JW}(V:100<F)(hJ:VJ n J)(hb:BG k b)(ar:k<900)(hm:many≤4):
  A0 (f40 F b J (many:Int)) (fun r=>B5 n r.1∧r.1.length≤many∧(∀l∈r.1,l.1.toNat<5)∧BG (k+100) r.2):=by
 have au:=hJ.l1;have av:=hJ.pos;have aw:=hJ.le;unfold f40;refine AS (WH (yrs:=5) V hJ hb (by omega) (by omega)) ?_;rintro⟨ag,ms,ay⟩ ⟨a,_,_,g2,W,Y⟩;simp only at g2 W Y ⊢;refine AS (WI (many:=many) true V hJ Y (by omega) hm ⟨by omega,by omega⟩ (W.range hJ)) ?_;rintro⟨K,az⟩ ⟨v1,v2,Z,_,aa⟩;simp only at v1 v2 Z aa ⊢;refine AS (S:=fun r=>B5 n r.1∧r.1.length≤many∧(∀l∈r.1,l.1.toNat<5)∧BG (k+100) r.2) ?_ (fun r ak=>Aq ak);refine C5 K.length (fun i s=>s.2.2.2.2=(i:Int)∧B5 n s.2.2.2.1∧s.2.2.2.1.length=K.length∧(∀l∈s.2.2.2.1,l.1.toNat<5)∧BG (k+60+3*i) (s.1,s.2.1,s.2.2.1)) ⟨rfl,v1,rfl,fun l al=>by have:=Z l al;omega,aa⟩ (by have:=v1.len;omega) ?_ ?_
 ·rintro i ⟨s1,s2,am,l,c⟩ hi ⟨e,w1,w2,w3,w4⟩;simp only at e w1 w2 w3 w4;subst e;unfold Me;have O:i<l.length:=by omega
  have an:=v1.len;refine Ci (by simp only;omega) ?_;refine AS (Kf (F:=F) w4 (by omega) (by omega) (by omega)) ?_;rintro⟨o,aA⟩ U;simp only at U ⊢;refine AS (S:=fun r=>B5 n r.1∧r.1.length=K.length∧(∀x∈r.1,x.1.toNat<5)∧BG (k+60+3*i+2) r.2) ?_ ?_
  ·refine Cc (fun _=>?_) (fun _=>Aq ⟨w1,w2,w3,BG.Ai U (by omega)⟩);refine A9 ((n - 1:Nat):Int) (by omega) (by omega) (by omega) (AS (G8 (F:=F) U (by omega) (by omega)) ?_);rintro⟨x,ao⟩ ⟨ab,x2,ae⟩;simp only at ab x2 ae ⊢;refine BN (m:=i) rfl O (Aq ⟨?_,by simpa using w2,?_,ae⟩)
   ·rw [show Int.toNat (i:Int)=i by omega];exact w1.set O ⟨ab,by omega⟩
   ·intro y ap;rcases List.mem_or_eq_of_mem_set ap with aq | rfl
    ·exact w3 y aq
    ·exact w3 l[i] (List.getElem_mem O)
  ·rintro⟨l2,ao⟩ ⟨u1,ah,ai,aj⟩;simp only at u1 ah ai aj ⊢;exact A9 ((i+1:Nat):Int) (by simp) (by omega) (by omega) (Aq ⟨rfl,u1,ah,ai,BG.Ai aj (by omega)⟩)
 ·rintro⟨s1,s2,am,l,c⟩ ⟨e,w1,w2,w3,w4⟩;simp only at e w1 w2 w3 w4;subst e;unfold Me;have an:=v1.len;exact Br (by simp only;omega) (Aq ⟨_,rfl,w1,by simp only;omega,w3,BG.Ai w4 (by omega)⟩)
end Pal
namespace Pal
def Fu(J:JW)(K:BE)(p:List Int):Prop:=∀l∈K,∀m,p[l.1.toNat]? =some m→EW J m l=true
def F7(K:BE):Nat→List Int→Nat
 | _,[]=>0
 | y,m::p=>CW K y m K.length ||| F7 K (y+1) p
theorem NA(W:BE)(i:Nat):∀(p:List Int) (y:Nat),(F7 W y p).testBit i=true↔∃l,W[i]? =some l∧∃(q:Nat) (m:Int),p[q]? =some m∧l.1=((y+q:Nat):Int)∧m≠l.2
 | [],y=>by simp [F7]
 | m::p,y=>by
  unfold F7
  rw [Nat.testBit_or,Bool.or_eq_true,Qs,NA W i p (y+1)]
  constructor
  ·rintro(⟨_,l,K,O,U⟩ | ⟨l,K,q,u,O,U,V⟩)
   ·exact⟨l,K,0,m,rfl,by simpa using O,U⟩
   ·exact⟨l,K,q+1,u,by simpa using O,by rw [U];congr 1;omega,V⟩
  ·rintro⟨l,K,q,u,O,U,V⟩;cases q with
   | zero=>
    simp at O;subst O;exact .inl ⟨(List.getElem?_eq_some_iff.1 K).1,l,K,by simpa using U,V⟩
   | succ q=>exact .inr ⟨l,K,q,u,by simpa using O,by rw [U];congr 1;omega,V⟩
theorem Vm{J:JW}{K:BE}{y:Nat}{m:Int}:Fb J K y m=true↔∀l∈K,l.1=(y:Int)→EW J m l=true:=by
 unfold Fb;rw [List.all_eq_true];refine forall_congr' fun l=>forall_congr' fun _=>?_;rw [Bool.or_eq_true,decide_eq_true_iff];by_cases h:l.1=(y:Int) <;> simp [h]
theorem Tx{n q:Nat}{J:JW}{m:Int}(hJ:VJ n J):m∈Ct (CJ (J.1.getD q [])) 16↔m∈J.1.getD q []:=by
 have K:=hJ.EA q;have V:=hJ.le;rw [GZ];constructor
 ·rintro⟨k,_,U,rfl⟩;rw [Ln (fun x O=>(K.inr x O).1)] at U;exact of_decide_eq_true U
 ·intro h;have:=K.inr m h;refine⟨m.toNat,by omega,?_,by omega⟩;rw [Ln (fun x O=>(K.inr x O).1),show((m.toNat:Nat):Int)=m by omega];exact decide_eq_true h
theorem O8{J:JW}{m:Int}{l:Int×Int}:EW J m l=true↔m=l.2∨l.2∈J.2.getD m.toNat []:=by
 unfold EW;simp
end Pal
namespace Pal
theorem M3(s k:Nat):(Ct s k).Pairwise (·<·):=by
 unfold Ct;rw [List.pairwise_map];exact(List.pairwise_lt_range.filter _).imp fun h=>by omega
end Pal
namespace Pal
theorem P0:∀{a b:List Int},a.Pairwise (·<·)→b.Pairwise (·<·)→(∀x,x∈a↔x∈b)→a=b
 | [],[],_,_,_=>rfl
 | [],y::b,_,_,h=>by have:=(h y).2 (by simp);simp at this
 | x::a,[],_,_,h=>by have:=(h x).1 (by simp);simp at this
 | x::a,y::b,W,hb,h=>by
  obtain⟨U,Y⟩:=List.pairwise_cons.1 W
  obtain⟨V,Z⟩:=List.pairwise_cons.1 hb
  have aa:x=y:=by
   have ab:=(h x).1 (by simp);have ae:=(h y).2 (by simp);rcases List.mem_cons.1 ab with e | e
   ·exact e
   ·rcases List.mem_cons.1 ae with K | K
    ·exact K.symm
    ·have:=U y K;have:=V x e;omega
  subst aa;rw [P0 Y Z fun z=>?_];have O:=h z;simp only [List.mem_cons] at O;constructor
  ·intro hm;rcases O.1 (.inr hm) with e | e
   ·subst e;have:=U z hm;omega
   ·exact e
  ·intro hm;rcases O.2 (.inr hm) with e | e
   ·subst e;have:=V z hm;omega
   ·exact e
theorem Sl{n q:Nat}{J:JW}(hJ:VJ n J):Ct (CJ (J.1.getD q [])) 16=J.1.getD q []:=P0 (M3 _ _) (hJ.EA q).Gr fun _=>Tx hJ
end Pal
namespace Pal
def nx(J:JW)(m:Int):List Int:=J.1.getD m.toNat []
def Fv(J:JW):Nat→List Int→Int→List (List Int)
 | 0,p,_=> [p]
 | k+1,p,m=>(nx J m).flatMap fun u=>Fv J k (p++ [u]) u
theorem Nv{J:JW}:∀(k:Nat) (p:List Int) (m:Int) (q:List Int),q∈Fv J k p m→∃e,q=p++e∧e.length=k
 | 0,p,m,q,h=>by
  simp only [Fv,List.mem_singleton] at h
  exact⟨[],by simp [h],rfl⟩
 | k+1,p,m,q,h=>by
  simp only [Fv,List.mem_flatMap] at h
  obtain⟨u,_,h⟩:=h
  obtain⟨e,rfl,he⟩:=Nv k _ u q h
  exact⟨u::e,by simp,by simp [he]⟩
def Hw(J:JW)(Y a:Nat):List (List Int):=(Ct (AG J a) 16).flatMap fun m=>Fv J Y [m] m
theorem LK{n:Nat}{J:JW}(hJ:VJ n J):∀(k:Nat) (p:List Int) (m:Int) (q:List Int),p.getLast? =some m→(q∈Fv J k p m↔∃e,q=p++e∧e.length=k∧∀(y:Nat) u v,p.length≤y+1→q[y]? =some u→q[y+1]? =some v→v∈nx J u)
 | 0,p,m,q,h=>by
  simp only [Fv,List.mem_singleton]
  constructor
  ·rintro rfl
   refine⟨[],by simp,rfl,fun y u v O hu V=>?_⟩;have:=(List.getElem?_eq_some_iff.1 V).1;omega
  ·rintro⟨e,rfl,he,_⟩;rw [List.length_eq_zero_iff.1 he,List.append_nil]
 | k+1,p,m,q,h=>by
  have hlen:0<p.length:=by
   cases p with
   | nil=>simp at h
   | cons=>simp
  have U:p[p.length - 1]? =some m:=by rw [← List.getLast?_eq_getElem?];exact h
  simp only [Fv,List.mem_flatMap];constructor
  ·rintro⟨u,hu,W⟩;obtain⟨e,rfl,he,hw⟩:=(LK hJ k (p++ [u]) u q (by simp)).1 W;refine⟨u::e,by simp,by simp [he],fun y a b O K hb=>?_⟩;rcases Nat.lt_or_ge (y+1) (p.length+1) with Y | Y
   ·have Z:y=p.length - 1:=by omega
    subst Z;rw [List.append_assoc,List.getElem?_append_left (by omega),U] at K;rw [List.append_assoc,List.getElem?_append_right (by omega),show p.length - 1+1 - p.length=0 by omega] at hb;simp at K hb;subst K;subst hb;exact hu
   ·exact hw y a b (by simp;omega) K hb
  ·rintro⟨e,rfl,he,hw⟩;cases e with
   | nil=>simp at he
   | cons u e=>
    refine⟨u,hw (p.length - 1) m u (by omega) (by rw [List.getElem?_append_left (by omega)];exact U) (by rw [List.getElem?_append_right (by omega),show p.length - 1+1 - p.length=0 by omega];rfl),?_⟩;refine(LK hJ k (p++ [u]) u _ (by simp)).2 ⟨e,by simp,by simpa using he,fun y a b O K hb=>?_⟩;exact hw y a b (by simp at O;omega) K hb
theorem T6{n:Nat}{J:JW}(hJ:VJ n J){Y a:Nat}{p:List Int}:p∈Hw J Y a↔p.length=Y+1∧Gi J a p:=by
 have V:∀m:Int,m∈Ct (AG J a) 16↔∃k:Nat,m=(k:Int)∧(AG J a).testBit k=true:=fun m=>by
  rw [GZ];exact⟨fun⟨k,_,O,K⟩=>⟨k,K,O⟩,fun⟨k,O,K⟩=>⟨k,by have:=Hp (H0 hJ a) K;have:=hJ.le;omega,K,O⟩⟩
 unfold Hw;rw [List.mem_flatMap];constructor
 ·rintro⟨m,hm,h⟩;obtain⟨e,rfl,he,hw⟩:=(LK hJ Y [m] m p rfl).1 h;refine⟨by simp [he],fun u hu=>?_,fun y u v hu U=>hw y u v (by simp) hu U⟩;simp at hu;subst hu;exact(V m).1 hm
 ·rintro⟨W,O,K⟩;cases p with
  | nil=>simp at W
  | cons m e=>
   refine⟨m,(V m).2 (O m rfl),(LK hJ Y [m] m _ rfl).2 ⟨e,rfl,by simpa using W,fun y u v _ hu U=>K y u v hu U⟩⟩
def Ko(J:JW)(K:BE)(p:List Int):Bool:=K.all fun l=>match p[l.1.toNat]? with
 | some m=>EW J m l
 | none=>true
theorem JH{J:JW}{K:BE}{p:List Int}:Ko J K p=true↔Fu J K p:=by
 unfold Ko Fu;rw [List.all_eq_true];refine forall_congr' fun l=>forall_congr' fun _=>?_;cases p[l.1.toNat]? with
 | none=>simp
 | some m=>simp
theorem Fu.pre{J:JW}{K:BE}{p e:List Int}(h:Fu J K (p++e)):Fu J K p:=fun l O m hm=>h l O m (by
 rw [List.getElem?_append_left (List.getElem?_eq_some_iff.1 hm).1];exact hm)
theorem Fu.snoc{n:Nat}{J:JW}{O:BE}(W:B5 n O){p:List Int}{u:Int}:Fu J O (p++ [u])↔Fu J O p∧Fb J O p.length u=true:=by
 rw [Vm];constructor
 ·intro h;refine⟨h.pre,fun l K U=>h l K u ?_⟩;rw [U,Int.toNat_natCast];simp
 ·rintro⟨Y,Z⟩ l K m hm;have U:=W.yr l K;rcases Nat.lt_or_ge l.1.toNat p.length with V | V
  ·rw [List.getElem?_append_left V] at hm;exact Y l K m hm
  ·have aa:=(List.getElem?_eq_some_iff.1 hm).1;simp at aa;have ab:l.1.toNat=p.length:=by omega
   rw [ab] at hm;simp at hm;subst hm;exact Z l K (by omega)
theorem PK(K:BE)(u:Int):∀(p:List Int) (y:Nat),F7 K y (p++ [u])=F7 K y p ||| CW K (y+p.length) u K.length
 | [],y=>by simp [F7]
 | m::p,y=>by
  simp only [List.cons_append,F7,PK K u p (y+1),List.length_cons]
  rw [show y+1+p.length=y+(p.length+1) by omega]
  exact(Nat.or_assoc _ _ _).symm
def pick(J:JW)(K:BE)(p:List Int):Option (List Int×Nat):=if Ko J K p=true then some (p,F7 K 0 p) else none
theorem NK{α β:Type}{f:α→Option β}:∀{l:List α},(∀x∈l,f x=none)→l.filterMap f= []
 | [],_=>rfl
 | x::l,h=>by
  rw [List.filterMap_cons,h x (by simp)]
  exact NK fun y K=>h y (by simp [K])
theorem Nr{α β K:Type}{f:α→List β}{g:β→Option K}:∀{l:List α},(l.flatMap f).filterMap g=l.flatMap fun x=>(f x).filterMap g
 | []=>rfl
 | x::l=>by simp only [List.flatMap_cons,List.filterMap_append,Nr]
theorem Qp{n:Nat}{J:JW}{K:BE}(hJ:VJ n J)(O:B5 n K):∀(k:Nat) (ms:List Int) (m:Int),Fu J K ms→En J K k (CJ (nx J m)) ms (F7 K 0 ms)=(Fv J k ms m).filterMap (pick J K)
 | 0,ms,m,h=>by
  simp only [En,Fv,pick,List.filterMap_cons,List.filterMap_nil,if_pos (JH.2 h)]
 | k+1,ms,m,h=>by
  simp only [En,Fv,Nr]
  rw [show Ct (CJ (nx J m)) 16=nx J m from Sl hJ]
  refine Lr fun u _=>?_
  split
  ·rename_i hb
   have U:Fu J K (ms++ [u]):=(Fu.snoc O).2 ⟨h,hb⟩;have:=Qp hJ O k (ms++ [u]) u U;rw [PK,Nat.zero_add] at this;exact this
  ·rename_i hb;refine(NK fun q V=>?_).symm;obtain⟨e,rfl,_⟩:=Nv k _ u q V;unfold pick;rw [if_neg];intro hs;exact hb ((Fu.snoc O).1 (JH.1 hs).pre).2
theorem QV{n:Nat}{J:JW}{K:BE}(hJ:VJ n J)(U:B5 n K)(a:Nat):TA J K a=((Hw J (Ey K) a).filterMap (pick J K)).map fun x=>((a:Int),x.1,x.2):=by
 unfold TA Hw;rw [Nr];congr 1;simp only [En];refine Lr fun u _=>?_;have V:Fu J K ([]:List Int):=fun l _ m hm=>by simp at hm
 have O:=Fu.snoc (J:=J) (p:= []) (u:=u) U;simp only [List.nil_append,List.length_nil] at O ⊢;split
 ·rename_i hb;have W:Fu J K [u]:=O.2 ⟨V,hb⟩;have:=Qp hJ U (Ey K) [u] u W;simp only [F7,Nat.or_zero] at this;rw [Nat.zero_or];exact this
 ·rename_i hb;refine(NK fun q Y=>?_).symm;obtain⟨e,rfl,_⟩:=Nv _ _ u q Y;unfold pick;rw [if_neg];intro hs;exact hb (O.1 (JH.1 hs).pre).2
end Pal
namespace Pal
theorem QK{F n:Nat}{J:JW}{K:BE}(Y:268435456<F)(hJ:VJ n J)(Z:B5 n K)(aa:K.length≤4):
  A0 (f28 F J K) (fun r=>(TT J K= []∧r=(0,0))∨∃k,Hv J K k∧r=(((DV J K k).length:Int),0)):=by
 unfold f28;refine AS (Q3 true Y hJ Z aa ⟨by omega,by omega⟩) ?_;rintro⟨x,⟨q1,q2⟩,e⟩ ⟨U,g2⟩;simp only at U g2;rw [if_neg (by simp)] at g2;subst g2;refine Aq ?_;rcases U with⟨V,O⟩ | ⟨k,V,O,ab,W⟩
 ·cases O;exact .inl ⟨V,rfl⟩
 ·simp only at W;refine .inr ⟨k,⟨O,ab⟩,?_⟩;simp only;rw [W];rfl
end Pal
namespace Pal
def rn(ρ:Nat→Nat)(m:Int):Int:=((ρ m.toNat:Nat):Int)
structure C9 (n:Nat) (ρ:Nat→Nat) (J X:JW):Prop where
 hJ:VJ n J
 hX:VJ n X
 lt:∀i,i<n→ρ i<n
 inj:∀i j,i<n→j<n→ρ i=ρ j→i=j
 z:ρ 0=0
 nx:∀i,i<n→∀z:Int,z∈X.1.getD (ρ i) []↔∃u∈J.1.getD i [],rn ρ u=z
 fl:∀i,i<n→∀z:Int,z∈X.2.getD (ρ i) []↔∃u∈J.2.getD i [],rn ρ u=z
theorem Tm{l:List Int}(h:l.Pairwise (·<·)):l.Nodup:=h.imp fun h e=>by omega
theorem J5{n:Nat}{ρ:Nat→Nat}{a b:Int}(K:∀i j,i<n→j<n→ρ i=ρ j→i=j)(O:0≤a∧a<(n:Int))(hb:0≤b∧b<(n:Int))(h:rn ρ a=rn ρ b):a=b:=by
 unfold rn at h;have:=K a.toNat b.toNat (by omega) (by omega) (by omega);omega
theorem Nb{n:Nat}{ρ:Nat→Nat}{l K:List Int}(U:∀i j,i<n→j<n→ρ i=ρ j→i=j)(O:Gn n l)(V:l.Pairwise (·<·))(W:K.Pairwise (·<·))(hm:∀z,z∈K↔∃u∈l,rn ρ u=z):K.Perm (l.map (rn ρ)):=by
 refine(List.perm_ext_iff_of_nodup (Tm W) ?_).2 fun z=>?_
 ·show List.Pairwise _ _;rw [List.pairwise_map];refine List.Pairwise.imp_of_mem ?_ V;intro a b Y hb Z he;have:=J5 U (O a Y) (O b hb) he;omega
 ·rw [hm,List.mem_map]
theorem LS{α β:Type}{f g:α→List β}:∀{l:List α},(∀x∈l,(f x).Perm (g x))→(l.flatMap f).Perm (l.flatMap g)
 | [],_=>List.Perm.refl _
 | x::l,h=>by
  rw [List.flatMap_cons,List.flatMap_cons]
  exact(h x (by simp)).append (LS fun y K=>h y (by simp [K]))
theorem O1{α β:Type}{f g:α→Option β}:∀{l:List α},(∀x∈l,f x=g x)→l.filterMap f=l.filterMap g
 | [],_=>rfl
 | x::l,h=>by
  rw [List.filterMap_cons,List.filterMap_cons,h x (by simp),O1 fun y K=>h y (by simp [K])]
theorem Qv:∀q,(1:Nat).testBit q=true↔q=0
 | 0=>by decide
 | q+1=>by simp [Nat.testBit_succ]
theorem C9.ag{n:Nat}{ρ:Nat→Nat}{J X:JW}(h:C9 n ρ J X):∀a z,(AG X a).testBit z=true↔∃i,i<n∧ρ i=z∧(AG J a).testBit i=true
 | 0,z=>by
  have U:=h.hJ.pos
  show(1:Nat).testBit z=true↔∃i,i<n∧ρ i=z∧(1:Nat).testBit i=true
  rw [Qv]
  constructor
  ·rintro rfl;exact⟨0,U,h.z,by decide⟩
  ·rintro⟨i,_,rfl,hi⟩;rw [(Qv i).1 hi];exact h.z
 | a+1,z=>by
  show(F6 X.1 (AG X a)).testBit z=true↔∃i,i<n∧ρ i=z∧(F6 J.1 (AG J a)).testBit i=true;have V:=h.hJ.le;rw [J2 h.hX];constructor
  ·rintro⟨m,_,K,O⟩;obtain⟨i,hi,rfl,hb⟩:=(h.ag a m).1 K;obtain⟨u,hu,he⟩:=(h.nx i hi _).1 O;have W:=(h.hJ.EA i).inr u hu;refine⟨u.toNat,by omega,?_,(J2 h.hJ _ _).2 ⟨i,by omega,hb,?_⟩⟩
   ·unfold rn at he;omega
   ·rw [show((u.toNat:Nat):Int)=u by omega];exact hu
  ·rintro⟨i,hi,rfl,hb⟩;obtain⟨m,Y,K,O⟩:=(J2 h.hJ _ _).1 hb;have hm:=Hp (H0 h.hJ a) K;exact⟨ρ m,by have:=h.lt m hm;omega,(h.ag a _).2 ⟨m,hm,rfl,K⟩,(h.nx m hm _).2 ⟨_,O,rfl⟩⟩
theorem C9.paths{n:Nat}{ρ:Nat→Nat}{J X:JW}(h:C9 n ρ J X):∀(k:Nat) (p:List Int) (m:Int),0≤m∧m<(n:Int)→(Fv X k (p.map (rn ρ)) (rn ρ m)).Perm ((Fv J k p m).map (List.map (rn ρ)))
 | 0,p,m,_=>List.Perm.refl _
 | k+1,p,m,hm=>by
  have K:(Pal.nx X (rn ρ m)).Perm ((Pal.nx J m).map (rn ρ)):=Nb h.inj (h.hJ.EA m.toNat).inr (h.hJ.EA _).Gr (h.hX.EA _).Gr (fun z=>h.nx m.toNat (by omega) z)
  show((Pal.nx X (rn ρ m)).flatMap fun u=>Fv X k (p.map (rn ρ)++ [u]) u).Perm (((Pal.nx J m).flatMap fun u=>Fv J k (p++ [u]) u).map (List.map (rn ρ)))
  rw [List.map_flatMap]
  refine(K.flatMap_right _).trans ?_
  rw [List.flatMap_map]
  refine LS fun u hu=>?_
  have:=h.paths k (p++ [u]) u ((h.hJ.EA m.toNat).inr u hu)
  rw [List.map_append] at this
  exact this
theorem C9.W4{n:Nat}{ρ:Nat→Nat}{J X:JW}(h:C9 n ρ J X)(Y a:Nat):(Hw X Y a).Perm ((Hw J Y a).map (List.map (rn ρ))):=by
 have V:=h.hJ.le;have O:Gn n (Ct (AG J a) 16):=fun x U=>by
  obtain⟨k,_,K,rfl⟩:=GZ.1 U;have:=Hp (H0 h.hJ a) K;omega
 have hb:(Ct (AG X a) 16).Perm ((Ct (AG J a) 16).map (rn ρ)):=Nb h.inj O (M3 _ _) (M3 _ _) fun z=>by
  rw [GZ];constructor
  ·rintro⟨k,_,K,rfl⟩;obtain⟨i,hi,rfl,hb⟩:=(h.ag a k).1 K;exact⟨(i:Int),GZ.2 ⟨i,by omega,hb,rfl⟩,rfl⟩
  ·rintro⟨u,hu,rfl⟩;obtain⟨i,_,hb,rfl⟩:=GZ.1 hu;have hi:=Hp (H0 h.hJ a) hb;exact⟨ρ i,by have:=h.lt i hi;omega,(h.ag a _).2 ⟨i,hi,rfl,hb⟩,rfl⟩
 unfold Hw;rw [List.map_flatMap];refine(hb.flatMap_right _).trans ?_;rw [List.flatMap_map];exact LS fun m hm=>h.paths Y [m] m (O m hm)
def rl(ρ:Nat→Nat)(l:Int×Int):Int×Int:=(l.1,rn ρ l.2)
theorem T2{ρ:Nat→Nat}{K:BE}:Ey (K.map (rl ρ))=Ey K:=by
 unfold Ey;rw [List.getLast?_map];cases K.getLast? <;> rfl
theorem C9.RH{n:Nat}{ρ:Nat→Nat}{J X:JW}(h:C9 n ρ J X){V:BE}(K:B5 n V):B5 n (V.map (rl ρ)) where
 len:=by rw [List.length_map];exact K.len
 yr:=fun l O=>by obtain⟨l,U,rfl⟩:=List.mem_map.1 O;exact K.yr l U
 sn:=fun l O=>by
  obtain⟨l,U,rfl⟩:=List.mem_map.1 O;have W:=K.sn l U;have:=h.lt l.2.toNat (by omega);simp only [rl,rn];omega
 Gr:=by rw [List.pairwise_map];exact K.Gr
theorem C9.Rz{n:Nat}{ρ:Nat→Nat}{J X:JW}(h:C9 n ρ J X){m:Int}{l:Int×Int}(hm:0≤m∧m<(n:Int))(K:0≤l.2∧l.2<(n:Int)):EW X (rn ρ m) (rl ρ l)=EW J m l:=by
 rw [Bool.eq_iff_iff,O8,O8];have e:rn ρ m=rn ρ l.2↔m=l.2:=⟨J5 h.inj hm K,fun e=>by rw [e]⟩;have f:rn ρ l.2∈X.2.getD (ρ m.toNat) []↔l.2∈J.2.getD m.toNat []:=by
  rw [h.fl m.toNat (by omega)];constructor
  ·rintro⟨u,hu,O⟩;rw [← J5 h.inj ((h.hJ.Jq m.toNat).inr u hu) K O];exact hu
  ·intro hu;exact⟨_,hu,rfl⟩
 exact or_congr e f
theorem C9.UR{n:Nat}{ρ:Nat→Nat}{J X:JW}(h:C9 n ρ J X){K:BE}(W:B5 n K){p:List Int}(Y:∀(y:Nat) m,p[y]? =some m→0≤m∧m<(n:Int)):
  pick X (K.map (rl ρ)) (p.map (rn ρ))=(pick J K p).map fun x=>(x.1.map (rn ρ),x.2):=by
 have hs:Ko X (K.map (rl ρ)) (p.map (rn ρ))=Ko J K p:=by
  rw [Bool.eq_iff_iff,JH,JH];constructor
  ·intro H l O m hm;have:=H (rl ρ l) (List.mem_map_of_mem O) (rn ρ m) (by rw [List.getElem?_map];show(p[l.1.toNat]?).map _=_;rw [hm];rfl);rw [h.Rz (Y _ _ hm) (W.sn l O)] at this;exact this
  ·intro H ae ah m' ab;obtain⟨l,O,rfl⟩:=List.mem_map.1 ah;rw [List.getElem?_map] at ab;obtain⟨m,hm,rfl⟩:=Option.map_eq_some_iff.1 ab;rw [h.Rz (Y _ _ hm) (W.sn l O)];exact H l O m hm
 have ai:F7 (K.map (rl ρ)) 0 (p.map (rn ρ))=F7 K 0 p:=by
  refine Nat.eq_of_testBit_eq fun i=>Bool.eq_iff_iff.2 ?_;rw [NA,NA];constructor
  ·rintro⟨ae,U,q,m',V,Z,aa⟩;rw [List.getElem?_map] at U V;obtain⟨l,aj,rfl⟩:=Option.map_eq_some_iff.1 U;obtain⟨m,g2,rfl⟩:=Option.map_eq_some_iff.1 V;exact⟨l,aj,q,m,g2,Z,fun e=>aa (by rw [e];rfl)⟩
  ·rintro⟨l,U,q,m,V,Z,aa⟩;refine⟨rl ρ l,by rw [List.getElem?_map,U];rfl,q,rn ρ m,by rw [List.getElem?_map,V];rfl,Z,fun e=>aa ?_⟩;exact J5 h.inj (Y _ _ V) (W.sn l (List.mem_of_getElem? U)) e
 unfold pick;rw [hs,ai];split <;> rfl
def rt(ρ:Nat→Nat)(t:Cu):Cu:=(t.1,t.2.1.map (rn ρ),t.2.2)
theorem C9.ta{n:Nat}{ρ:Nat→Nat}{J X:JW}(h:C9 n ρ J X){K:BE}(O:B5 n K)(a:Nat):(TA X (K.map (rl ρ)) a).Perm ((TA J K a).map (rt ρ)):=by
 rw [QV h.hX (h.RH O),QV h.hJ O,T2,List.map_map];refine(((h.W4 (Ey K) a).filterMap _).map _).trans ?_;rw [List.filterMap_map];have e:(Hw J (Ey K) a).filterMap (pick X (K.map (rl ρ))∘List.map (rn ρ))=((Hw J (Ey K) a).filterMap (pick J K)).map fun x=>(x.1.map (rn ρ),x.2):=by
  rw [List.map_filterMap];exact O1 fun p U=>h.UR O fun y m hm=>((T6 h.hJ).1 U).2.range h.hJ y m hm
 rw [e,List.map_map];exact List.Perm.refl _
theorem C9.tt{n:Nat}{ρ:Nat→Nat}{J X:JW}(h:C9 n ρ J X){K:BE}(O:B5 n K):(TT X (K.map (rl ρ))).Perm ((TT J K).map (rt ρ)):=by
 unfold TT;rw [List.map_flatMap];exact LS fun a _=>h.ta O a
theorem C9.nil{n:Nat}{ρ:Nat→Nat}{J X:JW}(h:C9 n ρ J X){K:BE}(O:B5 n K):TT X (K.map (rl ρ))= []↔TT J K= []:=by
 rw [← List.length_eq_zero_iff,← List.length_eq_zero_iff,(h.tt O).length_eq,List.length_map]
theorem C9.least{n:Nat}{ρ:Nat→Nat}{J X:JW}(h:C9 n ρ J X){K:BE}(O:B5 n K){k:Nat}(U:Hv J K k):Hv X (K.map (rl ρ)) k:=by
 obtain⟨⟨t,ht,V⟩,W⟩:=U;refine⟨⟨rt ρ t,(h.tt O).mem_iff.2 (List.mem_map_of_mem ht),V⟩,fun u hu=>?_⟩;obtain⟨v,Y,rfl⟩:=List.mem_map.1 ((h.tt O).mem_iff.1 hu);exact W v Y
theorem C9.Oa{n:Nat}{ρ:Nat→Nat}{J X:JW}(h:C9 n ρ J X){K:BE}(O:B5 n K)(k:Nat):(DV X (K.map (rl ρ)) k).Perm ((DV J K k).map (rt ρ)):=by
 unfold DV;refine((h.tt O).filter _).trans ?_;rw [List.filter_map];exact List.Perm.refl _
theorem C9.bits{n:Nat}{ρ:Nat→Nat}{J X:JW}(h:C9 n ρ J X){K:BE}(O:B5 n K)(k p:Nat):((DV X (K.map (rl ρ)) k).filter fun t=>t.2.2.testBit p).length=((DV J K k).filter fun t=>t.2.2.testBit p).length:=by
 rw [((h.Oa O k).filter _).length_eq,List.filter_map,List.length_map]
 rfl
theorem C9.FL{n:Nat}{ρ:Nat→Nat}{J X:JW}(h:C9 n ρ J X){K:BE}(V:B5 n K)(p:Nat):Pal.FL X (K.map (rl ρ)) p=Pal.FL J K p:=by
 unfold Pal.FL;congr 1;refine List.filter_congr fun a _=>?_;rw [Bool.eq_iff_iff,List.any_eq_true,List.any_eq_true];constructor
 ·rintro⟨t,ht,O⟩;obtain⟨v,U,rfl⟩:=List.mem_map.1 ((h.ta V a).mem_iff.1 ht);exact⟨v,U,O⟩
 ·rintro⟨v,U,O⟩;exact⟨rt ρ v,(h.ta V a).mem_iff.2 (List.mem_map_of_mem U),O⟩
end Pal
namespace Pal
theorem Ra{F:Nat}{l:List Int}{x:Int}(ae:100<F)(ah:l.length<50)(U:l.Pairwise (·<·)):A0 (f42 F l x) (fun r=>r.Pairwise (·<·)∧∀z,z∈r↔z∈l∨z=x):=by
 unfold f42;refine AS (S:=fun out=>∃i,i≤l.length∧out=l.take i∧(∀z∈l.take i,z<x)∧∀z∈l.drop i,¬z<x) ?_ ?_
 ·refine Lt (fun m s=>∃i,i≤l.length∧m=l.length - i∧s=(l.take i,(i:Int))∧∀z∈l.take i,z<x) ?_ (m:=l.length - 0) ⟨0,by omega,rfl,rfl,by simp⟩ (by omega);rintro m s ⟨i,hi,rfl,rfl,V⟩;unfold NQ;by_cases O:i<l.length
  ·refine AW (b:=decide (l[i]<x)) ?_ ?_
   ·simp only;rw [if_pos (by omega),WO O];rfl
   refine Cc (fun h=>?_) (fun h=>?_)
   ·refine BN (m:=i) rfl O (Hl (by simp;omega) ?_);refine A9 ((i+1:Nat):Int) (by simp) (by omega) (by omega) ?_;have e:l.take (i+1)=l.take i++ [l[i]]:=by rw [List.take_add_one,List.getElem?_eq_getElem O];rfl
    refine Aq ⟨l.length - (i+1),by omega,i+1,by omega,rfl,by rw [e],fun z K=>?_⟩;rw [e] at K;rcases List.mem_append.1 K with K | K
    ·exact V z K
    ·simp at K;rw [K];simpa using h
   ·refine Aq ⟨i,hi,rfl,V,fun z K=>?_⟩;have aa:¬l[i]<x:=by simpa using h
    rw [List.drop_eq_getElem_cons O] at K;rcases List.mem_cons.1 K with rfl | K
    ·exact aa
    ·have Y:(l.drop i).Pairwise (·<·):=U.sublist (List.drop_sublist _ _);rw [List.drop_eq_getElem_cons O] at Y;have:=(List.pairwise_cons.1 Y).1 z K;omega
  ·refine AW (b:=false) ?_ ?_
   ·simp only;rw [if_neg (by omega)]
   refine Br (by simp) (Aq ⟨i,hi,rfl,V,fun z K=>?_⟩);rw [List.drop_eq_nil_of_le (by omega)] at K;cases K
 ·rintro out ⟨i,hi,rfl,Z,ab⟩;refine Hl (by simp;omega) (AS (S:=fun r=>r=l.take i++ [x]++l.filter (fun z=>decide (x<z))) ?_ ?_)
  ·refine C5 l.length (fun j s=>s=(l.take i++ [x]++(l.take j).filter (fun z=>decide (x<z)),(j:Int))) (by simp) (by omega) ?_ ?_
   ·rintro j s W rfl;unfold Mg;refine Ci (by simp only;omega) (BN (m:=j) rfl W ?_);have e:l.take (j+1)=l.take j++ [l[j]]:=by rw [List.take_add_one,List.getElem?_eq_getElem W];rfl
    refine AS (S:=fun r=>r=l.take i++ [x]++(l.take (j+1)).filter (fun z=>decide (x<z))) ?_ ?_
    ·refine Cc (fun h=>?_) (fun h=>?_)
     ·refine BN (m:=j) rfl W (Hl ?_ ?_)
      ·have:=List.length_filter_le (fun z=>decide (x<z)) (l.take j);simp only [List.length_append,List.length_take,List.length_singleton] at this ⊢;omega
      refine Aq ?_;rw [e,List.filter_append];simp [h]
     ·refine Aq ?_;rw [e,List.filter_append];simp [h]
    ·rintro r rfl;exact A9 ((j+1:Nat):Int) (by simp) (by omega) (by omega) (Aq rfl)
   ·rintro s rfl;unfold Mg;refine Br (by simp) (Aq ⟨_,rfl,?_⟩);rw [List.take_length]
  ·rintro r rfl;refine Aq ⟨?_,fun z=>?_⟩
   ·rw [List.pairwise_append,List.pairwise_append];refine⟨⟨U.sublist (List.take_sublist _ _),by simp,fun a h b K=>?_⟩,U.sublist List.filter_sublist,fun a h b K=>?_⟩
    ·simp at K;rw [K];exact Z a h
    ·have hb:x<b:=by simpa using (List.mem_filter.1 K).2
     rcases List.mem_append.1 h with h | h
     ·have:=Z a h;omega
     ·simp at h;omega
   ·rw [List.mem_append,List.mem_append,List.mem_singleton,List.mem_filter,decide_eq_true_iff];constructor
    ·rintro((h | h) | h)
     ·exact .inl (List.mem_of_mem_take h)
     ·exact .inr h
     ·exact .inl h.1
    ·rintro(h | h)
     ·rcases Int.lt_trichotomy z x with K | K | K
      ·rw [← List.take_append_drop i l] at h;rcases List.mem_append.1 h with h | h
       ·exact .inl (.inl h)
       ·exact absurd K (ab z h)
      ·exact .inl (.inr K)
      ·exact .inr ⟨h,K⟩
     ·exact .inl (.inr h)
end Pal
namespace Pal
open Go Go.Conc Go.Proofs Go.Extern
section
variable {s:St}{X:Halt→St→Prop}
end
end Pal
namespace Pal
open Go Go.Conc
section
variable {P:Program}{J:Judge P}{Q:Gs_}{b:Frame}{n:Nat}{ds:Ld_}{ops:Ao_}{k:Li_}{cs:Lf_}{m fuel:Nat}{D:Nat→Bool}{listed:Array Bool}{L:Env}{s:St}{E E' H:LH}{S:List Seg}
variable {d:Option Tmp}{x y:Operand}{t u ty e:TypeId}{p:String}{af:Ae_}{g:On_}{v:Value}{i:Nat}{kd:IntKind}
theorem AQ.perm{S':List Seg}(K:S.flatten.Perm S'.flatten)(O:As E H S)(h:As E H S'→AQ J Q b n ds ops k cs m D fuel listed L (Ak E H S')):AQ J Q b n ds ops k cs m D fuel listed L (Ak E H S):=by
 have e:Ak E H S=Ak E H S':=EI O K;rw [e];exact h (Nd.perm O K)
end
end Pal
namespace Pal
open Go Go.Conc
section
variable {P:Program}{J:Judge P}{Q:Gs_}{b:Frame}{n:Nat}{L:Env}{ds:Ld_}{k:Li_}{cs:Lf_}{s:St}{ops:Ao_}{i:Nat}{rest:List Nat}{v:Value}
variable {d:Option Tmp}{x:Operand}{ty:TypeId}{p:String}{af:Ae_}{g:On_}
end
end Pal
namespace Pal
open Go Go.Conc Go.Proofs Go.Extern
variable {J:Judge Tryz.prog}{E:LH}
end Pal
namespace Pal
open Go Go.Conc Go.Proofs
open Go.Proofs.Tryz
variable {J:Judge Tryz.prog}{E:LH}
end Pal
namespace Pal
open Go Go.Conc Go.Proofs
open Go.Proofs.Tryz
end Pal
namespace Pal
open Go Go.Conc Go.Proofs
open Go.Proofs.Tryz
end Pal
namespace Pal
open Go Go.Conc Go.Proofs
open Go.Proofs.Tryz
end Pal
namespace Pal
theorem Iv{f:Nat→Option Int}{n:Nat}(K:∀q,q<n→f q=none):(List.range n).findSome? f=none:=List.findSome?_eq_none_iff.2 fun q O=>K q (List.mem_range.1 O)
end Pal
namespace Pal
theorem Wu{F:Nat}{l:List Int}(K:100<F)(O:l.length≤20):f32 F l l=some true:=by
 refine Eh ?_;unfold f32;refine AS (S:=fun q=>q=Sum.inr ()) ?_ (by rintro q rfl;exact Aq (by simp));refine C5 l.length (fun i s=>s=(i:Int)) rfl (by omega) ?_ ?_
 ·rintro i s hi rfl;unfold Mf;refine AS (S:=fun c=>c=true) (Ci (by omega) (Aq (decide_eq_true (by omega)))) ?_;rintro c rfl;refine Ci rfl (BN (m:=i) rfl hi ?_);refine BN (m:=i) rfl hi (Br (by simp) ?_);exact A9 ((i+1:Nat):Int) (by simp) (by omega) (by omega) (Aq rfl)
 ·rintro s rfl;unfold Mf;refine AS (S:=fun c=>c=false) (Br (by omega) (Aq rfl)) ?_;rintro c rfl;exact Br (by simp) (Aq ⟨_,rfl,rfl⟩)
end Pal
namespace Pal
theorem Wp{F:Nat}{K:List (Int×Int)}(O:K.length<1000):f27 F K=some K:=by
 unfold f27 DC;rw [if_pos (by simp;omega)]
 rfl
end Pal
namespace Pal
open Go Go.Conc Go.Proofs
open Go.Proofs.Tryz
variable {J:Judge Tryz.prog}{E:LH}
end Pal
namespace Pal
open Go Go.Conc Go.Proofs
open Go.Proofs.Tryz
end Pal
namespace Pal
open Go Go.Conc
theorem I7{P:Program}{J:Judge P}{Q:Gs_}{b:Frame}{n:Nat}{ds:Ld_}{ops:Ao_}{k:Li_}{cs:Lf_}{m fuel:Nat}{D:Nat→Bool}{listed:Array Bool}{L L':Env}{s:St}(k':AQ J Q b n ds ops k cs m D fuel listed L' s)(h:GG L L'=GJ L'):AQ J Q b n ds ops k cs m D fuel listed L s:=DM (Mi h) k'
instance {α:Type} [DecidableEq α] (xs:List α):Decidable (xs= []):=inferInstance
section
variable {P:Program}{J:Judge P}{Q:Gs_}{b:Frame}{n:Nat}{L L':Env}{ds:Ld_}{k:Li_}{cs:Lf_}{s:St}{ops:Ao_}{E H:LH}{S:List Seg}{i:Nat}{rest:List Nat}
variable {d:Option Tmp}{x y:Operand}{t u ty e:TypeId}{p:String}{af:Ae_}{g:On_}{v w:Value}
end
section
variable {P:Program}{J:Judge P}{Q:Gs_}{b:Frame}{n:Nat}{ds:Ld_}{ops:Ao_}{k:Li_}{cs:Lf_}{m fuel:Nat}{listed:Array Bool}{L:Env}{E H:LH}{S:List Seg}
variable {d:Option Tmp}{x y:Operand}{t ty e:TypeId}{p:String}{af:Ae_}{g:On_}{v:Value}{i:Nat}
theorem Ub{s:St}{D:Nat→Bool}{i j l:Nat}(K:s.q=false)(O:Region.ready .any ops listed= [i,j,l])(hi:Take J Q b n ds ops k cs m D fuel listed L s i)(U:Take J Q b n ds ops k cs m D fuel listed L s j)(V:Take J Q b n ds ops k cs m D fuel listed L s l):AQ J Q b n ds ops k cs m D (fuel+1) listed L s:=
 MY K O (by simp) (by intro q K;simp at K;rcases K with rfl | rfl | rfl <;> assumption)
end
end Pal
namespace Pal
open Go Go.Conc
section
variable {P:Program}{J:Judge P}{Q:Gs_}{b:Frame}{n:Nat}{ds:Ld_}{ops:Ao_}{k:Li_}{cs:Lf_}{m fuel:Nat}{D:Nat→Bool}{listed:Array Bool}{L:Env}{E H:LH}{S:List Seg}
theorem JM{S1 S':List Seg}(K:S=S1)(O:S1.Perm S')(U:As E H S)(h:As E H S'→AQ J Q b n ds ops k cs m D fuel listed L (Ak E H S')):AQ J Q b n ds ops k cs m D fuel listed L (Ak E H S):=by
 subst K;exact AQ.perm O.flatten U h
end
end Pal
namespace Pal
open Go Go.Conc Go.Proofs
open Go.Proofs.Tryz
variable {J:Judge Tryz.prog}{E:LH}
def MB(fuel:Nat)(p0:AT):Option ((AT)):= (DC ([]:AT) p0).bind fun K=> some K
theorem Wr{K:Ao}{c2:Nat}{p0:AT}(W:An By E K c2 p0){fuel:Nat}{r:(AT)}(O:MB fuel p0=some r):AR J 27 [sV K p0 c2] E [] (fun w E' B'=>∃(U:Ao) (V:Nat) (g0:Seg),w= sV U r V∧B'=g0∧OL 27 By E' U V g0 r):=by
 refine Bg func27 fun Q an cs H Y Z=>?_;unfold MB at O;refine zg 6 rfl (Nt (pp:=By) rfl rfl rfl underlying25 CF Y fun ao ap aa ab=>?_);obtain⟨aq,ae,ah⟩:=bs O;refine zg 1 rfl (Ns (pp:=By) 1 ae rfl rfl rfl rfl rfl rfl rfl underlying25 underlying25 CF (Cs type27) FC rfl (by decide) (by decide) aa W ab rfl fun ai aj ak al am=>?_);refine zg 2 rfl ?_;obtain rfl:=oi ah;exact AP func27 rfl rfl (Z Ap rfl ⟨ai,aj,ak,rfl,(by first | rfl | simp | (simp [Value.cells])),al⟩ am)
end Pal
namespace Pal
open Go Go.Conc
section
variable {P:Program}{J:Judge P}{Q:Gs_}{b:Frame}{n:Nat}{L L':Env}{ds:Ld_}{k:Li_}{cs:Lf_}{s:St}{ops:Ao_}{E H:LH}{S:List Seg}{i:Nat}{rest:List Nat}
variable {d:Option Tmp}{x y:Operand}{t u ty e e2:TypeId}{p:String}{af:Ae_}{g:On_}{v w:Value}
abbrev rs(q:Nat×Obj)(K:Seg)(p:Nat×Obj)(g2:Seg):Seg:=q::(K++ [p]++g2)
end
end Pal
namespace Pal
open Go Go.Conc
section
variable {P:Program}{E H:LH}{S:List Seg}{t e:TypeId}
theorem Us{K:Next→St→Prop}{α:Type}{pp:Rp α}{z:Value}{W:α}{m:Int}{xs:List α}(V:ID m W=some xs)
  (ht:P.underlying t=some (.slice e)) (ah:Bs P e=some pp.n) {U:Nat} (hb:Ed P e=some U) (au:U≤64) (ai:zeroOf P e=some z) (av:0<pp.n) (Y:pp.r E z.cells.toList W) (aj:As E H S)
  (h:∀r seg,OL e pp E (some ⟨r,0,none⟩) xs.length seg xs→As E H (S++ [seg])→K (.value (.slice (some ⟨r,0,none⟩) xs.length xs.length)) (Ak E H (S++ [seg]))):
  lp P (do pure (Next.value (← Instr.makeSlice t (iV m) (iV m)))) (Ak E H S) K (fun _ _=>False):=by
 unfold ID at V;split at V
 rotate_left
 ·cases V
 rename_i hm;cases V;refine AF _ _ ?_;unfold Instr.makeSlice;refine AF _ _ (Dh ht ?_);simp only [asInt,GY];obtain⟨inf,ak,al⟩:=Lj hb;refine AF (x:=typeInfo e) _ (HJ ak ?_);simp only [al,Ij (show -9223372036854775808≤m∧m≤9223372036854775807 by omega)];have aw:(U:Int)*m≤64*2 ^ 20:=by
  have Z:(U:Int)*m≤64*m:=Int.mul_le_mul_of_nonneg_right (by omega) hm.1;omega
 have am:((decide (m<0) || decide ((U:Int)*m>2 ^ 48)) || decide (m<0) || decide (m>m))=false:=by
  simp only [Bool.or_eq_false_iff,decide_eq_false_iff_not];omega
 rw [am];simp only [Bool.false_eq_true,if_false];refine AF (x:=askRoom _) _ ?_;have an:∀{Q:Unit→St→Prop} {X:Halt→St→Prop} (w:Nat),Q () (Ak E H S)→lp P (askRoom w) (Ak E H S) Q X:=by
  intro Q X w aa;unfold askRoom;split
  ·exact⟨.inl ⟨rfl,rfl⟩,aa⟩
  ·exact aa
 refine an _ (AF (x:=Go.sizeOf e) _ (EG ah ?_));have ab:z.cells.size=pp.n:=by simpa using pp.len Y
 have fin:∀O:Ay,((Array.range (m.toNat*pp.n)).map (O[· % O.size]!)).toList=(List.replicate m.toNat z.cells.toList).flatten→lp P (do let a ← newRow e ((Array.range (m.toNat*pp.n)).map (O[· % O.size]!));pure (Value.slice (some a) m.toNat m.toNat)) (Ak E H S) (fun a s'=>lp P (pure (Next.value a)) s' K (fun _ _=>False)) (fun _ _=>False):=by
  intro O ao;refine AF _ _ (G1 aj fun r ae=>?_);rw [(Ew ae).1];have ay:((Array.range (m.toNat*pp.n)).map (O[· % O.size]!)).size=m.toNat*pp.n:=by simp
  have:=h r _ ⟨List.replicate m.toNat z.cells.toList,.inr ⟨r,_,rfl,rfl,by simp,by simp,by
   rw [ao,List.take_of_length_le (by rw [MU];simp [ab])]⟩,by simp,fun i y us ap hu=>by
    have:=List.mem_of_getElem? ap;have aq:=List.eq_of_mem_replicate this
    have:=List.mem_of_getElem? hu;have e2:=List.eq_of_mem_replicate this
    subst aq e2;exact Y⟩ (Ew ae).2
  simp only [List.length_replicate] at this;exact this
 split
 ·rename_i ar;have Z:m.toNat=0:=by rcases Nat.mul_eq_zero.1 ar with h | h <;> omega
  exact fin #[] (by simp [Z])
 ·refine AF (x:=zeroValue e) _ (FU ai ?_);refine fin z.cells ?_;rw [← ab];exact Ul z.cells (by omega) _
end
section
variable {P:Program}{J:Judge P}{Q:Gs_}{b:Frame}{n:Nat}{ds:Ld_}{ops:Ao_}{k:Li_}{cs:Lf_}{m fuel:Nat}{D:Nat→Bool}{listed:Array Bool}{L:Env}{s:St}{E E' H:LH}{S:List Seg}
variable {d:Option Tmp}{x y:Operand}{t u ty e e2:TypeId}{p:String}{af:Ae_}{g:On_}{v:Value}{i:Nat}{kd:IntKind}
theorem Take.Hb{α:Type}{pp:Rp α}{z:Value}{O:α}{K:Int}{xs:List α}(W:As E H S)(Y:ID K O=some xs)
  (Z:ops[i]? =some ⟨d,.makeSlice t x y,ty,p,af,g⟩) (hw:A8 L ops ⟨d,.makeSlice t x y,ty,p,af,g⟩=some true) (aa:Bt n d=true)
  (ab:ev L x=some (iV K)) (ae:ev L y=some (iV K)) (ht:P.underlying t=some (.slice e)) (ah:Bs P e=some pp.n) {U:Nat} (hb:Ed P e=some U) (ai:U≤64) (aj:zeroOf P e=some z) (ak:0<pp.n) (al:pp.r E z.cells.toList O)
  (h:∀r seg,OL e pp E (some ⟨r,0,none⟩) xs.length seg xs→As E H (S++ [seg])→AQ J Q b n ds ops k cs m D3 fuel (A6 listed i) (AB L d (.slice (some ⟨r,0,none⟩) xs.length xs.length)) (Ak E H (S++ [seg]))):
  Take J Q b n ds ops k cs m D3 fuel listed L (Ak E H S) i:=
 Take.KD Z (by simp [Db,aa]) hw fun ρ V=>by
  rw [Td,V x _ ab,V y _ ae]
  exact Us Y ht ah hb ai aj ak al W h
end
end Pal
namespace Pal
open Go Go.Conc Go.Proofs
open Go.Proofs.Tryz
def Ke(fuel:Nat)(O:(List Int)×(BF))(K:(List Int)×Int):Option (Bj ((List Int)×Int) ((List Int))):= if K.2<(O.1.length:Int) then((ix O.1 K.2).bind fun U=> (Au (U+1)).bind fun V=> (room K.1 V).bind fun W=> (Au (K.2+1)).bind fun Y=> some (.more (W,Y))) else(some (.done K.1))
def Ka(fuel:Nat)(V:(BH)×(BF))(W:(List Int))(O:(List (List Int))×(List (List Int))×Int)(K:(List (List Int))×Int):Option (Bj ((List (List Int))×Int) ((List (List Int)))):= (ix V.1.1 O.2.2).bind fun Y=> if K.2<(Y.length:Int) then((ix W O.2.2).bind fun U=> (ix K.1 U).bind fun Z=> (ix V.1.1 O.2.2).bind fun aa=> (ix aa K.2).bind fun ab=> (ix W ab).bind fun ae=> (f42 fuel Z ae).bind fun ah=> (ix K.1 U).bind fun aj=> (Au (K.2+1)).bind fun ai=> some (.more ((K.1.set (Int.toNat U) ah),ai))) else(some (.done K.1))
def J7(fuel:Nat)(V:(BH)×(BF))(W:(List Int))(O:(List (List Int))×(List (List Int))×Int)(K:(List (List Int))×Int):Option (Bj ((List (List Int))×Int) ((List (List Int)))):= (ix V.1.2 O.2.2).bind fun Y=> if K.2<(Y.length:Int) then((ix W O.2.2).bind fun U=> (ix K.1 U).bind fun Z=> (ix V.1.2 O.2.2).bind fun aa=> (ix aa K.2).bind fun ab=> (ix W ab).bind fun ae=> (f42 fuel Z ae).bind fun ah=> (ix K.1 U).bind fun aj=> (Au (K.2+1)).bind fun ai=> some (.more ((K.1.set (Int.toNat U) ah),ai))) else(some (.done K.1))
def Kb(fuel:Nat)(U:(BH)×(BF))(O:(List Int))(K:(List (List Int))×(List (List Int))×Int):Option (Bj ((List (List Int))×(List (List Int))×Int) BH):= if K.2.2<(O.length:Int) then(Option.bind (iter (Ka fuel U O K) fuel (K.1,0)) fun V=> Option.bind (iter (J7 fuel U O K) fuel (K.2.1,0)) fun W=> (Au (K.2.2+1)).bind fun Y=> some (.more (V,W,Y))) else(some (.done (K.1,K.2.1)))
def Kc(fuel:Nat)(O:(AT)×(BF))(U:(List Int))(K:(AT)×Int):Option (Bj ((AT)×Int) ((AT))):= if K.2<(K.1.length:Int) then((ix O.1 K.2).bind fun V=> (ix U V.2).bind fun W=> (ix K.1 K.2).bind fun Y=> (Au (K.2+1)).bind fun Z=> some (.more ((K.1.set (Int.toNat K.2) (Y.1,W)),Z))) else(some (.done K.1))
def Mb(fuel:Nat)(W:(BH)×(BF))(O:(AT)×(BF))(Y:BH)(Z:(AT))(K:Int):Option (Bj Int ((Bool)⊕(Unit))):= if K<(O.1.length:Int) then((f49 fuel W.1 O.1 K).bind fun U=> (f49 fuel Y Z K).bind fun V=> Option.bind (if U.1≠V.1 then(some true) else(some (decide (U.2≠V.2)))) fun aa=> if aa=true then(some (.done (Sum.inl false))) else((Au (K+1)).bind fun ab=> some (.more ab))) else(some (.done (Sum.inr ())))
def Ma(fuel:Nat)(V:(BH)×(BF))(W:(AT)×(BF))(Y:BH)(Z:(AT))(K:Int):Option (Bj Int ((Bool)⊕(Unit))):= if K≤4 then((f43 fuel V.1 W.1 K).bind fun O=> (f43 fuel Y Z K).bind fun U=> Option.bind (if O.2≠U.2 then(some true) else((f32 fuel O.1 U.1).bind fun aa=> some (!aa))) fun ab=> if ab=true then(some (.done (Sum.inl false))) else((Au (K+1)).bind fun ae=> some (.more ae))) else(some (.done (Sum.inr ())))
def f12(fuel:Nat)(p0:List Int):Option Bool:= (f23 fuel p0).bind fun ae=> (f39 fuel ae 7).bind fun K=> (f40 fuel K.2 K.1 4).bind fun O=> (Au ((K.1.1.length:Int) - 1)).bind fun ah=> (f56 fuel O.2 ah).bind fun ai=> Option.bind (iter (Ke fuel ai) fuel (([0]:List Int),0)) fun U=> (ID (U.length:Int) ([]:List Int)).bind fun aj=> (ID (U.length:Int) ([]:List Int)).bind fun ak=> Option.bind (iter (Kb fuel K U) fuel (aj,ak,0)) fun V=> (MB fuel O.1).bind fun al=> Option.bind (iter (Kc fuel O U) fuel (al,0)) fun W=> (f47 fuel K.1 O.1).bind fun Y=> (f47 fuel V W).bind fun Z=> (f28 fuel K.1 O.1).bind fun aa=> (f28 fuel V W).bind fun ab=> Option.bind (if Y.1≠Z.1 then(some true) else(some (decide (Y.2≠Z.2)))) fun am=> Option.bind (if am=true then(some true) else(if Y.2≠0 then(some (decide (Y.2≠11))) else(some false))) fun an=> Option.bind (if an=true then(some true) else(some (decide (aa.2≠0)))) fun ao=> Option.bind (if ao=true then(some true) else(some (decide (ab.2≠0)))) fun ap=> Option.bind (if ap=true then(some true) else(some (decide (aa.1≠ab.1)))) fun aq=> if aq=true then(some false) else(Option.bind (iter (Mb fuel K O V W) fuel 0) fun ar=> Sum.elim (fun r=>some r) (fun aw=> Option.bind (iter (Ma fuel K O V W) fuel 0) fun au=> Sum.elim (fun r=>some r) (fun ay=> (f22 fuel).bind fun av=> some av) au) ar)
set_option maxHeartbeats 4000000 in
theorem Vk{E H:LH}{dl:Ao}{c2:Nat}{p0:List Int}(eR:An rI E dl c2 p0){fuel:Nat}{r:Bool}(dm:f12 fuel p0=some r):(Dt Tryz.prog).ok (JY Tryz.prog (fun v _=>v= .bool r)) (G (Frame.enter Tryz.prog 12 ([sV dl p0 c2]:Lv_).toArray .normal) []) (mk E H []):=by
 refine S4 func12 rfl rfl (Nat.le_of_ble_eq_true rfl) ?_;have eS:As E H [[]]:=trivial;unfold f12 at dm;obtain⟨me,eT,eU⟩:=bs dm;refine zg 7 rfl (BM (W9 eR eT) rfl rfl (A5 func23 rfl) eS ?_);rintro _ mf _ mg ⟨dn,mh,mi,rfl,rfl,eV⟩ eW;obtain⟨bh,eX,eY⟩:=bs eU;refine zg 5 rfl (BS 1 (Xf eV eX) rfl rfl (A5 func39 rfl) eW rfl ?_);rintro _ mj _ ml ⟨dp,dq,dr,dt,eZ,e0,rfl,rfl,bi,bj,e1⟩ e3;refine Cz e3 EP fun U e4=>?_;refine BR (S':= [[],[(dn,.cells #[sV eZ bh.2.1 e0,iV bh.2.2.1,.int .u64 ((bh.2.2.2:Nat):Int)] 92 (0,0))],[(U,.cells #[nS,nS] 24 (0,0))]]) rfl e4 fun e5=>BJ 2 e5 Cb fun e6=>?_;refine C4 2 e6 rfl fun mm aI aV e7=>zg 4 rfl (Cd aV Cv Cb rfl rfl ?_);obtain⟨V,e8,e9⟩:=bs eY;refine BS 1 (WV (e1.Ai aI) (bi.Ai aI) (bj.Ai aI) e8) rfl rfl (A5 func40 rfl) e7 rfl ?_;rintro _ mn _ am ⟨aa,ab,fa,fb,rfl,rfl,bA,fc⟩ fd;refine zg 4 rfl (JS.lit (pp:=rI) [iV 0] [0] rfl rfl rfl underlying28 AU Cp (by decide) rfl rfl rfl ⟨rfl,trivial⟩ fd fun fe du ff fg=>?_);refine BR (S':= [[],[(dn,.cells #[sV fa V.2.1 fb,iV V.2.2.1,.int .u64 ((V.2.2.2:Nat):Int)] 92 (0,0))],[],du]) rfl fg fun fh=>zg 5 rfl (JL.fl 0 (aV.Ai am) underlying24 Cq Da ?_);refine BA underlying22 rfl rfl rfl ?_;obtain⟨mo,fj,fk⟩:=bs e9;refine BX fj rfl rfl rfl ?_;obtain⟨fm,fo,fp⟩:=bs fk;refine BS 1 (W2 fc fo) rfl rfl (A5 func56 rfl) fh rfl ?_;rintro _ cJ _ W ⟨fq,fs,mp,mq,rfl,rfl,fu,mr⟩ fv;obtain⟨aq,fw,fx⟩:=bs fp;refine zg 7 rfl (Bu (fun L s=>∃(cK:LH) (an:Ao) (ao:Nat) (cM:Seg),Jn cJ H cK [cM] [(4,pV U 0),(5,sV aa V.1 ab),(6,sV an aq ao)] L s (OL 3 rI cK an ao cM aq)) ?_ ?_)
 ·rintro _ _ ⟨cK,an,ao,cM,rfl,rfl,Y,fy,fz⟩;refine JL.seq (Cf 0 fz fy rfl fun bl Z bm fA=>?_);refine BR (S':= [[]]) rfl fA fun cN=>EV 8 fun ht=>Cm 0 ht rfl rfl (Bv 1 ht rfl rfl (fun ρ h s' hs=>Yl.len rfl underlying28 (h _ _ rfl)) ?_);refine Cm 3 ht rfl rfl (Bv 4 ht rfl rfl (fun ρ h s' hs=>Yl.len rfl underlying28 (h _ _ rfl)) ?_);obtain⟨av,bF,fB⟩:=bs fx;obtain⟨aw,bG,fC⟩:=bs fB;refine FX 1 #[true,true,true,true,true,true,true,true,false] (fun L s=>∃(bn:LH) (bH:Nat) (bI:Seg) (bJ:Nat) (bK:Seg) (K:Nat),Jn bl H bn [[],bI,bK,bX K #[nS,nS] 24] [(4,pV U 0),(5,sV aa V.1 ab),(6,sV an aq ao),(9,pV K 0),(67,.agg #[.slice (AV bH) av.length av.length,.slice (AV bJ) aw.length aw.length])] L s (OL 28 (rL rI) bn (AV bH) av.length bI av∧OL 28 (rL rI) bn (AV bJ) aw.length bK aw)) ?_ ?_
  ·rintro _ _ ⟨bn,bH,bI,bJ,bK,K,rfl,rfl,O,fD,fE,fF⟩;refine Cy [8] (BJ 3 fD Cb fun fG=>?_);refine BR (S':= [[],bI,bK,[(K,.cells #[.slice (AV bH) av.length av.length,.slice (AV bJ) aw.length aw.length] 24 (0,0))]]) rfl fG fun fH=>?_;obtain⟨aN,fI,fJ⟩:=bs fC;refine zg 6 rfl (Bu (fun L s=>∃(b7:LH) (bo:Ao) (bp:Nat) (bB:Seg) (bq:Ao) (br:Nat) (bu:Seg),Jn bn H b7 [bX K #[sV bo aN.1 bp,sV bq aN.2 br] 24,bB,bu] [(4,pV U 0),(5,sV aa V.1 ab),(6,sV an aq ao),(9,pV K 0)] L s (OL 28 (rL rI) b7 bo bp bB aN.1∧OL 28 (rL rI) b7 bq br bu aN.2)) ?_ ?_)
   ·rintro _ _ ⟨b7,bo,bp,bB,bq,br,bu,rfl,rfl,ay,fK,fL,fM⟩;obtain⟨ms,fN,fO⟩:=bs fJ;refine zg 3 rfl (BM (Wr (bA.Ai ((((W.Ab Y).Ab Z).Ab O).Ab ay)) fN) rfl rfl (A5 func27 rfl) fK ?_);rintro _ cO fP ar ⟨fQ,fR,_,rfl,rfl,fS⟩ fT;obtain⟨aO,fU,fW⟩:=bs fO;refine zg 7 rfl (Bu (fun L s=>∃(cP:LH) (aL:Ao) (aM:Nat) (bL:Seg),Jn cO H cP [bX K #[sV bo aN.1 bp,sV bq aN.2 br] 24,bB,bu,bL] [(4,pV U 0),(5,sV aa V.1 ab),(9,pV K 0),(13,sV aL aO aM)] L s (OL 27 By cP aL aM bL aO)) ?_ ?_)
    ·rintro _ _ ⟨cP,aL,aM,bL,rfl,rfl,az,fX,fY⟩;refine JL.seq (Cf 1 (fL.Ai (ar.Ab az)) fX rfl fun mv aA b8 fZ=>?_);refine BR (S':= [[(K,.cells #[sV bo aN.1 bp,sV bq aN.2 br] 24 (0,0))],[],bu,bL]) rfl fZ fun ga=>Cf 2 (fM.Ai ((ar.Ab az).Ab aA)) ga rfl fun mw ap b9 gb=>C4 0 gb rfl fun my ae ca gc=>JL.region (Cd (aV.Ai ((((((((((am.Ab W).Ab Y).Ab Z).Ab O).Ab ay).Ab ar).Ab az).Ab aA).Ab ap).Ab ae)) Cv Cb rfl rfl ?_);obtain⟨gd,ge,gf⟩:=bs fW;refine zg 1 rfl (BI (Rl (bi.Ai (((((((((((aI.Ab am).Ab W).Ab Y).Ab Z).Ab O).Ab ay).Ab ar).Ab az).Ab aA).Ab ap).Ab ae)) (bj.Ai (((((((((((aI.Ab am).Ab W).Ab Y).Ab Z).Ab O).Ab ay).Ab ar).Ab az).Ab aA).Ab ap).Ab ae)) (bA.Ai (((((((((W.Ab Y).Ab Z).Ab O).Ab ay).Ab ar).Ab az).Ab aA).Ab ap).Ab ae)) ge) rfl rfl (A5 func47 rfl) gc fun mz ah gg=>?_);refine BR (S':= [[],[],[],bL,[]]) rfl gg fun gh=>zg 8 rfl (Cd (ca.Ai ah) Cv Cb rfl rfl ?_);refine zg 1 rfl (Cf 3 (fY.Ai (((aA.Ab ap).Ab ae).Ab ah)) gh rfl fun mB ak cb gi=>?_);obtain⟨mC,gj,gk⟩:=bs gf;refine BI (Rl (b8.Ai (((ap.Ab ae).Ab ah).Ab ak)) (b9.Ai ((ae.Ab ah).Ab ak)) cb gj) rfl rfl (A5 func47 rfl) gi fun mD ai gl=>zg 8 rfl (Cd (aV.Ai (((((((((((((am.Ab W).Ab Y).Ab Z).Ab O).Ab ay).Ab ar).Ab az).Ab aA).Ab ap).Ab ae).Ab ah).Ab ak).Ab ai)) Cv Cb rfl rfl ?_);obtain⟨bC,gm,gn⟩:=bs gk;refine zg 1 rfl (BI (N7 (bi.Ai ((((((((((((((aI.Ab am).Ab W).Ab Y).Ab Z).Ab O).Ab ay).Ab ar).Ab az).Ab aA).Ab ap).Ab ae).Ab ah).Ab ak).Ab ai)) (bj.Ai ((((((((((((((aI.Ab am).Ab W).Ab Y).Ab Z).Ab O).Ab ay).Ab ar).Ab az).Ab aA).Ab ap).Ab ae).Ab ah).Ab ak).Ab ai)) (bA.Ai ((((((((((((W.Ab Y).Ab Z).Ab O).Ab ay).Ab ar).Ab az).Ab aA).Ab ap).Ab ae).Ab ah).Ab ak).Ab ai)) gm) rfl rfl MN gl fun mE au gp=>?_);refine BR (S':= [[],[],[],[],[],[],[]]) rfl gp fun gq=>zg 8 rfl (Cd (ca.Ai (((ah.Ab ak).Ab ai).Ab au)) Cv Cb rfl rfl ?_);obtain⟨bv,gr,gt⟩:=bs gn;refine zg 1 rfl (BI (N7 (b8.Ai (((((ap.Ab ae).Ab ah).Ab ak).Ab ai).Ab au)) (b9.Ai ((((ae.Ab ah).Ab ak).Ab ai).Ab au)) (cb.Ai (ai.Ab au)) gr) rfl rfl MN gq fun mF aB dv=>?_);obtain⟨gu,gv,gw⟩:=bs gt;refine zg 13 rfl (C7 8 21 [] [(4,pV U 0),(5,sV aa V.1 ab),(9,pV K 0),(13,sV aL aO aM),(16,iV gd.2),(19,iV bC.1),(20,iV bC.2),(21,iV bv.1),(22,iV bv.2),(199,.bool gu)] (fun mG aC cQ=>?_) (fun dw=>?_))
     ·obtain⟨gx,gy,gz⟩:=bs gw;refine zg 1 rfl (C7 16 13 [] [(4,pV U 0),(5,sV aa V.1 ab),(9,pV K 0),(13,sV aL aO aM),(19,iV bC.1),(20,iV bC.2),(21,iV bv.1),(22,iV bv.2),(207,.bool gx)] (fun mH aD dx=>?_) (fun cR=>?_))
      ·obtain⟨gA,gB,gC⟩:=bs gz;refine zg 1 rfl (C7 20 9 [] [(4,pV U 0),(5,sV aa V.1 ab),(9,pV K 0),(13,sV aL aO aM),(19,iV bC.1),(21,iV bv.1),(22,iV bv.2),(211,.bool gA)] (fun mI aE dy=>?_) (fun dz=>?_))
       ·obtain⟨gD,gE,gF⟩:=bs gC;refine zg 1 rfl (C7 24 5 [] [(4,pV U 0),(5,sV aa V.1 ab),(9,pV K 0),(13,sV aL aO aM),(19,iV bC.1),(21,iV bv.1),(215,.bool gD)] (fun cT aF dA=>?_) (fun dB=>?_))
        ·obtain⟨gG,gH,gI⟩:=bs gF;refine zg 1 rfl (FG [] (fun L s=>∃(cV:LH),Jm cT H cV [] [(4,pV U 0),(5,sV aa V.1 ab),(9,pV K 0),(13,sV aL aO aM),(220,.bool gG)] L s) ?_ ?_)
         ·rintro _ _ ⟨cV,rfl,rfl,aG,gJ⟩;refine JL.done (BP gI (fun gK gL=>?_) (fun gK gM=>?_))
          ·refine zg 4 rfl ?_;obtain rfl:=oi gL;exact GA rfl (JO.end (v:= .bool false) rfl (by decide+kernel) func12 rfl rfl rfl)
          ·obtain⟨dC,gN,dD⟩:=bs gM;refine zg 6 rfl (Bu (fun L s=>∃(dE:Unit) (cW:LH),dC=Sum.inr dE∧Jm cV H cW [] [(4,pV U 0),(5,sV aa V.1 ab),(9,pV K 0),(13,sV aL aO aM)] L s) ?_ ?_)
           ·rintro _ _ ⟨dE,cW,rfl,rfl,rfl,a9,gO⟩;have gP:=elim_inr dD;obtain⟨dF,gQ,dG⟩:=bs gP;refine zg 5 rfl (Bu (fun L s=>∃(dH:Unit) (dI:LH),dF=Sum.inr dH∧Jm cW H dI [] [] L s) ?_ ?_)
            ·rintro _ _ ⟨dH,dI,rfl,rfl,rfl,mJ,gR⟩;have gS:=elim_inr dG;obtain⟨gT,gU,gV⟩:=bs gS;refine zg 2 rfl (BI (Xk gU) rfl rfl (A5 func22 rfl) gR fun mK mL mM=>?_);refine zg 2 rfl ?_;obtain rfl:=oi gV;exact GA rfl (JO.end (v:= .bool gT) rfl (by decide+kernel) func12 rfl rfl rfl)
            ·intro gW;refine JL.block (CC gQ (fun cc=> []) (fun cc=> [(4,pV U 0),(5,sV aa V.1 ab),(9,pV K 0),(13,sV aL aO aM),(28,iV cc)]) Ap gO ?_);rintro cc gX aW dJ dK ⟨mN,cd⟩ gY;have dL:=cd;unfold Ma at dL;refine zg 6 rfl (AX dL (fun gZ g0=>?_) (fun gZ g1=>?_))
             ·refine zg 5 rfl (Cd (aV.Ai ((((((((((((((((((((((am.Ab W).Ab Y).Ab Z).Ab O).Ab ay).Ab ar).Ab az).Ab aA).Ab ap).Ab ae).Ab ah).Ab ak).Ab ai).Ab au).Ab aB).Ab aC).Ab aD).Ab aE).Ab aF).Ab aG).Ab a9).Ab aW)) Cv Cb rfl rfl ?_);obtain⟨mO,g3,g4⟩:=bs g0;refine zg 2 rfl (BM (NU (bi.Ai (((((((((((((((((((((((aI.Ab am).Ab W).Ab Y).Ab Z).Ab O).Ab ay).Ab ar).Ab az).Ab aA).Ab ap).Ab ae).Ab ah).Ab ak).Ab ai).Ab au).Ab aB).Ab aC).Ab aD).Ab aE).Ab aF).Ab aG).Ab a9).Ab aW)) (bj.Ai (((((((((((((((((((((((aI.Ab am).Ab W).Ab Y).Ab Z).Ab O).Ab ay).Ab ar).Ab az).Ab aA).Ab ap).Ab ae).Ab ah).Ab ak).Ab ai).Ab au).Ab aB).Ab aC).Ab aD).Ab aE).Ab aF).Ab aG).Ab a9).Ab aW)) (bA.Ai (((((((((((((((((((((W.Ab Y).Ab Z).Ab O).Ab ay).Ab ar).Ab az).Ab aA).Ab ap).Ab ae).Ab ah).Ab ak).Ab ai).Ab au).Ab aB).Ab aC).Ab aD).Ab aE).Ab aF).Ab aG).Ab a9).Ab aW)) g3) rfl rfl ML dJ ?_);rintro _ mP _ bM ⟨mQ,mR,rfl,rfl,g5⟩ g6;refine zg 8 rfl (Cd (ca.Ai ((((((((((((ah.Ab ak).Ab ai).Ab au).Ab aB).Ab aC).Ab aD).Ab aE).Ab aF).Ab aG).Ab a9).Ab aW).Ab bM)) Cv Cb rfl rfl ?_);obtain⟨mS,g7,g8⟩:=bs g4;refine zg 2 rfl (BM (NU (b8.Ai ((((((((((((((ap.Ab ae).Ab ah).Ab ak).Ab ai).Ab au).Ab aB).Ab aC).Ab aD).Ab aE).Ab aF).Ab aG).Ab a9).Ab aW).Ab bM)) (b9.Ai (((((((((((((ae.Ab ah).Ab ak).Ab ai).Ab au).Ab aB).Ab aC).Ab aD).Ab aE).Ab aF).Ab aG).Ab a9).Ab aW).Ab bM)) (cb.Ai ((((((((((ai.Ab au).Ab aB).Ab aC).Ab aD).Ab aE).Ab aF).Ab aG).Ab a9).Ab aW).Ab bM)) g7) rfl rfl ML g6 ?_);rintro _ dM _ dN ⟨mT,mU,rfl,rfl,g9⟩ ha;refine BR (S':= [[],[]]) rfl ha fun dO=>?_;obtain⟨hb,hc,hd⟩:=bs g8;refine zg 12 rfl (FG [] (fun L s=>∃(dP:LH),Jm dM H dP [] [(4,pV U 0),(5,sV aa V.1 ab),(9,pV K 0),(13,sV aL aO aM),(28,iV cc),(275,.bool hb)] L s) ?_ ?_)
              ·rintro _ _ ⟨dP,rfl,rfl,he,hf⟩;refine JL.done (BP hd (fun hg hj=>?_) (fun hg hk=>?_))
               ·refine zg 4 rfl ?_;obtain rfl:=oi hj;obtain rfl:=dK _ cd;have hl:=elim_inl dG;obtain rfl:=oi hl;exact GA rfl (JO.end (v:= .bool false) rfl (by decide+kernel) func12 rfl rfl rfl)
               ·obtain⟨hm,hn,ho⟩:=bs hk;refine zg 4 rfl (Bh hn rfl rfl rfl ?_);refine zg 2 rfl ?_;obtain rfl:=oi ho;exact gY hm (((aW.Ab bM).Ab dN).Ab he) hf rfl cd
              ·intro dQ;refine Ex 270 hc (fun hp hq=>?_) (fun hp hr=>?_)
               ·refine zg 5 rfl ?_;obtain rfl:=oi hq;exact Az (dQ _ _ ⟨dM,rfl,rfl,Ap,dO⟩) rfl
               ·obtain⟨hu,hv,hw⟩:=bs hr;refine zg 2 rfl (BI (Mo (g5.Ai dN) g9 hv) rfl rfl K7 dO fun hx hy hz=>?_);refine AA (v:= .bool (!hu)) rfl (fun ρ h=>Yl.not (h _ _ rfl)) (zg 1 rfl ?_);obtain rfl:=oi hw;exact Az (dQ _ _ ⟨hx,rfl,rfl,hy,hz⟩) rfl
             ·refine JL.exit rfl ?_;obtain rfl:=oi g1;have hA:dF=(Sum.inr ()):=(dK _ cd).symm;exact Az (gW _ _ ⟨(),gX,hA,rfl,rfl,aW,dJ⟩) rfl
           ·intro hB;refine JL.block (CC gN (fun ce=> []) (fun ce=> [(4,pV U 0),(5,sV aa V.1 ab),(9,pV K 0),(13,sV aL aO aM),(23,iV ce)]) Ap gJ ?_);rintro ce hC aX dR dS ⟨mV,cf⟩ hD;have dT:=cf;unfold Mb at dT;refine zg 5 rfl (BA underlying25 rfl rfl rfl ?_);refine zg 2 rfl (AX dT (fun hE hF=>?_) (fun hE hG=>?_))
            ·refine zg 5 rfl (Cd (aV.Ai (((((((((((((((((((((am.Ab W).Ab Y).Ab Z).Ab O).Ab ay).Ab ar).Ab az).Ab aA).Ab ap).Ab ae).Ab ah).Ab ak).Ab ai).Ab au).Ab aB).Ab aC).Ab aD).Ab aE).Ab aF).Ab aG).Ab aX)) Cv Cb rfl rfl ?_);obtain⟨mW,hH,hI⟩:=bs hF;refine zg 2 rfl (BI (NW (bi.Ai ((((((((((((((((((((((aI.Ab am).Ab W).Ab Y).Ab Z).Ab O).Ab ay).Ab ar).Ab az).Ab aA).Ab ap).Ab ae).Ab ah).Ab ak).Ab ai).Ab au).Ab aB).Ab aC).Ab aD).Ab aE).Ab aF).Ab aG).Ab aX)) (bj.Ai ((((((((((((((((((((((aI.Ab am).Ab W).Ab Y).Ab Z).Ab O).Ab ay).Ab ar).Ab az).Ab aA).Ab ap).Ab ae).Ab ah).Ab ak).Ab ai).Ab au).Ab aB).Ab aC).Ab aD).Ab aE).Ab aF).Ab aG).Ab aX)) (bA.Ai ((((((((((((((((((((W.Ab Y).Ab Z).Ab O).Ab ay).Ab ar).Ab az).Ab aA).Ab ap).Ab ae).Ab ah).Ab ak).Ab ai).Ab au).Ab aB).Ab aC).Ab aD).Ab aE).Ab aF).Ab aG).Ab aX)) hH) rfl rfl MO dR fun mX bN hK=>?_);refine zg 8 rfl (Cd (ca.Ai (((((((((((ah.Ab ak).Ab ai).Ab au).Ab aB).Ab aC).Ab aD).Ab aE).Ab aF).Ab aG).Ab aX).Ab bN)) Cv Cb rfl rfl ?_);obtain⟨mY,hL,hM⟩:=bs hI;refine zg 2 rfl (BI (NW (b8.Ai (((((((((((((ap.Ab ae).Ab ah).Ab ak).Ab ai).Ab au).Ab aB).Ab aC).Ab aD).Ab aE).Ab aF).Ab aG).Ab aX).Ab bN)) (b9.Ai ((((((((((((ae.Ab ah).Ab ak).Ab ai).Ab au).Ab aB).Ab aC).Ab aD).Ab aE).Ab aF).Ab aG).Ab aX).Ab bN)) (cb.Ai (((((((((ai.Ab au).Ab aB).Ab aC).Ab aD).Ab aE).Ab aF).Ab aG).Ab aX).Ab bN)) hL) rfl rfl MO hK fun cX hN hO=>?_);refine BR (S':= [[],[]]) rfl hO fun dU=>?_;obtain⟨hP,hQ,hR⟩:=bs hM;refine zg 12 rfl (FG [] (fun L s=>∃(dV:LH),Jm cX H dV [] [(4,pV U 0),(5,sV aa V.1 ab),(9,pV K 0),(13,sV aL aO aM),(23,iV ce),(248,.bool hP)] L s) ?_ ?_)
             ·rintro _ _ ⟨dV,rfl,rfl,hS,hT⟩;refine JL.done (BP hR (fun hU hV=>?_) (fun hU hW=>?_))
              ·refine zg 4 rfl ?_;obtain rfl:=oi hV;obtain rfl:=dS _ cf;have hY:=elim_inl dD;obtain rfl:=oi hY;exact GA rfl (JO.end (v:= .bool false) rfl (by decide+kernel) func12 rfl rfl rfl)
              ·obtain⟨hZ,h0,h1⟩:=bs hW;refine zg 4 rfl (Bh h0 rfl rfl rfl ?_);refine zg 2 rfl ?_;obtain rfl:=oi h1;exact hD hZ (((aX.Ab bN).Ab hN).Ab hS) hT rfl cf
             ·intro dW;refine Ex 244 hQ (fun h2 h3=>?_) (fun h2 h4=>?_)
              ·refine zg 4 rfl ?_;obtain rfl:=oi h3;exact Az (dW _ _ ⟨cX,rfl,rfl,Ap,dU⟩) rfl
              ·refine zg 4 rfl ?_;obtain rfl:=oi h4;exact Az (dW _ _ ⟨cX,rfl,rfl,Ap,dU⟩) rfl
            ·refine JL.exit rfl ?_;obtain rfl:=oi hG;have h5:dC=(Sum.inr ()):=(dS _ cf).symm;exact Az (hB _ _ ⟨(),hC,h5,rfl,rfl,aX,dR⟩) rfl
         ·intro dX;refine Dz 216 gH (fun h6 h7=>?_) (fun h6 h8=>?_)
          ·refine zg 4 rfl ?_;obtain rfl:=oi h7;exact Az (dX _ _ ⟨cT,rfl,rfl,Ap,dA⟩) rfl
          ·refine zg 4 rfl ?_;obtain rfl:=oi h8;exact Az (dX _ _ ⟨cT,rfl,rfl,Ap,dA⟩) rfl
        ·refine Dz 212 gE (fun h9 ia=>?_) (fun h9 ic=>?_)
         ·refine zg 3 rfl ?_;obtain rfl:=oi ia;exact dB Ap dy rfl
         ·refine zg 3 rfl ?_;obtain rfl:=oi ic;exact dB Ap dy rfl
       ·refine Dz 208 gB (fun ie ig=>?_) (fun ie ih=>?_)
        ·refine zg 3 rfl ?_;obtain rfl:=oi ig;exact dz Ap dx rfl
        ·refine zg 3 rfl ?_;obtain rfl:=oi ih;exact dz Ap dx rfl
      ·refine Dz 200 gy (fun ii ij=>?_) (fun ii ik=>?_)
       ·refine zg 7 rfl ?_;obtain rfl:=oi ij;exact cR Ap cQ rfl
       ·refine zg 3 rfl (Ex 203 ik (fun il io=>?_) (fun il iq=>?_))
        ·refine zg 4 rfl ?_;obtain rfl:=oi io;exact cR Ap cQ rfl
        ·refine zg 4 rfl ?_;obtain rfl:=oi iq;exact cR Ap cQ rfl
     ·refine Ex 195 gv (fun ir it=>?_) (fun ir iu=>?_)
      ·refine zg 4 rfl ?_;obtain rfl:=oi it;exact dw Ap dv rfl
      ·refine zg 4 rfl ?_;obtain rfl:=oi iu;exact dw Ap dv rfl
    ·intro iv;refine JL.block (CM fU (fun L s al=>∃(bO:LH) (ba:Ao) (bb:Nat) (cg:Seg),Jn cO H bO [bX K #[sV bo aN.1 bp,sV bq aN.2 br] 24,bB,bu,cg] [(4,pV U 0),(5,sV aa V.1 ab),(6,sV an aq ao),(9,pV K 0),(13,sV ba al.1 bb),(14,iV al.2)] L s (OL 27 By bO ba bb cg al.1)) ⟨cO,fQ,fR,fP,rfl,rfl,Ap,fT,fS⟩ ?_);rintro _ _ al ⟨bO,ba,bb,cg,rfl,rfl,ci,dY,dZ⟩ iw ⟨mZ,cY⟩ iy;have ea:=cY;unfold Kc at ea;refine zg 5 rfl (BA underlying25 rfl rfl rfl ?_);refine zg 2 rfl (AX ea (fun iz iA=>?_) (fun iz iB=>?_))
     ·obtain⟨iC,iD,iE⟩:=bs iA;refine zg 9 rfl (Cj (bA.Ai ((((((W.Ab Y).Ab Z).Ab O).Ab ay).Ab ar).Ab ci)) iD underlying25 CF ?_);rintro eb ec _ ⟨_,_,rfl,rfl,rfl⟩ iF;refine JL.fl 1 iF underlying27 AU Bq ?_;obtain⟨aP,iG,iH⟩:=bs iE;refine Cj (bm.Ai (((O.Ab ay).Ab ar).Ab ci)) iG underlying28 AU ?_;rintro iI iJ _ rfl iK;refine B4 0 iK Bq rfl rfl rfl ?_;obtain⟨aQ,iL,iM⟩:=bs iH;refine Ir 3 dZ iL rfl rfl rfl rfl rfl rfl underlying25 CF ?_;rintro ck bP ed _ iN ⟨_,_,rfl,rfl,rfl⟩ iO ee iP m0 m1;refine Bz underlying27 AU rfl rfl rfl (JS.store (v:=iV aP) (off:=bP+1) 3 rfl rfl rfl dY rfl rfl AU (by simp [Value.cells,CK]) iN (by have:=ee;simp only [Rp.n,rK,rN,rB,rP,rL] at this;show _+1≤_;omega) fun ef=>?_);rw [OK (m:=1) (ws:= [iV aQ.1,iV aQ.2]) (vs:= [iV aQ.1,iV aP]) (by have:=ee;simp only [Rp.n,rK,rN,rB,rP,rL] at this;show _+2≤_;omega) iO rfl (Nat.le_of_ble_eq_true rfl)] at ef ⊢;have iQ:=iP ((aQ.1,aP)) [iV aQ.1,iV aP] ⟨_,_,rfl,rfl,rfl⟩;have cZ:(al.1.set (Int.toNat al.2) (aQ.1,aP)).length=al.1.length:=List.length_set;refine GD (L':= [(4,pV U 0),(5,.slice aa V.1.length ab),(6,.slice an aq.length ao),(9,pV K 0),(13,.slice ba ((al.1.set (Int.toNat al.2) (aQ.1,aP))).length bb),(14,iV al.2),(150,iV al.2),(151,.slice ba ((al.1.set (Int.toNat al.2) (aQ.1,aP))).length bb),(152,iV (al.1.length:Int)),(153,.bool (decide (al.2<(al.1.length:Int)))),(156,.slice ba ((al.1.set (Int.toNat al.2) (aQ.1,aP))).length bb),(157,iV al.2),(158,.slice an aq.length ao),(159,.slice aa V.1.length ab),(160,iV al.2),(161,pV eb ec),(162,pV eb (ec+1)),(163,iV iC.2),(164,pV iI iJ),(165,iV aP),(166,pV ck bP),(167,pV ck (bP+1))]) ⟨rfl,rfl,rfl,rfl,by rw [cZ];rfl,rfl,rfl,by rw [cZ];rfl,rfl,rfl,by rw [cZ];rfl,rfl,rfl,rfl,rfl,rfl,rfl,rfl,rfl,rfl,rfl,rfl,trivial⟩ ?_;refine BR (S':= [[(K,.cells #[sV bo aN.1 bp,sV bq aN.2 br] 24 (0,0))],bB,bu,[(ck,.cells (Ba ed bP [iV aQ.1,iV aP]) 27 (0,0))]]) rfl ef fun iR=>?_;obtain⟨iS,iT,iU⟩:=bs iM;refine zg 4 rfl (Bh iT rfl rfl rfl ?_);refine zg 2 rfl ?_;obtain rfl:=oi iU;exact Az (iy _ _ ((al.1.set (Int.toNat al.2) (aQ.1,aP)),iS) ⟨bO,ba,bb,[(ck,.cells (Ba ed bP [iV aQ.1,iV aP]) 27 (0,0))],rfl,rfl,ci,iR,iQ⟩ cY) rfl
     ·refine JL.exit rfl ?_;obtain rfl:=oi iB;obtain rfl:=iw _ cY;exact Az (iv _ _ ⟨bO,ba,bb,cg,rfl,rfl,ci,dY,dZ⟩) rfl
   ·intro iW;refine JL.block (JS.swap 1 3 rfl rfl rfl fH fun iX=>?_);refine JS.swap 2 3 rfl rfl rfl iX fun iY=>CM fI (fun L s aj=>∃(bc:LH) (bQ:Ao) (bR:Nat) (bS:Seg) (aZ:Ao) (a0:Nat) (a1:Seg),Jn bn H bc [bX K #[sV bQ aj.1 bR,sV aZ aj.2.1 a0] 24,bS,a1] [(4,pV U 0),(5,sV aa V.1 ab),(6,sV an aq ao),(9,pV K 0),(10,iV aj.2.2)] L s (OL 28 (rL rI) bc bQ bR bS aj.1∧OL 28 (rL rI) bc aZ a0 a1 aj.2.1)) ⟨bn,(AV bH),av.length,bI,(AV bJ),aw.length,bK,rfl,rfl,Ap,iY,fE,fF⟩ ?_;rintro _ _ aj ⟨bc,bQ,bR,bS,aZ,a0,a1,rfl,rfl,aH,eg,eh,ei⟩ iZ ⟨m2,c0⟩ i0;have ej:=c0;unfold Kb at ej;refine zg 5 rfl (BA underlying28 rfl rfl rfl ?_);refine zg 2 rfl (AX ej (fun i1 i3=>?_) (fun i1 i4=>?_))
    ·obtain⟨bw,i5,i6⟩:=bs i3;refine zg 8 rfl (Bu (fun L s=>∃(bD:LH) (bd:Ao) (be:Nat) (bf:Seg),Jn bc H bD [bX K #[sV bd bw be,sV aZ aj.2.1 a0] 24,a1,bf] [(4,pV U 0),(5,sV aa V.1 ab),(6,sV an aq ao),(9,pV K 0),(10,iV aj.2.2)] L s (OL 28 (rL rI) bD bd be bf bw)) ?_ ?_)
     ·rintro _ _ ⟨bD,bd,be,bf,rfl,rfl,a2,i7,i8⟩;obtain⟨c1,i9,ja⟩:=bs i6;refine zg 4 rfl (Bu (fun L s=>∃(cm:LH) (cn:Ao) (co:Nat) (cp:Seg),Jn bD H cm [bX K #[sV bd bw be,sV cn c1 co] 24,bf,cp] [(4,pV U 0),(5,sV aa V.1 ab),(6,sV an aq ao),(9,pV K 0),(10,iV aj.2.2)] L s (OL 28 (rL rI) cm cn co cp c1)) ?_ ?_)
      ·rintro _ _ ⟨cm,cn,co,cp,rfl,rfl,ek,jb,jc⟩;obtain⟨jd,je,jf⟩:=bs ja;refine zg 3 rfl (Bh je rfl rfl rfl ?_);refine zg 2 rfl ?_;obtain rfl:=oi jf;exact Az (i0 _ _ (bw,c1,jd) ⟨cm,bd,be,bf,cn,co,cp,rfl,rfl,((aH.Ab a2).Ab ek),jb,(i8.Ai ek),jc⟩ c0) rfl
      ·intro jg;refine JL.block (JS.swap 1 2 rfl rfl rfl i7 fun jh=>?_);refine CM i9 (fun L s aJ=>∃(cq:LH) (bT:Ao) (a3:Nat) (bU:Seg),Jn bD H cq [bX K #[sV bd bw be,sV bT aJ.1 a3] 24,bf,bU] [(4,pV U 0),(5,sV aa V.1 ab),(6,sV an aq ao),(9,pV K 0),(10,iV aj.2.2),(12,iV aJ.2)] L s (OL 28 (rL rI) cq bT a3 bU aJ.1)) ⟨bD,aZ,a0,a1,rfl,rfl,Ap,jh,(ei.Ai a2)⟩ ?_;rintro _ _ aJ ⟨cq,bT,a3,bU,rfl,rfl,a4,el,c3⟩ ji ⟨m3,c4⟩ jj;have em:=c4;unfold J7 at em;refine zg 4 rfl (JL.fl 1 (aV.Ai (((((((am.Ab W).Ab Y).Ab Z).Ab O).Ab aH).Ab a2).Ab a4)) underlying24 Cq Da ?_);obtain⟨c5,jk,jl⟩:=bs em;refine zg 1 rfl (Cj (bj.Ai ((((((((aI.Ab am).Ab W).Ab Y).Ab Z).Ab O).Ab aH).Ab a2).Ab a4)) jk underlying22 BL ?_);rintro jm jo _ ⟨jq,jr,rfl,m4⟩ js;refine B4 0 js Df rfl rfl rfl (BA underlying28 rfl rfl rfl ?_);refine zg 2 rfl (AX jl (fun jt ju=>?_) (fun jt jv=>?_))
       ·refine zg 3 rfl (BR (S':= [[(K,.cells #[sV bd bw be,sV bT aJ.1 a3] 24 (0,0))],bf,bU]) rfl el fun aR=>?_);obtain⟨a5,en,jw⟩:=bs ju;obtain⟨c6,eo,jx⟩:=bs jw;obtain⟨bx,m5,_,rfl,rfl,⟨c7,c8,rfl,jy⟩,jz⟩:=OL.Ry c3 eo;refine CY 26 [K,bx] ⟨⟨0,_,rfl⟩,⟨2,_,rfl⟩,trivial⟩ aR fun ht=>Ce 0 ht underlying24 Cq rfl rfl rfl rfl (D2 1 ht 1 0 aR Da ?_);refine Bn ht rfl [2,3] rfl (Ei 4 (bm.Ai (((O.Ab aH).Ab a2).Ab a4)) en ht underlying28 AU ?_);rintro jA jB _ rfl jC;refine JG.lp 5 ht 0 jC aR ⟨⟨0,_,rfl⟩,⟨2,_,rfl⟩,trivial⟩ Bq ?_;refine Ce 6 ht underlying24 Cq rfl rfl rfl rfl (D2 7 ht 1 0 aR Da ?_);refine Bn ht rfl [8,9] rfl (Ei 10 (bm.Ai (((O.Ab aH).Ab a2).Ab a4)) en ht underlying28 AU ?_);rintro jD jE _ rfl jF;refine JG.lp 11 ht 0 jF aR ⟨⟨0,_,rfl⟩,⟨2,_,rfl⟩,trivial⟩ Bq ?_;refine Bv (v:= .pointer (some ⟨bx,(Int.toNat (a5)*1),none⟩)) 12 ht rfl rfl (fun ρ h s' hs=>Nl eo underlying22 BL (h _ _ rfl) (h _ _ rfl)) (Bv (v:= sV c7 c6 c8) 13 ht rfl rfl (fun ρ h s' hs=>Yl.load Df (h _ _ rfl) (Il 2 aR rfl (by simp [AZ]) hs (jz 0 _ rfl))) ?_);refine Cm 14 ht rfl rfl (Ce 15 ht underlying24 Cq rfl rfl rfl rfl ?_);refine JG.lp 16 ht 1 (aV.Ai (((((((am.Ab W).Ab Y).Ab Z).Ab O).Ab aH).Ab a2).Ab a4)) aR ⟨⟨0,_,rfl⟩,⟨2,_,rfl⟩,trivial⟩ Da ?_;refine Cm 17 ht rfl rfl ?_;obtain⟨jG,jH,jI⟩:=bs jx;refine Ei 18 (bj.Ai ((((((((aI.Ab am).Ab W).Ab Y).Ab Z).Ab O).Ab aH).Ab a2).Ab a4)) jH ht underlying22 BL ?_;rintro jJ jK _ ⟨jL,jM,rfl,jN⟩ jO;refine JG.lp 19 ht 0 jO aR ⟨⟨0,_,rfl⟩,⟨2,_,rfl⟩,trivial⟩ Df ?_;refine Cm 20 ht rfl rfl ?_;obtain⟨jP,jQ,jR⟩:=bs jI;refine Ei 21 jN jQ ht underlying28 AU ?_;rintro jS jT _ rfl jU;refine JG.lp 22 ht 0 jU aR ⟨⟨0,_,rfl⟩,⟨2,_,rfl⟩,trivial⟩ Bq ?_;obtain⟨ep,jV,jW⟩:=bs jR;refine Ei 23 (bm.Ai (((O.Ab aH).Ab a2).Ab a4)) jV ht underlying28 AU ?_;rintro jX jY _ rfl jZ;refine JG.lp 24 ht 0 jZ aR ⟨⟨0,_,rfl⟩,⟨2,_,rfl⟩,trivial⟩ Bq ?_;obtain⟨aS,j0,j1⟩:=bs jW;refine Ly (i:=25) ⟨⟨0,_,rfl⟩,⟨2,_,rfl⟩,trivial⟩ (vs:= [sV c7 c6 c8,iV ep]) (Rf jy j0) (by decide+kernel) rfl rfl rfl (A5 func42 rfl) rfl aR ?_;rintro _ j2 _ eq ⟨bV,bW,rfl,rfl,j3⟩ j4;refine Cy [26,27] ?_;obtain⟨m6,j5,j6⟩:=bs j1;refine Ir 2 (c3.Ai eq) j5 rfl rfl rfl rfl rfl rfl underlying22 BL ?_;rintro c9 cr er _ j7 ⟨m7,m8,rfl,m9⟩ na j8 j9 nb nc;refine JS.store (v:= sV bV aS bW) (off:=cr) 2 rfl rfl rfl j4 rfl rfl BL (by simp [Value.cells,CK]) j7 (by have:=j8;simp only [Rp.n,rK,rN,rB,rP,rL] at this;show _+1≤_;omega) fun ka=>?_;have kb:=j9 aS [sV bV aS bW] ⟨_,_,rfl,j3⟩;have da:(aJ.1.set (Int.toNat a5) aS).length=aJ.1.length:=List.length_set;refine GD (L':= [(4,pV U 0),(5,.slice aa V.1.length ab),(6,.slice an aq.length ao),(9,pV K 0),(10,iV aj.2.2),(12,iV aJ.2),(111,iV aJ.2),(112,pV U 1),(113,.slice dr bh.1.2.length dt),(114,iV aj.2.2),(115,pV jm jo),(116,.slice jq c5.length jr),(117,iV (c5.length:Int)),(118,.bool (decide (aJ.2<(c5.length:Int)))),(121,pV K 1),(122,.slice (AV bx) ((aJ.1.set (Int.toNat a5) aS)).length a3),(123,.slice an aq.length ao),(124,iV aj.2.2),(125,pV jA jB),(126,iV a5),(127,pV K 1),(128,.slice (AV bx) ((aJ.1.set (Int.toNat a5) aS)).length a3),(129,.slice an aq.length ao),(130,iV aj.2.2),(131,pV jD jE),(132,iV a5),(133,.pointer (some ⟨bx,(Int.toNat (a5)*1),none⟩)),(134,.slice c7 c6.length c8),(135,.slice an aq.length ao),(136,pV U 1),(137,.slice dr bh.1.2.length dt),(138,iV aj.2.2),(139,pV jJ jK),(140,.slice jL jG.length jM),(141,iV aJ.2),(142,pV jS jT),(143,iV jP),(144,pV jX jY),(145,iV ep),(146,.slice bV aS.length bW),(147,pV c9 cr)]) ⟨rfl,rfl,rfl,rfl,rfl,rfl,rfl,rfl,rfl,rfl,rfl,rfl,rfl,rfl,rfl,by rw [da];rfl,rfl,rfl,rfl,rfl,rfl,by rw [da];rfl,rfl,rfl,rfl,rfl,rfl,rfl,rfl,rfl,rfl,rfl,rfl,rfl,rfl,rfl,rfl,rfl,rfl,rfl,rfl,trivial⟩ ?_;refine BR (S':= [[(K,.cells #[.slice bd bw.length be,.slice (AV bx) ((aJ.1.set (Int.toNat a5) aS)).length a3] 24 (0,0))],bf,[(c9,.cells (Ba er cr [.slice bV aS.length bW]) 28 (0,0))],[]]) (by rw [da] <;> rfl) ka fun kc=>?_;obtain⟨ke,kf,kg⟩:=bs j6;refine zg 4 rfl (Bh kf rfl rfl rfl ?_);refine zg 2 rfl ?_;obtain rfl:=oi kg;exact Az (jj _ _ ((aJ.1.set (Int.toNat a5) aS),ke) ⟨j2,(AV bx),a3,[(c9,.cells (Ba er cr [sV bV aS bW]) 28 (0,0))],rfl,rfl,(a4.Ab eq),kc,kb⟩ c4) rfl
       ·refine JL.exit rfl ?_;obtain rfl:=oi jv;obtain rfl:=ji _ c4;exact Az (jg _ _ ⟨cq,bT,a3,bU,rfl,rfl,a4,el,c3⟩) rfl
     ·intro kh;refine JL.block (JS.swap 1 2 rfl rfl rfl eg fun ki=>?_);refine CM i5 (fun L s aK=>∃(ct:LH) (bY:Ao) (a6:Nat) (bZ:Seg),Jn bc H ct [bX K #[sV bY aK.1 a6,sV aZ aj.2.1 a0] 24,a1,bZ] [(4,pV U 0),(5,sV aa V.1 ab),(6,sV an aq ao),(9,pV K 0),(10,iV aj.2.2),(11,iV aK.2)] L s (OL 28 (rL rI) ct bY a6 bZ aK.1)) ⟨bc,bQ,bR,bS,rfl,rfl,Ap,ki,eh⟩ ?_;rintro _ _ aK ⟨ct,bY,a6,bZ,rfl,rfl,a7,et,db⟩ kj ⟨nf,dc⟩ kl;have eu:=dc;unfold Ka at eu;refine zg 4 rfl (JL.fl 0 (aV.Ai ((((((am.Ab W).Ab Y).Ab Z).Ab O).Ab aH).Ab a7)) underlying24 Cq Da ?_);obtain⟨dd,km,kn⟩:=bs eu;refine zg 1 rfl (Cj (bi.Ai (((((((aI.Ab am).Ab W).Ab Y).Ab Z).Ab O).Ab aH).Ab a7)) km underlying22 BL ?_);rintro ko kp _ ⟨kq,kr,rfl,ng⟩ ks;refine B4 0 ks Df rfl rfl rfl (BA underlying28 rfl rfl rfl ?_);refine zg 2 rfl (AX kn (fun kt ku=>?_) (fun kt kv=>?_))
      ·refine zg 3 rfl (BR (S':= [[(K,.cells #[sV bY aK.1 a6,sV aZ aj.2.1 a0] 24 (0,0))],a1,bZ]) rfl et fun aT=>?_);obtain⟨a8,ew,kw⟩:=bs ku;obtain⟨de,ex,kx⟩:=bs kw;obtain⟨bz,nh,_,rfl,rfl,⟨df,dg,rfl,ky⟩,kz⟩:=OL.Ry db ex;refine CY 26 [K,bz] ⟨⟨0,_,rfl⟩,⟨2,_,rfl⟩,trivial⟩ aT fun ht=>Ce 0 ht underlying24 Cq rfl rfl rfl rfl (D2 1 ht 0 0 aT Da ?_);refine Bn ht rfl [2,3] rfl (Ei 4 (bm.Ai ((O.Ab aH).Ab a7)) ew ht underlying28 AU ?_);rintro kA kB _ rfl kC;refine JG.lp 5 ht 0 kC aT ⟨⟨0,_,rfl⟩,⟨2,_,rfl⟩,trivial⟩ Bq ?_;refine Ce 6 ht underlying24 Cq rfl rfl rfl rfl (D2 7 ht 0 0 aT Da ?_);refine Bn ht rfl [8,9] rfl (Ei 10 (bm.Ai ((O.Ab aH).Ab a7)) ew ht underlying28 AU ?_);rintro kD kF _ rfl kG;refine JG.lp 11 ht 0 kG aT ⟨⟨0,_,rfl⟩,⟨2,_,rfl⟩,trivial⟩ Bq ?_;refine Bv (v:= .pointer (some ⟨bz,(Int.toNat (a8)*1),none⟩)) 12 ht rfl rfl (fun ρ h s' hs=>Nl ex underlying22 BL (h _ _ rfl) (h _ _ rfl)) (Bv (v:= sV df de dg) 13 ht rfl rfl (fun ρ h s' hs=>Yl.load Df (h _ _ rfl) (Il 2 aT rfl (by simp [AZ]) hs (kz 0 _ rfl))) ?_);refine Cm 14 ht rfl rfl (Ce 15 ht underlying24 Cq rfl rfl rfl rfl ?_);refine JG.lp 16 ht 0 (aV.Ai ((((((am.Ab W).Ab Y).Ab Z).Ab O).Ab aH).Ab a7)) aT ⟨⟨0,_,rfl⟩,⟨2,_,rfl⟩,trivial⟩ Da ?_;refine Cm 17 ht rfl rfl ?_;obtain⟨kI,kJ,kK⟩:=bs kx;refine Ei 18 (bi.Ai (((((((aI.Ab am).Ab W).Ab Y).Ab Z).Ab O).Ab aH).Ab a7)) kJ ht underlying22 BL ?_;rintro kL kM _ ⟨kN,kO,rfl,kP⟩ kQ;refine JG.lp 19 ht 0 kQ aT ⟨⟨0,_,rfl⟩,⟨2,_,rfl⟩,trivial⟩ Df ?_;refine Cm 20 ht rfl rfl ?_;obtain⟨kR,kS,kT⟩:=bs kK;refine Ei 21 kP kS ht underlying28 AU ?_;rintro kU kV _ rfl kW;refine JG.lp 22 ht 0 kW aT ⟨⟨0,_,rfl⟩,⟨2,_,rfl⟩,trivial⟩ Bq ?_;obtain⟨ey,kX,kY⟩:=bs kT;refine Ei 23 (bm.Ai ((O.Ab aH).Ab a7)) kX ht underlying28 AU ?_;rintro kZ k0 _ rfl k1;refine JG.lp 24 ht 0 k1 aT ⟨⟨0,_,rfl⟩,⟨2,_,rfl⟩,trivial⟩ Bq ?_;obtain⟨aU,k2,k3⟩:=bs kY;refine Ly (i:=25) ⟨⟨0,_,rfl⟩,⟨2,_,rfl⟩,trivial⟩ (vs:= [sV df de dg,iV ey]) (Rf ky k2) (by decide+kernel) rfl rfl rfl (A5 func42 rfl) rfl aT ?_;rintro _ k4 _ ez ⟨b0,b1,rfl,rfl,k5⟩ k6;refine Cy [26,27] ?_;obtain⟨ni,k7,k8⟩:=bs k3;refine Ir 2 (db.Ai ez) k7 rfl rfl rfl rfl rfl rfl underlying22 BL ?_;rintro dh cu eA _ k9 ⟨nj,nk,rfl,nl⟩ nm la lb nn np;refine JS.store (v:= sV b0 aU b1) (off:=cu) 2 rfl rfl rfl k6 rfl rfl BL (by simp [Value.cells,CK]) k9 (by have:=la;simp only [Rp.n,rK,rN,rB,rP,rL] at this;show _+1≤_;omega) fun lc=>?_;have ld:=lb aU [sV b0 aU b1] ⟨_,_,rfl,k5⟩;have di:(aK.1.set (Int.toNat a8) aU).length=aK.1.length:=List.length_set;refine GD (L':= [(4,pV U 0),(5,.slice aa V.1.length ab),(6,.slice an aq.length ao),(9,pV K 0),(10,iV aj.2.2),(11,iV aK.2),(74,iV aK.2),(75,pV U 0),(76,.slice dp bh.1.1.length dq),(77,iV aj.2.2),(78,pV ko kp),(79,.slice kq dd.length kr),(80,iV (dd.length:Int)),(81,.bool (decide (aK.2<(dd.length:Int)))),(84,pV K 0),(85,.slice (AV bz) ((aK.1.set (Int.toNat a8) aU)).length a6),(86,.slice an aq.length ao),(87,iV aj.2.2),(88,pV kA kB),(89,iV a8),(90,pV K 0),(91,.slice (AV bz) ((aK.1.set (Int.toNat a8) aU)).length a6),(92,.slice an aq.length ao),(93,iV aj.2.2),(94,pV kD kF),(95,iV a8),(96,.pointer (some ⟨bz,(Int.toNat (a8)*1),none⟩)),(97,.slice df de.length dg),(98,.slice an aq.length ao),(99,pV U 0),(100,.slice dp bh.1.1.length dq),(101,iV aj.2.2),(102,pV kL kM),(103,.slice kN kI.length kO),(104,iV aK.2),(105,pV kU kV),(106,iV kR),(107,pV kZ k0),(108,iV ey),(109,.slice b0 aU.length b1),(110,pV dh cu)]) ⟨rfl,rfl,rfl,rfl,rfl,rfl,rfl,rfl,rfl,rfl,rfl,rfl,rfl,rfl,rfl,by rw [di];rfl,rfl,rfl,rfl,rfl,rfl,by rw [di];rfl,rfl,rfl,rfl,rfl,rfl,rfl,rfl,rfl,rfl,rfl,rfl,rfl,rfl,rfl,rfl,rfl,rfl,rfl,rfl,trivial⟩ ?_;refine BR (S':= [[(K,.cells #[.slice (AV bz) ((aK.1.set (Int.toNat a8) aU)).length a6,.slice aZ aj.2.1.length a0] 24 (0,0))],a1,[(dh,.cells (Ba eA cu [.slice b0 aU.length b1]) 28 (0,0))],[]]) (by rw [di] <;> rfl) lc fun lf=>?_;obtain⟨lg,lh,li⟩:=bs k8;refine zg 4 rfl (Bh lh rfl rfl rfl ?_);refine zg 2 rfl ?_;obtain rfl:=oi li;exact Az (kl _ _ ((aK.1.set (Int.toNat a8) aU),lg) ⟨k4,(AV bz),a6,[(dh,.cells (Ba eA cu [sV b0 aU b1]) 28 (0,0))],rfl,rfl,(a7.Ab ez),lf,ld⟩ dc) rfl
      ·refine JL.exit rfl ?_;obtain rfl:=oi kv;obtain rfl:=kj _ dc;exact Az (kh _ _ ⟨ct,bY,a6,bZ,rfl,rfl,a7,et,db⟩) rfl
    ·refine JL.exit rfl ?_;obtain rfl:=oi i4;obtain rfl:=iZ _ c0;exact Az (iW _ _ ⟨bc,bQ,bR,bS,aZ,a0,a1,rfl,rfl,aH,eg,eh,ei⟩) rfl
  ·intro bE;refine Ub (i:=2) (j:=5) (l:=7) rfl (by decide+kernel) ?_ ?_ ?_
   ·refine Take.Hb (pp:=(rL rI)) cN bF rfl rfl rfl rfl rfl underlying22 BL (Cs type28) (by decide) DL (by decide) ⟨_,_,rfl,An.nil⟩ fun cv cw eB eC=>Ix (i:=5) (j:=7) rfl (by decide+kernel) ?_ ?_
    ·refine Take.Hb (pp:=(rL rI)) eC bG rfl rfl rfl rfl rfl underlying22 BL (Cs type28) (by decide) DL (by decide) ⟨_,_,rfl,An.nil⟩ fun eD lj lk ll=>Bv (v:= .agg #[.slice (AV cv) av.length av.length,.slice (AV eD) aw.length aw.length]) 6 ht rfl rfl (fun ρ h s' hs=>CG [(0,1),(1,1)] h EP underlying24 ⟨rfl,Bf type22,rfl,Bf type22,trivial⟩ rfl rfl) (JG.one (i:=7) rfl (by decide+kernel) ?_);exact Take.Iy ll rfl rfl rfl EP fun lm ln=>I7 (bE _ _ ⟨bl,cv,cw,eD,lj,lm,rfl,rfl,Ap,ln,eB,lk⟩) rfl
    ·refine Take.Iy eC rfl rfl rfl EP fun cy lq=>JG.one (i:=5) rfl (by decide+kernel) (Take.Hb (pp:=(rL rI)) lq bG rfl rfl rfl rfl rfl underlying22 BL (Cs type28) (by decide) DL (by decide) ⟨_,_,rfl,An.nil⟩ fun eE cz lr ls=>?_);refine Bv (v:= .agg #[.slice (AV cv) av.length av.length,.slice (AV eE) aw.length aw.length]) 6 ht rfl rfl (fun ρ h s' hs=>CG [(0,1),(1,1)] h EP underlying24 ⟨rfl,Bf type22,rfl,Bf type22,trivial⟩ rfl rfl) (JM (S1:= [[],cw,[(cy,.cells #[nS,nS] 24 (0,0))],cz]) (S':= [[],cw,cz,[(cy,.cells #[nS,nS] 24 (0,0))]]) rfl ((((List.perm_middle (α:=Seg) (l₁:= [[(cy,.cells #[nS,nS] 24 (0,0))]]) (a:=cz) (l₂:= [])).trans ((List.Perm.refl _).cons _)).cons _).cons _) ls fun lu=>?_);exact I7 (bE _ _ ⟨bl,cv,cw,eE,cz,cy,rfl,rfl,Ap,lu,eB,lr⟩) rfl
   ·refine Take.Hb (pp:=(rL rI)) cN bG rfl rfl rfl rfl rfl underlying22 BL (Cs type28) (by decide) DL (by decide) ⟨_,_,rfl,An.nil⟩ fun cA bg eF eG=>Ix (i:=2) (j:=7) rfl (by decide+kernel) ?_ ?_
    ·refine Take.Hb (pp:=(rL rI)) eG bF rfl rfl rfl rfl rfl underlying22 BL (Cs type28) (by decide) DL (by decide) ⟨_,_,rfl,An.nil⟩ fun eH cB lw lx=>Bv (v:= .agg #[.slice (AV eH) av.length av.length,.slice (AV cA) aw.length aw.length]) 6 ht rfl rfl (fun ρ h s' hs=>CG [(0,1),(1,1)] h EP underlying24 ⟨rfl,Bf type22,rfl,Bf type22,trivial⟩ rfl rfl) (JG.one (i:=7) rfl (by decide+kernel) ?_);exact Take.Iy lx rfl rfl rfl EP fun cC ly=>JM (S1:= [[],bg,cB,[(cC,.cells #[nS,nS] 24 (0,0))]]) (S':= [[],cB,bg,[(cC,.cells #[nS,nS] 24 (0,0))]]) rfl (((List.perm_middle (α:=Seg) (l₁:= [bg]) (a:=cB) (l₂:= [[(cC,.cells #[nS,nS] 24 (0,0))]])).trans ((List.Perm.refl _).cons _)).cons _) ly fun lz=>I7 (bE _ _ ⟨bl,eH,cB,cA,bg,cC,rfl,rfl,Ap,lz,lw,eF⟩) rfl
    ·refine Take.Iy eG rfl rfl rfl EP fun cD lA=>JG.one (i:=2) rfl (by decide+kernel) (Take.Hb (pp:=(rL rI)) lA bF rfl rfl rfl rfl rfl underlying22 BL (Cs type28) (by decide) DL (by decide) ⟨_,_,rfl,An.nil⟩ fun eI cE lB lC=>?_);refine Bv (v:= .agg #[.slice (AV eI) av.length av.length,.slice (AV cA) aw.length aw.length]) 6 ht rfl rfl (fun ρ h s' hs=>CG [(0,1),(1,1)] h EP underlying24 ⟨rfl,Bf type22,rfl,Bf type22,trivial⟩ rfl rfl) (JM (S1:= [[],bg,[(cD,.cells #[nS,nS] 24 (0,0))],cE]) (S':= [[],cE,bg,[(cD,.cells #[nS,nS] 24 (0,0))]]) rfl (((List.perm_middle (α:=Seg) (l₁:= [bg,[(cD,.cells #[nS,nS] 24 (0,0))]]) (a:=cE) (l₂:= [])).trans ((List.Perm.refl _).cons _)).cons _) lC fun lD=>?_);exact I7 (bE _ _ ⟨bl,eI,cE,cA,bg,cD,rfl,rfl,Ap,lD,lB,eF⟩) rfl
   ·refine Take.Iy cN rfl rfl rfl EP fun aY eJ=>Ix (i:=2) (j:=5) rfl (by decide+kernel) ?_ ?_
    ·refine Take.Hb (pp:=(rL rI)) eJ bF rfl rfl rfl rfl rfl underlying22 BL (Cs type28) (by decide) DL (by decide) ⟨_,_,rfl,An.nil⟩ fun eK cF lE lF=>JG.one (i:=5) rfl (by decide+kernel) (Take.Hb (pp:=(rL rI)) lF bG rfl rfl rfl rfl rfl underlying22 BL (Cs type28) (by decide) DL (by decide) ⟨_,_,rfl,An.nil⟩ fun eL b2 lG lH=>?_);refine Bv (v:= .agg #[.slice (AV eK) av.length av.length,.slice (AV eL) aw.length aw.length]) 6 ht rfl rfl (fun ρ h s' hs=>CG [(0,1),(1,1)] h EP underlying24 ⟨rfl,Bf type22,rfl,Bf type22,trivial⟩ rfl rfl) (JM (S1:= [[],[(aY,.cells #[nS,nS] 24 (0,0))],cF,b2]) (S':= [[],cF,b2,[(aY,.cells #[nS,nS] 24 (0,0))]]) rfl (((List.perm_middle (α:=Seg) (l₁:= [[(aY,.cells #[nS,nS] 24 (0,0))]]) (a:=cF) (l₂:= [b2])).trans (((List.perm_middle (α:=Seg) (l₁:= [[(aY,.cells #[nS,nS] 24 (0,0))]]) (a:=b2) (l₂:= [])).trans ((List.Perm.refl _).cons _)).cons _)).cons _) lH fun lI=>?_);exact I7 (bE _ _ ⟨bl,eK,cF,eL,b2,aY,rfl,rfl,Ap,lI,lE,lG⟩) rfl
    ·refine Take.Hb (pp:=(rL rI)) eJ bG rfl rfl rfl rfl rfl underlying22 BL (Cs type28) (by decide) DL (by decide) ⟨_,_,rfl,An.nil⟩ fun eM b3 lJ lK=>JG.one (i:=2) rfl (by decide+kernel) (Take.Hb (pp:=(rL rI)) lK bF rfl rfl rfl rfl rfl underlying22 BL (Cs type28) (by decide) DL (by decide) ⟨_,_,rfl,An.nil⟩ fun eN cG lL lM=>?_);refine Bv (v:= .agg #[.slice (AV eN) av.length av.length,.slice (AV eM) aw.length aw.length]) 6 ht rfl rfl (fun ρ h s' hs=>CG [(0,1),(1,1)] h EP underlying24 ⟨rfl,Bf type22,rfl,Bf type22,trivial⟩ rfl rfl) (JM (S1:= [[],[(aY,.cells #[nS,nS] 24 (0,0))],b3,cG]) (S':= [[],cG,b3,[(aY,.cells #[nS,nS] 24 (0,0))]]) rfl (((List.perm_middle (α:=Seg) (l₁:= [[(aY,.cells #[nS,nS] 24 (0,0))],b3]) (a:=cG) (l₂:= [])).trans (((List.perm_middle (α:=Seg) (l₁:= [[(aY,.cells #[nS,nS] 24 (0,0))]]) (a:=b3) (l₂:= [])).trans ((List.Perm.refl _).cons _)).cons _)).cons _) lM fun lN=>?_);exact I7 (bE _ _ ⟨bl,eN,cG,eM,b3,aY,rfl,rfl,Ap,lN,lL,lJ⟩) rfl
 ·intro lO;refine JL.block (JS.drop 1 fv rfl fun lP=>?_);refine CM fw (fun L s cH=>∃(b4:LH) (b5:Ao) (b6:Nat) (cI:Seg),Jn cJ H b4 [cI] [(4,pV U 0),(5,sV aa V.1 ab),(6,sV b5 cH.1 b6),(7,sV fq fm.1 fs),(8,iV cH.2)] L s (OL 3 rI b4 b5 b6 cI cH.1)) ⟨cJ,(AV fe),1,du,rfl,rfl,Ap,lP,(ff.Ai W)⟩ ?_;rintro _ _ cH ⟨b4,b5,b6,cI,rfl,rfl,dj,eO,eP⟩ lQ ⟨nq,dk⟩ lR;have eQ:=dk;unfold Ke at eQ;refine zg 5 rfl (BA underlying28 rfl rfl rfl ?_);refine zg 2 rfl (AX eQ (fun lS lT=>?_) (fun lS lU=>?_))
  ·obtain⟨nr,lV,lW⟩:=bs lT;refine zg 7 rfl (Cj (fu.Ai dj) lV underlying28 AU ?_);rintro ns nt _ rfl lX;refine B4 0 lX Bq rfl rfl rfl ?_;obtain⟨lY,lZ,l0⟩:=bs lW;refine Bh lZ rfl rfl rfl ?_;obtain⟨l3,l4,l5⟩:=bs l0;refine JS.app (pp:=rI) (v:=iV lY) (a:=b5) (c:=b6) 0 l4 rfl rfl rfl rfl (fun _=>rfl) rfl (fun _=>rfl) rfl rfl rfl underlying28 underlying28 underlying28 AU (Cs type3) Cp rfl (by decide) (by decide) (by decide) (by decide) eP rfl eO rfl fun nu l6 l7 l8 l9 ma=>?_;obtain⟨mb,mc,md⟩:=bs l5;refine zg 5 rfl (Bh mc rfl rfl rfl ?_);refine zg 2 rfl ?_;obtain rfl:=oi md;exact Az (lR _ _ (l3,mb) ⟨b4,l6,l7,l8,rfl,rfl,dj,ma,l9⟩ dk) rfl
  ·refine JL.exit rfl ?_;obtain rfl:=oi lU;obtain rfl:=lQ _ dk;exact Az (lO _ _ ⟨b4,b5,b6,cI,rfl,rfl,dj,eO,eP⟩) rfl
end Pal
namespace Pal
theorem SU{n:Nat}{l:List Int}(h:l.Pairwise (·<·))(O:∀x∈l,0≤x∧x<(n:Int)):l.length≤n:=by
 have key:∀i (hi:i<l.length),(i:Int)≤l[i]:=fun i=>by
  induction i with
  | zero=>intro hi;exact(O _ (List.getElem_mem hi)).1
  | succ i U=>
   intro hi;have V:=U (by omega);have W:=List.pairwise_iff_getElem.1 h i (i+1) (by omega) hi (by omega);omega
 rcases Nat.lt_or_ge n l.length with K | K
 ·have V:=key n K;have W:=(O _ (List.getElem_mem K)).2;omega
 ·exact K
theorem Qr{α β:Type}{l:List α}{f:α→β}{i:Nat}(h:i<l.length):(l.take (i+1)).map f=(l.take i).map f++ [f l[i]]:=by
 rw [List.take_add_one,List.getElem?_eq_getElem h,List.map_append];rfl
def EO(l:List Nat):List Int:=l.map fun(x:Nat)=>(x:Int)
theorem LN{l:List Nat}{i:Nat}(h:i<l.length):(EO l)[i]? =some ((l[i]:Nat):Int):=by unfold EO;rw [List.getElem?_map,List.getElem?_eq_getElem h];rfl
theorem IY(l:List Nat):(EO l).length=l.length:=List.length_map _
theorem Wl{F k m:Nat}{b:DX}(ab:100<F)(hb:BG k b)(ae:k<1000)(hm:m≤8):A0 (f56 F b (m:Int)) (fun r=>∃l:List Nat,r.1=EO l∧l.Perm (List.range m)):=by
 unfold f56;refine AS (S:=fun r=>∃l:List Nat,r.1=EO l∧l.Perm (List.range m)) ?_ (fun s hs=>Aq hs);refine C5 m (fun i s=>∃(l:List Nat) (K:DX),s=(K.1,K.2.1,K.2.2,EO l,(i:Int))∧l.Perm (List.range i)∧BG (k+i) K) ⟨[],b,rfl,List.Perm.refl _,hb⟩ (by omega) ?_ ?_
 ·rintro i s hi ⟨l,K,rfl,O,U⟩;have V:l.length=i:=by have:=O.length_eq;simpa using this
  unfold L2;refine Ci (by simp only;omega) (AS (G8 (k:=k+i) (m:=(i:Int)) (b:=K) U (by omega) (by omega)) ?_);rintro⟨v,Z⟩ ⟨v0,v1,W⟩;simp only at v0 v1 W ⊢;obtain⟨q,rfl⟩:∃q:Nat,v=(q:Int):=⟨v.toNat,by omega⟩;have ah:q≤i:=by omega
  refine Hl (by rw [IY];omega) ?_;have e:EO l++ [(i:Int)]=EO (l++ [i]):=by simp [EO]
  rw [e];have ai:(l++ [i]).length=i+1:=by simp [V]
  have aa:(l++ [i])[i]'(by omega)=i:=by
   rw [List.getElem_append_right (by omega)];simp [V]
  refine AW (CU (m:=q) rfl (LN (show q<(l++ [i]).length by omega))) (AW (CU (m:=i) rfl (LN (show i<(l++ [i]).length by omega))) ?_);refine BN (m:=q) rfl (by rw [List.length_set,IY];omega) (A9 ((i+1:Nat):Int) (by simp) (by omega) (by omega) ?_);have Y:=List.set_set_perm (i:=i) (j:=q) (show i<(l++ [i]).length by omega) (show q<(l++ [i]).length by omega);rw [aa] at Y;refine Aq ⟨((l++ [i]).set i (l++ [i])[q]).set q i,Z,?_,?_,W⟩
  ·simp only [EO,Int.toNat_natCast,List.map_set]
  ·rw [List.range_succ];exact Y.trans (O.append_right [i])
 ·rintro s ⟨l,K,rfl,O,U⟩;unfold L2;exact Br (by simp) (Aq ⟨_,rfl,l,rfl,O⟩)
theorem Vy{F:Nat}{l:List Nat}{b:DX}(O:100<F)(U:l.length≤8)(K:∀x∈l,x<100):iter (Ke F (EO l,b)) F ([0],0)=some (EO (0::l.map (·+1))):=by
 refine Eh (C5 l.length (fun i s=>s=(EO (0::(l.take i).map (·+1)),(i:Int))) rfl (by omega) ?_ ?_)
 ·rintro i s hi rfl;have V:=K _ (List.getElem_mem hi);unfold Ke;refine Ci (by simp only [IY];omega) (AW (CU (m:=i) rfl (LN hi)) ?_);refine A9 ((l[i]+1:Nat):Int) (by simp) (by omega) (by omega) (Hl (by simp only [IY,List.length_cons,List.length_map,List.length_take];omega) ?_);refine A9 ((i+1:Nat):Int) (by simp) (by omega) (by omega) (Aq ?_);show _=_;rw [Qr hi];simp [EO]
 ·rintro s rfl;unfold Ke;refine Br (by simp [IY]) (Aq ⟨_,rfl,?_⟩);rw [List.take_length]
def F4(ρ:Nat→Nat)(l src:List Int):Prop:=l.Pairwise (·<·)∧∀z,z∈l↔∃u∈src,rn ρ u=z
theorem F4.len{n:Nat}{ρ:Nat→Nat}{l src:List Int}(h:F4 ρ l src)(K:∀i,i<n→ρ i<n)(hs:Gn n src):l.length≤n:=
 SU h.1 fun x O=>by
  obtain⟨u,hu,rfl⟩:=(h.2 x).1 O
  have U:=hs u hu
  have:=K u.toNat (by omega)
  unfold rn
  omega
theorem V7{F n m:Nat}{ρ:Nat→Nat}{J:JW}{b:DX}{O src:List Int}{X1 X2:List (List Int)}(ae:100<F)(al:n≤8)(Z:∀i,i<n→O[i]? =some ((ρ i:Nat):Int))(aa:∀i,i<n→ρ i<n)(hm:m<n)(W:J.1[m]? =some src)(Y:VL n src)(ah:X1.length=n)(ai:X1[ρ m]? =some []):
  A0 (iter (Ka F (J,b) O (X1,X2,(m:Int))) F (X1,0)) (fun r=>r.length=n∧(∀j,j≠ρ m→r[j]? =X1[j]?)∧∃l,r[ρ m]? =some l∧F4 ρ l src):=by
 have am:=Y.len;refine C5 src.length (fun i s=>s.2=(i:Int)∧s.1.length=n∧(∀j,j≠ρ m→s.1[j]? =X1[j]?)∧∃l,s.1[ρ m]? =some l∧F4 ρ l (src.take i)) ⟨rfl,ah,fun _ _=>rfl,[],ai,List.Pairwise.nil,by simp⟩ (by omega) ?_ ?_
 ·rintro i ⟨s1,s2⟩ hi ⟨rfl,hlen,V,l,U,K⟩;simp only at hlen V U;have hu:=Y.inr _ (List.getElem_mem hi);have an:=K.len aa (fun x aj=>Y.inr x (List.mem_of_mem_take aj));have ao:=aa m hm;unfold Ka;refine AW (CU (m:=m) rfl W) (Ci (by simp only;omega) ?_);refine AW (CU (m:=m) rfl (Z m hm)) (AW (CU (m:=ρ m) rfl U) ?_);refine AW (CU (m:=m) rfl W) (BN (m:=i) rfl hi ?_);refine AW (CU (m:=src[i].toNat) (by omega) (Z _ (by omega))) (AS (Ra ae (by omega) K.1) ?_);rintro ak ⟨p1,p2⟩;refine AW (CU (m:=ρ m) rfl U) (A9 ((i+1:Nat):Int) (by simp) (by omega) (by omega) ?_);refine Aq ⟨rfl,by simpa using hlen,fun j ab=>?_,ak,?_,p1,fun z=>?_⟩
  ·simp only [Int.toNat_natCast];rw [List.getElem?_set_ne (Ne.symm ab)];exact V j ab
  ·simp only [Int.toNat_natCast];rw [List.getElem?_set_self (by omega)]
  ·rw [p2,K.2,List.take_add_one,List.getElem?_eq_getElem hi];simp only [Option.toList_some,List.mem_append,List.mem_singleton];constructor
   ·rintro(⟨u,hu,h⟩ | rfl)
    ·exact⟨u,.inl hu,h⟩
    ·exact⟨src[i],.inr rfl,rfl⟩
   ·rintro⟨u,hu | rfl,h⟩
    ·exact .inl ⟨u,hu,h⟩
    ·exact .inr h.symm
 ·rintro⟨s1,s2⟩ ⟨rfl,hlen,V,l,U,K⟩;unfold Ka;refine AW (CU (m:=m) rfl W) ?_;rw [List.take_length] at K;exact Br (by simp only;omega) (Aq ⟨_,rfl,hlen,V,l,U,K⟩)
theorem VH{F n m:Nat}{ρ:Nat→Nat}{J:JW}{b:DX}{O src:List Int}{X1 X2:List (List Int)}(ae:100<F)(al:n≤8)(Z:∀i,i<n→O[i]? =some ((ρ i:Nat):Int))(aa:∀i,i<n→ρ i<n)(hm:m<n)(W:J.2[m]? =some src)(Y:VL n src)(ah:X2.length=n)(ai:X2[ρ m]? =some []):
  A0 (iter (J7 F (J,b) O (X1,X2,(m:Int))) F (X2,0)) (fun r=>r.length=n∧(∀j,j≠ρ m→r[j]? =X2[j]?)∧∃l,r[ρ m]? =some l∧F4 ρ l src):=by
 have am:=Y.len;refine C5 src.length (fun i s=>s.2=(i:Int)∧s.1.length=n∧(∀j,j≠ρ m→s.1[j]? =X2[j]?)∧∃l,s.1[ρ m]? =some l∧F4 ρ l (src.take i)) ⟨rfl,ah,fun _ _=>rfl,[],ai,List.Pairwise.nil,by simp⟩ (by omega) ?_ ?_
 ·rintro i ⟨s1,s2⟩ hi ⟨rfl,hlen,V,l,U,K⟩;simp only at hlen V U;have hu:=Y.inr _ (List.getElem_mem hi);have an:=K.len aa (fun x aj=>Y.inr x (List.mem_of_mem_take aj));have ao:=aa m hm;unfold J7;refine AW (CU (m:=m) rfl W) (Ci (by simp only;omega) ?_);refine AW (CU (m:=m) rfl (Z m hm)) (AW (CU (m:=ρ m) rfl U) ?_);refine AW (CU (m:=m) rfl W) (BN (m:=i) rfl hi ?_);refine AW (CU (m:=src[i].toNat) (by omega) (Z _ (by omega))) (AS (Ra ae (by omega) K.1) ?_);rintro ak ⟨p1,p2⟩;refine AW (CU (m:=ρ m) rfl U) (A9 ((i+1:Nat):Int) (by simp) (by omega) (by omega) ?_);refine Aq ⟨rfl,by simpa using hlen,fun j ab=>?_,ak,?_,p1,fun z=>?_⟩
  ·simp only [Int.toNat_natCast];rw [List.getElem?_set_ne (Ne.symm ab)];exact V j ab
  ·simp only [Int.toNat_natCast];rw [List.getElem?_set_self (by omega)]
  ·rw [p2,K.2,List.take_add_one,List.getElem?_eq_getElem hi];simp only [Option.toList_some,List.mem_append,List.mem_singleton];constructor
   ·rintro(⟨u,hu,h⟩ | rfl)
    ·exact⟨u,.inl hu,h⟩
    ·exact⟨src[i],.inr rfl,rfl⟩
   ·rintro⟨u,hu | rfl,h⟩
    ·exact .inl ⟨u,hu,h⟩
    ·exact .inr h.symm
 ·rintro⟨s1,s2⟩ ⟨rfl,hlen,V,l,U,K⟩;unfold J7;refine AW (CU (m:=m) rfl W) ?_;rw [List.take_length] at K;exact Br (by simp only;omega) (Aq ⟨_,rfl,hlen,V,l,U,K⟩)
theorem TL{F n:Nat}{ρ:Nat→Nat}{J:JW}{b:DX}{O:List Int}(aa:100<F)(hJ:VJ n J)(ao:O.length=n)(ab:∀i,i<n→O[i]? =some ((ρ i:Nat):Int))(V:∀i,i<n→ρ i<n)(ae:∀i j,i<n→j<n→ρ i=ρ j→i=j):
  A0 (iter (Kb F (J,b) O) F (List.replicate n [],List.replicate n [],0)) (fun r=>r.1.length=n∧r.2.length=n∧∀j,j<n→(∃l,r.1[ρ j]? =some l∧F4 ρ l (J.1.getD j []))∧∃l,r.2[ρ j]? =some l∧F4 ρ l (J.2.getD j [])):=by
 have ah:=hJ.le;have ap:=hJ.l1;have aq:=hJ.l2;refine C5 n (fun m s=>s.2.2=(m:Int)∧s.1.length=n∧s.2.1.length=n∧(∀j,j<m→(∃l,s.1[ρ j]? =some l∧F4 ρ l (J.1.getD j []))∧∃l,s.2.1[ρ j]? =some l∧F4 ρ l (J.2.getD j []))∧∀j,m≤j→j<n→s.1[ρ j]? =some []∧s.2.1[ρ j]? =some [])
  ⟨rfl,by simp,by simp,by omega,fun j _ K=>⟨by rw [List.getElem?_replicate,if_pos (V j K)],by rw [List.getElem?_replicate,if_pos (V j K)]⟩⟩ (by omega) ?_ ?_
 ·rintro m ⟨X1,X2,s⟩ hm ⟨rfl,W,g2,Y,Z⟩;simp only at W g2 Y Z;have ak:J.1[m]? =some (J.1.getD m []):=by rw [List.getD_eq_getElem?_getD,List.getElem?_eq_getElem (by omega)];rfl
  have e2:J.2[m]? =some (J.2.getD m []):=by rw [List.getD_eq_getElem?_getD,List.getElem?_eq_getElem (by omega)];rfl
  obtain⟨z1,al⟩:=Z m (Nat.le_refl _) hm;unfold Kb;refine Ci (by simp only;omega) (AS (V7 (X2:=X2) aa ah ab V hm ak (hJ.EA m) W z1) ?_);rintro ar ⟨k1,ai,am⟩;refine AS (VH (X1:=X1) aa ah ab V hm e2 (hJ.Jq m) g2 al) ?_;rintro au ⟨q1,q2,an⟩;refine A9 ((m+1:Nat):Int) (by simp) (by omega) (by omega) (Aq ⟨rfl,k1,q1,fun j K=>?_,fun j K aj=>?_⟩)
  ·by_cases e:j=m
   ·subst e;exact⟨am,an⟩
   ·have U:ρ j≠ρ m:=fun h=>e (ae j m (by omega) hm h);simp only;rw [ai _ U,q2 _ U];exact Y j (by omega)
  ·have U:ρ j≠ρ m:=fun h=>by have:=ae j m aj hm h;omega
   simp only;rw [ai _ U,q2 _ U];exact Z j (by omega) aj
 ·rintro⟨X1,X2,s⟩ ⟨rfl,W,g2,Y,Z⟩;unfold Kb;exact Br (by simp only;omega) (Aq ⟨_,rfl,W,g2,fun j K=>Y j K⟩)
theorem Vz{n:Nat}{ρ:Nat→Nat}{J X:JW}(hJ:VJ n J)(Z:∀i,i<n→ρ i<n)(W:∀i j,i<n→j<n→ρ i=ρ j→i=j)(aa:∀z,z<n→∃i,i<n∧ρ i=z)(ab:ρ 0=0)(ae:X.1.length=n)(ah:X.2.length=n)
  (V:∀j,j<n→(∃l,X.1[ρ j]? =some l∧F4 ρ l (J.1.getD j []))∧∃l,X.2[ρ j]? =some l∧F4 ρ l (J.2.getD j [])):C9 n ρ J X:=by
 have ao:=hJ.l1;have val:∀{l src:List Int},VL n src→F4 ρ l src→VL n l∧l.length=src.length:=fun {l src} hs h=>by
  have ai:=Nb W hs.inr hs.Gr h.1 h.2;have hle:=ai.length_eq;rw [List.length_map] at hle;refine⟨⟨by have:=hs.len;omega,fun x aj=>?_,h.1⟩,hle⟩;obtain⟨u,hu,rfl⟩:=(h.2 x).1 aj;have ap:=hs.inr u hu;have:=Z u.toNat (by omega);unfold rn;omega
 refine⟨hJ,⟨hJ.pos,hJ.le,ae,ah,fun q l O=>?_,fun q l O=>?_⟩,Z,W,ab,fun i hi z=>?_,fun i hi z=>?_⟩
 ·have ak:=(List.getElem?_eq_some_iff.1 O).1;obtain⟨i,hi,rfl⟩:=aa q (by omega);obtain⟨al,U,K⟩:=(V i hi).1;rw [O] at U;cases U;obtain⟨v1,v2⟩:=val (hJ.EA i) K;refine⟨v1,?_⟩;have:=(hJ.nx i (J.1.getD i []) (by rw [List.getD_eq_getElem?_getD,List.getElem?_eq_getElem (by omega)];rfl)).2;omega
 ·have ak:=(List.getElem?_eq_some_iff.1 O).1;obtain⟨i,hi,rfl⟩:=aa q (by omega);obtain⟨al,U,K⟩:=(V i hi).2;rw [O] at U;cases U;refine⟨(val (hJ.Jq i) K).1,fun am=>?_⟩;obtain⟨u,hu,he⟩:=(K.2 _).1 am;have an:=(hJ.Jq i).inr u hu;have:u=(i:Int):=J5 W an ⟨by omega,by omega⟩ he;subst this;have aq:=hJ.l2;exact(hJ.fl i (J.2.getD i []) (by rw [List.getD_eq_getElem?_getD,List.getElem?_eq_getElem (by omega)];rfl)).2 hu
 ·obtain⟨l,Y,K⟩:=(V i hi).1;rw [List.getD_eq_getElem?_getD,Y];exact K.2 z
 ·obtain⟨l,Y,K⟩:=(V i hi).2;rw [List.getD_eq_getElem?_getD,Y];exact K.2 z
theorem Tv{F n:Nat}{ρ:Nat→Nat}{K:BE}{b:DX}{O:List Int}(W:100<F)(U:B5 n K)(V:∀i,i<n→O[i]? =some ((ρ i:Nat):Int)):iter (Kc F (K,b) O) F (K,0)=some (K.map (rl ρ)):=by
 have Y:=U.len;refine Eh ?_;refine C5 K.length (fun i s=>s=((K.take i).map (rl ρ)++K.drop i,(i:Int))) rfl (by omega) ?_ ?_
 ·rintro i s hi rfl;have hs:=U.sn _ (List.getElem_mem hi);have e:((K.take i).map (rl ρ)++K.drop i)[i]? =some K[i]:=by
   rw [List.getElem?_append_right (by simp;omega)];simp only [List.length_map,List.length_take,List.getElem?_drop];rw [show i+(i - min i K.length)=i by omega,List.getElem?_eq_getElem hi]
  unfold Kc;refine Ci (by simp;omega) (BN (m:=i) rfl hi ?_);refine AW (CU (m:=K[i].2.toNat) (show K[i].2=((K[i].2.toNat:Nat):Int) by omega) (V _ (by omega))) (AW (CU (m:=i) rfl e) ?_);refine A9 ((i+1:Nat):Int) (by simp) (by omega) (by omega) (Aq (Prod.ext ?_ rfl));simp only [Int.toNat_natCast];rw [List.set_append_right _ _ (by simp;omega)];simp only [List.length_map,List.length_take];rw [show i - min i K.length=0 by omega,Qr hi,List.drop_eq_getElem_cons hi,List.set_cons_zero,List.append_assoc]
  rfl
 ·rintro s rfl;unfold Kc;refine Br (by simp) (Aq ⟨_,rfl,?_⟩);rw [List.take_length,List.drop_length,List.append_nil]
theorem Wm{F:Nat}(ai:3489660928<F)(hs:f22 F=some true)(MA:List Int):f12 F MA=some true:=by
 refine Eh ?_;unfold f12;refine AW (b:=(MA,0,2685821657736338717)) rfl (AS (V3 (F:=F) (k:=0) (mx:=7) (b:=(MA,0,2685821657736338717)) (by omega) ⟨Int.le_refl _,Int.le_refl _⟩ (by omega) (by omega) (by omega)) ?_);rintro⟨J,b⟩ ⟨⟨n,aN,hJ⟩,hb⟩;simp only at hJ hb ⊢;have Y:100<F:=by omega
 have aO:=hJ.le;have aP:=hJ.pos;have aQ:=hJ.l1;refine AS (VP (many:=4) Y hJ hb (by omega) (by omega)) ?_;rintro⟨V,aR⟩ ⟨O,au,_,aj⟩;simp only at O au aj ⊢;refine A9 ((n - 1:Nat):Int) (by omega) (by omega) (by omega) ?_;refine AS (Wl Y aj (by omega) (by omega)) ?_;rintro⟨r,aS⟩ ⟨l,ak,Z⟩;simp only at ak ⊢;subst ak;have aT:l.length=n - 1:=by have:=Z.length_eq;simpa using this
 have av:∀x∈l,x<n - 1:=fun x aa=>List.mem_range.1 (Z.mem_iff.1 aa);refine AW (Vy Y (by omega) (fun x aa=>by have:=av x aa;omega)) ?_;have ab:(0::l.map (·+1)).Perm (List.range n):=by
  have:List.range n=0::(List.range (n - 1)).map (·+1):=by
   rw [show n=(n - 1)+1 by omega,List.range_succ_eq_map];rfl
  rw [this];exact(Z.map _).cons _
 generalize aw:(0::l.map (·+1))=o at ab;have ay:o.length=n:=by have:=ab.length_eq;simpa using this
 have al:(EO o).length=n:=by rw [IY];exact ay
 have az:o.Nodup:=ab.nodup_iff.2 List.nodup_range;let ρ:Nat→Nat:=fun i=>o.getD i 0;have ae:∀i (hi:i<n),ρ i=o[i]'(by omega):=fun i hi=>by
  show o.getD i 0=_;rw [List.getD_eq_getElem?_getD,List.getElem?_eq_getElem (by omega)];rfl
 have am:∀i,i<n→(EO o)[i]? =some ((ρ i:Nat):Int):=fun i hi=>by rw [LN (by omega),ae i hi]
 have an:∀i,i<n→ρ i<n:=fun i hi=>by
  rw [ae i hi];exact List.mem_range.1 (ab.mem_iff.1 (List.getElem_mem _))
 have ao:∀i j,i<n→j<n→ρ i=ρ j→i=j:=fun i j hi aA he=>by
  rw [ae i hi,ae j aA] at he;have ap:=List.pairwise_iff_getElem.1 az;rcases Nat.lt_trichotomy i j with h | h | h
  ·exact absurd he (ap i j (by omega) (by omega) h)
  ·exact h
  ·exact absurd he.symm (ap j i (by omega) (by omega) h)
 have aB:∀z,z<n→∃i,i<n∧ρ i=z:=fun z aC=>by
  obtain⟨i,hi,he⟩:=List.mem_iff_getElem.1 (ab.mem_iff.2 (List.mem_range.2 aC));exact⟨i,by omega,by rw [ae i (by omega)];exact he⟩
 have aD:ρ 0=0:=by show o.getD 0 0=0;rw [← aw];rfl
 have aq:ID ((EO o).length:Int) ([]:List Int)=some (List.replicate n []):=by
  unfold ID;rw [al,if_pos (by omega)];rfl
 refine AW aq (AW aq ?_);refine AS (TL Y hJ al am an ao) ?_;rintro X ⟨aE,x2,aa⟩;have R:C9 n ρ J X:=Vz hJ an ao aB aD aE x2 aa;have aF:MB F V=some V:=Wp (F:=F) (by omega);refine AW aF (AW (Tv Y O am) ?_);have ah:=R.RH O;have aU:(V.map (rl ρ)).length=V.length:=List.length_map _;have aG:∃r,f47 F J V=some r∧f47 F X (V.map (rl ρ))=some r∧(r.2=0∨r.2=11):=by
  obtain⟨r,W,U⟩:=QQ (F:=F) (by omega) hJ O (by omega);obtain⟨ar,e2,K⟩:=QQ (F:=F) (by omega) R.hX ah (by omega);rcases U with⟨U,rfl⟩ | ⟨k,U,rfl⟩
  ·rcases K with⟨_,rfl⟩ | ⟨k,K,rfl⟩
   ·exact⟨_,W,e2,.inr rfl⟩
   ·obtain⟨⟨t,ht,_⟩,_⟩:=K;rw [(R.nil O).2 U] at ht;simp at ht
  ·rcases K with⟨K,_⟩ | ⟨k',K,rfl⟩
   ·obtain⟨⟨t,ht,_⟩,_⟩:=U;rw [(R.nil O).1 K] at ht;simp at ht
   ·obtain rfl:=(R.least O U).uniq K;exact⟨_,W,e2,.inl rfl⟩
 obtain⟨r,W,e2,aH⟩:=aG;refine AW W (AW e2 ?_);have aI:∃c:Int,f28 F J V=some (c,0)∧f28 F X (V.map (rl ρ))=some (c,0):=by
  obtain⟨r,W,U⟩:=QK (F:=F) (by omega) hJ O (by omega);obtain⟨ar,e2,K⟩:=QK (F:=F) (by omega) R.hX ah (by omega);rcases U with⟨U,rfl⟩ | ⟨k,U,rfl⟩
  ·rcases K with⟨_,rfl⟩ | ⟨k,K,rfl⟩
   ·exact⟨_,W,e2⟩
   ·obtain⟨⟨t,ht,_⟩,_⟩:=K;rw [(R.nil O).2 U] at ht;simp at ht
  ·rcases K with⟨K,_⟩ | ⟨k',K,rfl⟩
   ·obtain⟨⟨t,ht,_⟩,_⟩:=U;rw [(R.nil O).1 K] at ht;simp at ht
   ·obtain rfl:=(R.least O U).uniq K;refine⟨_,W,?_⟩;rw [e2,(R.Oa O k).length_eq,List.length_map]
 obtain⟨c,aJ,aK⟩:=aI;refine AW aJ (AW aK ?_);refine AW (b:=false) (by simp) (AW (b:=false) ?_ ?_)
 ·rw [if_neg (by simp)];rcases aH with h | h
  ·rw [if_neg (by omega)]
  ·rw [if_pos (by omega),h];rfl
 refine AW (b:=false) (by simp) (AW (b:=false) (by simp) ?_);refine AW (b:=false) (by simp) (Br (by simp) ?_);refine AS (S:=fun r=>r=Sum.inr ()) ?_ ?_
 ·refine C5 V.length (fun p s=>s=(p:Int)) rfl (by omega) ?_ ?_
  ·rintro p s Z rfl;have aL:∃r,f49 F J V (p:Int)=some r∧f49 F X (V.map (rl ρ)) (p:Int)=some r:=by
    obtain⟨r,W,U⟩:=Q6 (F:=F) (p:=p) ai hJ O (by omega) Z;obtain⟨ar,e2,K⟩:=Q6 (F:=F) (p:=p) ai R.hX ah (by omega) (by omega);rcases U with⟨U,rfl⟩ | ⟨k,U,rfl⟩
    ·rcases K with⟨_,rfl⟩ | ⟨k,K,rfl⟩
     ·exact⟨_,W,e2⟩
     ·obtain⟨⟨t,ht,_⟩,_⟩:=K;rw [(R.nil O).2 U] at ht;simp at ht
    ·rcases K with⟨K,_⟩ | ⟨k',K,rfl⟩
     ·obtain⟨⟨t,ht,_⟩,_⟩:=U;rw [(R.nil O).1 K] at ht;simp at ht
     ·obtain rfl:=(R.least O U).uniq K;refine⟨_,W,?_⟩;rw [e2,R.bits O,(R.Oa O k).length_eq,List.length_map]
   obtain⟨r,W,e2⟩:=aL;unfold Mb;refine Ci (by simp only;omega) (AW W ?_);refine AW e2 (AW (b:=false) (by simp) ?_);refine Br (by simp) (A9 ((p+1:Nat):Int) (by simp) (by omega) (by omega) ?_);exact Aq rfl
  ·rintro s rfl;unfold Mb;exact Br (by simp) (Aq ⟨_,rfl,rfl⟩)
 rintro r rfl;rw [Sum.elim_inr];refine AS (S:=fun r=>r=Sum.inr ()) ?_ ?_
 ·refine C5 5 (fun k s=>s=(k:Int)) rfl (by omega) ?_ ?_
  ·rintro k s aV rfl;have aW:=SM J V k;have W:=Q5 (F:=F) (p:=k) (by omega) hJ O (by omega) (by omega);have e2:=Q5 (F:=F) (p:=k) (by omega) R.hX ah (by omega) (by omega);rw [R.FL O] at e2;have aM:(if FL J V k= [] then(([]:List Int),(11:Int)) else(FL J V k,0)).1.length≤20:=by
    split
    ·simp
    ·simp only;omega
   unfold Ma;refine Ci (by omega) (AW W ?_);refine AW e2 (AW (b:=false) ?_ ?_)
   ·rw [if_neg (by simp),Wu Y aM];rfl
   refine Br (by simp) (A9 ((k+1:Nat):Int) (by simp) (by omega) (by omega) ?_);exact Aq rfl
  ·rintro s rfl;unfold Ma;exact Br (by simp) (Aq ⟨_,rfl,rfl⟩)
 rintro r rfl;rw [Sum.elim_inr,hs];exact Aq rfl
end Pal
