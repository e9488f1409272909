/- ToothAges. Part 5 of 8. -/
import Derived.Test.YtboibffcmhheiaaGreatDoorTnc
import Derived.Test.YtboibffcmhheiaaGreatDoorTnd
set_option linter.all false
set_option maxRecDepth 100000
namespace Pal
abbrev CI:=Int×List Int×Nat
def CF(t:CI):Nat:=(Cm t.2.2 16).length
theorem Xi{F:Nat}{t:CI}(K:100<F)(h:t.2.2<65536):f130 F t=some (CF t:Int):=by
 unfold f130;rw [Nc K h];rfl
def DF(K:List CI)(q:Int×List CI):Prop:=(K= []∧q=(0,[]))∨∃k:Nat,q.1=(k:Int)∧(∃t∈K,CF t=k)∧(∀t∈K,k≤CF t)∧q.2=K.filter (fun t=>decide (CF t=k))
theorem DF.len{K:List CI}{q:Int×List CI}(h:DF K q):q.2.length≤K.length:=by
 rcases h with⟨_,rfl⟩ | ⟨k,_,_,_,h⟩
 ·simp
 ·rw [h];exact List.length_filter_le _ _
theorem DF.sub{K:List CI}{q:Int×List CI}(h:DF K q):∀t∈q.2,t∈K∧(CF t:Int)=q.1:=by
 rcases h with⟨_,rfl⟩ | ⟨k,O,_,_,h⟩
 ·simp
 ·intro t ht;rw [h] at ht;obtain⟨a,b⟩:=List.mem_filter.1 ht;exact⟨a,by rw [O,of_decide_eq_true b]⟩
theorem DF.snoc(F:Nat){O:List CI}{q:Int×List CI}{t:CI}(h:DF O q)(a3:O.length<2 ^ 39):∃K,II F q.1 q.2 t (CF t:Int)=some K∧DF (O++ [t]) K:=by
 have av:=h.len;obtain⟨le,all⟩:=q;simp only at av ⊢;have fresh:∀c:Bool,c=true→(∀s∈O,CF t<CF s)→∃K:Int×List CI,(Option.bind (if c=true then some ((CF t:Int),([]:List CI)) else some (le,all)) fun U=>Option.bind (if(CF t:Int)=U.1 then(De U.2 ([t]:List CI)).bind fun a0=>some a0 else some U.2) fun a1=>some (U.1,a1))=some K∧DF (O++ [t]) K:=by
  rintro c rfl V;refine⟨((CF t:Int),[t]),?_,.inr ⟨CF t,rfl,⟨t,by simp,rfl⟩,?_,?_⟩⟩
  ·simp [De]
  ·intro s hs;rcases List.mem_append.1 hs with hs | hs
   ·exact Nat.le_of_lt (V s hs)
   ·simp at hs;subst hs;exact Nat.le_refl _
  ·rw [List.filter_append,List.filter_eq_nil_iff.2 fun s hs=>by have:=V s hs;simp;omega];simp
 unfold II;rcases h with⟨rfl,he⟩ | ⟨k,ap,⟨s,hs,Z⟩,ag,Y⟩
 ·cases he;simp only [List.length_nil];obtain⟨K,al,am⟩:=fresh true rfl (fun s hs=>by simp at hs);exact⟨K,by simpa using al,am⟩
 ·simp only at ap Y;subst ap;have a2:¬((all.length:Int)=0):=by
   have:s∈all:=by rw [Y];exact List.mem_filter.2 ⟨hs,by simpa using Z⟩
   have:=List.length_pos_of_mem this;omega
  rw [if_neg a2];simp only [Option.bind_some];rcases Nat.lt_trichotomy (CF t) k with V | heq | a4
  ·obtain⟨K,al,am⟩:=fresh (decide ((CF t:Int)<(k:Int))) (decide_eq_true (by omega)) (fun s hs=>Nat.lt_of_lt_of_le V (ag s hs));exact⟨K,al,am⟩
  ·rw [if_neg (by rw [decide_eq_true_iff];omega)];simp only [Option.bind_some];rw [if_pos (by omega)];refine⟨((k:Int),all++ [t]),?_,.inr ⟨k,rfl,⟨s,by simp [hs],Z⟩,?_,?_⟩⟩
   ·unfold De;rw [if_pos (by simp;omega)];rfl
   ·intro u hu;rcases List.mem_append.1 hu with hu | hu
    ·exact ag u hu
    ·simp at hu;subst hu;omega
   ·rw [List.filter_append,Y];simp [heq]
  ·rw [if_neg (by rw [decide_eq_true_iff];omega)];simp only [Option.bind_some];rw [if_neg (by omega)];refine⟨((k:Int),all),rfl,.inr ⟨k,rfl,⟨s,by simp [hs],Z⟩,?_,?_⟩⟩
   ·intro u hu;rcases List.mem_append.1 hu with hu | hu
    ·exact ag u hu
    ·simp at hu;subst hu;omega
   ·rw [List.filter_append,← Y];have:¬CF t=k:=by omega
    simp [this]
theorem Ou{F:Nat}{a:Int}(O:100<F):∀(l:List (List Int×Nat)) (K:List CI) (q:Int×List CI),DF K q→K.length+l.length<2 ^ 39→(∀x∈l,x.2<65536)→
  ∃U,Fu (add1 F a) l q=some U∧DF (K++l.map fun x=>(a,x.1,x.2)) U
 | [],K,q,h,_,_=>⟨q,rfl,by simpa using h⟩
 | x::l,K,q,h,Y,V=>by
  simp only [List.length_cons] at Y
  obtain⟨q1,Z,ag⟩:=h.snoc F (t:=(a,x.1,x.2)) (by omega)
  obtain⟨q2,al,am⟩:=Ou O l (K++ [(a,x.1,x.2)]) q1 ag (by simp;omega) (fun y ap=>V y (by simp [ap]))
  refine⟨q2,?_,by simpa using am⟩
  unfold Fu add1
  rw [Xi (t:=(a,x.1,x.2)) O (V x (by simp))]
  simp only [Option.bind_some]
  rw [Z];exact al
def TA(J:JW)(lk:Bb)(a:Nat):List CI:=(D2 J lk (CU lk+1) (AG J a) [] 0).map fun x=>((a:Int),x.1,x.2)
def TT(J:JW)(lk:Bb):List CI:=(List.range 13).flatMap (TA J lk)
theorem Sn{n:Nat}{J:JW}{lk:Bb}(K:B8 n lk)(a:Nat):(TA J lk a).length≤268435456:=by
 unfold TA;rw [List.length_map];exact Nat.le_trans (MJ _ _ _ _ _ _) (V7 (by have:=It K;omega))
theorem OC{F n a:Nat}{J:JW}{lk:Bb}(K:100<F)(O:VJ n J)(U:B8 n lk)(V:a<13):∃q,GC F (J.1,J.2,Gb J) lk (a:Int)=some q∧DF (TA J lk a) q∧∀t∈TA J lk a,t.2.2<65536:=by
 have av:=It U;have Y:(16:Nat) ^ (CU lk+1)≤16 ^ 7:=Nat.pow_le_pow_right (by omega) (by omega);have Z:∀l:List (List Int×Nat),l.length≤16 ^ 7→(∀x∈l,x.2<65536)→(Ht F (a:Int) l).isSome=true:=fun l a0 ag=>by
  obtain⟨q,e,_⟩:=Ou (a:=(a:Int)) K l [] (0,[]) (.inl ⟨rfl,rfl⟩) (by simp;omega) ag;unfold Ht;rw [e];rfl
 obtain⟨d1,d2⟩:=Zn (A:=Gb J) (age:=(a:Int)) (ok:=fun ac=>(Ht F (a:Int) ac).isSome) K O U Z (CU lk+1) F (AG J a) [] 0 [] (by simp) (by omega) (IH O a) (by omega) (by simpa using Y) (by simp);obtain⟨q,al,am⟩:=Ou (a:=(a:Int)) K (D2 J lk (CU lk+1) (AG J a) [] 0) [] (0,[]) (.inl ⟨rfl,rfl⟩) (by have:=MJ J lk (CU lk+1) (AG J a) [] 0;simp;omega) d2;refine⟨q,?_,by unfold TA;simpa using am,?_⟩
 ·unfold GC Ke;rw [D6 (m:=a) rfl (XX J V)];simp only [Option.bind_some];rw [d1];simp only [Option.bind_some,List.nil_append];exact al
 ·intro t ht;obtain⟨x,ap,rfl⟩:=List.mem_map.1 ht;exact d2 x ap
theorem Qv{F n:Nat}{J:JW}{lk:Bb}(O:100<F)(U:VJ n J)(V:B8 n lk):∃qs:Nat→Int×List CI,Jb F (J.1,J.2,Gb J) lk=some (Dd qs)∧∀j,j<13→DF (TA J lk j) (qs j):=by
 refine⟨fun j=>(GC F (J.1,J.2,Gb J) lk ((j:Nat):Int)).getD (0,[]),?_,fun j K=>?_⟩
 ·unfold Jb;rw [if_pos];rw [List.all_eq_true];intro j K;obtain⟨q,e,_⟩:=OC O U V (List.mem_range.1 K);rw [e];rfl
 ·obtain⟨q,e,h,_⟩:=OC O U V K;simp only [e];exact h
theorem Q3{α β:Type}{f g:α→List β}:∀{l:List α},(∀x∈l,f x=g x)→l.flatMap f=l.flatMap g
 | [],_=>rfl
 | x::l,h=>by rw [List.flatMap_cons,List.flatMap_cons,h x (by simp),Q3 fun y K=>h y (by simp [K])]
theorem DF.flat{T:Nat→List CI}{Q:Nat→Int×List CI}{l:List Nat}{r:Int×List CI}(h:∀j∈l,DF (T j) (Q j))(a0:DF (l.flatMap fun j=>(Q j).2) r):DF (l.flatMap T) r:=by
 have F1:∀j∈l,(Q j).2= []→T j= []:=fun j K e=>by
  rcases h j K with⟨U,_⟩ | ⟨k,_,⟨t,ht,Z⟩,_,ag⟩
  ·exact U
  ·have:t∈(Q j).2:=by rw [ag];exact List.mem_filter.2 ⟨ht,by simpa using Z⟩
   rw [e] at this;simp at this
 rcases a0 with⟨U,rfl⟩ | ⟨k,U,⟨t,ht,Z⟩,av,ag⟩
 ·refine .inl ⟨?_,rfl⟩;rw [List.flatMap_eq_nil_iff] at U ⊢;exact fun j K=>F1 j K (U j K)
 ·have low:∀j∈l,∀s∈T j,∃O:Nat,(Q j).2=(T j).filter (fun t=>decide (CF t=O))∧k≤O∧O≤CF s:=fun j K s hs=>by
   rcases h j K with⟨al,_⟩ | ⟨O,_,⟨u,hu,am⟩,V,Y⟩
   ·rw [al] at hs;simp at hs
   ·refine⟨O,Y,?_,V s hs⟩;have:=av u (List.mem_flatMap.2 ⟨j,K,by rw [Y];exact List.mem_filter.2 ⟨hu,by simpa using am⟩⟩);omega
  refine .inr ⟨k,U,?_,?_,?_⟩
  ·obtain⟨j,K,a1⟩:=List.mem_flatMap.1 ht;exact⟨t,List.mem_flatMap.2 ⟨j,K,((h j K).sub t a1).1⟩,Z⟩
  ·intro s hs;obtain⟨j,K,a2⟩:=List.mem_flatMap.1 hs;obtain⟨O,_,g2,V⟩:=low j K s a2;omega
  ·rw [ag,List.filter_flatMap,List.filter_flatMap];refine Q3 fun j K=>?_;rcases h j K with⟨al,g2⟩ | ⟨O,_,⟨u,hu,am⟩,V,Y⟩
   ·rw [al,g2]
   ·obtain⟨a4,a5,a6,a7⟩:=low j K u hu;rw [Y,List.filter_filter];by_cases e:O=k
    ·subst e;exact List.filter_congr fun x _=>by simp
    ·have a8:k<O:=by
      have a3:u∈(Q j).2:=by rw [Y];exact List.mem_filter.2 ⟨hu,by simpa using am⟩
      have:=av u (List.mem_flatMap.2 ⟨j,K,a3⟩);omega
     rw [List.filter_eq_nil_iff.2 fun x ap=>?_,List.filter_eq_nil_iff.2 fun x ap=>?_]
     ·have:=V x ap;simp;omega
     ·have:=V x ap;simp;omega
theorem Ug{qs:Nat→Int×List CI}{p:Int×Int×List CI}(h:p∈Dd qs):∃j,j<13∧p=partOf qs j∧0<(qs j).2.length:=by
 unfold Dd at h;obtain⟨j,K,rfl⟩:=List.mem_map.1 h;obtain⟨O,U⟩:=List.mem_filter.1 K;exact⟨j,List.mem_range.1 O,rfl,of_decide_eq_true U⟩
theorem Qj(qs:Nat→Int×List CI):(Dd qs).length≤13:=by
 unfold Dd;rw [List.length_map];exact Nat.le_trans (List.length_filter_le _ _) (by simp)
theorem T5(qs:Nat→Int×List CI):((Dd qs).flatMap fun p=>p.2.2)=(List.range 13).flatMap fun j=>(qs j).2:=by
 unfold Dd;rw [List.flatMap_map];generalize List.range 13=l
 induction l with
 | nil=>rfl
 | cons j l K=>
  rw [List.filter_cons,List.flatMap_cons];split
  ·rw [List.flatMap_cons,K];rfl
  ·rename_i h;have:(qs j).2= []:=List.length_eq_zero_iff.1 (by simpa using h);rw [K,this];rfl
theorem ZU{F:Nat}{p:Int×Int×List CI}{pre:List CI}{le:Int}{all:List CI}(Z:268435456<F)(ag:p.2.2.length≤268435456)(al:pre.length<2 ^ 38)(V:∀t∈p.2.2,(CF t:Int)=p.2.1)(h:DF pre (le,all)):
  A0 (iter (Li F p) F (le,all,0)) (fun r=>DF (pre++p.2.2) r):=by
 refine Cl p.2.2.length (fun i s=>s.2.2=(i:Int)∧DF (pre++p.2.2.take i) (s.1,s.2.1)) ⟨rfl,by simpa using h⟩ (by omega) ?_ ?_
 ·rintro i ⟨a,b,c⟩ hi ⟨O,K⟩;simp only at O K;subst O;unfold Li;refine Bs (by simp only;omega) (Bl (m:=i) rfl hi ?_);obtain⟨q,U,Y⟩:=K.snoc F (t:=p.2.2[i]) (by simp;omega);rw [V _ (List.getElem_mem hi)] at U;refine AM U (AW ((i+1:Nat):Int) (by simp) (by omega) (by omega) ?_);refine Ak ⟨rfl,?_⟩;rw [List.take_add_one,List.getElem?_eq_getElem hi];simpa using Y
 ·rintro⟨a,b,c⟩ ⟨O,K⟩;simp only at O K;subst O;unfold Li;refine A5 (by simp) (Ak ⟨_,rfl,?_⟩);rw [List.take_length] at K;exact K
theorem ZI{F n:Nat}{J:JW}{lk:Bb}(al:268435456<F)(am:VJ n J)(ag:B8 n lk):A0 (f93 F (J.1,J.2,Gb J) lk) (fun r=>DF (TT J lk) r):=by
 obtain⟨qs,e,Y⟩:=Qv (F:=F) (by omega) am ag;unfold f93;refine AM e ?_;have a0:=Qj qs;have hlen:∀p∈Dd qs,p.2.2.length≤268435456∧∀t∈p.2.2,(CF t:Int)=p.2.1:=fun p Z=>by
  obtain⟨j,U,rfl,_⟩:=Ug Z;exact⟨Nat.le_trans (Y j U).len (Sn ag j),fun t ht=>((Y j U).sub t ht).2⟩
 refine AE (S:=fun r=>DF ((Dd qs).flatMap fun p=>p.2.2) r) ?_ ?_
 ·refine Cl (Dd qs).length (fun i s=>s.2.2=(i:Int)∧DF (((Dd qs).take i).flatMap fun p=>p.2.2) (s.1,s.2.1)) ⟨rfl,.inl ⟨rfl,rfl⟩⟩ (by omega) ?_ ?_
  ·rintro i ⟨a,b,c⟩ hi ⟨O,K⟩;simp only at O K;subst O;unfold M8;refine Bs (by simp only;omega) (Bl (m:=i) rfl hi ?_);obtain⟨ap,g2⟩:=hlen _ (List.getElem_mem hi);have a1:(((Dd qs).take i).flatMap fun p=>p.2.2).length≤((Dd qs).take i).length*268435456:=Ks fun p Z=>(hlen p (List.mem_of_mem_take Z)).1;have av:((Dd qs).take i).length≤13:=by rw [List.length_take];omega
   have hmul:((Dd qs).take i).length*268435456≤13*268435456:=Nat.mul_le_mul_right _ av;refine AE (ZU al ap (by omega) g2 K) ?_;intro r V;refine AW ((i+1:Nat):Int) (by simp) (by omega) (by omega) ?_;refine Ak ⟨rfl,?_⟩;rw [List.take_add_one,List.getElem?_eq_getElem hi];simp only [Option.toList_some,List.flatMap_append,List.flatMap_cons,List.flatMap_nil,List.append_nil];exact V
  ·rintro⟨a,b,c⟩ ⟨O,K⟩;simp only at O K;subst O;unfold M8;refine A5 (by simp) (Ak ⟨_,rfl,?_⟩);rw [List.take_length] at K;exact K
 ·intro r V;refine Ak ?_;rw [T5] at V;exact DF.flat (fun j U=>Y j (List.mem_range.1 U)) V
end Pal
namespace Pal
theorem DF.W9{K:List CI}{q:Int×List CI}(h:DF K q):q.2= []↔K= []:=by
 rcases h with⟨O,rfl⟩ | ⟨k,_,⟨t,ht,U⟩,_,V⟩
 ·simp [O]
 ·constructor
  ·intro e;have:t∈q.2:=by rw [V];exact List.mem_filter.2 ⟨ht,by simpa using U⟩
   rw [e] at this;simp at this
  ·rintro rfl;simp at ht
def FL(J:JW)(lk:Bb)(k:Nat):Prop:=(∃t∈TT J lk,CF t=k)∧∀t∈TT J lk,k≤CF t
def GF(J:JW)(lk:Bb)(k:Nat):List CI:=(TT J lk).filter fun t=>decide (CF t=k)
theorem FL.pos{J:JW}{lk:Bb}{k:Nat}(h:FL J lk k):0<(GF J lk k).length:=by
 obtain⟨⟨t,ht,K⟩,_⟩:=h;exact List.length_pos_of_mem (List.mem_filter.2 ⟨ht,by simpa using K⟩)
theorem FL.uniq{J:JW}{lk:Bb}{k k':Nat}(h:FL J lk k)(K:FL J lk k'):k=k':=by
 obtain⟨⟨t,ht,Z⟩,O⟩:=h;obtain⟨⟨U,V,ag⟩,Y⟩:=K;have:=O U V;have:=Y t ht;omega
theorem I9{J:JW}{lk:Bb}{t:CI}:t∈TT J lk↔∃a,a<13∧t∈TA J lk a:=by
 unfold TT;rw [List.mem_flatMap];exact⟨fun⟨a,K,O⟩=>⟨a,List.mem_range.1 K,O⟩,fun⟨a,K,O⟩=>⟨a,List.mem_range.2 K,O⟩⟩
theorem O7{J:JW}{lk:Bb}{a:Nat}{t:CI}(h:t∈TA J lk a):t.1=(a:Int):=by
 obtain⟨x,_,rfl⟩:=List.mem_map.1 h;rfl
theorem aI{F n:Nat}{J:JW}{lk:Bb}(O:100<F)(U:VJ n J)(V:B8 n lk){t:CI}(ht:t∈TT J lk):t.2.2<65536∧0≤t.1∧t.1<13:=by
 obtain⟨a,Y,K⟩:=I9.1 ht;obtain⟨_,_,_,h⟩:=OC O U V Y;have:=O7 K;exact⟨h t K,by omega,by omega⟩
theorem YI{n:Nat}{J:JW}{lk:Bb}(K:B8 n lk):(TT J lk).length≤13*268435456:=by
 unfold TT;have:=Ks (l:=List.range 13) (f:=TA J lk) (b:=268435456) fun a _=>Sn K a;simpa using this
theorem Z0{F n:Nat}{J:JW}{lk:Bb}{p:Int}(b:Bool)(Y:268435456<F)(K:VJ n J)(U:B8 n lk)(Z:lk.length≤4)(ag: -1≤p∧p<(lk.length:Int)):
  A0 (f78 F J lk p b) (fun r=>DF (TT J lk) r.2.1∧r.2.2=if TT J lk= []∧b=false then 11 else 0):=by
 unfold f78;refine AM (OY (by omega) K U Z) (A5 (by simp) ?_);refine AW ((lk.length:Int) - 1) rfl (by omega) (by omega) (AM (HR F _ _ _) ?_);refine A5 (by simp;omega) (AM (SG (by omega) K) ?_);refine AM (b:=(J.1,J.2,Gb J)) rfl (AE (ZI Y K U) ?_);intro r O;have V:=O.W9;refine AE (S:=fun c=>c=decide (TT J lk= []∧b=false)) ?_ ?_
 ·refine Bn (fun h=>?_) (fun h=>?_)
  ·have:TT J lk= []:=V.1 (List.length_eq_zero_iff.1 (by omega));refine Ak ?_;cases b <;> simp [this]
  ·have:TT J lk≠ []:=fun e=>h (by rw [V.2 e];rfl);exact Ak (by simp [this])
 ·rintro c rfl;refine Bn (fun h=>?_) (fun h=>?_)
  ·exact Ak ⟨O,by rw [if_pos (of_decide_eq_true h)]⟩
  ·exact Ak ⟨O,by rw [if_neg (of_decide_eq_false (by simpa using h))]⟩
theorem asked{F n:Nat}{J:JW}{lk:Bb}{p:Int}(Z:268435456<F)(ag:VJ n J)(al:B8 n lk)(K:lk.length≤4)(am: -1≤p∧p<(lk.length:Int)):
  A0 (f78 F J lk p false) (fun r=>(TT J lk= []∧r.2.1=(0,[])∧r.2.2=11)∨∃k,FL J lk k∧r.2.1=((k:Int),GF J lk k)∧r.2.2=0):=by
 refine(Z0 false Z ag al K am).Ah ?_;rintro⟨x,⟨q1,q2⟩,e⟩ ⟨V,U⟩;simp only at V U;rcases V with⟨O,K⟩ | ⟨k,O,K,ap,Y⟩
 ·exact .inl ⟨O,K,by rw [U,if_pos (by simp [O])]⟩
 ·refine .inr ⟨k,⟨K,ap⟩,?_,?_⟩
  ·simp only at O Y;rw [O,Y];rfl
  ·obtain⟨t,ht,_⟩:=K;simp only;rw [U,if_neg];rintro⟨av,_⟩;rw [av] at ht;simp at ht
def G6(J:JW)(lk:Bb)(p:Nat):List Int:=((List.range 13).filter fun a=>(TA J lk a).any fun t=>decide (CF t≤p)).map fun(a:Nat)=>(a:Int)
theorem U2(J:JW)(lk:Bb)(p:Nat):(G6 J lk p).length≤13:=by
 unfold G6;rw [List.length_map];exact Nat.le_trans (List.length_filter_le _ _) (by simp)
theorem YD{F n p:Nat}{J:JW}{lk:Bb}(a3:268435456<F)(K:VJ n J)(O:B8 n lk)(Y:lk.length≤4)(a4:p≤4):f43 F J lk (p:Int)=some (if G6 J lk p= [] then([],11) else(G6 J lk p,0)):=by
 obtain⟨qs,e,Z⟩:=Qv (F:=F) (by omega) K O;have a5:=Qj qs;refine CE ?_;unfold f43;refine AM (OY (by omega) K O Y) (A5 (by simp) ?_);refine AM (HR F _ _ _) (A5 (by simp;omega) ?_);refine AM (SG (by omega) K) (AM (b:=(J.1,J.2,Gb J)) rfl ?_);refine AM e ?_;have ag:((Dd qs).filter fun q=>decide (q.2.1≤(p:Int))).map (fun q=>q.1)=G6 J lk p:=by
  unfold Dd G6;rw [List.filter_map,List.map_map,List.filter_filter];have:(List.range 13).filter (fun j=>((fun q:Int×Int×List CI=>decide (q.2.1≤(p:Int)))∘partOf qs) j&&decide (0<(qs j).2.length))=(List.range 13).filter fun a=>(TA J lk a).any fun t=>decide (CF t≤p):=by
   refine List.filter_congr fun j al=>?_;have am:=Z j (List.mem_range.1 al);rw [Bool.eq_iff_iff];simp only [Function.comp,partOf,Bool.and_eq_true,decide_eq_true_iff,List.any_eq_true];rcases am with⟨U,g2⟩ | ⟨k,U,⟨t,ht,ap⟩,av,a0⟩
   ·constructor
    ·rintro⟨_,h⟩;rw [g2] at h;simp at h
    ·rintro⟨t,ht,_⟩;rw [U] at ht;simp at ht
   ·have:t∈(qs j).2:=by rw [a0];exact List.mem_filter.2 ⟨ht,by simpa using ap⟩
    have a1:=List.length_pos_of_mem this;constructor
    ·rintro⟨a2,_⟩;have V:(qs j).1≤(p:Int):=of_decide_eq_true a2;exact⟨t,ht,by omega⟩
    ·rintro⟨s,hs,a6⟩;have:=av s hs;have V:(qs j).1≤(p:Int):=by omega
     exact⟨decide_eq_true V,a1⟩
  rw [this];rfl
 refine AE (S:=fun r=>r=G6 J lk p) ?_ ?_
 ·rw [← ag];refine Cl (Dd qs).length (fun i s=>s=((((Dd qs).take i).filter fun q=>decide (q.2.1≤(p:Int))).map (fun q=>q.1),(i:Int))) rfl (by omega) ?_ ?_
  ·rintro i s hi rfl;unfold Pb;refine Bs (by simp only;omega) (Bl (m:=i) rfl hi ?_);refine AE (S:=fun c=>c=(((Dd qs).take (i+1)).filter fun q=>decide (q.2.1≤(p:Int))).map (fun q=>q.1)) ?_ ?_
   ·rw [List.take_add_one,List.getElem?_eq_getElem hi];simp only [Option.toList_some];rw [List.filter_append,List.map_append];refine Bn (fun h=>?_) (fun h=>?_)
    ·refine IT ?_ (Ak ?_)
     ·rw [List.length_map];exact Nat.le_trans (Nat.add_le_add_right (Nat.le_trans (List.length_filter_le _ _) (show((Dd qs).take i).length≤13 by rw [List.length_take];omega)) 1) (by omega)
     ·simp [List.filter_cons,h]
    ·refine Ak ?_;simp [List.filter_cons,h]
   ·rintro c rfl;exact AW ((i+1:Nat):Int) (by simp) (by omega) (by omega) (Ak rfl)
  ·rintro s rfl;unfold Pb;refine A5 (by simp) (Ak ⟨_,rfl,?_⟩);rw [List.take_length]
 ·rintro r rfl;refine Bn (fun h=>?_) (fun h=>?_)
  ·rw [if_pos (List.length_eq_zero_iff.1 (by omega))];exact Ak rfl
  ·rw [if_neg (fun e=>h (by rw [e];rfl))];exact Ak rfl
theorem Zk{F:Nat}{l:List CI}(ag:l.length<F)(hlen:l.length<2 ^ 40)(h:∀t∈l,0≤t.1∧t.1<13):A0 (f87 F l) (fun r=>r<2 ^ 13∧∀a:Nat,r.testBit a=true↔∃t∈l,t.1=(a:Int)):=by
 unfold f87;refine AE (S:=fun r=>r<2 ^ 13∧∀a:Nat,r.testBit a=true↔∃t∈l,t.1=(a:Int)) ?_ (fun r Y=>Ak Y);refine Cl l.length (fun i s=>s.2=(i:Int)∧s.1<2 ^ 13∧∀a:Nat,s.1.testBit a=true↔∃t∈l.take i,t.1=(a:Int)) ⟨rfl,by simp,fun a=>by simp⟩ (by omega) ?_ ?_
 ·rintro i ⟨s,c⟩ hi ⟨O,U,K⟩;simp only at O U K;subst O;unfold Nf;have hm:=h _ (List.getElem_mem hi);refine Bs (by simp only;omega) (Bl (m:=i) rfl hi ?_);have Z:l[i].1=((l[i].1.toNat:Nat):Int):=by omega
  have V:=O8 F (s:=s) (n:=l[i].1.toNat) (by omega) (by omega);rw [← Z] at V;refine AM V ?_;refine AW ((i+1:Nat):Int) (by simp) (by omega) (by omega) ?_;refine Ak ⟨rfl,?_,fun a=>?_⟩
  ·refine Nat.or_lt_two_pow U ?_;rw [Nat.one_shiftLeft];exact Nat.pow_lt_pow_right (by omega) (by omega)
  ·simp only;rw [Nat.testBit_or,Bool.or_eq_true,K,Nat.one_shiftLeft,Nat.testBit_two_pow,decide_eq_true_iff,List.take_add_one,List.getElem?_eq_getElem hi];simp only [Option.toList_some,List.mem_append,List.mem_singleton];constructor
   ·rintro(⟨t,t1,t2⟩ | al)
    ·exact⟨t,.inl t1,t2⟩
    ·exact⟨l[i],.inr rfl,by omega⟩
   ·rintro⟨t,t1 | t1,t2⟩
    ·exact .inl ⟨t,t1,t2⟩
    ·subst t1;exact .inr (by omega)
 ·rintro⟨s,c⟩ ⟨O,U,K⟩;simp only at O U K;subst O;unfold Nf;refine A5 (by simp) (Ak ⟨_,rfl,U,?_⟩);rw [List.take_length] at K;exact K
end Pal
namespace Pal
def GD(J:JW)(a:Nat)(p:List Int):Prop:=(∀m,p[0]? =some m→∃k:Nat,m=(k:Int)∧(AG J a).testBit k=true)∧∀(y:Nat) m m',p[y]? =some m→p[y+1]? =some m'→m'∈J.1.getD m.toNat []
theorem GD.range{n a:Nat}{J:JW}{p:List Int}(K:VJ n J)(h:GD J a p):∀(y:Nat) m,p[y]? =some m→0≤m∧m<(n:Int)
 | 0,m,hm=>by
  obtain⟨k,rfl,O⟩:=h.1 m hm
  have:=I2 (IH K a) O
  omega
 | y+1,m,hm=>by
  have U:y<p.length:=by have:=(List.getElem?_eq_some_iff.1 hm).1;omega
  exact(K.FR _).inr _ (h.2 y p[y] m (List.getElem?_eq_getElem U) hm)
theorem GD.take{a:Nat}{J:JW}{p:List Int}(h:GD J a p)(k:Nat):GD J a (p.take k):=by
 have key:∀(y:Nat) m,(p.take k)[y]? =some m→p[y]? =some m:=fun y m hm=>by
  rw [List.getElem?_take] at hm;split at hm
  ·exact hm
  ·cases hm
 exact⟨fun m hm=>h.1 m (key 0 m hm),fun y m m' K O=>h.2 y m m' (key _ _ K) (key _ _ O)⟩
theorem GD.snoc{a:Nat}{J:JW}{p:List Int}{m x:Int}(h:GD J a (p++ [m]))(U:x∈J.1.getD m.toNat []):GD J a (p++ [m]++ [x]):=by
 constructor
 ·intro y O;rw [List.getElem?_append_left (by simp)] at O;exact h.1 y O
 ·intro y u V hu K;rcases Nat.lt_or_ge (y+1) (p++ [m]).length with Y | Z
  ·rw [List.getElem?_append_left (by omega)] at hu;rw [List.getElem?_append_left Y] at K;exact h.2 y u V hu K
  ·have ag:=(List.getElem?_eq_some_iff.1 K).1;simp only [List.length_append,List.length_singleton] at Z ag;have e:y=p.length:=by omega
   subst e;rw [List.getElem?_append_left (by simp),List.getElem?_append_right (by omega)] at hu;rw [List.getElem?_append_right (by simp)] at K;simp at hu K;subst hu;subst K;exact U
theorem Ya{n a q:Nat}{J:JW}{x:Int}(K:VJ n J)(O:(AG J a).testBit q=true)(U:x∈J.1.getD q []):∃k:Nat,x=(k:Int)∧(AG J (a+1)).testBit k=true:=by
 have V:=(K.FR q).inr x U;refine⟨x.toNat,by omega,?_⟩;show(GK J.1 (AG J a)).testBit _=true;rw [OS K];exact⟨q,by have:=I2 (IH K a) O;have:=K.le;omega,O,by rw [show((x.toNat:Nat):Int)=x by omega];exact U⟩
theorem VJ.Tt{n q:Nat}{J:JW}(K:VJ n J)(U:q<n):J.1[q]? =some (J.1.getD q [])∧0<(J.1.getD q []).length:=by
 have V:=K.l1;have O:J.1[q]? =some (J.1.getD q []):=by rw [List.getD_eq_getElem?_getD,List.getElem?_eq_getElem (by omega)];rfl
 exact⟨O,(K.nx q _ O).2⟩
theorem ah{F k n yrs:Nat}{b:EA}{J:JW}(bp:100<F)(K:VJ n J)(hb:BG k b)(bq:k<1000)(br:yrs≤20):
  A0 (f45 F b J (yrs:Int)) (fun r=>∃a:Nat,r.1=(a:Int)∧a≤6∧r.2.1.length=yrs∧GD J a r.2.1∧BG (k+30) r.2.2):=by
 have bu:=K.le;have bv:=K.pos;unfold f45;refine AE (HU hb (by omega) (by omega)) ?_;rintro⟨a5,bw⟩ ⟨a8,g2,a6⟩;simp only at a8 g2 a6 ⊢;obtain⟨a,rfl⟩:∃a:Nat,a5=(a:Int):=⟨a5.toNat,by omega⟩;refine AE (S:=fun r=>∃q:Nat,r.1=(q:Int)∧(AG J a).testBit q=true∧BG (k+7) r.2) ?_ ?_
 ·refine Cl a (fun i s=>∃q:Nat,s.2.2.2.1=(q:Int)∧(AG J i).testBit q=true∧s.2.2.2.2=(i:Int)∧BG (k+1+i) (s.1,s.2.1,s.2.2.1)) ⟨0,rfl,by show(1:Nat).testBit 0=true;decide,rfl,a6⟩ (by omega) ?_ ?_
  ·rintro i ⟨s1,s2,a2,Z,a1⟩ hi ⟨q,O,ag,al,am⟩;simp only at O al am;subst O;subst al;unfold Nr;have a9:=I2 (IH K i) ag;obtain⟨a3,a4⟩:=K.Tt a9;refine Bs (by simp only;omega) (AM (D6 (m:=q) rfl a3) ?_);refine AE (Nl (F:=F) am (by omega) a4 (by have:=(K.FR q).len;omega)) ?_;rintro⟨x,bb⟩ ⟨ap,av⟩;simp only at ap av ⊢;obtain⟨bd,rfl,be⟩:=Ya K ag ap;exact AW ((i+1:Nat):Int) (by simp) (by omega) (by omega) (Ak ⟨bd,rfl,be,rfl,av⟩)
  ·rintro⟨s1,s2,a2,Z,a1⟩ ⟨q,O,ag,al,am⟩;simp only at O al am;subst O;subst al;unfold Nr;exact A5 (by simp) (Ak ⟨_,rfl,q,rfl,ag,am.Ah (by omega)⟩)
 ·rintro⟨bx,bb⟩ ⟨q,O,ag,av⟩;simp only at O av ⊢;subst O;refine AE (S:=fun r=>r.1.length=yrs∧GD J a r.1∧BG (k+30) r.2) ?_ ?_
  ·refine Cl yrs (fun i s=>s.2.2.2.2.1.length=i∧s.2.2.2.2.2=(i:Int)∧GD J a (s.2.2.2.2.1++ [s.2.2.2.1])∧BG (k+7+i) (s.1,s.2.1,s.2.2.1)) ⟨rfl,rfl,⟨?_,?_⟩,av⟩ (by omega) ?_ ?_
   ·intro m hm;simp at hm;subst hm;exact⟨q,rfl,ag⟩
   ·intro y m m' _ bi;simp at bi
   ·rintro i ⟨s1,s2,a2,Z,a1,bn⟩ hi ⟨U,Y,V,a0⟩;simp only at U Y V a0;subst Y;unfold M9;have bz:=V.range K i Z (by rw [List.getElem?_append_right (by omega)];simp [U]);obtain⟨u,hu⟩:∃u:Nat,Z=(u:Int):=⟨Z.toNat,by omega⟩;subst hu;obtain⟨a3,a4⟩:=K.Tt (q:=u) (by omega);refine Bs (by simp only;omega) (IT (by simp only;omega) ?_);refine AM (D6 (m:=u) rfl a3) (AE (Nl (F:=F) a0 (by omega) a4 (by have:=(K.FR u).len;omega)) ?_);rintro⟨x,bo⟩ ⟨ap,a7⟩;simp only at ap a7 ⊢;exact AW ((i+1:Nat):Int) (by simp) (by omega) (by omega) (Ak ⟨by simp [U],rfl,V.snoc (by simpa using ap),a7⟩)
   ·rintro⟨s1,s2,a2,Z,a1,bn⟩ ⟨U,Y,V,a0⟩;simp only at U Y V a0;subst Y;unfold M9;refine A5 (by simp) (Ak ⟨_,rfl,U,?_,a0.Ah (by omega)⟩);have:=V.take a1.length
    rwa [List.take_left' rfl] at this
  ·rintro⟨ms,bo⟩ ⟨U,Y,V⟩;exact Ak ⟨a,rfl,by omega,U,Y,V⟩
theorem B8.snoc{n:Nat}{lk:Bb}{l:Int×Int}(h:B8 n lk)(Z:lk.length<4)(U:0≤l.1∧l.1≤6)(V:0≤l.2∧l.2<(n:Int))(Y:∀x∈lk,x.1≤l.1):B8 n (lk++ [l]) where
 len:=by simp;omega
 yr x K:=by
  rcases List.mem_append.1 K with K | K
  ·exact h.yr x K
  ·simp at K;subst K;exact U
 sn x K:=by
  rcases List.mem_append.1 K with K | K
  ·exact h.sn x K
  ·simp at K;subst K;exact V
 IQ:=by
  rw [List.pairwise_append];exact⟨h.IQ,by simp,fun x K y O=>by simp at O;subst O;exact Y x K⟩
theorem B8.nil{n:Nat}:B8 n []:=⟨by simp,by simp,by simp,by simp⟩
theorem YZ{F k n many:Nat}{b:EA}{J:JW}{ms:List Int}(fl:Bool)(bu:100<F)(ap:VJ n J)(hb:BG k b)(bv:k<1000)(hm:many≤4)(a7:0<ms.length∧ms.length≤7)(Y:∀(y:Nat) m,ms[y]? =some m→0≤m∧m<(n:Int)):
  A0 (f46 F b J ms (many:Int) fl) (fun r=>B8 n r.1∧r.1.length≤many∧(∀l∈r.1,l.1.toNat<ms.length)∧(fl=false→∀l∈r.1,ms[l.1.toNat]? =some l.2)∧BG (k+30) r.2):=by
 have a8:=ap.l2;unfold f46;refine AE (HU hb (by omega) (by omega)) ?_;rintro⟨ct,bw⟩ ⟨a9,g2,av⟩;simp only at a9 g2 av ⊢;obtain⟨c,rfl⟩:∃c:Nat,ct=(c:Int):=⟨ct.toNat,by omega⟩;refine AE (S:=fun r=>B8 n r.1∧r.1.length≤many∧(∀l∈r.1,l.1.toNat<ms.length)∧(fl=false→∀l∈r.1,ms[l.1.toNat]? =some l.2)∧BG (k+30) r.2) ?_ (fun r Y=>Ak Y);refine MD (fun m s=>∃y:Nat,s.2.2.2.2.2=(m:Int)∧s.2.2.2.2.1=(y:Int)∧y<ms.length∧s.2.2.2.1.length+m≤many∧B8 n s.2.2.2.1∧(∀l∈s.2.2.2.1,l.1≤(y:Int))∧(fl=false→∀l∈s.2.2.2.1,ms[l.1.toNat]? =some l.2)∧BG (k+29 - 4*m) (s.1,s.2.1,s.2.2.1)) ?_ (m:=c) ⟨0,rfl,rfl,a7.1,by simp;omega,B8.nil,by simp,by simp,av.Ah (by omega)⟩ (by omega);rintro m ⟨s1,s2,bx,out,yr,cnt⟩ ⟨y,a0,a1,bz,hlen,U,hle,Z,ag⟩;simp only at a0 a1 hlen U hle Z ag;subst a0;subst a1;unfold Pa;refine Bn (fun bb=>?_) (fun bd=>?_)
 ·simp only at bb;have bA:0<m:=by omega
  refine AW ((ms.length - 1:Nat):Int) (by omega) (by omega) (by omega) (AW ((y+2:Nat):Int) (by simp only;omega) (by omega) (by omega) ?_);refine AE (Pd (F:=F) ag (by omega) (by simp only;omega) (by simp only;omega) (by omega)) ?_;rintro⟨a2,bB⟩ ⟨v1,v2,al⟩;simp only at v1 v2 al ⊢;obtain⟨z,rfl⟩:∃z:Nat,a2=(z:Int):=⟨a2.toNat,by omega⟩;have a3:z<ms.length:=by omega
  have hg:ms[z]? =some ms[z]:=List.getElem?_eq_getElem a3;obtain⟨bC,be⟩:=Y z _ hg;obtain⟨q,bi⟩:∃q:Nat,ms[z]=(q:Int):=⟨ms[z].toNat,by omega⟩;rw [bi] at hg be;have bD:q<n:=by omega
  have bn:J.2[q]? =some (J.2.getD q []):=by rw [List.getD_eq_getElem?_getD,List.getElem?_eq_getElem (by omega)];rfl
  have a4:=ap.PM q;refine AM (D6 (m:=z) rfl hg) ?_;refine AM (D6 (m:=z) rfl hg) ?_;refine AM (D6 (m:=q) rfl bn) ?_;refine AE (S:=fun c=>c=true→fl=true∧0<(J.2.getD q []).length) ?_ ?_
  ·refine Bn (fun h=>Ak fun O=>⟨h,by have:=of_decide_eq_true O;omega⟩) (fun _=>Ak fun O=>by cases O)
  ·intro bE bo;refine AE (S:=fun r=>(r.1=true→fl=true∧0<(J.2.getD q []).length)∧BG (k+29 - 4*m+2) r.2) ?_ ?_
   ·refine Bn (fun h=>?_) (fun _=>Ak ⟨fun O=>(by cases O),BG.Ah al (by omega)⟩);refine AE (Ln (F:=F) al (by omega) (by omega) (by omega)) ?_;rintro⟨o,bp⟩ V;exact Ak ⟨fun _=>bo h,V⟩
   ·rintro⟨c2,bp⟩ ⟨a5,V⟩;simp only at a5 V ⊢;refine AE (S:=fun r=>0≤r.2.2.2∧r.2.2.2<(n:Int)∧(fl=false→r.2.2.2=(q:Int))∧BG (k+29 - 4*m+3) (r.1,r.2.1,r.2.2.1)) ?_ ?_
    ·refine Bn (fun h=>?_) (fun _=>Ak ⟨by simp only;omega,by simp only;omega,fun _=>rfl,BG.Ah V (by omega)⟩);obtain⟨f1,f2⟩:=a5 h;refine AE (Nl (F:=F) V (by omega) f2 (by have:=a4.len;omega)) ?_;rintro⟨x,bF⟩ ⟨am,bq⟩;have:=a4.inr x am;exact Ak ⟨this.1,this.2,fun O=>(by rw [f1] at O;cases O),bq⟩
    ·rintro⟨u1,u2,bG,sn⟩ ⟨w1,w2,w3,w4⟩;simp only at w1 w2 w3 w4 ⊢;refine IT (by have:=U.len;omega) (AW ((m - 1:Nat):Int) (by omega) (by omega) (by omega) ?_);refine Ak ⟨m - 1,by omega,z,rfl,rfl,a3,by simp;omega,?_,?_,?_,w4.Ah (by omega)⟩
     ·exact U.snoc (by have:=U.len;omega) ⟨by simp only;omega,by simp only;omega⟩ ⟨w1,w2⟩ fun x am=>by have:=hle x am;simp only;omega
     ·intro l K;rcases List.mem_append.1 K with K | K
      ·have:=hle l K;omega
      ·simp at K;subst K;exact Int.le_refl _
     ·intro a6 l K;rcases List.mem_append.1 K with K | K
      ·exact Z a6 l K
      ·simp at K;subst K;rw [w3 a6];exact hg
 ·simp only at bd;have br:m=0:=by omega
  subst br;exact Ak ⟨U,by omega,fun l K=>by have bH:=hle l K;have a8:=U.yr l K;omega,Z,ag.Ah (by omega)⟩
theorem B8.set{n i:Nat}{lk:Bb}{s:Int}(h:B8 n lk)(hi:i<lk.length)(hs:0≤s∧s<(n:Int)):B8 n (lk.set i (lk[i].1,s)):=by
 have hm:=List.getElem_mem hi;refine⟨by simpa using h.len,fun l K=>?_,fun l K=>?_,?_⟩
 ·rcases List.mem_or_eq_of_mem_set K with O | rfl
  ·exact h.yr l O
  ·exact h.yr lk[i] hm
 ·rcases List.mem_or_eq_of_mem_set K with O | rfl
  ·exact h.sn l O
  ·exact hs
 ·have key:(lk.set i (lk[i].1,s)).map (fun l=>l.1)=lk.map (fun l=>l.1):=by
   rw [List.map_set];apply List.ext_getElem?;intro j;by_cases e:i=j
   ·subst e;rw [List.getElem?_set_self (by simpa using hi)];simp [hi]
   ·rw [List.getElem?_set_ne e]
  have U:(lk.map fun l=>l.1).Pairwise (·≤·):=List.pairwise_map.2 h.IQ;rw [← key] at U;exact List.pairwise_map.1 U
theorem Zp{F k n many:Nat}{b:EA}{J:JW}(V:100<F)(K:VJ n J)(hb:BG k b)(a8:k<900)(hm:many≤4):
  A0 (f40 F b J (many:Int)) (fun r=>B8 n r.1∧r.1.length≤many∧(∀l∈r.1,l.1.toNat<5)∧BG (k+100) r.2):=by
 have a9:=K.l1;have bb:=K.pos;have bd:=K.le;unfold f40;refine AE (ah (yrs:=5) V K hb (by omega) (by omega)) ?_;rintro⟨be,ms,bi⟩ ⟨a,_,_,g2,Y,Z⟩;simp only at g2 Y Z ⊢;refine AE (YZ (many:=many) true V K Z (by omega) hm ⟨by omega,by omega⟩ (Y.range K)) ?_;rintro⟨lk,bn⟩ ⟨v1,v2,ag,_,al⟩;simp only at v1 v2 ag al ⊢;refine AE (S:=fun r=>B8 n r.1∧r.1.length≤many∧(∀l∈r.1,l.1.toNat<5)∧BG (k+100) r.2) ?_ (fun r a1=>Ak a1);refine Cl lk.length (fun i s=>s.2.2.2.2=(i:Int)∧B8 n s.2.2.2.1∧s.2.2.2.1.length=lk.length∧(∀l∈s.2.2.2.1,l.1.toNat<5)∧BG (k+60+3*i) (s.1,s.2.1,s.2.2.1)) ⟨rfl,v1,rfl,fun l a2=>by have:=ag l a2;omega,al⟩ (by have:=v1.len;omega) ?_ ?_
 ·rintro i ⟨s1,s2,a3,l,c⟩ hi ⟨e,w1,w2,w3,w4⟩;simp only at e w1 w2 w3 w4;subst e;unfold Nt;have O:i<l.length:=by omega
  have a4:=v1.len;refine Bs (by simp only;omega) ?_;refine AE (Ln (F:=F) w4 (by omega) (by omega) (by omega)) ?_;rintro⟨o,bo⟩ U;simp only at U ⊢;refine AE (S:=fun r=>B8 n r.1∧r.1.length=lk.length∧(∀x∈r.1,x.1.toNat<5)∧BG (k+60+3*i+2) r.2) ?_ ?_
  ·refine Bn (fun _=>?_) (fun _=>Ak ⟨w1,w2,w3,BG.Ah U (by omega)⟩);refine AW ((n - 1:Nat):Int) (by omega) (by omega) (by omega) (AE (HU (F:=F) U (by omega) (by omega)) ?_);rintro⟨x,a5⟩ ⟨am,x2,ap⟩;simp only at am x2 ap ⊢;refine Bl (m:=i) rfl O (Ak ⟨?_,by simpa using w2,?_,ap⟩)
   ·rw [show Int.toNat (i:Int)=i by omega];exact w1.set O ⟨am,by omega⟩
   ·intro y a6;rcases List.mem_or_eq_of_mem_set a6 with a7 | rfl
    ·exact w3 y a7
    ·exact w3 l[i] (List.getElem_mem O)
  ·rintro⟨l2,a5⟩ ⟨u1,u2,av,a0⟩;simp only at u1 u2 av a0 ⊢;exact AW ((i+1:Nat):Int) (by simp) (by omega) (by omega) (Ak ⟨rfl,u1,u2,av,BG.Ah a0 (by omega)⟩)
 ·rintro⟨s1,s2,a3,l,c⟩ ⟨e,w1,w2,w3,w4⟩;simp only at e w1 w2 w3 w4;subst e;unfold Nt;have a4:=v1.len;exact A5 (by simp only;omega) (Ak ⟨_,rfl,w1,by simp only;omega,w3,BG.Ah w4 (by omega)⟩)
end Pal
namespace Pal
def Tu(J:JW)(lk:Bb)(p:List Int):Prop:=∀l∈lk,∀m,p[l.1.toNat]? =some m→Fe J m l=true
def Gq(lk:Bb):Nat→List Int→Nat
 | _,[]=>0
 | y,m::p=>BT lk y m lk.length ||| Gq lk (y+1) p
theorem OP(lk:Bb)(i:Nat):∀(p:List Int) (y:Nat),(Gq lk y p).testBit i=true↔∃l,lk[i]? =some l∧∃(q:Nat) (m:Int),p[q]? =some m∧l.1=((y+q:Nat):Int)∧m≠l.2
 | [],y=>by simp [Gq]
 | m::p,y=>by
  unfold Gq
  rw [Nat.testBit_or,Bool.or_eq_true,HS,OP lk i p (y+1)]
  constructor
  ·rintro(⟨_,l,K,O,U⟩ | ⟨l,K,q,u,O,U,V⟩)
   ·exact⟨l,K,0,m,rfl,by simpa using O,U⟩
   ·exact⟨l,K,q+1,u,by simpa using O,by rw [U];congr 1;omega,V⟩
  ·rintro⟨l,K,q,u,O,U,V⟩;cases q with
   | zero=>
    simp at O;subst O;exact .inl ⟨(List.getElem?_eq_some_iff.1 K).1,l,K,by simpa using U,V⟩
   | succ q=>exact .inr ⟨l,K,q,u,by simpa using O,by rw [U];congr 1;omega,V⟩
def LR(J:JW)(lk:Bb):Nat→Nat→List Int→Prop
 | _,_,[]=>True
 | y,sm,m::p=>m∈Cm sm 16∧EI J lk y m=true∧LR J lk (y+1) (CS (J.1.getD m.toNat [])) p
theorem La(J:JW)(lk:Bb)(x:List Int×Nat):∀(k sm:Nat) (ms:List Int) (fl:Nat),x∈D2 J lk k sm ms fl↔∃p,p.length=k∧x.1=ms++p∧LR J lk ms.length sm p∧x.2=fl ||| Gq lk ms.length p
 | 0,sm,ms,fl=>by
  unfold D2
  rw [List.mem_singleton]
  constructor
  ·rintro rfl;exact⟨[],rfl,by simp,trivial,by simp [Gq]⟩
  ·rintro⟨p,K,O,_,U⟩;have:p= []:=List.length_eq_zero_iff.1 K;subst this;simp [Gq] at O U;exact Prod.ext O U
 | k+1,sm,ms,fl=>by
  unfold D2;rw [List.mem_flatMap];constructor
  ·rintro⟨m,hm,V⟩;split at V
   ·rename_i hb;obtain⟨p,K,O,U,Y⟩:=(La J lk x k _ _ _).1 V;refine⟨m::p,by simp [K],by rw [O];simp,⟨hm,hb,by simpa using U⟩,?_⟩;rw [Y];simp only [List.length_append,List.length_singleton,Gq];exact Nat.or_assoc _ _ _
   ·simp at V
  ·rintro⟨p,K,O,U,Y⟩;cases p with
   | nil=>simp at K
   | cons m p=>
    obtain⟨Z,g2,ag⟩:=U;refine⟨m,Z,?_⟩;rw [if_pos g2];refine(La J lk x k _ _ _).2 ⟨p,by simpa using K,by rw [O];simp,by simpa using ag,?_⟩;rw [Y];simp only [List.length_append,List.length_singleton,Gq];exact(Nat.or_assoc _ _ _).symm
theorem OH{J:JW}{lk:Bb}{y:Nat}{m:Int}:EI J lk y m=true↔∀l∈lk,l.1=(y:Int)→Fe J m l=true:=by
 unfold EI;rw [List.all_eq_true];refine forall_congr' fun l=>forall_congr' fun _=>?_;rw [Bool.or_eq_true,decide_eq_true_iff];by_cases h:l.1=(y:Int) <;> simp [h]
theorem Ot{n q:Nat}{J:JW}{m:Int}(U:VJ n J):m∈Cm (CS (J.1.getD q [])) 16↔m∈J.1.getD q []:=by
 have K:=U.FR q;have Y:=U.le;rw [Io];constructor
 ·rintro⟨k,_,V,rfl⟩;rw [KB (fun x O=>(K.inr x O).1)] at V;exact of_decide_eq_true V
 ·intro h;have:=K.inr m h;refine⟨m.toNat,by omega,?_,by omega⟩;rw [KB (fun x O=>(K.inr x O).1),show((m.toNat:Nat):Int)=m by omega];exact decide_eq_true h
theorem OI{n:Nat}{J:JW}{lk:Bb}(ag:VJ n J):∀(p:List Int) (y sm:Nat),LR J lk y sm p↔(∀m,p[0]? =some m→m∈Cm sm 16)∧(∀(q:Nat) m m',p[q]? =some m→p[q+1]? =some m'→m'∈J.1.getD m.toNat [])∧∀l∈lk,∀(q:Nat) m,l.1=((y+q:Nat):Int)→p[q]? =some m→Fe J m l=true
 | [],y,sm=>by simp [LR]
 | m::p,y,sm=>by
  unfold LR
  rw [OI ag p,OH]
  constructor
  ·rintro⟨al,U,V,am,ap⟩
   refine⟨fun u hu=>by simp at hu;subst hu;exact al,fun q u Y hu O=>?_,fun l K q u Z hu=>?_⟩
   ·cases q with
    | zero=>
     simp at hu O;subst hu;exact(Ot ag).1 (V Y (by rw [List.getElem?_eq_some_iff];exact List.getElem?_eq_some_iff.1 O))
    | succ q=>exact am q u Y (by simpa using hu) (by simpa using O)
   ·cases q with
    | zero=>
     simp at hu;subst hu;exact U l K (by simpa using Z)
    | succ q=>exact ap l K q u (by rw [Z];congr 1;omega) (by simpa using hu)
  ·rintro⟨al,U,V⟩;refine⟨al m rfl,fun l K av=>V l K 0 m (by simpa using av) rfl,fun u hu=>(Ot ag).2 (U 0 m u rfl (by simpa using hu)),fun q u Y hu O=>U (q+1) u Y (by simpa using hu) (by simpa using O),fun l K q u Z hu=>V l K (q+1) u (by rw [Z];congr 1;omega) (by simpa using hu)⟩
theorem SA{n a:Nat}{J:JW}{lk:Bb}(U:VJ n J)(av:B8 n lk){t:CI}:t∈TA J lk a↔t.1=(a:Int)∧t.2.1.length=CU lk+1∧GD J a t.2.1∧Tu J lk t.2.1∧t.2.2=Gq lk 0 t.2.1:=by
 have ag:∀m:Int,m∈Cm (AG J a) 16↔∃k:Nat,m=(k:Int)∧(AG J a).testBit k=true:=fun m=>by
  rw [Io];exact⟨fun⟨k,_,O,K⟩=>⟨k,K,O⟩,fun⟨k,O,K⟩=>⟨k,by have:=I2 (IH U a) K;have:=U.le;omega,K,O⟩⟩
 have al:∀p:List Int,(∀l∈lk,∀(q:Nat) m,l.1=((0+q:Nat):Int)→p[q]? =some m→Fe J m l=true)↔Tu J lk p:=fun p=>by
  constructor
  ·intro h l V m hm;have:=av.yr l V;exact h l V l.1.toNat m (by omega) hm
  ·intro h l V q m a3 hm;exact h l V m (by rw [show l.1.toNat=q by omega];exact hm)
 unfold TA;rw [List.mem_map];constructor
 ·rintro⟨x,a0,rfl⟩;obtain⟨p,O,K,Y,Z⟩:=(La J lk x _ _ _ _).1 a0;obtain⟨a1,g2,a2⟩:=(OI U p _ _).1 Y;simp only [List.nil_append] at K;rw [K,Z];refine⟨rfl,O,⟨fun m hm=>(ag m).1 (a1 m hm),g2⟩,(al p).1 a2,?_⟩;simp
 ·rintro⟨O,K,⟨Y,Z⟩,am,ap⟩;obtain⟨t1,t2,t3⟩:=t;simp only at O K Y Z am ap;subst O;subst ap;refine⟨(t2,Gq lk 0 t2),(La J lk _ _ _ _ _).2 ⟨t2,K,by simp,(OI U t2 _ _).2 ⟨fun m hm=>(ag m).2 (Y m hm),Z,(al t2).2 am⟩,by simp⟩,rfl⟩
def NZ(p:List Int)(l:Int×Int):Bool:=decide (p.getD l.1.toNat 0≠l.2)
theorem Qs{α:Type}(lk:List α)(Q:α→Bool):∀k,((List.range k).filter fun i=>(lk[i]?.map Q).getD false).length=((lk.take k).filter Q).length
 | 0=>by simp
 | k+1=>by
  rw [List.range_succ,List.filter_append,List.length_append,Qs lk Q k,List.take_add_one,List.filter_append,List.length_append]
  congr 1
  cases h:lk[k]? with
  | none=>simp [h]
  | some x=>cases K:Q x <;> simp [h,K]
theorem Wt{n:Nat}{lk:Bb}{p:List Int}(V:B8 n lk)(Y:∀l∈lk,l.1.toNat<p.length)(i:Nat):(Gq lk 0 p).testBit i=(lk[i]?.map (NZ p)).getD false:=by
 rw [Bool.eq_iff_iff,OP];cases h:lk[i]? with
 | none=>simp
 | some l=>
  have hm:=List.mem_of_getElem? h;have K:=Y l hm;have ag:=V.yr l hm;have hg:p.getD l.1.toNat 0=p[l.1.toNat]:=by rw [List.getD_eq_getElem?_getD,List.getElem?_eq_getElem K];rfl
  simp only [Option.map_some,Option.getD_some,NZ,decide_eq_true_iff,hg];constructor
  ·rintro⟨al,O,q,m,U,am,Z⟩;cases O;have:l.1.toNat=q:=by omega
   subst this;rw [List.getElem?_eq_getElem K] at U;cases U;exact Z
  ·intro O;exact⟨l,rfl,l.1.toNat,_,List.getElem?_eq_getElem K,by omega,O⟩
theorem Wx{n:Nat}{lk:Bb}(O:B8 n lk):∀l∈lk,l.1.toNat≤CU lk:=by
 intro l U;obtain⟨i,hi,rfl⟩:=List.mem_iff_getElem.1 U;have K:lk.length - 1<lk.length:=by omega
 unfold CU;rw [List.getLast?_eq_getElem?,List.getElem?_eq_getElem K];simp only;rcases Nat.lt_or_ge i (lk.length - 1) with h | h
 ·have:=List.pairwise_iff_getElem.1 O.IQ i (lk.length - 1) hi K h;omega
 ·have e:i=lk.length - 1:=by omega
  subst e;exact Nat.le_refl _
theorem W8{n a:Nat}{J:JW}{lk:Bb}(O:VJ n J)(K:B8 n lk){t:CI}(ht:t∈TA J lk a):CF t=(lk.filter (NZ t.2.1)).length:=by
 obtain⟨_,Y,_,_,U⟩:=(SA O K).1 ht;have Z:=K.len;unfold CF Cm;rw [List.length_map,U];have e:(List.range 16).filter (fun i=>(Gq lk 0 t.2.1).testBit i)=(List.range 16).filter fun i=>(lk[i]?.map (NZ t.2.1)).getD false:=
  List.filter_congr fun i _=>Wt K (fun l V=>by have:=Wx K l V;omega) i
 rw [e,Qs,List.take_of_length_le (by omega)]
end Pal
namespace Pal
theorem Qh(s k:Nat):(Cm s k).Pairwise (·<·):=by
 unfold Cm;rw [List.pairwise_map];exact(List.pairwise_lt_range.filter _).imp fun h=>by omega
theorem YA{F n:Nat}{J:JW}{lk:Bb}(a2:3489660928<F)(ag:VJ n J)(Y:B8 n lk)(ap:lk.length≤4):
  A0 (f61 F J lk) (fun r=>(TT J lk= []∧r=((0,0),11))∨∃k,FL J lk k∧r.2=0∧(∃t∈GF J lk k,t.1=r.1.1)∧(∃t∈GF J lk k,t.1=r.1.2)∧∀t∈GF J lk k,r.1.1≤t.1∧t.1≤r.1.2):=by
 unfold f61;refine AE (asked (by omega) ag Y ap ⟨by omega,by omega⟩) ?_;rintro⟨x,q,e⟩ (⟨U,K,O⟩ | ⟨k,U,K,O⟩)
 ·simp only at K O;subst K;subst O;exact Bs (by simp) (Ak (.inl ⟨U,rfl⟩))
 ·simp only at K O;subst K;subst O;refine A5 (by simp) ?_;have a3:(GF J lk k).length≤3489660928:=Nat.le_trans (List.length_filter_le _ _) (YI Y);have av:=U.pos;have al:∀t∈GF J lk k,0≤t.1∧t.1<13:=fun t ht=>(aI (F:=F) (by omega) ag Y (List.mem_filter.1 ht).1).2;refine AE (Zk (by simp only;omega) (by simp only;omega) al) ?_;rintro s ⟨s1,s2⟩;refine AM (Nc (by omega) (by omega)) ?_;have V:∀x:Int,x∈Cm s 16↔∃t∈GF J lk k,t.1=x:=fun x=>by
   rw [Io];constructor
   ·rintro⟨a,_,K,rfl⟩;exact(s2 a).1 K
   ·rintro⟨t,ht,rfl⟩;have:=al t ht;exact⟨t.1.toNat,by omega,(s2 _).2 ⟨t,ht,by omega⟩,by omega⟩
  have a4:=Kt s 16;have Z:0<(Cm s 16).length:=List.length_pos_of_mem ((V _).2 ⟨_,List.getElem_mem av,rfl⟩);have a0:=Qh s 16;refine Bl (m:=0) rfl Z ?_;refine AW (((Cm s 16).length - 1:Nat):Int) (by omega) (by omega) (by omega) ?_;refine Bl (m:=(Cm s 16).length - 1) rfl (by omega) ?_;refine Ak (.inr ⟨k,U,rfl,(V _).1 (List.getElem_mem Z),(V _).1 (List.getElem_mem (by omega)),fun t ht=>?_⟩);obtain⟨i,hi,a1⟩:=List.mem_iff_getElem.1 ((V _).2 ⟨t,ht,rfl⟩);have am:=List.pairwise_iff_getElem.1 a0;simp only;rw [← a1];constructor
  ·rcases Nat.eq_zero_or_pos i with rfl | h
   ·exact Int.le_refl _
   ·have:=am 0 i Z hi h;omega
  ·rcases Nat.lt_or_ge i ((Cm s 16).length - 1) with h | h
   ·have:=am i _ hi (by omega) h;omega
   ·have e:i=(Cm s 16).length - 1:=by omega
    subst e;exact Int.le_refl _
end Pal
namespace Pal
abbrev Dj(s:Nat):Nat:=(Cm s 16).length
theorem R5(s:Nat):Dj s=(List.range 16).countP fun n=>s.testBit n:=by
 unfold Dj Cm;rw [List.length_map,List.countP_eq_length_filter]
theorem Qx{α:Type}{p q:α→Bool}:∀(l:List α),(∀x∈l,¬(p x=true∧q x=true))→l.countP (fun x=>p x || q x)=l.countP p+l.countP q
 | [],_=>rfl
 | x::l,h=>by
  have:=Qx l (fun y K=>h y (by simp [K]))
  have O:=h x (by simp)
  simp only [List.countP_cons,this]
  cases U:p x <;> cases V:q x <;> simp_all <;> omega
theorem OO{a b:Nat}(h:∀i,¬(a.testBit i=true∧b.testBit i=true)):Dj (a ||| b)=Dj a+Dj b:=by
 simp only [R5,Nat.testBit_or];exact Qx _ fun i _=>h i
theorem XO{a b:Nat}(h:∀i,a.testBit i=true→b.testBit i=true):Dj a≤Dj b:=by
 simp only [R5];exact List.countP_mono_left fun i _ hi=>h i hi
theorem Sf:∀{a b:List Int},a.Pairwise (·<·)→b.Pairwise (·<·)→(∀x,x∈a↔x∈b)→a=b
 | [],[],_,_,_=>rfl
 | [],y::b,_,_,h=>by have:=(h y).2 (by simp);simp at this
 | x::a,[],_,_,h=>by have:=(h x).1 (by simp);simp at this
 | x::a,y::b,Y,hb,h=>by
  obtain⟨U,Z⟩:=List.pairwise_cons.1 Y
  obtain⟨V,ag⟩:=List.pairwise_cons.1 hb
  have al:x=y:=by
   have am:=(h x).1 (by simp);have ap:=(h y).2 (by simp);rcases List.mem_cons.1 am with e | e
   ·exact e
   ·rcases List.mem_cons.1 ap with K | K
    ·exact K.symm
    ·have:=U y K;have:=V x e;omega
  subst al;rw [Sf Z ag fun z=>?_];have O:=h z;simp only [List.mem_cons] at O;constructor
  ·intro hm;rcases O.1 (.inr hm) with e | e
   ·subst e;have:=U z hm;omega
   ·exact e
  ·intro hm;rcases O.2 (.inr hm) with e | e
   ·subst e;have:=V z hm;omega
   ·exact e
theorem UB{n q:Nat}{J:JW}(K:VJ n J):Cm (CS (J.1.getD q [])) 16=J.1.getD q []:=Sf (Qh _ _) (K.FR q).IQ fun _=>Ot K
def Ek(J:JW)(lk:Bb)(h y:Nat)(m:Int):Option Nat:=if EI J lk y m=true∧(BT lk y m lk.length).testBit h=false then some (Dj (BT lk y m lk.length)) else none
def ways(J:JW)(lk:Bb)(h:Nat):Nat→Nat→Int→Nat→Nat
 | 0,y,m,k=>match Ek J lk h y m with
  | some c=>if k=c then 1 else 0
  | none=>0
 | d+1,y,m,k=>match Ek J lk h y m with
  | some c=>if c≤k then((J.1.getD m.toNat []).map fun x=>ways J lk h d (y+1) x (k - c)).sum else 0
  | none=>0
theorem QC{α:Type}{p:α→Bool}{l:List α}(h:∀x∈l,p x=false):l.countP p=0:=List.countP_eq_zero.2 fun x K=>by rw [h x K];simp
theorem Sg{J:JW}{lk:Bb}{k sm:Nat}{ms:List Int}{fl:Nat}{x:List Int×Nat}(K:x∈D2 J lk k sm ms fl)(i:Nat)(h:fl.testBit i=true):x.2.testBit i=true:=by
 obtain⟨p,_,_,_,e⟩:=(La J lk x k sm ms fl).1 K;rw [e,Nat.testBit_or,h];rfl
theorem Xf{n h:Nat}{J:JW}{lk:Bb}(Z:VJ n J):∀(d sm:Nat) (ms:List Int) (fl c:Nat),sm<2 ^ n→fl.testBit h=false→(∀i,fl.testBit i=true→∃l,lk[i]? =some l∧l.1<(ms.length:Int))→
  (D2 J lk (d+1) sm ms fl).countP (fun x=>decide (Dj x.2=c+Dj fl)&& !x.2.testBit h)=((Cm sm 16).map fun m=>ways J lk h d ms.length m c).sum:=by
 intro d
 induction d with
 | zero=>
  intro sm ms fl c a1 hh Y;unfold D2;rw [List.countP_flatMap];refine congrArg List.sum (List.map_congr_left fun m hm=>?_);simp only [Function.comp,ways,Ek];have ag:∀i,¬(fl.testBit i=true∧(BT lk ms.length m lk.length).testBit i=true):=fun i ⟨al,am⟩=>by
   obtain⟨l,O,ap⟩:=Y i al;obtain⟨_,a2,K,av,_⟩:=(HS _ _ _ _ _).1 am;rw [O] at K;cases K;omega
  by_cases hb:EI J lk ms.length m=true
  ·rw [if_pos hb];cases hs:(BT lk ms.length m lk.length).testBit h with
   | true=>rw [if_neg (by simp)];simp [D2,Nat.testBit_or,hh,hs]
   | false=>
    rw [if_pos ⟨hb,rfl⟩];simp only [D2,List.countP_cons,List.countP_nil,Nat.testBit_or,hh,hs,OO ag];by_cases U:c=Dj (BT lk ms.length m lk.length)
    ·rw [if_pos U,if_pos (by simp;omega)]
    ·rw [if_neg U,if_neg (by simp;omega)]
  ·rw [if_neg hb,if_neg fun x=>hb x.1];simp
 | succ d a3=>
  intro sm ms fl c a1 hh Y;unfold D2;rw [List.countP_flatMap];refine congrArg List.sum (List.map_congr_left fun m hm=>?_);simp only [Function.comp,ways,Ek];obtain⟨q,_,a6,rfl⟩:=Io.1 hm;have a4:CS (J.1.getD q [])<2 ^ n:=by
   rcases Nat.lt_or_ge (CS (J.1.getD q [])) (2 ^ n) with h | h
   ·exact h
   ·obtain⟨i,a7,a0⟩:=Nat.exists_ge_and_testBit_of_ge_two_pow h;rw [KB (fun x V=>((Z.FR q).inr x V).1)] at a0;have:=(Z.FR q).inr _ (of_decide_eq_true a0);omega
  have ag:∀i,¬(fl.testBit i=true∧(BT lk ms.length (q:Int) lk.length).testBit i=true):=fun i ⟨al,am⟩=>by
   obtain⟨l,O,ap⟩:=Y i al;obtain⟨_,a2,K,av,_⟩:=(HS _ _ _ _ _).1 am;rw [O] at K;cases K;omega
  by_cases hb:EI J lk ms.length (q:Int)=true
  ·rw [if_pos hb];cases hs:(BT lk ms.length (q:Int) lk.length).testBit h with
   | true=>
    rw [if_neg (by simp)];refine QC fun x V=>?_;have:=Sg V h (by rw [Nat.testBit_or,hs];simp);simp [this]
   | false=>
    rw [if_pos ⟨hb,rfl⟩];have a5:=OO ag;by_cases U:Dj (BT lk ms.length (q:Int) lk.length)≤c
    ·simp only;rw [if_pos U];have:=a3 (CS (J.1.getD q [])) (ms++ [(q:Int)]) (fl ||| BT lk ms.length (q:Int) lk.length) (c - Dj (BT lk ms.length (q:Int) lk.length)) a4 (by rw [Nat.testBit_or,hh,hs];rfl) (fun i hi=>by
      rw [Nat.testBit_or,Bool.or_eq_true] at hi
      rcases hi with hi | hi
      ·obtain⟨l,O,ap⟩:=Y i hi
       exact⟨l,O,by simp;omega⟩
      ·obtain⟨_,l,K,av,_⟩:=(HS _ _ _ _ _).1 hi
       exact⟨l,K,by simp;omega⟩)
     rw [UB Z,a5,show c - Dj (BT lk ms.length (q:Int) lk.length)+(Dj fl+Dj (BT lk ms.length (q:Int) lk.length))=c+Dj fl by omega] at this;rw [show((q:Int)).toNat=q by omega,this,List.length_append];rfl
    ·simp only;rw [if_neg U];refine QC fun x V=>?_;have:=XO (Sg V);rw [Bool.and_eq_false_iff];exact .inl (decide_eq_false (by omega))
  ·rw [if_neg hb,if_neg fun x=>hb x.1];simp
def nT(J:JW)(lk:Bb)(h a k:Nat):Nat:=(TA J lk a).countP fun t=>decide (CF t=k)&& !t.2.2.testBit h
theorem Xx{n:Nat}{J:JW}{lk:Bb}(K:VJ n J)(h a k:Nat):nT J lk h a k=((Cm (AG J a) 16).map fun m=>ways J lk h (CU lk) 0 m k).sum:=by
 have:=Xf (h:=h) (lk:=lk) K (CU lk) (AG J a) [] 0 k (IH K a) (by simp) (by simp);have e:Dj 0=0:=by decide
 rw [e] at this;unfold nT TA;rw [List.countP_map];exact this
theorem W0{n h:Nat}{J:JW}{lk:Bb}(K:VJ n J)(O:B8 n lk)(hh:lk.length≤h)(a k:Nat):nT J lk h a k=(TA J lk a).countP fun t=>decide (CF t=k):=by
 refine List.countP_congr fun t ht=>?_;obtain⟨_,_,_,_,e⟩:=(SA K O).1 ht;have:t.2.2.testBit h=false:=by
  cases hb:t.2.2.testBit h with
  | false=>rfl
  | true=>
   rw [e] at hb;obtain⟨l,U,_⟩:=(OP _ _ _ _).1 hb;have:=(List.getElem?_eq_some_iff.1 U).1;omega
 rw [this];simp
theorem O4{l:List Nat}{b:Nat}(h:∀x∈l,x≤b):l.sum≤l.length*b:=by
 induction l with
 | nil=>simp
 | cons x l K=>
  have U:=h x (by simp);have V:=K fun y O=>h y (by simp [O]);simp only [List.sum_cons,List.length_cons,Nat.succ_mul];omega
theorem RN{n h:Nat}{J:JW}{lk:Bb}(K:VJ n J):∀(d y:Nat) (m:Int) (k:Nat),ways J lk h d y m k≤3 ^ d
 | 0,y,m,k=>by
  unfold ways
  split
  ·split <;> simp
  ·simp
 | d+1,y,m,k=>by
  unfold ways;split
  ·split
   ·refine Nat.le_trans (O4 (b:=3 ^ d) fun x O=>?_) ?_
    ·obtain⟨z,_,rfl⟩:=List.mem_map.1 O;exact RN K d _ _ _
    ·rw [List.length_map,Nat.pow_succ,Nat.mul_comm];exact Nat.mul_le_mul_left _ (K.FR _).len
   ·simp
  ·simp
end Pal
namespace Pal
open Go Go.Conc Go.Proofs
open Go.Proofs.Tryz
variable {J:Judge Tryz.prog}{E:LH}
def Pz(fuel:Nat)(p0:A1):Option Int:= (f113 fuel p0).bind fun K=> (Lt fuel K).bind fun O=> some O
theorem Y0{O:An}{c2:Nat}{U:An}{V:Nat}{p0:A1}(ag:GE E)(al:Al (rL rI) E O c2 p0.1)(am:Al (rL rI) E U V p0.2){fuel:Nat}{r:Int}(Y:Pz fuel p0=some r):AL J 67 [.agg #[sV O p0.1 c2,sV U p0.2 V]] E [] (fun w E' B'=>w=iV r∧B'= []):=by
 refine A4 func67 fun Q bb cs H ap av=>?_;unfold Pz at Y;refine zg 2 rfl (B4 ap fun bd be K a0 a1=>?_);refine zg 4 rfl (BQ a0 BY BC rfl rfl ?_);obtain⟨bi,a2,a3⟩:=bs Y;refine BL (S2 (al.Ah K) (am.Ah K) a2) rfl rfl (AR func113 rfl) a1 ?_;rintro bn bo _ Z ⟨_,rfl,rfl,a4⟩ a5;obtain⟨bp,a6,a7⟩:=bs a3;refine BD (OM (ag.Ah (K.Ac Z)) a4 a6) rfl rfl N5 a5 fun bq a8 a9=>zg 2 rfl ?_;obtain rfl:=oi a7;exact AD func67 rfl rfl (av ((K.Ac Z).Ac a8) rfl ⟨rfl,rfl⟩ a9)
def HB(fuel:Nat)(p0:A1)(p1:AI):Option Int:= (f113 fuel p0).bind fun K=> if K.isSome=true then((Lt fuel K).bind fun O=> some O) else((f116 fuel p0 p1).bind fun U=> (Lt fuel U).bind fun V=> some V)
theorem Lg{U:An}{c2:Nat}{V:An}{Y:Nat}{Z:An}{ag:Nat}{p0:A1}{p1:AI}(al:GE E)(am:Al (rL rI) E U c2 p0.1)(ap:Al (rL rI) E V Y p0.2)(a5:Al Bp E Z ag p1){fuel:Nat}{r:Int}(av:HB fuel p0 p1=some r):AL J 69 [.agg #[sV U p0.1 c2,sV V p0.2 Y],sV Z p1 ag] E [] (fun w E' B'=>w=iV r∧B'= []):=by
 refine A4 func69 fun Q bC cs H a6 a0=>?_;unfold HB at av;refine zg 2 rfl (B4 a6 fun bD bE K a1 a7=>?_);refine zg 5 rfl (BQ a1 BY BC rfl rfl ?_);obtain⟨a8,a9,bb⟩:=bs av;refine BL (S2 (am.Ah K) (ap.Ah K) a9) rfl rfl (AR func113 rfl) a7 ?_;rintro bF bG _ O ⟨_,rfl,rfl,a2⟩ a3;refine zg 5 rfl (AB (v:= .bool a8.isSome) rfl (fun ρ h=>Oz underlying149 a2 (h _ _ rfl) (h _ _ rfl)) ?_);refine JL.done (BF bb (fun bd be=>?_) (fun bd bi=>?_))
 ·obtain⟨bH,bn,bo⟩:=bs be;refine zg 3 rfl (BD (OM (al.Ah (K.Ac O)) a2 bn) rfl rfl N5 a3 fun bI bp bq=>?_);refine zg 2 rfl ?_;obtain rfl:=oi bo;exact AD func69 rfl rfl (a0 ((K.Ac O).Ac bp) rfl ⟨rfl,rfl⟩ bq)
 ·refine zg 3 rfl (BQ (a1.Ah O) BY BC rfl rfl ?_);obtain⟨bJ,br,bu⟩:=bs bi;refine zg 1 rfl (BL (YP (am.Ah (K.Ac O)) (ap.Ah (K.Ac O)) (a5.Ah (K.Ac O)) br) rfl rfl (AR func116 rfl) a3 ?_);rintro bK bL _ a4 ⟨_,rfl,rfl,bv⟩ bw;obtain⟨bM,bx,bz⟩:=bs bu;refine BD (OM (al.Ah ((K.Ac O).Ac a4)) bv bx) rfl rfl N5 bw fun bN bA bB=>zg 2 rfl ?_;obtain rfl:=oi bz;exact AD func69 rfl rfl (a0 (((K.Ac O).Ac a4).Ac bA) rfl ⟨rfl,rfl⟩ bB)
def Q8(fuel:Nat)(p1:List Int)(K:Int):Option (Bi Int (((Option BU)×Int)⊕(Unit))):= if K<(p1.length:Int) then((ix p1 K).bind fun O=> (f101 fuel O 0 12).bind fun U=> if U=true then(some (.done (Sum.inl (none,1)))) else((As (K+1)).bind fun V=> some (.more V))) else(some (.done (Sum.inr ())))
def NJ(fuel:Nat)(p0:A1)(p1:List Int):Option ((Option BU)×Int):= (Pz fuel p0).bind fun K=> if K≠0 then(some (none,K)) else(Option.bind (iter (Q8 fuel p1) fuel 0) fun O=> Sum.elim (fun r=>some r) (fun V=> (f92 fuel p0).bind fun U=> some (U,0)) O)
theorem Sj{ap:An}{c2:Nat}{av:An}{a0:Nat}{Z:An}{ag:Nat}{p0:A1}{p1:List Int}(bq:GE E)(a1:Al (rL rI) E ap c2 p0.1)(a2:Al (rL rI) E av a0 p0.2)(br:Al rI E Z ag p1){fuel:Nat}{r:(Option BU)×Int}(a3:NJ fuel p0 p1=some r):AL J 106 [.agg #[sV ap p0.1 c2,sV av p0.2 a0],sV Z p1 ag] E [] (fun w E' B'=>∃(a4:Value),w= .tuple #[a4,iV r.2]∧B'= []∧Ki (rP (rL (rL rI)) (rP (rL (rL rI)) (rA 13 (rN .u16)))) E' a4 r.1):=by
 refine A4 func106 fun Q b6 cs H bu al=>?_;unfold NJ at a3;refine zg 2 rfl (B4 bu fun a5 b7 K a6 bv=>?_);refine zg 6 rfl (BQ a6 BY BC rfl rfl ?_);obtain⟨b8,bw,bx⟩:=bs a3;refine BD (Y0 (bq.Ah K) (a1.Ah K) (a2.Ah K) bw) rfl rfl (AR func67 rfl) bv fun bz O a7=>zg 7 rfl (AN bx (fun bA bB=>?_) (fun bA bC=>?_))
 ·refine zg 6 rfl ?_;obtain rfl:=oi bB;exact AD func106 rfl rfl (al (K.Ac O) rfl ⟨.pointer none,rfl,rfl,rfl⟩ a7)
 ·refine zg 5 rfl (Bh underlying28 rfl rfl rfl ?_);obtain⟨a8,bD,a9⟩:=bs bC;refine zg 2 rfl (Br (fun L s=>∃(bb:Unit) (bd:LH),a8=Sum.inr bb∧Jm bz H bd [] [(2,pV a5 0)] L s) ?_ ?_)
  ·rintro _ _ ⟨bb,bd,rfl,rfl,rfl,U,bE⟩;have bF:=elim_inr a9;refine zg 2 rfl (BQ (a6.Ah (O.Ac U)) BY BC rfl rfl ?_);obtain⟨b9,bG,bH⟩:=bs bF;refine BL (NG (a1.Ah ((K.Ac O).Ac U)) (a2.Ah ((K.Ac O).Ac U)) bG) rfl rfl Mb bE ?_;rintro bI ca _ bJ ⟨_,rfl,rfl,bK⟩ bL;refine zg 3 rfl ?_;obtain rfl:=oi bH;exact AD func106 rfl rfl (al (((K.Ac O).Ac U).Ac bJ) rfl ⟨bI,rfl,rfl,bK⟩ bL)
  ·intro bM;refine JL.block (Cy bD (fun am=> []) (fun am=> [(2,pV a5 0),(14,sV Z p1 ag),(15,iV (p1.length:Int)),(16,iV am)]) Ar a7 ?_);rintro am bN V be bi ⟨cb,Y⟩ bO;have bn:=Y;unfold Q8 at bn;refine zg 5 rfl (AN bn (fun bP bQ=>?_) (fun bP bR=>?_))
   ·obtain⟨cc,bS,bT⟩:=bs bQ;refine zg 5 rfl (B9 (br.Ah ((K.Ac O).Ac V)) bS underlying28 AU ?_);rintro cd ce _ rfl bU;refine BW 0 bU Bv rfl rfl rfl ?_;obtain⟨cf,bV,bW⟩:=bs bT;refine zg 5 rfl (BD (I8 bV) rfl rfl IS be fun cg bo bp=>?_);refine JL.done (BF bW (fun bY bZ=>?_) (fun bY b0=>?_))
    ·refine zg 5 rfl ?_;obtain rfl:=oi bZ;obtain rfl:=bi _ Y;have b1:=elim_inl a9;obtain rfl:=oi b1;exact AD func106 rfl rfl (al (((K.Ac O).Ac V).Ac bo) rfl ⟨.pointer none,rfl,rfl,rfl⟩ bp)
    ·obtain⟨b2,b3,b4⟩:=bs b0;refine zg 3 rfl (Be b3 rfl rfl rfl ?_);refine zg 2 rfl ?_;obtain rfl:=oi b4;exact bO b2 (V.Ac bo) bp rfl Y
   ·refine JL.exit rfl ?_;obtain rfl:=oi bR;have b5:a8=(Sum.inr ()):=(bi _ Y).symm;exact Ay (bM _ _ ⟨(),bN,b5,rfl,rfl,V,be⟩) rfl
def PC(fuel:Nat)(p0:A1)(p1:Int):Option ((List Int)×Int):= (NJ fuel p0 ([p1]:List Int)).bind fun K=> if K.2≠0 then(some ([],K.2)) else((K.1).bind fun O=> (ix O.2.2 p1).bind fun U=> (f89 fuel U).bind fun V=> some (V,0))
theorem Y3{U:An}{c2:Nat}{V:An}{Y:Nat}{p0:A1}{p1:Int}(a2:GE E)(a3:Al (rL rI) E U c2 p0.1)(a4:Al (rL rI) E V Y p0.2){fuel:Nat}{r:(List Int)×Int}(Z:PC fuel p0 p1=some r):AL J 51 [.agg #[sV U p0.1 c2,sV V p0.2 Y],iV p1] E [] (fun w E' B'=>∃(ag:An) (al:Nat),w= .tuple #[sV ag r.1 al,iV r.2]∧B'= []∧Al rI E' ag al r.1):=by
 refine A4 func51 fun Q bM cs H a5 am=>?_;unfold PC at Z;refine zg 2 rfl (B4 a5 fun bN bO K a6 a7=>?_);refine zg 5 rfl (BQ a6 BY BC rfl rfl ?_);refine zg 1 rfl (DC (pp:=rI) [iV p1] [p1] rfl rfl rfl underlying28 AU CM (by decide) rfl rfl rfl ⟨rfl,trivial⟩ a7 fun bP bQ a8 a9=>?_);refine B5 2 a8 a9 rfl fun bR O bb bd=>?_;obtain⟨bS,be,bi⟩:=bs Z;refine BL (Sj (a2.Ah (K.Ac O)) (a3.Ah (K.Ac O)) (a4.Ah (K.Ac O)) bb be) rfl rfl (AR func106 rfl) bd ?_;rintro _ bT _ ap ⟨bU,rfl,rfl,bn⟩ av;refine zg 12 rfl (AN bi (fun bo bp=>?_) (fun bo bq=>?_))
 ·refine zg 6 rfl ?_;obtain rfl:=oi bp;exact AD func51 rfl rfl (am ((K.Ac O).Ac ap) rfl ⟨none,0,rfl,rfl,Al.nil⟩ av)
 ·obtain⟨a0,br,bu⟩:=bs bq;have a1:=bn;refine zg 5 rfl ?_;rw [br] at a1;obtain⟨bV,bW,_,rfl,bv,⟨_,_,rfl,⟨bw,bx,rfl,bY⟩,⟨_,bZ,rfl,⟨bz,bA,rfl,b0⟩,bB⟩⟩⟩:=a1;refine zg 1 rfl (BJ underlying141 Gd rfl rfl rfl ?_);obtain⟨b1,bC,bD⟩:=bs bu;refine ON (l:= [sV bw a0.1 bx,sV bz a0.2.1 bA]) bv bB bC rfl rfl rfl rfl rfl underlying139 Ii ?_;rintro b2 _ rfl bE;refine JL.fl 0 bE underlying138 Ei GR ?_;obtain⟨b3,bF,bG⟩:=bs bD;refine BL (IG bF) rfl rfl Ig av ?_;rintro _ b4 _ bH ⟨bI,bJ,rfl,rfl,bK⟩ bL;refine zg 3 rfl ?_;obtain rfl:=oi bG;exact AD func51 rfl rfl (am (((K.Ac O).Ac ap).Ac bH) rfl ⟨bI,bJ,rfl,rfl,bK⟩ bL)
def RH(fuel:Nat)(p1:Int)(O:BU)(K:Int):Option (Bi Int Int):= (f109 fuel O p1 K).bind fun U=> if(!U)=true then((As (K+1)).bind fun V=> some (.more V)) else(some (.done K))
def PG(fuel:Nat)(p0:A1)(p1:Int):Option (Int×Int):= (NJ fuel p0 ([p1]:List Int)).bind fun K=> if K.2≠0 then(some (0,K.2)) else((K.1).bind fun O=> Option.bind (iter (RH fuel p1 O) fuel 0) fun U=> some (U,0))
theorem Zq{Z:An}{c2:Nat}{ag:An}{al:Nat}{p0:A1}{p1:Int}(a5:GE E)(a6:Al (rL rI) E Z c2 p0.1)(a7:Al (rL rI) E ag al p0.2){fuel:Nat}{r:Int×Int}(am:PG fuel p0 p1=some r):AL J 57 [.agg #[sV Z p0.1 c2,sV ag p0.2 al],iV p1] E [] (fun w E' B'=>w= .tuple #[iV r.1,iV r.2]∧B'= []):=by
 refine A4 func57 fun Q bY cs H a8 ap=>?_;unfold PG at am;refine zg 2 rfl (B4 a8 fun bZ b0 O a9 bb=>?_);refine zg 5 rfl (BQ a9 BY BC rfl rfl ?_);refine zg 1 rfl (DC (pp:=rI) [iV p1] [p1] rfl rfl rfl underlying28 AU CM (by decide) rfl rfl rfl ⟨rfl,trivial⟩ bb fun b1 b2 bd be=>?_);refine B5 2 bd be rfl fun b3 U bi bn=>?_;obtain⟨b4,bo,bp⟩:=bs am;refine BL (Sj (a5.Ah (O.Ac U)) (a6.Ah (O.Ac U)) (a7.Ah (O.Ac U)) bi bo) rfl rfl (AR func106 rfl) bn ?_;rintro _ b5 _ av ⟨b6,rfl,rfl,bq⟩ a0;refine zg 12 rfl (AN bp (fun br bu=>?_) (fun br bv=>?_))
 ·refine zg 6 rfl ?_;obtain rfl:=oi bu;exact AD func57 rfl rfl (ap ((O.Ac U).Ac av) rfl ⟨rfl,rfl⟩ a0)
 ·obtain⟨b7,bw,bx⟩:=bs bv;have a1:=bq;refine zg 6 rfl ?_;rw [bw] at a1;obtain⟨bz,bA,_,rfl,bB,⟨_,_,rfl,⟨b8,b9,rfl,bC⟩,⟨_,ca,rfl,⟨cb,cc,rfl,bD⟩,bE⟩⟩⟩:=a1;obtain⟨bF,bG,bH⟩:=bs bx;refine C7 [] [(8,iV bF)] (fun cd bI bJ=>?_) (fun bK=>?_)
  ·refine zg 6 rfl ?_;obtain rfl:=oi bH;exact AD func57 rfl rfl (ap (((O.Ac U).Ac av).Ac bI) rfl ⟨rfl,rfl⟩ bJ)
  ·refine JL.block (Cy bG (fun V=> []) (fun V=> [(1,iV p1),(6,pV bz bA),(8,iV V)]) Ar a0 ?_);rintro V ce K bL bM ⟨cf,Y⟩ bN;have a2:=Y;unfold RH at a2;obtain⟨bO,bP,bQ⟩:=bs a2;refine zg 6 rfl (BD (ZL (bB.Ah K) (bC.Ah K) (bD.Ah K) (Rp.Ah _ K bE) bP) rfl rfl (AR func109 rfl) bL fun cg a3 a4=>?_);refine AB (v:= .bool (!bO)) rfl (fun ρ h=>Yl.not (h _ _ rfl)) (JL.done ?_);refine BF bQ (fun bR bS=>?_) (fun bR bT=>?_)
   ·obtain⟨bU,bV,bW⟩:=bs bS;refine zg 4 rfl (Be bV rfl rfl rfl ?_);refine zg 3 rfl ?_;obtain rfl:=oi bW;exact bN bU (K.Ac a3) a4 rfl Y
   ·refine JL.exit rfl ?_;obtain rfl:=oi bT;obtain rfl:=bM _ Y;exact bK (K.Ac a3) a4 rfl
end Pal
namespace Pal
open Go Go.Conc Go.Proofs
open Go.Proofs.Tryz
def Hy(fuel:Nat)(p0:A1)(p1:AI)(p2:Int)(p3:Bool):Option ((Option BU)×(Int×(List Ce))×Int):= (HB fuel p0 p1).bind fun O=> if O≠0 then(some (none,(0,[]),O)) else((As ((p1.length:Int) - 1)).bind fun V=> (f101 fuel p2 (-1) V).bind fun Y=> if Y=true then(some (none,(0,[]),3)) else((f92 fuel p0).bind fun Z=> (Z).bind fun U=> (f93 fuel U p1).bind fun K=> Option.bind (if(K.2.length:Int)=0 then(some (!p3)) else(some false)) fun ag=> if ag=true then(some (none,K,11)) else(some (some U,K,0))))
theorem Lh{E:LH}{a5:An}{c2:Nat}{a6:An}{a7:Nat}{a8:An}{a9:Nat}{p0:A1}{p1:AI}{p2:Int}{p3:Bool}(bP:GE E)(bb:Al (rL rI) E a5 c2 p0.1)(bd:Al (rL rI) E a6 a7 p0.2)(be:Al Bp E a8 a9 p1){fuel:Nat}{r:(Option BU)×(Int×(List Ce))×Int}(bi:Hy fuel p0 p1 p2 p3=some r):AL (DJ Tryz.prog) 78 [.agg #[sV a5 p0.1 c2,sV a6 p0.2 a7],sV a8 p1 a9,iV p2,.bool p3] E [] (fun w E' B'=>∃(bn:Value) (bo:An) (bp:Nat),w= .tuple #[bn,.agg #[iV r.2.1.1,sV bo r.2.1.2 bp],iV r.2.2]∧B'= []∧Ki (rP (rL (rL rI)) (rP (rL (rL rI)) (rA 13 (rN .u16)))) E' bn r.1∧Al Dr E' bo bp r.2.1.2):=by
 refine A4 func78 fun Q cC cs H bQ ap=>?_;unfold Hy at bi;refine zg 2 rfl (B4 bQ fun cD cE O bq bR=>?_);refine zg 1 rfl (Cz bR FY fun br bS=>?_);refine zg 5 rfl (BQ bq BY BC rfl rfl ?_);obtain⟨bu,bT,bU⟩:=bs bi;refine zg 1 rfl (BD (Lg (bP.Ah O) (bb.Ah O) (bd.Ah O) (be.Ah O) bT) rfl rfl Ko bS fun cF V bv=>?_);refine zg 7 rfl (AN bU (fun bV bW=>?_) (fun bV bY=>?_))
 ·refine zg 2 rfl (AB (v:= .agg #[iV 0,nS]) rfl (fun ρ h=>CY [(0,1),(1,1)] h FY underlying97 ⟨rfl,Bo type3,rfl,Bo type95,trivial⟩ rfl rfl) ?_);refine zg 2 rfl (BM 2 bv Dl fun bw=>?_);refine zg 2 rfl ?_;obtain rfl:=oi bW;refine JL.ret (v:= .tuple #[.pointer none,.agg #[iV 0,nS],iV bu]) rfl rfl (Cd.list func78 rfl (vs:= [.pointer none,.agg #[iV 0,nS],iV bu]) ⟨rfl,⟨_,rfl,Ld.many (vs:= [iV 0,nS]) Ic Dl (ED (off:=0) 2 bw rfl rfl)⟩,rfl,trivial⟩) (Gx 2 bw rfl fun bZ=>?_);exact ap (O.Ac V) rfl ⟨.pointer none,none,0,rfl,rfl,rfl,Al.nil⟩ bZ
 ·refine zg 6 rfl (Bh underlying25 rfl rfl rfl ?_);obtain⟨cG,b0,b1⟩:=bs bY;refine Ci b0 rfl rfl rfl ?_;obtain⟨cH,b2,b3⟩:=bs b1;refine BD (I8 b2) rfl rfl IS bv fun cI al bx=>JL.done (BF b3 (fun b4 b5=>?_) (fun b4 b6=>?_))
  ·refine zg 2 rfl (AB (v:= .agg #[iV 0,nS]) rfl (fun ρ h=>CY [(0,1),(1,1)] h FY underlying97 ⟨rfl,Bo type3,rfl,Bo type95,trivial⟩ rfl rfl) ?_);refine zg 1 rfl (BM 2 bx Dl fun bz=>?_);refine zg 2 rfl ?_;obtain rfl:=oi b5;refine JL.ret (v:= .tuple #[.pointer none,.agg #[iV 0,nS],iV 3]) rfl rfl (Cd.list func78 rfl (vs:= [.pointer none,.agg #[iV 0,nS],iV 3]) ⟨rfl,⟨_,rfl,Ld.many (vs:= [iV 0,nS]) Ic Dl (ED (off:=0) 2 bz rfl rfl)⟩,rfl,trivial⟩) (Gx 2 bz rfl fun b7=>?_);exact ap ((O.Ac V).Ac al) rfl ⟨.pointer none,none,0,rfl,rfl,rfl,Al.nil⟩ b7
  ·refine zg 3 rfl (BQ (bq.Ah (V.Ac al)) BY BC rfl rfl ?_);obtain⟨cJ,b8,b9⟩:=bs b6;refine BL (NG (bb.Ah ((O.Ac V).Ac al)) (bd.Ah ((O.Ac V).Ac al)) b8) rfl rfl Mb bx ?_;rintro cK cM _ a1 ⟨_,rfl,rfl,ca⟩ cb;obtain⟨a2,cc,cd⟩:=bs b9;have bA:=ca;refine zg 6 rfl ?_;rw [cc] at bA;obtain⟨av,a0,_,rfl,bB,⟨_,_,rfl,⟨ce,cf,rfl,bC⟩,⟨_,bD,rfl,⟨bE,bF,rfl,bG⟩,bH⟩⟩⟩:=bA;obtain⟨K,cg,ci⟩:=bs cd;refine BL (NB bB bC bG bH (be.Ah (((O.Ac V).Ac al).Ac a1)) cg) rfl rfl Md cb ?_;rintro _ cN _ am ⟨Y,Z,rfl,rfl,bI⟩ ck;refine Cz ck FY fun cm cn=>?_;refine BM 7 cn Dl fun co=>?_;refine CV 7 co rfl fun a3 ag a4 bJ=>zg 4 rfl (JL.fl 1 a4 underlying97 Dt EC ?_);refine Bh underlying95 rfl rfl rfl ?_;obtain⟨cp,cq,cr⟩:=bs ci;refine zg 2 rfl (Et [] (fun L s=>∃(bK:LH),Jm a3 H bK [bX br #[iV 0,nS] 97] [(9,pV br 0),(12,pV av a0),(13,pV cm 0),(39,.bool cp)] L s) ?_ ?_)
   ·rintro _ _ ⟨bK,rfl,rfl,U,bL⟩;refine JL.done (BF cr (fun ct cu=>?_) (fun ct cv=>?_))
    ·refine JL.seq (CZ 2 fun ht=>?_);refine Fb 0 ht (a4.Ah U) Ic Dl rfl rfl rfl (Ch 1 ht rfl rfl ?_);refine Cg [2,3] (BM 0 bL Dl fun bM=>?_);refine zg 2 rfl ?_;obtain rfl:=oi cu;refine JL.ret (v:= .tuple #[.pointer none,.agg #[iV K.1,sV Y K.2 Z],iV 11]) rfl rfl (Cd.list func78 rfl (vs:= [.pointer none,.agg #[iV K.1,sV Y K.2 Z],iV 11]) ⟨rfl,⟨_,rfl,Ld.many (vs:= [iV K.1,sV Y K.2 Z]) Ic Dl (ED (off:=0) 0 bM rfl rfl)⟩,rfl,trivial⟩) (Gx 0 bM rfl fun cw=>?_);exact ap ((((((O.Ac V).Ac al).Ac a1).Ac am).Ac ag).Ac U) rfl ⟨.pointer none,Y,Z,rfl,rfl,rfl,(bI.Ah (ag.Ac U))⟩ cw
    ·refine zg 2 rfl (CZ 3 fun ht=>?_);refine Ch 0 ht rfl rfl (Fb 1 ht (a4.Ah U) Ic Dl rfl rfl rfl ?_);refine Ch 2 ht rfl rfl (Cg [3,4] ?_);refine BM 0 bL Dl fun bN=>?_;refine zg 2 rfl ?_;obtain rfl:=oi cv;refine JL.ret (v:= .tuple #[pV av a0,.agg #[iV K.1,sV Y K.2 Z],iV 0]) rfl rfl (Cd.list func78 rfl (vs:= [pV av a0,.agg #[iV K.1,sV Y K.2 Z],iV 0]) ⟨rfl,⟨_,rfl,Ld.many (vs:= [iV K.1,sV Y K.2 Z]) Ic Dl (ED (off:=0) 0 bN rfl rfl)⟩,rfl,trivial⟩) (Gx 0 bN rfl fun cy=>?_);exact ap ((((((O.Ac V).Ac al).Ac a1).Ac am).Ac ag).Ac U) rfl ⟨pV av a0,Y,Z,rfl,rfl,⟨_,_,_,rfl,(bB.Ah ((am.Ac ag).Ac U)),⟨[sV ce a2.1 cf],(([sV bE a2.2.1 bF]:List Value)++bD),rfl,⟨_,_,rfl,(bC.Ah ((am.Ac ag).Ac U))⟩,⟨[sV bE a2.2.1 bF],bD,rfl,⟨_,_,rfl,(bG.Ah ((am.Ac ag).Ac U))⟩,(Rp.Ah _ ((am.Ac ag).Ac U) bH)⟩⟩⟩,(bI.Ah (ag.Ac U))⟩ cy
   ·intro bO;refine D7 36 cq (fun cz cA=>?_) (fun cz cB=>?_)
    ·refine zg 1 rfl (AB (v:= .bool (!p3)) rfl (fun ρ h=>Yl.not (h _ _ rfl)) ?_);refine zg 1 rfl ?_;obtain rfl:=oi cA;exact Ay (bO _ _ ⟨a3,rfl,rfl,Ar,bJ⟩) rfl
    ·refine zg 3 rfl ?_;obtain rfl:=oi cB;exact Ay (bO _ _ ⟨a3,rfl,rfl,Ar,bJ⟩) rfl
def Ji(fuel:Nat)(p0:A1)(p1:AI):Option ((Int×Int)×Int):= (Hy fuel p0 p1 (-1) false).bind fun K=> if K.2.2≠0 then(some ((0,0),K.2.2)) else((f87 fuel K.2.1.2).bind fun U=> (f89 fuel U).bind fun O=> (ix O (0)).bind fun V=> (As ((O.length:Int) - 1)).bind fun Y=> (ix O Y).bind fun Z=> some ((V,Z),0))
theorem ZS{E:LH}{Y:An}{c2:Nat}{Z:An}{ag:Nat}{al:An}{am:Nat}{p0:A1}{p1:AI}(a6:GE E)(a7:Al (rL rI) E Y c2 p0.1)(a8:Al (rL rI) E Z ag p0.2)(a9:Al Bp E al am p1){fuel:Nat}{r:(Int×Int)×Int}(ap:Ji fuel p0 p1=some r):AL (DJ Tryz.prog) 61 [.agg #[sV Y p0.1 c2,sV Z p0.2 ag],sV al p1 am] E [] (fun w E' B'=>w= .tuple #[.agg #[iV r.1.1,iV r.1.2],iV r.2]∧B'= []):=by
 refine A4 func61 fun Q bS cs H bb av=>?_;unfold Ji at ap;refine zg 2 rfl (B4 bb fun bT bU K bd be=>?_);refine Cz be HM fun bV bi=>?_;refine zg 4 rfl (BQ bd BY BC rfl rfl ?_);obtain⟨a0,bn,bo⟩:=bs ap;refine zg 1 rfl (BL (Lh (a6.Ah K) (a7.Ah K) (a8.Ah K) (a9.Ah K) bn) rfl rfl Kn bi ?_);rintro _ bW _ a1 ⟨bY,bZ,b0,rfl,rfl,b1,bp⟩ bq;refine zg 4 rfl (Cz bq FY fun b2 br=>?_);refine zg 1 rfl (BM 4 br Dl fun bu=>?_);refine CV 4 bu rfl fun b3 V bv a2=>zg 8 rfl (AN bo (fun bw bx=>?_) (fun bw bz=>?_))
 ·refine zg 2 rfl (AB (v:= .agg #[iV 0,iV 0]) rfl (fun ρ h=>CY [(0,1),(1,1)] h HM underlying81 ⟨rfl,Bo type3,rfl,Bo type3,trivial⟩ rfl rfl) ?_);refine zg 1 rfl (BM 2 a2 Ge fun a3=>?_);refine zg 2 rfl ?_;obtain rfl:=oi bx;refine JL.ret (v:= .tuple #[.agg #[iV 0,iV 0],iV a0.2.2]) rfl rfl (Cd.list func61 rfl (vs:= [.agg #[iV 0,iV 0],iV a0.2.2]) ⟨⟨_,rfl,Ld.many (vs:= [iV 0,iV 0]) Jo Ge (ED (off:=0) 2 a3 rfl rfl)⟩,rfl,trivial⟩) (Gx 2 a3 rfl fun bA=>?_);exact av ((K.Ac a1).Ac V) rfl ⟨rfl,rfl⟩ bA
 ·refine zg 3 rfl (JL.fl 1 bv underlying97 Dt EC ?_);obtain⟨b4,bB,bC⟩:=bs bz;refine BD (Tk (bp.Ah V) bB) rfl rfl (AR func87 rfl) a2 fun b5 bD bE=>?_;obtain⟨b6,bF,bG⟩:=bs bC;refine BL (IG bF) rfl rfl Ig bE ?_;rintro _ b7 _ bH ⟨b8,b9,rfl,rfl,a4⟩ bI;refine zg 3 rfl (CZ 9 fun ht=>?_);refine Ch 0 ht rfl rfl ?_;obtain⟨O,bJ,bK⟩:=bs bG;refine Cv 1 a4 bJ ht underlying28 AU ?_;rintro ca cb _ rfl bL;refine Co 2 ht 0 bL Bv rfl rfl rfl rfl (A2 ht rfl [3,4] rfl ?_);refine Bx 5 ht rfl rfl (fun ρ h s' hs=>Yl.len rfl underlying28 (h _ _ rfl)) ?_;obtain⟨cc,bM,bN⟩:=bs bK;refine Bx 6 ht rfl rfl (fun ρ h s' hs=>C5 (h _ _ rfl) (h _ _ rfl) bM) ?_;obtain⟨U,bO,bP⟩:=bs bN;refine Cv 7 a4 bO ht underlying28 AU ?_;rintro cd ce _ rfl bQ;refine Co 8 ht 0 bQ Bv rfl rfl rfl rfl (Cg [9,10,11] ?_);refine AB (v:= .agg #[iV O,iV U]) rfl (fun ρ h=>CY [(0,1),(1,1)] h HM underlying81 ⟨rfl,Bo type3,rfl,Bo type3,trivial⟩ rfl rfl) (BM 2 bI Ge fun a5=>?_);refine zg 2 rfl ?_;obtain rfl:=oi bP;refine JL.ret (v:= .tuple #[.agg #[iV O,iV U],iV 0]) rfl rfl (Cd.list func61 rfl (vs:= [.agg #[iV O,iV U],iV 0]) ⟨⟨_,rfl,Ld.many (vs:= [iV O,iV U]) Jo Ge (ED (off:=0) 2 a5 rfl rfl)⟩,rfl,trivial⟩) (Gx 2 a5 rfl fun bR=>?_);exact av ((((K.Ac a1).Ac V).Ac bD).Ac bH) rfl ⟨rfl,rfl⟩ bR
def Pt(fuel:Nat)(p0:A1)(p1:AI):Option (Int×Int):= (Hy fuel p0 p1 (-1) true).bind fun K=> some ((K.2.1.2.length:Int),K.2.2)
theorem Zz{E:LH}{O:An}{c2:Nat}{U:An}{V:Nat}{Y:An}{Z:Nat}{p0:A1}{p1:AI}(al:GE E)(am:Al (rL rI) E O c2 p0.1)(ap:Al (rL rI) E U V p0.2)(av:Al Bp E Y Z p1){fuel:Nat}{r:Int×Int}(ag:Pt fuel p0 p1=some r):AL (DJ Tryz.prog) 28 [.agg #[sV O p0.1 c2,sV U p0.2 V],sV Y p1 Z] E [] (fun w E' B'=>w= .tuple #[iV r.1,iV r.2]∧B'= []):=by
 refine A4 func28 fun Q bi cs H a0 a1=>?_;unfold Pt at ag;refine zg 2 rfl (B4 a0 fun bn bo K a2 a3=>?_);refine zg 5 rfl (BQ a2 BY BC rfl rfl ?_);obtain⟨bp,a4,a5⟩:=bs ag;refine zg 1 rfl (BL (Lh (al.Ah K) (am.Ah K) (ap.Ah K) (av.Ah K) a4) rfl rfl Kn a3 ?_);rintro _ bq _ a6 ⟨br,bu,bv,rfl,rfl,bw,bx⟩ a7;refine zg 4 rfl (Cz a7 FY fun bz a8=>?_);refine zg 1 rfl (BM 3 a8 Dl fun a9=>?_);refine CV 3 a9 rfl fun bA bb bd be=>zg 4 rfl (JL.fl 1 bd underlying97 Dt EC ?_);refine Bh underlying95 rfl rfl rfl (zg 4 rfl ?_);obtain rfl:=oi a5;exact AD func28 rfl rfl (a1 ((K.Ac a6).Ac bb) rfl ⟨rfl,rfl⟩ be)
def PI(fuel:Nat)(p0:A1)(p1:AI):Option (Int×(List Int)×Int):= (Hy fuel p0 p1 (-1) false).bind fun K=> if K.2.2≠0 then(some (0,[],K.2.2)) else((ix K.2.1.2 (0)).bind fun O=> (ix K.2.1.2 (0)).bind fun U=> some (O.1,U.2.1,0))
theorem Y9{E:LH}{U:An}{c2:Nat}{V:An}{Y:Nat}{Z:An}{ag:Nat}{p0:A1}{p1:AI}(a4:GE E)(a5:Al (rL rI) E U c2 p0.1)(a6:Al (rL rI) E V Y p0.2)(a7:Al Bp E Z ag p1){fuel:Nat}{r:Int×(List Int)×Int}(al:PI fuel p0 p1=some r):AL (DJ Tryz.prog) 30 [.agg #[sV U p0.1 c2,sV V p0.2 Y],sV Z p1 ag] E [] (fun w E' B'=>∃(am:An) (ap:Nat),w= .tuple #[iV r.1,sV am r.2.1 ap,iV r.2.2]∧B'= []∧Al rI E' am ap r.2.1):=by
 refine A4 func30 fun Q bE cs H a8 av=>?_;unfold PI at al;refine zg 2 rfl (B4 a8 fun bF bG K a9 bb=>?_);refine zg 6 rfl (BQ a9 BY BC rfl rfl ?_);obtain⟨bH,bd,be⟩:=bs al;refine zg 1 rfl (BL (Lh (a4.Ah K) (a5.Ah K) (a6.Ah K) (a7.Ah K) bd) rfl rfl Kn bb ?_);rintro _ bI _ a0 ⟨bJ,bK,bL,rfl,rfl,bM,a1⟩ bi;refine zg 4 rfl (Cz bi FY fun bN bn=>?_);refine zg 1 rfl (BM 3 bn Dl fun bo=>?_);refine CV 3 bo rfl fun bO O a2 a3=>zg 8 rfl (AN be (fun bp bq=>?_) (fun bp br=>?_))
 ·refine zg 7 rfl ?_;obtain rfl:=oi bq;exact AD func30 rfl rfl (av ((K.Ac a0).Ac O) rfl ⟨none,0,rfl,rfl,Al.nil⟩ a3)
 ·refine zg 2 rfl (CZ 11 fun ht=>?_);refine Ca 0 ht underlying97 Dt rfl rfl rfl rfl (Co 1 ht 1 a2 EC rfl rfl rfl rfl ?_);obtain⟨bP,bu,bv⟩:=bs br;refine Cv 2 (a1.Ah O) bu ht underlying95 Cu ?_;rintro bQ bR _ ⟨_,_,rfl,rfl,⟨_,_,rfl,⟨bS,bT,rfl,bU⟩,rfl⟩⟩ bw;refine Ca 3 ht underlying104 AU rfl rfl rfl rfl (Co 4 ht 0 bw Bv rfl rfl rfl rfl ?_);refine Ca 5 ht underlying97 Dt rfl rfl rfl rfl (Co 6 ht 1 a2 EC rfl rfl rfl rfl ?_);obtain⟨bV,bx,bz⟩:=bs bv;refine Cv 7 (a1.Ah O) bx ht underlying95 Cu ?_;rintro bW bY _ ⟨_,_,rfl,rfl,⟨_,_,rfl,⟨bA,bB,rfl,bC⟩,rfl⟩⟩ bD;refine Ca 8 ht underlying104 BV rfl rfl rfl rfl (Co 9 ht 1 bD CQ rfl rfl rfl rfl ?_);refine Ch 10 ht rfl rfl (Cg [11,12] ?_);refine zg 3 rfl ?_;obtain rfl:=oi bz;exact AD func30 rfl rfl (av ((K.Ac a0).Ac O) rfl ⟨bA,bB,rfl,rfl,bC⟩ a3)
def RQ(fuel:Nat)(p2:Int)(O:(List Bu))(K:(List Int)×Int):Option (Bi ((List Int)×Int) ((List Int))):= if K.2<(O.length:Int) then((ix O K.2).bind fun U=> Option.bind (if U.2.1≤p2 then((room K.1 U.1).bind fun V=> some V) else(some K.1)) fun Y=> (As (K.2+1)).bind fun Z=> some (.more (Y,Z))) else(some (.done K.1))
def HY(fuel:Nat)(p0:A1)(p1:AI)(p2:Int):Option ((List Int)×Int):= (HB fuel p0 p1).bind fun K=> if K≠0 then(some ([],K)) else((f101 fuel p2 0 4).bind fun U=> if U=true then(some ([],1)) else((f92 fuel p0).bind fun V=> (V).bind fun Y=> (Jb fuel Y p1).bind fun Z=> Option.bind (iter (RQ fuel p2 Z) fuel ([],0)) fun O=> if(O.length:Int)=0 then(some ([],11)) else(some (O,0))))
theorem SK{E:LH}{bo:An}{c2:Nat}{bp:An}{bq:Nat}{br:An}{bu:Nat}{p0:A1}{p1:AI}{p2:Int}(bR:GE E)(bv:Al (rL rI) E bo c2 p0.1)(bw:Al (rL rI) E bp bq p0.2)(bx:Al Bp E br bu p1){fuel:Nat}{r:(List Int)×Int}(bz:HY fuel p0 p1 p2=some r):AL (DJ Tryz.prog) 43 [.agg #[sV bo p0.1 c2,sV bp p0.2 bq],sV br p1 bu,iV p2] E [] (fun w E' B'=>∃(bA:An) (bB:Nat),w= .tuple #[sV bA r.1 bB,iV r.2]∧B'= []∧Al rI E' bA bB r.1):=by
 refine A4 func43 fun Q c6 cs H bS al=>?_;unfold HY at bz;refine zg 2 rfl (B4 bS fun c7 c8 K bC bT=>?_);refine zg 6 rfl (BQ bC BY BC rfl rfl ?_);obtain⟨c9,bU,bV⟩:=bs bz;refine zg 1 rfl (BD (Lg (bR.Ah K) (bv.Ah K) (bw.Ah K) (bx.Ah K) bU) rfl rfl Ko bT fun da O bD=>?_);refine zg 7 rfl (AN bV (fun bW bY=>?_) (fun bW bZ=>?_))
 ·refine zg 6 rfl ?_;obtain rfl:=oi bY;exact AD func43 rfl rfl (al (K.Ac O) rfl ⟨none,0,rfl,rfl,Al.nil⟩ bD)
 ·obtain⟨db,b0,b1⟩:=bs bZ;refine zg 5 rfl (BD (I8 b0) rfl rfl IS bD fun dc U bE=>?_);refine JL.done (BF b1 (fun b2 b3=>?_) (fun b2 b4=>?_))
  ·refine zg 5 rfl ?_;obtain rfl:=oi b3;exact AD func43 rfl rfl (al ((K.Ac O).Ac U) rfl ⟨none,0,rfl,rfl,Al.nil⟩ bE)
  ·refine zg 8 rfl (BQ (bC.Ah (O.Ac U)) BY BC rfl rfl ?_);obtain⟨dd,b5,b6⟩:=bs b4;refine BL (NG (bv.Ah ((K.Ac O).Ac U)) (bw.Ah ((K.Ac O).Ac U)) b5) rfl rfl Mb bE ?_;rintro de df _ a5 ⟨_,rfl,rfl,b7⟩ b8;obtain⟨dg,b9,ca⟩:=bs b6;have bF:=b7;refine zg 1 rfl ?_;rw [b9] at bF;obtain⟨dh,di,_,rfl,cb,⟨_,_,rfl,⟨dj,dk,rfl,cc⟩,⟨_,dl,rfl,⟨dm,dn,rfl,cd⟩,ce⟩⟩⟩:=bF;obtain⟨am,cf,cg⟩:=bs ca;refine BL (Rn cb cc cd ce (bx.Ah (((K.Ac O).Ac U).Ac a5)) cf) rfl rfl (AR func102 rfl) b8 ?_;rintro _ a6 _ bG ⟨bH,bI,rfl,rfl,ci⟩ ck;refine Bh underlying130 rfl rfl rfl ?_;obtain⟨bJ,cm,cn⟩:=bs cg;refine zg 2 rfl (Br (fun L s=>∃(a7:LH) (ap:An) (av:Nat) (a8:Seg),Jn a6 H a7 [a8] [(9,sV ap bJ av)] L s (OL 3 rI a7 ap av a8 bJ)) ?_ ?_)
   ·rintro _ _ ⟨a7,ap,av,a8,rfl,rfl,bK,bL,co⟩;refine zg 4 rfl (Bh underlying28 rfl rfl rfl ?_);refine zg 2 rfl (AN cn (fun cp cq=>?_) (fun cp cr=>?_))
    ·refine zg 5 rfl (JS.drop 0 bL rfl fun ct=>?_);obtain rfl:=oi cq;exact AD func43 rfl rfl (al (((((K.Ac O).Ac U).Ac a5).Ac bG).Ac bK) rfl ⟨none,0,rfl,rfl,Al.nil⟩ ct)
    ·refine zg 7 rfl (B5 0 co bL rfl fun dp cu cv cw=>?_);obtain rfl:=oi cr;exact AD func43 rfl rfl (al ((((((K.Ac O).Ac U).Ac a5).Ac bG).Ac bK).Ac cu) rfl ⟨ap,av,rfl,rfl,cv⟩ cw)
   ·intro cy;refine JL.block (CN cm (fun L s Z=>∃(a0:LH) (V:An) (Y:Nat) (ag:Seg),Jn a6 H a0 [ag] [(2,iV p2),(9,sV V Z.1 Y),(23,sV bH am bI),(24,iV (am.length:Int)),(25,iV Z.2)] L s (OL 3 rI a0 V Y ag Z.1)) ⟨a6,none,0,[],rfl,rfl,Ar,ck,OL.nil⟩ ?_);rintro _ _ Z ⟨a0,V,Y,ag,rfl,rfl,a9,bM,bb⟩ cz ⟨dq,bd⟩ cA;have bN:=bd;unfold RQ at bN;refine zg 5 rfl (AN bN (fun cB cC=>?_) (fun cB cD=>?_))
    ·obtain⟨cE,cF,cG⟩:=bs cC;refine zg 5 rfl (B9 (ci.Ah a9) cF underlying130 AS ?_);rintro dr dt _ ⟨_,_,rfl,rfl,⟨_,_,rfl,rfl,⟨du,dv,rfl,dw⟩⟩⟩ cH;refine BQ cH Cr AS rfl rfl (Cz bM Ie fun dx cI=>?_);refine BM 1 cI AS fun cJ=>?_;refine CV 1 cJ rfl fun be bi bO bP=>zg 3 rfl (BJ underlying133 Dl rfl rfl rfl ?_);refine JL.fl 1 bO underlying97 AU Bv ?_;obtain⟨bn,cK,cM⟩:=bs cG;refine zg 3 rfl (Br (fun L s=>∃(a1:LH) (a2:An) (a3:Nat) (a4:Seg),Jn be H a1 [a4] [(2,iV p2),(9,sV a2 bn a3),(23,sV bH am bI),(24,iV (am.length:Int)),(25,iV Z.2)] L s (OL 3 rI a1 a2 a3 a4 bn)) ?_ ?_)
     ·rintro _ _ ⟨a1,a2,a3,a4,rfl,rfl,cN,cO,cP⟩;obtain⟨cQ,cR,cT⟩:=bs cM;refine zg 2 rfl (Be cR rfl rfl rfl ?_);refine zg 2 rfl ?_;obtain rfl:=oi cT;exact Ay (cA _ _ (bn,cQ) ⟨a1,a2,a3,a4,rfl,rfl,((a9.Ac bi).Ac cN),cO,cP⟩ bd) rfl
     ·intro bQ;refine AN cK (fun cV cW=>?_) (fun cV cX=>?_)
      ·refine zg 2 rfl (JL.fl 0 bO underlying133 AU Bv ?_);obtain⟨dy,cY,cZ⟩:=bs cW;refine JS.app (pp:=rI) (v:=iV cE.1) (a:=V) (c:=Y) 0 cY rfl rfl rfl rfl (fun _=>rfl) rfl (fun _=>rfl) rfl rfl rfl underlying28 underlying28 underlying28 AU (CR type3) CM rfl (by decide) (by decide) (by decide) (by decide) (bb.Ah bi) rfl bP rfl fun dz c0 c1 c3 c4 c5=>zg 2 rfl ?_;obtain rfl:=oi cZ;exact Ay (bQ _ _ ⟨be,c0,c1,c3,rfl,rfl,Ar,c5,c4⟩) rfl
      ·refine JL.skip ?_;obtain rfl:=oi cX;exact Ay (bQ _ _ ⟨be,V,Y,ag,rfl,rfl,Ar,bP,(bb.Ah bi)⟩) rfl
    ·refine JL.exit rfl ?_;obtain rfl:=oi cD;obtain rfl:=cz _ bd;exact Ay (cy _ _ ⟨a0,V,Y,ag,rfl,rfl,a9,bM,bb⟩) rfl
end Pal
namespace Pal
open Go Go.Conc Go.Proofs
open Go.Proofs.Tryz
def R2(fuel:Nat)(p2:Int)(O:(Option BU)×(Int×(List Ce))×Int)(K:Int×Int):Option (Bi (Int×Int) Int):= if K.2<(O.2.1.2.length:Int) then((ix O.2.1.2 K.2).bind fun U=> (f103 fuel U.2.2 p2).bind fun V=> Option.bind (if V=true then((As (K.1+1)).bind fun Y=> some Y) else(some K.1)) fun Z=> (As (K.2+1)).bind fun ag=> some (.more (Z,ag))) else(some (.done K.1))
def Pv(fuel:Nat)(p0:A1)(p1:AI)(p2:Int):Option (Int×Int):= (HB fuel p0 p1).bind fun U=> if U≠0 then(some (0,U)) else((As ((p1.length:Int) - 1)).bind fun V=> (f101 fuel p2 0 V).bind fun Y=> if Y=true then(some (0,3)) else((Hy fuel p0 p1 p2 false).bind fun K=> if K.2.2≠0 then(some (0,K.2.2)) else(Option.bind (iter (R2 fuel p2 K) fuel (0,0)) fun O=> Option.bind (Option.bind (Option.bind (if 0<O then(some (decide (O<(K.2.1.2.length:Int)))) else(some false)) fun Z=> if Z=true then((As (0+1)).bind fun ag=> (As (ag+1)).bind fun al=> some al) else(if O=0 then((As (0+1)).bind fun am=> some am) else(some 0))) fun ap=> (As (ap+1)).bind fun av=> some av) fun a0=> some (a0,0))))
theorem Zu{E:LH}{a2:An}{c2:Nat}{a3:An}{a4:Nat}{a5:An}{a6:Nat}{p0:A1}{p1:AI}{p2:Int}(a7:GE E)(a8:Al (rL rI) E a2 c2 p0.1)(a9:Al (rL rI) E a3 a4 p0.2)(bb:Al Bp E a5 a6 p1){fuel:Nat}{r:Int×Int}(bd:Pv fuel p0 p1 p2=some r):AL (DJ Tryz.prog) 49 [.agg #[sV a2 p0.1 c2,sV a3 p0.2 a4],sV a5 p1 a6,iV p2] E [] (fun w E' B'=>w= .tuple #[iV r.1,iV r.2]∧B'= []):=by
 refine A4 func49 fun Q dc cs H bF Y=>?_;unfold Pv at bd;refine zg 2 rfl (B4 bF fun dd de K be bG=>?_);refine zg 6 rfl (BQ be BY BC rfl rfl ?_);obtain⟨df,bH,bI⟩:=bs bd;refine zg 1 rfl (BD (Lg (a7.Ah K) (a8.Ah K) (a9.Ah K) (bb.Ah K) bH) rfl rfl Ko bG fun dg O bi=>?_);refine zg 7 rfl (AN bI (fun bJ bK=>?_) (fun bJ bL=>?_))
 ·refine zg 6 rfl ?_;obtain rfl:=oi bK;exact AD func49 rfl rfl (Y (K.Ac O) rfl ⟨rfl,rfl⟩ bi)
 ·refine zg 6 rfl (Bh underlying25 rfl rfl rfl ?_);obtain⟨dh,bM,bN⟩:=bs bL;refine Ci bM rfl rfl rfl ?_;obtain⟨di,bO,bP⟩:=bs bN;refine BD (I8 bO) rfl rfl IS bi fun dj U bn=>JL.done (BF bP (fun bQ bR=>?_) (fun bQ bS=>?_))
  ·refine zg 5 rfl ?_;obtain rfl:=oi bR;exact AD func49 rfl rfl (Y ((K.Ac O).Ac U) rfl ⟨rfl,rfl⟩ bn)
  ·refine zg 3 rfl (BQ (be.Ah (O.Ac U)) BY BC rfl rfl ?_);obtain⟨Z,bT,bU⟩:=bs bS;refine zg 2 rfl (BL (Lh (a7.Ah ((K.Ac O).Ac U)) (a8.Ah ((K.Ac O).Ac U)) (a9.Ah ((K.Ac O).Ac U)) (bb.Ah ((K.Ac O).Ac U)) bT) rfl rfl Kn bn ?_);rintro _ dk _ bo ⟨dl,bp,bq,rfl,rfl,dm,bV⟩ bW;refine zg 4 rfl (Cz bW FY fun ag bY=>?_);refine zg 1 rfl (BM 5 bY Dl fun bZ=>?_);refine CV 5 bZ rfl fun dn al br bu=>zg 8 rfl (AN bU (fun b0 b1=>?_) (fun b0 b2=>?_))
   ·refine zg 6 rfl ?_;obtain rfl:=oi b1;exact AD func49 rfl rfl (Y ((((K.Ac O).Ac U).Ac bo).Ac al) rfl ⟨rfl,rfl⟩ bu)
   ·refine zg 8 rfl (JL.fl 1 br underlying97 Dt EC ?_);refine Bh underlying95 rfl rfl rfl ?_;obtain⟨bv,b3,b4⟩:=bs b2;refine zg 2 rfl (C7 [] [(10,pV ag 0),(12,iV bv)] (fun dp bw bx=>?_) (fun b5=>?_))
    ·obtain⟨b6,b7,b8⟩:=bs b4;refine zg 5 rfl (C7 [] [(15,iV b6)] (fun dq b9 ca=>?_) (fun cb=>?_))
     ·refine zg 6 rfl ?_;obtain rfl:=oi b8;exact AD func49 rfl rfl (Y ((((((K.Ac O).Ac U).Ac bo).Ac al).Ac bw).Ac b9) rfl ⟨rfl,rfl⟩ ca)
     ·obtain⟨cc,cd,ce⟩:=bs b7;refine zg 2 rfl (C7 [] [(15,iV cc)] (fun dr cf cg=>?_) (fun am=>?_))
      ·obtain⟨dt,ci,ck⟩:=bs ce;refine zg 3 rfl (Be ci rfl rfl rfl ?_);refine zg 3 rfl ?_;obtain rfl:=oi ck;exact cb cf cg rfl
      ·obtain⟨cm,cn,co⟩:=bs cd;refine zg 12 rfl (Dq 9 1 [] [(12,iV bv),(15,iV 0),(61,.bool cm)] (fun du ap av=>?_) (fun bz=>?_))
       ·refine zg 2 rfl (BF co (fun cp cq=>?_) (fun cp cr=>?_))
        ·obtain⟨dv,ct,cu⟩:=bs cq;refine zg 3 rfl (Be ct rfl rfl rfl ?_);obtain⟨dw,cv,cw⟩:=bs cu;refine zg 5 rfl (Be cv rfl rfl rfl ?_);refine zg 3 rfl ?_;obtain rfl:=oi cw;exact am ap av rfl
        ·refine zg 7 rfl (AN cr (fun cy cz=>?_) (fun cy cA=>?_))
         ·obtain⟨dx,cB,cC⟩:=bs cz;refine zg 3 rfl (Be cB rfl rfl rfl ?_);refine zg 3 rfl ?_;obtain rfl:=oi cC;exact am ap av rfl
         ·refine zg 2 rfl ?_;obtain rfl:=oi cA;exact am ap av rfl
       ·refine D7 55 cn (fun cD cE=>?_) (fun cD cF=>?_)
        ·refine zg 1 rfl (JL.fl 1 (br.Ah bw) underlying97 Dt EC ?_);refine Bh underlying95 rfl rfl rfl (zg 2 rfl ?_);obtain rfl:=oi cE;exact bz Ar bx rfl
        ·refine zg 6 rfl ?_;obtain rfl:=oi cF;exact bz Ar bx rfl
    ·refine JL.block (Cy b3 (fun V=> []) (fun V=> [(2,iV p2),(10,pV ag 0),(12,iV V.1),(39,sV bp Z.2.1.2 bq),(40,iV (Z.2.1.2.length:Int)),(41,iV V.2)]) Ar bu ?_);rintro V dy a0 bA cG ⟨dz,a1⟩ cH;have bB:=a1;unfold R2 at bB;refine zg 5 rfl (AN bB (fun cI cJ=>?_) (fun cI cK=>?_))
     ·obtain⟨dA,cM,cN⟩:=bs cJ;refine zg 5 rfl (B9 (bV.Ah (al.Ac a0)) cM underlying95 Cu ?_);rintro dB dC _ ⟨_,_,rfl,rfl,⟨_,_,rfl,⟨dD,dE,rfl,dF⟩,rfl⟩⟩ cO;refine BQ cO FX Cu rfl rfl (Cz bA GV fun dG cP=>?_);refine BM 0 cP Cu fun cQ=>?_;refine CV 0 cQ rfl fun dH cR cT cV=>zg 3 rfl (JL.fl 2 cT underlying104 Ei GR ?_);obtain⟨dI,cW,cX⟩:=bs cN;refine zg 1 rfl (BD (O3 cW) rfl rfl N7 cV fun dJ cY bC=>?_);obtain⟨bD,cZ,c0⟩:=bs cX;refine JL.done (C7 [] [(2,iV p2),(10,pV ag 0),(12,iV bD),(39,sV bp Z.2.1.2 bq),(40,iV (Z.2.1.2.length:Int)),(41,iV V.2)] (fun dK c1 c3=>?_) (fun bE=>?_))
      ·obtain⟨c4,c5,c6⟩:=bs c0;refine zg 2 rfl (Be c5 rfl rfl rfl ?_);refine zg 2 rfl ?_;obtain rfl:=oi c6;exact cH (bD,c4) (((a0.Ac cR).Ac cY).Ac c1) c3 rfl a1
      ·refine BF cZ (fun c7 c8=>?_) (fun c7 c9=>?_)
       ·obtain⟨dL,da,db⟩:=bs c8;refine zg 2 rfl (Be da rfl rfl rfl ?_);refine zg 2 rfl ?_;obtain rfl:=oi db;exact bE Ar bC rfl
       ·refine JL.skip ?_;obtain rfl:=oi c9;exact bE Ar bC rfl
     ·refine JL.exit rfl ?_;obtain rfl:=oi cK;obtain rfl:=cG _ a1;exact b5 a0 bA rfl
def Se(fuel:Nat)(V:Ce)(U:(List Int))(K:(List Nat)×Int):Option (Bi ((List Nat)×Int) ((List Nat))):= if K.2<(U.length:Int) then((ix U K.2).bind fun O=> (ix K.1 O).bind fun Y=> (f90 fuel Y V.1).bind fun Z=> (ix K.1 O).bind fun al=> (As (K.2+1)).bind fun ag=> some (.more ((K.1.set (Int.toNat O) Z),ag))) else(some (.done K.1))
def RS(fuel:Nat)(O:(Option BU)×(Int×(List Ce))×Int)(V:BU)(Y:Int×Int×Int)(K:(List Nat)×Int):Option (Bi ((List Nat)×Int) ((List Nat))):= if K.2<(O.2.1.2.length:Int) then((ix O.2.1.2 K.2).bind fun U=> (f88 fuel V U Y.2.2).bind fun Z=> (f89 fuel Z).bind fun ag=> Option.bind (iter (Se fuel U ag) fuel (K.1,0)) fun al=> (As (K.2+1)).bind fun am=> some (.more (al,am))) else(some (.done K.1))
def Ry(fuel:Nat)(O:(List Nat))(K:Int×Int):Option (Bi (Int×Int) Int):= if K.2<8 then((ix O K.2).bind fun U=> (f85 fuel U).bind fun V=> (As (K.2+1)).bind fun Y=> some (.more (max K.1 V,Y))) else(some (.done K.1))
def Sd(fuel:Nat)(V:(Option BU)×(Int×(List Ce))×Int)(Y:BU)(K:Int×Int×Int):Option (Bi (Int×Int×Int) (Int×Int)):= if K.2.2<7 then(Option.bind (iter (RS fuel V Y K) fuel ((List.replicate 8 (0:Nat)),0)) fun Z=> Option.bind (iter (Ry fuel Z) fuel (0,0)) fun O=> Option.bind (if O<K.2.1 then(some (K.2.2,O)) else(some (K.1,K.2.1))) fun U=> (As (K.2.2+1)).bind fun ag=> some (.more (U.1,U.2,ag))) else(some (.done (K.1,K.2.1)))
def Pu(fuel:Nat)(p0:A1)(p1:AI):Option (Int×Int×Int):= (Hy fuel p0 p1 (-1) false).bind fun K=> if K.2.2≠0 then(some (0,0,K.2.2)) else((f87 fuel K.2.1.2).bind fun U=> (f85 fuel U).bind fun V=> (K.1).bind fun Y=> Option.bind (iter (Sd fuel K Y) fuel ((-1),V,0)) fun O=> if O.1<0 then(some (0,0,11)) else(some (O.1,O.2,0)))
theorem ZD{E:LH}{bL:An}{c2:Nat}{bM:An}{bN:Nat}{bO:An}{bP:Nat}{p0:A1}{p1:AI}(cn:GE E)(co:Al (rL rI) E bL c2 p0.1)(cp:Al (rL rI) E bM bN p0.2)(cq:Al Bp E bO bP p1){fuel:Nat}{r:Int×Int×Int}(bQ:Pu fuel p0 p1=some r):AL (DJ Tryz.prog) 35 [.agg #[sV bL p0.1 c2,sV bM p0.2 bN],sV bO p1 bP] E [] (fun w E' B'=>w= .tuple #[iV r.1,iV r.2.1,iV r.2.2]∧B'= []):=by
 refine A4 func35 fun Q eL cs H cr bw=>?_;unfold Pu at bQ;refine zg 2 rfl (B4 cr fun eM eN ag ct cu=>?_);refine zg 6 rfl (BQ ct BY BC rfl rfl ?_);obtain⟨av,cv,cw⟩:=bs bQ;refine zg 1 rfl (BL (Lh (cn.Ah ag) (co.Ah ag) (cp.Ah ag) (cq.Ah ag) cv) rfl rfl Kn cu ?_);rintro _ eO _ bx ⟨eP,bz,bA,rfl,rfl,cy,bR⟩ cz;refine zg 4 rfl (Cz cz FY fun U cA=>?_);refine zg 1 rfl (BM 3 cA Dl fun cB=>?_);refine CV 3 cB rfl fun eQ a0 bS bT=>zg 8 rfl (AN cw (fun cC cD=>?_) (fun cC cE=>?_))
 ·refine zg 7 rfl ?_;obtain rfl:=oi cD;exact AD func35 rfl rfl (bw ((ag.Ac bx).Ac a0) rfl ⟨rfl,rfl⟩ bT)
 ·refine zg 8 rfl (JL.fl 1 bS underlying97 Dt EC ?_);obtain⟨cF,cG,cH⟩:=bs cE;refine BD (Tk (bR.Ah a0) cG) rfl rfl (AR func87 rfl) bT fun eR a5 cI=>?_;obtain⟨eS,cJ,cK⟩:=bs cH;refine KF (vs:= [uV cF]) (To cJ) rfl rfl rfl rfl (AR func85 rfl) rfl cI ?_;rintro _ eT _ a6 ⟨rfl,rfl⟩ cM;obtain⟨eU,cN,cO⟩:=bs cK;have bU:=(cy.Ah ((a0.Ac a5).Ac a6));refine zg 11 rfl ?_;rw [cN] at bU;obtain⟨V,Y,_,rfl,cP,⟨_,_,rfl,⟨eV,eW,rfl,cQ⟩,⟨_,eX,rfl,⟨eY,eZ,rfl,cR⟩,cT⟩⟩⟩:=bU;obtain⟨bV,cV,cW⟩:=bs cO;refine C7 [] [(4,iV bV.1),(10,iV bV.2)] (fun e0 bW bY=>?_) (fun cX=>?_)
  ·refine zg 6 rfl (AN cW (fun cY cZ=>?_) (fun cY c0=>?_))
   ·refine zg 6 rfl ?_;obtain rfl:=oi cZ;exact AD func35 rfl rfl (bw (((((ag.Ac bx).Ac a0).Ac a5).Ac a6).Ac bW) rfl ⟨rfl,rfl⟩ bY)
   ·refine zg 9 rfl ?_;obtain rfl:=oi c0;exact AD func35 rfl rfl (bw (((((ag.Ac bx).Ac a0).Ac a5).Ac a6).Ac bW) rfl ⟨rfl,rfl⟩ bY)
  ·refine JL.block (Cy cV (fun K=> []) (fun K=> [(4,iV K.1),(7,pV V Y),(8,pV U 0),(9,(fV 85)),(10,iV K.2.1),(35,iV K.2.2)]) Ar cM ?_);rintro K be Z bZ c1 ⟨e1,bB⟩ c3;have b0:=bB;unfold Sd at b0;refine zg 5 rfl (AN b0 (fun c4 c5=>?_) (fun c4 c6=>?_))
   ·refine zg 10 rfl (Cz bZ (Du type114) fun O c7=>?_);refine zg 4 rfl (JL.fl 1 (bS.Ah ((a5.Ac a6).Ac Z)) underlying97 Dt EC ?_);refine Bh underlying95 rfl rfl rfl ?_;obtain⟨c8,c9,da⟩:=bs c5;refine zg 2 rfl (Br (fun L s=>∃(bC:LH) (a7:List Value),Jn be H bC [bX O (([]:List Value)++a7).toArray 114] [(4,iV K.1),(7,pV V Y),(8,pV U 0),(9,(fV 85)),(10,iV K.2.1),(11,iV K.2.2),(12,pV O 0),(35,iV K.2.2)] L s ((rA 8 (rN .u16)).r bC a7 c8)) ?_ ?_)
    ·rintro _ _ ⟨bC,a7,rfl,rfl,db,b1,b2⟩;refine zg 7 rfl (AB (v:= .agg a7.toArray) rfl (fun ρ h=>KN (kk:=8) (pp:=(rN .u16)) b2 (Dv underlying114) (Bo type114) (h _ _ rfl) (Mv (l:= []) 0 b1 rfl)) ?_);obtain⟨dc,dd,de⟩:=bs da;refine zg 2 rfl (C7 [] [(4,iV K.1),(7,pV V Y),(8,pV U 0),(9,(fV 85)),(10,iV K.2.1),(11,iV K.2.2),(17,iV dc),(35,iV K.2.2)] (fun e2 df b3=>?_) (fun dg=>?_))
     ·obtain⟨bi,dh,di⟩:=bs de;refine zg 6 rfl (C7 [] [(4,iV bi.1),(7,pV V Y),(8,pV U 0),(9,(fV 85)),(10,iV bi.2),(35,iV K.2.2)] (fun e3 dj dk=>?_) (fun b4=>?_))
      ·obtain⟨dl,dm,dn⟩:=bs di;refine zg 2 rfl (Be dm rfl rfl rfl ?_);refine zg 2 rfl ?_;obtain rfl:=oi dn;exact c3 (bi.1,bi.2,dl) (((Z.Ac db).Ac df).Ac dj) dk rfl bB
      ·refine AN dh (fun dp dq=>?_) (fun dp dr=>?_)
       ·refine zg 6 rfl ?_;obtain rfl:=oi dq;exact b4 Ar b3 rfl
       ·refine JL.skip ?_;obtain rfl:=oi dr;exact b4 Ar b3 rfl
     ·refine JL.block (JS.drop 0 b1 rfl fun dt=>?_);refine Cy dd (fun a1=> []) (fun a1=> [(4,iV K.1),(7,pV V Y),(8,pV U 0),(9,(fV 85)),(10,iV K.2.1),(11,iV K.2.2),(17,iV a1.1),(35,iV K.2.2),(65,.agg a7.toArray),(66,iV a1.2)]) Ar dt ?_;rintro a1 e4 bD b5 du ⟨e5,bE⟩ dv;have b6:=bE;unfold Ry at b6;refine zg 5 rfl (AN b6 (fun dw dx=>?_) (fun dw dy=>?_))
      ·obtain⟨dz,dA,dB⟩:=bs dx;refine zg 5 rfl (Zw (Rp.Ah _ bD b2) dA rfl rfl rfl rfl rfl underlying114 Ei GR ?_ (fun _=>rfl));rintro _ rfl;obtain⟨b7,dC,dD⟩:=bs dB;refine zg 6 rfl (KF (vs:= [uV dz]) (To dC) rfl rfl rfl rfl (AR func85 rfl) rfl b5 ?_);rintro _ e6 _ dE ⟨rfl,rfl⟩ dF;refine AB (v:=iV (max a1.1 b7)) rfl (fun ρ h=>Yl.max2 (h _ _ rfl) (h _ _ rfl)) ?_;obtain⟨dG,dH,dI⟩:=bs dD;refine zg 4 rfl (Be dH rfl rfl rfl ?_);refine zg 2 rfl ?_;obtain rfl:=oi dI;exact dv (max a1.1 b7,dG) (bD.Ac dE) dF rfl bE
      ·refine JL.exit rfl ?_;obtain rfl:=oi dy;obtain rfl:=du _ bE;exact dg bD b5 rfl
    ·intro dJ;refine JL.block (CN c9 (fun L s a8=>∃(bn:LH) (a9:List Value),Jn be H bn [bX O (([]:List Value)++a9).toArray 114] [(4,iV K.1),(7,pV V Y),(8,pV U 0),(9,(fV 85)),(10,iV K.2.1),(11,iV K.2.2),(12,pV O 0),(35,iV K.2.2),(39,sV bz av.2.1.2 bA),(40,iV (av.2.1.2.length:Int)),(41,iV a8.2)] L s ((rA 8 (rN .u16)).r bn a9 a8.1)) ⟨be,(List.replicate 8 (uV 0):List Value),rfl,rfl,Ar,c7,(J1 (E:=be) (pp:=(rN .u16)) rfl)⟩ ?_);rintro _ _ a8 ⟨bn,a9,rfl,rfl,al,b8,b9⟩ dK ⟨e7,bF⟩ dL;have ca:=bF;unfold RS at ca;refine zg 5 rfl (AN ca (fun dM dN=>?_) (fun dM dO=>?_))
     ·obtain⟨dP,dQ,dR⟩:=bs dN;refine zg 5 rfl (B9 (bR.Ah ((((a0.Ac a5).Ac a6).Ac Z).Ac al)) dQ underlying95 Cu ?_);rintro e8 e9 _ ⟨_,_,rfl,rfl,⟨_,_,rfl,⟨fa,fb,rfl,dS⟩,rfl⟩⟩ dT;refine BQ dT FX Cu rfl rfl (Cz b8 GV fun dU dV=>?_);refine BM 1 dV Cu fun dW=>?_;refine CV 1 dW rfl fun fc am cb dX=>zg 4 rfl (BQ cb FX Cu rfl rfl ?_);obtain⟨fd,dY,dZ⟩:=bs dR;refine zg 1 rfl (BD (aR (cP.Ah ((Z.Ac al).Ac am)) (cQ.Ah ((Z.Ac al).Ac am)) (cR.Ah ((Z.Ac al).Ac am)) (Rp.Ah _ ((Z.Ac al).Ac am) cT) (dS.Ah am) dY) rfl rfl (AR func88 rfl) dX fun fe bG ea=>?_);obtain⟨cc,eb,ec⟩:=bs dZ;refine BL (IG eb) rfl rfl Ig ea ?_;rintro _ bH _ bI ⟨ed,ee,rfl,rfl,ef⟩ eg;refine Bh underlying28 rfl rfl rfl ?_;obtain⟨cd,eh,ei⟩:=bs ec;refine zg 2 rfl (Br (fun L s=>∃(bo:LH) (bp:List Value),Jn bH H bo [bX O (([]:List Value)++bp).toArray 114] [(4,iV K.1),(7,pV V Y),(8,pV U 0),(9,(fV 85)),(10,iV K.2.1),(11,iV K.2.2),(12,pV O 0),(35,iV K.2.2),(39,sV bz av.2.1.2 bA),(40,iV (av.2.1.2.length:Int)),(41,iV a8.2)] L s ((rA 8 (rN .u16)).r bo bp cd)) ?_ ?_)
      ·rintro _ _ ⟨bo,bp,rfl,rfl,ej,ek,el⟩;obtain⟨em,en,eo⟩:=bs ei;refine zg 2 rfl (Be en rfl rfl rfl ?_);refine zg 2 rfl ?_;obtain rfl:=oi eo;exact Ay (dL _ _ (cd,em) ⟨bo,bp,rfl,rfl,((((al.Ac am).Ac bG).Ac bI).Ac ej),ek,el⟩ bF) rfl
      ·intro ep;refine JL.block (CN eh (fun L s bb=>∃(bq:LH) (a2:List Value),Jn bH H bq [bX O (([]:List Value)++a2).toArray 114] [(4,iV K.1),(7,pV V Y),(8,pV U 0),(9,(fV 85)),(10,iV K.2.1),(11,iV K.2.2),(12,pV O 0),(14,pV dU 0),(35,iV K.2.2),(39,sV bz av.2.1.2 bA),(40,iV (av.2.1.2.length:Int)),(41,iV a8.2),(49,sV ed cc ee),(50,iV (cc.length:Int)),(51,iV bb.2)] L s ((rA 8 (rN .u16)).r bq a2 bb.1)) ⟨bH,a9,rfl,rfl,Ar,eg,(Rp.Ah _ ((am.Ac bG).Ac bI) b9)⟩ ?_);rintro _ _ bb ⟨bq,a2,rfl,rfl,br,bd,a3⟩ eq ⟨ff,bJ⟩ er;have ce:=bJ;unfold Se at ce;refine zg 5 rfl (AN ce (fun et eu=>?_) (fun et ew=>?_))
       ·obtain⟨a4,ex,ey⟩:=bs eu;refine zg 5 rfl (B9 (ef.Ah br) ex underlying28 AU ?_);rintro fg fh _ rfl ez;refine BW 0 ez Bv rfl rfl rfl (zg 2 rfl ?_);refine Di 7 [O] ⟨⟨0,_,rfl⟩,trivial⟩ bd fun ht=>A2 ht rfl [0,1] rfl ?_;obtain⟨cf,cg,eA⟩:=bs ey;obtain⟨_,rfl,_,_,eB⟩:=Ir (kk:=8) (pp:=(rN .u16)) a3 cg;refine Bx (v:= .pointer (some ⟨O,0+Int.toNat (a4)*1,none⟩)) 2 ht rfl rfl (fun ρ h s' hs=>JC (kk:=8) (pp:=(rN .u16)) a3 cg underlying114 Ei (h _ _ rfl) (h _ _ rfl)) (Bx (v:= uV cf) 3 ht rfl rfl (fun ρ h s' hs=>Yl.load GR (h _ _ rfl) (UR (l:= []) 0 bd rfl (by simp [A6]) hs (eB 0 _ rfl))) ?_);refine Ca 4 ht underlying104 AU rfl rfl rfl rfl (JG.lp 5 ht 0 (cb.Ah ((bG.Ac bI).Ac br)) bd ⟨⟨0,_,rfl⟩,trivial⟩ Bv ?_);obtain⟨ap,eC,eD⟩:=bs eA;refine Q2 (i:=6) ⟨⟨0,_,rfl⟩,trivial⟩ (vs:= [uV cf,iV dP.1]) (NH eC) (by decide+kernel) rfl rfl rfl Me rfl bd ?_;rintro _ ci _ bu ⟨rfl,rfl⟩ eE;refine Cg [7,8] ?_;obtain⟨fj,bK,eF⟩:=bs eD;obtain⟨_,rfl,_,_,fk⟩:=Ir (kk:=8) (pp:=(rN .u16)) (Rp.Ah _ bu a3) bK;refine AB (v:= .pointer (some ⟨O,0+Int.toNat (a4)*1,none⟩)) rfl (fun ρ h=>JC (kk:=8) (pp:=(rN .u16)) (Rp.Ah _ bu a3) bK underlying114 Ei (h _ _ rfl) (h _ _ rfl)) ?_;have bv:=Pc (us:= [uV ap]) (y:=ap) (Rp.Ah _ bu a3) bK rfl;refine KD (v:= uV ap) (l:= []) (ws:=a2) (us:= [uV ap]) (o:=Int.toNat (a4)*1) 0 rfl rfl rfl eE rfl rfl rfl Ei (by simp [Value.cells,CG]) rfl bv.2 fun ck=>?_;replace bv:=bv.1;generalize eG:HA a2 (Int.toNat (a4)*1) [uV ap]=cm at ck ⊢;have eH:(rA 8 (rN .u16)).r ci cm (bb.1.set (Int.toNat a4) ap):=by rw [← eG];exact bv
        obtain⟨eI,eJ,eK⟩:=bs eF;refine zg 3 rfl (Be eJ rfl rfl rfl ?_);refine zg 2 rfl ?_;obtain rfl:=oi eK;exact Ay (er _ _ ((bb.1.set (Int.toNat a4) ap),eI) ⟨ci,cm,rfl,rfl,(br.Ac bu),ck,eH⟩ bJ) rfl
       ·refine JL.exit rfl ?_;obtain rfl:=oi ew;obtain rfl:=eq _ bJ;exact Ay (ep _ _ ⟨bq,a2,rfl,rfl,br,bd,a3⟩) rfl
     ·refine JL.exit rfl ?_;obtain rfl:=oi dO;obtain rfl:=dK _ bF;exact Ay (dJ _ _ ⟨bn,a9,rfl,rfl,al,b8,b9⟩) rfl
   ·refine JL.exit rfl ?_;obtain rfl:=oi c6;obtain rfl:=c1 _ bB;exact cX Z bZ rfl
def Ps(fuel:Nat)(p0:A1)(p1:AI)(p2:AI):Option (Bool×Int):= (HB fuel p0 p1).bind fun O=> if O≠0 then(some (false,O)) else((HB fuel p0 p2).bind fun U=> if U≠0 then(some (false,U)) else((f92 fuel p0).bind fun ag=> (ag).bind fun K=> (f93 fuel K p1).bind fun V=> (f93 fuel K p2).bind fun Y=> Option.bind (if(V.2.length:Int)=0 then(some true) else(some (decide ((Y.2.length:Int)=0)))) fun al=> if al=true then(some (false,0)) else((f94 fuel p1 p2).bind fun am=> (f93 fuel K am).bind fun Z=> Option.bind (if 0<(Z.2.length:Int) then((As (V.1+Y.1)).bind fun ap=> some (decide (Z.1≤ap))) else(some false)) fun av=> some (av,0))))
theorem ZG{E:LH}{bp:An}{c2:Nat}{bq:An}{br:Nat}{a0:An}{a1:Nat}{a2:An}{a3:Nat}{p0:A1}{p1:AI}{p2:AI}(bu:GE E)(a4:Al (rL rI) E bp c2 p0.1)(a5:Al (rL rI) E bq br p0.2)(a6:Al Bp E a0 a1 p1)(a7:Al Bp E a2 a3 p2){fuel:Nat}{r:Bool×Int}(bv:Ps fuel p0 p1 p2=some r):AL (DJ Tryz.prog) 37 [.agg #[sV bp p0.1 c2,sV bq p0.2 br],sV a0 p1 a1,sV a2 p2 a3] E [] (fun w E' B'=>w= .tuple #[.bool r.1,iV r.2]∧B'= []):=by
 refine A4 func37 fun Q cV cs H bK av=>?_;unfold Ps at bv;refine zg 2 rfl (B4 bK fun cW cX K a8 bL=>?_);refine zg 6 rfl (BQ a8 BY BC rfl rfl ?_);obtain⟨cY,bM,bN⟩:=bs bv;refine zg 1 rfl (BD (Lg (bu.Ah K) (a4.Ah K) (a5.Ah K) (a6.Ah K) bM) rfl rfl Ko bL fun cZ O bw=>?_);refine zg 7 rfl (AN bN (fun bO bP=>?_) (fun bO bQ=>?_))
 ·refine zg 6 rfl ?_;obtain rfl:=oi bP;exact AD func37 rfl rfl (av (K.Ac O) rfl ⟨rfl,rfl⟩ bw)
 ·refine zg 4 rfl (BQ (a8.Ah O) BY BC rfl rfl ?_);obtain⟨c0,bR,bS⟩:=bs bQ;refine zg 1 rfl (BD (Lg (bu.Ah (K.Ac O)) (a4.Ah (K.Ac O)) (a5.Ah (K.Ac O)) (a7.Ah (K.Ac O)) bR) rfl rfl Ko bw fun c1 V bT=>?_);refine Cs (S':= [[],[],[],[]]) rfl bT fun bx=>zg 7 rfl (AN bS (fun bU bV=>?_) (fun bU bW=>?_))
  ·refine zg 6 rfl ?_;obtain rfl:=oi bV;exact AD func37 rfl rfl (av ((K.Ac O).Ac V) rfl ⟨rfl,rfl⟩ bx)
  ·refine zg 3 rfl (BQ (a8.Ah (O.Ac V)) BY BC rfl rfl ?_);obtain⟨c3,bY,bZ⟩:=bs bW;refine BL (NG (a4.Ah ((K.Ac O).Ac V)) (a5.Ah ((K.Ac O).Ac V)) bY) rfl rfl Mb bx ?_;rintro c4 c5 _ ap ⟨_,rfl,rfl,b0⟩ b1;obtain⟨c6,b2,b3⟩:=bs bZ;have bz:=b0;refine zg 6 rfl ?_;rw [b2] at bz;obtain⟨b4,b5,_,rfl,a9,⟨_,_,rfl,⟨c7,c8,rfl,bb⟩,⟨_,c9,rfl,⟨da,db,rfl,bd⟩,be⟩⟩⟩:=bz;obtain⟨dc,b6,b7⟩:=bs b3;refine BL (NB a9 bb bd be (a6.Ah (((K.Ac O).Ac V).Ac ap)) b6) rfl rfl Md b1 ?_;rintro _ dd _ U ⟨de,df,rfl,rfl,dg⟩ b8;obtain⟨dh,b9,ca⟩:=bs b7;refine zg 2 rfl (BL (NB (a9.Ah U) (bb.Ah U) (bd.Ah U) (Rp.Ah _ U be) (a7.Ah ((((K.Ac O).Ac V).Ac ap).Ac U)) b9) rfl rfl Md b8 ?_);rintro _ di _ ag ⟨dj,dk,rfl,rfl,dl⟩ cb;refine Cs (S':= [[],[],[],[],[],[],[]]) rfl cb fun cc=>Cz cc FY fun cd ce=>?_;refine Cz ce FY fun bA cf=>?_;refine BM 7 cf Dl fun cg=>?_;refine CV 7 cg rfl fun dm al bB ci=>Cs (S':= [[],[],[],[],[],[],[],[],[(bA,.cells #[iV 0,nS] 97 (0,0))]]) rfl ci fun ck=>BM 8 ck Dl fun cm=>?_;refine CV 8 cm rfl fun bi Y bC bD=>zg 4 rfl (JL.fl 1 (bB.Ah Y) underlying97 Dt EC ?_);refine Bh underlying95 rfl rfl rfl ?_;obtain⟨cn,co,cp⟩:=bs ca;refine zg 2 rfl (Et [] (fun L s=>∃(bE:LH),Jm bi H bE [] [(1,sV a0 p1 a1),(2,sV a2 p2 a3),(10,pV b4 b5),(11,pV cd 0),(12,pV bA 0),(43,.bool cn)] L s) ?_ ?_)
   ·rintro _ _ ⟨bE,rfl,rfl,Z,bF⟩;refine JL.done (BF cp (fun cq cr=>?_) (fun cq ct=>?_))
    ·refine zg 5 rfl ?_;obtain rfl:=oi cr;exact AD func37 rfl rfl (av ((((((((K.Ac O).Ac V).Ac ap).Ac U).Ac ag).Ac al).Ac Y).Ac Z) rfl ⟨rfl,rfl⟩ bF)
    ·obtain⟨dn,cu,cv⟩:=bs ct;refine zg 6 rfl (BL (ar (a6.Ah ((((((((K.Ac O).Ac V).Ac ap).Ac U).Ac ag).Ac al).Ac Y).Ac Z)) (a7.Ah ((((((((K.Ac O).Ac V).Ac ap).Ac U).Ac ag).Ac al).Ac Y).Ac Z)) cu) rfl rfl (AR func94 rfl) bF ?_);rintro _ dp _ am ⟨dq,dr,rfl,rfl,cw⟩ cy;obtain⟨dt,cz,cA⟩:=bs cv;refine BL (NB (a9.Ah (((((U.Ac ag).Ac al).Ac Y).Ac Z).Ac am)) (bb.Ah (((((U.Ac ag).Ac al).Ac Y).Ac Z).Ac am)) (bd.Ah (((((U.Ac ag).Ac al).Ac Y).Ac Z).Ac am)) (Rp.Ah _ (((((U.Ac ag).Ac al).Ac Y).Ac Z).Ac am) be) cw cz) rfl rfl Md cy ?_;rintro _ du _ bn ⟨dv,dw,rfl,rfl,dx⟩ cB;refine Cs (S':= [[],[]]) rfl cB fun cC=>Cz cC FY fun dy cD=>?_;refine BM 2 cD Dl fun cE=>?_;refine CV 2 cE rfl fun dz bo bG bH=>zg 3 rfl (JL.fl 1 bG underlying97 Dt EC ?_);refine Bh underlying95 rfl rfl rfl ?_;obtain⟨cF,cG,cH⟩:=bs cA;refine zg 2 rfl (Dq 14 2 [] [(62,.bool cF)] (fun dA cI cJ=>?_) (fun bI=>?_))
     ·refine zg 3 rfl ?_;obtain rfl:=oi cH;exact AD func37 rfl rfl (av ((((((((((((K.Ac O).Ac V).Ac ap).Ac U).Ac ag).Ac al).Ac Y).Ac Z).Ac am).Ac bn).Ac bo).Ac cI) rfl ⟨rfl,rfl⟩ cJ)
     ·refine D7 53 cG (fun cK cM=>?_) (fun cK cN=>?_)
      ·refine JL.fl 0 bG underlying97 AU Bv ?_;refine JL.fl 0 (bB.Ah ((((Y.Ac Z).Ac am).Ac bn).Ac bo)) underlying97 AU Bv ?_;refine JL.fl 0 (bC.Ah (((Z.Ac am).Ac bn).Ac bo)) underlying97 AU Bv ?_;obtain⟨dB,cO,cP⟩:=bs cM;refine Be cO rfl rfl rfl (zg 2 rfl ?_);obtain rfl:=oi cP;exact bI Ar bH rfl
      ·refine zg 9 rfl ?_;obtain rfl:=oi cN;exact bI Ar bH rfl
   ·intro bJ;refine D7 38 co (fun cQ cR=>?_) (fun cQ cT=>?_)
    ·refine zg 5 rfl ?_;obtain rfl:=oi cR;exact Ay (bJ _ _ ⟨bi,rfl,rfl,Ar,bD⟩) rfl
    ·refine JL.fl 1 bC underlying97 Dt EC ?_;refine Bh underlying95 rfl rfl rfl (zg 2 rfl ?_);obtain rfl:=oi cT;exact Ay (bJ _ _ ⟨bi,rfl,rfl,Ar,bD⟩) rfl
end Pal
namespace Pal
open Go Go.Conc Go.Proofs
open Go.Proofs.Tryz
def IJ(fuel:Nat):Option Bool:= (f71 fuel).bind fun am=> (PC fuel am 4).bind fun U=> (f71 fuel).bind fun ap=> (PG fuel ap 5).bind fun V=> (f71 fuel).bind fun av=> (f72 fuel).bind fun a0=> (HY fuel av a0 2).bind fun Y=> (f71 fuel).bind fun a1=> (Pt fuel a1 ([])).bind fun Z=> (f71 fuel).bind fun a2=> (f73 fuel).bind fun a3=> (Pv fuel a2 a3 1).bind fun ag=> (f71 fuel).bind fun a4=> (Pu fuel a4 ([])).bind fun K=> (f71 fuel).bind fun a5=> (f72 fuel).bind fun a6=> (f72 fuel).bind fun a7=> (Ps fuel a5 a6 a7).bind fun al=> (f71 fuel).bind fun a8=> (f73 fuel).bind fun a9=> (PI fuel a8 a9).bind fun O=> Option.bind (if U.2=0 then(some (decide (V.2=0))) else(some false)) fun bb=> Option.bind (if bb=true then(some (decide (Y.2=0))) else(some false)) fun bd=> Option.bind (if bd=true then(some (decide (Z.2=0))) else(some false)) fun be=> Option.bind (if be=true then(some (decide (ag.2=0))) else(some false)) fun bi=> Option.bind (if bi=true then(some (decide (K.2.2=0))) else(some false)) fun bn=> Option.bind (if bn=true then(some (decide (al.2=0))) else(some false)) fun bo=> Option.bind (if bo=true then(some (decide (O.2.2=0))) else(some false)) fun bp=> Option.bind (if bp=true then(some (decide (V.1=3))) else(some false)) fun bq=> Option.bind (if bq=true then(some (decide (Z.1=15))) else(some false)) fun br=> Option.bind (if br=true then(some (decide (ag.1=1))) else(some false)) fun bu=> Option.bind (if bu=true then(some (decide (K.1=0))) else(some false)) fun bv=> Option.bind (if bv=true then(some (decide (K.2.1=9))) else(some false)) fun bw=> Option.bind (if bw=true then(some al.1) else(some false)) fun bx=> Option.bind (if bx=true then(some (decide (O.1=3))) else(some false)) fun bz=> Option.bind (if bz=true then((f32 fuel U.1 ([4,5]:List Int)).bind fun bA=> some bA) else(some false)) fun bB=> Option.bind (if bB=true then((f32 fuel Y.1 ([2,3,4]:List Int)).bind fun bC=> some bC) else(some false)) fun bD=> Option.bind (if bD=true then((f32 fuel O.2.1 ([3,4]:List Int)).bind fun bE=> some bE) else(some false)) fun bF=> some bF
theorem SQ{E:LH}(a6:GE E){fuel:Nat}{r:Bool}(bQ:IJ fuel=some r):AL (DJ Tryz.prog) 22 [] E [] (fun w E' B'=>w= .bool r∧B'= []):=by
 refine A4 func22 fun Q gC cs H cz cA=>?_;unfold IJ at bQ;obtain⟨gD,cB,cC⟩:=bs bQ;refine zg 6 rfl (BL (IF cB) rfl rfl Ih cz ?_);rintro _ gE _ a3 ⟨gF,gG,gH,gI,rfl,rfl,cD,cE⟩ cF;obtain⟨am,cG,cH⟩:=bs cC;refine BL (Y3 (a6.Ah a3) cD cE cG) rfl rfl (AR func51 rfl) cF ?_;rintro _ gJ _ a7 ⟨ap,av,rfl,rfl,cI⟩ cJ;obtain⟨gK,cK,cM⟩:=bs cH;refine zg 8 rfl (BL (IF cK) rfl rfl Ih cJ ?_);rintro _ gL _ a4 ⟨gM,gN,gO,gP,rfl,rfl,cN,cO⟩ cP;obtain⟨be,cQ,cR⟩:=bs cM;refine BD (Zq (a6.Ah ((a3.Ac a7).Ac a4)) cN cO cQ) rfl rfl (AR func57 rfl) cP fun gQ a8 cT=>?_;obtain⟨gR,cV,cW⟩:=bs cR;refine zg 8 rfl (BL (IF cV) rfl rfl Ih cT ?_);rintro _ gS _ a9 ⟨gT,gU,gV,gW,rfl,rfl,cX,cY⟩ cZ;obtain⟨gX,c0,c1⟩:=bs cW;refine BL (Pj c0) rfl rfl Oa cZ ?_;rintro _ gY _ a1 ⟨gZ,g0,rfl,rfl,c2⟩ c3;obtain⟨V,c4,c5⟩:=bs c1;refine BL (SK (a6.Ah (((((a3.Ac a7).Ac a4).Ac a8).Ac a9).Ac a1)) (cX.Ah a1) (cY.Ah a1) c2 c4) rfl rfl (AR func43 rfl) c3 ?_;rintro _ g1 _ bi ⟨ag,al,rfl,rfl,c6⟩ c7;obtain⟨g3,c8,c9⟩:=bs c5;refine zg 8 rfl (BL (IF c8) rfl rfl Ih c7 ?_);rintro _ g4 _ bb ⟨g5,g6,g7,g8,rfl,rfl,da,db⟩ dc;obtain⟨a2,dd,de⟩:=bs c9;refine BD (Zz (a6.Ah (((((((a3.Ac a7).Ac a4).Ac a8).Ac a9).Ac a1).Ac bi).Ac bb)) da db Al.nil dd) rfl rfl (AR func28 rfl) dc fun g9 bn df=>?_;obtain⟨ha,dg,dh⟩:=bs de;refine zg 8 rfl (BL (IF dg) rfl rfl Ih df ?_);rintro _ hb _ bo ⟨hc,hd,he,hf,rfl,rfl,di,dj⟩ dk;obtain⟨hj,dl,dm⟩:=bs dh;refine BL (S9 dl) rfl rfl (AR func73 rfl) dk ?_;rintro _ hk _ a5 ⟨hl,hm,rfl,rfl,dn⟩ dp;obtain⟨a0,dq,dr⟩:=bs dm;refine BD (Zu (a6.Ah ((((((((((a3.Ac a7).Ac a4).Ac a8).Ac a9).Ac a1).Ac bi).Ac bb).Ac bn).Ac bo).Ac a5)) (di.Ah a5) (dj.Ah a5) dn dq) rfl rfl (AR func49 rfl) dp fun hn bq dt=>?_;obtain⟨ho,du,dv⟩:=bs dr;refine zg 8 rfl (BL (IF du) rfl rfl Ih dt ?_);rintro _ hp _ br ⟨hq,hr,hu,hv,rfl,rfl,dw,dx⟩ dy;obtain⟨O,dz,dA⟩:=bs dv;refine BD (ZD (a6.Ah ((((((((((((a3.Ac a7).Ac a4).Ac a8).Ac a9).Ac a1).Ac bi).Ac bb).Ac bn).Ac bo).Ac a5).Ac bq).Ac br)) dw dx Al.nil dz) rfl rfl (AR func35 rfl) dy fun hw bv dB=>?_;obtain⟨hx,dC,dD⟩:=bs dA;refine zg 10 rfl (BL (IF dC) rfl rfl Ih dB ?_);rintro _ hy _ bw ⟨hz,hA,hB,hC,rfl,rfl,dE,dF⟩ dG;obtain⟨hD,dH,dI⟩:=bs dD;refine BL (Pj dH) rfl rfl Oa dG ?_;rintro _ hE _ bp ⟨hF,hG,rfl,rfl,dJ⟩ dK;obtain⟨hH,dL,dM⟩:=bs dI;refine BL (Pj dL) rfl rfl Oa dK ?_;rintro _ hI _ bd ⟨hJ,hK,rfl,rfl,dN⟩ dO;obtain⟨U,dP,dQ⟩:=bs dM;refine BD (ZG (a6.Ah ((((((((((((((((a3.Ac a7).Ac a4).Ac a8).Ac a9).Ac a1).Ac bi).Ac bb).Ac bn).Ac bo).Ac a5).Ac bq).Ac br).Ac bv).Ac bw).Ac bp).Ac bd)) (dE.Ah (bp.Ac bd)) (dF.Ah (bp.Ac bd)) (dJ.Ah bd) dN dP) rfl rfl (AR func37 rfl) dO fun hL bx dR=>?_;obtain⟨hM,dS,dT⟩:=bs dQ;refine zg 8 rfl (BL (IF dS) rfl rfl Ih dR ?_);rintro _ hN _ bz ⟨hO,hP,hQ,hR,rfl,rfl,dU,dV⟩ dW;obtain⟨hS,dX,dY⟩:=bs dT;refine BL (S9 dX) rfl rfl (AR func73 rfl) dW ?_;rintro _ hT _ bu ⟨hU,hV,rfl,rfl,dZ⟩ ea;obtain⟨K,eb,ec⟩:=bs dY;refine BL (Y9 (a6.Ah (((((((((((((((((((a3.Ac a7).Ac a4).Ac a8).Ac a9).Ac a1).Ac bi).Ac bb).Ac bn).Ac bo).Ac a5).Ac bq).Ac br).Ac bv).Ac bw).Ac bp).Ac bd).Ac bx).Ac bz).Ac bu)) (dU.Ah bu) (dV.Ah bu) dZ eb) rfl rfl (AR func30 rfl) ea ?_;rintro _ hW _ bO ⟨Y,Z,rfl,rfl,ed⟩ bR;obtain⟨ee,ef,eg⟩:=bs ec;refine zg 13 rfl (Dq 6 67 [] [(1,sV ap am.1 av),(3,iV be.1),(5,sV ag V.1 al),(6,iV V.2),(7,iV a2.1),(8,iV a2.2),(9,iV a0.1),(10,iV a0.2),(11,iV O.1),(12,iV O.2.1),(13,iV O.2.2),(14,.bool U.1),(15,iV U.2),(16,iV K.1),(17,sV Y K.2.1 Z),(18,iV K.2.2),(71,.bool ee)] (fun hX bA bS=>?_) (fun bT=>?_))
 ·obtain⟨eh,ei,ej⟩:=bs eg;refine zg 1 rfl (Dq 10 63 [] [(1,sV ap am.1 av),(3,iV be.1),(5,sV ag V.1 al),(7,iV a2.1),(8,iV a2.2),(9,iV a0.1),(10,iV a0.2),(11,iV O.1),(12,iV O.2.1),(13,iV O.2.2),(14,.bool U.1),(15,iV U.2),(16,iV K.1),(17,sV Y K.2.1 Z),(18,iV K.2.2),(75,.bool eh)] (fun hY bB bU=>?_) (fun bV=>?_))
  ·obtain⟨ek,el,em⟩:=bs ej;refine zg 1 rfl (Dq 14 59 [] [(1,sV ap am.1 av),(3,iV be.1),(5,sV ag V.1 al),(7,iV a2.1),(9,iV a0.1),(10,iV a0.2),(11,iV O.1),(12,iV O.2.1),(13,iV O.2.2),(14,.bool U.1),(15,iV U.2),(16,iV K.1),(17,sV Y K.2.1 Z),(18,iV K.2.2),(79,.bool ek)] (fun hZ bC bW=>?_) (fun bY=>?_))
   ·obtain⟨en,eo,ep⟩:=bs em;refine zg 1 rfl (Dq 18 55 [] [(1,sV ap am.1 av),(3,iV be.1),(5,sV ag V.1 al),(7,iV a2.1),(9,iV a0.1),(11,iV O.1),(12,iV O.2.1),(13,iV O.2.2),(14,.bool U.1),(15,iV U.2),(16,iV K.1),(17,sV Y K.2.1 Z),(18,iV K.2.2),(83,.bool en)] (fun h0 bD bZ=>?_) (fun b0=>?_))
    ·obtain⟨eq,er,et⟩:=bs ep;refine zg 1 rfl (Dq 22 51 [] [(1,sV ap am.1 av),(3,iV be.1),(5,sV ag V.1 al),(7,iV a2.1),(9,iV a0.1),(11,iV O.1),(12,iV O.2.1),(14,.bool U.1),(15,iV U.2),(16,iV K.1),(17,sV Y K.2.1 Z),(18,iV K.2.2),(87,.bool eq)] (fun h1 bE b1=>?_) (fun b2=>?_))
     ·obtain⟨eu,ew,ex⟩:=bs et;refine zg 1 rfl (Dq 26 47 [] [(1,sV ap am.1 av),(3,iV be.1),(5,sV ag V.1 al),(7,iV a2.1),(9,iV a0.1),(11,iV O.1),(12,iV O.2.1),(14,.bool U.1),(16,iV K.1),(17,sV Y K.2.1 Z),(18,iV K.2.2),(91,.bool eu)] (fun h2 bF b3=>?_) (fun b4=>?_))
      ·obtain⟨ey,ez,eA⟩:=bs ex;refine zg 1 rfl (Dq 30 43 [] [(1,sV ap am.1 av),(3,iV be.1),(5,sV ag V.1 al),(7,iV a2.1),(9,iV a0.1),(11,iV O.1),(12,iV O.2.1),(14,.bool U.1),(16,iV K.1),(17,sV Y K.2.1 Z),(95,.bool ey)] (fun h3 bG b5=>?_) (fun b6=>?_))
       ·obtain⟨eB,eC,eD⟩:=bs eA;refine zg 1 rfl (Dq 34 39 [] [(1,sV ap am.1 av),(5,sV ag V.1 al),(7,iV a2.1),(9,iV a0.1),(11,iV O.1),(12,iV O.2.1),(14,.bool U.1),(16,iV K.1),(17,sV Y K.2.1 Z),(99,.bool eB)] (fun h4 bH b7=>?_) (fun b8=>?_))
        ·obtain⟨eE,eF,eG⟩:=bs eD;refine zg 1 rfl (Dq 38 35 [] [(1,sV ap am.1 av),(5,sV ag V.1 al),(9,iV a0.1),(11,iV O.1),(12,iV O.2.1),(14,.bool U.1),(16,iV K.1),(17,sV Y K.2.1 Z),(103,.bool eE)] (fun h5 bI b9=>?_) (fun ca=>?_))
         ·obtain⟨eH,eI,eJ⟩:=bs eG;refine zg 1 rfl (Dq 42 31 [] [(1,sV ap am.1 av),(5,sV ag V.1 al),(11,iV O.1),(12,iV O.2.1),(14,.bool U.1),(16,iV K.1),(17,sV Y K.2.1 Z),(107,.bool eH)] (fun h6 bJ cb=>?_) (fun cc=>?_))
          ·obtain⟨eK,eL,eM⟩:=bs eJ;refine zg 1 rfl (Dq 46 27 [] [(1,sV ap am.1 av),(5,sV ag V.1 al),(12,iV O.2.1),(14,.bool U.1),(16,iV K.1),(17,sV Y K.2.1 Z),(111,.bool eK)] (fun h7 bK cd=>?_) (fun ce=>?_))
           ·obtain⟨eN,eO,eP⟩:=bs eM;refine zg 1 rfl (Dq 50 23 [] [(1,sV ap am.1 av),(5,sV ag V.1 al),(14,.bool U.1),(16,iV K.1),(17,sV Y K.2.1 Z),(115,.bool eN)] (fun h8 bL cf=>?_) (fun cg=>?_))
            ·obtain⟨eQ,eR,eS⟩:=bs eP;refine zg 1 rfl (Dq 53 20 [] [(1,sV ap am.1 av),(5,sV ag V.1 al),(16,iV K.1),(17,sV Y K.2.1 Z),(118,.bool eQ)] (fun h9 bM ci=>?_) (fun ck=>?_))
             ·obtain⟨eT,eU,eV⟩:=bs eS;refine zg 1 rfl (Dq 57 16 [] [(1,sV ap am.1 av),(5,sV ag V.1 al),(17,sV Y K.2.1 Z),(122,.bool eT)] (fun ia bN cm=>?_) (fun cn=>?_))
              ·obtain⟨eW,eX,eY⟩:=bs eV;refine zg 1 rfl (Dq 62 11 [] [(5,sV ag V.1 al),(17,sV Y K.2.1 Z),(127,.bool eW)] (fun ic bP co=>?_) (fun cp=>?_))
               ·obtain⟨eZ,e0,e1⟩:=bs eY;refine zg 1 rfl (Dq 67 6 [] [(17,sV Y K.2.1 Z),(132,.bool eZ)] (fun ie cq cr=>?_) (fun ct=>?_))
                ·obtain⟨e2,e3,e4⟩:=bs e1;refine zg 1 rfl (Dq 72 1 [] [(137,.bool e2)] (fun ig e5 e6=>?_) (fun cu=>?_))
                 ·refine zg 2 rfl ?_;obtain rfl:=oi e4;exact AD func22 rfl rfl (cA (((((((((((((((((((((((((((((((((((((a3.Ac a7).Ac a4).Ac a8).Ac a9).Ac a1).Ac bi).Ac bb).Ac bn).Ac bo).Ac a5).Ac bq).Ac br).Ac bv).Ac bw).Ac bp).Ac bd).Ac bx).Ac bz).Ac bu).Ac bO).Ac bA).Ac bB).Ac bC).Ac bD).Ac bE).Ac bF).Ac bG).Ac bH).Ac bI).Ac bJ).Ac bK).Ac bL).Ac bM).Ac bN).Ac bP).Ac cq).Ac e5) rfl ⟨rfl,rfl⟩ e6)
                 ·refine DO 133 e3 (fun e7 e8=>?_) (fun e7 e9=>?_)
                  ·refine zg 1 rfl (DC (pp:=rI) [iV 3,iV 4] [3,4] rfl rfl rfl underlying28 AU CM (by decide) rfl rfl rfl ⟨rfl,rfl,trivial⟩ cr fun ih ii fa fb=>?_);refine B5 0 fa fb rfl fun ij cv fc fd=>?_;obtain⟨ik,fe,ff⟩:=bs e8;refine BD (LB (ed.Ah ((((((((((((((((bA.Ac bB).Ac bC).Ac bD).Ac bE).Ac bF).Ac bG).Ac bH).Ac bI).Ac bJ).Ac bK).Ac bL).Ac bM).Ac bN).Ac bP).Ac cq).Ac cv)) fc fe) rfl rfl Km fd fun il fg fh=>zg 1 rfl ?_;obtain rfl:=oi ff;exact cu (cv.Ac fg) fh rfl
                  ·refine zg 4 rfl ?_;obtain rfl:=oi e9;exact cu Ar cr rfl
                ·refine DO 128 e0 (fun fj fk=>?_) (fun fj fm=>?_)
                 ·refine zg 1 rfl (DC (pp:=rI) [iV 2,iV 3,iV 4] [2,3,4] rfl rfl rfl underlying28 AU CM (by decide) rfl rfl rfl ⟨rfl,rfl,rfl,trivial⟩ co fun io iq fo fp=>?_);refine B5 0 fo fp rfl fun ir cw fq fs=>?_;obtain⟨it,fu,fv⟩:=bs fk;refine BD (LB (c6.Ah (((((((((((((((((((((((((((((bb.Ac bn).Ac bo).Ac a5).Ac bq).Ac br).Ac bv).Ac bw).Ac bp).Ac bd).Ac bx).Ac bz).Ac bu).Ac bO).Ac bA).Ac bB).Ac bC).Ac bD).Ac bE).Ac bF).Ac bG).Ac bH).Ac bI).Ac bJ).Ac bK).Ac bL).Ac bM).Ac bN).Ac bP).Ac cw)) fq fu) rfl rfl Km fs fun iu fw fx=>zg 1 rfl ?_;obtain rfl:=oi fv;exact ct (cw.Ac fw) fx rfl
                 ·refine zg 4 rfl ?_;obtain rfl:=oi fm;exact ct Ar co rfl
               ·refine DO 123 eX (fun fy fz=>?_) (fun fy fA=>?_)
                ·refine zg 1 rfl (DC (pp:=rI) [iV 4,iV 5] [4,5] rfl rfl rfl underlying28 AU CM (by decide) rfl rfl rfl ⟨rfl,rfl,trivial⟩ cm fun iv iw fB fC=>?_);refine B5 0 fB fC rfl fun iy cy fD fE=>?_;obtain⟨iz,fF,fG⟩:=bs fz;refine BD (LB (cI.Ah (((((((((((((((((((((((((((((((((a4.Ac a8).Ac a9).Ac a1).Ac bi).Ac bb).Ac bn).Ac bo).Ac a5).Ac bq).Ac br).Ac bv).Ac bw).Ac bp).Ac bd).Ac bx).Ac bz).Ac bu).Ac bO).Ac bA).Ac bB).Ac bC).Ac bD).Ac bE).Ac bF).Ac bG).Ac bH).Ac bI).Ac bJ).Ac bK).Ac bL).Ac bM).Ac bN).Ac cy)) fD fF) rfl rfl Km fE fun iA fH fI=>zg 1 rfl ?_;obtain rfl:=oi fG;exact cp (cy.Ac fH) fI rfl
                ·refine zg 4 rfl ?_;obtain rfl:=oi fA;exact cp Ar cm rfl
              ·refine DO 119 eU (fun fJ fK=>?_) (fun fJ fL=>?_)
               ·refine zg 3 rfl ?_;obtain rfl:=oi fK;exact cn Ar ci rfl
               ·refine zg 3 rfl ?_;obtain rfl:=oi fL;exact cn Ar ci rfl
             ·refine DO 116 eR (fun fM fN=>?_) (fun fM fO=>?_)
              ·refine zg 2 rfl ?_;obtain rfl:=oi fN;exact ck Ar cf rfl
              ·refine zg 2 rfl ?_;obtain rfl:=oi fO;exact ck Ar cf rfl
            ·refine DO 112 eO (fun fP fQ=>?_) (fun fP fR=>?_)
             ·refine zg 3 rfl ?_;obtain rfl:=oi fQ;exact cg Ar cd rfl
             ·refine zg 3 rfl ?_;obtain rfl:=oi fR;exact cg Ar cd rfl
           ·refine DO 108 eL (fun fS fT=>?_) (fun fS fU=>?_)
            ·refine zg 3 rfl ?_;obtain rfl:=oi fT;exact ce Ar cb rfl
            ·refine zg 3 rfl ?_;obtain rfl:=oi fU;exact ce Ar cb rfl
          ·refine DO 104 eI (fun fW fX=>?_) (fun fW fY=>?_)
           ·refine zg 3 rfl ?_;obtain rfl:=oi fX;exact cc Ar b9 rfl
           ·refine zg 3 rfl ?_;obtain rfl:=oi fY;exact cc Ar b9 rfl
         ·refine DO 100 eF (fun fZ ga=>?_) (fun fZ gb=>?_)
          ·refine zg 3 rfl ?_;obtain rfl:=oi ga;exact ca Ar b7 rfl
          ·refine zg 3 rfl ?_;obtain rfl:=oi gb;exact ca Ar b7 rfl
        ·refine DO 96 eC (fun gc gd=>?_) (fun gc ge=>?_)
         ·refine zg 3 rfl ?_;obtain rfl:=oi gd;exact b8 Ar b5 rfl
         ·refine zg 3 rfl ?_;obtain rfl:=oi ge;exact b8 Ar b5 rfl
       ·refine DO 92 ez (fun gf gg=>?_) (fun gf gh=>?_)
        ·refine zg 3 rfl ?_;obtain rfl:=oi gg;exact b6 Ar b3 rfl
        ·refine zg 3 rfl ?_;obtain rfl:=oi gh;exact b6 Ar b3 rfl
      ·refine DO 88 ew (fun gi gj=>?_) (fun gi gk=>?_)
       ·refine zg 3 rfl ?_;obtain rfl:=oi gj;exact b4 Ar b1 rfl
       ·refine zg 3 rfl ?_;obtain rfl:=oi gk;exact b4 Ar b1 rfl
     ·refine DO 84 er (fun gl gm=>?_) (fun gl gn=>?_)
      ·refine zg 3 rfl ?_;obtain rfl:=oi gm;exact b2 Ar bZ rfl
      ·refine zg 3 rfl ?_;obtain rfl:=oi gn;exact b2 Ar bZ rfl
    ·refine DO 80 eo (fun gp gq=>?_) (fun gp gr=>?_)
     ·refine zg 3 rfl ?_;obtain rfl:=oi gq;exact b0 Ar bW rfl
     ·refine zg 3 rfl ?_;obtain rfl:=oi gr;exact b0 Ar bW rfl
   ·refine DO 76 el (fun gt gu=>?_) (fun gt gv=>?_)
    ·refine zg 3 rfl ?_;obtain rfl:=oi gu;exact bY Ar bU rfl
    ·refine zg 3 rfl ?_;obtain rfl:=oi gv;exact bY Ar bU rfl
  ·refine DO 72 ei (fun gw gx=>?_) (fun gw gy=>?_)
   ·refine zg 3 rfl ?_;obtain rfl:=oi gx;exact bV Ar bS rfl
   ·refine zg 3 rfl ?_;obtain rfl:=oi gy;exact bV Ar bS rfl
 ·refine D7 68 ef (fun gz gA=>?_) (fun gz gB=>?_)
  ·refine zg 3 rfl ?_;obtain rfl:=oi gA;exact bT Ar bR rfl
  ·refine zg 3 rfl ?_;obtain rfl:=oi gB;exact bT Ar bR rfl
end Pal
namespace Pal
theorem DX{f:Nat→Option Int}{n i:Nat}{c:Int}(K:∀q,q<i→f q=none)(O:f i=some c)(hi:i<n):(List.range n).findSome? f=some c:=by
 have key:∀(k:Nat),i<k→(List.range k).findSome? f=some c:=by
  intro k
  induction k with
  | zero=>intro h;omega
  | succ k U=>
   intro h;rw [List.range_succ,List.findSome?_append];by_cases e:i=k
   ·subst e;have:(List.range i).findSome? f=none:=List.findSome?_eq_none_iff.2 fun q V=>K q (List.mem_range.1 V);rw [this];simp [O]
   ·rw [U (by omega)];rfl
 exact key n hi
theorem F1{f:Nat→Option Int}{n:Nat}(K:∀q,q<n→f q=none):(List.range n).findSome? f=none:=List.findSome?_eq_none_iff.2 fun q O=>K q (List.mem_range.1 O)
def Fh(n:Nat)(m:Int)(b:Bool)(l:List Int)(i:Nat):Option Int:=
 if l.getD i 0<0∨(n:Int) - 1<l.getD i 0 then some 3 else if l.getD i 0=m∧b=false then some 8 else if 0<i∧l.getD i 0≤l.getD (i - 1) 0 then some 5 else none
def ER(n:Nat)(m:Int)(b:Bool)(l:List Int):Option Int:=(List.range l.length).findSome? (Fh n m b l)
theorem Ej{α:Type}{l:List α}{i:Nat}{d:α}(h:i<l.length):l.getD i d=l[i]:=by rw [List.getD_eq_getElem?_getD,List.getElem?_eq_getElem h];rfl
theorem Re{F:Nat}{J:JW}{m:Int}{l:List Int}{b:Bool}(am:100<F)(ap:l.length<100)(av:J.1.length<100):A0 (f136 F J m l b) (fun e=>e.map (·.1)=ER J.1.length m b l):=by
 unfold f136;refine AE (S:=fun q=>(∃c,q=Sum.inl (some (c,m))∧ER J.1.length m b l=some c)∨(q=Sum.inr ()∧ER J.1.length m b l=none)) ?_ ?_
 ·refine Cl l.length (fun i s=>s=(i:Int)∧∀q,q<i→Fh J.1.length m b l q=none) ⟨rfl,fun q al=>by omega⟩ (by omega) ?_ ?_
  ·rintro i s hi ⟨rfl,O⟩;unfold JI;have hg:l.getD i 0=l[i]:=Ej hi;refine Bs (by omega) (Bl (m:=i) rfl hi ?_);refine AW ((J.1.length:Int) - 1) rfl (by omega) (by omega) (AM (HR F _ _ _) ?_);refine Bn (fun h=>?_) (fun h=>?_)
   ·have U:=of_decide_eq_true h;exact Ak (.inl ⟨3,rfl,DX O (by unfold Fh;rw [hg,if_pos U]) hi⟩)
   ·have U:¬(l[i]<0∨(J.1.length:Int) - 1<l[i]):=fun x=>h (decide_eq_true x);refine AE (S:=fun c=>c=decide (l[i]=m∧b=false)) ?_ ?_
    ·refine Bn (fun K=>Ak ?_) (fun K=>Ak ?_)
     ·cases b <;> simp [K]
     ·simp [K]
    ·rintro c rfl;refine Bn (fun K=>?_) (fun K=>?_)
     ·have Y:=of_decide_eq_true K;exact Ak (.inl ⟨8,rfl,DX O (by unfold Fh;rw [hg,if_neg U,if_pos Y]) hi⟩)
     ·have Y:¬(l[i]=m∧b=false):=fun x=>K (decide_eq_true x);refine AE (S:=fun c=>c=decide (0<i∧l[i]≤l.getD (i - 1) 0)) ?_ ?_
      ·refine Bn (fun V=>?_) (fun V=>?_)
       ·have ag:i - 1<l.length:=by omega
        refine AW ((i - 1:Nat):Int) (by omega) (by omega) (by omega) (Bl (m:=i - 1) rfl ag ?_);refine Ak ?_;rw [Ej ag];exact decide_eq_decide.2 ⟨fun x=>⟨by omega,x⟩,fun x=>x.2⟩
       ·exact Ak (decide_eq_false (by omega)).symm
      ·rintro c rfl;refine Bn (fun V=>?_) (fun V=>?_)
       ·have Z:=of_decide_eq_true V;exact Ak (.inl ⟨5,rfl,DX O (by unfold Fh;rw [hg,if_neg U,if_neg Y,if_pos Z]) hi⟩)
       ·have Z:¬(0<i∧l[i]≤l.getD (i - 1) 0):=fun x=>V (decide_eq_true x);refine AW ((i+1:Nat):Int) (by simp) (by omega) (by omega) ?_;refine Ak ⟨rfl,fun q al=>?_⟩;by_cases e:q=i
        ·subst e;unfold Fh;rw [hg,if_neg U,if_neg Y,if_neg Z]
        ·exact O q (by omega)
  ·rintro s ⟨rfl,O⟩;unfold JI;exact A5 (by omega) (Ak ⟨_,rfl,.inr ⟨rfl,F1 O⟩⟩)
 ·rintro q (⟨c,rfl,h⟩ | ⟨rfl,h⟩)
  ·exact Ak h.symm
  ·exact Ak h.symm
theorem KV(F:Nat)(a lo hi:Int):f104 F a lo hi=some (decide (lo≤a∧a≤hi)):=by
 unfold f104;by_cases h:lo≤a
 ·simp [h]
 ·simp [h]
theorem VT{F:Nat}{J:JW}{m:Int}{l:List Int}(ag:100<F)(al:l.length<100)(am:J.1.length<100):f114 F J l=some (if l.length=0 then 7 else if 3<l.length then 6 else(ER J.1.length m true l).getD 0):=by
 refine CE ?_;unfold f114;refine Bn (fun h=>?_) (fun h=>?_)
 ·rw [if_pos (show l.length=0 by omega)];exact Ak rfl
 rw [if_neg (show ¬l.length=0 by omega)];refine Bn (fun h=>?_) (fun h=>?_)
 ·rw [if_pos (show 3<l.length by omega)];exact Ak rfl
 rw [if_neg (show ¬3<l.length by omega)];refine AE (S:=fun q=>(∃c,q=Sum.inl c∧ER J.1.length m true l=some c)∨(q=Sum.inr ()∧ER J.1.length m true l=none)) ?_ ?_
 ·refine Cl l.length (fun i s=>s=(i:Int)∧∀q,q<i→Fh J.1.length m true l q=none) ⟨rfl,fun q Z=>by omega⟩ (by omega) ?_ ?_
  ·rintro i s hi ⟨rfl,K⟩;unfold MK;have hg:l.getD i 0=l[i]:=Ej hi;refine Bs (by omega) (Bl (m:=i) rfl hi ?_);refine AW ((J.1.length:Int) - 1) rfl (by omega) (by omega) (AM (KV F _ _ _) ?_);refine Bn (fun h=>?_) (fun h=>?_)
   ·have U:l[i]<0∨(J.1.length:Int) - 1<l[i]:=by simp at h;omega
    exact Ak (.inl ⟨3,rfl,DX K (by unfold Fh;rw [hg,if_pos U]) hi⟩)
   ·have U:¬(l[i]<0∨(J.1.length:Int) - 1<l[i]):=by simp at h;omega
    refine AE (S:=fun c=>c=decide (0<i∧l[i]≤l.getD (i - 1) 0)) ?_ ?_
    ·refine Bn (fun O=>?_) (fun O=>?_)
     ·have Y:i - 1<l.length:=by omega
      refine Bl (m:=i) rfl hi (AW ((i - 1:Nat):Int) (by omega) (by omega) (by omega) ?_);refine Bl (m:=i - 1) rfl Y (Ak ?_);rw [Ej Y];exact decide_eq_decide.2 ⟨fun x=>⟨by omega,x⟩,fun x=>x.2⟩
     ·exact Ak (decide_eq_false (by omega)).symm
    ·rintro c rfl;refine Bn (fun O=>?_) (fun O=>?_)
     ·have V:=of_decide_eq_true O;exact Ak (.inl ⟨5,rfl,DX K (by unfold Fh;rw [hg,if_neg U,if_neg (by simp),if_pos V]) hi⟩)
     ·have V:¬(0<i∧l[i]≤l.getD (i - 1) 0):=fun x=>O (decide_eq_true x);refine AW ((i+1:Nat):Int) (by simp) (by omega) (by omega) ?_;refine Ak ⟨rfl,fun q Z=>?_⟩;by_cases e:q=i
      ·subst e;unfold Fh;rw [hg,if_neg U,if_neg (by simp),if_neg V]
      ·exact K q (by omega)
  ·rintro s ⟨rfl,K⟩;unfold MK;exact A5 (by omega) (Ak ⟨_,rfl,.inr ⟨rfl,F1 K⟩⟩)
 ·rintro q (⟨c,rfl,h⟩ | ⟨rfl,h⟩)
  ·exact Ak (by rw [h];rfl)
  ·exact Ak (by rw [h];rfl)
theorem WN{F:Nat}{J:JW}{m:Int}{l:List Int}(am:100<F)(ap:l.length<100)(av:J.1.length<100):f115 F J m l=some (if 3<l.length then 6 else(ER J.1.length m false l).getD 0):=by
 refine CE ?_;unfold f115;refine Bn (fun h=>?_) (fun h=>?_)
 ·rw [if_pos (show 3<l.length by omega)];exact Ak rfl
 rw [if_neg (show ¬3<l.length by omega)];refine AE (S:=fun q=>(∃c,q=Sum.inl c∧ER J.1.length m false l=some c)∨(q=Sum.inr ()∧ER J.1.length m false l=none)) ?_ ?_
 ·refine Cl l.length (fun i s=>s=(i:Int)∧∀q,q<i→Fh J.1.length m false l q=none) ⟨rfl,fun q al=>by omega⟩ (by omega) ?_ ?_
  ·rintro i s hi ⟨rfl,K⟩;unfold MS;have hg:l.getD i 0=l[i]:=Ej hi;refine Bs (by omega) (Bl (m:=i) rfl hi ?_);refine AW ((J.1.length:Int) - 1) rfl (by omega) (by omega) (AM (KV F _ _ _) ?_);refine Bn (fun h=>?_) (fun h=>?_)
   ·have O:l[i]<0∨(J.1.length:Int) - 1<l[i]:=by simp at h;omega
    exact Ak (.inl ⟨3,rfl,DX K (by unfold Fh;rw [hg,if_pos O]) hi⟩)
   ·have O:¬(l[i]<0∨(J.1.length:Int) - 1<l[i]):=by simp at h;omega
    refine Bl (m:=i) rfl hi (Bn (fun V=>?_) (fun V=>?_))
    ·exact Ak (.inl ⟨8,rfl,DX K (by unfold Fh;rw [hg,if_neg O,if_pos ⟨V,rfl⟩]) hi⟩)
    have Z:¬(l[i]=m∧false=false):=fun x=>V x.1;refine AE (S:=fun c=>c=decide (0<i∧l[i]≤l.getD (i - 1) 0)) ?_ ?_
    ·refine Bn (fun U=>?_) (fun U=>?_)
     ·have ag:i - 1<l.length:=by omega
      refine Bl (m:=i) rfl hi (AW ((i - 1:Nat):Int) (by omega) (by omega) (by omega) ?_);refine Bl (m:=i - 1) rfl ag (Ak ?_);rw [Ej ag];exact decide_eq_decide.2 ⟨fun x=>⟨by omega,x⟩,fun x=>x.2⟩
     ·exact Ak (decide_eq_false (by omega)).symm
    ·rintro c rfl;refine Bn (fun U=>?_) (fun U=>?_)
     ·have Y:=of_decide_eq_true U;exact Ak (.inl ⟨5,rfl,DX K (by unfold Fh;rw [hg,if_neg O,if_neg Z,if_pos Y]) hi⟩)
     ·have Y:¬(0<i∧l[i]≤l.getD (i - 1) 0):=fun x=>U (decide_eq_true x);refine AW ((i+1:Nat):Int) (by simp) (by omega) (by omega) ?_;refine Ak ⟨rfl,fun q al=>?_⟩;by_cases e:q=i
      ·subst e;unfold Fh;rw [hg,if_neg O,if_neg Z,if_neg Y]
      ·exact K q (by omega)
  ·rintro s ⟨rfl,K⟩;unfold MS;exact A5 (by omega) (Ak ⟨_,rfl,.inr ⟨rfl,F1 K⟩⟩)
 ·rintro q (⟨c,rfl,h⟩ | ⟨rfl,h⟩)
  ·exact Ak (by rw [h];rfl)
  ·exact Ak (by rw [h];rfl)
def Ee(J:JW)(i:Nat):Option Int:=
 if(J.1.getD i []).length=0 then some 7 else if 3<(J.1.getD i []).length then some 6 else match ER J.1.length i true (J.1.getD i []) with
  | some c=>some c
  | none=>if 3<(J.2.getD i []).length then some 6 else ER J.1.length i false (J.2.getD i [])
def CJ(J:JW):Option Int:=if J.1.length=0 then some 7 else if 8<J.1.length then some 6 else if J.2.length≠J.1.length then some 9 else(List.range J.1.length).findSome? (Ee J)
structure NL (J:JW):Prop where
 l1:J.1.length≤20
 l2:J.2.length≤20
 n1:∀l∈J.1,l.length≤20
 n2:∀l∈J.2,l.length≤20
theorem We{F:Nat}{J:JW}(Z:100<F)(V:NL J):A0 (f113 F J) (fun e=>e.map (·.1)=CJ J):=by
 have ap:=V.l1;unfold f113 CJ;refine Bn (fun h=>?_) (fun h=>?_)
 ·rw [if_pos (show J.1.length=0 by omega)];exact Ak rfl
 rw [if_neg (show ¬J.1.length=0 by omega)];refine Bn (fun h=>?_) (fun h=>?_)
 ·rw [if_pos (show 8<J.1.length by omega)];exact Ak rfl
 rw [if_neg (show ¬8<J.1.length by omega)];refine Bn (fun h=>?_) (fun h=>?_)
 ·rw [if_pos (show J.2.length≠J.1.length by omega)];exact Ak rfl
 rw [if_neg (show ¬J.2.length≠J.1.length by omega)];refine AE (S:=fun q=>(∃c,q=Sum.inl (some c)∧(List.range J.1.length).findSome? (Ee J)=some c.1)∨(q=Sum.inr ()∧(List.range J.1.length).findSome? (Ee J)=none)) ?_ ?_
 ·refine Cl J.1.length (fun i s=>s=(i:Int)∧∀q,q<i→Ee J q=none) ⟨rfl,fun q am=>by omega⟩ (by omega) ?_ ?_
  ·rintro i s hi ⟨rfl,K⟩;unfold JK;have U:i<J.2.length:=by omega
   have O:J.1.getD i []=J.1[i]:=Ej hi;have g2:J.2.getD i []=J.2[i]:=Ej U;have n1:=V.n1 _ (List.getElem_mem hi);have n2:=V.n2 _ (List.getElem_mem U);refine Bs (by omega) ?_;refine Bl (m:=i) rfl hi ?_;refine Bn (fun h=>?_) (fun av=>?_)
   ·exact Ak (.inl ⟨(7,(i:Int)),rfl,DX K (by unfold Ee;rw [O,if_pos (by omega)]) hi⟩)
   refine Bn (fun h=>?_) (fun a0=>?_)
   ·exact Ak (.inl ⟨(6,(i:Int)),rfl,DX K (by unfold Ee;rw [O,if_neg (by omega),if_pos (by omega)]) hi⟩)
   refine AE (Re Z (by omega) (by omega)) ?_;intro e he;refine Bn (fun h=>?_) (fun h=>?_)
   ·obtain⟨c,rfl⟩:=Option.isSome_iff_exists.1 h;refine Ak (.inl ⟨c,rfl,DX K ?_ hi⟩);unfold Ee;rw [O,if_neg (by omega),if_neg (by omega),← he];rfl
   ·obtain rfl:e=none:=by cases e <;> simp_all
    have Y:ER J.1.length (i:Int) true J.1[i]=none:=he.symm;refine Bl (m:=i) rfl U ?_;refine Bn (fun h=>?_) (fun a1=>?_)
    ·refine Ak (.inl ⟨(6,(i:Int)),rfl,DX K ?_ hi⟩);unfold Ee;rw [O,g2,if_neg (by omega),if_neg (by omega),Y];simp only;rw [if_pos (by omega)]
    refine Bl (m:=i) rfl U (AE (Re Z (by omega) (by omega)) ?_);intro ag al;refine Bn (fun h=>?_) (fun h=>?_)
    ·obtain⟨c,rfl⟩:=Option.isSome_iff_exists.1 h;refine Ak (.inl ⟨c,rfl,DX K ?_ hi⟩);unfold Ee;rw [O,g2,if_neg (by omega),if_neg (by omega),Y];simp only;rw [if_neg (by omega),← al];rfl
    ·obtain rfl:ag=none:=by cases ag <;> simp_all
     refine AW ((i+1:Nat):Int) (by simp) (by omega) (by omega) (Ak ⟨rfl,fun q am=>?_⟩);by_cases e:q=i
     ·subst e;unfold Ee;rw [O,g2,if_neg (by omega),if_neg (by omega),Y];simp only;rw [if_neg (by omega),← al];rfl
     ·exact K q (by omega)
  ·rintro s ⟨rfl,K⟩;unfold JK;exact A5 (by omega) (Ak ⟨_,rfl,.inr ⟨rfl,F1 K⟩⟩)
 ·rintro q (⟨c,rfl,h⟩ | ⟨rfl,h⟩)
  ·exact Ak h.symm
  ·exact Ak h.symm
theorem MW{n:Nat}{m:Int}{b:Bool}{l:List Int}{c:Int}(h:ER n m b l=some c):c≠0:=by
 obtain⟨i,_,hi⟩:=List.exists_of_findSome?_eq_some h;unfold Fh at hi;split at hi
 ·cases hi;omega
 ·split at hi
  ·cases hi;omega
  ·split at hi
   ·cases hi;omega
   ·cases hi
theorem Yq{J:JW}{i:Nat}{c:Int}(h:Ee J i=some c):c≠0:=by
 unfold Ee at h;split at h
 ·cases h;omega
 ·split at h
  ·cases h;omega
  ·split at h
   ·rename_i e;cases h;exact MW e
   ·split at h
    ·cases h;omega
    ·exact MW h
theorem Ti{J:JW}{c:Int}(h:CJ J=some c):c≠0:=by
 unfold CJ at h;split at h
 ·cases h;omega
 ·split at h
  ·cases h;omega
  ·split at h
   ·cases h;omega
   ·obtain⟨i,_,hi⟩:=List.exists_of_findSome?_eq_some h;exact Yq hi
theorem X7{F:Nat}{J:JW}(ag:100<F)(V:NL J):f68 F J=some ((CJ J).getD 0):=by
 have am:=V.l1;refine CE ?_;unfold f68 CJ;refine Bn (fun h=>?_) (fun h=>?_)
 ·rw [if_pos (show J.1.length=0 by omega)];exact Ak rfl
 rw [if_neg (show ¬J.1.length=0 by omega)];refine Bn (fun h=>?_) (fun h=>?_)
 ·rw [if_pos (show 8<J.1.length by omega)];exact Ak rfl
 rw [if_neg (show ¬8<J.1.length by omega)];refine Bn (fun h=>?_) (fun h=>?_)
 ·rw [if_pos (show J.2.length≠J.1.length by omega)];exact Ak rfl
 rw [if_neg (show ¬J.2.length≠J.1.length by omega)];refine AE (S:=fun q=>(∃c,q=Sum.inl c∧(List.range J.1.length).findSome? (Ee J)=some c)∨(q=Sum.inr ()∧(List.range J.1.length).findSome? (Ee J)=none)) ?_ ?_
 ·refine Cl J.1.length (fun i s=>s=(i:Int)∧∀q,q<i→Ee J q=none) ⟨rfl,fun q al=>by omega⟩ (by omega) ?_ ?_
  ·rintro i s hi ⟨rfl,K⟩;unfold Nh;have Y:i<J.2.length:=by omega
   have U:J.1.getD i []=J.1[i]:=Ej hi;have g2:J.2.getD i []=J.2[i]:=Ej Y;have n1:=V.n1 _ (List.getElem_mem hi);have n2:=V.n2 _ (List.getElem_mem Y);refine Bs (by omega) ?_;refine Bl (m:=i) rfl hi ?_;refine AM (VT (m:=(i:Int)) ag (by omega) (by omega)) ?_;by_cases O:J.1[i].length=0
   ·rw [if_pos O];exact Bs (by omega) (Ak (.inl ⟨7,rfl,DX K (by unfold Ee;rw [U,if_pos O]) hi⟩))
   rw [if_neg O];by_cases c2:3<J.1[i].length
   ·rw [if_pos c2];exact Bs (by omega) (Ak (.inl ⟨6,rfl,DX K (by unfold Ee;rw [U,if_neg O,if_pos c2]) hi⟩))
   rw [if_neg c2];cases he:ER J.1.length (i:Int) true J.1[i] with
   | some c=>
    exact Bs (MW he) (Ak (.inl ⟨c,rfl,DX K (by unfold Ee;rw [U,if_neg O,if_neg c2,he]) hi⟩))
   | none=>
    refine A5 (by simp) (Bl (m:=i) rfl Y ?_);refine AM (WN (m:=(i:Int)) ag (by omega) (by omega)) ?_;by_cases c3:3<J.2[i].length
    ·rw [if_pos c3];refine Bs (by omega) (Ak (.inl ⟨6,rfl,DX K ?_ hi⟩));unfold Ee;rw [U,g2,if_neg O,if_neg c2,he];simp only;rw [if_pos c3]
    rw [if_neg c3];cases Z:ER J.1.length (i:Int) false J.2[i] with
    | some c=>
     refine Bs (MW Z) (Ak (.inl ⟨c,rfl,DX K ?_ hi⟩));unfold Ee;rw [U,g2,if_neg O,if_neg c2,he];simp only;rw [if_neg c3,Z]
    | none=>
     refine A5 (by simp) (AW ((i+1:Nat):Int) (by simp) (by omega) (by omega) ?_);refine Ak ⟨rfl,fun q al=>?_⟩;by_cases e:q=i
     ·subst e;unfold Ee;rw [U,g2,if_neg O,if_neg c2,he];simp only;rw [if_neg c3,Z]
     ·exact K q (by omega)
  ·rintro s ⟨rfl,K⟩;unfold Nh;exact A5 (by omega) (Ak ⟨_,rfl,.inr ⟨rfl,F1 K⟩⟩)
 ·rintro q (⟨c,rfl,h⟩ | ⟨rfl,h⟩)
  ·exact Ak (by rw [h];rfl)
  ·exact Ak (by rw [h];rfl)
theorem Qg{n:Nat}{m:Int}{b:Bool}{l:List Int}(h:ER n m b l=none):HF n l∧l.Pairwise (·<·)∧(b=false→m ∉ l):=by
 have K:∀i (hi:i<l.length),¬(l[i]<0∨(n:Int) - 1<l[i])∧¬(l[i]=m∧b=false)∧¬(0<i∧l[i]≤l.getD (i - 1) 0):=fun i hi=>by
  have:=List.findSome?_eq_none_iff.1 h i (List.mem_range.2 hi);unfold Fh at this;rw [Ej hi] at this;split at this
  ·cases this
  ·split at this
   ·cases this
   ·split at this
    ·cases this
    ·rename_i U V Y;exact⟨U,V,Y⟩
 refine⟨fun x Z=>?_,?_,fun hb hm=>?_⟩
 ·obtain⟨i,hi,rfl⟩:=List.mem_iff_getElem.1 Z;have:=(K i hi).1;omega
 ·have step:∀i (hi:i+1<l.length),l[i]<l[i+1]:=fun i hi=>by
   have:=(K (i+1) hi).2.2;rw [show i+1 - 1=i by omega,Ej (by omega)] at this;omega
  rw [List.pairwise_iff_getElem];intro i j hi ap av;have key:∀k (O:i+1+k<l.length),l[i]<l[i+1+k]:=fun k=>by
   induction k with
   | zero=>intro O;exact step i O
   | succ k ag=>intro O;have al:=ag (by omega);have am:=step (i+1+k) (by omega);exact Int.lt_trans al am
  have:=key (j - i - 1) (by omega);simpa [show i+1+(j - i - 1)=j by omega] using this
 ·obtain⟨i,hi,e⟩:=List.mem_iff_getElem.1 hm;exact(K i hi).2.1 ⟨e,hb⟩
theorem WC{J:JW}(h:CJ J=none):VJ J.1.length J:=by
 unfold CJ at h;split at h
 ·cases h
 rename_i av;split at h
 ·cases h
 rename_i a0;split at h
 ·cases h
 rename_i a1;have O:∀i,i<J.1.length→(J.1.getD i []).length≠0∧(J.1.getD i []).length≤3∧ER J.1.length i true (J.1.getD i [])=none∧(J.2.getD i []).length≤3∧ER J.1.length i false (J.2.getD i [])=none:=fun i hi=>by
  have:=List.findSome?_eq_none_iff.1 h i (List.mem_range.2 hi);unfold Ee at this;split at this
  ·cases this
  ·split at this
   ·cases this
   ·split at this
    ·cases this
    ·rename_i ag a2 _ al;split at this
     ·cases this
     ·rename_i a3;exact⟨ag,by omega,al,by omega,this⟩
 refine⟨by omega,by omega,rfl,by omega,fun i l K=>?_,fun i l K=>?_⟩
 ·have hi:=(List.getElem?_eq_some_iff.1 K).1;obtain⟨am,U,V,_,_⟩:=O i hi;have e:J.1.getD i []=l:=by rw [List.getD_eq_getElem?_getD,K];rfl
  rw [e] at am U V;obtain⟨v1,v2,_⟩:=Qg V;exact⟨⟨U,v1,v2⟩,by omega⟩
 ·have hi:i<J.1.length:=by have:=(List.getElem?_eq_some_iff.1 K).1;omega
  obtain⟨_,_,_,Y,Z⟩:=O i hi;have e:J.2.getD i []=l:=by rw [List.getD_eq_getElem?_getD,K];rfl
  rw [e] at Y Z;obtain⟨v1,v2,ap⟩:=Qg Z;exact⟨⟨Y,v1,v2⟩,ap rfl⟩
end Pal
namespace Pal
theorem Xm{F n a m:Nat}{J:JW}{due K:List Bool}(a3:100<F)(V:VJ n J)(a0:H7 J n a due)(hm:m<n)(ag:K.length=n):
  A0 (iter (JR F J due (K,(m:Int))) F (K,0)) (fun r=>r.length=n∧∀x:Nat,x<n→(r[x]? =some true↔K[x]? =some true∨((AG J a).testBit m=true∧(x:Int)∈J.1.getD m []))):=by
 have a4:=V.l1;have a5:=V.le;have O:m<J.1.length:=by omega
 obtain⟨al,a6⟩:=V.nx m _ (List.getElem?_eq_getElem O);have hlen:=al.len;have a1:J.1.getD m []=J.1[m]:=Ej O;have am:=a0.2 m hm;cases ap:(AG J a).testBit m with
 | false=>
  refine Cl 0 (fun i st=>st=(K,0)) rfl (by omega) (fun i st hi=>by omega) ?_;rintro st rfl;unfold JR;refine Bl (m:=m) rfl O (AE (S:=fun c=>c=false) ?_ ?_)
  ·refine Bn (fun h=>?_) (fun h=>Ak rfl);exact AM (D6 (m:=m) rfl am) (Ak ap)
  ·rintro c rfl;refine A5 (by simp) (Ak ⟨_,rfl,ag,fun x U=>?_⟩);simp
 | true=>
  refine Cl J.1[m].length (fun i st=>∃nx:List Bool,st=(nx,(i:Int))∧nx.length=n∧∀x:Nat,x<n→(nx[x]? =some true↔K[x]? =some true∨(x:Int)∈J.1[m].take i)) ⟨K,rfl,ag,fun x U=>by simp⟩ (by omega) ?_ ?_
  ·rintro i st hi ⟨nx,rfl,Y,Z⟩;unfold JR;refine Bl (m:=m) rfl O (AE (S:=fun c=>c=true) ?_ ?_)
   ·refine Bs (by simp only;omega) (AM (D6 (m:=m) rfl am) ?_);exact Ak ap
   ·rintro c rfl;refine Bs rfl (Bl (m:=m) rfl O ?_);refine Bl (m:=i) rfl hi ?_;have U:=al.inr J.1[m][i] (List.getElem_mem hi);have av:J.1[m][i].toNat<nx.length:=by omega
    refine Bl (m:=J.1[m][i].toNat) (show J.1[m][i]=_ by omega) av (AW ((i+1:Nat):Int) (by simp) (by omega) (by omega) ?_);refine Ak ⟨nx.set J.1[m][i].toNat true,rfl,by simpa using Y,fun x a2=>?_⟩;rw [V3 av,Z x a2,List.take_add_one,List.getElem?_eq_getElem hi];simp only [Option.toList_some,List.mem_append,List.mem_singleton];rw [or_assoc];refine or_congr Iff.rfl (or_congr Iff.rfl ⟨fun h=>by omega,fun h=>by omega⟩)
  ·rintro st ⟨nx,rfl,Y,Z⟩;unfold JR;refine Bl (m:=m) rfl O (AE (S:=fun c=>c=false) (A5 (by simp) (Ak rfl)) ?_);rintro c rfl;refine A5 (by simp) (Ak ⟨_,rfl,Y,fun x U=>?_⟩);rw [Z x U,List.take_length,a1];simp
theorem Yd{F n a:Nat}{J:JW}{due:List Bool}(ag:100<F)(Y:VJ n J)(Z:H7 J n a due):A0 (f119 F J due) (H7 J n (a+1)):=by
 have a2:=Y.le;have al:=Z.1;unfold f119;refine AM (b:=List.replicate n false) ?_ ?_
 ·unfold F5;rw [if_pos (by omega),al];rfl
 refine AE (S:=H7 J n (a+1)) ?_ (fun r am=>Ak am);refine Cl n (fun k st=>∃nx:List Bool,st=(nx,(k:Int))∧PR J n a k nx) ⟨_,rfl,by simp,fun x U=>?_⟩ (by omega) ?_ ?_
 ·rw [List.getElem?_replicate,if_pos U];simp
 ·rintro k st ap ⟨nx,rfl,V⟩;unfold MV;refine Bs (by simp only;omega) (AE (Xm (m:=k) ag Y Z ap V.1) ?_);rintro av ⟨a0,g2⟩;refine AW ((k+1:Nat):Int) (by simp) (by omega) (by omega) (Ak ⟨av,rfl,a0,fun x U=>?_⟩);rw [g2 x U,V.2 x U];constructor
  ·rintro(⟨m,a1,K,O⟩ | ⟨K,O⟩)
   ·exact⟨m,by omega,K,O⟩
   ·exact⟨k,by omega,K,O⟩
  ·rintro⟨m,a1,K,O⟩;rcases Nat.lt_or_ge m k with h | h
   ·exact .inl ⟨m,h,K,O⟩
   ·obtain rfl:m=k:=by omega
    exact .inr ⟨K,O⟩
 ·rintro st ⟨nx,rfl,V⟩;unfold MV;exact A5 (by simp only;omega) (Ak ⟨_,rfl,V.due Y⟩)
theorem ba{n:Nat}{J:JW}(K:0<n):H7 J n 0 ((List.replicate n false).set 0 true):=by
 refine⟨by simp,fun m hm=>?_⟩;by_cases e:m=0
 ·subst e;rw [List.getElem?_set_self (by simpa using hm)];exact congrArg some (show true=(1:Nat).testBit 0 by decide)
 ·rw [List.getElem?_set_ne (by omega),List.getElem?_replicate,if_pos hm];have:(AG J 0).testBit m=false:=by
   show(1:Nat).testBit m=false;have:=Nat.testBit_two_pow_of_ne (n:=0) (m:=m) (by omega);simpa using this
  rw [this]
theorem ZX{F n a:Nat}{J:JW}(V:100<F)(K:VJ n J)(al:a<13):A0 (f82 F J (a:Int)) (H7 J n a):=by
 have am:=K.le;have U:=K.pos;have Y:=K.l1;unfold f82;refine AM (b:=List.replicate n false) ?_ ?_
 ·unfold F5;rw [if_pos (by omega),Y];rfl
 refine Bl (m:=0) rfl (by simpa using U) (AE (S:=H7 J n a) ?_ (fun r Z=>Ak Z));refine Cl a (fun i st=>∃d:List Bool,st=(d,(i:Int))∧H7 J n i d) ⟨_,rfl,ba U⟩ (by omega) ?_ ?_
 ·rintro i st hi ⟨d,rfl,O⟩;unfold M3;refine Bs (by simp only;omega) (AE (Yd V K O) ?_);intro d2 ag;exact AW ((i+1:Nat):Int) (by simp) (by omega) (by omega) (Ak ⟨d2,rfl,ag⟩)
 ·rintro st ⟨d,rfl,O⟩;unfold M3;exact A5 (by simp) (Ak ⟨_,rfl,O⟩)
theorem Sk{F:Nat}{l:List (List Int)}(ag:100<F)(al:l.length≤20)(U:∀x∈l,x.length≤20):f77 F l=some l:=by
 refine CE ?_;unfold f77;refine AM (b:=List.replicate l.length []) ?_ ?_
 ·unfold F5;rw [if_pos (by omega)];rfl
 refine AE (S:=fun r=>r=l) ?_ (fun r V=>Ak V);refine Cl l.length (fun i s=>s.2=(i:Int)∧s.1=l.take i++List.replicate (l.length - i) []) ⟨rfl,by simp⟩ (by omega) ?_ ?_
 ·rintro i ⟨o,c⟩ hi ⟨K,O⟩;simp only at K O;subst K;subst O;unfold M6;refine Bs (by simp only;omega) (Bl (m:=i) rfl hi ?_);refine AM (b:=l[i]) ?_ ?_
  ·unfold f108;have:De ([]:List Int) l[i]=some l[i]:=by unfold De;rw [if_pos (by have:=U _ (List.getElem_mem hi);simp;omega)];rfl
   rw [this];rfl
  have Y:(l.take i).length=i:=by rw [List.length_take];omega
  refine Bl (m:=i) rfl (by simp;omega) (AW ((i+1:Nat):Int) (by simp) (by omega) (by omega) ?_);refine Ak ⟨rfl,?_⟩;simp only;rw [show Int.toNat (i:Int)=i by omega,List.set_append,if_neg (by omega),Y,Nat.sub_self];obtain⟨k,Z⟩:∃k,l.length - i=k+1:=⟨l.length - i - 1,by omega⟩;rw [Z,List.replicate_succ,List.set_cons_zero,List.take_add_one,List.getElem?_eq_getElem hi,show l.length - (i+1)=k by omega];simp only [Option.toList_some,List.append_assoc,List.cons_append,List.nil_append]
 ·rintro⟨o,c⟩ ⟨K,O⟩;simp only at K O;subst K;subst O;unfold M6;exact A5 (by simp) (Ak ⟨_,rfl,by simp⟩)
theorem YL{F:Nat}{J:JW}(O:100<F)(K:NL J):f26 F J=some J:=by
 unfold f26;rw [Sk O K.l1 K.n1,Option.bind_some,Sk O K.l2 K.n2];rfl
theorem SR{F:Nat}{l:List Int}(K:100<F)(O:l.length≤20):f32 F l l=some true:=by
 refine CE ?_;unfold f32;refine AE (S:=fun q=>q=Sum.inr ()) ?_ (by rintro q rfl;exact Ak (by simp));refine Cl l.length (fun i s=>s=(i:Int)) rfl (by omega) ?_ ?_
 ·rintro i s hi rfl;unfold Ns;refine AE (S:=fun c=>c=true) (Bs (by omega) (Ak (decide_eq_true (by omega)))) ?_;rintro c rfl;refine Bs rfl (Bl (m:=i) rfl hi ?_);refine Bl (m:=i) rfl hi (A5 (by simp) ?_);exact AW ((i+1:Nat):Int) (by simp) (by omega) (by omega) (Ak rfl)
 ·rintro s rfl;unfold Ns;refine AE (S:=fun c=>c=false) (A5 (by omega) (Ak rfl)) ?_;rintro c rfl;exact A5 (by simp) (Ak ⟨_,rfl,rfl⟩)
theorem S5{F:Nat}{l:List (List Int)}(K:100<F)(U:l.length≤20)(O:∀x∈l,x.length≤20):f84 F l l=some true:=by
 refine CE ?_;unfold f84;refine AE (S:=fun q=>q=Sum.inr ()) ?_ (by rintro q rfl;exact Ak (by simp));refine Cl l.length (fun i s=>s=(i:Int)) rfl (by omega) ?_ ?_
 ·rintro i s hi rfl;unfold Nv;refine AE (S:=fun c=>c=true) (Bs (by omega) (Ak (decide_eq_true (by omega)))) ?_;rintro c rfl;refine Bs rfl (Bl (m:=i) rfl hi ?_);refine Bl (m:=i) rfl hi (AM (SR K (O _ (List.getElem_mem hi))) ?_);refine A5 (by simp) (AW ((i+1:Nat):Int) (by simp) (by omega) (by omega) ?_);exact Ak rfl
 ·rintro s rfl;unfold Nv;refine AE (S:=fun c=>c=false) (A5 (by omega) (Ak rfl)) ?_;rintro c rfl;exact A5 (by simp) (Ak ⟨_,rfl,rfl⟩)
theorem Z8{F:Nat}{J:JW}(O:100<F)(K:NL J):f33 F J J=some true:=by
 refine CE ?_;unfold f33;refine AM (S5 O K.l1 K.n1) (AE (S:=fun c=>c=true) (Bs rfl (AM (S5 O K.l2 K.n2) (Ak rfl))) ?_);rintro c rfl;exact Ak rfl
theorem VJ.nl{n:Nat}{J:JW}(K:VJ n J):NL J:=by
 have U:=K.l1;have V:=K.l2;have Y:=K.le;refine⟨by omega,by omega,fun l O=>?_,fun l O=>?_⟩
 ·obtain⟨i,hi,rfl⟩:=List.mem_iff_getElem.1 O;have:=(K.nx i _ (List.getElem?_eq_getElem hi)).1.len;omega
 ·obtain⟨i,hi,rfl⟩:=List.mem_iff_getElem.1 O;have:=(K.fl i _ (List.getElem?_eq_getElem hi)).1.len;omega
theorem SZ{F:Nat}{l:List (List Int)}(Z:100<F):A0 (f76 F l) (fun r=>r=false→l.length≤20∧∀x∈l,x.length≤20):=by
 unfold f76;refine AE (S:=fun q=>q=Sum.inl true∨(q=Sum.inr ()∧∀x∈l.take 20,x.length≤20)) ?_ ?_
 ·refine Cl (min l.length 20) (fun i s=>s=(i:Int)∧∀x∈l.take i,x.length≤20) ⟨rfl,by simp⟩ (by omega) ?_ ?_
  ·rintro i s hi ⟨rfl,O⟩;have U:i<l.length:=by omega
   unfold NA;refine AE (S:=fun c=>c=true) (Bs (by omega) (Ak (decide_eq_true (by omega)))) ?_;rintro c rfl;refine Bs rfl (Bl (m:=i) rfl U ?_);refine Bn (fun h=>Ak (.inl rfl)) (fun h=>?_);refine AW ((i+1:Nat):Int) (by simp) (by omega) (by omega) (Ak ⟨rfl,fun x K=>?_⟩);rw [List.take_add_one,List.getElem?_eq_getElem U] at K;simp only [Option.toList_some,List.mem_append,List.mem_singleton] at K;rcases K with K | rfl
   ·exact O x K
   ·omega
  ·rintro s ⟨rfl,O⟩;unfold NA;refine AE (S:=fun c=>c=false) (Bn (fun h=>Ak (decide_eq_false (by omega))) (fun _=>Ak rfl)) ?_;rintro c rfl;refine A5 (by simp) (Ak ⟨_,rfl,.inr ⟨rfl,fun x K=>O x ?_⟩⟩);rcases Nat.lt_or_ge l.length 20 with h | h
   ·rw [Nat.min_eq_left (by omega),List.take_length];exact List.mem_of_mem_take K
   ·rw [Nat.min_eq_right h];exact K
 ·rintro q (rfl | ⟨rfl,h⟩)
  ·exact Ak fun h=>by cases h
  ·refine Ak fun Y=>?_;have:=of_decide_eq_false Y;have V:l.length≤20:=by omega
   rw [List.take_of_length_le V] at h;exact⟨V,h⟩
theorem Y8{F:Nat}{J:JW}(O:100<F):A0 (f21 F J) (fun r=>r=false→NL J):=by
 unfold f21;refine AE (SZ O) ?_;intro r U;refine AE (S:=fun c=>c=false→NL J) ?_ (fun c V=>Ak V);refine Bn (fun h=>Ak fun K=>(by cases K)) (fun h=>?_);obtain⟨Y,g2⟩:=U (by simpa using h);refine AE (SZ O) ?_;intro q Z;refine Ak fun K=>?_;obtain⟨ag,al⟩:=Z K;exact⟨Y,ag,g2,al⟩
theorem Yw{F k:Nat}{b:EA}{J:JW}(O:100<F)(Z:NL J)(hb:BG k b)(U:k<100):A0 (f24 F J b) (fun r=>(∃n K,VJ n K∧r.1= [J,K,K])∧BG (k+301) r.2):=by
 unfold f24;refine AE (Yy (mx:=7) O hb U (by omega) (by omega)) ?_;rintro⟨K,ag⟩ ⟨⟨n,_,V⟩,Y⟩;exact Ak ⟨⟨n,K,V,rfl⟩,Y⟩
end Pal
namespace Pal
theorem Rj(F:Nat)(e:Option (Int×Int)):Lt F e=some ((e.map (·.1)).getD 0):=by
 cases e with
 | none=>
  have:=Qe F;unfold Ls at this;exact this
 | some q=>rfl
theorem T2{s n:Nat}(h:s<2 ^ n)(d:Nat):Cm s (n+d)=Cm s n:=by
 induction d with
 | zero=>rfl
 | succ d K=>
  rw [← Nat.add_assoc,Ol,if_neg,K];have:s<2 ^ (n+d):=Nat.lt_of_lt_of_le h (Nat.pow_le_pow_right (by omega) (by omega));rw [Nat.testBit_lt_two_pow this];decide
def Fj(n:Nat)(lk:List (Int×Int))(i:Nat):Option Int:=
 if(lk.getD i (0,0)).1<0∨6<(lk.getD i (0,0)).1 then some 1 else if 0<i∧(lk.getD i (0,0)).1<(lk.getD (i - 1) (0,0)).1 then some 5 else if(lk.getD i (0,0)).2<0∨(n:Int) - 1<(lk.getD i (0,0)).2 then some 3 else none
def H0(n:Nat)(lk:List (Int×Int)):Option Int:=if 4<lk.length then some 6 else(List.range lk.length).findSome? (Fj n lk)
def CL(J:JW)(lk:List (Int×Int)):Int:=match CJ J with | some c=>c | none=>(H0 J.1.length lk).getD 0
theorem Wb{F:Nat}{J:JW}{lk:List (Int×Int)}(am:100<F)(ap:J.1.length<100):A0 (f116 F J lk) (fun e=>e.map (·.1)=H0 J.1.length lk):=by
 unfold f116 H0;refine Bn (fun h=>?_) (fun h=>?_)
 ·rw [if_pos (by omega)];exact Ak rfl
 rw [if_neg (by omega)];refine AE (S:=fun q=>(∃c,q=Sum.inl (some c)∧(List.range lk.length).findSome? (Fj J.1.length lk)=some c.1)∨(q=Sum.inr ()∧(List.range lk.length).findSome? (Fj J.1.length lk)=none)) ?_ ?_
 ·refine Cl lk.length (fun i s=>s=(i:Int)∧∀q,q<i→Fj J.1.length lk q=none) ⟨rfl,fun q al=>by omega⟩ (by omega) ?_ ?_
  ·rintro i s hi ⟨rfl,K⟩;unfold JE;have hg:lk.getD i (0,0)=lk[i]:=Ej hi;refine Bs (by omega) (Bl (m:=i) rfl hi ?_);refine AM (HR F _ _ _) (Bn (fun h=>?_) (fun h=>?_))
   ·have O:=of_decide_eq_true h;exact Ak (.inl ⟨(1,(i:Int)),rfl,DX K (by unfold Fj;rw [hg,if_pos O]) hi⟩)
   have O:¬(lk[i].1<0∨6<lk[i].1):=fun x=>h (decide_eq_true x);refine AE (S:=fun c=>c=decide (0<i∧lk[i].1<(lk.getD (i - 1) (0,0)).1)) ?_ ?_
   ·refine Bn (fun U=>?_) (fun U=>?_)
    ·have ag:i - 1<lk.length:=by omega
     refine AW ((i - 1:Nat):Int) (by omega) (by omega) (by omega) (Bl (m:=i - 1) rfl ag ?_);refine Ak ?_;rw [Ej ag];exact decide_eq_decide.2 ⟨fun x=>⟨by omega,x⟩,fun x=>x.2⟩
    ·exact Ak (decide_eq_false (by omega)).symm
   ·rintro c rfl;refine Bn (fun U=>?_) (fun U=>?_)
    ·have V:=of_decide_eq_true U;exact Ak (.inl ⟨(5,(i:Int)),rfl,DX K (by unfold Fj;rw [hg,if_neg O,if_pos V]) hi⟩)
    have V:¬(0<i∧lk[i].1<(lk.getD (i - 1) (0,0)).1):=fun x=>U (decide_eq_true x);refine AW ((J.1.length:Int) - 1) rfl (by omega) (by omega) ?_;refine AM (HR F _ _ _) ?_;refine Bn (fun Y=>?_) (fun Y=>?_)
    ·have Z:=of_decide_eq_true Y;exact Ak (.inl ⟨(3,(i:Int)),rfl,DX K (by unfold Fj;rw [hg,if_neg O,if_neg V,if_pos Z]) hi⟩)
    have Z:¬(lk[i].2<0∨(J.1.length:Int) - 1<lk[i].2):=fun x=>Y (decide_eq_true x);refine AW ((i+1:Nat):Int) (by simp) (by omega) (by omega) ?_;refine Ak ⟨rfl,fun q al=>?_⟩;by_cases e:q=i
    ·subst e;unfold Fj;rw [hg,if_neg O,if_neg V,if_neg Z]
    ·exact K q (by omega)
  ·rintro s ⟨rfl,K⟩;unfold JE;exact A5 (by omega) (Ak ⟨_,rfl,.inr ⟨rfl,F1 K⟩⟩)
 ·rintro q (⟨c,rfl,h⟩ | ⟨rfl,h⟩)
  ·exact Ak h.symm
  ·exact Ak h.symm
theorem ME{F:Nat}{J:JW}{lk:List (Int×Int)}(K:100<F)(O:NL J):HB F J lk=some (CL J lk):=by
 have Y:=O.l1;refine CE ?_;unfold HB CL;refine AE (We K O) ?_;intro e he;rw [← he];cases e with
 | some q=>
  exact Bs rfl (AM (Rj F _) (Ak rfl))
 | none=>
  refine A5 (by simp) (AE (Wb K (by omega)) ?_);intro U V;refine AM (Rj F _) (Ak ?_);show(U.map (·.1)).getD 0=(H0 J.1.length lk).getD 0;rw [V]
theorem Sa{F:Nat}{J:JW}{lk:List (Int×Int)}(am:100<F)(ag:NL J):f70 F J lk=some (CL J lk):=by
 have av:=ag.l1;refine CE ?_;unfold f70 CL;refine AM (X7 am ag) ?_;cases h:CJ J with
 | some c=>exact Bs (Ti h) (Ak rfl)
 | none=>
  refine A5 (by simp) ?_;unfold H0;refine Bn (fun h=>?_) (fun h=>?_)
  ·simp only;rw [if_pos (by omega)];exact Ak rfl
  simp only;rw [if_neg (show ¬4<lk.length by omega)];refine AE (S:=fun q=>(∃c,q=Sum.inl c∧(List.range lk.length).findSome? (Fj J.1.length lk)=some c)∨(q=Sum.inr ()∧(List.range lk.length).findSome? (Fj J.1.length lk)=none)) ?_ ?_
  ·refine Cl lk.length (fun i s=>s=(i:Int)∧∀q,q<i→Fj J.1.length lk q=none) ⟨rfl,fun q ap=>by omega⟩ (by omega) ?_ ?_
   ·rintro i s hi ⟨rfl,K⟩;unfold Nb;have hg:lk.getD i (0,0)=lk[i]:=Ej hi;refine Bs (by omega) (Bl (m:=i) rfl hi ?_);refine AM (KV F _ _ _) (Bn (fun h=>?_) (fun h=>?_))
    ·have O:lk[i].1<0∨6<lk[i].1:=by simp at h;omega
     exact Ak (.inl ⟨1,rfl,DX K (by unfold Fj;rw [hg,if_pos O]) hi⟩)
    have O:¬(lk[i].1<0∨6<lk[i].1):=by simp at h;omega
    refine AE (S:=fun c=>c=decide (0<i∧lk[i].1<(lk.getD (i - 1) (0,0)).1)) ?_ ?_
    ·refine Bn (fun U=>?_) (fun U=>?_)
     ·have al:i - 1<lk.length:=by omega
      refine Bl (m:=i) rfl hi (AW ((i - 1:Nat):Int) (by omega) (by omega) (by omega) ?_);refine Bl (m:=i - 1) rfl al (Ak ?_);rw [Ej al];exact decide_eq_decide.2 ⟨fun x=>⟨by omega,x⟩,fun x=>x.2⟩
     ·exact Ak (decide_eq_false (by omega)).symm
    ·rintro c rfl;refine Bn (fun U=>?_) (fun U=>?_)
     ·have V:=of_decide_eq_true U;exact Ak (.inl ⟨5,rfl,DX K (by unfold Fj;rw [hg,if_neg O,if_pos V]) hi⟩)
     have V:¬(0<i∧lk[i].1<(lk.getD (i - 1) (0,0)).1):=fun x=>U (decide_eq_true x);refine Bl (m:=i) rfl hi ?_;refine AW ((J.1.length:Int) - 1) rfl (by omega) (by omega) ?_;refine AM (KV F _ _ _) ?_;refine Bn (fun Y=>?_) (fun Y=>?_)
     ·have Z:lk[i].2<0∨(J.1.length:Int) - 1<lk[i].2:=by simp at Y;omega
      exact Ak (.inl ⟨3,rfl,DX K (by unfold Fj;rw [hg,if_neg O,if_neg V,if_pos Z]) hi⟩)
     have Z:¬(lk[i].2<0∨(J.1.length:Int) - 1<lk[i].2):=by simp at Y;omega
     refine AW ((i+1:Nat):Int) (by simp) (by omega) (by omega) (Ak ⟨rfl,fun q ap=>?_⟩);by_cases e:q=i
     ·subst e;unfold Fj;rw [hg,if_neg O,if_neg V,if_neg Z]
     ·exact K q (by omega)
   ·rintro s ⟨rfl,K⟩;unfold Nb;exact A5 (by omega) (Ak ⟨_,rfl,.inr ⟨rfl,F1 K⟩⟩)
  ·rintro q (⟨c,rfl,h⟩ | ⟨rfl,h⟩)
   ·rw [h];exact Ak rfl
   ·rw [h];exact Ak rfl
theorem YR{F:Nat}{lk:List (Int×Int)}(K:100<F)(O:lk.length≤20):f34 F lk lk=some true:=by
 refine CE ?_;unfold f34;refine AE (S:=fun q=>q=Sum.inr ()) ?_ (by rintro q rfl;exact Ak (by simp));refine Cl lk.length (fun i s=>s=(i:Int)) rfl (by omega) ?_ ?_
 ·rintro i s hi rfl;unfold Nn;refine AE (S:=fun c=>c=true) (Bs (by omega) (Ak (decide_eq_true (by omega)))) ?_;rintro c rfl;refine Bs rfl (Bl (m:=i) rfl hi ?_);refine Bl (m:=i) rfl hi (A5 (by simp) ?_);exact AW ((i+1:Nat):Int) (by simp) (by omega) (by omega) (Ak rfl)
 ·rintro s rfl;unfold Nn;refine AE (S:=fun c=>c=false) (A5 (by omega) (Ak rfl)) ?_;rintro c rfl;exact A5 (by simp) (Ak ⟨_,rfl,rfl⟩)
theorem Y2{F:Nat}{lk:List (Int×Int)}(K:lk.length<1000):f27 F lk=some lk:=by
 unfold f27 De;rw [if_pos (by simp;omega)]
 rfl
end Pal
namespace Pal
open Go Go.Conc
theorem Ll{P:Program}{J:Judge P}{Q:Goroutine→St→Prop}{b:Frame}{n:Nat}{ds:List Deferred}{ops:Array Oper}{k:List Item}{cs:List Frame}{m fuel:Nat}{D:Nat→Bool}{listed:Array Bool}{L L':Env}{s:St}(k':AY J Q b n ds ops k cs m D fuel listed L' s)(h:G5 L L'=G7 L'):AY J Q b n ds ops k cs m D fuel listed L s:=C4 (Na h) k'
def HG{α:Type}(p:Rp α):Rp (List α):=⟨1,fun E ws xs=>(xs= []∧ws= [.slice none 0 0])∨(xs≠ []∧(rL p).r E ws xs),
 fun hle h=>h.imp id fun h=>⟨h.1,(rL p).Ah hle h.2⟩,fun h=>by
  rcases h with⟨_,rfl⟩ | ⟨_,h⟩
  ·rfl
  ·exact(rL p).len h,fun h w hw=>by
  rcases h with⟨_,rfl⟩ | ⟨_,h⟩
  ·simp at hw;subst hw;rfl
  ·exact(rL p).one h w hw⟩
theorem Sx{α:Type}{p:Rp α}{E:LH}{ws:List Value}{xs:List α}(h:(HG p).r E ws xs):(rL p).r E ws xs:=by
 rcases h with⟨rfl,rfl⟩ | ⟨_,h⟩
 ·exact⟨none,0,rfl,Al.nil⟩
 ·exact h
theorem Al.bl{α:Type}{p:Rp α}{E:LH}{a:Option Addr}{c:Nat}{xs:List (List α)}(h:Al (HG p) E a c xs):Al (rL p) E a c xs:=by
 obtain⟨K,h⟩:=h;refine⟨K,h.imp id ?_⟩;rintro⟨bk,off,O,U⟩;refine⟨bk,off,O,fun i x V=>?_⟩;obtain⟨ws,Y,Z⟩:=U i x V;exact⟨ws,Sx Y,Z⟩
def LD{α:Type}(xs:List α):Option Unit:=if xs= [] then some () else none
def N2{α:Type}(xs:List α):Option Unit:=if xs= [] then none else some ()
theorem UM{α:Type}{xs:List α}{u:Unit}(h:LD xs=some u):xs= []:=by
 unfold LD at h;split at h
 ·assumption
 ·cases h
theorem VA{α:Type}{xs:List α}{u:Unit}(h:N2 xs=some u):xs≠ []:=by
 unfold N2 at h;split at h
 ·cases h
 ·assumption
instance {α:Type} [DecidableEq α] (xs:List α):Decidable (xs= []):=inferInstance
theorem UQ{f:Array Value}{y:Nat}{v w:Value}(h:y<f.size):AX (AX f y [v]) (y*1) [w]=AX f y [w]:=by
 simp [AX]
theorem Xt{f:Array Value}{y:Nat}{v:Value}(h:y<f.size):(AX f y [v])[y*1]? =some v:=by
 simp [AX,h]
theorem Yh{f:Array Value}{y z:Nat}{v:Value}(h:z≠y):(AX f y [v])[z]? =f[z]? :=by
 simp only [AX];exact Array.getElem?_setIfInBounds_ne (by omega)
theorem OL.hole{α:Type}{e:TypeId}{pp:Rp α}{E:LH}{a:Option Addr}{c:Nat}{g:Seg}{xs:List (List α)}{m:Int}{x:List α}{u:Unit}(h:OL e (HG pp) E a c g xs)(hm:ix xs m=some x)(Y:LD x=some u):
  ∃bk f,a=some ⟨bk,0,none⟩∧g= [(bk,.cells (AX f m.toNat [.slice none 0 0]) e (0,0))]∧m.toNat<f.size∧OL e (HG pp) E (some ⟨bk,0,none⟩) c [(bk,.cells f e (0,0))] xs∧
   ∀E' x' v,Le E E'→x'≠ []→(rL pp).r E' [v] x'→OL e (HG pp) E' (some ⟨bk,0,none⟩) c [(bk,.cells (AX f m.toNat [v]) e (0,0))] (xs.set m.toNat x'):=by
 have Z:=UM Y;subst Z;obtain⟨K,rfl,ag⟩:=GA hm;obtain⟨bk,f,ws,rfl,rfl,al,O,am,_⟩:=OL.get h ag;have U:(HG pp).n=1:=rfl;rw [U] at O am;have ap:ws= [.slice none 0 0]:=by
  rcases al with⟨_,h⟩ | ⟨h,_⟩
  ·exact h
  ·exact absurd rfl h
 subst ap;have av:f[K]? =some (.slice none 0 0):=by have:=O 0 _ rfl;simpa using this
 have a0:AX f K [.slice none 0 0]=f:=by
  simp only [AX];apply Array.ext_getElem?;intro j;by_cases V:K=j
  ·subst V;rw [Array.getElem?_setIfInBounds_self_of_lt (by omega),av]
  ·rw [Array.getElem?_setIfInBounds_ne V]
 refine⟨bk,f,rfl,?_,by simp;omega,h,fun E' x' v hle a1 a2=>?_⟩
 ·rw [show((K:Int)).toNat=K by omega,a0]
 ·obtain⟨a4,_,_,_,a3⟩:=OL.again (h.Ah hle) hm (o:=K*1) (by simp [U]);have:=a3 x' [v] (.inr ⟨a1,a2⟩);simpa using this
theorem OL.beside{α:Type}{e:TypeId}{pp:Rp α}{E:LH}{bk c:Nat}{f:Array Value}{xs:List (List α)}{m z:Int}{x:List α}(h:OL e (HG pp) E (some ⟨bk,0,none⟩) c [(bk,.cells f e (0,0))] xs){Y:List α}(hm:ix xs m=some Y)(K:As (m+1)=some z)(Z:ix xs z=some x):
  ∃O U,Al pp E O U x∧∀(v:Value) (q:Nat) w,[Value.slice O x.length U][q]? =some w→(AX f m.toNat [v])[z.toNat*1+q]? =some w:=by
 obtain⟨ws,ag,al,_,_⟩:=OL.again h Z rfl;obtain⟨O,U,rfl,am⟩:=Sx ag;refine⟨O,U,am,fun v q w V=>?_⟩;obtain⟨ap,rfl,_⟩:=GA hm;have av:z=(ap:Int)+1:=by
  unfold As at K;split at K
  ·exact(Option.some.inj K).symm
  ·cases K
 cases q with
 | zero=>
  rw [Yh (by omega)];exact al 0 w V
 | succ q=>simp at V
section
variable {P:Program}{J:Judge P}{Q:Goroutine→St→Prop}{b:Frame}{n:Nat}{L L':Env}{ds:List Deferred}{k:List Item}{cs:List Frame}{s:St}{ops:Array Oper}{E H:LH}{S:List Seg}{i:Nat}{rest:List Nat}
variable {d:Option Tmp}{x y:Operand}{t u ty e:TypeId}{p:String}{af:Array Edge}{g:Option (Nat×Bool)}{v w:Value}
theorem ZK{bk o:Nat}{f:Array Value}(j:Nat)(O:o<f.size)(U:Ax E H S)(V:BE P t=some 1)(Y:Ey b n L ops i=some ⟨d,.store t x y,ty,p,af,g⟩)
  (Z:ev L x=some (.pointer (some ⟨bk,o*1,none⟩))) (ag:ev L y=some v) (al:S[j]? =some [(bk,.cells (AX f o [w]) e (0,0))]) (K:v.cells= #[v]) (am:CG v=true)
  (h:Ax E H (S.set j [(bk,.cells (AX f o [v]) e (0,0))])→JL J Q b n (AF L d undef) ds (.inRegion ops rest::k) cs (Ao E H (S.set j [(bk,.cells (AX f o [v]) e (0,0))]))):
  JL J Q b n L ds (.inRegion ops (i::rest)::k) cs (Ao E H S):=by
 have ap:AX (AX f o [w]) (o*1) v.cells.toList=AX f o [v]:=by rw [K];exact UQ O
 refine Pn j U (by rw [K];exact V) Y Z ag al (by rw [ap];exact h) (by rw [K,Mo];simp;omega) (by rw [K];simpa using am)
end
section
variable {P:Program}{J:Judge P}{Q:Goroutine→St→Prop}{b:Frame}{n:Nat}{ds:List Deferred}{ops:Array Oper}{k:List Item}{cs:List Frame}{m fuel:Nat}{listed:Array Bool}{L:Env}{E H:LH}{S:List Seg}
variable {d:Option Tmp}{x y:Operand}{t ty e:TypeId}{p:String}{af:Array Edge}{g:Option (Nat×Bool)}{v:Value}{i:Nat}
theorem Take.Sv{bk off:Nat}{c:Array Value}(j:Nat)(V:Ax E H S)(Y:ops[i]? =some ⟨d,.store t x y,ty,p,af,g⟩)(hw:Bd L ops ⟨d,.store t x y,ty,p,af,g⟩=some true)(Z:BH n d=true)
  (ag:ev L x=some (.pointer (some ⟨bk,off,none⟩))) (al:ev L y=some v) (am:BE P t=some v.cells.size) (ap:∀u∈v.cells.toList,CG u=true) (K:S[j]? =some [(bk,.cells c e (0,0))]) (hle:off+v.cells.size≤c.size)
  (h:Ax E H (S.set j [(bk,.cells (AX c off v.cells.toList) e (0,0))])→AY J Q b n ds ops k cs m El fuel (Bg listed i) (AF L d undef) (Ao E H (S.set j [(bk,.cells (AX c off v.cells.toList) e (0,0))]))):
  Take J Q b n ds ops k cs m El fuel listed L (Ao E H S) i:=
 Take.LS Y (by simp [Dx,Z]) hw fun ρ O=>by
  obtain⟨av,a0⟩:=F2 V K
  rw [av]
  show lp P (do Instr.storeAt t (ρ x) (ρ y);pure Next.skip) _ _ _
  rw [O x _ ag,O y v al]
  refine AH _ _ ?_
  unfold Instr.storeAt
  simp only [Instr.sureAddr,bind,Sem.bind,pure]
  refine Mh (pl:=(S.set j []).flatten.length) am ap a0 (c:=c) (e:=e) (by simp) hle fun U=>?_
  have a1:((S.set j []).flatten++ [(bk,Obj.cells c e (0,0))]).set (S.set j []).flatten.length (bk,.cells (AX c off v.cells.toList) e (0,0))=(S.set j []).flatten++ [(bk,.cells (AX c off v.cells.toList) e (0,0))]:=Hr _ _ _ _
  rw [a1] at U ⊢
  obtain⟨a2,a3⟩:=G3 K U
  rw [a2]
  exact h a3
end
end Pal
namespace Pal
open Go Go.Conc Go.Proofs
open Go.Proofs.Tryz
variable {J:Judge Tryz.prog}{E:LH}
def Lb(fuel:Nat)(p0:A1)(U:(List (List (List Int)))×Int)(V:(List (List Int))×Int)(Y:Int)(O:(List Int)×Int)(K:(List Int)×Int):Option (Bi ((List Int)×Int) ((List Int))):= (ix p0.1 V.2).bind fun Z=> if K.2<(Z.length:Int) then((ix K.1 O.2).bind fun ag=> (As (U.2+1)).bind fun al=> (ix U.1 al).bind fun am=> (ix p0.1 V.2).bind fun ap=> (ix ap K.2).bind fun av=> (ix am av).bind fun a0=> (As (O.2 - Y)).bind fun a1=> (ix a0 a1).bind fun a2=> (As (ag+a2)).bind fun a3=> (ix K.1 O.2).bind fun a5=> (As (K.2+1)).bind fun a4=> some (.more ((K.1.set (Int.toNat O.2) a3),a4))) else(some (.done K.1))
def J0(fuel:Nat)(p0:A1)(p1:AI)(V:Int)(O:(List (List (List Int)))×Int)(Y:(List (List Int))×Int)(U:Int)(K:(List Int)×Int):Option (Bi ((List Int)×Int) ((List Int))):= if K.2≤(p1.length:Int) then(Option.bind (if O.2=V then(Option.bind (if K.2=U then((ix K.1 K.2).bind fun ap=> some (K.1.set (Int.toNat K.2) 1)) else(some K.1)) fun Z=> some Z) else(Option.bind (iter (Lb fuel p0 O Y U K) fuel (K.1,0)) fun ag=> some ag)) fun al=> (As (K.2+1)).bind fun am=> some (.more (al,am))) else(some (.done K.1))
def Nu(fuel:Nat)(p0:A1)(p1:AI)(p2:Int)(V:Int)(O:(List (List (List Int)))×Int)(K:(List (List Int))×Int):Option (Bi ((List (List Int))×Int) ((List (List Int)))):= if K.2<(p0.1.length:Int) then((As ((p1.length:Int)+1)).bind fun Y=> (F5 Y (0:Int)).bind fun Z=> (f118 fuel p0 p1 p2 O.2 K.2).bind fun U=> Option.bind (iter (J0 fuel p0 p1 V O K U) fuel (Z,U)) fun ag=> (room K.1 ag).bind fun al=> (As (K.2+1)).bind fun am=> some (.more (al,am))) else(some (.done K.1))
def O9(fuel:Nat)(p0:A1)(p1:AI)(p2:Int)(U:Int)(K:(List (List (List Int)))×Int):Option (Bi ((List (List (List Int)))×Int) ((List (List (List Int))))):= if 0≤K.2 then((ix K.1 K.2).bind fun V=> (LD V).bind fun Z=> Option.bind (iter (Nu fuel p0 p1 p2 U K) fuel ([],0)) fun O=> (N2 O).bind fun ag=> (As (K.2 - 1)).bind fun Y=> some (.more ((K.1.set (Int.toNat K.2) O),Y))) else(some (.done K.1))
def f80(fuel:Nat)(p0:A1)(p1:AI)(p2:Int):Option ((List (List (List Int)))):= (f117 fuel p1).bind fun K=> (As (K+1)).bind fun O=> (F5 O ([]:List (List Int))).bind fun U=> Option.bind (iter (O9 fuel p0 p1 p2 K) fuel (U,K)) fun V=> some V
theorem aS{bA:An}{c2:Nat}{cq:An}{cr:Nat}{Z:An}{ag:Nat}{p0:A1}{p1:AI}{p2:Int}(b1:Al (rL rI) E bA c2 p0.1)(c5:Al (rL rI) E cq cr p0.2)(ct:Al Bp E Z ag p1){fuel:Nat}{r:(List (List (List Int)))}(cu:f80 fuel p0 p1 p2=some r):AL J 80 [.agg #[sV bA p0.1 c2,sV cq p0.2 cr],sV Z p1 ag,iV p2] E [] (fun w E' B'=>∃(cv:An) (cw:Nat),w= sV cv r cw∧B'= []∧Al (rL (rL rI)) E' cv cw r):=by
 refine A4 func80 fun Q gB cs H c6 c7=>?_;unfold f80 at cu;refine zg 2 rfl (B4 c6 fun al gC bo bB c8=>?_);obtain⟨am,c9,da⟩:=bs cu;refine zg 5 rfl (BD (Y5 (ct.Ah bo) c9) rfl rfl (AR func117 rfl) c8 fun b2 a4 db=>?_);obtain⟨gD,dc,dd⟩:=bs da;refine zg 5 rfl (Be dc rfl rfl rfl ?_);obtain⟨de,df,dg⟩:=bs dd;refine JS.make (pp:=(HG (rL rI))) df rfl rfl rfl rfl rfl underlying105 BS (CR type22) (by decide) (Du type22) (by decide) (.inl ⟨rfl,rfl⟩) db fun dh di dj dk=>?_;obtain⟨cy,dl,dm⟩:=bs dg;refine zg 8 rfl (Br (fun L s=>∃(b3:LH) (bC:An) (bD:Nat) (b4:Seg),Jn b2 H b3 [b4] [(8,sV bC cy bD)] L s (OL 22 (HG (rL rI)) b3 bC bD b4 cy)) ?_ ?_)
 ·rintro _ _ ⟨b3,bC,bD,b4,rfl,rfl,dn,dp,dq⟩;refine zg 5 rfl (B5 0 dq dp rfl fun gE dr b5 dt=>?_);replace b5:=Al.bl b5;obtain rfl:=oi dm;exact AD func80 rfl rfl (c7 (((bo.Ac a4).Ac dn).Ac dr) rfl ⟨bC,bD,rfl,rfl,b5⟩ dt)
 ·intro du;refine JL.block (CN dl (fun L s K=>∃(bp:LH) (bE:An) (Y:Nat) (bF:Seg),Jn b2 H bp [bF] [(1,sV Z p1 ag),(2,iV p2),(3,pV al 0),(7,iV am),(8,sV bE K.1 Y),(9,iV K.2)] L s (OL 22 (HG (rL rI)) bp bE Y bF K.1)) ⟨b2,(AZ dh),de.length,di,rfl,rfl,Ar,dk,dj⟩ ?_);rintro _ _ K ⟨bp,bE,Y,bF,rfl,rfl,a2,cz,cA⟩ dv ⟨gF,b6⟩ dw;have cB:=b6;unfold O9 at cB;refine zg 6 rfl (AN cB (fun dx dy=>?_) (fun dx dz=>?_))
  ·obtain⟨gG,bG,dA⟩:=bs dy;obtain⟨gH,dB,dC⟩:=bs dA;refine zg 7 rfl ?_;obtain⟨U,a9,rfl,rfl,cC,dD,dE⟩:=OL.hole cA bG dB;obtain⟨be,dF,dG⟩:=bs dC;refine Br (fun L s=>∃(b7:LH) (bw:An) (bx:Nat) (b8:Seg),Jn bp H b7 [bX U (AX a9 (Int.toNat K.2) [sV bw be bx]) 22,b8] [(1,sV Z p1 ag),(2,iV p2),(3,pV al 0),(7,iV am),(8,.slice (AZ U) K.1.length Y),(9,iV K.2)] L s (OL 28 (rL rI) b7 bw bx b8 be)) ?_ ?_
   ·rintro _ _ ⟨b7,bw,bx,b8,rfl,rfl,cD,dH,dI⟩;obtain⟨gI,dJ,dK⟩:=bs dG;refine Mk (B5 1 dI dH rfl fun dL cE dM dN=>?_);have dO:=dE _ be (sV bw be bx) (cD.Ac cE) (VA dJ) ⟨_,_,rfl,dM⟩;have dP:(K.1.set (Int.toNat K.2) be).length=K.1.length:=List.length_set;refine Gi (L':= [(1,.slice Z p1.length ag),(2,iV p2),(3,pV al 0),(7,iV am),(8,.slice (AZ U) ((K.1.set (Int.toNat K.2) be)).length Y),(9,iV K.2)]) ⟨rfl,rfl,rfl,rfl,by rw [dP];rfl,rfl,trivial⟩ ?_;obtain⟨dQ,dR,dS⟩:=bs dK;refine zg 2 rfl (Ci dR rfl rfl rfl ?_);refine zg 2 rfl ?_;obtain rfl:=oi dS;exact Ay (dw _ _ ((K.1.set (Int.toNat K.2) be),dQ) ⟨dL,(AZ U),Y,[(U,.cells (AX a9 (Int.toNat K.2) [sV bw be bx]) 22 (0,0))],rfl,rfl,((a2.Ac cD).Ac cE),dN,dO⟩ b6) rfl
   ·intro dT;refine JL.block (CN dF (fun L s V=>∃(bH:LH) (av:An) (a0:Nat) (a5:Seg),Jn bp H bH [bX U (AX a9 (Int.toNat K.2) [sV av V.1 a0]) 22,a5] [(1,sV Z p1 ag),(2,iV p2),(3,pV al 0),(7,iV am),(8,.slice (AZ U) K.1.length Y),(9,iV K.2),(10,iV V.2)] L s (OL 28 (rL rI) bH av a0 a5 V.1)) ⟨bp,none,0,[],rfl,rfl,Ar,cz,OL.nil⟩ ?_);rintro _ _ V ⟨bH,av,a0,a5,rfl,rfl,a1,cF,cG⟩ dU ⟨gJ,b9⟩ dV;have cH:=b9;unfold Nu at cH;refine zg 4 rfl (JL.fl 0 (bB.Ah ((a4.Ac a2).Ac a1)) underlying24 BS Ct ?_);refine Bh underlying22 rfl rfl rfl (zg 2 rfl ?_);refine AN cH (fun dW dX=>?_) (fun dW dY=>?_)
    ·refine zg 6 rfl (Bh underlying25 rfl rfl rfl ?_);obtain⟨gK,dZ,ea⟩:=bs dX;refine Be dZ rfl rfl rfl ?_;obtain⟨eb,ec,ed⟩:=bs ea;refine JS.make (pp:=rI) ec rfl rfl rfl rfl rfl underlying28 AU (CR type3) (by decide) CM (by decide) rfl cF fun ee ef eg eh=>zg 4 rfl (BQ (bB.Ah ((a4.Ac a2).Ac a1)) BY BC rfl rfl ?_);obtain⟨a6,ei,ej⟩:=bs ed;refine zg 4 rfl (BD (YE (b1.Ah (((bo.Ac a4).Ac a2).Ac a1)) (c5.Ah (((bo.Ac a4).Ac a2).Ac a1)) (ct.Ah (((bo.Ac a4).Ac a2).Ac a1)) ei) rfl rfl (AR func118 rfl) eh fun ca bi ek=>?_);obtain⟨cb,el,em⟩:=bs ej;refine zg 8 rfl (Br (fun L s=>∃(cc:LH) (bI:An) (bJ:Nat) (cd:Seg),Jn ca H cc [bX U (AX a9 (Int.toNat K.2) [sV av V.1 a0]) 22,a5,cd] [(1,sV Z p1 ag),(2,iV p2),(3,pV al 0),(7,iV am),(8,.slice (AZ U) K.1.length Y),(9,iV K.2),(10,iV V.2),(11,sV bI cb bJ)] L s (OL 3 rI cc bI bJ cd cb)) ?_ ?_)
     ·rintro _ _ ⟨cc,bI,bJ,cd,rfl,rfl,cI,cJ,en⟩;refine zg 5 rfl (AB (v:= .pointer (some ⟨U,Int.toNat (K.2)*1,none⟩)) rfl (fun ρ h=>Jz bG underlying105 BS (h _ _ rfl) (h _ _ rfl)) ?_);refine AB (v:= sV av V.1 a0) rfl (fun ρ h=>Yl.load Ct (h _ _ rfl) (DW (j:=0) cJ rfl (Xt cC))) (zg 1 rfl ?_);refine B5 2 en cJ rfl fun eo cK ep eq=>?_;obtain⟨er,et,eu⟩:=bs em;refine JS.app (pp:=(rL rI)) (v:= sV bI cb bJ) (a:=av) (c:=a0) 1 et rfl rfl rfl rfl (fun _=>rfl) rfl (fun _=>rfl) rfl rfl rfl underlying22 underlying22 underlying22 BV (CR type28) Fp rfl (by decide) (by decide) (by decide) (by decide) (cG.Ah ((bi.Ac cI).Ac cK)) ⟨_,_,rfl,ep⟩ eq rfl fun gL ew ex ey ez eA=>AB (v:= .pointer (some ⟨U,Int.toNat (K.2)*1,none⟩)) rfl (fun ρ h=>Jz bG underlying105 BS (h _ _ rfl) (h _ _ rfl)) (ZK 0 cC eA BS rfl rfl rfl rfl rfl rfl fun eB=>?_);obtain⟨eC,eD,eE⟩:=bs eu;refine zg 4 rfl (Be eD rfl rfl rfl ?_);refine zg 2 rfl ?_;obtain rfl:=oi eE;exact Ay (dV _ _ (er,eC) ⟨eo,ew,ex,ey,rfl,rfl,(((a1.Ac bi).Ac cI).Ac cK),eB,ez⟩ b9) rfl
     ·intro eF;refine JL.block (CN el (fun L s O=>∃(a3:LH) (bb:An) (bd:Nat) (bv:Seg),Jn ca H a3 [bX U (AX a9 (Int.toNat K.2) [sV av V.1 a0]) 22,a5,bv] [(1,sV Z p1 ag),(2,iV p2),(3,pV al 0),(7,iV am),(8,.slice (AZ U) K.1.length Y),(9,iV K.2),(10,iV V.2),(11,sV bb O.1 bd),(12,iV a6),(13,iV O.2)] L s (OL 3 rI a3 bb bd bv O.1)) ⟨ca,(AZ ee),eb.length,ef,rfl,rfl,Ar,ek,(eg.Ah bi)⟩ ?_);rintro _ _ O ⟨a3,bb,bd,bv,rfl,rfl,bq,bK,bL⟩ eG ⟨gM,ce⟩ eH;have cM:=ce;unfold J0 at cM;refine zg 5 rfl (Bh underlying25 rfl rfl rfl ?_);refine zg 2 rfl (AN cM (fun eI eJ=>?_) (fun eI eK=>?_))
      ·obtain⟨cf,eL,eM⟩:=bs eJ;refine zg 2 rfl (Br (fun L s=>∃(bM:LH) (bN:An) (bO:Nat) (bP:Seg),Jn a3 H bM [bX U (AX a9 (Int.toNat K.2) [sV av V.1 a0]) 22,a5,bP] [(1,sV Z p1 ag),(2,iV p2),(3,pV al 0),(7,iV am),(8,.slice (AZ U) K.1.length Y),(9,iV K.2),(10,iV V.2),(11,sV bN cf bO),(12,iV a6),(13,iV O.2)] L s (OL 3 rI bM bN bO bP cf)) ?_ ?_)
       ·rintro _ _ ⟨bM,bN,bO,bP,rfl,rfl,eN,eO,eP⟩;obtain⟨eQ,eR,eS⟩:=bs eM;refine zg 2 rfl (Be eR rfl rfl rfl ?_);refine zg 2 rfl ?_;obtain rfl:=oi eS;exact Ay (eH _ _ (cf,eQ) ⟨bM,bN,bO,bP,rfl,rfl,(bq.Ac eN),eO,eP⟩ ce) rfl
       ·intro cN;refine zg 8 rfl (AN eL (fun eT eU=>?_) (fun eT eV=>?_))
        ·obtain⟨cO,eW,eX⟩:=bs eU;refine zg 7 rfl (Br (fun L s=>∃(bQ:LH) (bR:An) (bS:Nat) (bT:Seg),Jn a3 H bQ [bX U (AX a9 (Int.toNat K.2) [sV av V.1 a0]) 22,a5,bT] [(1,sV Z p1 ag),(2,iV p2),(3,pV al 0),(7,iV am),(8,.slice (AZ U) K.1.length Y),(9,iV K.2),(10,iV V.2),(11,sV bR cO bS),(12,iV a6),(13,iV O.2)] L s (OL 3 rI bQ bR bS bT cO)) ?_ ?_)
         ·rintro _ _ ⟨bQ,bR,bS,bT,rfl,rfl,eY,eZ,e0⟩;refine JL.exit rfl ?_;obtain rfl:=oi eX;exact Ay (cN _ _ ⟨bQ,bR,bS,bT,rfl,rfl,eY,eZ,e0⟩) rfl
         ·intro cP;refine AN eW (fun e1 e2=>?_) (fun e1 e3=>?_)
          ·obtain⟨gN,e4,e5⟩:=bs e2;refine zg 3 rfl (I4 2 bL e4 rfl rfl rfl rfl rfl rfl underlying28 AU ?_);rintro cQ cg f241 _ e6 rfl gO e7 e8 gP gQ;refine JS.store (v:=iV 1) (off:=cg) 2 rfl rfl rfl bK rfl rfl AU (by simp [Value.cells,CG]) e6 (by have:=e7;simp only [Rp.n,rK,rN,rB,rP,rL] at this;show _+1≤_;omega) fun e9=>?_;have fa:=e8 (1) [iV 1] rfl;have cR:(O.1.set (Int.toNat O.2) 1).length=O.1.length:=List.length_set;refine Gi (L':= [(1,.slice Z p1.length ag),(2,iV p2),(3,pV al 0),(7,iV am),(8,.slice (AZ U) K.1.length Y),(9,iV K.2),(10,iV V.2),(11,.slice bb ((O.1.set (Int.toNat O.2) 1)).length bd),(12,iV a6),(13,iV O.2),(43,iV O.2),(44,.slice Z p1.length ag),(45,iV (p1.length:Int)),(46,.bool (decide (O.2≤(p1.length:Int)))),(49,iV K.2),(50,iV am),(51,.bool (decide (K.2=am))),(52,iV O.2),(53,iV a6),(54,.bool (decide (O.2=a6))),(55,.slice bb ((O.1.set (Int.toNat O.2) 1)).length bd),(56,iV O.2),(57,pV cQ cg)]) ⟨rfl,rfl,rfl,rfl,rfl,rfl,rfl,by rw [cR];rfl,rfl,rfl,rfl,rfl,rfl,rfl,rfl,rfl,rfl,rfl,rfl,rfl,by rw [cR];rfl,rfl,rfl,trivial⟩ ?_;refine JL.done ?_;obtain rfl:=oi e5;exact Ay (cP _ _ ⟨a3,bb,bd,[(cQ,.cells (AX f241 cg [iV 1]) 3 (0,0))],rfl,rfl,Ar,e9,fa⟩) rfl
          ·refine JL.skip ?_;obtain rfl:=oi e3;exact Ay (cP _ _ ⟨a3,bb,bd,bv,rfl,rfl,Ar,bK,bL⟩) rfl
        ·obtain⟨cT,fb,fc⟩:=bs eV;refine zg 5 rfl (Br (fun L s=>∃(bU:LH) (bV:An) (bW:Nat) (bY:Seg),Jn a3 H bU [bX U (AX a9 (Int.toNat K.2) [sV av V.1 a0]) 22,a5,bY] [(1,sV Z p1 ag),(2,iV p2),(3,pV al 0),(7,iV am),(8,.slice (AZ U) K.1.length Y),(9,iV K.2),(10,iV V.2),(11,sV bV cT bW),(12,iV a6),(13,iV O.2)] L s (OL 3 rI bU bV bW bY cT)) ?_ ?_)
         ·rintro _ _ ⟨bU,bV,bW,bY,rfl,rfl,fd,fe,ff⟩;refine Mk ?_;obtain rfl:=oi fc;exact Ay (cN _ _ ⟨bU,bV,bW,bY,rfl,rfl,fd,fe,ff⟩) rfl
         ·intro fg;refine JL.block (CN fb (fun L s ap=>∃(bz:LH) (bZ:An) (bn:Nat) (b0:Seg),Jn a3 H bz [bX U (AX a9 (Int.toNat K.2) [sV av V.1 a0]) 22,a5,b0] [(1,sV Z p1 ag),(2,iV p2),(3,pV al 0),(7,iV am),(8,.slice (AZ U) K.1.length Y),(9,iV K.2),(10,iV V.2),(11,sV bZ ap.1 bn),(12,iV a6),(13,iV O.2),(14,iV ap.2)] L s (OL 3 rI bz bZ bn b0 ap.1)) ⟨a3,bb,bd,bv,rfl,rfl,Ar,bK,bL⟩ ?_);rintro _ _ ap ⟨bz,bZ,bn,b0,rfl,rfl,br,a7,ci⟩ fh ⟨gR,ck⟩ fj;have cV:=ck;unfold Lb at cV;refine zg 4 rfl (JL.fl 0 (bB.Ah (((((a4.Ac a2).Ac a1).Ac bi).Ac bq).Ac br)) underlying24 BS Ct ?_);obtain⟨cm,fk,fm⟩:=bs cV;refine zg 1 rfl (B9 (b1.Ah ((((((bo.Ac a4).Ac a2).Ac a1).Ac bi).Ac bq).Ac br)) fk underlying22 BV ?_);rintro fo fp _ ⟨fq,fs,rfl,gS⟩ fu;refine BW 0 fu CQ rfl rfl rfl (Bh underlying28 rfl rfl rfl ?_);refine zg 2 rfl (AN fm (fun fv fw=>?_) (fun fv fx=>?_))
          ·obtain⟨cW,cX,fy⟩:=bs fw;refine zg 3 rfl ?_;obtain⟨bu,gT,_,rfl,rfl,rfl,fz⟩:=OL.Tv ci cX;obtain⟨cn,cY,fA⟩:=bs fy;obtain⟨cZ,c0,fB⟩:=bs fA;obtain⟨c1,c3,fC,fD⟩:=OL.beside (dD.Ah (((a1.Ac bi).Ac bq).Ac br)) bG cY c0;refine Di 27 [bu,U] ⟨⟨2,_,rfl⟩,⟨0,_,rfl⟩,trivial⟩ a7 fun ht=>A2 ht rfl [0,1,2,3] rfl (Bx (v:= .pointer (some ⟨bu,(Int.toNat (O.2)*1),none⟩)) 4 ht rfl rfl (fun ρ h s' hs=>Jz cX underlying28 AU (h _ _ rfl) (h _ _ rfl)) ?_);refine Bx (v:=iV cW) 5 ht rfl rfl (fun ρ h s' hs=>Yl.load Bv (h _ _ rfl) (Iu 2 a7 rfl (by simp [A6]) hs (fz 0 _ rfl))) (A2 ht rfl [6,7] rfl ?_);refine Bx 8 ht rfl rfl (fun ρ h s' hs=>MY (h _ _ rfl) (h _ _ rfl) cY) (Bx (v:= .pointer (some ⟨U,(Int.toNat (cn)*1),none⟩)) 9 ht rfl rfl (fun ρ h s' hs=>Jz c0 underlying105 BS (h _ _ rfl) (h _ _ rfl)) ?_);refine Bx (v:= sV c1 cZ c3) 10 ht rfl rfl (fun ρ h s' hs=>Yl.load Ct (h _ _ rfl) (Iu 0 a7 rfl (by simp [A6]) hs ((fD (sV av V.1 a0)) 0 _ rfl))) (Ca 11 ht underlying24 BS rfl rfl rfl rfl ?_);refine JG.lp 12 ht 0 (bB.Ah (((((a4.Ac a2).Ac a1).Ac bi).Ac bq).Ac br)) a7 ⟨⟨2,_,rfl⟩,⟨0,_,rfl⟩,trivial⟩ Ct ?_;refine Ch 13 ht rfl rfl ?_;obtain⟨fE,fF,fG⟩:=bs fB;refine Cv 14 (b1.Ah ((((((bo.Ac a4).Ac a2).Ac a1).Ac bi).Ac bq).Ac br)) fF ht underlying22 BV ?_;rintro fH fI _ ⟨fJ,fK,rfl,fL⟩ fM;refine JG.lp 15 ht 0 fM a7 ⟨⟨2,_,rfl⟩,⟨0,_,rfl⟩,trivial⟩ CQ ?_;refine Ch 16 ht rfl rfl ?_;obtain⟨fN,fO,fP⟩:=bs fG;refine Cv 17 fL fO ht underlying28 AU ?_;rintro fQ fR _ rfl fS;refine JG.lp 18 ht 0 fS a7 ⟨⟨2,_,rfl⟩,⟨0,_,rfl⟩,trivial⟩ Bv ?_;obtain⟨fT,fU,fW⟩:=bs fP;refine Cv 19 fC fU ht underlying22 BV ?_;rintro fX fY _ ⟨fZ,ga,rfl,gb⟩ gc;refine JG.lp 20 ht 0 gc a7 ⟨⟨2,_,rfl⟩,⟨0,_,rfl⟩,trivial⟩ CQ ?_;refine A2 ht rfl [21,22] rfl ?_;obtain⟨gd,ge,gf⟩:=bs fW;refine Bx 23 ht rfl rfl (fun ρ h s' hs=>C5 (h _ _ rfl) (h _ _ rfl) ge) ?_;obtain⟨gg,gh,gi⟩:=bs gf;refine Cv 24 gb gh ht underlying28 AU ?_;rintro gj gk _ rfl gl;refine JG.lp 25 ht 0 gl a7 ⟨⟨2,_,rfl⟩,⟨0,_,rfl⟩,trivial⟩ Bv ?_;obtain⟨a8,gm,gn⟩:=bs gi;refine Bx 26 ht rfl rfl (fun ρ h s' hs=>MY (h _ _ rfl) (h _ _ rfl) gm) (Cg [27,28] ?_);obtain⟨gU,gp,gq⟩:=bs gn;refine I4 2 ci gp rfl rfl rfl rfl rfl rfl underlying28 AU ?_;rintro c4 co gr _ gt rfl gV gu gv gW gX;refine JS.store (v:=iV a8) (off:=co) 2 rfl rfl rfl a7 rfl rfl AU (by simp [Value.cells,CG]) gt (by have:=gu;simp only [Rp.n,rK,rN,rB,rP,rL] at this;show _+1≤_;omega) fun gw=>?_;have gx:=gv a8 [iV a8] rfl;have cp:(ap.1.set (Int.toNat O.2) a8).length=ap.1.length:=List.length_set;refine Gi (L':= [(1,.slice Z p1.length ag),(2,iV p2),(3,pV al 0),(7,iV am),(8,.slice (AZ U) K.1.length Y),(9,iV K.2),(10,iV V.2),(11,.slice (AZ bu) ((ap.1.set (Int.toNat O.2) a8)).length bn),(12,iV a6),(13,iV O.2),(14,iV ap.2),(58,iV ap.2),(59,pV al 0),(60,.slice bA p0.1.length c2),(61,iV V.2),(62,pV fo fp),(63,.slice fq cm.length fs),(64,iV (cm.length:Int)),(65,.bool (decide (ap.2<(cm.length:Int)))),(68,.slice (AZ bu) ((ap.1.set (Int.toNat O.2) a8)).length bn),(69,iV O.2),(70,.slice (AZ bu) ((ap.1.set (Int.toNat O.2) a8)).length bn),(71,iV O.2),(72,.pointer (some ⟨bu,(Int.toNat (O.2)*1),none⟩)),(73,iV cW),(74,.slice (AZ U) K.1.length Y),(75,iV K.2),(76,iV cn),(77,.pointer (some ⟨U,(Int.toNat (cn)*1),none⟩)),(78,.slice c1 cZ.length c3),(79,pV al 0),(80,.slice bA p0.1.length c2),(81,iV V.2),(82,pV fH fI),(83,.slice fJ fE.length fK),(84,iV ap.2),(85,pV fQ fR),(86,iV fN),(87,pV fX fY),(88,.slice fZ fT.length ga),(89,iV O.2),(90,iV a6),(91,iV gd),(92,pV gj gk),(93,iV gg),(94,iV a8),(95,pV c4 co)]) ⟨rfl,rfl,rfl,rfl,rfl,rfl,rfl,by rw [cp];rfl,rfl,rfl,rfl,rfl,rfl,rfl,rfl,rfl,rfl,rfl,rfl,by rw [cp];rfl,rfl,by rw [cp];rfl,rfl,rfl,rfl,rfl,rfl,rfl,rfl,rfl,rfl,rfl,rfl,rfl,rfl,rfl,rfl,rfl,rfl,rfl,rfl,rfl,rfl,rfl,rfl,rfl,rfl,trivial⟩ ?_;obtain⟨gy,gz,gA⟩:=bs gq;refine zg 4 rfl (Be gz rfl rfl rfl ?_);refine zg 2 rfl ?_;obtain rfl:=oi gA;exact Ay (fj _ _ ((ap.1.set (Int.toNat O.2) a8),gy) ⟨bz,(AZ bu),bn,[(c4,.cells (AX gr co [iV a8]) 3 (0,0))],rfl,rfl,br,gw,gx⟩ ck) rfl
          ·refine JL.exit rfl ?_;obtain rfl:=oi fx;obtain rfl:=fh _ ck;exact Ay (fg _ _ ⟨bz,bZ,bn,b0,rfl,rfl,br,a7,ci⟩) rfl
      ·refine JL.exit rfl ?_;obtain rfl:=oi eK;obtain rfl:=eG _ ce;exact Ay (eF _ _ ⟨a3,bb,bd,bv,rfl,rfl,bq,bK,bL⟩) rfl
    ·refine JL.exit rfl ?_;obtain rfl:=oi dY;obtain rfl:=dU _ b9;exact Ay (dT _ _ ⟨bH,av,a0,a5,rfl,rfl,a1,cF,cG⟩) rfl
  ·refine JL.exit rfl ?_;obtain rfl:=oi dz;obtain rfl:=dv _ b6;exact Ay (du _ _ ⟨bp,bE,Y,bF,rfl,rfl,a2,cz,cA⟩) rfl
end Pal
namespace Pal
open Go Go.Conc Go.Proofs
open Go.Proofs.Tryz
variable {J:Judge Tryz.prog}{E:LH}
def Lp(fuel:Nat)(U:(List (List (List Int))))(V:(List Bool))(O:(List Int)×Int)(K:(List Int)×Int):Option (Bi ((List Int)×Int) ((List Int))):= Option.bind (if K.2<(K.1.length:Int) then((ix V O.2).bind fun Y=> some Y) else(some false)) fun Z=> if Z=true then((ix K.1 K.2).bind fun ag=> (ix U (0)).bind fun al=> (ix al O.2).bind fun am=> (ix am K.2).bind fun ap=> (As (ag+ap)).bind fun av=> (ix K.1 K.2).bind fun a1=> (As (K.2+1)).bind fun a0=> some (.more ((K.1.set (Int.toNat K.2) av),a0))) else(some (.done K.1))
def Nq(fuel:Nat)(U:(List (List (List Int))))(O:(List Bool))(K:(List Int)×Int):Option (Bi ((List Int)×Int) ((List Int))):= if K.2<(O.length:Int) then(Option.bind (iter (Lp fuel U O K) fuel (K.1,0)) fun V=> (As (K.2+1)).bind fun Y=> some (.more (V,Y))) else(some (.done K.1))
def M5(fuel:Nat)(p0:A1)(p1:AI)(O:(List (List (List Int))))(K:(List (List Int))×Int):Option (Bi ((List (List Int))×Int) ((List (List Int)))):= if K.2≤12 then((As ((p1.length:Int)+1)).bind fun U=> (F5 U (0:Int)).bind fun V=> (f82 fuel p0 K.2).bind fun Y=> Option.bind (iter (Nq fuel O Y) fuel (V,0)) fun Z=> (room K.1 Z).bind fun ag=> (As (K.2+1)).bind fun al=> some (.more (ag,al))) else(some (.done K.1))
def f79(fuel:Nat)(p0:A1)(p1:AI)(p2:Int):Option ((List (List Int))):= (f80 fuel p0 p1 p2).bind fun K=> Option.bind (iter (M5 fuel p0 p1 K) fuel ([],0)) fun O=> some O
theorem Pm{bW:An}{c2:Nat}{bY:An}{bZ:Nat}{Z:An}{ag:Nat}{p0:A1}{p1:AI}{p2:Int}(b0:Al (rL rI) E bW c2 p0.1)(b1:Al (rL rI) E bY bZ p0.2)(cp:Al Bp E Z ag p1){fuel:Nat}{r:(List (List Int))}(b2:f79 fuel p0 p1 p2=some r):AL J 79 [.agg #[sV bW p0.1 c2,sV bY p0.2 bZ],sV Z p1 ag,iV p2] E [] (fun w E' B'=>∃(b3:An) (b4:Nat),w= sV b3 r b4∧B'= []∧Al (rL rI) E' b3 b4 r):=by
 refine A4 func79 fun Q eE cs H cq cr=>?_;unfold f79 at b2;refine zg 2 rfl (B4 cq fun a2 eF a6 b5 ct=>?_);refine zg 4 rfl (BQ b5 BY BC rfl rfl ?_);obtain⟨av,cu,cv⟩:=bs b2;refine zg 2 rfl (BL (aS (b0.Ah a6) (b1.Ah a6) (cp.Ah a6) cu) rfl rfl (AR func80 rfl) ct ?_);rintro _ bI _ br ⟨a0,a1,rfl,rfl,cw⟩ cy;obtain⟨b6,cz,cA⟩:=bs cv;refine zg 11 rfl (Br (fun L s=>∃(bJ:LH) (bu:An) (bv:Nat) (bK:Seg),Jn bI H bJ [bK] [(8,sV bu b6 bv)] L s (OL 28 (rL rI) bJ bu bv bK b6)) ?_ ?_)
 ·rintro _ _ ⟨bJ,bu,bv,bK,rfl,rfl,cB,cC,cD⟩;refine zg 5 rfl (B5 0 cD cC rfl fun eG cE cF cG=>?_);obtain rfl:=oi cA;exact AD func79 rfl rfl (cr (((a6.Ac br).Ac cB).Ac cE) rfl ⟨bu,bv,rfl,rfl,cF⟩ cG)
 ·intro cH;refine JL.block (CN cz (fun L s O=>∃(bw:LH) (U:An) (V:Nat) (al:Seg),Jn bI H bw [al] [(1,sV Z p1 ag),(3,pV a2 0),(7,sV a0 av a1),(8,sV U O.1 V),(9,iV O.2)] L s (OL 28 (rL rI) bw U V al O.1)) ⟨bI,none,0,[],rfl,rfl,Ar,cy,OL.nil⟩ ?_);rintro _ _ O ⟨bw,U,V,al,rfl,rfl,a7,b7,b8⟩ cI ⟨eH,bL⟩ cJ;have b9:=bL;unfold M5 at b9;refine zg 6 rfl (AN b9 (fun cK cM=>?_) (fun cK cN=>?_))
  ·refine zg 6 rfl (Bh underlying25 rfl rfl rfl ?_);obtain⟨eI,cO,cP⟩:=bs cM;refine Be cO rfl rfl rfl ?_;obtain⟨cQ,cR,cT⟩:=bs cP;refine JS.make (pp:=rI) cR rfl rfl rfl rfl rfl underlying28 AU (CR type3) (by decide) CM (by decide) rfl b7 fun cV cW cX cY=>zg 4 rfl (BQ (b5.Ah (br.Ac a7)) BY BC rfl rfl ?_);obtain⟨bb,cZ,c0⟩:=bs cT;refine zg 1 rfl (BL (aq (b0.Ah ((a6.Ac br).Ac a7)) (b1.Ah ((a6.Ac br).Ac a7)) cZ) rfl rfl (AR func82 rfl) cY ?_);rintro _ bM _ bx ⟨bd,be,rfl,rfl,c1⟩ c3;obtain⟨bN,c4,c5⟩:=bs c0;refine zg 7 rfl (Br (fun L s=>∃(bO:LH) (bz:An) (bA:Nat) (bP:Seg),Jn bM H bO [al,bP] [(1,sV Z p1 ag),(3,pV a2 0),(7,sV a0 av a1),(8,sV U O.1 V),(9,iV O.2),(10,sV bz bN bA)] L s (OL 3 rI bO bz bA bP bN)) ?_ ?_)
   ·rintro _ _ ⟨bO,bz,bA,bP,rfl,rfl,ca,c6,c7⟩;refine zg 3 rfl (B5 1 c7 c6 rfl fun c8 cb c9 da=>?_);obtain⟨db,dc,dd⟩:=bs c5;refine JS.app (pp:=(rL rI)) (v:= sV bz bN bA) (a:=U) (c:=V) 0 dc rfl rfl rfl rfl (fun _=>rfl) rfl (fun _=>rfl) rfl rfl rfl underlying22 underlying22 underlying22 BV (CR type28) Fp rfl (by decide) (by decide) (by decide) (by decide) (b8.Ah ((bx.Ac ca).Ac cb)) ⟨_,_,rfl,c9⟩ da rfl fun eJ de df dg dh di=>?_;obtain⟨dj,dk,dl⟩:=bs dd;refine zg 5 rfl (Be dk rfl rfl rfl ?_);refine zg 2 rfl ?_;obtain rfl:=oi dl;exact Ay (cJ _ _ (db,dj) ⟨c8,de,df,dg,rfl,rfl,(((a7.Ac bx).Ac ca).Ac cb),di,dh⟩ bL) rfl
   ·intro dm;refine JL.block (CN c4 (fun L s am=>∃(a3:LH) (bi:An) (bn:Nat) (bo:Seg),Jn bM H a3 [al,bo] [(1,sV Z p1 ag),(3,pV a2 0),(7,sV a0 av a1),(8,sV U O.1 V),(9,iV O.2),(10,sV bi am.1 bn),(11,sV bd bb be),(12,iV am.2)] L s (OL 3 rI a3 bi bn bo am.1)) ⟨bM,(AZ cV),cQ.length,cW,rfl,rfl,Ar,c3,(cX.Ah bx)⟩ ?_);rintro _ _ am ⟨a3,bi,bn,bo,rfl,rfl,bB,cc,cd⟩ dn ⟨eK,bQ⟩ dp;have ce:=bQ;unfold Nq at ce;refine zg 5 rfl (Bh underlying68 rfl rfl rfl ?_);refine zg 2 rfl (AN ce (fun dq dr=>?_) (fun dq dt=>?_))
    ·obtain⟨bR,du,dv⟩:=bs dr;refine zg 7 rfl (Br (fun L s=>∃(bC:LH) (bD:An) (bE:Nat) (bF:Seg),Jn a3 H bC [al,bF] [(1,sV Z p1 ag),(3,pV a2 0),(7,sV a0 av a1),(8,sV U O.1 V),(9,iV O.2),(10,sV bD bR bE),(11,sV bd bb be),(12,iV am.2)] L s (OL 3 rI bC bD bE bF bR)) ?_ ?_)
     ·rintro _ _ ⟨bC,bD,bE,bF,rfl,rfl,dw,dx,dy⟩;obtain⟨dz,dA,dB⟩:=bs dv;refine zg 3 rfl (Be dA rfl rfl rfl ?_);refine zg 2 rfl ?_;obtain rfl:=oi dB;exact Ay (dp _ _ (bR,dz) ⟨bC,bD,bE,bF,rfl,rfl,(bB.Ac dw),dx,dy⟩ bQ) rfl
     ·intro dC;refine JL.block (CN du (fun L s K=>∃(a8:LH) (bp:An) (ap:Nat) (bq:Seg),Jn a3 H a8 [al,bq] [(1,sV Z p1 ag),(3,pV a2 0),(7,sV a0 av a1),(8,sV U O.1 V),(9,iV O.2),(10,sV bp K.1 ap),(11,sV bd bb be),(12,iV am.2),(13,iV K.2)] L s (OL 3 rI a8 bp ap bq K.1)) ⟨a3,bi,bn,bo,rfl,rfl,Ar,cc,cd⟩ ?_);rintro _ _ K ⟨a8,bp,ap,bq,rfl,rfl,bG,cf,bS⟩ dD ⟨eL,bT⟩ dE;have cg:=bT;unfold Lp at cg;refine zg 5 rfl (Bh underlying28 rfl rfl rfl ?_);obtain⟨ci,dF,dG⟩:=bs cg;refine zg 2 rfl (Et [] (fun L s=>∃(bH:LH),Jm a8 H bH [al,bq] [(1,sV Z p1 ag),(3,pV a2 0),(7,sV a0 av a1),(8,sV U O.1 V),(9,iV O.2),(10,sV bp K.1 ap),(11,sV bd bb be),(12,iV am.2),(13,iV K.2),(44,.bool ci)] L s) ?_ ?_)
      ·rintro _ _ ⟨bH,rfl,rfl,a9,a4⟩;refine JL.done (BF dG (fun dH dI=>?_) (fun dH dJ=>?_))
       ·obtain⟨ck,cm,dK⟩:=bs dI;refine zg 3 rfl ?_;obtain⟨a5,f193,_,rfl,rfl,rfl,dL⟩:=OL.Tv (bS.Ah a9) cm;refine Di 16 [a5] ⟨⟨1,_,rfl⟩,trivial⟩ a4 fun ht=>A2 ht rfl [0,1,2,3] rfl (Bx (v:= .pointer (some ⟨a5,(Int.toNat (K.2)*1),none⟩)) 4 ht rfl rfl (fun ρ h s' hs=>Jz cm underlying28 AU (h _ _ rfl) (h _ _ rfl)) ?_);refine Bx (v:=iV ck) 5 ht rfl rfl (fun ρ h s' hs=>Yl.load Bv (h _ _ rfl) (Iu 1 a4 rfl (by simp [A6]) hs (dL 0 _ rfl))) (Ch 6 ht rfl rfl ?_);obtain⟨dM,dN,dO⟩:=bs dK;refine Cv 7 (cw.Ah ((((a7.Ac bx).Ac bB).Ac bG).Ac a9)) dN ht underlying105 BS ?_;rintro dP dQ _ ⟨dR,dS,rfl,dT⟩ dU;refine JG.lp 8 ht 0 dU a4 ⟨⟨1,_,rfl⟩,trivial⟩ Ct ?_;refine Ch 9 ht rfl rfl ?_;obtain⟨dV,dW,dX⟩:=bs dO;refine Cv 10 dT dW ht underlying22 BV ?_;rintro dY dZ _ ⟨ea,eb,rfl,ec⟩ ed;refine JG.lp 11 ht 0 ed a4 ⟨⟨1,_,rfl⟩,trivial⟩ CQ ?_;refine Ch 12 ht rfl rfl ?_;obtain⟨ee,ef,eg⟩:=bs dX;refine Cv 13 ec ef ht underlying28 AU ?_;rintro eh ei _ rfl ej;refine JG.lp 14 ht 0 ej a4 ⟨⟨1,_,rfl⟩,trivial⟩ Bv ?_;obtain⟨Y,ek,el⟩:=bs eg;refine Bx 15 ht rfl rfl (fun ρ h s' hs=>MY (h _ _ rfl) (h _ _ rfl) ek) (Cg [16,17] ?_);obtain⟨eM,em,en⟩:=bs el;refine I4 1 (bS.Ah a9) em rfl rfl rfl rfl rfl rfl underlying28 AU ?_;rintro cn bU f222 _ eo rfl eN ep eq eO eP;refine JS.store (v:=iV Y) (off:=bU) 1 rfl rfl rfl a4 rfl rfl AU (by simp [Value.cells,CG]) eo (by have:=ep;simp only [Rp.n,rK,rN,rB,rP,rL] at this;show _+1≤_;omega) fun er=>?_;have et:=eq Y [iV Y] rfl;have bV:(K.1.set (Int.toNat K.2) Y).length=K.1.length:=List.length_set;refine Gi (L':= [(1,.slice Z p1.length ag),(3,pV a2 0),(7,.slice a0 av.length a1),(8,.slice U O.1.length V),(9,iV O.2),(10,.slice (AZ a5) ((K.1.set (Int.toNat K.2) Y)).length ap),(11,.slice bd bb.length be),(12,iV am.2),(13,iV K.2),(44,.bool ci),(47,.slice (AZ a5) ((K.1.set (Int.toNat K.2) Y)).length ap),(48,iV K.2),(49,.slice (AZ a5) ((K.1.set (Int.toNat K.2) Y)).length ap),(50,iV K.2),(51,.pointer (some ⟨a5,(Int.toNat (K.2)*1),none⟩)),(52,iV ck),(53,.slice a0 av.length a1),(54,pV dP dQ),(55,.slice dR dM.length dS),(56,iV am.2),(57,pV dY dZ),(58,.slice ea dV.length eb),(59,iV K.2),(60,pV eh ei),(61,iV ee),(62,iV Y),(63,pV cn bU)]) ⟨rfl,rfl,rfl,rfl,rfl,by rw [bV];rfl,rfl,rfl,rfl,rfl,by rw [bV];rfl,rfl,by rw [bV];rfl,rfl,rfl,rfl,rfl,rfl,rfl,rfl,rfl,rfl,rfl,rfl,rfl,rfl,rfl,trivial⟩ ?_;obtain⟨eu,ew,ex⟩:=bs en;refine zg 4 rfl (Be ew rfl rfl rfl ?_);refine zg 2 rfl ?_;obtain rfl:=oi ex;exact Ay (dE _ _ ((K.1.set (Int.toNat K.2) Y),eu) ⟨bH,(AZ a5),ap,[(cn,.cells (AX f222 bU [iV Y]) 3 (0,0))],rfl,rfl,(bG.Ac a9),er,et⟩ bT) rfl
       ·refine JL.exit rfl ?_;obtain rfl:=oi dJ;obtain rfl:=dD _ bT;exact Ay (dC _ _ ⟨bH,bp,ap,bq,rfl,rfl,(bG.Ac a9),a4,(bS.Ah a9)⟩) rfl
      ·intro co;refine D7 39 dF (fun ey ez=>?_) (fun ey eA=>?_)
       ·obtain⟨eQ,eB,eC⟩:=bs ez;refine zg 2 rfl (B9 (c1.Ah (bB.Ac bG)) eB underlying68 Ik ?_);rintro eR eS _ rfl eD;refine BW 0 eD (Dv underlying4) rfl rfl rfl (zg 1 rfl ?_);obtain rfl:=oi eC;exact Ay (co _ _ ⟨a8,rfl,rfl,Ar,cf⟩) rfl
       ·refine zg 5 rfl ?_;obtain rfl:=oi eA;exact Ay (co _ _ ⟨a8,rfl,rfl,Ar,cf⟩) rfl
    ·refine JL.exit rfl ?_;obtain rfl:=oi dt;obtain rfl:=dn _ bQ;exact Ay (dm _ _ ⟨a3,bi,bn,bo,rfl,rfl,bB,cc,cd⟩) rfl
  ·refine JL.exit rfl ?_;obtain rfl:=oi cN;obtain rfl:=cI _ bL;exact Ay (cH _ _ ⟨bw,U,V,al,rfl,rfl,a7,b7,b8⟩) rfl
def Nm(fuel:Nat)(U:(List (List Int)))(O:Int)(K:Int):Option (Bi Int ((Int)⊕(Unit))):= if K≤12 then((ix U K).bind fun V=> (ix V O).bind fun Y=> if 0<Y then(some (.done (Sum.inl O))) else((As (K+1)).bind fun Z=> some (.more Z))) else(some (.done (Sum.inr ())))
def M7(fuel:Nat)(p1:AI)(O:(List (List Int)))(K:Int):Option (Bi Int ((Int)⊕(Unit))):= if K≤(p1.length:Int) then(Option.bind (iter (Nm fuel O K) fuel 0) fun U=> Sum.elim (fun r=>some (.done (Sum.inl r))) (fun Y=> (As (K+1)).bind fun V=> some (.more V)) U) else(some (.done (Sum.inr ())))
def f95(fuel:Nat)(p0:A1)(p1:AI):Option Int:= (f79 fuel p0 p1 (-1)).bind fun K=> Option.bind (iter (M7 fuel p1 K) fuel 0) fun O=> Sum.elim (fun r=>some r) (fun U=> some (-1)) O
theorem aM{a2:An}{c2:Nat}{a3:An}{a4:Nat}{K:An}{O:Nat}{p0:A1}{p1:AI}(bx:Al (rL rI) E a2 c2 p0.1)(bz:Al (rL rI) E a3 a4 p0.2)(bA:Al Bp E K O p1){fuel:Nat}{r:Int}(a5:f95 fuel p0 p1=some r):AL J 95 [.agg #[sV a2 p0.1 c2,sV a3 p0.2 a4],sV K p1 O] E [] (fun w E' B'=>w=iV r∧B'= []):=by
 refine A4 func95 fun Q cq cs H bB a6=>?_;unfold f95 at a5;refine zg 2 rfl (B4 bB fun cr ct U bC bD=>?_);refine zg 4 rfl (BQ bC BY BC rfl rfl ?_);obtain⟨am,bE,bF⟩:=bs a5;refine zg 1 rfl (BL (Pm (bx.Ah U) (bz.Ah U) (bA.Ah U) bE) rfl rfl N9 bD ?_);rintro _ bG _ a7 ⟨ap,av,rfl,rfl,bH⟩ bI;obtain⟨a8,bJ,a9⟩:=bs bF;refine zg 7 rfl (Br (fun L s=>∃(bb:Unit) (bd:LH),a8=Sum.inr bb∧Jm bG H bd [] [] L s) ?_ ?_)
 ·rintro _ _ ⟨bb,bd,rfl,rfl,rfl,bK,bL⟩;have bM:=elim_inr a9;refine zg 4 rfl ?_;obtain rfl:=oi bM;exact AD func95 rfl rfl (a6 ((U.Ac a7).Ac bK) rfl ⟨rfl,rfl⟩ bL)
 ·intro bN;refine JL.block (Cy bJ (fun V=> []) (fun V=> [(1,sV K p1 O),(5,sV ap am av),(6,iV V)]) Ar bI ?_);rintro V be Y bi bn ⟨cu,Z⟩ bO;have bo:=Z;unfold M7 at bo;refine zg 5 rfl (Bh underlying25 rfl rfl rfl ?_);refine zg 2 rfl (AN bo (fun bP bQ=>?_) (fun bP bR=>?_))
  ·obtain⟨bp,bS,bq⟩:=bs bQ;refine zg 7 rfl (Br (fun L s=>∃(br:Unit) (bu:LH),bp=Sum.inr br∧Jm be H bu [] [(1,sV K p1 O),(5,sV ap am av),(6,iV V)] L s) ?_ ?_)
   ·rintro _ _ ⟨br,bu,rfl,rfl,rfl,bT,bU⟩;have bV:=elim_inr bq;obtain⟨bW,bY,bZ⟩:=bs bV;refine zg 3 rfl (Be bY rfl rfl rfl ?_);refine zg 2 rfl ?_;obtain rfl:=oi bZ;exact bO bW (Y.Ac bT) bU rfl Z
   ·intro b0;refine JL.block (Cy bS (fun a0=> []) (fun a0=> [(1,sV K p1 O),(5,sV ap am av),(6,iV V),(7,iV a0)]) Ar bi ?_);rintro a0 b1 ag a1 bv ⟨cv,al⟩ b2;have bw:=al;unfold Nm at bw;refine zg 6 rfl (AN bw (fun b3 b4=>?_) (fun b3 b5=>?_))
    ·obtain⟨cw,b6,b7⟩:=bs b4;refine zg 7 rfl (B9 (bH.Ah (Y.Ac ag)) b6 underlying22 BV ?_);rintro cy cz _ ⟨cA,cB,rfl,b8⟩ b9;refine BW 0 b9 CQ rfl rfl rfl ?_;obtain⟨cC,ca,cb⟩:=bs b7;refine zg 1 rfl (B9 b8 ca underlying28 AU ?_);rintro cD cE _ rfl cc;refine BW 0 cc Bv rfl rfl rfl (zg 2 rfl ?_);refine AN cb (fun cd ce=>?_) (fun cd cf=>?_)
     ·refine zg 5 rfl ?_;obtain rfl:=oi ce;obtain rfl:=bv _ al;have cg:=elim_inl bq;obtain rfl:=oi cg;obtain rfl:=bn _ Z;have ci:=elim_inl a9;obtain rfl:=oi ci;exact AD func95 rfl rfl (a6 (((U.Ac a7).Ac Y).Ac ag) rfl ⟨rfl,rfl⟩ a1)
     ·obtain⟨ck,cm,cn⟩:=bs cf;refine zg 4 rfl (Be cm rfl rfl rfl ?_);refine zg 2 rfl ?_;obtain rfl:=oi cn;exact b2 ck ag a1 rfl al
    ·refine JL.exit rfl ?_;obtain rfl:=oi b5;have co:bp=(Sum.inr ()):=(bv _ al).symm;exact Ay (b0 _ _ ⟨(),b1,co,rfl,rfl,ag,a1⟩) rfl
  ·refine JL.exit rfl ?_;obtain rfl:=oi bR;have cp:a8=(Sum.inr ()):=(bn _ Z).symm;exact Ay (bN _ _ ⟨(),be,cp,rfl,rfl,Y,bi⟩) rfl
def f48(fuel:Nat)(p0:A1)(p1:AI):Option (Int×Int):= (f70 fuel p0 p1).bind fun K=> if K≠0 then(some (0,K)) else((f95 fuel p0 p1).bind fun O=> if O<0 then(some (0,11)) else(some (O,0)))
theorem aj{V:An}{c2:Nat}{Y:An}{Z:Nat}{ag:An}{al:Nat}{p0:A1}{p1:AI}(am:Al (rL rI) E V c2 p0.1)(ap:Al (rL rI) E Y Z p0.2)(av:Al Bp E ag al p1){fuel:Nat}{r:Int×Int}(a0:f48 fuel p0 p1=some r):AL J 48 [.agg #[sV V p0.1 c2,sV Y p0.2 Z],sV ag p1 al] E [] (fun w E' B'=>w= .tuple #[iV r.1,iV r.2]∧B'= []):=by
 refine A4 func48 fun Q bq cs H a5 U=>?_;unfold f48 at a0;refine zg 2 rfl (B4 a5 fun br bu K a1 a6=>?_);refine zg 6 rfl (BQ a1 BY BC rfl rfl ?_);obtain⟨bv,a7,a8⟩:=bs a0;refine zg 1 rfl (BD (Tb (am.Ah K) (ap.Ah K) (av.Ah K) a7) rfl rfl (AR func70 rfl) a6 fun bw O a2=>?_);refine zg 7 rfl (AN a8 (fun a9 bb=>?_) (fun a9 bd=>?_))
 ·refine zg 6 rfl ?_;obtain rfl:=oi bb;exact AD func48 rfl rfl (U (K.Ac O) rfl ⟨rfl,rfl⟩ a2)
 ·refine zg 3 rfl (BQ (a1.Ah O) BY BC rfl rfl ?_);obtain⟨bx,be,bi⟩:=bs bd;refine zg 1 rfl (BD (aM (am.Ah (K.Ac O)) (ap.Ah (K.Ac O)) (av.Ah (K.Ac O)) be) rfl rfl (AR func95 rfl) a2 fun bz a3 a4=>?_);refine zg 8 rfl (AN bi (fun bn bo=>?_) (fun bn bp=>?_))
  ·refine zg 5 rfl ?_;obtain rfl:=oi bo;exact AD func48 rfl rfl (U ((K.Ac O).Ac a3) rfl ⟨rfl,rfl⟩ a4)
  ·refine zg 7 rfl ?_;obtain rfl:=oi bp;exact AD func48 rfl rfl (U ((K.Ac O).Ac a3) rfl ⟨rfl,rfl⟩ a4)
def f62(fuel:Nat)(p0:A1)(p1:AI):Option ((Int×Int)×Int):= (f48 fuel p0 p1).bind fun K=> if K.2≠0 then(some ((0,0),K.2)) else((f79 fuel p0 p1 (-1)).bind fun U=> (f81 fuel U K.1 K.1).bind fun O=> (ix O (0)).bind fun V=> (As ((O.length:Int) - 1)).bind fun Y=> (ix O Y).bind fun Z=> some ((V,Z),0))
theorem Ta{Y:An}{c2:Nat}{Z:An}{ag:Nat}{al:An}{am:Nat}{p0:A1}{p1:AI}(ap:Al (rL rI) E Y c2 p0.1)(av:Al (rL rI) E Z ag p0.2)(a0:Al Bp E al am p1){fuel:Nat}{r:(Int×Int)×Int}(a1:f62 fuel p0 p1=some r):AL J 62 [.agg #[sV Y p0.1 c2,sV Z p0.2 ag],sV al p1 am] E [] (fun w E' B'=>w= .tuple #[.agg #[iV r.1.1,iV r.1.2],iV r.2]∧B'= []):=by
 refine A4 func62 fun Q bM cs H a9 a2=>?_;unfold f62 at a1;refine zg 2 rfl (B4 a9 fun bN bO K a3 bb=>?_);refine Cz bb HM fun bP bd=>?_;refine zg 4 rfl (BQ a3 BY BC rfl rfl ?_);obtain⟨a4,be,bi⟩:=bs a1;refine zg 1 rfl (BD (aj (ap.Ah K) (av.Ah K) (a0.Ah K) be) rfl rfl (AR func48 rfl) bd fun bQ O a5=>?_);refine zg 12 rfl (AN bi (fun bn bo=>?_) (fun bn bp=>?_))
 ·refine zg 2 rfl (AB (v:= .agg #[iV 0,iV 0]) rfl (fun ρ h=>CY [(0,1),(1,1)] h HM underlying81 ⟨rfl,Bo type3,rfl,Bo type3,trivial⟩ rfl rfl) ?_);refine zg 1 rfl (BM 2 a5 Ge fun a6=>?_);refine zg 2 rfl ?_;obtain rfl:=oi bo;refine JL.ret (v:= .tuple #[.agg #[iV 0,iV 0],iV a4.2]) rfl rfl (Cd.list func62 rfl (vs:= [.agg #[iV 0,iV 0],iV a4.2]) ⟨⟨_,rfl,Ld.many (vs:= [iV 0,iV 0]) Jo Ge (ED (off:=0) 2 a6 rfl rfl)⟩,rfl,trivial⟩) (Gx 2 a6 rfl fun bq=>?_);exact a2 (K.Ac O) rfl ⟨rfl,rfl⟩ bq
 ·refine zg 3 rfl (BQ (a3.Ah O) BY BC rfl rfl ?_);obtain⟨bR,br,bu⟩:=bs bp;refine zg 1 rfl (BL (Pm (ap.Ah (K.Ac O)) (av.Ah (K.Ac O)) (a0.Ah (K.Ac O)) br) rfl rfl N9 a5 ?_);rintro _ bS _ bv ⟨bT,bU,rfl,rfl,bw⟩ bx;obtain⟨bV,bz,bA⟩:=bs bu;refine zg 2 rfl (BL (S7 bw bz) rfl rfl (AR func81 rfl) bx ?_);rintro _ bW _ bB ⟨bY,bZ,rfl,rfl,a7⟩ bC;refine zg 3 rfl (CZ 9 fun ht=>?_);refine Ch 0 ht rfl rfl ?_;obtain⟨U,bD,bE⟩:=bs bA;refine Cv 1 a7 bD ht underlying28 AU ?_;rintro b0 b1 _ rfl bF;refine Co 2 ht 0 bF Bv rfl rfl rfl rfl (A2 ht rfl [3,4] rfl ?_);refine Bx 5 ht rfl rfl (fun ρ h s' hs=>Yl.len rfl underlying28 (h _ _ rfl)) ?_;obtain⟨b2,bG,bH⟩:=bs bE;refine Bx 6 ht rfl rfl (fun ρ h s' hs=>C5 (h _ _ rfl) (h _ _ rfl) bG) ?_;obtain⟨V,bI,bJ⟩:=bs bH;refine Cv 7 a7 bI ht underlying28 AU ?_;rintro b3 b4 _ rfl bK;refine Co 8 ht 0 bK Bv rfl rfl rfl rfl (Cg [9,10,11] ?_);refine AB (v:= .agg #[iV U,iV V]) rfl (fun ρ h=>CY [(0,1),(1,1)] h HM underlying81 ⟨rfl,Bo type3,rfl,Bo type3,trivial⟩ rfl rfl) (BM 2 bC Ge fun a8=>?_);refine zg 2 rfl ?_;obtain rfl:=oi bJ;refine JL.ret (v:= .tuple #[.agg #[iV U,iV V],iV 0]) rfl rfl (Cd.list func62 rfl (vs:= [.agg #[iV U,iV V],iV 0]) ⟨⟨_,rfl,Ld.many (vs:= [iV U,iV V]) Jo Ge (ED (off:=0) 2 a8 rfl rfl)⟩,rfl,trivial⟩) (Gx 2 a8 rfl fun bL=>?_);exact a2 (((K.Ac O).Ac bv).Ac bB) rfl ⟨rfl,rfl⟩ bL
def f63(fuel:Nat)(p0:A1)(p1:AI)(p2:Int):Option ((List Int)×Int):= (f70 fuel p0 p1).bind fun K=> if K≠0 then(some ([],K)) else((f104 fuel p2 0 4).bind fun U=> if(!U)=true then(some ([],1)) else((f79 fuel p0 p1 (-1)).bind fun V=> (f81 fuel V 0 p2).bind fun O=> if(O.length:Int)=0 then(some ([],11)) else(some (O,0))))
theorem aY{Y:An}{c2:Nat}{Z:An}{ag:Nat}{al:An}{am:Nat}{p0:A1}{p1:AI}{p2:Int}(ap:Al (rL rI) E Y c2 p0.1)(av:Al (rL rI) E Z ag p0.2)(a0:Al Bp E al am p1){fuel:Nat}{r:(List Int)×Int}(a1:f63 fuel p0 p1 p2=some r):AL J 63 [.agg #[sV Y p0.1 c2,sV Z p0.2 ag],sV al p1 am,iV p2] E [] (fun w E' B'=>∃(a2:An) (a3:Nat),w= .tuple #[sV a2 r.1 a3,iV r.2]∧B'= []∧Al rI E' a2 a3 r.1):=by
 refine A4 func63 fun Q bL cs H bb V=>?_;unfold f63 at a1;refine zg 2 rfl (B4 bb fun bM bN K a4 bd=>?_);refine zg 6 rfl (BQ a4 BY BC rfl rfl ?_);obtain⟨bO,be,bi⟩:=bs a1;refine zg 1 rfl (BD (Tb (ap.Ah K) (av.Ah K) (a0.Ah K) be) rfl rfl (AR func70 rfl) bd fun bP O a5=>?_);refine zg 7 rfl (AN bi (fun bn bo=>?_) (fun bn bp=>?_))
 ·refine zg 6 rfl ?_;obtain rfl:=oi bo;exact AD func63 rfl rfl (V (K.Ac O) rfl ⟨none,0,rfl,rfl,Al.nil⟩ a5)
 ·obtain⟨bq,br,bu⟩:=bs bp;refine zg 5 rfl (BD (Lc br) rfl rfl Kl a5 fun bQ U a6=>?_);refine AB (v:= .bool (!bq)) rfl (fun ρ h=>Yl.not (h _ _ rfl)) (JL.done ?_);refine BF bu (fun bv bw=>?_) (fun bv bx=>?_)
  ·refine zg 5 rfl ?_;obtain rfl:=oi bw;exact AD func63 rfl rfl (V ((K.Ac O).Ac U) rfl ⟨none,0,rfl,rfl,Al.nil⟩ a6)
  ·refine zg 3 rfl (BQ (a4.Ah (O.Ac U)) BY BC rfl rfl ?_);obtain⟨bR,bz,bA⟩:=bs bx;refine zg 1 rfl (BL (Pm (ap.Ah ((K.Ac O).Ac U)) (av.Ah ((K.Ac O).Ac U)) (a0.Ah ((K.Ac O).Ac U)) bz) rfl rfl N9 a6 ?_);rintro _ bS _ a7 ⟨bT,bU,rfl,rfl,bB⟩ bC;obtain⟨bV,bD,bE⟩:=bs bA;refine zg 1 rfl (BL (S7 bB bD) rfl rfl (AR func81 rfl) bC ?_);rintro _ bW _ a8 ⟨bF,bG,rfl,rfl,bH⟩ a9;refine zg 6 rfl (Bh underlying28 rfl rfl rfl ?_);refine zg 2 rfl (AN bE (fun bI bJ=>?_) (fun bI bK=>?_))
   ·refine zg 5 rfl ?_;obtain rfl:=oi bJ;exact AD func63 rfl rfl (V ((((K.Ac O).Ac U).Ac a7).Ac a8) rfl ⟨none,0,rfl,rfl,Al.nil⟩ a9)
   ·refine zg 7 rfl ?_;obtain rfl:=oi bK;exact AD func63 rfl rfl (V ((((K.Ac O).Ac U).Ac a7).Ac a8) rfl ⟨bF,bG,rfl,rfl,bH⟩ a9)
end Pal
namespace Pal
theorem Yp{F n:Nat}{lk:Bb}(O:B8 n lk):f117 F lk=some ((CU lk:Nat):Int):=by
 have U:=O.len;refine CE ?_;unfold f117 CU;refine Bn (fun h=>?_) (fun h=>?_)
 ·have:lk= []:=List.length_eq_zero_iff.1 (by omega);subst this;exact Ak rfl
 ·have K:lk.length - 1<lk.length:=by omega
  refine AW ((lk.length - 1:Nat):Int) (by omega) (by omega) (by omega) (Bl (m:=lk.length - 1) rfl K ?_);rw [List.getLast?_eq_getElem?,List.getElem?_eq_getElem K];have:=O.yr _ (List.getElem_mem K);refine Ak ?_;simp only;omega
theorem Xh{F:Nat}{l:List Int}{x:Int}(O:100<F)(U:l.length<100):f137 F l x=some (decide (x∈l)):=by
 refine CE ?_;unfold f137;refine AE (S:=fun q=>(q=Sum.inl true∧x∈l)∨(q=Sum.inr ()∧x ∉ l)) ?_ ?_
 ·refine Cl l.length (fun i s=>s=(i:Int)∧x ∉ l.take i) ⟨rfl,by simp⟩ (by omega) ?_ ?_
  ·rintro i s hi ⟨rfl,K⟩;unfold MX;refine Bs (by omega) (Bl (m:=i) rfl hi ?_);refine Bn (fun h=>?_) (fun h=>?_)
   ·exact Ak (.inl ⟨rfl,h▸List.getElem_mem hi⟩)
   ·refine AW ((i+1:Nat):Int) (by simp) (by omega) (by omega) (Ak ⟨rfl,?_⟩);rw [List.take_add_one,List.getElem?_eq_getElem hi];simp only [Option.toList_some,List.mem_append,List.mem_singleton,not_or];exact⟨K,fun e=>h e.symm⟩
  ·rintro s ⟨rfl,K⟩;unfold MX;rw [List.take_length] at K;exact A5 (by omega) (Ak ⟨_,rfl,.inr ⟨rfl,K⟩⟩)
 ·rintro q (⟨rfl,h⟩ | ⟨rfl,h⟩)
  ·exact Ak (decide_eq_true h).symm
  ·exact Ak (decide_eq_false h).symm
theorem Wp:∀k,k<16→Dj (1<<<k)=1:=by decide
def PO(h:Int)(q:Nat):Prop:=(h= -1∧q=16)∨(h=(q:Int)∧q<8)
theorem Xa(lk:Bb)(y:Nat)(m:Int)(k:Nat):∀i,(BT lk y m k).testBit i=true→i<k:=fun i h=>((HS lk y m i k).1 h).1
def Jg(J:JW)(lk:Bb)(q y:Nat)(m:Int)(k:Nat):Prop:=(∀l∈lk.take k,l.1=(y:Int)→Fe J m l=true)∧(BT lk y m k).testBit q=false
theorem Yu{F n m y q:Nat}{J:JW}{lk:Bb}{h:Int}(a6:100<F)(al:VJ n J)(a7:B8 n lk)(hm:m<n)(a1:PO h q):
  f118 F J lk h (y:Int) (m:Int)=some (match Ek J lk q y (m:Int) with | some c=>(c:Int) | none=>100):=by
 have bw:=a7.len;refine CE ?_;unfold f118;refine AE (S:=fun r=>(∃c:Nat,r=Sum.inr (c:Int)∧Ek J lk q y (m:Int)=some c)∨(r=Sum.inl 100∧Ek J lk q y (m:Int)=none)) ?_ ?_
 ·refine Cl lk.length (fun i s=>s=(((Dj (BT lk y (m:Int) i):Nat):Int),(i:Int))∧Jg J lk q y (m:Int) i) ⟨by simp [BT,show Dj 0=0 by decide],by simp,by simp [BT]⟩ (by omega) ?_ ?_
  ·rintro i s hi ⟨rfl,V,Y⟩;unfold MM;have bx:Dj (BT lk y (m:Int) i)≤16:=Mt _;have a8:Ek J lk q y (m:Int)≠none→Jg J lk q y (m:Int) (i+1):=fun am=>by
    unfold Ek at am;split at am
    ·rename_i hh;refine⟨fun l O=>OH.1 hh.1 l (List.mem_of_mem_take O),?_⟩;cases hb:(BT lk y (m:Int) (i+1)).testBit q with
     | false=>rfl
     | true=>
      obtain⟨bz,l,g2,a9,bb⟩:=(HS _ _ _ _ _).1 hb;have:=(HS lk y (m:Int) q lk.length).2 ⟨by omega,l,g2,a9,bb⟩;rw [hh.2] at this;cases this
    ·exact absurd rfl am
   refine Bs (by simp only;omega) ?_;have next:∀(c:Int),c=((Dj (BT lk y (m:Int) (i+1)):Nat):Int)→Jg J lk q y (m:Int) (i+1)→A0 ((As ((i:Int)+1)).bind fun x=>some (Bi.more (A:=Int⊕Int) (c,x))) (Bi.sat (fun s=>s=(((Dj (BT lk y (m:Int) (i+1)):Nat):Int),((i+1:Nat):Int))∧Jg J lk q y (m:Int) (i+1)) fun r=>(∃c:Nat,r=Sum.inr (c:Int)∧Ek J lk q y (m:Int)=some c)∨(r=Sum.inl 100∧Ek J lk q y (m:Int)=none)):=fun c bd be=>by
    exact AW ((i+1:Nat):Int) (by simp) (by omega) (by omega) (Ak ⟨by rw [bd],be⟩)
   have U:BT lk y (m:Int) (i+1)=if lk[i].1=(y:Int)∧(m:Int)≠lk[i].2 then BT lk y (m:Int) i ||| 1<<<i else BT lk y (m:Int) i:=by
    rw [BT,List.getElem?_eq_getElem hi]
   have a2:∀l∈lk.take (i+1),l∈lk.take i∨l=lk[i]:=fun l O=>by
    rw [List.take_add_one,List.getElem?_eq_getElem hi] at O;simp only [Option.toList_some,List.mem_append,List.mem_singleton] at O;exact O
   by_cases K:lk[i].1=(y:Int)∧(m:Int)≠lk[i].2
   ·rw [if_pos K] at U;refine AE (S:=fun r=>(r=Sum.inl 100∧¬Jg J lk q y (m:Int) (i+1))∨(r=Sum.inr ((Dj (BT lk y (m:Int) (i+1)):Nat):Int)∧Jg J lk q y (m:Int) (i+1))) ?_ ?_
    ·refine Bl (m:=i) rfl hi (AE (S:=fun b=>b=false) ?_ ?_)
     ·exact A5 (by simp [K.1]) (Ak (decide_eq_false fun e=>K.2 e.symm))
     ·rintro b rfl;refine A5 (by simp) ?_;have bi:(BT lk y (m:Int) (i+1)).testBit i=true:=(HS _ _ _ _ _).2 ⟨by omega,lk[i],List.getElem?_eq_getElem hi,K.1,K.2⟩;have bn:Dj (BT lk y (m:Int) (i+1))=Dj (BT lk y (m:Int) i)+1:=by
       rw [U,OO,Wp i (by omega)];rintro j ⟨bo,bp⟩;have:=Xa _ _ _ _ _ bo;rw [Nat.one_shiftLeft,Nat.testBit_two_pow,decide_eq_true_iff] at bp;omega
      by_cases hh:(i:Int)=h
      ·refine AE (S:=fun b=>b=true) (Bs hh (Ak rfl)) ?_;rintro b rfl;refine Bs rfl (Ak (.inl ⟨rfl,fun ap=>?_⟩));have:q=i:=by rcases a1 with⟨g,_⟩ | ⟨g,_⟩ <;> omega
       have a3:=ap.2;rw [this,bi] at a3;cases a3
      ·have bq:(BT lk y (m:Int) (i+1)).testBit q=false:=by
        rw [U,Nat.testBit_or,Y,Nat.one_shiftLeft,Nat.testBit_two_pow];simp only [Bool.false_or,decide_eq_false_iff_not];intro e;rcases a1 with⟨_,g⟩ | ⟨g,_⟩
        ·omega
        ·exact hh (by omega)
       have ap:=Ej (d:=([]:List Int)) (l:=J.2) (i:=m) (by have:=al.l2;omega);have bA:=(al.PM m).len;refine AE (S:=fun b=>b= !decide (lk[i].2∈J.2.getD m [])) ?_ ?_
       ·refine A5 hh (Bl (m:=m) rfl (by have:=al.l2;omega) ?_);rw [← ap];exact AM (Xh a6 (by omega)) (Ak rfl)
       ·rintro b rfl;have a4:Fe J (m:Int) lk[i]=decide (lk[i].2∈J.2.getD m []):=by
         unfold Fe;rw [decide_eq_false K.2];simp
        by_cases Z:lk[i].2∈J.2.getD m []
        ·refine A5 (by rw [decide_eq_true Z];simp) (AW ((Dj (BT lk y (m:Int) i)+1:Nat):Int) (by simp) (by omega) (by omega) ?_);refine Ak (.inr ⟨by rw [bn],fun l O ag=>?_,bq⟩);rcases a2 l O with av | rfl
         ·exact V l av ag
         ·rw [a4];exact decide_eq_true Z
        ·refine Bs (by rw [decide_eq_false Z];rfl) (Ak (.inl ⟨rfl,fun br=>?_⟩));have:=br.1 lk[i] (by rw [List.take_add_one,List.getElem?_eq_getElem hi];simp only [Option.toList_some,List.mem_append,List.mem_singleton];exact .inr trivial) K.1;rw [a4] at this;exact Z (of_decide_eq_true this)
    ·rintro r (⟨rfl,a0⟩ | ⟨rfl,a0⟩)
     ·rw [Sum.elim_inl];refine Ak (.inr ⟨rfl,?_⟩);cases e:Ek J lk q y (m:Int) with
      | none=>rfl
      | some c=>exact absurd (a8 (by rw [e];simp)) a0
     ·rw [Sum.elim_inr];exact next _ rfl a0
   ·rw [if_neg K] at U;have bu:Jg J lk q y (m:Int) (i+1):=⟨fun l O ag=>by
     rcases a2 l O with av | rfl
     ·exact V l av ag
     ·unfold Fe
      by_cases e:(m:Int)=lk[i].2
      ·rw [decide_eq_true e];rfl
      ·exact absurd ⟨ag,e⟩ K,by rw [U];exact Y⟩
    refine AM (b:=Sum.inr ((Dj (BT lk y (m:Int) i):Nat):Int)) ?_ (by rw [Sum.elim_inr];exact next _ (by rw [U]) bu)
    refine CE (Bl (m:=i) rfl hi ?_);refine AE (S:=fun b=>b=true) ?_ (by rintro b rfl;exact Bs rfl (Ak rfl));refine Bn (fun _=>Ak rfl) (fun e=>Ak (decide_eq_true ?_));have bv:lk[i].1=(y:Int):=by simpa using e
    by_cases a5:(m:Int)=lk[i].2
    ·exact a5.symm
    ·exact absurd ⟨bv,a5⟩ K
  ·rintro s ⟨rfl,V,Y⟩;unfold MM;refine A5 (by simp) (Ak ⟨_,rfl,.inl ⟨_,rfl,?_⟩⟩);rw [List.take_length] at V;unfold Ek;rw [if_pos ⟨OH.2 V,Y⟩]
 ·rintro r (⟨c,rfl,h⟩ | ⟨rfl,h⟩)
  ·rw [h];exact Ak rfl
  ·rw [h];exact Ak rfl
end Pal
namespace Pal
theorem JX{α:Type}{f:Nat→α}{N i:Nat}(h:i<N):((List.range N).map f)[i]? =some (f i):=by simp [h]
theorem Lj{α:Type}{f:Nat→α}{N:Nat}(i:Nat)(v:α):((List.range N).map f).set i v=(List.range N).map (fun j=>if j=i then v else f j):=by
 apply List.ext_getElem?;intro j;by_cases K:j<N
 ·by_cases e:i=j
  ·subst e;rw [List.getElem?_set_self (by simpa using K),JX K,if_pos rfl]
  ·rw [List.getElem?_set_ne e,JX K,JX K,if_neg (fun h=>e h.symm)]
 ·rw [List.getElem?_eq_none (by simpa using K),List.getElem?_eq_none (by simpa using K)]
theorem FK{α:Type}{f g:Nat→α}{N:Nat}(h:∀i,i<N→f i=g i):(List.range N).map f=(List.range N).map g:=List.map_congr_left fun i hi=>h i (List.mem_range.1 hi)
theorem Ny{α:Type}{z:α}{N:Nat}:List.replicate N z=(List.range N).map fun _=>z:=by
 apply List.ext_getElem?;intro j;by_cases K:j<N
 ·rw [JX K,List.getElem?_replicate,if_pos K]
 ·rw [List.getElem?_eq_none (by simpa using K),List.getElem?_eq_none (by simpa using K)]
theorem EZ{α β:Type}{Q:α→Prop}{f:β→Option α}{g:Nat→β}{N i:Nat}{j:Int}(h:j=(i:Int))(hi:i<N)(k:A0 (f (g i)) Q):A0 ((ix ((List.range N).map g) j).bind f) Q:=AM (D6 h (JX hi)) k
def NS(J:JW)(lk:Bb)(q d y:Nat)(m:Int):List Int:=(List.range (lk.length+1)).map fun k=>((ways J lk q d y m k:Nat):Int)
def WR(J:JW)(lk:Bb)(q d y:Nat):List (List Int):=(List.range J.1.length).map fun(m:Nat)=>NS J lk q d y (m:Int)
def H9(J:JW)(lk:Bb)(q t:Nat):List (List (List Int)):=(List.range (CU lk+1)).map fun j=>if j<t then [] else WR J lk q (CU lk - j) j
def GH(J:JW)(lk:Bb)(q d y:Nat)(m:Int)(t:Nat):List Int:=(List.range (lk.length+1)).map fun k=>if k<t then((ways J lk q d y m k:Nat):Int) else 0
theorem WS{J:JW}{lk:Bb}{q d y c k:Nat}{m:Int}(h:Ek J lk q y m=some c)(K:k<c):ways J lk q d y m k=0:=by
 cases d with
 | zero=>unfold ways;rw [h];simp only;rw [if_neg (by omega)]
 | succ d=>unfold ways;rw [h];simp only;rw [if_neg (by omega)]
theorem WV{J:JW}{lk:Bb}{q d y k:Nat}{m:Int}(h:Ek J lk q y m=none):ways J lk q d y m k=0:=by
 cases d with
 | zero=>unfold ways;rw [h]
 | succ d=>unfold ways;rw [h]
theorem Zv{J:JW}{lk:Bb}{q d y c:Nat}{m:Int}(h:Ek J lk q y m=some c):List.replicate (lk.length+1) (0:Int)=GH J lk q d y m c:=by
 rw [Ny];refine FK fun i _=>?_;split
 ·rename_i hi;rw [WS h hi];rfl
 ·rfl
theorem VN{J:JW}{lk:Bb}{q d y t:Nat}{m:Int}(h:lk.length<t):GH J lk q d y m t=NS J lk q d y m:=FK fun i hi=>if_pos (by omega)
theorem bc{d:Nat}(h:d≤6):3 ^ d≤729:=Nat.le_trans (Nat.pow_le_pow_right (by omega) h) (by decide)
theorem OK{n q d y k:Nat}{J:JW}{lk:Bb}{m:Int}(K:VJ n J)(O:d≤6):ways J lk q d y m k≤729:=Nat.le_trans (RN K d y m k) (bc O)
theorem Vn{F n q y m c k d:Nat}{J:JW}{lk:Bb}{cur:List (List Int)×Int}{st:List Int×Int}(a6:100<F)(Y:VJ n J)(ag:B8 n lk)(hm:m<n)(a7:y+(d+1)=CU lk)(a8:k≤lk.length)(a2:c≤k)(a3:Ek J lk q y (m:Int)=some c)(al:cur.2=(m:Int))(am:st.2=(k:Int)):
  iter (Lb F J (H9 J lk q (y+1),(y:Int)) cur (c:Int) st) F (GH J lk q (d+1) y (m:Int) k,0)=some (GH J lk q (d+1) y (m:Int) (k+1)):=by
 have a9:=Y.l1;have bb:=ag.len;have bd:=It ag;have K:=Y.FR m;have be:=K.len;have O:m<J.1.length:=by omega
 have Z:J.1.getD m []=J.1[m]:=Ej O;have ap:∀i,((((J.1.getD m []).take i).map fun x=>ways J lk q d (y+1) x (k - c)).sum)≤3*729:=fun i=>by
  refine Nat.le_trans (O4 (b:=729) fun z a4=>?_) ?_
  ·obtain⟨x,_,rfl⟩:=List.mem_map.1 a4;exact OK Y (by omega)
  ·rw [List.length_map,List.length_take];exact Nat.mul_le_mul_right _ (by have:=K.len;omega)
 have U:∀v:Int,(GH J lk q (d+1) y (m:Int) k).set k v=(List.range (lk.length+1)).map fun j=>if j=k then v else if j<k then((ways J lk q (d+1) y (m:Int) j:Nat):Int) else 0:=fun v=>Lj k v
 refine CE (Cl (J.1.getD m []).length (fun i s=>s=((GH J lk q (d+1) y (m:Int) k).set k ((((((J.1.getD m []).take i).map fun x=>ways J lk q d (y+1) x (k - c)).sum:Nat)):Int),(i:Int))) ?_ (by have:=K.len;omega) ?_ ?_)
 ·rw [U];refine Prod.ext (FK fun j av=>?_) rfl;by_cases e:j=k
  ·subst e;simp
  ·rw [if_neg e]
 ·rintro i s hi rfl;unfold Lb;simp only [al,am];have bi:=K.inr _ (List.getElem_mem hi);obtain⟨V,a0⟩:∃V:Nat,(J.1.getD m [])[i]=(V:Int):=⟨((J.1.getD m [])[i]).toNat,by omega⟩;have bn:=ap i;have bo:=ap (i+1);have a5:(((J.1.getD m []).take (i+1)).map fun x=>ways J lk q d (y+1) x (k - c)).sum=(((J.1.getD m []).take i).map fun x=>ways J lk q d (y+1) x (k - c)).sum+ways J lk q d (y+1) (V:Int) (k - c):=by
   rw [List.take_add_one,List.getElem?_eq_getElem hi,a0];simp
  refine Bl (m:=m) rfl O ?_;rw [← Z];refine Bs (by omega) ?_;rw [U];refine EZ (i:=k) rfl (by omega) ?_;rw [if_pos rfl];refine AW ((y+1:Nat):Int) (by simp) (by omega) (by omega) (EZ (i:=y+1) rfl (by omega) ?_);rw [if_neg (by omega)];refine Bl (m:=m) rfl O ?_;rw [← Z];refine Bl (m:=i) rfl hi ?_;rw [a0];refine EZ (i:=V) rfl (by omega) (AW ((k - c:Nat):Int) (by omega) (by omega) (by omega) ?_);refine EZ (i:=k - c) rfl (by omega) ?_;rw [show CU lk - (y+1)=d by omega];refine AW ((((((J.1.getD m []).take (i+1)).map fun x=>ways J lk q d (y+1) x (k - c)).sum:Nat)):Int) (by rw [a5];simp only [Int.natCast_add]) (by omega) (by omega) (EZ (i:=k) rfl (by omega) ?_);refine AW ((i+1:Nat):Int) (by simp) (by omega) (by omega) (Ak (Prod.ext ?_ rfl));simp only;rw [show Int.toNat (k:Int)=k by omega,Lj,U];refine FK fun j av=>?_;by_cases e:j=k
  ·rw [if_pos e,if_pos e]
  ·rw [if_neg e,if_neg e,if_neg e]
 ·rintro s rfl;unfold Lb;simp only [al,am];refine Bl (m:=m) rfl O ?_;rw [← Z];refine A5 (by omega) (Ak ⟨_,rfl,?_⟩);rw [U,List.take_length];refine FK fun j av=>?_;by_cases e:j=k
  ·subst e;rw [if_pos rfl,if_pos (by omega)]
   conv=>rhs;unfold ways
   rw [a3];simp only;rw [if_pos a2,show((m:Int)).toNat=m by omega]
  ·rw [if_neg e];by_cases a1:j<k
   ·rw [if_pos a1,if_pos (by omega)]
   ·rw [if_neg a1,if_neg (by omega)]
theorem UT{F n q y m d:Nat}{J:JW}{lk:Bb}{cur:List (List Int)×Int}(Y:100<F)(Z:VJ n J)(O:B8 n lk)(hm:m<n)(ag:y+d=CU lk)(al:cur.2=(m:Int)):
  iter (J0 F J lk ((CU lk:Nat):Int) (H9 J lk q (y+1),(y:Int)) cur (match Ek J lk q y (m:Int) with | some c=>(c:Int) | none=>100)) F (List.replicate (lk.length+1) 0,match Ek J lk q y (m:Int) with | some c=>(c:Int) | none=>100)=some (NS J lk q d y (m:Int)):=by
 have av:=O.len;have a0:=It O;refine CE ?_;cases K:Ek J lk q y (m:Int) with
 | none=>
  simp only;refine Cl 0 (fun i s=>s=(List.replicate (lk.length+1) 0,100)) rfl (by omega) (fun i s hi=>by omega) ?_;rintro s rfl;unfold J0;refine A5 (by simp only;omega) (Ak ⟨_,rfl,?_⟩);rw [Ny];exact FK fun j U=>by rw [WV K];rfl
 | some c=>
  simp only;rw [Zv (d:=d) K];have a1:c≤16:=by
   unfold Ek at K;split at K
   ·cases K;exact Mt _
   ·cases K
  refine Cl (lk.length+1 - c) (fun i s=>s=(GH J lk q d y (m:Int) (c+i),((c+i:Nat):Int))) rfl (by omega) ?_ ?_
  ·rintro i s hi rfl;unfold J0;refine Bs (by simp only;omega) (AE (S:=fun r=>r=GH J lk q d y (m:Int) (c+(i+1))) ?_ ?_)
   ·cases d with
    | zero=>
     refine Bs (by simp only;omega) (AE (S:=fun r=>r=GH J lk q 0 y (m:Int) (c+(i+1))) ?_ (fun r am=>Ak am));have key:∀v:Int,v=((ways J lk q 0 y (m:Int) (c+i):Nat):Int)→(List.range (lk.length+1)).map (fun j=>if j=c+i then v else if j<c+i then((ways J lk q 0 y (m:Int) j:Nat):Int) else 0)=GH J lk q 0 y (m:Int) (c+(i+1)):=fun v ap=>FK fun j U=>by
      by_cases e:j=c+i
      ·rw [if_pos e,if_pos (by omega),e,ap]
      ·rw [if_neg e];by_cases V:j<c+i
       ·rw [if_pos V,if_pos (by omega)]
       ·rw [if_neg V,if_neg (by omega)]
     refine Bn (fun h=>?_) (fun h=>?_)
     ·simp only at h;refine EZ (i:=c+i) rfl (by omega) (Ak ?_);simp only;rw [show Int.toNat ((c+i:Nat):Int)=c+i by omega];unfold GH;rw [Lj];refine key 1 ?_;unfold ways;rw [K];simp only;rw [if_pos (by omega)];rfl
     ·simp only at h;refine Ak ?_;rw [← key 0 (by unfold ways;rw [K];simp only;rw [if_neg (by omega)];rfl)];refine FK fun j U=>?_;by_cases e:j=c+i
      ·rw [if_pos e,if_neg (by omega)]
      ·rw [if_neg e]
    | succ d=>
     refine A5 (by simp only;omega) (AM (Vn (st:=(GH J lk q (d+1) y (m:Int) (c+i),((c+i:Nat):Int))) Y Z O hm ag (by omega) (by omega) K al rfl) (Ak rfl))
   ·rintro r rfl;exact AW ((c+(i+1):Nat):Int) (by simp only;omega) (by omega) (by omega) (Ak rfl)
  ·rintro s rfl;unfold J0;refine A5 (by simp only;omega) (Ak ⟨_,rfl,VN (by omega)⟩)
theorem YH{F n q:Nat}{J:JW}{lk:Bb}{h:Int}(U:100<F)(K:VJ n J)(O:B8 n lk)(Y:PO h q):f80 F J lk h=some (H9 J lk q 0):=by
 have Z:=K.l1;have am:=O.len;have ap:=It O;have av:=K.le;have a0:=K.pos;refine CE ?_;unfold f80;refine AM (Yp O) ?_;refine AW ((CU lk+1:Nat):Int) (by simp) (by omega) (by omega) ?_;refine AM (b:=H9 J lk q (CU lk+1)) ?_ ?_
 ·unfold F5;rw [if_pos (by omega),show Int.toNat ((CU lk+1:Nat):Int)=CU lk+1 by omega,Ny];exact congrArg some (FK fun i hi=>(if_pos hi).symm)
 refine AE (S:=fun r=>r=H9 J lk q 0) ?_ (fun r ag=>Ak ag);refine MD (fun t s=>t≤CU lk+1∧s=(H9 J lk q t,(t:Int) - 1)) ?_ (m:=CU lk+1) ⟨Nat.le_refl _,by simp⟩ (by omega);rintro t s ⟨ht,rfl⟩;unfold O9;cases t with
 | zero=>exact A5 (by simp) (Ak rfl)
 | succ y=>
  have al:((y+1:Nat):Int) - 1=(y:Int):=by omega
  simp only [al];refine Bs (by omega) (EZ (i:=y) rfl (by omega) ?_);rw [if_pos (by omega)];refine AM (b:=()) (by simp [LD]) (AE (S:=fun r=>r=WR J lk q (CU lk - y) y) ?_ ?_)
  ·refine Cl n (fun i s=>s=((List.range i).map (fun m=>NS J lk q (CU lk - y) y ((m:Nat):Int)),(i:Int))) rfl (by omega) ?_ ?_
   ·rintro i s hi rfl;unfold Nu;refine Bs (by simp only;omega) (AW ((lk.length+1:Nat):Int) (by simp) (by omega) (by omega) ?_);refine AM (b:=List.replicate (lk.length+1) (0:Int)) (by unfold F5;rw [if_pos (by omega)];rfl) (AM (Yu U K O hi Y) ?_);refine AM (UT (d:=CU lk - y) U K O hi (by omega) rfl) (IT (by simp;omega) ?_);refine AW ((i+1:Nat):Int) (by simp) (by omega) (by omega) (Ak (Prod.ext ?_ rfl));simp only;rw [List.range_succ,List.map_append];rfl
   ·rintro s rfl;unfold Nu;refine A5 (by simp only;omega) (Ak ⟨_,rfl,?_⟩);unfold WR;rw [Z]
  ·rintro r rfl;refine AM (b:=()) ?_ ?_
   ·unfold N2;rw [if_neg];intro e;have:=congrArg List.length e;unfold WR at this;rw [List.length_map,List.length_range] at this;simp only [List.length_nil] at this;omega
   refine AW ((y:Int) - 1) rfl (by omega) (by omega) (Ak ⟨y,Nat.lt_succ_self y,by omega,Prod.ext ?_ rfl⟩);simp only;rw [show Int.toNat (y:Int)=y by omega];unfold H9;rw [Lj];refine FK fun j a1=>?_;by_cases e:j=y
   ·rw [if_pos e,e,if_neg (by omega)]
   ·rw [if_neg e];by_cases V:j<y
    ·rw [if_pos (by omega),if_pos V]
    ·rw [if_neg (by omega),if_neg V]
end Pal
namespace Pal
def Gn(J:JW)(lk:Bb)(q a m k:Nat):Nat:=((Cm (AG J a) m).map fun x=>ways J lk q (CU lk) 0 x k).sum
theorem XS{n q a m k:Nat}{J:JW}{lk:Bb}(K:VJ n J)(O:B8 n lk)(hm:m≤8):Gn J lk q a m k≤8*729:=by
 refine Nat.le_trans (O4 (b:=729) fun z U=>?_) ?_
 ·obtain⟨x,_,rfl⟩:=List.mem_map.1 U;exact OK K (It O)
 ·rw [List.length_map];exact Nat.mul_le_mul_right _ (Nat.le_trans (Kt _ _) hm)
theorem XJ{n q a k:Nat}{J:JW}{lk:Bb}(K:VJ n J):Gn J lk q a n k=nT J lk q a k:=by
 have O:=K.le;rw [Xx K];unfold Gn;have:=T2 (IH K a) (16 - n);rw [show n+(16 - n)=16 by omega] at this;rw [this]
def TR(J:JW)(lk:Bb)(q a:Nat):List Int:=(List.range (lk.length+1)).map fun k=>((nT J lk q a k:Nat):Int)
def LV(J:JW)(lk:Bb)(q:Nat):List (List Int):=(List.range 13).map (TR J lk q)
theorem aK{J:JW}{lk:Bb}{q:Nat}:(H9 J lk q 0)[0]? =some (WR J lk q (CU lk) 0):=by
 unfold H9;rw [JX (by omega),if_neg (by omega)];rfl
theorem OW{F n q:Nat}{J:JW}{lk:Bb}{h:Int}(U:100<F)(K:VJ n J)(O:B8 n lk)(al:PO h q):f79 F J lk h=some (LV J lk q):=by
 have a1:=K.l1;have a2:=O.len;have a3:=K.le;refine CE ?_;unfold f79;refine AM (YH U K O al) ?_;refine AE (S:=fun r=>r=LV J lk q) ?_ (fun r am=>Ak am);refine Cl 13 (fun a s=>s=((List.range a).map (TR J lk q),(a:Int))) rfl (by omega) ?_ ?_
 ·rintro a s ap rfl;unfold M5;refine Bs (by simp only;omega) (AW ((lk.length+1:Nat):Int) (by simp) (by omega) (by omega) ?_);refine AM (b:=List.replicate (lk.length+1) (0:Int)) (by unfold F5;rw [if_pos (by omega)];rfl) (AE (ZX U K ap) ?_);rintro l ⟨a4,av⟩;refine AE (S:=fun r=>r=TR J lk q a) ?_ ?_
  ·refine Cl n (fun m s=>s=((List.range (lk.length+1)).map (fun k=>((Gn J lk q a m k:Nat):Int)),(m:Int))) ?_ (by omega) ?_ ?_
   ·rw [Ny];rfl
   ·rintro m s hm rfl;unfold Nq;refine Bs (by simp only;omega) ?_;have V:ix l (m:Int)=some ((AG J a).testBit m):=D6 rfl (av m hm);have Y:∀k,Gn J lk q a (m+1) k=if(AG J a).testBit m=true then Gn J lk q a m k+ways J lk q (CU lk) 0 (m:Int) k else Gn J lk q a m k:=fun k=>by
     unfold Gn;rw [Ol];split
     ·simp
     ·rfl
    refine AE (S:=fun r=>r=(List.range (lk.length+1)).map (fun k=>((Gn J lk q a (m+1) k:Nat):Int))) ?_ ?_
    ·cases hb:(AG J a).testBit m with
     | false=>
      refine Cl 0 (fun i s=>s=((List.range (lk.length+1)).map (fun k=>((Gn J lk q a m k:Nat):Int)),(0:Int))) rfl (by omega) (fun i s hi=>by omega) ?_;rintro s rfl;unfold Lp;refine AM (b:=false) ?_ ?_
      ·simp only;rw [if_pos (by simp),V,hb];rfl
      ·refine A5 (by simp) (Ak ⟨_,rfl,FK fun k _=>?_⟩);rw [Y,hb,if_neg (by simp)]
     | true=>
      refine Cl (lk.length+1) (fun i s=>s=((List.range (lk.length+1)).map (fun k=>if k<i then((Gn J lk q a (m+1) k:Nat):Int) else((Gn J lk q a m k:Nat):Int)),(i:Int))) ?_ (by omega) ?_ ?_
      ·exact Prod.ext (FK fun k _=>(if_neg (by omega)).symm) rfl
      ·rintro i s hi rfl;unfold Lp;refine AM (b:=true) ?_ ?_
       ·simp only;rw [if_pos (by simp;omega),V,hb];rfl
       refine Bs rfl (EZ (i:=i) rfl hi ?_);rw [if_neg (by omega)];refine AM (D6 (m:=0) rfl aK) (EZ (i:=m) rfl (by omega) ?_);refine EZ (i:=i) rfl hi ?_;have a5:=XS (q:=q) (a:=a) (m:=m) (k:=i) K O (by omega);have a6:=OK (q:=q) (d:=CU lk) (y:=0) (k:=i) (m:=(m:Int)) (lk:=lk) K (It O);have Z:=Y i;rw [hb,if_pos rfl] at Z;refine AW ((Gn J lk q a (m+1) i:Nat):Int) (by rw [Z];simp only [Int.natCast_add]) (by omega) (by omega) (EZ (i:=i) rfl hi ?_);refine AW ((i+1:Nat):Int) (by simp) (by omega) (by omega) (Ak (Prod.ext ?_ rfl));simp only;rw [show Int.toNat (i:Int)=i by omega,Lj];refine FK fun j a7=>?_;by_cases e:j=i
       ·rw [if_pos e,if_pos (by omega),e]
       ·rw [if_neg e];by_cases ag:j<i
        ·rw [if_pos ag,if_pos (by omega)]
        ·rw [if_neg ag,if_neg (by omega)]
      ·rintro s rfl;unfold Lp;refine AM (b:=false) ?_ ?_
       ·rw [if_neg (by simp)]
       ·refine A5 (by simp) (Ak ⟨_,rfl,FK fun k a0=>if_pos a0⟩)
    ·rintro r rfl;exact AW ((m+1:Nat):Int) (by simp) (by omega) (by omega) (Ak rfl)
   ·rintro s rfl;unfold Nq;refine A5 (by simp only;omega) (Ak ⟨_,rfl,FK fun k _=>?_⟩);rw [XJ K]
  ·rintro r rfl;refine IT (by simp;omega) (AW ((a+1:Nat):Int) (by simp) (by omega) (by omega) ?_);refine Ak (Prod.ext ?_ rfl);simp only;rw [List.range_succ,List.map_append];rfl
 ·rintro s rfl;unfold M5;exact A5 (by simp) (Ak ⟨_,rfl,rfl⟩)
theorem MF{n a:Nat}{J:JW}{lk:Bb}(K:VJ n J)(O:B8 n lk){t:CI}(ht:t∈TA J lk a):CF t≤lk.length:=by
 rw [W8 K O ht];exact List.length_filter_le _ _
theorem Lm{n q a k:Nat}{J:JW}{lk:Bb}(K:VJ n J)(O:B8 n lk)(U:lk.length≤q):0<nT J lk q a k↔∃t∈TA J lk a,CF t=k:=by
 rw [W0 K O U,List.countP_pos_iff];simp only [decide_eq_true_iff]
theorem Zt{F n:Nat}{J:JW}{lk:Bb}(av:100<F)(Z:VJ n J)(V:B8 n lk):A0 (f95 F J lk) (fun r=>(TT J lk= []∧r= -1)∨∃k,FL J lk k∧r=(k:Int)):=by
 have a2:=V.len;have al:∀a k,0<nT J lk 16 a k↔∃t∈TA J lk a,CF t=k:=fun a k=>Lm Z V (by omega);unfold f95;refine AM (OW av Z V (.inl ⟨rfl,rfl⟩)) ?_;refine AE (S:=fun r=>(r=Sum.inr ()∧TT J lk= [])∨∃k,FL J lk k∧r=Sum.inl (k:Int)) ?_ ?_
 ·refine Cl (lk.length+1) (fun k s=>s=(k:Int)∧∀k',k'<k→∀a,a<13→∀t∈TA J lk a,CF t≠k') ⟨rfl,fun k' am=>by omega⟩ (by omega) ?_ ?_
  ·rintro k s am ⟨rfl,Y⟩;unfold M7;refine Bs (by omega) (AE (S:=fun r=>(r=Sum.inr ()∧∀a,a<13→∀t∈TA J lk a,CF t≠k)∨(r=Sum.inl (k:Int)∧∃a,a<13∧∃t∈TA J lk a,CF t=k)) ?_ ?_)
   ·refine Cl 13 (fun a s=>s=(a:Int)∧∀U,U<a→∀t∈TA J lk U,CF t≠k) ⟨rfl,fun U K=>by omega⟩ (by omega) ?_ ?_
    ·rintro a s K ⟨rfl,ag⟩;unfold Nm;refine Bs (by omega) (EZ (i:=a) rfl K ?_);refine EZ (i:=k) rfl am (Bn (fun h=>?_) (fun h=>?_))
     ·exact Ak (.inr ⟨rfl,a,K,(al a k).1 (by omega)⟩)
     ·refine AW ((a+1:Nat):Int) (by simp) (by omega) (by omega) (Ak ⟨rfl,fun U a3 t ht e=>?_⟩);rcases Nat.lt_or_ge U a with O | O
      ·exact ag U O t ht e
      ·obtain rfl:U=a:=by omega
       have:=(al U k).2 ⟨t,ht,e⟩;omega
    ·rintro s ⟨rfl,ag⟩;unfold Nm;exact A5 (by omega) (Ak ⟨_,rfl,.inl ⟨rfl,ag⟩⟩)
   ·rintro r (⟨rfl,a0⟩ | ⟨rfl,a,K,t,ht,e⟩)
    ·rw [Sum.elim_inr];refine AW ((k+1:Nat):Int) (by simp) (by omega) (by omega) (Ak ⟨rfl,fun k' a4 a K t ht e=>?_⟩);rcases Nat.lt_or_ge k' k with O | O
     ·exact Y k' O a K t ht e
     ·obtain rfl:k'=k:=by omega
      exact a0 a K t ht e
    ·rw [Sum.elim_inl];refine Ak (.inr ⟨k,⟨⟨t,I9.2 ⟨a,K,ht⟩,e⟩,fun u hu=>?_⟩,rfl⟩);obtain⟨b,hb,a1⟩:=I9.1 hu;rcases Nat.lt_or_ge (CF u) k with O | O
     ·exact absurd rfl (Y _ O b hb u a1)
     ·exact O
  ·rintro s ⟨rfl,Y⟩;unfold M7;refine A5 (by omega) (Ak ⟨_,rfl,.inl ⟨rfl,?_⟩⟩);refine List.eq_nil_iff_forall_not_mem.2 fun t ht=>?_;obtain⟨a,K,ap⟩:=I9.1 ht;exact Y _ (by have:=MF Z V ap;omega) a K t ap rfl
 ·rintro r (⟨rfl,h⟩ | ⟨k,h,rfl⟩)
  ·exact Ak (.inl ⟨h,rfl⟩)
  ·exact Ak (.inr ⟨k,h,rfl⟩)
end Pal
namespace Pal
theorem Uk{n:Nat}{lk:Bb}(h:H0 n lk=none):B8 n lk∧lk.length≤4:=by
 unfold H0 at h;split at h
 ·cases h
 rename_i ap;have K:∀i (hi:i<lk.length),¬(lk[i].1<0∨6<lk[i].1)∧¬(0<i∧lk[i].1<(lk.getD (i - 1) (0,0)).1)∧¬(lk[i].2<0∨(n:Int) - 1<lk[i].2):=fun i hi=>by
  have:=List.findSome?_eq_none_iff.1 h i (List.mem_range.2 hi);unfold Fj at this;rw [Ej hi] at this;split at this
  ·cases this
  ·split at this
   ·cases this
   ·split at this
    ·cases this
    ·rename_i V Y Z;exact⟨V,Y,Z⟩
 refine⟨⟨by omega,fun l O=>?_,fun l O=>?_,?_⟩,by omega⟩
 ·obtain⟨i,hi,rfl⟩:=List.mem_iff_getElem.1 O;have:=(K i hi).1;omega
 ·obtain⟨i,hi,rfl⟩:=List.mem_iff_getElem.1 O;have:=(K i hi).2.2;omega
 ·have step:∀i (hi:i+1<lk.length),lk[i].1≤lk[i+1].1:=fun i hi=>by
   have:=(K (i+1) hi).2.1;rw [show i+1 - 1=i by omega,Ej (by omega)] at this;omega
  rw [List.pairwise_iff_getElem];intro i j hi av a0;have key:∀k (U:i+1+k<lk.length),lk[i].1≤lk[i+1+k].1:=fun k=>by
   induction k with
   | zero=>intro U;exact step i U
   | succ k ag=>intro U;have al:=ag (by omega);have am:=step (i+1+k) (by omega);exact Int.le_trans al am
  have:=key (j - i - 1) (by omega);simpa [show i+1+(j - i - 1)=j by omega] using this
theorem Jv{J:JW}{lk:Bb}(h:CL J lk=0):VJ J.1.length J∧B8 J.1.length lk∧lk.length≤4:=by
 unfold CL at h;cases O:CJ J with
 | some c=>rw [O] at h;exact absurd h (Ti O)
 | none=>
  rw [O] at h;refine⟨WC O,Uk ?_⟩;cases K:H0 J.1.length lk with
  | none=>rfl
  | some c=>
   rw [K] at h;simp only [Option.getD_some] at h;subst h;exfalso;unfold H0 at K;split at K
   ·cases K
   ·obtain⟨i,_,hi⟩:=List.exists_of_findSome?_eq_some K;unfold Fj at hi;split at hi
    ·cases hi
    ·split at hi
     ·cases hi
     ·split at hi <;> cases hi
theorem SI{F:Nat}{J:JW}{lk:Bb}(K:100<F)(O:NL J)(h:CL J lk=0):HB F J lk=f69 F J lk:=by
 obtain⟨U,V,Y⟩:=Jv h;rw [ME K O,h,OY K U V Y]
theorem Zo{F:Nat}{J:JW}{lk:Bb}{p:Int}{b:Bool}(K:100<F)(O:NL J)(h:CL J lk=0):Hy F J lk p b=f78 F J lk p b:=by
 unfold Hy f78;rw [SI K O h]
def bh(J:JW)(lk:Bb)(r:Int×Int):Prop:=(CL J lk≠0∧r=(0,CL J lk))∨(CL J lk=0∧((TT J lk= []∧r=(0,11))∨∃k,FL J lk k∧r=((k:Int),0)))
theorem FL.ne{J:JW}{lk:Bb}{k:Nat}(h:FL J lk k):TT J lk≠ []:=fun e=>by
 obtain⟨⟨t,ht,_⟩,_⟩:=h
 rw [e] at ht;simp at ht
theorem W3{F:Nat}{J:JW}{lk:Bb}(U:100<F)(V:NL J):A0 (f48 F J lk) (bh J lk):=by
 unfold f48;refine AM (Sa U V) (Bn (fun h=>Ak (.inl ⟨h,rfl⟩)) (fun h=>?_));have K:CL J lk=0:=by simpa using h
 obtain⟨Y,Z,ag⟩:=Jv K;refine AE (Zt U Y Z) ?_;rintro r (⟨O,rfl⟩ | ⟨k,O,rfl⟩)
 ·exact Bs (by omega) (Ak (.inr ⟨K,.inl ⟨O,rfl⟩⟩))
 ·exact A5 (by omega) (Ak (.inr ⟨K,.inr ⟨k,O,rfl⟩⟩))
end Pal
namespace Pal
theorem FL.le{n k:Nat}{J:JW}{lk:Bb}(K:VJ n J)(O:B8 n lk)(h:FL J lk k):k≤lk.length:=by
 obtain⟨⟨t,ht,rfl⟩,_⟩:=h;obtain⟨a,V,U⟩:=I9.1 ht;exact MF K O U
def J9(J:JW)(lk:Bb)(q lo hi a:Nat):Bool:=(List.range (lk.length+1)).any fun k=>decide (lo≤k)&&decide (k≤hi)&&decide (0<nT J lk q a k)
theorem MB{J:JW}{lk:Bb}{q lo hi a:Nat}:J9 J lk q lo hi a=true↔∃k,k≤lk.length∧lo≤k∧k≤hi∧0<nT J lk q a k:=by
 unfold J9;simp only [List.any_eq_true,List.mem_range,Bool.and_eq_true,decide_eq_true_iff];exact⟨fun⟨k,V,⟨K,O⟩,U⟩=>⟨k,by omega,K,O,U⟩,fun⟨k,V,K,O,U⟩=>⟨k,by omega,⟨K,O⟩,U⟩⟩
def Fv(J:JW)(lk:Bb)(q lo hi:Nat):List Int:=((List.range 13).filter (J9 J lk q lo hi)).map fun(a:Nat)=>(a:Int)
theorem SE{F n q lo hi:Nat}{J:JW}{lk:Bb}(al:100<F)(am:VJ n J)(Z:B8 n lk)(ap:lo≤lk.length)(av:hi<20):f81 F (LV J lk q) (lo:Int) (hi:Int)=some (Fv J lk q lo hi):=by
 have a0:=Z.len;refine CE ?_;unfold f81;refine AE (S:=fun r=>r=Fv J lk q lo hi) ?_ (fun r K=>Ak K);refine Cl 13 (fun a s=>s=(((List.range a).filter (J9 J lk q lo hi)).map (fun(a:Nat)=>(a:Int)),(a:Int))) rfl (by omega) ?_ ?_
 ·rintro a s V rfl;unfold Nk;refine Bs (by simp only [LV,List.length_map,List.length_range];omega) (AE (S:=fun r=>r=J9 J lk q lo hi a) ?_ ?_)
  ·refine Cl (min hi lk.length+1 - lo) (fun i s=>s.2=((lo+i:Nat):Int)∧(s.1=true↔∃k,lo≤k∧k<lo+i∧0<nT J lk q a k)) ⟨rfl,by simp;omega⟩ (by omega) ?_ ?_
   ·rintro i ⟨b,s⟩ a1 ⟨hs,hb⟩;simp only at hs hb;subst hs;unfold No;refine AM (b:=true) ?_ ?_
    ·refine CE (Bs (by simp only;omega) ?_);refine EZ (i:=a) rfl V (Ak (decide_eq_true ?_));simp only [TR,List.length_map,List.length_range];omega
    refine Bs rfl (AE (S:=fun r=>r=true↔∃k,lo≤k∧k<lo+(i+1)∧0<nT J lk q a k) ?_ ?_)
    ·refine Bn (fun h=>?_) (fun h=>?_)
     ·obtain⟨k,k1,U,O⟩:=hb.1 h;exact Ak ⟨fun _=>⟨k,k1,by omega,O⟩,fun _=>rfl⟩
     ·refine EZ (i:=a) rfl V (EZ (i:=lo+i) rfl (by omega) ?_);refine Ak ?_;rw [decide_eq_true_iff];constructor
      ·intro a2;exact⟨lo+i,by omega,by omega,by omega⟩
      ·rintro⟨k,k1,U,O⟩;rcases Nat.lt_or_ge k (lo+i) with Y | Y
       ·exact absurd (hb.2 ⟨k,k1,Y,O⟩) h
       ·obtain rfl:k=lo+i:=by omega
        omega
    ·intro r K;exact AW ((lo+(i+1):Nat):Int) (by clear K hb;simp only;omega) (by clear K hb;omega) (by clear K hb;omega) (Ak ⟨rfl,K⟩)
   ·rintro⟨b,s⟩ ⟨hs,hb⟩;simp only at hs hb;subst hs;unfold No;refine AM (b:=false) ?_ ?_
    ·refine CE (Bn (fun h=>?_) (fun h=>Ak rfl));refine EZ (i:=a) rfl V (Ak (decide_eq_false ?_));simp only at h;simp only [TR,List.length_map,List.length_range];omega
    refine A5 (by simp) (Ak ⟨_,rfl,?_⟩);simp only;rw [Bool.eq_iff_iff,hb,MB];clear hb;exact⟨fun⟨k,k1,U,O⟩=>⟨k,by omega,k1,by omega,O⟩,fun⟨k,k1,U,O,ag⟩=>⟨k,U,by omega,ag⟩⟩
  ·rintro r rfl;refine AE (S:=fun c=>c=((List.range (a+1)).filter (J9 J lk q lo hi)).map (fun(a:Nat)=>(a:Int))) ?_ ?_
   ·rw [List.range_succ,List.filter_append,List.map_append];refine Bn (fun h=>?_) (fun h=>?_)
    ·refine IT ?_ (Ak ?_)
     ·rw [List.length_map];exact Nat.le_trans (Nat.add_le_add_right (Nat.le_trans (List.length_filter_le _ _) (Nat.le_of_eq (List.length_range))) 1) (by omega)
     ·simp [List.filter_cons,h]
    ·refine Ak ?_;simp [List.filter_cons,h]
   ·rintro c rfl;exact AW ((a+1:Nat):Int) (by simp) (by omega) (by omega) (Ak rfl)
 ·rintro s rfl;unfold Nk;exact A5 (by simp only [LV,List.length_map,List.length_range];omega) (Ak ⟨_,rfl,rfl⟩)
end Pal
namespace Pal
def LN(J:JW)(lk:Bb)(r:(Int×Int)×Int):Prop:=(CL J lk≠0∧r=((0,0),CL J lk))∨(CL J lk=0∧((TT J lk= []∧r=((0,0),11))∨∃k,FL J lk k∧r.2=0∧(∃t∈GF J lk k,t.1=r.1.1)∧(∃t∈GF J lk k,t.1=r.1.2)∧∀t∈GF J lk k,r.1.1≤t.1∧t.1≤r.1.2))
theorem LN.uniq{J:JW}{lk:Bb}{r q:(Int×Int)×Int}(h:LN J lk r)(Z:LN J lk q):r=q:=by
 rcases h with⟨O,rfl⟩ | ⟨O,K⟩ <;> rcases Z with⟨U,rfl⟩ | ⟨U,g2⟩
 ·rfl
 ·exact absurd U O
 ·exact absurd O U
 ·rcases K with⟨K,rfl⟩ | ⟨k,K,av,⟨t,t1,t2⟩,⟨u,u1,u2⟩,V⟩ <;> rcases g2 with⟨g2,rfl⟩ | ⟨k',g2,a0,⟨ag,al,a1⟩,⟨am,ap,a2⟩,Y⟩
  ·rfl
  ·exact absurd K g2.ne
  ·exact absurd g2 K.ne
  ·obtain rfl:=K.uniq g2;have a3:=V ag al;have a4:=Y t t1;have a5:=V am ap;have a6:=Y u u1;exact Prod.ext (Prod.ext (by omega) (by omega)) (by omega)
theorem VQ{F:Nat}{J:JW}{lk:Bb}(O:3489660928<F)(K:NL J):A0 (Ji F J lk) (LN J lk):=by
 by_cases h:CL J lk=0
 ·obtain⟨U,V,Y⟩:=Jv h;have e:Ji F J lk=f61 F J lk:=by
   unfold Ji f61;rw [Zo (by omega) K h]
  rw [e];exact(YA O U V Y).Ah fun r Z=> .inr ⟨h,Z⟩
 ·unfold Ji Hy;refine AM (b:=(none,(0,[]),CL J lk)) ?_ (Bs h (Ak (.inl ⟨h,rfl⟩)));rw [ME (by omega) K,Option.bind_some,if_pos h]
theorem Vh{n q lo hi:Nat}{J:JW}{lk:Bb}{x:Int}(K:VJ n J)(O:B8 n lk)(Z:lk.length≤q):x∈Fv J lk q lo hi↔∃t∈TT J lk,lo≤CF t∧CF t≤hi∧t.1=x:=by
 unfold Fv;simp only [List.mem_map,List.mem_filter,List.mem_range];constructor
 ·rintro⟨a,⟨U,V⟩,rfl⟩;obtain⟨k,k1,ag,al,am⟩:=MB.1 V;obtain⟨t,t1,rfl⟩:=(Lm K O Z).1 am;exact⟨t,I9.2 ⟨a,U,t1⟩,ag,al,O7 t1⟩
 ·rintro⟨t,U,V,ap,rfl⟩;obtain⟨a,av,Y⟩:=I9.1 U;exact⟨a,⟨av,MB.2 ⟨CF t,MF K O Y,V,ap,(Lm K O Z).2 ⟨t,Y,rfl⟩⟩⟩,(O7 Y).symm⟩
theorem Vb(J:JW)(lk:Bb)(q lo hi:Nat):(Fv J lk q lo hi).Pairwise (·<·):=by
 unfold Fv;rw [List.pairwise_map];exact(List.pairwise_lt_range.filter _).imp fun h=>by omega
theorem Yo{F:Nat}{J:JW}{lk:Bb}(Y:100<F)(al:NL J):A0 (f62 F J lk) (LN J lk):=by
 unfold f62;refine AE (W3 Y al) ?_;rintro r (⟨g,rfl⟩ | ⟨h,⟨K,rfl⟩ | ⟨k,K,rfl⟩⟩)
 ·exact Bs g (Ak (.inl ⟨g,rfl⟩))
 ·exact Bs (by simp) (Ak (.inr ⟨h,.inl ⟨K,rfl⟩⟩))
 ·refine A5 (by simp) ?_;obtain⟨O,U,a0⟩:=Jv h;refine AM (OW Y O U (.inl ⟨rfl,rfl⟩)) (AM (SE Y O U (K.le O U) (by have:=K.le O U;omega)) ?_);have V:∀x:Int,x∈Fv J lk 16 k k↔∃t∈GF J lk k,t.1=x:=fun x=>by
   rw [Vh O U (by omega)];constructor
   ·rintro⟨t,t1,t2,t3,t4⟩;exact⟨t,List.mem_filter.2 ⟨t1,decide_eq_true (by omega)⟩,t4⟩
   ·rintro⟨t,t1,t2⟩;obtain⟨t3,t4⟩:=List.mem_filter.1 t1;have:=of_decide_eq_true t4;exact⟨t,t3,by omega,by omega,t2⟩
  have am:=Vb J lk 16 k k;have a1:(Fv J lk 16 k k).length≤13:=by
   unfold Fv;rw [List.length_map];exact Nat.le_trans (List.length_filter_le _ _) (by simp)
  have ap:=K.pos;have Z:0<(Fv J lk 16 k k).length:=List.length_pos_of_mem ((V _).2 ⟨_,List.getElem_mem ap,rfl⟩);refine Bl (m:=0) rfl Z ?_;refine AW (((Fv J lk 16 k k).length - 1:Nat):Int) (by omega) (by omega) (by omega) ?_;refine Bl (m:=(Fv J lk 16 k k).length - 1) rfl (by omega) ?_;refine Ak (.inr ⟨h,.inr ⟨k,K,rfl,(V _).1 (List.getElem_mem Z),(V _).1 (List.getElem_mem (by omega)),fun t ht=>?_⟩⟩);obtain⟨i,hi,av⟩:=List.mem_iff_getElem.1 ((V _).2 ⟨t,ht,rfl⟩);have ag:=List.pairwise_iff_getElem.1 am;simp only;rw [← av];constructor
  ·rcases Nat.eq_zero_or_pos i with e | e
   ·subst e;exact Int.le_refl _
   ·exact Int.le_of_lt (ag 0 i Z hi e)
  ·rcases Nat.lt_or_ge i ((Fv J lk 16 k k).length - 1) with e | e
   ·exact Int.le_of_lt (ag i _ hi (by omega) e)
   ·have:i=(Fv J lk 16 k k).length - 1:=by omega
    subst this;exact Int.le_refl _
theorem Ys{n p:Nat}{J:JW}{lk:Bb}(O:VJ n J)(K:B8 n lk):Fv J lk 16 0 p=G6 J lk p:=by
 have Y:=K.len;unfold Fv G6;refine congrArg (List.map _) (List.filter_congr fun a Z=>?_);rw [Bool.eq_iff_iff,MB,List.any_eq_true];constructor
 ·rintro⟨k,k1,_,U,V⟩;obtain⟨t,t1,rfl⟩:=(Lm O K (by omega)).1 V;exact⟨t,t1,decide_eq_true U⟩
 ·rintro⟨t,t1,t2⟩;exact⟨CF t,MF O K t1,by omega,of_decide_eq_true t2,(Lm O K (by omega)).2 ⟨t,t1,rfl⟩⟩
def Ka(J:JW)(lk:Bb)(p:Int):List Int×Int:=if CL J lk≠0 then([],CL J lk) else if 0≤p∧p≤4 then(if G6 J lk p.toNat= [] then([],11) else(G6 J lk p.toNat,0)) else([],1)
theorem V6(J:JW)(lk:Bb)(p:Int):(Ka J lk p).1.length≤20:=by
 have:=U2 J lk p.toNat;unfold Ka;split
 ·simp
 ·split
  ·split
   ·simp
   ·simp only;omega
  ·simp
theorem Wy{F:Nat}{J:JW}{lk:Bb}{p:Int}(U:268435456<F)(K:NL J):HY F J lk p=some (Ka J lk p):=by
 unfold Ka;by_cases h:CL J lk=0
 ·obtain⟨V,Y,Z⟩:=Jv h;rw [if_neg (by simpa using h)];by_cases O:0≤p∧p≤4
  ·rw [if_pos O];obtain⟨q,rfl⟩:∃q:Nat,p=(q:Int):=⟨p.toNat,by omega⟩;have e:HY F J lk (q:Int)=f43 F J lk (q:Int):=by
    unfold HY f43;rw [SI (by omega) K h]
    rfl
   rw [e,YD U V Y Z (by omega)];rfl
  ·rw [if_neg O];refine CE ?_;unfold HY;refine AM (ME (by omega) K) (A5 (by simpa using h) ?_);exact AM (HR F _ _ _) (Bs (decide_eq_true (by omega)) (Ak rfl))
 ·rw [if_pos h];refine CE ?_;unfold HY;exact AM (ME (by omega) K) (Bs h (Ak rfl))
theorem WZ{F:Nat}{J:JW}{lk:Bb}{p:Int}(O:100<F)(Y:NL J):f63 F J lk p=some (Ka J lk p):=by
 unfold Ka;refine CE ?_;unfold f63;refine AM (Sa O Y) (Bn (fun h=>by rw [if_pos h];exact Ak rfl) (fun h=>?_));rw [if_neg h];have Z:CL J lk=0:=by simpa using h
 obtain⟨U,V,ag⟩:=Jv Z;refine AM (KV F _ _ _) ?_;by_cases K:0≤p∧p≤4
 ·rw [if_pos K];refine A5 (by simp [K]) ?_;obtain⟨q,rfl⟩:∃q:Nat,p=(q:Int):=⟨p.toNat,by omega⟩;refine AM (OW O U V (.inl ⟨rfl,rfl⟩)) (AM (SE (lo:=0) O U V (by omega) (by omega)) ?_);rw [Ys U V];simp only [Int.toNat_natCast];refine Bn (fun c=>?_) (fun c=>?_)
  ·rw [if_pos (List.length_eq_zero_iff.1 (by omega))];exact Ak rfl
  ·rw [if_neg (fun e=>c (by rw [e];rfl))];exact Ak rfl
 ·rw [if_neg K];exact Bs (by rw [decide_eq_false K];rfl) (Ak rfl)
end Pal
namespace Pal
open Go Go.Conc Go.Proofs
open Go.Proofs.Tryz
variable {J:Judge Tryz.prog}{E:LH}
def NY(fuel:Nat)(p0:AI):Option ((AI)):= (De ([]:AI) p0).bind fun K=> some K
theorem So{K:An}{c2:Nat}{p0:AI}(Y:Al Bp E K c2 p0){fuel:Nat}{r:(AI)}(O:NY fuel p0=some r):AL J 27 [sV K p0 c2] E [] (fun w E' B'=>∃(U:An) (V:Nat) (g0:Seg),w= sV U r V∧B'=g0∧OL 27 Bp E' U V g0 r):=by
 refine A4 func27 fun Q a5 cs H Z ag=>?_;unfold NY at O;refine zg 6 rfl (K9 (pp:=Bp) rfl rfl rfl underlying25 Cc Z fun a6 a7 al am=>?_);obtain⟨a8,ap,av⟩:=bs O;refine zg 1 rfl (KZ (pp:=Bp) 1 ap rfl rfl rfl rfl rfl rfl rfl underlying25 underlying25 Cc (CR type27) Er rfl (by decide) (by decide) al Y am rfl fun a0 a1 a2 a3 a4=>?_);refine zg 2 rfl ?_;obtain rfl:=oi av;exact AD func27 rfl rfl (ag Ar rfl ⟨a0,a1,a2,rfl,(by first | rfl | simp | (simp [Value.cells])),a3⟩ a4)
def f25(fuel:Nat)(p0:AI)(p1:Int×Int)(p2:A1)(p3:BX):Option ((List AI)×(BX)):= (f40 fuel p3 p2 3).bind fun K=> (NY fuel K.1).bind fun O=> (De O ([p1]:AI)).bind fun U=> some (([p0,K.1,U]:List AI),K.2)
theorem aQ{al:An}{c2:Nat}{a4:An}{a5:Nat}{a6:An}{a7:Nat}{bk:Nat}{a8:An}{a9:Nat}{p0:AI}{p1:Int×Int}{p2:A1}{p3:BX}(bb:Al Bp E al c2 p0)(bC:Al (rL rI) E a4 a5 p2.1)(bD:Al (rL rI) E a6 a7 p2.2)(bE:Al rI E a8 a9 p3.1){fuel:Nat}{r:(List AI)×(BX)}(bd:f25 fuel p0 p1 p2 p3=some r):AL J 25 [sV al p0 c2,.agg #[iV p1.1,iV p1.2],.agg #[sV a4 p2.1 a5,sV a6 p2.2 a7],pV bk 0] E [(bk,.cells #[sV a8 p3.1 a9,iV p3.2.1,.int .u64 ((p3.2.2:Nat):Int)] 92 (0,0))] (fun w E' B'=>∃(be:An) (bi:Nat) (bn:An) (bo:Nat),w= sV be r.1 bi∧B'= [(bk,.cells #[sV bn r.2.1 bo,iV r.2.2.1,.int .u64 ((r.2.2.2:Nat):Int)] 92 (0,0))]∧Al (rL Bp) E' be bi r.1∧Al rI E' bn bo r.2.1):=by
 refine A4 func25 fun Q cA cs H bF bp=>?_;unfold f25 at bd;refine zg 2 rfl (B4 bF fun cB cC U bG bH=>?_);refine B4 bH fun cD cE O bI bJ=>?_;refine zg 5 rfl (BQ bI BY BC rfl rfl ?_);obtain⟨K,bK,bL⟩:=bs bd;refine B6 0 (au (bE.Ah (U.Ac O)) (bC.Ah (U.Ac O)) (bD.Ah (U.Ac O)) bK) rfl rfl (AR func40 rfl) bJ rfl ?_;rintro _ cF _ Z ⟨am,ap,V,Y,rfl,rfl,av,bq⟩ bM;refine Cs (S':= [[(bk,.cells #[sV V K.2.1 Y,iV K.2.2.1,.int .u64 ((K.2.2.2:Nat):Int)] 92 (0,0))],[],[]]) rfl bM fun br=>zg 3 rfl (CZ 7 fun ht=>?_);refine A2 ht rfl [0,1,2] rfl (Fb 4 ht (bG.Ah (O.Ac Z)) Gt Cc rfl rfl rfl ?_);obtain⟨cG,bu,bN⟩:=bs bL;obtain⟨a0,bv,bw⟩:=bs bN;refine IB (i:=3) (j:=5) rfl (by decide+kernel) ?_ ?_
 ·refine Take.G9 (vs:= [sV am K.1 ap]) br (So av bu) rfl rfl rfl Kq rfl ?_;rintro _ cH _ a1 ⟨cI,cJ,cK,rfl,rfl,bO⟩ bP;refine JG.one (i:=5) rfl (by decide+kernel) (Take.NV (pp:=Bp) [.agg #[iV p1.1,iV p1.2]] ([p1]:AI) bP rfl rfl rfl underlying25 Cc Er (by decide) rfl rfl rfl ⟨⟨_,_,rfl,rfl,rfl⟩,trivial⟩ fun cM bx bQ bR=>?_);refine JG.one (i:=6) rfl (by decide+kernel) (Take.app0 (pp:=Bp) 3 4 bR bv rfl rfl rfl rfl rfl rfl rfl underlying25 underlying25 Cc (CR type27) Er rfl (by decide) (by decide) bO bQ rfl rfl fun bS bT cN bU bV bW=>?_);refine Cg [7,8] (EP 3 rfl bW fun bY=>?_);refine JS.drop 3 bY rfl fun bZ=>Cs (S':= [[(bk,.cells #[sV V K.2.1 Y,iV K.2.2.1,.int .u64 ((K.2.2.2:Nat):Int)] 92 (0,0))],[],[],[],bx,bU]) rfl bZ fun b0=>B5 5 bV b0 rfl fun cO a2 b1 b2=>DC (pp:=(rL Bp)) [sV al p0 c2,sV am K.1 ap,sV bS a0 bT] [p0,K.1,a0] rfl rfl rfl underlying35 Hl (Du type25) (by decide) rfl rfl rfl ⟨⟨_,_,rfl,(bb.Ah ((((U.Ac O).Ac Z).Ac a1).Ac a2))⟩,⟨_,_,rfl,(av.Ah (a1.Ac a2))⟩,⟨_,_,rfl,b1⟩,trivial⟩ b2 fun b3 cP b4 b5=>zg 2 rfl (B5 6 b4 b5 rfl fun cQ bz b6 b7=>?_);refine Cs (S':= [[(bk,.cells #[sV V K.2.1 Y,iV K.2.2.1,.int .u64 ((K.2.2.2:Nat):Int)] 92 (0,0))],[],[],[],bx,[],[]]) rfl b7 fun b8=>JS.drop 4 b8 rfl fun b9=>?_;obtain rfl:=oi bw;exact AD func25 rfl rfl (bp (((((U.Ac O).Ac Z).Ac a1).Ac a2).Ac bz) rfl ⟨(AZ b3),3,V,Y,rfl,rfl,b6,(bq.Ah ((a1.Ac a2).Ac bz))⟩ b9)
 ·refine Take.NV (pp:=Bp) [.agg #[iV p1.1,iV p1.2]] ([p1]:AI) br rfl rfl rfl underlying25 Cc Er (by decide) rfl rfl rfl ⟨⟨_,_,rfl,rfl,rfl⟩,trivial⟩ fun cR bA ca cb=>JG.one (i:=3) rfl (by decide+kernel) (Take.G9 (vs:= [sV am K.1 ap]) cb (So av bu) rfl rfl rfl Kq rfl ?_);rintro _ cT _ ag ⟨cV,cW,cX,rfl,rfl,cc⟩ cd;refine JG.one (i:=6) rfl (by decide+kernel) (Take.app0 (pp:=Bp) 4 3 cd bv rfl rfl rfl rfl rfl rfl rfl underlying25 underlying25 Cc (CR type27) Er rfl (by decide) (by decide) cc (ca.Ah ag) rfl rfl fun ce cf cY cg ci ck=>?_);refine Cg [7,8] (EP 4 rfl ck fun cm=>?_);refine JS.drop 4 cm rfl fun cn=>Cs (S':= [[(bk,.cells #[sV V K.2.1 Y,iV K.2.2.1,.int .u64 ((K.2.2.2:Nat):Int)] 92 (0,0))],[],[],bA,[],cg]) rfl cn fun co=>B5 5 ci co rfl fun cZ a3 cp cq=>DC (pp:=(rL Bp)) [sV al p0 c2,sV am K.1 ap,sV ce a0 cf] [p0,K.1,a0] rfl rfl rfl underlying35 Hl (Du type25) (by decide) rfl rfl rfl ⟨⟨_,_,rfl,(bb.Ah ((((U.Ac O).Ac Z).Ac ag).Ac a3))⟩,⟨_,_,rfl,(av.Ah (ag.Ac a3))⟩,⟨_,_,rfl,cp⟩,trivial⟩ cq fun cr c0 ct cu=>zg 2 rfl (B5 6 ct cu rfl fun c1 bB cv cw=>?_);refine Cs (S':= [[(bk,.cells #[sV V K.2.1 Y,iV K.2.2.1,.int .u64 ((K.2.2.2:Nat):Int)] 92 (0,0))],[],[],bA,[],[],[]]) rfl cw fun cy=>JS.drop 3 cy rfl fun cz=>?_;obtain rfl:=oi bw;exact AD func25 rfl rfl (bp (((((U.Ac O).Ac Z).Ac ag).Ac a3).Ac bB) rfl ⟨(AZ cr),3,V,Y,rfl,rfl,cv,(bq.Ah ((ag.Ac a3).Ac bB))⟩ cz)
end Pal
namespace Pal
theorem Z3{F k n:Nat}{b:EA}{J:JW}{lk:List (Int×Int)}{l:Int×Int}(O:100<F)(U:VJ n J)(hb:BG k b)(V:k<900)(Z:lk.length≤20):
  A0 (f25 F lk l J b) (fun r=>(∃u v:List (Int×Int),r.1= [lk,u,v]∧u.length≤20∧v.length≤20)∧BG (k+100) r.2):=by
 unfold f25;refine AE (Zp (many:=3) O U hb V (by omega)) ?_;rintro⟨u,ag⟩ ⟨_,Y,_,K⟩;simp only at Y K ⊢;refine AM (b:=u) (by unfold NY De;rw [if_pos (by simp;omega)];rfl) (AM (b:=u++ [l]) (by unfold De;rw [if_pos (by simp;omega)]) ?_);exact Ak ⟨⟨u,u++ [l],rfl,by omega,by simp;omega⟩,K⟩
theorem Tz{α:Type}{P:α→Prop}{a b c:α}(K:P a)(hb:P b)(O:P c):∀i,i<3→∃x,([a,b,c]:List α)[i]? =some x∧P x
 | 0,_=>⟨a,rfl,K⟩
 | 1,_=>⟨b,rfl,hb⟩
 | 2,_=>⟨c,rfl,O⟩
theorem ZY{F:Nat}{J:JW}{lk:List (Int×Int)}{l:Int×Int}{Kb:List Int}{g:List JW×EA→List (List (Int×Int))×EA→Option Bool}(O:100<F)(hs:IJ F=some true)
  (H:∀(K:JW) (u v:List (Int×Int)) (a1 U:EA),NL J→NL K→lk.length≤20→u.length≤20→v.length≤20→BG 401 U→A0 (g ([J,K,K],a1) ([lk,u,v],U)) (fun r=>r=true)):
  A0 ((f21 F J).bind fun a2=>Option.bind (if a2=true then some true else some (decide (20<(lk.length:Int)))) fun a3=>if a3=true then(IJ F).bind fun x=>some x else(f23 F Kb).bind fun a4=>(f24 F J a4).bind fun V=>(ix V.1 1).bind fun a5=>(f25 F lk l a5 V.2).bind fun a6=>g V a6) (fun r=>r=true):=by
 refine AE (Y8 O) ?_;intro bb a7;refine AE (S:=fun c=>c=false→NL J∧lk.length≤20) ?_ ?_
 ·refine Bn (fun h=>Ak fun Y=>by cases Y) (fun h=>Ak fun Y=>⟨a7 (by simpa using h),by simp at Y;omega⟩)
 intro c a8;refine Bn (fun h=>AM hs (Ak rfl)) (fun h=>?_);obtain⟨Z,ag⟩:=a8 (by simpa using h);refine AM (b:=(Kb,0,2685821657736338717)) rfl (AE (Yw (k:=0) (b:=(Kb,0,2685821657736338717)) O Z ⟨Int.le_refl _,Int.le_refl _⟩ (by omega)) ?_);rintro⟨bd,U⟩ ⟨⟨n,K,al,am⟩,ap⟩;simp only at am ap;subst am;refine AM (b:=K) rfl (AE (Z3 (k:=301) O al ap (by omega) ag) ?_);rintro⟨ls,be⟩ ⟨⟨u,v,av,hu,a9⟩,a0⟩;simp only at av a0;subst av;exact H K u v _ _ Z al.nl ag hu a9 a0
end Pal
namespace Pal
open Go Go.Conc Go.Proofs
open Go.Proofs.Tryz
theorem aZ:PH Tryz.prog 81:=⟨_,_,underlying81,by decide+kernel,by decide+kernel,by decide,by decide,underlying3,underlying3,rfl,rfl⟩
def MO(fuel:Nat)(p3:Int)(Z:(List A1)×(BX))(ag:(List AI)×(BX))(O:Int)(al:(A1))(am:(AI))(K:Int):Option (Bi Int ((Bool)⊕(Unit))):= if K≤4 then(Option.bind (if K<0 then(some p3) else(some K)) fun U=> (HY fuel al am U).bind fun V=> (ix Z.1 O).bind fun ap=> (ix ag.1 O).bind fun av=> (f63 fuel ap av U).bind fun Y=> Option.bind (if V.2≠Y.2 then(some true) else((f32 fuel V.1 Y.1).bind fun a0=> some (!a0))) fun a1=> if a1=true then(some (.done (Sum.inl false))) else((As (K+1)).bind fun a2=> some (.more a2))) else(some (.done (Sum.inr ())))
def MG(fuel:Nat)(p3:Int)(O:(List A1)×(BX))(U:(List AI)×(BX))(K:Int):Option (Bi Int ((Bool)⊕(Unit))):= if K<(O.1.length:Int) then((ix O.1 K).bind fun al=> (ix U.1 K).bind fun am=> (f26 fuel al).bind fun V=> (f27 fuel am).bind fun Y=> (Ji fuel V Y).bind fun Z=> (ix O.1 K).bind fun ap=> (ix U.1 K).bind fun av=> (f62 fuel ap av).bind fun ag=> Option.bind (if ¬(Z.1.1=ag.1.1∧Z.1.2=ag.1.2) then(some true) else(some (decide (Z.2≠ag.2)))) fun a0=> if a0=true then(some (.done (Sum.inl false))) else(Option.bind (iter (MO fuel p3 O U K V Y) fuel (-1)) fun a1=> Sum.elim (fun r=>some (.done (Sum.inl r))) (fun a8=> (ix O.1 K).bind fun a2=> (f33 fuel V a2).bind fun a3=> Option.bind (if(!a3)=true then(some true) else((ix U.1 K).bind fun a4=> (f34 fuel Y a4).bind fun a5=> some (!a5))) fun a6=> if a6=true then(some (.done (Sum.inl false))) else((As (K+1)).bind fun a7=> some (.more a7))) a1)) else(some (.done (Sum.inr ())))
def NR(fuel:Nat)(p0:A1)(p1:AI)(p2:Int×Int)(p3:Int)(p4:List Int):Option Bool:= (f21 fuel p0).bind fun O=> Option.bind (if O=true then(some true) else(some (decide (20<(p1.length:Int))))) fun U=> if U=true then((IJ fuel).bind fun V=> some V) else((f23 fuel p4).bind fun Y=> (f24 fuel p0 Y).bind fun K=> (ix K.1 (1)).bind fun Z=> (f25 fuel p1 p2 Z K.2).bind fun ag=> Option.bind (iter (MG fuel p3 K ag) fuel 0) fun al=> Sum.elim (fun r=>some r) (fun ap=> (IJ fuel).bind fun am=> some am) al)
set_option maxHeartbeats 2000000 in
theorem V4{E H:LH}{ce:An}{c2:Nat}{cf:An}{cg:Nat}{bM:An}{bN:Nat}{bO:An}{bP:Nat}{p0:A1}{p1:AI}{p2:Int×Int}{p3:Int}{p4:List Int}(bA:GE E)(ci:Al (rL rI) E ce c2 p0.1)(ck:Al (rL rI) E cf cg p0.2)(dt:Al Bp E bM bN p1)(du:Al rI E bO bP p4){fuel:Nat}{r:Bool}(cm:NR fuel p0 p1 p2 p3 p4=some r):(DJ Tryz.prog).ok (K8 Tryz.prog (fun v _=>v= .bool r)) (G (Frame.enter Tryz.prog 15 ([.agg #[sV ce p0.1 c2,sV cf p0.2 cg],sV bM p1 bN,.agg #[iV p2.1,iV p2.2],iV p3,sV bO p4 bP]:List Value).toArray .normal) []) (mk E H []):=by
 refine Vx func15 rfl rfl (Nat.le_of_ble_eq_true rfl) ?_;have dv:Ax E H [[]]:=trivial;unfold NR at cm;refine zg 2 rfl (B4 dv fun dw hK ap cn dx=>?_);refine B4 dx fun dy hL Z dz dA=>?_;refine zg 5 rfl (BQ (cn.Ah Z) BY BC rfl rfl ?_);obtain⟨hM,dB,dC⟩:=bs cm;refine BD (ay (ci.Ah (ap.Ac Z)) (ck.Ah (ap.Ac Z)) dB) rfl rfl (AR func21 rfl) dA fun bQ av co=>?_;obtain⟨dD,dE,dF⟩:=bs dC;refine zg 1 rfl (Et [] (fun L s=>∃(cp:LH),Jm bQ H cp [] [(1,sV bM p1 bN),(3,iV p3),(4,sV bO p4 bP),(5,pV dw 0),(7,pV dy 0),(33,.bool dD)] L s) ?_ ?_)
 ·rintro _ _ ⟨cp,rfl,rfl,a0,cq⟩;refine JL.done (BF dF (fun dG dH=>?_) (fun dG dI=>?_))
  ·obtain⟨dJ,dK,dL⟩:=bs dH;refine zg 2 rfl (BD (SQ (bA.Ah (((ap.Ac Z).Ac av).Ac a0)) dK) rfl rfl (AR func22 rfl) cq fun hN hO hP=>?_);refine zg 2 rfl ?_;obtain rfl:=oi dL;exact Gu rfl (JO.end (v:= .bool dJ) rfl (by decide+kernel) func15 rfl rfl rfl)
  ·obtain⟨hQ,dM,dN⟩:=bs dI;refine zg 4 rfl (BL (aW (du.Ah (((ap.Ac Z).Ac av).Ac a0)) dM) rfl rfl (AR func23 rfl) cq ?_);rintro _ hR _ bi ⟨hS,hT,hU,rfl,rfl,dO⟩ dP;refine zg 4 rfl (BQ (cn.Ah (((Z.Ac av).Ac a0).Ac bi)) BY BC rfl rfl ?_);obtain⟨a3,dQ,dR⟩:=bs dN;refine zg 1 rfl (B6 0 (aw (ci.Ah ((((ap.Ac Z).Ac av).Ac a0).Ac bi)) (ck.Ah ((((ap.Ac Z).Ac av).Ac a0).Ac bi)) dO dQ) rfl rfl (AR func24 rfl) dP rfl ?_);rintro _ hV _ bu ⟨a4,a5,hW,hX,rfl,rfl,bv,dS⟩ dT;refine zg 3 rfl (CZ 6 fun ht=>?_);refine Ch 0 ht rfl rfl (Fb 1 ht (dz.Ah (((av.Ac a0).Ac bi).Ac bu)) Gt Cc rfl rfl rfl ?_);refine Ch 2 ht rfl rfl ?_;obtain⟨hY,dU,dV⟩:=bs dR;refine Cv 3 bv dU ht underlying33 BC ?_;rintro hZ h0 _ ⟨_,_,rfl,⟨h1,h2,rfl,dW⟩,⟨h3,h4,rfl,dX⟩⟩ dY;refine Fb 4 ht dY BY BC rfl rfl rfl (Ch 5 ht rfl rfl ?_);refine Cg [6,7] ?_;obtain⟨a6,dZ,ea⟩:=bs dV;refine B6 0 (aQ (dt.Ah (((((ap.Ac Z).Ac av).Ac a0).Ac bi).Ac bu)) dW dX dS dZ) rfl rfl (AR func25 rfl) dT rfl ?_;rintro _ eb _ bo ⟨a7,a8,h5,h6,rfl,rfl,bB,h7⟩ ec;obtain⟨cr,ed,bC⟩:=bs ea;refine zg 7 rfl (Br (fun L s=>∃(ct:Unit) (cu:LH),cr=Sum.inr ct∧Jm eb H cu [] [] L s) ?_ ?_)
   ·rintro _ _ ⟨ct,cu,rfl,rfl,rfl,ee,ef⟩;have eg:=elim_inr bC;obtain⟨eh,ei,ej⟩:=bs eg;refine zg 2 rfl (BD (SQ (bA.Ah (((((((ap.Ac Z).Ac av).Ac a0).Ac bi).Ac bu).Ac bo).Ac ee)) ei) rfl rfl (AR func22 rfl) ef fun h8 h9 ia=>?_);refine zg 2 rfl ?_;obtain rfl:=oi ej;exact Gu rfl (JO.end (v:= .bool eh) rfl (by decide+kernel) func15 rfl rfl rfl)
   ·intro ek;refine JL.block (JS.drop 0 ec rfl fun el=>?_);refine Cy ed (fun al=> []) (fun al=> [(3,iV p3),(12,sV a4 a3.1 a5),(13,sV a7 a6.1 a8),(14,iV al)]) Ar el ?_;rintro al cv ag bR bD ⟨ic,bq⟩ em;have cw:=bq;unfold MG at cw;refine zg 5 rfl (Bh underlying33 rfl rfl rfl ?_);refine zg 2 rfl (AN cw (fun en eo=>?_) (fun en ep=>?_))
    ·refine zg 4 rfl (CZ 11 fun ht=>?_);refine A2 ht rfl [0,1] rfl ?_;obtain⟨bE,eq,er⟩:=bs eo;refine Cv 2 (bv.Ah (bo.Ac ag)) eq ht underlying33 BC ?_;rintro ie ig _ ⟨_,_,rfl,⟨cy,cz,rfl,cA⟩,⟨cB,cC,rfl,cD⟩⟩ et;refine Fb 3 ht et BY BC rfl rfl rfl (A2 ht rfl [5,6] rfl ?_);obtain⟨bS,eu,ew⟩:=bs er;refine Cv 7 (bB.Ah ag) eu ht underlying35 Hl ?_;rintro ih ii _ ⟨bT,bU,rfl,bV⟩ ex;refine Co 8 ht 0 ex HJ rfl rfl rfl rfl ?_;obtain⟨br,cE,ey⟩:=bs ew;obtain⟨a9,bW,ez⟩:=bs ey;refine EO 2 #[true,true,true,true,true,true,true,true,true,true,true,false,false] (fun L s=>∃(bw:LH) (bF:An) (bG:Nat) (bH:An) (bI:Nat) (a1:An) (a2:Nat) (bb:Nat),Jn cv H bw [bX bb #[nS,nS] 24] [(3,iV p3),(12,sV a4 a3.1 a5),(13,sV a7 a6.1 a8),(14,iV al),(15,pV bb 0),(57,.agg #[sV bF br.1 bG,sV bH br.2 bI]),(62,sV a1 a9 a2)] L s (Al (rL rI) bw bF bG br.1∧Al (rL rI) bw bH bI br.2∧Al Bp bw a1 a2 a9)) ?_ ?_
     ·rintro _ _ ⟨bw,bF,bG,bH,bI,a1,a2,bb,rfl,rfl,bd,eA,bY,bZ,b0⟩;refine Cg [11,12] (BM 0 eA BC fun eB=>?_);refine CV 0 eB rfl fun ij K b1 eC=>zg 4 rfl (BQ b1 BY BC rfl rfl ?_);obtain⟨b2,eD,eE⟩:=bs ez;refine zg 1 rfl (BD (ZS (bA.Ah (((((((((ap.Ac Z).Ac av).Ac a0).Ac bi).Ac bu).Ac bo).Ac ag).Ac bd).Ac K)) (bY.Ah K) (bZ.Ah K) (b0.Ah K) eD) rfl rfl (AR func61 rfl) eC fun ik O eF=>?_);refine zg 3 rfl (Cz eF HM fun eG eH=>?_);refine BM 2 eH Ge fun eI=>?_;refine CV 2 eI rfl fun eJ U eK cF=>zg 3 rfl (CZ 14 fun ht=>?_);refine A2 ht rfl [0,1] rfl ?_;obtain⟨bJ,eL,eM⟩:=bs eE;refine Cv 2 (bv.Ah (((((bo.Ac ag).Ac bd).Ac K).Ac O).Ac U)) eL ht underlying33 BC ?_;rintro il io _ ⟨_,_,rfl,⟨cG,cH,rfl,cI⟩,⟨cJ,cK,rfl,cM⟩⟩ eN;refine Fb 3 ht eN BY BC rfl rfl rfl (A2 ht rfl [4,5] rfl ?_);obtain⟨cN,eO,eP⟩:=bs eM;refine Cv 6 (bB.Ah ((((ag.Ac bd).Ac K).Ac O).Ac U)) eO ht underlying35 Hl ?_;rintro iq ir _ ⟨cO,cP,rfl,cQ⟩ eQ;refine Co 7 ht 0 eQ HJ rfl rfl rfl rfl ?_;obtain⟨am,cR,eR⟩:=bs eP;refine EO 1 #[true,true,true,true,true,true,true,true,true,true,true,true,true,true,false] (fun L s=>∃(bx:LH) (b3:Nat),Jm eJ H bx [bX b3 #[iV am.1.1,iV am.1.2] 81] [(3,iV p3),(12,sV a4 a3.1 a5),(13,sV a7 a6.1 a8),(14,iV al),(15,pV bb 0),(16,sV a1 a9 a2),(17,pV eG 0),(18,iV b2.2),(19,pV b3 0),(80,iV am.2)] L s) ?_ ?_
      ·rintro _ _ ⟨bx,b3,rfl,rfl,V,b4⟩;refine Cg [14] (zg 5 rfl ?_);refine BQ (eK.Ah V) Jo Ge rfl rfl (AB rfl (fun ρ h=>FJ (vs:= [iV am.1.1,iV am.1.2]) Jo Ge (h _ _ rfl) (ED (off:=0) 0 b4 rfl rfl)) ?_);refine AB (v:= .bool (decide (¬(b2.1.1=am.1.1∧b2.1.2=am.1.2)))) rfl (fun ρ h=>QV aZ (h _ _ rfl) (h _ _ rfl)) ?_;obtain⟨eS,eT,eU⟩:=bs eR;refine zg 1 rfl (Et [] (fun L s=>∃(b5:LH),Jm bx H b5 [] [(3,iV p3),(12,sV a4 a3.1 a5),(13,sV a7 a6.1 a8),(14,iV al),(15,pV bb 0),(16,sV a1 a9 a2),(88,.bool eS)] L s) ?_ ?_)
       ·rintro _ _ ⟨b5,rfl,rfl,Y,eV⟩;refine JL.done (BF eU (fun eW eX=>?_) (fun eW eY=>?_))
        ·refine zg 4 rfl ?_;obtain rfl:=oi eX;obtain rfl:=bD _ bq;have eZ:=elim_inl bC;obtain rfl:=oi eZ;exact Gu rfl (JO.end (v:= .bool false) rfl (by decide+kernel) func15 rfl rfl rfl)
        ·obtain⟨cT,e0,cV⟩:=bs eY;refine zg 6 rfl (Br (fun L s=>∃(cW:Unit) (cX:LH),cT=Sum.inr cW∧Jm b5 H cX [] [(3,iV p3),(12,sV a4 a3.1 a5),(13,sV a7 a6.1 a8),(14,iV al),(15,pV bb 0),(16,sV a1 a9 a2)] L s) ?_ ?_)
         ·rintro _ _ ⟨cW,cX,rfl,rfl,rfl,bp,e1⟩;have e2:=elim_inr cV;refine JL.seq (CZ 16 fun ht=>?_);refine Fb 0 ht (b1.Ah ((((O.Ac U).Ac V).Ac Y).Ac bp)) BY BC rfl rfl rfl (A2 ht rfl [1,2] rfl ?_);obtain⟨cY,e3,e4⟩:=bs e2;refine Cv 3 (bv.Ah ((((((((bo.Ac ag).Ac bd).Ac K).Ac O).Ac U).Ac V).Ac Y).Ac bp)) e3 ht underlying33 BC ?_;rintro it iu _ ⟨_,_,rfl,⟨e5,e6,rfl,e7⟩,⟨e8,e9,rfl,fa⟩⟩ fb;refine Fb 4 ht fb BY BC rfl rfl rfl ?_;obtain⟨cZ,fc,fd⟩:=bs e4;refine JG.call (i:=5) (vs:= [.agg #[sV bF br.1 bG,sV bH br.2 bI],.agg #[sV e5 cY.1 e6,sV e8 cY.2 e9]]) (aG (bY.Ah (((((K.Ac O).Ac U).Ac V).Ac Y).Ac bp)) (bZ.Ah (((((K.Ac O).Ac U).Ac V).Ac Y).Ac bp)) e7 fa fc) (by decide+kernel) rfl rfl rfl (AR func33 rfl) rfl e1 ?_;rintro _ c0 _ b6 ⟨rfl,rfl⟩ c1;refine Bx (v:= .bool (!cZ)) 6 ht rfl rfl (fun ρ h s' hs=>Yl.not (h _ _ rfl)) (Ch 7 ht rfl rfl ?_);obtain⟨fe,c3,ff⟩:=bs fd;refine EO 0 #[true,true,true,true,true,true,true,true,true,true,true,true,true,true,true,true] (fun L s=>∃(c4:LH),Jm c0 H c4 [] [(3,iV p3),(12,sV a4 a3.1 a5),(13,sV a7 a6.1 a8),(14,iV al),(141,.bool fe)] L s) ?_ ?_
          ·rintro _ _ ⟨c4,rfl,rfl,fg,fh⟩;refine AY.fin (by decide+kernel) (BF ff (fun fj fk=>?_) (fun fj fm=>?_))
           ·refine zg 4 rfl ?_;obtain rfl:=oi fk;obtain rfl:=bD _ bq;have fo:=elim_inl bC;obtain rfl:=oi fo;exact Gu rfl (JO.end (v:= .bool false) rfl (by decide+kernel) func15 rfl rfl rfl)
           ·obtain⟨fp,fq,fs⟩:=bs fm;refine zg 4 rfl (Be fq rfl rfl rfl ?_);refine zg 2 rfl ?_;obtain rfl:=oi fs;exact em fp (((((((((ag.Ac bd).Ac K).Ac O).Ac U).Ac V).Ac Y).Ac bp).Ac b6).Ac fg) fh rfl bq
          ·intro c5;refine Uu (c:=(!cZ)) (i:=133) rfl (fun b7=>?_) (fun b7=>?_)
           ·have fu:=ip c3 b7;refine A2 ht rfl [8,9,10,11,12,13,14,15] rfl ?_;obtain rfl:=oi fu;refine C4 ?_ (c5 _ _ ⟨c0,rfl,rfl,Ar,c1⟩);exact⟨rfl,rfl,rfl,rfl,rfl,trivial⟩
           ·have fv:=ib c3 b7;refine A2 ht rfl [8,9,10] rfl ?_;obtain⟨fw,fx,fy⟩:=bs fv;refine Cv 11 (bB.Ah ((((((((ag.Ac bd).Ac K).Ac O).Ac U).Ac V).Ac Y).Ac bp).Ac b6)) fx ht underlying35 Hl ?_;rintro iv iw _ ⟨fz,fA,rfl,fB⟩ fC;refine Co 12 ht 0 fC HJ rfl rfl rfl rfl ?_;obtain⟨fD,fE,fF⟩:=bs fy;refine JG.call (i:=13) (vs:= [sV a1 a9 a2,sV fz fw fA]) (aF (b0.Ah ((((((K.Ac O).Ac U).Ac V).Ac Y).Ac bp).Ac b6)) fB fE) (by decide+kernel) rfl rfl rfl (AR func34 rfl) rfl c1 ?_;rintro _ fG _ fH ⟨rfl,rfl⟩ fI;refine Bx (v:= .bool (!fD)) 14 ht rfl rfl (fun ρ h s' hs=>Yl.not (h _ _ rfl)) ?_;refine Ch 15 ht rfl rfl ?_;obtain rfl:=oi fF;refine C4 ?_ (c5 _ _ ⟨fG,rfl,rfl,fH,fI⟩);exact⟨rfl,rfl,rfl,rfl,rfl,trivial⟩
         ·intro fJ;refine JL.block (Cy e0 (fun bz=> []) (fun bz=> [(3,iV p3),(12,sV a4 a3.1 a5),(13,sV a7 a6.1 a8),(14,iV al),(15,pV bb 0),(16,sV a1 a9 a2),(21,iV bz)]) Ar eV ?_);rintro bz fK be b8 c6 ⟨iy,bK⟩ fL;have c7:=bK;unfold MO at c7;refine zg 6 rfl (AN c7 (fun fM fN=>?_) (fun fM fO=>?_))
          ·obtain⟨c8,fP,fQ⟩:=bs fN;refine zg 14 rfl (C7 [] [(3,iV p3),(12,sV a4 a3.1 a5),(13,sV a7 a6.1 a8),(14,iV al),(15,pV bb 0),(16,sV a1 a9 a2),(21,iV bz),(22,iV c8)] (fun iz bn fR=>?_) (fun c9=>?_))
           ·refine zg 2 rfl (BQ (b1.Ah (((((O.Ac U).Ac V).Ac Y).Ac be).Ac bn)) BY BC rfl rfl ?_);obtain⟨iA,fS,fT⟩:=bs fQ;refine zg 2 rfl (BL (SK (bA.Ah (((((((((((((((ap.Ac Z).Ac av).Ac a0).Ac bi).Ac bu).Ac bo).Ac ag).Ac bd).Ac K).Ac O).Ac U).Ac V).Ac Y).Ac be).Ac bn)) (bY.Ah ((((((K.Ac O).Ac U).Ac V).Ac Y).Ac be).Ac bn)) (bZ.Ah ((((((K.Ac O).Ac U).Ac V).Ac Y).Ac be).Ac bn)) (b0.Ah ((((((K.Ac O).Ac U).Ac V).Ac Y).Ac be).Ac bn)) fS) rfl rfl (AR func43 rfl) fR ?_);rintro _ iB _ b9 ⟨iC,iD,rfl,rfl,fU⟩ fW;refine zg 7 rfl (CZ 14 fun ht=>?_);refine A2 ht rfl [0,1] rfl ?_;obtain⟨da,fX,fY⟩:=bs fT;refine Cv 2 (bv.Ah ((((((((((bo.Ac ag).Ac bd).Ac K).Ac O).Ac U).Ac V).Ac Y).Ac be).Ac bn).Ac b9)) fX ht underlying33 BC ?_;rintro iE iF _ ⟨_,_,rfl,⟨fZ,ga,rfl,gb⟩,⟨gc,gd,rfl,ge⟩⟩ gf;refine Fb 3 ht gf BY BC rfl rfl rfl (A2 ht rfl [4,5] rfl ?_);obtain⟨gg,gh,gi⟩:=bs fY;refine Cv 6 (bB.Ah (((((((((ag.Ac bd).Ac K).Ac O).Ac U).Ac V).Ac Y).Ac be).Ac bn).Ac b9)) gh ht underlying35 Hl ?_;rintro iG iH _ ⟨gj,gk,rfl,gl⟩ gm;refine Co 7 ht 0 gm HJ rfl rfl rfl rfl (Ch 8 ht rfl rfl ?_);obtain⟨iI,gn,gp⟩:=bs gi;refine JG.call (i:=9) (vs:= [.agg #[sV fZ da.1 ga,sV gc da.2 gd],sV gj gg gk,iV c8]) (aY gb ge gl gn) (by decide+kernel) rfl rfl rfl (AR func63 rfl) rfl fW ?_;rintro _ db _ dc ⟨iJ,iK,rfl,rfl,gq⟩ dd;refine A2 ht rfl [10,11,12,13] rfl (Cg [14] ?_);obtain⟨gr,gt,gu⟩:=bs gp;refine zg 8 rfl (Et [] (fun L s=>∃(de:LH),Jm db H de [] [(3,iV p3),(12,sV a4 a3.1 a5),(13,sV a7 a6.1 a8),(14,iV al),(15,pV bb 0),(16,sV a1 a9 a2),(21,iV bz),(125,.bool gr)] L s) ?_ ?_)
            ·rintro _ _ ⟨de,rfl,rfl,gv,gw⟩;refine JL.done (BF gu (fun gx gy=>?_) (fun gx gz=>?_))
             ·refine zg 4 rfl ?_;obtain rfl:=oi gy;obtain rfl:=c6 _ bK;have gA:=elim_inl cV;obtain rfl:=oi gA;obtain rfl:=bD _ bq;have gB:=elim_inl bC;obtain rfl:=oi gB;exact Gu rfl (JO.end (v:= .bool false) rfl (by decide+kernel) func15 rfl rfl rfl)
             ·obtain⟨gC,gD,gE⟩:=bs gz;refine zg 4 rfl (Be gD rfl rfl rfl ?_);refine zg 2 rfl ?_;obtain rfl:=oi gE;exact fL gC ((((be.Ac bn).Ac b9).Ac dc).Ac gv) gw rfl bK
            ·intro df;refine D7 120 gt (fun gF gG=>?_) (fun gF gH=>?_)
             ·refine zg 5 rfl ?_;obtain rfl:=oi gG;exact Ay (df _ _ ⟨db,rfl,rfl,Ar,dd⟩) rfl
             ·obtain⟨gI,gJ,gK⟩:=bs gH;refine zg 2 rfl (BD (LB (fU.Ah dc) gq gJ) rfl rfl Km dd fun gL gM gN=>?_);refine AB (v:= .bool (!gI)) rfl (fun ρ h=>Yl.not (h _ _ rfl)) (zg 1 rfl ?_);obtain rfl:=oi gK;exact Ay (df _ _ ⟨gL,rfl,rfl,gM,gN⟩) rfl
           ·refine AN fP (fun gO gP=>?_) (fun gO gQ=>?_)
            ·refine zg 4 rfl ?_;obtain rfl:=oi gP;exact c9 Ar b8 rfl
            ·refine JL.skip ?_;obtain rfl:=oi gQ;exact c9 Ar b8 rfl
          ·refine JL.exit rfl ?_;obtain rfl:=oi fO;have gR:cT=(Sum.inr ()):=(c6 _ bK).symm;exact Ay (fJ _ _ ⟨(),fK,gR,rfl,rfl,be,b8⟩) rfl
       ·intro dg;refine D7 84 eT (fun gS gT=>?_) (fun gS gU=>?_)
        ·refine zg 4 rfl (JS.drop 0 b4 rfl fun gV=>?_);obtain rfl:=oi gT;exact Ay (dg _ _ ⟨bx,rfl,rfl,Ar,gV⟩) rfl
        ·refine zg 4 rfl (JS.drop 0 b4 rfl fun gW=>?_);obtain rfl:=oi gU;exact Ay (dg _ _ ⟨bx,rfl,rfl,Ar,gW⟩) rfl
      ·intro dh;refine IB (i:=8) (j:=12) rfl (by decide+kernel) ?_ ?_
       ·refine Take.G9 (vs:= [.agg #[sV cG bJ.1 cH,sV cJ bJ.2 cK],sV cO cN cP]) cF (Ta cI cM cQ cR) rfl rfl rfl (AR func62 rfl) rfl ?_;rintro _ gX _ gY ⟨rfl,rfl⟩ gZ;refine A2 ht rfl [9,10,11] rfl (JG.one (i:=12) rfl (by decide+kernel) ?_);refine Take.Ja gZ rfl rfl rfl HM fun g0 g1=>JG.one (i:=13) rfl (by decide+kernel) (Take.Sv (v:= .agg #[iV am.1.1,iV am.1.2]) (off:=0) 4 g1 rfl rfl rfl rfl rfl Ge (by simp [Value.cells,CG]) rfl (Nat.le_of_ble_eq_true rfl) fun g3=>?_);exact Ll (dh _ _ ⟨gX,g0,rfl,rfl,gY,g3⟩) rfl
       ·refine Take.Ja cF rfl rfl rfl HM fun g4 g5=>JG.one (i:=8) rfl (by decide+kernel) (Take.G9 (vs:= [.agg #[sV cG bJ.1 cH,sV cJ bJ.2 cK],sV cO cN cP]) g5 (Ta cI cM cQ cR) rfl rfl rfl (AR func62 rfl) rfl ?_);rintro _ g6 _ g7 ⟨rfl,rfl⟩ g8;refine A2 ht rfl [9,10,11] rfl (JG.one (i:=13) rfl (by decide+kernel) ?_);exact Take.Sv (v:= .agg #[iV am.1.1,iV am.1.2]) (off:=0) 3 g8 rfl rfl rfl rfl rfl Ge (by simp [Value.cells,CG]) rfl (Nat.le_of_ble_eq_true rfl) fun g9=>Ll (dh _ _ ⟨g6,g4,rfl,rfl,g7,g9⟩) rfl
     ·intro ca;refine IB (i:=4) (j:=10) rfl (by decide+kernel) ?_ ?_
      ·refine Take.G9 (vs:= [.agg #[sV cy bE.1 cz,sV cB bE.2 cC]]) bR (Tp cA cD cE) rfl rfl rfl (AR func26 rfl) rfl ?_;rintro _ iL _ bL ⟨di,dj,dk,dl,rfl,rfl,dm,dn⟩ dp;refine IB (i:=9) (j:=10) rfl (by decide+kernel) ?_ ?_
       ·refine Take.G9 (vs:= [sV bT bS bU]) dp (Pk (bV.Ah bL) bW) rfl rfl rfl Kq rfl ?_;rintro _ ha _ cb ⟨hb,hc,rfl,rfl,hd⟩ he;refine JG.one (i:=10) rfl (by decide+kernel) (Take.Ja he rfl rfl rfl GW fun hf hj=>?_);exact Ll (ca _ _ ⟨ha,di,dj,dk,dl,hb,hc,hf,rfl,rfl,(bL.Ac cb),hj,(dm.Ah cb),(dn.Ah cb),hd⟩) rfl
       ·refine Take.Ja dp rfl rfl rfl GW fun hk hl=>JG.one (i:=9) rfl (by decide+kernel) (Take.G9 (vs:= [sV bT bS bU]) hl (Pk (bV.Ah bL) bW) rfl rfl rfl Kq rfl ?_);rintro _ hm _ cc ⟨hn,ho,rfl,rfl,hp⟩ hq;exact Ll (ca _ _ ⟨hm,di,dj,dk,dl,hn,ho,hk,rfl,rfl,(bL.Ac cc),hq,(dm.Ah cc),(dn.Ah cc),hp⟩) rfl
      ·refine Take.Ja bR rfl rfl rfl GW fun r431 hr=>JG.one (i:=4) rfl (by decide+kernel) (Take.G9 (vs:= [.agg #[sV cy bE.1 cz,sV cB bE.2 cC]]) hr (Tp cA cD cE) rfl rfl rfl (AR func26 rfl) rfl ?_);rintro _ iM _ dq ⟨hu,hv,hw,hx,rfl,rfl,hy,hz⟩ hA;refine JG.one (i:=9) rfl (by decide+kernel) (Take.G9 (vs:= [sV bT bS bU]) hA (Pk (bV.Ah dq) bW) rfl rfl rfl Kq rfl ?_);rintro _ hB _ cd ⟨hC,hD,rfl,rfl,hE⟩ hF;exact Ll (ca _ _ ⟨hB,hu,hv,hw,hx,hC,hD,r431,rfl,rfl,(dq.Ac cd),hF,(hy.Ah cd),(hz.Ah cd),hE⟩) rfl
    ·refine JL.exit rfl ?_;obtain rfl:=oi ep;have hG:cr=(Sum.inr ()):=(bD _ bq).symm;exact Ay (ek _ _ ⟨(),cv,hG,rfl,rfl,ag,bR⟩) rfl
 ·intro dr;refine DO 29 dE (fun hH hI=>?_) (fun hH hJ=>?_)
  ·refine zg 4 rfl ?_;obtain rfl:=oi hI;exact Ay (dr _ _ ⟨bQ,rfl,rfl,Ar,co⟩) rfl
  ·refine zg 1 rfl (Bh underlying25 rfl rfl rfl ?_);refine zg 2 rfl ?_;obtain rfl:=oi hJ;exact Ay (dr _ _ ⟨bQ,rfl,rfl,Ar,co⟩) rfl
end Pal
namespace Pal
theorem XI{F:Nat}(a1:3489660928<F)(hs:IJ F=some true)(J:JW)(lk:List (Int×Int))(l:Int×Int)(a:Int)(Kb:List Int):NR F J lk l a Kb=some true:=by
 have O:100<F:=by omega
 refine CE ?_;unfold NR;refine ZY O hs ?_;intro a2 u v a3 a4 ag Z al hu am _;refine AE (S:=fun q=>q=Sum.inr ()) ?_ (by rintro q rfl;rw [Sum.elim_inr];exact AM hs (Ak rfl));refine Cl 3 (fun i s=>s=(i:Int)) rfl (by omega) ?_ ?_
 ·rintro i s hi rfl;unfold MG;obtain⟨K,V,U⟩:=Tz (P:=NL) ag Z Z i hi;obtain⟨L,Y,ap⟩:=Tz (P:=fun K:List (Int×Int)=>K.length≤20) al hu am i hi;refine Bs (by simp;omega) (AM (D6 (m:=i) rfl V) ?_);refine AM (D6 (m:=i) rfl Y) (AM (YL O U) ?_);refine AM (Y2 (by omega)) (AE (VQ (by omega) U) ?_);intro a5 av;refine AM (D6 (m:=i) rfl V) (AM (D6 (m:=i) rfl Y) ?_);refine AE (Yo O U) ?_;intro a6 a0;obtain rfl:=av.uniq a0;refine AM (b:=false) (by rw [if_neg (by simp)];simp) (A5 (by simp) ?_);refine AE (S:=fun q=>q=Sum.inr ()) ?_ ?_
  ·refine Cl 6 (fun j s=>s=(j:Int) - 1) rfl (by omega) ?_ ?_
   ·rintro j s a7 rfl;unfold MO;refine Bs (by omega) (AE (S:=fun _=>True) (Bn (fun _=>Ak trivial) (fun _=>Ak trivial)) ?_);intro y _;refine AM (Wy (by omega) U) (AM (D6 (m:=i) rfl V) ?_);refine AM (D6 (m:=i) rfl Y) (AM (WZ O U) ?_);refine AM (b:=false) (by rw [if_neg (by simp),SR O (V6 K L y)];rfl) (A5 (by simp) ?_);exact AW (((j+1:Nat):Int) - 1) (by simp) (by omega) (by omega) (Ak rfl)
   ·rintro s rfl;unfold MO;exact A5 (by omega) (Ak ⟨_,rfl,rfl⟩)
  ·rintro q rfl;rw [Sum.elim_inr];refine AM (D6 (m:=i) rfl V) (AM (Z8 O U) ?_);refine AM (b:=false) ?_ ?_
   ·rw [if_neg (by simp),D6 (m:=i) rfl Y,Option.bind_some,YR O ap];rfl
   refine A5 (by simp) (AW ((i+1:Nat):Int) (by simp) (by omega) (by omega) ?_);exact Ak rfl
 ·rintro s rfl;unfold MG;exact A5 (by simp) (Ak ⟨_,rfl,rfl⟩)
end Pal
