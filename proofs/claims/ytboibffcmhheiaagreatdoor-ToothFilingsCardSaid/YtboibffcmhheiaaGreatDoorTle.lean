/- toothFilings_card. Part 5 of 8. -/
import Derived.Test.YtboibffcmhheiaaGreatDoorTlc
import Derived.Test.YtboibffcmhheiaaGreatDoorTld
set_option linter.all false
set_option maxRecDepth 100000
namespace Pal
abbrev CG:=Int×List Int×Nat
def CU(t:CG):Nat:=(Cw t.2.2 16).length
theorem Xx{F:Nat}{t:CG}(K:100<F)(h:t.2.2<65536):f130 F t=some (CU t:Int):=by
 unfold f130;rw [OU K h];rfl
def DC(K:List CG)(q:Int×List CG):Prop:=(K= []∧q=(0,[]))∨∃k:Nat,q.1=(k:Int)∧(∃t∈K,CU t=k)∧(∀t∈K,k≤CU t)∧q.2=K.filter (fun t=>decide (CU t=k))
theorem DC.len{K:List CG}{q:Int×List CG}(h:DC K q):q.2.length≤K.length:=by
 rcases h with⟨_,rfl⟩ | ⟨k,_,_,_,h⟩
 ·simp
 ·rw [h];exact List.length_filter_le _ _
theorem DC.sub{K:List CG}{q:Int×List CG}(h:DC K q):∀t∈q.2,t∈K∧(CU t:Int)=q.1:=by
 rcases h with⟨_,rfl⟩ | ⟨k,O,_,_,h⟩
 ·simp
 ·intro t ht;rw [h] at ht;obtain⟨a,b⟩:=List.mem_filter.1 ht;exact⟨a,by rw [O,of_decide_eq_true b]⟩
theorem DC.snoc(F:Nat){O:List CG}{q:Int×List CG}{t:CG}(h:DC O q)(a1:O.length<2 ^ 39):∃K,IB F q.1 q.2 t (CU t:Int)=some K∧DC (O++ [t]) K:=by
 have av:=h.len;obtain⟨le,all⟩:=q;simp only at av ⊢;have fresh:∀c:Bool,c=true→(∀s∈O,CU t<CU s)→∃K:Int×List CG,(Option.bind (if c=true then some ((CU t:Int),([]:List CG)) else some (le,all)) fun U=>Option.bind (if(CU t:Int)=U.1 then(Dd U.2 ([t]:List CG)).bind fun aY=>some aY else some U.2) fun aZ=>some (U.1,aZ))=some K∧DC (O++ [t]) K:=by
  rintro c rfl V;refine⟨((CU t:Int),[t]),?_,.inr ⟨CU t,rfl,⟨t,by simp,rfl⟩,?_,?_⟩⟩
  ·simp [Dd]
  ·intro s hs;rcases List.mem_append.1 hs with hs | hs
   ·exact Nat.le_of_lt (V s hs)
   ·simp at hs;subst hs;exact Nat.le_refl _
  ·rw [List.filter_append,List.filter_eq_nil_iff.2 fun s hs=>by have:=V s hs;simp;omega];simp
 unfold IB;rcases h with⟨rfl,he⟩ | ⟨k,ap,⟨s,hs,Z⟩,ag,Y⟩
 ·cases he;simp only [List.length_nil];obtain⟨K,al,am⟩:=fresh true rfl (fun s hs=>by simp at hs);exact⟨K,by simpa using al,am⟩
 ·simp only at ap Y;subst ap;have a0:¬((all.length:Int)=0):=by
   have:s∈all:=by rw [Y];exact List.mem_filter.2 ⟨hs,by simpa using Z⟩
   have:=List.length_pos_of_mem this;omega
  rw [if_neg a0];simp only [Option.bind_some];rcases Nat.lt_trichotomy (CU t) k with V | heq | a2
  ·obtain⟨K,al,am⟩:=fresh (decide ((CU t:Int)<(k:Int))) (decide_eq_true (by omega)) (fun s hs=>Nat.lt_of_lt_of_le V (ag s hs));exact⟨K,al,am⟩
  ·rw [if_neg (by rw [decide_eq_true_iff];omega)];simp only [Option.bind_some];rw [if_pos (by omega)];refine⟨((k:Int),all++ [t]),?_,.inr ⟨k,rfl,⟨s,by simp [hs],Z⟩,?_,?_⟩⟩
   ·unfold Dd;rw [if_pos (by simp;omega)];rfl
   ·intro u hu;rcases List.mem_append.1 hu with hu | hu
    ·exact ag u hu
    ·simp at hu;subst hu;omega
   ·rw [List.filter_append,Y];simp [heq]
  ·rw [if_neg (by rw [decide_eq_true_iff];omega)];simp only [Option.bind_some];rw [if_neg (by omega)];refine⟨((k:Int),all),rfl,.inr ⟨k,rfl,⟨s,by simp [hs],Z⟩,?_,?_⟩⟩
   ·intro u hu;rcases List.mem_append.1 hu with hu | hu
    ·exact ag u hu
    ·simp at hu;subst hu;omega
   ·rw [List.filter_append,← Y];have:¬CU t=k:=by omega
    simp [this]
theorem Oe{F:Nat}{a:Int}(O:100<F):∀(l:List (List Int×Nat)) (K:List CG) (q:Int×List CG),DC K q→K.length+l.length<2 ^ 39→(∀x∈l,x.2<65536)→
  ∃U,Ft (add1 F a) l q=some U∧DC (K++l.map fun x=>(a,x.1,x.2)) U
 | [],K,q,h,_,_=>⟨q,rfl,by simpa using h⟩
 | x::l,K,q,h,Y,V=>by
  simp only [List.length_cons] at Y
  obtain⟨q1,Z,ag⟩:=h.snoc F (t:=(a,x.1,x.2)) (by omega)
  obtain⟨q2,al,am⟩:=Oe O l (K++ [(a,x.1,x.2)]) q1 ag (by simp;omega) (fun y ap=>V y (by simp [ap]))
  refine⟨q2,?_,by simpa using am⟩
  unfold Ft add1
  rw [Xx (t:=(a,x.1,x.2)) O (V x (by simp))]
  simp only [Option.bind_some]
  rw [Z];exact al
def TA(J:JW)(lk:Bf)(a:Nat):List CG:=(D2 J lk (CO lk+1) (AG J a) [] 0).map fun x=>((a:Int),x.1,x.2)
def TT(J:JW)(lk:Bf):List CG:=(List.range 13).flatMap (TA J lk)
theorem SA{n:Nat}{J:JW}{lk:Bf}(K:B9 n lk)(a:Nat):(TA J lk a).length≤268435456:=by
 unfold TA;rw [List.length_map];exact Nat.le_trans (ML _ _ _ _ _ _) (WA (by have:=Ik K;omega))
theorem Ot{F n a:Nat}{J:JW}{lk:Bf}(K:100<F)(O:VJ n J)(U:B9 n lk)(V:a<13):∃q,GA F (J.1,J.2,Gp J) lk (a:Int)=some q∧DC (TA J lk a) q∧∀t∈TA J lk a,t.2.2<65536:=by
 have av:=Ik U;have Y:(16:Nat) ^ (CO lk+1)≤16 ^ 7:=Nat.pow_le_pow_right (by omega) (by omega);have Z:∀l:List (List Int×Nat),l.length≤16 ^ 7→(∀x∈l,x.2<65536)→(Ho F (a:Int) l).isSome=true:=fun l aY ag=>by
  obtain⟨q,e,_⟩:=Oe (a:=(a:Int)) K l [] (0,[]) (.inl ⟨rfl,rfl⟩) (by simp;omega) ag;unfold Ho;rw [e];rfl
 obtain⟨d1,d2⟩:=ZG (A:=Gp J) (age:=(a:Int)) (ok:=fun ac=>(Ho F (a:Int) ac).isSome) K O U Z (CO lk+1) F (AG J a) [] 0 [] (by simp) (by omega) (Ix O a) (by omega) (by simpa using Y) (by simp);obtain⟨q,al,am⟩:=Oe (a:=(a:Int)) K (D2 J lk (CO lk+1) (AG J a) [] 0) [] (0,[]) (.inl ⟨rfl,rfl⟩) (by have:=ML J lk (CO lk+1) (AG J a) [] 0;simp;omega) d2;refine⟨q,?_,by unfold TA;simpa using am,?_⟩
 ·unfold GA J2;rw [D6 (m:=a) rfl (W9 J V)];simp only [Option.bind_some];rw [d1];simp only [Option.bind_some,List.nil_append];exact al
 ·intro t ht;obtain⟨x,ap,rfl⟩:=List.mem_map.1 ht;exact d2 x ap
theorem UD{F n:Nat}{J:JW}{lk:Bf}(O:100<F)(U:VJ n J)(V:B9 n lk):∃qs:Nat→Int×List CG,JM F (J.1,J.2,Gp J) lk=some (DX qs)∧∀j,j<13→DC (TA J lk j) (qs j):=by
 refine⟨fun j=>(GA F (J.1,J.2,Gp J) lk ((j:Nat):Int)).getD (0,[]),?_,fun j K=>?_⟩
 ·unfold JM;rw [if_pos];rw [List.all_eq_true];intro j K;obtain⟨q,e,_⟩:=Ot O U V (List.mem_range.1 K);rw [e];rfl
 ·obtain⟨q,e,h,_⟩:=Ot O U V K;simp only [e];exact h
theorem Q9{α β:Type}{f g:α→List β}:∀{l:List α},(∀x∈l,f x=g x)→l.flatMap f=l.flatMap g
 | [],_=>rfl
 | x::l,h=>by rw [List.flatMap_cons,List.flatMap_cons,h x (by simp),Q9 fun y K=>h y (by simp [K])]
theorem DC.flat{T:Nat→List CG}{Q:Nat→Int×List CG}{l:List Nat}{r:Int×List CG}(h:∀j∈l,DC (T j) (Q j))(aY:DC (l.flatMap fun j=>(Q j).2) r):DC (l.flatMap T) r:=by
 have F0:∀j∈l,(Q j).2= []→T j= []:=fun j K e=>by
  rcases h j K with⟨U,_⟩ | ⟨k,_,⟨t,ht,Z⟩,_,ag⟩
  ·exact U
  ·have:t∈(Q j).2:=by rw [ag];exact List.mem_filter.2 ⟨ht,by simpa using Z⟩
   rw [e] at this;simp at this
 rcases aY with⟨U,rfl⟩ | ⟨k,U,⟨t,ht,Z⟩,av,ag⟩
 ·refine .inl ⟨?_,rfl⟩;rw [List.flatMap_eq_nil_iff] at U ⊢;exact fun j K=>F0 j K (U j K)
 ·have low:∀j∈l,∀s∈T j,∃O:Nat,(Q j).2=(T j).filter (fun t=>decide (CU t=O))∧k≤O∧O≤CU s:=fun j K s hs=>by
   rcases h j K with⟨al,_⟩ | ⟨O,_,⟨u,hu,am⟩,V,Y⟩
   ·rw [al] at hs;simp at hs
   ·refine⟨O,Y,?_,V s hs⟩;have:=av u (List.mem_flatMap.2 ⟨j,K,by rw [Y];exact List.mem_filter.2 ⟨hu,by simpa using am⟩⟩);omega
  refine .inr ⟨k,U,?_,?_,?_⟩
  ·obtain⟨j,K,aZ⟩:=List.mem_flatMap.1 ht;exact⟨t,List.mem_flatMap.2 ⟨j,K,((h j K).sub t aZ).1⟩,Z⟩
  ·intro s hs;obtain⟨j,K,a0⟩:=List.mem_flatMap.1 hs;obtain⟨O,_,g2,V⟩:=low j K s a0;omega
  ·rw [ag,List.filter_flatMap,List.filter_flatMap];refine Q9 fun j K=>?_;rcases h j K with⟨al,g2⟩ | ⟨O,_,⟨u,hu,am⟩,V,Y⟩
   ·rw [al,g2]
   ·obtain⟨a2,a3,a4,a5⟩:=low j K u hu;rw [Y,List.filter_filter];by_cases e:O=k
    ·subst e;exact List.filter_congr fun x _=>by simp
    ·have a6:k<O:=by
      have a1:u∈(Q j).2:=by rw [Y];exact List.mem_filter.2 ⟨hu,by simpa using am⟩
      have:=av u (List.mem_flatMap.2 ⟨j,K,a1⟩);omega
     rw [List.filter_eq_nil_iff.2 fun x ap=>?_,List.filter_eq_nil_iff.2 fun x ap=>?_]
     ·have:=V x ap;simp;omega
     ·have:=V x ap;simp;omega
theorem Ur{qs:Nat→Int×List CG}{p:Int×Int×List CG}(h:p∈DX qs):∃j,j<13∧p=partOf qs j∧0<(qs j).2.length:=by
 unfold DX at h;obtain⟨j,K,rfl⟩:=List.mem_map.1 h;obtain⟨O,U⟩:=List.mem_filter.1 K;exact⟨j,List.mem_range.1 O,rfl,of_decide_eq_true U⟩
theorem Uw(qs:Nat→Int×List CG):(DX qs).length≤13:=by
 unfold DX;rw [List.length_map];exact Nat.le_trans (List.length_filter_le _ _) (by simp)
theorem T4(qs:Nat→Int×List CG):((DX qs).flatMap fun p=>p.2.2)=(List.range 13).flatMap fun j=>(qs j).2:=by
 unfold DX;rw [List.flatMap_map];generalize List.range 13=l
 induction l with
 | nil=>rfl
 | cons j l K=>
  rw [List.filter_cons,List.flatMap_cons];split
  ·rw [List.flatMap_cons,K];rfl
  ·rename_i h;have:(qs j).2= []:=List.length_eq_zero_iff.1 (by simpa using h);rw [K,this];rfl
theorem ZQ{F:Nat}{p:Int×Int×List CG}{pre:List CG}{le:Int}{all:List CG}(Z:268435456<F)(ag:p.2.2.length≤268435456)(al:pre.length<2 ^ 38)(V:∀t∈p.2.2,(CU t:Int)=p.2.1)(h:DC pre (le,all)):
  AY (iter (Lc F p) F (le,all,0)) (fun r=>DC (pre++p.2.2) r):=by
 refine Ck p.2.2.length (fun i s=>s.2.2=(i:Int)∧DC (pre++p.2.2.take i) (s.1,s.2.1)) ⟨rfl,by simpa using h⟩ (by omega) ?_ ?_
 ·rintro i ⟨a,b,c⟩ hi ⟨O,K⟩;simp only at O K;subst O;unfold Lc;refine Bw (by simp only;omega) (Bn (m:=i) rfl hi ?_);obtain⟨q,U,Y⟩:=K.snoc F (t:=p.2.2[i]) (by simp;omega);rw [V _ (List.getElem_mem hi)] at U;refine AQ U (AT ((i+1:Nat):Int) (by simp) (by omega) (by omega) ?_);refine Ak ⟨rfl,?_⟩;rw [List.take_add_one,List.getElem?_eq_getElem hi];simpa using Y
 ·rintro⟨a,b,c⟩ ⟨O,K⟩;simp only at O K;subst O;unfold Lc;refine A8 (by simp) (Ak ⟨_,rfl,?_⟩);rw [List.take_length] at K;exact K
theorem Zy{F n:Nat}{J:JW}{lk:Bf}(al:268435456<F)(am:VJ n J)(ag:B9 n lk):AY (f93 F (J.1,J.2,Gp J) lk) (fun r=>DC (TT J lk) r):=by
 obtain⟨qs,e,Y⟩:=UD (F:=F) (by omega) am ag;unfold f93;refine AQ e ?_;have aY:=Uw qs;have hlen:∀p∈DX qs,p.2.2.length≤268435456∧∀t∈p.2.2,(CU t:Int)=p.2.1:=fun p Z=>by
  obtain⟨j,U,rfl,_⟩:=Ur Z;exact⟨Nat.le_trans (Y j U).len (SA ag j),fun t ht=>((Y j U).sub t ht).2⟩
 refine AE (S:=fun r=>DC ((DX qs).flatMap fun p=>p.2.2) r) ?_ ?_
 ·refine Ck (DX qs).length (fun i s=>s.2.2=(i:Int)∧DC (((DX qs).take i).flatMap fun p=>p.2.2) (s.1,s.2.1)) ⟨rfl,.inl ⟨rfl,rfl⟩⟩ (by omega) ?_ ?_
  ·rintro i ⟨a,b,c⟩ hi ⟨O,K⟩;simp only at O K;subst O;unfold Ni;refine Bw (by simp only;omega) (Bn (m:=i) rfl hi ?_);obtain⟨ap,g2⟩:=hlen _ (List.getElem_mem hi);have aZ:(((DX qs).take i).flatMap fun p=>p.2.2).length≤((DX qs).take i).length*268435456:=Kk fun p Z=>(hlen p (List.mem_of_mem_take Z)).1;have av:((DX qs).take i).length≤13:=by rw [List.length_take];omega
   have hmul:((DX qs).take i).length*268435456≤13*268435456:=Nat.mul_le_mul_right _ av;refine AE (ZQ al ap (by omega) g2 K) ?_;intro r V;refine AT ((i+1:Nat):Int) (by simp) (by omega) (by omega) ?_;refine Ak ⟨rfl,?_⟩;rw [List.take_add_one,List.getElem?_eq_getElem hi];simp only [Option.toList_some,List.flatMap_append,List.flatMap_cons,List.flatMap_nil,List.append_nil];exact V
  ·rintro⟨a,b,c⟩ ⟨O,K⟩;simp only at O K;subst O;unfold Ni;refine A8 (by simp) (Ak ⟨_,rfl,?_⟩);rw [List.take_length] at K;exact K
 ·intro r V;refine Ak ?_;rw [T4] at V;exact DC.flat (fun j U=>Y j (List.mem_range.1 U)) V
end Pal
namespace Pal
theorem DC.WZ{K:List CG}{q:Int×List CG}(h:DC K q):q.2= []↔K= []:=by
 rcases h with⟨O,rfl⟩ | ⟨k,_,⟨t,ht,U⟩,_,V⟩
 ·simp [O]
 ·constructor
  ·intro e;have:t∈q.2:=by rw [V];exact List.mem_filter.2 ⟨ht,by simpa using U⟩
   rw [e] at this;simp at this
  ·rintro rfl;simp at ht
def F3(J:JW)(lk:Bf)(k:Nat):Prop:=(∃t∈TT J lk,CU t=k)∧∀t∈TT J lk,k≤CU t
def DO(J:JW)(lk:Bf)(k:Nat):List CG:=(TT J lk).filter fun t=>decide (CU t=k)
theorem F3.pos{J:JW}{lk:Bf}{k:Nat}(h:F3 J lk k):0<(DO J lk k).length:=by
 obtain⟨⟨t,ht,K⟩,_⟩:=h;exact List.length_pos_of_mem (List.mem_filter.2 ⟨ht,by simpa using K⟩)
theorem F3.uniq{J:JW}{lk:Bf}{k k':Nat}(h:F3 J lk k)(K:F3 J lk k'):k=k':=by
 obtain⟨⟨t,ht,Z⟩,O⟩:=h;obtain⟨⟨U,V,ag⟩,Y⟩:=K;have:=O U V;have:=Y t ht;omega
theorem JV{J:JW}{lk:Bf}{t:CG}:t∈TT J lk↔∃a,a<13∧t∈TA J lk a:=by
 unfold TT;rw [List.mem_flatMap];exact⟨fun⟨a,K,O⟩=>⟨a,List.mem_range.1 K,O⟩,fun⟨a,K,O⟩=>⟨a,List.mem_range.2 K,O⟩⟩
theorem Zw{J:JW}{lk:Bf}{a:Nat}{t:CG}(h:t∈TA J lk a):t.1=(a:Int):=by
 obtain⟨x,_,rfl⟩:=List.mem_map.1 h;rfl
theorem aF{F n:Nat}{J:JW}{lk:Bf}(O:100<F)(U:VJ n J)(V:B9 n lk){t:CG}(ht:t∈TT J lk):t.2.2<65536∧0≤t.1∧t.1<13:=by
 obtain⟨a,Y,K⟩:=JV.1 ht;obtain⟨_,_,_,h⟩:=Ot O U V Y;have:=Zw K;exact⟨h t K,by omega,by omega⟩
theorem ZT{n:Nat}{J:JW}{lk:Bf}(K:B9 n lk):(TT J lk).length≤13*268435456:=by
 unfold TT;have:=Kk (l:=List.range 13) (f:=TA J lk) (b:=268435456) fun a _=>SA K a;simpa using this
theorem Z2{F n:Nat}{J:JW}{lk:Bf}{p:Int}(b:Bool)(Y:268435456<F)(K:VJ n J)(U:B9 n lk)(Z:lk.length≤4)(ag: -1≤p∧p<(lk.length:Int)):
  AY (f78 F J lk p b) (fun r=>DC (TT J lk) r.2.1∧r.2.2=if TT J lk= []∧b=false then 11 else 0):=by
 unfold f78;refine AQ (OY (by omega) K U Z) (A8 (by simp) ?_);refine AT ((lk.length:Int) - 1) rfl (by omega) (by omega) (AQ (HM F _ _ _) ?_);refine A8 (by simp;omega) (AQ (ZO (by omega) K) ?_);refine AQ (b:=(J.1,J.2,Gp J)) rfl (AE (Zy Y K U) ?_);intro r O;have V:=O.WZ;refine AE (S:=fun c=>c=decide (TT J lk= []∧b=false)) ?_ ?_
 ·refine Bl (fun h=>?_) (fun h=>?_)
  ·have:TT J lk= []:=V.1 (List.length_eq_zero_iff.1 (by omega));refine Ak ?_;cases b <;> simp [this]
  ·have:TT J lk≠ []:=fun e=>h (by rw [V.2 e];rfl);exact Ak (by simp [this])
 ·rintro c rfl;refine Bl (fun h=>?_) (fun h=>?_)
  ·exact Ak ⟨O,by rw [if_pos (of_decide_eq_true h)]⟩
  ·exact Ak ⟨O,by rw [if_neg (of_decide_eq_false (by simpa using h))]⟩
theorem asked{F n:Nat}{J:JW}{lk:Bf}{p:Int}(Z:268435456<F)(ag:VJ n J)(al:B9 n lk)(K:lk.length≤4)(am: -1≤p∧p<(lk.length:Int)):
  AY (f78 F J lk p false) (fun r=>(TT J lk= []∧r.2.1=(0,[])∧r.2.2=11)∨∃k,F3 J lk k∧r.2.1=((k:Int),DO J lk k)∧r.2.2=0):=by
 refine(Z2 false Z ag al K am).Ah ?_;rintro⟨x,⟨q1,q2⟩,e⟩ ⟨V,U⟩;simp only at V U;rcases V with⟨O,K⟩ | ⟨k,O,K,ap,Y⟩
 ·exact .inl ⟨O,K,by rw [U,if_pos (by simp [O])]⟩
 ·refine .inr ⟨k,⟨K,ap⟩,?_,?_⟩
  ·simp only at O Y;rw [O,Y];rfl
  ·obtain⟨t,ht,_⟩:=K;simp only;rw [U,if_neg];rintro⟨av,_⟩;rw [av] at ht;simp at ht
theorem ZE{F n:Nat}{J:JW}{lk:Bf}(V:268435456<F)(Y:VJ n J)(Z:B9 n lk)(ag:lk.length≤4):
  AY (f47 F J lk) (fun r=>(TT J lk= []∧r=(0,11))∨∃k,F3 J lk k∧r=((k:Int),0)):=by
 unfold f47;refine AE (asked V Y Z ag ⟨by omega,by omega⟩) ?_;rintro⟨x,q,e⟩ (⟨U,K,O⟩ | ⟨k,U,K,O⟩)
 ·simp only at K O;subst K;subst O;exact Ak (.inl ⟨U,rfl⟩)
 ·simp only at K O;subst K;subst O;exact Ak (.inr ⟨k,U,rfl⟩)
def vd(c l:Nat):Int:=if c=0 then 2 else if c<l then 3 else 1
theorem Ze{F n p:Nat}{J:JW}{lk:Bf}(av:3489660928<F)(V:VJ n J)(U:B9 n lk)(ag:lk.length≤4)(aY:p<lk.length):
  AY (f49 F J lk (p:Int)) (fun r=>(TT J lk= []∧r=(0,11))∨∃k,F3 J lk k∧r=(vd ((DO J lk k).filter fun t=>t.2.2.testBit p).length (DO J lk k).length,0)):=by
 unfold f49;refine AQ (OY (by omega) V U ag) (A8 (by simp) ?_);refine AT ((lk.length:Int) - 1) rfl (by omega) (by omega) (AQ (HM F _ _ _) ?_);refine A8 (by simp;omega) (AE (asked (p:=(p:Int)) (by omega) V U ag ⟨by omega,by omega⟩) ?_);rintro⟨x,q,e⟩ (⟨Y,K,O⟩ | ⟨k,Y,K,O⟩)
 ·simp only at K O;subst K;subst O;exact Bw (by simp) (Ak (.inl ⟨Y,rfl⟩))
 ·simp only at K O;subst K;subst O;refine A8 (by simp) ?_;have am:(DO J lk k).length≤3489660928:=Nat.le_trans (List.length_filter_le _ _) (ZT U);refine AE (S:=fun c=>c=(((DO J lk k).filter fun t=>t.2.2.testBit p).length:Int)) ?_ ?_
  ·refine Ck (DO J lk k).length (fun i s=>s=((((((DO J lk k).take i).filter fun t=>t.2.2.testBit p).length:Nat):Int),(i:Int))) rfl (by omega) ?_ ?_
   ·rintro i s hi rfl;unfold OP;have hm:=List.getElem_mem hi;obtain⟨ap,_,_⟩:=aF (F:=F) (by omega) V U (List.mem_filter.1 hm).1;refine Bw (by simp only;omega) (Bn (m:=i) rfl hi ?_);refine AQ (RE F ap (by omega)) ?_;have aZ:(((DO J lk k).take i).filter fun t=>t.2.2.testBit p).length≤3489660928:=Nat.le_trans (List.length_filter_le _ _) (by rw [List.length_take];omega);refine AE (S:=fun c=>c=((((DO J lk k).take (i+1)).filter fun t=>t.2.2.testBit p).length:Int)) ?_ ?_
    ·rw [List.take_add_one,List.getElem?_eq_getElem hi];simp only [Option.toList_some];rw [List.filter_append];refine Bl (fun h=>?_) (fun h=>?_)
     ·refine AT ((((DO J lk k).take i).filter fun t=>t.2.2.testBit p).length+1:Int) rfl (by omega) (by omega) (Ak ?_);simp [List.filter_cons,h]
     ·refine Ak ?_;simp [List.filter_cons,h]
    ·rintro c rfl;exact AT ((i+1:Nat):Int) (by simp) (by omega) (by omega) (Ak rfl)
   ·rintro s rfl;unfold OP;refine A8 (by simp) (Ak ⟨_,rfl,?_⟩);rw [List.take_length]
  ·rintro c rfl;refine AE (S:=fun v=>v=vd ((DO J lk k).filter fun t=>t.2.2.testBit p).length (DO J lk k).length) ?_ (by rintro v rfl;exact Ak (.inr ⟨k,Y,rfl⟩));have al:((DO J lk k).filter fun t=>t.2.2.testBit p).length≤(DO J lk k).length:=List.length_filter_le _ _;generalize ((DO J lk k).filter fun t=>t.2.2.testBit p).length=c at al;generalize (DO J lk k).length=l at am al;refine AE (S:=fun v=>v=vd c l - 1) ?_ ?_
   ·refine AE (S:=fun b=>b=decide (0<c∧c<l)) ?_ ?_
    ·refine Bl (fun h=>Ak ?_) (fun h=>Ak ?_)
     ·exact decide_eq_decide.2 (by omega)
     ·exact(decide_eq_false (by omega)).symm
    ·rintro b rfl;unfold vd;refine Bl (fun h=>?_) (fun h=>?_)
     ·have h:=of_decide_eq_true h;refine AT 1 rfl (by omega) (by omega) ?_;refine AT 2 rfl (by omega) (by omega) ?_;refine Ak ?_;rw [if_neg (by omega),if_pos h.2];rfl
     ·have h:¬(0<c∧c<l):=fun Z=>h (decide_eq_true Z);refine Bl (fun Z=>?_) (fun Z=>?_)
      ·refine AT 1 rfl (by omega) (by omega) (Ak ?_);rw [if_pos (by omega)];rfl
      ·refine Ak ?_;rw [if_neg (by omega),if_neg (by omega)];rfl
   ·rintro v rfl;have:1≤vd c l∧vd c l≤3:=by unfold vd;split <;> (try split) <;> omega
    exact AT (vd c l) (by omega) (by omega) (by omega) (Ak rfl)
end Pal
namespace Pal
def GB(J:JW)(a:Nat)(p:List Int):Prop:=(∀m,p[0]? =some m→∃k:Nat,m=(k:Int)∧(AG J a).testBit k=true)∧∀(y:Nat) m m',p[y]? =some m→p[y+1]? =some m'→m'∈J.1.getD m.toNat []
theorem GB.range{n a:Nat}{J:JW}{p:List Int}(K:VJ n J)(h:GB J a p):∀(y:Nat) m,p[y]? =some m→0≤m∧m<(n:Int)
 | 0,m,hm=>by
  obtain⟨k,rfl,O⟩:=h.1 m hm
  have:=IV (Ix K a) O
  omega
 | y+1,m,hm=>by
  have U:y<p.length:=by have:=(List.getElem?_eq_some_iff.1 hm).1;omega
  exact(K.FN _).inr _ (h.2 y p[y] m (List.getElem?_eq_getElem U) hm)
theorem GB.take{a:Nat}{J:JW}{p:List Int}(h:GB J a p)(k:Nat):GB J a (p.take k):=by
 have key:∀(y:Nat) m,(p.take k)[y]? =some m→p[y]? =some m:=fun y m hm=>by
  rw [List.getElem?_take] at hm;split at hm
  ·exact hm
  ·cases hm
 exact⟨fun m hm=>h.1 m (key 0 m hm),fun y m m' K O=>h.2 y m m' (key _ _ K) (key _ _ O)⟩
theorem GB.snoc{a:Nat}{J:JW}{p:List Int}{m x:Int}(h:GB J a (p++ [m]))(U:x∈J.1.getD m.toNat []):GB J a (p++ [m]++ [x]):=by
 constructor
 ·intro y O;rw [List.getElem?_append_left (by simp)] at O;exact h.1 y O
 ·intro y u V hu K;rcases Nat.lt_or_ge (y+1) (p++ [m]).length with Y | Z
  ·rw [List.getElem?_append_left (by omega)] at hu;rw [List.getElem?_append_left Y] at K;exact h.2 y u V hu K
  ·have ag:=(List.getElem?_eq_some_iff.1 K).1;simp only [List.length_append,List.length_singleton] at Z ag;have e:y=p.length:=by omega
   subst e;rw [List.getElem?_append_left (by simp),List.getElem?_append_right (by omega)] at hu;rw [List.getElem?_append_right (by simp)] at K;simp at hu K;subst hu;subst K;exact U
theorem WM{n a q:Nat}{J:JW}{x:Int}(K:VJ n J)(O:(AG J a).testBit q=true)(U:x∈J.1.getD q []):∃k:Nat,x=(k:Int)∧(AG J (a+1)).testBit k=true:=by
 have V:=(K.FN q).inr x U;refine⟨x.toNat,by omega,?_⟩;show(GH J.1 (AG J a)).testBit _=true;rw [Oy K];exact⟨q,by have:=IV (Ix K a) O;have:=K.le;omega,O,by rw [show((x.toNat:Nat):Int)=x by omega];exact U⟩
theorem VJ.Tl{n q:Nat}{J:JW}(K:VJ n J)(U:q<n):J.1[q]? =some (J.1.getD q [])∧0<(J.1.getD q []).length:=by
 have V:=K.l1;have O:J.1[q]? =some (J.1.getD q []):=by rw [List.getD_eq_getElem?_getD,List.getElem?_eq_getElem (by omega)];rfl
 exact⟨O,(K.nx q _ O).2⟩
theorem Z1{F k n yrs:Nat}{b:Ey}{J:JW}(be:100<F)(K:VJ n J)(hb:BG k b)(bf:k<1000)(bg:yrs≤20):
  AY (f45 F b J (yrs:Int)) (fun r=>∃a:Nat,r.1=(a:Int)∧a≤6∧r.2.1.length=yrs∧GB J a r.2.1∧BG (k+30) r.2.2):=by
 have bh:=K.le;have bi:=K.pos;unfold f45;refine AE (HQ hb (by omega) (by omega)) ?_;rintro⟨a3,bj⟩ ⟨a6,g2,a4⟩;simp only at a6 g2 a4 ⊢;obtain⟨a,rfl⟩:∃a:Nat,a3=(a:Int):=⟨a3.toNat,by omega⟩;refine AE (S:=fun r=>∃q:Nat,r.1=(q:Int)∧(AG J a).testBit q=true∧BG (k+7) r.2) ?_ ?_
 ·refine Ck a (fun i s=>∃q:Nat,s.2.2.2.1=(q:Int)∧(AG J i).testBit q=true∧s.2.2.2.2=(i:Int)∧BG (k+1+i) (s.1,s.2.1,s.2.2.1)) ⟨0,rfl,by show(1:Nat).testBit 0=true;decide,rfl,a4⟩ (by omega) ?_ ?_
  ·rintro i ⟨s1,s2,a0,Z,aZ⟩ hi ⟨q,O,ag,al,am⟩;simp only at O al am;subst O;subst al;unfold Nk;have a7:=IV (Ix K i) ag;obtain⟨a1,a2⟩:=K.Tl a7;refine Bw (by simp only;omega) (AQ (D6 (m:=q) rfl a1) ?_);refine AE (M8 (F:=F) am (by omega) a2 (by have:=(K.FN q).len;omega)) ?_;rintro⟨x,a8⟩ ⟨ap,av⟩;simp only at ap av ⊢;obtain⟨a9,rfl,ba⟩:=WM K ag ap;exact AT ((i+1:Nat):Int) (by simp) (by omega) (by omega) (Ak ⟨a9,rfl,ba,rfl,av⟩)
  ·rintro⟨s1,s2,a0,Z,aZ⟩ ⟨q,O,ag,al,am⟩;simp only at O al am;subst O;subst al;unfold Nk;exact A8 (by simp) (Ak ⟨_,rfl,q,rfl,ag,am.Ah (by omega)⟩)
 ·rintro⟨bl,a8⟩ ⟨q,O,ag,av⟩;simp only at O av ⊢;subst O;refine AE (S:=fun r=>r.1.length=yrs∧GB J a r.1∧BG (k+30) r.2) ?_ ?_
  ·refine Ck yrs (fun i s=>s.2.2.2.2.1.length=i∧s.2.2.2.2.2=(i:Int)∧GB J a (s.2.2.2.2.1++ [s.2.2.2.1])∧BG (k+7+i) (s.1,s.2.1,s.2.2.1)) ⟨rfl,rfl,⟨?_,?_⟩,av⟩ (by omega) ?_ ?_
   ·intro m hm;simp at hm;subst hm;exact⟨q,rfl,ag⟩
   ·intro y m m' _ bb;simp at bb
   ·rintro i ⟨s1,s2,a0,Z,aZ,bc⟩ hi ⟨U,Y,V,aY⟩;simp only at U Y V aY;subst Y;unfold MW;have bm:=V.range K i Z (by rw [List.getElem?_append_right (by omega)];simp [U]);obtain⟨u,hu⟩:∃u:Nat,Z=(u:Int):=⟨Z.toNat,by omega⟩;subst hu;obtain⟨a1,a2⟩:=K.Tl (q:=u) (by omega);refine Bw (by simp only;omega) (Kq (by simp only;omega) ?_);refine AQ (D6 (m:=u) rfl a1) (AE (M8 (F:=F) aY (by omega) a2 (by have:=(K.FN u).len;omega)) ?_);rintro⟨x,bd⟩ ⟨ap,a5⟩;simp only at ap a5 ⊢;exact AT ((i+1:Nat):Int) (by simp) (by omega) (by omega) (Ak ⟨by simp [U],rfl,V.snoc (by simpa using ap),a5⟩)
   ·rintro⟨s1,s2,a0,Z,aZ,bc⟩ ⟨U,Y,V,aY⟩;simp only at U Y V aY;subst Y;unfold MW;refine A8 (by simp) (Ak ⟨_,rfl,U,?_,aY.Ah (by omega)⟩);have:=V.take aZ.length
    rwa [List.take_left' rfl] at this
  ·rintro⟨ms,bd⟩ ⟨U,Y,V⟩;exact Ak ⟨a,rfl,by omega,U,Y,V⟩
theorem B9.snoc{n:Nat}{lk:Bf}{l:Int×Int}(h:B9 n lk)(Z:lk.length<4)(U:0≤l.1∧l.1≤6)(V:0≤l.2∧l.2<(n:Int))(Y:∀x∈lk,x.1≤l.1):B9 n (lk++ [l]) where
 len:=by simp;omega
 yr x K:=by
  rcases List.mem_append.1 K with K | K
  ·exact h.yr x K
  ·simp at K;subst K;exact U
 sn x K:=by
  rcases List.mem_append.1 K with K | K
  ·exact h.sn x K
  ·simp at K;subst K;exact V
 IH:=by
  rw [List.pairwise_append];exact⟨h.IH,by simp,fun x K y O=>by simp at O;subst O;exact Y x K⟩
theorem B9.nil{n:Nat}:B9 n []:=⟨by simp,by simp,by simp,by simp⟩
theorem YJ{F k n many:Nat}{b:Ey}{J:JW}{ms:List Int}(fl:Bool)(bh:100<F)(ap:VJ n J)(hb:BG k b)(bi:k<1000)(hm:many≤4)(a5:0<ms.length∧ms.length≤7)(Y:∀(y:Nat) m,ms[y]? =some m→0≤m∧m<(n:Int)):
  AY (f46 F b J ms (many:Int) fl) (fun r=>B9 n r.1∧r.1.length≤many∧(∀l∈r.1,l.1.toNat<ms.length)∧(fl=false→∀l∈r.1,ms[l.1.toNat]? =some l.2)∧BG (k+30) r.2):=by
 have a6:=ap.l2;unfold f46;refine AE (HQ hb (by omega) (by omega)) ?_;rintro⟨ct,bj⟩ ⟨a7,g2,av⟩;simp only at a7 g2 av ⊢;obtain⟨c,rfl⟩:∃c:Nat,ct=(c:Int):=⟨ct.toNat,by omega⟩;refine AE (S:=fun r=>B9 n r.1∧r.1.length≤many∧(∀l∈r.1,l.1.toNat<ms.length)∧(fl=false→∀l∈r.1,ms[l.1.toNat]? =some l.2)∧BG (k+30) r.2) ?_ (fun r Y=>Ak Y);refine Mq (fun m s=>∃y:Nat,s.2.2.2.2.2=(m:Int)∧s.2.2.2.2.1=(y:Int)∧y<ms.length∧s.2.2.2.1.length+m≤many∧B9 n s.2.2.2.1∧(∀l∈s.2.2.2.1,l.1≤(y:Int))∧(fl=false→∀l∈s.2.2.2.1,ms[l.1.toNat]? =some l.2)∧BG (k+29 - 4*m) (s.1,s.2.1,s.2.2.1)) ?_ (m:=c) ⟨0,rfl,rfl,a5.1,by simp;omega,B9.nil,by simp,by simp,av.Ah (by omega)⟩ (by omega);rintro m ⟨s1,s2,bl,out,yr,cnt⟩ ⟨y,aY,aZ,bm,hlen,U,hle,Z,ag⟩;simp only at aY aZ hlen U hle Z ag;subst aY;subst aZ;unfold OM;refine Bl (fun a8=>?_) (fun a9=>?_)
 ·simp only at a8;have bn:0<m:=by omega
  refine AT ((ms.length - 1:Nat):Int) (by omega) (by omega) (by omega) (AT ((y+2:Nat):Int) (by simp only;omega) (by omega) (by omega) ?_);refine AE (OT (F:=F) ag (by omega) (by simp only;omega) (by simp only;omega) (by omega)) ?_;rintro⟨a0,bo⟩ ⟨v1,v2,al⟩;simp only at v1 v2 al ⊢;obtain⟨z,rfl⟩:∃z:Nat,a0=(z:Int):=⟨a0.toNat,by omega⟩;have a1:z<ms.length:=by omega
  have hg:ms[z]? =some ms[z]:=List.getElem?_eq_getElem a1;obtain⟨bp,ba⟩:=Y z _ hg;obtain⟨q,bb⟩:∃q:Nat,ms[z]=(q:Int):=⟨ms[z].toNat,by omega⟩;rw [bb] at hg ba;have bq:q<n:=by omega
  have bc:J.2[q]? =some (J.2.getD q []):=by rw [List.getD_eq_getElem?_getD,List.getElem?_eq_getElem (by omega)];rfl
  have a2:=ap.Px q;refine AQ (D6 (m:=z) rfl hg) ?_;refine AQ (D6 (m:=z) rfl hg) ?_;refine AQ (D6 (m:=q) rfl bc) ?_;refine AE (S:=fun c=>c=true→fl=true∧0<(J.2.getD q []).length) ?_ ?_
  ·refine Bl (fun h=>Ak fun O=>⟨h,by have:=of_decide_eq_true O;omega⟩) (fun _=>Ak fun O=>by cases O)
  ·intro br bd;refine AE (S:=fun r=>(r.1=true→fl=true∧0<(J.2.getD q []).length)∧BG (k+29 - 4*m+2) r.2) ?_ ?_
   ·refine Bl (fun h=>?_) (fun _=>Ak ⟨fun O=>(by cases O),BG.Ah al (by omega)⟩);refine AE (Lg (F:=F) al (by omega) (by omega) (by omega)) ?_;rintro⟨o,be⟩ V;exact Ak ⟨fun _=>bd h,V⟩
   ·rintro⟨c2,be⟩ ⟨a3,V⟩;simp only at a3 V ⊢;refine AE (S:=fun r=>0≤r.2.2.2∧r.2.2.2<(n:Int)∧(fl=false→r.2.2.2=(q:Int))∧BG (k+29 - 4*m+3) (r.1,r.2.1,r.2.2.1)) ?_ ?_
    ·refine Bl (fun h=>?_) (fun _=>Ak ⟨by simp only;omega,by simp only;omega,fun _=>rfl,BG.Ah V (by omega)⟩);obtain⟨f1,f2⟩:=a3 h;refine AE (M8 (F:=F) V (by omega) f2 (by have:=a2.len;omega)) ?_;rintro⟨x,bu⟩ ⟨am,bf⟩;have:=a2.inr x am;exact Ak ⟨this.1,this.2,fun O=>(by rw [f1] at O;cases O),bf⟩
    ·rintro⟨u1,u2,bv,sn⟩ ⟨w1,w2,w3,w4⟩;simp only at w1 w2 w3 w4 ⊢;refine Kq (by have:=U.len;omega) (AT ((m - 1:Nat):Int) (by omega) (by omega) (by omega) ?_);refine Ak ⟨m - 1,by omega,z,rfl,rfl,a1,by simp;omega,?_,?_,?_,w4.Ah (by omega)⟩
     ·exact U.snoc (by have:=U.len;omega) ⟨by simp only;omega,by simp only;omega⟩ ⟨w1,w2⟩ fun x am=>by have:=hle x am;simp only;omega
     ·intro l K;rcases List.mem_append.1 K with K | K
      ·have:=hle l K;omega
      ·simp at K;subst K;exact Int.le_refl _
     ·intro a4 l K;rcases List.mem_append.1 K with K | K
      ·exact Z a4 l K
      ·simp at K;subst K;rw [w3 a4];exact hg
 ·simp only at a9;have bg:m=0:=by omega
  subst bg;exact Ak ⟨U,by omega,fun l K=>by have bw:=hle l K;have a6:=U.yr l K;omega,Z,ag.Ah (by omega)⟩
theorem B9.set{n i:Nat}{lk:Bf}{s:Int}(h:B9 n lk)(hi:i<lk.length)(hs:0≤s∧s<(n:Int)):B9 n (lk.set i (lk[i].1,s)):=by
 have hm:=List.getElem_mem hi;refine⟨by simpa using h.len,fun l K=>?_,fun l K=>?_,?_⟩
 ·rcases List.mem_or_eq_of_mem_set K with O | rfl
  ·exact h.yr l O
  ·exact h.yr lk[i] hm
 ·rcases List.mem_or_eq_of_mem_set K with O | rfl
  ·exact h.sn l O
  ·exact hs
 ·have key:(lk.set i (lk[i].1,s)).map (fun l=>l.1)=lk.map (fun l=>l.1):=by
   rw [List.map_set];apply List.ext_getElem?;intro j;by_cases e:i=j
   ·subst e;rw [List.getElem?_set_self (by simpa using hi)];simp [hi]
   ·rw [List.getElem?_set_ne e]
  have U:(lk.map fun l=>l.1).Pairwise (·≤·):=List.pairwise_map.2 h.IH;rw [← key] at U;exact List.pairwise_map.1 U
theorem Zp{F k n many:Nat}{b:Ey}{J:JW}(V:100<F)(K:VJ n J)(hb:BG k b)(a6:k<900)(hm:many≤4):
  AY (f40 F b J (many:Int)) (fun r=>B9 n r.1∧r.1.length≤many∧(∀l∈r.1,l.1.toNat<5)∧BG (k+100) r.2):=by
 have a7:=K.l1;have a8:=K.pos;have a9:=K.le;unfold f40;refine AE (Z1 (yrs:=5) V K hb (by omega) (by omega)) ?_;rintro⟨ba,ms,bb⟩ ⟨a,_,_,g2,Y,Z⟩;simp only at g2 Y Z ⊢;refine AE (YJ (many:=many) true V K Z (by omega) hm ⟨by omega,by omega⟩ (Y.range K)) ?_;rintro⟨lk,bc⟩ ⟨v1,v2,ag,_,al⟩;simp only at v1 v2 ag al ⊢;refine AE (S:=fun r=>B9 n r.1∧r.1.length≤many∧(∀l∈r.1,l.1.toNat<5)∧BG (k+100) r.2) ?_ (fun r aZ=>Ak aZ);refine Ck lk.length (fun i s=>s.2.2.2.2=(i:Int)∧B9 n s.2.2.2.1∧s.2.2.2.1.length=lk.length∧(∀l∈s.2.2.2.1,l.1.toNat<5)∧BG (k+60+3*i) (s.1,s.2.1,s.2.2.1)) ⟨rfl,v1,rfl,fun l a0=>by have:=ag l a0;omega,al⟩ (by have:=v1.len;omega) ?_ ?_
 ·rintro i ⟨s1,s2,a1,l,c⟩ hi ⟨e,w1,w2,w3,w4⟩;simp only at e w1 w2 w3 w4;subst e;unfold MX;have O:i<l.length:=by omega
  have a2:=v1.len;refine Bw (by simp only;omega) ?_;refine AE (Lg (F:=F) w4 (by omega) (by omega) (by omega)) ?_;rintro⟨o,bd⟩ U;simp only at U ⊢;refine AE (S:=fun r=>B9 n r.1∧r.1.length=lk.length∧(∀x∈r.1,x.1.toNat<5)∧BG (k+60+3*i+2) r.2) ?_ ?_
  ·refine Bl (fun _=>?_) (fun _=>Ak ⟨w1,w2,w3,BG.Ah U (by omega)⟩);refine AT ((n - 1:Nat):Int) (by omega) (by omega) (by omega) (AE (HQ (F:=F) U (by omega) (by omega)) ?_);rintro⟨x,a3⟩ ⟨am,x2,ap⟩;simp only at am x2 ap ⊢;refine Bn (m:=i) rfl O (Ak ⟨?_,by simpa using w2,?_,ap⟩)
   ·rw [show Int.toNat (i:Int)=i by omega];exact w1.set O ⟨am,by omega⟩
   ·intro y a4;rcases List.mem_or_eq_of_mem_set a4 with a5 | rfl
    ·exact w3 y a5
    ·exact w3 l[i] (List.getElem_mem O)
  ·rintro⟨l2,a3⟩ ⟨u1,u2,av,aY⟩;simp only at u1 u2 av aY ⊢;exact AT ((i+1:Nat):Int) (by simp) (by omega) (by omega) (Ak ⟨rfl,u1,u2,av,BG.Ah aY (by omega)⟩)
 ·rintro⟨s1,s2,a1,l,c⟩ ⟨e,w1,w2,w3,w4⟩;simp only at e w1 w2 w3 w4;subst e;unfold MX;have a2:=v1.len;exact A8 (by simp only;omega) (Ak ⟨_,rfl,w1,by simp only;omega,w3,BG.Ah w4 (by omega)⟩)
end Pal
namespace Pal
def Tr(J:JW)(lk:Bf)(p:List Int):Prop:=∀l∈lk,∀m,p[l.1.toNat]? =some m→Fe J m l=true
def Gq(lk:Bf):Nat→List Int→Nat
 | _,[]=>0
 | y,m::p=>BS lk y m lk.length ||| Gq lk (y+1) p
theorem MO(lk:Bf)(i:Nat):∀(p:List Int) (y:Nat),(Gq lk y p).testBit i=true↔∃l,lk[i]? =some l∧∃(q:Nat) (m:Int),p[q]? =some m∧l.1=((y+q:Nat):Int)∧m≠l.2
 | [],y=>by simp [Gq]
 | m::p,y=>by
  unfold Gq
  rw [Nat.testBit_or,Bool.or_eq_true,HJ,MO lk i p (y+1)]
  constructor
  ·rintro(⟨_,l,K,O,U⟩ | ⟨l,K,q,u,O,U,V⟩)
   ·exact⟨l,K,0,m,rfl,by simpa using O,U⟩
   ·exact⟨l,K,q+1,u,by simpa using O,by rw [U];congr 1;omega,V⟩
  ·rintro⟨l,K,q,u,O,U,V⟩;cases q with
   | zero=>
    simp at O;subst O;exact .inl ⟨(List.getElem?_eq_some_iff.1 K).1,l,K,by simpa using U,V⟩
   | succ q=>exact .inr ⟨l,K,q,u,by simpa using O,by rw [U];congr 1;omega,V⟩
def LI(J:JW)(lk:Bf):Nat→Nat→List Int→Prop
 | _,_,[]=>True
 | y,sm,m::p=>m∈Cw sm 16∧EI J lk y m=true∧LI J lk (y+1) (CP (J.1.getD m.toNat [])) p
theorem KD(J:JW)(lk:Bf)(x:List Int×Nat):∀(k sm:Nat) (ms:List Int) (fl:Nat),x∈D2 J lk k sm ms fl↔∃p,p.length=k∧x.1=ms++p∧LI J lk ms.length sm p∧x.2=fl ||| Gq lk ms.length p
 | 0,sm,ms,fl=>by
  unfold D2
  rw [List.mem_singleton]
  constructor
  ·rintro rfl;exact⟨[],rfl,by simp,trivial,by simp [Gq]⟩
  ·rintro⟨p,K,O,_,U⟩;have:p= []:=List.length_eq_zero_iff.1 K;subst this;simp [Gq] at O U;exact Prod.ext O U
 | k+1,sm,ms,fl=>by
  unfold D2;rw [List.mem_flatMap];constructor
  ·rintro⟨m,hm,V⟩;split at V
   ·rename_i hb;obtain⟨p,K,O,U,Y⟩:=(KD J lk x k _ _ _).1 V;refine⟨m::p,by simp [K],by rw [O];simp,⟨hm,hb,by simpa using U⟩,?_⟩;rw [Y];simp only [List.length_append,List.length_singleton,Gq];exact Nat.or_assoc _ _ _
   ·simp at V
  ·rintro⟨p,K,O,U,Y⟩;cases p with
   | nil=>simp at K
   | cons m p=>
    obtain⟨Z,g2,ag⟩:=U;refine⟨m,Z,?_⟩;rw [if_pos g2];refine(KD J lk x k _ _ _).2 ⟨p,by simpa using K,by rw [O];simp,by simpa using ag,?_⟩;rw [Y];simp only [List.length_append,List.length_singleton,Gq];exact(Nat.or_assoc _ _ _).symm
theorem OH{J:JW}{lk:Bf}{y:Nat}{m:Int}:EI J lk y m=true↔∀l∈lk,l.1=(y:Int)→Fe J m l=true:=by
 unfold EI;rw [List.all_eq_true];refine forall_congr' fun l=>forall_congr' fun _=>?_;rw [Bool.or_eq_true,decide_eq_true_iff];by_cases h:l.1=(y:Int) <;> simp [h]
theorem Oj{n q:Nat}{J:JW}{m:Int}(U:VJ n J):m∈Cw (CP (J.1.getD q [])) 16↔m∈J.1.getD q []:=by
 have K:=U.FN q;have Y:=U.le;rw [IK];constructor
 ·rintro⟨k,_,V,rfl⟩;rw [Kp (fun x O=>(K.inr x O).1)] at V;exact of_decide_eq_true V
 ·intro h;have:=K.inr m h;refine⟨m.toNat,by omega,?_,by omega⟩;rw [Kp (fun x O=>(K.inr x O).1),show((m.toNat:Nat):Int)=m by omega];exact decide_eq_true h
theorem OB{n:Nat}{J:JW}{lk:Bf}(ag:VJ n J):∀(p:List Int) (y sm:Nat),LI J lk y sm p↔(∀m,p[0]? =some m→m∈Cw sm 16)∧(∀(q:Nat) m m',p[q]? =some m→p[q+1]? =some m'→m'∈J.1.getD m.toNat [])∧∀l∈lk,∀(q:Nat) m,l.1=((y+q:Nat):Int)→p[q]? =some m→Fe J m l=true
 | [],y,sm=>by simp [LI]
 | m::p,y,sm=>by
  unfold LI
  rw [OB ag p,OH]
  constructor
  ·rintro⟨al,U,V,am,ap⟩
   refine⟨fun u hu=>by simp at hu;subst hu;exact al,fun q u Y hu O=>?_,fun l K q u Z hu=>?_⟩
   ·cases q with
    | zero=>
     simp at hu O;subst hu;exact(Oj ag).1 (V Y (by rw [List.getElem?_eq_some_iff];exact List.getElem?_eq_some_iff.1 O))
    | succ q=>exact am q u Y (by simpa using hu) (by simpa using O)
   ·cases q with
    | zero=>
     simp at hu;subst hu;exact U l K (by simpa using Z)
    | succ q=>exact ap l K q u (by rw [Z];congr 1;omega) (by simpa using hu)
  ·rintro⟨al,U,V⟩;refine⟨al m rfl,fun l K av=>V l K 0 m (by simpa using av) rfl,fun u hu=>(Oj ag).2 (U 0 m u rfl (by simpa using hu)),fun q u Y hu O=>U (q+1) u Y (by simpa using hu) (by simpa using O),fun l K q u Z hu=>V l K (q+1) u (by rw [Z];congr 1;omega) (by simpa using hu)⟩
theorem OZ{n a:Nat}{J:JW}{lk:Bf}(U:VJ n J)(av:B9 n lk){t:CG}:t∈TA J lk a↔t.1=(a:Int)∧t.2.1.length=CO lk+1∧GB J a t.2.1∧Tr J lk t.2.1∧t.2.2=Gq lk 0 t.2.1:=by
 have ag:∀m:Int,m∈Cw (AG J a) 16↔∃k:Nat,m=(k:Int)∧(AG J a).testBit k=true:=fun m=>by
  rw [IK];exact⟨fun⟨k,_,O,K⟩=>⟨k,K,O⟩,fun⟨k,O,K⟩=>⟨k,by have:=IV (Ix U a) K;have:=U.le;omega,K,O⟩⟩
 have al:∀p:List Int,(∀l∈lk,∀(q:Nat) m,l.1=((0+q:Nat):Int)→p[q]? =some m→Fe J m l=true)↔Tr J lk p:=fun p=>by
  constructor
  ·intro h l V m hm;have:=av.yr l V;exact h l V l.1.toNat m (by omega) hm
  ·intro h l V q m a1 hm;exact h l V m (by rw [show l.1.toNat=q by omega];exact hm)
 unfold TA;rw [List.mem_map];constructor
 ·rintro⟨x,aY,rfl⟩;obtain⟨p,O,K,Y,Z⟩:=(KD J lk x _ _ _ _).1 aY;obtain⟨aZ,g2,a0⟩:=(OB U p _ _).1 Y;simp only [List.nil_append] at K;rw [K,Z];refine⟨rfl,O,⟨fun m hm=>(ag m).1 (aZ m hm),g2⟩,(al p).1 a0,?_⟩;simp
 ·rintro⟨O,K,⟨Y,Z⟩,am,ap⟩;obtain⟨t1,t2,t3⟩:=t;simp only at O K Y Z am ap;subst O;subst ap;refine⟨(t2,Gq lk 0 t2),(KD J lk _ _ _ _ _).2 ⟨t2,K,by simp,(OB U t2 _ _).2 ⟨fun m hm=>(ag m).2 (Y m hm),Z,(al t2).2 am⟩,by simp⟩,rfl⟩
def NH(p:List Int)(l:Int×Int):Bool:=decide (p.getD l.1.toNat 0≠l.2)
theorem Qp{α:Type}(lk:List α)(Q:α→Bool):∀k,((List.range k).filter fun i=>(lk[i]?.map Q).getD false).length=((lk.take k).filter Q).length
 | 0=>by simp
 | k+1=>by
  rw [List.range_succ,List.filter_append,List.length_append,Qp lk Q k,List.take_add_one,List.filter_append,List.length_append]
  congr 1
  cases h:lk[k]? with
  | none=>simp [h]
  | some x=>cases K:Q x <;> simp [h,K]
theorem V3{n:Nat}{lk:Bf}{p:List Int}(V:B9 n lk)(Y:∀l∈lk,l.1.toNat<p.length)(i:Nat):(Gq lk 0 p).testBit i=(lk[i]?.map (NH p)).getD false:=by
 rw [Bool.eq_iff_iff,MO];cases h:lk[i]? with
 | none=>simp
 | some l=>
  have hm:=List.mem_of_getElem? h;have K:=Y l hm;have ag:=V.yr l hm;have hg:p.getD l.1.toNat 0=p[l.1.toNat]:=by rw [List.getD_eq_getElem?_getD,List.getElem?_eq_getElem K];rfl
  simp only [Option.map_some,Option.getD_some,NH,decide_eq_true_iff,hg];constructor
  ·rintro⟨al,O,q,m,U,am,Z⟩;cases O;have:l.1.toNat=q:=by omega
   subst this;rw [List.getElem?_eq_getElem K] at U;cases U;exact Z
  ·intro O;exact⟨l,rfl,l.1.toNat,_,List.getElem?_eq_getElem K,by omega,O⟩
theorem VR{n:Nat}{lk:Bf}(O:B9 n lk):∀l∈lk,l.1.toNat≤CO lk:=by
 intro l U;obtain⟨i,hi,rfl⟩:=List.mem_iff_getElem.1 U;have K:lk.length - 1<lk.length:=by omega
 unfold CO;rw [List.getLast?_eq_getElem?,List.getElem?_eq_getElem K];simp only;rcases Nat.lt_or_ge i (lk.length - 1) with h | h
 ·have:=List.pairwise_iff_getElem.1 O.IH i (lk.length - 1) hi K h;omega
 ·have e:i=lk.length - 1:=by omega
  subst e;exact Nat.le_refl _
theorem W3{n a:Nat}{J:JW}{lk:Bf}(O:VJ n J)(K:B9 n lk){t:CG}(ht:t∈TA J lk a):CU t=(lk.filter (NH t.2.1)).length:=by
 obtain⟨_,Y,_,_,U⟩:=(OZ O K).1 ht;have Z:=K.len;unfold CU Cw;rw [List.length_map,U];have e:(List.range 16).filter (fun i=>(Gq lk 0 t.2.1).testBit i)=(List.range 16).filter fun i=>(lk[i]?.map (NH t.2.1)).getD false:=
  List.filter_congr fun i _=>V3 K (fun l V=>by have:=VR K l V;omega) i
 rw [e,Qp,List.take_of_length_le (by omega)]
end Pal
namespace Pal
theorem Up(s k:Nat):(Cw s k).Pairwise (·<·):=by
 unfold Cw;rw [List.pairwise_map];exact(List.pairwise_lt_range.filter _).imp fun h=>by omega
end Pal
namespace Pal
abbrev Di(s:Nat):Nat:=(Cw s 16).length
theorem R8(s:Nat):Di s=(List.range 16).countP fun n=>s.testBit n:=by
 unfold Di Cw;rw [List.length_map,List.countP_eq_length_filter]
theorem Qr{α:Type}{p q:α→Bool}:∀(l:List α),(∀x∈l,¬(p x=true∧q x=true))→l.countP (fun x=>p x || q x)=l.countP p+l.countP q
 | [],_=>rfl
 | x::l,h=>by
  have:=Qr l (fun y K=>h y (by simp [K]))
  have O:=h x (by simp)
  simp only [List.countP_cons,this]
  cases U:p x <;> cases V:q x <;> simp_all <;> omega
theorem Ox{a b:Nat}(h:∀i,¬(a.testBit i=true∧b.testBit i=true)):Di (a ||| b)=Di a+Di b:=by
 simp only [R8,Nat.testBit_or];exact Qr _ fun i _=>h i
theorem XX{a b:Nat}(h:∀i,a.testBit i=true→b.testBit i=true):Di a≤Di b:=by
 simp only [R8];exact List.countP_mono_left fun i _ hi=>h i hi
theorem R0:∀{a b:List Int},a.Pairwise (·<·)→b.Pairwise (·<·)→(∀x,x∈a↔x∈b)→a=b
 | [],[],_,_,_=>rfl
 | [],y::b,_,_,h=>by have:=(h y).2 (by simp);simp at this
 | x::a,[],_,_,h=>by have:=(h x).1 (by simp);simp at this
 | x::a,y::b,Y,hb,h=>by
  obtain⟨U,Z⟩:=List.pairwise_cons.1 Y
  obtain⟨V,ag⟩:=List.pairwise_cons.1 hb
  have al:x=y:=by
   have am:=(h x).1 (by simp);have ap:=(h y).2 (by simp);rcases List.mem_cons.1 am with e | e
   ·exact e
   ·rcases List.mem_cons.1 ap with K | K
    ·exact K.symm
    ·have:=U y K;have:=V x e;omega
  subst al;rw [R0 Z ag fun z=>?_];have O:=h z;simp only [List.mem_cons] at O;constructor
  ·intro hm;rcases O.1 (.inr hm) with e | e
   ·subst e;have:=U z hm;omega
   ·exact e
  ·intro hm;rcases O.2 (.inr hm) with e | e
   ·subst e;have:=V z hm;omega
   ·exact e
theorem Uy{n q:Nat}{J:JW}(K:VJ n J):Cw (CP (J.1.getD q [])) 16=J.1.getD q []:=R0 (Up _ _) (K.FN q).IH fun _=>Oj K
def Em(J:JW)(lk:Bf)(h y:Nat)(m:Int):Option Nat:=if EI J lk y m=true∧(BS lk y m lk.length).testBit h=false then some (Di (BS lk y m lk.length)) else none
def ways(J:JW)(lk:Bf)(h:Nat):Nat→Nat→Int→Nat→Nat
 | 0,y,m,k=>match Em J lk h y m with
  | some c=>if k=c then 1 else 0
  | none=>0
 | d+1,y,m,k=>match Em J lk h y m with
  | some c=>if c≤k then((J.1.getD m.toNat []).map fun x=>ways J lk h d (y+1) x (k - c)).sum else 0
  | none=>0
theorem Qn{α:Type}{p:α→Bool}{l:List α}(h:∀x∈l,p x=false):l.countP p=0:=List.countP_eq_zero.2 fun x K=>by rw [h x K];simp
theorem Rg{J:JW}{lk:Bf}{k sm:Nat}{ms:List Int}{fl:Nat}{x:List Int×Nat}(K:x∈D2 J lk k sm ms fl)(i:Nat)(h:fl.testBit i=true):x.2.testBit i=true:=by
 obtain⟨p,_,_,_,e⟩:=(KD J lk x k sm ms fl).1 K;rw [e,Nat.testBit_or,h];rfl
theorem Xi{n h:Nat}{J:JW}{lk:Bf}(Z:VJ n J):∀(d sm:Nat) (ms:List Int) (fl c:Nat),sm<2 ^ n→fl.testBit h=false→(∀i,fl.testBit i=true→∃l,lk[i]? =some l∧l.1<(ms.length:Int))→
  (D2 J lk (d+1) sm ms fl).countP (fun x=>decide (Di x.2=c+Di fl)&& !x.2.testBit h)=((Cw sm 16).map fun m=>ways J lk h d ms.length m c).sum:=by
 intro d
 induction d with
 | zero=>
  intro sm ms fl c aZ hh Y;unfold D2;rw [List.countP_flatMap];refine congrArg List.sum (List.map_congr_left fun m hm=>?_);simp only [Function.comp,ways,Em];have ag:∀i,¬(fl.testBit i=true∧(BS lk ms.length m lk.length).testBit i=true):=fun i ⟨al,am⟩=>by
   obtain⟨l,O,ap⟩:=Y i al;obtain⟨_,a0,K,av,_⟩:=(HJ _ _ _ _ _).1 am;rw [O] at K;cases K;omega
  by_cases hb:EI J lk ms.length m=true
  ·rw [if_pos hb];cases hs:(BS lk ms.length m lk.length).testBit h with
   | true=>rw [if_neg (by simp)];simp [D2,Nat.testBit_or,hh,hs]
   | false=>
    rw [if_pos ⟨hb,rfl⟩];simp only [D2,List.countP_cons,List.countP_nil,Nat.testBit_or,hh,hs,Ox ag];by_cases U:c=Di (BS lk ms.length m lk.length)
    ·rw [if_pos U,if_pos (by simp;omega)]
    ·rw [if_neg U,if_neg (by simp;omega)]
  ·rw [if_neg hb,if_neg fun x=>hb x.1];simp
 | succ d a1=>
  intro sm ms fl c aZ hh Y;unfold D2;rw [List.countP_flatMap];refine congrArg List.sum (List.map_congr_left fun m hm=>?_);simp only [Function.comp,ways,Em];obtain⟨q,_,a4,rfl⟩:=IK.1 hm;have a2:CP (J.1.getD q [])<2 ^ n:=by
   rcases Nat.lt_or_ge (CP (J.1.getD q [])) (2 ^ n) with h | h
   ·exact h
   ·obtain⟨i,a5,aY⟩:=Nat.exists_ge_and_testBit_of_ge_two_pow h;rw [Kp (fun x V=>((Z.FN q).inr x V).1)] at aY;have:=(Z.FN q).inr _ (of_decide_eq_true aY);omega
  have ag:∀i,¬(fl.testBit i=true∧(BS lk ms.length (q:Int) lk.length).testBit i=true):=fun i ⟨al,am⟩=>by
   obtain⟨l,O,ap⟩:=Y i al;obtain⟨_,a0,K,av,_⟩:=(HJ _ _ _ _ _).1 am;rw [O] at K;cases K;omega
  by_cases hb:EI J lk ms.length (q:Int)=true
  ·rw [if_pos hb];cases hs:(BS lk ms.length (q:Int) lk.length).testBit h with
   | true=>
    rw [if_neg (by simp)];refine Qn fun x V=>?_;have:=Rg V h (by rw [Nat.testBit_or,hs];simp);simp [this]
   | false=>
    rw [if_pos ⟨hb,rfl⟩];have a3:=Ox ag;by_cases U:Di (BS lk ms.length (q:Int) lk.length)≤c
    ·simp only;rw [if_pos U];have:=a1 (CP (J.1.getD q [])) (ms++ [(q:Int)]) (fl ||| BS lk ms.length (q:Int) lk.length) (c - Di (BS lk ms.length (q:Int) lk.length)) a2 (by rw [Nat.testBit_or,hh,hs];rfl) (fun i hi=>by
      rw [Nat.testBit_or,Bool.or_eq_true] at hi
      rcases hi with hi | hi
      ·obtain⟨l,O,ap⟩:=Y i hi
       exact⟨l,O,by simp;omega⟩
      ·obtain⟨_,l,K,av,_⟩:=(HJ _ _ _ _ _).1 hi
       exact⟨l,K,by simp;omega⟩)
     rw [Uy Z,a3,show c - Di (BS lk ms.length (q:Int) lk.length)+(Di fl+Di (BS lk ms.length (q:Int) lk.length))=c+Di fl by omega] at this;rw [show((q:Int)).toNat=q by omega,this,List.length_append];rfl
    ·simp only;rw [if_neg U];refine Qn fun x V=>?_;have:=XX (Rg V);rw [Bool.and_eq_false_iff];exact .inl (decide_eq_false (by omega))
  ·rw [if_neg hb,if_neg fun x=>hb x.1];simp
def nT(J:JW)(lk:Bf)(h a k:Nat):Nat:=(TA J lk a).countP fun t=>decide (CU t=k)&& !t.2.2.testBit h
theorem XL{n:Nat}{J:JW}{lk:Bf}(K:VJ n J)(h a k:Nat):nT J lk h a k=((Cw (AG J a) 16).map fun m=>ways J lk h (CO lk) 0 m k).sum:=by
 have:=Xi (h:=h) (lk:=lk) K (CO lk) (AG J a) [] 0 k (Ix K a) (by simp) (by simp);have e:Di 0=0:=by decide
 rw [e] at this;unfold nT TA;rw [List.countP_map];exact this
theorem XR{n h:Nat}{J:JW}{lk:Bf}(K:VJ n J)(O:B9 n lk)(hh:lk.length≤h)(a k:Nat):nT J lk h a k=(TA J lk a).countP fun t=>decide (CU t=k):=by
 refine List.countP_congr fun t ht=>?_;obtain⟨_,_,_,_,e⟩:=(OZ K O).1 ht;have:t.2.2.testBit h=false:=by
  cases hb:t.2.2.testBit h with
  | false=>rfl
  | true=>
   rw [e] at hb;obtain⟨l,U,_⟩:=(MO _ _ _ _).1 hb;have:=(List.getElem?_eq_some_iff.1 U).1;omega
 rw [this];simp
theorem M1{l:List Nat}{b:Nat}(h:∀x∈l,x≤b):l.sum≤l.length*b:=by
 induction l with
 | nil=>simp
 | cons x l K=>
  have U:=h x (by simp);have V:=K fun y O=>h y (by simp [O]);simp only [List.sum_cons,List.length_cons,Nat.succ_mul];omega
theorem R9{n h:Nat}{J:JW}{lk:Bf}(K:VJ n J):∀(d y:Nat) (m:Int) (k:Nat),ways J lk h d y m k≤3 ^ d
 | 0,y,m,k=>by
  unfold ways
  split
  ·split <;> simp
  ·simp
 | d+1,y,m,k=>by
  unfold ways;split
  ·split
   ·refine Nat.le_trans (M1 (b:=3 ^ d) fun x O=>?_) ?_
    ·obtain⟨z,_,rfl⟩:=List.mem_map.1 O;exact R9 K d _ _ _
    ·rw [List.length_map,Nat.pow_succ,Nat.mul_comm];exact Nat.mul_le_mul_left _ (K.FN _).len
   ·simp
  ·simp
end Pal
namespace Pal
open Go Go.Conc Go.Proofs
open Go.Proofs.Tryz
variable {J:Judge Tryz.prog}{E:LH}
def Pq(fuel:Nat)(p0:A2):Option Int:= (f113 fuel p0).bind fun K=> (Ln fuel K).bind fun O=> some O
theorem YY{O:An}{c2:Nat}{U:An}{V:Nat}{p0:A2}(ag:GE E)(al:Al (rL rI) E O c2 p0.1)(am:Al (rL rI) E U V p0.2){fuel:Nat}{r:Int}(Y:Pq fuel p0=some r):AK J 67 [.agg #[sV O p0.1 c2,sV U p0.2 V]] E [] (fun w E' B'=>w=iV r∧B'= []):=by
 refine A3 func67 fun Q a8 cs H ap av=>?_;unfold Pq at Y;refine zg 2 rfl (B4 ap fun a9 ba K aY aZ=>?_);refine zg 4 rfl (BO aY BW BD rfl rfl ?_);obtain⟨bb,a0,a1⟩:=bs Y;refine BP (SM (al.Ah K) (am.Ah K) a0) rfl rfl (AS func113 rfl) aZ ?_;rintro bc bd _ Z ⟨_,rfl,rfl,a2⟩ a3;obtain⟨be,a4,a5⟩:=bs a1;refine BC (OI (ag.Ah (K.Ab Z)) a2 a4) rfl rfl NS a3 fun bf a6 a7=>zg 2 rfl ?_;obtain rfl:=oi a5;exact AA func67 rfl rfl (av ((K.Ab Z).Ab a6) rfl ⟨rfl,rfl⟩ a7)
def Ht(fuel:Nat)(p0:A2)(p1:AI):Option Int:= (f113 fuel p0).bind fun K=> if K.isSome=true then((Ln fuel K).bind fun O=> some O) else((f116 fuel p0 p1).bind fun U=> (Ln fuel U).bind fun V=> some V)
theorem K1{U:An}{c2:Nat}{V:An}{Y:Nat}{Z:An}{ag:Nat}{p0:A2}{p1:AI}(al:GE E)(am:Al (rL rI) E U c2 p0.1)(ap:Al (rL rI) E V Y p0.2)(a3:Al Bo E Z ag p1){fuel:Nat}{r:Int}(av:Ht fuel p0 p1=some r):AK J 69 [.agg #[sV U p0.1 c2,sV V p0.2 Y],sV Z p1 ag] E [] (fun w E' B'=>w=iV r∧B'= []):=by
 refine A3 func69 fun Q bp cs H a4 aY=>?_;unfold Ht at av;refine zg 2 rfl (B4 a4 fun bq br K aZ a5=>?_);refine zg 5 rfl (BO aZ BW BD rfl rfl ?_);obtain⟨a6,a7,a8⟩:=bs av;refine BP (SM (am.Ah K) (ap.Ah K) a7) rfl rfl (AS func113 rfl) a5 ?_;rintro bu bv _ O ⟨_,rfl,rfl,a0⟩ a1;refine zg 5 rfl (AD (v:= .bool a6.isSome) rfl (fun ρ h=>Ov underlying149 a0 (h _ _ rfl) (h _ _ rfl)) ?_);refine JL.done (BH a8 (fun a9 ba=>?_) (fun a9 bb=>?_))
 ·obtain⟨bw,bc,bd⟩:=bs ba;refine zg 3 rfl (BC (OI (al.Ah (K.Ab O)) a0 bc) rfl rfl NS a1 fun bx be bf=>?_);refine zg 2 rfl ?_;obtain rfl:=oi bd;exact AA func69 rfl rfl (aY ((K.Ab O).Ab be) rfl ⟨rfl,rfl⟩ bf)
 ·refine zg 3 rfl (BO (aZ.Ah O) BW BD rfl rfl ?_);obtain⟨bz,bg,bh⟩:=bs bb;refine zg 1 rfl (BP (YA (am.Ah (K.Ab O)) (ap.Ah (K.Ab O)) (a3.Ah (K.Ab O)) bg) rfl rfl (AS func116 rfl) a1 ?_);rintro bA bB _ a2 ⟨_,rfl,rfl,bi⟩ bj;obtain⟨bC,bl,bm⟩:=bs bh;refine BC (OI (al.Ah ((K.Ab O).Ab a2)) bi bl) rfl rfl NS bj fun bD bn bo=>zg 2 rfl ?_;obtain rfl:=oi bm;exact AA func69 rfl rfl (aY (((K.Ab O).Ab a2).Ab bn) rfl ⟨rfl,rfl⟩ bo)
def QI(fuel:Nat)(p1:List Int)(K:Int):Option (Bi Int (((Option BT)×Int)⊕(Unit))):= if K<(p1.length:Int) then((ix p1 K).bind fun O=> (f101 fuel O 0 12).bind fun U=> if U=true then(some (.done (Sum.inl (none,1)))) else((As (K+1)).bind fun V=> some (.more V))) else(some (.done (Sum.inr ())))
def Nn(fuel:Nat)(p0:A2)(p1:List Int):Option ((Option BT)×Int):= (Pq fuel p0).bind fun K=> if K≠0 then(some (none,K)) else(Option.bind (iter (QI fuel p1) fuel 0) fun O=> Sum.elim (fun r=>some r) (fun V=> (f92 fuel p0).bind fun U=> some (U,0)) O)
theorem RS{ap:An}{c2:Nat}{av:An}{aY:Nat}{Z:An}{ag:Nat}{p0:A2}{p1:List Int}(bf:GE E)(aZ:Al (rL rI) E ap c2 p0.1)(a0:Al (rL rI) E av aY p0.2)(bg:Al rI E Z ag p1){fuel:Nat}{r:(Option BT)×Int}(a1:Nn fuel p0 p1=some r):AK J 106 [.agg #[sV ap p0.1 c2,sV av p0.2 aY],sV Z p1 ag] E [] (fun w E' B'=>∃(a2:Value),w= .tuple #[a2,iV r.2]∧B'= []∧Kb (rP (rL (rL rI)) (rP (rL (rL rI)) (rA 13 (rN .u16)))) E' a2 r.1):=by
 refine A3 func106 fun Q bV cs H bh al=>?_;unfold Nn at a1;refine zg 2 rfl (B4 bh fun a3 bW K a4 bi=>?_);refine zg 6 rfl (BO a4 BW BD rfl rfl ?_);obtain⟨bY,bj,bl⟩:=bs a1;refine BC (YY (bf.Ah K) (aZ.Ah K) (a0.Ah K) bj) rfl rfl (AS func67 rfl) bi fun bm O a5=>zg 7 rfl (AL bl (fun bn bo=>?_) (fun bn bp=>?_))
 ·refine zg 6 rfl ?_;obtain rfl:=oi bo;exact AA func106 rfl rfl (al (K.Ab O) rfl ⟨.pointer none,rfl,rfl,rfl⟩ a5)
 ·refine zg 5 rfl (Bg underlying28 rfl rfl rfl ?_);obtain⟨a6,bq,a7⟩:=bs bp;refine zg 2 rfl (Br (fun L s=>∃(a8:Unit) (a9:LH),a6=Sum.inr a8∧Jm bm H a9 [] [(2,pV a3 0)] L s) ?_ ?_)
  ·rintro _ _ ⟨a8,a9,rfl,rfl,rfl,U,br⟩;have bu:=elim_inr a7;refine zg 2 rfl (BO (a4.Ah (O.Ab U)) BW BD rfl rfl ?_);obtain⟨bZ,bv,bw⟩:=bs bu;refine BP (No (aZ.Ah ((K.Ab O).Ab U)) (a0.Ah ((K.Ab O).Ab U)) bv) rfl rfl LZ br ?_;rintro bx b0 _ bz ⟨_,rfl,rfl,bA⟩ bB;refine zg 3 rfl ?_;obtain rfl:=oi bw;exact AA func106 rfl rfl (al (((K.Ab O).Ab U).Ab bz) rfl ⟨bx,rfl,rfl,bA⟩ bB)
  ·intro bC;refine JL.block (Cx bq (fun am=> []) (fun am=> [(2,pV a3 0),(14,sV Z p1 ag),(15,iV (p1.length:Int)),(16,iV am)]) Ar a5 ?_);rintro am bD V ba bb ⟨b1,Y⟩ bE;have bc:=Y;unfold QI at bc;refine zg 5 rfl (AL bc (fun bF bG=>?_) (fun bF bH=>?_))
   ·obtain⟨b2,bI,bJ⟩:=bs bG;refine zg 5 rfl (Ce (bg.Ah ((K.Ab O).Ab V)) bI underlying28 AW ?_);rintro b3 b4 _ rfl bK;refine BY 0 bK Bv rfl rfl rfl ?_;obtain⟨b5,bL,bM⟩:=bs bJ;refine zg 5 rfl (BC (I2 bL) rfl rfl II ba fun b6 bd be=>?_);refine JL.done (BH bM (fun bN bO=>?_) (fun bN bP=>?_))
    ·refine zg 5 rfl ?_;obtain rfl:=oi bO;obtain rfl:=bb _ Y;have bQ:=elim_inl a7;obtain rfl:=oi bQ;exact AA func106 rfl rfl (al (((K.Ab O).Ab V).Ab bd) rfl ⟨.pointer none,rfl,rfl,rfl⟩ be)
    ·obtain⟨bR,bS,bT⟩:=bs bP;refine zg 3 rfl (Bc bS rfl rfl rfl ?_);refine zg 2 rfl ?_;obtain rfl:=oi bT;exact bE bR (V.Ab bd) be rfl Y
   ·refine JL.exit rfl ?_;obtain rfl:=oi bH;have bU:a6=(Sum.inr ()):=(bb _ Y).symm;exact Az (bC _ _ ⟨(),bD,bU,rfl,rfl,V,ba⟩) rfl
def Pn(fuel:Nat)(p0:A2)(p1:Int):Option ((List Int)×Int):= (Nn fuel p0 ([p1]:List Int)).bind fun K=> if K.2≠0 then(some ([],K.2)) else((K.1).bind fun O=> (ix O.2.2 p1).bind fun U=> (f89 fuel U).bind fun V=> some (V,0))
theorem YU{U:An}{c2:Nat}{V:An}{Y:Nat}{p0:A2}{p1:Int}(a0:GE E)(a1:Al (rL rI) E U c2 p0.1)(a2:Al (rL rI) E V Y p0.2){fuel:Nat}{r:(List Int)×Int}(Z:Pn fuel p0 p1=some r):AK J 51 [.agg #[sV U p0.1 c2,sV V p0.2 Y],iV p1] E [] (fun w E' B'=>∃(ag:An) (al:Nat),w= .tuple #[sV ag r.1 al,iV r.2]∧B'= []∧Al rI E' ag al r.1):=by
 refine A3 func51 fun Q bC cs H a3 am=>?_;unfold Pn at Z;refine zg 2 rfl (B4 a3 fun bD bE K a4 a5=>?_);refine zg 5 rfl (BO a4 BW BD rfl rfl ?_);refine zg 1 rfl (Dx (pp:=rI) [iV p1] [p1] rfl rfl rfl underlying28 AW CM (by decide) rfl rfl rfl ⟨rfl,trivial⟩ a5 fun bF bG a6 a7=>?_);refine B7 2 a6 a7 rfl fun bH O a8 a9=>?_;obtain⟨bI,ba,bb⟩:=bs Z;refine BP (RS (a0.Ah (K.Ab O)) (a1.Ah (K.Ab O)) (a2.Ah (K.Ab O)) a8 ba) rfl rfl (AS func106 rfl) a9 ?_;rintro _ bJ _ ap ⟨bK,rfl,rfl,bc⟩ av;refine zg 12 rfl (AL bb (fun bd be=>?_) (fun bd bf=>?_))
 ·refine zg 6 rfl ?_;obtain rfl:=oi be;exact AA func51 rfl rfl (am ((K.Ab O).Ab ap) rfl ⟨none,0,rfl,rfl,Al.nil⟩ av)
 ·obtain⟨aY,bg,bh⟩:=bs bf;have aZ:=bc;refine zg 5 rfl ?_;rw [bg] at aZ;obtain⟨bL,bM,_,rfl,bi,⟨_,_,rfl,⟨bj,bl,rfl,bN⟩,⟨_,bO,rfl,⟨bm,bn,rfl,bP⟩,bo⟩⟩⟩:=aZ;refine zg 1 rfl (BJ underlying141 Ga rfl rfl rfl ?_);obtain⟨bQ,bp,bq⟩:=bs bh;refine OC (l:= [sV bj aY.1 bl,sV bm aY.2.1 bn]) bi bo bp rfl rfl rfl rfl rfl underlying139 Ib ?_;rintro bR _ rfl br;refine JL.fl 0 br underlying138 Ek GO ?_;obtain⟨bS,bu,bv⟩:=bs bq;refine BP (I6 bu) rfl rfl IJ av ?_;rintro _ bT _ bw ⟨bx,bz,rfl,rfl,bA⟩ bB;refine zg 3 rfl ?_;obtain rfl:=oi bv;exact AA func51 rfl rfl (am (((K.Ab O).Ab ap).Ab bw) rfl ⟨bx,bz,rfl,rfl,bA⟩ bB)
def Rz(fuel:Nat)(p1:Int)(O:BT)(K:Int):Option (Bi Int Int):= (f109 fuel O p1 K).bind fun U=> if(!U)=true then((As (K+1)).bind fun V=> some (.more V)) else(some (.done K))
def Ps(fuel:Nat)(p0:A2)(p1:Int):Option (Int×Int):= (Nn fuel p0 ([p1]:List Int)).bind fun K=> if K.2≠0 then(some (0,K.2)) else((K.1).bind fun O=> Option.bind (iter (Rz fuel p1 O) fuel 0) fun U=> some (U,0))
theorem YB{Z:An}{c2:Nat}{ag:An}{al:Nat}{p0:A2}{p1:Int}(a3:GE E)(a4:Al (rL rI) E Z c2 p0.1)(a5:Al (rL rI) E ag al p0.2){fuel:Nat}{r:Int×Int}(am:Ps fuel p0 p1=some r):AK J 57 [.agg #[sV Z p0.1 c2,sV ag p0.2 al],iV p1] E [] (fun w E' B'=>w= .tuple #[iV r.1,iV r.2]∧B'= []):=by
 refine A3 func57 fun Q bN cs H a6 ap=>?_;unfold Ps at am;refine zg 2 rfl (B4 a6 fun bO bP O a7 a8=>?_);refine zg 5 rfl (BO a7 BW BD rfl rfl ?_);refine zg 1 rfl (Dx (pp:=rI) [iV p1] [p1] rfl rfl rfl underlying28 AW CM (by decide) rfl rfl rfl ⟨rfl,trivial⟩ a8 fun bQ bR a9 ba=>?_);refine B7 2 a9 ba rfl fun bS U bb bc=>?_;obtain⟨bT,bd,be⟩:=bs am;refine BP (RS (a3.Ah (O.Ab U)) (a4.Ah (O.Ab U)) (a5.Ah (O.Ab U)) bb bd) rfl rfl (AS func106 rfl) bc ?_;rintro _ bU _ av ⟨bV,rfl,rfl,bf⟩ aY;refine zg 12 rfl (AL be (fun bg bh=>?_) (fun bg bi=>?_))
 ·refine zg 6 rfl ?_;obtain rfl:=oi bh;exact AA func57 rfl rfl (ap ((O.Ab U).Ab av) rfl ⟨rfl,rfl⟩ aY)
 ·obtain⟨bW,bj,bl⟩:=bs bi;have aZ:=bf;refine zg 6 rfl ?_;rw [bj] at aZ;obtain⟨bm,bn,_,rfl,bo,⟨_,_,rfl,⟨bY,bZ,rfl,bp⟩,⟨_,b0,rfl,⟨b1,b2,rfl,bq⟩,br⟩⟩⟩:=aZ;obtain⟨bu,bv,bw⟩:=bs bl;refine C4 [] [(8,iV bu)] (fun b3 bx bz=>?_) (fun bA=>?_)
  ·refine zg 6 rfl ?_;obtain rfl:=oi bw;exact AA func57 rfl rfl (ap (((O.Ab U).Ab av).Ab bx) rfl ⟨rfl,rfl⟩ bz)
  ·refine JL.block (Cx bv (fun V=> []) (fun V=> [(1,iV p1),(6,pV bm bn),(8,iV V)]) Ar aY ?_);rintro V b4 K bB bC ⟨b5,Y⟩ bD;have a0:=Y;unfold Rz at a0;obtain⟨bE,bF,bG⟩:=bs a0;refine zg 6 rfl (BC (Zx (bo.Ah K) (bp.Ah K) (bq.Ah K) (Rp.Ah _ K br) bF) rfl rfl (AS func109 rfl) bB fun b6 a1 a2=>?_);refine AD (v:= .bool (!bE)) rfl (fun ρ h=>Yl.not (h _ _ rfl)) (JL.done ?_);refine BH bG (fun bH bI=>?_) (fun bH bJ=>?_)
   ·obtain⟨bK,bL,bM⟩:=bs bI;refine zg 4 rfl (Bc bL rfl rfl rfl ?_);refine zg 3 rfl ?_;obtain rfl:=oi bM;exact bD bK (K.Ab a1) a2 rfl Y
   ·refine JL.exit rfl ?_;obtain rfl:=oi bJ;obtain rfl:=bC _ Y;exact bA (K.Ab a1) a2 rfl
end Pal
namespace Pal
open Go Go.Conc Go.Proofs
open Go.Proofs.Tryz
def Hv(fuel:Nat)(p0:A2)(p1:AI)(p2:Int)(p3:Bool):Option ((Option BT)×(Int×(List Ca))×Int):= (Ht fuel p0 p1).bind fun O=> if O≠0 then(some (none,(0,[]),O)) else((As ((p1.length:Int) - 1)).bind fun V=> (f101 fuel p2 (-1) V).bind fun Y=> if Y=true then(some (none,(0,[]),3)) else((f92 fuel p0).bind fun Z=> (Z).bind fun U=> (f93 fuel U p1).bind fun K=> Option.bind (if(K.2.length:Int)=0 then(some (!p3)) else(some false)) fun ag=> if ag=true then(some (none,K,11)) else(some (some U,K,0))))
theorem K7{E:LH}{a3:An}{c2:Nat}{a4:An}{a5:Nat}{a6:An}{a7:Nat}{p0:A2}{p1:AI}{p2:Int}{p3:Bool}(bF:GE E)(a8:Al (rL rI) E a3 c2 p0.1)(a9:Al (rL rI) E a4 a5 p0.2)(ba:Al Bo E a6 a7 p1){fuel:Nat}{r:(Option BT)×(Int×(List Ca))×Int}(bb:Hv fuel p0 p1 p2 p3=some r):AK (DI Tryz.prog) 78 [.agg #[sV a3 p0.1 c2,sV a4 p0.2 a5],sV a6 p1 a7,iV p2,.bool p3] E [] (fun w E' B'=>∃(bc:Value) (bd:An) (be:Nat),w= .tuple #[bc,.agg #[iV r.2.1.1,sV bd r.2.1.2 be],iV r.2.2]∧B'= []∧Kb (rP (rL (rL rI)) (rP (rL (rL rI)) (rA 13 (rN .u16)))) E' bc r.1∧Al Dp E' bd be r.2.1.2):=by
 refine A3 func78 fun Q cq cs H bG ap=>?_;unfold Hv at bb;refine zg 2 rfl (B4 bG fun cr ct O bf bH=>?_);refine zg 1 rfl (CF bH FU fun bg bI=>?_);refine zg 5 rfl (BO bf BW BD rfl rfl ?_);obtain⟨bh,bJ,bK⟩:=bs bb;refine zg 1 rfl (BC (K1 (bF.Ah O) (a8.Ah O) (a9.Ah O) (ba.Ah O) bJ) rfl rfl Kf bI fun cu V bi=>?_);refine zg 7 rfl (AL bK (fun bL bM=>?_) (fun bL bN=>?_))
 ·refine zg 2 rfl (AD (v:= .agg #[iV 0,nS]) rfl (fun ρ h=>Dg [(0,1),(1,1)] h FU underlying97 ⟨rfl,Bu type3,rfl,Bu type95,trivial⟩ rfl rfl) ?_);refine zg 2 rfl (BR 2 bi Dk fun bj=>?_);refine zg 2 rfl ?_;obtain rfl:=oi bM;refine JL.ret (v:= .tuple #[.pointer none,.agg #[iV 0,nS],iV bh]) rfl rfl (Co.list func78 rfl (vs:= [.pointer none,.agg #[iV 0,nS],iV bh]) ⟨rfl,⟨_,rfl,Ld.many (vs:= [iV 0,nS]) H8 Dk (FV (off:=0) 2 bj rfl rfl)⟩,rfl,trivial⟩) (Iq 2 bj rfl fun bO=>?_);exact ap (O.Ab V) rfl ⟨.pointer none,none,0,rfl,rfl,rfl,Al.nil⟩ bO
 ·refine zg 6 rfl (Bg underlying25 rfl rfl rfl ?_);obtain⟨cv,bP,bQ⟩:=bs bN;refine Cd bP rfl rfl rfl ?_;obtain⟨cw,bR,bS⟩:=bs bQ;refine BC (I2 bR) rfl rfl II bi fun cy al bl=>JL.done (BH bS (fun bT bU=>?_) (fun bT bV=>?_))
  ·refine zg 2 rfl (AD (v:= .agg #[iV 0,nS]) rfl (fun ρ h=>Dg [(0,1),(1,1)] h FU underlying97 ⟨rfl,Bu type3,rfl,Bu type95,trivial⟩ rfl rfl) ?_);refine zg 1 rfl (BR 2 bl Dk fun bm=>?_);refine zg 2 rfl ?_;obtain rfl:=oi bU;refine JL.ret (v:= .tuple #[.pointer none,.agg #[iV 0,nS],iV 3]) rfl rfl (Co.list func78 rfl (vs:= [.pointer none,.agg #[iV 0,nS],iV 3]) ⟨rfl,⟨_,rfl,Ld.many (vs:= [iV 0,nS]) H8 Dk (FV (off:=0) 2 bm rfl rfl)⟩,rfl,trivial⟩) (Iq 2 bm rfl fun bW=>?_);exact ap ((O.Ab V).Ab al) rfl ⟨.pointer none,none,0,rfl,rfl,rfl,Al.nil⟩ bW
  ·refine zg 3 rfl (BO (bf.Ah (V.Ab al)) BW BD rfl rfl ?_);obtain⟨cz,bY,bZ⟩:=bs bV;refine BP (No (a8.Ah ((O.Ab V).Ab al)) (a9.Ah ((O.Ab V).Ab al)) bY) rfl rfl LZ bl ?_;rintro cA cB _ aZ ⟨_,rfl,rfl,b0⟩ b1;obtain⟨a0,b2,b3⟩:=bs bZ;have bn:=b0;refine zg 6 rfl ?_;rw [b2] at bn;obtain⟨av,aY,_,rfl,bo,⟨_,_,rfl,⟨b4,b5,rfl,bp⟩,⟨_,bq,rfl,⟨br,bu,rfl,bv⟩,bw⟩⟩⟩:=bn;obtain⟨K,b6,b7⟩:=bs b3;refine BP (Ny bo bp bv bw (ba.Ah (((O.Ab V).Ab al).Ab aZ)) b6) rfl rfl L2 b1 ?_;rintro _ cC _ am ⟨Y,Z,rfl,rfl,bx⟩ b8;refine CF b8 FU fun b9 ca=>?_;refine BR 7 ca Dk fun cb=>?_;refine CV 7 cb rfl fun a1 ag a2 bz=>zg 4 rfl (JL.fl 1 a2 underlying97 Dt EN ?_);refine Bg underlying95 rfl rfl rfl ?_;obtain⟨cc,cd,ce⟩:=bs b7;refine zg 2 rfl (EC [] (fun L s=>∃(bA:LH),Jm a1 H bA [bX bg #[iV 0,nS] 97] [(9,pV bg 0),(12,pV av aY),(13,pV b9 0),(39,.bool cc)] L s) ?_ ?_)
   ·rintro _ _ ⟨bA,rfl,rfl,U,bB⟩;refine JL.done (BH ce (fun cf cg=>?_) (fun cf ci=>?_))
    ·refine JL.seq (C6 2 fun ht=>?_);refine Fa 0 ht (a2.Ah U) H8 Dk rfl rfl rfl (Cj 1 ht rfl rfl ?_);refine Ci [2,3] (BR 0 bB Dk fun bC=>?_);refine zg 2 rfl ?_;obtain rfl:=oi cg;refine JL.ret (v:= .tuple #[.pointer none,.agg #[iV K.1,sV Y K.2 Z],iV 11]) rfl rfl (Co.list func78 rfl (vs:= [.pointer none,.agg #[iV K.1,sV Y K.2 Z],iV 11]) ⟨rfl,⟨_,rfl,Ld.many (vs:= [iV K.1,sV Y K.2 Z]) H8 Dk (FV (off:=0) 0 bC rfl rfl)⟩,rfl,trivial⟩) (Iq 0 bC rfl fun ck=>?_);exact ap ((((((O.Ab V).Ab al).Ab aZ).Ab am).Ab ag).Ab U) rfl ⟨.pointer none,Y,Z,rfl,rfl,rfl,(bx.Ah (ag.Ab U))⟩ ck
    ·refine zg 2 rfl (C6 3 fun ht=>?_);refine Cj 0 ht rfl rfl (Fa 1 ht (a2.Ah U) H8 Dk rfl rfl rfl ?_);refine Cj 2 ht rfl rfl (Ci [3,4] ?_);refine BR 0 bB Dk fun bD=>?_;refine zg 2 rfl ?_;obtain rfl:=oi ci;refine JL.ret (v:= .tuple #[pV av aY,.agg #[iV K.1,sV Y K.2 Z],iV 0]) rfl rfl (Co.list func78 rfl (vs:= [pV av aY,.agg #[iV K.1,sV Y K.2 Z],iV 0]) ⟨rfl,⟨_,rfl,Ld.many (vs:= [iV K.1,sV Y K.2 Z]) H8 Dk (FV (off:=0) 0 bD rfl rfl)⟩,rfl,trivial⟩) (Iq 0 bD rfl fun cm=>?_);exact ap ((((((O.Ab V).Ab al).Ab aZ).Ab am).Ab ag).Ab U) rfl ⟨pV av aY,Y,Z,rfl,rfl,⟨_,_,_,rfl,(bo.Ah ((am.Ab ag).Ab U)),⟨[sV b4 a0.1 b5],(([sV br a0.2.1 bu]:List Value)++bq),rfl,⟨_,_,rfl,(bp.Ah ((am.Ab ag).Ab U))⟩,⟨[sV br a0.2.1 bu],bq,rfl,⟨_,_,rfl,(bv.Ah ((am.Ab ag).Ab U))⟩,(Rp.Ah _ ((am.Ab ag).Ab U) bw)⟩⟩⟩,(bx.Ah (ag.Ab U))⟩ cm
   ·intro bE;refine Ee 36 cd (fun cn co=>?_) (fun cn cp=>?_)
    ·refine zg 1 rfl (AD (v:= .bool (!p3)) rfl (fun ρ h=>Yl.not (h _ _ rfl)) ?_);refine zg 1 rfl ?_;obtain rfl:=oi co;exact Az (bE _ _ ⟨a1,rfl,rfl,Ar,bz⟩) rfl
    ·refine zg 3 rfl ?_;obtain rfl:=oi cp;exact Az (bE _ _ ⟨a1,rfl,rfl,Ar,bz⟩) rfl
def Jd(fuel:Nat)(p0:A2)(p1:AI):Option (Int×Int):= (Hv fuel p0 p1 (-1) false).bind fun K=> some (K.2.1.1,K.2.2)
theorem ZY{E:LH}{O:An}{c2:Nat}{U:An}{V:Nat}{Y:An}{Z:Nat}{p0:A2}{p1:AI}(al:GE E)(am:Al (rL rI) E O c2 p0.1)(ap:Al (rL rI) E U V p0.2)(av:Al Bo E Y Z p1){fuel:Nat}{r:Int×Int}(ag:Jd fuel p0 p1=some r):AK (DI Tryz.prog) 47 [.agg #[sV O p0.1 c2,sV U p0.2 V],sV Y p1 Z] E [] (fun w E' B'=>w= .tuple #[iV r.1,iV r.2]∧B'= []):=by
 refine A3 func47 fun Q bb cs H aY aZ=>?_;unfold Jd at ag;refine zg 2 rfl (B4 aY fun bc bd K a0 a1=>?_);refine zg 5 rfl (BO a0 BW BD rfl rfl ?_);obtain⟨be,a2,a3⟩:=bs ag;refine zg 1 rfl (BP (K7 (al.Ah K) (am.Ah K) (ap.Ah K) (av.Ah K) a2) rfl rfl Ki a1 ?_);rintro _ bf _ a4 ⟨bg,bh,bi,rfl,rfl,bj,bl⟩ a5;refine zg 4 rfl (CF a5 FU fun bm a6=>?_);refine zg 1 rfl (BR 3 a6 Dk fun a7=>?_);refine CV 3 a7 rfl fun bn a8 a9 ba=>zg 4 rfl (JL.fl 0 a9 underlying97 AW Bv ?_);refine zg 4 rfl ?_;obtain rfl:=oi a3;exact AA func47 rfl rfl (aZ ((K.Ab a4).Ab a8) rfl ⟨rfl,rfl⟩ ba)
def Pf(fuel:Nat)(p0:A2)(p1:AI):Option (Int×Int):= (Hv fuel p0 p1 (-1) true).bind fun K=> some ((K.2.1.2.length:Int),K.2.2)
theorem Zl{E:LH}{O:An}{c2:Nat}{U:An}{V:Nat}{Y:An}{Z:Nat}{p0:A2}{p1:AI}(al:GE E)(am:Al (rL rI) E O c2 p0.1)(ap:Al (rL rI) E U V p0.2)(av:Al Bo E Y Z p1){fuel:Nat}{r:Int×Int}(ag:Pf fuel p0 p1=some r):AK (DI Tryz.prog) 28 [.agg #[sV O p0.1 c2,sV U p0.2 V],sV Y p1 Z] E [] (fun w E' B'=>w= .tuple #[iV r.1,iV r.2]∧B'= []):=by
 refine A3 func28 fun Q bb cs H aY aZ=>?_;unfold Pf at ag;refine zg 2 rfl (B4 aY fun bc bd K a0 a1=>?_);refine zg 5 rfl (BO a0 BW BD rfl rfl ?_);obtain⟨be,a2,a3⟩:=bs ag;refine zg 1 rfl (BP (K7 (al.Ah K) (am.Ah K) (ap.Ah K) (av.Ah K) a2) rfl rfl Ki a1 ?_);rintro _ bf _ a4 ⟨bg,bh,bi,rfl,rfl,bj,bl⟩ a5;refine zg 4 rfl (CF a5 FU fun bm a6=>?_);refine zg 1 rfl (BR 3 a6 Dk fun a7=>?_);refine CV 3 a7 rfl fun bn a8 a9 ba=>zg 4 rfl (JL.fl 1 a9 underlying97 Dt EN ?_);refine Bg underlying95 rfl rfl rfl (zg 4 rfl ?_);obtain rfl:=oi a3;exact AA func28 rfl rfl (aZ ((K.Ab a4).Ab a8) rfl ⟨rfl,rfl⟩ ba)
def Pt(fuel:Nat)(p0:A2)(p1:AI):Option (Int×(List Int)×Int):= (Hv fuel p0 p1 (-1) false).bind fun K=> if K.2.2≠0 then(some (0,[],K.2.2)) else((ix K.2.1.2 (0)).bind fun O=> (ix K.2.1.2 (0)).bind fun U=> some (O.1,U.2.1,0))
theorem Yn{E:LH}{U:An}{c2:Nat}{V:An}{Y:Nat}{Z:An}{ag:Nat}{p0:A2}{p1:AI}(a2:GE E)(a3:Al (rL rI) E U c2 p0.1)(a4:Al (rL rI) E V Y p0.2)(a5:Al Bo E Z ag p1){fuel:Nat}{r:Int×(List Int)×Int}(al:Pt fuel p0 p1=some r):AK (DI Tryz.prog) 30 [.agg #[sV U p0.1 c2,sV V p0.2 Y],sV Z p1 ag] E [] (fun w E' B'=>∃(am:An) (ap:Nat),w= .tuple #[iV r.1,sV am r.2.1 ap,iV r.2.2]∧B'= []∧Al rI E' am ap r.2.1):=by
 refine A3 func30 fun Q br cs H a6 av=>?_;unfold Pt at al;refine zg 2 rfl (B4 a6 fun bu bv K a7 a8=>?_);refine zg 6 rfl (BO a7 BW BD rfl rfl ?_);obtain⟨bw,a9,ba⟩:=bs al;refine zg 1 rfl (BP (K7 (a2.Ah K) (a3.Ah K) (a4.Ah K) (a5.Ah K) a9) rfl rfl Ki a8 ?_);rintro _ bx _ aY ⟨bz,bA,bB,rfl,rfl,bC,aZ⟩ bb;refine zg 4 rfl (CF bb FU fun bD bc=>?_);refine zg 1 rfl (BR 3 bc Dk fun bd=>?_);refine CV 3 bd rfl fun bE O a0 a1=>zg 8 rfl (AL ba (fun be bf=>?_) (fun be bg=>?_))
 ·refine zg 7 rfl ?_;obtain rfl:=oi bf;exact AA func30 rfl rfl (av ((K.Ab aY).Ab O) rfl ⟨none,0,rfl,rfl,Al.nil⟩ a1)
 ·refine zg 2 rfl (C6 11 fun ht=>?_);refine B8 0 ht underlying97 Dt rfl rfl rfl rfl (Cv 1 ht 1 a0 EN rfl rfl rfl rfl ?_);obtain⟨bF,bh,bi⟩:=bs bg;refine Cy 2 (aZ.Ah O) bh ht underlying95 Cs ?_;rintro bG bH _ ⟨_,_,rfl,rfl,⟨_,_,rfl,⟨bI,bJ,rfl,bK⟩,rfl⟩⟩ bj;refine B8 3 ht underlying104 AW rfl rfl rfl rfl (Cv 4 ht 0 bj Bv rfl rfl rfl rfl ?_);refine B8 5 ht underlying97 Dt rfl rfl rfl rfl (Cv 6 ht 1 a0 EN rfl rfl rfl rfl ?_);obtain⟨bL,bl,bm⟩:=bs bi;refine Cy 7 (aZ.Ah O) bl ht underlying95 Cs ?_;rintro bM bN _ ⟨_,_,rfl,rfl,⟨_,_,rfl,⟨bn,bo,rfl,bp⟩,rfl⟩⟩ bq;refine B8 8 ht underlying104 BX rfl rfl rfl rfl (Cv 9 ht 1 bq CQ rfl rfl rfl rfl ?_);refine Cj 10 ht rfl rfl (Ci [11,12] ?_);refine zg 3 rfl ?_;obtain rfl:=oi bm;exact AA func30 rfl rfl (av ((K.Ab aY).Ab O) rfl ⟨bn,bo,rfl,rfl,bp⟩ a1)
def R4(fuel:Nat)(p2:Int)(O:(List Bs))(K:(List Int)×Int):Option (Bi ((List Int)×Int) ((List Int))):= if K.2<(O.length:Int) then((ix O K.2).bind fun U=> Option.bind (if U.2.1≤p2 then((room K.1 U.1).bind fun V=> some V) else(some K.1)) fun Y=> (As (K.2+1)).bind fun Z=> some (.more (Y,Z))) else(some (.done K.1))
def Pp(fuel:Nat)(p0:A2)(p1:AI)(p2:Int):Option ((List Int)×Int):= (Ht fuel p0 p1).bind fun K=> if K≠0 then(some ([],K)) else((f101 fuel p2 0 4).bind fun U=> if U=true then(some ([],1)) else((f92 fuel p0).bind fun V=> (V).bind fun Y=> (JM fuel Y p1).bind fun Z=> Option.bind (iter (R4 fuel p2 Z) fuel ([],0)) fun O=> if(O.length:Int)=0 then(some ([],11)) else(some (O,0))))
theorem ZA{E:LH}{bd:An}{c2:Nat}{be:An}{bf:Nat}{bg:An}{bh:Nat}{p0:A2}{p1:AI}{p2:Int}(bH:GE E)(bi:Al (rL rI) E bd c2 p0.1)(bj:Al (rL rI) E be bf p0.2)(bl:Al Bo E bg bh p1){fuel:Nat}{r:(List Int)×Int}(bm:Pp fuel p0 p1 p2=some r):AK (DI Tryz.prog) 43 [.agg #[sV bd p0.1 c2,sV be p0.2 bf],sV bg p1 bh,iV p2] E [] (fun w E' B'=>∃(bn:An) (bo:Nat),w= .tuple #[sV bn r.1 bo,iV r.2]∧B'= []∧Al rI E' bn bo r.1):=by
 refine A3 func43 fun Q cV cs H bI al=>?_;unfold Pp at bm;refine zg 2 rfl (B4 bI fun cW cX K bp bJ=>?_);refine zg 6 rfl (BO bp BW BD rfl rfl ?_);obtain⟨cY,bK,bL⟩:=bs bm;refine zg 1 rfl (BC (K1 (bH.Ah K) (bi.Ah K) (bj.Ah K) (bl.Ah K) bK) rfl rfl Kf bJ fun cZ O bq=>?_);refine zg 7 rfl (AL bL (fun bM bN=>?_) (fun bM bO=>?_))
 ·refine zg 6 rfl ?_;obtain rfl:=oi bN;exact AA func43 rfl rfl (al (K.Ab O) rfl ⟨none,0,rfl,rfl,Al.nil⟩ bq)
 ·obtain⟨c0,bP,bQ⟩:=bs bO;refine zg 5 rfl (BC (I2 bP) rfl rfl II bq fun c1 U br=>?_);refine JL.done (BH bQ (fun bR bS=>?_) (fun bR bT=>?_))
  ·refine zg 5 rfl ?_;obtain rfl:=oi bS;exact AA func43 rfl rfl (al ((K.Ab O).Ab U) rfl ⟨none,0,rfl,rfl,Al.nil⟩ br)
  ·refine zg 8 rfl (BO (bp.Ah (O.Ab U)) BW BD rfl rfl ?_);obtain⟨c3,bU,bV⟩:=bs bT;refine BP (No (bi.Ah ((K.Ab O).Ab U)) (bj.Ah ((K.Ab O).Ab U)) bU) rfl rfl LZ br ?_;rintro c4 c5 _ a3 ⟨_,rfl,rfl,bW⟩ bY;obtain⟨c6,bZ,b0⟩:=bs bV;have bu:=bW;refine zg 1 rfl ?_;rw [bZ] at bu;obtain⟨c7,c8,_,rfl,b1,⟨_,_,rfl,⟨c9,da,rfl,b2⟩,⟨_,db,rfl,⟨dc,dd,rfl,b3⟩,b4⟩⟩⟩:=bu;obtain⟨am,b5,b6⟩:=bs b0;refine BP (QR b1 b2 b3 b4 (bl.Ah (((K.Ab O).Ab U).Ab a3)) b5) rfl rfl (AS func102 rfl) bY ?_;rintro _ a4 _ bv ⟨bw,bx,rfl,rfl,b7⟩ b8;refine Bg underlying130 rfl rfl rfl ?_;obtain⟨bz,b9,ca⟩:=bs b6;refine zg 2 rfl (Br (fun L s=>∃(a5:LH) (ap:An) (av:Nat) (a6:Seg),Jn a4 H a5 [a6] [(9,sV ap bz av)] L s (OL 3 rI a5 ap av a6 bz)) ?_ ?_)
   ·rintro _ _ ⟨a5,ap,av,a6,rfl,rfl,bA,bB,cb⟩;refine zg 4 rfl (Bg underlying28 rfl rfl rfl ?_);refine zg 2 rfl (AL ca (fun cc cd=>?_) (fun cc ce=>?_))
    ·refine zg 5 rfl (JS.drop 0 bB rfl fun cf=>?_);obtain rfl:=oi cd;exact AA func43 rfl rfl (al (((((K.Ab O).Ab U).Ab a3).Ab bv).Ab bA) rfl ⟨none,0,rfl,rfl,Al.nil⟩ cf)
    ·refine zg 7 rfl (B7 0 cb bB rfl fun de cg ci ck=>?_);obtain rfl:=oi ce;exact AA func43 rfl rfl (al ((((((K.Ab O).Ab U).Ab a3).Ab bv).Ab bA).Ab cg) rfl ⟨ap,av,rfl,rfl,ci⟩ ck)
   ·intro cm;refine JL.block (CN b9 (fun L s Z=>∃(aY:LH) (V:An) (Y:Nat) (ag:Seg),Jn a4 H aY [ag] [(2,iV p2),(9,sV V Z.1 Y),(23,sV bw am bx),(24,iV (am.length:Int)),(25,iV Z.2)] L s (OL 3 rI aY V Y ag Z.1)) ⟨a4,none,0,[],rfl,rfl,Ar,b8,OL.nil⟩ ?_);rintro _ _ Z ⟨aY,V,Y,ag,rfl,rfl,a7,bC,a8⟩ cn ⟨df,a9⟩ co;have bD:=a9;unfold R4 at bD;refine zg 5 rfl (AL bD (fun cp cq=>?_) (fun cp cr=>?_))
    ·obtain⟨ct,cu,cv⟩:=bs cq;refine zg 5 rfl (Ce (b7.Ah a7) cu underlying130 AR ?_);rintro dg dh _ ⟨_,_,rfl,rfl,⟨_,_,rfl,rfl,⟨di,dj,rfl,dk⟩⟩⟩ cw;refine BO cw Cp AR rfl rfl (CF bC Ia fun dl cy=>?_);refine BR 1 cy AR fun cz=>?_;refine CV 1 cz rfl fun ba bb bE bF=>zg 3 rfl (BJ underlying133 Dk rfl rfl rfl ?_);refine JL.fl 1 bE underlying97 AW Bv ?_;obtain⟨bc,cA,cB⟩:=bs cv;refine zg 3 rfl (Br (fun L s=>∃(aZ:LH) (a0:An) (a1:Nat) (a2:Seg),Jn ba H aZ [a2] [(2,iV p2),(9,sV a0 bc a1),(23,sV bw am bx),(24,iV (am.length:Int)),(25,iV Z.2)] L s (OL 3 rI aZ a0 a1 a2 bc)) ?_ ?_)
     ·rintro _ _ ⟨aZ,a0,a1,a2,rfl,rfl,cC,cD,cE⟩;obtain⟨cF,cG,cH⟩:=bs cB;refine zg 2 rfl (Bc cG rfl rfl rfl ?_);refine zg 2 rfl ?_;obtain rfl:=oi cH;exact Az (co _ _ (bc,cF) ⟨aZ,a0,a1,a2,rfl,rfl,((a7.Ab bb).Ab cC),cD,cE⟩ a9) rfl
     ·intro bG;refine AL cA (fun cI cJ=>?_) (fun cI cK=>?_)
      ·refine zg 2 rfl (JL.fl 0 bE underlying133 AW Bv ?_);obtain⟨dm,cM,cN⟩:=bs cJ;refine JS.app (pp:=rI) (v:=iV ct.1) (a:=V) (c:=Y) 0 cM rfl rfl rfl rfl (fun _=>rfl) rfl (fun _=>rfl) rfl rfl rfl underlying28 underlying28 underlying28 AW (CR type3) CM rfl (by decide) (by decide) (by decide) (by decide) (a8.Ah bb) rfl bF rfl fun dn cO cP cQ cR cT=>zg 2 rfl ?_;obtain rfl:=oi cN;exact Az (bG _ _ ⟨ba,cO,cP,cQ,rfl,rfl,Ar,cT,cR⟩) rfl
      ·refine JL.skip ?_;obtain rfl:=oi cK;exact Az (bG _ _ ⟨ba,V,Y,ag,rfl,rfl,Ar,bF,(a8.Ah bb)⟩) rfl
    ·refine JL.exit rfl ?_;obtain rfl:=oi cr;obtain rfl:=cn _ a9;exact Az (cm _ _ ⟨aY,V,Y,ag,rfl,rfl,a7,bC,a8⟩) rfl
end Pal
namespace Pal
open Go Go.Conc Go.Proofs
open Go.Proofs.Tryz
def RD(fuel:Nat)(p2:Int)(O:(Option BT)×(Int×(List Ca))×Int)(K:Int×Int):Option (Bi (Int×Int) Int):= if K.2<(O.2.1.2.length:Int) then((ix O.2.1.2 K.2).bind fun U=> (f103 fuel U.2.2 p2).bind fun V=> Option.bind (if V=true then((As (K.1+1)).bind fun Y=> some Y) else(some K.1)) fun Z=> (As (K.2+1)).bind fun ag=> some (.more (Z,ag))) else(some (.done K.1))
def HV(fuel:Nat)(p0:A2)(p1:AI)(p2:Int):Option (Int×Int):= (Ht fuel p0 p1).bind fun U=> if U≠0 then(some (0,U)) else((As ((p1.length:Int) - 1)).bind fun V=> (f101 fuel p2 0 V).bind fun Y=> if Y=true then(some (0,3)) else((Hv fuel p0 p1 p2 false).bind fun K=> if K.2.2≠0 then(some (0,K.2.2)) else(Option.bind (iter (RD fuel p2 K) fuel (0,0)) fun O=> Option.bind (Option.bind (Option.bind (if 0<O then(some (decide (O<(K.2.1.2.length:Int)))) else(some false)) fun Z=> if Z=true then((As (0+1)).bind fun ag=> (As (ag+1)).bind fun al=> some al) else(if O=0 then((As (0+1)).bind fun am=> some am) else(some 0))) fun ap=> (As (ap+1)).bind fun av=> some av) fun aY=> some (aY,0))))
theorem Sz{E:LH}{a0:An}{c2:Nat}{a1:An}{a2:Nat}{a3:An}{a4:Nat}{p0:A2}{p1:AI}{p2:Int}(a5:GE E)(a6:Al (rL rI) E a0 c2 p0.1)(a7:Al (rL rI) E a1 a2 p0.2)(a8:Al Bo E a3 a4 p1){fuel:Nat}{r:Int×Int}(a9:HV fuel p0 p1 p2=some r):AK (DI Tryz.prog) 49 [.agg #[sV a0 p0.1 c2,sV a1 p0.2 a2],sV a3 p1 a4,iV p2] E [] (fun w E' B'=>w= .tuple #[iV r.1,iV r.2]∧B'= []):=by
 refine A3 func49 fun Q c1 cs H bu Y=>?_;unfold HV at a9;refine zg 2 rfl (B4 bu fun c3 c4 K ba bv=>?_);refine zg 6 rfl (BO ba BW BD rfl rfl ?_);obtain⟨c5,bw,bx⟩:=bs a9;refine zg 1 rfl (BC (K1 (a5.Ah K) (a6.Ah K) (a7.Ah K) (a8.Ah K) bw) rfl rfl Kf bv fun c6 O bb=>?_);refine zg 7 rfl (AL bx (fun bz bA=>?_) (fun bz bB=>?_))
 ·refine zg 6 rfl ?_;obtain rfl:=oi bA;exact AA func49 rfl rfl (Y (K.Ab O) rfl ⟨rfl,rfl⟩ bb)
 ·refine zg 6 rfl (Bg underlying25 rfl rfl rfl ?_);obtain⟨c7,bC,bD⟩:=bs bB;refine Cd bC rfl rfl rfl ?_;obtain⟨c8,bE,bF⟩:=bs bD;refine BC (I2 bE) rfl rfl II bb fun c9 U bc=>JL.done (BH bF (fun bG bH=>?_) (fun bG bI=>?_))
  ·refine zg 5 rfl ?_;obtain rfl:=oi bH;exact AA func49 rfl rfl (Y ((K.Ab O).Ab U) rfl ⟨rfl,rfl⟩ bc)
  ·refine zg 3 rfl (BO (ba.Ah (O.Ab U)) BW BD rfl rfl ?_);obtain⟨Z,bJ,bK⟩:=bs bI;refine zg 2 rfl (BP (K7 (a5.Ah ((K.Ab O).Ab U)) (a6.Ah ((K.Ab O).Ab U)) (a7.Ah ((K.Ab O).Ab U)) (a8.Ah ((K.Ab O).Ab U)) bJ) rfl rfl Ki bc ?_);rintro _ da _ bd ⟨db,be,bf,rfl,rfl,dc,bL⟩ bM;refine zg 4 rfl (CF bM FU fun ag bN=>?_);refine zg 1 rfl (BR 5 bN Dk fun bO=>?_);refine CV 5 bO rfl fun dd al bg bh=>zg 8 rfl (AL bK (fun bP bQ=>?_) (fun bP bR=>?_))
   ·refine zg 6 rfl ?_;obtain rfl:=oi bQ;exact AA func49 rfl rfl (Y ((((K.Ab O).Ab U).Ab bd).Ab al) rfl ⟨rfl,rfl⟩ bh)
   ·refine zg 8 rfl (JL.fl 1 bg underlying97 Dt EN ?_);refine Bg underlying95 rfl rfl rfl ?_;obtain⟨bi,bS,bT⟩:=bs bR;refine zg 2 rfl (C4 [] [(10,pV ag 0),(12,iV bi)] (fun de bj bl=>?_) (fun bU=>?_))
    ·obtain⟨bV,bW,bY⟩:=bs bT;refine zg 5 rfl (C4 [] [(15,iV bV)] (fun df bZ b0=>?_) (fun b1=>?_))
     ·refine zg 6 rfl ?_;obtain rfl:=oi bY;exact AA func49 rfl rfl (Y ((((((K.Ab O).Ab U).Ab bd).Ab al).Ab bj).Ab bZ) rfl ⟨rfl,rfl⟩ b0)
     ·obtain⟨b2,b3,b4⟩:=bs bW;refine zg 2 rfl (C4 [] [(15,iV b2)] (fun dg b5 b6=>?_) (fun am=>?_))
      ·obtain⟨dh,b7,b8⟩:=bs b4;refine zg 3 rfl (Bc b7 rfl rfl rfl ?_);refine zg 3 rfl ?_;obtain rfl:=oi b8;exact b1 b5 b6 rfl
      ·obtain⟨b9,ca,cb⟩:=bs b3;refine zg 12 rfl (Dr 9 1 [] [(12,iV bi),(15,iV 0),(61,.bool b9)] (fun di ap av=>?_) (fun bm=>?_))
       ·refine zg 2 rfl (BH cb (fun cc cd=>?_) (fun cc ce=>?_))
        ·obtain⟨dj,cf,cg⟩:=bs cd;refine zg 3 rfl (Bc cf rfl rfl rfl ?_);obtain⟨dk,ci,ck⟩:=bs cg;refine zg 5 rfl (Bc ci rfl rfl rfl ?_);refine zg 3 rfl ?_;obtain rfl:=oi ck;exact am ap av rfl
        ·refine zg 7 rfl (AL ce (fun cm cn=>?_) (fun cm co=>?_))
         ·obtain⟨dl,cp,cq⟩:=bs cn;refine zg 3 rfl (Bc cp rfl rfl rfl ?_);refine zg 3 rfl ?_;obtain rfl:=oi cq;exact am ap av rfl
         ·refine zg 2 rfl ?_;obtain rfl:=oi co;exact am ap av rfl
       ·refine Ee 55 ca (fun cr ct=>?_) (fun cr cu=>?_)
        ·refine zg 1 rfl (JL.fl 1 (bg.Ah bj) underlying97 Dt EN ?_);refine Bg underlying95 rfl rfl rfl (zg 2 rfl ?_);obtain rfl:=oi ct;exact bm Ar bl rfl
        ·refine zg 6 rfl ?_;obtain rfl:=oi cu;exact bm Ar bl rfl
    ·refine JL.block (Cx bS (fun V=> []) (fun V=> [(2,iV p2),(10,pV ag 0),(12,iV V.1),(39,sV be Z.2.1.2 bf),(40,iV (Z.2.1.2.length:Int)),(41,iV V.2)]) Ar bh ?_);rintro V dm aY bn cv ⟨dn,aZ⟩ cw;have bo:=aZ;unfold RD at bo;refine zg 5 rfl (AL bo (fun cy cz=>?_) (fun cy cA=>?_))
     ·obtain⟨dp,cB,cC⟩:=bs cz;refine zg 5 rfl (Ce (bL.Ah (al.Ab aY)) cB underlying95 Cs ?_);rintro dq dr _ ⟨_,_,rfl,rfl,⟨_,_,rfl,⟨dt,du,rfl,dv⟩,rfl⟩⟩ cD;refine BO cD FT Cs rfl rfl (CF bn GR fun dw cE=>?_);refine BR 0 cE Cs fun cF=>?_;refine CV 0 cF rfl fun dx cG cH cI=>zg 3 rfl (JL.fl 2 cH underlying104 Ek GO ?_);obtain⟨dy,cJ,cK⟩:=bs cC;refine zg 1 rfl (BC (OR cJ) rfl rfl NV cI fun dz cM bp=>?_);obtain⟨bq,cN,cO⟩:=bs cK;refine JL.done (C4 [] [(2,iV p2),(10,pV ag 0),(12,iV bq),(39,sV be Z.2.1.2 bf),(40,iV (Z.2.1.2.length:Int)),(41,iV V.2)] (fun dA cP cQ=>?_) (fun br=>?_))
      ·obtain⟨cR,cT,cV⟩:=bs cO;refine zg 2 rfl (Bc cT rfl rfl rfl ?_);refine zg 2 rfl ?_;obtain rfl:=oi cV;exact cw (bq,cR) (((aY.Ab cG).Ab cM).Ab cP) cQ rfl aZ
      ·refine BH cN (fun cW cX=>?_) (fun cW cY=>?_)
       ·obtain⟨dB,cZ,c0⟩:=bs cX;refine zg 2 rfl (Bc cZ rfl rfl rfl ?_);refine zg 2 rfl ?_;obtain rfl:=oi c0;exact br Ar bp rfl
       ·refine JL.skip ?_;obtain rfl:=oi cY;exact br Ar bp rfl
     ·refine JL.exit rfl ?_;obtain rfl:=oi cA;obtain rfl:=cv _ aZ;exact bU aY bn rfl
def R3(fuel:Nat)(V:Ca)(U:(List Int))(K:(List Nat)×Int):Option (Bi ((List Nat)×Int) ((List Nat))):= if K.2<(U.length:Int) then((ix U K.2).bind fun O=> (ix K.1 O).bind fun Y=> (f90 fuel Y V.1).bind fun Z=> (ix K.1 O).bind fun al=> (As (K.2+1)).bind fun ag=> some (.more ((K.1.set (Int.toNat O) Z),ag))) else(some (.done K.1))
def Rl(fuel:Nat)(O:(Option BT)×(Int×(List Ca))×Int)(V:BT)(Y:Int×Int×Int)(K:(List Nat)×Int):Option (Bi ((List Nat)×Int) ((List Nat))):= if K.2<(O.2.1.2.length:Int) then((ix O.2.1.2 K.2).bind fun U=> (f88 fuel V U Y.2.2).bind fun Z=> (f89 fuel Z).bind fun ag=> Option.bind (iter (R3 fuel U ag) fuel (K.1,0)) fun al=> (As (K.2+1)).bind fun am=> some (.more (al,am))) else(some (.done K.1))
def RI(fuel:Nat)(O:(List Nat))(K:Int×Int):Option (Bi (Int×Int) Int):= if K.2<8 then((ix O K.2).bind fun U=> (f85 fuel U).bind fun V=> (As (K.2+1)).bind fun Y=> some (.more (max K.1 V,Y))) else(some (.done K.1))
def Rw(fuel:Nat)(V:(Option BT)×(Int×(List Ca))×Int)(Y:BT)(K:Int×Int×Int):Option (Bi (Int×Int×Int) (Int×Int)):= if K.2.2<7 then(Option.bind (iter (Rl fuel V Y K) fuel ((List.replicate 8 (0:Nat)),0)) fun Z=> Option.bind (iter (RI fuel Z) fuel (0,0)) fun O=> Option.bind (if O<K.2.1 then(some (K.2.2,O)) else(some (K.1,K.2.1))) fun U=> (As (K.2.2+1)).bind fun ag=> some (.more (U.1,U.2,ag))) else(some (.done (K.1,K.2.1)))
def Pm(fuel:Nat)(p0:A2)(p1:AI):Option (Int×Int×Int):= (Hv fuel p0 p1 (-1) false).bind fun K=> if K.2.2≠0 then(some (0,0,K.2.2)) else((f87 fuel K.2.1.2).bind fun U=> (f85 fuel U).bind fun V=> (K.1).bind fun Y=> Option.bind (iter (Rw fuel K Y) fuel ((-1),V,0)) fun O=> if O.1<0 then(some (0,0,11)) else(some (O.1,O.2,0)))
theorem YO{E:LH}{bB:An}{c2:Nat}{bC:An}{bD:Nat}{bE:An}{bF:Nat}{p0:A2}{p1:AI}(ca:GE E)(cb:Al (rL rI) E bB c2 p0.1)(cc:Al (rL rI) E bC bD p0.2)(cd:Al Bo E bE bF p1){fuel:Nat}{r:Int×Int×Int}(bG:Pm fuel p0 p1=some r):AK (DI Tryz.prog) 35 [.agg #[sV bB p0.1 c2,sV bC p0.2 bD],sV bE p1 bF] E [] (fun w E' B'=>w= .tuple #[iV r.1,iV r.2.1,iV r.2.2]∧B'= []):=by
 refine A3 func35 fun Q eB cs H ce bj=>?_;unfold Pm at bG;refine zg 2 rfl (B4 ce fun eC eD ag cf cg=>?_);refine zg 6 rfl (BO cf BW BD rfl rfl ?_);obtain⟨av,ci,ck⟩:=bs bG;refine zg 1 rfl (BP (K7 (ca.Ah ag) (cb.Ah ag) (cc.Ah ag) (cd.Ah ag) ci) rfl rfl Ki cg ?_);rintro _ eE _ bl ⟨eF,bm,bn,rfl,rfl,cm,bH⟩ cn;refine zg 4 rfl (CF cn FU fun U co=>?_);refine zg 1 rfl (BR 3 co Dk fun cp=>?_);refine CV 3 cp rfl fun eG aY bI bJ=>zg 8 rfl (AL ck (fun cq cr=>?_) (fun cq ct=>?_))
 ·refine zg 7 rfl ?_;obtain rfl:=oi cr;exact AA func35 rfl rfl (bj ((ag.Ab bl).Ab aY) rfl ⟨rfl,rfl⟩ bJ)
 ·refine zg 8 rfl (JL.fl 1 bI underlying97 Dt EN ?_);obtain⟨cu,cv,cw⟩:=bs ct;refine BC (ai (bH.Ah aY) cv) rfl rfl (AS func87 rfl) bJ fun eH a3 cy=>?_;obtain⟨eI,cz,cA⟩:=bs cw;refine Ku (vs:= [uV cu]) (Tj cz) rfl rfl rfl rfl (AS func85 rfl) rfl cy ?_;rintro _ eJ _ a4 ⟨rfl,rfl⟩ cB;obtain⟨eK,cC,cD⟩:=bs cA;have bK:=(cm.Ah ((aY.Ab a3).Ab a4));refine zg 11 rfl ?_;rw [cC] at bK;obtain⟨V,Y,_,rfl,cE,⟨_,_,rfl,⟨eL,eM,rfl,cF⟩,⟨_,eN,rfl,⟨eO,eP,rfl,cG⟩,cH⟩⟩⟩:=bK;obtain⟨bL,cI,cJ⟩:=bs cD;refine C4 [] [(4,iV bL.1),(10,iV bL.2)] (fun eQ bM bN=>?_) (fun cK=>?_)
  ·refine zg 6 rfl (AL cJ (fun cM cN=>?_) (fun cM cO=>?_))
   ·refine zg 6 rfl ?_;obtain rfl:=oi cN;exact AA func35 rfl rfl (bj (((((ag.Ab bl).Ab aY).Ab a3).Ab a4).Ab bM) rfl ⟨rfl,rfl⟩ bN)
   ·refine zg 9 rfl ?_;obtain rfl:=oi cO;exact AA func35 rfl rfl (bj (((((ag.Ab bl).Ab aY).Ab a3).Ab a4).Ab bM) rfl ⟨rfl,rfl⟩ bN)
  ·refine JL.block (Cx cI (fun K=> []) (fun K=> [(4,iV K.1),(7,pV V Y),(8,pV U 0),(9,(fV 85)),(10,iV K.2.1),(35,iV K.2.2)]) Ar cB ?_);rintro K ba Z bO cP ⟨eR,bo⟩ cQ;have bP:=bo;unfold Rw at bP;refine zg 5 rfl (AL bP (fun cR cT=>?_) (fun cR cV=>?_))
   ·refine zg 10 rfl (CF bO (Du type114) fun O cW=>?_);refine zg 4 rfl (JL.fl 1 (bI.Ah ((a3.Ab a4).Ab Z)) underlying97 Dt EN ?_);refine Bg underlying95 rfl rfl rfl ?_;obtain⟨cX,cY,cZ⟩:=bs cT;refine zg 2 rfl (Br (fun L s=>∃(bp:LH) (a5:List Value),Jn ba H bp [bX O (([]:List Value)++a5).toArray 114] [(4,iV K.1),(7,pV V Y),(8,pV U 0),(9,(fV 85)),(10,iV K.2.1),(11,iV K.2.2),(12,pV O 0),(35,iV K.2.2)] L s ((rA 8 (rN .u16)).r bp a5 cX)) ?_ ?_)
    ·rintro _ _ ⟨bp,a5,rfl,rfl,c0,bQ,bR⟩;refine zg 7 rfl (AD (v:= .agg a5.toArray) rfl (fun ρ h=>Kw (kk:=8) (pp:=(rN .u16)) bR (Dv underlying114) (Bu type114) (h _ _ rfl) (Mm (l:= []) 0 bQ rfl)) ?_);obtain⟨c1,c3,c4⟩:=bs cZ;refine zg 2 rfl (C4 [] [(4,iV K.1),(7,pV V Y),(8,pV U 0),(9,(fV 85)),(10,iV K.2.1),(11,iV K.2.2),(17,iV c1),(35,iV K.2.2)] (fun eS c5 bS=>?_) (fun c6=>?_))
     ·obtain⟨bb,c7,c8⟩:=bs c4;refine zg 6 rfl (C4 [] [(4,iV bb.1),(7,pV V Y),(8,pV U 0),(9,(fV 85)),(10,iV bb.2),(35,iV K.2.2)] (fun eT c9 da=>?_) (fun bT=>?_))
      ·obtain⟨db,dc,dd⟩:=bs c8;refine zg 2 rfl (Bc dc rfl rfl rfl ?_);refine zg 2 rfl ?_;obtain rfl:=oi dd;exact cQ (bb.1,bb.2,db) (((Z.Ab c0).Ab c5).Ab c9) da rfl bo
      ·refine AL c7 (fun de df=>?_) (fun de dg=>?_)
       ·refine zg 6 rfl ?_;obtain rfl:=oi df;exact bT Ar bS rfl
       ·refine JL.skip ?_;obtain rfl:=oi dg;exact bT Ar bS rfl
     ·refine JL.block (JS.drop 0 bQ rfl fun dh=>?_);refine Cx c3 (fun aZ=> []) (fun aZ=> [(4,iV K.1),(7,pV V Y),(8,pV U 0),(9,(fV 85)),(10,iV K.2.1),(11,iV K.2.2),(17,iV aZ.1),(35,iV K.2.2),(65,.agg a5.toArray),(66,iV aZ.2)]) Ar dh ?_;rintro aZ eU bq bU di ⟨eV,br⟩ dj;have bV:=br;unfold RI at bV;refine zg 5 rfl (AL bV (fun dk dl=>?_) (fun dk dm=>?_))
      ·obtain⟨dn,dp,dq⟩:=bs dl;refine zg 5 rfl (ZD (Rp.Ah _ bq bR) dp rfl rfl rfl rfl rfl underlying114 Ek GO ?_ (fun _=>rfl));rintro _ rfl;obtain⟨bW,dr,dt⟩:=bs dq;refine zg 6 rfl (Ku (vs:= [uV dn]) (Tj dr) rfl rfl rfl rfl (AS func85 rfl) rfl bU ?_);rintro _ eW _ du ⟨rfl,rfl⟩ dv;refine AD (v:=iV (max aZ.1 bW)) rfl (fun ρ h=>Yl.max2 (h _ _ rfl) (h _ _ rfl)) ?_;obtain⟨dw,dx,dy⟩:=bs dt;refine zg 4 rfl (Bc dx rfl rfl rfl ?_);refine zg 2 rfl ?_;obtain rfl:=oi dy;exact dj (max aZ.1 bW,dw) (bq.Ab du) dv rfl br
      ·refine JL.exit rfl ?_;obtain rfl:=oi dm;obtain rfl:=di _ br;exact c6 bq bU rfl
    ·intro dz;refine JL.block (CN cY (fun L s a6=>∃(bc:LH) (a7:List Value),Jn ba H bc [bX O (([]:List Value)++a7).toArray 114] [(4,iV K.1),(7,pV V Y),(8,pV U 0),(9,(fV 85)),(10,iV K.2.1),(11,iV K.2.2),(12,pV O 0),(35,iV K.2.2),(39,sV bm av.2.1.2 bn),(40,iV (av.2.1.2.length:Int)),(41,iV a6.2)] L s ((rA 8 (rN .u16)).r bc a7 a6.1)) ⟨ba,(List.replicate 8 (uV 0):List Value),rfl,rfl,Ar,cW,(JN (E:=ba) (pp:=(rN .u16)) rfl)⟩ ?_);rintro _ _ a6 ⟨bc,a7,rfl,rfl,al,bY,bZ⟩ dA ⟨eX,bu⟩ dB;have b0:=bu;unfold Rl at b0;refine zg 5 rfl (AL b0 (fun dC dD=>?_) (fun dC dE=>?_))
     ·obtain⟨dF,dG,dH⟩:=bs dD;refine zg 5 rfl (Ce (bH.Ah ((((aY.Ab a3).Ab a4).Ab Z).Ab al)) dG underlying95 Cs ?_);rintro eY eZ _ ⟨_,_,rfl,rfl,⟨_,_,rfl,⟨e0,e1,rfl,dI⟩,rfl⟩⟩ dJ;refine BO dJ FT Cs rfl rfl (CF bY GR fun dK dL=>?_);refine BR 1 dL Cs fun dM=>?_;refine CV 1 dM rfl fun e2 am b1 dN=>zg 4 rfl (BO b1 FT Cs rfl rfl ?_);obtain⟨e3,dO,dP⟩:=bs dH;refine zg 1 rfl (BC (Z9 (cE.Ah ((Z.Ab al).Ab am)) (cF.Ah ((Z.Ab al).Ab am)) (cG.Ah ((Z.Ab al).Ab am)) (Rp.Ah _ ((Z.Ab al).Ab am) cH) (dI.Ah am) dO) rfl rfl (AS func88 rfl) dN fun e4 bv dQ=>?_);obtain⟨b2,dR,dS⟩:=bs dP;refine BP (I6 dR) rfl rfl IJ dQ ?_;rintro _ bw _ bx ⟨dT,dU,rfl,rfl,dV⟩ dW;refine Bg underlying28 rfl rfl rfl ?_;obtain⟨b3,dX,dY⟩:=bs dS;refine zg 2 rfl (Br (fun L s=>∃(bd:LH) (be:List Value),Jn bw H bd [bX O (([]:List Value)++be).toArray 114] [(4,iV K.1),(7,pV V Y),(8,pV U 0),(9,(fV 85)),(10,iV K.2.1),(11,iV K.2.2),(12,pV O 0),(35,iV K.2.2),(39,sV bm av.2.1.2 bn),(40,iV (av.2.1.2.length:Int)),(41,iV a6.2)] L s ((rA 8 (rN .u16)).r bd be b3)) ?_ ?_)
      ·rintro _ _ ⟨bd,be,rfl,rfl,dZ,ea,eb⟩;obtain⟨ec,ed,ee⟩:=bs dY;refine zg 2 rfl (Bc ed rfl rfl rfl ?_);refine zg 2 rfl ?_;obtain rfl:=oi ee;exact Az (dB _ _ (b3,ec) ⟨bd,be,rfl,rfl,((((al.Ab am).Ab bv).Ab bx).Ab dZ),ea,eb⟩ bu) rfl
      ·intro ef;refine JL.block (CN dX (fun L s a8=>∃(bf:LH) (a0:List Value),Jn bw H bf [bX O (([]:List Value)++a0).toArray 114] [(4,iV K.1),(7,pV V Y),(8,pV U 0),(9,(fV 85)),(10,iV K.2.1),(11,iV K.2.2),(12,pV O 0),(14,pV dK 0),(35,iV K.2.2),(39,sV bm av.2.1.2 bn),(40,iV (av.2.1.2.length:Int)),(41,iV a6.2),(49,sV dT b2 dU),(50,iV (b2.length:Int)),(51,iV a8.2)] L s ((rA 8 (rN .u16)).r bf a0 a8.1)) ⟨bw,a7,rfl,rfl,Ar,dW,(Rp.Ah _ ((am.Ab bv).Ab bx) bZ)⟩ ?_);rintro _ _ a8 ⟨bf,a0,rfl,rfl,bg,a9,a1⟩ eg ⟨e5,bz⟩ eh;have b4:=bz;unfold R3 at b4;refine zg 5 rfl (AL b4 (fun ei ej=>?_) (fun ei ek=>?_))
       ·obtain⟨a2,el,em⟩:=bs ej;refine zg 5 rfl (Ce (dV.Ah bg) el underlying28 AW ?_);rintro e6 e7 _ rfl en;refine BY 0 en Bv rfl rfl rfl (zg 2 rfl ?_);refine Dh 7 [O] ⟨⟨0,_,rfl⟩,trivial⟩ a9 fun ht=>A4 ht rfl [0,1] rfl ?_;obtain⟨b5,b6,eo⟩:=bs em;obtain⟨_,rfl,_,_,ep⟩:=Ip (kk:=8) (pp:=(rN .u16)) a1 b6;refine BB (v:= .pointer (some ⟨O,0+Int.toNat (a2)*1,none⟩)) 2 ht rfl rfl (fun ρ h s' hs=>Js (kk:=8) (pp:=(rN .u16)) a1 b6 underlying114 Ek (h _ _ rfl) (h _ _ rfl)) (BB (v:= uV b5) 3 ht rfl rfl (fun ρ h s' hs=>Yl.load GO (h _ _ rfl) (UI (l:= []) 0 a9 rfl (by simp [A5]) hs (ep 0 _ rfl))) ?_);refine B8 4 ht underlying104 AW rfl rfl rfl rfl (JG.lp 5 ht 0 (b1.Ah ((bv.Ab bx).Ab bg)) a9 ⟨⟨0,_,rfl⟩,trivial⟩ Bv ?_);obtain⟨ap,eq,er⟩:=bs eo;refine QZ (i:=6) ⟨⟨0,_,rfl⟩,trivial⟩ (vs:= [uV b5,iV dF.1]) (Nq eq) (by decide+kernel) rfl rfl rfl L3 rfl a9 ?_;rintro _ b7 _ bh ⟨rfl,rfl⟩ et;refine Ci [7,8] ?_;obtain⟨e8,bA,eu⟩:=bs er;obtain⟨_,rfl,_,_,e9⟩:=Ip (kk:=8) (pp:=(rN .u16)) (Rp.Ah _ bh a1) bA;refine AD (v:= .pointer (some ⟨O,0+Int.toNat (a2)*1,none⟩)) rfl (fun ρ h=>Js (kk:=8) (pp:=(rN .u16)) (Rp.Ah _ bh a1) bA underlying114 Ek (h _ _ rfl) (h _ _ rfl)) ?_;have bi:=OW (us:= [uV ap]) (y:=ap) (Rp.Ah _ bh a1) bA rfl;refine Kt (v:= uV ap) (l:= []) (ws:=a0) (us:= [uV ap]) (o:=Int.toNat (a2)*1) 0 rfl rfl rfl et rfl rfl rfl Ek (by simp [Value.cells,CI]) rfl bi.2 fun b8=>?_;replace bi:=bi.1;generalize ew:Hw a0 (Int.toNat (a2)*1) [uV ap]=b9 at b8 ⊢;have ex:(rA 8 (rN .u16)).r b7 b9 (a8.1.set (Int.toNat a2) ap):=by rw [← ew];exact bi
        obtain⟨ey,ez,eA⟩:=bs eu;refine zg 3 rfl (Bc ez rfl rfl rfl ?_);refine zg 2 rfl ?_;obtain rfl:=oi eA;exact Az (eh _ _ ((a8.1.set (Int.toNat a2) ap),ey) ⟨b7,b9,rfl,rfl,(bg.Ab bh),b8,ex⟩ bz) rfl
       ·refine JL.exit rfl ?_;obtain rfl:=oi ek;obtain rfl:=eg _ bz;exact Az (ef _ _ ⟨bf,a0,rfl,rfl,bg,a9,a1⟩) rfl
     ·refine JL.exit rfl ?_;obtain rfl:=oi dE;obtain rfl:=dA _ bu;exact Az (dz _ _ ⟨bc,a7,rfl,rfl,al,bY,bZ⟩) rfl
   ·refine JL.exit rfl ?_;obtain rfl:=oi cV;obtain rfl:=cP _ bo;exact cK Z bO rfl
def Pl(fuel:Nat)(p0:A2)(p1:AI)(p2:AI):Option (Bool×Int):= (Ht fuel p0 p1).bind fun O=> if O≠0 then(some (false,O)) else((Ht fuel p0 p2).bind fun U=> if U≠0 then(some (false,U)) else((f92 fuel p0).bind fun ag=> (ag).bind fun K=> (f93 fuel K p1).bind fun V=> (f93 fuel K p2).bind fun Y=> Option.bind (if(V.2.length:Int)=0 then(some true) else(some (decide ((Y.2.length:Int)=0)))) fun al=> if al=true then(some (false,0)) else((f94 fuel p1 p2).bind fun am=> (f93 fuel K am).bind fun Z=> Option.bind (if 0<(Z.2.length:Int) then((As (V.1+Y.1)).bind fun ap=> some (decide (Z.1≤ap))) else(some false)) fun av=> some (av,0))))
theorem YS{E:LH}{be:An}{c2:Nat}{bf:An}{bg:Nat}{aY:An}{aZ:Nat}{a0:An}{a1:Nat}{p0:A2}{p1:AI}{p2:AI}(bh:GE E)(a2:Al (rL rI) E be c2 p0.1)(a3:Al (rL rI) E bf bg p0.2)(a4:Al Bo E aY aZ p1)(a5:Al Bo E a0 a1 p2){fuel:Nat}{r:Bool×Int}(bi:Pl fuel p0 p1 p2=some r):AK (DI Tryz.prog) 37 [.agg #[sV be p0.1 c2,sV bf p0.2 bg],sV aY p1 aZ,sV a0 p2 a1] E [] (fun w E' B'=>w= .tuple #[.bool r.1,iV r.2]∧B'= []):=by
 refine A3 func37 fun Q cI cs H bA av=>?_;unfold Pl at bi;refine zg 2 rfl (B4 bA fun cJ cK K a6 bB=>?_);refine zg 6 rfl (BO a6 BW BD rfl rfl ?_);obtain⟨cM,bC,bD⟩:=bs bi;refine zg 1 rfl (BC (K1 (bh.Ah K) (a2.Ah K) (a3.Ah K) (a4.Ah K) bC) rfl rfl Kf bB fun cN O bj=>?_);refine zg 7 rfl (AL bD (fun bE bF=>?_) (fun bE bG=>?_))
 ·refine zg 6 rfl ?_;obtain rfl:=oi bF;exact AA func37 rfl rfl (av (K.Ab O) rfl ⟨rfl,rfl⟩ bj)
 ·refine zg 4 rfl (BO (a6.Ah O) BW BD rfl rfl ?_);obtain⟨cO,bH,bI⟩:=bs bG;refine zg 1 rfl (BC (K1 (bh.Ah (K.Ab O)) (a2.Ah (K.Ab O)) (a3.Ah (K.Ab O)) (a5.Ah (K.Ab O)) bH) rfl rfl Kf bj fun cP V bJ=>?_);refine Cq (S':= [[],[],[],[]]) rfl bJ fun bl=>zg 7 rfl (AL bI (fun bK bL=>?_) (fun bK bM=>?_))
  ·refine zg 6 rfl ?_;obtain rfl:=oi bL;exact AA func37 rfl rfl (av ((K.Ab O).Ab V) rfl ⟨rfl,rfl⟩ bl)
  ·refine zg 3 rfl (BO (a6.Ah (O.Ab V)) BW BD rfl rfl ?_);obtain⟨cQ,bN,bO⟩:=bs bM;refine BP (No (a2.Ah ((K.Ab O).Ab V)) (a3.Ah ((K.Ab O).Ab V)) bN) rfl rfl LZ bl ?_;rintro cR cT _ ap ⟨_,rfl,rfl,bP⟩ bQ;obtain⟨cV,bR,bS⟩:=bs bO;have bm:=bP;refine zg 6 rfl ?_;rw [bR] at bm;obtain⟨bT,bU,_,rfl,a7,⟨_,_,rfl,⟨cW,cX,rfl,a8⟩,⟨_,cY,rfl,⟨cZ,c0,rfl,a9⟩,ba⟩⟩⟩:=bm;obtain⟨c1,bV,bW⟩:=bs bS;refine BP (Ny a7 a8 a9 ba (a4.Ah (((K.Ab O).Ab V).Ab ap)) bV) rfl rfl L2 bQ ?_;rintro _ c3 _ U ⟨c4,c5,rfl,rfl,c6⟩ bY;obtain⟨c7,bZ,b0⟩:=bs bW;refine zg 2 rfl (BP (Ny (a7.Ah U) (a8.Ah U) (a9.Ah U) (Rp.Ah _ U ba) (a5.Ah ((((K.Ab O).Ab V).Ab ap).Ab U)) bZ) rfl rfl L2 bY ?_);rintro _ c8 _ ag ⟨c9,da,rfl,rfl,db⟩ b1;refine Cq (S':= [[],[],[],[],[],[],[]]) rfl b1 fun b2=>CF b2 FU fun b3 b4=>?_;refine CF b4 FU fun bn b5=>?_;refine BR 7 b5 Dk fun b6=>?_;refine CV 7 b6 rfl fun dc al bo b7=>Cq (S':= [[],[],[],[],[],[],[],[],[(bn,.cells #[iV 0,nS] 97 (0,0))]]) rfl b7 fun b8=>BR 8 b8 Dk fun b9=>?_;refine CV 8 b9 rfl fun bb Y bp bq=>zg 4 rfl (JL.fl 1 (bo.Ah Y) underlying97 Dt EN ?_);refine Bg underlying95 rfl rfl rfl ?_;obtain⟨ca,cb,cc⟩:=bs b0;refine zg 2 rfl (EC [] (fun L s=>∃(br:LH),Jm bb H br [] [(1,sV aY p1 aZ),(2,sV a0 p2 a1),(10,pV bT bU),(11,pV b3 0),(12,pV bn 0),(43,.bool ca)] L s) ?_ ?_)
   ·rintro _ _ ⟨br,rfl,rfl,Z,bu⟩;refine JL.done (BH cc (fun cd ce=>?_) (fun cd cf=>?_))
    ·refine zg 5 rfl ?_;obtain rfl:=oi ce;exact AA func37 rfl rfl (av ((((((((K.Ab O).Ab V).Ab ap).Ab U).Ab ag).Ab al).Ab Y).Ab Z) rfl ⟨rfl,rfl⟩ bu)
    ·obtain⟨dd,cg,ci⟩:=bs cf;refine zg 6 rfl (BP (aQ (a4.Ah ((((((((K.Ab O).Ab V).Ab ap).Ab U).Ab ag).Ab al).Ab Y).Ab Z)) (a5.Ah ((((((((K.Ab O).Ab V).Ab ap).Ab U).Ab ag).Ab al).Ab Y).Ab Z)) cg) rfl rfl (AS func94 rfl) bu ?_);rintro _ de _ am ⟨df,dg,rfl,rfl,ck⟩ cm;obtain⟨dh,cn,co⟩:=bs ci;refine BP (Ny (a7.Ah (((((U.Ab ag).Ab al).Ab Y).Ab Z).Ab am)) (a8.Ah (((((U.Ab ag).Ab al).Ab Y).Ab Z).Ab am)) (a9.Ah (((((U.Ab ag).Ab al).Ab Y).Ab Z).Ab am)) (Rp.Ah _ (((((U.Ab ag).Ab al).Ab Y).Ab Z).Ab am) ba) ck cn) rfl rfl L2 cm ?_;rintro _ di _ bc ⟨dj,dk,rfl,rfl,dl⟩ cp;refine Cq (S':= [[],[]]) rfl cp fun cq=>CF cq FU fun dm cr=>?_;refine BR 2 cr Dk fun ct=>?_;refine CV 2 ct rfl fun dn bd bv bw=>zg 3 rfl (JL.fl 1 bv underlying97 Dt EN ?_);refine Bg underlying95 rfl rfl rfl ?_;obtain⟨cu,cv,cw⟩:=bs co;refine zg 2 rfl (Dr 14 2 [] [(62,.bool cu)] (fun dp cy cz=>?_) (fun bx=>?_))
     ·refine zg 3 rfl ?_;obtain rfl:=oi cw;exact AA func37 rfl rfl (av ((((((((((((K.Ab O).Ab V).Ab ap).Ab U).Ab ag).Ab al).Ab Y).Ab Z).Ab am).Ab bc).Ab bd).Ab cy) rfl ⟨rfl,rfl⟩ cz)
     ·refine Ee 53 cv (fun cA cB=>?_) (fun cA cC=>?_)
      ·refine JL.fl 0 bv underlying97 AW Bv ?_;refine JL.fl 0 (bo.Ah ((((Y.Ab Z).Ab am).Ab bc).Ab bd)) underlying97 AW Bv ?_;refine JL.fl 0 (bp.Ah (((Z.Ab am).Ab bc).Ab bd)) underlying97 AW Bv ?_;obtain⟨dq,cD,cE⟩:=bs cB;refine Bc cD rfl rfl rfl (zg 2 rfl ?_);obtain rfl:=oi cE;exact bx Ar bw rfl
      ·refine zg 9 rfl ?_;obtain rfl:=oi cC;exact bx Ar bw rfl
   ·intro bz;refine Ee 38 cb (fun cF cG=>?_) (fun cF cH=>?_)
    ·refine zg 5 rfl ?_;obtain rfl:=oi cG;exact Az (bz _ _ ⟨bb,rfl,rfl,Ar,bq⟩) rfl
    ·refine JL.fl 1 bp underlying97 Dt EN ?_;refine Bg underlying95 rfl rfl rfl (zg 2 rfl ?_);obtain rfl:=oi cH;exact Az (bz _ _ ⟨bb,rfl,rfl,Ar,bq⟩) rfl
end Pal
namespace Pal
open Go Go.Conc Go.Proofs
open Go.Proofs.Tryz
def ID(fuel:Nat):Option Bool:= (f71 fuel).bind fun am=> (Pn fuel am 4).bind fun U=> (f71 fuel).bind fun ap=> (Ps fuel ap 5).bind fun V=> (f71 fuel).bind fun av=> (f72 fuel).bind fun aY=> (Pp fuel av aY 2).bind fun Y=> (f71 fuel).bind fun aZ=> (Pf fuel aZ ([])).bind fun Z=> (f71 fuel).bind fun a0=> (f73 fuel).bind fun a1=> (HV fuel a0 a1 1).bind fun ag=> (f71 fuel).bind fun a2=> (Pm fuel a2 ([])).bind fun K=> (f71 fuel).bind fun a3=> (f72 fuel).bind fun a4=> (f72 fuel).bind fun a5=> (Pl fuel a3 a4 a5).bind fun al=> (f71 fuel).bind fun a6=> (f73 fuel).bind fun a7=> (Pt fuel a6 a7).bind fun O=> Option.bind (if U.2=0 then(some (decide (V.2=0))) else(some false)) fun a8=> Option.bind (if a8=true then(some (decide (Y.2=0))) else(some false)) fun a9=> Option.bind (if a9=true then(some (decide (Z.2=0))) else(some false)) fun ba=> Option.bind (if ba=true then(some (decide (ag.2=0))) else(some false)) fun bb=> Option.bind (if bb=true then(some (decide (K.2.2=0))) else(some false)) fun bc=> Option.bind (if bc=true then(some (decide (al.2=0))) else(some false)) fun bd=> Option.bind (if bd=true then(some (decide (O.2.2=0))) else(some false)) fun be=> Option.bind (if be=true then(some (decide (V.1=3))) else(some false)) fun bf=> Option.bind (if bf=true then(some (decide (Z.1=15))) else(some false)) fun bg=> Option.bind (if bg=true then(some (decide (ag.1=1))) else(some false)) fun bh=> Option.bind (if bh=true then(some (decide (K.1=0))) else(some false)) fun bi=> Option.bind (if bi=true then(some (decide (K.2.1=9))) else(some false)) fun bj=> Option.bind (if bj=true then(some al.1) else(some false)) fun bl=> Option.bind (if bl=true then(some (decide (O.1=3))) else(some false)) fun bm=> Option.bind (if bm=true then((f32 fuel U.1 ([4,5]:List Int)).bind fun bn=> some bn) else(some false)) fun bo=> Option.bind (if bo=true then((f32 fuel Y.1 ([2,3,4]:List Int)).bind fun bp=> some bp) else(some false)) fun bq=> Option.bind (if bq=true then((f32 fuel O.2.1 ([3,4]:List Int)).bind fun br=> some br) else(some false)) fun bu=> some bu
theorem Sy{E:LH}(a4:GE E){fuel:Nat}{r:Bool}(bG:ID fuel=some r):AK (DI Tryz.prog) 22 [] E [] (fun w E' B'=>w= .bool r∧B'= []):=by
 refine A3 func22 fun Q gr cs H cn co=>?_;unfold ID at bG;obtain⟨gt,cp,cq⟩:=bs bG;refine zg 6 rfl (BP (Iw cp) rfl rfl H9 cn ?_);rintro _ gu _ a1 ⟨gv,gw,gx,gy,rfl,rfl,cr,ct⟩ cu;obtain⟨am,cv,cw⟩:=bs cq;refine BP (YU (a4.Ah a1) cr ct cv) rfl rfl (AS func51 rfl) cu ?_;rintro _ gz _ a5 ⟨ap,av,rfl,rfl,cy⟩ cz;obtain⟨gA,cA,cB⟩:=bs cw;refine zg 8 rfl (BP (Iw cA) rfl rfl H9 cz ?_);rintro _ gB _ a2 ⟨gC,gD,gE,gF,rfl,rfl,cC,cD⟩ cE;obtain⟨ba,cF,cG⟩:=bs cB;refine BC (YB (a4.Ah ((a1.Ab a5).Ab a2)) cC cD cF) rfl rfl (AS func57 rfl) cE fun gG a6 cH=>?_;obtain⟨gH,cI,cJ⟩:=bs cG;refine zg 8 rfl (BP (Iw cI) rfl rfl H9 cH ?_);rintro _ gI _ a7 ⟨gJ,gK,gL,gM,rfl,rfl,cK,cM⟩ cN;obtain⟨gN,cO,cP⟩:=bs cJ;refine BP (O4 cO) rfl rfl NW cN ?_;rintro _ gO _ aZ ⟨gP,gQ,rfl,rfl,cQ⟩ cR;obtain⟨V,cT,cV⟩:=bs cP;refine BP (ZA (a4.Ah (((((a1.Ab a5).Ab a2).Ab a6).Ab a7).Ab aZ)) (cK.Ah aZ) (cM.Ah aZ) cQ cT) rfl rfl (AS func43 rfl) cR ?_;rintro _ gR _ bb ⟨ag,al,rfl,rfl,cW⟩ cX;obtain⟨gS,cY,cZ⟩:=bs cV;refine zg 8 rfl (BP (Iw cY) rfl rfl H9 cX ?_);rintro _ gT _ a8 ⟨gU,gV,gW,gX,rfl,rfl,c0,c1⟩ c2;obtain⟨a0,c3,c4⟩:=bs cZ;refine BC (Zl (a4.Ah (((((((a1.Ab a5).Ab a2).Ab a6).Ab a7).Ab aZ).Ab bb).Ab a8)) c0 c1 Al.nil c3) rfl rfl (AS func28 rfl) c2 fun gY bc c5=>?_;obtain⟨gZ,c6,c7⟩:=bs c4;refine zg 8 rfl (BP (Iw c6) rfl rfl H9 c5 ?_);rintro _ g0 _ bd ⟨g1,g3,g4,g5,rfl,rfl,c8,c9⟩ da;obtain⟨g6,db,dc⟩:=bs c7;refine BP (S7 db) rfl rfl (AS func73 rfl) da ?_;rintro _ g7 _ a3 ⟨g8,g9,rfl,rfl,dd⟩ de;obtain⟨aY,df,dg⟩:=bs dc;refine BC (Sz (a4.Ah ((((((((((a1.Ab a5).Ab a2).Ab a6).Ab a7).Ab aZ).Ab bb).Ab a8).Ab bc).Ab bd).Ab a3)) (c8.Ah a3) (c9.Ah a3) dd df) rfl rfl (AS func49 rfl) de fun ha bf dh=>?_;obtain⟨hb,di,dj⟩:=bs dg;refine zg 8 rfl (BP (Iw di) rfl rfl H9 dh ?_);rintro _ hc _ bg ⟨hd,he,hf,hj,rfl,rfl,dk,dl⟩ dm;obtain⟨O,dn,dp⟩:=bs dj;refine BC (YO (a4.Ah ((((((((((((a1.Ab a5).Ab a2).Ab a6).Ab a7).Ab aZ).Ab bb).Ab a8).Ab bc).Ab bd).Ab a3).Ab bf).Ab bg)) dk dl Al.nil dn) rfl rfl (AS func35 rfl) dm fun hk bi dq=>?_;obtain⟨hl,dr,dt⟩:=bs dp;refine zg 10 rfl (BP (Iw dr) rfl rfl H9 dq ?_);rintro _ hm _ bj ⟨hn,ho,hp,hq,rfl,rfl,du,dv⟩ dw;obtain⟨hr,dx,dy⟩:=bs dt;refine BP (O4 dx) rfl rfl NW dw ?_;rintro _ hu _ be ⟨hv,hw,rfl,rfl,dz⟩ dA;obtain⟨hx,dB,dC⟩:=bs dy;refine BP (O4 dB) rfl rfl NW dA ?_;rintro _ hy _ a9 ⟨hz,hA,rfl,rfl,dD⟩ dE;obtain⟨U,dF,dG⟩:=bs dC;refine BC (YS (a4.Ah ((((((((((((((((a1.Ab a5).Ab a2).Ab a6).Ab a7).Ab aZ).Ab bb).Ab a8).Ab bc).Ab bd).Ab a3).Ab bf).Ab bg).Ab bi).Ab bj).Ab be).Ab a9)) (du.Ah (be.Ab a9)) (dv.Ah (be.Ab a9)) (dz.Ah a9) dD dF) rfl rfl (AS func37 rfl) dE fun hB bl dH=>?_;obtain⟨hC,dI,dJ⟩:=bs dG;refine zg 8 rfl (BP (Iw dI) rfl rfl H9 dH ?_);rintro _ hD _ bm ⟨hE,hF,hG,hH,rfl,rfl,dK,dL⟩ dM;obtain⟨hI,dN,dO⟩:=bs dJ;refine BP (S7 dN) rfl rfl (AS func73 rfl) dM ?_;rintro _ hJ _ bh ⟨hK,hL,rfl,rfl,dP⟩ dQ;obtain⟨K,dR,dS⟩:=bs dO;refine BP (Yn (a4.Ah (((((((((((((((((((a1.Ab a5).Ab a2).Ab a6).Ab a7).Ab aZ).Ab bb).Ab a8).Ab bc).Ab bd).Ab a3).Ab bf).Ab bg).Ab bi).Ab bj).Ab be).Ab a9).Ab bl).Ab bm).Ab bh)) (dK.Ah bh) (dL.Ah bh) dP dR) rfl rfl (AS func30 rfl) dQ ?_;rintro _ hM _ bE ⟨Y,Z,rfl,rfl,dT⟩ bH;obtain⟨dU,dV,dW⟩:=bs dS;refine zg 13 rfl (Dr 6 67 [] [(1,sV ap am.1 av),(3,iV ba.1),(5,sV ag V.1 al),(6,iV V.2),(7,iV a0.1),(8,iV a0.2),(9,iV aY.1),(10,iV aY.2),(11,iV O.1),(12,iV O.2.1),(13,iV O.2.2),(14,.bool U.1),(15,iV U.2),(16,iV K.1),(17,sV Y K.2.1 Z),(18,iV K.2.2),(71,.bool dU)] (fun hN bn bI=>?_) (fun bJ=>?_))
 ·obtain⟨dX,dY,dZ⟩:=bs dW;refine zg 1 rfl (Dr 10 63 [] [(1,sV ap am.1 av),(3,iV ba.1),(5,sV ag V.1 al),(7,iV a0.1),(8,iV a0.2),(9,iV aY.1),(10,iV aY.2),(11,iV O.1),(12,iV O.2.1),(13,iV O.2.2),(14,.bool U.1),(15,iV U.2),(16,iV K.1),(17,sV Y K.2.1 Z),(18,iV K.2.2),(75,.bool dX)] (fun hO bo bK=>?_) (fun bL=>?_))
  ·obtain⟨ea,eb,ec⟩:=bs dZ;refine zg 1 rfl (Dr 14 59 [] [(1,sV ap am.1 av),(3,iV ba.1),(5,sV ag V.1 al),(7,iV a0.1),(9,iV aY.1),(10,iV aY.2),(11,iV O.1),(12,iV O.2.1),(13,iV O.2.2),(14,.bool U.1),(15,iV U.2),(16,iV K.1),(17,sV Y K.2.1 Z),(18,iV K.2.2),(79,.bool ea)] (fun hP bp bM=>?_) (fun bN=>?_))
   ·obtain⟨ed,ee,ef⟩:=bs ec;refine zg 1 rfl (Dr 18 55 [] [(1,sV ap am.1 av),(3,iV ba.1),(5,sV ag V.1 al),(7,iV a0.1),(9,iV aY.1),(11,iV O.1),(12,iV O.2.1),(13,iV O.2.2),(14,.bool U.1),(15,iV U.2),(16,iV K.1),(17,sV Y K.2.1 Z),(18,iV K.2.2),(83,.bool ed)] (fun hQ bq bO=>?_) (fun bP=>?_))
    ·obtain⟨eg,eh,ei⟩:=bs ef;refine zg 1 rfl (Dr 22 51 [] [(1,sV ap am.1 av),(3,iV ba.1),(5,sV ag V.1 al),(7,iV a0.1),(9,iV aY.1),(11,iV O.1),(12,iV O.2.1),(14,.bool U.1),(15,iV U.2),(16,iV K.1),(17,sV Y K.2.1 Z),(18,iV K.2.2),(87,.bool eg)] (fun hR br bQ=>?_) (fun bR=>?_))
     ·obtain⟨ej,ek,el⟩:=bs ei;refine zg 1 rfl (Dr 26 47 [] [(1,sV ap am.1 av),(3,iV ba.1),(5,sV ag V.1 al),(7,iV a0.1),(9,iV aY.1),(11,iV O.1),(12,iV O.2.1),(14,.bool U.1),(16,iV K.1),(17,sV Y K.2.1 Z),(18,iV K.2.2),(91,.bool ej)] (fun hS bu bS=>?_) (fun bT=>?_))
      ·obtain⟨em,en,eo⟩:=bs el;refine zg 1 rfl (Dr 30 43 [] [(1,sV ap am.1 av),(3,iV ba.1),(5,sV ag V.1 al),(7,iV a0.1),(9,iV aY.1),(11,iV O.1),(12,iV O.2.1),(14,.bool U.1),(16,iV K.1),(17,sV Y K.2.1 Z),(95,.bool em)] (fun hT bv bU=>?_) (fun bV=>?_))
       ·obtain⟨ep,eq,er⟩:=bs eo;refine zg 1 rfl (Dr 34 39 [] [(1,sV ap am.1 av),(5,sV ag V.1 al),(7,iV a0.1),(9,iV aY.1),(11,iV O.1),(12,iV O.2.1),(14,.bool U.1),(16,iV K.1),(17,sV Y K.2.1 Z),(99,.bool ep)] (fun hU bw bW=>?_) (fun bY=>?_))
        ·obtain⟨et,eu,ew⟩:=bs er;refine zg 1 rfl (Dr 38 35 [] [(1,sV ap am.1 av),(5,sV ag V.1 al),(9,iV aY.1),(11,iV O.1),(12,iV O.2.1),(14,.bool U.1),(16,iV K.1),(17,sV Y K.2.1 Z),(103,.bool et)] (fun hV bx bZ=>?_) (fun b0=>?_))
         ·obtain⟨ex,ey,ez⟩:=bs ew;refine zg 1 rfl (Dr 42 31 [] [(1,sV ap am.1 av),(5,sV ag V.1 al),(11,iV O.1),(12,iV O.2.1),(14,.bool U.1),(16,iV K.1),(17,sV Y K.2.1 Z),(107,.bool ex)] (fun hW bz b1=>?_) (fun b2=>?_))
          ·obtain⟨eA,eB,eC⟩:=bs ez;refine zg 1 rfl (Dr 46 27 [] [(1,sV ap am.1 av),(5,sV ag V.1 al),(12,iV O.2.1),(14,.bool U.1),(16,iV K.1),(17,sV Y K.2.1 Z),(111,.bool eA)] (fun hX bA b3=>?_) (fun b4=>?_))
           ·obtain⟨eD,eE,eF⟩:=bs eC;refine zg 1 rfl (Dr 50 23 [] [(1,sV ap am.1 av),(5,sV ag V.1 al),(14,.bool U.1),(16,iV K.1),(17,sV Y K.2.1 Z),(115,.bool eD)] (fun hY bB b5=>?_) (fun b6=>?_))
            ·obtain⟨eG,eH,eI⟩:=bs eF;refine zg 1 rfl (Dr 53 20 [] [(1,sV ap am.1 av),(5,sV ag V.1 al),(16,iV K.1),(17,sV Y K.2.1 Z),(118,.bool eG)] (fun hZ bC b7=>?_) (fun b8=>?_))
             ·obtain⟨eJ,eK,eL⟩:=bs eI;refine zg 1 rfl (Dr 57 16 [] [(1,sV ap am.1 av),(5,sV ag V.1 al),(17,sV Y K.2.1 Z),(122,.bool eJ)] (fun h0 bD b9=>?_) (fun ca=>?_))
              ·obtain⟨eM,eN,eO⟩:=bs eL;refine zg 1 rfl (Dr 62 11 [] [(5,sV ag V.1 al),(17,sV Y K.2.1 Z),(127,.bool eM)] (fun h1 bF cb=>?_) (fun cc=>?_))
               ·obtain⟨eP,eQ,eR⟩:=bs eO;refine zg 1 rfl (Dr 67 6 [] [(17,sV Y K.2.1 Z),(132,.bool eP)] (fun h2 cd ce=>?_) (fun cf=>?_))
                ·obtain⟨eS,eT,eU⟩:=bs eR;refine zg 1 rfl (Dr 72 1 [] [(137,.bool eS)] (fun h3 eV eW=>?_) (fun cg=>?_))
                 ·refine zg 2 rfl ?_;obtain rfl:=oi eU;exact AA func22 rfl rfl (co (((((((((((((((((((((((((((((((((((((a1.Ab a5).Ab a2).Ab a6).Ab a7).Ab aZ).Ab bb).Ab a8).Ab bc).Ab bd).Ab a3).Ab bf).Ab bg).Ab bi).Ab bj).Ab be).Ab a9).Ab bl).Ab bm).Ab bh).Ab bE).Ab bn).Ab bo).Ab bp).Ab bq).Ab br).Ab bu).Ab bv).Ab bw).Ab bx).Ab bz).Ab bA).Ab bB).Ab bC).Ab bD).Ab bF).Ab cd).Ab eV) rfl ⟨rfl,rfl⟩ eW)
                 ·refine DZ 133 eT (fun eX eY=>?_) (fun eX eZ=>?_)
                  ·refine zg 1 rfl (Dx (pp:=rI) [iV 3,iV 4] [3,4] rfl rfl rfl underlying28 AW CM (by decide) rfl rfl rfl ⟨rfl,rfl,trivial⟩ ce fun h4 h5 e0 e1=>?_);refine B7 0 e0 e1 rfl fun h6 ci e2 e3=>?_;obtain⟨h7,e4,e5⟩:=bs eY;refine BC (Ns (dT.Ah ((((((((((((((((bn.Ab bo).Ab bp).Ab bq).Ab br).Ab bu).Ab bv).Ab bw).Ab bx).Ab bz).Ab bA).Ab bB).Ab bC).Ab bD).Ab bF).Ab cd).Ab ci)) e2 e4) rfl rfl LX e3 fun h8 e6 e7=>zg 1 rfl ?_;obtain rfl:=oi e5;exact cg (ci.Ab e6) e7 rfl
                  ·refine zg 4 rfl ?_;obtain rfl:=oi eZ;exact cg Ar ce rfl
                ·refine DZ 128 eQ (fun e8 e9=>?_) (fun e8 fa=>?_)
                 ·refine zg 1 rfl (Dx (pp:=rI) [iV 2,iV 3,iV 4] [2,3,4] rfl rfl rfl underlying28 AW CM (by decide) rfl rfl rfl ⟨rfl,rfl,rfl,trivial⟩ cb fun h9 ia fb fc=>?_);refine B7 0 fb fc rfl fun ic ck fd fe=>?_;obtain⟨ie,ff,fg⟩:=bs e9;refine BC (Ns (cW.Ah (((((((((((((((((((((((((((((a8.Ab bc).Ab bd).Ab a3).Ab bf).Ab bg).Ab bi).Ab bj).Ab be).Ab a9).Ab bl).Ab bm).Ab bh).Ab bE).Ab bn).Ab bo).Ab bp).Ab bq).Ab br).Ab bu).Ab bv).Ab bw).Ab bx).Ab bz).Ab bA).Ab bB).Ab bC).Ab bD).Ab bF).Ab ck)) fd ff) rfl rfl LX fe fun ig fh fj=>zg 1 rfl ?_;obtain rfl:=oi fg;exact cf (ck.Ab fh) fj rfl
                 ·refine zg 4 rfl ?_;obtain rfl:=oi fa;exact cf Ar cb rfl
               ·refine DZ 123 eN (fun fk fm=>?_) (fun fk fo=>?_)
                ·refine zg 1 rfl (Dx (pp:=rI) [iV 4,iV 5] [4,5] rfl rfl rfl underlying28 AW CM (by decide) rfl rfl rfl ⟨rfl,rfl,trivial⟩ b9 fun ih ii fp fq=>?_);refine B7 0 fp fq rfl fun ij cm fs fu=>?_;obtain⟨ik,fv,fw⟩:=bs fm;refine BC (Ns (cy.Ah (((((((((((((((((((((((((((((((((a2.Ab a6).Ab a7).Ab aZ).Ab bb).Ab a8).Ab bc).Ab bd).Ab a3).Ab bf).Ab bg).Ab bi).Ab bj).Ab be).Ab a9).Ab bl).Ab bm).Ab bh).Ab bE).Ab bn).Ab bo).Ab bp).Ab bq).Ab br).Ab bu).Ab bv).Ab bw).Ab bx).Ab bz).Ab bA).Ab bB).Ab bC).Ab bD).Ab cm)) fs fv) rfl rfl LX fu fun il fx fy=>zg 1 rfl ?_;obtain rfl:=oi fw;exact cc (cm.Ab fx) fy rfl
                ·refine zg 4 rfl ?_;obtain rfl:=oi fo;exact cc Ar b9 rfl
              ·refine DZ 119 eK (fun fz fA=>?_) (fun fz fB=>?_)
               ·refine zg 3 rfl ?_;obtain rfl:=oi fA;exact ca Ar b7 rfl
               ·refine zg 3 rfl ?_;obtain rfl:=oi fB;exact ca Ar b7 rfl
             ·refine DZ 116 eH (fun fC fD=>?_) (fun fC fE=>?_)
              ·refine zg 2 rfl ?_;obtain rfl:=oi fD;exact b8 Ar b5 rfl
              ·refine zg 2 rfl ?_;obtain rfl:=oi fE;exact b8 Ar b5 rfl
            ·refine DZ 112 eE (fun fF fG=>?_) (fun fF fH=>?_)
             ·refine zg 3 rfl ?_;obtain rfl:=oi fG;exact b6 Ar b3 rfl
             ·refine zg 3 rfl ?_;obtain rfl:=oi fH;exact b6 Ar b3 rfl
           ·refine DZ 108 eB (fun fI fJ=>?_) (fun fI fK=>?_)
            ·refine zg 3 rfl ?_;obtain rfl:=oi fJ;exact b4 Ar b1 rfl
            ·refine zg 3 rfl ?_;obtain rfl:=oi fK;exact b4 Ar b1 rfl
          ·refine DZ 104 ey (fun fL fM=>?_) (fun fL fN=>?_)
           ·refine zg 3 rfl ?_;obtain rfl:=oi fM;exact b2 Ar bZ rfl
           ·refine zg 3 rfl ?_;obtain rfl:=oi fN;exact b2 Ar bZ rfl
         ·refine DZ 100 eu (fun fO fP=>?_) (fun fO fQ=>?_)
          ·refine zg 3 rfl ?_;obtain rfl:=oi fP;exact b0 Ar bW rfl
          ·refine zg 3 rfl ?_;obtain rfl:=oi fQ;exact b0 Ar bW rfl
        ·refine DZ 96 eq (fun fR fS=>?_) (fun fR fT=>?_)
         ·refine zg 3 rfl ?_;obtain rfl:=oi fS;exact bY Ar bU rfl
         ·refine zg 3 rfl ?_;obtain rfl:=oi fT;exact bY Ar bU rfl
       ·refine DZ 92 en (fun fU fW=>?_) (fun fU fX=>?_)
        ·refine zg 3 rfl ?_;obtain rfl:=oi fW;exact bV Ar bS rfl
        ·refine zg 3 rfl ?_;obtain rfl:=oi fX;exact bV Ar bS rfl
      ·refine DZ 88 ek (fun fY fZ=>?_) (fun fY ga=>?_)
       ·refine zg 3 rfl ?_;obtain rfl:=oi fZ;exact bT Ar bQ rfl
       ·refine zg 3 rfl ?_;obtain rfl:=oi ga;exact bT Ar bQ rfl
     ·refine DZ 84 eh (fun gb gc=>?_) (fun gb gd=>?_)
      ·refine zg 3 rfl ?_;obtain rfl:=oi gc;exact bR Ar bO rfl
      ·refine zg 3 rfl ?_;obtain rfl:=oi gd;exact bR Ar bO rfl
    ·refine DZ 80 ee (fun ge gf=>?_) (fun ge gg=>?_)
     ·refine zg 3 rfl ?_;obtain rfl:=oi gf;exact bP Ar bM rfl
     ·refine zg 3 rfl ?_;obtain rfl:=oi gg;exact bP Ar bM rfl
   ·refine DZ 76 eb (fun gh gi=>?_) (fun gh gj=>?_)
    ·refine zg 3 rfl ?_;obtain rfl:=oi gi;exact bN Ar bK rfl
    ·refine zg 3 rfl ?_;obtain rfl:=oi gj;exact bN Ar bK rfl
  ·refine DZ 72 dY (fun gk gl=>?_) (fun gk gm=>?_)
   ·refine zg 3 rfl ?_;obtain rfl:=oi gl;exact bL Ar bI rfl
   ·refine zg 3 rfl ?_;obtain rfl:=oi gm;exact bL Ar bI rfl
 ·refine Ee 68 dV (fun gn gp=>?_) (fun gn gq=>?_)
  ·refine zg 3 rfl ?_;obtain rfl:=oi gp;exact bJ Ar bH rfl
  ·refine zg 3 rfl ?_;obtain rfl:=oi gq;exact bJ Ar bH rfl
end Pal
namespace Pal
theorem DV{f:Nat→Option Int}{n i:Nat}{c:Int}(K:∀q,q<i→f q=none)(O:f i=some c)(hi:i<n):(List.range n).findSome? f=some c:=by
 have key:∀(k:Nat),i<k→(List.range k).findSome? f=some c:=by
  intro k
  induction k with
  | zero=>intro h;omega
  | succ k U=>
   intro h;rw [List.range_succ,List.findSome?_append];by_cases e:i=k
   ·subst e;have:(List.range i).findSome? f=none:=List.findSome?_eq_none_iff.2 fun q V=>K q (List.mem_range.1 V);rw [this];simp [O]
   ·rw [U (by omega)];rfl
 exact key n hi
theorem F0{f:Nat→Option Int}{n:Nat}(K:∀q,q<n→f q=none):(List.range n).findSome? f=none:=List.findSome?_eq_none_iff.2 fun q O=>K q (List.mem_range.1 O)
def Fh(n:Nat)(m:Int)(b:Bool)(l:List Int)(i:Nat):Option Int:=
 if l.getD i 0<0∨(n:Int) - 1<l.getD i 0 then some 3 else if l.getD i 0=m∧b=false then some 8 else if 0<i∧l.getD i 0≤l.getD (i - 1) 0 then some 5 else none
def ES(n:Nat)(m:Int)(b:Bool)(l:List Int):Option Int:=(List.range l.length).findSome? (Fh n m b l)
theorem El{α:Type}{l:List α}{i:Nat}{d:α}(h:i<l.length):l.getD i d=l[i]:=by rw [List.getD_eq_getElem?_getD,List.getElem?_eq_getElem h];rfl
theorem QJ{F:Nat}{J:JW}{m:Int}{l:List Int}{b:Bool}(am:100<F)(ap:l.length<100)(av:J.1.length<100):AY (f136 F J m l b) (fun e=>e.map (·.1)=ES J.1.length m b l):=by
 unfold f136;refine AE (S:=fun q=>(∃c,q=Sum.inl (some (c,m))∧ES J.1.length m b l=some c)∨(q=Sum.inr ()∧ES J.1.length m b l=none)) ?_ ?_
 ·refine Ck l.length (fun i s=>s=(i:Int)∧∀q,q<i→Fh J.1.length m b l q=none) ⟨rfl,fun q al=>by omega⟩ (by omega) ?_ ?_
  ·rintro i s hi ⟨rfl,O⟩;unfold Jx;have hg:l.getD i 0=l[i]:=El hi;refine Bw (by omega) (Bn (m:=i) rfl hi ?_);refine AT ((J.1.length:Int) - 1) rfl (by omega) (by omega) (AQ (HM F _ _ _) ?_);refine Bl (fun h=>?_) (fun h=>?_)
   ·have U:=of_decide_eq_true h;exact Ak (.inl ⟨3,rfl,DV O (by unfold Fh;rw [hg,if_pos U]) hi⟩)
   ·have U:¬(l[i]<0∨(J.1.length:Int) - 1<l[i]):=fun x=>h (decide_eq_true x);refine AE (S:=fun c=>c=decide (l[i]=m∧b=false)) ?_ ?_
    ·refine Bl (fun K=>Ak ?_) (fun K=>Ak ?_)
     ·cases b <;> simp [K]
     ·simp [K]
    ·rintro c rfl;refine Bl (fun K=>?_) (fun K=>?_)
     ·have Y:=of_decide_eq_true K;exact Ak (.inl ⟨8,rfl,DV O (by unfold Fh;rw [hg,if_neg U,if_pos Y]) hi⟩)
     ·have Y:¬(l[i]=m∧b=false):=fun x=>K (decide_eq_true x);refine AE (S:=fun c=>c=decide (0<i∧l[i]≤l.getD (i - 1) 0)) ?_ ?_
      ·refine Bl (fun V=>?_) (fun V=>?_)
       ·have ag:i - 1<l.length:=by omega
        refine AT ((i - 1:Nat):Int) (by omega) (by omega) (by omega) (Bn (m:=i - 1) rfl ag ?_);refine Ak ?_;rw [El ag];exact decide_eq_decide.2 ⟨fun x=>⟨by omega,x⟩,fun x=>x.2⟩
       ·exact Ak (decide_eq_false (by omega)).symm
      ·rintro c rfl;refine Bl (fun V=>?_) (fun V=>?_)
       ·have Z:=of_decide_eq_true V;exact Ak (.inl ⟨5,rfl,DV O (by unfold Fh;rw [hg,if_neg U,if_neg Y,if_pos Z]) hi⟩)
       ·have Z:¬(0<i∧l[i]≤l.getD (i - 1) 0):=fun x=>V (decide_eq_true x);refine AT ((i+1:Nat):Int) (by simp) (by omega) (by omega) ?_;refine Ak ⟨rfl,fun q al=>?_⟩;by_cases e:q=i
        ·subst e;unfold Fh;rw [hg,if_neg U,if_neg Y,if_neg Z]
        ·exact O q (by omega)
  ·rintro s ⟨rfl,O⟩;unfold Jx;exact A8 (by omega) (Ak ⟨_,rfl,.inr ⟨rfl,F0 O⟩⟩)
 ·rintro q (⟨c,rfl,h⟩ | ⟨rfl,h⟩)
  ·exact Ak h.symm
  ·exact Ak h.symm
theorem KF(F:Nat)(a lo hi:Int):f104 F a lo hi=some (decide (lo≤a∧a≤hi)):=by
 unfold f104;by_cases h:lo≤a
 ·simp [h]
 ·simp [h]
theorem Wl{F:Nat}{J:JW}{m:Int}{l:List Int}(ag:100<F)(al:l.length<100)(am:J.1.length<100):f114 F J l=some (if l.length=0 then 7 else if 3<l.length then 6 else(ES J.1.length m true l).getD 0):=by
 refine CW ?_;unfold f114;refine Bl (fun h=>?_) (fun h=>?_)
 ·rw [if_pos (show l.length=0 by omega)];exact Ak rfl
 rw [if_neg (show ¬l.length=0 by omega)];refine Bl (fun h=>?_) (fun h=>?_)
 ·rw [if_pos (show 3<l.length by omega)];exact Ak rfl
 rw [if_neg (show ¬3<l.length by omega)];refine AE (S:=fun q=>(∃c,q=Sum.inl c∧ES J.1.length m true l=some c)∨(q=Sum.inr ()∧ES J.1.length m true l=none)) ?_ ?_
 ·refine Ck l.length (fun i s=>s=(i:Int)∧∀q,q<i→Fh J.1.length m true l q=none) ⟨rfl,fun q Z=>by omega⟩ (by omega) ?_ ?_
  ·rintro i s hi ⟨rfl,K⟩;unfold MF;have hg:l.getD i 0=l[i]:=El hi;refine Bw (by omega) (Bn (m:=i) rfl hi ?_);refine AT ((J.1.length:Int) - 1) rfl (by omega) (by omega) (AQ (KF F _ _ _) ?_);refine Bl (fun h=>?_) (fun h=>?_)
   ·have U:l[i]<0∨(J.1.length:Int) - 1<l[i]:=by simp at h;omega
    exact Ak (.inl ⟨3,rfl,DV K (by unfold Fh;rw [hg,if_pos U]) hi⟩)
   ·have U:¬(l[i]<0∨(J.1.length:Int) - 1<l[i]):=by simp at h;omega
    refine AE (S:=fun c=>c=decide (0<i∧l[i]≤l.getD (i - 1) 0)) ?_ ?_
    ·refine Bl (fun O=>?_) (fun O=>?_)
     ·have Y:i - 1<l.length:=by omega
      refine Bn (m:=i) rfl hi (AT ((i - 1:Nat):Int) (by omega) (by omega) (by omega) ?_);refine Bn (m:=i - 1) rfl Y (Ak ?_);rw [El Y];exact decide_eq_decide.2 ⟨fun x=>⟨by omega,x⟩,fun x=>x.2⟩
     ·exact Ak (decide_eq_false (by omega)).symm
    ·rintro c rfl;refine Bl (fun O=>?_) (fun O=>?_)
     ·have V:=of_decide_eq_true O;exact Ak (.inl ⟨5,rfl,DV K (by unfold Fh;rw [hg,if_neg U,if_neg (by simp),if_pos V]) hi⟩)
     ·have V:¬(0<i∧l[i]≤l.getD (i - 1) 0):=fun x=>O (decide_eq_true x);refine AT ((i+1:Nat):Int) (by simp) (by omega) (by omega) ?_;refine Ak ⟨rfl,fun q Z=>?_⟩;by_cases e:q=i
      ·subst e;unfold Fh;rw [hg,if_neg U,if_neg (by simp),if_neg V]
      ·exact K q (by omega)
  ·rintro s ⟨rfl,K⟩;unfold MF;exact A8 (by omega) (Ak ⟨_,rfl,.inr ⟨rfl,F0 K⟩⟩)
 ·rintro q (⟨c,rfl,h⟩ | ⟨rfl,h⟩)
  ·exact Ak (by rw [h];rfl)
  ·exact Ak (by rw [h];rfl)
theorem Wa{F:Nat}{J:JW}{m:Int}{l:List Int}(am:100<F)(ap:l.length<100)(av:J.1.length<100):f115 F J m l=some (if 3<l.length then 6 else(ES J.1.length m false l).getD 0):=by
 refine CW ?_;unfold f115;refine Bl (fun h=>?_) (fun h=>?_)
 ·rw [if_pos (show 3<l.length by omega)];exact Ak rfl
 rw [if_neg (show ¬3<l.length by omega)];refine AE (S:=fun q=>(∃c,q=Sum.inl c∧ES J.1.length m false l=some c)∨(q=Sum.inr ()∧ES J.1.length m false l=none)) ?_ ?_
 ·refine Ck l.length (fun i s=>s=(i:Int)∧∀q,q<i→Fh J.1.length m false l q=none) ⟨rfl,fun q al=>by omega⟩ (by omega) ?_ ?_
  ·rintro i s hi ⟨rfl,K⟩;unfold MH;have hg:l.getD i 0=l[i]:=El hi;refine Bw (by omega) (Bn (m:=i) rfl hi ?_);refine AT ((J.1.length:Int) - 1) rfl (by omega) (by omega) (AQ (KF F _ _ _) ?_);refine Bl (fun h=>?_) (fun h=>?_)
   ·have O:l[i]<0∨(J.1.length:Int) - 1<l[i]:=by simp at h;omega
    exact Ak (.inl ⟨3,rfl,DV K (by unfold Fh;rw [hg,if_pos O]) hi⟩)
   ·have O:¬(l[i]<0∨(J.1.length:Int) - 1<l[i]):=by simp at h;omega
    refine Bn (m:=i) rfl hi (Bl (fun V=>?_) (fun V=>?_))
    ·exact Ak (.inl ⟨8,rfl,DV K (by unfold Fh;rw [hg,if_neg O,if_pos ⟨V,rfl⟩]) hi⟩)
    have Z:¬(l[i]=m∧false=false):=fun x=>V x.1;refine AE (S:=fun c=>c=decide (0<i∧l[i]≤l.getD (i - 1) 0)) ?_ ?_
    ·refine Bl (fun U=>?_) (fun U=>?_)
     ·have ag:i - 1<l.length:=by omega
      refine Bn (m:=i) rfl hi (AT ((i - 1:Nat):Int) (by omega) (by omega) (by omega) ?_);refine Bn (m:=i - 1) rfl ag (Ak ?_);rw [El ag];exact decide_eq_decide.2 ⟨fun x=>⟨by omega,x⟩,fun x=>x.2⟩
     ·exact Ak (decide_eq_false (by omega)).symm
    ·rintro c rfl;refine Bl (fun U=>?_) (fun U=>?_)
     ·have Y:=of_decide_eq_true U;exact Ak (.inl ⟨5,rfl,DV K (by unfold Fh;rw [hg,if_neg O,if_neg Z,if_pos Y]) hi⟩)
     ·have Y:¬(0<i∧l[i]≤l.getD (i - 1) 0):=fun x=>U (decide_eq_true x);refine AT ((i+1:Nat):Int) (by simp) (by omega) (by omega) ?_;refine Ak ⟨rfl,fun q al=>?_⟩;by_cases e:q=i
      ·subst e;unfold Fh;rw [hg,if_neg O,if_neg Z,if_neg Y]
      ·exact K q (by omega)
  ·rintro s ⟨rfl,K⟩;unfold MH;exact A8 (by omega) (Ak ⟨_,rfl,.inr ⟨rfl,F0 K⟩⟩)
 ·rintro q (⟨c,rfl,h⟩ | ⟨rfl,h⟩)
  ·exact Ak (by rw [h];rfl)
  ·exact Ak (by rw [h];rfl)
def Eg(J:JW)(i:Nat):Option Int:=
 if(J.1.getD i []).length=0 then some 7 else if 3<(J.1.getD i []).length then some 6 else match ES J.1.length i true (J.1.getD i []) with
  | some c=>some c
  | none=>if 3<(J.2.getD i []).length then some 6 else ES J.1.length i false (J.2.getD i [])
def CJ(J:JW):Option Int:=if J.1.length=0 then some 7 else if 8<J.1.length then some 6 else if J.2.length≠J.1.length then some 9 else(List.range J.1.length).findSome? (Eg J)
structure NL (J:JW):Prop where
 l1:J.1.length≤20
 l2:J.2.length≤20
 n1:∀l∈J.1,l.length≤20
 n2:∀l∈J.2,l.length≤20
theorem Vv{F:Nat}{J:JW}(Z:100<F)(V:NL J):AY (f113 F J) (fun e=>e.map (·.1)=CJ J):=by
 have ap:=V.l1;unfold f113 CJ;refine Bl (fun h=>?_) (fun h=>?_)
 ·rw [if_pos (show J.1.length=0 by omega)];exact Ak rfl
 rw [if_neg (show ¬J.1.length=0 by omega)];refine Bl (fun h=>?_) (fun h=>?_)
 ·rw [if_pos (show 8<J.1.length by omega)];exact Ak rfl
 rw [if_neg (show ¬8<J.1.length by omega)];refine Bl (fun h=>?_) (fun h=>?_)
 ·rw [if_pos (show J.2.length≠J.1.length by omega)];exact Ak rfl
 rw [if_neg (show ¬J.2.length≠J.1.length by omega)];refine AE (S:=fun q=>(∃c,q=Sum.inl (some c)∧(List.range J.1.length).findSome? (Eg J)=some c.1)∨(q=Sum.inr ()∧(List.range J.1.length).findSome? (Eg J)=none)) ?_ ?_
 ·refine Ck J.1.length (fun i s=>s=(i:Int)∧∀q,q<i→Eg J q=none) ⟨rfl,fun q am=>by omega⟩ (by omega) ?_ ?_
  ·rintro i s hi ⟨rfl,K⟩;unfold Ju;have U:i<J.2.length:=by omega
   have O:J.1.getD i []=J.1[i]:=El hi;have g2:J.2.getD i []=J.2[i]:=El U;have n1:=V.n1 _ (List.getElem_mem hi);have n2:=V.n2 _ (List.getElem_mem U);refine Bw (by omega) ?_;refine Bn (m:=i) rfl hi ?_;refine Bl (fun h=>?_) (fun av=>?_)
   ·exact Ak (.inl ⟨(7,(i:Int)),rfl,DV K (by unfold Eg;rw [O,if_pos (by omega)]) hi⟩)
   refine Bl (fun h=>?_) (fun aY=>?_)
   ·exact Ak (.inl ⟨(6,(i:Int)),rfl,DV K (by unfold Eg;rw [O,if_neg (by omega),if_pos (by omega)]) hi⟩)
   refine AE (QJ Z (by omega) (by omega)) ?_;intro e he;refine Bl (fun h=>?_) (fun h=>?_)
   ·obtain⟨c,rfl⟩:=Option.isSome_iff_exists.1 h;refine Ak (.inl ⟨c,rfl,DV K ?_ hi⟩);unfold Eg;rw [O,if_neg (by omega),if_neg (by omega),← he];rfl
   ·obtain rfl:e=none:=by cases e <;> simp_all
    have Y:ES J.1.length (i:Int) true J.1[i]=none:=he.symm;refine Bn (m:=i) rfl U ?_;refine Bl (fun h=>?_) (fun aZ=>?_)
    ·refine Ak (.inl ⟨(6,(i:Int)),rfl,DV K ?_ hi⟩);unfold Eg;rw [O,g2,if_neg (by omega),if_neg (by omega),Y];simp only;rw [if_pos (by omega)]
    refine Bn (m:=i) rfl U (AE (QJ Z (by omega) (by omega)) ?_);intro ag al;refine Bl (fun h=>?_) (fun h=>?_)
    ·obtain⟨c,rfl⟩:=Option.isSome_iff_exists.1 h;refine Ak (.inl ⟨c,rfl,DV K ?_ hi⟩);unfold Eg;rw [O,g2,if_neg (by omega),if_neg (by omega),Y];simp only;rw [if_neg (by omega),← al];rfl
    ·obtain rfl:ag=none:=by cases ag <;> simp_all
     refine AT ((i+1:Nat):Int) (by simp) (by omega) (by omega) (Ak ⟨rfl,fun q am=>?_⟩);by_cases e:q=i
     ·subst e;unfold Eg;rw [O,g2,if_neg (by omega),if_neg (by omega),Y];simp only;rw [if_neg (by omega),← al];rfl
     ·exact K q (by omega)
  ·rintro s ⟨rfl,K⟩;unfold Ju;exact A8 (by omega) (Ak ⟨_,rfl,.inr ⟨rfl,F0 K⟩⟩)
 ·rintro q (⟨c,rfl,h⟩ | ⟨rfl,h⟩)
  ·exact Ak h.symm
  ·exact Ak h.symm
theorem Mz{n:Nat}{m:Int}{b:Bool}{l:List Int}{c:Int}(h:ES n m b l=some c):c≠0:=by
 obtain⟨i,_,hi⟩:=List.exists_of_findSome?_eq_some h;unfold Fh at hi;split at hi
 ·cases hi;omega
 ·split at hi
  ·cases hi;omega
  ·split at hi
   ·cases hi;omega
   ·cases hi
theorem Xd{J:JW}{i:Nat}{c:Int}(h:Eg J i=some c):c≠0:=by
 unfold Eg at h;split at h
 ·cases h;omega
 ·split at h
  ·cases h;omega
  ·split at h
   ·rename_i e;cases h;exact Mz e
   ·split at h
    ·cases h;omega
    ·exact Mz h
theorem S4{J:JW}{c:Int}(h:CJ J=some c):c≠0:=by
 unfold CJ at h;split at h
 ·cases h;omega
 ·split at h
  ·cases h;omega
  ·split at h
   ·cases h;omega
   ·obtain⟨i,_,hi⟩:=List.exists_of_findSome?_eq_some h;exact Xd hi
theorem Xf{F:Nat}{J:JW}(ag:100<F)(V:NL J):f68 F J=some ((CJ J).getD 0):=by
 have am:=V.l1;refine CW ?_;unfold f68 CJ;refine Bl (fun h=>?_) (fun h=>?_)
 ·rw [if_pos (show J.1.length=0 by omega)];exact Ak rfl
 rw [if_neg (show ¬J.1.length=0 by omega)];refine Bl (fun h=>?_) (fun h=>?_)
 ·rw [if_pos (show 8<J.1.length by omega)];exact Ak rfl
 rw [if_neg (show ¬8<J.1.length by omega)];refine Bl (fun h=>?_) (fun h=>?_)
 ·rw [if_pos (show J.2.length≠J.1.length by omega)];exact Ak rfl
 rw [if_neg (show ¬J.2.length≠J.1.length by omega)];refine AE (S:=fun q=>(∃c,q=Sum.inl c∧(List.range J.1.length).findSome? (Eg J)=some c)∨(q=Sum.inr ()∧(List.range J.1.length).findSome? (Eg J)=none)) ?_ ?_
 ·refine Ck J.1.length (fun i s=>s=(i:Int)∧∀q,q<i→Eg J q=none) ⟨rfl,fun q al=>by omega⟩ (by omega) ?_ ?_
  ·rintro i s hi ⟨rfl,K⟩;unfold M4;have Y:i<J.2.length:=by omega
   have U:J.1.getD i []=J.1[i]:=El hi;have g2:J.2.getD i []=J.2[i]:=El Y;have n1:=V.n1 _ (List.getElem_mem hi);have n2:=V.n2 _ (List.getElem_mem Y);refine Bw (by omega) ?_;refine Bn (m:=i) rfl hi ?_;refine AQ (Wl (m:=(i:Int)) ag (by omega) (by omega)) ?_;by_cases O:J.1[i].length=0
   ·rw [if_pos O];exact Bw (by omega) (Ak (.inl ⟨7,rfl,DV K (by unfold Eg;rw [U,if_pos O]) hi⟩))
   rw [if_neg O];by_cases c2:3<J.1[i].length
   ·rw [if_pos c2];exact Bw (by omega) (Ak (.inl ⟨6,rfl,DV K (by unfold Eg;rw [U,if_neg O,if_pos c2]) hi⟩))
   rw [if_neg c2];cases he:ES J.1.length (i:Int) true J.1[i] with
   | some c=>
    exact Bw (Mz he) (Ak (.inl ⟨c,rfl,DV K (by unfold Eg;rw [U,if_neg O,if_neg c2,he]) hi⟩))
   | none=>
    refine A8 (by simp) (Bn (m:=i) rfl Y ?_);refine AQ (Wa (m:=(i:Int)) ag (by omega) (by omega)) ?_;by_cases c3:3<J.2[i].length
    ·rw [if_pos c3];refine Bw (by omega) (Ak (.inl ⟨6,rfl,DV K ?_ hi⟩));unfold Eg;rw [U,g2,if_neg O,if_neg c2,he];simp only;rw [if_pos c3]
    rw [if_neg c3];cases Z:ES J.1.length (i:Int) false J.2[i] with
    | some c=>
     refine Bw (Mz Z) (Ak (.inl ⟨c,rfl,DV K ?_ hi⟩));unfold Eg;rw [U,g2,if_neg O,if_neg c2,he];simp only;rw [if_neg c3,Z]
    | none=>
     refine A8 (by simp) (AT ((i+1:Nat):Int) (by simp) (by omega) (by omega) ?_);refine Ak ⟨rfl,fun q al=>?_⟩;by_cases e:q=i
     ·subst e;unfold Eg;rw [U,g2,if_neg O,if_neg c2,he];simp only;rw [if_neg c3,Z]
     ·exact K q (by omega)
  ·rintro s ⟨rfl,K⟩;unfold M4;exact A8 (by omega) (Ak ⟨_,rfl,.inr ⟨rfl,F0 K⟩⟩)
 ·rintro q (⟨c,rfl,h⟩ | ⟨rfl,h⟩)
  ·exact Ak (by rw [h];rfl)
  ·exact Ak (by rw [h];rfl)
theorem P5{n:Nat}{m:Int}{b:Bool}{l:List Int}(h:ES n m b l=none):Hz n l∧l.Pairwise (·<·)∧(b=false→m ∉ l):=by
 have K:∀i (hi:i<l.length),¬(l[i]<0∨(n:Int) - 1<l[i])∧¬(l[i]=m∧b=false)∧¬(0<i∧l[i]≤l.getD (i - 1) 0):=fun i hi=>by
  have:=List.findSome?_eq_none_iff.1 h i (List.mem_range.2 hi);unfold Fh at this;rw [El hi] at this;split at this
  ·cases this
  ·split at this
   ·cases this
   ·split at this
    ·cases this
    ·rename_i U V Y;exact⟨U,V,Y⟩
 refine⟨fun x Z=>?_,?_,fun hb hm=>?_⟩
 ·obtain⟨i,hi,rfl⟩:=List.mem_iff_getElem.1 Z;have:=(K i hi).1;omega
 ·have step:∀i (hi:i+1<l.length),l[i]<l[i+1]:=fun i hi=>by
   have:=(K (i+1) hi).2.2;rw [show i+1 - 1=i by omega,El (by omega)] at this;omega
  rw [List.pairwise_iff_getElem];intro i j hi ap av;have key:∀k (O:i+1+k<l.length),l[i]<l[i+1+k]:=fun k=>by
   induction k with
   | zero=>intro O;exact step i O
   | succ k ag=>intro O;have al:=ag (by omega);have am:=step (i+1+k) (by omega);exact Int.lt_trans al am
  have:=key (j - i - 1) (by omega);simpa [show i+1+(j - i - 1)=j by omega] using this
 ·obtain⟨i,hi,e⟩:=List.mem_iff_getElem.1 hm;exact(K i hi).2.1 ⟨e,hb⟩
theorem Wn{J:JW}(h:CJ J=none):VJ J.1.length J:=by
 unfold CJ at h;split at h
 ·cases h
 rename_i av;split at h
 ·cases h
 rename_i aY;split at h
 ·cases h
 rename_i aZ;have O:∀i,i<J.1.length→(J.1.getD i []).length≠0∧(J.1.getD i []).length≤3∧ES J.1.length i true (J.1.getD i [])=none∧(J.2.getD i []).length≤3∧ES J.1.length i false (J.2.getD i [])=none:=fun i hi=>by
  have:=List.findSome?_eq_none_iff.1 h i (List.mem_range.2 hi);unfold Eg at this;split at this
  ·cases this
  ·split at this
   ·cases this
   ·split at this
    ·cases this
    ·rename_i ag a0 _ al;split at this
     ·cases this
     ·rename_i a1;exact⟨ag,by omega,al,by omega,this⟩
 refine⟨by omega,by omega,rfl,by omega,fun i l K=>?_,fun i l K=>?_⟩
 ·have hi:=(List.getElem?_eq_some_iff.1 K).1;obtain⟨am,U,V,_,_⟩:=O i hi;have e:J.1.getD i []=l:=by rw [List.getD_eq_getElem?_getD,K];rfl
  rw [e] at am U V;obtain⟨v1,v2,_⟩:=P5 V;exact⟨⟨U,v1,v2⟩,by omega⟩
 ·have hi:i<J.1.length:=by have:=(List.getElem?_eq_some_iff.1 K).1;omega
  obtain⟨_,_,_,Y,Z⟩:=O i hi;have e:J.2.getD i []=l:=by rw [List.getD_eq_getElem?_getD,K];rfl
  rw [e] at Y Z;obtain⟨v1,v2,ap⟩:=P5 Z;exact⟨⟨Y,v1,v2⟩,ap rfl⟩
end Pal
namespace Pal
theorem Xu{F n a m:Nat}{J:JW}{due K:List Bool}(a1:100<F)(V:VJ n J)(aY:H5 J n a due)(hm:m<n)(ag:K.length=n):
  AY (iter (JF F J due (K,(m:Int))) F (K,0)) (fun r=>r.length=n∧∀x:Nat,x<n→(r[x]? =some true↔K[x]? =some true∨((AG J a).testBit m=true∧(x:Int)∈J.1.getD m []))):=by
 have a2:=V.l1;have a3:=V.le;have O:m<J.1.length:=by omega
 obtain⟨al,a4⟩:=V.nx m _ (List.getElem?_eq_getElem O);have hlen:=al.len;have aZ:J.1.getD m []=J.1[m]:=El O;have am:=aY.2 m hm;cases ap:(AG J a).testBit m with
 | false=>
  refine Ck 0 (fun i st=>st=(K,0)) rfl (by omega) (fun i st hi=>by omega) ?_;rintro st rfl;unfold JF;refine Bn (m:=m) rfl O (AE (S:=fun c=>c=false) ?_ ?_)
  ·refine Bl (fun h=>?_) (fun h=>Ak rfl);exact AQ (D6 (m:=m) rfl am) (Ak ap)
  ·rintro c rfl;refine A8 (by simp) (Ak ⟨_,rfl,ag,fun x U=>?_⟩);simp
 | true=>
  refine Ck J.1[m].length (fun i st=>∃nx:List Bool,st=(nx,(i:Int))∧nx.length=n∧∀x:Nat,x<n→(nx[x]? =some true↔K[x]? =some true∨(x:Int)∈J.1[m].take i)) ⟨K,rfl,ag,fun x U=>by simp⟩ (by omega) ?_ ?_
  ·rintro i st hi ⟨nx,rfl,Y,Z⟩;unfold JF;refine Bn (m:=m) rfl O (AE (S:=fun c=>c=true) ?_ ?_)
   ·refine Bw (by simp only;omega) (AQ (D6 (m:=m) rfl am) ?_);exact Ak ap
   ·rintro c rfl;refine Bw rfl (Bn (m:=m) rfl O ?_);refine Bn (m:=i) rfl hi ?_;have U:=al.inr J.1[m][i] (List.getElem_mem hi);have av:J.1[m][i].toNat<nx.length:=by omega
    refine Bn (m:=J.1[m][i].toNat) (show J.1[m][i]=_ by omega) av (AT ((i+1:Nat):Int) (by simp) (by omega) (by omega) ?_);refine Ak ⟨nx.set J.1[m][i].toNat true,rfl,by simpa using Y,fun x a0=>?_⟩;rw [V0 av,Z x a0,List.take_add_one,List.getElem?_eq_getElem hi];simp only [Option.toList_some,List.mem_append,List.mem_singleton];rw [or_assoc];refine or_congr Iff.rfl (or_congr Iff.rfl ⟨fun h=>by omega,fun h=>by omega⟩)
  ·rintro st ⟨nx,rfl,Y,Z⟩;unfold JF;refine Bn (m:=m) rfl O (AE (S:=fun c=>c=false) (A8 (by simp) (Ak rfl)) ?_);rintro c rfl;refine A8 (by simp) (Ak ⟨_,rfl,Y,fun x U=>?_⟩);rw [Z x U,List.take_length,aZ];simp
theorem WV{F n a:Nat}{J:JW}{due:List Bool}(ag:100<F)(Y:VJ n J)(Z:H5 J n a due):AY (f119 F J due) (H5 J n (a+1)):=by
 have a0:=Y.le;have al:=Z.1;unfold f119;refine AQ (b:=List.replicate n false) ?_ ?_
 ·unfold F5;rw [if_pos (by omega),al];rfl
 refine AE (S:=H5 J n (a+1)) ?_ (fun r am=>Ak am);refine Ck n (fun k st=>∃nx:List Bool,st=(nx,(k:Int))∧Py J n a k nx) ⟨_,rfl,by simp,fun x U=>?_⟩ (by omega) ?_ ?_
 ·rw [List.getElem?_replicate,if_pos U];simp
 ·rintro k st ap ⟨nx,rfl,V⟩;unfold MN;refine Bw (by simp only;omega) (AE (Xu (m:=k) ag Y Z ap V.1) ?_);rintro av ⟨aY,g2⟩;refine AT ((k+1:Nat):Int) (by simp) (by omega) (by omega) (Ak ⟨av,rfl,aY,fun x U=>?_⟩);rw [g2 x U,V.2 x U];constructor
  ·rintro(⟨m,aZ,K,O⟩ | ⟨K,O⟩)
   ·exact⟨m,by omega,K,O⟩
   ·exact⟨k,by omega,K,O⟩
  ·rintro⟨m,aZ,K,O⟩;rcases Nat.lt_or_ge m k with h | h
   ·exact .inl ⟨m,h,K,O⟩
   ·obtain rfl:m=k:=by omega
    exact .inr ⟨K,O⟩
 ·rintro st ⟨nx,rfl,V⟩;unfold MN;exact A8 (by simp only;omega) (Ak ⟨_,rfl,V.due Y⟩)
theorem aT{n:Nat}{J:JW}(K:0<n):H5 J n 0 ((List.replicate n false).set 0 true):=by
 refine⟨by simp,fun m hm=>?_⟩;by_cases e:m=0
 ·subst e;rw [List.getElem?_set_self (by simpa using hm)];exact congrArg some (show true=(1:Nat).testBit 0 by decide)
 ·rw [List.getElem?_set_ne (by omega),List.getElem?_replicate,if_pos hm];have:(AG J 0).testBit m=false:=by
   show(1:Nat).testBit m=false;have:=Nat.testBit_two_pow_of_ne (n:=0) (m:=m) (by omega);simpa using this
  rw [this]
theorem YP{F n a:Nat}{J:JW}(V:100<F)(K:VJ n J)(al:a<13):AY (f82 F J (a:Int)) (H5 J n a):=by
 have am:=K.le;have U:=K.pos;have Y:=K.l1;unfold f82;refine AQ (b:=List.replicate n false) ?_ ?_
 ·unfold F5;rw [if_pos (by omega),Y];rfl
 refine Bn (m:=0) rfl (by simpa using U) (AE (S:=H5 J n a) ?_ (fun r Z=>Ak Z));refine Ck a (fun i st=>∃d:List Bool,st=(d,(i:Int))∧H5 J n i d) ⟨_,rfl,aT U⟩ (by omega) ?_ ?_
 ·rintro i st hi ⟨d,rfl,O⟩;unfold Nf;refine Bw (by simp only;omega) (AE (WV V K O) ?_);intro d2 ag;exact AT ((i+1:Nat):Int) (by simp) (by omega) (by omega) (Ak ⟨d2,rfl,ag⟩)
 ·rintro st ⟨d,rfl,O⟩;unfold Nf;exact A8 (by simp) (Ak ⟨_,rfl,O⟩)
theorem Sf{F:Nat}{l:List (List Int)}(ag:100<F)(al:l.length≤20)(U:∀x∈l,x.length≤20):f77 F l=some l:=by
 refine CW ?_;unfold f77;refine AQ (b:=List.replicate l.length []) ?_ ?_
 ·unfold F5;rw [if_pos (by omega)];rfl
 refine AE (S:=fun r=>r=l) ?_ (fun r V=>Ak V);refine Ck l.length (fun i s=>s.2=(i:Int)∧s.1=l.take i++List.replicate (l.length - i) []) ⟨rfl,by simp⟩ (by omega) ?_ ?_
 ·rintro i ⟨o,c⟩ hi ⟨K,O⟩;simp only at K O;subst K;subst O;unfold Na;refine Bw (by simp only;omega) (Bn (m:=i) rfl hi ?_);refine AQ (b:=l[i]) ?_ ?_
  ·unfold f108;have:Dd ([]:List Int) l[i]=some l[i]:=by unfold Dd;rw [if_pos (by have:=U _ (List.getElem_mem hi);simp;omega)];rfl
   rw [this];rfl
  have Y:(l.take i).length=i:=by rw [List.length_take];omega
  refine Bn (m:=i) rfl (by simp;omega) (AT ((i+1:Nat):Int) (by simp) (by omega) (by omega) ?_);refine Ak ⟨rfl,?_⟩;simp only;rw [show Int.toNat (i:Int)=i by omega,List.set_append,if_neg (by omega),Y,Nat.sub_self];obtain⟨k,Z⟩:∃k,l.length - i=k+1:=⟨l.length - i - 1,by omega⟩;rw [Z,List.replicate_succ,List.set_cons_zero,List.take_add_one,List.getElem?_eq_getElem hi,show l.length - (i+1)=k by omega];simp only [Option.toList_some,List.append_assoc,List.cons_append,List.nil_append]
 ·rintro⟨o,c⟩ ⟨K,O⟩;simp only at K O;subst K;subst O;unfold Na;exact A8 (by simp) (Ak ⟨_,rfl,by simp⟩)
theorem Yv{F:Nat}{J:JW}(O:100<F)(K:NL J):f26 F J=some J:=by
 unfold f26;rw [Sf O K.l1 K.n1,Option.bind_some,Sf O K.l2 K.n2];rfl
theorem Yq{F:Nat}{l:List Int}(K:100<F)(O:l.length≤20):f32 F l l=some true:=by
 refine CW ?_;unfold f32;refine AE (S:=fun q=>q=Sum.inr ()) ?_ (by rintro q rfl;exact Ak (by simp));refine Ck l.length (fun i s=>s=(i:Int)) rfl (by omega) ?_ ?_
 ·rintro i s hi rfl;unfold M9;refine AE (S:=fun c=>c=true) (Bw (by omega) (Ak (decide_eq_true (by omega)))) ?_;rintro c rfl;refine Bw rfl (Bn (m:=i) rfl hi ?_);refine Bn (m:=i) rfl hi (A8 (by simp) ?_);exact AT ((i+1:Nat):Int) (by simp) (by omega) (by omega) (Ak rfl)
 ·rintro s rfl;unfold M9;refine AE (S:=fun c=>c=false) (A8 (by omega) (Ak rfl)) ?_;rintro c rfl;exact A8 (by simp) (Ak ⟨_,rfl,rfl⟩)
theorem Sx{F:Nat}{l:List (List Int)}(K:100<F)(U:l.length≤20)(O:∀x∈l,x.length≤20):f84 F l l=some true:=by
 refine CW ?_;unfold f84;refine AE (S:=fun q=>q=Sum.inr ()) ?_ (by rintro q rfl;exact Ak (by simp));refine Ck l.length (fun i s=>s=(i:Int)) rfl (by omega) ?_ ?_
 ·rintro i s hi rfl;unfold Nm;refine AE (S:=fun c=>c=true) (Bw (by omega) (Ak (decide_eq_true (by omega)))) ?_;rintro c rfl;refine Bw rfl (Bn (m:=i) rfl hi ?_);refine Bn (m:=i) rfl hi (AQ (Yq K (O _ (List.getElem_mem hi))) ?_);refine A8 (by simp) (AT ((i+1:Nat):Int) (by simp) (by omega) (by omega) ?_);exact Ak rfl
 ·rintro s rfl;unfold Nm;refine AE (S:=fun c=>c=false) (A8 (by omega) (Ak rfl)) ?_;rintro c rfl;exact A8 (by simp) (Ak ⟨_,rfl,rfl⟩)
theorem Zi{F:Nat}{J:JW}(O:100<F)(K:NL J):f33 F J J=some true:=by
 refine CW ?_;unfold f33;refine AQ (Sx O K.l1 K.n1) (AE (S:=fun c=>c=true) (Bw rfl (AQ (Sx O K.l2 K.n2) (Ak rfl))) ?_);rintro c rfl;exact Ak rfl
theorem VJ.nl{n:Nat}{J:JW}(K:VJ n J):NL J:=by
 have U:=K.l1;have V:=K.l2;have Y:=K.le;refine⟨by omega,by omega,fun l O=>?_,fun l O=>?_⟩
 ·obtain⟨i,hi,rfl⟩:=List.mem_iff_getElem.1 O;have:=(K.nx i _ (List.getElem?_eq_getElem hi)).1.len;omega
 ·obtain⟨i,hi,rfl⟩:=List.mem_iff_getElem.1 O;have:=(K.fl i _ (List.getElem?_eq_getElem hi)).1.len;omega
theorem SL{F:Nat}{l:List (List Int)}(Z:100<F):AY (f76 F l) (fun r=>r=false→l.length≤20∧∀x∈l,x.length≤20):=by
 unfold f76;refine AE (S:=fun q=>q=Sum.inl true∨(q=Sum.inr ()∧∀x∈l.take 20,x.length≤20)) ?_ ?_
 ·refine Ck (min l.length 20) (fun i s=>s=(i:Int)∧∀x∈l.take i,x.length≤20) ⟨rfl,by simp⟩ (by omega) ?_ ?_
  ·rintro i s hi ⟨rfl,O⟩;have U:i<l.length:=by omega
   unfold MS;refine AE (S:=fun c=>c=true) (Bw (by omega) (Ak (decide_eq_true (by omega)))) ?_;rintro c rfl;refine Bw rfl (Bn (m:=i) rfl U ?_);refine Bl (fun h=>Ak (.inl rfl)) (fun h=>?_);refine AT ((i+1:Nat):Int) (by simp) (by omega) (by omega) (Ak ⟨rfl,fun x K=>?_⟩);rw [List.take_add_one,List.getElem?_eq_getElem U] at K;simp only [Option.toList_some,List.mem_append,List.mem_singleton] at K;rcases K with K | rfl
   ·exact O x K
   ·omega
  ·rintro s ⟨rfl,O⟩;unfold MS;refine AE (S:=fun c=>c=false) (Bl (fun h=>Ak (decide_eq_false (by omega))) (fun _=>Ak rfl)) ?_;rintro c rfl;refine A8 (by simp) (Ak ⟨_,rfl,.inr ⟨rfl,fun x K=>O x ?_⟩⟩);rcases Nat.lt_or_ge l.length 20 with h | h
   ·rw [Nat.min_eq_left (by omega),List.take_length];exact List.mem_of_mem_take K
   ·rw [Nat.min_eq_right h];exact K
 ·rintro q (rfl | ⟨rfl,h⟩)
  ·exact Ak fun h=>by cases h
  ·refine Ak fun Y=>?_;have:=of_decide_eq_false Y;have V:l.length≤20:=by omega
   rw [List.take_of_length_le V] at h;exact⟨V,h⟩
theorem YI{F:Nat}{J:JW}(O:100<F):AY (f21 F J) (fun r=>r=false→NL J):=by
 unfold f21;refine AE (SL O) ?_;intro r U;refine AE (S:=fun c=>c=false→NL J) ?_ (fun c V=>Ak V);refine Bl (fun h=>Ak fun K=>(by cases K)) (fun h=>?_);obtain⟨Y,g2⟩:=U (by simpa using h);refine AE (SL O) ?_;intro q Z;refine Ak fun K=>?_;obtain⟨ag,al⟩:=Z K;exact⟨Y,ag,g2,al⟩
theorem Yp{F k:Nat}{b:Ey}{J:JW}(O:100<F)(Z:NL J)(hb:BG k b)(U:k<100):AY (f24 F J b) (fun r=>(∃n K,VJ n K∧r.1= [J,K,K])∧BG (k+301) r.2):=by
 unfold f24;refine AE (Z4 (mx:=7) O hb U (by omega) (by omega)) ?_;rintro⟨K,ag⟩ ⟨⟨n,_,V⟩,Y⟩;exact Ak ⟨⟨n,K,V,rfl⟩,Y⟩
end Pal
namespace Pal
theorem QP(F:Nat)(e:Option (Int×Int)):Ln F e=some ((e.map (·.1)).getD 0):=by
 cases e with
 | none=>
  have:=P7 F;unfold Lo at this;exact this
 | some q=>rfl
theorem T0{s n:Nat}(h:s<2 ^ n)(d:Nat):Cw s (n+d)=Cw s n:=by
 induction d with
 | zero=>rfl
 | succ d K=>
  rw [← Nat.add_assoc,N4,if_neg,K];have:s<2 ^ (n+d):=Nat.lt_of_lt_of_le h (Nat.pow_le_pow_right (by omega) (by omega));rw [Nat.testBit_lt_two_pow this];decide
def Fg(n:Nat)(lk:List (Int×Int))(i:Nat):Option Int:=
 if(lk.getD i (0,0)).1<0∨6<(lk.getD i (0,0)).1 then some 1 else if 0<i∧(lk.getD i (0,0)).1<(lk.getD (i - 1) (0,0)).1 then some 5 else if(lk.getD i (0,0)).2<0∨(n:Int) - 1<(lk.getD i (0,0)).2 then some 3 else none
def HU(n:Nat)(lk:List (Int×Int)):Option Int:=if 4<lk.length then some 6 else(List.range lk.length).findSome? (Fg n lk)
def CL(J:JW)(lk:List (Int×Int)):Int:=match CJ J with | some c=>c | none=>(HU J.1.length lk).getD 0
theorem Wp{F:Nat}{J:JW}{lk:List (Int×Int)}(am:100<F)(ap:J.1.length<100):AY (f116 F J lk) (fun e=>e.map (·.1)=HU J.1.length lk):=by
 unfold f116 HU;refine Bl (fun h=>?_) (fun h=>?_)
 ·rw [if_pos (by omega)];exact Ak rfl
 rw [if_neg (by omega)];refine AE (S:=fun q=>(∃c,q=Sum.inl (some c)∧(List.range lk.length).findSome? (Fg J.1.length lk)=some c.1)∨(q=Sum.inr ()∧(List.range lk.length).findSome? (Fg J.1.length lk)=none)) ?_ ?_
 ·refine Ck lk.length (fun i s=>s=(i:Int)∧∀q,q<i→Fg J.1.length lk q=none) ⟨rfl,fun q al=>by omega⟩ (by omega) ?_ ?_
  ·rintro i s hi ⟨rfl,K⟩;unfold Jy;have hg:lk.getD i (0,0)=lk[i]:=El hi;refine Bw (by omega) (Bn (m:=i) rfl hi ?_);refine AQ (HM F _ _ _) (Bl (fun h=>?_) (fun h=>?_))
   ·have O:=of_decide_eq_true h;exact Ak (.inl ⟨(1,(i:Int)),rfl,DV K (by unfold Fg;rw [hg,if_pos O]) hi⟩)
   have O:¬(lk[i].1<0∨6<lk[i].1):=fun x=>h (decide_eq_true x);refine AE (S:=fun c=>c=decide (0<i∧lk[i].1<(lk.getD (i - 1) (0,0)).1)) ?_ ?_
   ·refine Bl (fun U=>?_) (fun U=>?_)
    ·have ag:i - 1<lk.length:=by omega
     refine AT ((i - 1:Nat):Int) (by omega) (by omega) (by omega) (Bn (m:=i - 1) rfl ag ?_);refine Ak ?_;rw [El ag];exact decide_eq_decide.2 ⟨fun x=>⟨by omega,x⟩,fun x=>x.2⟩
    ·exact Ak (decide_eq_false (by omega)).symm
   ·rintro c rfl;refine Bl (fun U=>?_) (fun U=>?_)
    ·have V:=of_decide_eq_true U;exact Ak (.inl ⟨(5,(i:Int)),rfl,DV K (by unfold Fg;rw [hg,if_neg O,if_pos V]) hi⟩)
    have V:¬(0<i∧lk[i].1<(lk.getD (i - 1) (0,0)).1):=fun x=>U (decide_eq_true x);refine AT ((J.1.length:Int) - 1) rfl (by omega) (by omega) ?_;refine AQ (HM F _ _ _) ?_;refine Bl (fun Y=>?_) (fun Y=>?_)
    ·have Z:=of_decide_eq_true Y;exact Ak (.inl ⟨(3,(i:Int)),rfl,DV K (by unfold Fg;rw [hg,if_neg O,if_neg V,if_pos Z]) hi⟩)
    have Z:¬(lk[i].2<0∨(J.1.length:Int) - 1<lk[i].2):=fun x=>Y (decide_eq_true x);refine AT ((i+1:Nat):Int) (by simp) (by omega) (by omega) ?_;refine Ak ⟨rfl,fun q al=>?_⟩;by_cases e:q=i
    ·subst e;unfold Fg;rw [hg,if_neg O,if_neg V,if_neg Z]
    ·exact K q (by omega)
  ·rintro s ⟨rfl,K⟩;unfold Jy;exact A8 (by omega) (Ak ⟨_,rfl,.inr ⟨rfl,F0 K⟩⟩)
 ·rintro q (⟨c,rfl,h⟩ | ⟨rfl,h⟩)
  ·exact Ak h.symm
  ·exact Ak h.symm
theorem Mk{F:Nat}{J:JW}{lk:List (Int×Int)}(K:100<F)(O:NL J):Ht F J lk=some (CL J lk):=by
 have Y:=O.l1;refine CW ?_;unfold Ht CL;refine AE (Vv K O) ?_;intro e he;rw [← he];cases e with
 | some q=>
  exact Bw rfl (AQ (QP F _) (Ak rfl))
 | none=>
  refine A8 (by simp) (AE (Wp K (by omega)) ?_);intro U V;refine AQ (QP F _) (Ak ?_);show(U.map (·.1)).getD 0=(HU J.1.length lk).getD 0;rw [V]
theorem R7{F:Nat}{J:JW}{lk:List (Int×Int)}(am:100<F)(ag:NL J):f70 F J lk=some (CL J lk):=by
 have av:=ag.l1;refine CW ?_;unfold f70 CL;refine AQ (Xf am ag) ?_;cases h:CJ J with
 | some c=>exact Bw (S4 h) (Ak rfl)
 | none=>
  refine A8 (by simp) ?_;unfold HU;refine Bl (fun h=>?_) (fun h=>?_)
  ·simp only;rw [if_pos (by omega)];exact Ak rfl
  simp only;rw [if_neg (show ¬4<lk.length by omega)];refine AE (S:=fun q=>(∃c,q=Sum.inl c∧(List.range lk.length).findSome? (Fg J.1.length lk)=some c)∨(q=Sum.inr ()∧(List.range lk.length).findSome? (Fg J.1.length lk)=none)) ?_ ?_
  ·refine Ck lk.length (fun i s=>s=(i:Int)∧∀q,q<i→Fg J.1.length lk q=none) ⟨rfl,fun q ap=>by omega⟩ (by omega) ?_ ?_
   ·rintro i s hi ⟨rfl,K⟩;unfold M7;have hg:lk.getD i (0,0)=lk[i]:=El hi;refine Bw (by omega) (Bn (m:=i) rfl hi ?_);refine AQ (KF F _ _ _) (Bl (fun h=>?_) (fun h=>?_))
    ·have O:lk[i].1<0∨6<lk[i].1:=by simp at h;omega
     exact Ak (.inl ⟨1,rfl,DV K (by unfold Fg;rw [hg,if_pos O]) hi⟩)
    have O:¬(lk[i].1<0∨6<lk[i].1):=by simp at h;omega
    refine AE (S:=fun c=>c=decide (0<i∧lk[i].1<(lk.getD (i - 1) (0,0)).1)) ?_ ?_
    ·refine Bl (fun U=>?_) (fun U=>?_)
     ·have al:i - 1<lk.length:=by omega
      refine Bn (m:=i) rfl hi (AT ((i - 1:Nat):Int) (by omega) (by omega) (by omega) ?_);refine Bn (m:=i - 1) rfl al (Ak ?_);rw [El al];exact decide_eq_decide.2 ⟨fun x=>⟨by omega,x⟩,fun x=>x.2⟩
     ·exact Ak (decide_eq_false (by omega)).symm
    ·rintro c rfl;refine Bl (fun U=>?_) (fun U=>?_)
     ·have V:=of_decide_eq_true U;exact Ak (.inl ⟨5,rfl,DV K (by unfold Fg;rw [hg,if_neg O,if_pos V]) hi⟩)
     have V:¬(0<i∧lk[i].1<(lk.getD (i - 1) (0,0)).1):=fun x=>U (decide_eq_true x);refine Bn (m:=i) rfl hi ?_;refine AT ((J.1.length:Int) - 1) rfl (by omega) (by omega) ?_;refine AQ (KF F _ _ _) ?_;refine Bl (fun Y=>?_) (fun Y=>?_)
     ·have Z:lk[i].2<0∨(J.1.length:Int) - 1<lk[i].2:=by simp at Y;omega
      exact Ak (.inl ⟨3,rfl,DV K (by unfold Fg;rw [hg,if_neg O,if_neg V,if_pos Z]) hi⟩)
     have Z:¬(lk[i].2<0∨(J.1.length:Int) - 1<lk[i].2):=by simp at Y;omega
     refine AT ((i+1:Nat):Int) (by simp) (by omega) (by omega) (Ak ⟨rfl,fun q ap=>?_⟩);by_cases e:q=i
     ·subst e;unfold Fg;rw [hg,if_neg O,if_neg V,if_neg Z]
     ·exact K q (by omega)
   ·rintro s ⟨rfl,K⟩;unfold M7;exact A8 (by omega) (Ak ⟨_,rfl,.inr ⟨rfl,F0 K⟩⟩)
  ·rintro q (⟨c,rfl,h⟩ | ⟨rfl,h⟩)
   ·rw [h];exact Ak rfl
   ·rw [h];exact Ak rfl
theorem YV{F:Nat}{lk:List (Int×Int)}(K:100<F)(O:lk.length≤20):f34 F lk lk=some true:=by
 refine CW ?_;unfold f34;refine AE (S:=fun q=>q=Sum.inr ()) ?_ (by rintro q rfl;exact Ak (by simp));refine Ck lk.length (fun i s=>s=(i:Int)) rfl (by omega) ?_ ?_
 ·rintro i s hi rfl;unfold MP;refine AE (S:=fun c=>c=true) (Bw (by omega) (Ak (decide_eq_true (by omega)))) ?_;rintro c rfl;refine Bw rfl (Bn (m:=i) rfl hi ?_);refine Bn (m:=i) rfl hi (A8 (by simp) ?_);exact AT ((i+1:Nat):Int) (by simp) (by omega) (by omega) (Ak rfl)
 ·rintro s rfl;unfold MP;refine AE (S:=fun c=>c=false) (A8 (by omega) (Ak rfl)) ?_;rintro c rfl;exact A8 (by simp) (Ak ⟨_,rfl,rfl⟩)
theorem Zo{F:Nat}{lk:List (Int×Int)}(K:lk.length<1000):f27 F lk=some lk:=by
 unfold f27 Dd;rw [if_pos (by simp;omega)]
 rfl
end Pal
namespace Pal
open Go Go.Conc
theorem OK{P:Program}{J:Judge P}{Q:Goroutine→St→Prop}{b:Frame}{n:Nat}{ds:List Deferred}{ops:Array Oper}{k:List Item}{cs:List Frame}{m fuel:Nat}{D:Nat→Bool}{listed:Array Bool}{L L':Env}{s:St}(k':AX J Q b n ds ops k cs m D fuel listed L' s)(h:G2 L L'=G3 L'):AX J Q b n ds ops k cs m D fuel listed L s:=CZ (M5 h) k'
def HA{α:Type}(p:Rp α):Rp (List α):=⟨1,fun E ws xs=>(xs= []∧ws= [.slice none 0 0])∨(xs≠ []∧(rL p).r E ws xs),
 fun hle h=>h.imp id fun h=>⟨h.1,(rL p).Ah hle h.2⟩,fun h=>by
  rcases h with⟨_,rfl⟩ | ⟨_,h⟩
  ·rfl
  ·exact(rL p).len h,fun h w hw=>by
  rcases h with⟨_,rfl⟩ | ⟨_,h⟩
  ·simp at hw;subst hw;rfl
  ·exact(rL p).one h w hw⟩
theorem SP{α:Type}{p:Rp α}{E:LH}{ws:List Value}{xs:List α}(h:(HA p).r E ws xs):(rL p).r E ws xs:=by
 rcases h with⟨rfl,rfl⟩ | ⟨_,h⟩
 ·exact⟨none,0,rfl,Al.nil⟩
 ·exact h
theorem Al.aW{α:Type}{p:Rp α}{E:LH}{a:Option Addr}{c:Nat}{xs:List (List α)}(h:Al (HA p) E a c xs):Al (rL p) E a c xs:=by
 obtain⟨K,h⟩:=h;refine⟨K,h.imp id ?_⟩;rintro⟨bk,off,O,U⟩;refine⟨bk,off,O,fun i x V=>?_⟩;obtain⟨ws,Y,Z⟩:=U i x V;exact⟨ws,SP Y,Z⟩
def Lu{α:Type}(xs:List α):Option Unit:=if xs= [] then some () else none
def NO{α:Type}(xs:List α):Option Unit:=if xs= [] then none else some ()
theorem UE{α:Type}{xs:List α}{u:Unit}(h:Lu xs=some u):xs= []:=by
 unfold Lu at h;split at h
 ·assumption
 ·cases h
theorem VU{α:Type}{xs:List α}{u:Unit}(h:NO xs=some u):xs≠ []:=by
 unfold NO at h;split at h
 ·cases h
 ·assumption
instance {α:Type} [DecidableEq α] (xs:List α):Decidable (xs= []):=inferInstance
theorem UK{f:Array Value}{y:Nat}{v w:Value}(h:y<f.size):A0 (A0 f y [v]) (y*1) [w]=A0 f y [w]:=by
 simp [A0]
theorem XQ{f:Array Value}{y:Nat}{v:Value}(h:y<f.size):(A0 f y [v])[y*1]? =some v:=by
 simp [A0,h]
theorem XZ{f:Array Value}{y z:Nat}{v:Value}(h:z≠y):(A0 f y [v])[z]? =f[z]? :=by
 simp only [A0];exact Array.getElem?_setIfInBounds_ne (by omega)
theorem OL.hole{α:Type}{e:TypeId}{pp:Rp α}{E:LH}{a:Option Addr}{c:Nat}{g:Seg}{xs:List (List α)}{m:Int}{x:List α}{u:Unit}(h:OL e (HA pp) E a c g xs)(hm:ix xs m=some x)(Y:Lu x=some u):
  ∃bk f,a=some ⟨bk,0,none⟩∧g= [(bk,.cells (A0 f m.toNat [.slice none 0 0]) e (0,0))]∧m.toNat<f.size∧OL e (HA pp) E (some ⟨bk,0,none⟩) c [(bk,.cells f e (0,0))] xs∧
   ∀E' x' v,Le E E'→x'≠ []→(rL pp).r E' [v] x'→OL e (HA pp) E' (some ⟨bk,0,none⟩) c [(bk,.cells (A0 f m.toNat [v]) e (0,0))] (xs.set m.toNat x'):=by
 have Z:=UE Y;subst Z;obtain⟨K,rfl,ag⟩:=Gx hm;obtain⟨bk,f,ws,rfl,rfl,al,O,am,_⟩:=OL.get h ag;have U:(HA pp).n=1:=rfl;rw [U] at O am;have ap:ws= [.slice none 0 0]:=by
  rcases al with⟨_,h⟩ | ⟨h,_⟩
  ·exact h
  ·exact absurd rfl h
 subst ap;have av:f[K]? =some (.slice none 0 0):=by have:=O 0 _ rfl;simpa using this
 have aY:A0 f K [.slice none 0 0]=f:=by
  simp only [A0];apply Array.ext_getElem?;intro j;by_cases V:K=j
  ·subst V;rw [Array.getElem?_setIfInBounds_self_of_lt (by omega),av]
  ·rw [Array.getElem?_setIfInBounds_ne V]
 refine⟨bk,f,rfl,?_,by simp;omega,h,fun E' x' v hle aZ a0=>?_⟩
 ·rw [show((K:Int)).toNat=K by omega,aY]
 ·obtain⟨a2,_,_,_,a1⟩:=OL.again (h.Ah hle) hm (o:=K*1) (by simp [U]);have:=a1 x' [v] (.inr ⟨aZ,a0⟩);simpa using this
theorem OL.beside{α:Type}{e:TypeId}{pp:Rp α}{E:LH}{bk c:Nat}{f:Array Value}{xs:List (List α)}{m z:Int}{x:List α}(h:OL e (HA pp) E (some ⟨bk,0,none⟩) c [(bk,.cells f e (0,0))] xs){Y:List α}(hm:ix xs m=some Y)(K:As (m+1)=some z)(Z:ix xs z=some x):
  ∃O U,Al pp E O U x∧∀(v:Value) (q:Nat) w,[Value.slice O x.length U][q]? =some w→(A0 f m.toNat [v])[z.toNat*1+q]? =some w:=by
 obtain⟨ws,ag,al,_,_⟩:=OL.again h Z rfl;obtain⟨O,U,rfl,am⟩:=SP ag;refine⟨O,U,am,fun v q w V=>?_⟩;obtain⟨ap,rfl,_⟩:=Gx hm;have av:z=(ap:Int)+1:=by
  unfold As at K;split at K
  ·exact(Option.some.inj K).symm
  ·cases K
 cases q with
 | zero=>
  rw [XZ (by omega)];exact al 0 w V
 | succ q=>simp at V
section
variable {P:Program}{J:Judge P}{Q:Goroutine→St→Prop}{b:Frame}{n:Nat}{L L':Env}{ds:List Deferred}{k:List Item}{cs:List Frame}{s:St}{ops:Array Oper}{E H:LH}{S:List Seg}{i:Nat}{rest:List Nat}
variable {d:Option Tmp}{x y:Operand}{t u ty e:TypeId}{p:String}{af:Array Edge}{g:Option (Nat×Bool)}{v w:Value}
theorem ZS{bk o:Nat}{f:Array Value}(j:Nat)(O:o<f.size)(U:Aw E H S)(V:BE P t=some 1)(Y:Ez b n L ops i=some ⟨d,.store t x y,ty,p,af,g⟩)
  (Z:ev L x=some (.pointer (some ⟨bk,o*1,none⟩))) (ag:ev L y=some v) (al:S[j]? =some [(bk,.cells (A0 f o [w]) e (0,0))]) (K:v.cells= #[v]) (am:CI v=true)
  (h:Aw E H (S.set j [(bk,.cells (A0 f o [v]) e (0,0))])→JL J Q b n (AF L d undef) ds (.inRegion ops rest::k) cs (Ao E H (S.set j [(bk,.cells (A0 f o [v]) e (0,0))]))):
  JL J Q b n L ds (.inRegion ops (i::rest)::k) cs (Ao E H S):=by
 have ap:A0 (A0 f o [w]) (o*1) v.cells.toList=A0 f o [v]:=by rw [K];exact UK O
 refine Pe j U (by rw [K];exact V) Y Z ag al (by rw [ap];exact h) (by rw [K,Mc];simp;omega) (by rw [K];simpa using am)
end
section
variable {P:Program}{J:Judge P}{Q:Goroutine→St→Prop}{b:Frame}{n:Nat}{ds:List Deferred}{ops:Array Oper}{k:List Item}{cs:List Frame}{m fuel:Nat}{listed:Array Bool}{L:Env}{E H:LH}{S:List Seg}
variable {d:Option Tmp}{x y:Operand}{t ty e:TypeId}{p:String}{af:Array Edge}{g:Option (Nat×Bool)}{v:Value}{i:Nat}
end
end Pal
namespace Pal
open Go Go.Conc Go.Proofs
open Go.Proofs.Tryz
variable {J:Judge Tryz.prog}{E:LH}
def La(fuel:Nat)(p0:A2)(U:(List (List (List Int)))×Int)(V:(List (List Int))×Int)(Y:Int)(O:(List Int)×Int)(K:(List Int)×Int):Option (Bi ((List Int)×Int) ((List Int))):= (ix p0.1 V.2).bind fun Z=> if K.2<(Z.length:Int) then((ix K.1 O.2).bind fun ag=> (As (U.2+1)).bind fun al=> (ix U.1 al).bind fun am=> (ix p0.1 V.2).bind fun ap=> (ix ap K.2).bind fun av=> (ix am av).bind fun aY=> (As (O.2 - Y)).bind fun aZ=> (ix aY aZ).bind fun a0=> (As (ag+a0)).bind fun a1=> (ix K.1 O.2).bind fun a3=> (As (K.2+1)).bind fun a2=> some (.more ((K.1.set (Int.toNat O.2) a1),a2))) else(some (.done K.1))
def JK(fuel:Nat)(p0:A2)(p1:AI)(V:Int)(O:(List (List (List Int)))×Int)(Y:(List (List Int))×Int)(U:Int)(K:(List Int)×Int):Option (Bi ((List Int)×Int) ((List Int))):= if K.2≤(p1.length:Int) then(Option.bind (if O.2=V then(Option.bind (if K.2=U then((ix K.1 K.2).bind fun ap=> some (K.1.set (Int.toNat K.2) 1)) else(some K.1)) fun Z=> some Z) else(Option.bind (iter (La fuel p0 O Y U K) fuel (K.1,0)) fun ag=> some ag)) fun al=> (As (K.2+1)).bind fun am=> some (.more (al,am))) else(some (.done K.1))
def M3(fuel:Nat)(p0:A2)(p1:AI)(p2:Int)(V:Int)(O:(List (List (List Int)))×Int)(K:(List (List Int))×Int):Option (Bi ((List (List Int))×Int) ((List (List Int)))):= if K.2<(p0.1.length:Int) then((As ((p1.length:Int)+1)).bind fun Y=> (F5 Y (0:Int)).bind fun Z=> (f118 fuel p0 p1 p2 O.2 K.2).bind fun U=> Option.bind (iter (JK fuel p0 p1 V O K U) fuel (Z,U)) fun ag=> (room K.1 ag).bind fun al=> (As (K.2+1)).bind fun am=> some (.more (al,am))) else(some (.done K.1))
def ON(fuel:Nat)(p0:A2)(p1:AI)(p2:Int)(U:Int)(K:(List (List (List Int)))×Int):Option (Bi ((List (List (List Int)))×Int) ((List (List (List Int))))):= if 0≤K.2 then((ix K.1 K.2).bind fun V=> (Lu V).bind fun Z=> Option.bind (iter (M3 fuel p0 p1 p2 U K) fuel ([],0)) fun O=> (NO O).bind fun ag=> (As (K.2 - 1)).bind fun Y=> some (.more ((K.1.set (Int.toNat K.2) O),Y))) else(some (.done K.1))
def f80(fuel:Nat)(p0:A2)(p1:AI)(p2:Int):Option ((List (List (List Int)))):= (f117 fuel p1).bind fun K=> (As (K+1)).bind fun O=> (F5 O ([]:List (List Int))).bind fun U=> Option.bind (iter (ON fuel p0 p1 p2 K) fuel (U,K)) fun V=> some V
theorem aK{bn:An}{c2:Nat}{cd:An}{ce:Nat}{Z:An}{ag:Nat}{p0:A2}{p1:AI}{p2:Int}(bQ:Al (rL rI) E bn c2 p0.1)(cT:Al (rL rI) E cd ce p0.2)(cf:Al Bo E Z ag p1){fuel:Nat}{r:(List (List (List Int)))}(cg:f80 fuel p0 p1 p2=some r):AK J 80 [.agg #[sV bn p0.1 c2,sV cd p0.2 ce],sV Z p1 ag,iV p2] E [] (fun w E' B'=>∃(ci:An) (ck:Nat),w= sV ci r ck∧B'= []∧Al (rL (rL rI)) E' ci ck r):=by
 refine A3 func80 fun Q gq cs H cV cW=>?_;unfold f80 at cg;refine zg 2 rfl (B4 cV fun al gr bd bo cX=>?_);obtain⟨am,cY,cZ⟩:=bs cg;refine zg 5 rfl (BC (ZV (cf.Ah bd) cY) rfl rfl (AS func117 rfl) cX fun bR a2 c0=>?_);obtain⟨gt,c1,c3⟩:=bs cZ;refine zg 5 rfl (Bc c1 rfl rfl rfl ?_);obtain⟨c4,c5,c6⟩:=bs c3;refine JS.make (pp:=(HA (rL rI))) c5 rfl rfl rfl rfl rfl underlying105 BQ (CR type22) (by decide) (Du type22) (by decide) (.inl ⟨rfl,rfl⟩) c0 fun c7 c8 c9 da=>?_;obtain⟨cm,db,dc⟩:=bs c6;refine zg 8 rfl (Br (fun L s=>∃(bS:LH) (bp:An) (bq:Nat) (bT:Seg),Jn bR H bS [bT] [(8,sV bp cm bq)] L s (OL 22 (HA (rL rI)) bS bp bq bT cm)) ?_ ?_)
 ·rintro _ _ ⟨bS,bp,bq,bT,rfl,rfl,dd,de,df⟩;refine zg 5 rfl (B7 0 df de rfl fun gu dg bU dh=>?_);replace bU:=Al.aW bU;obtain rfl:=oi dc;exact AA func80 rfl rfl (cW (((bd.Ab a2).Ab dd).Ab dg) rfl ⟨bp,bq,rfl,rfl,bU⟩ dh)
 ·intro di;refine JL.block (CN db (fun L s K=>∃(be:LH) (br:An) (Y:Nat) (bu:Seg),Jn bR H be [bu] [(1,sV Z p1 ag),(2,iV p2),(3,pV al 0),(7,iV am),(8,sV br K.1 Y),(9,iV K.2)] L s (OL 22 (HA (rL rI)) be br Y bu K.1)) ⟨bR,(AZ c7),c4.length,c8,rfl,rfl,Ar,da,c9⟩ ?_);rintro _ _ K ⟨be,br,Y,bu,rfl,rfl,a0,cn,co⟩ dj ⟨gv,bV⟩ dk;have cp:=bV;unfold ON at cp;refine zg 6 rfl (AL cp (fun dl dm=>?_) (fun dl dn=>?_))
  ·obtain⟨gw,bv,dp⟩:=bs dm;obtain⟨gx,dq,dr⟩:=bs dp;refine zg 7 rfl ?_;obtain⟨U,a7,rfl,rfl,cq,dt,du⟩:=OL.hole co bv dq;obtain⟨ba,dv,dw⟩:=bs dr;refine Br (fun L s=>∃(bW:LH) (bj:An) (bl:Nat) (bY:Seg),Jn be H bW [bX U (A0 a7 (Int.toNat K.2) [sV bj ba bl]) 22,bY] [(1,sV Z p1 ag),(2,iV p2),(3,pV al 0),(7,iV am),(8,.slice (AZ U) K.1.length Y),(9,iV K.2)] L s (OL 28 (rL rI) bW bj bl bY ba)) ?_ ?_
   ·rintro _ _ ⟨bW,bj,bl,bY,rfl,rfl,cr,dx,dy⟩;obtain⟨gy,dz,dA⟩:=bs dw;refine L9 (B7 1 dy dx rfl fun dB ct dC dD=>?_);have dE:=du _ ba (sV bj ba bl) (cr.Ab ct) (VU dz) ⟨_,_,rfl,dC⟩;have dF:(K.1.set (Int.toNat K.2) ba).length=K.1.length:=List.length_set;refine Gf (L':= [(1,.slice Z p1.length ag),(2,iV p2),(3,pV al 0),(7,iV am),(8,.slice (AZ U) ((K.1.set (Int.toNat K.2) ba)).length Y),(9,iV K.2)]) ⟨rfl,rfl,rfl,rfl,by rw [dF];rfl,rfl,trivial⟩ ?_;obtain⟨dG,dH,dI⟩:=bs dA;refine zg 2 rfl (Cd dH rfl rfl rfl ?_);refine zg 2 rfl ?_;obtain rfl:=oi dI;exact Az (dk _ _ ((K.1.set (Int.toNat K.2) ba),dG) ⟨dB,(AZ U),Y,[(U,.cells (A0 a7 (Int.toNat K.2) [sV bj ba bl]) 22 (0,0))],rfl,rfl,((a0.Ab cr).Ab ct),dD,dE⟩ bV) rfl
   ·intro dJ;refine JL.block (CN dv (fun L s V=>∃(bw:LH) (av:An) (aY:Nat) (a3:Seg),Jn be H bw [bX U (A0 a7 (Int.toNat K.2) [sV av V.1 aY]) 22,a3] [(1,sV Z p1 ag),(2,iV p2),(3,pV al 0),(7,iV am),(8,.slice (AZ U) K.1.length Y),(9,iV K.2),(10,iV V.2)] L s (OL 28 (rL rI) bw av aY a3 V.1)) ⟨be,none,0,[],rfl,rfl,Ar,cn,OL.nil⟩ ?_);rintro _ _ V ⟨bw,av,aY,a3,rfl,rfl,aZ,cu,cv⟩ dK ⟨gz,bZ⟩ dL;have cw:=bZ;unfold M3 at cw;refine zg 4 rfl (JL.fl 0 (bo.Ah ((a2.Ab a0).Ab aZ)) underlying24 BQ Cr ?_);refine Bg underlying22 rfl rfl rfl (zg 2 rfl ?_);refine AL cw (fun dM dN=>?_) (fun dM dO=>?_)
    ·refine zg 6 rfl (Bg underlying25 rfl rfl rfl ?_);obtain⟨gA,dP,dQ⟩:=bs dN;refine Bc dP rfl rfl rfl ?_;obtain⟨dR,dS,dT⟩:=bs dQ;refine JS.make (pp:=rI) dS rfl rfl rfl rfl rfl underlying28 AW (CR type3) (by decide) CM (by decide) rfl cu fun dU dV dW dX=>zg 4 rfl (BO (bo.Ah ((a2.Ab a0).Ab aZ)) BW BD rfl rfl ?_);obtain⟨a4,dY,dZ⟩:=bs dT;refine zg 4 rfl (BC (Yo (bQ.Ah (((bd.Ab a2).Ab a0).Ab aZ)) (cT.Ah (((bd.Ab a2).Ab a0).Ab aZ)) (cf.Ah (((bd.Ab a2).Ab a0).Ab aZ)) dY) rfl rfl (AS func118 rfl) dX fun b0 bb ea=>?_);obtain⟨b1,eb,ec⟩:=bs dZ;refine zg 8 rfl (Br (fun L s=>∃(b2:LH) (bx:An) (bz:Nat) (b3:Seg),Jn b0 H b2 [bX U (A0 a7 (Int.toNat K.2) [sV av V.1 aY]) 22,a3,b3] [(1,sV Z p1 ag),(2,iV p2),(3,pV al 0),(7,iV am),(8,.slice (AZ U) K.1.length Y),(9,iV K.2),(10,iV V.2),(11,sV bx b1 bz)] L s (OL 3 rI b2 bx bz b3 b1)) ?_ ?_)
     ·rintro _ _ ⟨b2,bx,bz,b3,rfl,rfl,cy,cz,ed⟩;refine zg 5 rfl (AD (v:= .pointer (some ⟨U,Int.toNat (K.2)*1,none⟩)) rfl (fun ρ h=>Jo bv underlying105 BQ (h _ _ rfl) (h _ _ rfl)) ?_);refine AD (v:= sV av V.1 aY) rfl (fun ρ h=>Yl.load Cr (h _ _ rfl) (DU (j:=0) cz rfl (XQ cq))) (zg 1 rfl ?_);refine B7 2 ed cz rfl fun ee cA ef eg=>?_;obtain⟨eh,ei,ej⟩:=bs ec;refine JS.app (pp:=(rL rI)) (v:= sV bx b1 bz) (a:=av) (c:=aY) 1 ei rfl rfl rfl rfl (fun _=>rfl) rfl (fun _=>rfl) rfl rfl rfl underlying22 underlying22 underlying22 BX (CR type28) Fo rfl (by decide) (by decide) (by decide) (by decide) (cv.Ah ((bb.Ab cy).Ab cA)) ⟨_,_,rfl,ef⟩ eg rfl fun gB ek el em en eo=>AD (v:= .pointer (some ⟨U,Int.toNat (K.2)*1,none⟩)) rfl (fun ρ h=>Jo bv underlying105 BQ (h _ _ rfl) (h _ _ rfl)) (ZS 0 cq eo BQ rfl rfl rfl rfl rfl rfl fun ep=>?_);obtain⟨eq,er,et⟩:=bs ej;refine zg 4 rfl (Bc er rfl rfl rfl ?_);refine zg 2 rfl ?_;obtain rfl:=oi et;exact Az (dL _ _ (eh,eq) ⟨ee,ek,el,em,rfl,rfl,(((aZ.Ab bb).Ab cy).Ab cA),ep,en⟩ bZ) rfl
     ·intro eu;refine JL.block (CN eb (fun L s O=>∃(a1:LH) (a8:An) (a9:Nat) (bi:Seg),Jn b0 H a1 [bX U (A0 a7 (Int.toNat K.2) [sV av V.1 aY]) 22,a3,bi] [(1,sV Z p1 ag),(2,iV p2),(3,pV al 0),(7,iV am),(8,.slice (AZ U) K.1.length Y),(9,iV K.2),(10,iV V.2),(11,sV a8 O.1 a9),(12,iV a4),(13,iV O.2)] L s (OL 3 rI a1 a8 a9 bi O.1)) ⟨b0,(AZ dU),dR.length,dV,rfl,rfl,Ar,ea,(dW.Ah bb)⟩ ?_);rintro _ _ O ⟨a1,a8,a9,bi,rfl,rfl,bf,bA,bB⟩ ew ⟨gC,b4⟩ ex;have cB:=b4;unfold JK at cB;refine zg 5 rfl (Bg underlying25 rfl rfl rfl ?_);refine zg 2 rfl (AL cB (fun ey ez=>?_) (fun ey eA=>?_))
      ·obtain⟨b5,eB,eC⟩:=bs ez;refine zg 2 rfl (Br (fun L s=>∃(bC:LH) (bD:An) (bE:Nat) (bF:Seg),Jn a1 H bC [bX U (A0 a7 (Int.toNat K.2) [sV av V.1 aY]) 22,a3,bF] [(1,sV Z p1 ag),(2,iV p2),(3,pV al 0),(7,iV am),(8,.slice (AZ U) K.1.length Y),(9,iV K.2),(10,iV V.2),(11,sV bD b5 bE),(12,iV a4),(13,iV O.2)] L s (OL 3 rI bC bD bE bF b5)) ?_ ?_)
       ·rintro _ _ ⟨bC,bD,bE,bF,rfl,rfl,eD,eE,eF⟩;obtain⟨eG,eH,eI⟩:=bs eC;refine zg 2 rfl (Bc eH rfl rfl rfl ?_);refine zg 2 rfl ?_;obtain rfl:=oi eI;exact Az (ex _ _ (b5,eG) ⟨bC,bD,bE,bF,rfl,rfl,(bf.Ab eD),eE,eF⟩ b4) rfl
       ·intro cC;refine zg 8 rfl (AL eB (fun eJ eK=>?_) (fun eJ eL=>?_))
        ·obtain⟨cD,eM,eN⟩:=bs eK;refine zg 7 rfl (Br (fun L s=>∃(bG:LH) (bH:An) (bI:Nat) (bJ:Seg),Jn a1 H bG [bX U (A0 a7 (Int.toNat K.2) [sV av V.1 aY]) 22,a3,bJ] [(1,sV Z p1 ag),(2,iV p2),(3,pV al 0),(7,iV am),(8,.slice (AZ U) K.1.length Y),(9,iV K.2),(10,iV V.2),(11,sV bH cD bI),(12,iV a4),(13,iV O.2)] L s (OL 3 rI bG bH bI bJ cD)) ?_ ?_)
         ·rintro _ _ ⟨bG,bH,bI,bJ,rfl,rfl,eO,eP,eQ⟩;refine JL.exit rfl ?_;obtain rfl:=oi eN;exact Az (cC _ _ ⟨bG,bH,bI,bJ,rfl,rfl,eO,eP,eQ⟩) rfl
         ·intro cE;refine AL eM (fun eR eS=>?_) (fun eR eT=>?_)
          ·obtain⟨gD,eU,eV⟩:=bs eS;refine zg 3 rfl (IZ 2 bB eU rfl rfl rfl rfl rfl rfl underlying28 AW ?_);rintro cF b6 f241 _ eW rfl gE eX eY gF gG;refine JS.store (v:=iV 1) (off:=b6) 2 rfl rfl rfl bA rfl rfl AW (by simp [Value.cells,CI]) eW (by have:=eX;simp only [Rp.n,rK,rN,rB,rP,rL] at this;show _+1≤_;omega) fun eZ=>?_;have e0:=eY (1) [iV 1] rfl;have cG:(O.1.set (Int.toNat O.2) 1).length=O.1.length:=List.length_set;refine Gf (L':= [(1,.slice Z p1.length ag),(2,iV p2),(3,pV al 0),(7,iV am),(8,.slice (AZ U) K.1.length Y),(9,iV K.2),(10,iV V.2),(11,.slice a8 ((O.1.set (Int.toNat O.2) 1)).length a9),(12,iV a4),(13,iV O.2),(43,iV O.2),(44,.slice Z p1.length ag),(45,iV (p1.length:Int)),(46,.bool (decide (O.2≤(p1.length:Int)))),(49,iV K.2),(50,iV am),(51,.bool (decide (K.2=am))),(52,iV O.2),(53,iV a4),(54,.bool (decide (O.2=a4))),(55,.slice a8 ((O.1.set (Int.toNat O.2) 1)).length a9),(56,iV O.2),(57,pV cF b6)]) ⟨rfl,rfl,rfl,rfl,rfl,rfl,rfl,by rw [cG];rfl,rfl,rfl,rfl,rfl,rfl,rfl,rfl,rfl,rfl,rfl,rfl,rfl,by rw [cG];rfl,rfl,rfl,trivial⟩ ?_;refine JL.done ?_;obtain rfl:=oi eV;exact Az (cE _ _ ⟨a1,a8,a9,[(cF,.cells (A0 f241 b6 [iV 1]) 3 (0,0))],rfl,rfl,Ar,eZ,e0⟩) rfl
          ·refine JL.skip ?_;obtain rfl:=oi eT;exact Az (cE _ _ ⟨a1,a8,a9,bi,rfl,rfl,Ar,bA,bB⟩) rfl
        ·obtain⟨cH,e1,e2⟩:=bs eL;refine zg 5 rfl (Br (fun L s=>∃(bK:LH) (bL:An) (bM:Nat) (bN:Seg),Jn a1 H bK [bX U (A0 a7 (Int.toNat K.2) [sV av V.1 aY]) 22,a3,bN] [(1,sV Z p1 ag),(2,iV p2),(3,pV al 0),(7,iV am),(8,.slice (AZ U) K.1.length Y),(9,iV K.2),(10,iV V.2),(11,sV bL cH bM),(12,iV a4),(13,iV O.2)] L s (OL 3 rI bK bL bM bN cH)) ?_ ?_)
         ·rintro _ _ ⟨bK,bL,bM,bN,rfl,rfl,e3,e4,e5⟩;refine L9 ?_;obtain rfl:=oi e2;exact Az (cC _ _ ⟨bK,bL,bM,bN,rfl,rfl,e3,e4,e5⟩) rfl
         ·intro e6;refine JL.block (CN e1 (fun L s ap=>∃(bm:LH) (bO:An) (bc:Nat) (bP:Seg),Jn a1 H bm [bX U (A0 a7 (Int.toNat K.2) [sV av V.1 aY]) 22,a3,bP] [(1,sV Z p1 ag),(2,iV p2),(3,pV al 0),(7,iV am),(8,.slice (AZ U) K.1.length Y),(9,iV K.2),(10,iV V.2),(11,sV bO ap.1 bc),(12,iV a4),(13,iV O.2),(14,iV ap.2)] L s (OL 3 rI bm bO bc bP ap.1)) ⟨a1,a8,a9,bi,rfl,rfl,Ar,bA,bB⟩ ?_);rintro _ _ ap ⟨bm,bO,bc,bP,rfl,rfl,bg,a5,b7⟩ e7 ⟨gH,b8⟩ e8;have cI:=b8;unfold La at cI;refine zg 4 rfl (JL.fl 0 (bo.Ah (((((a2.Ab a0).Ab aZ).Ab bb).Ab bf).Ab bg)) underlying24 BQ Cr ?_);obtain⟨b9,e9,fa⟩:=bs cI;refine zg 1 rfl (Ce (bQ.Ah ((((((bd.Ab a2).Ab a0).Ab aZ).Ab bb).Ab bf).Ab bg)) e9 underlying22 BX ?_);rintro fb fc _ ⟨fd,fe,rfl,gI⟩ ff;refine BY 0 ff CQ rfl rfl rfl (Bg underlying28 rfl rfl rfl ?_);refine zg 2 rfl (AL fa (fun fg fh=>?_) (fun fg fj=>?_))
          ·obtain⟨cJ,cK,fk⟩:=bs fh;refine zg 3 rfl ?_;obtain⟨bh,gJ,_,rfl,rfl,rfl,fm⟩:=OL.Tq b7 cK;obtain⟨ca,cM,fo⟩:=bs fk;obtain⟨cN,cO,fp⟩:=bs fo;obtain⟨cP,cQ,fq,fs⟩:=OL.beside (dt.Ah (((aZ.Ab bb).Ab bf).Ab bg)) bv cM cO;refine Dh 27 [bh,U] ⟨⟨2,_,rfl⟩,⟨0,_,rfl⟩,trivial⟩ a5 fun ht=>A4 ht rfl [0,1,2,3] rfl (BB (v:= .pointer (some ⟨bh,(Int.toNat (O.2)*1),none⟩)) 4 ht rfl rfl (fun ρ h s' hs=>Jo cK underlying28 AW (h _ _ rfl) (h _ _ rfl)) ?_);refine BB (v:=iV cJ) 5 ht rfl rfl (fun ρ h s' hs=>Yl.load Bv (h _ _ rfl) (Io 2 a5 rfl (by simp [A5]) hs (fm 0 _ rfl))) (A4 ht rfl [6,7] rfl ?_);refine BB 8 ht rfl rfl (fun ρ h s' hs=>MG (h _ _ rfl) (h _ _ rfl) cM) (BB (v:= .pointer (some ⟨U,(Int.toNat (ca)*1),none⟩)) 9 ht rfl rfl (fun ρ h s' hs=>Jo cO underlying105 BQ (h _ _ rfl) (h _ _ rfl)) ?_);refine BB (v:= sV cP cN cQ) 10 ht rfl rfl (fun ρ h s' hs=>Yl.load Cr (h _ _ rfl) (Io 0 a5 rfl (by simp [A5]) hs ((fs (sV av V.1 aY)) 0 _ rfl))) (B8 11 ht underlying24 BQ rfl rfl rfl rfl ?_);refine JG.lp 12 ht 0 (bo.Ah (((((a2.Ab a0).Ab aZ).Ab bb).Ab bf).Ab bg)) a5 ⟨⟨2,_,rfl⟩,⟨0,_,rfl⟩,trivial⟩ Cr ?_;refine Cj 13 ht rfl rfl ?_;obtain⟨fu,fv,fw⟩:=bs fp;refine Cy 14 (bQ.Ah ((((((bd.Ab a2).Ab a0).Ab aZ).Ab bb).Ab bf).Ab bg)) fv ht underlying22 BX ?_;rintro fx fy _ ⟨fz,fA,rfl,fB⟩ fC;refine JG.lp 15 ht 0 fC a5 ⟨⟨2,_,rfl⟩,⟨0,_,rfl⟩,trivial⟩ CQ ?_;refine Cj 16 ht rfl rfl ?_;obtain⟨fD,fE,fF⟩:=bs fw;refine Cy 17 fB fE ht underlying28 AW ?_;rintro fG fH _ rfl fI;refine JG.lp 18 ht 0 fI a5 ⟨⟨2,_,rfl⟩,⟨0,_,rfl⟩,trivial⟩ Bv ?_;obtain⟨fJ,fK,fL⟩:=bs fF;refine Cy 19 fq fK ht underlying22 BX ?_;rintro fM fN _ ⟨fO,fP,rfl,fQ⟩ fR;refine JG.lp 20 ht 0 fR a5 ⟨⟨2,_,rfl⟩,⟨0,_,rfl⟩,trivial⟩ CQ ?_;refine A4 ht rfl [21,22] rfl ?_;obtain⟨fS,fT,fU⟩:=bs fL;refine BB 23 ht rfl rfl (fun ρ h s' hs=>Db (h _ _ rfl) (h _ _ rfl) fT) ?_;obtain⟨fW,fX,fY⟩:=bs fU;refine Cy 24 fQ fX ht underlying28 AW ?_;rintro fZ ga _ rfl gb;refine JG.lp 25 ht 0 gb a5 ⟨⟨2,_,rfl⟩,⟨0,_,rfl⟩,trivial⟩ Bv ?_;obtain⟨a6,gc,gd⟩:=bs fY;refine BB 26 ht rfl rfl (fun ρ h s' hs=>MG (h _ _ rfl) (h _ _ rfl) gc) (Ci [27,28] ?_);obtain⟨gK,ge,gf⟩:=bs gd;refine IZ 2 b7 ge rfl rfl rfl rfl rfl rfl underlying28 AW ?_;rintro cR cb gg _ gh rfl gL gi gj gM gN;refine JS.store (v:=iV a6) (off:=cb) 2 rfl rfl rfl a5 rfl rfl AW (by simp [Value.cells,CI]) gh (by have:=gi;simp only [Rp.n,rK,rN,rB,rP,rL] at this;show _+1≤_;omega) fun gk=>?_;have gl:=gj a6 [iV a6] rfl;have cc:(ap.1.set (Int.toNat O.2) a6).length=ap.1.length:=List.length_set;refine Gf (L':= [(1,.slice Z p1.length ag),(2,iV p2),(3,pV al 0),(7,iV am),(8,.slice (AZ U) K.1.length Y),(9,iV K.2),(10,iV V.2),(11,.slice (AZ bh) ((ap.1.set (Int.toNat O.2) a6)).length bc),(12,iV a4),(13,iV O.2),(14,iV ap.2),(58,iV ap.2),(59,pV al 0),(60,.slice bn p0.1.length c2),(61,iV V.2),(62,pV fb fc),(63,.slice fd b9.length fe),(64,iV (b9.length:Int)),(65,.bool (decide (ap.2<(b9.length:Int)))),(68,.slice (AZ bh) ((ap.1.set (Int.toNat O.2) a6)).length bc),(69,iV O.2),(70,.slice (AZ bh) ((ap.1.set (Int.toNat O.2) a6)).length bc),(71,iV O.2),(72,.pointer (some ⟨bh,(Int.toNat (O.2)*1),none⟩)),(73,iV cJ),(74,.slice (AZ U) K.1.length Y),(75,iV K.2),(76,iV ca),(77,.pointer (some ⟨U,(Int.toNat (ca)*1),none⟩)),(78,.slice cP cN.length cQ),(79,pV al 0),(80,.slice bn p0.1.length c2),(81,iV V.2),(82,pV fx fy),(83,.slice fz fu.length fA),(84,iV ap.2),(85,pV fG fH),(86,iV fD),(87,pV fM fN),(88,.slice fO fJ.length fP),(89,iV O.2),(90,iV a4),(91,iV fS),(92,pV fZ ga),(93,iV fW),(94,iV a6),(95,pV cR cb)]) ⟨rfl,rfl,rfl,rfl,rfl,rfl,rfl,by rw [cc];rfl,rfl,rfl,rfl,rfl,rfl,rfl,rfl,rfl,rfl,rfl,rfl,by rw [cc];rfl,rfl,by rw [cc];rfl,rfl,rfl,rfl,rfl,rfl,rfl,rfl,rfl,rfl,rfl,rfl,rfl,rfl,rfl,rfl,rfl,rfl,rfl,rfl,rfl,rfl,rfl,rfl,rfl,rfl,trivial⟩ ?_;obtain⟨gm,gn,gp⟩:=bs gf;refine zg 4 rfl (Bc gn rfl rfl rfl ?_);refine zg 2 rfl ?_;obtain rfl:=oi gp;exact Az (e8 _ _ ((ap.1.set (Int.toNat O.2) a6),gm) ⟨bm,(AZ bh),bc,[(cR,.cells (A0 gg cb [iV a6]) 3 (0,0))],rfl,rfl,bg,gk,gl⟩ b8) rfl
          ·refine JL.exit rfl ?_;obtain rfl:=oi fj;obtain rfl:=e7 _ b8;exact Az (e6 _ _ ⟨bm,bO,bc,bP,rfl,rfl,bg,a5,b7⟩) rfl
      ·refine JL.exit rfl ?_;obtain rfl:=oi eA;obtain rfl:=ew _ b4;exact Az (eu _ _ ⟨a1,a8,a9,bi,rfl,rfl,bf,bA,bB⟩) rfl
    ·refine JL.exit rfl ?_;obtain rfl:=oi dO;obtain rfl:=dK _ bZ;exact Az (dJ _ _ ⟨bw,av,aY,a3,rfl,rfl,aZ,cu,cv⟩) rfl
  ·refine JL.exit rfl ?_;obtain rfl:=oi dn;obtain rfl:=dj _ bV;exact Az (di _ _ ⟨be,br,Y,bu,rfl,rfl,a0,cn,co⟩) rfl
end Pal
namespace Pal
open Go Go.Conc Go.Proofs
open Go.Proofs.Tryz
variable {J:Judge Tryz.prog}{E:LH}
def KZ(fuel:Nat)(U:(List (List (List Int))))(V:(List Bool))(O:(List Int)×Int)(K:(List Int)×Int):Option (Bi ((List Int)×Int) ((List Int))):= Option.bind (if K.2<(K.1.length:Int) then((ix V O.2).bind fun Y=> some Y) else(some false)) fun Z=> if Z=true then((ix K.1 K.2).bind fun ag=> (ix U (0)).bind fun al=> (ix al O.2).bind fun am=> (ix am K.2).bind fun ap=> (As (ag+ap)).bind fun av=> (ix K.1 K.2).bind fun aZ=> (As (K.2+1)).bind fun aY=> some (.more ((K.1.set (Int.toNat K.2) av),aY))) else(some (.done K.1))
def MV(fuel:Nat)(U:(List (List (List Int))))(O:(List Bool))(K:(List Int)×Int):Option (Bi ((List Int)×Int) ((List Int))):= if K.2<(O.length:Int) then(Option.bind (iter (KZ fuel U O K) fuel (K.1,0)) fun V=> (As (K.2+1)).bind fun Y=> some (.more (V,Y))) else(some (.done K.1))
def MT(fuel:Nat)(p0:A2)(p1:AI)(O:(List (List (List Int))))(K:(List (List Int))×Int):Option (Bi ((List (List Int))×Int) ((List (List Int)))):= if K.2≤12 then((As ((p1.length:Int)+1)).bind fun U=> (F5 U (0:Int)).bind fun V=> (f82 fuel p0 K.2).bind fun Y=> Option.bind (iter (MV fuel O Y) fuel (V,0)) fun Z=> (room K.1 Z).bind fun ag=> (As (K.2+1)).bind fun al=> some (.more (ag,al))) else(some (.done K.1))
def f79(fuel:Nat)(p0:A2)(p1:AI)(p2:Int):Option ((List (List Int))):= (f80 fuel p0 p1 p2).bind fun K=> Option.bind (iter (MT fuel p0 p1 K) fuel ([],0)) fun O=> some O
theorem O8{bM:An}{c2:Nat}{bN:An}{bO:Nat}{Z:An}{ag:Nat}{p0:A2}{p1:AI}{p2:Int}(bP:Al (rL rI) E bM c2 p0.1)(bQ:Al (rL rI) E bN bO p0.2)(cc:Al Bo E Z ag p1){fuel:Nat}{r:(List (List Int))}(bR:f79 fuel p0 p1 p2=some r):AK J 79 [.agg #[sV bM p0.1 c2,sV bN p0.2 bO],sV Z p1 ag,iV p2] E [] (fun w E' B'=>∃(bS:An) (bT:Nat),w= sV bS r bT∧B'= []∧Al (rL rI) E' bS bT r):=by
 refine A3 func79 fun Q et cs H cd ce=>?_;unfold f79 at bR;refine zg 2 rfl (B4 cd fun a0 eu a4 bU cf=>?_);refine zg 4 rfl (BO bU BW BD rfl rfl ?_);obtain⟨av,cg,ci⟩:=bs bR;refine zg 2 rfl (BP (aK (bP.Ah a4) (bQ.Ah a4) (cc.Ah a4) cg) rfl rfl (AS func80 rfl) cf ?_);rintro _ bx _ bg ⟨aY,aZ,rfl,rfl,ck⟩ cm;obtain⟨bV,cn,co⟩:=bs ci;refine zg 11 rfl (Br (fun L s=>∃(bz:LH) (bh:An) (bi:Nat) (bA:Seg),Jn bx H bz [bA] [(8,sV bh bV bi)] L s (OL 28 (rL rI) bz bh bi bA bV)) ?_ ?_)
 ·rintro _ _ ⟨bz,bh,bi,bA,rfl,rfl,cp,cq,cr⟩;refine zg 5 rfl (B7 0 cr cq rfl fun ew ct cu cv=>?_);obtain rfl:=oi co;exact AA func79 rfl rfl (ce (((a4.Ab bg).Ab cp).Ab ct) rfl ⟨bh,bi,rfl,rfl,cu⟩ cv)
 ·intro cw;refine JL.block (CN cn (fun L s O=>∃(bj:LH) (U:An) (V:Nat) (al:Seg),Jn bx H bj [al] [(1,sV Z p1 ag),(3,pV a0 0),(7,sV aY av aZ),(8,sV U O.1 V),(9,iV O.2)] L s (OL 28 (rL rI) bj U V al O.1)) ⟨bx,none,0,[],rfl,rfl,Ar,cm,OL.nil⟩ ?_);rintro _ _ O ⟨bj,U,V,al,rfl,rfl,a5,bW,bY⟩ cy ⟨ex,bB⟩ cz;have bZ:=bB;unfold MT at bZ;refine zg 6 rfl (AL bZ (fun cA cB=>?_) (fun cA cC=>?_))
  ·refine zg 6 rfl (Bg underlying25 rfl rfl rfl ?_);obtain⟨ey,cD,cE⟩:=bs cB;refine Bc cD rfl rfl rfl ?_;obtain⟨cF,cG,cH⟩:=bs cE;refine JS.make (pp:=rI) cG rfl rfl rfl rfl rfl underlying28 AW (CR type3) (by decide) CM (by decide) rfl bW fun cI cJ cK cM=>zg 4 rfl (BO (bU.Ah (bg.Ab a5)) BW BD rfl rfl ?_);obtain⟨a8,cN,cO⟩:=bs cH;refine zg 1 rfl (BP (ar (bP.Ah ((a4.Ab bg).Ab a5)) (bQ.Ah ((a4.Ab bg).Ab a5)) cN) rfl rfl (AS func82 rfl) cM ?_);rintro _ bC _ bl ⟨a9,ba,rfl,rfl,cP⟩ cQ;obtain⟨bD,cR,cT⟩:=bs cO;refine zg 7 rfl (Br (fun L s=>∃(bE:LH) (bm:An) (bn:Nat) (bF:Seg),Jn bC H bE [al,bF] [(1,sV Z p1 ag),(3,pV a0 0),(7,sV aY av aZ),(8,sV U O.1 V),(9,iV O.2),(10,sV bm bD bn)] L s (OL 3 rI bE bm bn bF bD)) ?_ ?_)
   ·rintro _ _ ⟨bE,bm,bn,bF,rfl,rfl,b0,cV,cW⟩;refine zg 3 rfl (B7 1 cW cV rfl fun cX b1 cY cZ=>?_);obtain⟨c0,c1,c3⟩:=bs cT;refine JS.app (pp:=(rL rI)) (v:= sV bm bD bn) (a:=U) (c:=V) 0 c1 rfl rfl rfl rfl (fun _=>rfl) rfl (fun _=>rfl) rfl rfl rfl underlying22 underlying22 underlying22 BX (CR type28) Fo rfl (by decide) (by decide) (by decide) (by decide) (bY.Ah ((bl.Ab b0).Ab b1)) ⟨_,_,rfl,cY⟩ cZ rfl fun ez c4 c5 c6 c7 c8=>?_;obtain⟨c9,da,db⟩:=bs c3;refine zg 5 rfl (Bc da rfl rfl rfl ?_);refine zg 2 rfl ?_;obtain rfl:=oi db;exact Az (cz _ _ (c0,c9) ⟨cX,c4,c5,c6,rfl,rfl,(((a5.Ab bl).Ab b0).Ab b1),c8,c7⟩ bB) rfl
   ·intro dc;refine JL.block (CN cR (fun L s am=>∃(a1:LH) (bb:An) (bc:Nat) (bd:Seg),Jn bC H a1 [al,bd] [(1,sV Z p1 ag),(3,pV a0 0),(7,sV aY av aZ),(8,sV U O.1 V),(9,iV O.2),(10,sV bb am.1 bc),(11,sV a9 a8 ba),(12,iV am.2)] L s (OL 3 rI a1 bb bc bd am.1)) ⟨bC,(AZ cI),cF.length,cJ,rfl,rfl,Ar,cQ,(cK.Ah bl)⟩ ?_);rintro _ _ am ⟨a1,bb,bc,bd,rfl,rfl,bo,b2,b3⟩ dd ⟨eA,bG⟩ de;have b4:=bG;unfold MV at b4;refine zg 5 rfl (Bg underlying68 rfl rfl rfl ?_);refine zg 2 rfl (AL b4 (fun df dg=>?_) (fun df dh=>?_))
    ·obtain⟨bH,di,dj⟩:=bs dg;refine zg 7 rfl (Br (fun L s=>∃(bp:LH) (bq:An) (br:Nat) (bu:Seg),Jn a1 H bp [al,bu] [(1,sV Z p1 ag),(3,pV a0 0),(7,sV aY av aZ),(8,sV U O.1 V),(9,iV O.2),(10,sV bq bH br),(11,sV a9 a8 ba),(12,iV am.2)] L s (OL 3 rI bp bq br bu bH)) ?_ ?_)
     ·rintro _ _ ⟨bp,bq,br,bu,rfl,rfl,dk,dl,dm⟩;obtain⟨dn,dp,dq⟩:=bs dj;refine zg 3 rfl (Bc dp rfl rfl rfl ?_);refine zg 2 rfl ?_;obtain rfl:=oi dq;exact Az (de _ _ (bH,dn) ⟨bp,bq,br,bu,rfl,rfl,(bo.Ab dk),dl,dm⟩ bG) rfl
     ·intro dr;refine JL.block (CN di (fun L s K=>∃(a6:LH) (be:An) (ap:Nat) (bf:Seg),Jn a1 H a6 [al,bf] [(1,sV Z p1 ag),(3,pV a0 0),(7,sV aY av aZ),(8,sV U O.1 V),(9,iV O.2),(10,sV be K.1 ap),(11,sV a9 a8 ba),(12,iV am.2),(13,iV K.2)] L s (OL 3 rI a6 be ap bf K.1)) ⟨a1,bb,bc,bd,rfl,rfl,Ar,b2,b3⟩ ?_);rintro _ _ K ⟨a6,be,ap,bf,rfl,rfl,bv,b5,bI⟩ dt ⟨eB,bJ⟩ du;have b6:=bJ;unfold KZ at b6;refine zg 5 rfl (Bg underlying28 rfl rfl rfl ?_);obtain⟨b7,dv,dw⟩:=bs b6;refine zg 2 rfl (EC [] (fun L s=>∃(bw:LH),Jm a6 H bw [al,bf] [(1,sV Z p1 ag),(3,pV a0 0),(7,sV aY av aZ),(8,sV U O.1 V),(9,iV O.2),(10,sV be K.1 ap),(11,sV a9 a8 ba),(12,iV am.2),(13,iV K.2),(44,.bool b7)] L s) ?_ ?_)
      ·rintro _ _ ⟨bw,rfl,rfl,a7,a2⟩;refine JL.done (BH dw (fun dx dy=>?_) (fun dx dz=>?_))
       ·obtain⟨b8,b9,dA⟩:=bs dy;refine zg 3 rfl ?_;obtain⟨a3,f193,_,rfl,rfl,rfl,dB⟩:=OL.Tq (bI.Ah a7) b9;refine Dh 16 [a3] ⟨⟨1,_,rfl⟩,trivial⟩ a2 fun ht=>A4 ht rfl [0,1,2,3] rfl (BB (v:= .pointer (some ⟨a3,(Int.toNat (K.2)*1),none⟩)) 4 ht rfl rfl (fun ρ h s' hs=>Jo b9 underlying28 AW (h _ _ rfl) (h _ _ rfl)) ?_);refine BB (v:=iV b8) 5 ht rfl rfl (fun ρ h s' hs=>Yl.load Bv (h _ _ rfl) (Io 1 a2 rfl (by simp [A5]) hs (dB 0 _ rfl))) (Cj 6 ht rfl rfl ?_);obtain⟨dC,dD,dE⟩:=bs dA;refine Cy 7 (ck.Ah ((((a5.Ab bl).Ab bo).Ab bv).Ab a7)) dD ht underlying105 BQ ?_;rintro dF dG _ ⟨dH,dI,rfl,dJ⟩ dK;refine JG.lp 8 ht 0 dK a2 ⟨⟨1,_,rfl⟩,trivial⟩ Cr ?_;refine Cj 9 ht rfl rfl ?_;obtain⟨dL,dM,dN⟩:=bs dE;refine Cy 10 dJ dM ht underlying22 BX ?_;rintro dO dP _ ⟨dQ,dR,rfl,dS⟩ dT;refine JG.lp 11 ht 0 dT a2 ⟨⟨1,_,rfl⟩,trivial⟩ CQ ?_;refine Cj 12 ht rfl rfl ?_;obtain⟨dU,dV,dW⟩:=bs dN;refine Cy 13 dS dV ht underlying28 AW ?_;rintro dX dY _ rfl dZ;refine JG.lp 14 ht 0 dZ a2 ⟨⟨1,_,rfl⟩,trivial⟩ Bv ?_;obtain⟨Y,ea,eb⟩:=bs dW;refine BB 15 ht rfl rfl (fun ρ h s' hs=>MG (h _ _ rfl) (h _ _ rfl) ea) (Ci [16,17] ?_);obtain⟨eC,ec,ed⟩:=bs eb;refine IZ 1 (bI.Ah a7) ec rfl rfl rfl rfl rfl rfl underlying28 AW ?_;rintro ca bK f222 _ ee rfl eD ef eg eE eF;refine JS.store (v:=iV Y) (off:=bK) 1 rfl rfl rfl a2 rfl rfl AW (by simp [Value.cells,CI]) ee (by have:=ef;simp only [Rp.n,rK,rN,rB,rP,rL] at this;show _+1≤_;omega) fun eh=>?_;have ei:=eg Y [iV Y] rfl;have bL:(K.1.set (Int.toNat K.2) Y).length=K.1.length:=List.length_set;refine Gf (L':= [(1,.slice Z p1.length ag),(3,pV a0 0),(7,.slice aY av.length aZ),(8,.slice U O.1.length V),(9,iV O.2),(10,.slice (AZ a3) ((K.1.set (Int.toNat K.2) Y)).length ap),(11,.slice a9 a8.length ba),(12,iV am.2),(13,iV K.2),(44,.bool b7),(47,.slice (AZ a3) ((K.1.set (Int.toNat K.2) Y)).length ap),(48,iV K.2),(49,.slice (AZ a3) ((K.1.set (Int.toNat K.2) Y)).length ap),(50,iV K.2),(51,.pointer (some ⟨a3,(Int.toNat (K.2)*1),none⟩)),(52,iV b8),(53,.slice aY av.length aZ),(54,pV dF dG),(55,.slice dH dC.length dI),(56,iV am.2),(57,pV dO dP),(58,.slice dQ dL.length dR),(59,iV K.2),(60,pV dX dY),(61,iV dU),(62,iV Y),(63,pV ca bK)]) ⟨rfl,rfl,rfl,rfl,rfl,by rw [bL];rfl,rfl,rfl,rfl,rfl,by rw [bL];rfl,rfl,by rw [bL];rfl,rfl,rfl,rfl,rfl,rfl,rfl,rfl,rfl,rfl,rfl,rfl,rfl,rfl,rfl,trivial⟩ ?_;obtain⟨ej,ek,el⟩:=bs ed;refine zg 4 rfl (Bc ek rfl rfl rfl ?_);refine zg 2 rfl ?_;obtain rfl:=oi el;exact Az (du _ _ ((K.1.set (Int.toNat K.2) Y),ej) ⟨bw,(AZ a3),ap,[(ca,.cells (A0 f222 bK [iV Y]) 3 (0,0))],rfl,rfl,(bv.Ab a7),eh,ei⟩ bJ) rfl
       ·refine JL.exit rfl ?_;obtain rfl:=oi dz;obtain rfl:=dt _ bJ;exact Az (dr _ _ ⟨bw,be,ap,bf,rfl,rfl,(bv.Ab a7),a2,(bI.Ah a7)⟩) rfl
      ·intro cb;refine Ee 39 dv (fun em en=>?_) (fun em eo=>?_)
       ·obtain⟨eG,ep,eq⟩:=bs en;refine zg 2 rfl (Ce (cP.Ah (bo.Ab bv)) ep underlying68 Ie ?_);rintro eH eI _ rfl er;refine BY 0 er (Dv underlying4) rfl rfl rfl (zg 1 rfl ?_);obtain rfl:=oi eq;exact Az (cb _ _ ⟨a6,rfl,rfl,Ar,b5⟩) rfl
       ·refine zg 5 rfl ?_;obtain rfl:=oi eo;exact Az (cb _ _ ⟨a6,rfl,rfl,Ar,b5⟩) rfl
    ·refine JL.exit rfl ?_;obtain rfl:=oi dh;obtain rfl:=dd _ bG;exact Az (dc _ _ ⟨a1,bb,bc,bd,rfl,rfl,bo,b2,b3⟩) rfl
  ·refine JL.exit rfl ?_;obtain rfl:=oi cC;obtain rfl:=cy _ bB;exact Az (cw _ _ ⟨bj,U,V,al,rfl,rfl,a5,bW,bY⟩) rfl
def Ng(fuel:Nat)(U:(List (List Int)))(O:Int)(K:Int):Option (Bi Int ((Int)⊕(Unit))):= if K≤12 then((ix U K).bind fun V=> (ix V O).bind fun Y=> if 0<Y then(some (.done (Sum.inl O))) else((As (K+1)).bind fun Z=> some (.more Z))) else(some (.done (Sum.inr ())))
def Nj(fuel:Nat)(p1:AI)(O:(List (List Int)))(K:Int):Option (Bi Int ((Int)⊕(Unit))):= if K≤(p1.length:Int) then(Option.bind (iter (Ng fuel O K) fuel 0) fun U=> Sum.elim (fun r=>some (.done (Sum.inl r))) (fun Y=> (As (K+1)).bind fun V=> some (.more V)) U) else(some (.done (Sum.inr ())))
def f95(fuel:Nat)(p0:A2)(p1:AI):Option Int:= (f79 fuel p0 p1 (-1)).bind fun K=> Option.bind (iter (Nj fuel p1 K) fuel 0) fun O=> Sum.elim (fun r=>some r) (fun U=> some (-1)) O
theorem au{a0:An}{c2:Nat}{a1:An}{a2:Nat}{K:An}{O:Nat}{p0:A2}{p1:AI}(bl:Al (rL rI) E a0 c2 p0.1)(bm:Al (rL rI) E a1 a2 p0.2)(bn:Al Bo E K O p1){fuel:Nat}{r:Int}(a3:f95 fuel p0 p1=some r):AK J 95 [.agg #[sV a0 p0.1 c2,sV a1 p0.2 a2],sV K p1 O] E [] (fun w E' B'=>w=iV r∧B'= []):=by
 refine A3 func95 fun Q cd cs H bo a4=>?_;unfold f95 at a3;refine zg 2 rfl (B4 bo fun ce cf U bp bq=>?_);refine zg 4 rfl (BO bp BW BD rfl rfl ?_);obtain⟨am,br,bu⟩:=bs a3;refine zg 1 rfl (BP (O8 (bl.Ah U) (bm.Ah U) (bn.Ah U) br) rfl rfl NX bq ?_);rintro _ bv _ a5 ⟨ap,av,rfl,rfl,bw⟩ bx;obtain⟨a6,bz,a7⟩:=bs bu;refine zg 7 rfl (Br (fun L s=>∃(a8:Unit) (a9:LH),a6=Sum.inr a8∧Jm bv H a9 [] [] L s) ?_ ?_)
 ·rintro _ _ ⟨a8,a9,rfl,rfl,rfl,bA,bB⟩;have bC:=elim_inr a7;refine zg 4 rfl ?_;obtain rfl:=oi bC;exact AA func95 rfl rfl (a4 ((U.Ab a5).Ab bA) rfl ⟨rfl,rfl⟩ bB)
 ·intro bD;refine JL.block (Cx bz (fun V=> []) (fun V=> [(1,sV K p1 O),(5,sV ap am av),(6,iV V)]) Ar bx ?_);rintro V ba Y bb bc ⟨cg,Z⟩ bE;have bd:=Z;unfold Nj at bd;refine zg 5 rfl (Bg underlying25 rfl rfl rfl ?_);refine zg 2 rfl (AL bd (fun bF bG=>?_) (fun bF bH=>?_))
  ·obtain⟨be,bI,bf⟩:=bs bG;refine zg 7 rfl (Br (fun L s=>∃(bg:Unit) (bh:LH),be=Sum.inr bg∧Jm ba H bh [] [(1,sV K p1 O),(5,sV ap am av),(6,iV V)] L s) ?_ ?_)
   ·rintro _ _ ⟨bg,bh,rfl,rfl,rfl,bJ,bK⟩;have bL:=elim_inr bf;obtain⟨bM,bN,bO⟩:=bs bL;refine zg 3 rfl (Bc bN rfl rfl rfl ?_);refine zg 2 rfl ?_;obtain rfl:=oi bO;exact bE bM (Y.Ab bJ) bK rfl Z
   ·intro bP;refine JL.block (Cx bI (fun aY=> []) (fun aY=> [(1,sV K p1 O),(5,sV ap am av),(6,iV V),(7,iV aY)]) Ar bb ?_);rintro aY bQ ag aZ bi ⟨ci,al⟩ bR;have bj:=al;unfold Ng at bj;refine zg 6 rfl (AL bj (fun bS bT=>?_) (fun bS bU=>?_))
    ·obtain⟨ck,bV,bW⟩:=bs bT;refine zg 7 rfl (Ce (bw.Ah (Y.Ab ag)) bV underlying22 BX ?_);rintro cm cn _ ⟨co,cp,rfl,bY⟩ bZ;refine BY 0 bZ CQ rfl rfl rfl ?_;obtain⟨cq,b0,b1⟩:=bs bW;refine zg 1 rfl (Ce bY b0 underlying28 AW ?_);rintro cr ct _ rfl b2;refine BY 0 b2 Bv rfl rfl rfl (zg 2 rfl ?_);refine AL b1 (fun b3 b4=>?_) (fun b3 b5=>?_)
     ·refine zg 5 rfl ?_;obtain rfl:=oi b4;obtain rfl:=bi _ al;have b6:=elim_inl bf;obtain rfl:=oi b6;obtain rfl:=bc _ Z;have b7:=elim_inl a7;obtain rfl:=oi b7;exact AA func95 rfl rfl (a4 (((U.Ab a5).Ab Y).Ab ag) rfl ⟨rfl,rfl⟩ aZ)
     ·obtain⟨b8,b9,ca⟩:=bs b5;refine zg 4 rfl (Bc b9 rfl rfl rfl ?_);refine zg 2 rfl ?_;obtain rfl:=oi ca;exact bR b8 ag aZ rfl al
    ·refine JL.exit rfl ?_;obtain rfl:=oi bU;have cb:be=(Sum.inr ()):=(bi _ al).symm;exact Az (bP _ _ ⟨(),bQ,cb,rfl,rfl,ag,aZ⟩) rfl
  ·refine JL.exit rfl ?_;obtain rfl:=oi bH;have cc:a6=(Sum.inr ()):=(bc _ Z).symm;exact Az (bD _ _ ⟨(),ba,cc,rfl,rfl,Y,bb⟩) rfl
def f48(fuel:Nat)(p0:A2)(p1:AI):Option (Int×Int):= (f70 fuel p0 p1).bind fun K=> if K≠0 then(some (0,K)) else((f95 fuel p0 p1).bind fun O=> if O<0 then(some (0,11)) else(some (O,0)))
theorem S8{V:An}{c2:Nat}{Y:An}{Z:Nat}{ag:An}{al:Nat}{p0:A2}{p1:AI}(am:Al (rL rI) E V c2 p0.1)(ap:Al (rL rI) E Y Z p0.2)(av:Al Bo E ag al p1){fuel:Nat}{r:Int×Int}(aY:f48 fuel p0 p1=some r):AK J 48 [.agg #[sV V p0.1 c2,sV Y p0.2 Z],sV ag p1 al] E [] (fun w E' B'=>w= .tuple #[iV r.1,iV r.2]∧B'= []):=by
 refine A3 func48 fun Q bf cs H a3 U=>?_;unfold f48 at aY;refine zg 2 rfl (B4 a3 fun bg bh K aZ a4=>?_);refine zg 6 rfl (BO aZ BW BD rfl rfl ?_);obtain⟨bi,a5,a6⟩:=bs aY;refine zg 1 rfl (BC (Tg (am.Ah K) (ap.Ah K) (av.Ah K) a5) rfl rfl (AS func70 rfl) a4 fun bj O a0=>?_);refine zg 7 rfl (AL a6 (fun a7 a8=>?_) (fun a7 a9=>?_))
 ·refine zg 6 rfl ?_;obtain rfl:=oi a8;exact AA func48 rfl rfl (U (K.Ab O) rfl ⟨rfl,rfl⟩ a0)
 ·refine zg 3 rfl (BO (aZ.Ah O) BW BD rfl rfl ?_);obtain⟨bl,ba,bb⟩:=bs a9;refine zg 1 rfl (BC (au (am.Ah (K.Ab O)) (ap.Ah (K.Ab O)) (av.Ah (K.Ab O)) ba) rfl rfl (AS func95 rfl) a0 fun bm a1 a2=>?_);refine zg 8 rfl (AL bb (fun bc bd=>?_) (fun bc be=>?_))
  ·refine zg 5 rfl ?_;obtain rfl:=oi bd;exact AA func48 rfl rfl (U ((K.Ab O).Ab a1) rfl ⟨rfl,rfl⟩ a2)
  ·refine zg 7 rfl ?_;obtain rfl:=oi be;exact AA func48 rfl rfl (U ((K.Ab O).Ab a1) rfl ⟨rfl,rfl⟩ a2)
def f50(fuel:Nat)(p0:A2)(p1:AI)(p2:Int):Option (Int×Int):= (f70 fuel p0 p1).bind fun O=> if O≠0 then(some (0,O)) else((As ((p1.length:Int) - 1)).bind fun V=> (f104 fuel p2 0 V).bind fun Y=> if(!Y)=true then(some (0,3)) else((f48 fuel p0 p1).bind fun K=> if K.2≠0 then(some (0,K.2)) else((f79 fuel p0 p1 p2).bind fun Z=> (f105 fuel Z K.1).bind fun U=> if U=0 then(some (1,0)) else((f79 fuel p0 p1 (-1)).bind fun ag=> (f105 fuel ag K.1).bind fun al=> if U=al then(some (2,0)) else(some (3,0))))))
theorem aG{aY:An}{c2:Nat}{aZ:An}{a0:Nat}{a1:An}{a2:Nat}{p0:A2}{p1:AI}{p2:Int}(al:Al (rL rI) E aY c2 p0.1)(am:Al (rL rI) E aZ a0 p0.2)(ap:Al Bo E a1 a2 p1){fuel:Nat}{r:Int×Int}(a3:f50 fuel p0 p1 p2=some r):AK J 50 [.agg #[sV aY p0.1 c2,sV aZ p0.2 a0],sV a1 p1 a2,iV p2] E [] (fun w E' B'=>w= .tuple #[iV r.1,iV r.2]∧B'= []):=by
 refine A3 func50 fun Q bR cs H bb ag=>?_;unfold f50 at a3;refine zg 2 rfl (B4 bb fun bS bT K av bc=>?_);refine zg 6 rfl (BO av BW BD rfl rfl ?_);obtain⟨bU,bd,be⟩:=bs a3;refine zg 1 rfl (BC (Tg (al.Ah K) (am.Ah K) (ap.Ah K) bd) rfl rfl (AS func70 rfl) bc fun bV O a4=>?_);refine zg 7 rfl (AL be (fun bf bg=>?_) (fun bf bh=>?_))
 ·refine zg 6 rfl ?_;obtain rfl:=oi bg;exact AA func50 rfl rfl (ag (K.Ab O) rfl ⟨rfl,rfl⟩ a4)
 ·refine zg 6 rfl (Bg underlying25 rfl rfl rfl ?_);obtain⟨bW,bi,bj⟩:=bs bh;refine Cd bi rfl rfl rfl ?_;obtain⟨bl,bm,bn⟩:=bs bj;refine BC (Lf bm) rfl rfl Ke a4 fun bY U a5=>AD (v:= .bool (!bl)) rfl (fun ρ h=>Yl.not (h _ _ rfl)) (JL.done ?_);refine BH bn (fun bo bp=>?_) (fun bo bq=>?_)
  ·refine zg 5 rfl ?_;obtain rfl:=oi bp;exact AA func50 rfl rfl (ag ((K.Ab O).Ab U) rfl ⟨rfl,rfl⟩ a5)
  ·refine zg 3 rfl (BO (av.Ah (O.Ab U)) BW BD rfl rfl ?_);obtain⟨bZ,br,bu⟩:=bs bq;refine zg 1 rfl (BC (S8 (al.Ah ((K.Ab O).Ab U)) (am.Ah ((K.Ab O).Ab U)) (ap.Ah ((K.Ab O).Ab U)) br) rfl rfl (AS func48 rfl) a5 fun b0 V a6=>?_);refine zg 12 rfl (AL bu (fun bv bw=>?_) (fun bv bx=>?_))
   ·refine zg 6 rfl ?_;obtain rfl:=oi bw;exact AA func50 rfl rfl (ag (((K.Ab O).Ab U).Ab V) rfl ⟨rfl,rfl⟩ a6)
   ·refine zg 4 rfl (BO (av.Ah ((O.Ab U).Ab V)) BW BD rfl rfl ?_);obtain⟨b1,bz,bA⟩:=bs bx;refine zg 2 rfl (BP (O8 (al.Ah (((K.Ab O).Ab U).Ab V)) (am.Ah (((K.Ab O).Ab U).Ab V)) (ap.Ah (((K.Ab O).Ab U).Ab V)) bz) rfl rfl NX a6 ?_);rintro _ b2 _ Y ⟨b3,b4,rfl,rfl,bB⟩ bC;obtain⟨b5,bD,bE⟩:=bs bA;refine zg 1 rfl (BC (Sm bB bD) rfl rfl (AS func105 rfl) bC fun b6 Z a7=>?_);refine zg 7 rfl (AL bE (fun bF bG=>?_) (fun bF bH=>?_))
    ·refine zg 5 rfl ?_;obtain rfl:=oi bG;exact AA func50 rfl rfl (ag (((((K.Ab O).Ab U).Ab V).Ab Y).Ab Z) rfl ⟨rfl,rfl⟩ a7)
    ·refine zg 2 rfl (BO (av.Ah ((((O.Ab U).Ab V).Ab Y).Ab Z)) BW BD rfl rfl ?_);obtain⟨b7,bI,bJ⟩:=bs bH;refine zg 1 rfl (BP (O8 (al.Ah (((((K.Ab O).Ab U).Ab V).Ab Y).Ab Z)) (am.Ah (((((K.Ab O).Ab U).Ab V).Ab Y).Ab Z)) (ap.Ah (((((K.Ab O).Ab U).Ab V).Ab Y).Ab Z)) bI) rfl rfl NX a7 ?_);rintro _ b8 _ a8 ⟨b9,ca,rfl,rfl,bK⟩ bL;obtain⟨cb,bM,bN⟩:=bs bJ;refine zg 1 rfl (BC (Sm bK bM) rfl rfl (AS func105 rfl) bL fun cc a9 ba=>?_);refine zg 3 rfl (AL bN (fun bO bP=>?_) (fun bO bQ=>?_))
     ·refine zg 5 rfl ?_;obtain rfl:=oi bP;exact AA func50 rfl rfl (ag (((((((K.Ab O).Ab U).Ab V).Ab Y).Ab Z).Ab a8).Ab a9) rfl ⟨rfl,rfl⟩ ba)
     ·refine zg 7 rfl ?_;obtain rfl:=oi bQ;exact AA func50 rfl rfl (ag (((((((K.Ab O).Ab U).Ab V).Ab Y).Ab Z).Ab a8).Ab a9) rfl ⟨rfl,rfl⟩ ba)
end Pal
namespace Pal
theorem W5{F n:Nat}{lk:Bf}(O:B9 n lk):f117 F lk=some ((CO lk:Nat):Int):=by
 have U:=O.len;refine CW ?_;unfold f117 CO;refine Bl (fun h=>?_) (fun h=>?_)
 ·have:lk= []:=List.length_eq_zero_iff.1 (by omega);subst this;exact Ak rfl
 ·have K:lk.length - 1<lk.length:=by omega
  refine AT ((lk.length - 1:Nat):Int) (by omega) (by omega) (by omega) (Bn (m:=lk.length - 1) rfl K ?_);rw [List.getLast?_eq_getElem?,List.getElem?_eq_getElem K];have:=O.yr _ (List.getElem_mem K);refine Ak ?_;simp only;omega
theorem Xm{F:Nat}{l:List Int}{x:Int}(O:100<F)(U:l.length<100):f137 F l x=some (decide (x∈l)):=by
 refine CW ?_;unfold f137;refine AE (S:=fun q=>(q=Sum.inl true∧x∈l)∨(q=Sum.inr ()∧x ∉ l)) ?_ ?_
 ·refine Ck l.length (fun i s=>s=(i:Int)∧x ∉ l.take i) ⟨rfl,by simp⟩ (by omega) ?_ ?_
  ·rintro i s hi ⟨rfl,K⟩;unfold ME;refine Bw (by omega) (Bn (m:=i) rfl hi ?_);refine Bl (fun h=>?_) (fun h=>?_)
   ·exact Ak (.inl ⟨rfl,h▸List.getElem_mem hi⟩)
   ·refine AT ((i+1:Nat):Int) (by simp) (by omega) (by omega) (Ak ⟨rfl,?_⟩);rw [List.take_add_one,List.getElem?_eq_getElem hi];simp only [Option.toList_some,List.mem_append,List.mem_singleton,not_or];exact⟨K,fun e=>h e.symm⟩
  ·rintro s ⟨rfl,K⟩;unfold ME;rw [List.take_length] at K;exact A8 (by omega) (Ak ⟨_,rfl,.inr ⟨rfl,K⟩⟩)
 ·rintro q (⟨rfl,h⟩ | ⟨rfl,h⟩)
  ·exact Ak (decide_eq_true h).symm
  ·exact Ak (decide_eq_false h).symm
theorem Wc:∀k,k<16→Di (1<<<k)=1:=by decide
def PE(h:Int)(q:Nat):Prop:=(h= -1∧q=16)∨(h=(q:Int)∧q<8)
theorem W1(lk:Bf)(y:Nat)(m:Int)(k:Nat):∀i,(BS lk y m k).testBit i=true→i<k:=fun i h=>((HJ lk y m i k).1 h).1
def I8(J:JW)(lk:Bf)(q y:Nat)(m:Int)(k:Nat):Prop:=(∀l∈lk.take k,l.1=(y:Int)→Fe J m l=true)∧(BS lk y m k).testBit q=false
theorem WY{F n m y q:Nat}{J:JW}{lk:Bf}{h:Int}(a4:100<F)(al:VJ n J)(a5:B9 n lk)(hm:m<n)(aZ:PE h q):
  f118 F J lk h (y:Int) (m:Int)=some (match Em J lk q y (m:Int) with | some c=>(c:Int) | none=>100):=by
 have bj:=a5.len;refine CW ?_;unfold f118;refine AE (S:=fun r=>(∃c:Nat,r=Sum.inr (c:Int)∧Em J lk q y (m:Int)=some c)∨(r=Sum.inl 100∧Em J lk q y (m:Int)=none)) ?_ ?_
 ·refine Ck lk.length (fun i s=>s=(((Di (BS lk y (m:Int) i):Nat):Int),(i:Int))∧I8 J lk q y (m:Int) i) ⟨by simp [BS,show Di 0=0 by decide],by simp,by simp [BS]⟩ (by omega) ?_ ?_
  ·rintro i s hi ⟨rfl,V,Y⟩;unfold Mx;have bl:Di (BS lk y (m:Int) i)≤16:=Mg _;have a6:Em J lk q y (m:Int)≠none→I8 J lk q y (m:Int) (i+1):=fun am=>by
    unfold Em at am;split at am
    ·rename_i hh;refine⟨fun l O=>OH.1 hh.1 l (List.mem_of_mem_take O),?_⟩;cases hb:(BS lk y (m:Int) (i+1)).testBit q with
     | false=>rfl
     | true=>
      obtain⟨bm,l,g2,a7,a8⟩:=(HJ _ _ _ _ _).1 hb;have:=(HJ lk y (m:Int) q lk.length).2 ⟨by omega,l,g2,a7,a8⟩;rw [hh.2] at this;cases this
    ·exact absurd rfl am
   refine Bw (by simp only;omega) ?_;have next:∀(c:Int),c=((Di (BS lk y (m:Int) (i+1)):Nat):Int)→I8 J lk q y (m:Int) (i+1)→AY ((As ((i:Int)+1)).bind fun x=>some (Bi.more (A:=Int⊕Int) (c,x))) (Bi.sat (fun s=>s=(((Di (BS lk y (m:Int) (i+1)):Nat):Int),((i+1:Nat):Int))∧I8 J lk q y (m:Int) (i+1)) fun r=>(∃c:Nat,r=Sum.inr (c:Int)∧Em J lk q y (m:Int)=some c)∨(r=Sum.inl 100∧Em J lk q y (m:Int)=none)):=fun c a9 ba=>by
    exact AT ((i+1:Nat):Int) (by simp) (by omega) (by omega) (Ak ⟨by rw [a9],ba⟩)
   have U:BS lk y (m:Int) (i+1)=if lk[i].1=(y:Int)∧(m:Int)≠lk[i].2 then BS lk y (m:Int) i ||| 1<<<i else BS lk y (m:Int) i:=by
    rw [BS,List.getElem?_eq_getElem hi]
   have a0:∀l∈lk.take (i+1),l∈lk.take i∨l=lk[i]:=fun l O=>by
    rw [List.take_add_one,List.getElem?_eq_getElem hi] at O;simp only [Option.toList_some,List.mem_append,List.mem_singleton] at O;exact O
   by_cases K:lk[i].1=(y:Int)∧(m:Int)≠lk[i].2
   ·rw [if_pos K] at U;refine AE (S:=fun r=>(r=Sum.inl 100∧¬I8 J lk q y (m:Int) (i+1))∨(r=Sum.inr ((Di (BS lk y (m:Int) (i+1)):Nat):Int)∧I8 J lk q y (m:Int) (i+1))) ?_ ?_
    ·refine Bn (m:=i) rfl hi (AE (S:=fun b=>b=false) ?_ ?_)
     ·exact A8 (by simp [K.1]) (Ak (decide_eq_false fun e=>K.2 e.symm))
     ·rintro b rfl;refine A8 (by simp) ?_;have bb:(BS lk y (m:Int) (i+1)).testBit i=true:=(HJ _ _ _ _ _).2 ⟨by omega,lk[i],List.getElem?_eq_getElem hi,K.1,K.2⟩;have bc:Di (BS lk y (m:Int) (i+1))=Di (BS lk y (m:Int) i)+1:=by
       rw [U,Ox,Wc i (by omega)];rintro j ⟨bd,be⟩;have:=W1 _ _ _ _ _ bd;rw [Nat.one_shiftLeft,Nat.testBit_two_pow,decide_eq_true_iff] at be;omega
      by_cases hh:(i:Int)=h
      ·refine AE (S:=fun b=>b=true) (Bw hh (Ak rfl)) ?_;rintro b rfl;refine Bw rfl (Ak (.inl ⟨rfl,fun ap=>?_⟩));have:q=i:=by rcases aZ with⟨g,_⟩ | ⟨g,_⟩ <;> omega
       have a1:=ap.2;rw [this,bb] at a1;cases a1
      ·have bf:(BS lk y (m:Int) (i+1)).testBit q=false:=by
        rw [U,Nat.testBit_or,Y,Nat.one_shiftLeft,Nat.testBit_two_pow];simp only [Bool.false_or,decide_eq_false_iff_not];intro e;rcases aZ with⟨_,g⟩ | ⟨g,_⟩
        ·omega
        ·exact hh (by omega)
       have ap:=El (d:=([]:List Int)) (l:=J.2) (i:=m) (by have:=al.l2;omega);have bn:=(al.Px m).len;refine AE (S:=fun b=>b= !decide (lk[i].2∈J.2.getD m [])) ?_ ?_
       ·refine A8 hh (Bn (m:=m) rfl (by have:=al.l2;omega) ?_);rw [← ap];exact AQ (Xm a4 (by omega)) (Ak rfl)
       ·rintro b rfl;have a2:Fe J (m:Int) lk[i]=decide (lk[i].2∈J.2.getD m []):=by
         unfold Fe;rw [decide_eq_false K.2];simp
        by_cases Z:lk[i].2∈J.2.getD m []
        ·refine A8 (by rw [decide_eq_true Z];simp) (AT ((Di (BS lk y (m:Int) i)+1:Nat):Int) (by simp) (by omega) (by omega) ?_);refine Ak (.inr ⟨by rw [bc],fun l O ag=>?_,bf⟩);rcases a0 l O with av | rfl
         ·exact V l av ag
         ·rw [a2];exact decide_eq_true Z
        ·refine Bw (by rw [decide_eq_false Z];rfl) (Ak (.inl ⟨rfl,fun bg=>?_⟩));have:=bg.1 lk[i] (by rw [List.take_add_one,List.getElem?_eq_getElem hi];simp only [Option.toList_some,List.mem_append,List.mem_singleton];exact .inr trivial) K.1;rw [a2] at this;exact Z (of_decide_eq_true this)
    ·rintro r (⟨rfl,aY⟩ | ⟨rfl,aY⟩)
     ·rw [Sum.elim_inl];refine Ak (.inr ⟨rfl,?_⟩);cases e:Em J lk q y (m:Int) with
      | none=>rfl
      | some c=>exact absurd (a6 (by rw [e];simp)) aY
     ·rw [Sum.elim_inr];exact next _ rfl aY
   ·rw [if_neg K] at U;have bh:I8 J lk q y (m:Int) (i+1):=⟨fun l O ag=>by
     rcases a0 l O with av | rfl
     ·exact V l av ag
     ·unfold Fe
      by_cases e:(m:Int)=lk[i].2
      ·rw [decide_eq_true e];rfl
      ·exact absurd ⟨ag,e⟩ K,by rw [U];exact Y⟩
    refine AQ (b:=Sum.inr ((Di (BS lk y (m:Int) i):Nat):Int)) ?_ (by rw [Sum.elim_inr];exact next _ (by rw [U]) bh)
    refine CW (Bn (m:=i) rfl hi ?_);refine AE (S:=fun b=>b=true) ?_ (by rintro b rfl;exact Bw rfl (Ak rfl));refine Bl (fun _=>Ak rfl) (fun e=>Ak (decide_eq_true ?_));have bi:lk[i].1=(y:Int):=by simpa using e
    by_cases a3:(m:Int)=lk[i].2
    ·exact a3.symm
    ·exact absurd ⟨bi,a3⟩ K
  ·rintro s ⟨rfl,V,Y⟩;unfold Mx;refine A8 (by simp) (Ak ⟨_,rfl,.inl ⟨_,rfl,?_⟩⟩);rw [List.take_length] at V;unfold Em;rw [if_pos ⟨OH.2 V,Y⟩]
 ·rintro r (⟨c,rfl,h⟩ | ⟨rfl,h⟩)
  ·rw [h];exact Ak rfl
  ·rw [h];exact Ak rfl
end Pal
namespace Pal
theorem JJ{α:Type}{f:Nat→α}{N i:Nat}(h:i<N):((List.range N).map f)[i]? =some (f i):=by simp [h]
theorem Lb{α:Type}{f:Nat→α}{N:Nat}(i:Nat)(v:α):((List.range N).map f).set i v=(List.range N).map (fun j=>if j=i then v else f j):=by
 apply List.ext_getElem?;intro j;by_cases K:j<N
 ·by_cases e:i=j
  ·subst e;rw [List.getElem?_set_self (by simpa using K),JJ K,if_pos rfl]
  ·rw [List.getElem?_set_ne e,JJ K,JJ K,if_neg (fun h=>e h.symm)]
 ·rw [List.getElem?_eq_none (by simpa using K),List.getElem?_eq_none (by simpa using K)]
theorem FI{α:Type}{f g:Nat→α}{N:Nat}(h:∀i,i<N→f i=g i):(List.range N).map f=(List.range N).map g:=List.map_congr_left fun i hi=>h i (List.mem_range.1 hi)
theorem MY{α:Type}{z:α}{N:Nat}:List.replicate N z=(List.range N).map fun _=>z:=by
 apply List.ext_getElem?;intro j;by_cases K:j<N
 ·rw [JJ K,List.getElem?_replicate,if_pos K]
 ·rw [List.getElem?_eq_none (by simpa using K),List.getElem?_eq_none (by simpa using K)]
theorem FH{α β:Type}{Q:α→Prop}{f:β→Option α}{g:Nat→β}{N i:Nat}{j:Int}(h:j=(i:Int))(hi:i<N)(k:AY (f (g i)) Q):AY ((ix ((List.range N).map g) j).bind f) Q:=AQ (D6 h (JJ hi)) k
def ND(J:JW)(lk:Bf)(q d y:Nat)(m:Int):List Int:=(List.range (lk.length+1)).map fun k=>((ways J lk q d y m k:Nat):Int)
def WR(J:JW)(lk:Bf)(q d y:Nat):List (List Int):=(List.range J.1.length).map fun(m:Nat)=>ND J lk q d y (m:Int)
def H4(J:JW)(lk:Bf)(q t:Nat):List (List (List Int)):=(List.range (CO lk+1)).map fun j=>if j<t then [] else WR J lk q (CO lk - j) j
def GD(J:JW)(lk:Bf)(q d y:Nat)(m:Int)(t:Nat):List Int:=(List.range (lk.length+1)).map fun k=>if k<t then((ways J lk q d y m k:Nat):Int) else 0
theorem Xz{J:JW}{lk:Bf}{q d y c k:Nat}{m:Int}(h:Em J lk q y m=some c)(K:k<c):ways J lk q d y m k=0:=by
 cases d with
 | zero=>unfold ways;rw [h];simp only;rw [if_neg (by omega)]
 | succ d=>unfold ways;rw [h];simp only;rw [if_neg (by omega)]
theorem WJ{J:JW}{lk:Bf}{q d y k:Nat}{m:Int}(h:Em J lk q y m=none):ways J lk q d y m k=0:=by
 cases d with
 | zero=>unfold ways;rw [h]
 | succ d=>unfold ways;rw [h]
theorem Y5{J:JW}{lk:Bf}{q d y c:Nat}{m:Int}(h:Em J lk q y m=some c):List.replicate (lk.length+1) (0:Int)=GD J lk q d y m c:=by
 rw [MY];refine FI fun i _=>?_;split
 ·rename_i hi;rw [Xz h hi];rfl
 ·rfl
theorem We{J:JW}{lk:Bf}{q d y t:Nat}{m:Int}(h:lk.length<t):GD J lk q d y m t=ND J lk q d y m:=FI fun i hi=>if_pos (by omega)
theorem aU{d:Nat}(h:d≤6):3 ^ d≤729:=Nat.le_trans (Nat.pow_le_pow_right (by omega) h) (by decide)
theorem OE{n q d y k:Nat}{J:JW}{lk:Bf}{m:Int}(K:VJ n J)(O:d≤6):ways J lk q d y m k≤729:=Nat.le_trans (R9 K d y m k) (aU O)
theorem Vm{F n q y m c k d:Nat}{J:JW}{lk:Bf}{cur:List (List Int)×Int}{st:List Int×Int}(a4:100<F)(Y:VJ n J)(ag:B9 n lk)(hm:m<n)(a5:y+(d+1)=CO lk)(a6:k≤lk.length)(a0:c≤k)(a1:Em J lk q y (m:Int)=some c)(al:cur.2=(m:Int))(am:st.2=(k:Int)):
  iter (La F J (H4 J lk q (y+1),(y:Int)) cur (c:Int) st) F (GD J lk q (d+1) y (m:Int) k,0)=some (GD J lk q (d+1) y (m:Int) (k+1)):=by
 have a7:=Y.l1;have a8:=ag.len;have a9:=Ik ag;have K:=Y.FN m;have ba:=K.len;have O:m<J.1.length:=by omega
 have Z:J.1.getD m []=J.1[m]:=El O;have ap:∀i,((((J.1.getD m []).take i).map fun x=>ways J lk q d (y+1) x (k - c)).sum)≤3*729:=fun i=>by
  refine Nat.le_trans (M1 (b:=729) fun z a2=>?_) ?_
  ·obtain⟨x,_,rfl⟩:=List.mem_map.1 a2;exact OE Y (by omega)
  ·rw [List.length_map,List.length_take];exact Nat.mul_le_mul_right _ (by have:=K.len;omega)
 have U:∀v:Int,(GD J lk q (d+1) y (m:Int) k).set k v=(List.range (lk.length+1)).map fun j=>if j=k then v else if j<k then((ways J lk q (d+1) y (m:Int) j:Nat):Int) else 0:=fun v=>Lb k v
 refine CW (Ck (J.1.getD m []).length (fun i s=>s=((GD J lk q (d+1) y (m:Int) k).set k ((((((J.1.getD m []).take i).map fun x=>ways J lk q d (y+1) x (k - c)).sum:Nat)):Int),(i:Int))) ?_ (by have:=K.len;omega) ?_ ?_)
 ·rw [U];refine Prod.ext (FI fun j av=>?_) rfl;by_cases e:j=k
  ·subst e;simp
  ·rw [if_neg e]
 ·rintro i s hi rfl;unfold La;simp only [al,am];have bb:=K.inr _ (List.getElem_mem hi);obtain⟨V,aY⟩:∃V:Nat,(J.1.getD m [])[i]=(V:Int):=⟨((J.1.getD m [])[i]).toNat,by omega⟩;have bc:=ap i;have bd:=ap (i+1);have a3:(((J.1.getD m []).take (i+1)).map fun x=>ways J lk q d (y+1) x (k - c)).sum=(((J.1.getD m []).take i).map fun x=>ways J lk q d (y+1) x (k - c)).sum+ways J lk q d (y+1) (V:Int) (k - c):=by
   rw [List.take_add_one,List.getElem?_eq_getElem hi,aY];simp
  refine Bn (m:=m) rfl O ?_;rw [← Z];refine Bw (by omega) ?_;rw [U];refine FH (i:=k) rfl (by omega) ?_;rw [if_pos rfl];refine AT ((y+1:Nat):Int) (by simp) (by omega) (by omega) (FH (i:=y+1) rfl (by omega) ?_);rw [if_neg (by omega)];refine Bn (m:=m) rfl O ?_;rw [← Z];refine Bn (m:=i) rfl hi ?_;rw [aY];refine FH (i:=V) rfl (by omega) (AT ((k - c:Nat):Int) (by omega) (by omega) (by omega) ?_);refine FH (i:=k - c) rfl (by omega) ?_;rw [show CO lk - (y+1)=d by omega];refine AT ((((((J.1.getD m []).take (i+1)).map fun x=>ways J lk q d (y+1) x (k - c)).sum:Nat)):Int) (by rw [a3];simp only [Int.natCast_add]) (by omega) (by omega) (FH (i:=k) rfl (by omega) ?_);refine AT ((i+1:Nat):Int) (by simp) (by omega) (by omega) (Ak (Prod.ext ?_ rfl));simp only;rw [show Int.toNat (k:Int)=k by omega,Lb,U];refine FI fun j av=>?_;by_cases e:j=k
  ·rw [if_pos e,if_pos e]
  ·rw [if_neg e,if_neg e,if_neg e]
 ·rintro s rfl;unfold La;simp only [al,am];refine Bn (m:=m) rfl O ?_;rw [← Z];refine A8 (by omega) (Ak ⟨_,rfl,?_⟩);rw [U,List.take_length];refine FI fun j av=>?_;by_cases e:j=k
  ·subst e;rw [if_pos rfl,if_pos (by omega)]
   conv=>rhs;unfold ways
   rw [a1];simp only;rw [if_pos a0,show((m:Int)).toNat=m by omega]
  ·rw [if_neg e];by_cases aZ:j<k
   ·rw [if_pos aZ,if_pos (by omega)]
   ·rw [if_neg aZ,if_neg (by omega)]
theorem UF{F n q y m d:Nat}{J:JW}{lk:Bf}{cur:List (List Int)×Int}(Y:100<F)(Z:VJ n J)(O:B9 n lk)(hm:m<n)(ag:y+d=CO lk)(al:cur.2=(m:Int)):
  iter (JK F J lk ((CO lk:Nat):Int) (H4 J lk q (y+1),(y:Int)) cur (match Em J lk q y (m:Int) with | some c=>(c:Int) | none=>100)) F (List.replicate (lk.length+1) 0,match Em J lk q y (m:Int) with | some c=>(c:Int) | none=>100)=some (ND J lk q d y (m:Int)):=by
 have av:=O.len;have aY:=Ik O;refine CW ?_;cases K:Em J lk q y (m:Int) with
 | none=>
  simp only;refine Ck 0 (fun i s=>s=(List.replicate (lk.length+1) 0,100)) rfl (by omega) (fun i s hi=>by omega) ?_;rintro s rfl;unfold JK;refine A8 (by simp only;omega) (Ak ⟨_,rfl,?_⟩);rw [MY];exact FI fun j U=>by rw [WJ K];rfl
 | some c=>
  simp only;rw [Y5 (d:=d) K];have aZ:c≤16:=by
   unfold Em at K;split at K
   ·cases K;exact Mg _
   ·cases K
  refine Ck (lk.length+1 - c) (fun i s=>s=(GD J lk q d y (m:Int) (c+i),((c+i:Nat):Int))) rfl (by omega) ?_ ?_
  ·rintro i s hi rfl;unfold JK;refine Bw (by simp only;omega) (AE (S:=fun r=>r=GD J lk q d y (m:Int) (c+(i+1))) ?_ ?_)
   ·cases d with
    | zero=>
     refine Bw (by simp only;omega) (AE (S:=fun r=>r=GD J lk q 0 y (m:Int) (c+(i+1))) ?_ (fun r am=>Ak am));have key:∀v:Int,v=((ways J lk q 0 y (m:Int) (c+i):Nat):Int)→(List.range (lk.length+1)).map (fun j=>if j=c+i then v else if j<c+i then((ways J lk q 0 y (m:Int) j:Nat):Int) else 0)=GD J lk q 0 y (m:Int) (c+(i+1)):=fun v ap=>FI fun j U=>by
      by_cases e:j=c+i
      ·rw [if_pos e,if_pos (by omega),e,ap]
      ·rw [if_neg e];by_cases V:j<c+i
       ·rw [if_pos V,if_pos (by omega)]
       ·rw [if_neg V,if_neg (by omega)]
     refine Bl (fun h=>?_) (fun h=>?_)
     ·simp only at h;refine FH (i:=c+i) rfl (by omega) (Ak ?_);simp only;rw [show Int.toNat ((c+i:Nat):Int)=c+i by omega];unfold GD;rw [Lb];refine key 1 ?_;unfold ways;rw [K];simp only;rw [if_pos (by omega)];rfl
     ·simp only at h;refine Ak ?_;rw [← key 0 (by unfold ways;rw [K];simp only;rw [if_neg (by omega)];rfl)];refine FI fun j U=>?_;by_cases e:j=c+i
      ·rw [if_pos e,if_neg (by omega)]
      ·rw [if_neg e]
    | succ d=>
     refine A8 (by simp only;omega) (AQ (Vm (st:=(GD J lk q (d+1) y (m:Int) (c+i),((c+i:Nat):Int))) Y Z O hm ag (by omega) (by omega) K al rfl) (Ak rfl))
   ·rintro r rfl;exact AT ((c+(i+1):Nat):Int) (by simp only;omega) (by omega) (by omega) (Ak rfl)
  ·rintro s rfl;unfold JK;refine A8 (by simp only;omega) (Ak ⟨_,rfl,We (by omega)⟩)
theorem Zm{F n q:Nat}{J:JW}{lk:Bf}{h:Int}(U:100<F)(K:VJ n J)(O:B9 n lk)(Y:PE h q):f80 F J lk h=some (H4 J lk q 0):=by
 have Z:=K.l1;have am:=O.len;have ap:=Ik O;have av:=K.le;have aY:=K.pos;refine CW ?_;unfold f80;refine AQ (W5 O) ?_;refine AT ((CO lk+1:Nat):Int) (by simp) (by omega) (by omega) ?_;refine AQ (b:=H4 J lk q (CO lk+1)) ?_ ?_
 ·unfold F5;rw [if_pos (by omega),show Int.toNat ((CO lk+1:Nat):Int)=CO lk+1 by omega,MY];exact congrArg some (FI fun i hi=>(if_pos hi).symm)
 refine AE (S:=fun r=>r=H4 J lk q 0) ?_ (fun r ag=>Ak ag);refine Mq (fun t s=>t≤CO lk+1∧s=(H4 J lk q t,(t:Int) - 1)) ?_ (m:=CO lk+1) ⟨Nat.le_refl _,by simp⟩ (by omega);rintro t s ⟨ht,rfl⟩;unfold ON;cases t with
 | zero=>exact A8 (by simp) (Ak rfl)
 | succ y=>
  have al:((y+1:Nat):Int) - 1=(y:Int):=by omega
  simp only [al];refine Bw (by omega) (FH (i:=y) rfl (by omega) ?_);rw [if_pos (by omega)];refine AQ (b:=()) (by simp [Lu]) (AE (S:=fun r=>r=WR J lk q (CO lk - y) y) ?_ ?_)
  ·refine Ck n (fun i s=>s=((List.range i).map (fun m=>ND J lk q (CO lk - y) y ((m:Nat):Int)),(i:Int))) rfl (by omega) ?_ ?_
   ·rintro i s hi rfl;unfold M3;refine Bw (by simp only;omega) (AT ((lk.length+1:Nat):Int) (by simp) (by omega) (by omega) ?_);refine AQ (b:=List.replicate (lk.length+1) (0:Int)) (by unfold F5;rw [if_pos (by omega)];rfl) (AQ (WY U K O hi Y) ?_);refine AQ (UF (d:=CO lk - y) U K O hi (by omega) rfl) (Kq (by simp;omega) ?_);refine AT ((i+1:Nat):Int) (by simp) (by omega) (by omega) (Ak (Prod.ext ?_ rfl));simp only;rw [List.range_succ,List.map_append];rfl
   ·rintro s rfl;unfold M3;refine A8 (by simp only;omega) (Ak ⟨_,rfl,?_⟩);unfold WR;rw [Z]
  ·rintro r rfl;refine AQ (b:=()) ?_ ?_
   ·unfold NO;rw [if_neg];intro e;have:=congrArg List.length e;unfold WR at this;rw [List.length_map,List.length_range] at this;simp only [List.length_nil] at this;omega
   refine AT ((y:Int) - 1) rfl (by omega) (by omega) (Ak ⟨y,Nat.lt_succ_self y,by omega,Prod.ext ?_ rfl⟩);simp only;rw [show Int.toNat (y:Int)=y by omega];unfold H4;rw [Lb];refine FI fun j aZ=>?_;by_cases e:j=y
   ·rw [if_pos e,e,if_neg (by omega)]
   ·rw [if_neg e];by_cases V:j<y
    ·rw [if_pos (by omega),if_pos V]
    ·rw [if_neg (by omega),if_neg V]
end Pal
namespace Pal
def Gk(J:JW)(lk:Bf)(q a m k:Nat):Nat:=((Cw (AG J a) m).map fun x=>ways J lk q (CO lk) 0 x k).sum
theorem Rj{n q a m k:Nat}{J:JW}{lk:Bf}(K:VJ n J)(O:B9 n lk)(hm:m≤8):Gk J lk q a m k≤8*729:=by
 refine Nat.le_trans (M1 (b:=729) fun z U=>?_) ?_
 ·obtain⟨x,_,rfl⟩:=List.mem_map.1 U;exact OE K (Ik O)
 ·rw [List.length_map];exact Nat.mul_le_mul_right _ (Nat.le_trans (Me _ _) hm)
theorem R2{n q a k:Nat}{J:JW}{lk:Bf}(K:VJ n J):Gk J lk q a n k=nT J lk q a k:=by
 have O:=K.le;rw [XL K];unfold Gk;have:=T0 (Ix K a) (16 - n);rw [show n+(16 - n)=16 by omega] at this;rw [this]
theorem Tb{n q a k:Nat}{J:JW}{lk:Bf}(K:VJ n J)(O:B9 n lk):nT J lk q a k≤8*729:=by
 rw [← R2 K];exact Rj K O K.le
def TR(J:JW)(lk:Bf)(q a:Nat):List Int:=(List.range (lk.length+1)).map fun k=>((nT J lk q a k:Nat):Int)
def LJ(J:JW)(lk:Bf)(q:Nat):List (List Int):=(List.range 13).map (TR J lk q)
theorem ao{J:JW}{lk:Bf}{q:Nat}:(H4 J lk q 0)[0]? =some (WR J lk q (CO lk) 0):=by
 unfold H4;rw [JJ (by omega),if_neg (by omega)];rfl
theorem O1{F n q:Nat}{J:JW}{lk:Bf}{h:Int}(U:100<F)(K:VJ n J)(O:B9 n lk)(al:PE h q):f79 F J lk h=some (LJ J lk q):=by
 have aZ:=K.l1;have a0:=O.len;have a1:=K.le;refine CW ?_;unfold f79;refine AQ (Zm U K O al) ?_;refine AE (S:=fun r=>r=LJ J lk q) ?_ (fun r am=>Ak am);refine Ck 13 (fun a s=>s=((List.range a).map (TR J lk q),(a:Int))) rfl (by omega) ?_ ?_
 ·rintro a s ap rfl;unfold MT;refine Bw (by simp only;omega) (AT ((lk.length+1:Nat):Int) (by simp) (by omega) (by omega) ?_);refine AQ (b:=List.replicate (lk.length+1) (0:Int)) (by unfold F5;rw [if_pos (by omega)];rfl) (AE (YP U K ap) ?_);rintro l ⟨a2,av⟩;refine AE (S:=fun r=>r=TR J lk q a) ?_ ?_
  ·refine Ck n (fun m s=>s=((List.range (lk.length+1)).map (fun k=>((Gk J lk q a m k:Nat):Int)),(m:Int))) ?_ (by omega) ?_ ?_
   ·rw [MY];rfl
   ·rintro m s hm rfl;unfold MV;refine Bw (by simp only;omega) ?_;have V:ix l (m:Int)=some ((AG J a).testBit m):=D6 rfl (av m hm);have Y:∀k,Gk J lk q a (m+1) k=if(AG J a).testBit m=true then Gk J lk q a m k+ways J lk q (CO lk) 0 (m:Int) k else Gk J lk q a m k:=fun k=>by
     unfold Gk;rw [N4];split
     ·simp
     ·rfl
    refine AE (S:=fun r=>r=(List.range (lk.length+1)).map (fun k=>((Gk J lk q a (m+1) k:Nat):Int))) ?_ ?_
    ·cases hb:(AG J a).testBit m with
     | false=>
      refine Ck 0 (fun i s=>s=((List.range (lk.length+1)).map (fun k=>((Gk J lk q a m k:Nat):Int)),(0:Int))) rfl (by omega) (fun i s hi=>by omega) ?_;rintro s rfl;unfold KZ;refine AQ (b:=false) ?_ ?_
      ·simp only;rw [if_pos (by simp),V,hb];rfl
      ·refine A8 (by simp) (Ak ⟨_,rfl,FI fun k _=>?_⟩);rw [Y,hb,if_neg (by simp)]
     | true=>
      refine Ck (lk.length+1) (fun i s=>s=((List.range (lk.length+1)).map (fun k=>if k<i then((Gk J lk q a (m+1) k:Nat):Int) else((Gk J lk q a m k:Nat):Int)),(i:Int))) ?_ (by omega) ?_ ?_
      ·exact Prod.ext (FI fun k _=>(if_neg (by omega)).symm) rfl
      ·rintro i s hi rfl;unfold KZ;refine AQ (b:=true) ?_ ?_
       ·simp only;rw [if_pos (by simp;omega),V,hb];rfl
       refine Bw rfl (FH (i:=i) rfl hi ?_);rw [if_neg (by omega)];refine AQ (D6 (m:=0) rfl ao) (FH (i:=m) rfl (by omega) ?_);refine FH (i:=i) rfl hi ?_;have a3:=Rj (q:=q) (a:=a) (m:=m) (k:=i) K O (by omega);have a4:=OE (q:=q) (d:=CO lk) (y:=0) (k:=i) (m:=(m:Int)) (lk:=lk) K (Ik O);have Z:=Y i;rw [hb,if_pos rfl] at Z;refine AT ((Gk J lk q a (m+1) i:Nat):Int) (by rw [Z];simp only [Int.natCast_add]) (by omega) (by omega) (FH (i:=i) rfl hi ?_);refine AT ((i+1:Nat):Int) (by simp) (by omega) (by omega) (Ak (Prod.ext ?_ rfl));simp only;rw [show Int.toNat (i:Int)=i by omega,Lb];refine FI fun j a5=>?_;by_cases e:j=i
       ·rw [if_pos e,if_pos (by omega),e]
       ·rw [if_neg e];by_cases ag:j<i
        ·rw [if_pos ag,if_pos (by omega)]
        ·rw [if_neg ag,if_neg (by omega)]
      ·rintro s rfl;unfold KZ;refine AQ (b:=false) ?_ ?_
       ·rw [if_neg (by simp)]
       ·refine A8 (by simp) (Ak ⟨_,rfl,FI fun k aY=>if_pos aY⟩)
    ·rintro r rfl;exact AT ((m+1:Nat):Int) (by simp) (by omega) (by omega) (Ak rfl)
   ·rintro s rfl;unfold MV;refine A8 (by simp only;omega) (Ak ⟨_,rfl,FI fun k _=>?_⟩);rw [R2 K]
  ·rintro r rfl;refine Kq (by simp;omega) (AT ((a+1:Nat):Int) (by simp) (by omega) (by omega) ?_);refine Ak (Prod.ext ?_ rfl);simp only;rw [List.range_succ,List.map_append];rfl
 ·rintro s rfl;unfold MT;exact A8 (by simp) (Ak ⟨_,rfl,rfl⟩)
theorem QG{n a:Nat}{J:JW}{lk:Bf}(K:VJ n J)(O:B9 n lk){t:CG}(ht:t∈TA J lk a):CU t≤lk.length:=by
 rw [W3 K O ht];exact List.length_filter_le _ _
def Ka(J:JW)(lk:Bf)(q k:Nat):Nat:=(TT J lk).countP fun t=>decide (CU t=k)&& !t.2.2.testBit q
theorem Xq(J:JW)(lk:Bf)(q k:Nat):Ka J lk q k=((List.range 13).map fun a=>nT J lk q a k).sum:=by
 unfold Ka TT;rw [List.countP_flatMap];rfl
theorem Z0{n q a k:Nat}{J:JW}{lk:Bf}(K:VJ n J)(O:B9 n lk)(U:lk.length≤q):0<nT J lk q a k↔∃t∈TA J lk a,CU t=k:=by
 rw [XR K O U,List.countP_pos_iff];simp only [decide_eq_true_iff]
theorem Zf{F n:Nat}{J:JW}{lk:Bf}(av:100<F)(Z:VJ n J)(V:B9 n lk):AY (f95 F J lk) (fun r=>(TT J lk= []∧r= -1)∨∃k,F3 J lk k∧r=(k:Int)):=by
 have a0:=V.len;have al:∀a k,0<nT J lk 16 a k↔∃t∈TA J lk a,CU t=k:=fun a k=>Z0 Z V (by omega);unfold f95;refine AQ (O1 av Z V (.inl ⟨rfl,rfl⟩)) ?_;refine AE (S:=fun r=>(r=Sum.inr ()∧TT J lk= [])∨∃k,F3 J lk k∧r=Sum.inl (k:Int)) ?_ ?_
 ·refine Ck (lk.length+1) (fun k s=>s=(k:Int)∧∀k',k'<k→∀a,a<13→∀t∈TA J lk a,CU t≠k') ⟨rfl,fun k' am=>by omega⟩ (by omega) ?_ ?_
  ·rintro k s am ⟨rfl,Y⟩;unfold Nj;refine Bw (by omega) (AE (S:=fun r=>(r=Sum.inr ()∧∀a,a<13→∀t∈TA J lk a,CU t≠k)∨(r=Sum.inl (k:Int)∧∃a,a<13∧∃t∈TA J lk a,CU t=k)) ?_ ?_)
   ·refine Ck 13 (fun a s=>s=(a:Int)∧∀U,U<a→∀t∈TA J lk U,CU t≠k) ⟨rfl,fun U K=>by omega⟩ (by omega) ?_ ?_
    ·rintro a s K ⟨rfl,ag⟩;unfold Ng;refine Bw (by omega) (FH (i:=a) rfl K ?_);refine FH (i:=k) rfl am (Bl (fun h=>?_) (fun h=>?_))
     ·exact Ak (.inr ⟨rfl,a,K,(al a k).1 (by omega)⟩)
     ·refine AT ((a+1:Nat):Int) (by simp) (by omega) (by omega) (Ak ⟨rfl,fun U a1 t ht e=>?_⟩);rcases Nat.lt_or_ge U a with O | O
      ·exact ag U O t ht e
      ·obtain rfl:U=a:=by omega
       have:=(al U k).2 ⟨t,ht,e⟩;omega
    ·rintro s ⟨rfl,ag⟩;unfold Ng;exact A8 (by omega) (Ak ⟨_,rfl,.inl ⟨rfl,ag⟩⟩)
   ·rintro r (⟨rfl,aY⟩ | ⟨rfl,a,K,t,ht,e⟩)
    ·rw [Sum.elim_inr];refine AT ((k+1:Nat):Int) (by simp) (by omega) (by omega) (Ak ⟨rfl,fun k' a2 a K t ht e=>?_⟩);rcases Nat.lt_or_ge k' k with O | O
     ·exact Y k' O a K t ht e
     ·obtain rfl:k'=k:=by omega
      exact aY a K t ht e
    ·rw [Sum.elim_inl];refine Ak (.inr ⟨k,⟨⟨t,JV.2 ⟨a,K,ht⟩,e⟩,fun u hu=>?_⟩,rfl⟩);obtain⟨b,hb,aZ⟩:=JV.1 hu;rcases Nat.lt_or_ge (CU u) k with O | O
     ·exact absurd rfl (Y _ O b hb u aZ)
     ·exact O
  ·rintro s ⟨rfl,Y⟩;unfold Nj;refine A8 (by omega) (Ak ⟨_,rfl,.inl ⟨rfl,?_⟩⟩);refine List.eq_nil_iff_forall_not_mem.2 fun t ht=>?_;obtain⟨a,K,ap⟩:=JV.1 ht;exact Y _ (by have:=QG Z V ap;omega) a K t ap rfl
 ·rintro r (⟨rfl,h⟩ | ⟨k,h,rfl⟩)
  ·exact Ak (.inl ⟨h,rfl⟩)
  ·exact Ak (.inr ⟨k,h,rfl⟩)
theorem Ry{F n q k:Nat}{J:JW}{lk:Bf}(Z:100<F)(K:VJ n J)(O:B9 n lk)(ag:k≤lk.length):f105 F (LJ J lk q) (k:Int)=some ((Ka J lk q k:Nat):Int):=by
 have U:∀i,i≤13→((List.range i).map fun a=>nT J lk q a k).sum≤13*(8*729):=fun i hi=>by
  refine Nat.le_trans (M1 (b:=8*729) fun z V=>?_) ?_
  ·obtain⟨x,_,rfl⟩:=List.mem_map.1 V;exact Tb K O
  ·rw [List.length_map,List.length_range];exact Nat.mul_le_mul_right _ hi
 refine CW ?_;unfold f105;refine AE (S:=fun r=>r=((Ka J lk q k:Nat):Int)) ?_ (fun r Y=>Ak Y);refine Ck 13 (fun i s=>s=(((((List.range i).map fun a=>nT J lk q a k).sum:Nat):Int),(i:Int))) rfl (by omega) ?_ ?_
 ·rintro i s hi rfl;unfold MM;refine Bw (by simp only [LJ,List.length_map,List.length_range];omega) (FH (i:=i) rfl hi ?_);refine FH (i:=k) rfl (by omega) ?_;have al:=U i (by omega);have am:=Tb (q:=q) (a:=i) (k:=k) K O;refine AT (((((List.range (i+1)).map fun a=>nT J lk q a k).sum:Nat)):Int) ?_ (by omega) ?_ ?_
  ·rw [List.range_succ,List.map_append,List.sum_append];simp
  ·have:=U (i+1) (by omega);omega
  exact AT ((i+1:Nat):Int) (by simp) (by omega) (by omega) (Ak rfl)
 ·rintro s rfl;unfold MM;refine A8 (by simp only [LJ,List.length_map,List.length_range];omega) (Ak ⟨_,rfl,?_⟩);rw [Xq]
end Pal
namespace Pal
theorem Ua{n:Nat}{lk:Bf}(h:HU n lk=none):B9 n lk∧lk.length≤4:=by
 unfold HU at h;split at h
 ·cases h
 rename_i ap;have K:∀i (hi:i<lk.length),¬(lk[i].1<0∨6<lk[i].1)∧¬(0<i∧lk[i].1<(lk.getD (i - 1) (0,0)).1)∧¬(lk[i].2<0∨(n:Int) - 1<lk[i].2):=fun i hi=>by
  have:=List.findSome?_eq_none_iff.1 h i (List.mem_range.2 hi);unfold Fg at this;rw [El hi] at this;split at this
  ·cases this
  ·split at this
   ·cases this
   ·split at this
    ·cases this
    ·rename_i V Y Z;exact⟨V,Y,Z⟩
 refine⟨⟨by omega,fun l O=>?_,fun l O=>?_,?_⟩,by omega⟩
 ·obtain⟨i,hi,rfl⟩:=List.mem_iff_getElem.1 O;have:=(K i hi).1;omega
 ·obtain⟨i,hi,rfl⟩:=List.mem_iff_getElem.1 O;have:=(K i hi).2.2;omega
 ·have step:∀i (hi:i+1<lk.length),lk[i].1≤lk[i+1].1:=fun i hi=>by
   have:=(K (i+1) hi).2.1;rw [show i+1 - 1=i by omega,El (by omega)] at this;omega
  rw [List.pairwise_iff_getElem];intro i j hi av aY;have key:∀k (U:i+1+k<lk.length),lk[i].1≤lk[i+1+k].1:=fun k=>by
   induction k with
   | zero=>intro U;exact step i U
   | succ k ag=>intro U;have al:=ag (by omega);have am:=step (i+1+k) (by omega);exact Int.le_trans al am
  have:=key (j - i - 1) (by omega);simpa [show i+1+(j - i - 1)=j by omega] using this
theorem Kx{J:JW}{lk:Bf}(h:CL J lk=0):VJ J.1.length J∧B9 J.1.length lk∧lk.length≤4:=by
 unfold CL at h;cases O:CJ J with
 | some c=>rw [O] at h;exact absurd h (S4 O)
 | none=>
  rw [O] at h;refine⟨Wn O,Ua ?_⟩;cases K:HU J.1.length lk with
  | none=>rfl
  | some c=>
   rw [K] at h;simp only [Option.getD_some] at h;subst h;exfalso;unfold HU at K;split at K
   ·cases K
   ·obtain⟨i,_,hi⟩:=List.exists_of_findSome?_eq_some K;unfold Fg at hi;split at hi
    ·cases hi
    ·split at hi
     ·cases hi
     ·split at hi <;> cases hi
theorem SS{F:Nat}{J:JW}{lk:Bf}(K:100<F)(O:NL J)(h:CL J lk=0):Ht F J lk=f69 F J lk:=by
 obtain⟨U,V,Y⟩:=Kx h;rw [Mk K O,h,OY K U V Y]
theorem Sc{F:Nat}{J:JW}{lk:Bf}{p:Int}{b:Bool}(K:100<F)(O:NL J)(h:CL J lk=0):Hv F J lk p b=f78 F J lk p b:=by
 unfold Hv f78;rw [SS K O h]
theorem Zg{F:Nat}{J:JW}{lk:Bf}(K:100<F)(O:NL J)(h:CL J lk=0):Jd F J lk=f47 F J lk:=by
 unfold Jd f47;rw [Sc K O h]
theorem YT{F:Nat}{J:JW}{lk:Bf}{p:Int}(K:100<F)(O:NL J)(h:CL J lk=0):HV F J lk p=f49 F J lk p:=by
 unfold HV f49;rw [SS K O h,Sc K O h]
 rfl
def LC(J:JW)(lk:Bf)(r:Int×Int):Prop:=(CL J lk≠0∧r=(0,CL J lk))∨(CL J lk=0∧((TT J lk= []∧r=(0,11))∨∃k,F3 J lk k∧r=((k:Int),0)))
theorem F3.ne{J:JW}{lk:Bf}{k:Nat}(h:F3 J lk k):TT J lk≠ []:=fun e=>by
 obtain⟨⟨t,ht,_⟩,_⟩:=h
 rw [e] at ht;simp at ht
theorem LC.uniq{J:JW}{lk:Bf}{r q:Int×Int}(h:LC J lk r)(V:LC J lk q):r=q:=by
 rcases h with⟨O,rfl⟩ | ⟨O,K⟩ <;> rcases V with⟨U,rfl⟩ | ⟨U,g2⟩
 ·rfl
 ·exact absurd U O
 ·exact absurd O U
 ·rcases K with⟨K,rfl⟩ | ⟨k,K,rfl⟩ <;> rcases g2 with⟨g2,rfl⟩ | ⟨k',g2,rfl⟩
  ·rfl
  ·exact absurd K g2.ne
  ·exact absurd g2 K.ne
  ·rw [K.uniq g2]
theorem Wi{F:Nat}{J:JW}{lk:Bf}(O:268435456<F)(K:NL J):AY (Jd F J lk) (LC J lk):=by
 by_cases h:CL J lk=0
 ·obtain⟨U,V,Y⟩:=Kx h;rw [Zg (by omega) K h];exact(ZE O U V Y).Ah fun r Z=> .inr ⟨h,Z⟩
 ·unfold Jd Hv;refine AQ (b:=(none,(0,[]),CL J lk)) ?_ (Ak (.inl ⟨h,rfl⟩));rw [Mk (by omega) K,Option.bind_some,if_pos h]
theorem RL{F:Nat}{J:JW}{lk:Bf}(U:100<F)(V:NL J):AY (f48 F J lk) (LC J lk):=by
 unfold f48;refine AQ (R7 U V) (Bl (fun h=>Ak (.inl ⟨h,rfl⟩)) (fun h=>?_));have K:CL J lk=0:=by simpa using h
 obtain⟨Y,Z,ag⟩:=Kx K;refine AE (Zf U Y Z) ?_;rintro r (⟨O,rfl⟩ | ⟨k,O,rfl⟩)
 ·exact Bw (by omega) (Ak (.inr ⟨K,.inl ⟨O,rfl⟩⟩))
 ·exact A8 (by omega) (Ak (.inr ⟨K,.inr ⟨k,O,rfl⟩⟩))
theorem PR{α:Type}(p b:α→Bool):∀l:List α,l.countP (fun x=>p x&& !b x)+((l.filter p).filter b).length=(l.filter p).length
 | []=>rfl
 | x::l=>by
  have:=PR p b l
  simp only [List.countP_cons,List.filter_cons]
  cases K:p x <;> cases hb:b x <;> simp [hb,-List.filter_filter] <;> omega
theorem Qf(J:JW)(lk:Bf)(q k:Nat):Ka J lk q k+((DO J lk k).filter fun t=>t.2.2.testBit q).length=(DO J lk k).length:=PR _ _ _
theorem XS{n k q:Nat}{J:JW}{lk:Bf}(K:VJ n J)(O:B9 n lk)(Y:lk.length≤q):Ka J lk q k=(DO J lk k).length:=by
 have:=Qf J lk q k;have e:(DO J lk k).filter (fun t=>t.2.2.testBit q)= []:=by
  refine List.filter_eq_nil_iff.2 fun t ht=>?_;obtain⟨a,Z,U⟩:=JV.1 (List.mem_filter.1 ht).1;obtain⟨_,_,_,_,e⟩:=(OZ K O).1 U;intro hb;rw [e] at hb;obtain⟨l,V,_⟩:=(MO _ _ _ _).1 hb;have:=(List.getElem?_eq_some_iff.1 V).1;omega
 rw [e] at this;simpa using this
def J1(J:JW)(lk:Bf)(p:Int)(r:Int×Int):Prop:=(CL J lk≠0∧r=(0,CL J lk))∨(CL J lk=0∧((¬(0≤p∧p≤(lk.length:Int) - 1)∧r=(0,3))∨((0≤p∧p≤(lk.length:Int) - 1)∧
 ((TT J lk= []∧r=(0,11))∨∃k,F3 J lk k∧r=(vd ((DO J lk k).filter fun t=>t.2.2.testBit p.toNat).length (DO J lk k).length,0)))))
theorem J1.uniq{J:JW}{lk:Bf}{p:Int}{r q:Int×Int}(h:J1 J lk p r)(Z:J1 J lk p q):r=q:=by
 rcases h with⟨V,rfl⟩ | ⟨V,U⟩ <;> rcases Z with⟨Y,rfl⟩ | ⟨Y,g2⟩
 ·rfl
 ·exact absurd Y V
 ·exact absurd V Y
 ·rcases U with⟨U,rfl⟩ | ⟨U,K⟩ <;> rcases g2 with⟨g2,rfl⟩ | ⟨g2,O⟩
  ·rfl
  ·exact absurd g2 U
  ·exact absurd U g2
  ·rcases K with⟨K,rfl⟩ | ⟨k,K,rfl⟩ <;> rcases O with⟨O,rfl⟩ | ⟨k',O,rfl⟩
   ·rfl
   ·exact absurd K O.ne
   ·exact absurd O K.ne
   ·rw [K.uniq O]
theorem VO{F:Nat}{J:JW}{lk:Bf}{p:Int}(U:3489660928<F)(K:NL J):AY (HV F J lk p) (J1 J lk p):=by
 by_cases h:CL J lk=0
 ·obtain⟨V,Y,Z⟩:=Kx h;by_cases O:0≤p∧p≤(lk.length:Int) - 1
  ·rw [YT (by omega) K h];obtain⟨q,rfl⟩:∃q:Nat,p=(q:Int):=⟨p.toNat,by omega⟩;exact(Ze U V Y Z (by omega)).Ah fun r ag=> .inr ⟨h,.inr ⟨O,ag⟩⟩
  ·unfold HV;refine AQ (Mk (by omega) K) (A8 (by simpa using h) ?_);refine AT ((lk.length:Int) - 1) rfl (by omega) (by omega) (AQ (HM F _ _ _) ?_);exact Bw (decide_eq_true (by omega)) (Ak (.inr ⟨h,.inl ⟨O,rfl⟩⟩))
 ·unfold HV;exact AQ (Mk (by omega) K) (Bw h (Ak (.inl ⟨h,rfl⟩)))
theorem WE{F:Nat}{J:JW}{lk:Bf}{p:Int}(K:100<F)(ag:NL J)(a0:lk.length≤20):AY (f50 F J lk p) (J1 J lk p):=by
 unfold f50;refine AQ (R7 K ag) (Bl (fun h=>Ak (.inl ⟨h,rfl⟩)) (fun h=>?_));have V:CL J lk=0:=by simpa using h
 obtain⟨O,U,a1⟩:=Kx V;refine AT ((lk.length:Int) - 1) rfl (by omega) (by omega) (AQ (KF F _ _ _) ?_);refine Bl (fun Z=>?_) (fun Z=>?_)
 ·exact Ak (.inr ⟨V,.inl ⟨fun ap=>by simp [ap] at Z,rfl⟩⟩)
 have al:0≤p∧p≤(lk.length:Int) - 1:=by simpa using Z
 refine AE (RL K ag) ?_;rintro r (⟨g,_⟩ | ⟨_,⟨Y,rfl⟩ | ⟨k,Y,rfl⟩⟩)
 ·exact absurd V g
 ·exact Bw (by simp) (Ak (.inr ⟨V,.inr ⟨al,.inl ⟨Y,rfl⟩⟩⟩))
 ·refine A8 (by simp) ?_;obtain⟨q,rfl⟩:∃q:Nat,p=(q:Int):=⟨p.toNat,by omega⟩;have am:k≤lk.length:=by
   obtain⟨⟨t,ht,rfl⟩,_⟩:=Y;obtain⟨a,av,aY⟩:=JV.1 ht;exact QG O U aY
  have a2:=Y.pos;have hs:=Qf J lk q k;have av:=XS (k:=k) (q:=16) O U (by omega);refine AQ (O1 K O U (.inr ⟨rfl,by omega⟩)) ?_;refine AQ (Ry K O U am) ?_;have fin:∀v:Int,v=vd ((DO J lk k).filter fun t=>t.2.2.testBit q).length (DO J lk k).length→J1 J lk (q:Int) (v,0):=fun v aZ=> .inr ⟨V,.inr ⟨al,.inr ⟨k,Y,by rw [aZ];rfl⟩⟩⟩;refine Bl (fun c=>?_) (fun c=>?_)
  ·refine Ak (fin 1 ?_);unfold vd;rw [if_neg (by omega),if_neg (by omega)]
  ·refine AQ (O1 K O U (.inl ⟨rfl,rfl⟩)) (AQ (Ry K O U am) ?_);refine Bl (fun c2=>?_) (fun c2=>?_)
   ·refine Ak (fin 2 ?_);unfold vd;rw [if_pos (by omega)]
   ·refine Ak (fin 3 ?_);unfold vd;rw [if_neg (by omega),if_pos (by omega)]
end Pal
namespace Pal
open Go Go.Conc Go.Proofs
open Go.Proofs.Tryz
variable {J:Judge Tryz.prog}{E:LH}
def NJ(fuel:Nat)(p0:AI):Option ((AI)):= (Dd ([]:AI) p0).bind fun K=> some K
theorem Sw{K:An}{c2:Nat}{p0:AI}(Y:Al Bo E K c2 p0){fuel:Nat}{r:(AI)}(O:NJ fuel p0=some r):AK J 27 [sV K p0 c2] E [] (fun w E' B'=>∃(U:An) (V:Nat) (g0:Seg),w= sV U r V∧B'=g0∧OL 27 Bo E' U V g0 r):=by
 refine A3 func27 fun Q a3 cs H Z ag=>?_;unfold NJ at O;refine zg 6 rfl (KX (pp:=Bo) rfl rfl rfl underlying25 Cc Z fun a4 a5 al am=>?_);obtain⟨a6,ap,av⟩:=bs O;refine zg 1 rfl (KN (pp:=Bo) 1 ap rfl rfl rfl rfl rfl rfl rfl underlying25 underlying25 Cc (CR type27) Er rfl (by decide) (by decide) al Y am rfl fun aY aZ a0 a1 a2=>?_);refine zg 2 rfl ?_;obtain rfl:=oi av;exact AA func27 rfl rfl (ag Ar rfl ⟨aY,aZ,a0,rfl,(by first | rfl | simp | (simp [Value.cells])),a1⟩ a2)
def f25(fuel:Nat)(p0:AI)(p1:Int×Int)(p2:A2)(p3:BV):Option ((List AI)×(BV)):= (f40 fuel p3 p2 3).bind fun K=> (NJ fuel K.1).bind fun O=> (Dd O ([p1]:AI)).bind fun U=> some (([p0,K.1,U]:List AI),K.2)
theorem aO{al:An}{c2:Nat}{a2:An}{a3:Nat}{a4:An}{a5:Nat}{bk:Nat}{a6:An}{a7:Nat}{p0:AI}{p1:Int×Int}{p2:A2}{p3:BV}(a8:Al Bo E al c2 p0)(bp:Al (rL rI) E a2 a3 p2.1)(bq:Al (rL rI) E a4 a5 p2.2)(br:Al rI E a6 a7 p3.1){fuel:Nat}{r:(List AI)×(BV)}(a9:f25 fuel p0 p1 p2 p3=some r):AK J 25 [sV al p0 c2,.agg #[iV p1.1,iV p1.2],.agg #[sV a2 p2.1 a3,sV a4 p2.2 a5],pV bk 0] E [(bk,.cells #[sV a6 p3.1 a7,iV p3.2.1,.int .u64 ((p3.2.2:Nat):Int)] 92 (0,0))] (fun w E' B'=>∃(ba:An) (bb:Nat) (bc:An) (bd:Nat),w= sV ba r.1 bb∧B'= [(bk,.cells #[sV bc r.2.1 bd,iV r.2.2.1,.int .u64 ((r.2.2.2:Nat):Int)] 92 (0,0))]∧Al (rL Bo) E' ba bb r.1∧Al rI E' bc bd r.2.1):=by
 refine A3 func25 fun Q co cs H bu be=>?_;unfold f25 at a9;refine zg 2 rfl (B4 bu fun cp cq U bv bw=>?_);refine B4 bw fun cr ct O bx bz=>?_;refine zg 5 rfl (BO bx BW BD rfl rfl ?_);obtain⟨K,bA,bB⟩:=bs a9;refine BZ 0 (ak (br.Ah (U.Ab O)) (bp.Ah (U.Ab O)) (bq.Ah (U.Ab O)) bA) rfl rfl (AS func40 rfl) bz rfl ?_;rintro _ cu _ Z ⟨am,ap,V,Y,rfl,rfl,av,bf⟩ bC;refine Cq (S':= [[(bk,.cells #[sV V K.2.1 Y,iV K.2.2.1,.int .u64 ((K.2.2.2:Nat):Int)] 92 (0,0))],[],[]]) rfl bC fun bg=>zg 3 rfl (C6 7 fun ht=>?_);refine A4 ht rfl [0,1,2] rfl (Fa 4 ht (bv.Ah (O.Ab Z)) Gs Cc rfl rfl rfl ?_);obtain⟨cv,bh,bD⟩:=bs bB;obtain⟨aY,bi,bj⟩:=bs bD;refine I3 (i:=3) (j:=5) rfl (by decide+kernel) ?_ ?_
 ·refine Take.HT (vs:= [sV am K.1 ap]) bg (Sw av bh) rfl rfl rfl Kg rfl ?_;rintro _ cw _ aZ ⟨cy,cz,cA,rfl,rfl,bE⟩ bF;refine JG.one (i:=5) rfl (by decide+kernel) (Take.NK (pp:=Bo) [.agg #[iV p1.1,iV p1.2]] ([p1]:AI) bF rfl rfl rfl underlying25 Cc Er (by decide) rfl rfl rfl ⟨⟨_,_,rfl,rfl,rfl⟩,trivial⟩ fun cB bl bG bH=>?_);refine JG.one (i:=6) rfl (by decide+kernel) (Take.app0 (pp:=Bo) 3 4 bH bi rfl rfl rfl rfl rfl rfl rfl underlying25 underlying25 Cc (CR type27) Er rfl (by decide) (by decide) bE bG rfl rfl fun bI bJ cC bK bL bM=>?_);refine Ci [7,8] (EO 3 rfl bM fun bN=>?_);refine JS.drop 3 bN rfl fun bO=>Cq (S':= [[(bk,.cells #[sV V K.2.1 Y,iV K.2.2.1,.int .u64 ((K.2.2.2:Nat):Int)] 92 (0,0))],[],[],[],bl,bK]) rfl bO fun bP=>B7 5 bL bP rfl fun cD a0 bQ bR=>Dx (pp:=(rL Bo)) [sV al p0 c2,sV am K.1 ap,sV bI aY bJ] [p0,K.1,aY] rfl rfl rfl underlying35 Hg (Du type25) (by decide) rfl rfl rfl ⟨⟨_,_,rfl,(a8.Ah ((((U.Ab O).Ab Z).Ab aZ).Ab a0))⟩,⟨_,_,rfl,(av.Ah (aZ.Ab a0))⟩,⟨_,_,rfl,bQ⟩,trivial⟩ bR fun bS cE bT bU=>zg 2 rfl (B7 6 bT bU rfl fun cF bm bV bW=>?_);refine Cq (S':= [[(bk,.cells #[sV V K.2.1 Y,iV K.2.2.1,.int .u64 ((K.2.2.2:Nat):Int)] 92 (0,0))],[],[],[],bl,[],[]]) rfl bW fun bY=>JS.drop 4 bY rfl fun bZ=>?_;obtain rfl:=oi bj;exact AA func25 rfl rfl (be (((((U.Ab O).Ab Z).Ab aZ).Ab a0).Ab bm) rfl ⟨(AZ bS),3,V,Y,rfl,rfl,bV,(bf.Ah ((aZ.Ab a0).Ab bm))⟩ bZ)
 ·refine Take.NK (pp:=Bo) [.agg #[iV p1.1,iV p1.2]] ([p1]:AI) bg rfl rfl rfl underlying25 Cc Er (by decide) rfl rfl rfl ⟨⟨_,_,rfl,rfl,rfl⟩,trivial⟩ fun cG bn b0 b1=>JG.one (i:=3) rfl (by decide+kernel) (Take.HT (vs:= [sV am K.1 ap]) b1 (Sw av bh) rfl rfl rfl Kg rfl ?_);rintro _ cH _ ag ⟨cI,cJ,cK,rfl,rfl,b2⟩ b3;refine JG.one (i:=6) rfl (by decide+kernel) (Take.app0 (pp:=Bo) 4 3 b3 bi rfl rfl rfl rfl rfl rfl rfl underlying25 underlying25 Cc (CR type27) Er rfl (by decide) (by decide) b2 (b0.Ah ag) rfl rfl fun b4 b5 cM b6 b7 b8=>?_);refine Ci [7,8] (EO 4 rfl b8 fun b9=>?_);refine JS.drop 4 b9 rfl fun ca=>Cq (S':= [[(bk,.cells #[sV V K.2.1 Y,iV K.2.2.1,.int .u64 ((K.2.2.2:Nat):Int)] 92 (0,0))],[],[],bn,[],b6]) rfl ca fun cb=>B7 5 b7 cb rfl fun cN a1 cc cd=>Dx (pp:=(rL Bo)) [sV al p0 c2,sV am K.1 ap,sV b4 aY b5] [p0,K.1,aY] rfl rfl rfl underlying35 Hg (Du type25) (by decide) rfl rfl rfl ⟨⟨_,_,rfl,(a8.Ah ((((U.Ab O).Ab Z).Ab ag).Ab a1))⟩,⟨_,_,rfl,(av.Ah (ag.Ab a1))⟩,⟨_,_,rfl,cc⟩,trivial⟩ cd fun ce cO cf cg=>zg 2 rfl (B7 6 cf cg rfl fun cP bo ci ck=>?_);refine Cq (S':= [[(bk,.cells #[sV V K.2.1 Y,iV K.2.2.1,.int .u64 ((K.2.2.2:Nat):Int)] 92 (0,0))],[],[],bn,[],[],[]]) rfl ck fun cm=>JS.drop 3 cm rfl fun cn=>?_;obtain rfl:=oi bj;exact AA func25 rfl rfl (be (((((U.Ab O).Ab Z).Ab ag).Ab a1).Ab bo) rfl ⟨(AZ ce),3,V,Y,rfl,rfl,ci,(bf.Ah ((ag.Ab a1).Ab bo))⟩ cn)
end Pal
namespace Pal
theorem Zh{F k n:Nat}{b:Ey}{J:JW}{lk:List (Int×Int)}{l:Int×Int}(O:100<F)(U:VJ n J)(hb:BG k b)(V:k<900)(Z:lk.length≤20):
  AY (f25 F lk l J b) (fun r=>(∃u v:List (Int×Int),r.1= [lk,u,v]∧u.length≤20∧v.length≤20)∧BG (k+100) r.2):=by
 unfold f25;refine AE (Zp (many:=3) O U hb V (by omega)) ?_;rintro⟨u,ag⟩ ⟨_,Y,_,K⟩;simp only at Y K ⊢;refine AQ (b:=u) (by unfold NJ Dd;rw [if_pos (by simp;omega)];rfl) (AQ (b:=u++ [l]) (by unfold Dd;rw [if_pos (by simp;omega)]) ?_);exact Ak ⟨⟨u,u++ [l],rfl,by omega,by simp;omega⟩,K⟩
theorem Tk{α:Type}{P:α→Prop}{a b c:α}(K:P a)(hb:P b)(O:P c):∀i,i<3→∃x,([a,b,c]:List α)[i]? =some x∧P x
 | 0,_=>⟨a,rfl,K⟩
 | 1,_=>⟨b,rfl,hb⟩
 | 2,_=>⟨c,rfl,O⟩
theorem ZZ{F:Nat}{J:JW}{lk:List (Int×Int)}{l:Int×Int}{J0:List Int}{g:List JW×Ey→List (List (Int×Int))×Ey→Option Bool}(O:100<F)(hs:ID F=some true)
  (H:∀(K:JW) (u v:List (Int×Int)) (aZ U:Ey),NL J→NL K→lk.length≤20→u.length≤20→v.length≤20→BG 401 U→AY (g ([J,K,K],aZ) ([lk,u,v],U)) (fun r=>r=true)):
  AY ((f21 F J).bind fun a0=>Option.bind (if a0=true then some true else some (decide (20<(lk.length:Int)))) fun a1=>if a1=true then(ID F).bind fun x=>some x else(f23 F J0).bind fun a2=>(f24 F J a2).bind fun V=>(ix V.1 1).bind fun a3=>(f25 F lk l a3 V.2).bind fun a4=>g V a4) (fun r=>r=true):=by
 refine AE (YI O) ?_;intro a8 a5;refine AE (S:=fun c=>c=false→NL J∧lk.length≤20) ?_ ?_
 ·refine Bl (fun h=>Ak fun Y=>by cases Y) (fun h=>Ak fun Y=>⟨a5 (by simpa using h),by simp at Y;omega⟩)
 intro c a6;refine Bl (fun h=>AQ hs (Ak rfl)) (fun h=>?_);obtain⟨Z,ag⟩:=a6 (by simpa using h);refine AQ (b:=(J0,0,2685821657736338717)) rfl (AE (Yp (k:=0) (b:=(J0,0,2685821657736338717)) O Z ⟨Int.le_refl _,Int.le_refl _⟩ (by omega)) ?_);rintro⟨a9,U⟩ ⟨⟨n,K,al,am⟩,ap⟩;simp only at am ap;subst am;refine AQ (b:=K) rfl (AE (Zh (k:=301) O al ap (by omega) ag) ?_);rintro⟨ls,ba⟩ ⟨⟨u,v,av,hu,a7⟩,aY⟩;simp only at av aY;subst av;exact H K u v _ _ Z al.nl ag hu a7 aY
end Pal
namespace Pal
open Go Go.Conc Go.Proofs
open Go.Proofs.Tryz
def MQ(fuel:Nat)(p3:Int)(Z:(List A2)×(BV))(ag:(List AI)×(BV))(O:Int)(al:(A2))(am:(AI))(K:Int):Option (Bi Int ((Bool)⊕(Unit))):= if K≤4 then(Option.bind (if K<0 then(some p3) else(some K)) fun U=> (HV fuel al am U).bind fun V=> (ix Z.1 O).bind fun ap=> (ix ag.1 O).bind fun av=> (f50 fuel ap av U).bind fun Y=> Option.bind (if V.1≠Y.1 then(some true) else(some (decide (V.2≠Y.2)))) fun aY=> if aY=true then(some (.done (Sum.inl false))) else((As (K+1)).bind fun aZ=> some (.more aZ))) else(some (.done (Sum.inr ())))
def MZ(fuel:Nat)(p3:Int)(O:(List A2)×(BV))(U:(List AI)×(BV))(K:Int):Option (Bi Int ((Bool)⊕(Unit))):= if K<(O.1.length:Int) then((ix O.1 K).bind fun al=> (ix U.1 K).bind fun am=> (f26 fuel al).bind fun V=> (f27 fuel am).bind fun Y=> (Jd fuel V Y).bind fun Z=> (ix O.1 K).bind fun ap=> (ix U.1 K).bind fun av=> (f48 fuel ap av).bind fun ag=> Option.bind (if Z.1≠ag.1 then(some true) else(some (decide (Z.2≠ag.2)))) fun aY=> if aY=true then(some (.done (Sum.inl false))) else(Option.bind (iter (MQ fuel p3 O U K V Y) fuel (-1)) fun aZ=> Sum.elim (fun r=>some (.done (Sum.inl r))) (fun a6=> (ix O.1 K).bind fun a0=> (f33 fuel V a0).bind fun a1=> Option.bind (if(!a1)=true then(some true) else((ix U.1 K).bind fun a2=> (f34 fuel Y a2).bind fun a3=> some (!a3))) fun a4=> if a4=true then(some (.done (Sum.inl false))) else((As (K+1)).bind fun a5=> some (.more a5))) aZ)) else(some (.done (Sum.inr ())))
def NR(fuel:Nat)(p0:A2)(p1:AI)(p2:Int×Int)(p3:Int)(p4:List Int):Option Bool:= (f21 fuel p0).bind fun O=> Option.bind (if O=true then(some true) else(some (decide (20<(p1.length:Int))))) fun U=> if U=true then((ID fuel).bind fun V=> some V) else((f23 fuel p4).bind fun Y=> (f24 fuel p0 Y).bind fun K=> (ix K.1 (1)).bind fun Z=> (f25 fuel p1 p2 Z K.2).bind fun ag=> Option.bind (iter (MZ fuel p3 K ag) fuel 0) fun al=> Sum.elim (fun r=>some r) (fun ap=> (ID fuel).bind fun am=> some am) al)
set_option maxHeartbeats 2000000 in
theorem XJ{E H:LH}{bZ:An}{c2:Nat}{b0:An}{b1:Nat}{bx:An}{bz:Nat}{bA:An}{bB:Nat}{p0:A2}{p1:AI}{p2:Int×Int}{p3:Int}{p4:List Int}(bj:GE E)(b2:Al (rL rI) E bZ c2 p0.1)(b3:Al (rL rI) E b0 b1 p0.2)(cY:Al Bo E bx bz p1)(cZ:Al rI E bA bB p4){fuel:Nat}{r:Bool}(b4:NR fuel p0 p1 p2 p3 p4=some r):(DI Tryz.prog).ok (KV Tryz.prog (fun v _=>v= .bool r)) (G (Frame.enter Tryz.prog 8 ([.agg #[sV bZ p0.1 c2,sV b0 p0.2 b1],sV bx p1 bz,.agg #[iV p2.1,iV p2.2],iV p3,sV bA p4 bB]:List Value).toArray .normal) []) (mk E H []):=by
 refine U3 func8 rfl rfl (Nat.le_of_ble_eq_true rfl) ?_;have c0:Aw E H [[]]:=trivial;unfold NR at b4;refine zg 2 rfl (B4 c0 fun c1 gY ag b5 c3=>?_);refine B4 c3 fun c4 gZ Y c5 c6=>?_;refine zg 5 rfl (BO (b5.Ah Y) BW BD rfl rfl ?_);obtain⟨g0,c7,c8⟩:=bs b4;refine BC (aq (b2.Ah (ag.Ab Y)) (b3.Ah (ag.Ab Y)) c7) rfl rfl (AS func21 rfl) c6 fun bC al b6=>?_;obtain⟨c9,da,db⟩:=bs c8;refine zg 1 rfl (EC [] (fun L s=>∃(b7:LH),Jm bC H b7 [] [(1,sV bx p1 bz),(3,iV p3),(4,sV bA p4 bB),(5,pV c1 0),(7,pV c4 0),(33,.bool c9)] L s) ?_ ?_)
 ·rintro _ _ ⟨b7,rfl,rfl,am,b8⟩;refine JL.done (BH db (fun dc dd=>?_) (fun dc de=>?_))
  ·obtain⟨df,dg,dh⟩:=bs dd;refine zg 2 rfl (BC (Sy (bj.Ah (((ag.Ab Y).Ab al).Ab am)) dg) rfl rfl (AS func22 rfl) b8 fun g1 g3 g4=>?_);refine zg 2 rfl ?_;obtain rfl:=oi dh;exact Gt rfl (JO.end (v:= .bool df) rfl (by decide+kernel) func8 rfl rfl rfl)
  ·obtain⟨g5,di,dj⟩:=bs de;refine zg 4 rfl (BP (aa (cZ.Ah (((ag.Ab Y).Ab al).Ab am)) di) rfl rfl (AS func23 rfl) b8 ?_);rintro _ g6 _ a1 ⟨g7,g8,g9,rfl,rfl,dk⟩ dl;refine zg 4 rfl (BO (b5.Ah (((Y.Ab al).Ab am).Ab a1)) BW BD rfl rfl ?_);obtain⟨a2,dm,dn⟩:=bs dj;refine zg 1 rfl (BZ 0 (ae (b2.Ah ((((ag.Ab Y).Ab al).Ab am).Ab a1)) (b3.Ah ((((ag.Ab Y).Ab al).Ab am).Ab a1)) dk dm) rfl rfl (AS func24 rfl) dl rfl ?_);rintro _ ha _ bf ⟨a3,a4,hb,hc,rfl,rfl,bg,dp⟩ dq;refine zg 3 rfl (C6 6 fun ht=>?_);refine Cj 0 ht rfl rfl (Fa 1 ht (c5.Ah (((al.Ab am).Ab a1).Ab bf)) Gs Cc rfl rfl rfl ?_);refine Cj 2 ht rfl rfl ?_;obtain⟨hd,dr,dt⟩:=bs dn;refine Cy 3 bg dr ht underlying33 BD ?_;rintro he hf _ ⟨_,_,rfl,⟨hj,hk,rfl,du⟩,⟨hl,hm,rfl,dv⟩⟩ dw;refine Fa 4 ht dw BW BD rfl rfl rfl (Cj 5 ht rfl rfl ?_);refine Ci [6,7] ?_;obtain⟨a5,dx,dy⟩:=bs dt;refine BZ 0 (aO (cY.Ah (((((ag.Ab Y).Ab al).Ab am).Ab a1).Ab bf)) du dv dp dx) rfl rfl (AS func25 rfl) dq rfl ?_;rintro _ dz _ bb ⟨a6,a7,hn,ho,rfl,rfl,bl,hp⟩ dA;obtain⟨b9,dB,bm⟩:=bs dy;refine zg 7 rfl (Br (fun L s=>∃(ca:Unit) (cb:LH),b9=Sum.inr ca∧Jm dz H cb [] [] L s) ?_ ?_)
   ·rintro _ _ ⟨ca,cb,rfl,rfl,rfl,dC,dD⟩;have dE:=elim_inr bm;obtain⟨dF,dG,dH⟩:=bs dE;refine zg 2 rfl (BC (Sy (bj.Ah (((((((ag.Ab Y).Ab al).Ab am).Ab a1).Ab bf).Ab bb).Ab dC)) dG) rfl rfl (AS func22 rfl) dD fun hq hr hu=>?_);refine zg 2 rfl ?_;obtain rfl:=oi dH;exact Gt rfl (JO.end (v:= .bool dF) rfl (by decide+kernel) func8 rfl rfl rfl)
   ·intro dI;refine JL.block (JS.drop 0 dA rfl fun dJ=>?_);refine Cx dB (fun ap=> []) (fun ap=> [(3,iV p3),(12,sV a3 a2.1 a4),(13,sV a6 a5.1 a7),(14,iV ap)]) Ar dJ ?_;rintro ap cc Z bD bn ⟨hv,bd⟩ dK;have cd:=bd;unfold MZ at cd;refine zg 5 rfl (Bg underlying33 rfl rfl rfl ?_);refine zg 2 rfl (AL cd (fun dL dM=>?_) (fun dL dN=>?_))
    ·refine zg 4 rfl (C6 11 fun ht=>?_);refine A4 ht rfl [0,1] rfl ?_;obtain⟨bo,dO,dP⟩:=bs dM;refine Cy 2 (bg.Ah (bb.Ab Z)) dO ht underlying33 BD ?_;rintro hw hx _ ⟨_,_,rfl,⟨ce,cf,rfl,cg⟩,⟨ci,ck,rfl,cm⟩⟩ dQ;refine Fa 3 ht dQ BW BD rfl rfl rfl (A4 ht rfl [5,6] rfl ?_);obtain⟨bE,dR,dS⟩:=bs dP;refine Cy 7 (bl.Ah Z) dR ht underlying35 Hg ?_;rintro hy hz _ ⟨bF,bG,rfl,bH⟩ dT;refine Cv 8 ht 0 dT HE rfl rfl rfl rfl ?_;obtain⟨be,cn,dU⟩:=bs dS;obtain⟨a8,bI,dV⟩:=bs dU;refine EY 2 #[true,true,true,true,true,true,true,true,true,true,true,false,false] (fun L s=>∃(bh:LH) (bp:An) (bq:Nat) (br:An) (bu:Nat) (av:An) (aY:Nat) (a9:Nat),Jn cc H bh [bX a9 #[nS,nS] 24] [(3,iV p3),(12,sV a3 a2.1 a4),(13,sV a6 a5.1 a7),(14,iV ap),(15,pV a9 0),(57,.agg #[sV bp be.1 bq,sV br be.2 bu]),(62,sV av a8 aY)] L s (Al (rL rI) bh bp bq be.1∧Al (rL rI) bh br bu be.2∧Al Bo bh av aY a8)) ?_ ?_
     ·rintro _ _ ⟨bh,bp,bq,br,bu,av,aY,a9,rfl,rfl,aZ,dW,bJ,bK,bL⟩;refine Ci [11,12] (BR 0 dW BD fun dX=>?_);refine CV 0 dX rfl fun hA K bM dY=>zg 4 rfl (BO bM BW BD rfl rfl ?_);obtain⟨hB,dZ,ea⟩:=bs dV;refine zg 1 rfl (BC (ZY (bj.Ah (((((((((ag.Ab Y).Ab al).Ab am).Ab a1).Ab bf).Ab bb).Ab Z).Ab aZ).Ab K)) (bJ.Ah K) (bK.Ah K) (bL.Ah K) dZ) rfl rfl (AS func47 rfl) dY fun hC O eb=>?_);refine zg 7 rfl (C6 13 fun ht=>?_);refine A4 ht rfl [0,1] rfl ?_;obtain⟨co,ec,ed⟩:=bs ea;refine Cy 2 (bg.Ah ((((bb.Ab Z).Ab aZ).Ab K).Ab O)) ec ht underlying33 BD ?_;rintro hD hE _ ⟨_,_,rfl,⟨ee,ef,rfl,eg⟩,⟨eh,ei,rfl,ej⟩⟩ ek;refine Fa 3 ht ek BW BD rfl rfl rfl (A4 ht rfl [4,5] rfl ?_);obtain⟨el,em,en⟩:=bs ed;refine Cy 6 (bl.Ah (((Z.Ab aZ).Ab K).Ab O)) em ht underlying35 Hg ?_;rintro hF hG _ ⟨eo,ep,rfl,eq⟩ er;refine Cv 7 ht 0 er HE rfl rfl rfl rfl ?_;obtain⟨hH,et,eu⟩:=bs en;refine JG.call (i:=8) (vs:= [.agg #[sV ee co.1 ef,sV eh co.2 ei],sV eo el ep]) (S8 eg ej eq et) (by decide+kernel) rfl rfl rfl (AS func48 rfl) rfl eb ?_;rintro _ bN _ U ⟨rfl,rfl⟩ cp;refine A4 ht rfl [9,10,11,12] rfl (Ci [13] ?_);obtain⟨ew,ex,ey⟩:=bs eu;refine zg 9 rfl (EC [] (fun L s=>∃(bO:LH),Jm bN H bO [] [(3,iV p3),(12,sV a3 a2.1 a4),(13,sV a6 a5.1 a7),(14,iV ap),(15,pV a9 0),(16,sV av a8 aY),(88,.bool ew)] L s) ?_ ?_)
      ·rintro _ _ ⟨bO,rfl,rfl,V,ez⟩;refine JL.done (BH ey (fun eA eB=>?_) (fun eA eC=>?_))
       ·refine zg 4 rfl ?_;obtain rfl:=oi eB;obtain rfl:=bn _ bd;have eD:=elim_inl bm;obtain rfl:=oi eD;exact Gt rfl (JO.end (v:= .bool false) rfl (by decide+kernel) func8 rfl rfl rfl)
       ·obtain⟨cq,eE,cr⟩:=bs eC;refine zg 6 rfl (Br (fun L s=>∃(ct:Unit) (cu:LH),cq=Sum.inr ct∧Jm bO H cu [] [(3,iV p3),(12,sV a3 a2.1 a4),(13,sV a6 a5.1 a7),(14,iV ap),(15,pV a9 0),(16,sV av a8 aY)] L s) ?_ ?_)
        ·rintro _ _ ⟨ct,cu,rfl,rfl,rfl,bc,eF⟩;have eG:=elim_inr cr;refine JL.seq (C6 16 fun ht=>?_);refine Fa 0 ht (bM.Ah (((O.Ab U).Ab V).Ab bc)) BW BD rfl rfl rfl (A4 ht rfl [1,2] rfl ?_);obtain⟨cv,eH,eI⟩:=bs eG;refine Cy 3 (bg.Ah (((((((bb.Ab Z).Ab aZ).Ab K).Ab O).Ab U).Ab V).Ab bc)) eH ht underlying33 BD ?_;rintro hI hJ _ ⟨_,_,rfl,⟨eJ,eK,rfl,eL⟩,⟨eM,eN,rfl,eO⟩⟩ eP;refine Fa 4 ht eP BW BD rfl rfl rfl ?_;obtain⟨cw,eQ,eR⟩:=bs eI;refine JG.call (i:=5) (vs:= [.agg #[sV bp be.1 bq,sV br be.2 bu],.agg #[sV eJ cv.1 eK,sV eM cv.2 eN]]) (ab (bJ.Ah ((((K.Ab O).Ab U).Ab V).Ab bc)) (bK.Ah ((((K.Ab O).Ab U).Ab V).Ab bc)) eL eO eQ) (by decide+kernel) rfl rfl rfl (AS func33 rfl) rfl eF ?_;rintro _ cy _ bP ⟨rfl,rfl⟩ cz;refine BB (v:= .bool (!cw)) 6 ht rfl rfl (fun ρ h s' hs=>Yl.not (h _ _ rfl)) (Cj 7 ht rfl rfl ?_);obtain⟨eS,cA,eT⟩:=bs eR;refine EY 0 #[true,true,true,true,true,true,true,true,true,true,true,true,true,true,true,true] (fun L s=>∃(cB:LH),Jm cy H cB [] [(3,iV p3),(12,sV a3 a2.1 a4),(13,sV a6 a5.1 a7),(14,iV ap),(140,.bool eS)] L s) ?_ ?_
         ·rintro _ _ ⟨cB,rfl,rfl,eU,eV⟩;refine AX.fin (by decide+kernel) (BH eT (fun eW eX=>?_) (fun eW eY=>?_))
          ·refine zg 4 rfl ?_;obtain rfl:=oi eX;obtain rfl:=bn _ bd;have eZ:=elim_inl bm;obtain rfl:=oi eZ;exact Gt rfl (JO.end (v:= .bool false) rfl (by decide+kernel) func8 rfl rfl rfl)
          ·obtain⟨e0,e1,e2⟩:=bs eY;refine zg 4 rfl (Bc e1 rfl rfl rfl ?_);refine zg 2 rfl ?_;obtain rfl:=oi e2;exact dK e0 ((((((((Z.Ab aZ).Ab K).Ab O).Ab U).Ab V).Ab bc).Ab bP).Ab eU) eV rfl bd
         ·intro cC;refine Ud (c:=(!cw)) (i:=132) rfl (fun bQ=>?_) (fun bQ=>?_)
          ·have e3:=ip cA bQ;refine A4 ht rfl [8,9,10,11,12,13,14,15] rfl ?_;obtain rfl:=oi e3;refine CZ ?_ (cC _ _ ⟨cy,rfl,rfl,Ar,cz⟩);exact⟨rfl,rfl,rfl,rfl,rfl,trivial⟩
          ·have e4:=ib cA bQ;refine A4 ht rfl [8,9,10] rfl ?_;obtain⟨e5,e6,e7⟩:=bs e4;refine Cy 11 (bl.Ah (((((((Z.Ab aZ).Ab K).Ab O).Ab U).Ab V).Ab bc).Ab bP)) e6 ht underlying35 Hg ?_;rintro hK hL _ ⟨e8,e9,rfl,fa⟩ fb;refine Cv 12 ht 0 fb HE rfl rfl rfl rfl ?_;obtain⟨fc,fd,fe⟩:=bs e7;refine JG.call (i:=13) (vs:= [sV av a8 aY,sV e8 e5 e9]) (aB (bL.Ah (((((K.Ab O).Ab U).Ab V).Ab bc).Ab bP)) fa fd) (by decide+kernel) rfl rfl rfl (AS func34 rfl) rfl cz ?_;rintro _ ff _ fg ⟨rfl,rfl⟩ fh;refine BB (v:= .bool (!fc)) 14 ht rfl rfl (fun ρ h s' hs=>Yl.not (h _ _ rfl)) ?_;refine Cj 15 ht rfl rfl ?_;obtain rfl:=oi fe;refine CZ ?_ (cC _ _ ⟨ff,rfl,rfl,fg,fh⟩);exact⟨rfl,rfl,rfl,rfl,rfl,trivial⟩
        ·intro fj;refine JL.block (Cx eE (fun bi=> []) (fun bi=> [(3,iV p3),(12,sV a3 a2.1 a4),(13,sV a6 a5.1 a7),(14,iV ap),(15,pV a9 0),(16,sV av a8 aY),(21,iV bi)]) Ar ez ?_);rintro bi fk a0 bR cD ⟨hM,bv⟩ fm;have cE:=bv;unfold MQ at cE;refine zg 6 rfl (AL cE (fun fo fp=>?_) (fun fo fq=>?_))
         ·obtain⟨cF,fs,fu⟩:=bs fp;refine zg 14 rfl (C4 [] [(3,iV p3),(12,sV a3 a2.1 a4),(13,sV a6 a5.1 a7),(14,iV ap),(15,pV a9 0),(16,sV av a8 aY),(21,iV bi),(22,iV cF)] (fun hN ba fv=>?_) (fun cG=>?_))
          ·refine zg 2 rfl (BO (bM.Ah ((((O.Ab U).Ab V).Ab a0).Ab ba)) BW BD rfl rfl ?_);obtain⟨hO,fw,fx⟩:=bs fu;refine zg 2 rfl (BC (Sz (bj.Ah ((((((((((((((ag.Ab Y).Ab al).Ab am).Ab a1).Ab bf).Ab bb).Ab Z).Ab aZ).Ab K).Ab O).Ab U).Ab V).Ab a0).Ab ba)) (bJ.Ah (((((K.Ab O).Ab U).Ab V).Ab a0).Ab ba)) (bK.Ah (((((K.Ab O).Ab U).Ab V).Ab a0).Ab ba)) (bL.Ah (((((K.Ab O).Ab U).Ab V).Ab a0).Ab ba)) fw) rfl rfl (AS func49 rfl) fv fun hP bS fy=>?_);refine zg 7 rfl (C6 14 fun ht=>?_);refine A4 ht rfl [0,1] rfl ?_;obtain⟨cH,fz,fA⟩:=bs fx;refine Cy 2 (bg.Ah (((((((((bb.Ab Z).Ab aZ).Ab K).Ab O).Ab U).Ab V).Ab a0).Ab ba).Ab bS)) fz ht underlying33 BD ?_;rintro hQ hR _ ⟨_,_,rfl,⟨fB,fC,rfl,fD⟩,⟨fE,fF,rfl,fG⟩⟩ fH;refine Fa 3 ht fH BW BD rfl rfl rfl (A4 ht rfl [4,5] rfl ?_);obtain⟨fI,fJ,fK⟩:=bs fA;refine Cy 6 (bl.Ah ((((((((Z.Ab aZ).Ab K).Ab O).Ab U).Ab V).Ab a0).Ab ba).Ab bS)) fJ ht underlying35 Hg ?_;rintro hS hT _ ⟨fL,fM,rfl,fN⟩ fO;refine Cv 7 ht 0 fO HE rfl rfl rfl rfl (Cj 8 ht rfl rfl ?_);obtain⟨hU,fP,fQ⟩:=bs fK;refine JG.call (i:=9) (vs:= [.agg #[sV fB cH.1 fC,sV fE cH.2 fF],sV fL fI fM,iV cF]) (aG fD fG fN fP) (by decide+kernel) rfl rfl rfl (AS func50 rfl) rfl fy ?_;rintro _ bT _ fR ⟨rfl,rfl⟩ cI;refine A4 ht rfl [10,11,12,13] rfl (Ci [14] ?_);obtain⟨fS,fT,fU⟩:=bs fQ;refine zg 8 rfl (EC [] (fun L s=>∃(cJ:LH),Jm bT H cJ [] [(3,iV p3),(12,sV a3 a2.1 a4),(13,sV a6 a5.1 a7),(14,iV ap),(15,pV a9 0),(16,sV av a8 aY),(21,iV bi),(124,.bool fS)] L s) ?_ ?_)
           ·rintro _ _ ⟨cJ,rfl,rfl,fW,fX⟩;refine JL.done (BH fU (fun fY fZ=>?_) (fun fY ga=>?_))
            ·refine zg 4 rfl ?_;obtain rfl:=oi fZ;obtain rfl:=cD _ bv;have gb:=elim_inl cr;obtain rfl:=oi gb;obtain rfl:=bn _ bd;have gc:=elim_inl bm;obtain rfl:=oi gc;exact Gt rfl (JO.end (v:= .bool false) rfl (by decide+kernel) func8 rfl rfl rfl)
            ·obtain⟨gd,ge,gf⟩:=bs ga;refine zg 4 rfl (Bc ge rfl rfl rfl ?_);refine zg 2 rfl ?_;obtain rfl:=oi gf;exact fm gd ((((a0.Ab ba).Ab bS).Ab fR).Ab fW) fX rfl bv
           ·intro cK;refine Ee 120 fT (fun gg gh=>?_) (fun gg gi=>?_)
            ·refine zg 4 rfl ?_;obtain rfl:=oi gh;exact Az (cK _ _ ⟨bT,rfl,rfl,Ar,cI⟩) rfl
            ·refine zg 4 rfl ?_;obtain rfl:=oi gi;exact Az (cK _ _ ⟨bT,rfl,rfl,Ar,cI⟩) rfl
          ·refine AL fs (fun gj gk=>?_) (fun gj gl=>?_)
           ·refine zg 4 rfl ?_;obtain rfl:=oi gk;exact cG Ar bR rfl
           ·refine JL.skip ?_;obtain rfl:=oi gl;exact cG Ar bR rfl
         ·refine JL.exit rfl ?_;obtain rfl:=oi fq;have gm:cq=(Sum.inr ()):=(cD _ bv).symm;exact Az (fj _ _ ⟨(),fk,gm,rfl,rfl,a0,bR⟩) rfl
      ·intro cM;refine Ee 84 ex (fun gn gp=>?_) (fun gn gq=>?_)
       ·refine zg 4 rfl ?_;obtain rfl:=oi gp;exact Az (cM _ _ ⟨bN,rfl,rfl,Ar,cp⟩) rfl
       ·refine zg 4 rfl ?_;obtain rfl:=oi gq;exact Az (cM _ _ ⟨bN,rfl,rfl,Ar,cp⟩) rfl
     ·intro bU;refine I3 (i:=4) (j:=10) rfl (by decide+kernel) ?_ ?_
      ·refine Take.HT (vs:= [.agg #[sV ce bo.1 cf,sV ci bo.2 ck]]) bD (S2 cg cm cn) rfl rfl rfl (AS func26 rfl) rfl ?_;rintro _ hV _ bw ⟨cN,cO,cP,cQ,rfl,rfl,cR,cT⟩ cV;refine I3 (i:=9) (j:=10) rfl (by decide+kernel) ?_ ?_
       ·refine Take.HT (vs:= [sV bF bE bG]) cV (Pc (bH.Ah bw) bI) rfl rfl rfl Kg rfl ?_;rintro _ gr _ bV ⟨gt,gu,rfl,rfl,gv⟩ gw;refine JG.one (i:=10) rfl (by decide+kernel) (Take.K0 gw rfl rfl rfl GU fun gx gy=>?_);exact OK (bU _ _ ⟨gr,cN,cO,cP,cQ,gt,gu,gx,rfl,rfl,(bw.Ab bV),gy,(cR.Ah bV),(cT.Ah bV),gv⟩) rfl
       ·refine Take.K0 cV rfl rfl rfl GU fun gz gA=>JG.one (i:=9) rfl (by decide+kernel) (Take.HT (vs:= [sV bF bE bG]) gA (Pc (bH.Ah bw) bI) rfl rfl rfl Kg rfl ?_);rintro _ gB _ bW ⟨gC,gD,rfl,rfl,gE⟩ gF;exact OK (bU _ _ ⟨gB,cN,cO,cP,cQ,gC,gD,gz,rfl,rfl,(bw.Ab bW),gF,(cR.Ah bW),(cT.Ah bW),gE⟩) rfl
      ·refine Take.K0 bD rfl rfl rfl GU fun gG gH=>JG.one (i:=4) rfl (by decide+kernel) (Take.HT (vs:= [.agg #[sV ce bo.1 cf,sV ci bo.2 ck]]) gH (S2 cg cm cn) rfl rfl rfl (AS func26 rfl) rfl ?_);rintro _ hW _ cW ⟨gI,gJ,gK,gL,rfl,rfl,gM,gN⟩ gO;refine JG.one (i:=9) rfl (by decide+kernel) (Take.HT (vs:= [sV bF bE bG]) gO (Pc (bH.Ah cW) bI) rfl rfl rfl Kg rfl ?_);rintro _ gP _ bY ⟨gQ,gR,rfl,rfl,gS⟩ gT;exact OK (bU _ _ ⟨gP,gI,gJ,gK,gL,gQ,gR,gG,rfl,rfl,(cW.Ab bY),gT,(gM.Ah bY),(gN.Ah bY),gS⟩) rfl
    ·refine JL.exit rfl ?_;obtain rfl:=oi dN;have gU:b9=(Sum.inr ()):=(bn _ bd).symm;exact Az (dI _ _ ⟨(),cc,gU,rfl,rfl,Z,bD⟩) rfl
 ·intro cX;refine DZ 29 da (fun gV gW=>?_) (fun gV gX=>?_)
  ·refine zg 4 rfl ?_;obtain rfl:=oi gW;exact Az (cX _ _ ⟨bC,rfl,rfl,Ar,b6⟩) rfl
  ·refine zg 1 rfl (Bg underlying25 rfl rfl rfl ?_);refine zg 2 rfl ?_;obtain rfl:=oi gX;exact Az (cX _ _ ⟨bC,rfl,rfl,Ar,b6⟩) rfl
end Pal
namespace Pal
theorem Zj{F:Nat}(al:3489660928<F)(hs:ID F=some true)(J:JW)(lk:List (Int×Int))(l:Int×Int)(a:Int)(J0:List Int):NR F J lk l a J0=some true:=by
 have O:100<F:=by omega
 refine CW ?_;unfold NR;refine ZZ O hs ?_;intro a2 u v a3 a4 am Z ap hu av _;refine AE (S:=fun q=>q=Sum.inr ()) ?_ (by rintro q rfl;rw [Sum.elim_inr];exact AQ hs (Ak rfl));refine Ck 3 (fun i s=>s=(i:Int)) rfl (by omega) ?_ ?_
 ·rintro i s hi rfl;unfold MZ;obtain⟨K,V,U⟩:=Tk (P:=NL) am Z Z i hi;obtain⟨L,Y,ag⟩:=Tk (P:=fun K:List (Int×Int)=>K.length≤20) ap hu av i hi;refine Bw (by simp;omega) (AQ (D6 (m:=i) rfl V) ?_);refine AQ (D6 (m:=i) rfl Y) (AQ (Yv O U) ?_);refine AQ (Zo (by omega)) (AE (Wi (by omega) U) ?_);intro a5 aY;refine AQ (D6 (m:=i) rfl V) (AQ (D6 (m:=i) rfl Y) ?_);refine AE (RL O U) ?_;intro a6 aZ;obtain rfl:=aY.uniq aZ;refine AQ (b:=false) (by rw [if_neg (by simp)];simp) (A8 (by simp) ?_);refine AE (S:=fun q=>q=Sum.inr ()) ?_ ?_
  ·refine Ck 6 (fun j s=>s=(j:Int) - 1) rfl (by omega) ?_ ?_
   ·rintro j s a7 rfl;unfold MQ;refine Bw (by omega) (AE (S:=fun _=>True) (Bl (fun _=>Ak trivial) (fun _=>Ak trivial)) ?_);intro y _;refine AE (VO al U) ?_;intro q1 a0;refine AQ (D6 (m:=i) rfl V) (AQ (D6 (m:=i) rfl Y) ?_);refine AE (WE O U ag) ?_;intro q2 a1;obtain rfl:=a0.uniq a1;refine AQ (b:=false) (by rw [if_neg (by simp)];simp) (A8 (by simp) ?_);exact AT (((j+1:Nat):Int) - 1) (by simp) (by omega) (by omega) (Ak rfl)
   ·rintro s rfl;unfold MQ;exact A8 (by omega) (Ak ⟨_,rfl,rfl⟩)
  ·rintro q rfl;rw [Sum.elim_inr];refine AQ (D6 (m:=i) rfl V) (AQ (Zi O U) ?_);refine AQ (b:=false) ?_ ?_
   ·rw [if_neg (by simp),D6 (m:=i) rfl Y,Option.bind_some,YV O ag];rfl
   refine A8 (by simp) (AT ((i+1:Nat):Int) (by simp) (by omega) (by omega) ?_);exact Ak rfl
 ·rintro s rfl;unfold MZ;exact A8 (by simp) (Ak ⟨_,rfl,rfl⟩)
end Pal
