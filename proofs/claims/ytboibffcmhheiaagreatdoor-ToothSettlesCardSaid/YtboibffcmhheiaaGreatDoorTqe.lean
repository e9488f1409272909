/- ToothSettles. Part 5 of 8. -/
import Derived.Test.YtboibffcmhheiaaGreatDoorTqc
import Derived.Test.YtboibffcmhheiaaGreatDoorTqd
set_option linter.all false
set_option maxRecDepth 100000
namespace Pal
def D8(J:JW)(lk:Bm):Nat→Nat→List Int→Nat→List (List Int×Nat)
 | 0,_,ms,fl=> [(ms,fl)]
 | k+1,sm,ms,fl=>(Cq sm 16).flatMap fun m=>if EO J lk ms.length m=true then D8 J lk k (CF (J.1.getD m.toNat [])) (ms++ [m]) (fl ||| BV lk ms.length m lk.length) else []
theorem Mz(s:Nat):(Cq s 16).length≤16:=KE s 16
theorem KD{α β:Type}{f:α→List β}{b:Nat}:∀{l:List α},(∀x∈l,(f x).length≤b)→(l.flatMap f).length≤l.length*b
 | [],_=>by simp
 | x::l,h=>by
  have O:=h x (by simp)
  have U:=KD (l:=l) (fun y K=>h y (by simp [K]))
  simp only [List.flatMap_cons,List.length_append,List.length_cons,Nat.succ_mul]
  omega
theorem MY(J:JW)(lk:Bm):∀k sm ms fl,(D8 J lk k sm ms fl).length≤16 ^ k
 | 0,_,_,_=>by simp [D8]
 | k+1,sm,ms,fl=>by
  unfold D8
  refine Nat.le_trans (KD (b:=16 ^ k) fun m _=>?_) ?_
  ·split
   ·exact MY J lk k _ _ _
   ·simp
  ·rw [Nat.pow_succ,Nat.mul_comm];exact Nat.mul_le_mul_left _ (Mz sm)
theorem WU{k:Nat}(h:k≤7):16 ^ k≤268435456:=Nat.le_trans (Nat.pow_le_pow_right (by omega) h) (by decide)
theorem Q8{α β:Type}{step:List β→α→Option (List β)}{f:α→List β}:∀{l:List α} {ac:List β},(∀(l1 l2:List α) x,l=l1++x::l2→step (ac++l1.flatMap f) x=some (ac++(l1++ [x]).flatMap f))→FB step l ac=some (ac++l.flatMap f)
 | [],ac,_=>by simp [FB]
 | x::l,ac,h=>by
  have K:=h [] l x rfl
  simp only [List.flatMap_nil,List.append_nil,List.nil_append] at K
  unfold FB
  rw [K]
  simp only [Option.bind_some]
  rw [Q8 (f:=f) (ac:=ac++ [x].flatMap f) (l:=l) ?_]
  ·simp
  ·intro l1 l2 y O;have:=h (x::l1) l2 y (by rw [O];rfl);simp only [List.flatMap_cons,List.flatMap_nil,List.append_nil,List.cons_append,List.append_assoc] at this ⊢;simpa using this
theorem UW{α β:Type}{step:List β→α→Option (List β)}{f:α→List β}{l:List α}{ac:List β}(h:∀(l1 l2:List α) x,l=l1++x::l2→step (ac++l1.flatMap f) x=some (ac++l1.flatMap f++f x)):FB step l ac=some (ac++l.flatMap f):=
 Q8 fun l1 l2 x e=>by rw [h l1 l2 x e];simp
theorem Y0{F n:Nat}{J:JW}{A:List Nat}{lk:Bm}{age:Int}{ok:List (List Int×Nat)→Bool}(Z:100<F)(O:VJ n J)(U:Cg n lk)(a7:∀l:List (List Int×Nat),l.length≤16 ^ 7→(∀x∈l,x.2<65536)→ok l=true):
  ∀(k g sm:Nat) (ms:List Int) (fl:Nat) (ac:List (List Int×Nat)),ms.length+k=B5 lk+1→k<g→sm<2 ^ n→fl<65536→ac.length+16 ^ k≤16 ^ 7→(∀x∈ac,x.2<65536)→
   IQ ok F (J.1,J.2,A) lk age g sm ms fl ac=some (ac++D8 J lk k sm ms fl)∧∀x∈D8 J lk k sm ms fl,x.2<65536:=by
 have bW:=HQ U;have a8:=O.le;have bY:=Su a8;intro k
 induction k with
 | zero=>
  intro g sm ms fl ac a9 hg av V hlen ag;obtain⟨g,rfl⟩:∃g',g=g'+1:=⟨g - 1,by omega⟩;refine⟨?_,fun x K=>by simp [D8] at K;subst K;exact V⟩;unfold IQ;have al:Jo F (J.1,J.2,A) lk age ms fl sm=some none:=by
   unfold Jo;rw [Ry U];simp only [Option.bind_some];rw [if_pos (by omega)]
  rw [al];simp only [Option.bind_some,Ko];rw [if_pos]
  ·rfl
  ·refine a7 _ (by simpa using hlen) fun x K=>?_;rcases List.mem_append.1 K with K | K
   ·exact ag x K
   ·simp at K;subst K;exact V
 | succ k a0=>
  intro g sm ms fl ac a9 hg av V hlen ag;obtain⟨g,rfl⟩:∃g',g=g'+1:=⟨g - 1,by omega⟩;have bZ:ms.length≤6:=by omega
  have b0:=Mz sm;have a1:∀m∈Cq sm 16,∃q:Nat,m=(q:Int)∧q<n:=fun m hm=>by
   obtain⟨q,_,q2,bb⟩:=HN.1 hm;exact⟨q,bb,HS av q2⟩
  have a2:∀m:Int,fl ||| BV lk ms.length m lk.length<65536:=fun m=>N6 V (NM _ _ _ _ (by have:=U.len;omega))
  have a3:∀q:Nat,q<n→CF (J.1.getD q [])<2 ^ n:=fun q Y=>by
   rcases Nat.lt_or_ge (CF (J.1.getD q [])) (2 ^ n) with h | h
   ·exact h
   ·obtain⟨i,b1,a4⟩:=Nat.exists_ge_and_testBit_of_ge_two_pow h;rw [JE (fun x K=>((O.FW q).inr x K).1)] at a4;have:=(O.FW q).inr _ (of_decide_eq_true a4);omega
  have a5:∀m∈Cq sm 16,EO J lk ms.length m=true→∀x∈D8 J lk k (CF (J.1.getD m.toNat [])) (ms++ [m]) (fl ||| BV lk ms.length m lk.length),x.2<65536:=fun m hm hb=>by
   obtain⟨q,rfl,Y⟩:=a1 m hm;have bd:16 ^ k≤16 ^ 7:=Nat.pow_le_pow_right (by omega) (by omega);exact(a0 (k+1) _ _ _ [] (by simp;omega) (by omega) (a3 q Y) (a2 _) (by simpa using bd) (fun x K=>by simp at K)).2
  constructor
  ·unfold IQ;have al:Jo F (J.1,J.2,A) lk age ms fl sm=some (some (Cq sm 16)):=by
    unfold Jo;rw [Ry U];simp only [Option.bind_some];rw [if_neg (by omega),Nr Z (by omega)];rfl
   rw [al];simp only [Option.bind_some,Ko];rw [if_pos (by omega)];have e:D8 J lk (k+1) sm ms fl=(Cq sm 16).flatMap fun m=>if EO J lk ms.length m=true then D8 J lk k (CF (J.1.getD m.toNat [])) (ms++ [m]) (fl ||| BV lk ms.length m lk.length) else []:=rfl
   rw [e];refine UW fun l1 l2 m hm=>?_;have be:m∈Cq sm 16:=by rw [hm];simp
   obtain⟨q,rfl,Y⟩:=a1 m be;unfold P8;rw [Yy Z O U Y (by omega) V];simp only [Option.bind_some];by_cases hb:EO J lk ms.length (q:Int)=true
   ·rw [if_pos hb,if_pos hb];simp only;have bi:LS F (J.1,J.2,A) lk age (ms++ [(q:Int)]) (fl ||| BV lk ms.length (q:Int) lk.length) (q:Int)=some (CF (J.1.getD q [])):=by
     unfold LS;have bo:J.1[q]? =some (J.1.getD q []):=by rw [List.getD_eq_getElem?_getD,List.getElem?_eq_getElem (by have:=O.l1;omega)];rfl
     have a6:=O.FW q;rw [Ed (m:=q) rfl bo];simp only [Option.bind_some];rw [Pj Z (by have:=a6.len;omega) (fun x K=>by have:=a6.inr x K;omega)];rfl
    rw [bi];simp only [Option.bind_some];have bv:l1.length+1≤16:=by
     have:=congrArg List.length hm;simp at this;omega
    have b2:(l1.flatMap fun m=>if EO J lk ms.length m=true then D8 J lk k (CF (J.1.getD m.toNat [])) (ms++ [m]) (fl ||| BV lk ms.length m lk.length) else []).length≤l1.length*16 ^ k:=KD fun y _=>by
     split
     ·exact MY _ _ _ _ _ _
     ·simp
    have hmul:l1.length*16 ^ k+16 ^ k≤16 ^ (k+1):=by
     rw [Nat.pow_succ,← Nat.succ_mul,Nat.mul_comm _ 16];exact Nat.mul_le_mul_right _ bv
    have:=a0 g (CF (J.1.getD q [])) (ms++ [(q:Int)]) (fl ||| BV lk ms.length (q:Int) lk.length) (ac++l1.flatMap fun m=>if EO J lk ms.length m=true then D8 J lk k (CF (J.1.getD m.toNat [])) (ms++ [m]) (fl ||| BV lk ms.length m lk.length) else []) (by simp;omega) (by omega) (a3 q Y) (a2 _) (by rw [List.length_append];omega) ?_
    ·rw [this.1,show((q:Int)).toNat=q by omega]
    ·intro x K;rcases List.mem_append.1 K with K | K
     ·exact ag x K
     ·obtain⟨y,bw,am⟩:=List.mem_flatMap.1 K;have bU:y∈Cq sm 16:=by rw [hm];simp [bw]
      split at am
      ·rename_i bV;exact a5 y bU bV x am
      ·simp at am
   ·rw [if_neg hb,if_neg hb];simp
  ·intro x K;unfold D8 at K;obtain⟨m,hm,ap⟩:=List.mem_flatMap.1 K;split at ap
   ·rename_i hb;exact a5 m hm hb x ap
   ·simp at ap
end Pal
namespace Pal
abbrev CE:=Int×List Int×Nat
def CR(t:CE):Nat:=(Cq t.2.2 16).length
theorem Xi{F:Nat}{t:CE}(K:100<F)(h:t.2.2<65536):f130 F t=some (CR t:Int):=by
 unfold f130;rw [Nr K h];rfl
def DW(K:List CE)(q:Int×List CE):Prop:=(K= []∧q=(0,[]))∨∃k:Nat,q.1=(k:Int)∧(∃t∈K,CR t=k)∧(∀t∈K,k≤CR t)∧q.2=K.filter (fun t=>decide (CR t=k))
theorem DW.len{K:List CE}{q:Int×List CE}(h:DW K q):q.2.length≤K.length:=by
 rcases h with⟨_,rfl⟩ | ⟨k,_,_,_,h⟩
 ·simp
 ·rw [h];exact List.length_filter_le _ _
theorem DW.sub{K:List CE}{q:Int×List CE}(h:DW K q):∀t∈q.2,t∈K∧(CR t:Int)=q.1:=by
 rcases h with⟨_,rfl⟩ | ⟨k,O,_,_,h⟩
 ·simp
 ·intro t ht;rw [h] at ht;obtain⟨a,b⟩:=List.mem_filter.1 ht;exact⟨a,by rw [O,of_decide_eq_true b]⟩
theorem DW.snoc(F:Nat){O:List CE}{q:Int×List CE}{t:CE}(h:DW O q)(a3:O.length<2 ^ 39):∃K,IK F q.1 q.2 t (CR t:Int)=some K∧DW (O++ [t]) K:=by
 have av:=h.len;obtain⟨le,all⟩:=q;simp only at av ⊢;have fresh:∀c:Bool,c=true→(∀s∈O,CR t<CR s)→∃K:Int×List CE,(Option.bind (if c=true then some ((CR t:Int),([]:List CE)) else some (le,all)) fun U=>Option.bind (if(CR t:Int)=U.1 then(CQ U.2 ([t]:List CE)).bind fun a0=>some a0 else some U.2) fun a1=>some (U.1,a1))=some K∧DW (O++ [t]) K:=by
  rintro c rfl V;refine⟨((CR t:Int),[t]),?_,.inr ⟨CR t,rfl,⟨t,by simp,rfl⟩,?_,?_⟩⟩
  ·simp [CQ]
  ·intro s hs;rcases List.mem_append.1 hs with hs | hs
   ·exact Nat.le_of_lt (V s hs)
   ·simp at hs;subst hs;exact Nat.le_refl _
  ·rw [List.filter_append,List.filter_eq_nil_iff.2 fun s hs=>by have:=V s hs;simp;omega];simp
 unfold IK;rcases h with⟨rfl,he⟩ | ⟨k,ap,⟨s,hs,Z⟩,ag,Y⟩
 ·cases he;simp only [List.length_nil];obtain⟨K,al,am⟩:=fresh true rfl (fun s hs=>by simp at hs);exact⟨K,by simpa using al,am⟩
 ·simp only at ap Y;subst ap;have a2:¬((all.length:Int)=0):=by
   have:s∈all:=by rw [Y];exact List.mem_filter.2 ⟨hs,by simpa using Z⟩
   have:=List.length_pos_of_mem this;omega
  rw [if_neg a2];simp only [Option.bind_some];rcases Nat.lt_trichotomy (CR t) k with V | heq | a4
  ·obtain⟨K,al,am⟩:=fresh (decide ((CR t:Int)<(k:Int))) (decide_eq_true (by omega)) (fun s hs=>Nat.lt_of_lt_of_le V (ag s hs));exact⟨K,al,am⟩
  ·rw [if_neg (by rw [decide_eq_true_iff];omega)];simp only [Option.bind_some];rw [if_pos (by omega)];refine⟨((k:Int),all++ [t]),?_,.inr ⟨k,rfl,⟨s,by simp [hs],Z⟩,?_,?_⟩⟩
   ·unfold CQ;rw [if_pos (by simp;omega)];rfl
   ·intro u hu;rcases List.mem_append.1 hu with hu | hu
    ·exact ag u hu
    ·simp at hu;subst hu;omega
   ·rw [List.filter_append,Y];simp [heq]
  ·rw [if_neg (by rw [decide_eq_true_iff];omega)];simp only [Option.bind_some];rw [if_neg (by omega)];refine⟨((k:Int),all),rfl,.inr ⟨k,rfl,⟨s,by simp [hs],Z⟩,?_,?_⟩⟩
   ·intro u hu;rcases List.mem_append.1 hu with hu | hu
    ·exact ag u hu
    ·simp at hu;subst hu;omega
   ·rw [List.filter_append,← Y];have:¬CR t=k:=by omega
    simp [this]
theorem OW{F:Nat}{a:Int}(O:100<F):∀(l:List (List Int×Nat)) (K:List CE) (q:Int×List CE),DW K q→K.length+l.length<2 ^ 39→(∀x∈l,x.2<65536)→
  ∃U,FB (add1 F a) l q=some U∧DW (K++l.map fun x=>(a,x.1,x.2)) U
 | [],K,q,h,_,_=>⟨q,rfl,by simpa using h⟩
 | x::l,K,q,h,Y,V=>by
  simp only [List.length_cons] at Y
  obtain⟨q1,Z,ag⟩:=h.snoc F (t:=(a,x.1,x.2)) (by omega)
  obtain⟨q2,al,am⟩:=OW O l (K++ [(a,x.1,x.2)]) q1 ag (by simp;omega) (fun y ap=>V y (by simp [ap]))
  refine⟨q2,?_,by simpa using am⟩
  unfold FB add1
  rw [Xi (t:=(a,x.1,x.2)) O (V x (by simp))]
  simp only [Option.bind_some]
  rw [Z];exact al
def TA(J:JW)(lk:Bm)(a:Nat):List CE:=(D8 J lk (B5 lk+1) (AG J a) [] 0).map fun x=>((a:Int),x.1,x.2)
def TT(J:JW)(lk:Bm):List CE:=(List.range 13).flatMap (TA J lk)
theorem Tq{n:Nat}{J:JW}{lk:Bm}(K:Cg n lk)(a:Nat):(TA J lk a).length≤268435456:=by
 unfold TA;rw [List.length_map];exact Nat.le_trans (MY _ _ _ _ _ _) (WU (by have:=HQ K;omega))
theorem Rg{F n a:Nat}{J:JW}{lk:Bm}(K:100<F)(O:VJ n J)(U:Cg n lk)(V:a<13):∃q,GJ F (J.1,J.2,FG J) lk (a:Int)=some q∧DW (TA J lk a) q∧∀t∈TA J lk a,t.2.2<65536:=by
 have av:=HQ U;have Y:(16:Nat) ^ (B5 lk+1)≤16 ^ 7:=Nat.pow_le_pow_right (by omega) (by omega);have Z:∀l:List (List Int×Nat),l.length≤16 ^ 7→(∀x∈l,x.2<65536)→(Ht F (a:Int) l).isSome=true:=fun l a0 ag=>by
  obtain⟨q,e,_⟩:=OW (a:=(a:Int)) K l [] (0,[]) (.inl ⟨rfl,rfl⟩) (by simp;omega) ag;unfold Ht;rw [e];rfl
 obtain⟨d1,d2⟩:=Y0 (A:=FG J) (age:=(a:Int)) (ok:=fun ac=>(Ht F (a:Int) ac).isSome) K O U Z (B5 lk+1) F (AG J a) [] 0 [] (by simp) (by omega) (II O a) (by omega) (by simpa using Y) (by simp);obtain⟨q,al,am⟩:=OW (a:=(a:Int)) K (D8 J lk (B5 lk+1) (AG J a) [] 0) [] (0,[]) (.inl ⟨rfl,rfl⟩) (by have:=MY J lk (B5 lk+1) (AG J a) [] 0;simp;omega) d2;refine⟨q,?_,by unfold TA;simpa using am,?_⟩
 ·unfold GJ Kq;rw [Ed (m:=a) rfl (YS J V)];simp only [Option.bind_some];rw [d1];simp only [Option.bind_some,List.nil_append];exact al
 ·intro t ht;obtain⟨x,ap,rfl⟩:=List.mem_map.1 ht;exact d2 x ap
theorem VK{F n:Nat}{J:JW}{lk:Bm}(O:100<F)(U:VJ n J)(V:Cg n lk):∃qs:Nat→Int×List CE,Ke F (J.1,J.2,FG J) lk=some (D5 qs)∧∀j,j<13→DW (TA J lk j) (qs j):=by
 refine⟨fun j=>(GJ F (J.1,J.2,FG J) lk ((j:Nat):Int)).getD (0,[]),?_,fun j K=>?_⟩
 ·unfold Ke;rw [if_pos];rw [List.all_eq_true];intro j K;obtain⟨q,e,_⟩:=Rg O U V (List.mem_range.1 K);rw [e];rfl
 ·obtain⟨q,e,h,_⟩:=Rg O U V K;simp only [e];exact h
theorem RL{α β:Type}{f g:α→List β}:∀{l:List α},(∀x∈l,f x=g x)→l.flatMap f=l.flatMap g
 | [],_=>rfl
 | x::l,h=>by rw [List.flatMap_cons,List.flatMap_cons,h x (by simp),RL fun y K=>h y (by simp [K])]
theorem DW.flat{T:Nat→List CE}{Q:Nat→Int×List CE}{l:List Nat}{r:Int×List CE}(h:∀j∈l,DW (T j) (Q j))(a0:DW (l.flatMap fun j=>(Q j).2) r):DW (l.flatMap T) r:=by
 have F8:∀j∈l,(Q j).2= []→T j= []:=fun j K e=>by
  rcases h j K with⟨U,_⟩ | ⟨k,_,⟨t,ht,Z⟩,_,ag⟩
  ·exact U
  ·have:t∈(Q j).2:=by rw [ag];exact List.mem_filter.2 ⟨ht,by simpa using Z⟩
   rw [e] at this;simp at this
 rcases a0 with⟨U,rfl⟩ | ⟨k,U,⟨t,ht,Z⟩,av,ag⟩
 ·refine .inl ⟨?_,rfl⟩;rw [List.flatMap_eq_nil_iff] at U ⊢;exact fun j K=>F8 j K (U j K)
 ·have low:∀j∈l,∀s∈T j,∃O:Nat,(Q j).2=(T j).filter (fun t=>decide (CR t=O))∧k≤O∧O≤CR s:=fun j K s hs=>by
   rcases h j K with⟨al,_⟩ | ⟨O,_,⟨u,hu,am⟩,V,Y⟩
   ·rw [al] at hs;simp at hs
   ·refine⟨O,Y,?_,V s hs⟩;have:=av u (List.mem_flatMap.2 ⟨j,K,by rw [Y];exact List.mem_filter.2 ⟨hu,by simpa using am⟩⟩);omega
  refine .inr ⟨k,U,?_,?_,?_⟩
  ·obtain⟨j,K,a1⟩:=List.mem_flatMap.1 ht;exact⟨t,List.mem_flatMap.2 ⟨j,K,((h j K).sub t a1).1⟩,Z⟩
  ·intro s hs;obtain⟨j,K,a2⟩:=List.mem_flatMap.1 hs;obtain⟨O,_,g2,V⟩:=low j K s a2;omega
  ·rw [ag,List.filter_flatMap,List.filter_flatMap];refine RL fun j K=>?_;rcases h j K with⟨al,g2⟩ | ⟨O,_,⟨u,hu,am⟩,V,Y⟩
   ·rw [al,g2]
   ·obtain⟨a4,a5,a6,a7⟩:=low j K u hu;rw [Y,List.filter_filter];by_cases e:O=k
    ·subst e;exact List.filter_congr fun x _=>by simp
    ·have a8:k<O:=by
      have a3:u∈(Q j).2:=by rw [Y];exact List.mem_filter.2 ⟨hu,by simpa using am⟩
      have:=av u (List.mem_flatMap.2 ⟨j,K,a3⟩);omega
     rw [List.filter_eq_nil_iff.2 fun x ap=>?_,List.filter_eq_nil_iff.2 fun x ap=>?_]
     ·have:=V x ap;simp;omega
     ·have:=V x ap;simp;omega
theorem UK{qs:Nat→Int×List CE}{p:Int×Int×List CE}(h:p∈D5 qs):∃j,j<13∧p=partOf qs j∧0<(qs j).2.length:=by
 unfold D5 at h;obtain⟨j,K,rfl⟩:=List.mem_map.1 h;obtain⟨O,U⟩:=List.mem_filter.1 K;exact⟨j,List.mem_range.1 O,rfl,of_decide_eq_true U⟩
theorem U1(qs:Nat→Int×List CE):(D5 qs).length≤13:=by
 unfold D5;rw [List.length_map];exact Nat.le_trans (List.length_filter_le _ _) (by simp)
theorem Uy(qs:Nat→Int×List CE):((D5 qs).flatMap fun p=>p.2.2)=(List.range 13).flatMap fun j=>(qs j).2:=by
 unfold D5;rw [List.flatMap_map];generalize List.range 13=l
 induction l with
 | nil=>rfl
 | cons j l K=>
  rw [List.filter_cons,List.flatMap_cons];split
  ·rw [List.flatMap_cons,K];rfl
  ·rename_i h;have:(qs j).2= []:=List.length_eq_zero_iff.1 (by simpa using h);rw [K,this];rfl
theorem Zx{F:Nat}{p:Int×Int×List CE}{pre:List CE}{le:Int}{all:List CE}(Z:268435456<F)(ag:p.2.2.length≤268435456)(al:pre.length<2 ^ 38)(V:∀t∈p.2.2,(CR t:Int)=p.2.1)(h:DW pre (le,all)):
  A1 (iter (Lw F p) F (le,all,0)) (fun r=>DW (pre++p.2.2) r):=by
 refine B6 p.2.2.length (fun i s=>s.2.2=(i:Int)∧DW (pre++p.2.2.take i) (s.1,s.2.1)) ⟨rfl,by simpa using h⟩ (by omega) ?_ ?_
 ·rintro i ⟨a,b,c⟩ hi ⟨O,K⟩;simp only at O K;subst O;unfold Lw;refine Bq (by simp only;omega) (Bp (m:=i) rfl hi ?_);obtain⟨q,U,Y⟩:=K.snoc F (t:=p.2.2[i]) (by simp;omega);rw [V _ (List.getElem_mem hi)] at U;refine AL U (AT ((i+1:Nat):Int) (by simp) (by omega) (by omega) ?_);refine Ak ⟨rfl,?_⟩;rw [List.take_add_one,List.getElem?_eq_getElem hi];simpa using Y
 ·rintro⟨a,b,c⟩ ⟨O,K⟩;simp only at O K;subst O;unfold Lw;refine A6 (by simp) (Ak ⟨_,rfl,?_⟩);rw [List.take_length] at K;exact K
theorem Z4{F n:Nat}{J:JW}{lk:Bm}(al:268435456<F)(am:VJ n J)(ag:Cg n lk):A1 (f93 F (J.1,J.2,FG J) lk) (fun r=>DW (TT J lk) r):=by
 obtain⟨qs,e,Y⟩:=VK (F:=F) (by omega) am ag;unfold f93;refine AL e ?_;have a0:=U1 qs;have hlen:∀p∈D5 qs,p.2.2.length≤268435456∧∀t∈p.2.2,(CR t:Int)=p.2.1:=fun p Z=>by
  obtain⟨j,U,rfl,_⟩:=UK Z;exact⟨Nat.le_trans (Y j U).len (Tq ag j),fun t ht=>((Y j U).sub t ht).2⟩
 refine AE (S:=fun r=>DW ((D5 qs).flatMap fun p=>p.2.2) r) ?_ ?_
 ·refine B6 (D5 qs).length (fun i s=>s.2.2=(i:Int)∧DW (((D5 qs).take i).flatMap fun p=>p.2.2) (s.1,s.2.1)) ⟨rfl,.inl ⟨rfl,rfl⟩⟩ (by omega) ?_ ?_
  ·rintro i ⟨a,b,c⟩ hi ⟨O,K⟩;simp only at O K;subst O;unfold NA;refine Bq (by simp only;omega) (Bp (m:=i) rfl hi ?_);obtain⟨ap,g2⟩:=hlen _ (List.getElem_mem hi);have a1:(((D5 qs).take i).flatMap fun p=>p.2.2).length≤((D5 qs).take i).length*268435456:=KD fun p Z=>(hlen p (List.mem_of_mem_take Z)).1;have av:((D5 qs).take i).length≤13:=by rw [List.length_take];omega
   have hmul:((D5 qs).take i).length*268435456≤13*268435456:=Nat.mul_le_mul_right _ av;refine AE (Zx al ap (by omega) g2 K) ?_;intro r V;refine AT ((i+1:Nat):Int) (by simp) (by omega) (by omega) ?_;refine Ak ⟨rfl,?_⟩;rw [List.take_add_one,List.getElem?_eq_getElem hi];simp only [Option.toList_some,List.flatMap_append,List.flatMap_cons,List.flatMap_nil,List.append_nil];exact V
  ·rintro⟨a,b,c⟩ ⟨O,K⟩;simp only at O K;subst O;unfold NA;refine A6 (by simp) (Ak ⟨_,rfl,?_⟩);rw [List.take_length] at K;exact K
 ·intro r V;refine Ak ?_;rw [Uy] at V;exact DW.flat (fun j U=>Y j (List.mem_range.1 U)) V
end Pal
namespace Pal
theorem DW.Yw{K:List CE}{q:Int×List CE}(h:DW K q):q.2= []↔K= []:=by
 rcases h with⟨O,rfl⟩ | ⟨k,_,⟨t,ht,U⟩,_,V⟩
 ·simp [O]
 ·constructor
  ·intro e;have:t∈q.2:=by rw [V];exact List.mem_filter.2 ⟨ht,by simpa using U⟩
   rw [e] at this;simp at this
  ·rintro rfl;simp at ht
def GL(J:JW)(lk:Bm)(k:Nat):Prop:=(∃t∈TT J lk,CR t=k)∧∀t∈TT J lk,k≤CR t
def Eu(J:JW)(lk:Bm)(k:Nat):List CE:=(TT J lk).filter fun t=>decide (CR t=k)
theorem GL.uniq{J:JW}{lk:Bm}{k k':Nat}(h:GL J lk k)(K:GL J lk k'):k=k':=by
 obtain⟨⟨t,ht,Z⟩,O⟩:=h;obtain⟨⟨U,V,ag⟩,Y⟩:=K;have:=O U V;have:=Y t ht;omega
theorem Lq{J:JW}{lk:Bm}{t:CE}:t∈TT J lk↔∃a,a<13∧t∈TA J lk a:=by
 unfold TT;rw [List.mem_flatMap];exact⟨fun⟨a,K,O⟩=>⟨a,List.mem_range.1 K,O⟩,fun⟨a,K,O⟩=>⟨a,List.mem_range.2 K,O⟩⟩
theorem Nk{J:JW}{lk:Bm}{a:Nat}{t:CE}(h:t∈TA J lk a):t.1=(a:Int):=by
 obtain⟨x,_,rfl⟩:=List.mem_map.1 h;rfl
theorem ZY{n:Nat}{J:JW}{lk:Bm}(K:Cg n lk):(TT J lk).length≤13*268435456:=by
 unfold TT;have:=KD (l:=List.range 13) (f:=TA J lk) (b:=268435456) fun a _=>Tq K a;simpa using this
theorem Zl{F:Nat}{l:List CE}(ag:l.length<F)(hlen:l.length<2 ^ 40)(h:∀t∈l,0≤t.1∧t.1<13):A1 (f87 F l) (fun r=>r<2 ^ 13∧∀a:Nat,r.testBit a=true↔∃t∈l,t.1=(a:Int)):=by
 unfold f87;refine AE (S:=fun r=>r<2 ^ 13∧∀a:Nat,r.testBit a=true↔∃t∈l,t.1=(a:Int)) ?_ (fun r Y=>Ak Y);refine B6 l.length (fun i s=>s.2=(i:Int)∧s.1<2 ^ 13∧∀a:Nat,s.1.testBit a=true↔∃t∈l.take i,t.1=(a:Int)) ⟨rfl,by simp,fun a=>by simp⟩ (by omega) ?_ ?_
 ·rintro i ⟨s,c⟩ hi ⟨O,U,K⟩;simp only at O U K;subst O;unfold NH;have hm:=h _ (List.getElem_mem hi);refine Bq (by simp only;omega) (Bp (m:=i) rfl hi ?_);have Z:l[i].1=((l[i].1.toNat:Nat):Int):=by omega
  have V:=NN F (s:=s) (n:=l[i].1.toNat) (by omega) (by omega);rw [← Z] at V;refine AL V ?_;refine AT ((i+1:Nat):Int) (by simp) (by omega) (by omega) ?_;refine Ak ⟨rfl,?_,fun a=>?_⟩
  ·refine Nat.or_lt_two_pow U ?_;rw [Nat.one_shiftLeft];exact Nat.pow_lt_pow_right (by omega) (by omega)
  ·simp only;rw [Nat.testBit_or,Bool.or_eq_true,K,Nat.one_shiftLeft,Nat.testBit_two_pow,decide_eq_true_iff,List.take_add_one,List.getElem?_eq_getElem hi];simp only [Option.toList_some,List.mem_append,List.mem_singleton];constructor
   ·rintro(⟨t,t1,t2⟩ | al)
    ·exact⟨t,.inl t1,t2⟩
    ·exact⟨l[i],.inr rfl,by omega⟩
   ·rintro⟨t,t1 | t1,t2⟩
    ·exact .inl ⟨t,t1,t2⟩
    ·subst t1;exact .inr (by omega)
 ·rintro⟨s,c⟩ ⟨O,U,K⟩;simp only at O U K;subst O;unfold NH;refine A6 (by simp) (Ak ⟨_,rfl,U,?_⟩);rw [List.take_length] at K;exact K
end Pal
namespace Pal
def ED(J:JW)(a:Nat)(p:List Int):Prop:=(∀m,p[0]? =some m→∃k:Nat,m=(k:Int)∧(AG J a).testBit k=true)∧∀(y:Nat) m m',p[y]? =some m→p[y+1]? =some m'→m'∈J.1.getD m.toNat []
theorem ED.range{n a:Nat}{J:JW}{p:List Int}(K:VJ n J)(h:ED J a p):∀(y:Nat) m,p[y]? =some m→0≤m∧m<(n:Int)
 | 0,m,hm=>by
  obtain⟨k,rfl,O⟩:=h.1 m hm
  have:=HS (II K a) O
  omega
 | y+1,m,hm=>by
  have U:y<p.length:=by have:=(List.getElem?_eq_some_iff.1 hm).1;omega
  exact(K.FW _).inr _ (h.2 y p[y] m (List.getElem?_eq_getElem U) hm)
theorem ED.take{a:Nat}{J:JW}{p:List Int}(h:ED J a p)(k:Nat):ED J a (p.take k):=by
 have key:∀(y:Nat) m,(p.take k)[y]? =some m→p[y]? =some m:=fun y m hm=>by
  rw [List.getElem?_take] at hm;split at hm
  ·exact hm
  ·cases hm
 exact⟨fun m hm=>h.1 m (key 0 m hm),fun y m m' K O=>h.2 y m m' (key _ _ K) (key _ _ O)⟩
theorem ED.snoc{a:Nat}{J:JW}{p:List Int}{m x:Int}(h:ED J a (p++ [m]))(U:x∈J.1.getD m.toNat []):ED J a (p++ [m]++ [x]):=by
 constructor
 ·intro y O;rw [List.getElem?_append_left (by simp)] at O;exact h.1 y O
 ·intro y u V hu K;rcases Nat.lt_or_ge (y+1) (p++ [m]).length with Y | Z
  ·rw [List.getElem?_append_left (by omega)] at hu;rw [List.getElem?_append_left Y] at K;exact h.2 y u V hu K
  ·have ag:=(List.getElem?_eq_some_iff.1 K).1;simp only [List.length_append,List.length_singleton] at Z ag;have e:y=p.length:=by omega
   subst e;rw [List.getElem?_append_left (by simp),List.getElem?_append_right (by omega)] at hu;rw [List.getElem?_append_right (by simp)] at K;simp at hu K;subst hu;subst K;exact U
theorem Ys{n a q:Nat}{J:JW}{x:Int}(K:VJ n J)(O:(AG J a).testBit q=true)(U:x∈J.1.getD q []):∃k:Nat,x=(k:Int)∧(AG J (a+1)).testBit k=true:=by
 have V:=(K.FW q).inr x U;refine⟨x.toNat,by omega,?_⟩;show(Ge J.1 (AG J a)).testBit _=true;rw [MX K];exact⟨q,by have:=HS (II K a) O;have:=K.le;omega,O,by rw [show((x.toNat:Nat):Int)=x by omega];exact U⟩
theorem VJ.T0{n q:Nat}{J:JW}(K:VJ n J)(U:q<n):J.1[q]? =some (J.1.getD q [])∧0<(J.1.getD q []).length:=by
 have V:=K.l1;have O:J.1[q]? =some (J.1.getD q []):=by rw [List.getD_eq_getElem?_getD,List.getElem?_eq_getElem (by omega)];rfl
 exact⟨O,(K.nx q _ O).2⟩
theorem aA{F k n yrs:Nat}{b:Ft}{J:JW}(bw:100<F)(K:VJ n J)(hb:BG k b)(bU:k<1000)(bV:yrs≤20):
  A1 (f45 F b J (yrs:Int)) (fun r=>∃a:Nat,r.1=(a:Int)∧a≤6∧r.2.1.length=yrs∧ED J a r.2.1∧BG (k+30) r.2.2):=by
 have bW:=K.le;have bY:=K.pos;unfold f45;refine AE (HY hb (by omega) (by omega)) ?_;rintro⟨a5,bZ⟩ ⟨a8,g2,a6⟩;simp only at a8 g2 a6 ⊢;obtain⟨a,rfl⟩:∃a:Nat,a5=(a:Int):=⟨a5.toNat,by omega⟩;refine AE (S:=fun r=>∃q:Nat,r.1=(q:Int)∧(AG J a).testBit q=true∧BG (k+7) r.2) ?_ ?_
 ·refine B6 a (fun i s=>∃q:Nat,s.2.2.2.1=(q:Int)∧(AG J i).testBit q=true∧s.2.2.2.2=(i:Int)∧BG (k+1+i) (s.1,s.2.1,s.2.2.1)) ⟨0,rfl,by show(1:Nat).testBit 0=true;decide,rfl,a6⟩ (by omega) ?_ ?_
  ·rintro i ⟨s1,s2,a2,Z,a1⟩ hi ⟨q,O,ag,al,am⟩;simp only at O al am;subst O;subst al;unfold Nv;have a9:=HS (II K i) ag;obtain⟨a3,a4⟩:=K.T0 a9;refine Bq (by simp only;omega) (AL (Ed (m:=q) rfl a3) ?_);refine AE (NP (F:=F) am (by omega) a4 (by have:=(K.FW q).len;omega)) ?_;rintro⟨x,bb⟩ ⟨ap,av⟩;simp only at ap av ⊢;obtain⟨bd,rfl,be⟩:=Ys K ag ap;exact AT ((i+1:Nat):Int) (by simp) (by omega) (by omega) (Ak ⟨bd,rfl,be,rfl,av⟩)
  ·rintro⟨s1,s2,a2,Z,a1⟩ ⟨q,O,ag,al,am⟩;simp only at O al am;subst O;subst al;unfold Nv;exact A6 (by simp) (Ak ⟨_,rfl,q,rfl,ag,am.Ai (by omega)⟩)
 ·rintro⟨b0,bb⟩ ⟨q,O,ag,av⟩;simp only at O av ⊢;subst O;refine AE (S:=fun r=>r.1.length=yrs∧ED J a r.1∧BG (k+30) r.2) ?_ ?_
  ·refine B6 yrs (fun i s=>s.2.2.2.2.1.length=i∧s.2.2.2.2.2=(i:Int)∧ED J a (s.2.2.2.2.1++ [s.2.2.2.1])∧BG (k+7+i) (s.1,s.2.1,s.2.2.1)) ⟨rfl,rfl,⟨?_,?_⟩,av⟩ (by omega) ?_ ?_
   ·intro m hm;simp at hm;subst hm;exact⟨q,rfl,ag⟩
   ·intro y m m' _ bi;simp at bi
   ·rintro i ⟨s1,s2,a2,Z,a1,bo⟩ hi ⟨U,Y,V,a0⟩;simp only at U Y V a0;subst Y;unfold Nw;have b1:=V.range K i Z (by rw [List.getElem?_append_right (by omega)];simp [U]);obtain⟨u,hu⟩:∃u:Nat,Z=(u:Int):=⟨Z.toNat,by omega⟩;subst hu;obtain⟨a3,a4⟩:=K.T0 (q:=u) (by omega);refine Bq (by simp only;omega) (JD (by simp only;omega) ?_);refine AL (Ed (m:=u) rfl a3) (AE (NP (F:=F) a0 (by omega) a4 (by have:=(K.FW u).len;omega)) ?_);rintro⟨x,bv⟩ ⟨ap,a7⟩;simp only at ap a7 ⊢;exact AT ((i+1:Nat):Int) (by simp) (by omega) (by omega) (Ak ⟨by simp [U],rfl,V.snoc (by simpa using ap),a7⟩)
   ·rintro⟨s1,s2,a2,Z,a1,bo⟩ ⟨U,Y,V,a0⟩;simp only at U Y V a0;subst Y;unfold Nw;refine A6 (by simp) (Ak ⟨_,rfl,U,?_,a0.Ai (by omega)⟩);have:=V.take a1.length
    rwa [List.take_left' rfl] at this
  ·rintro⟨ms,bv⟩ ⟨U,Y,V⟩;exact Ak ⟨a,rfl,by omega,U,Y,V⟩
theorem Cg.snoc{n:Nat}{lk:Bm}{l:Int×Int}(h:Cg n lk)(Z:lk.length<4)(U:0≤l.1∧l.1≤6)(V:0≤l.2∧l.2<(n:Int))(Y:∀x∈lk,x.1≤l.1):Cg n (lk++ [l]) where
 len:=by simp;omega
 yr x K:=by
  rcases List.mem_append.1 K with K | K
  ·exact h.yr x K
  ·simp at K;subst K;exact U
 sn x K:=by
  rcases List.mem_append.1 K with K | K
  ·exact h.sn x K
  ·simp at K;subst K;exact V
 HH:=by
  rw [List.pairwise_append];exact⟨h.HH,by simp,fun x K y O=>by simp at O;subst O;exact Y x K⟩
theorem Cg.nil{n:Nat}:Cg n []:=⟨by simp,by simp,by simp,by simp⟩
theorem aG{F k n many:Nat}{b:Ft}{J:JW}{ms:List Int}(fl:Bool)(bW:100<F)(ap:VJ n J)(hb:BG k b)(bY:k<1000)(hm:many≤4)(a7:0<ms.length∧ms.length≤7)(Y:∀(y:Nat) m,ms[y]? =some m→0≤m∧m<(n:Int)):
  A1 (f46 F b J ms (many:Int) fl) (fun r=>Cg n r.1∧r.1.length≤many∧(∀l∈r.1,l.1.toNat<ms.length)∧(fl=false→∀l∈r.1,ms[l.1.toNat]? =some l.2)∧BG (k+30) r.2):=by
 have a8:=ap.l2;unfold f46;refine AE (HY hb (by omega) (by omega)) ?_;rintro⟨ct,bZ⟩ ⟨a9,g2,av⟩;simp only at a9 g2 av ⊢;obtain⟨c,rfl⟩:∃c:Nat,ct=(c:Int):=⟨ct.toNat,by omega⟩;refine AE (S:=fun r=>Cg n r.1∧r.1.length≤many∧(∀l∈r.1,l.1.toNat<ms.length)∧(fl=false→∀l∈r.1,ms[l.1.toNat]? =some l.2)∧BG (k+30) r.2) ?_ (fun r Y=>Ak Y);refine ML (fun m s=>∃y:Nat,s.2.2.2.2.2=(m:Int)∧s.2.2.2.2.1=(y:Int)∧y<ms.length∧s.2.2.2.1.length+m≤many∧Cg n s.2.2.2.1∧(∀l∈s.2.2.2.1,l.1≤(y:Int))∧(fl=false→∀l∈s.2.2.2.1,ms[l.1.toNat]? =some l.2)∧BG (k+29 - 4*m) (s.1,s.2.1,s.2.2.1)) ?_ (m:=c) ⟨0,rfl,rfl,a7.1,by simp;omega,Cg.nil,by simp,by simp,av.Ai (by omega)⟩ (by omega);rintro m ⟨s1,s2,b0,out,yr,cnt⟩ ⟨y,a0,a1,b1,hlen,U,hle,Z,ag⟩;simp only at a0 a1 hlen U hle Z ag;subst a0;subst a1;unfold PG;refine Bs (fun bb=>?_) (fun bd=>?_)
 ·simp only at bb;have b2:0<m:=by omega
  refine AT ((ms.length - 1:Nat):Int) (by omega) (by omega) (by omega) (AT ((y+2:Nat):Int) (by simp only;omega) (by omega) (by omega) ?_);refine AE (Pt (F:=F) ag (by omega) (by simp only;omega) (by simp only;omega) (by omega)) ?_;rintro⟨a2,b3⟩ ⟨v1,v2,al⟩;simp only at v1 v2 al ⊢;obtain⟨z,rfl⟩:∃z:Nat,a2=(z:Int):=⟨a2.toNat,by omega⟩;have a3:z<ms.length:=by omega
  have hg:ms[z]? =some ms[z]:=List.getElem?_eq_getElem a3;obtain⟨b4,be⟩:=Y z _ hg;obtain⟨q,bi⟩:∃q:Nat,ms[z]=(q:Int):=⟨ms[z].toNat,by omega⟩;rw [bi] at hg be;have b5:q<n:=by omega
  have bo:J.2[q]? =some (J.2.getD q []):=by rw [List.getD_eq_getElem?_getD,List.getElem?_eq_getElem (by omega)];rfl
  have a4:=ap.Qg q;refine AL (Ed (m:=z) rfl hg) ?_;refine AL (Ed (m:=z) rfl hg) ?_;refine AL (Ed (m:=q) rfl bo) ?_;refine AE (S:=fun c=>c=true→fl=true∧0<(J.2.getD q []).length) ?_ ?_
  ·refine Bs (fun h=>Ak fun O=>⟨h,by have:=of_decide_eq_true O;omega⟩) (fun _=>Ak fun O=>by cases O)
  ·intro b6 bv;refine AE (S:=fun r=>(r.1=true→fl=true∧0<(J.2.getD q []).length)∧BG (k+29 - 4*m+2) r.2) ?_ ?_
   ·refine Bs (fun h=>?_) (fun _=>Ak ⟨fun O=>(by cases O),BG.Ai al (by omega)⟩);refine AE (Lp (F:=F) al (by omega) (by omega) (by omega)) ?_;rintro⟨o,bw⟩ V;exact Ak ⟨fun _=>bv h,V⟩
   ·rintro⟨c2,bw⟩ ⟨a5,V⟩;simp only at a5 V ⊢;refine AE (S:=fun r=>0≤r.2.2.2∧r.2.2.2<(n:Int)∧(fl=false→r.2.2.2=(q:Int))∧BG (k+29 - 4*m+3) (r.1,r.2.1,r.2.2.1)) ?_ ?_
    ·refine Bs (fun h=>?_) (fun _=>Ak ⟨by simp only;omega,by simp only;omega,fun _=>rfl,BG.Ai V (by omega)⟩);obtain⟨f1,f2⟩:=a5 h;refine AE (NP (F:=F) V (by omega) f2 (by have:=a4.len;omega)) ?_;rintro⟨x,b7⟩ ⟨am,bU⟩;have:=a4.inr x am;exact Ak ⟨this.1,this.2,fun O=>(by rw [f1] at O;cases O),bU⟩
    ·rintro⟨u1,u2,b8,sn⟩ ⟨w1,w2,w3,w4⟩;simp only at w1 w2 w3 w4 ⊢;refine JD (by have:=U.len;omega) (AT ((m - 1:Nat):Int) (by omega) (by omega) (by omega) ?_);refine Ak ⟨m - 1,by omega,z,rfl,rfl,a3,by simp;omega,?_,?_,?_,w4.Ai (by omega)⟩
     ·exact U.snoc (by have:=U.len;omega) ⟨by simp only;omega,by simp only;omega⟩ ⟨w1,w2⟩ fun x am=>by have:=hle x am;simp only;omega
     ·intro l K;rcases List.mem_append.1 K with K | K
      ·have:=hle l K;omega
      ·simp at K;subst K;exact Int.le_refl _
     ·intro a6 l K;rcases List.mem_append.1 K with K | K
      ·exact Z a6 l K
      ·simp at K;subst K;rw [w3 a6];exact hg
 ·simp only at bd;have bV:m=0:=by omega
  subst bV;exact Ak ⟨U,by omega,fun l K=>by have b9:=hle l K;have a8:=U.yr l K;omega,Z,ag.Ai (by omega)⟩
theorem Cg.set{n i:Nat}{lk:Bm}{s:Int}(h:Cg n lk)(hi:i<lk.length)(hs:0≤s∧s<(n:Int)):Cg n (lk.set i (lk[i].1,s)):=by
 have hm:=List.getElem_mem hi;refine⟨by simpa using h.len,fun l K=>?_,fun l K=>?_,?_⟩
 ·rcases List.mem_or_eq_of_mem_set K with O | rfl
  ·exact h.yr l O
  ·exact h.yr lk[i] hm
 ·rcases List.mem_or_eq_of_mem_set K with O | rfl
  ·exact h.sn l O
  ·exact hs
 ·have key:(lk.set i (lk[i].1,s)).map (fun l=>l.1)=lk.map (fun l=>l.1):=by
   rw [List.map_set];apply List.ext_getElem?;intro j;by_cases e:i=j
   ·subst e;rw [List.getElem?_set_self (by simpa using hi)];simp [hi]
   ·rw [List.getElem?_set_ne e]
  have U:(lk.map fun l=>l.1).Pairwise (·≤·):=List.pairwise_map.2 h.HH;rw [← key] at U;exact List.pairwise_map.1 U
theorem aC{F k n many:Nat}{b:Ft}{J:JW}(V:100<F)(K:VJ n J)(hb:BG k b)(a8:k<900)(hm:many≤4):
  A1 (f40 F b J (many:Int)) (fun r=>Cg n r.1∧r.1.length≤many∧(∀l∈r.1,l.1.toNat<5)∧BG (k+100) r.2):=by
 have a9:=K.l1;have bb:=K.pos;have bd:=K.le;unfold f40;refine AE (aA (yrs:=5) V K hb (by omega) (by omega)) ?_;rintro⟨be,ms,bi⟩ ⟨a,_,_,g2,Y,Z⟩;simp only at g2 Y Z ⊢;refine AE (aG (many:=many) true V K Z (by omega) hm ⟨by omega,by omega⟩ (Y.range K)) ?_;rintro⟨lk,bo⟩ ⟨v1,v2,ag,_,al⟩;simp only at v1 v2 ag al ⊢;refine AE (S:=fun r=>Cg n r.1∧r.1.length≤many∧(∀l∈r.1,l.1.toNat<5)∧BG (k+100) r.2) ?_ (fun r a1=>Ak a1);refine B6 lk.length (fun i s=>s.2.2.2.2=(i:Int)∧Cg n s.2.2.2.1∧s.2.2.2.1.length=lk.length∧(∀l∈s.2.2.2.1,l.1.toNat<5)∧BG (k+60+3*i) (s.1,s.2.1,s.2.2.1)) ⟨rfl,v1,rfl,fun l a2=>by have:=ag l a2;omega,al⟩ (by have:=v1.len;omega) ?_ ?_
 ·rintro i ⟨s1,s2,a3,l,c⟩ hi ⟨e,w1,w2,w3,w4⟩;simp only at e w1 w2 w3 w4;subst e;unfold NT;have O:i<l.length:=by omega
  have a4:=v1.len;refine Bq (by simp only;omega) ?_;refine AE (Lp (F:=F) w4 (by omega) (by omega) (by omega)) ?_;rintro⟨o,bv⟩ U;simp only at U ⊢;refine AE (S:=fun r=>Cg n r.1∧r.1.length=lk.length∧(∀x∈r.1,x.1.toNat<5)∧BG (k+60+3*i+2) r.2) ?_ ?_
  ·refine Bs (fun _=>?_) (fun _=>Ak ⟨w1,w2,w3,BG.Ai U (by omega)⟩);refine AT ((n - 1:Nat):Int) (by omega) (by omega) (by omega) (AE (HY (F:=F) U (by omega) (by omega)) ?_);rintro⟨x,a5⟩ ⟨am,x2,ap⟩;simp only at am x2 ap ⊢;refine Bp (m:=i) rfl O (Ak ⟨?_,by simpa using w2,?_,ap⟩)
   ·rw [show Int.toNat (i:Int)=i by omega];exact w1.set O ⟨am,by omega⟩
   ·intro y a6;rcases List.mem_or_eq_of_mem_set a6 with a7 | rfl
    ·exact w3 y a7
    ·exact w3 l[i] (List.getElem_mem O)
  ·rintro⟨l2,a5⟩ ⟨u1,u2,av,a0⟩;simp only at u1 u2 av a0 ⊢;exact AT ((i+1:Nat):Int) (by simp) (by omega) (by omega) (Ak ⟨rfl,u1,u2,av,BG.Ai a0 (by omega)⟩)
 ·rintro⟨s1,s2,a3,l,c⟩ ⟨e,w1,w2,w3,w4⟩;simp only at e w1 w2 w3 w4;subst e;unfold NT;have a4:=v1.len;exact A6 (by simp only;omega) (Ak ⟨_,rfl,w1,by simp only;omega,w3,BG.Ai w4 (by omega)⟩)
end Pal
namespace Pal
def TS(J:JW)(lk:Bm)(p:List Int):Prop:=∀l∈lk,∀m,p[l.1.toNat]? =some m→EK J m l=true
def FF(lk:Bm):Nat→List Int→Nat
 | _,[]=>0
 | y,m::p=>BV lk y m lk.length ||| FF lk (y+1) p
theorem Li(lk:Bm)(i:Nat):∀(p:List Int) (y:Nat),(FF lk y p).testBit i=true↔∃l,lk[i]? =some l∧∃(q:Nat) (m:Int),p[q]? =some m∧l.1=((y+q:Nat):Int)∧m≠l.2
 | [],y=>by simp [FF]
 | m::p,y=>by
  unfold FF
  rw [Nat.testBit_or,Bool.or_eq_true,HV,Li lk i p (y+1)]
  constructor
  ·rintro(⟨_,l,K,O,U⟩ | ⟨l,K,q,u,O,U,V⟩)
   ·exact⟨l,K,0,m,rfl,by simpa using O,U⟩
   ·exact⟨l,K,q+1,u,by simpa using O,by rw [U];congr 1;omega,V⟩
  ·rintro⟨l,K,q,u,O,U,V⟩;cases q with
   | zero=>
    simp at O;subst O;exact .inl ⟨(List.getElem?_eq_some_iff.1 K).1,l,K,by simpa using U,V⟩
   | succ q=>exact .inr ⟨l,K,q,u,by simpa using O,by rw [U];congr 1;omega,V⟩
def LY(J:JW)(lk:Bm):Nat→Nat→List Int→Prop
 | _,_,[]=>True
 | y,sm,m::p=>m∈Cq sm 16∧EO J lk y m=true∧LY J lk (y+1) (CF (J.1.getD m.toNat [])) p
theorem Lg(J:JW)(lk:Bm)(x:List Int×Nat):∀(k sm:Nat) (ms:List Int) (fl:Nat),x∈D8 J lk k sm ms fl↔∃p,p.length=k∧x.1=ms++p∧LY J lk ms.length sm p∧x.2=fl ||| FF lk ms.length p
 | 0,sm,ms,fl=>by
  unfold D8
  rw [List.mem_singleton]
  constructor
  ·rintro rfl;exact⟨[],rfl,by simp,trivial,by simp [FF]⟩
  ·rintro⟨p,K,O,_,U⟩;have:p= []:=List.length_eq_zero_iff.1 K;subst this;simp [FF] at O U;exact Prod.ext O U
 | k+1,sm,ms,fl=>by
  unfold D8;rw [List.mem_flatMap];constructor
  ·rintro⟨m,hm,V⟩;split at V
   ·rename_i hb;obtain⟨p,K,O,U,Y⟩:=(Lg J lk x k _ _ _).1 V;refine⟨m::p,by simp [K],by rw [O];simp,⟨hm,hb,by simpa using U⟩,?_⟩;rw [Y];simp only [List.length_append,List.length_singleton,FF];exact Nat.or_assoc _ _ _
   ·simp at V
  ·rintro⟨p,K,O,U,Y⟩;cases p with
   | nil=>simp at K
   | cons m p=>
    obtain⟨Z,g2,ag⟩:=U;refine⟨m,Z,?_⟩;rw [if_pos g2];refine(Lg J lk x k _ _ _).2 ⟨p,by simpa using K,by rw [O];simp,by simpa using ag,?_⟩;rw [Y];simp only [List.length_append,List.length_singleton,FF];exact(Nat.or_assoc _ _ _).symm
theorem Pp{J:JW}{lk:Bm}{y:Nat}{m:Int}:EO J lk y m=true↔∀l∈lk,l.1=(y:Int)→EK J m l=true:=by
 unfold EO;rw [List.all_eq_true];refine forall_congr' fun l=>forall_congr' fun _=>?_;rw [Bool.or_eq_true,decide_eq_true_iff];by_cases h:l.1=(y:Int) <;> simp [h]
theorem OR{n q:Nat}{J:JW}{m:Int}(U:VJ n J):m∈Cq (CF (J.1.getD q [])) 16↔m∈J.1.getD q []:=by
 have K:=U.FW q;have Y:=U.le;rw [HN];constructor
 ·rintro⟨k,_,V,rfl⟩;rw [JE (fun x O=>(K.inr x O).1)] at V;exact of_decide_eq_true V
 ·intro h;have:=K.inr m h;refine⟨m.toNat,by omega,?_,by omega⟩;rw [JE (fun x O=>(K.inr x O).1),show((m.toNat:Nat):Int)=m by omega];exact decide_eq_true h
theorem Pg{n:Nat}{J:JW}{lk:Bm}(ag:VJ n J):∀(p:List Int) (y sm:Nat),LY J lk y sm p↔(∀m,p[0]? =some m→m∈Cq sm 16)∧(∀(q:Nat) m m',p[q]? =some m→p[q+1]? =some m'→m'∈J.1.getD m.toNat [])∧∀l∈lk,∀(q:Nat) m,l.1=((y+q:Nat):Int)→p[q]? =some m→EK J m l=true
 | [],y,sm=>by simp [LY]
 | m::p,y,sm=>by
  unfold LY
  rw [Pg ag p,Pp]
  constructor
  ·rintro⟨al,U,V,am,ap⟩
   refine⟨fun u hu=>by simp at hu;subst hu;exact al,fun q u Y hu O=>?_,fun l K q u Z hu=>?_⟩
   ·cases q with
    | zero=>
     simp at hu O;subst hu;exact(OR ag).1 (V Y (by rw [List.getElem?_eq_some_iff];exact List.getElem?_eq_some_iff.1 O))
    | succ q=>exact am q u Y (by simpa using hu) (by simpa using O)
   ·cases q with
    | zero=>
     simp at hu;subst hu;exact U l K (by simpa using Z)
    | succ q=>exact ap l K q u (by rw [Z];congr 1;omega) (by simpa using hu)
  ·rintro⟨al,U,V⟩;refine⟨al m rfl,fun l K av=>V l K 0 m (by simpa using av) rfl,fun u hu=>(OR ag).2 (U 0 m u rfl (by simpa using hu)),fun q u Y hu O=>U (q+1) u Y (by simpa using hu) (by simpa using O),fun l K q u Z hu=>V l K (q+1) u (by rw [Z];congr 1;omega) (by simpa using hu)⟩
theorem Jd{n a:Nat}{J:JW}{lk:Bm}(U:VJ n J)(av:Cg n lk){t:CE}:t∈TA J lk a↔t.1=(a:Int)∧t.2.1.length=B5 lk+1∧ED J a t.2.1∧TS J lk t.2.1∧t.2.2=FF lk 0 t.2.1:=by
 have ag:∀m:Int,m∈Cq (AG J a) 16↔∃k:Nat,m=(k:Int)∧(AG J a).testBit k=true:=fun m=>by
  rw [HN];exact⟨fun⟨k,_,O,K⟩=>⟨k,K,O⟩,fun⟨k,O,K⟩=>⟨k,by have:=HS (II U a) K;have:=U.le;omega,K,O⟩⟩
 have al:∀p:List Int,(∀l∈lk,∀(q:Nat) m,l.1=((0+q:Nat):Int)→p[q]? =some m→EK J m l=true)↔TS J lk p:=fun p=>by
  constructor
  ·intro h l V m hm;have:=av.yr l V;exact h l V l.1.toNat m (by omega) hm
  ·intro h l V q m a3 hm;exact h l V m (by rw [show l.1.toNat=q by omega];exact hm)
 unfold TA;rw [List.mem_map];constructor
 ·rintro⟨x,a0,rfl⟩;obtain⟨p,O,K,Y,Z⟩:=(Lg J lk x _ _ _ _).1 a0;obtain⟨a1,g2,a2⟩:=(Pg U p _ _).1 Y;simp only [List.nil_append] at K;rw [K,Z];refine⟨rfl,O,⟨fun m hm=>(ag m).1 (a1 m hm),g2⟩,(al p).1 a2,?_⟩;simp
 ·rintro⟨O,K,⟨Y,Z⟩,am,ap⟩;obtain⟨t1,t2,t3⟩:=t;simp only at O K Y Z am ap;subst O;subst ap;refine⟨(t2,FF lk 0 t2),(Lg J lk _ _ _ _ _).2 ⟨t2,K,by simp,(Pg U t2 _ _).2 ⟨fun m hm=>(ag m).2 (Y m hm),Z,(al t2).2 am⟩,by simp⟩,rfl⟩
def Gw(p:List Int)(l:Int×Int):Bool:=decide (p.getD l.1.toNat 0≠l.2)
theorem QT{α:Type}(lk:List α)(Q:α→Bool):∀k,((List.range k).filter fun i=>(lk[i]?.map Q).getD false).length=((lk.take k).filter Q).length
 | 0=>by simp
 | k+1=>by
  rw [List.range_succ,List.filter_append,List.length_append,QT lk Q k,List.take_add_one,List.filter_append,List.length_append]
  congr 1
  cases h:lk[k]? with
  | none=>simp [h]
  | some x=>cases K:Q x <;> simp [h,K]
theorem WT{n:Nat}{lk:Bm}{p:List Int}(V:Cg n lk)(Y:∀l∈lk,l.1.toNat<p.length)(i:Nat):(FF lk 0 p).testBit i=(lk[i]?.map (Gw p)).getD false:=by
 rw [Bool.eq_iff_iff,Li];cases h:lk[i]? with
 | none=>simp
 | some l=>
  have hm:=List.mem_of_getElem? h;have K:=Y l hm;have ag:=V.yr l hm;have hg:p.getD l.1.toNat 0=p[l.1.toNat]:=by rw [List.getD_eq_getElem?_getD,List.getElem?_eq_getElem K];rfl
  simp only [Option.map_some,Option.getD_some,Gw,decide_eq_true_iff,hg];constructor
  ·rintro⟨al,O,q,m,U,am,Z⟩;cases O;have:l.1.toNat=q:=by omega
   subst this;rw [List.getElem?_eq_getElem K] at U;cases U;exact Z
  ·intro O;exact⟨l,rfl,l.1.toNat,_,List.getElem?_eq_getElem K,by omega,O⟩
theorem I3{n:Nat}{lk:Bm}(O:Cg n lk):∀l∈lk,l.1.toNat≤B5 lk:=by
 intro l U;obtain⟨i,hi,rfl⟩:=List.mem_iff_getElem.1 U;have K:lk.length - 1<lk.length:=by omega
 unfold B5;rw [List.getLast?_eq_getElem?,List.getElem?_eq_getElem K];simp only;rcases Nat.lt_or_ge i (lk.length - 1) with h | h
 ·have:=List.pairwise_iff_getElem.1 O.HH i (lk.length - 1) hi K h;omega
 ·have e:i=lk.length - 1:=by omega
  subst e;exact Nat.le_refl _
theorem Lb{n a:Nat}{J:JW}{lk:Bm}(O:VJ n J)(K:Cg n lk){t:CE}(ht:t∈TA J lk a):CR t=(lk.filter (Gw t.2.1)).length:=by
 obtain⟨_,Y,_,_,U⟩:=(Jd O K).1 ht;have Z:=K.len;unfold CR Cq;rw [List.length_map,U];have e:(List.range 16).filter (fun i=>(FF lk 0 t.2.1).testBit i)=(List.range 16).filter fun i=>(lk[i]?.map (Gw t.2.1)).getD false:=
  List.filter_congr fun i _=>WT K (fun l V=>by have:=I3 K l V;omega) i
 rw [e,QT,List.take_of_length_le (by omega)]
theorem Vo{J:JW}{m:Int}{l:Int×Int}:EK J m l=true↔m=l.2∨l.2∈J.2.getD m.toNat []:=by
 unfold EK;simp
end Pal
namespace Pal
theorem UP(s k:Nat):(Cq s k).Pairwise (·<·):=by
 unfold Cq;rw [List.pairwise_map];exact(List.pairwise_lt_range.filter _).imp fun h=>by omega
end Pal
namespace Pal
abbrev Dc(s:Nat):Nat:=(Cq s 16).length
theorem O9(s:Nat):Dc s=(List.range 16).countP fun n=>s.testBit n:=by
 unfold Dc Cq;rw [List.length_map,List.countP_eq_length_filter]
theorem Q9{α:Type}{p q:α→Bool}:∀(l:List α),(∀x∈l,¬(p x=true∧q x=true))→l.countP (fun x=>p x || q x)=l.countP p+l.countP q
 | [],_=>rfl
 | x::l,h=>by
  have:=Q9 l (fun y K=>h y (by simp [K]))
  have O:=h x (by simp)
  simp only [List.countP_cons,this]
  cases U:p x <;> cases V:q x <;> simp_all <;> omega
theorem Pn{a b:Nat}(h:∀i,¬(a.testBit i=true∧b.testBit i=true)):Dc (a ||| b)=Dc a+Dc b:=by
 simp only [O9,Nat.testBit_or];exact Q9 _ fun i _=>h i
theorem XC{a b:Nat}(h:∀i,a.testBit i=true→b.testBit i=true):Dc a≤Dc b:=by
 simp only [O9];exact List.countP_mono_left fun i _ hi=>h i hi
theorem Sl:∀{a b:List Int},a.Pairwise (·<·)→b.Pairwise (·<·)→(∀x,x∈a↔x∈b)→a=b
 | [],[],_,_,_=>rfl
 | [],y::b,_,_,h=>by have:=(h y).2 (by simp);simp at this
 | x::a,[],_,_,h=>by have:=(h x).1 (by simp);simp at this
 | x::a,y::b,Y,hb,h=>by
  obtain⟨U,Z⟩:=List.pairwise_cons.1 Y
  obtain⟨V,ag⟩:=List.pairwise_cons.1 hb
  have al:x=y:=by
   have am:=(h x).1 (by simp);have ap:=(h y).2 (by simp);rcases List.mem_cons.1 am with e | e
   ·exact e
   ·rcases List.mem_cons.1 ap with K | K
    ·exact K.symm
    ·have:=U y K;have:=V x e;omega
  subst al;rw [Sl Z ag fun z=>?_];have O:=h z;simp only [List.mem_cons] at O;constructor
  ·intro hm;rcases O.1 (.inr hm) with e | e
   ·subst e;have:=U z hm;omega
   ·exact e
  ·intro hm;rcases O.2 (.inr hm) with e | e
   ·subst e;have:=V z hm;omega
   ·exact e
theorem U4{n q:Nat}{J:JW}(K:VJ n J):Cq (CF (J.1.getD q [])) 16=J.1.getD q []:=Sl (UP _ _) (K.FW q).HH fun _=>OR K
def Ew(J:JW)(lk:Bm)(h y:Nat)(m:Int):Option Nat:=if EO J lk y m=true∧(BV lk y m lk.length).testBit h=false then some (Dc (BV lk y m lk.length)) else none
def ways(J:JW)(lk:Bm)(h:Nat):Nat→Nat→Int→Nat→Nat
 | 0,y,m,k=>match Ew J lk h y m with
  | some c=>if k=c then 1 else 0
  | none=>0
 | d+1,y,m,k=>match Ew J lk h y m with
  | some c=>if c≤k then((J.1.getD m.toNat []).map fun x=>ways J lk h d (y+1) x (k - c)).sum else 0
  | none=>0
theorem MD{α:Type}{p:α→Bool}{l:List α}(h:∀x∈l,p x=false):l.countP p=0:=List.countP_eq_zero.2 fun x K=>by rw [h x K];simp
theorem Sw{J:JW}{lk:Bm}{k sm:Nat}{ms:List Int}{fl:Nat}{x:List Int×Nat}(K:x∈D8 J lk k sm ms fl)(i:Nat)(h:fl.testBit i=true):x.2.testBit i=true:=by
 obtain⟨p,_,_,_,e⟩:=(Lg J lk x k sm ms fl).1 K;rw [e,Nat.testBit_or,h];rfl
theorem Xe{n h:Nat}{J:JW}{lk:Bm}(Z:VJ n J):∀(d sm:Nat) (ms:List Int) (fl c:Nat),sm<2 ^ n→fl.testBit h=false→(∀i,fl.testBit i=true→∃l,lk[i]? =some l∧l.1<(ms.length:Int))→
  (D8 J lk (d+1) sm ms fl).countP (fun x=>decide (Dc x.2=c+Dc fl)&& !x.2.testBit h)=((Cq sm 16).map fun m=>ways J lk h d ms.length m c).sum:=by
 intro d
 induction d with
 | zero=>
  intro sm ms fl c a1 hh Y;unfold D8;rw [List.countP_flatMap];refine congrArg List.sum (List.map_congr_left fun m hm=>?_);simp only [Function.comp,ways,Ew];have ag:∀i,¬(fl.testBit i=true∧(BV lk ms.length m lk.length).testBit i=true):=fun i ⟨al,am⟩=>by
   obtain⟨l,O,ap⟩:=Y i al;obtain⟨_,a2,K,av,_⟩:=(HV _ _ _ _ _).1 am;rw [O] at K;cases K;omega
  by_cases hb:EO J lk ms.length m=true
  ·rw [if_pos hb];cases hs:(BV lk ms.length m lk.length).testBit h with
   | true=>rw [if_neg (by simp)];simp [D8,Nat.testBit_or,hh,hs]
   | false=>
    rw [if_pos ⟨hb,rfl⟩];simp only [D8,List.countP_cons,List.countP_nil,Nat.testBit_or,hh,hs,Pn ag];by_cases U:c=Dc (BV lk ms.length m lk.length)
    ·rw [if_pos U,if_pos (by simp;omega)]
    ·rw [if_neg U,if_neg (by simp;omega)]
  ·rw [if_neg hb,if_neg fun x=>hb x.1];simp
 | succ d a3=>
  intro sm ms fl c a1 hh Y;unfold D8;rw [List.countP_flatMap];refine congrArg List.sum (List.map_congr_left fun m hm=>?_);simp only [Function.comp,ways,Ew];obtain⟨q,_,a6,rfl⟩:=HN.1 hm;have a4:CF (J.1.getD q [])<2 ^ n:=by
   rcases Nat.lt_or_ge (CF (J.1.getD q [])) (2 ^ n) with h | h
   ·exact h
   ·obtain⟨i,a7,a0⟩:=Nat.exists_ge_and_testBit_of_ge_two_pow h;rw [JE (fun x V=>((Z.FW q).inr x V).1)] at a0;have:=(Z.FW q).inr _ (of_decide_eq_true a0);omega
  have ag:∀i,¬(fl.testBit i=true∧(BV lk ms.length (q:Int) lk.length).testBit i=true):=fun i ⟨al,am⟩=>by
   obtain⟨l,O,ap⟩:=Y i al;obtain⟨_,a2,K,av,_⟩:=(HV _ _ _ _ _).1 am;rw [O] at K;cases K;omega
  by_cases hb:EO J lk ms.length (q:Int)=true
  ·rw [if_pos hb];cases hs:(BV lk ms.length (q:Int) lk.length).testBit h with
   | true=>
    rw [if_neg (by simp)];refine MD fun x V=>?_;have:=Sw V h (by rw [Nat.testBit_or,hs];simp);simp [this]
   | false=>
    rw [if_pos ⟨hb,rfl⟩];have a5:=Pn ag;by_cases U:Dc (BV lk ms.length (q:Int) lk.length)≤c
    ·simp only;rw [if_pos U];have:=a3 (CF (J.1.getD q [])) (ms++ [(q:Int)]) (fl ||| BV lk ms.length (q:Int) lk.length) (c - Dc (BV lk ms.length (q:Int) lk.length)) a4 (by rw [Nat.testBit_or,hh,hs];rfl) (fun i hi=>by
      rw [Nat.testBit_or,Bool.or_eq_true] at hi
      rcases hi with hi | hi
      ·obtain⟨l,O,ap⟩:=Y i hi
       exact⟨l,O,by simp;omega⟩
      ·obtain⟨_,l,K,av,_⟩:=(HV _ _ _ _ _).1 hi
       exact⟨l,K,by simp;omega⟩)
     rw [U4 Z,a5,show c - Dc (BV lk ms.length (q:Int) lk.length)+(Dc fl+Dc (BV lk ms.length (q:Int) lk.length))=c+Dc fl by omega] at this;rw [show((q:Int)).toNat=q by omega,this,List.length_append];rfl
    ·simp only;rw [if_neg U];refine MD fun x V=>?_;have:=XC (Sw V);rw [Bool.and_eq_false_iff];exact .inl (decide_eq_false (by omega))
  ·rw [if_neg hb,if_neg fun x=>hb x.1];simp
def nT(J:JW)(lk:Bm)(h a k:Nat):Nat:=(TA J lk a).countP fun t=>decide (CR t=k)&& !t.2.2.testBit h
theorem XR{n:Nat}{J:JW}{lk:Bm}(K:VJ n J)(h a k:Nat):nT J lk h a k=((Cq (AG J a) 16).map fun m=>ways J lk h (B5 lk) 0 m k).sum:=by
 have:=Xe (h:=h) (lk:=lk) K (B5 lk) (AG J a) [] 0 k (II K a) (by simp) (by simp);have e:Dc 0=0:=by decide
 rw [e] at this;unfold nT TA;rw [List.countP_map];exact this
theorem X8{n h:Nat}{J:JW}{lk:Bm}(K:VJ n J)(O:Cg n lk)(hh:lk.length≤h)(a k:Nat):nT J lk h a k=(TA J lk a).countP fun t=>decide (CR t=k):=by
 refine List.countP_congr fun t ht=>?_;obtain⟨_,_,_,_,e⟩:=(Jd K O).1 ht;have:t.2.2.testBit h=false:=by
  cases hb:t.2.2.testBit h with
  | false=>rfl
  | true=>
   rw [e] at hb;obtain⟨l,U,_⟩:=(Li _ _ _ _).1 hb;have:=(List.getElem?_eq_some_iff.1 U).1;omega
 rw [this];simp
theorem Pu{l:List Nat}{b:Nat}(h:∀x∈l,x≤b):l.sum≤l.length*b:=by
 induction l with
 | nil=>simp
 | cons x l K=>
  have U:=h x (by simp);have V:=K fun y O=>h y (by simp [O]);simp only [List.sum_cons,List.length_cons,Nat.succ_mul];omega
theorem Sc{n h:Nat}{J:JW}{lk:Bm}(K:VJ n J):∀(d y:Nat) (m:Int) (k:Nat),ways J lk h d y m k≤3 ^ d
 | 0,y,m,k=>by
  unfold ways
  split
  ·split <;> simp
  ·simp
 | d+1,y,m,k=>by
  unfold ways;split
  ·split
   ·refine Nat.le_trans (Pu (b:=3 ^ d) fun x O=>?_) ?_
    ·obtain⟨z,_,rfl⟩:=List.mem_map.1 O;exact Sc K d _ _ _
    ·rw [List.length_map,Nat.pow_succ,Nat.mul_comm];exact Nat.mul_le_mul_left _ (K.FW _).len
   ·simp
  ·simp
end Pal
namespace Pal
open Go Go.Conc Go.Proofs
open Go.Proofs.Tryz
variable {J:Judge Tryz.prog}{E:LH}
def Qc(fuel:Nat)(p0:A9):Option Int:= (f113 fuel p0).bind fun K=> (LB fuel K).bind fun O=> some O
theorem ak{O:Ap}{c2:Nat}{U:Ap}{V:Nat}{p0:A9}(ag:GE E)(al:Al (rL rI) E O c2 p0.1)(am:Al (rL rI) E U V p0.2){fuel:Nat}{r:Int}(Y:Qc fuel p0=some r):AN J 67 [.agg #[sV O p0.1 c2,sV U p0.2 V]] E [] (fun w E' B'=>w=iV r∧B'= []):=by
 refine A3 func67 fun Q bb cs H ap av=>?_;unfold Qc at Y;refine zg 2 rfl (Ca ap fun bd be K a0 a1=>?_);refine zg 4 rfl (BX a0 Cd BJ rfl rfl ?_);obtain⟨bi,a2,a3⟩:=bs Y;refine BN (SP (al.Ai K) (am.Ai K) a2) rfl rfl (AV func113 rfl) a1 ?_;rintro bo bv _ Z ⟨_,rfl,rfl,a4⟩ a5;obtain⟨bw,a6,a7⟩:=bs a3;refine BH (Pm (ag.Ai (K.Ac Z)) a4 a6) rfl rfl Oy a5 fun bU a8 a9=>zg 2 rfl ?_;obtain rfl:=oi a7;exact AB func67 rfl rfl (av ((K.Ac Z).Ac a8) rfl ⟨rfl,rfl⟩ a9)
def HA(fuel:Nat)(p0:A9)(p1:AJ):Option Int:= (f113 fuel p0).bind fun K=> if K.isSome=true then((LB fuel K).bind fun O=> some O) else((f116 fuel p0 p1).bind fun U=> (LB fuel U).bind fun V=> some V)
theorem Lt{U:Ap}{c2:Nat}{V:Ap}{Y:Nat}{Z:Ap}{ag:Nat}{p0:A9}{p1:AJ}(al:GE E)(am:Al (rL rI) E U c2 p0.1)(ap:Al (rL rI) E V Y p0.2)(a5:Al Bg E Z ag p1){fuel:Nat}{r:Int}(av:HA fuel p0 p1=some r):AN J 69 [.agg #[sV U p0.1 c2,sV V p0.2 Y],sV Z p1 ag] E [] (fun w E' B'=>w=iV r∧B'= []):=by
 refine A3 func69 fun Q b4 cs H a6 a0=>?_;unfold HA at av;refine zg 2 rfl (Ca a6 fun b5 b6 K a1 a7=>?_);refine zg 5 rfl (BX a1 Cd BJ rfl rfl ?_);obtain⟨a8,a9,bb⟩:=bs av;refine BN (SP (am.Ai K) (ap.Ai K) a9) rfl rfl (AV func113 rfl) a7 ?_;rintro b7 b8 _ O ⟨_,rfl,rfl,a2⟩ a3;refine zg 5 rfl (AF (v:= .bool a8.isSome) rfl (fun ρ h=>O2 underlying149 a2 (h _ _ rfl) (h _ _ rfl)) ?_);refine JL.done (BI bb (fun bd be=>?_) (fun bd bi=>?_))
 ·obtain⟨b9,bo,bv⟩:=bs be;refine zg 3 rfl (BH (Pm (al.Ai (K.Ac O)) a2 bo) rfl rfl Oy a3 fun ca bw bU=>?_);refine zg 2 rfl ?_;obtain rfl:=oi bv;exact AB func69 rfl rfl (a0 ((K.Ac O).Ac bw) rfl ⟨rfl,rfl⟩ bU)
 ·refine zg 3 rfl (BX (a1.Ai O) Cd BJ rfl rfl ?_);obtain⟨cb,bV,bW⟩:=bs bi;refine zg 1 rfl (BN (ZC (am.Ai (K.Ac O)) (ap.Ai (K.Ac O)) (a5.Ai (K.Ac O)) bV) rfl rfl (AV func116 rfl) a3 ?_);rintro cc cd _ a4 ⟨_,rfl,rfl,bY⟩ bZ;obtain⟨ce,b0,b1⟩:=bs bW;refine BH (Pm (al.Ai ((K.Ac O).Ac a4)) bY b0) rfl rfl Oy bZ fun cf b2 b3=>zg 2 rfl ?_;obtain rfl:=oi b1;exact AB func69 rfl rfl (a0 (((K.Ac O).Ac a4).Ac b2) rfl ⟨rfl,rfl⟩ b3)
def RQ(fuel:Nat)(p1:List Int)(K:Int):Option (Bd Int (((Option BY)×Int)⊕(Unit))):= if K<(p1.length:Int) then((ix p1 K).bind fun O=> (f101 fuel O 0 12).bind fun U=> if U=true then(some (.done (Sum.inl (none,1)))) else((As (K+1)).bind fun V=> some (.more V))) else(some (.done (Sum.inr ())))
def NZ(fuel:Nat)(p0:A9)(p1:List Int):Option ((Option BY)×Int):= (Qc fuel p0).bind fun K=> if K≠0 then(some (none,K)) else(Option.bind (iter (RQ fuel p1) fuel 0) fun O=> Sum.elim (fun r=>some r) (fun V=> (f92 fuel p0).bind fun U=> some (U,0)) O)
theorem SI{ap:Ap}{c2:Nat}{av:Ap}{a0:Nat}{Z:Ap}{ag:Nat}{p0:A9}{p1:List Int}(bU:GE E)(a1:Al (rL rI) E ap c2 p0.1)(a2:Al (rL rI) E av a0 p0.2)(bV:Al rI E Z ag p1){fuel:Nat}{r:(Option BY)×Int}(a3:NZ fuel p0 p1=some r):AN J 106 [.agg #[sV ap p0.1 c2,sV av p0.2 a0],sV Z p1 ag] E [] (fun w E' B'=>∃(a4:Value),w= .tuple #[a4,iV r.2]∧B'= []∧Kt (rP (rL (rL rI)) (rP (rL (rL rI)) (rA 13 (rN .u16)))) E' a4 r.1):=by
 refine A3 func106 fun Q cC cs H bW al=>?_;unfold NZ at a3;refine zg 2 rfl (Ca bW fun a5 cD K a6 bY=>?_);refine zg 6 rfl (BX a6 Cd BJ rfl rfl ?_);obtain⟨cE,bZ,b0⟩:=bs a3;refine BH (ak (bU.Ai K) (a1.Ai K) (a2.Ai K) bZ) rfl rfl (AV func67 rfl) bY fun b1 O a7=>zg 7 rfl (AM b0 (fun b2 b3=>?_) (fun b2 b4=>?_))
 ·refine zg 6 rfl ?_;obtain rfl:=oi b3;exact AB func106 rfl rfl (al (K.Ac O) rfl ⟨.pointer none,rfl,rfl,rfl⟩ a7)
 ·refine zg 5 rfl (Bh underlying28 rfl rfl rfl ?_);obtain⟨a8,b5,a9⟩:=bs b4;refine zg 2 rfl (Bt (fun L s=>∃(bb:Unit) (bd:LH),a8=Sum.inr bb∧Jm b1 H bd [] [(2,pV a5 0)] L s) ?_ ?_)
  ·rintro _ _ ⟨bb,bd,rfl,rfl,rfl,U,b6⟩;have b7:=elim_inr a9;refine zg 2 rfl (BX (a6.Ai (O.Ac U)) Cd BJ rfl rfl ?_);obtain⟨cF,b8,b9⟩:=bs b7;refine BN (Od (a1.Ai ((K.Ac O).Ac U)) (a2.Ai ((K.Ac O).Ac U)) b8) rfl rfl Mm b6 ?_;rintro ca cG _ cb ⟨_,rfl,rfl,cc⟩ cd;refine zg 3 rfl ?_;obtain rfl:=oi b9;exact AB func106 rfl rfl (al (((K.Ac O).Ac U).Ac cb) rfl ⟨ca,rfl,rfl,cc⟩ cd)
  ·intro ce;refine JL.block (Cp b5 (fun am=> []) (fun am=> [(2,pV a5 0),(14,sV Z p1 ag),(15,iV (p1.length:Int)),(16,iV am)]) Ar a7 ?_);rintro am cf V be bi ⟨cH,Y⟩ cg;have bo:=Y;unfold RQ at bo;refine zg 5 rfl (AM bo (fun ci ck=>?_) (fun ci cm=>?_))
   ·obtain⟨cI,cn,co⟩:=bs ck;refine zg 5 rfl (Ce (bV.Ai ((K.Ac O).Ac V)) cn underlying28 AX ?_);rintro cJ cK _ rfl cp;refine B4 0 cp By rfl rfl rfl ?_;obtain⟨cM,cq,cr⟩:=bs co;refine zg 5 rfl (BH (Jc cq) rfl rfl IU be fun cN bv bw=>?_);refine JL.done (BI cr (fun ct cu=>?_) (fun ct cv=>?_))
    ·refine zg 5 rfl ?_;obtain rfl:=oi cu;obtain rfl:=bi _ Y;have cw:=elim_inl a9;obtain rfl:=oi cw;exact AB func106 rfl rfl (al (((K.Ac O).Ac V).Ac bv) rfl ⟨.pointer none,rfl,rfl,rfl⟩ bw)
    ·obtain⟨cy,cz,cA⟩:=bs cv;refine zg 3 rfl (Ba cz rfl rfl rfl ?_);refine zg 2 rfl ?_;obtain rfl:=oi cA;exact cg cy (V.Ac bv) bw rfl Y
   ·refine JL.exit rfl ?_;obtain rfl:=oi cm;have cB:a8=(Sum.inr ()):=(bi _ Y).symm;exact Ay (ce _ _ ⟨(),cf,cB,rfl,rfl,V,be⟩) rfl
def P0(fuel:Nat)(p0:A9)(p1:Int):Option ((List Int)×Int):= (NZ fuel p0 ([p1]:List Int)).bind fun K=> if K.2≠0 then(some ([],K.2)) else((K.1).bind fun O=> (ix O.2.2 p1).bind fun U=> (f89 fuel U).bind fun V=> some (V,0))
theorem Y8{U:Ap}{c2:Nat}{V:Ap}{Y:Nat}{p0:A9}{p1:Int}(a2:GE E)(a3:Al (rL rI) E U c2 p0.1)(a4:Al (rL rI) E V Y p0.2){fuel:Nat}{r:(List Int)×Int}(Z:P0 fuel p0 p1=some r):AN J 51 [.agg #[sV U p0.1 c2,sV V p0.2 Y],iV p1] E [] (fun w E' B'=>∃(ag:Ap) (al:Nat),w= .tuple #[sV ag r.1 al,iV r.2]∧B'= []∧Al rI E' ag al r.1):=by
 refine A3 func51 fun Q ce cs H a5 am=>?_;unfold P0 at Z;refine zg 2 rfl (Ca a5 fun cf cg K a6 a7=>?_);refine zg 5 rfl (BX a6 Cd BJ rfl rfl ?_);refine zg 1 rfl (DK (pp:=rI) [iV p1] [p1] rfl rfl rfl underlying28 AX CU (by decide) rfl rfl rfl ⟨rfl,trivial⟩ a7 fun ci ck a8 a9=>?_);refine BU 2 a8 a9 rfl fun cm O bb bd=>?_;obtain⟨cn,be,bi⟩:=bs Z;refine BN (SI (a2.Ai (K.Ac O)) (a3.Ai (K.Ac O)) (a4.Ai (K.Ac O)) bb be) rfl rfl (AV func106 rfl) bd ?_;rintro _ co _ ap ⟨cp,rfl,rfl,bo⟩ av;refine zg 12 rfl (AM bi (fun bv bw=>?_) (fun bv bU=>?_))
 ·refine zg 6 rfl ?_;obtain rfl:=oi bw;exact AB func51 rfl rfl (am ((K.Ac O).Ac ap) rfl ⟨none,0,rfl,rfl,Al.nil⟩ av)
 ·obtain⟨a0,bV,bW⟩:=bs bU;have a1:=bo;refine zg 5 rfl ?_;rw [bV] at a1;obtain⟨cq,cr,_,rfl,bY,⟨_,_,rfl,⟨bZ,b0,rfl,ct⟩,⟨_,cu,rfl,⟨b1,b2,rfl,cv⟩,b3⟩⟩⟩:=a1;refine zg 1 rfl (BL underlying141 Gj rfl rfl rfl ?_);obtain⟨cw,b4,b5⟩:=bs bW;refine Pk (l:= [sV bZ a0.1 b0,sV b1 a0.2.1 b2]) bY b3 b4 rfl rfl rfl rfl rfl underlying139 Io ?_;rintro cy _ rfl b6;refine JL.fl 0 b6 underlying138 En GW ?_;obtain⟨cz,b7,b8⟩:=bs b5;refine BN (Jh b7) rfl rfl IV av ?_;rintro _ cA _ b9 ⟨ca,cb,rfl,rfl,cc⟩ cd;refine zg 3 rfl ?_;obtain rfl:=oi b8;exact AB func51 rfl rfl (am (((K.Ac O).Ac ap).Ac b9) rfl ⟨ca,cb,rfl,rfl,cc⟩ cd)
def Sv(fuel:Nat)(p1:Int)(O:BY)(K:Int):Option (Bd Int Int):= (f109 fuel O p1 K).bind fun U=> if(!U)=true then((As (K+1)).bind fun V=> some (.more V)) else(some (.done K))
def P2(fuel:Nat)(p0:A9)(p1:Int):Option (Int×Int):= (NZ fuel p0 ([p1]:List Int)).bind fun K=> if K.2≠0 then(some (0,K.2)) else((K.1).bind fun O=> Option.bind (iter (Sv fuel p1 O) fuel 0) fun U=> some (U,0))
theorem aN{Z:Ap}{c2:Nat}{ag:Ap}{al:Nat}{p0:A9}{p1:Int}(a5:GE E)(a6:Al (rL rI) E Z c2 p0.1)(a7:Al (rL rI) E ag al p0.2){fuel:Nat}{r:Int×Int}(am:P2 fuel p0 p1=some r):AN J 57 [.agg #[sV Z p0.1 c2,sV ag p0.2 al],iV p1] E [] (fun w E' B'=>w= .tuple #[iV r.1,iV r.2]∧B'= []):=by
 refine A3 func57 fun Q ct cs H a8 ap=>?_;unfold P2 at am;refine zg 2 rfl (Ca a8 fun cu cv O a9 bb=>?_);refine zg 5 rfl (BX a9 Cd BJ rfl rfl ?_);refine zg 1 rfl (DK (pp:=rI) [iV p1] [p1] rfl rfl rfl underlying28 AX CU (by decide) rfl rfl rfl ⟨rfl,trivial⟩ bb fun cw cy bd be=>?_);refine BU 2 bd be rfl fun cz U bi bo=>?_;obtain⟨cA,bv,bw⟩:=bs am;refine BN (SI (a5.Ai (O.Ac U)) (a6.Ai (O.Ac U)) (a7.Ai (O.Ac U)) bi bv) rfl rfl (AV func106 rfl) bo ?_;rintro _ cB _ av ⟨cC,rfl,rfl,bU⟩ a0;refine zg 12 rfl (AM bw (fun bV bW=>?_) (fun bV bY=>?_))
 ·refine zg 6 rfl ?_;obtain rfl:=oi bW;exact AB func57 rfl rfl (ap ((O.Ac U).Ac av) rfl ⟨rfl,rfl⟩ a0)
 ·obtain⟨cD,bZ,b0⟩:=bs bY;have a1:=bU;refine zg 6 rfl ?_;rw [bZ] at a1;obtain⟨b1,b2,_,rfl,b3,⟨_,_,rfl,⟨cE,cF,rfl,b4⟩,⟨_,cG,rfl,⟨cH,cI,rfl,b5⟩,b6⟩⟩⟩:=a1;obtain⟨b7,b8,b9⟩:=bs b0;refine CK [] [(8,iV b7)] (fun cJ ca cb=>?_) (fun cc=>?_)
  ·refine zg 6 rfl ?_;obtain rfl:=oi b9;exact AB func57 rfl rfl (ap (((O.Ac U).Ac av).Ac ca) rfl ⟨rfl,rfl⟩ cb)
  ·refine JL.block (Cp b8 (fun V=> []) (fun V=> [(1,iV p1),(6,pV b1 b2),(8,iV V)]) Ar a0 ?_);rintro V cK K cd ce ⟨cM,Y⟩ cf;have a2:=Y;unfold Sv at a2;obtain⟨cg,ci,ck⟩:=bs a2;refine zg 6 rfl (BH (Y2 (b3.Ai K) (b4.Ai K) (b5.Ai K) (Rp.Ai _ K b6) ci) rfl rfl (AV func109 rfl) cd fun cN a3 a4=>?_);refine AF (v:= .bool (!cg)) rfl (fun ρ h=>Yl.not (h _ _ rfl)) (JL.done ?_);refine BI ck (fun cm cn=>?_) (fun cm co=>?_)
   ·obtain⟨cp,cq,cr⟩:=bs cn;refine zg 4 rfl (Ba cq rfl rfl rfl ?_);refine zg 3 rfl ?_;obtain rfl:=oi cr;exact cf cp (K.Ac a3) a4 rfl Y
   ·refine JL.exit rfl ?_;obtain rfl:=oi co;obtain rfl:=ce _ Y;exact cc (K.Ac a3) a4 rfl
end Pal
namespace Pal
open Go Go.Conc Go.Proofs
open Go.Proofs.Tryz
def H6(fuel:Nat)(p0:A9)(p1:AJ)(p2:Int)(p3:Bool):Option ((Option BY)×(Int×(List Cf))×Int):= (HA fuel p0 p1).bind fun O=> if O≠0 then(some (none,(0,[]),O)) else((As ((p1.length:Int) - 1)).bind fun V=> (f101 fuel p2 (-1) V).bind fun Y=> if Y=true then(some (none,(0,[]),3)) else((f92 fuel p0).bind fun Z=> (Z).bind fun U=> (f93 fuel U p1).bind fun K=> Option.bind (if(K.2.length:Int)=0 then(some (!p3)) else(some false)) fun ag=> if ag=true then(some (none,K,11)) else(some (some U,K,0))))
theorem Nn{E:LH}{a5:Ap}{c2:Nat}{a6:Ap}{a7:Nat}{a8:Ap}{a9:Nat}{p0:A9}{p1:AJ}{p2:Int}{p3:Bool}(ci:GE E)(bb:Al (rL rI) E a5 c2 p0.1)(bd:Al (rL rI) E a6 a7 p0.2)(be:Al Bg E a8 a9 p1){fuel:Nat}{r:(Option BY)×(Int×(List Cf))×Int}(bi:H6 fuel p0 p1 p2 p3=some r):AN (D4 Tryz.prog) 78 [.agg #[sV a5 p0.1 c2,sV a6 p0.2 a7],sV a8 p1 a9,iV p2,.bool p3] E [] (fun w E' B'=>∃(bo:Value) (bv:Ap) (bw:Nat),w= .tuple #[bo,.agg #[iV r.2.1.1,sV bv r.2.1.2 bw],iV r.2.2]∧B'= []∧Kt (rP (rL (rL rI)) (rP (rL (rL rI)) (rA 13 (rN .u16)))) E' bo r.1∧Al Dx E' bv bw r.2.1.2):=by
 refine A3 func78 fun Q c7 cs H ck ap=>?_;unfold H6 at bi;refine zg 2 rfl (Ca ck fun c8 c9 O bU cm=>?_);refine zg 1 rfl (CW cm Gi fun bV cn=>?_);refine zg 5 rfl (BX bU Cd BJ rfl rfl ?_);obtain⟨bW,co,cp⟩:=bs bi;refine zg 1 rfl (BH (Lt (ci.Ai O) (bb.Ai O) (bd.Ai O) (be.Ai O) co) rfl rfl Kx cn fun da V bY=>?_);refine zg 7 rfl (AM cp (fun cq cr=>?_) (fun cq ct=>?_))
 ·refine zg 2 rfl (AF (v:= .agg #[iV 0,nS]) rfl (fun ρ h=>Di [(0,1),(1,1)] h Gi underlying97 ⟨rfl,Bv type3,rfl,Bv type95,trivial⟩ rfl rfl) ?_);refine zg 2 rfl (BW 2 bY Dy fun bZ=>?_);refine zg 2 rfl ?_;obtain rfl:=oi cr;refine JL.ret (v:= .tuple #[.pointer none,.agg #[iV 0,nS],iV bW]) rfl rfl (Cm.list func78 rfl (vs:= [.pointer none,.agg #[iV 0,nS],iV bW]) ⟨rfl,⟨_,rfl,Ld.many (vs:= [iV 0,nS]) Ik Dy (F2 (off:=0) 2 bZ rfl rfl)⟩,rfl,trivial⟩) (IA 2 bZ rfl fun cu=>?_);exact ap (O.Ac V) rfl ⟨.pointer none,none,0,rfl,rfl,rfl,Al.nil⟩ cu
 ·refine zg 6 rfl (Bh underlying25 rfl rfl rfl ?_);obtain⟨db,cv,cw⟩:=bs ct;refine Cl cv rfl rfl rfl ?_;obtain⟨dc,cy,cz⟩:=bs cw;refine BH (Jc cy) rfl rfl IU bY fun dd al b0=>JL.done (BI cz (fun cA cB=>?_) (fun cA cC=>?_))
  ·refine zg 2 rfl (AF (v:= .agg #[iV 0,nS]) rfl (fun ρ h=>Di [(0,1),(1,1)] h Gi underlying97 ⟨rfl,Bv type3,rfl,Bv type95,trivial⟩ rfl rfl) ?_);refine zg 1 rfl (BW 2 b0 Dy fun b1=>?_);refine zg 2 rfl ?_;obtain rfl:=oi cB;refine JL.ret (v:= .tuple #[.pointer none,.agg #[iV 0,nS],iV 3]) rfl rfl (Cm.list func78 rfl (vs:= [.pointer none,.agg #[iV 0,nS],iV 3]) ⟨rfl,⟨_,rfl,Ld.many (vs:= [iV 0,nS]) Ik Dy (F2 (off:=0) 2 b1 rfl rfl)⟩,rfl,trivial⟩) (IA 2 b1 rfl fun cD=>?_);exact ap ((O.Ac V).Ac al) rfl ⟨.pointer none,none,0,rfl,rfl,rfl,Al.nil⟩ cD
  ·refine zg 3 rfl (BX (bU.Ai (V.Ac al)) Cd BJ rfl rfl ?_);obtain⟨de,cE,cF⟩:=bs cC;refine BN (Od (bb.Ai ((O.Ac V).Ac al)) (bd.Ai ((O.Ac V).Ac al)) cE) rfl rfl Mm b0 ?_;rintro df dg _ a1 ⟨_,rfl,rfl,cG⟩ cH;obtain⟨a2,cI,cJ⟩:=bs cF;have b2:=cG;refine zg 6 rfl ?_;rw [cI] at b2;obtain⟨av,a0,_,rfl,b3,⟨_,_,rfl,⟨cK,cM,rfl,b4⟩,⟨_,b5,rfl,⟨b6,b7,rfl,b8⟩,b9⟩⟩⟩:=b2;obtain⟨K,cN,cO⟩:=bs cJ;refine BN (N4 b3 b4 b8 b9 (be.Ai (((O.Ac V).Ac al).Ac a1)) cN) rfl rfl Ml cH ?_;rintro _ dh _ am ⟨Y,Z,rfl,rfl,ca⟩ cP;refine CW cP Gi fun cQ cR=>?_;refine BW 7 cR Dy fun cT=>?_;refine C8 7 cT rfl fun a3 ag a4 cb=>zg 4 rfl (JL.fl 1 a4 underlying97 DF EV ?_);refine Bh underlying95 rfl rfl rfl ?_;obtain⟨cV,cW,cX⟩:=bs cO;refine zg 2 rfl (EY [] (fun L s=>∃(cc:LH),Jm a3 H cc [bX bV #[iV 0,nS] 97] [(9,pV bV 0),(12,pV av a0),(13,pV cQ 0),(39,.bool cV)] L s) ?_ ?_)
   ·rintro _ _ ⟨cc,rfl,rfl,U,cd⟩;refine JL.done (BI cX (fun cY cZ=>?_) (fun cY c0=>?_))
    ·refine JL.seq (C5 2 fun ht=>?_);refine Fi 0 ht (a4.Ai U) Ik Dy rfl rfl rfl (Ck 1 ht rfl rfl ?_);refine Cj [2,3] (BW 0 cd Dy fun ce=>?_);refine zg 2 rfl ?_;obtain rfl:=oi cZ;refine JL.ret (v:= .tuple #[.pointer none,.agg #[iV K.1,sV Y K.2 Z],iV 11]) rfl rfl (Cm.list func78 rfl (vs:= [.pointer none,.agg #[iV K.1,sV Y K.2 Z],iV 11]) ⟨rfl,⟨_,rfl,Ld.many (vs:= [iV K.1,sV Y K.2 Z]) Ik Dy (F2 (off:=0) 0 ce rfl rfl)⟩,rfl,trivial⟩) (IA 0 ce rfl fun c1=>?_);exact ap ((((((O.Ac V).Ac al).Ac a1).Ac am).Ac ag).Ac U) rfl ⟨.pointer none,Y,Z,rfl,rfl,rfl,(ca.Ai (ag.Ac U))⟩ c1
    ·refine zg 2 rfl (C5 3 fun ht=>?_);refine Ck 0 ht rfl rfl (Fi 1 ht (a4.Ai U) Ik Dy rfl rfl rfl ?_);refine Ck 2 ht rfl rfl (Cj [3,4] ?_);refine BW 0 cd Dy fun cf=>?_;refine zg 2 rfl ?_;obtain rfl:=oi c0;refine JL.ret (v:= .tuple #[pV av a0,.agg #[iV K.1,sV Y K.2 Z],iV 0]) rfl rfl (Cm.list func78 rfl (vs:= [pV av a0,.agg #[iV K.1,sV Y K.2 Z],iV 0]) ⟨rfl,⟨_,rfl,Ld.many (vs:= [iV K.1,sV Y K.2 Z]) Ik Dy (F2 (off:=0) 0 cf rfl rfl)⟩,rfl,trivial⟩) (IA 0 cf rfl fun c3=>?_);exact ap ((((((O.Ac V).Ac al).Ac a1).Ac am).Ac ag).Ac U) rfl ⟨pV av a0,Y,Z,rfl,rfl,⟨_,_,_,rfl,(b3.Ai ((am.Ac ag).Ac U)),⟨[sV cK a2.1 cM],(([sV b6 a2.2.1 b7]:Lv_)++b5),rfl,⟨_,_,rfl,(b4.Ai ((am.Ac ag).Ac U))⟩,⟨[sV b6 a2.2.1 b7],b5,rfl,⟨_,_,rfl,(b8.Ai ((am.Ac ag).Ac U))⟩,(Rp.Ai _ ((am.Ac ag).Ac U) b9)⟩⟩⟩,(ca.Ai (ag.Ac U))⟩ c3
   ·intro cg;refine Es 36 cW (fun c4 c5=>?_) (fun c4 c6=>?_)
    ·refine zg 1 rfl (AF (v:= .bool (!p3)) rfl (fun ρ h=>Yl.not (h _ _ rfl)) ?_);refine zg 1 rfl ?_;obtain rfl:=oi c5;exact Ay (cg _ _ ⟨a3,rfl,rfl,Ar,cb⟩) rfl
    ·refine zg 3 rfl ?_;obtain rfl:=oi c6;exact Ay (cg _ _ ⟨a3,rfl,rfl,Ar,cb⟩) rfl
def P6(fuel:Nat)(p0:A9)(p1:AJ):Option (Int×Int):= (H6 fuel p0 p1 (-1) true).bind fun K=> some ((K.2.1.2.length:Int),K.2.2)
theorem ZT{E:LH}{O:Ap}{c2:Nat}{U:Ap}{V:Nat}{Y:Ap}{Z:Nat}{p0:A9}{p1:AJ}(al:GE E)(am:Al (rL rI) E O c2 p0.1)(ap:Al (rL rI) E U V p0.2)(av:Al Bg E Y Z p1){fuel:Nat}{r:Int×Int}(ag:P6 fuel p0 p1=some r):AN (D4 Tryz.prog) 28 [.agg #[sV O p0.1 c2,sV U p0.2 V],sV Y p1 Z] E [] (fun w E' B'=>w= .tuple #[iV r.1,iV r.2]∧B'= []):=by
 refine A3 func28 fun Q bi cs H a0 a1=>?_;unfold P6 at ag;refine zg 2 rfl (Ca a0 fun bo bv K a2 a3=>?_);refine zg 5 rfl (BX a2 Cd BJ rfl rfl ?_);obtain⟨bw,a4,a5⟩:=bs ag;refine zg 1 rfl (BN (Nn (al.Ai K) (am.Ai K) (ap.Ai K) (av.Ai K) a4) rfl rfl Mn a3 ?_);rintro _ bU _ a6 ⟨bV,bW,bY,rfl,rfl,bZ,b0⟩ a7;refine zg 4 rfl (CW a7 Gi fun b1 a8=>?_);refine zg 1 rfl (BW 3 a8 Dy fun a9=>?_);refine C8 3 a9 rfl fun b2 bb bd be=>zg 4 rfl (JL.fl 1 bd underlying97 DF EV ?_);refine Bh underlying95 rfl rfl rfl (zg 4 rfl ?_);obtain rfl:=oi a5;exact AB func28 rfl rfl (a1 ((K.Ac a6).Ac bb) rfl ⟨rfl,rfl⟩ be)
def P4(fuel:Nat)(p0:A9)(p1:AJ):Option (Int×(List Int)×Int):= (H6 fuel p0 p1 (-1) false).bind fun K=> if K.2.2≠0 then(some (0,[],K.2.2)) else((ix K.2.1.2 (0)).bind fun O=> (ix K.2.1.2 (0)).bind fun U=> some (O.1,U.2.1,0))
theorem aM{E:LH}{U:Ap}{c2:Nat}{V:Ap}{Y:Nat}{Z:Ap}{ag:Nat}{p0:A9}{p1:AJ}(a4:GE E)(a5:Al (rL rI) E U c2 p0.1)(a6:Al (rL rI) E V Y p0.2)(a7:Al Bg E Z ag p1){fuel:Nat}{r:Int×(List Int)×Int}(al:P4 fuel p0 p1=some r):AN (D4 Tryz.prog) 30 [.agg #[sV U p0.1 c2,sV V p0.2 Y],sV Z p1 ag] E [] (fun w E' B'=>∃(am:Ap) (ap:Nat),w= .tuple #[iV r.1,sV am r.2.1 ap,iV r.2.2]∧B'= []∧Al rI E' am ap r.2.1):=by
 refine A3 func30 fun Q b6 cs H a8 av=>?_;unfold P4 at al;refine zg 2 rfl (Ca a8 fun b7 b8 K a9 bb=>?_);refine zg 6 rfl (BX a9 Cd BJ rfl rfl ?_);obtain⟨b9,bd,be⟩:=bs al;refine zg 1 rfl (BN (Nn (a4.Ai K) (a5.Ai K) (a6.Ai K) (a7.Ai K) bd) rfl rfl Mn bb ?_);rintro _ ca _ a0 ⟨cb,cc,cd,rfl,rfl,ce,a1⟩ bi;refine zg 4 rfl (CW bi Gi fun cf bo=>?_);refine zg 1 rfl (BW 3 bo Dy fun bv=>?_);refine C8 3 bv rfl fun cg O a2 a3=>zg 8 rfl (AM be (fun bw bU=>?_) (fun bw bV=>?_))
 ·refine zg 7 rfl ?_;obtain rfl:=oi bU;exact AB func30 rfl rfl (av ((K.Ac a0).Ac O) rfl ⟨none,0,rfl,rfl,Al.nil⟩ a3)
 ·refine zg 2 rfl (C5 11 fun ht=>?_);refine B9 0 ht underlying97 DF rfl rfl rfl rfl (Cz 1 ht 1 a2 EV rfl rfl rfl rfl ?_);obtain⟨ci,bW,bY⟩:=bs bV;refine CN 2 (a1.Ai O) bW ht underlying95 Cx ?_;rintro ck cm _ ⟨_,_,rfl,rfl,⟨_,_,rfl,⟨cn,co,rfl,cp⟩,rfl⟩⟩ bZ;refine B9 3 ht underlying104 AX rfl rfl rfl rfl (Cz 4 ht 0 bZ By rfl rfl rfl rfl ?_);refine B9 5 ht underlying97 DF rfl rfl rfl rfl (Cz 6 ht 1 a2 EV rfl rfl rfl rfl ?_);obtain⟨cq,b0,b1⟩:=bs bY;refine CN 7 (a1.Ai O) b0 ht underlying95 Cx ?_;rintro cr ct _ ⟨_,_,rfl,rfl,⟨_,_,rfl,⟨b2,b3,rfl,b4⟩,rfl⟩⟩ b5;refine B9 8 ht underlying104 BZ rfl rfl rfl rfl (Cz 9 ht 1 b5 CZ rfl rfl rfl rfl ?_);refine Ck 10 ht rfl rfl (Cj [11,12] ?_);refine zg 3 rfl ?_;obtain rfl:=oi b1;exact AB func30 rfl rfl (av ((K.Ac a0).Ac O) rfl ⟨b2,b3,rfl,rfl,b4⟩ a3)
def SD(fuel:Nat)(p2:Int)(O:(List Bw))(K:(List Int)×Int):Option (Bd ((List Int)×Int) ((List Int))):= if K.2<(O.length:Int) then((ix O K.2).bind fun U=> Option.bind (if U.2.1≤p2 then((room K.1 U.1).bind fun V=> some V) else(some K.1)) fun Y=> (As (K.2+1)).bind fun Z=> some (.more (Y,Z))) else(some (.done K.1))
def P7(fuel:Nat)(p0:A9)(p1:AJ)(p2:Int):Option ((List Int)×Int):= (HA fuel p0 p1).bind fun K=> if K≠0 then(some ([],K)) else((f101 fuel p2 0 4).bind fun U=> if U=true then(some ([],1)) else((f92 fuel p0).bind fun V=> (V).bind fun Y=> (Ke fuel Y p1).bind fun Z=> Option.bind (iter (SD fuel p2 Z) fuel ([],0)) fun O=> if(O.length:Int)=0 then(some ([],11)) else(some (O,0))))
theorem ai{E:LH}{bv:Ap}{c2:Nat}{bw:Ap}{bU:Nat}{bV:Ap}{bW:Nat}{p0:A9}{p1:AJ}{p2:Int}(cm:GE E)(bY:Al (rL rI) E bv c2 p0.1)(bZ:Al (rL rI) E bw bU p0.2)(b0:Al Bg E bV bW p1){fuel:Nat}{r:(List Int)×Int}(b1:P7 fuel p0 p1 p2=some r):AN (D4 Tryz.prog) 43 [.agg #[sV bv p0.1 c2,sV bw p0.2 bU],sV bV p1 bW,iV p2] E [] (fun w E' B'=>∃(b2:Ap) (b3:Nat),w= .tuple #[sV b2 r.1 b3,iV r.2]∧B'= []∧Al rI E' b2 b3 r.1):=by
 refine A3 func43 fun Q dz cs H cn al=>?_;unfold P7 at b1;refine zg 2 rfl (Ca cn fun dA dB K b4 co=>?_);refine zg 6 rfl (BX b4 Cd BJ rfl rfl ?_);obtain⟨dC,cp,cq⟩:=bs b1;refine zg 1 rfl (BH (Lt (cm.Ai K) (bY.Ai K) (bZ.Ai K) (b0.Ai K) cp) rfl rfl Kx co fun dD O b5=>?_);refine zg 7 rfl (AM cq (fun cr ct=>?_) (fun cr cu=>?_))
 ·refine zg 6 rfl ?_;obtain rfl:=oi ct;exact AB func43 rfl rfl (al (K.Ac O) rfl ⟨none,0,rfl,rfl,Al.nil⟩ b5)
 ·obtain⟨dE,cv,cw⟩:=bs cu;refine zg 5 rfl (BH (Jc cv) rfl rfl IU b5 fun dF U b6=>?_);refine JL.done (BI cw (fun cy cz=>?_) (fun cy cA=>?_))
  ·refine zg 5 rfl ?_;obtain rfl:=oi cz;exact AB func43 rfl rfl (al ((K.Ac O).Ac U) rfl ⟨none,0,rfl,rfl,Al.nil⟩ b6)
  ·refine zg 8 rfl (BX (b4.Ai (O.Ac U)) Cd BJ rfl rfl ?_);obtain⟨dG,cB,cC⟩:=bs cA;refine BN (Od (bY.Ai ((K.Ac O).Ac U)) (bZ.Ai ((K.Ac O).Ac U)) cB) rfl rfl Mm b6 ?_;rintro dH dI _ a5 ⟨_,rfl,rfl,cD⟩ cE;obtain⟨dJ,cF,cG⟩:=bs cC;have b7:=cD;refine zg 1 rfl ?_;rw [cF] at b7;obtain⟨dK,dL,_,rfl,cH,⟨_,_,rfl,⟨dM,dN,rfl,cI⟩,⟨_,dO,rfl,⟨dP,dQ,rfl,cJ⟩,cK⟩⟩⟩:=b7;obtain⟨am,cM,cN⟩:=bs cG;refine BN (R3 cH cI cJ cK (b0.Ai (((K.Ac O).Ac U).Ac a5)) cM) rfl rfl (AV func102 rfl) cE ?_;rintro _ a6 _ b8 ⟨b9,ca,rfl,rfl,cO⟩ cP;refine Bh underlying130 rfl rfl rfl ?_;obtain⟨cb,cQ,cR⟩:=bs cN;refine zg 2 rfl (Bt (fun L s=>∃(a7:LH) (ap:Ap) (av:Nat) (a8:Seg),Jn a6 H a7 [a8] [(9,sV ap cb av)] L s (OL 3 rI a7 ap av a8 cb)) ?_ ?_)
   ·rintro _ _ ⟨a7,ap,av,a8,rfl,rfl,cc,cd,cT⟩;refine zg 4 rfl (Bh underlying28 rfl rfl rfl ?_);refine zg 2 rfl (AM cR (fun cV cW=>?_) (fun cV cX=>?_))
    ·refine zg 5 rfl (JS.drop 0 cd rfl fun cY=>?_);obtain rfl:=oi cW;exact AB func43 rfl rfl (al (((((K.Ac O).Ac U).Ac a5).Ac b8).Ac cc) rfl ⟨none,0,rfl,rfl,Al.nil⟩ cY)
    ·refine zg 7 rfl (BU 0 cT cd rfl fun dR cZ c0 c1=>?_);obtain rfl:=oi cX;exact AB func43 rfl rfl (al ((((((K.Ac O).Ac U).Ac a5).Ac b8).Ac cc).Ac cZ) rfl ⟨ap,av,rfl,rfl,c0⟩ c1)
   ·intro c3;refine JL.block (CV cQ (fun L s Z=>∃(a0:LH) (V:Ap) (Y:Nat) (ag:Seg),Jn a6 H a0 [ag] [(2,iV p2),(9,sV V Z.1 Y),(23,sV b9 am ca),(24,iV (am.length:Int)),(25,iV Z.2)] L s (OL 3 rI a0 V Y ag Z.1)) ⟨a6,none,0,[],rfl,rfl,Ar,cP,OL.nil⟩ ?_);rintro _ _ Z ⟨a0,V,Y,ag,rfl,rfl,a9,ce,bb⟩ c4 ⟨dS,bd⟩ c5;have cf:=bd;unfold SD at cf;refine zg 5 rfl (AM cf (fun c6 c7=>?_) (fun c6 c8=>?_))
    ·obtain⟨c9,da,db⟩:=bs c7;refine zg 5 rfl (Ce (cO.Ai a9) da underlying130 AS ?_);rintro dT dU _ ⟨_,_,rfl,rfl,⟨_,_,rfl,rfl,⟨dV,dW,rfl,dX⟩⟩⟩ dc;refine BX dc Cu AS rfl rfl (CW ce Il fun dY dd=>?_);refine BW 1 dd AS fun de=>?_;refine C8 1 de rfl fun be bi cg ci=>zg 3 rfl (BL underlying133 Dy rfl rfl rfl ?_);refine JL.fl 1 cg underlying97 AX By ?_;obtain⟨bo,df,dg⟩:=bs db;refine zg 3 rfl (Bt (fun L s=>∃(a1:LH) (a2:Ap) (a3:Nat) (a4:Seg),Jn be H a1 [a4] [(2,iV p2),(9,sV a2 bo a3),(23,sV b9 am ca),(24,iV (am.length:Int)),(25,iV Z.2)] L s (OL 3 rI a1 a2 a3 a4 bo)) ?_ ?_)
     ·rintro _ _ ⟨a1,a2,a3,a4,rfl,rfl,dh,di,dj⟩;obtain⟨dk,dl,dm⟩:=bs dg;refine zg 2 rfl (Ba dl rfl rfl rfl ?_);refine zg 2 rfl ?_;obtain rfl:=oi dm;exact Ay (c5 _ _ (bo,dk) ⟨a1,a2,a3,a4,rfl,rfl,((a9.Ac bi).Ac dh),di,dj⟩ bd) rfl
     ·intro ck;refine AM df (fun dn dp=>?_) (fun dn dq=>?_)
      ·refine zg 2 rfl (JL.fl 0 cg underlying133 AX By ?_);obtain⟨dZ,dr,dt⟩:=bs dp;refine JS.app (pp:=rI) (v:=iV c9.1) (a:=V) (c:=Y) 0 dr rfl rfl rfl rfl (fun _=>rfl) rfl (fun _=>rfl) rfl rfl rfl underlying28 underlying28 underlying28 AX (Cy type3) CU rfl (by decide) (by decide) (by decide) (by decide) (bb.Ai bi) rfl ci rfl fun ea du dv dw dx dy=>zg 2 rfl ?_;obtain rfl:=oi dt;exact Ay (ck _ _ ⟨be,du,dv,dw,rfl,rfl,Ar,dy,dx⟩) rfl
      ·refine JL.skip ?_;obtain rfl:=oi dq;exact Ay (ck _ _ ⟨be,V,Y,ag,rfl,rfl,Ar,ci,(bb.Ai bi)⟩) rfl
    ·refine JL.exit rfl ?_;obtain rfl:=oi c8;obtain rfl:=c4 _ bd;exact Ay (c3 _ _ ⟨a0,V,Y,ag,rfl,rfl,a9,ce,bb⟩) rfl
end Pal
namespace Pal
open Go Go.Conc Go.Proofs
open Go.Proofs.Tryz
def SN(fuel:Nat)(p2:Int)(O:(Option BY)×(Int×(List Cf))×Int)(K:Int×Int):Option (Bd (Int×Int) Int):= if K.2<(O.2.1.2.length:Int) then((ix O.2.1.2 K.2).bind fun U=> (f103 fuel U.2.2 p2).bind fun V=> Option.bind (if V=true then((As (K.1+1)).bind fun Y=> some Y) else(some K.1)) fun Z=> (As (K.2+1)).bind fun ag=> some (.more (Z,ag))) else(some (.done K.1))
def Qd(fuel:Nat)(p0:A9)(p1:AJ)(p2:Int):Option (Int×Int):= (HA fuel p0 p1).bind fun U=> if U≠0 then(some (0,U)) else((As ((p1.length:Int) - 1)).bind fun V=> (f101 fuel p2 0 V).bind fun Y=> if Y=true then(some (0,3)) else((H6 fuel p0 p1 p2 false).bind fun K=> if K.2.2≠0 then(some (0,K.2.2)) else(Option.bind (iter (SN fuel p2 K) fuel (0,0)) fun O=> Option.bind (Option.bind (Option.bind (if 0<O then(some (decide (O<(K.2.1.2.length:Int)))) else(some false)) fun Z=> if Z=true then((As (0+1)).bind fun ag=> (As (ag+1)).bind fun al=> some al) else(if O=0 then((As (0+1)).bind fun am=> some am) else(some 0))) fun ap=> (As (ap+1)).bind fun av=> some av) fun a0=> some (a0,0))))
theorem ZX{E:LH}{a2:Ap}{c2:Nat}{a3:Ap}{a4:Nat}{a5:Ap}{a6:Nat}{p0:A9}{p1:AJ}{p2:Int}(a7:GE E)(a8:Al (rL rI) E a2 c2 p0.1)(a9:Al (rL rI) E a3 a4 p0.2)(bb:Al Bg E a5 a6 p1){fuel:Nat}{r:Int×Int}(bd:Qd fuel p0 p1 p2=some r):AN (D4 Tryz.prog) 49 [.agg #[sV a2 p0.1 c2,sV a3 p0.2 a4],sV a5 p1 a6,iV p2] E [] (fun w E' B'=>w= .tuple #[iV r.1,iV r.2]∧B'= []):=by
 refine A3 func49 fun Q dF cs H b7 Y=>?_;unfold Qd at bd;refine zg 2 rfl (Ca b7 fun dG dH K be b8=>?_);refine zg 6 rfl (BX be Cd BJ rfl rfl ?_);obtain⟨dI,b9,ca⟩:=bs bd;refine zg 1 rfl (BH (Lt (a7.Ai K) (a8.Ai K) (a9.Ai K) (bb.Ai K) b9) rfl rfl Kx b8 fun dJ O bi=>?_);refine zg 7 rfl (AM ca (fun cb cc=>?_) (fun cb cd=>?_))
 ·refine zg 6 rfl ?_;obtain rfl:=oi cc;exact AB func49 rfl rfl (Y (K.Ac O) rfl ⟨rfl,rfl⟩ bi)
 ·refine zg 6 rfl (Bh underlying25 rfl rfl rfl ?_);obtain⟨dK,ce,cf⟩:=bs cd;refine Cl ce rfl rfl rfl ?_;obtain⟨dL,cg,ci⟩:=bs cf;refine BH (Jc cg) rfl rfl IU bi fun dM U bo=>JL.done (BI ci (fun ck cm=>?_) (fun ck cn=>?_))
  ·refine zg 5 rfl ?_;obtain rfl:=oi cm;exact AB func49 rfl rfl (Y ((K.Ac O).Ac U) rfl ⟨rfl,rfl⟩ bo)
  ·refine zg 3 rfl (BX (be.Ai (O.Ac U)) Cd BJ rfl rfl ?_);obtain⟨Z,co,cp⟩:=bs cn;refine zg 2 rfl (BN (Nn (a7.Ai ((K.Ac O).Ac U)) (a8.Ai ((K.Ac O).Ac U)) (a9.Ai ((K.Ac O).Ac U)) (bb.Ai ((K.Ac O).Ac U)) co) rfl rfl Mn bo ?_);rintro _ dN _ bv ⟨dO,bw,bU,rfl,rfl,dP,cq⟩ cr;refine zg 4 rfl (CW cr Gi fun ag ct=>?_);refine zg 1 rfl (BW 5 ct Dy fun cu=>?_);refine C8 5 cu rfl fun dQ al bV bW=>zg 8 rfl (AM cp (fun cv cw=>?_) (fun cv cy=>?_))
   ·refine zg 6 rfl ?_;obtain rfl:=oi cw;exact AB func49 rfl rfl (Y ((((K.Ac O).Ac U).Ac bv).Ac al) rfl ⟨rfl,rfl⟩ bW)
   ·refine zg 8 rfl (JL.fl 1 bV underlying97 DF EV ?_);refine Bh underlying95 rfl rfl rfl ?_;obtain⟨bY,cz,cA⟩:=bs cy;refine zg 2 rfl (CK [] [(10,pV ag 0),(12,iV bY)] (fun dR bZ b0=>?_) (fun cB=>?_))
    ·obtain⟨cC,cD,cE⟩:=bs cA;refine zg 5 rfl (CK [] [(15,iV cC)] (fun dS cF cG=>?_) (fun cH=>?_))
     ·refine zg 6 rfl ?_;obtain rfl:=oi cE;exact AB func49 rfl rfl (Y ((((((K.Ac O).Ac U).Ac bv).Ac al).Ac bZ).Ac cF) rfl ⟨rfl,rfl⟩ cG)
     ·obtain⟨cI,cJ,cK⟩:=bs cD;refine zg 2 rfl (CK [] [(15,iV cI)] (fun dT cM cN=>?_) (fun am=>?_))
      ·obtain⟨dU,cO,cP⟩:=bs cK;refine zg 3 rfl (Ba cO rfl rfl rfl ?_);refine zg 3 rfl ?_;obtain rfl:=oi cP;exact cH cM cN rfl
      ·obtain⟨cQ,cR,cT⟩:=bs cJ;refine zg 12 rfl (Dv 9 1 [] [(12,iV bY),(15,iV 0),(61,.bool cQ)] (fun dV ap av=>?_) (fun b1=>?_))
       ·refine zg 2 rfl (BI cT (fun cV cW=>?_) (fun cV cX=>?_))
        ·obtain⟨dW,cY,cZ⟩:=bs cW;refine zg 3 rfl (Ba cY rfl rfl rfl ?_);obtain⟨dX,c0,c1⟩:=bs cZ;refine zg 5 rfl (Ba c0 rfl rfl rfl ?_);refine zg 3 rfl ?_;obtain rfl:=oi c1;exact am ap av rfl
        ·refine zg 7 rfl (AM cX (fun c3 c4=>?_) (fun c3 c5=>?_))
         ·obtain⟨dY,c6,c7⟩:=bs c4;refine zg 3 rfl (Ba c6 rfl rfl rfl ?_);refine zg 3 rfl ?_;obtain rfl:=oi c7;exact am ap av rfl
         ·refine zg 2 rfl ?_;obtain rfl:=oi c5;exact am ap av rfl
       ·refine Es 55 cR (fun c8 c9=>?_) (fun c8 da=>?_)
        ·refine zg 1 rfl (JL.fl 1 (bV.Ai bZ) underlying97 DF EV ?_);refine Bh underlying95 rfl rfl rfl (zg 2 rfl ?_);obtain rfl:=oi c9;exact b1 Ar b0 rfl
        ·refine zg 6 rfl ?_;obtain rfl:=oi da;exact b1 Ar b0 rfl
    ·refine JL.block (Cp cz (fun V=> []) (fun V=> [(2,iV p2),(10,pV ag 0),(12,iV V.1),(39,sV bw Z.2.1.2 bU),(40,iV (Z.2.1.2.length:Int)),(41,iV V.2)]) Ar bW ?_);rintro V dZ a0 b2 db ⟨ea,a1⟩ dc;have b3:=a1;unfold SN at b3;refine zg 5 rfl (AM b3 (fun dd de=>?_) (fun dd df=>?_))
     ·obtain⟨eb,dg,dh⟩:=bs de;refine zg 5 rfl (Ce (cq.Ai (al.Ac a0)) dg underlying95 Cx ?_);rintro ec ed _ ⟨_,_,rfl,rfl,⟨_,_,rfl,⟨ee,ef,rfl,eg⟩,rfl⟩⟩ di;refine BX di F1 Cx rfl rfl (CW b2 GY fun eh dj=>?_);refine BW 0 dj Cx fun dk=>?_;refine C8 0 dk rfl fun ei dl dm dn=>zg 3 rfl (JL.fl 2 dm underlying104 En GW ?_);obtain⟨ej,dp,dq⟩:=bs dh;refine zg 1 rfl (BH (Pv dp) rfl rfl Ow dn fun ek dr b4=>?_);obtain⟨b5,dt,du⟩:=bs dq;refine JL.done (CK [] [(2,iV p2),(10,pV ag 0),(12,iV b5),(39,sV bw Z.2.1.2 bU),(40,iV (Z.2.1.2.length:Int)),(41,iV V.2)] (fun el dv dw=>?_) (fun b6=>?_))
      ·obtain⟨dx,dy,dz⟩:=bs du;refine zg 2 rfl (Ba dy rfl rfl rfl ?_);refine zg 2 rfl ?_;obtain rfl:=oi dz;exact dc (b5,dx) (((a0.Ac dl).Ac dr).Ac dv) dw rfl a1
      ·refine BI dt (fun dA dB=>?_) (fun dA dC=>?_)
       ·obtain⟨em,dD,dE⟩:=bs dB;refine zg 2 rfl (Ba dD rfl rfl rfl ?_);refine zg 2 rfl ?_;obtain rfl:=oi dE;exact b6 Ar b4 rfl
       ·refine JL.skip ?_;obtain rfl:=oi dC;exact b6 Ar b4 rfl
     ·refine JL.exit rfl ?_;obtain rfl:=oi df;obtain rfl:=db _ a1;exact cB a0 b2 rfl
def Lc(fuel:Nat)(V:Cf)(U:(List Int))(K:(List Nat)×Int):Option (Bd ((List Nat)×Int) ((List Nat))):= if K.2<(U.length:Int) then((ix U K.2).bind fun O=> (ix K.1 O).bind fun Y=> (f90 fuel Y V.1).bind fun Z=> (ix K.1 O).bind fun al=> (As (K.2+1)).bind fun ag=> some (.more ((K.1.set (Int.toNat O) Z),ag))) else(some (.done K.1))
def M9(fuel:Nat)(O:(Option BY)×(Int×(List Cf))×Int)(V:BY)(Y:Int×Int×Int)(K:(List Nat)×Int):Option (Bd ((List Nat)×Int) ((List Nat))):= if K.2<(O.2.1.2.length:Int) then((ix O.2.1.2 K.2).bind fun U=> (f88 fuel V U Y.2.2).bind fun Z=> (f89 fuel Z).bind fun ag=> Option.bind (iter (Lc fuel U ag) fuel (K.1,0)) fun al=> (As (K.2+1)).bind fun am=> some (.more (al,am))) else(some (.done K.1))
def M0(fuel:Nat)(O:(List Nat))(K:Int×Int):Option (Bd (Int×Int) Int):= if K.2<8 then((ix O K.2).bind fun U=> (f85 fuel U).bind fun V=> (As (K.2+1)).bind fun Y=> some (.more (max K.1 V,Y))) else(some (.done K.1))
def MO(fuel:Nat)(V:(Option BY)×(Int×(List Cf))×Int)(Y:BY)(K:Int×Int×Int):Option (Bd (Int×Int×Int) (Int×Int)):= if K.2.2<7 then(Option.bind (iter (M9 fuel V Y K) fuel ((List.replicate 8 (0:Nat)),0)) fun Z=> Option.bind (iter (M0 fuel Z) fuel (0,0)) fun O=> Option.bind (if O<K.2.1 then(some (K.2.2,O)) else(some (K.1,K.2.1))) fun U=> (As (K.2.2+1)).bind fun ag=> some (.more (U.1,U.2,ag))) else(some (.done (K.1,K.2.1)))
def Ju(fuel:Nat)(p0:A9)(p1:AJ):Option (Int×Int×Int):= (H6 fuel p0 p1 (-1) false).bind fun K=> if K.2.2≠0 then(some (0,0,K.2.2)) else((f87 fuel K.2.1.2).bind fun U=> (f85 fuel U).bind fun V=> (K.1).bind fun Y=> Option.bind (iter (MO fuel K Y) fuel ((-1),V,0)) fun O=> if O.1<0 then(some (0,0,11)) else(some (O.1,O.2,0)))
theorem SR{E:LH}{cd:Ap}{c2:Nat}{ce:Ap}{cf:Nat}{cg:Ap}{ci:Nat}{p0:A9}{p1:AJ}(cR:GE E)(cT:Al (rL rI) E cd c2 p0.1)(cV:Al (rL rI) E ce cf p0.2)(cW:Al Bg E cg ci p1){fuel:Nat}{r:Int×Int×Int}(ck:Ju fuel p0 p1=some r):AN (D4 Tryz.prog) 35 [.agg #[sV cd p0.1 c2,sV ce p0.2 cf],sV cg p1 ci] E [] (fun w E' B'=>w= .tuple #[iV r.1,iV r.2.1,iV r.2.2]∧B'= []):=by
 refine A3 func35 fun Q fc cs H cX bZ=>?_;unfold Ju at ck;refine zg 2 rfl (Ca cX fun fd fe ag cY cZ=>?_);refine zg 6 rfl (BX cY Cd BJ rfl rfl ?_);obtain⟨av,c0,c1⟩:=bs ck;refine zg 1 rfl (BN (Nn (cR.Ai ag) (cT.Ai ag) (cV.Ai ag) (cW.Ai ag) c0) rfl rfl Mn cZ ?_);rintro _ ff _ b0 ⟨fg,b1,b2,rfl,rfl,c3,cm⟩ c4;refine zg 4 rfl (CW c4 Gi fun U c5=>?_);refine zg 1 rfl (BW 3 c5 Dy fun c6=>?_);refine C8 3 c6 rfl fun fh a0 cn co=>zg 8 rfl (AM c1 (fun c7 c8=>?_) (fun c7 c9=>?_))
 ·refine zg 7 rfl ?_;obtain rfl:=oi c8;exact AB func35 rfl rfl (bZ ((ag.Ac b0).Ac a0) rfl ⟨rfl,rfl⟩ co)
 ·refine zg 8 rfl (JL.fl 1 cn underlying97 DF EV ?_);obtain⟨da,db,dc⟩:=bs c9;refine BH (bh (cm.Ai a0) db) rfl rfl (AV func87 rfl) co fun fj a5 dd=>?_;obtain⟨fk,de,df⟩:=bs dc;refine K8 (vs:= [uV da]) (TP de) rfl rfl rfl rfl (AV func85 rfl) rfl dd ?_;rintro _ fm _ a6 ⟨rfl,rfl⟩ dg;obtain⟨fo,dh,di⟩:=bs df;have cp:=(c3.Ai ((a0.Ac a5).Ac a6));refine zg 11 rfl ?_;rw [dh] at cp;obtain⟨V,Y,_,rfl,dj,⟨_,_,rfl,⟨fp,fq,rfl,dk⟩,⟨_,fs,rfl,⟨fu,fv,rfl,dl⟩,dm⟩⟩⟩:=cp;obtain⟨cq,dn,dp⟩:=bs di;refine CK [] [(4,iV cq.1),(10,iV cq.2)] (fun fw cr ct=>?_) (fun dq=>?_)
  ·refine zg 6 rfl (AM dp (fun dr dt=>?_) (fun dr du=>?_))
   ·refine zg 6 rfl ?_;obtain rfl:=oi dt;exact AB func35 rfl rfl (bZ (((((ag.Ac b0).Ac a0).Ac a5).Ac a6).Ac cr) rfl ⟨rfl,rfl⟩ ct)
   ·refine zg 9 rfl ?_;obtain rfl:=oi du;exact AB func35 rfl rfl (bZ (((((ag.Ac b0).Ac a0).Ac a5).Ac a6).Ac cr) rfl ⟨rfl,rfl⟩ ct)
  ·refine JL.block (Cp dn (fun K=> []) (fun K=> [(4,iV K.1),(7,pV V Y),(8,pV U 0),(9,(fV 85)),(10,iV K.2.1),(35,iV K.2.2)]) Ar dg ?_);rintro K be Z cu dv ⟨fx,b3⟩ dw;have cv:=b3;unfold MO at cv;refine zg 5 rfl (AM cv (fun dx dy=>?_) (fun dx dz=>?_))
   ·refine zg 10 rfl (CW cu (DG type114) fun O dA=>?_);refine zg 4 rfl (JL.fl 1 (cn.Ai ((a5.Ac a6).Ac Z)) underlying97 DF EV ?_);refine Bh underlying95 rfl rfl rfl ?_;obtain⟨dB,dC,dD⟩:=bs dy;refine zg 2 rfl (Bt (fun L s=>∃(b4:LH) (a7:Lv_),Jn be H b4 [bX O (([]:Lv_)++a7).toArray 114] [(4,iV K.1),(7,pV V Y),(8,pV U 0),(9,(fV 85)),(10,iV K.2.1),(11,iV K.2.2),(12,pV O 0),(35,iV K.2.2)] L s ((rA 8 (rN .u16)).r b4 a7 dB)) ?_ ?_)
    ·rintro _ _ ⟨b4,a7,rfl,rfl,dE,cw,cy⟩;refine zg 7 rfl (AF (v:= .agg a7.toArray) rfl (fun ρ h=>K7 (kk:=8) (pp:=(rN .u16)) cy (DI underlying114) (Bv type114) (h _ _ rfl) (MI (l:= []) 0 cw rfl)) ?_);obtain⟨dF,dG,dH⟩:=bs dD;refine zg 2 rfl (CK [] [(4,iV K.1),(7,pV V Y),(8,pV U 0),(9,(fV 85)),(10,iV K.2.1),(11,iV K.2.2),(17,iV dF),(35,iV K.2.2)] (fun fy dI cz=>?_) (fun dJ=>?_))
     ·obtain⟨bi,dK,dL⟩:=bs dH;refine zg 6 rfl (CK [] [(4,iV bi.1),(7,pV V Y),(8,pV U 0),(9,(fV 85)),(10,iV bi.2),(35,iV K.2.2)] (fun fz dM dN=>?_) (fun cA=>?_))
      ·obtain⟨dO,dP,dQ⟩:=bs dL;refine zg 2 rfl (Ba dP rfl rfl rfl ?_);refine zg 2 rfl ?_;obtain rfl:=oi dQ;exact dw (bi.1,bi.2,dO) (((Z.Ac dE).Ac dI).Ac dM) dN rfl b3
      ·refine AM dK (fun dR dS=>?_) (fun dR dT=>?_)
       ·refine zg 6 rfl ?_;obtain rfl:=oi dS;exact cA Ar cz rfl
       ·refine JL.skip ?_;obtain rfl:=oi dT;exact cA Ar cz rfl
     ·refine JL.block (JS.drop 0 cw rfl fun dU=>?_);refine Cp dG (fun a1=> []) (fun a1=> [(4,iV K.1),(7,pV V Y),(8,pV U 0),(9,(fV 85)),(10,iV K.2.1),(11,iV K.2.2),(17,iV a1.1),(35,iV K.2.2),(65,.agg a7.toArray),(66,iV a1.2)]) Ar dU ?_;rintro a1 fA b5 cB dV ⟨fB,b6⟩ dW;have cC:=b6;unfold M0 at cC;refine zg 5 rfl (AM cC (fun dX dY=>?_) (fun dX dZ=>?_))
      ·obtain⟨ea,eb,ec⟩:=bs dY;refine zg 5 rfl (aO (Rp.Ai _ b5 cy) eb rfl rfl rfl rfl rfl underlying114 En GW ?_ (fun _=>rfl));rintro _ rfl;obtain⟨cD,ed,ee⟩:=bs ec;refine zg 6 rfl (K8 (vs:= [uV ea]) (TP ed) rfl rfl rfl rfl (AV func85 rfl) rfl cB ?_);rintro _ fC _ ef ⟨rfl,rfl⟩ eg;refine AF (v:=iV (max a1.1 cD)) rfl (fun ρ h=>Yl.max2 (h _ _ rfl) (h _ _ rfl)) ?_;obtain⟨eh,ei,ej⟩:=bs ee;refine zg 4 rfl (Ba ei rfl rfl rfl ?_);refine zg 2 rfl ?_;obtain rfl:=oi ej;exact dW (max a1.1 cD,eh) (b5.Ac ef) eg rfl b6
      ·refine JL.exit rfl ?_;obtain rfl:=oi dZ;obtain rfl:=dV _ b6;exact dJ b5 cB rfl
    ·intro ek;refine JL.block (CV dC (fun L s a8=>∃(bo:LH) (a9:Lv_),Jn be H bo [bX O (([]:Lv_)++a9).toArray 114] [(4,iV K.1),(7,pV V Y),(8,pV U 0),(9,(fV 85)),(10,iV K.2.1),(11,iV K.2.2),(12,pV O 0),(35,iV K.2.2),(39,sV b1 av.2.1.2 b2),(40,iV (av.2.1.2.length:Int)),(41,iV a8.2)] L s ((rA 8 (rN .u16)).r bo a9 a8.1)) ⟨be,(List.replicate 8 (uV 0):Lv_),rfl,rfl,Ar,dA,(J9 (E:=be) (pp:=(rN .u16)) rfl)⟩ ?_);rintro _ _ a8 ⟨bo,a9,rfl,rfl,al,cE,cF⟩ el ⟨fD,b7⟩ em;have cG:=b7;unfold M9 at cG;refine zg 5 rfl (AM cG (fun en eo=>?_) (fun en ep=>?_))
     ·obtain⟨eq,er,et⟩:=bs eo;refine zg 5 rfl (Ce (cm.Ai ((((a0.Ac a5).Ac a6).Ac Z).Ac al)) er underlying95 Cx ?_);rintro fE fF _ ⟨_,_,rfl,rfl,⟨_,_,rfl,⟨fG,fH,rfl,eu⟩,rfl⟩⟩ ew;refine BX ew F1 Cx rfl rfl (CW cE GY fun ex ey=>?_);refine BW 1 ey Cx fun ez=>?_;refine C8 1 ez rfl fun fI am cH eA=>zg 4 rfl (BX cH F1 Cx rfl rfl ?_);obtain⟨fJ,eB,eC⟩:=bs et;refine zg 1 rfl (BH (bl (dj.Ai ((Z.Ac al).Ac am)) (dk.Ai ((Z.Ac al).Ac am)) (dl.Ai ((Z.Ac al).Ac am)) (Rp.Ai _ ((Z.Ac al).Ac am) dm) (eu.Ai am) eB) rfl rfl (AV func88 rfl) eA fun fK b8 eD=>?_);obtain⟨cI,eE,eF⟩:=bs eC;refine BN (Jh eE) rfl rfl IV eD ?_;rintro _ b9 _ ca ⟨eG,eH,rfl,rfl,eI⟩ eJ;refine Bh underlying28 rfl rfl rfl ?_;obtain⟨cJ,eK,eL⟩:=bs eF;refine zg 2 rfl (Bt (fun L s=>∃(bv:LH) (bw:Lv_),Jn b9 H bv [bX O (([]:Lv_)++bw).toArray 114] [(4,iV K.1),(7,pV V Y),(8,pV U 0),(9,(fV 85)),(10,iV K.2.1),(11,iV K.2.2),(12,pV O 0),(35,iV K.2.2),(39,sV b1 av.2.1.2 b2),(40,iV (av.2.1.2.length:Int)),(41,iV a8.2)] L s ((rA 8 (rN .u16)).r bv bw cJ)) ?_ ?_)
      ·rintro _ _ ⟨bv,bw,rfl,rfl,eM,eN,eO⟩;obtain⟨eP,eQ,eR⟩:=bs eL;refine zg 2 rfl (Ba eQ rfl rfl rfl ?_);refine zg 2 rfl ?_;obtain rfl:=oi eR;exact Ay (em _ _ (cJ,eP) ⟨bv,bw,rfl,rfl,((((al.Ac am).Ac b8).Ac ca).Ac eM),eN,eO⟩ b7) rfl
      ·intro eS;refine JL.block (CV eK (fun L s bb=>∃(bU:LH) (a2:Lv_),Jn b9 H bU [bX O (([]:Lv_)++a2).toArray 114] [(4,iV K.1),(7,pV V Y),(8,pV U 0),(9,(fV 85)),(10,iV K.2.1),(11,iV K.2.2),(12,pV O 0),(14,pV ex 0),(35,iV K.2.2),(39,sV b1 av.2.1.2 b2),(40,iV (av.2.1.2.length:Int)),(41,iV a8.2),(49,sV eG cI eH),(50,iV (cI.length:Int)),(51,iV bb.2)] L s ((rA 8 (rN .u16)).r bU a2 bb.1)) ⟨b9,a9,rfl,rfl,Ar,eJ,(Rp.Ai _ ((am.Ac b8).Ac ca) cF)⟩ ?_);rintro _ _ bb ⟨bU,a2,rfl,rfl,bV,bd,a3⟩ eT ⟨fL,cb⟩ eU;have cK:=cb;unfold Lc at cK;refine zg 5 rfl (AM cK (fun eV eW=>?_) (fun eV eX=>?_))
       ·obtain⟨a4,eY,eZ⟩:=bs eW;refine zg 5 rfl (Ce (eI.Ai bV) eY underlying28 AX ?_);rintro fM fN _ rfl e0;refine B4 0 e0 By rfl rfl rfl (zg 2 rfl ?_);refine Dq 7 [O] ⟨⟨0,_,rfl⟩,trivial⟩ bd fun ht=>AZ ht rfl [0,1] rfl ?_;obtain⟨cM,cN,e1⟩:=bs eZ;obtain⟨_,rfl,_,_,e2⟩:=Iy (kk:=8) (pp:=(rN .u16)) a3 cN;refine BA (v:= .pointer (some ⟨O,0+Int.toNat (a4)*1,none⟩)) 2 ht rfl rfl (fun ρ h s' hs=>JI (kk:=8) (pp:=(rN .u16)) a3 cN underlying114 En (h _ _ rfl) (h _ _ rfl)) (BA (v:= uV cM) 3 ht rfl rfl (fun ρ h s' hs=>Yl.load GW (h _ _ rfl) (VN (l:= []) 0 bd rfl (by simp [A7]) hs (e2 0 _ rfl))) ?_);refine B9 4 ht underlying104 AX rfl rfl rfl rfl (JG.lp 5 ht 0 (cH.Ai ((b8.Ac ca).Ac bV)) bd ⟨⟨0,_,rfl⟩,trivial⟩ By ?_);obtain⟨ap,e3,e4⟩:=bs e1;refine Rs (i:=6) ⟨⟨0,_,rfl⟩,trivial⟩ (vs:= [uV cM,iV eq.1]) (NW e3) (by decide+kernel) rfl rfl rfl Mh rfl bd ?_;rintro _ cO _ bW ⟨rfl,rfl⟩ e5;refine Cj [7,8] ?_;obtain⟨fO,cc,e6⟩:=bs e4;obtain⟨_,rfl,_,_,fP⟩:=Iy (kk:=8) (pp:=(rN .u16)) (Rp.Ai _ bW a3) cc;refine AF (v:= .pointer (some ⟨O,0+Int.toNat (a4)*1,none⟩)) rfl (fun ρ h=>JI (kk:=8) (pp:=(rN .u16)) (Rp.Ai _ bW a3) cc underlying114 En (h _ _ rfl) (h _ _ rfl)) ?_;have bY:=Ps (us:= [uV ap]) (y:=ap) (Rp.Ai _ bW a3) cc rfl;refine KN (v:= uV ap) (l:= []) (ws:=a2) (us:= [uV ap]) (o:=Int.toNat (a4)*1) 0 rfl rfl rfl e5 rfl rfl rfl En (by simp [Value.cells,CY]) rfl bY.2 fun cP=>?_;replace bY:=bY.1;generalize e7:HD a2 (Int.toNat (a4)*1) [uV ap]=cQ at cP ⊢;have e8:(rA 8 (rN .u16)).r cO cQ (bb.1.set (Int.toNat a4) ap):=by rw [← e7];exact bY
        obtain⟨e9,fa,fb⟩:=bs e6;refine zg 3 rfl (Ba fa rfl rfl rfl ?_);refine zg 2 rfl ?_;obtain rfl:=oi fb;exact Ay (eU _ _ ((bb.1.set (Int.toNat a4) ap),e9) ⟨cO,cQ,rfl,rfl,(bV.Ac bW),cP,e8⟩ cb) rfl
       ·refine JL.exit rfl ?_;obtain rfl:=oi eX;obtain rfl:=eT _ cb;exact Ay (eS _ _ ⟨bU,a2,rfl,rfl,bV,bd,a3⟩) rfl
     ·refine JL.exit rfl ?_;obtain rfl:=oi ep;obtain rfl:=el _ b7;exact Ay (ek _ _ ⟨bo,a9,rfl,rfl,al,cE,cF⟩) rfl
   ·refine JL.exit rfl ?_;obtain rfl:=oi dz;obtain rfl:=dv _ b3;exact dq Z cu rfl
def P5(fuel:Nat)(p0:A9)(p1:AJ)(p2:AJ):Option (Bool×Int):= (HA fuel p0 p1).bind fun O=> if O≠0 then(some (false,O)) else((HA fuel p0 p2).bind fun U=> if U≠0 then(some (false,U)) else((f92 fuel p0).bind fun ag=> (ag).bind fun K=> (f93 fuel K p1).bind fun V=> (f93 fuel K p2).bind fun Y=> Option.bind (if(V.2.length:Int)=0 then(some true) else(some (decide ((Y.2.length:Int)=0)))) fun al=> if al=true then(some (false,0)) else((f94 fuel p1 p2).bind fun am=> (f93 fuel K am).bind fun Z=> Option.bind (if 0<(Z.2.length:Int) then((As (V.1+Y.1)).bind fun ap=> some (decide (Z.1≤ap))) else(some false)) fun av=> some (av,0))))
theorem YZ{E:LH}{bw:Ap}{c2:Nat}{bU:Ap}{bV:Nat}{a0:Ap}{a1:Nat}{a2:Ap}{a3:Nat}{p0:A9}{p1:AJ}{p2:AJ}(bW:GE E)(a4:Al (rL rI) E bw c2 p0.1)(a5:Al (rL rI) E bU bV p0.2)(a6:Al Bg E a0 a1 p1)(a7:Al Bg E a2 a3 p2){fuel:Nat}{r:Bool×Int}(bY:P5 fuel p0 p1 p2=some r):AN (D4 Tryz.prog) 37 [.agg #[sV bw p0.1 c2,sV bU p0.2 bV],sV a0 p1 a1,sV a2 p2 a3] E [] (fun w E' B'=>w= .tuple #[.bool r.1,iV r.2]∧B'= []):=by
 refine A3 func37 fun Q dn cs H cc av=>?_;unfold P5 at bY;refine zg 2 rfl (Ca cc fun dp dq K a8 cd=>?_);refine zg 6 rfl (BX a8 Cd BJ rfl rfl ?_);obtain⟨dr,ce,cf⟩:=bs bY;refine zg 1 rfl (BH (Lt (bW.Ai K) (a4.Ai K) (a5.Ai K) (a6.Ai K) ce) rfl rfl Kx cd fun dt O bZ=>?_);refine zg 7 rfl (AM cf (fun cg ci=>?_) (fun cg ck=>?_))
 ·refine zg 6 rfl ?_;obtain rfl:=oi ci;exact AB func37 rfl rfl (av (K.Ac O) rfl ⟨rfl,rfl⟩ bZ)
 ·refine zg 4 rfl (BX (a8.Ai O) Cd BJ rfl rfl ?_);obtain⟨du,cm,cn⟩:=bs ck;refine zg 1 rfl (BH (Lt (bW.Ai (K.Ac O)) (a4.Ai (K.Ac O)) (a5.Ai (K.Ac O)) (a7.Ai (K.Ac O)) cm) rfl rfl Kx bZ fun dv V co=>?_);refine Cw (S':= [[],[],[],[]]) rfl co fun b0=>zg 7 rfl (AM cn (fun cp cq=>?_) (fun cp cr=>?_))
  ·refine zg 6 rfl ?_;obtain rfl:=oi cq;exact AB func37 rfl rfl (av ((K.Ac O).Ac V) rfl ⟨rfl,rfl⟩ b0)
  ·refine zg 3 rfl (BX (a8.Ai (O.Ac V)) Cd BJ rfl rfl ?_);obtain⟨dw,ct,cu⟩:=bs cr;refine BN (Od (a4.Ai ((K.Ac O).Ac V)) (a5.Ai ((K.Ac O).Ac V)) ct) rfl rfl Mm b0 ?_;rintro dx dy _ ap ⟨_,rfl,rfl,cv⟩ cw;obtain⟨dz,cy,cz⟩:=bs cu;have b1:=cv;refine zg 6 rfl ?_;rw [cy] at b1;obtain⟨cA,cB,_,rfl,a9,⟨_,_,rfl,⟨dA,dB,rfl,bb⟩,⟨_,dC,rfl,⟨dD,dE,rfl,bd⟩,be⟩⟩⟩:=b1;obtain⟨dF,cC,cD⟩:=bs cz;refine BN (N4 a9 bb bd be (a6.Ai (((K.Ac O).Ac V).Ac ap)) cC) rfl rfl Ml cw ?_;rintro _ dG _ U ⟨dH,dI,rfl,rfl,dJ⟩ cE;obtain⟨dK,cF,cG⟩:=bs cD;refine zg 2 rfl (BN (N4 (a9.Ai U) (bb.Ai U) (bd.Ai U) (Rp.Ai _ U be) (a7.Ai ((((K.Ac O).Ac V).Ac ap).Ac U)) cF) rfl rfl Ml cE ?_);rintro _ dL _ ag ⟨dM,dN,rfl,rfl,dO⟩ cH;refine Cw (S':= [[],[],[],[],[],[],[]]) rfl cH fun cI=>CW cI Gi fun cJ cK=>?_;refine CW cK Gi fun b2 cM=>?_;refine BW 7 cM Dy fun cN=>?_;refine C8 7 cN rfl fun dP al b3 cO=>Cw (S':= [[],[],[],[],[],[],[],[],[(b2,.cells #[iV 0,nS] 97 (0,0))]]) rfl cO fun cP=>BW 8 cP Dy fun cQ=>?_;refine C8 8 cQ rfl fun bi Y b4 b5=>zg 4 rfl (JL.fl 1 (b3.Ai Y) underlying97 DF EV ?_);refine Bh underlying95 rfl rfl rfl ?_;obtain⟨cR,cT,cV⟩:=bs cG;refine zg 2 rfl (EY [] (fun L s=>∃(b6:LH),Jm bi H b6 [] [(1,sV a0 p1 a1),(2,sV a2 p2 a3),(10,pV cA cB),(11,pV cJ 0),(12,pV b2 0),(43,.bool cR)] L s) ?_ ?_)
   ·rintro _ _ ⟨b6,rfl,rfl,Z,b7⟩;refine JL.done (BI cV (fun cW cX=>?_) (fun cW cY=>?_))
    ·refine zg 5 rfl ?_;obtain rfl:=oi cX;exact AB func37 rfl rfl (av ((((((((K.Ac O).Ac V).Ac ap).Ac U).Ac ag).Ac al).Ac Y).Ac Z) rfl ⟨rfl,rfl⟩ b7)
    ·obtain⟨dQ,cZ,c0⟩:=bs cY;refine zg 6 rfl (BN (aT (a6.Ai ((((((((K.Ac O).Ac V).Ac ap).Ac U).Ac ag).Ac al).Ac Y).Ac Z)) (a7.Ai ((((((((K.Ac O).Ac V).Ac ap).Ac U).Ac ag).Ac al).Ac Y).Ac Z)) cZ) rfl rfl (AV func94 rfl) b7 ?_);rintro _ dR _ am ⟨dS,dT,rfl,rfl,c1⟩ c3;obtain⟨dU,c4,c5⟩:=bs c0;refine BN (N4 (a9.Ai (((((U.Ac ag).Ac al).Ac Y).Ac Z).Ac am)) (bb.Ai (((((U.Ac ag).Ac al).Ac Y).Ac Z).Ac am)) (bd.Ai (((((U.Ac ag).Ac al).Ac Y).Ac Z).Ac am)) (Rp.Ai _ (((((U.Ac ag).Ac al).Ac Y).Ac Z).Ac am) be) c1 c4) rfl rfl Ml c3 ?_;rintro _ dV _ bo ⟨dW,dX,rfl,rfl,dY⟩ c6;refine Cw (S':= [[],[]]) rfl c6 fun c7=>CW c7 Gi fun dZ c8=>?_;refine BW 2 c8 Dy fun c9=>?_;refine C8 2 c9 rfl fun ea bv b8 b9=>zg 3 rfl (JL.fl 1 b8 underlying97 DF EV ?_);refine Bh underlying95 rfl rfl rfl ?_;obtain⟨da,db,dc⟩:=bs c5;refine zg 2 rfl (Dv 14 2 [] [(62,.bool da)] (fun eb dd de=>?_) (fun ca=>?_))
     ·refine zg 3 rfl ?_;obtain rfl:=oi dc;exact AB func37 rfl rfl (av ((((((((((((K.Ac O).Ac V).Ac ap).Ac U).Ac ag).Ac al).Ac Y).Ac Z).Ac am).Ac bo).Ac bv).Ac dd) rfl ⟨rfl,rfl⟩ de)
     ·refine Es 53 db (fun df dg=>?_) (fun df dh=>?_)
      ·refine JL.fl 0 b8 underlying97 AX By ?_;refine JL.fl 0 (b3.Ai ((((Y.Ac Z).Ac am).Ac bo).Ac bv)) underlying97 AX By ?_;refine JL.fl 0 (b4.Ai (((Z.Ac am).Ac bo).Ac bv)) underlying97 AX By ?_;obtain⟨ec,di,dj⟩:=bs dg;refine Ba di rfl rfl rfl (zg 2 rfl ?_);obtain rfl:=oi dj;exact ca Ar b9 rfl
      ·refine zg 9 rfl ?_;obtain rfl:=oi dh;exact ca Ar b9 rfl
   ·intro cb;refine Es 38 cT (fun dk dl=>?_) (fun dk dm=>?_)
    ·refine zg 5 rfl ?_;obtain rfl:=oi dl;exact Ay (cb _ _ ⟨bi,rfl,rfl,Ar,b5⟩) rfl
    ·refine JL.fl 1 b4 underlying97 DF EV ?_;refine Bh underlying95 rfl rfl rfl (zg 2 rfl ?_);obtain rfl:=oi dm;exact Ay (cb _ _ ⟨bi,rfl,rfl,Ar,b5⟩) rfl
end Pal
namespace Pal
open Go Go.Conc Go.Proofs
open Go.Proofs.Tryz
def Km(fuel:Nat):Option Bool:= (f71 fuel).bind fun am=> (P0 fuel am 4).bind fun U=> (f71 fuel).bind fun ap=> (P2 fuel ap 5).bind fun V=> (f71 fuel).bind fun av=> (f72 fuel).bind fun a0=> (P7 fuel av a0 2).bind fun Y=> (f71 fuel).bind fun a1=> (P6 fuel a1 ([])).bind fun Z=> (f71 fuel).bind fun a2=> (f73 fuel).bind fun a3=> (Qd fuel a2 a3 1).bind fun ag=> (f71 fuel).bind fun a4=> (Ju fuel a4 ([])).bind fun K=> (f71 fuel).bind fun a5=> (f72 fuel).bind fun a6=> (f72 fuel).bind fun a7=> (P5 fuel a5 a6 a7).bind fun al=> (f71 fuel).bind fun a8=> (f73 fuel).bind fun a9=> (P4 fuel a8 a9).bind fun O=> Option.bind (if U.2=0 then(some (decide (V.2=0))) else(some false)) fun bb=> Option.bind (if bb=true then(some (decide (Y.2=0))) else(some false)) fun bd=> Option.bind (if bd=true then(some (decide (Z.2=0))) else(some false)) fun be=> Option.bind (if be=true then(some (decide (ag.2=0))) else(some false)) fun bi=> Option.bind (if bi=true then(some (decide (K.2.2=0))) else(some false)) fun bo=> Option.bind (if bo=true then(some (decide (al.2=0))) else(some false)) fun bv=> Option.bind (if bv=true then(some (decide (O.2.2=0))) else(some false)) fun bw=> Option.bind (if bw=true then(some (decide (V.1=3))) else(some false)) fun bU=> Option.bind (if bU=true then(some (decide (Z.1=15))) else(some false)) fun bV=> Option.bind (if bV=true then(some (decide (ag.1=1))) else(some false)) fun bW=> Option.bind (if bW=true then(some (decide (K.1=0))) else(some false)) fun bY=> Option.bind (if bY=true then(some (decide (K.2.1=9))) else(some false)) fun bZ=> Option.bind (if bZ=true then(some al.1) else(some false)) fun b0=> Option.bind (if b0=true then(some (decide (O.1=3))) else(some false)) fun b1=> Option.bind (if b1=true then((f32 fuel U.1 ([4,5]:List Int)).bind fun b2=> some b2) else(some false)) fun b3=> Option.bind (if b3=true then((f32 fuel Y.1 ([2,3,4]:List Int)).bind fun b4=> some b4) else(some false)) fun b5=> Option.bind (if b5=true then((f32 fuel O.2.1 ([3,4]:List Int)).bind fun b6=> some b6) else(some false)) fun b7=> some b7
theorem Tn{E:LH}(a6:GE E){fuel:Nat}{r:Bool}(ck:Km fuel=some r):AN (D4 Tryz.prog) 22 [] E [] (fun w E' B'=>w= .bool r∧B'= []):=by
 refine A3 func22 fun Q g4 cs H c3 c4=>?_;unfold Km at ck;obtain⟨g5,c5,c6⟩:=bs ck;refine zg 6 rfl (BN (IG c5) rfl rfl Im c3 ?_);rintro _ g6 _ a3 ⟨g7,g8,g9,ha,rfl,rfl,c7,c8⟩ c9;obtain⟨am,da,db⟩:=bs c6;refine BN (Y8 (a6.Ai a3) c7 c8 da) rfl rfl (AV func51 rfl) c9 ?_;rintro _ hb _ a7 ⟨ap,av,rfl,rfl,dc⟩ dd;obtain⟨hc,de,df⟩:=bs db;refine zg 8 rfl (BN (IG de) rfl rfl Im dd ?_);rintro _ hd _ a4 ⟨he,hf,hj,hk,rfl,rfl,dg,dh⟩ di;obtain⟨be,dj,dk⟩:=bs df;refine BH (aN (a6.Ai ((a3.Ac a7).Ac a4)) dg dh dj) rfl rfl (AV func57 rfl) di fun hl a8 dl=>?_;obtain⟨hm,dm,dn⟩:=bs dk;refine zg 8 rfl (BN (IG dm) rfl rfl Im dl ?_);rintro _ hn _ a9 ⟨ho,hp,hq,hr,rfl,rfl,dp,dq⟩ dr;obtain⟨hu,dt,du⟩:=bs dn;refine BN (PO dt) rfl rfl OB dr ?_;rintro _ hv _ a1 ⟨hw,hx,rfl,rfl,dv⟩ dw;obtain⟨V,dx,dy⟩:=bs du;refine BN (ai (a6.Ai (((((a3.Ac a7).Ac a4).Ac a8).Ac a9).Ac a1)) (dp.Ai a1) (dq.Ai a1) dv dx) rfl rfl (AV func43 rfl) dw ?_;rintro _ hy _ bi ⟨ag,al,rfl,rfl,dz⟩ dA;obtain⟨hz,dB,dC⟩:=bs dy;refine zg 8 rfl (BN (IG dB) rfl rfl Im dA ?_);rintro _ hA _ bb ⟨hB,hC,hD,hE,rfl,rfl,dD,dE⟩ dF;obtain⟨a2,dG,dH⟩:=bs dC;refine BH (ZT (a6.Ai (((((((a3.Ac a7).Ac a4).Ac a8).Ac a9).Ac a1).Ac bi).Ac bb)) dD dE Al.nil dG) rfl rfl (AV func28 rfl) dF fun hF bo dI=>?_;obtain⟨hG,dJ,dK⟩:=bs dH;refine zg 8 rfl (BN (IG dJ) rfl rfl Im dI ?_);rintro _ hH _ bv ⟨hI,hJ,hK,hL,rfl,rfl,dL,dM⟩ dN;obtain⟨hM,dO,dP⟩:=bs dK;refine BN (TE dO) rfl rfl (AV func73 rfl) dN ?_;rintro _ hN _ a5 ⟨hO,hP,rfl,rfl,dQ⟩ dR;obtain⟨a0,dS,dT⟩:=bs dP;refine BH (ZX (a6.Ai ((((((((((a3.Ac a7).Ac a4).Ac a8).Ac a9).Ac a1).Ac bi).Ac bb).Ac bo).Ac bv).Ac a5)) (dL.Ai a5) (dM.Ai a5) dQ dS) rfl rfl (AV func49 rfl) dR fun hQ bU dU=>?_;obtain⟨hR,dV,dW⟩:=bs dT;refine zg 8 rfl (BN (IG dV) rfl rfl Im dU ?_);rintro _ hS _ bV ⟨hT,hU,hV,hW,rfl,rfl,dX,dY⟩ dZ;obtain⟨O,ea,eb⟩:=bs dW;refine BH (SR (a6.Ai ((((((((((((a3.Ac a7).Ac a4).Ac a8).Ac a9).Ac a1).Ac bi).Ac bb).Ac bo).Ac bv).Ac a5).Ac bU).Ac bV)) dX dY Al.nil ea) rfl rfl (AV func35 rfl) dZ fun hX bY ec=>?_;obtain⟨hY,ed,ee⟩:=bs eb;refine zg 10 rfl (BN (IG ed) rfl rfl Im ec ?_);rintro _ hZ _ bZ ⟨h0,h1,h2,h3,rfl,rfl,ef,eg⟩ eh;obtain⟨h4,ei,ej⟩:=bs ee;refine BN (PO ei) rfl rfl OB eh ?_;rintro _ h5 _ bw ⟨h6,h7,rfl,rfl,ek⟩ el;obtain⟨h8,em,en⟩:=bs ej;refine BN (PO em) rfl rfl OB el ?_;rintro _ h9 _ bd ⟨ia,ic,rfl,rfl,eo⟩ ep;obtain⟨U,eq,er⟩:=bs en;refine BH (YZ (a6.Ai ((((((((((((((((a3.Ac a7).Ac a4).Ac a8).Ac a9).Ac a1).Ac bi).Ac bb).Ac bo).Ac bv).Ac a5).Ac bU).Ac bV).Ac bY).Ac bZ).Ac bw).Ac bd)) (ef.Ai (bw.Ac bd)) (eg.Ai (bw.Ac bd)) (ek.Ai bd) eo eq) rfl rfl (AV func37 rfl) ep fun ie b0 et=>?_;obtain⟨ig,eu,ew⟩:=bs er;refine zg 8 rfl (BN (IG eu) rfl rfl Im et ?_);rintro _ ih _ b1 ⟨ii,ij,ik,il,rfl,rfl,ex,ey⟩ ez;obtain⟨io,eA,eB⟩:=bs ew;refine BN (TE eA) rfl rfl (AV func73 rfl) ez ?_;rintro _ iq _ bW ⟨ir,it,rfl,rfl,eC⟩ eD;obtain⟨K,eE,eF⟩:=bs eB;refine BN (aM (a6.Ai (((((((((((((((((((a3.Ac a7).Ac a4).Ac a8).Ac a9).Ac a1).Ac bi).Ac bb).Ac bo).Ac bv).Ac a5).Ac bU).Ac bV).Ac bY).Ac bZ).Ac bw).Ac bd).Ac b0).Ac b1).Ac bW)) (ex.Ai bW) (ey.Ai bW) eC eE) rfl rfl (AV func30 rfl) eD ?_;rintro _ iu _ cg ⟨Y,Z,rfl,rfl,eG⟩ cm;obtain⟨eH,eI,eJ⟩:=bs eF;refine zg 13 rfl (Dv 6 67 [] [(1,sV ap am.1 av),(3,iV be.1),(5,sV ag V.1 al),(6,iV V.2),(7,iV a2.1),(8,iV a2.2),(9,iV a0.1),(10,iV a0.2),(11,iV O.1),(12,iV O.2.1),(13,iV O.2.2),(14,.bool U.1),(15,iV U.2),(16,iV K.1),(17,sV Y K.2.1 Z),(18,iV K.2.2),(71,.bool eH)] (fun iv b2 cn=>?_) (fun co=>?_))
 ·obtain⟨eK,eL,eM⟩:=bs eJ;refine zg 1 rfl (Dv 10 63 [] [(1,sV ap am.1 av),(3,iV be.1),(5,sV ag V.1 al),(7,iV a2.1),(8,iV a2.2),(9,iV a0.1),(10,iV a0.2),(11,iV O.1),(12,iV O.2.1),(13,iV O.2.2),(14,.bool U.1),(15,iV U.2),(16,iV K.1),(17,sV Y K.2.1 Z),(18,iV K.2.2),(75,.bool eK)] (fun iw b3 cp=>?_) (fun cq=>?_))
  ·obtain⟨eN,eO,eP⟩:=bs eM;refine zg 1 rfl (Dv 14 59 [] [(1,sV ap am.1 av),(3,iV be.1),(5,sV ag V.1 al),(7,iV a2.1),(9,iV a0.1),(10,iV a0.2),(11,iV O.1),(12,iV O.2.1),(13,iV O.2.2),(14,.bool U.1),(15,iV U.2),(16,iV K.1),(17,sV Y K.2.1 Z),(18,iV K.2.2),(79,.bool eN)] (fun iy b4 cr=>?_) (fun ct=>?_))
   ·obtain⟨eQ,eR,eS⟩:=bs eP;refine zg 1 rfl (Dv 18 55 [] [(1,sV ap am.1 av),(3,iV be.1),(5,sV ag V.1 al),(7,iV a2.1),(9,iV a0.1),(11,iV O.1),(12,iV O.2.1),(13,iV O.2.2),(14,.bool U.1),(15,iV U.2),(16,iV K.1),(17,sV Y K.2.1 Z),(18,iV K.2.2),(83,.bool eQ)] (fun iz b5 cu=>?_) (fun cv=>?_))
    ·obtain⟨eT,eU,eV⟩:=bs eS;refine zg 1 rfl (Dv 22 51 [] [(1,sV ap am.1 av),(3,iV be.1),(5,sV ag V.1 al),(7,iV a2.1),(9,iV a0.1),(11,iV O.1),(12,iV O.2.1),(14,.bool U.1),(15,iV U.2),(16,iV K.1),(17,sV Y K.2.1 Z),(18,iV K.2.2),(87,.bool eT)] (fun iA b6 cw=>?_) (fun cy=>?_))
     ·obtain⟨eW,eX,eY⟩:=bs eV;refine zg 1 rfl (Dv 26 47 [] [(1,sV ap am.1 av),(3,iV be.1),(5,sV ag V.1 al),(7,iV a2.1),(9,iV a0.1),(11,iV O.1),(12,iV O.2.1),(14,.bool U.1),(16,iV K.1),(17,sV Y K.2.1 Z),(18,iV K.2.2),(91,.bool eW)] (fun iB b7 cz=>?_) (fun cA=>?_))
      ·obtain⟨eZ,e0,e1⟩:=bs eY;refine zg 1 rfl (Dv 30 43 [] [(1,sV ap am.1 av),(3,iV be.1),(5,sV ag V.1 al),(7,iV a2.1),(9,iV a0.1),(11,iV O.1),(12,iV O.2.1),(14,.bool U.1),(16,iV K.1),(17,sV Y K.2.1 Z),(95,.bool eZ)] (fun iC b8 cB=>?_) (fun cC=>?_))
       ·obtain⟨e2,e3,e4⟩:=bs e1;refine zg 1 rfl (Dv 34 39 [] [(1,sV ap am.1 av),(5,sV ag V.1 al),(7,iV a2.1),(9,iV a0.1),(11,iV O.1),(12,iV O.2.1),(14,.bool U.1),(16,iV K.1),(17,sV Y K.2.1 Z),(99,.bool e2)] (fun iD b9 cD=>?_) (fun cE=>?_))
        ·obtain⟨e5,e6,e7⟩:=bs e4;refine zg 1 rfl (Dv 38 35 [] [(1,sV ap am.1 av),(5,sV ag V.1 al),(9,iV a0.1),(11,iV O.1),(12,iV O.2.1),(14,.bool U.1),(16,iV K.1),(17,sV Y K.2.1 Z),(103,.bool e5)] (fun iE ca cF=>?_) (fun cG=>?_))
         ·obtain⟨e8,e9,fa⟩:=bs e7;refine zg 1 rfl (Dv 42 31 [] [(1,sV ap am.1 av),(5,sV ag V.1 al),(11,iV O.1),(12,iV O.2.1),(14,.bool U.1),(16,iV K.1),(17,sV Y K.2.1 Z),(107,.bool e8)] (fun iF cb cH=>?_) (fun cI=>?_))
          ·obtain⟨fb,fc,fd⟩:=bs fa;refine zg 1 rfl (Dv 46 27 [] [(1,sV ap am.1 av),(5,sV ag V.1 al),(12,iV O.2.1),(14,.bool U.1),(16,iV K.1),(17,sV Y K.2.1 Z),(111,.bool fb)] (fun iG cc cJ=>?_) (fun cK=>?_))
           ·obtain⟨fe,ff,fg⟩:=bs fd;refine zg 1 rfl (Dv 50 23 [] [(1,sV ap am.1 av),(5,sV ag V.1 al),(14,.bool U.1),(16,iV K.1),(17,sV Y K.2.1 Z),(115,.bool fe)] (fun iH cd cM=>?_) (fun cN=>?_))
            ·obtain⟨fh,fj,fk⟩:=bs fg;refine zg 1 rfl (Dv 53 20 [] [(1,sV ap am.1 av),(5,sV ag V.1 al),(16,iV K.1),(17,sV Y K.2.1 Z),(118,.bool fh)] (fun iI ce cO=>?_) (fun cP=>?_))
             ·obtain⟨fm,fo,fp⟩:=bs fk;refine zg 1 rfl (Dv 57 16 [] [(1,sV ap am.1 av),(5,sV ag V.1 al),(17,sV Y K.2.1 Z),(122,.bool fm)] (fun iJ cf cQ=>?_) (fun cR=>?_))
              ·obtain⟨fq,fs,fu⟩:=bs fp;refine zg 1 rfl (Dv 62 11 [] [(5,sV ag V.1 al),(17,sV Y K.2.1 Z),(127,.bool fq)] (fun iK ci cT=>?_) (fun cV=>?_))
               ·obtain⟨fv,fw,fx⟩:=bs fu;refine zg 1 rfl (Dv 67 6 [] [(17,sV Y K.2.1 Z),(132,.bool fv)] (fun iL cW cX=>?_) (fun cY=>?_))
                ·obtain⟨fy,fz,fA⟩:=bs fx;refine zg 1 rfl (Dv 72 1 [] [(137,.bool fy)] (fun iM fB fC=>?_) (fun cZ=>?_))
                 ·refine zg 2 rfl ?_;obtain rfl:=oi fA;exact AB func22 rfl rfl (c4 (((((((((((((((((((((((((((((((((((((a3.Ac a7).Ac a4).Ac a8).Ac a9).Ac a1).Ac bi).Ac bb).Ac bo).Ac bv).Ac a5).Ac bU).Ac bV).Ac bY).Ac bZ).Ac bw).Ac bd).Ac b0).Ac b1).Ac bW).Ac cg).Ac b2).Ac b3).Ac b4).Ac b5).Ac b6).Ac b7).Ac b8).Ac b9).Ac ca).Ac cb).Ac cc).Ac cd).Ac ce).Ac cf).Ac ci).Ac cW).Ac fB) rfl ⟨rfl,rfl⟩ fC)
                 ·refine DU 133 fz (fun fD fE=>?_) (fun fD fF=>?_)
                  ·refine zg 1 rfl (DK (pp:=rI) [iV 3,iV 4] [3,4] rfl rfl rfl underlying28 AX CU (by decide) rfl rfl rfl ⟨rfl,rfl,trivial⟩ cX fun iN iO fG fH=>?_);refine BU 0 fG fH rfl fun iP c0 fI fJ=>?_;obtain⟨iQ,fK,fL⟩:=bs fE;refine BH (Oa (eG.Ai ((((((((((((((((b2.Ac b3).Ac b4).Ac b5).Ac b6).Ac b7).Ac b8).Ac b9).Ac ca).Ac cb).Ac cc).Ac cd).Ac ce).Ac cf).Ac ci).Ac cW).Ac c0)) fI fK) rfl rfl Mj fJ fun iR fM fN=>zg 1 rfl ?_;obtain rfl:=oi fL;exact cZ (c0.Ac fM) fN rfl
                  ·refine zg 4 rfl ?_;obtain rfl:=oi fF;exact cZ Ar cX rfl
                ·refine DU 128 fw (fun fO fP=>?_) (fun fO fQ=>?_)
                 ·refine zg 1 rfl (DK (pp:=rI) [iV 2,iV 3,iV 4] [2,3,4] rfl rfl rfl underlying28 AX CU (by decide) rfl rfl rfl ⟨rfl,rfl,rfl,trivial⟩ cT fun iS iT fR fS=>?_);refine BU 0 fR fS rfl fun iU c1 fT fU=>?_;obtain⟨iW,fW,fX⟩:=bs fP;refine BH (Oa (dz.Ai (((((((((((((((((((((((((((((bb.Ac bo).Ac bv).Ac a5).Ac bU).Ac bV).Ac bY).Ac bZ).Ac bw).Ac bd).Ac b0).Ac b1).Ac bW).Ac cg).Ac b2).Ac b3).Ac b4).Ac b5).Ac b6).Ac b7).Ac b8).Ac b9).Ac ca).Ac cb).Ac cc).Ac cd).Ac ce).Ac cf).Ac ci).Ac c1)) fT fW) rfl rfl Mj fU fun iX fY fZ=>zg 1 rfl ?_;obtain rfl:=oi fX;exact cY (c1.Ac fY) fZ rfl
                 ·refine zg 4 rfl ?_;obtain rfl:=oi fQ;exact cY Ar cT rfl
               ·refine DU 123 fs (fun ga gb=>?_) (fun ga gc=>?_)
                ·refine zg 1 rfl (DK (pp:=rI) [iV 4,iV 5] [4,5] rfl rfl rfl underlying28 AX CU (by decide) rfl rfl rfl ⟨rfl,rfl,trivial⟩ cQ fun iY iZ gd ge=>?_);refine BU 0 gd ge rfl fun i0 c2 gf gg=>?_;obtain⟨i1,gh,gi⟩:=bs gb;refine BH (Oa (dc.Ai (((((((((((((((((((((((((((((((((a4.Ac a8).Ac a9).Ac a1).Ac bi).Ac bb).Ac bo).Ac bv).Ac a5).Ac bU).Ac bV).Ac bY).Ac bZ).Ac bw).Ac bd).Ac b0).Ac b1).Ac bW).Ac cg).Ac b2).Ac b3).Ac b4).Ac b5).Ac b6).Ac b7).Ac b8).Ac b9).Ac ca).Ac cb).Ac cc).Ac cd).Ac ce).Ac cf).Ac c2)) gf gh) rfl rfl Mj gg fun i3 gj gk=>zg 1 rfl ?_;obtain rfl:=oi gi;exact cV (c2.Ac gj) gk rfl
                ·refine zg 4 rfl ?_;obtain rfl:=oi gc;exact cV Ar cQ rfl
              ·refine DU 119 fo (fun gl gm=>?_) (fun gl gn=>?_)
               ·refine zg 3 rfl ?_;obtain rfl:=oi gm;exact cR Ar cO rfl
               ·refine zg 3 rfl ?_;obtain rfl:=oi gn;exact cR Ar cO rfl
             ·refine DU 116 fj (fun gp gq=>?_) (fun gp gr=>?_)
              ·refine zg 2 rfl ?_;obtain rfl:=oi gq;exact cP Ar cM rfl
              ·refine zg 2 rfl ?_;obtain rfl:=oi gr;exact cP Ar cM rfl
            ·refine DU 112 ff (fun gt gu=>?_) (fun gt gv=>?_)
             ·refine zg 3 rfl ?_;obtain rfl:=oi gu;exact cN Ar cJ rfl
             ·refine zg 3 rfl ?_;obtain rfl:=oi gv;exact cN Ar cJ rfl
           ·refine DU 108 fc (fun gw gx=>?_) (fun gw gy=>?_)
            ·refine zg 3 rfl ?_;obtain rfl:=oi gx;exact cK Ar cH rfl
            ·refine zg 3 rfl ?_;obtain rfl:=oi gy;exact cK Ar cH rfl
          ·refine DU 104 e9 (fun gz gA=>?_) (fun gz gB=>?_)
           ·refine zg 3 rfl ?_;obtain rfl:=oi gA;exact cI Ar cF rfl
           ·refine zg 3 rfl ?_;obtain rfl:=oi gB;exact cI Ar cF rfl
         ·refine DU 100 e6 (fun gC gD=>?_) (fun gC gE=>?_)
          ·refine zg 3 rfl ?_;obtain rfl:=oi gD;exact cG Ar cD rfl
          ·refine zg 3 rfl ?_;obtain rfl:=oi gE;exact cG Ar cD rfl
        ·refine DU 96 e3 (fun gF gG=>?_) (fun gF gH=>?_)
         ·refine zg 3 rfl ?_;obtain rfl:=oi gG;exact cE Ar cB rfl
         ·refine zg 3 rfl ?_;obtain rfl:=oi gH;exact cE Ar cB rfl
       ·refine DU 92 e0 (fun gI gJ=>?_) (fun gI gK=>?_)
        ·refine zg 3 rfl ?_;obtain rfl:=oi gJ;exact cC Ar cz rfl
        ·refine zg 3 rfl ?_;obtain rfl:=oi gK;exact cC Ar cz rfl
      ·refine DU 88 eX (fun gL gM=>?_) (fun gL gN=>?_)
       ·refine zg 3 rfl ?_;obtain rfl:=oi gM;exact cA Ar cw rfl
       ·refine zg 3 rfl ?_;obtain rfl:=oi gN;exact cA Ar cw rfl
     ·refine DU 84 eU (fun gO gP=>?_) (fun gO gQ=>?_)
      ·refine zg 3 rfl ?_;obtain rfl:=oi gP;exact cy Ar cu rfl
      ·refine zg 3 rfl ?_;obtain rfl:=oi gQ;exact cy Ar cu rfl
    ·refine DU 80 eR (fun gR gS=>?_) (fun gR gT=>?_)
     ·refine zg 3 rfl ?_;obtain rfl:=oi gS;exact cv Ar cr rfl
     ·refine zg 3 rfl ?_;obtain rfl:=oi gT;exact cv Ar cr rfl
   ·refine DU 76 eO (fun gU gV=>?_) (fun gU gW=>?_)
    ·refine zg 3 rfl ?_;obtain rfl:=oi gV;exact ct Ar cp rfl
    ·refine zg 3 rfl ?_;obtain rfl:=oi gW;exact ct Ar cp rfl
  ·refine DU 72 eL (fun gX gY=>?_) (fun gX gZ=>?_)
   ·refine zg 3 rfl ?_;obtain rfl:=oi gY;exact cq Ar cn rfl
   ·refine zg 3 rfl ?_;obtain rfl:=oi gZ;exact cq Ar cn rfl
 ·refine Es 68 eI (fun g0 g1=>?_) (fun g0 g3=>?_)
  ·refine zg 3 rfl ?_;obtain rfl:=oi g1;exact co Ar cm rfl
  ·refine zg 3 rfl ?_;obtain rfl:=oi g3;exact co Ar cm rfl
end Pal
namespace Pal
theorem D2{f:Nat→Option Int}{n i:Nat}{c:Int}(K:∀q,q<i→f q=none)(O:f i=some c)(hi:i<n):(List.range n).findSome? f=some c:=by
 have key:∀(k:Nat),i<k→(List.range k).findSome? f=some c:=by
  intro k
  induction k with
  | zero=>intro h;omega
  | succ k U=>
   intro h;rw [List.range_succ,List.findSome?_append];by_cases e:i=k
   ·subst e;have:(List.range i).findSome? f=none:=List.findSome?_eq_none_iff.2 fun q V=>K q (List.mem_range.1 V);rw [this];simp [O]
   ·rw [U (by omega)];rfl
 exact key n hi
theorem F8{f:Nat→Option Int}{n:Nat}(K:∀q,q<n→f q=none):(List.range n).findSome? f=none:=List.findSome?_eq_none_iff.2 fun q O=>K q (List.mem_range.1 O)
def Fp(n:Nat)(m:Int)(b:Bool)(l:List Int)(i:Nat):Option Int:=
 if l.getD i 0<0∨(n:Int) - 1<l.getD i 0 then some 3 else if l.getD i 0=m∧b=false then some 8 else if 0<i∧l.getD i 0≤l.getD (i - 1) 0 then some 5 else none
def EZ(n:Nat)(m:Int)(b:Bool)(l:List Int):Option Int:=(List.range l.length).findSome? (Fp n m b l)
theorem Er{α:Type}{l:List α}{i:Nat}{d:α}(h:i<l.length):l.getD i d=l[i]:=by rw [List.getD_eq_getElem?_getD,List.getElem?_eq_getElem h];rfl
theorem RX{F:Nat}{J:JW}{m:Int}{l:List Int}{b:Bool}(am:100<F)(ap:l.length<100)(av:J.1.length<100):A1 (f136 F J m l b) (fun e=>e.map (·.1)=EZ J.1.length m b l):=by
 unfold f136;refine AE (S:=fun q=>(∃c,q=Sum.inl (some (c,m))∧EZ J.1.length m b l=some c)∨(q=Sum.inr ()∧EZ J.1.length m b l=none)) ?_ ?_
 ·refine B6 l.length (fun i s=>s=(i:Int)∧∀q,q<i→Fp J.1.length m b l q=none) ⟨rfl,fun q al=>by omega⟩ (by omega) ?_ ?_
  ·rintro i s hi ⟨rfl,O⟩;unfold JU;have hg:l.getD i 0=l[i]:=Er hi;refine Bq (by omega) (Bp (m:=i) rfl hi ?_);refine AT ((J.1.length:Int) - 1) rfl (by omega) (by omega) (AL (I5 F _ _ _) ?_);refine Bs (fun h=>?_) (fun h=>?_)
   ·have U:=of_decide_eq_true h;exact Ak (.inl ⟨3,rfl,D2 O (by unfold Fp;rw [hg,if_pos U]) hi⟩)
   ·have U:¬(l[i]<0∨(J.1.length:Int) - 1<l[i]):=fun x=>h (decide_eq_true x);refine AE (S:=fun c=>c=decide (l[i]=m∧b=false)) ?_ ?_
    ·refine Bs (fun K=>Ak ?_) (fun K=>Ak ?_)
     ·cases b <;> simp [K]
     ·simp [K]
    ·rintro c rfl;refine Bs (fun K=>?_) (fun K=>?_)
     ·have Y:=of_decide_eq_true K;exact Ak (.inl ⟨8,rfl,D2 O (by unfold Fp;rw [hg,if_neg U,if_pos Y]) hi⟩)
     ·have Y:¬(l[i]=m∧b=false):=fun x=>K (decide_eq_true x);refine AE (S:=fun c=>c=decide (0<i∧l[i]≤l.getD (i - 1) 0)) ?_ ?_
      ·refine Bs (fun V=>?_) (fun V=>?_)
       ·have ag:i - 1<l.length:=by omega
        refine AT ((i - 1:Nat):Int) (by omega) (by omega) (by omega) (Bp (m:=i - 1) rfl ag ?_);refine Ak ?_;rw [Er ag];exact decide_eq_decide.2 ⟨fun x=>⟨by omega,x⟩,fun x=>x.2⟩
       ·exact Ak (decide_eq_false (by omega)).symm
      ·rintro c rfl;refine Bs (fun V=>?_) (fun V=>?_)
       ·have Z:=of_decide_eq_true V;exact Ak (.inl ⟨5,rfl,D2 O (by unfold Fp;rw [hg,if_neg U,if_neg Y,if_pos Z]) hi⟩)
       ·have Z:¬(0<i∧l[i]≤l.getD (i - 1) 0):=fun x=>V (decide_eq_true x);refine AT ((i+1:Nat):Int) (by simp) (by omega) (by omega) ?_;refine Ak ⟨rfl,fun q al=>?_⟩;by_cases e:q=i
        ·subst e;unfold Fp;rw [hg,if_neg U,if_neg Y,if_neg Z]
        ·exact O q (by omega)
  ·rintro s ⟨rfl,O⟩;unfold JU;exact A6 (by omega) (Ak ⟨_,rfl,.inr ⟨rfl,F8 O⟩⟩)
 ·rintro q (⟨c,rfl,h⟩ | ⟨rfl,h⟩)
  ·exact Ak h.symm
  ·exact Ak h.symm
theorem MZ(F:Nat)(a lo hi:Int):f104 F a lo hi=some (decide (lo≤a∧a≤hi)):=by
 unfold f104;by_cases h:lo≤a
 ·simp [h]
 ·simp [h]
theorem Wv{F:Nat}{J:JW}{m:Int}{l:List Int}(ag:100<F)(al:l.length<100)(am:J.1.length<100):f114 F J l=some (if l.length=0 then 7 else if 3<l.length then 6 else(EZ J.1.length m true l).getD 0):=by
 refine C3 ?_;unfold f114;refine Bs (fun h=>?_) (fun h=>?_)
 ·rw [if_pos (show l.length=0 by omega)];exact Ak rfl
 rw [if_neg (show ¬l.length=0 by omega)];refine Bs (fun h=>?_) (fun h=>?_)
 ·rw [if_pos (show 3<l.length by omega)];exact Ak rfl
 rw [if_neg (show ¬3<l.length by omega)];refine AE (S:=fun q=>(∃c,q=Sum.inl c∧EZ J.1.length m true l=some c)∨(q=Sum.inr ()∧EZ J.1.length m true l=none)) ?_ ?_
 ·refine B6 l.length (fun i s=>s=(i:Int)∧∀q,q<i→Fp J.1.length m true l q=none) ⟨rfl,fun q Z=>by omega⟩ (by omega) ?_ ?_
  ·rintro i s hi ⟨rfl,K⟩;unfold MW;have hg:l.getD i 0=l[i]:=Er hi;refine Bq (by omega) (Bp (m:=i) rfl hi ?_);refine AT ((J.1.length:Int) - 1) rfl (by omega) (by omega) (AL (MZ F _ _ _) ?_);refine Bs (fun h=>?_) (fun h=>?_)
   ·have U:l[i]<0∨(J.1.length:Int) - 1<l[i]:=by simp at h;omega
    exact Ak (.inl ⟨3,rfl,D2 K (by unfold Fp;rw [hg,if_pos U]) hi⟩)
   ·have U:¬(l[i]<0∨(J.1.length:Int) - 1<l[i]):=by simp at h;omega
    refine AE (S:=fun c=>c=decide (0<i∧l[i]≤l.getD (i - 1) 0)) ?_ ?_
    ·refine Bs (fun O=>?_) (fun O=>?_)
     ·have Y:i - 1<l.length:=by omega
      refine Bp (m:=i) rfl hi (AT ((i - 1:Nat):Int) (by omega) (by omega) (by omega) ?_);refine Bp (m:=i - 1) rfl Y (Ak ?_);rw [Er Y];exact decide_eq_decide.2 ⟨fun x=>⟨by omega,x⟩,fun x=>x.2⟩
     ·exact Ak (decide_eq_false (by omega)).symm
    ·rintro c rfl;refine Bs (fun O=>?_) (fun O=>?_)
     ·have V:=of_decide_eq_true O;exact Ak (.inl ⟨5,rfl,D2 K (by unfold Fp;rw [hg,if_neg U,if_neg (by simp),if_pos V]) hi⟩)
     ·have V:¬(0<i∧l[i]≤l.getD (i - 1) 0):=fun x=>O (decide_eq_true x);refine AT ((i+1:Nat):Int) (by simp) (by omega) (by omega) ?_;refine Ak ⟨rfl,fun q Z=>?_⟩;by_cases e:q=i
      ·subst e;unfold Fp;rw [hg,if_neg U,if_neg (by simp),if_neg V]
      ·exact K q (by omega)
  ·rintro s ⟨rfl,K⟩;unfold MW;exact A6 (by omega) (Ak ⟨_,rfl,.inr ⟨rfl,F8 K⟩⟩)
 ·rintro q (⟨c,rfl,h⟩ | ⟨rfl,h⟩)
  ·exact Ak (by rw [h];rfl)
  ·exact Ak (by rw [h];rfl)
theorem Wg{F:Nat}{J:JW}{m:Int}{l:List Int}(am:100<F)(ap:l.length<100)(av:J.1.length<100):f115 F J m l=some (if 3<l.length then 6 else(EZ J.1.length m false l).getD 0):=by
 refine C3 ?_;unfold f115;refine Bs (fun h=>?_) (fun h=>?_)
 ·rw [if_pos (show 3<l.length by omega)];exact Ak rfl
 rw [if_neg (show ¬3<l.length by omega)];refine AE (S:=fun q=>(∃c,q=Sum.inl c∧EZ J.1.length m false l=some c)∨(q=Sum.inr ()∧EZ J.1.length m false l=none)) ?_ ?_
 ·refine B6 l.length (fun i s=>s=(i:Int)∧∀q,q<i→Fp J.1.length m false l q=none) ⟨rfl,fun q al=>by omega⟩ (by omega) ?_ ?_
  ·rintro i s hi ⟨rfl,K⟩;unfold MQ;have hg:l.getD i 0=l[i]:=Er hi;refine Bq (by omega) (Bp (m:=i) rfl hi ?_);refine AT ((J.1.length:Int) - 1) rfl (by omega) (by omega) (AL (MZ F _ _ _) ?_);refine Bs (fun h=>?_) (fun h=>?_)
   ·have O:l[i]<0∨(J.1.length:Int) - 1<l[i]:=by simp at h;omega
    exact Ak (.inl ⟨3,rfl,D2 K (by unfold Fp;rw [hg,if_pos O]) hi⟩)
   ·have O:¬(l[i]<0∨(J.1.length:Int) - 1<l[i]):=by simp at h;omega
    refine Bp (m:=i) rfl hi (Bs (fun V=>?_) (fun V=>?_))
    ·exact Ak (.inl ⟨8,rfl,D2 K (by unfold Fp;rw [hg,if_neg O,if_pos ⟨V,rfl⟩]) hi⟩)
    have Z:¬(l[i]=m∧false=false):=fun x=>V x.1;refine AE (S:=fun c=>c=decide (0<i∧l[i]≤l.getD (i - 1) 0)) ?_ ?_
    ·refine Bs (fun U=>?_) (fun U=>?_)
     ·have ag:i - 1<l.length:=by omega
      refine Bp (m:=i) rfl hi (AT ((i - 1:Nat):Int) (by omega) (by omega) (by omega) ?_);refine Bp (m:=i - 1) rfl ag (Ak ?_);rw [Er ag];exact decide_eq_decide.2 ⟨fun x=>⟨by omega,x⟩,fun x=>x.2⟩
     ·exact Ak (decide_eq_false (by omega)).symm
    ·rintro c rfl;refine Bs (fun U=>?_) (fun U=>?_)
     ·have Y:=of_decide_eq_true U;exact Ak (.inl ⟨5,rfl,D2 K (by unfold Fp;rw [hg,if_neg O,if_neg Z,if_pos Y]) hi⟩)
     ·have Y:¬(0<i∧l[i]≤l.getD (i - 1) 0):=fun x=>U (decide_eq_true x);refine AT ((i+1:Nat):Int) (by simp) (by omega) (by omega) ?_;refine Ak ⟨rfl,fun q al=>?_⟩;by_cases e:q=i
      ·subst e;unfold Fp;rw [hg,if_neg O,if_neg Z,if_neg Y]
      ·exact K q (by omega)
  ·rintro s ⟨rfl,K⟩;unfold MQ;exact A6 (by omega) (Ak ⟨_,rfl,.inr ⟨rfl,F8 K⟩⟩)
 ·rintro q (⟨c,rfl,h⟩ | ⟨rfl,h⟩)
  ·exact Ak (by rw [h];rfl)
  ·exact Ak (by rw [h];rfl)
def Ek(J:JW)(i:Nat):Option Int:=
 if(J.1.getD i []).length=0 then some 7 else if 3<(J.1.getD i []).length then some 6 else match EZ J.1.length i true (J.1.getD i []) with
  | some c=>some c
  | none=>if 3<(J.2.getD i []).length then some 6 else EZ J.1.length i false (J.2.getD i [])
def CJ(J:JW):Option Int:=if J.1.length=0 then some 7 else if 8<J.1.length then some 6 else if J.2.length≠J.1.length then some 9 else(List.range J.1.length).findSome? (Ek J)
structure NL (J:JW):Prop where
 l1:J.1.length≤20
 l2:J.2.length≤20
 n1:∀l∈J.1,l.length≤20
 n2:∀l∈J.2,l.length≤20
theorem WS{F:Nat}{J:JW}(Z:100<F)(V:NL J):A1 (f113 F J) (fun e=>e.map (·.1)=CJ J):=by
 have ap:=V.l1;unfold f113 CJ;refine Bs (fun h=>?_) (fun h=>?_)
 ·rw [if_pos (show J.1.length=0 by omega)];exact Ak rfl
 rw [if_neg (show ¬J.1.length=0 by omega)];refine Bs (fun h=>?_) (fun h=>?_)
 ·rw [if_pos (show 8<J.1.length by omega)];exact Ak rfl
 rw [if_neg (show ¬8<J.1.length by omega)];refine Bs (fun h=>?_) (fun h=>?_)
 ·rw [if_pos (show J.2.length≠J.1.length by omega)];exact Ak rfl
 rw [if_neg (show ¬J.2.length≠J.1.length by omega)];refine AE (S:=fun q=>(∃c,q=Sum.inl (some c)∧(List.range J.1.length).findSome? (Ek J)=some c.1)∨(q=Sum.inr ()∧(List.range J.1.length).findSome? (Ek J)=none)) ?_ ?_
 ·refine B6 J.1.length (fun i s=>s=(i:Int)∧∀q,q<i→Ek J q=none) ⟨rfl,fun q am=>by omega⟩ (by omega) ?_ ?_
  ·rintro i s hi ⟨rfl,K⟩;unfold JV;have U:i<J.2.length:=by omega
   have O:J.1.getD i []=J.1[i]:=Er hi;have g2:J.2.getD i []=J.2[i]:=Er U;have n1:=V.n1 _ (List.getElem_mem hi);have n2:=V.n2 _ (List.getElem_mem U);refine Bq (by omega) ?_;refine Bp (m:=i) rfl hi ?_;refine Bs (fun h=>?_) (fun av=>?_)
   ·exact Ak (.inl ⟨(7,(i:Int)),rfl,D2 K (by unfold Ek;rw [O,if_pos (by omega)]) hi⟩)
   refine Bs (fun h=>?_) (fun a0=>?_)
   ·exact Ak (.inl ⟨(6,(i:Int)),rfl,D2 K (by unfold Ek;rw [O,if_neg (by omega),if_pos (by omega)]) hi⟩)
   refine AE (RX Z (by omega) (by omega)) ?_;intro e he;refine Bs (fun h=>?_) (fun h=>?_)
   ·obtain⟨c,rfl⟩:=Option.isSome_iff_exists.1 h;refine Ak (.inl ⟨c,rfl,D2 K ?_ hi⟩);unfold Ek;rw [O,if_neg (by omega),if_neg (by omega),← he];rfl
   ·obtain rfl:e=none:=by cases e <;> simp_all
    have Y:EZ J.1.length (i:Int) true J.1[i]=none:=he.symm;refine Bp (m:=i) rfl U ?_;refine Bs (fun h=>?_) (fun a1=>?_)
    ·refine Ak (.inl ⟨(6,(i:Int)),rfl,D2 K ?_ hi⟩);unfold Ek;rw [O,g2,if_neg (by omega),if_neg (by omega),Y];simp only;rw [if_pos (by omega)]
    refine Bp (m:=i) rfl U (AE (RX Z (by omega) (by omega)) ?_);intro ag al;refine Bs (fun h=>?_) (fun h=>?_)
    ·obtain⟨c,rfl⟩:=Option.isSome_iff_exists.1 h;refine Ak (.inl ⟨c,rfl,D2 K ?_ hi⟩);unfold Ek;rw [O,g2,if_neg (by omega),if_neg (by omega),Y];simp only;rw [if_neg (by omega),← al];rfl
    ·obtain rfl:ag=none:=by cases ag <;> simp_all
     refine AT ((i+1:Nat):Int) (by simp) (by omega) (by omega) (Ak ⟨rfl,fun q am=>?_⟩);by_cases e:q=i
     ·subst e;unfold Ek;rw [O,g2,if_neg (by omega),if_neg (by omega),Y];simp only;rw [if_neg (by omega),← al];rfl
     ·exact K q (by omega)
  ·rintro s ⟨rfl,K⟩;unfold JV;exact A6 (by omega) (Ak ⟨_,rfl,.inr ⟨rfl,F8 K⟩⟩)
 ·rintro q (⟨c,rfl,h⟩ | ⟨rfl,h⟩)
  ·exact Ak h.symm
  ·exact Ak h.symm
theorem M8{n:Nat}{m:Int}{b:Bool}{l:List Int}{c:Int}(h:EZ n m b l=some c):c≠0:=by
 obtain⟨i,_,hi⟩:=List.exists_of_findSome?_eq_some h;unfold Fp at hi;split at hi
 ·cases hi;omega
 ·split at hi
  ·cases hi;omega
  ·split at hi
   ·cases hi;omega
   ·cases hi
theorem Xl{J:JW}{i:Nat}{c:Int}(h:Ek J i=some c):c≠0:=by
 unfold Ek at h;split at h
 ·cases h;omega
 ·split at h
  ·cases h;omega
  ·split at h
   ·rename_i e;cases h;exact M8 e
   ·split at h
    ·cases h;omega
    ·exact M8 h
theorem TK{J:JW}{c:Int}(h:CJ J=some c):c≠0:=by
 unfold CJ at h;split at h
 ·cases h;omega
 ·split at h
  ·cases h;omega
  ·split at h
   ·cases h;omega
   ·obtain⟨i,_,hi⟩:=List.exists_of_findSome?_eq_some h;exact Xl hi
theorem Ya{F:Nat}{J:JW}(ag:100<F)(V:NL J):f68 F J=some ((CJ J).getD 0):=by
 have am:=V.l1;refine C3 ?_;unfold f68 CJ;refine Bs (fun h=>?_) (fun h=>?_)
 ·rw [if_pos (show J.1.length=0 by omega)];exact Ak rfl
 rw [if_neg (show ¬J.1.length=0 by omega)];refine Bs (fun h=>?_) (fun h=>?_)
 ·rw [if_pos (show 8<J.1.length by omega)];exact Ak rfl
 rw [if_neg (show ¬8<J.1.length by omega)];refine Bs (fun h=>?_) (fun h=>?_)
 ·rw [if_pos (show J.2.length≠J.1.length by omega)];exact Ak rfl
 rw [if_neg (show ¬J.2.length≠J.1.length by omega)];refine AE (S:=fun q=>(∃c,q=Sum.inl c∧(List.range J.1.length).findSome? (Ek J)=some c)∨(q=Sum.inr ()∧(List.range J.1.length).findSome? (Ek J)=none)) ?_ ?_
 ·refine B6 J.1.length (fun i s=>s=(i:Int)∧∀q,q<i→Ek J q=none) ⟨rfl,fun q al=>by omega⟩ (by omega) ?_ ?_
  ·rintro i s hi ⟨rfl,K⟩;unfold Nh;have Y:i<J.2.length:=by omega
   have U:J.1.getD i []=J.1[i]:=Er hi;have g2:J.2.getD i []=J.2[i]:=Er Y;have n1:=V.n1 _ (List.getElem_mem hi);have n2:=V.n2 _ (List.getElem_mem Y);refine Bq (by omega) ?_;refine Bp (m:=i) rfl hi ?_;refine AL (Wv (m:=(i:Int)) ag (by omega) (by omega)) ?_;by_cases O:J.1[i].length=0
   ·rw [if_pos O];exact Bq (by omega) (Ak (.inl ⟨7,rfl,D2 K (by unfold Ek;rw [U,if_pos O]) hi⟩))
   rw [if_neg O];by_cases c2:3<J.1[i].length
   ·rw [if_pos c2];exact Bq (by omega) (Ak (.inl ⟨6,rfl,D2 K (by unfold Ek;rw [U,if_neg O,if_pos c2]) hi⟩))
   rw [if_neg c2];cases he:EZ J.1.length (i:Int) true J.1[i] with
   | some c=>
    exact Bq (M8 he) (Ak (.inl ⟨c,rfl,D2 K (by unfold Ek;rw [U,if_neg O,if_neg c2,he]) hi⟩))
   | none=>
    refine A6 (by simp) (Bp (m:=i) rfl Y ?_);refine AL (Wg (m:=(i:Int)) ag (by omega) (by omega)) ?_;by_cases c3:3<J.2[i].length
    ·rw [if_pos c3];refine Bq (by omega) (Ak (.inl ⟨6,rfl,D2 K ?_ hi⟩));unfold Ek;rw [U,g2,if_neg O,if_neg c2,he];simp only;rw [if_pos c3]
    rw [if_neg c3];cases Z:EZ J.1.length (i:Int) false J.2[i] with
    | some c=>
     refine Bq (M8 Z) (Ak (.inl ⟨c,rfl,D2 K ?_ hi⟩));unfold Ek;rw [U,g2,if_neg O,if_neg c2,he];simp only;rw [if_neg c3,Z]
    | none=>
     refine A6 (by simp) (AT ((i+1:Nat):Int) (by simp) (by omega) (by omega) ?_);refine Ak ⟨rfl,fun q al=>?_⟩;by_cases e:q=i
     ·subst e;unfold Ek;rw [U,g2,if_neg O,if_neg c2,he];simp only;rw [if_neg c3,Z]
     ·exact K q (by omega)
  ·rintro s ⟨rfl,K⟩;unfold Nh;exact A6 (by omega) (Ak ⟨_,rfl,.inr ⟨rfl,F8 K⟩⟩)
 ·rintro q (⟨c,rfl,h⟩ | ⟨rfl,h⟩)
  ·exact Ak (by rw [h];rfl)
  ·exact Ak (by rw [h];rfl)
theorem QJ{n:Nat}{m:Int}{b:Bool}{l:List Int}(h:EZ n m b l=none):HG n l∧l.Pairwise (·<·)∧(b=false→m ∉ l):=by
 have K:∀i (hi:i<l.length),¬(l[i]<0∨(n:Int) - 1<l[i])∧¬(l[i]=m∧b=false)∧¬(0<i∧l[i]≤l.getD (i - 1) 0):=fun i hi=>by
  have:=List.findSome?_eq_none_iff.1 h i (List.mem_range.2 hi);unfold Fp at this;rw [Er hi] at this;split at this
  ·cases this
  ·split at this
   ·cases this
   ·split at this
    ·cases this
    ·rename_i U V Y;exact⟨U,V,Y⟩
 refine⟨fun x Z=>?_,?_,fun hb hm=>?_⟩
 ·obtain⟨i,hi,rfl⟩:=List.mem_iff_getElem.1 Z;have:=(K i hi).1;omega
 ·have step:∀i (hi:i+1<l.length),l[i]<l[i+1]:=fun i hi=>by
   have:=(K (i+1) hi).2.2;rw [show i+1 - 1=i by omega,Er (by omega)] at this;omega
  rw [List.pairwise_iff_getElem];intro i j hi ap av;have key:∀k (O:i+1+k<l.length),l[i]<l[i+1+k]:=fun k=>by
   induction k with
   | zero=>intro O;exact step i O
   | succ k ag=>intro O;have al:=ag (by omega);have am:=step (i+1+k) (by omega);exact Int.lt_trans al am
  have:=key (j - i - 1) (by omega);simpa [show i+1+(j - i - 1)=j by omega] using this
 ·obtain⟨i,hi,e⟩:=List.mem_iff_getElem.1 hm;exact(K i hi).2.1 ⟨e,hb⟩
theorem WJ{J:JW}(h:CJ J=none):VJ J.1.length J:=by
 unfold CJ at h;split at h
 ·cases h
 rename_i av;split at h
 ·cases h
 rename_i a0;split at h
 ·cases h
 rename_i a1;have O:∀i,i<J.1.length→(J.1.getD i []).length≠0∧(J.1.getD i []).length≤3∧EZ J.1.length i true (J.1.getD i [])=none∧(J.2.getD i []).length≤3∧EZ J.1.length i false (J.2.getD i [])=none:=fun i hi=>by
  have:=List.findSome?_eq_none_iff.1 h i (List.mem_range.2 hi);unfold Ek at this;split at this
  ·cases this
  ·split at this
   ·cases this
   ·split at this
    ·cases this
    ·rename_i ag a2 _ al;split at this
     ·cases this
     ·rename_i a3;exact⟨ag,by omega,al,by omega,this⟩
 refine⟨by omega,by omega,rfl,by omega,fun i l K=>?_,fun i l K=>?_⟩
 ·have hi:=(List.getElem?_eq_some_iff.1 K).1;obtain⟨am,U,V,_,_⟩:=O i hi;have e:J.1.getD i []=l:=by rw [List.getD_eq_getElem?_getD,K];rfl
  rw [e] at am U V;obtain⟨v1,v2,_⟩:=QJ V;exact⟨⟨U,v1,v2⟩,by omega⟩
 ·have hi:i<J.1.length:=by have:=(List.getElem?_eq_some_iff.1 K).1;omega
  obtain⟨_,_,_,Y,Z⟩:=O i hi;have e:J.2.getD i []=l:=by rw [List.getD_eq_getElem?_getD,K];rfl
  rw [e] at Y Z;obtain⟨v1,v2,ap⟩:=QJ Z;exact⟨⟨Y,v1,v2⟩,ap rfl⟩
end Pal
namespace Pal
theorem X0{F n a m:Nat}{J:JW}{due K:List Bool}(a3:100<F)(V:VJ n J)(a0:Ib J n a due)(hm:m<n)(ag:K.length=n):
  A1 (iter (J1 F J due (K,(m:Int))) F (K,0)) (fun r=>r.length=n∧∀x:Nat,x<n→(r[x]? =some true↔K[x]? =some true∨((AG J a).testBit m=true∧(x:Int)∈J.1.getD m []))):=by
 have a4:=V.l1;have a5:=V.le;have O:m<J.1.length:=by omega
 obtain⟨al,a6⟩:=V.nx m _ (List.getElem?_eq_getElem O);have hlen:=al.len;have a1:J.1.getD m []=J.1[m]:=Er O;have am:=a0.2 m hm;cases ap:(AG J a).testBit m with
 | false=>
  refine B6 0 (fun i st=>st=(K,0)) rfl (by omega) (fun i st hi=>by omega) ?_;rintro st rfl;unfold J1;refine Bp (m:=m) rfl O (AE (S:=fun c=>c=false) ?_ ?_)
  ·refine Bs (fun h=>?_) (fun h=>Ak rfl);exact AL (Ed (m:=m) rfl am) (Ak ap)
  ·rintro c rfl;refine A6 (by simp) (Ak ⟨_,rfl,ag,fun x U=>?_⟩);simp
 | true=>
  refine B6 J.1[m].length (fun i st=>∃nx:List Bool,st=(nx,(i:Int))∧nx.length=n∧∀x:Nat,x<n→(nx[x]? =some true↔K[x]? =some true∨(x:Int)∈J.1[m].take i)) ⟨K,rfl,ag,fun x U=>by simp⟩ (by omega) ?_ ?_
  ·rintro i st hi ⟨nx,rfl,Y,Z⟩;unfold J1;refine Bp (m:=m) rfl O (AE (S:=fun c=>c=true) ?_ ?_)
   ·refine Bq (by simp only;omega) (AL (Ed (m:=m) rfl am) ?_);exact Ak ap
   ·rintro c rfl;refine Bq rfl (Bp (m:=m) rfl O ?_);refine Bp (m:=i) rfl hi ?_;have U:=al.inr J.1[m][i] (List.getElem_mem hi);have av:J.1[m][i].toNat<nx.length:=by omega
    refine Bp (m:=J.1[m][i].toNat) (show J.1[m][i]=_ by omega) av (AT ((i+1:Nat):Int) (by simp) (by omega) (by omega) ?_);refine Ak ⟨nx.set J.1[m][i].toNat true,rfl,by simpa using Y,fun x a2=>?_⟩;rw [VY av,Z x a2,List.take_add_one,List.getElem?_eq_getElem hi];simp only [Option.toList_some,List.mem_append,List.mem_singleton];rw [or_assoc];refine or_congr Iff.rfl (or_congr Iff.rfl ⟨fun h=>by omega,fun h=>by omega⟩)
  ·rintro st ⟨nx,rfl,Y,Z⟩;unfold J1;refine Bp (m:=m) rfl O (AE (S:=fun c=>c=false) (A6 (by simp) (Ak rfl)) ?_);rintro c rfl;refine A6 (by simp) (Ak ⟨_,rfl,Y,fun x U=>?_⟩);rw [Z x U,List.take_length,a1];simp
theorem Xa{F n a:Nat}{J:JW}{due:List Bool}(ag:100<F)(Y:VJ n J)(Z:Ib J n a due):A1 (f119 F J due) (Ib J n (a+1)):=by
 have a2:=Y.le;have al:=Z.1;unfold f119;refine AL (b:=List.replicate n false) ?_ ?_
 ·unfold F9;rw [if_pos (by omega),al];rfl
 refine AE (S:=Ib J n (a+1)) ?_ (fun r am=>Ak am);refine B6 n (fun k st=>∃nx:List Bool,st=(nx,(k:Int))∧Ql J n a k nx) ⟨_,rfl,by simp,fun x U=>?_⟩ (by omega) ?_ ?_
 ·rw [List.getElem?_replicate,if_pos U];simp
 ·rintro k st ap ⟨nx,rfl,V⟩;unfold M4;refine Bq (by simp only;omega) (AE (X0 (m:=k) ag Y Z ap V.1) ?_);rintro av ⟨a0,g2⟩;refine AT ((k+1:Nat):Int) (by simp) (by omega) (by omega) (Ak ⟨av,rfl,a0,fun x U=>?_⟩);rw [g2 x U,V.2 x U];constructor
  ·rintro(⟨m,a1,K,O⟩ | ⟨K,O⟩)
   ·exact⟨m,by omega,K,O⟩
   ·exact⟨k,by omega,K,O⟩
  ·rintro⟨m,a1,K,O⟩;rcases Nat.lt_or_ge m k with h | h
   ·exact .inl ⟨m,h,K,O⟩
   ·obtain rfl:m=k:=by omega
    exact .inr ⟨K,O⟩
 ·rintro st ⟨nx,rfl,V⟩;unfold M4;exact A6 (by simp only;omega) (Ak ⟨_,rfl,V.due Y⟩)
theorem bN{n:Nat}{J:JW}(K:0<n):Ib J n 0 ((List.replicate n false).set 0 true):=by
 refine⟨by simp,fun m hm=>?_⟩;by_cases e:m=0
 ·subst e;rw [List.getElem?_set_self (by simpa using hm)];exact congrArg some (show true=(1:Nat).testBit 0 by decide)
 ·rw [List.getElem?_set_ne (by omega),List.getElem?_replicate,if_pos hm];have:(AG J 0).testBit m=false:=by
   show(1:Nat).testBit m=false;have:=Nat.testBit_two_pow_of_ne (n:=0) (m:=m) (by omega);simpa using this
  rw [this]
theorem ZU{F n a:Nat}{J:JW}(V:100<F)(K:VJ n J)(al:a<13):A1 (f82 F J (a:Int)) (Ib J n a):=by
 have am:=K.le;have U:=K.pos;have Y:=K.l1;unfold f82;refine AL (b:=List.replicate n false) ?_ ?_
 ·unfold F9;rw [if_pos (by omega),Y];rfl
 refine Bp (m:=0) rfl (by simpa using U) (AE (S:=Ib J n a) ?_ (fun r Z=>Ak Z));refine B6 a (fun i st=>∃d:List Bool,st=(d,(i:Int))∧Ib J n i d) ⟨_,rfl,bN U⟩ (by omega) ?_ ?_
 ·rintro i st hi ⟨d,rfl,O⟩;unfold Nq;refine Bq (by simp only;omega) (AE (Xa V K O) ?_);intro d2 ag;exact AT ((i+1:Nat):Int) (by simp) (by omega) (by omega) (Ak ⟨d2,rfl,ag⟩)
 ·rintro st ⟨d,rfl,O⟩;unfold Nq;exact A6 (by simp) (Ak ⟨_,rfl,O⟩)
theorem S4{F:Nat}{l:List (List Int)}(ag:100<F)(al:l.length≤20)(U:∀x∈l,x.length≤20):f77 F l=some l:=by
 refine C3 ?_;unfold f77;refine AL (b:=List.replicate l.length []) ?_ ?_
 ·unfold F9;rw [if_pos (by omega)];rfl
 refine AE (S:=fun r=>r=l) ?_ (fun r V=>Ak V);refine B6 l.length (fun i s=>s.2=(i:Int)∧s.1=l.take i++List.replicate (l.length - i) []) ⟨rfl,by simp⟩ (by omega) ?_ ?_
 ·rintro i ⟨o,c⟩ hi ⟨K,O⟩;simp only at K O;subst K;subst O;unfold NB;refine Bq (by simp only;omega) (Bp (m:=i) rfl hi ?_);refine AL (b:=l[i]) ?_ ?_
  ·unfold f108;have:CQ ([]:List Int) l[i]=some l[i]:=by unfold CQ;rw [if_pos (by have:=U _ (List.getElem_mem hi);simp;omega)];rfl
   rw [this];rfl
  have Y:(l.take i).length=i:=by rw [List.length_take];omega
  refine Bp (m:=i) rfl (by simp;omega) (AT ((i+1:Nat):Int) (by simp) (by omega) (by omega) ?_);refine Ak ⟨rfl,?_⟩;simp only;rw [show Int.toNat (i:Int)=i by omega,List.set_append,if_neg (by omega),Y,Nat.sub_self];obtain⟨k,Z⟩:∃k,l.length - i=k+1:=⟨l.length - i - 1,by omega⟩;rw [Z,List.replicate_succ,List.set_cons_zero,List.take_add_one,List.getElem?_eq_getElem hi,show l.length - (i+1)=k by omega];simp only [Option.toList_some,List.append_assoc,List.cons_append,List.nil_append]
 ·rintro⟨o,c⟩ ⟨K,O⟩;simp only at K O;subst K;subst O;unfold NB;exact A6 (by simp) (Ak ⟨_,rfl,by simp⟩)
theorem Zq{F:Nat}{J:JW}(O:100<F)(K:NL J):f26 F J=some J:=by
 unfold f26;rw [S4 O K.l1 K.n1,Option.bind_some,S4 O K.l2 K.n2];rfl
theorem aL{F:Nat}{l:List Int}(K:100<F)(O:l.length≤20):f32 F l l=some true:=by
 refine C3 ?_;unfold f32;refine AE (S:=fun q=>q=Sum.inr ()) ?_ (by rintro q rfl;exact Ak (by simp));refine B6 l.length (fun i s=>s=(i:Int)) rfl (by omega) ?_ ?_
 ·rintro i s hi rfl;unfold NQ;refine AE (S:=fun c=>c=true) (Bq (by omega) (Ak (decide_eq_true (by omega)))) ?_;rintro c rfl;refine Bq rfl (Bp (m:=i) rfl hi ?_);refine Bp (m:=i) rfl hi (A6 (by simp) ?_);exact AT ((i+1:Nat):Int) (by simp) (by omega) (by omega) (Ak rfl)
 ·rintro s rfl;unfold NQ;refine AE (S:=fun c=>c=false) (A6 (by omega) (Ak rfl)) ?_;rintro c rfl;exact A6 (by simp) (Ak ⟨_,rfl,rfl⟩)
theorem S1{F:Nat}{l:List (List Int)}(K:100<F)(U:l.length≤20)(O:∀x∈l,x.length≤20):f84 F l l=some true:=by
 refine C3 ?_;unfold f84;refine AE (S:=fun q=>q=Sum.inr ()) ?_ (by rintro q rfl;exact Ak (by simp));refine B6 l.length (fun i s=>s=(i:Int)) rfl (by omega) ?_ ?_
 ·rintro i s hi rfl;unfold Nc;refine AE (S:=fun c=>c=true) (Bq (by omega) (Ak (decide_eq_true (by omega)))) ?_;rintro c rfl;refine Bq rfl (Bp (m:=i) rfl hi ?_);refine Bp (m:=i) rfl hi (AL (aL K (O _ (List.getElem_mem hi))) ?_);refine A6 (by simp) (AT ((i+1:Nat):Int) (by simp) (by omega) (by omega) ?_);exact Ak rfl
 ·rintro s rfl;unfold Nc;refine AE (S:=fun c=>c=false) (A6 (by omega) (Ak rfl)) ?_;rintro c rfl;exact A6 (by simp) (Ak ⟨_,rfl,rfl⟩)
theorem Zk{F:Nat}{J:JW}(O:100<F)(K:NL J):f33 F J J=some true:=by
 refine C3 ?_;unfold f33;refine AL (S1 O K.l1 K.n1) (AE (S:=fun c=>c=true) (Bq rfl (AL (S1 O K.l2 K.n2) (Ak rfl))) ?_);rintro c rfl;exact Ak rfl
theorem VJ.nl{n:Nat}{J:JW}(K:VJ n J):NL J:=by
 have U:=K.l1;have V:=K.l2;have Y:=K.le;refine⟨by omega,by omega,fun l O=>?_,fun l O=>?_⟩
 ·obtain⟨i,hi,rfl⟩:=List.mem_iff_getElem.1 O;have:=(K.nx i _ (List.getElem?_eq_getElem hi)).1.len;omega
 ·obtain⟨i,hi,rfl⟩:=List.mem_iff_getElem.1 O;have:=(K.fl i _ (List.getElem?_eq_getElem hi)).1.len;omega
theorem Td{F:Nat}{l:List (List Int)}(Z:100<F):A1 (f76 F l) (fun r=>r=false→l.length≤20∧∀x∈l,x.length≤20):=by
 unfold f76;refine AE (S:=fun q=>q=Sum.inl true∨(q=Sum.inr ()∧∀x∈l.take 20,x.length≤20)) ?_ ?_
 ·refine B6 (min l.length 20) (fun i s=>s=(i:Int)∧∀x∈l.take i,x.length≤20) ⟨rfl,by simp⟩ (by omega) ?_ ?_
  ·rintro i s hi ⟨rfl,O⟩;have U:i<l.length:=by omega
   unfold NF;refine AE (S:=fun c=>c=true) (Bq (by omega) (Ak (decide_eq_true (by omega)))) ?_;rintro c rfl;refine Bq rfl (Bp (m:=i) rfl U ?_);refine Bs (fun h=>Ak (.inl rfl)) (fun h=>?_);refine AT ((i+1:Nat):Int) (by simp) (by omega) (by omega) (Ak ⟨rfl,fun x K=>?_⟩);rw [List.take_add_one,List.getElem?_eq_getElem U] at K;simp only [Option.toList_some,List.mem_append,List.mem_singleton] at K;rcases K with K | rfl
   ·exact O x K
   ·omega
  ·rintro s ⟨rfl,O⟩;unfold NF;refine AE (S:=fun c=>c=false) (Bs (fun h=>Ak (decide_eq_false (by omega))) (fun _=>Ak rfl)) ?_;rintro c rfl;refine A6 (by simp) (Ak ⟨_,rfl,.inr ⟨rfl,fun x K=>O x ?_⟩⟩);rcases Nat.lt_or_ge l.length 20 with h | h
   ·rw [Nat.min_eq_left (by omega),List.take_length];exact List.mem_of_mem_take K
   ·rw [Nat.min_eq_right h];exact K
 ·rintro q (rfl | ⟨rfl,h⟩)
  ·exact Ak fun h=>by cases h
  ·refine Ak fun Y=>?_;have:=of_decide_eq_false Y;have V:l.length≤20:=by omega
   rw [List.take_of_length_le V] at h;exact⟨V,h⟩
theorem ZE{F:Nat}{J:JW}(O:100<F):A1 (f21 F J) (fun r=>r=false→NL J):=by
 unfold f21;refine AE (Td O) ?_;intro r U;refine AE (S:=fun c=>c=false→NL J) ?_ (fun c V=>Ak V);refine Bs (fun h=>Ak fun K=>(by cases K)) (fun h=>?_);obtain⟨Y,g2⟩:=U (by simpa using h);refine AE (Td O) ?_;intro q Z;refine Ak fun K=>?_;obtain⟨ag,al⟩:=Z K;exact⟨Y,ag,g2,al⟩
theorem Z3{F k:Nat}{b:Ft}{J:JW}(O:100<F)(Z:NL J)(hb:BG k b)(U:k<100):A1 (f24 F J b) (fun r=>(∃n K,VJ n K∧r.1= [J,K,K])∧BG (k+301) r.2):=by
 unfold f24;refine AE (az (mx:=7) O hb U (by omega) (by omega)) ?_;rintro⟨K,ag⟩ ⟨⟨n,_,V⟩,Y⟩;exact Ak ⟨⟨n,K,V,rfl⟩,Y⟩
end Pal
namespace Pal
theorem RZ(F:Nat)(e:Option (Int×Int)):LB F e=some ((e.map (·.1)).getD 0):=by
 cases e with
 | none=>
  have:=QF F;unfold Ly at this;exact this
 | some q=>rfl
theorem Um{s n:Nat}(h:s<2 ^ n)(d:Nat):Cq s (n+d)=Cq s n:=by
 induction d with
 | zero=>rfl
 | succ d K=>
  rw [← Nat.add_assoc,OK,if_neg,K];have:s<2 ^ (n+d):=Nat.lt_of_lt_of_le h (Nat.pow_le_pow_right (by omega) (by omega));rw [Nat.testBit_lt_two_pow this];decide
def Fu(n:Nat)(lk:List (Int×Int))(i:Nat):Option Int:=
 if(lk.getD i (0,0)).1<0∨6<(lk.getD i (0,0)).1 then some 1 else if 0<i∧(lk.getD i (0,0)).1<(lk.getD (i - 1) (0,0)).1 then some 5 else if(lk.getD i (0,0)).2<0∨(n:Int) - 1<(lk.getD i (0,0)).2 then some 3 else none
def H8(n:Nat)(lk:List (Int×Int)):Option Int:=if 4<lk.length then some 6 else(List.range lk.length).findSome? (Fu n lk)
def CL(J:JW)(lk:List (Int×Int)):Int:=match CJ J with | some c=>c | none=>(H8 J.1.length lk).getD 0
theorem WY{F:Nat}{J:JW}{lk:List (Int×Int)}(am:100<F)(ap:J.1.length<100):A1 (f116 F J lk) (fun e=>e.map (·.1)=H8 J.1.length lk):=by
 unfold f116 H8;refine Bs (fun h=>?_) (fun h=>?_)
 ·rw [if_pos (by omega)];exact Ak rfl
 rw [if_neg (by omega)];refine AE (S:=fun q=>(∃c,q=Sum.inl (some c)∧(List.range lk.length).findSome? (Fu J.1.length lk)=some c.1)∨(q=Sum.inr ()∧(List.range lk.length).findSome? (Fu J.1.length lk)=none)) ?_ ?_
 ·refine B6 lk.length (fun i s=>s=(i:Int)∧∀q,q<i→Fu J.1.length lk q=none) ⟨rfl,fun q al=>by omega⟩ (by omega) ?_ ?_
  ·rintro i s hi ⟨rfl,K⟩;unfold J4;have hg:lk.getD i (0,0)=lk[i]:=Er hi;refine Bq (by omega) (Bp (m:=i) rfl hi ?_);refine AL (I5 F _ _ _) (Bs (fun h=>?_) (fun h=>?_))
   ·have O:=of_decide_eq_true h;exact Ak (.inl ⟨(1,(i:Int)),rfl,D2 K (by unfold Fu;rw [hg,if_pos O]) hi⟩)
   have O:¬(lk[i].1<0∨6<lk[i].1):=fun x=>h (decide_eq_true x);refine AE (S:=fun c=>c=decide (0<i∧lk[i].1<(lk.getD (i - 1) (0,0)).1)) ?_ ?_
   ·refine Bs (fun U=>?_) (fun U=>?_)
    ·have ag:i - 1<lk.length:=by omega
     refine AT ((i - 1:Nat):Int) (by omega) (by omega) (by omega) (Bp (m:=i - 1) rfl ag ?_);refine Ak ?_;rw [Er ag];exact decide_eq_decide.2 ⟨fun x=>⟨by omega,x⟩,fun x=>x.2⟩
    ·exact Ak (decide_eq_false (by omega)).symm
   ·rintro c rfl;refine Bs (fun U=>?_) (fun U=>?_)
    ·have V:=of_decide_eq_true U;exact Ak (.inl ⟨(5,(i:Int)),rfl,D2 K (by unfold Fu;rw [hg,if_neg O,if_pos V]) hi⟩)
    have V:¬(0<i∧lk[i].1<(lk.getD (i - 1) (0,0)).1):=fun x=>U (decide_eq_true x);refine AT ((J.1.length:Int) - 1) rfl (by omega) (by omega) ?_;refine AL (I5 F _ _ _) ?_;refine Bs (fun Y=>?_) (fun Y=>?_)
    ·have Z:=of_decide_eq_true Y;exact Ak (.inl ⟨(3,(i:Int)),rfl,D2 K (by unfold Fu;rw [hg,if_neg O,if_neg V,if_pos Z]) hi⟩)
    have Z:¬(lk[i].2<0∨(J.1.length:Int) - 1<lk[i].2):=fun x=>Y (decide_eq_true x);refine AT ((i+1:Nat):Int) (by simp) (by omega) (by omega) ?_;refine Ak ⟨rfl,fun q al=>?_⟩;by_cases e:q=i
    ·subst e;unfold Fu;rw [hg,if_neg O,if_neg V,if_neg Z]
    ·exact K q (by omega)
  ·rintro s ⟨rfl,K⟩;unfold J4;exact A6 (by omega) (Ak ⟨_,rfl,.inr ⟨rfl,F8 K⟩⟩)
 ·rintro q (⟨c,rfl,h⟩ | ⟨rfl,h⟩)
  ·exact Ak h.symm
  ·exact Ak h.symm
theorem RB{F:Nat}{J:JW}{lk:List (Int×Int)}(K:100<F)(O:NL J):HA F J lk=some (CL J lk):=by
 have Y:=O.l1;refine C3 ?_;unfold HA CL;refine AE (WS K O) ?_;intro e he;rw [← he];cases e with
 | some q=>
  exact Bq rfl (AL (RZ F _) (Ak rfl))
 | none=>
  refine A6 (by simp) (AE (WY K (by omega)) ?_);intro U V;refine AL (RZ F _) (Ak ?_);show(U.map (·.1)).getD 0=(H8 J.1.length lk).getD 0;rw [V]
theorem YQ{F:Nat}{J:JW}{lk:List (Int×Int)}(am:100<F)(ag:NL J):f70 F J lk=some (CL J lk):=by
 have av:=ag.l1;refine C3 ?_;unfold f70 CL;refine AL (Ya am ag) ?_;cases h:CJ J with
 | some c=>exact Bq (TK h) (Ak rfl)
 | none=>
  refine A6 (by simp) ?_;unfold H8;refine Bs (fun h=>?_) (fun h=>?_)
  ·simp only;rw [if_pos (by omega)];exact Ak rfl
  simp only;rw [if_neg (show ¬4<lk.length by omega)];refine AE (S:=fun q=>(∃c,q=Sum.inl c∧(List.range lk.length).findSome? (Fu J.1.length lk)=some c)∨(q=Sum.inr ()∧(List.range lk.length).findSome? (Fu J.1.length lk)=none)) ?_ ?_
  ·refine B6 lk.length (fun i s=>s=(i:Int)∧∀q,q<i→Fu J.1.length lk q=none) ⟨rfl,fun q ap=>by omega⟩ (by omega) ?_ ?_
   ·rintro i s hi ⟨rfl,K⟩;unfold Ny;have hg:lk.getD i (0,0)=lk[i]:=Er hi;refine Bq (by omega) (Bp (m:=i) rfl hi ?_);refine AL (MZ F _ _ _) (Bs (fun h=>?_) (fun h=>?_))
    ·have O:lk[i].1<0∨6<lk[i].1:=by simp at h;omega
     exact Ak (.inl ⟨1,rfl,D2 K (by unfold Fu;rw [hg,if_pos O]) hi⟩)
    have O:¬(lk[i].1<0∨6<lk[i].1):=by simp at h;omega
    refine AE (S:=fun c=>c=decide (0<i∧lk[i].1<(lk.getD (i - 1) (0,0)).1)) ?_ ?_
    ·refine Bs (fun U=>?_) (fun U=>?_)
     ·have al:i - 1<lk.length:=by omega
      refine Bp (m:=i) rfl hi (AT ((i - 1:Nat):Int) (by omega) (by omega) (by omega) ?_);refine Bp (m:=i - 1) rfl al (Ak ?_);rw [Er al];exact decide_eq_decide.2 ⟨fun x=>⟨by omega,x⟩,fun x=>x.2⟩
     ·exact Ak (decide_eq_false (by omega)).symm
    ·rintro c rfl;refine Bs (fun U=>?_) (fun U=>?_)
     ·have V:=of_decide_eq_true U;exact Ak (.inl ⟨5,rfl,D2 K (by unfold Fu;rw [hg,if_neg O,if_pos V]) hi⟩)
     have V:¬(0<i∧lk[i].1<(lk.getD (i - 1) (0,0)).1):=fun x=>U (decide_eq_true x);refine Bp (m:=i) rfl hi ?_;refine AT ((J.1.length:Int) - 1) rfl (by omega) (by omega) ?_;refine AL (MZ F _ _ _) ?_;refine Bs (fun Y=>?_) (fun Y=>?_)
     ·have Z:lk[i].2<0∨(J.1.length:Int) - 1<lk[i].2:=by simp at Y;omega
      exact Ak (.inl ⟨3,rfl,D2 K (by unfold Fu;rw [hg,if_neg O,if_neg V,if_pos Z]) hi⟩)
     have Z:¬(lk[i].2<0∨(J.1.length:Int) - 1<lk[i].2):=by simp at Y;omega
     refine AT ((i+1:Nat):Int) (by simp) (by omega) (by omega) (Ak ⟨rfl,fun q ap=>?_⟩);by_cases e:q=i
     ·subst e;unfold Fu;rw [hg,if_neg O,if_neg V,if_neg Z]
     ·exact K q (by omega)
   ·rintro s ⟨rfl,K⟩;unfold Ny;exact A6 (by omega) (Ak ⟨_,rfl,.inr ⟨rfl,F8 K⟩⟩)
  ·rintro q (⟨c,rfl,h⟩ | ⟨rfl,h⟩)
   ·rw [h];exact Ak rfl
   ·rw [h];exact Ak rfl
theorem ay{F:Nat}{lk:List (Int×Int)}(K:100<F)(O:lk.length≤20):f34 F lk lk=some true:=by
 refine C3 ?_;unfold f34;refine AE (S:=fun q=>q=Sum.inr ()) ?_ (by rintro q rfl;exact Ak (by simp));refine B6 lk.length (fun i s=>s=(i:Int)) rfl (by omega) ?_ ?_
 ·rintro i s hi rfl;unfold NI;refine AE (S:=fun c=>c=true) (Bq (by omega) (Ak (decide_eq_true (by omega)))) ?_;rintro c rfl;refine Bq rfl (Bp (m:=i) rfl hi ?_);refine Bp (m:=i) rfl hi (A6 (by simp) ?_);exact AT ((i+1:Nat):Int) (by simp) (by omega) (by omega) (Ak rfl)
 ·rintro s rfl;unfold NI;refine AE (S:=fun c=>c=false) (A6 (by omega) (Ak rfl)) ?_;rintro c rfl;exact A6 (by simp) (Ak ⟨_,rfl,rfl⟩)
theorem aD{F:Nat}{lk:List (Int×Int)}(K:lk.length<1000):f27 F lk=some lk:=by
 unfold f27 CQ;rw [if_pos (by simp;omega)]
 rfl
end Pal
namespace Pal
open Go Go.Conc
theorem Pr{P:Program}{J:Judge P}{Q:Gs_}{b:Frame}{n:Nat}{ds:Ld_}{ops:Ao_}{k:Li_}{cs:Lf_}{m fuel:Nat}{D:Nat→Bool}{listed:Array Bool}{L L':Env}{s:St}(k':AY J Q b n ds ops k cs m D fuel listed L' s)(h:G8 L L'=Ha L'):AY J Q b n ds ops k cs m D fuel listed L s:=CH (No h) k'
def HE{α:Type}(p:Rp α):Rp (List α):=⟨1,fun E ws xs=>(xs= []∧ws= [.slice none 0 0])∨(xs≠ []∧(rL p).r E ws xs),
 fun hle h=>h.imp id fun h=>⟨h.1,(rL p).Ai hle h.2⟩,fun h=>by
  rcases h with⟨_,rfl⟩ | ⟨_,h⟩
  ·rfl
  ·exact(rL p).len h,fun h w hw=>by
  rcases h with⟨_,rfl⟩ | ⟨_,h⟩
  ·simp at hw;subst hw;rfl
  ·exact(rL p).one h w hw⟩
theorem SZ{α:Type}{p:Rp α}{E:LH}{ws:Lv_}{xs:List α}(h:(HE p).r E ws xs):(rL p).r E ws xs:=by
 rcases h with⟨rfl,rfl⟩ | ⟨_,h⟩
 ·exact⟨none,0,rfl,Al.nil⟩
 ·exact h
theorem Al.bS{α:Type}{p:Rp α}{E:LH}{a:Option Addr}{c:Nat}{xs:List (List α)}(h:Al (HE p) E a c xs):Al (rL p) E a c xs:=by
 obtain⟨K,h⟩:=h;refine⟨K,h.imp id ?_⟩;rintro⟨bk,off,O,U⟩;refine⟨bk,off,O,fun i x V=>?_⟩;obtain⟨ws,Y,Z⟩:=U i x V;exact⟨ws,SZ Y,Z⟩
def LK{α:Type}(xs:List α):Option Unit:=if xs= [] then some () else none
def Oq{α:Type}(xs:List α):Option Unit:=if xs= [] then none else some ()
theorem VA{α:Type}{xs:List α}{u:Unit}(h:LK xs=some u):xs= []:=by
 unfold LK at h;split at h
 ·assumption
 ·cases h
theorem W3{α:Type}{xs:List α}{u:Unit}(h:Oq xs=some u):xs≠ []:=by
 unfold Oq at h;split at h
 ·cases h
 ·assumption
instance {α:Type} [DecidableEq α] (xs:List α):Decidable (xs= []):=inferInstance
theorem Vd{f:AD}{y:Nat}{v w:Value}(h:y<f.size):A2 (A2 f y [v]) (y*1) [w]=A2 f y [w]:=by
 simp [A2]
theorem Yf{f:AD}{y:Nat}{v:Value}(h:y<f.size):(A2 f y [v])[y*1]? =some v:=by
 simp [A2,h]
theorem Xj{f:AD}{y z:Nat}{v:Value}(h:z≠y):(A2 f y [v])[z]? =f[z]? :=by
 simp only [A2];exact Array.getElem?_setIfInBounds_ne (by omega)
theorem OL.hole{α:Type}{e:TypeId}{pp:Rp α}{E:LH}{a:Option Addr}{c:Nat}{g:Seg}{xs:List (List α)}{m:Int}{x:List α}{u:Unit}(h:OL e (HE pp) E a c g xs)(hm:ix xs m=some x)(Y:LK x=some u):
  ∃bk f,a=some ⟨bk,0,none⟩∧g= [(bk,.cells (A2 f m.toNat [.slice none 0 0]) e (0,0))]∧m.toNat<f.size∧OL e (HE pp) E (some ⟨bk,0,none⟩) c [(bk,.cells f e (0,0))] xs∧
   ∀E' x' v,Le E E'→x'≠ []→(rL pp).r E' [v] x'→OL e (HE pp) E' (some ⟨bk,0,none⟩) c [(bk,.cells (A2 f m.toNat [v]) e (0,0))] (xs.set m.toNat x'):=by
 have Z:=VA Y;subst Z;obtain⟨K,rfl,ag⟩:=GG hm;obtain⟨bk,f,ws,rfl,rfl,al,O,am,_⟩:=OL.get h ag;have U:(HE pp).n=1:=rfl;rw [U] at O am;have ap:ws= [.slice none 0 0]:=by
  rcases al with⟨_,h⟩ | ⟨h,_⟩
  ·exact h
  ·exact absurd rfl h
 subst ap;have av:f[K]? =some (.slice none 0 0):=by have:=O 0 _ rfl;simpa using this
 have a0:A2 f K [.slice none 0 0]=f:=by
  simp only [A2];apply Array.ext_getElem?;intro j;by_cases V:K=j
  ·subst V;rw [Array.getElem?_setIfInBounds_self_of_lt (by omega),av]
  ·rw [Array.getElem?_setIfInBounds_ne V]
 refine⟨bk,f,rfl,?_,by simp;omega,h,fun E' x' v hle a1 a2=>?_⟩
 ·rw [show((K:Int)).toNat=K by omega,a0]
 ·obtain⟨a4,_,_,_,a3⟩:=OL.again (h.Ai hle) hm (o:=K*1) (by simp [U]);have:=a3 x' [v] (.inr ⟨a1,a2⟩);simpa using this
theorem OL.beside{α:Type}{e:TypeId}{pp:Rp α}{E:LH}{bk c:Nat}{f:AD}{xs:List (List α)}{m z:Int}{x:List α}(h:OL e (HE pp) E (some ⟨bk,0,none⟩) c [(bk,.cells f e (0,0))] xs){Y:List α}(hm:ix xs m=some Y)(K:As (m+1)=some z)(Z:ix xs z=some x):
  ∃O U,Al pp E O U x∧∀(v:Value) (q:Nat) w,[Value.slice O x.length U][q]? =some w→(A2 f m.toNat [v])[z.toNat*1+q]? =some w:=by
 obtain⟨ws,ag,al,_,_⟩:=OL.again h Z rfl;obtain⟨O,U,rfl,am⟩:=SZ ag;refine⟨O,U,am,fun v q w V=>?_⟩;obtain⟨ap,rfl,_⟩:=GG hm;have av:z=(ap:Int)+1:=by
  unfold As at K;split at K
  ·exact(Option.some.inj K).symm
  ·cases K
 cases q with
 | zero=>
  rw [Xj (by omega)];exact al 0 w V
 | succ q=>simp at V
section
variable {P:Program}{J:Judge P}{Q:Gs_}{b:Frame}{n:Nat}{L L':Env}{ds:Ld_}{k:Li_}{cs:Lf_}{s:St}{ops:Ao_}{E H:LH}{S:List Seg}{i:Nat}{rest:List Nat}
variable {d:Option Tmp}{x y:Operand}{t u ty e:TypeId}{p:String}{af:Ae_}{g:On_}{v w:Value}
theorem ae{bk o:Nat}{f:AD}(j:Nat)(O:o<f.size)(U:Ax E H S)(V:BD P t=some 1)(Y:EH b n L ops i=some ⟨d,.store t x y,ty,p,af,g⟩)
  (Z:ev L x=some (.pointer (some ⟨bk,o*1,none⟩))) (ag:ev L y=some v) (al:S[j]? =some [(bk,.cells (A2 f o [w]) e (0,0))]) (K:v.cells= #[v]) (am:CY v=true)
  (h:Ax E H (S.set j [(bk,.cells (A2 f o [v]) e (0,0))])→JL J Q b n (AI L d undef) ds (.inRegion ops rest::k) cs (An E H (S.set j [(bk,.cells (A2 f o [v]) e (0,0))]))):
  JL J Q b n L ds (.inRegion ops (i::rest)::k) cs (An E H S):=by
 have ap:A2 (A2 f o [w]) (o*1) v.cells.toList=A2 f o [v]:=by rw [K];exact Vd O
 refine PL j U (by rw [K];exact V) Y Z ag al (by rw [ap];exact h) (by rw [K,Mt];simp;omega) (by rw [K];simpa using am)
end
section
variable {P:Program}{J:Judge P}{Q:Gs_}{b:Frame}{n:Nat}{ds:Ld_}{ops:Ao_}{k:Li_}{cs:Lf_}{m fuel:Nat}{listed:Array Bool}{L:Env}{E H:LH}{S:List Seg}
variable {d:Option Tmp}{x y:Operand}{t ty e:TypeId}{p:String}{af:Ae_}{g:On_}{v:Value}{i:Nat}
theorem Take.Tz{α:Type}{pp:Rp α}(O:Ax E H S)(U:ops[i]? =some ⟨d,.buildSlice t 0 #[],ty,p,af,g⟩)(hw:Bf L ops ⟨d,.buildSlice t 0 #[],ty,p,af,g⟩=some true)(V:BE n d=true)
  (ht:P.underlying t=some (.slice e)) (Y:BD P e=some pp.n)
  (h:∀r seg,OL e pp E (some ⟨r,0,none⟩) 0 seg ([]:List α)→Ax E H (S++ [seg])→AY J Q b n ds ops k cs m Ee fuel (Bi listed i) (AI L d (.slice (some ⟨r,0,none⟩) 0 0)) (An E H (S++ [seg]))):
  Take J Q b n ds ops k cs m Ee fuel listed L (An E H S) i:=
 Take.Kr U (by simp [Du,V]) hw fun ρ ag=>by
  rw [OU]
  refine AH _ _ ?_
  unfold Instr.buildSlice
  refine AH _ _ (Dm ht ?_)
  refine AH _ _ (EX Y ?_)
  rw [if_neg (by omega),if_pos (by omega)]
  refine AH (x:=pure #[]) _ ?_
  simp only [lp,pure,List.map_toArray,List.map_nil,Instr.fill]
  refine AH _ _ (G1 O fun r K=>?_)
  rw [(Eo K).1]
  exact h r _ ⟨[],.inr ⟨r,_,rfl,rfl,by simp,Nat.le_refl _,by simp⟩,rfl,fun i x ws Z=>by simp at Z⟩ (Eo K).2
theorem Take.PR{α:Type}{pp:Rp α}{t1:TypeId}{U c cx:Nat}{a ax:Option Addr}{seg:Seg}{xs ys V:List α}{ats:Array TypeId}{z:Value}(j:Nat)(Z:Ax E H S)(ag:CQ xs ys=some V)
  (al:ops[i]? =some ⟨d,.call ⟨.builtin .append,#[x,y],ats⟩,ty,p,af,g⟩) (hw:Bf L ops ⟨d,.call ⟨.builtin .append,#[x,y],ats⟩,ty,p,af,g⟩=some true) (am:BE n d=true)
  (ap:ev L x=some (.slice a xs.length c)) (av:ev L y=some (.slice ax ys.length cx)) (a0:ats[0]? =some t) (a1:ats[1]? =some t1) (ht:P.underlying t=some (.slice e)) (a2:P.underlying t1=some (.slice e)) (a3:BD P e=some pp.n) (hb:EE P e=some U) (a4:zeroOf P e=some z) (a5:z.cells.size=pp.n)
  (a6:0<U) (a7:U≤64) (hg:OL e pp E a c seg xs) (a8:Al pp E ax cx ys) (a9:S[j]? =some seg)
  (h:∀K O g seg',OL e pp E K O seg' V→Ax E H (S.set j (g++seg'))→AY J Q b n ds ops k cs m Ee fuel (Bi listed i) (AI L d (.slice K V.length O)) (An E H (S.set j (g++seg')))):
  Take J Q b n ds ops k cs m Ee fuel listed L (An E H S) i:=
 Take.Kr al (by simp [Du,am]) hw fun ρ Y=>SC j ag (Y _ _ ap) (Y _ _ av) a0 a1 ht a2 a3 hb a4 a5 a6 a7 hg (by
  obtain⟨bb,bd,be,bi,_⟩:=a8.O8 (H:=H) (B:=S.flatten)
  exact⟨bb,bi,bd,be⟩) Z a9 fun K O bo seg' bv bw=>h K O bo seg' bv bw
end
theorem Al.cut{α:Type}{pp:Rp α}{E:LH}{a:Option Addr}{c:Nat}{xs ys:List α}{lo hi:Int}(V:Al pp E a c xs)(hC:IM xs lo hi=some ys):
  ∃Y Z,Al pp E Y Z ys∧∀{P:Program} {ρ:Operand→Value} {s:St} {d:Option Tmp} {x:Operand} {t ty e:TypeId} {p:String} {af:Ae_} {g:On_} {olo ohi:Option Operand},P.underlying t=some (.slice e)→BD P e=some pp.n→ρ x= .slice a xs.length c→
   (match ohi with | some w=>ρ w=iV hi | none=>hi=xs.length)→(match olo with | some w=>ρ w=iV lo | none=>lo=0)→Yl P ⟨d,.slice t x olo ohi none,ty,p,af,g⟩ ρ s (.slice Y ys.length Z):=by
 unfold IM at hC;split at hC
 rotate_left
 ·cases hC
 rename_i hb;obtain⟨a4,a5,ap⟩:=hb;cases hC;obtain⟨lo,rfl⟩:∃l:Nat,lo=l:=⟨lo.toNat,by omega⟩;obtain⟨hi,rfl⟩:∃l:Nat,hi=l:=⟨hi.toNat,by omega⟩;simp only [Int.toNat_natCast] at*;have a6:=V.1;have hlen:((xs.take hi).drop lo).length=hi - lo:=by simp;omega
 have ag:∀ad:Addr,a=some ad→ad.spot=none∨c=0:=fun ad K=>by
  rcases V.2 with⟨_,h⟩ | ⟨bk,off,h,_⟩
  ·exact h ad K
  ·rw [h] at K;cases K;exact .inl rfl
 refine⟨if c=lo then a else a.map (·.add (lo*pp.n)),c - lo,⟨by rw [hlen];omega,?_⟩,?_⟩
 ·by_cases av:hi - lo=0
  ·left;refine⟨List.eq_nil_of_length_eq_zero (by rw [hlen];exact av),fun ad K=>?_⟩;split at K
   ·exact(ag ad K).imp id fun h=>by omega
   ·cases a with
    | none=>cases K
    | some a0=>
     simp only [Option.map_some,Option.some.injEq] at K;subst K;exact .inl (by rw [Dp ((ag a0 rfl).resolve_right (by omega))])
  ·right;rcases V.2 with⟨h,_⟩ | ⟨bk,off,rfl,O⟩
   ·subst h;simp at ap;omega
   ·refine⟨bk,off+lo*pp.n,?_,fun q z U=>?_⟩
    ·rw [if_neg (by omega),Option.map_some,Dp rfl]
    ·rw [List.getElem?_drop,List.getElem?_take] at U;split at U
     ·obtain⟨ws,a1,al⟩:=O _ z U;refine⟨ws,a1,?_⟩;rw [Nat.add_mul] at al;rw [Nat.add_assoc];exact al
     ·cases U
 ·intro P ρ s d x t ty e p af g olo ohi ht a2 a3 O am;rw [hlen];refine Yl.slice (mx:=c) (hi:=hi) (lo:=lo) ht a2 a3 rfl ?_ ?_ (Nat.le_refl _) (by omega) (by omega)
  ·cases ohi with
   | none=>exact⟨by simp only at O;omega,rfl⟩
   | some w=>exact O
  ·cases olo with
   | none=>simp only at am;show lo=0;omega
   | some w=>exact am
end Pal
namespace Pal
open Go Go.Conc Go.Proofs
open Go.Proofs.Tryz
variable {J:Judge Tryz.prog}{E:LH}
def Ls(fuel:Nat)(p0:A9)(U:(List (List (List Int)))×Int)(V:(List (List Int))×Int)(Y:Int)(O:(List Int)×Int)(K:(List Int)×Int):Option (Bd ((List Int)×Int) ((List Int))):= (ix p0.1 V.2).bind fun Z=> if K.2<(Z.length:Int) then((ix K.1 O.2).bind fun ag=> (As (U.2+1)).bind fun al=> (ix U.1 al).bind fun am=> (ix p0.1 V.2).bind fun ap=> (ix ap K.2).bind fun av=> (ix am av).bind fun a0=> (As (O.2 - Y)).bind fun a1=> (ix a0 a1).bind fun a2=> (As (ag+a2)).bind fun a3=> (ix K.1 O.2).bind fun a5=> (As (K.2+1)).bind fun a4=> some (.more ((K.1.set (Int.toNat O.2) a3),a4))) else(some (.done K.1))
def J8(fuel:Nat)(p0:A9)(p1:AJ)(V:Int)(O:(List (List (List Int)))×Int)(Y:(List (List Int))×Int)(U:Int)(K:(List Int)×Int):Option (Bd ((List Int)×Int) ((List Int))):= if K.2≤(p1.length:Int) then(Option.bind (if O.2=V then(Option.bind (if K.2=U then((ix K.1 K.2).bind fun ap=> some (K.1.set (Int.toNat K.2) 1)) else(some K.1)) fun Z=> some Z) else(Option.bind (iter (Ls fuel p0 O Y U K) fuel (K.1,0)) fun ag=> some ag)) fun al=> (As (K.2+1)).bind fun am=> some (.more (al,am))) else(some (.done K.1))
def NR(fuel:Nat)(p0:A9)(p1:AJ)(p2:Int)(V:Int)(O:(List (List (List Int)))×Int)(K:(List (List Int))×Int):Option (Bd ((List (List Int))×Int) ((List (List Int)))):= if K.2<(p0.1.length:Int) then((As ((p1.length:Int)+1)).bind fun Y=> (F9 Y (0:Int)).bind fun Z=> (f118 fuel p0 p1 p2 O.2 K.2).bind fun U=> Option.bind (iter (J8 fuel p0 p1 V O K U) fuel (Z,U)) fun ag=> (room K.1 ag).bind fun al=> (As (K.2+1)).bind fun am=> some (.more (al,am))) else(some (.done K.1))
def Py(fuel:Nat)(p0:A9)(p1:AJ)(p2:Int)(U:Int)(K:(List (List (List Int)))×Int):Option (Bd ((List (List (List Int)))×Int) ((List (List (List Int))))):= if 0≤K.2 then((ix K.1 K.2).bind fun V=> (LK V).bind fun Z=> Option.bind (iter (NR fuel p0 p1 p2 U K) fuel ([],0)) fun O=> (Oq O).bind fun ag=> (As (K.2 - 1)).bind fun Y=> some (.more ((K.1.set (Int.toNat K.2) O),Y))) else(some (.done K.1))
def f80(fuel:Nat)(p0:A9)(p1:AJ)(p2:Int):Option ((List (List (List Int)))):= (f117 fuel p1).bind fun K=> (As (K+1)).bind fun O=> (F9 O ([]:List (List Int))).bind fun U=> Option.bind (iter (Py fuel p0 p1 p2 K) fuel (U,K)) fun V=> some V
theorem bJ{b2:Ap}{c2:Nat}{cW:Ap}{cX:Nat}{Z:Ap}{ag:Nat}{p0:A9}{p1:AJ}{p2:Int}(cw:Al (rL rI) E b2 c2 p0.1)(dy:Al (rL rI) E cW cX p0.2)(cY:Al Bg E Z ag p1){fuel:Nat}{r:(List (List (List Int)))}(cZ:f80 fuel p0 p1 p2=some r):AN J 80 [.agg #[sV b2 p0.1 c2,sV cW p0.2 cX],sV Z p1 ag,iV p2] E [] (fun w E' B'=>∃(c0:Ap) (c1:Nat),w= sV c0 r c1∧B'= []∧Al (rL (rL rI)) E' c0 c1 r):=by
 refine A3 func80 fun Q g3 cs H dz dA=>?_;unfold f80 at cZ;refine zg 2 rfl (Ca dz fun al g4 bv b3 dB=>?_);obtain⟨am,dC,dD⟩:=bs cZ;refine zg 5 rfl (BH (Y9 (cY.Ai bv) dC) rfl rfl (AV func117 rfl) dB fun cy a4 dE=>?_);obtain⟨g5,dF,dG⟩:=bs dD;refine zg 5 rfl (Ba dF rfl rfl rfl ?_);obtain⟨dH,dI,dJ⟩:=bs dG;refine JS.make (pp:=(HE (rL rI))) dI rfl rfl rfl rfl rfl underlying105 BR (Cy type22) (by decide) (DG type22) (by decide) (.inl ⟨rfl,rfl⟩) dE fun dK dL dM dN=>?_;obtain⟨c3,dO,dP⟩:=bs dJ;refine zg 8 rfl (Bt (fun L s=>∃(cz:LH) (b4:Ap) (b5:Nat) (cA:Seg),Jn cy H cz [cA] [(8,sV b4 c3 b5)] L s (OL 22 (HE (rL rI)) cz b4 b5 cA c3)) ?_ ?_)
 ·rintro _ _ ⟨cz,b4,b5,cA,rfl,rfl,dQ,dR,dS⟩;refine zg 5 rfl (BU 0 dS dR rfl fun g6 dT cB dU=>?_);replace cB:=Al.bS cB;obtain rfl:=oi dP;exact AB func80 rfl rfl (dA (((bv.Ac a4).Ac dQ).Ac dT) rfl ⟨b4,b5,rfl,rfl,cB⟩ dU)
 ·intro dV;refine JL.block (CV dO (fun L s K=>∃(bw:LH) (b6:Ap) (Y:Nat) (b7:Seg),Jn cy H bw [b7] [(1,sV Z p1 ag),(2,iV p2),(3,pV al 0),(7,iV am),(8,sV b6 K.1 Y),(9,iV K.2)] L s (OL 22 (HE (rL rI)) bw b6 Y b7 K.1)) ⟨cy,(A0 dK),dH.length,dL,rfl,rfl,Ar,dN,dM⟩ ?_);rintro _ _ K ⟨bw,b6,Y,b7,rfl,rfl,a2,c4,c5⟩ dW ⟨g7,cC⟩ dX;have c6:=cC;unfold Py at c6;refine zg 6 rfl (AM c6 (fun dY dZ=>?_) (fun dY ea=>?_))
  ·obtain⟨g8,b8,eb⟩:=bs dZ;obtain⟨g9,ec,ed⟩:=bs eb;refine zg 7 rfl ?_;obtain⟨U,a9,rfl,rfl,c7,ee,ef⟩:=OL.hole c5 b8 ec;obtain⟨be,eg,eh⟩:=bs ed;refine Bt (fun L s=>∃(cD:LH) (bZ:Ap) (b0:Nat) (cE:Seg),Jn bw H cD [bX U (A2 a9 (Int.toNat K.2) [sV bZ be b0]) 22,cE] [(1,sV Z p1 ag),(2,iV p2),(3,pV al 0),(7,iV am),(8,.slice (A0 U) K.1.length Y),(9,iV K.2)] L s (OL 28 (rL rI) cD bZ b0 cE be)) ?_ ?_
   ·rintro _ _ ⟨cD,bZ,b0,cE,rfl,rfl,c8,ei,ej⟩;obtain⟨ha,ek,el⟩:=bs eh;refine Mr (BU 1 ej ei rfl fun em c9 en eo=>?_);have ep:=ef _ be (sV bZ be b0) (c8.Ac c9) (W3 ek) ⟨_,_,rfl,en⟩;have eq:(K.1.set (Int.toNat K.2) be).length=K.1.length:=List.length_set;refine Gn (L':= [(1,.slice Z p1.length ag),(2,iV p2),(3,pV al 0),(7,iV am),(8,.slice (A0 U) ((K.1.set (Int.toNat K.2) be)).length Y),(9,iV K.2)]) ⟨rfl,rfl,rfl,rfl,by rw [eq];rfl,rfl,trivial⟩ ?_;obtain⟨er,et,eu⟩:=bs el;refine zg 2 rfl (Cl et rfl rfl rfl ?_);refine zg 2 rfl ?_;obtain rfl:=oi eu;exact Ay (dX _ _ ((K.1.set (Int.toNat K.2) be),er) ⟨em,(A0 U),Y,[(U,.cells (A2 a9 (Int.toNat K.2) [sV bZ be b0]) 22 (0,0))],rfl,rfl,((a2.Ac c8).Ac c9),eo,ep⟩ cC) rfl
   ·intro ew;refine JL.block (CV eg (fun L s V=>∃(b9:LH) (av:Ap) (a0:Nat) (a5:Seg),Jn bw H b9 [bX U (A2 a9 (Int.toNat K.2) [sV av V.1 a0]) 22,a5] [(1,sV Z p1 ag),(2,iV p2),(3,pV al 0),(7,iV am),(8,.slice (A0 U) K.1.length Y),(9,iV K.2),(10,iV V.2)] L s (OL 28 (rL rI) b9 av a0 a5 V.1)) ⟨bw,none,0,[],rfl,rfl,Ar,c4,OL.nil⟩ ?_);rintro _ _ V ⟨b9,av,a0,a5,rfl,rfl,a1,da,db⟩ ex ⟨hb,cF⟩ ey;have dc:=cF;unfold NR at dc;refine zg 4 rfl (JL.fl 0 (b3.Ai ((a4.Ac a2).Ac a1)) underlying24 BR Cv ?_);refine Bh underlying22 rfl rfl rfl (zg 2 rfl ?_);refine AM dc (fun ez eA=>?_) (fun ez eB=>?_)
    ·refine zg 6 rfl (Bh underlying25 rfl rfl rfl ?_);obtain⟨hc,eC,eD⟩:=bs eA;refine Ba eC rfl rfl rfl ?_;obtain⟨eE,eF,eG⟩:=bs eD;refine JS.make (pp:=rI) eF rfl rfl rfl rfl rfl underlying28 AX (Cy type3) (by decide) CU (by decide) rfl da fun eH eI eJ eK=>zg 4 rfl (BX (b3.Ai ((a4.Ac a2).Ac a1)) Cd BJ rfl rfl ?_);obtain⟨a6,eL,eM⟩:=bs eG;refine zg 4 rfl (BH (Z9 (cw.Ai (((bv.Ac a4).Ac a2).Ac a1)) (dy.Ai (((bv.Ac a4).Ac a2).Ac a1)) (cY.Ai (((bv.Ac a4).Ac a2).Ac a1)) eL) rfl rfl (AV func118 rfl) eK fun cG bi eN=>?_);obtain⟨cH,eO,eP⟩:=bs eM;refine zg 8 rfl (Bt (fun L s=>∃(cI:LH) (ca:Ap) (cb:Nat) (cJ:Seg),Jn cG H cI [bX U (A2 a9 (Int.toNat K.2) [sV av V.1 a0]) 22,a5,cJ] [(1,sV Z p1 ag),(2,iV p2),(3,pV al 0),(7,iV am),(8,.slice (A0 U) K.1.length Y),(9,iV K.2),(10,iV V.2),(11,sV ca cH cb)] L s (OL 3 rI cI ca cb cJ cH)) ?_ ?_)
     ·rintro _ _ ⟨cI,ca,cb,cJ,rfl,rfl,dd,de,eQ⟩;refine zg 5 rfl (AF (v:= .pointer (some ⟨U,Int.toNat (K.2)*1,none⟩)) rfl (fun ρ h=>JM b8 underlying105 BR (h _ _ rfl) (h _ _ rfl)) ?_);refine AF (v:= sV av V.1 a0) rfl (fun ρ h=>Yl.load Cv (h _ _ rfl) (D1 (j:=0) de rfl (Yf c7))) (zg 1 rfl ?_);refine BU 2 eQ de rfl fun eR df eS eT=>?_;obtain⟨eU,eV,eW⟩:=bs eP;refine JS.app (pp:=(rL rI)) (v:= sV ca cH cb) (a:=av) (c:=a0) 1 eV rfl rfl rfl rfl (fun _=>rfl) rfl (fun _=>rfl) rfl rfl rfl underlying22 underlying22 underlying22 BZ (Cy type28) Fx rfl (by decide) (by decide) (by decide) (by decide) (db.Ai ((bi.Ac dd).Ac df)) ⟨_,_,rfl,eS⟩ eT rfl fun hd eX eY eZ e0 e1=>AF (v:= .pointer (some ⟨U,Int.toNat (K.2)*1,none⟩)) rfl (fun ρ h=>JM b8 underlying105 BR (h _ _ rfl) (h _ _ rfl)) (ae 0 c7 e1 BR rfl rfl rfl rfl rfl rfl fun e2=>?_);obtain⟨e3,e4,e5⟩:=bs eW;refine zg 4 rfl (Ba e4 rfl rfl rfl ?_);refine zg 2 rfl ?_;obtain rfl:=oi e5;exact Ay (ey _ _ (eU,e3) ⟨eR,eX,eY,eZ,rfl,rfl,(((a1.Ac bi).Ac dd).Ac df),e2,e0⟩ cF) rfl
     ·intro e6;refine JL.block (CV eO (fun L s O=>∃(a3:LH) (bb:Ap) (bd:Nat) (bY:Seg),Jn cG H a3 [bX U (A2 a9 (Int.toNat K.2) [sV av V.1 a0]) 22,a5,bY] [(1,sV Z p1 ag),(2,iV p2),(3,pV al 0),(7,iV am),(8,.slice (A0 U) K.1.length Y),(9,iV K.2),(10,iV V.2),(11,sV bb O.1 bd),(12,iV a6),(13,iV O.2)] L s (OL 3 rI a3 bb bd bY O.1)) ⟨cG,(A0 eH),eE.length,eI,rfl,rfl,Ar,eN,(eJ.Ai bi)⟩ ?_);rintro _ _ O ⟨a3,bb,bd,bY,rfl,rfl,bU,cc,cd⟩ e7 ⟨he,cK⟩ e8;have dg:=cK;unfold J8 at dg;refine zg 5 rfl (Bh underlying25 rfl rfl rfl ?_);refine zg 2 rfl (AM dg (fun e9 fa=>?_) (fun e9 fb=>?_))
      ·obtain⟨cM,fc,fd⟩:=bs fa;refine zg 2 rfl (Bt (fun L s=>∃(ce:LH) (cf:Ap) (cg:Nat) (ci:Seg),Jn a3 H ce [bX U (A2 a9 (Int.toNat K.2) [sV av V.1 a0]) 22,a5,ci] [(1,sV Z p1 ag),(2,iV p2),(3,pV al 0),(7,iV am),(8,.slice (A0 U) K.1.length Y),(9,iV K.2),(10,iV V.2),(11,sV cf cM cg),(12,iV a6),(13,iV O.2)] L s (OL 3 rI ce cf cg ci cM)) ?_ ?_)
       ·rintro _ _ ⟨ce,cf,cg,ci,rfl,rfl,fe,ff,fg⟩;obtain⟨fh,fj,fk⟩:=bs fd;refine zg 2 rfl (Ba fj rfl rfl rfl ?_);refine zg 2 rfl ?_;obtain rfl:=oi fk;exact Ay (e8 _ _ (cM,fh) ⟨ce,cf,cg,ci,rfl,rfl,(bU.Ac fe),ff,fg⟩ cK) rfl
       ·intro dh;refine zg 8 rfl (AM fc (fun fm fo=>?_) (fun fm fp=>?_))
        ·obtain⟨di,fq,fs⟩:=bs fo;refine zg 7 rfl (Bt (fun L s=>∃(ck:LH) (cm:Ap) (cn:Nat) (co:Seg),Jn a3 H ck [bX U (A2 a9 (Int.toNat K.2) [sV av V.1 a0]) 22,a5,co] [(1,sV Z p1 ag),(2,iV p2),(3,pV al 0),(7,iV am),(8,.slice (A0 U) K.1.length Y),(9,iV K.2),(10,iV V.2),(11,sV cm di cn),(12,iV a6),(13,iV O.2)] L s (OL 3 rI ck cm cn co di)) ?_ ?_)
         ·rintro _ _ ⟨ck,cm,cn,co,rfl,rfl,fu,fv,fw⟩;refine JL.exit rfl ?_;obtain rfl:=oi fs;exact Ay (dh _ _ ⟨ck,cm,cn,co,rfl,rfl,fu,fv,fw⟩) rfl
         ·intro dj;refine AM fq (fun fx fy=>?_) (fun fx fz=>?_)
          ·obtain⟨hf,fA,fB⟩:=bs fy;refine zg 3 rfl (I7 2 cd fA rfl rfl rfl rfl rfl rfl underlying28 AX ?_);rintro dk cN f241 _ fC rfl hj fD fE hk hl;refine JS.store (v:=iV 1) (off:=cN) 2 rfl rfl rfl cc rfl rfl AX (by simp [Value.cells,CY]) fC (by have:=fD;simp only [Rp.n,rK,rN,rB,rP,rL] at this;show _+1≤_;omega) fun fF=>?_;have fG:=fE (1) [iV 1] rfl;have dl:(O.1.set (Int.toNat O.2) 1).length=O.1.length:=List.length_set;refine Gn (L':= [(1,.slice Z p1.length ag),(2,iV p2),(3,pV al 0),(7,iV am),(8,.slice (A0 U) K.1.length Y),(9,iV K.2),(10,iV V.2),(11,.slice bb ((O.1.set (Int.toNat O.2) 1)).length bd),(12,iV a6),(13,iV O.2),(43,iV O.2),(44,.slice Z p1.length ag),(45,iV (p1.length:Int)),(46,.bool (decide (O.2≤(p1.length:Int)))),(49,iV K.2),(50,iV am),(51,.bool (decide (K.2=am))),(52,iV O.2),(53,iV a6),(54,.bool (decide (O.2=a6))),(55,.slice bb ((O.1.set (Int.toNat O.2) 1)).length bd),(56,iV O.2),(57,pV dk cN)]) ⟨rfl,rfl,rfl,rfl,rfl,rfl,rfl,by rw [dl];rfl,rfl,rfl,rfl,rfl,rfl,rfl,rfl,rfl,rfl,rfl,rfl,rfl,by rw [dl];rfl,rfl,rfl,trivial⟩ ?_;refine JL.done ?_;obtain rfl:=oi fB;exact Ay (dj _ _ ⟨a3,bb,bd,[(dk,.cells (A2 f241 cN [iV 1]) 3 (0,0))],rfl,rfl,Ar,fF,fG⟩) rfl
          ·refine JL.skip ?_;obtain rfl:=oi fz;exact Ay (dj _ _ ⟨a3,bb,bd,bY,rfl,rfl,Ar,cc,cd⟩) rfl
        ·obtain⟨dm,fH,fI⟩:=bs fp;refine zg 5 rfl (Bt (fun L s=>∃(cp:LH) (cq:Ap) (cr:Nat) (ct:Seg),Jn a3 H cp [bX U (A2 a9 (Int.toNat K.2) [sV av V.1 a0]) 22,a5,ct] [(1,sV Z p1 ag),(2,iV p2),(3,pV al 0),(7,iV am),(8,.slice (A0 U) K.1.length Y),(9,iV K.2),(10,iV V.2),(11,sV cq dm cr),(12,iV a6),(13,iV O.2)] L s (OL 3 rI cp cq cr ct dm)) ?_ ?_)
         ·rintro _ _ ⟨cp,cq,cr,ct,rfl,rfl,fJ,fK,fL⟩;refine Mr ?_;obtain rfl:=oi fI;exact Ay (dh _ _ ⟨cp,cq,cr,ct,rfl,rfl,fJ,fK,fL⟩) rfl
         ·intro fM;refine JL.block (CV fH (fun L s ap=>∃(b1:LH) (cu:Ap) (bo:Nat) (cv:Seg),Jn a3 H b1 [bX U (A2 a9 (Int.toNat K.2) [sV av V.1 a0]) 22,a5,cv] [(1,sV Z p1 ag),(2,iV p2),(3,pV al 0),(7,iV am),(8,.slice (A0 U) K.1.length Y),(9,iV K.2),(10,iV V.2),(11,sV cu ap.1 bo),(12,iV a6),(13,iV O.2),(14,iV ap.2)] L s (OL 3 rI b1 cu bo cv ap.1)) ⟨a3,bb,bd,bY,rfl,rfl,Ar,cc,cd⟩ ?_);rintro _ _ ap ⟨b1,cu,bo,cv,rfl,rfl,bV,a7,cO⟩ fN ⟨hm,cP⟩ fO;have dn:=cP;unfold Ls at dn;refine zg 4 rfl (JL.fl 0 (b3.Ai (((((a4.Ac a2).Ac a1).Ac bi).Ac bU).Ac bV)) underlying24 BR Cv ?_);obtain⟨cQ,fP,fQ⟩:=bs dn;refine zg 1 rfl (Ce (cw.Ai ((((((bv.Ac a4).Ac a2).Ac a1).Ac bi).Ac bU).Ac bV)) fP underlying22 BZ ?_);rintro fR fS _ ⟨fT,fU,rfl,hn⟩ fW;refine B4 0 fW CZ rfl rfl rfl (Bh underlying28 rfl rfl rfl ?_);refine zg 2 rfl (AM fQ (fun fX fY=>?_) (fun fX fZ=>?_))
          ·obtain⟨dp,dq,ga⟩:=bs fY;refine zg 3 rfl ?_;obtain⟨bW,ho,_,rfl,rfl,rfl,gb⟩:=OL.TZ cO dq;obtain⟨cR,dr,gc⟩:=bs ga;obtain⟨dt,du,gd⟩:=bs gc;obtain⟨dv,dw,ge,gf⟩:=OL.beside (ee.Ai (((a1.Ac bi).Ac bU).Ac bV)) b8 dr du;refine Dq 27 [bW,U] ⟨⟨2,_,rfl⟩,⟨0,_,rfl⟩,trivial⟩ a7 fun ht=>AZ ht rfl [0,1,2,3] rfl (BA (v:= .pointer (some ⟨bW,(Int.toNat (O.2)*1),none⟩)) 4 ht rfl rfl (fun ρ h s' hs=>JM dq underlying28 AX (h _ _ rfl) (h _ _ rfl)) ?_);refine BA (v:=iV dp) 5 ht rfl rfl (fun ρ h s' hs=>Yl.load By (h _ _ rfl) (Iv 2 a7 rfl (by simp [A7]) hs (gb 0 _ rfl))) (AZ ht rfl [6,7] rfl ?_);refine BA 8 ht rfl rfl (fun ρ h s' hs=>MT (h _ _ rfl) (h _ _ rfl) dr) (BA (v:= .pointer (some ⟨U,(Int.toNat (cR)*1),none⟩)) 9 ht rfl rfl (fun ρ h s' hs=>JM du underlying105 BR (h _ _ rfl) (h _ _ rfl)) ?_);refine BA (v:= sV dv dt dw) 10 ht rfl rfl (fun ρ h s' hs=>Yl.load Cv (h _ _ rfl) (Iv 0 a7 rfl (by simp [A7]) hs ((gf (sV av V.1 a0)) 0 _ rfl))) (B9 11 ht underlying24 BR rfl rfl rfl rfl ?_);refine JG.lp 12 ht 0 (b3.Ai (((((a4.Ac a2).Ac a1).Ac bi).Ac bU).Ac bV)) a7 ⟨⟨2,_,rfl⟩,⟨0,_,rfl⟩,trivial⟩ Cv ?_;refine Ck 13 ht rfl rfl ?_;obtain⟨gg,gh,gi⟩:=bs gd;refine CN 14 (cw.Ai ((((((bv.Ac a4).Ac a2).Ac a1).Ac bi).Ac bU).Ac bV)) gh ht underlying22 BZ ?_;rintro gj gk _ ⟨gl,gm,rfl,gn⟩ gp;refine JG.lp 15 ht 0 gp a7 ⟨⟨2,_,rfl⟩,⟨0,_,rfl⟩,trivial⟩ CZ ?_;refine Ck 16 ht rfl rfl ?_;obtain⟨gq,gr,gt⟩:=bs gi;refine CN 17 gn gr ht underlying28 AX ?_;rintro gu gv _ rfl gw;refine JG.lp 18 ht 0 gw a7 ⟨⟨2,_,rfl⟩,⟨0,_,rfl⟩,trivial⟩ By ?_;obtain⟨gx,gy,gz⟩:=bs gt;refine CN 19 ge gy ht underlying22 BZ ?_;rintro gA gB _ ⟨gC,gD,rfl,gE⟩ gF;refine JG.lp 20 ht 0 gF a7 ⟨⟨2,_,rfl⟩,⟨0,_,rfl⟩,trivial⟩ CZ ?_;refine AZ ht rfl [21,22] rfl ?_;obtain⟨gG,gH,gI⟩:=bs gz;refine BA 23 ht rfl rfl (fun ρ h s' hs=>Da (h _ _ rfl) (h _ _ rfl) gH) ?_;obtain⟨gJ,gK,gL⟩:=bs gI;refine CN 24 gE gK ht underlying28 AX ?_;rintro gM gN _ rfl gO;refine JG.lp 25 ht 0 gO a7 ⟨⟨2,_,rfl⟩,⟨0,_,rfl⟩,trivial⟩ By ?_;obtain⟨a8,gP,gQ⟩:=bs gL;refine BA 26 ht rfl rfl (fun ρ h s' hs=>MT (h _ _ rfl) (h _ _ rfl) gP) (Cj [27,28] ?_);obtain⟨hp,gR,gS⟩:=bs gQ;refine I7 2 cO gR rfl rfl rfl rfl rfl rfl underlying28 AX ?_;rintro dx cT gT _ gU rfl hq gV gW hr hu;refine JS.store (v:=iV a8) (off:=cT) 2 rfl rfl rfl a7 rfl rfl AX (by simp [Value.cells,CY]) gU (by have:=gV;simp only [Rp.n,rK,rN,rB,rP,rL] at this;show _+1≤_;omega) fun gX=>?_;have gY:=gW a8 [iV a8] rfl;have cV:(ap.1.set (Int.toNat O.2) a8).length=ap.1.length:=List.length_set;refine Gn (L':= [(1,.slice Z p1.length ag),(2,iV p2),(3,pV al 0),(7,iV am),(8,.slice (A0 U) K.1.length Y),(9,iV K.2),(10,iV V.2),(11,.slice (A0 bW) ((ap.1.set (Int.toNat O.2) a8)).length bo),(12,iV a6),(13,iV O.2),(14,iV ap.2),(58,iV ap.2),(59,pV al 0),(60,.slice b2 p0.1.length c2),(61,iV V.2),(62,pV fR fS),(63,.slice fT cQ.length fU),(64,iV (cQ.length:Int)),(65,.bool (decide (ap.2<(cQ.length:Int)))),(68,.slice (A0 bW) ((ap.1.set (Int.toNat O.2) a8)).length bo),(69,iV O.2),(70,.slice (A0 bW) ((ap.1.set (Int.toNat O.2) a8)).length bo),(71,iV O.2),(72,.pointer (some ⟨bW,(Int.toNat (O.2)*1),none⟩)),(73,iV dp),(74,.slice (A0 U) K.1.length Y),(75,iV K.2),(76,iV cR),(77,.pointer (some ⟨U,(Int.toNat (cR)*1),none⟩)),(78,.slice dv dt.length dw),(79,pV al 0),(80,.slice b2 p0.1.length c2),(81,iV V.2),(82,pV gj gk),(83,.slice gl gg.length gm),(84,iV ap.2),(85,pV gu gv),(86,iV gq),(87,pV gA gB),(88,.slice gC gx.length gD),(89,iV O.2),(90,iV a6),(91,iV gG),(92,pV gM gN),(93,iV gJ),(94,iV a8),(95,pV dx cT)]) ⟨rfl,rfl,rfl,rfl,rfl,rfl,rfl,by rw [cV];rfl,rfl,rfl,rfl,rfl,rfl,rfl,rfl,rfl,rfl,rfl,rfl,by rw [cV];rfl,rfl,by rw [cV];rfl,rfl,rfl,rfl,rfl,rfl,rfl,rfl,rfl,rfl,rfl,rfl,rfl,rfl,rfl,rfl,rfl,rfl,rfl,rfl,rfl,rfl,rfl,rfl,rfl,rfl,trivial⟩ ?_;obtain⟨gZ,g0,g1⟩:=bs gS;refine zg 4 rfl (Ba g0 rfl rfl rfl ?_);refine zg 2 rfl ?_;obtain rfl:=oi g1;exact Ay (fO _ _ ((ap.1.set (Int.toNat O.2) a8),gZ) ⟨b1,(A0 bW),bo,[(dx,.cells (A2 gT cT [iV a8]) 3 (0,0))],rfl,rfl,bV,gX,gY⟩ cP) rfl
          ·refine JL.exit rfl ?_;obtain rfl:=oi fZ;obtain rfl:=fN _ cP;exact Ay (fM _ _ ⟨b1,cu,bo,cv,rfl,rfl,bV,a7,cO⟩) rfl
      ·refine JL.exit rfl ?_;obtain rfl:=oi fb;obtain rfl:=e7 _ cK;exact Ay (e6 _ _ ⟨a3,bb,bd,bY,rfl,rfl,bU,cc,cd⟩) rfl
    ·refine JL.exit rfl ?_;obtain rfl:=oi eB;obtain rfl:=ex _ cF;exact Ay (ew _ _ ⟨b9,av,a0,a5,rfl,rfl,a1,da,db⟩) rfl
  ·refine JL.exit rfl ?_;obtain rfl:=oi ea;obtain rfl:=dW _ cC;exact Ay (dV _ _ ⟨bw,b6,Y,b7,rfl,rfl,a2,c4,c5⟩) rfl
end Pal
namespace Pal
open Go Go.Conc Go.Proofs
open Go.Proofs.Tryz
variable {J:Judge Tryz.prog}{E:LH}
def Lu(fuel:Nat)(U:(List (List (List Int))))(V:(List Bool))(O:(List Int)×Int)(K:(List Int)×Int):Option (Bd ((List Int)×Int) ((List Int))):= Option.bind (if K.2<(K.1.length:Int) then((ix V O.2).bind fun Y=> some Y) else(some false)) fun Z=> if Z=true then((ix K.1 K.2).bind fun ag=> (ix U (0)).bind fun al=> (ix al O.2).bind fun am=> (ix am K.2).bind fun ap=> (As (ag+ap)).bind fun av=> (ix K.1 K.2).bind fun a1=> (As (K.2+1)).bind fun a0=> some (.more ((K.1.set (Int.toNat K.2) av),a0))) else(some (.done K.1))
def Nt(fuel:Nat)(U:(List (List (List Int))))(O:(List Bool))(K:(List Int)×Int):Option (Bd ((List Int)×Int) ((List Int))):= if K.2<(O.length:Int) then(Option.bind (iter (Lu fuel U O K) fuel (K.1,0)) fun V=> (As (K.2+1)).bind fun Y=> some (.more (V,Y))) else(some (.done K.1))
def Ni(fuel:Nat)(p0:A9)(p1:AJ)(O:(List (List (List Int))))(K:(List (List Int))×Int):Option (Bd ((List (List Int))×Int) ((List (List Int)))):= if K.2≤12 then((As ((p1.length:Int)+1)).bind fun U=> (F9 U (0:Int)).bind fun V=> (f82 fuel p0 K.2).bind fun Y=> Option.bind (iter (Nt fuel O Y) fuel (V,0)) fun Z=> (room K.1 Z).bind fun ag=> (As (K.2+1)).bind fun al=> some (.more (ag,al))) else(some (.done K.1))
def f79(fuel:Nat)(p0:A9)(p1:AJ)(p2:Int):Option ((List (List Int))):= (f80 fuel p0 p1 p2).bind fun K=> Option.bind (iter (Ni fuel p0 p1 K) fuel ([],0)) fun O=> some O
theorem PS{cr:Ap}{c2:Nat}{ct:Ap}{cu:Nat}{Z:Ap}{ag:Nat}{p0:A9}{p1:AJ}{p2:Int}(cv:Al (rL rI) E cr c2 p0.1)(cw:Al (rL rI) E ct cu p0.2)(cV:Al Bg E Z ag p1){fuel:Nat}{r:(List (List Int))}(cy:f79 fuel p0 p1 p2=some r):AN J 79 [.agg #[sV cr p0.1 c2,sV ct p0.2 cu],sV Z p1 ag,iV p2] E [] (fun w E' B'=>∃(cz:Ap) (cA:Nat),w= sV cz r cA∧B'= []∧Al (rL rI) E' cz cA r):=by
 refine A3 func79 fun Q e5 cs H cW cX=>?_;unfold f79 at cy;refine zg 2 rfl (Ca cW fun a2 e6 a6 cB cY=>?_);refine zg 4 rfl (BX cB Cd BJ rfl rfl ?_);obtain⟨av,cZ,c0⟩:=bs cy;refine zg 2 rfl (BN (bJ (cv.Ai a6) (cw.Ai a6) (cV.Ai a6) cZ) rfl rfl (AV func80 rfl) cY ?_);rintro _ ca _ bV ⟨a0,a1,rfl,rfl,c1⟩ c3;obtain⟨cC,c4,c5⟩:=bs c0;refine zg 11 rfl (Bt (fun L s=>∃(cb:LH) (bW:Ap) (bY:Nat) (cc:Seg),Jn ca H cb [cc] [(8,sV bW cC bY)] L s (OL 28 (rL rI) cb bW bY cc cC)) ?_ ?_)
 ·rintro _ _ ⟨cb,bW,bY,cc,rfl,rfl,c6,c7,c8⟩;refine zg 5 rfl (BU 0 c8 c7 rfl fun e7 c9 da db=>?_);obtain rfl:=oi c5;exact AB func79 rfl rfl (cX (((a6.Ac bV).Ac c6).Ac c9) rfl ⟨bW,bY,rfl,rfl,da⟩ db)
 ·intro dc;refine JL.block (CV c4 (fun L s O=>∃(bZ:LH) (U:Ap) (V:Nat) (al:Seg),Jn ca H bZ [al] [(1,sV Z p1 ag),(3,pV a2 0),(7,sV a0 av a1),(8,sV U O.1 V),(9,iV O.2)] L s (OL 28 (rL rI) bZ U V al O.1)) ⟨ca,none,0,[],rfl,rfl,Ar,c3,OL.nil⟩ ?_);rintro _ _ O ⟨bZ,U,V,al,rfl,rfl,a7,cD,cE⟩ dd ⟨e8,cd⟩ de;have cF:=cd;unfold Ni at cF;refine zg 6 rfl (AM cF (fun df dg=>?_) (fun df dh=>?_))
  ·refine zg 6 rfl (Bh underlying25 rfl rfl rfl ?_);obtain⟨e9,di,dj⟩:=bs dg;refine Ba di rfl rfl rfl ?_;obtain⟨dk,dl,dm⟩:=bs dj;refine JS.make (pp:=rI) dl rfl rfl rfl rfl rfl underlying28 AX (Cy type3) (by decide) CU (by decide) rfl cD fun dn dp dq dr=>zg 4 rfl (BX (cB.Ai (bV.Ac a7)) Cd BJ rfl rfl ?_);obtain⟨bb,dt,du⟩:=bs dm;refine zg 1 rfl (BN (bL (cv.Ai ((a6.Ac bV).Ac a7)) (cw.Ai ((a6.Ac bV).Ac a7)) dt) rfl rfl (AV func82 rfl) dr ?_);rintro _ ce _ b0 ⟨bd,be,rfl,rfl,dv⟩ dw;obtain⟨cf,dx,dy⟩:=bs du;refine zg 7 rfl (Bt (fun L s=>∃(cg:LH) (b1:Ap) (b2:Nat) (ci:Seg),Jn ce H cg [al,ci] [(1,sV Z p1 ag),(3,pV a2 0),(7,sV a0 av a1),(8,sV U O.1 V),(9,iV O.2),(10,sV b1 cf b2)] L s (OL 3 rI cg b1 b2 ci cf)) ?_ ?_)
   ·rintro _ _ ⟨cg,b1,b2,ci,rfl,rfl,cG,dz,dA⟩;refine zg 3 rfl (BU 1 dA dz rfl fun dB cH dC dD=>?_);obtain⟨dE,dF,dG⟩:=bs dy;refine JS.app (pp:=(rL rI)) (v:= sV b1 cf b2) (a:=U) (c:=V) 0 dF rfl rfl rfl rfl (fun _=>rfl) rfl (fun _=>rfl) rfl rfl rfl underlying22 underlying22 underlying22 BZ (Cy type28) Fx rfl (by decide) (by decide) (by decide) (by decide) (cE.Ai ((b0.Ac cG).Ac cH)) ⟨_,_,rfl,dC⟩ dD rfl fun fa dH dI dJ dK dL=>?_;obtain⟨dM,dN,dO⟩:=bs dG;refine zg 5 rfl (Ba dN rfl rfl rfl ?_);refine zg 2 rfl ?_;obtain rfl:=oi dO;exact Ay (de _ _ (dE,dM) ⟨dB,dH,dI,dJ,rfl,rfl,(((a7.Ac b0).Ac cG).Ac cH),dL,dK⟩ cd) rfl
   ·intro dP;refine JL.block (CV dx (fun L s am=>∃(a3:LH) (bi:Ap) (bo:Nat) (bv:Seg),Jn ce H a3 [al,bv] [(1,sV Z p1 ag),(3,pV a2 0),(7,sV a0 av a1),(8,sV U O.1 V),(9,iV O.2),(10,sV bi am.1 bo),(11,sV bd bb be),(12,iV am.2)] L s (OL 3 rI a3 bi bo bv am.1)) ⟨ce,(A0 dn),dk.length,dp,rfl,rfl,Ar,dw,(dq.Ai b0)⟩ ?_);rintro _ _ am ⟨a3,bi,bo,bv,rfl,rfl,b3,cI,cJ⟩ dQ ⟨fb,ck⟩ dR;have cK:=ck;unfold Nt at cK;refine zg 5 rfl (Bh underlying68 rfl rfl rfl ?_);refine zg 2 rfl (AM cK (fun dS dT=>?_) (fun dS dU=>?_))
    ·obtain⟨cm,dV,dW⟩:=bs dT;refine zg 7 rfl (Bt (fun L s=>∃(b4:LH) (b5:Ap) (b6:Nat) (b7:Seg),Jn a3 H b4 [al,b7] [(1,sV Z p1 ag),(3,pV a2 0),(7,sV a0 av a1),(8,sV U O.1 V),(9,iV O.2),(10,sV b5 cm b6),(11,sV bd bb be),(12,iV am.2)] L s (OL 3 rI b4 b5 b6 b7 cm)) ?_ ?_)
     ·rintro _ _ ⟨b4,b5,b6,b7,rfl,rfl,dX,dY,dZ⟩;obtain⟨ea,eb,ec⟩:=bs dW;refine zg 3 rfl (Ba eb rfl rfl rfl ?_);refine zg 2 rfl ?_;obtain rfl:=oi ec;exact Ay (dR _ _ (cm,ea) ⟨b4,b5,b6,b7,rfl,rfl,(b3.Ac dX),dY,dZ⟩ ck) rfl
     ·intro ed;refine JL.block (CV dV (fun L s K=>∃(a8:LH) (bw:Ap) (ap:Nat) (bU:Seg),Jn a3 H a8 [al,bU] [(1,sV Z p1 ag),(3,pV a2 0),(7,sV a0 av a1),(8,sV U O.1 V),(9,iV O.2),(10,sV bw K.1 ap),(11,sV bd bb be),(12,iV am.2),(13,iV K.2)] L s (OL 3 rI a8 bw ap bU K.1)) ⟨a3,bi,bo,bv,rfl,rfl,Ar,cI,cJ⟩ ?_);rintro _ _ K ⟨a8,bw,ap,bU,rfl,rfl,b8,cM,cn⟩ ee ⟨fc,co⟩ ef;have cN:=co;unfold Lu at cN;refine zg 5 rfl (Bh underlying28 rfl rfl rfl ?_);obtain⟨cO,eg,eh⟩:=bs cN;refine zg 2 rfl (EY [] (fun L s=>∃(b9:LH),Jm a8 H b9 [al,bU] [(1,sV Z p1 ag),(3,pV a2 0),(7,sV a0 av a1),(8,sV U O.1 V),(9,iV O.2),(10,sV bw K.1 ap),(11,sV bd bb be),(12,iV am.2),(13,iV K.2),(44,.bool cO)] L s) ?_ ?_)
      ·rintro _ _ ⟨b9,rfl,rfl,a9,a4⟩;refine JL.done (BI eh (fun ei ej=>?_) (fun ei ek=>?_))
       ·obtain⟨cP,cQ,el⟩:=bs ej;refine zg 3 rfl ?_;obtain⟨a5,f193,_,rfl,rfl,rfl,em⟩:=OL.TZ (cn.Ai a9) cQ;refine Dq 16 [a5] ⟨⟨1,_,rfl⟩,trivial⟩ a4 fun ht=>AZ ht rfl [0,1,2,3] rfl (BA (v:= .pointer (some ⟨a5,(Int.toNat (K.2)*1),none⟩)) 4 ht rfl rfl (fun ρ h s' hs=>JM cQ underlying28 AX (h _ _ rfl) (h _ _ rfl)) ?_);refine BA (v:=iV cP) 5 ht rfl rfl (fun ρ h s' hs=>Yl.load By (h _ _ rfl) (Iv 1 a4 rfl (by simp [A7]) hs (em 0 _ rfl))) (Ck 6 ht rfl rfl ?_);obtain⟨en,eo,ep⟩:=bs el;refine CN 7 (c1.Ai ((((a7.Ac b0).Ac b3).Ac b8).Ac a9)) eo ht underlying105 BR ?_;rintro eq er _ ⟨et,eu,rfl,ew⟩ ex;refine JG.lp 8 ht 0 ex a4 ⟨⟨1,_,rfl⟩,trivial⟩ Cv ?_;refine Ck 9 ht rfl rfl ?_;obtain⟨ey,ez,eA⟩:=bs ep;refine CN 10 ew ez ht underlying22 BZ ?_;rintro eB eC _ ⟨eD,eE,rfl,eF⟩ eG;refine JG.lp 11 ht 0 eG a4 ⟨⟨1,_,rfl⟩,trivial⟩ CZ ?_;refine Ck 12 ht rfl rfl ?_;obtain⟨eH,eI,eJ⟩:=bs eA;refine CN 13 eF eI ht underlying28 AX ?_;rintro eK eL _ rfl eM;refine JG.lp 14 ht 0 eM a4 ⟨⟨1,_,rfl⟩,trivial⟩ By ?_;obtain⟨Y,eN,eO⟩:=bs eJ;refine BA 15 ht rfl rfl (fun ρ h s' hs=>MT (h _ _ rfl) (h _ _ rfl) eN) (Cj [16,17] ?_);obtain⟨fd,eP,eQ⟩:=bs eO;refine I7 1 (cn.Ai a9) eP rfl rfl rfl rfl rfl rfl underlying28 AX ?_;rintro cR cp f222 _ eR rfl fe eS eT ff fg;refine JS.store (v:=iV Y) (off:=cp) 1 rfl rfl rfl a4 rfl rfl AX (by simp [Value.cells,CY]) eR (by have:=eS;simp only [Rp.n,rK,rN,rB,rP,rL] at this;show _+1≤_;omega) fun eU=>?_;have eV:=eT Y [iV Y] rfl;have cq:(K.1.set (Int.toNat K.2) Y).length=K.1.length:=List.length_set;refine Gn (L':= [(1,.slice Z p1.length ag),(3,pV a2 0),(7,.slice a0 av.length a1),(8,.slice U O.1.length V),(9,iV O.2),(10,.slice (A0 a5) ((K.1.set (Int.toNat K.2) Y)).length ap),(11,.slice bd bb.length be),(12,iV am.2),(13,iV K.2),(44,.bool cO),(47,.slice (A0 a5) ((K.1.set (Int.toNat K.2) Y)).length ap),(48,iV K.2),(49,.slice (A0 a5) ((K.1.set (Int.toNat K.2) Y)).length ap),(50,iV K.2),(51,.pointer (some ⟨a5,(Int.toNat (K.2)*1),none⟩)),(52,iV cP),(53,.slice a0 av.length a1),(54,pV eq er),(55,.slice et en.length eu),(56,iV am.2),(57,pV eB eC),(58,.slice eD ey.length eE),(59,iV K.2),(60,pV eK eL),(61,iV eH),(62,iV Y),(63,pV cR cp)]) ⟨rfl,rfl,rfl,rfl,rfl,by rw [cq];rfl,rfl,rfl,rfl,rfl,by rw [cq];rfl,rfl,by rw [cq];rfl,rfl,rfl,rfl,rfl,rfl,rfl,rfl,rfl,rfl,rfl,rfl,rfl,rfl,rfl,trivial⟩ ?_;obtain⟨eW,eX,eY⟩:=bs eQ;refine zg 4 rfl (Ba eX rfl rfl rfl ?_);refine zg 2 rfl ?_;obtain rfl:=oi eY;exact Ay (ef _ _ ((K.1.set (Int.toNat K.2) Y),eW) ⟨b9,(A0 a5),ap,[(cR,.cells (A2 f222 cp [iV Y]) 3 (0,0))],rfl,rfl,(b8.Ac a9),eU,eV⟩ co) rfl
       ·refine JL.exit rfl ?_;obtain rfl:=oi ek;obtain rfl:=ee _ co;exact Ay (ed _ _ ⟨b9,bw,ap,bU,rfl,rfl,(b8.Ac a9),a4,(cn.Ai a9)⟩) rfl
      ·intro cT;refine Es 39 eg (fun eZ e0=>?_) (fun eZ e1=>?_)
       ·obtain⟨fh,e2,e3⟩:=bs e0;refine zg 2 rfl (Ce (dv.Ai (b3.Ac b8)) e2 underlying68 Iq ?_);rintro fj fk _ rfl e4;refine B4 0 e4 (DI underlying4) rfl rfl rfl (zg 1 rfl ?_);obtain rfl:=oi e3;exact Ay (cT _ _ ⟨a8,rfl,rfl,Ar,cM⟩) rfl
       ·refine zg 5 rfl ?_;obtain rfl:=oi e1;exact Ay (cT _ _ ⟨a8,rfl,rfl,Ar,cM⟩) rfl
    ·refine JL.exit rfl ?_;obtain rfl:=oi dU;obtain rfl:=dQ _ ck;exact Ay (dP _ _ ⟨a3,bi,bo,bv,rfl,rfl,b3,cI,cJ⟩) rfl
  ·refine JL.exit rfl ?_;obtain rfl:=oi dh;obtain rfl:=dd _ cd;exact Ay (dc _ _ ⟨bZ,U,V,al,rfl,rfl,a7,cD,cE⟩) rfl
def Nj(fuel:Nat)(U:(List (List Int)))(O:Int)(K:Int):Option (Bd Int ((Int)⊕(Unit))):= if K≤12 then((ix U K).bind fun V=> (ix V O).bind fun Y=> if 0<Y then(some (.done (Sum.inl O))) else((As (K+1)).bind fun Z=> some (.more Z))) else(some (.done (Sum.inr ())))
def Ng(fuel:Nat)(p1:AJ)(O:(List (List Int)))(K:Int):Option (Bd Int ((Int)⊕(Unit))):= if K≤(p1.length:Int) then(Option.bind (iter (Nj fuel O K) fuel 0) fun U=> Sum.elim (fun r=>some (.done (Sum.inl r))) (fun Y=> (As (K+1)).bind fun V=> some (.more V)) U) else(some (.done (Sum.inr ())))
def f95(fuel:Nat)(p0:A9)(p1:AJ):Option Int:= (f79 fuel p0 p1 (-1)).bind fun K=> Option.bind (iter (Ng fuel p1 K) fuel 0) fun O=> Sum.elim (fun r=>some r) (fun U=> some (-1)) O
theorem bz{a2:Ap}{c2:Nat}{a3:Ap}{a4:Nat}{K:Ap}{O:Nat}{p0:A9}{p1:AJ}(b0:Al (rL rI) E a2 c2 p0.1)(b1:Al (rL rI) E a3 a4 p0.2)(b2:Al Bg E K O p1){fuel:Nat}{r:Int}(a5:f95 fuel p0 p1=some r):AN J 95 [.agg #[sV a2 p0.1 c2,sV a3 p0.2 a4],sV K p1 O] E [] (fun w E' B'=>w=iV r∧B'= []):=by
 refine A3 func95 fun Q cW cs H b3 a6=>?_;unfold f95 at a5;refine zg 2 rfl (Ca b3 fun cX cY U b4 b5=>?_);refine zg 4 rfl (BX b4 Cd BJ rfl rfl ?_);obtain⟨am,b6,b7⟩:=bs a5;refine zg 1 rfl (BN (PS (b0.Ai U) (b1.Ai U) (b2.Ai U) b6) rfl rfl Oz b5 ?_);rintro _ b8 _ a7 ⟨ap,av,rfl,rfl,b9⟩ ca;obtain⟨a8,cb,a9⟩:=bs b7;refine zg 7 rfl (Bt (fun L s=>∃(bb:Unit) (bd:LH),a8=Sum.inr bb∧Jm b8 H bd [] [] L s) ?_ ?_)
 ·rintro _ _ ⟨bb,bd,rfl,rfl,rfl,cc,cd⟩;have ce:=elim_inr a9;refine zg 4 rfl ?_;obtain rfl:=oi ce;exact AB func95 rfl rfl (a6 ((U.Ac a7).Ac cc) rfl ⟨rfl,rfl⟩ cd)
 ·intro cf;refine JL.block (Cp cb (fun V=> []) (fun V=> [(1,sV K p1 O),(5,sV ap am av),(6,iV V)]) Ar ca ?_);rintro V be Y bi bo ⟨cZ,Z⟩ cg;have bv:=Z;unfold Ng at bv;refine zg 5 rfl (Bh underlying25 rfl rfl rfl ?_);refine zg 2 rfl (AM bv (fun ci ck=>?_) (fun ci cm=>?_))
  ·obtain⟨bw,cn,bU⟩:=bs ck;refine zg 7 rfl (Bt (fun L s=>∃(bV:Unit) (bW:LH),bw=Sum.inr bV∧Jm be H bW [] [(1,sV K p1 O),(5,sV ap am av),(6,iV V)] L s) ?_ ?_)
   ·rintro _ _ ⟨bV,bW,rfl,rfl,rfl,co,cp⟩;have cq:=elim_inr bU;obtain⟨cr,ct,cu⟩:=bs cq;refine zg 3 rfl (Ba ct rfl rfl rfl ?_);refine zg 2 rfl ?_;obtain rfl:=oi cu;exact cg cr (Y.Ac co) cp rfl Z
   ·intro cv;refine JL.block (Cp cn (fun a0=> []) (fun a0=> [(1,sV K p1 O),(5,sV ap am av),(6,iV V),(7,iV a0)]) Ar bi ?_);rintro a0 cw ag a1 bY ⟨c0,al⟩ cy;have bZ:=al;unfold Nj at bZ;refine zg 6 rfl (AM bZ (fun cz cA=>?_) (fun cz cB=>?_))
    ·obtain⟨c1,cC,cD⟩:=bs cA;refine zg 7 rfl (Ce (b9.Ai (Y.Ac ag)) cC underlying22 BZ ?_);rintro c3 c4 _ ⟨c5,c6,rfl,cE⟩ cF;refine B4 0 cF CZ rfl rfl rfl ?_;obtain⟨c7,cG,cH⟩:=bs cD;refine zg 1 rfl (Ce cE cG underlying28 AX ?_);rintro c8 c9 _ rfl cI;refine B4 0 cI By rfl rfl rfl (zg 2 rfl ?_);refine AM cH (fun cJ cK=>?_) (fun cJ cM=>?_)
     ·refine zg 5 rfl ?_;obtain rfl:=oi cK;obtain rfl:=bY _ al;have cN:=elim_inl bU;obtain rfl:=oi cN;obtain rfl:=bo _ Z;have cO:=elim_inl a9;obtain rfl:=oi cO;exact AB func95 rfl rfl (a6 (((U.Ac a7).Ac Y).Ac ag) rfl ⟨rfl,rfl⟩ a1)
     ·obtain⟨cP,cQ,cR⟩:=bs cM;refine zg 4 rfl (Ba cQ rfl rfl rfl ?_);refine zg 2 rfl ?_;obtain rfl:=oi cR;exact cy cP ag a1 rfl al
    ·refine JL.exit rfl ?_;obtain rfl:=oi cB;have cT:bw=(Sum.inr ()):=(bY _ al).symm;exact Ay (cv _ _ ⟨(),cw,cT,rfl,rfl,ag,a1⟩) rfl
  ·refine JL.exit rfl ?_;obtain rfl:=oi cm;have cV:a8=(Sum.inr ()):=(bo _ Z).symm;exact Ay (cf _ _ ⟨(),be,cV,rfl,rfl,Y,bi⟩) rfl
def f48(fuel:Nat)(p0:A9)(p1:AJ):Option (Int×Int):= (f70 fuel p0 p1).bind fun K=> if K≠0 then(some (0,K)) else((f95 fuel p0 p1).bind fun O=> if O<0 then(some (0,11)) else(some (O,0)))
theorem bK{V:Ap}{c2:Nat}{Y:Ap}{Z:Nat}{ag:Ap}{al:Nat}{p0:A9}{p1:AJ}(am:Al (rL rI) E V c2 p0.1)(ap:Al (rL rI) E Y Z p0.2)(av:Al Bg E ag al p1){fuel:Nat}{r:Int×Int}(a0:f48 fuel p0 p1=some r):AN J 48 [.agg #[sV V p0.1 c2,sV Y p0.2 Z],sV ag p1 al] E [] (fun w E' B'=>w= .tuple #[iV r.1,iV r.2]∧B'= []):=by
 refine A3 func48 fun Q bU cs H a5 U=>?_;unfold f48 at a0;refine zg 2 rfl (Ca a5 fun bV bW K a1 a6=>?_);refine zg 6 rfl (BX a1 Cd BJ rfl rfl ?_);obtain⟨bY,a7,a8⟩:=bs a0;refine zg 1 rfl (BH (bj (am.Ai K) (ap.Ai K) (av.Ai K) a7) rfl rfl (AV func70 rfl) a6 fun bZ O a2=>?_);refine zg 7 rfl (AM a8 (fun a9 bb=>?_) (fun a9 bd=>?_))
 ·refine zg 6 rfl ?_;obtain rfl:=oi bb;exact AB func48 rfl rfl (U (K.Ac O) rfl ⟨rfl,rfl⟩ a2)
 ·refine zg 3 rfl (BX (a1.Ai O) Cd BJ rfl rfl ?_);obtain⟨b0,be,bi⟩:=bs bd;refine zg 1 rfl (BH (bz (am.Ai (K.Ac O)) (ap.Ai (K.Ac O)) (av.Ai (K.Ac O)) be) rfl rfl (AV func95 rfl) a2 fun b1 a3 a4=>?_);refine zg 8 rfl (AM bi (fun bo bv=>?_) (fun bo bw=>?_))
  ·refine zg 5 rfl ?_;obtain rfl:=oi bv;exact AB func48 rfl rfl (U ((K.Ac O).Ac a3) rfl ⟨rfl,rfl⟩ a4)
  ·refine zg 7 rfl ?_;obtain rfl:=oi bw;exact AB func48 rfl rfl (U ((K.Ac O).Ac a3) rfl ⟨rfl,rfl⟩ a4)
end Pal
namespace Pal
theorem XI{F n:Nat}{lk:Bm}(O:Cg n lk):f117 F lk=some ((B5 lk:Nat):Int):=by
 have U:=O.len;refine C3 ?_;unfold f117 B5;refine Bs (fun h=>?_) (fun h=>?_)
 ·have:lk= []:=List.length_eq_zero_iff.1 (by omega);subst this;exact Ak rfl
 ·have K:lk.length - 1<lk.length:=by omega
  refine AT ((lk.length - 1:Nat):Int) (by omega) (by omega) (by omega) (Bp (m:=lk.length - 1) rfl K ?_);rw [List.getLast?_eq_getElem?,List.getElem?_eq_getElem K];have:=O.yr _ (List.getElem_mem K);refine Ak ?_;simp only;omega
theorem XG{F:Nat}{l:List Int}{x:Int}(O:100<F)(U:l.length<100):f137 F l x=some (decide (x∈l)):=by
 refine C3 ?_;unfold f137;refine AE (S:=fun q=>(q=Sum.inl true∧x∈l)∨(q=Sum.inr ()∧x ∉ l)) ?_ ?_
 ·refine B6 l.length (fun i s=>s=(i:Int)∧x ∉ l.take i) ⟨rfl,by simp⟩ (by omega) ?_ ?_
  ·rintro i s hi ⟨rfl,K⟩;unfold M3;refine Bq (by omega) (Bp (m:=i) rfl hi ?_);refine Bs (fun h=>?_) (fun h=>?_)
   ·exact Ak (.inl ⟨rfl,h▸List.getElem_mem hi⟩)
   ·refine AT ((i+1:Nat):Int) (by simp) (by omega) (by omega) (Ak ⟨rfl,?_⟩);rw [List.take_add_one,List.getElem?_eq_getElem hi];simp only [Option.toList_some,List.mem_append,List.mem_singleton,not_or];exact⟨K,fun e=>h e.symm⟩
  ·rintro s ⟨rfl,K⟩;unfold M3;rw [List.take_length] at K;exact A6 (by omega) (Ak ⟨_,rfl,.inr ⟨rfl,K⟩⟩)
 ·rintro q (⟨rfl,h⟩ | ⟨rfl,h⟩)
  ·exact Ak (decide_eq_true h).symm
  ·exact Ak (decide_eq_false h).symm
theorem V8:∀k,k<16→Dc (1<<<k)=1:=by decide
def Qe(h:Int)(q:Nat):Prop:=(h= -1∧q=16)∨(h=(q:Int)∧q<8)
theorem Xp(lk:Bm)(y:Nat)(m:Int)(k:Nat):∀i,(BV lk y m k).testBit i=true→i<k:=fun i h=>((HV lk y m i k).1 h).1
def Ji(J:JW)(lk:Bm)(q y:Nat)(m:Int)(k:Nat):Prop:=(∀l∈lk.take k,l.1=(y:Int)→EK J m l=true)∧(BV lk y m k).testBit q=false
theorem Xu{F n m y q:Nat}{J:JW}{lk:Bm}{h:Int}(a6:100<F)(al:VJ n J)(a7:Cg n lk)(hm:m<n)(a1:Qe h q):
  f118 F J lk h (y:Int) (m:Int)=some (match Ew J lk q y (m:Int) with | some c=>(c:Int) | none=>100):=by
 have bZ:=a7.len;refine C3 ?_;unfold f118;refine AE (S:=fun r=>(∃c:Nat,r=Sum.inr (c:Int)∧Ew J lk q y (m:Int)=some c)∨(r=Sum.inl 100∧Ew J lk q y (m:Int)=none)) ?_ ?_
 ·refine B6 lk.length (fun i s=>s=(((Dc (BV lk y (m:Int) i):Nat):Int),(i:Int))∧Ji J lk q y (m:Int) i) ⟨by simp [BV,show Dc 0=0 by decide],by simp,by simp [BV]⟩ (by omega) ?_ ?_
  ·rintro i s hi ⟨rfl,V,Y⟩;unfold MU;have b0:Dc (BV lk y (m:Int) i)≤16:=Mz _;have a8:Ew J lk q y (m:Int)≠none→Ji J lk q y (m:Int) (i+1):=fun am=>by
    unfold Ew at am;split at am
    ·rename_i hh;refine⟨fun l O=>Pp.1 hh.1 l (List.mem_of_mem_take O),?_⟩;cases hb:(BV lk y (m:Int) (i+1)).testBit q with
     | false=>rfl
     | true=>
      obtain⟨b1,l,g2,a9,bb⟩:=(HV _ _ _ _ _).1 hb;have:=(HV lk y (m:Int) q lk.length).2 ⟨by omega,l,g2,a9,bb⟩;rw [hh.2] at this;cases this
    ·exact absurd rfl am
   refine Bq (by simp only;omega) ?_;have next:∀(c:Int),c=((Dc (BV lk y (m:Int) (i+1)):Nat):Int)→Ji J lk q y (m:Int) (i+1)→A1 ((As ((i:Int)+1)).bind fun x=>some (Bd.more (A:=Int⊕Int) (c,x))) (Bd.sat (fun s=>s=(((Dc (BV lk y (m:Int) (i+1)):Nat):Int),((i+1:Nat):Int))∧Ji J lk q y (m:Int) (i+1)) fun r=>(∃c:Nat,r=Sum.inr (c:Int)∧Ew J lk q y (m:Int)=some c)∨(r=Sum.inl 100∧Ew J lk q y (m:Int)=none)):=fun c bd be=>by
    exact AT ((i+1:Nat):Int) (by simp) (by omega) (by omega) (Ak ⟨by rw [bd],be⟩)
   have U:BV lk y (m:Int) (i+1)=if lk[i].1=(y:Int)∧(m:Int)≠lk[i].2 then BV lk y (m:Int) i ||| 1<<<i else BV lk y (m:Int) i:=by
    rw [BV,List.getElem?_eq_getElem hi]
   have a2:∀l∈lk.take (i+1),l∈lk.take i∨l=lk[i]:=fun l O=>by
    rw [List.take_add_one,List.getElem?_eq_getElem hi] at O;simp only [Option.toList_some,List.mem_append,List.mem_singleton] at O;exact O
   by_cases K:lk[i].1=(y:Int)∧(m:Int)≠lk[i].2
   ·rw [if_pos K] at U;refine AE (S:=fun r=>(r=Sum.inl 100∧¬Ji J lk q y (m:Int) (i+1))∨(r=Sum.inr ((Dc (BV lk y (m:Int) (i+1)):Nat):Int)∧Ji J lk q y (m:Int) (i+1))) ?_ ?_
    ·refine Bp (m:=i) rfl hi (AE (S:=fun b=>b=false) ?_ ?_)
     ·exact A6 (by simp [K.1]) (Ak (decide_eq_false fun e=>K.2 e.symm))
     ·rintro b rfl;refine A6 (by simp) ?_;have bi:(BV lk y (m:Int) (i+1)).testBit i=true:=(HV _ _ _ _ _).2 ⟨by omega,lk[i],List.getElem?_eq_getElem hi,K.1,K.2⟩;have bo:Dc (BV lk y (m:Int) (i+1))=Dc (BV lk y (m:Int) i)+1:=by
       rw [U,Pn,V8 i (by omega)];rintro j ⟨bv,bw⟩;have:=Xp _ _ _ _ _ bv;rw [Nat.one_shiftLeft,Nat.testBit_two_pow,decide_eq_true_iff] at bw;omega
      by_cases hh:(i:Int)=h
      ·refine AE (S:=fun b=>b=true) (Bq hh (Ak rfl)) ?_;rintro b rfl;refine Bq rfl (Ak (.inl ⟨rfl,fun ap=>?_⟩));have:q=i:=by rcases a1 with⟨g,_⟩ | ⟨g,_⟩ <;> omega
       have a3:=ap.2;rw [this,bi] at a3;cases a3
      ·have bU:(BV lk y (m:Int) (i+1)).testBit q=false:=by
        rw [U,Nat.testBit_or,Y,Nat.one_shiftLeft,Nat.testBit_two_pow];simp only [Bool.false_or,decide_eq_false_iff_not];intro e;rcases a1 with⟨_,g⟩ | ⟨g,_⟩
        ·omega
        ·exact hh (by omega)
       have ap:=Er (d:=([]:List Int)) (l:=J.2) (i:=m) (by have:=al.l2;omega);have b2:=(al.Qg m).len;refine AE (S:=fun b=>b= !decide (lk[i].2∈J.2.getD m [])) ?_ ?_
       ·refine A6 hh (Bp (m:=m) rfl (by have:=al.l2;omega) ?_);rw [← ap];exact AL (XG a6 (by omega)) (Ak rfl)
       ·rintro b rfl;have a4:EK J (m:Int) lk[i]=decide (lk[i].2∈J.2.getD m []):=by
         unfold EK;rw [decide_eq_false K.2];simp
        by_cases Z:lk[i].2∈J.2.getD m []
        ·refine A6 (by rw [decide_eq_true Z];simp) (AT ((Dc (BV lk y (m:Int) i)+1:Nat):Int) (by simp) (by omega) (by omega) ?_);refine Ak (.inr ⟨by rw [bo],fun l O ag=>?_,bU⟩);rcases a2 l O with av | rfl
         ·exact V l av ag
         ·rw [a4];exact decide_eq_true Z
        ·refine Bq (by rw [decide_eq_false Z];rfl) (Ak (.inl ⟨rfl,fun bV=>?_⟩));have:=bV.1 lk[i] (by rw [List.take_add_one,List.getElem?_eq_getElem hi];simp only [Option.toList_some,List.mem_append,List.mem_singleton];exact .inr trivial) K.1;rw [a4] at this;exact Z (of_decide_eq_true this)
    ·rintro r (⟨rfl,a0⟩ | ⟨rfl,a0⟩)
     ·rw [Sum.elim_inl];refine Ak (.inr ⟨rfl,?_⟩);cases e:Ew J lk q y (m:Int) with
      | none=>rfl
      | some c=>exact absurd (a8 (by rw [e];simp)) a0
     ·rw [Sum.elim_inr];exact next _ rfl a0
   ·rw [if_neg K] at U;have bW:Ji J lk q y (m:Int) (i+1):=⟨fun l O ag=>by
     rcases a2 l O with av | rfl
     ·exact V l av ag
     ·unfold EK
      by_cases e:(m:Int)=lk[i].2
      ·rw [decide_eq_true e];rfl
      ·exact absurd ⟨ag,e⟩ K,by rw [U];exact Y⟩
    refine AL (b:=Sum.inr ((Dc (BV lk y (m:Int) i):Nat):Int)) ?_ (by rw [Sum.elim_inr];exact next _ (by rw [U]) bW)
    refine C3 (Bp (m:=i) rfl hi ?_);refine AE (S:=fun b=>b=true) ?_ (by rintro b rfl;exact Bq rfl (Ak rfl));refine Bs (fun _=>Ak rfl) (fun e=>Ak (decide_eq_true ?_));have bY:lk[i].1=(y:Int):=by simpa using e
    by_cases a5:(m:Int)=lk[i].2
    ·exact a5.symm
    ·exact absurd ⟨bY,a5⟩ K
  ·rintro s ⟨rfl,V,Y⟩;unfold MU;refine A6 (by simp) (Ak ⟨_,rfl,.inl ⟨_,rfl,?_⟩⟩);rw [List.take_length] at V;unfold Ew;rw [if_pos ⟨Pp.2 V,Y⟩]
 ·rintro r (⟨c,rfl,h⟩ | ⟨rfl,h⟩)
  ·rw [h];exact Ak rfl
  ·rw [h];exact Ak rfl
end Pal
namespace Pal
theorem Kd{α:Type}{f:Nat→α}{N i:Nat}(h:i<N):((List.range N).map f)[i]? =some (f i):=by simp [h]
theorem Kc{α:Type}{f:Nat→α}{N:Nat}(i:Nat)(v:α):((List.range N).map f).set i v=(List.range N).map (fun j=>if j=i then v else f j):=by
 apply List.ext_getElem?;intro j;by_cases K:j<N
 ·by_cases e:i=j
  ·subst e;rw [List.getElem?_set_self (by simpa using K),Kd K,if_pos rfl]
  ·rw [List.getElem?_set_ne e,Kd K,Kd K,if_neg (fun h=>e h.symm)]
 ·rw [List.getElem?_eq_none (by simpa using K),List.getElem?_eq_none (by simpa using K)]
theorem FQ{α:Type}{f g:Nat→α}{N:Nat}(h:∀i,i<N→f i=g i):(List.range N).map f=(List.range N).map g:=List.map_congr_left fun i hi=>h i (List.mem_range.1 hi)
theorem Lx{α:Type}{z:α}{N:Nat}:List.replicate N z=(List.range N).map fun _=>z:=by
 apply List.ext_getElem?;intro j;by_cases K:j<N
 ·rw [Kd K,List.getElem?_replicate,if_pos K]
 ·rw [List.getElem?_eq_none (by simpa using K),List.getElem?_eq_none (by simpa using K)]
theorem EA{α β:Type}{Q:α→Prop}{f:β→Option α}{g:Nat→β}{N i:Nat}{j:Int}(h:j=(i:Int))(hi:i<N)(k:A1 (f (g i)) Q):A1 ((ix ((List.range N).map g) j).bind f) Q:=AL (Ed h (Kd hi)) k
def On(J:JW)(lk:Bm)(q d y:Nat)(m:Int):List Int:=(List.range (lk.length+1)).map fun k=>((ways J lk q d y m k:Nat):Int)
def WR(J:JW)(lk:Bm)(q d y:Nat):List (List Int):=(List.range J.1.length).map fun(m:Nat)=>On J lk q d y (m:Int)
def H9(J:JW)(lk:Bm)(q t:Nat):List (List (List Int)):=(List.range (B5 lk+1)).map fun j=>if j<t then [] else WR J lk q (B5 lk - j) j
def GO(J:JW)(lk:Bm)(q d y:Nat)(m:Int)(t:Nat):List Int:=(List.range (lk.length+1)).map fun k=>if k<t then((ways J lk q d y m k:Nat):Int) else 0
theorem Yu{J:JW}{lk:Bm}{q d y c k:Nat}{m:Int}(h:Ew J lk q y m=some c)(K:k<c):ways J lk q d y m k=0:=by
 cases d with
 | zero=>unfold ways;rw [h];simp only;rw [if_neg (by omega)]
 | succ d=>unfold ways;rw [h];simp only;rw [if_neg (by omega)]
theorem Yt{J:JW}{lk:Bm}{q d y k:Nat}{m:Int}(h:Ew J lk q y m=none):ways J lk q d y m k=0:=by
 cases d with
 | zero=>unfold ways;rw [h]
 | succ d=>unfold ways;rw [h]
theorem Zs{J:JW}{lk:Bm}{q d y c:Nat}{m:Int}(h:Ew J lk q y m=some c):List.replicate (lk.length+1) (0:Int)=GO J lk q d y m c:=by
 rw [Lx];refine FQ fun i _=>?_;split
 ·rename_i hi;rw [Yu h hi];rfl
 ·rfl
theorem W5{J:JW}{lk:Bm}{q d y t:Nat}{m:Int}(h:lk.length<t):GO J lk q d y m t=On J lk q d y m:=FQ fun i hi=>if_pos (by omega)
theorem bQ{d:Nat}(h:d≤6):3 ^ d≤729:=Nat.le_trans (Nat.pow_le_pow_right (by omega) h) (by decide)
theorem Po{n q d y k:Nat}{J:JW}{lk:Bm}{m:Int}(K:VJ n J)(O:d≤6):ways J lk q d y m k≤729:=Nat.le_trans (Sc K d y m k) (bQ O)
theorem Vr{F n q y m c k d:Nat}{J:JW}{lk:Bm}{cur:List (List Int)×Int}{st:List Int×Int}(a6:100<F)(Y:VJ n J)(ag:Cg n lk)(hm:m<n)(a7:y+(d+1)=B5 lk)(a8:k≤lk.length)(a2:c≤k)(a3:Ew J lk q y (m:Int)=some c)(al:cur.2=(m:Int))(am:st.2=(k:Int)):
  iter (Ls F J (H9 J lk q (y+1),(y:Int)) cur (c:Int) st) F (GO J lk q (d+1) y (m:Int) k,0)=some (GO J lk q (d+1) y (m:Int) (k+1)):=by
 have a9:=Y.l1;have bb:=ag.len;have bd:=HQ ag;have K:=Y.FW m;have be:=K.len;have O:m<J.1.length:=by omega
 have Z:J.1.getD m []=J.1[m]:=Er O;have ap:∀i,((((J.1.getD m []).take i).map fun x=>ways J lk q d (y+1) x (k - c)).sum)≤3*729:=fun i=>by
  refine Nat.le_trans (Pu (b:=729) fun z a4=>?_) ?_
  ·obtain⟨x,_,rfl⟩:=List.mem_map.1 a4;exact Po Y (by omega)
  ·rw [List.length_map,List.length_take];exact Nat.mul_le_mul_right _ (by have:=K.len;omega)
 have U:∀v:Int,(GO J lk q (d+1) y (m:Int) k).set k v=(List.range (lk.length+1)).map fun j=>if j=k then v else if j<k then((ways J lk q (d+1) y (m:Int) j:Nat):Int) else 0:=fun v=>Kc k v
 refine C3 (B6 (J.1.getD m []).length (fun i s=>s=((GO J lk q (d+1) y (m:Int) k).set k ((((((J.1.getD m []).take i).map fun x=>ways J lk q d (y+1) x (k - c)).sum:Nat)):Int),(i:Int))) ?_ (by have:=K.len;omega) ?_ ?_)
 ·rw [U];refine Prod.ext (FQ fun j av=>?_) rfl;by_cases e:j=k
  ·subst e;simp
  ·rw [if_neg e]
 ·rintro i s hi rfl;unfold Ls;simp only [al,am];have bi:=K.inr _ (List.getElem_mem hi);obtain⟨V,a0⟩:∃V:Nat,(J.1.getD m [])[i]=(V:Int):=⟨((J.1.getD m [])[i]).toNat,by omega⟩;have bo:=ap i;have bv:=ap (i+1);have a5:(((J.1.getD m []).take (i+1)).map fun x=>ways J lk q d (y+1) x (k - c)).sum=(((J.1.getD m []).take i).map fun x=>ways J lk q d (y+1) x (k - c)).sum+ways J lk q d (y+1) (V:Int) (k - c):=by
   rw [List.take_add_one,List.getElem?_eq_getElem hi,a0];simp
  refine Bp (m:=m) rfl O ?_;rw [← Z];refine Bq (by omega) ?_;rw [U];refine EA (i:=k) rfl (by omega) ?_;rw [if_pos rfl];refine AT ((y+1:Nat):Int) (by simp) (by omega) (by omega) (EA (i:=y+1) rfl (by omega) ?_);rw [if_neg (by omega)];refine Bp (m:=m) rfl O ?_;rw [← Z];refine Bp (m:=i) rfl hi ?_;rw [a0];refine EA (i:=V) rfl (by omega) (AT ((k - c:Nat):Int) (by omega) (by omega) (by omega) ?_);refine EA (i:=k - c) rfl (by omega) ?_;rw [show B5 lk - (y+1)=d by omega];refine AT ((((((J.1.getD m []).take (i+1)).map fun x=>ways J lk q d (y+1) x (k - c)).sum:Nat)):Int) (by rw [a5];simp only [Int.natCast_add]) (by omega) (by omega) (EA (i:=k) rfl (by omega) ?_);refine AT ((i+1:Nat):Int) (by simp) (by omega) (by omega) (Ak (Prod.ext ?_ rfl));simp only;rw [show Int.toNat (k:Int)=k by omega,Kc,U];refine FQ fun j av=>?_;by_cases e:j=k
  ·rw [if_pos e,if_pos e]
  ·rw [if_neg e,if_neg e,if_neg e]
 ·rintro s rfl;unfold Ls;simp only [al,am];refine Bp (m:=m) rfl O ?_;rw [← Z];refine A6 (by omega) (Ak ⟨_,rfl,?_⟩);rw [U,List.take_length];refine FQ fun j av=>?_;by_cases e:j=k
  ·subst e;rw [if_pos rfl,if_pos (by omega)]
   conv=>rhs;unfold ways
   rw [a3];simp only;rw [if_pos a2,show((m:Int)).toNat=m by omega]
  ·rw [if_neg e];by_cases a1:j<k
   ·rw [if_pos a1,if_pos (by omega)]
   ·rw [if_neg a1,if_neg (by omega)]
theorem U8{F n q y m d:Nat}{J:JW}{lk:Bm}{cur:List (List Int)×Int}(Y:100<F)(Z:VJ n J)(O:Cg n lk)(hm:m<n)(ag:y+d=B5 lk)(al:cur.2=(m:Int)):
  iter (J8 F J lk ((B5 lk:Nat):Int) (H9 J lk q (y+1),(y:Int)) cur (match Ew J lk q y (m:Int) with | some c=>(c:Int) | none=>100)) F (List.replicate (lk.length+1) 0,match Ew J lk q y (m:Int) with | some c=>(c:Int) | none=>100)=some (On J lk q d y (m:Int)):=by
 have av:=O.len;have a0:=HQ O;refine C3 ?_;cases K:Ew J lk q y (m:Int) with
 | none=>
  simp only;refine B6 0 (fun i s=>s=(List.replicate (lk.length+1) 0,100)) rfl (by omega) (fun i s hi=>by omega) ?_;rintro s rfl;unfold J8;refine A6 (by simp only;omega) (Ak ⟨_,rfl,?_⟩);rw [Lx];exact FQ fun j U=>by rw [Yt K];rfl
 | some c=>
  simp only;rw [Zs (d:=d) K];have a1:c≤16:=by
   unfold Ew at K;split at K
   ·cases K;exact Mz _
   ·cases K
  refine B6 (lk.length+1 - c) (fun i s=>s=(GO J lk q d y (m:Int) (c+i),((c+i:Nat):Int))) rfl (by omega) ?_ ?_
  ·rintro i s hi rfl;unfold J8;refine Bq (by simp only;omega) (AE (S:=fun r=>r=GO J lk q d y (m:Int) (c+(i+1))) ?_ ?_)
   ·cases d with
    | zero=>
     refine Bq (by simp only;omega) (AE (S:=fun r=>r=GO J lk q 0 y (m:Int) (c+(i+1))) ?_ (fun r am=>Ak am));have key:∀v:Int,v=((ways J lk q 0 y (m:Int) (c+i):Nat):Int)→(List.range (lk.length+1)).map (fun j=>if j=c+i then v else if j<c+i then((ways J lk q 0 y (m:Int) j:Nat):Int) else 0)=GO J lk q 0 y (m:Int) (c+(i+1)):=fun v ap=>FQ fun j U=>by
      by_cases e:j=c+i
      ·rw [if_pos e,if_pos (by omega),e,ap]
      ·rw [if_neg e];by_cases V:j<c+i
       ·rw [if_pos V,if_pos (by omega)]
       ·rw [if_neg V,if_neg (by omega)]
     refine Bs (fun h=>?_) (fun h=>?_)
     ·simp only at h;refine EA (i:=c+i) rfl (by omega) (Ak ?_);simp only;rw [show Int.toNat ((c+i:Nat):Int)=c+i by omega];unfold GO;rw [Kc];refine key 1 ?_;unfold ways;rw [K];simp only;rw [if_pos (by omega)];rfl
     ·simp only at h;refine Ak ?_;rw [← key 0 (by unfold ways;rw [K];simp only;rw [if_neg (by omega)];rfl)];refine FQ fun j U=>?_;by_cases e:j=c+i
      ·rw [if_pos e,if_neg (by omega)]
      ·rw [if_neg e]
    | succ d=>
     refine A6 (by simp only;omega) (AL (Vr (st:=(GO J lk q (d+1) y (m:Int) (c+i),((c+i:Nat):Int))) Y Z O hm ag (by omega) (by omega) K al rfl) (Ak rfl))
   ·rintro r rfl;exact AT ((c+(i+1):Nat):Int) (by simp only;omega) (by omega) (by omega) (Ak rfl)
  ·rintro s rfl;unfold J8;refine A6 (by simp only;omega) (Ak ⟨_,rfl,W5 (by omega)⟩)
theorem ZP{F n q:Nat}{J:JW}{lk:Bm}{h:Int}(U:100<F)(K:VJ n J)(O:Cg n lk)(Y:Qe h q):f80 F J lk h=some (H9 J lk q 0):=by
 have Z:=K.l1;have am:=O.len;have ap:=HQ O;have av:=K.le;have a0:=K.pos;refine C3 ?_;unfold f80;refine AL (XI O) ?_;refine AT ((B5 lk+1:Nat):Int) (by simp) (by omega) (by omega) ?_;refine AL (b:=H9 J lk q (B5 lk+1)) ?_ ?_
 ·unfold F9;rw [if_pos (by omega),show Int.toNat ((B5 lk+1:Nat):Int)=B5 lk+1 by omega,Lx];exact congrArg some (FQ fun i hi=>(if_pos hi).symm)
 refine AE (S:=fun r=>r=H9 J lk q 0) ?_ (fun r ag=>Ak ag);refine ML (fun t s=>t≤B5 lk+1∧s=(H9 J lk q t,(t:Int) - 1)) ?_ (m:=B5 lk+1) ⟨Nat.le_refl _,by simp⟩ (by omega);rintro t s ⟨ht,rfl⟩;unfold Py;cases t with
 | zero=>exact A6 (by simp) (Ak rfl)
 | succ y=>
  have al:((y+1:Nat):Int) - 1=(y:Int):=by omega
  simp only [al];refine Bq (by omega) (EA (i:=y) rfl (by omega) ?_);rw [if_pos (by omega)];refine AL (b:=()) (by simp [LK]) (AE (S:=fun r=>r=WR J lk q (B5 lk - y) y) ?_ ?_)
  ·refine B6 n (fun i s=>s=((List.range i).map (fun m=>On J lk q (B5 lk - y) y ((m:Nat):Int)),(i:Int))) rfl (by omega) ?_ ?_
   ·rintro i s hi rfl;unfold NR;refine Bq (by simp only;omega) (AT ((lk.length+1:Nat):Int) (by simp) (by omega) (by omega) ?_);refine AL (b:=List.replicate (lk.length+1) (0:Int)) (by unfold F9;rw [if_pos (by omega)];rfl) (AL (Xu U K O hi Y) ?_);refine AL (U8 (d:=B5 lk - y) U K O hi (by omega) rfl) (JD (by simp;omega) ?_);refine AT ((i+1:Nat):Int) (by simp) (by omega) (by omega) (Ak (Prod.ext ?_ rfl));simp only;rw [List.range_succ,List.map_append];rfl
   ·rintro s rfl;unfold NR;refine A6 (by simp only;omega) (Ak ⟨_,rfl,?_⟩);unfold WR;rw [Z]
  ·rintro r rfl;refine AL (b:=()) ?_ ?_
   ·unfold Oq;rw [if_neg];intro e;have:=congrArg List.length e;unfold WR at this;rw [List.length_map,List.length_range] at this;simp only [List.length_nil] at this;omega
   refine AT ((y:Int) - 1) rfl (by omega) (by omega) (Ak ⟨y,Nat.lt_succ_self y,by omega,Prod.ext ?_ rfl⟩);simp only;rw [show Int.toNat (y:Int)=y by omega];unfold H9;rw [Kc];refine FQ fun j a1=>?_;by_cases e:j=y
   ·rw [if_pos e,e,if_neg (by omega)]
   ·rw [if_neg e];by_cases V:j<y
    ·rw [if_pos (by omega),if_pos V]
    ·rw [if_neg (by omega),if_neg V]
end Pal
namespace Pal
def Gu(J:JW)(lk:Bm)(q a m k:Nat):Nat:=((Cq (AG J a) m).map fun x=>ways J lk q (B5 lk) 0 x k).sum
theorem Xv{n q a m k:Nat}{J:JW}{lk:Bm}(K:VJ n J)(O:Cg n lk)(hm:m≤8):Gu J lk q a m k≤8*729:=by
 refine Nat.le_trans (Pu (b:=729) fun z U=>?_) ?_
 ·obtain⟨x,_,rfl⟩:=List.mem_map.1 U;exact Po K (HQ O)
 ·rw [List.length_map];exact Nat.mul_le_mul_right _ (Nat.le_trans (KE _ _) hm)
theorem YO{n q a k:Nat}{J:JW}{lk:Bm}(K:VJ n J):Gu J lk q a n k=nT J lk q a k:=by
 have O:=K.le;rw [XR K];unfold Gu;have:=Um (II K a) (16 - n);rw [show n+(16 - n)=16 by omega] at this;rw [this]
def TR(J:JW)(lk:Bm)(q a:Nat):List Int:=(List.range (lk.length+1)).map fun k=>((nT J lk q a k:Nat):Int)
def LZ(J:JW)(lk:Bm)(q:Nat):List (List Int):=(List.range 13).map (TR J lk q)
theorem bq{J:JW}{lk:Bm}{q:Nat}:(H9 J lk q 0)[0]? =some (WR J lk q (B5 lk) 0):=by
 unfold H9;rw [Kd (by omega),if_neg (by omega)];rfl
theorem Px{F n q:Nat}{J:JW}{lk:Bm}{h:Int}(U:100<F)(K:VJ n J)(O:Cg n lk)(al:Qe h q):f79 F J lk h=some (LZ J lk q):=by
 have a1:=K.l1;have a2:=O.len;have a3:=K.le;refine C3 ?_;unfold f79;refine AL (ZP U K O al) ?_;refine AE (S:=fun r=>r=LZ J lk q) ?_ (fun r am=>Ak am);refine B6 13 (fun a s=>s=((List.range a).map (TR J lk q),(a:Int))) rfl (by omega) ?_ ?_
 ·rintro a s ap rfl;unfold Ni;refine Bq (by simp only;omega) (AT ((lk.length+1:Nat):Int) (by simp) (by omega) (by omega) ?_);refine AL (b:=List.replicate (lk.length+1) (0:Int)) (by unfold F9;rw [if_pos (by omega)];rfl) (AE (ZU U K ap) ?_);rintro l ⟨a4,av⟩;refine AE (S:=fun r=>r=TR J lk q a) ?_ ?_
  ·refine B6 n (fun m s=>s=((List.range (lk.length+1)).map (fun k=>((Gu J lk q a m k:Nat):Int)),(m:Int))) ?_ (by omega) ?_ ?_
   ·rw [Lx];rfl
   ·rintro m s hm rfl;unfold Nt;refine Bq (by simp only;omega) ?_;have V:ix l (m:Int)=some ((AG J a).testBit m):=Ed rfl (av m hm);have Y:∀k,Gu J lk q a (m+1) k=if(AG J a).testBit m=true then Gu J lk q a m k+ways J lk q (B5 lk) 0 (m:Int) k else Gu J lk q a m k:=fun k=>by
     unfold Gu;rw [OK];split
     ·simp
     ·rfl
    refine AE (S:=fun r=>r=(List.range (lk.length+1)).map (fun k=>((Gu J lk q a (m+1) k:Nat):Int))) ?_ ?_
    ·cases hb:(AG J a).testBit m with
     | false=>
      refine B6 0 (fun i s=>s=((List.range (lk.length+1)).map (fun k=>((Gu J lk q a m k:Nat):Int)),(0:Int))) rfl (by omega) (fun i s hi=>by omega) ?_;rintro s rfl;unfold Lu;refine AL (b:=false) ?_ ?_
      ·simp only;rw [if_pos (by simp),V,hb];rfl
      ·refine A6 (by simp) (Ak ⟨_,rfl,FQ fun k _=>?_⟩);rw [Y,hb,if_neg (by simp)]
     | true=>
      refine B6 (lk.length+1) (fun i s=>s=((List.range (lk.length+1)).map (fun k=>if k<i then((Gu J lk q a (m+1) k:Nat):Int) else((Gu J lk q a m k:Nat):Int)),(i:Int))) ?_ (by omega) ?_ ?_
      ·exact Prod.ext (FQ fun k _=>(if_neg (by omega)).symm) rfl
      ·rintro i s hi rfl;unfold Lu;refine AL (b:=true) ?_ ?_
       ·simp only;rw [if_pos (by simp;omega),V,hb];rfl
       refine Bq rfl (EA (i:=i) rfl hi ?_);rw [if_neg (by omega)];refine AL (Ed (m:=0) rfl bq) (EA (i:=m) rfl (by omega) ?_);refine EA (i:=i) rfl hi ?_;have a5:=Xv (q:=q) (a:=a) (m:=m) (k:=i) K O (by omega);have a6:=Po (q:=q) (d:=B5 lk) (y:=0) (k:=i) (m:=(m:Int)) (lk:=lk) K (HQ O);have Z:=Y i;rw [hb,if_pos rfl] at Z;refine AT ((Gu J lk q a (m+1) i:Nat):Int) (by rw [Z];simp only [Int.natCast_add]) (by omega) (by omega) (EA (i:=i) rfl hi ?_);refine AT ((i+1:Nat):Int) (by simp) (by omega) (by omega) (Ak (Prod.ext ?_ rfl));simp only;rw [show Int.toNat (i:Int)=i by omega,Kc];refine FQ fun j a7=>?_;by_cases e:j=i
       ·rw [if_pos e,if_pos (by omega),e]
       ·rw [if_neg e];by_cases ag:j<i
        ·rw [if_pos ag,if_pos (by omega)]
        ·rw [if_neg ag,if_neg (by omega)]
      ·rintro s rfl;unfold Lu;refine AL (b:=false) ?_ ?_
       ·rw [if_neg (by simp)]
       ·refine A6 (by simp) (Ak ⟨_,rfl,FQ fun k a0=>if_pos a0⟩)
    ·rintro r rfl;exact AT ((m+1:Nat):Int) (by simp) (by omega) (by omega) (Ak rfl)
   ·rintro s rfl;unfold Nt;refine A6 (by simp only;omega) (Ak ⟨_,rfl,FQ fun k _=>?_⟩);rw [YO K]
  ·rintro r rfl;refine JD (by simp;omega) (AT ((a+1:Nat):Int) (by simp) (by omega) (by omega) ?_);refine Ak (Prod.ext ?_ rfl);simp only;rw [List.range_succ,List.map_append];rfl
 ·rintro s rfl;unfold Ni;exact A6 (by simp) (Ak ⟨_,rfl,rfl⟩)
theorem R1{n a:Nat}{J:JW}{lk:Bm}(K:VJ n J)(O:Cg n lk){t:CE}(ht:t∈TA J lk a):CR t≤lk.length:=by
 rw [Lb K O ht];exact List.length_filter_le _ _
theorem Tv{n q a k:Nat}{J:JW}{lk:Bm}(K:VJ n J)(O:Cg n lk)(U:lk.length≤q):0<nT J lk q a k↔∃t∈TA J lk a,CR t=k:=by
 rw [X8 K O U,List.countP_pos_iff];simp only [decide_eq_true_iff]
theorem ar{F n:Nat}{J:JW}{lk:Bm}(av:100<F)(Z:VJ n J)(V:Cg n lk):A1 (f95 F J lk) (fun r=>(TT J lk= []∧r= -1)∨∃k,GL J lk k∧r=(k:Int)):=by
 have a2:=V.len;have al:∀a k,0<nT J lk 16 a k↔∃t∈TA J lk a,CR t=k:=fun a k=>Tv Z V (by omega);unfold f95;refine AL (Px av Z V (.inl ⟨rfl,rfl⟩)) ?_;refine AE (S:=fun r=>(r=Sum.inr ()∧TT J lk= [])∨∃k,GL J lk k∧r=Sum.inl (k:Int)) ?_ ?_
 ·refine B6 (lk.length+1) (fun k s=>s=(k:Int)∧∀k',k'<k→∀a,a<13→∀t∈TA J lk a,CR t≠k') ⟨rfl,fun k' am=>by omega⟩ (by omega) ?_ ?_
  ·rintro k s am ⟨rfl,Y⟩;unfold Ng;refine Bq (by omega) (AE (S:=fun r=>(r=Sum.inr ()∧∀a,a<13→∀t∈TA J lk a,CR t≠k)∨(r=Sum.inl (k:Int)∧∃a,a<13∧∃t∈TA J lk a,CR t=k)) ?_ ?_)
   ·refine B6 13 (fun a s=>s=(a:Int)∧∀U,U<a→∀t∈TA J lk U,CR t≠k) ⟨rfl,fun U K=>by omega⟩ (by omega) ?_ ?_
    ·rintro a s K ⟨rfl,ag⟩;unfold Nj;refine Bq (by omega) (EA (i:=a) rfl K ?_);refine EA (i:=k) rfl am (Bs (fun h=>?_) (fun h=>?_))
     ·exact Ak (.inr ⟨rfl,a,K,(al a k).1 (by omega)⟩)
     ·refine AT ((a+1:Nat):Int) (by simp) (by omega) (by omega) (Ak ⟨rfl,fun U a3 t ht e=>?_⟩);rcases Nat.lt_or_ge U a with O | O
      ·exact ag U O t ht e
      ·obtain rfl:U=a:=by omega
       have:=(al U k).2 ⟨t,ht,e⟩;omega
    ·rintro s ⟨rfl,ag⟩;unfold Nj;exact A6 (by omega) (Ak ⟨_,rfl,.inl ⟨rfl,ag⟩⟩)
   ·rintro r (⟨rfl,a0⟩ | ⟨rfl,a,K,t,ht,e⟩)
    ·rw [Sum.elim_inr];refine AT ((k+1:Nat):Int) (by simp) (by omega) (by omega) (Ak ⟨rfl,fun k' a4 a K t ht e=>?_⟩);rcases Nat.lt_or_ge k' k with O | O
     ·exact Y k' O a K t ht e
     ·obtain rfl:k'=k:=by omega
      exact a0 a K t ht e
    ·rw [Sum.elim_inl];refine Ak (.inr ⟨k,⟨⟨t,Lq.2 ⟨a,K,ht⟩,e⟩,fun u hu=>?_⟩,rfl⟩);obtain⟨b,hb,a1⟩:=Lq.1 hu;rcases Nat.lt_or_ge (CR u) k with O | O
     ·exact absurd rfl (Y _ O b hb u a1)
     ·exact O
  ·rintro s ⟨rfl,Y⟩;unfold Ng;refine A6 (by omega) (Ak ⟨_,rfl,.inl ⟨rfl,?_⟩⟩);refine List.eq_nil_iff_forall_not_mem.2 fun t ht=>?_;obtain⟨a,K,ap⟩:=Lq.1 ht;exact Y _ (by have:=R1 Z V ap;omega) a K t ap rfl
 ·rintro r (⟨rfl,h⟩ | ⟨k,h,rfl⟩)
  ·exact Ak (.inl ⟨h,rfl⟩)
  ·exact Ak (.inr ⟨k,h,rfl⟩)
end Pal
namespace Pal
theorem UY{n:Nat}{lk:Bm}(h:H8 n lk=none):Cg n lk∧lk.length≤4:=by
 unfold H8 at h;split at h
 ·cases h
 rename_i ap;have K:∀i (hi:i<lk.length),¬(lk[i].1<0∨6<lk[i].1)∧¬(0<i∧lk[i].1<(lk.getD (i - 1) (0,0)).1)∧¬(lk[i].2<0∨(n:Int) - 1<lk[i].2):=fun i hi=>by
  have:=List.findSome?_eq_none_iff.1 h i (List.mem_range.2 hi);unfold Fu at this;rw [Er hi] at this;split at this
  ·cases this
  ·split at this
   ·cases this
   ·split at this
    ·cases this
    ·rename_i V Y Z;exact⟨V,Y,Z⟩
 refine⟨⟨by omega,fun l O=>?_,fun l O=>?_,?_⟩,by omega⟩
 ·obtain⟨i,hi,rfl⟩:=List.mem_iff_getElem.1 O;have:=(K i hi).1;omega
 ·obtain⟨i,hi,rfl⟩:=List.mem_iff_getElem.1 O;have:=(K i hi).2.2;omega
 ·have step:∀i (hi:i+1<lk.length),lk[i].1≤lk[i+1].1:=fun i hi=>by
   have:=(K (i+1) hi).2.1;rw [show i+1 - 1=i by omega,Er (by omega)] at this;omega
  rw [List.pairwise_iff_getElem];intro i j hi av a0;have key:∀k (U:i+1+k<lk.length),lk[i].1≤lk[i+1+k].1:=fun k=>by
   induction k with
   | zero=>intro U;exact step i U
   | succ k ag=>intro U;have al:=ag (by omega);have am:=step (i+1+k) (by omega);exact Int.le_trans al am
  have:=key (j - i - 1) (by omega);simpa [show i+1+(j - i - 1)=j by omega] using this
theorem MM{J:JW}{lk:Bm}(h:CL J lk=0):VJ J.1.length J∧Cg J.1.length lk∧lk.length≤4:=by
 unfold CL at h;cases O:CJ J with
 | some c=>rw [O] at h;exact absurd h (TK O)
 | none=>
  rw [O] at h;refine⟨WJ O,UY ?_⟩;cases K:H8 J.1.length lk with
  | none=>rfl
  | some c=>
   rw [K] at h;simp only [Option.getD_some] at h;subst h;exfalso;unfold H8 at K;split at K
   ·cases K
   ·obtain⟨i,_,hi⟩:=List.exists_of_findSome?_eq_some K;unfold Fu at hi;split at hi
    ·cases hi
    ·split at hi
     ·cases hi
     ·split at hi <;> cases hi
theorem ZK{F:Nat}{J:JW}{lk:Bm}(K:100<F)(O:NL J)(h:CL J lk=0):HA F J lk=f69 F J lk:=by
 obtain⟨U,V,Y⟩:=MM h;rw [RB K O,h,Th K U V Y]
theorem aP{F:Nat}{J:JW}{lk:Bm}{p:Int}{b:Bool}(K:100<F)(O:NL J)(h:CL J lk=0):H6 F J lk p b=f78 F J lk p b:=by
 unfold H6 f78;rw [ZK K O h]
def bP(J:JW)(lk:Bm)(r:Int×Int):Prop:=(CL J lk≠0∧r=(0,CL J lk))∨(CL J lk=0∧((TT J lk= []∧r=(0,11))∨∃k,GL J lk k∧r=((k:Int),0)))
theorem GL.ne{J:JW}{lk:Bm}{k:Nat}(h:GL J lk k):TT J lk≠ []:=fun e=>by
 obtain⟨⟨t,ht,_⟩,_⟩:=h
 rw [e] at ht;simp at ht
theorem Yc{F:Nat}{J:JW}{lk:Bm}(U:100<F)(V:NL J):A1 (f48 F J lk) (bP J lk):=by
 unfold f48;refine AL (YQ U V) (Bs (fun h=>Ak (.inl ⟨h,rfl⟩)) (fun h=>?_));have K:CL J lk=0:=by simpa using h
 obtain⟨Y,Z,ag⟩:=MM K;refine AE (ar U Y Z) ?_;rintro r (⟨O,rfl⟩ | ⟨k,O,rfl⟩)
 ·exact Bq (by omega) (Ak (.inr ⟨K,.inl ⟨O,rfl⟩⟩))
 ·exact A6 (by omega) (Ak (.inr ⟨K,.inr ⟨k,O,rfl⟩⟩))
end Pal
namespace Pal
theorem GL.le{n k:Nat}{J:JW}{lk:Bm}(K:VJ n J)(O:Cg n lk)(h:GL J lk k):k≤lk.length:=by
 obtain⟨⟨t,ht,rfl⟩,_⟩:=h;obtain⟨a,V,U⟩:=Lq.1 ht;exact R1 K O U
def Jt(J:JW)(lk:Bm)(q lo hi a:Nat):Bool:=(List.range (lk.length+1)).any fun k=>decide (lo≤k)&&decide (k≤hi)&&decide (0<nT J lk q a k)
theorem O4{J:JW}{lk:Bm}{q lo hi a:Nat}:Jt J lk q lo hi a=true↔∃k,k≤lk.length∧lo≤k∧k≤hi∧0<nT J lk q a k:=by
 unfold Jt;simp only [List.any_eq_true,List.mem_range,Bool.and_eq_true,decide_eq_true_iff];exact⟨fun⟨k,V,⟨K,O⟩,U⟩=>⟨k,by omega,K,O,U⟩,fun⟨k,V,K,O,U⟩=>⟨k,by omega,⟨K,O⟩,U⟩⟩
def Oe(J:JW)(lk:Bm)(q lo hi:Nat):List Int:=((List.range 13).filter (Jt J lk q lo hi)).map fun(a:Nat)=>(a:Int)
theorem Ti{F n q lo hi:Nat}{J:JW}{lk:Bm}(al:100<F)(am:VJ n J)(Z:Cg n lk)(ap:lo≤lk.length)(av:hi<20):f81 F (LZ J lk q) (lo:Int) (hi:Int)=some (Oe J lk q lo hi):=by
 have a0:=Z.len;refine C3 ?_;unfold f81;refine AE (S:=fun r=>r=Oe J lk q lo hi) ?_ (fun r K=>Ak K);refine B6 13 (fun a s=>s=(((List.range a).filter (Jt J lk q lo hi)).map (fun(a:Nat)=>(a:Int)),(a:Int))) rfl (by omega) ?_ ?_
 ·rintro a s V rfl;unfold Nu;refine Bq (by simp only [LZ,List.length_map,List.length_range];omega) (AE (S:=fun r=>r=Jt J lk q lo hi a) ?_ ?_)
  ·refine B6 (min hi lk.length+1 - lo) (fun i s=>s.2=((lo+i:Nat):Int)∧(s.1=true↔∃k,lo≤k∧k<lo+i∧0<nT J lk q a k)) ⟨rfl,by simp;omega⟩ (by omega) ?_ ?_
   ·rintro i ⟨b,s⟩ a1 ⟨hs,hb⟩;simp only at hs hb;subst hs;unfold NS;refine AL (b:=true) ?_ ?_
    ·refine C3 (Bq (by simp only;omega) ?_);refine EA (i:=a) rfl V (Ak (decide_eq_true ?_));simp only [TR,List.length_map,List.length_range];omega
    refine Bq rfl (AE (S:=fun r=>r=true↔∃k,lo≤k∧k<lo+(i+1)∧0<nT J lk q a k) ?_ ?_)
    ·refine Bs (fun h=>?_) (fun h=>?_)
     ·obtain⟨k,k1,U,O⟩:=hb.1 h;exact Ak ⟨fun _=>⟨k,k1,by omega,O⟩,fun _=>rfl⟩
     ·refine EA (i:=a) rfl V (EA (i:=lo+i) rfl (by omega) ?_);refine Ak ?_;rw [decide_eq_true_iff];constructor
      ·intro a2;exact⟨lo+i,by omega,by omega,by omega⟩
      ·rintro⟨k,k1,U,O⟩;rcases Nat.lt_or_ge k (lo+i) with Y | Y
       ·exact absurd (hb.2 ⟨k,k1,Y,O⟩) h
       ·obtain rfl:k=lo+i:=by omega
        omega
    ·intro r K;exact AT ((lo+(i+1):Nat):Int) (by clear K hb;simp only;omega) (by clear K hb;omega) (by clear K hb;omega) (Ak ⟨rfl,K⟩)
   ·rintro⟨b,s⟩ ⟨hs,hb⟩;simp only at hs hb;subst hs;unfold NS;refine AL (b:=false) ?_ ?_
    ·refine C3 (Bs (fun h=>?_) (fun h=>Ak rfl));refine EA (i:=a) rfl V (Ak (decide_eq_false ?_));simp only at h;simp only [TR,List.length_map,List.length_range];omega
    refine A6 (by simp) (Ak ⟨_,rfl,?_⟩);simp only;rw [Bool.eq_iff_iff,hb,O4];clear hb;exact⟨fun⟨k,k1,U,O⟩=>⟨k,by omega,k1,by omega,O⟩,fun⟨k,k1,U,O,ag⟩=>⟨k,U,by omega,ag⟩⟩
  ·rintro r rfl;refine AE (S:=fun c=>c=((List.range (a+1)).filter (Jt J lk q lo hi)).map (fun(a:Nat)=>(a:Int))) ?_ ?_
   ·rw [List.range_succ,List.filter_append,List.map_append];refine Bs (fun h=>?_) (fun h=>?_)
    ·refine JD ?_ (Ak ?_)
     ·rw [List.length_map];exact Nat.le_trans (Nat.add_le_add_right (Nat.le_trans (List.length_filter_le _ _) (Nat.le_of_eq (List.length_range))) 1) (by omega)
     ·simp [List.filter_cons,h]
    ·refine Ak ?_;simp [List.filter_cons,h]
   ·rintro c rfl;exact AT ((a+1:Nat):Int) (by simp) (by omega) (by omega) (Ak rfl)
 ·rintro s rfl;unfold Nu;exact A6 (by simp only [LZ,List.length_map,List.length_range];omega) (Ak ⟨_,rfl,rfl⟩)
end Pal
namespace Pal
end Pal
namespace Pal
open Go Go.Conc Go.Proofs
open Go.Proofs.Tryz
variable {J:Judge Tryz.prog}{E:LH}
def Nf(fuel:Nat)(p0:AJ)(p1:Int×Int)(K:Int):Option (Bd Int Int):= Option.bind (if K<(p0.length:Int) then((ix p0 K).bind fun O=> some (decide (O.1≤p1.1))) else(some false)) fun U=> if U=true then((As (K+1)).bind fun V=> some (.more V)) else(some (.done K))
def f91(fuel:Nat)(p0:AJ)(p1:Int×Int):Option ((AJ)×Int):= Option.bind (iter (Nf fuel p0 p1) fuel 0) fun K=> (IM p0 0 K).bind fun O=> (CQ ([]:AJ) O).bind fun U=> (CQ U ([p1]:AJ)).bind fun V=> (IM p0 K (p0.length:Int)).bind fun Y=> (CQ V Y).bind fun Z=> some (Z,K)
theorem bA{U:Ap}{c2:Nat}{p0:AJ}{p1:Int×Int}(V:Al Bg E U c2 p0){fuel:Nat}{r:(AJ)×Int}(a5:f91 fuel p0 p1=some r):AN J 91 [sV U p0 c2,.agg #[iV p1.1,iV p1.2]] E [] (fun w E' B'=>∃(a6:Ap) (a7:Nat),w= .tuple #[sV a6 r.1 a7,iV r.2]∧B'= []∧Al Bg E' a6 a7 r.1):=by
 refine A3 func91 fun Q dJ cs H bw ag=>?_;unfold f91 at a5;refine zg 2 rfl (Ca bw fun al dK K a8 bU=>?_);obtain⟨bV,bW,bY⟩:=bs a5;refine zg 8 rfl (CK [] [(0,sV U p0 c2),(3,pV al 0),(6,iV bV)] (fun dL O a9=>?_) (fun bZ=>?_))
 ·refine JL.seq (C5 7 fun ht=>?_);refine AZ ht rfl [1,2] rfl ?_;obtain⟨b0,b1,b2⟩:=bs bY;obtain⟨b3,b4,am,b5⟩:=Al.cut (V.Ai (K.Ac O)) b1;refine Np (v:= sV b3 b0 b4) 3 rfl ht (by decide+kernel) rfl rfl rfl (fun ρ h s' hs=>b5 underlying25 BF (h _ _ rfl) (h _ _ rfl) rfl) (Fi 5 ht (a8.Ai O) Gh BF rfl rfl rfl ?_);obtain⟨dM,ap,av⟩:=bs b2;refine HX (i:=0) (j:=6) rfl (by decide+kernel) ?_ ?_
  ·refine Take.Tz (pp:=Bg) a9 rfl rfl rfl underlying25 BF fun dN dO bb bd=>HX (i:=4) (j:=6) rfl (by decide+kernel) ?_ ?_
   ·refine Take.PR (pp:=Bg) 0 bd ap rfl rfl rfl rfl rfl rfl rfl underlying25 underlying25 BF (Cy type27) C7 rfl (by decide) (by decide) bb am rfl fun dP dQ dR dS b6 b7=>JG.one (i:=6) rfl (by decide+kernel) (Take.Js (pp:=Bg) [.agg #[iV p1.1,iV p1.2]] ([p1]:AJ) b7 rfl rfl rfl underlying25 BF C7 (by decide) rfl rfl rfl ⟨⟨_,_,rfl,rfl,rfl⟩,trivial⟩ fun dT dU b8 b9=>?_);refine Cj [7,8] (Ep 0 rfl b9 fun ca=>?_);refine JS.drop 0 ca rfl fun cb=>BU 1 b8 cb rfl fun dV a0 cc cd=>?_;obtain⟨dW,ce,cf⟩:=bs av;refine G6 (pp:=Bg) 2 ce rfl rfl rfl rfl rfl rfl rfl underlying25 underlying25 BF (Cy type27) C7 rfl (by decide) (by decide) (b6.Ai a0) cc cd rfl fun dX dY dZ cg ci=>?_;obtain⟨ea,ck,cm⟩:=bs cf;refine zg 7 rfl (JS.cut (V.Ai ((K.Ac O).Ac a0)) ck rfl rfl rfl rfl rfl rfl underlying25 BF fun eb ec cn=>?_);obtain⟨ed,co,cp⟩:=bs cm;refine G6 (pp:=Bg) 2 co rfl rfl rfl rfl rfl rfl rfl underlying25 underlying25 BF (Cy type27) C7 rfl (by decide) (by decide) cg cn ci rfl fun cq cr ee ct cu=>zg 4 rfl (BU 2 ct cu rfl fun ef cv cw cy=>?_);obtain rfl:=oi cp;exact AB func91 rfl rfl (ag (((K.Ac O).Ac a0).Ac cv) rfl ⟨cq,cr,rfl,rfl,cw⟩ cy)
   ·refine Take.Js (pp:=Bg) [.agg #[iV p1.1,iV p1.2]] ([p1]:AJ) bd rfl rfl rfl underlying25 BF C7 (by decide) rfl rfl rfl ⟨⟨_,_,rfl,rfl,rfl⟩,trivial⟩ fun eg eh cz cA=>JG.one (i:=4) rfl (by decide+kernel) (Take.PR (pp:=Bg) 0 cA ap rfl rfl rfl rfl rfl rfl rfl underlying25 underlying25 BF (Cy type27) C7 rfl (by decide) (by decide) bb am rfl fun ei ej ek el cB cC=>?_);refine Cj [7,8] (Ep 0 rfl cC fun cD=>?_);refine JS.drop 0 cD rfl fun cE=>BU 1 cz cE rfl fun em a1 cF cG=>?_;obtain⟨en,cH,cI⟩:=bs av;refine G6 (pp:=Bg) 2 cH rfl rfl rfl rfl rfl rfl rfl underlying25 underlying25 BF (Cy type27) C7 rfl (by decide) (by decide) (cB.Ai a1) cF cG rfl fun eo ep eq cJ cK=>?_;obtain⟨er,cM,cN⟩:=bs cI;refine zg 7 rfl (JS.cut (V.Ai ((K.Ac O).Ac a1)) cM rfl rfl rfl rfl rfl rfl underlying25 BF fun et eu cO=>?_);obtain⟨ew,cP,cQ⟩:=bs cN;refine G6 (pp:=Bg) 2 cP rfl rfl rfl rfl rfl rfl rfl underlying25 underlying25 BF (Cy type27) C7 rfl (by decide) (by decide) cJ cO cK rfl fun cR cT ex cV cW=>zg 4 rfl (BU 2 cV cW rfl fun ey cX cY cZ=>?_);obtain rfl:=oi cQ;exact AB func91 rfl rfl (ag (((K.Ac O).Ac a1).Ac cX) rfl ⟨cR,cT,rfl,rfl,cY⟩ cZ)
  ·refine Take.Js (pp:=Bg) [.agg #[iV p1.1,iV p1.2]] ([p1]:AJ) a9 rfl rfl rfl underlying25 BF C7 (by decide) rfl rfl rfl ⟨⟨_,_,rfl,rfl,rfl⟩,trivial⟩ fun ez eA c0 c1=>JG.one (i:=0) rfl (by decide+kernel) (Take.Tz (pp:=Bg) c1 rfl rfl rfl underlying25 BF fun eB eC c3 c4=>?_);refine JG.one (i:=4) rfl (by decide+kernel) (Take.PR (pp:=Bg) 1 c4 ap rfl rfl rfl rfl rfl rfl rfl underlying25 underlying25 BF (Cy type27) C7 rfl (by decide) (by decide) c3 am rfl fun eD eE eF eG c5 c6=>?_);refine Cj [7,8] (Ep 1 rfl c6 fun c7=>?_);refine JS.drop 1 c7 rfl fun c8=>BU 0 c0 c8 rfl fun eH a2 c9 da=>?_;obtain⟨eI,db,dc⟩:=bs av;refine G6 (pp:=Bg) 2 db rfl rfl rfl rfl rfl rfl rfl underlying25 underlying25 BF (Cy type27) C7 rfl (by decide) (by decide) (c5.Ai a2) c9 da rfl fun eJ eK eL dd de=>?_;obtain⟨eM,df,dg⟩:=bs dc;refine zg 7 rfl (JS.cut (V.Ai ((K.Ac O).Ac a2)) df rfl rfl rfl rfl rfl rfl underlying25 BF fun eN eO dh=>?_);obtain⟨eP,di,dj⟩:=bs dg;refine G6 (pp:=Bg) 2 di rfl rfl rfl rfl rfl rfl rfl underlying25 underlying25 BF (Cy type27) C7 rfl (by decide) (by decide) dd dh de rfl fun dk dl eQ dm dn=>zg 4 rfl (BU 2 dm dn rfl fun eR dp dq dr=>?_);obtain rfl:=oi dj;exact AB func91 rfl rfl (ag (((K.Ac O).Ac a2).Ac dp) rfl ⟨dk,dl,rfl,rfl,dq⟩ dr)
 ·refine JL.block (Cp bW (fun Y=> []) (fun Y=> [(0,sV U p0 c2),(3,pV al 0),(6,iV Y)]) Ar bU ?_);rintro Y dt Z be du ⟨eS,a3⟩ dv;have bi:=a3;unfold Nf at bi;refine zg 2 rfl (C5 14 fun ht=>?_);refine AZ ht rfl [0,1] rfl (BA 2 ht rfl rfl (fun ρ h s' hs=>Yl.len rfl underlying25 (h _ _ rfl)) ?_);refine AZ ht rfl [3,4] rfl ?_;obtain⟨dw,bo,dx⟩:=bs bi;refine Eg 0 #[true,true,true,true,true,true,true,true,true,true,true,true,true,true] (fun L s=>L= [(0,sV U p0 c2),(3,pV al 0),(6,iV Y),(21,.bool dw)]∧s=An dt H []) ?_ ?_
  ·rintro _ _ ⟨rfl,rfl⟩;refine AY.fin (by decide+kernel) (BI dx (fun dy dz=>?_) (fun dy dA=>?_))
   ·obtain⟨dB,dC,dD⟩:=bs dz;refine zg 4 rfl (Ba dC rfl rfl rfl ?_);refine zg 3 rfl ?_;obtain rfl:=oi dD;exact dv dB Z be rfl a3
   ·refine JL.exit rfl ?_;obtain rfl:=oi dA;obtain rfl:=du _ a3;exact bZ Z be rfl
  ·intro bv;refine EW (q:=Y<(p0.length:Int)) (i:=12) rfl (fun a4=>?_) (fun a4=>?_)
   ·have dE:=ip bo a4;refine AZ ht rfl [5,6] rfl ?_;obtain⟨eT,dF,dG⟩:=bs dE;refine CN 7 (V.Ai (K.Ac Z)) dF ht underlying25 BF ?_;rintro eU eV _ ⟨_,_,rfl,rfl,rfl⟩ dH;refine B9 8 ht underlying27 AX rfl rfl rfl rfl ?_;refine Cz 9 ht 0 dH By rfl rfl rfl rfl ?_;refine B9 10 ht underlying27 AX rfl rfl rfl rfl ?_;refine Cz 11 ht 0 (a8.Ai Z) By rfl rfl rfl rfl ?_;refine AZ ht rfl [12,13] rfl ?_;obtain rfl:=oi dG;refine CH ?_ (bv _ _ ⟨rfl,rfl⟩);exact⟨rfl,rfl,rfl,rfl,trivial⟩
   ·have dI:=im bo a4;refine AZ ht rfl [5,6,7,8,9,10,11,12,13] rfl ?_;obtain rfl:=oi dI;refine CH ?_ (bv _ _ ⟨rfl,rfl⟩);exact⟨rfl,rfl,rfl,rfl,trivial⟩
def NJ(fuel:Nat)(p0:A9)(p1:AJ)(O:Int×Int)(V:Int×Int×Int)(K:Int×Int):Option (Bd (Int×Int) Int):= if K.2<(p0.1.length:Int) then((f91 fuel p1 (V.2.2,K.2)).bind fun U=> (f79 fuel p0 U.1 U.2).bind fun Y=> (f81 fuel Y O.1 O.1).bind fun Z=> (As (K.2+1)).bind fun ag=> some (.more (max K.1 ((Z.length:Int)),ag))) else(some (.done K.1))
def NV(fuel:Nat)(p0:A9)(p1:AJ)(V:Int×Int)(K:Int×Int×Int):Option (Bd (Int×Int×Int) (Int×Int)):= if K.2.2≤6 then(Option.bind (iter (NJ fuel p0 p1 V K) fuel (0,0)) fun O=> Option.bind (if O<K.2.1 then(some (K.2.2,O)) else(some (K.1,K.2.1))) fun U=> (As (K.2.2+1)).bind fun Y=> some (.more (U.1,U.2,Y))) else(some (.done (K.1,K.2.1)))
def f36(fuel:Nat)(p0:A9)(p1:AJ):Option (Int×Int×Int):= (f48 fuel p0 p1).bind fun K=> if K.2≠0 then(some (0,0,K.2)) else((f79 fuel p0 p1 (-1)).bind fun U=> (f81 fuel U K.1 K.1).bind fun V=> Option.bind (iter (NV fuel p0 p1 K) fuel ((-1),(V.length:Int),0)) fun O=> if O.1<0 then(some (0,0,11)) else(some (O.1,O.2,0)))
theorem aQ{bb:Ap}{c2:Nat}{bd:Ap}{be:Nat}{am:Ap}{ap:Nat}{p0:A9}{p1:AJ}(a4:Al (rL rI) E bb c2 p0.1)(a5:Al (rL rI) E bd be p0.2)(a6:Al Bg E am ap p1){fuel:Nat}{r:Int×Int×Int}(bi:f36 fuel p0 p1=some r):AN J 36 [.agg #[sV bb p0.1 c2,sV bd p0.2 be],sV am p1 ap] E [] (fun w E' B'=>w= .tuple #[iV r.1,iV r.2.1,iV r.2.2]∧B'= []):=by
 refine A3 func36 fun Q db cs H b3 a7=>?_;unfold f36 at bi;refine zg 2 rfl (Ca b3 fun av dc O a0 b4=>?_);refine zg 6 rfl (BX a0 Cd BJ rfl rfl ?_);obtain⟨a1,b5,b6⟩:=bs bi;refine zg 1 rfl (BH (bK (a4.Ai O) (a5.Ai O) (a6.Ai O) b5) rfl rfl (AV func48 rfl) b4 fun dd U bo=>?_);refine zg 12 rfl (AM b6 (fun b7 b8=>?_) (fun b7 b9=>?_))
 ·refine zg 7 rfl ?_;obtain rfl:=oi b8;exact AB func36 rfl rfl (a7 (O.Ac U) rfl ⟨rfl,rfl⟩ bo)
 ·refine zg 3 rfl (BX (a0.Ai U) Cd BJ rfl rfl ?_);obtain⟨de,ca,cb⟩:=bs b9;refine zg 1 rfl (BN (PS (a4.Ai (O.Ac U)) (a5.Ai (O.Ac U)) (a6.Ai (O.Ac U)) ca) rfl rfl Oz bo ?_);rintro _ df _ V ⟨dg,dh,rfl,rfl,cc⟩ cd;obtain⟨di,ce,cf⟩:=bs cb;refine zg 2 rfl (BN (TC cc ce) rfl rfl (AV func81 rfl) cd ?_);rintro _ dj _ Y ⟨dk,dl,rfl,rfl,dm⟩ cg;refine Bh underlying28 rfl rfl rfl ?_;obtain⟨bv,ci,ck⟩:=bs cf;refine zg 8 rfl (CK [] [(9,iV bv.1),(10,iV bv.2)] (fun dn bw bU=>?_) (fun cm=>?_))
  ·refine zg 6 rfl (AM ck (fun cn co=>?_) (fun cn cp=>?_))
   ·refine zg 6 rfl ?_;obtain rfl:=oi co;exact AB func36 rfl rfl (a7 ((((O.Ac U).Ac V).Ac Y).Ac bw) rfl ⟨rfl,rfl⟩ bU)
   ·refine zg 9 rfl ?_;obtain rfl:=oi cp;exact AB func36 rfl rfl (a7 ((((O.Ac U).Ac V).Ac Y).Ac bw) rfl ⟨rfl,rfl⟩ bU)
  ·refine JL.block (Cp ci (fun K=> []) (fun K=> [(1,sV am p1 ap),(2,pV av 0),(7,iV a1.1),(9,iV K.1),(10,iV K.2.1),(11,iV K.2.2)]) Ar cg ?_);rintro K dp Z bV cq ⟨dq,a8⟩ cr;have bW:=a8;unfold NV at bW;refine zg 6 rfl (AM bW (fun ct cu=>?_) (fun ct cv=>?_))
   ·obtain⟨cw,cy,cz⟩:=bs cu;refine zg 12 rfl (CK [] [(1,sV am p1 ap),(2,pV av 0),(7,iV a1.1),(9,iV K.1),(10,iV K.2.1),(11,iV K.2.2),(12,iV cw)] (fun dr cA bY=>?_) (fun cB=>?_))
    ·obtain⟨a2,cC,cD⟩:=bs cz;refine zg 6 rfl (CK [] [(1,sV am p1 ap),(2,pV av 0),(7,iV a1.1),(9,iV a2.1),(10,iV a2.2),(11,iV K.2.2)] (fun dt cE cF=>?_) (fun bZ=>?_))
     ·obtain⟨cG,cH,cI⟩:=bs cD;refine zg 3 rfl (Ba cH rfl rfl rfl ?_);refine zg 2 rfl ?_;obtain rfl:=oi cI;exact cr (a2.1,a2.2,cG) ((Z.Ac cA).Ac cE) cF rfl a8
     ·refine AM cC (fun cJ cK=>?_) (fun cJ cM=>?_)
      ·refine zg 6 rfl ?_;obtain rfl:=oi cK;exact bZ Ar bY rfl
      ·refine JL.skip ?_;obtain rfl:=oi cM;exact bZ Ar bY rfl
    ·refine JL.block (Cp cy (fun ag=> []) (fun ag=> [(1,sV am p1 ap),(2,pV av 0),(7,iV a1.1),(9,iV K.1),(10,iV K.2.1),(11,iV K.2.2),(12,iV ag.1),(13,iV ag.2)]) Ar bV ?_);rintro ag du al b0 cN ⟨dv,a9⟩ cO;have b1:=a9;unfold NJ at b1;refine zg 4 rfl (JL.fl 0 (a0.Ai ((((U.Ac V).Ac Y).Ac Z).Ac al)) underlying24 BR Cv ?_);refine Bh underlying22 rfl rfl rfl (zg 2 rfl ?_);refine AM b1 (fun cP cQ=>?_) (fun cP cR=>?_)
     ·refine zg 8 rfl (AF (v:= .agg #[iV K.2.2,iV ag.2]) rfl (fun ρ h=>Di [(0,1),(1,1)] h C7 underlying27 ⟨rfl,Bv type3,rfl,Bv type3,trivial⟩ rfl rfl) ?_);obtain⟨dw,cT,cV⟩:=bs cQ;refine BN (bA (a6.Ai (((((O.Ac U).Ac V).Ac Y).Ac Z).Ac al)) cT) rfl rfl (AV func91 rfl) b0 ?_;rintro _ dx _ a3 ⟨dy,dz,rfl,rfl,cW⟩ cX;refine zg 8 rfl (BX (a0.Ai (((((U.Ac V).Ac Y).Ac Z).Ac al).Ac a3)) Cd BJ rfl rfl ?_);obtain⟨dA,cY,cZ⟩:=bs cV;refine zg 2 rfl (BN (PS (a4.Ai ((((((O.Ac U).Ac V).Ac Y).Ac Z).Ac al).Ac a3)) (a5.Ai ((((((O.Ac U).Ac V).Ac Y).Ac Z).Ac al).Ac a3)) cW cY) rfl rfl Oz cX ?_);rintro _ dB _ c0 ⟨dC,dD,rfl,rfl,c1⟩ c3;obtain⟨b2,c4,c5⟩:=bs cZ;refine zg 2 rfl (BN (TC c1 c4) rfl rfl (AV func81 rfl) c3 ?_);rintro _ dE _ c6 ⟨dF,dG,rfl,rfl,dH⟩ c7;refine Bh underlying28 rfl rfl rfl (AF (v:=iV (max ag.1 ((b2.length:Int)))) rfl (fun ρ h=>Yl.max2 (h _ _ rfl) (h _ _ rfl)) ?_);obtain⟨c8,c9,da⟩:=bs c5;refine zg 5 rfl (Ba c9 rfl rfl rfl ?_);refine zg 2 rfl ?_;obtain rfl:=oi da;exact cO (max ag.1 ((b2.length:Int)),c8) (((al.Ac a3).Ac c0).Ac c6) c7 rfl a9
     ·refine JL.exit rfl ?_;obtain rfl:=oi cR;obtain rfl:=cN _ a9;exact cB al b0 rfl
   ·refine JL.exit rfl ?_;obtain rfl:=oi cv;obtain rfl:=cq _ a8;exact cm Z bV rfl
end Pal
namespace Pal
def Ou(lk:Bm)(l:Int×Int)(q:Nat):Prop:=q≤lk.length∧(∀(i:Nat) x,i<q→lk[i]? =some x→x.1≤l.1)∧∀x,lk[q]? =some x→l.1<x.1
theorem Y3{F:Nat}{lk:Bm}{l:Int×Int}(Z:100<F)(ag:lk.length<100):A1 (f91 F lk l) (fun r=>∃q,Ou lk l q∧r=(lk.take q++ [l]++lk.drop q,(q:Int))):=by
 unfold f91;refine AE (S:=fun r=>∃q,Ou lk l q∧r=(q:Int)) ?_ ?_
 ·refine B6 lk.length (fun i s=>s=(i:Int)∧∀(j:Nat) x,j<i→lk[j]? =some x→x.1≤l.1) ⟨rfl,fun j x Y=>by omega⟩ (by omega) ?_ ?_
  ·rintro i s hi ⟨rfl,O⟩;unfold Nf;refine AE (S:=fun c=>c=decide (lk[i].1≤l.1)) ?_ ?_
   ·refine Bq (by omega) (Bp (m:=i) rfl hi ?_);exact Ak rfl
   ·rintro c rfl;refine Bs (fun h=>?_) (fun h=>?_)
    ·refine AT ((i+1:Nat):Int) (by simp) (by omega) (by omega) (Ak ⟨rfl,fun j x Y K=>?_⟩);rcases Nat.lt_or_ge j i with U | U
     ·exact O j x U K
     ·obtain rfl:j=i:=by omega
      rw [List.getElem?_eq_getElem hi] at K;cases K;exact of_decide_eq_true h
    ·refine Ak ⟨i,⟨by omega,O,fun x K=>?_⟩,rfl⟩;rw [List.getElem?_eq_getElem hi] at K;cases K;have:¬lk[i].1≤l.1:=fun U=>h (decide_eq_true U);omega
  ·rintro s ⟨rfl,O⟩;unfold Nf;refine AL (b:=false) (by rw [if_neg (by omega)]) (A6 (by simp) (Ak ⟨_,rfl,lk.length,⟨Nat.le_refl _,O,fun x K=>?_⟩,rfl⟩));rw [List.getElem?_eq_none (Nat.le_refl _)] at K;cases K
 ·rintro r ⟨q,V,rfl⟩;have al:=V.1;refine AL (b:=lk.take q) (by unfold IM;rw [if_pos ⟨by omega,by omega,by omega⟩];simp) (AL (b:=lk.take q) (by unfold CQ;rw [if_pos (by simp;omega)];rfl) ?_);refine AL (b:=lk.take q++ [l]) (by unfold CQ;rw [if_pos (by simp;omega)]) (AL (b:=lk.drop q) (by unfold IM;rw [if_pos ⟨by omega,by omega,by omega⟩];simp) ?_);exact AL (b:=lk.take q++ [l]++lk.drop q) (by unfold CQ;rw [if_pos (by simp;omega)]) (Ak ⟨q,V,rfl⟩)
theorem MC{lk:Bm}{l:Int×Int}{q:Nat}:(lk.take q++ [l]++lk.drop q).Perm (lk++ [l]):=by
 have K:(lk.take q++ [l]++lk.drop q).Perm (lk.take q++lk.drop q++ [l]):=by
  rw [List.append_assoc,List.append_assoc];exact List.Perm.append_left _ List.perm_append_comm
 rwa [List.take_append_drop] at K
theorem Cg.with{n q:Nat}{lk:Bm}{l:Int×Int}(h:Cg n lk)(av:lk.length<8)(O:0≤l.1∧l.1≤6)(hs:0≤l.2∧l.2<(n:Int))(V:Ou lk l q):Cg n (lk.take q++ [l]++lk.drop q):=by
 have hm:∀x∈lk.take q++ [l]++lk.drop q,x∈lk∨x=l:=fun x K=>by
  have:=(MC (lk:=lk) (l:=l) (q:=q)).mem_iff.1 K;simpa using this
 refine⟨?_,fun x K=>?_,fun x K=>?_,?_⟩
 ·rw [(MC (lk:=lk) (l:=l) (q:=q)).length_eq];simp;omega
 ·rcases hm x K with U | rfl
  ·exact h.yr x U
  ·exact O
 ·rcases hm x K with U | rfl
  ·exact h.sn x U
  ·exact hs
 ·have Y:=h.HH;rw [← List.take_append_drop q lk,List.pairwise_append] at Y;obtain⟨ag,al,am⟩:=Y;have hle:∀x∈lk.take q,x.1≤l.1:=fun x K=>by
   obtain⟨i,hi,e⟩:=List.mem_iff_getElem.1 K;rw [List.length_take] at hi;rw [List.getElem_take] at e;exact V.2.1 i x (by omega) (by rw [List.getElem?_eq_getElem (by omega),e])
  have ap:∀x∈lk.drop q,l.1≤x.1:=fun x K=>by
   obtain⟨i,hi,e⟩:=List.mem_iff_getElem.1 K;rw [List.length_drop] at hi;rw [List.getElem_drop] at e;have a0:=V.2.2 lk[q] (List.getElem?_eq_getElem (by omega));rcases Nat.eq_zero_or_pos i with Z | Z
   ·subst Z;simp at e;rw [← e];omega
   ·have:=List.pairwise_iff_getElem.1 h.HH q (q+i) (by omega) (by omega) (by omega);rw [← e];omega
  rw [List.append_assoc,List.pairwise_append];refine⟨ag,?_,fun x K y O=>?_⟩
  ·rw [List.singleton_append,List.pairwise_cons];exact⟨ap,al⟩
  ·rw [List.singleton_append,List.mem_cons] at O;rcases O with rfl | O
   ·exact hle x K
   ·exact am x K y O
end Pal
namespace Pal
open Go Go.Conc Go.Proofs
open Go.Proofs.Tryz
variable {J:Judge Tryz.prog}{E:LH}
def Om(fuel:Nat)(p0:AJ):Option ((AJ)):= (CQ ([]:AJ) p0).bind fun K=> some K
theorem Tm{K:Ap}{c2:Nat}{p0:AJ}(Y:Al Bg E K c2 p0){fuel:Nat}{r:(AJ)}(O:Om fuel p0=some r):AN J 27 [sV K p0 c2] E [] (fun w E' B'=>∃(U:Ap) (V:Nat) (g0:Seg),w= sV U r V∧B'=g0∧OL 27 Bg E' U V g0 r):=by
 refine A3 func27 fun Q a5 cs H Z ag=>?_;unfold Om at O;refine zg 6 rfl (Lj (pp:=Bg) rfl rfl rfl underlying25 BF Z fun a6 a7 al am=>?_);obtain⟨a8,ap,av⟩:=bs O;refine zg 1 rfl (G6 (pp:=Bg) 1 ap rfl rfl rfl rfl rfl rfl rfl underlying25 underlying25 BF (Cy type27) C7 rfl (by decide) (by decide) al Y am rfl fun a0 a1 a2 a3 a4=>?_);refine zg 2 rfl ?_;obtain rfl:=oi av;exact AB func27 rfl rfl (ag Ar rfl ⟨a0,a1,a2,rfl,(by first | rfl | simp | (simp [Value.cells])),a3⟩ a4)
def f25(fuel:Nat)(p0:AJ)(p1:Int×Int)(p2:A9)(p3:B7):Option ((List AJ)×(B7)):= (f40 fuel p3 p2 3).bind fun K=> (Om fuel K.1).bind fun O=> (CQ O ([p1]:AJ)).bind fun U=> some (([p0,K.1,U]:List AJ),K.2)
theorem bx{al:Ap}{c2:Nat}{a4:Ap}{a5:Nat}{a6:Ap}{a7:Nat}{bk:Nat}{a8:Ap}{a9:Nat}{p0:AJ}{p1:Int×Int}{p2:A9}{p3:B7}(bb:Al Bg E al c2 p0)(b4:Al (rL rI) E a4 a5 p2.1)(b5:Al (rL rI) E a6 a7 p2.2)(b6:Al rI E a8 a9 p3.1){fuel:Nat}{r:(List AJ)×(B7)}(bd:f25 fuel p0 p1 p2 p3=some r):AN J 25 [sV al p0 c2,.agg #[iV p1.1,iV p1.2],.agg #[sV a4 p2.1 a5,sV a6 p2.2 a7],pV bk 0] E [(bk,.cells #[sV a8 p3.1 a9,iV p3.2.1,.int .u64 ((p3.2.2:Nat):Int)] 92 (0,0))] (fun w E' B'=>∃(be:Ap) (bi:Nat) (bo:Ap) (bv:Nat),w= sV be r.1 bi∧B'= [(bk,.cells #[sV bo r.2.1 bv,iV r.2.2.1,.int .u64 ((r.2.2.2:Nat):Int)] 92 (0,0))]∧Al (rL Bg) E' be bi r.1∧Al rI E' bo bv r.2.1):=by
 refine A3 func25 fun Q c5 cs H b7 bw=>?_;unfold f25 at bd;refine zg 2 rfl (Ca b7 fun c6 c7 U b8 b9=>?_);refine Ca b9 fun c8 c9 O ca cb=>?_;refine zg 5 rfl (BX ca Cd BJ rfl rfl ?_);obtain⟨K,cc,cd⟩:=bs bd;refine B8 0 (bm (b6.Ai (U.Ac O)) (b4.Ai (U.Ac O)) (b5.Ai (U.Ac O)) cc) rfl rfl (AV func40 rfl) cb rfl ?_;rintro _ da _ Z ⟨am,ap,V,Y,rfl,rfl,av,bU⟩ ce;refine Cw (S':= [[(bk,.cells #[sV V K.2.1 Y,iV K.2.2.1,.int .u64 ((K.2.2.2:Nat):Int)] 92 (0,0))],[],[]]) rfl ce fun bV=>zg 3 rfl (C5 7 fun ht=>?_);refine AZ ht rfl [0,1,2] rfl (Fi 4 ht (b8.Ai (O.Ac Z)) Gh BF rfl rfl rfl ?_);obtain⟨db,bW,cf⟩:=bs cd;obtain⟨a0,bY,bZ⟩:=bs cf;refine HX (i:=3) (j:=5) rfl (by decide+kernel) ?_ ?_
 ·refine Take.H0 (vs:= [sV am K.1 ap]) bV (Tm av bW) rfl rfl rfl Ky rfl ?_;rintro _ dc _ a1 ⟨dd,de,df,rfl,rfl,cg⟩ ci;refine JG.one (i:=5) rfl (by decide+kernel) (Take.Js (pp:=Bg) [.agg #[iV p1.1,iV p1.2]] ([p1]:AJ) ci rfl rfl rfl underlying25 BF C7 (by decide) rfl rfl rfl ⟨⟨_,_,rfl,rfl,rfl⟩,trivial⟩ fun dg b0 ck cm=>?_);refine JG.one (i:=6) rfl (by decide+kernel) (Take.app0 (pp:=Bg) 3 4 cm bY rfl rfl rfl rfl rfl rfl rfl underlying25 underlying25 BF (Cy type27) C7 rfl (by decide) (by decide) cg ck rfl rfl fun cn co dh cp cq cr=>?_);refine Cj [7,8] (Ep 3 rfl cr fun ct=>?_);refine JS.drop 3 ct rfl fun cu=>Cw (S':= [[(bk,.cells #[sV V K.2.1 Y,iV K.2.2.1,.int .u64 ((K.2.2.2:Nat):Int)] 92 (0,0))],[],[],[],b0,cp]) rfl cu fun cv=>BU 5 cq cv rfl fun di a2 cw cy=>DK (pp:=(rL Bg)) [sV al p0 c2,sV am K.1 ap,sV cn a0 co] [p0,K.1,a0] rfl rfl rfl underlying35 HM (DG type25) (by decide) rfl rfl rfl ⟨⟨_,_,rfl,(bb.Ai ((((U.Ac O).Ac Z).Ac a1).Ac a2))⟩,⟨_,_,rfl,(av.Ai (a1.Ac a2))⟩,⟨_,_,rfl,cw⟩,trivial⟩ cy fun cz dj cA cB=>zg 2 rfl (BU 6 cA cB rfl fun dk b1 cC cD=>?_);refine Cw (S':= [[(bk,.cells #[sV V K.2.1 Y,iV K.2.2.1,.int .u64 ((K.2.2.2:Nat):Int)] 92 (0,0))],[],[],[],b0,[],[]]) rfl cD fun cE=>JS.drop 4 cE rfl fun cF=>?_;obtain rfl:=oi bZ;exact AB func25 rfl rfl (bw (((((U.Ac O).Ac Z).Ac a1).Ac a2).Ac b1) rfl ⟨(A0 cz),3,V,Y,rfl,rfl,cC,(bU.Ai ((a1.Ac a2).Ac b1))⟩ cF)
 ·refine Take.Js (pp:=Bg) [.agg #[iV p1.1,iV p1.2]] ([p1]:AJ) bV rfl rfl rfl underlying25 BF C7 (by decide) rfl rfl rfl ⟨⟨_,_,rfl,rfl,rfl⟩,trivial⟩ fun dl b2 cG cH=>JG.one (i:=3) rfl (by decide+kernel) (Take.H0 (vs:= [sV am K.1 ap]) cH (Tm av bW) rfl rfl rfl Ky rfl ?_);rintro _ dm _ ag ⟨dn,dp,dq,rfl,rfl,cI⟩ cJ;refine JG.one (i:=6) rfl (by decide+kernel) (Take.app0 (pp:=Bg) 4 3 cJ bY rfl rfl rfl rfl rfl rfl rfl underlying25 underlying25 BF (Cy type27) C7 rfl (by decide) (by decide) cI (cG.Ai ag) rfl rfl fun cK cM dr cN cO cP=>?_);refine Cj [7,8] (Ep 4 rfl cP fun cQ=>?_);refine JS.drop 4 cQ rfl fun cR=>Cw (S':= [[(bk,.cells #[sV V K.2.1 Y,iV K.2.2.1,.int .u64 ((K.2.2.2:Nat):Int)] 92 (0,0))],[],[],b2,[],cN]) rfl cR fun cT=>BU 5 cO cT rfl fun dt a3 cV cW=>DK (pp:=(rL Bg)) [sV al p0 c2,sV am K.1 ap,sV cK a0 cM] [p0,K.1,a0] rfl rfl rfl underlying35 HM (DG type25) (by decide) rfl rfl rfl ⟨⟨_,_,rfl,(bb.Ai ((((U.Ac O).Ac Z).Ac ag).Ac a3))⟩,⟨_,_,rfl,(av.Ai (ag.Ac a3))⟩,⟨_,_,rfl,cV⟩,trivial⟩ cW fun cX du cY cZ=>zg 2 rfl (BU 6 cY cZ rfl fun dv b3 c0 c1=>?_);refine Cw (S':= [[(bk,.cells #[sV V K.2.1 Y,iV K.2.2.1,.int .u64 ((K.2.2.2:Nat):Int)] 92 (0,0))],[],[],b2,[],[],[]]) rfl c1 fun c3=>JS.drop 3 c3 rfl fun c4=>?_;obtain rfl:=oi bZ;exact AB func25 rfl rfl (bw (((((U.Ac O).Ac Z).Ac ag).Ac a3).Ac b3) rfl ⟨(A0 cX),3,V,Y,rfl,rfl,c0,(bU.Ai ((ag.Ac a3).Ac b3))⟩ c4)
end Pal
namespace Pal
open Go Go.Conc Go.Proofs
open Go.Proofs.Tryz
def NC(fuel:Nat)(O:(List A9)×(B7))(U:(List AJ)×(B7))(K:Int):Option (Bd Int ((Bool)⊕(Unit))):= if K<(O.1.length:Int) then((ix O.1 K).bind fun al=> (ix U.1 K).bind fun am=> (f26 fuel al).bind fun Z=> (f27 fuel am).bind fun ag=> (Ju fuel Z ag).bind fun V=> (ix O.1 K).bind fun ap=> (ix U.1 K).bind fun av=> (f36 fuel ap av).bind fun Y=> Option.bind (if V.1≠Y.1 then(some true) else(some (decide (V.2.1≠Y.2.1)))) fun a0=> Option.bind (if a0=true then(some true) else(some (decide (V.2.2≠Y.2.2)))) fun a1=> Option.bind (if a1=true then(some true) else((ix O.1 K).bind fun a2=> (f33 fuel Z a2).bind fun a3=> some (!a3))) fun a4=> Option.bind (if a4=true then(some true) else((ix U.1 K).bind fun a5=> (f34 fuel ag a5).bind fun a6=> some (!a6))) fun a7=> if a7=true then(some (.done (Sum.inl false))) else((As (K+1)).bind fun a8=> some (.more a8))) else(some (.done (Sum.inr ())))
def Ot(fuel:Nat)(p0:A9)(p1:AJ)(p2:Int×Int)(p3:List Int):Option Bool:= (f21 fuel p0).bind fun O=> Option.bind (if O=true then(some true) else(some (decide (20<(p1.length:Int))))) fun U=> if U=true then((Km fuel).bind fun V=> some V) else((f23 fuel p3).bind fun Y=> (f24 fuel p0 Y).bind fun K=> (ix K.1 (1)).bind fun Z=> (f25 fuel p1 p2 Z K.2).bind fun ag=> Option.bind (iter (NC fuel K ag) fuel 0) fun al=> Sum.elim (fun r=>some r) (fun ap=> (Km fuel).bind fun am=> some am) al)
set_option maxHeartbeats 2000000 in
theorem XJ{E H:LH}{cr:Ap}{c2:Nat}{ct:Ap}{cu:Nat}{b2:Ap}{b3:Nat}{b4:Ap}{b5:Nat}{p0:A9}{p1:AJ}{p2:Int×Int}{p3:List Int}(b6:GE E)(cv:Al (rL rI) E cr c2 p0.1)(cw:Al (rL rI) E ct cu p0.2)(dr:Al Bg E b2 b3 p1)(dt:Al rI E b4 b5 p3){fuel:Nat}{r:Bool}(cy:Ot fuel p0 p1 p2 p3=some r):(D4 Tryz.prog).ok (La Tryz.prog (fun v _=>v= .bool r)) (G (Frame.enter Tryz.prog 4 ([.agg #[sV cr p0.1 c2,sV ct p0.2 cu],sV b2 p1 b3,.agg #[iV p2.1,iV p2.2],sV b4 p3 b5]:Lv_).toArray .normal) []) (mk E H []):=by
 refine VS func4 rfl rfl (Nat.le_of_ble_eq_true rfl) ?_;have du:Ax E H [[]]:=trivial;unfold Ot at cy;refine zg 2 rfl (Ca du fun dv gz U cz dw=>?_);refine Ca dw fun dx gA O dy dz=>?_;refine zg 5 rfl (BX (cz.Ai O) Cd BJ rfl rfl ?_);obtain⟨gB,dA,dB⟩:=bs cy;refine BH (bc (cv.Ai (U.Ac O)) (cw.Ai (U.Ac O)) dA) rfl rfl (AV func21 rfl) dz fun b7 V cA=>?_;obtain⟨dC,dD,dE⟩:=bs dB;refine zg 1 rfl (EY [] (fun L s=>∃(cB:LH),Jm b7 H cB [] [(1,sV b2 p1 b3),(3,sV b4 p3 b5),(4,pV dv 0),(6,pV dx 0),(27,.bool dC)] L s) ?_ ?_)
 ·rintro _ _ ⟨cB,rfl,rfl,Y,cC⟩;refine JL.done (BI dE (fun dF dG=>?_) (fun dF dH=>?_))
  ·obtain⟨dI,dJ,dK⟩:=bs dG;refine zg 2 rfl (BH (Tn (b6.Ai (((U.Ac O).Ac V).Ac Y)) dJ) rfl rfl (AV func22 rfl) cC fun gC gD gE=>?_);refine zg 2 rfl ?_;obtain rfl:=oi dK;exact Hp rfl (JO.end (v:= .bool dI) rfl (by decide+kernel) func4 rfl rfl rfl)
  ·obtain⟨gF,dL,dM⟩:=bs dH;refine zg 4 rfl (BN (bf (dt.Ai (((U.Ac O).Ac V).Ac Y)) dL) rfl rfl (AV func23 rfl) cC ?_);rintro _ gG _ am ⟨gH,gI,gJ,rfl,rfl,dN⟩ dO;refine zg 4 rfl (BX (cz.Ai (((O.Ac V).Ac Y).Ac am)) Cd BJ rfl rfl ?_);obtain⟨a1,dP,dQ⟩:=bs dM;refine zg 1 rfl (B8 0 (aV (cv.Ai ((((U.Ac O).Ac V).Ac Y).Ac am)) (cw.Ai ((((U.Ac O).Ac V).Ac Y).Ac am)) dN dP) rfl rfl (AV func24 rfl) dO rfl ?_);rintro _ gK _ bi ⟨a2,a3,gL,gM,rfl,rfl,bo,dR⟩ dS;refine zg 3 rfl (C5 6 fun ht=>?_);refine Ck 0 ht rfl rfl (Fi 1 ht (dy.Ai (((V.Ac Y).Ac am).Ac bi)) Gh BF rfl rfl rfl ?_);refine Ck 2 ht rfl rfl ?_;obtain⟨gN,dT,dU⟩:=bs dQ;refine CN 3 bo dT ht underlying33 BJ ?_;rintro gO gP _ ⟨_,_,rfl,⟨gQ,gR,rfl,dV⟩,⟨gS,gT,rfl,dW⟩⟩ dX;refine Fi 4 ht dX Cd BJ rfl rfl rfl (Ck 5 ht rfl rfl ?_);refine Cj [6,7] ?_;obtain⟨a4,dY,dZ⟩:=bs dU;refine B8 0 (bx (dr.Ai (((((U.Ac O).Ac V).Ac Y).Ac am).Ac bi)) dV dW dR dY) rfl rfl (AV func25 rfl) dS rfl ?_;rintro _ ea _ bb ⟨a5,a6,gU,gV,rfl,rfl,b8,gW⟩ eb;obtain⟨cD,ec,cE⟩:=bs dZ;refine zg 7 rfl (Bt (fun L s=>∃(cF:Unit) (cG:LH),cD=Sum.inr cF∧Jm ea H cG [] [] L s) ?_ ?_)
   ·rintro _ _ ⟨cF,cG,rfl,rfl,rfl,ed,ee⟩;have ef:=elim_inr cE;obtain⟨eg,eh,ei⟩:=bs ef;refine zg 2 rfl (BH (Tn (b6.Ai (((((((U.Ac O).Ac V).Ac Y).Ac am).Ac bi).Ac bb).Ac ed)) eh) rfl rfl (AV func22 rfl) ee fun gX gY gZ=>?_);refine zg 2 rfl ?_;obtain rfl:=oi ei;exact Hp rfl (JO.end (v:= .bool eg) rfl (by decide+kernel) func4 rfl rfl rfl)
   ·intro ej;refine JL.block (JS.drop 0 eb rfl fun ek=>?_);refine Cp ec (fun al=> []) (fun al=> [(10,sV a2 a1.1 a3),(11,sV a5 a4.1 a6),(12,iV al)]) Ar ek ?_;rintro al cH Z b9 cI ⟨g0,bv⟩ el;have cJ:=bv;unfold NC at cJ;refine zg 5 rfl (Bh underlying33 rfl rfl rfl ?_);refine zg 2 rfl (AM cJ (fun em en=>?_) (fun em eo=>?_))
    ·refine zg 4 rfl (C5 11 fun ht=>?_);refine AZ ht rfl [0,1] rfl ?_;obtain⟨bw,ep,eq⟩:=bs en;refine CN 2 (bo.Ai (bb.Ac Z)) ep ht underlying33 BJ ?_;rintro g1 g3 _ ⟨_,_,rfl,⟨cK,cM,rfl,cN⟩,⟨cO,cP,rfl,cQ⟩⟩ er;refine Fi 3 ht er Cd BJ rfl rfl rfl (AZ ht rfl [5,6] rfl ?_);obtain⟨ca,et,eu⟩:=bs eq;refine CN 7 (b8.Ai Z) et ht underlying35 HM ?_;rintro g4 g5 _ ⟨cb,cc,rfl,cd⟩ ew;refine Cz 8 ht 0 ew Ij rfl rfl rfl rfl ?_;obtain⟨a7,cR,ex⟩:=bs eu;obtain⟨a8,ce,ey⟩:=bs ex;refine Eg 2 #[true,true,true,true,true,true,true,true,true,true,true,false,false] (fun L s=>∃(bd:LH) (bU:Ap) (bV:Nat) (bW:Ap) (bY:Nat) (ap:Ap) (av:Nat) (be:Nat),Jn cH H bd [bX be #[nS,nS] 24] [(10,sV a2 a1.1 a3),(11,sV a5 a4.1 a6),(12,iV al),(13,pV be 0),(51,.agg #[sV bU a7.1 bV,sV bW a7.2 bY]),(56,sV ap a8 av)] L s (Al (rL rI) bd bU bV a7.1∧Al (rL rI) bd bW bY a7.2∧Al Bg bd ap av a8)) ?_ ?_
     ·rintro _ _ ⟨bd,bU,bV,bW,bY,ap,av,be,rfl,rfl,a9,ez,cT,cV,cW⟩;refine Cj [11,12] (BW 0 ez BJ fun eA=>?_);refine C8 0 eA rfl fun g6 K cX eB=>zg 4 rfl (BX cX Cd BJ rfl rfl ?_);obtain⟨cY,eC,eD⟩:=bs ey;refine zg 1 rfl (BH (SR (b6.Ai (((((((((U.Ac O).Ac V).Ac Y).Ac am).Ac bi).Ac bb).Ac Z).Ac a9).Ac K)) (cT.Ai K) (cV.Ai K) (cW.Ai K) eC) rfl rfl (AV func35 rfl) eB fun g7 ag eE=>?_);refine zg 9 rfl (C5 15 fun ht=>?_);refine AZ ht rfl [0,1] rfl ?_;obtain⟨cZ,eF,eG⟩:=bs eD;refine CN 2 (bo.Ai ((((bb.Ac Z).Ac a9).Ac K).Ac ag)) eF ht underlying33 BJ ?_;rintro g8 g9 _ ⟨_,_,rfl,⟨eH,eI,rfl,eJ⟩,⟨eK,eL,rfl,eM⟩⟩ eN;refine Fi 3 ht eN Cd BJ rfl rfl rfl (AZ ht rfl [4,5] rfl ?_);obtain⟨eO,eP,eQ⟩:=bs eG;refine CN 6 (b8.Ai (((Z.Ac a9).Ac K).Ac ag)) eP ht underlying35 HM ?_;rintro ha hb _ ⟨eR,eS,rfl,eT⟩ eU;refine Cz 7 ht 0 eU Ij rfl rfl rfl rfl ?_;obtain⟨c0,eV,eW⟩:=bs eQ;refine JG.call (i:=8) (vs:= [.agg #[sV eH cZ.1 eI,sV eK cZ.2 eL],sV eR eO eS]) (aQ eJ eM eT eV) (by decide+kernel) rfl rfl rfl (AV func36 rfl) rfl eE ?_;rintro _ bZ _ a0 ⟨rfl,rfl⟩ c1;refine AZ ht rfl [9,10,11,12,13,14] rfl (Cj [15] ?_);refine zg 3 rfl (C5 31 fun ht=>?_);refine AZ ht rfl [0,1,2,3] rfl ?_;obtain⟨c3,c4,eX⟩:=bs eW;refine Eg 23 #[true,true,true,true,true,true,true,true,false,false,false,false,false,false,false,false,false,false,false,false,false,false,false,false,false,false,false,false,false,false,false] (fun L s=>L= [(10,sV a2 a1.1 a3),(11,sV a5 a4.1 a6),(12,iV al),(13,pV be 0),(14,sV ap a8 av),(17,iV cY.2.2),(20,iV c0.2.2),(84,.bool c3)]∧s=An bZ H [[],[],[]]) ?_ ?_
      ·rintro _ _ ⟨rfl,rfl⟩;refine Ck 8 ht rfl rfl ?_;obtain⟨c5,c6,eY⟩:=bs eX;refine Eg 18 #[true,true,true,true,true,true,true,true,true,true,true,true,true,false,false,false,false,false,false,false,false,false,false,false,false,false,false,false,false,false,false] (fun L s=>L= [(10,sV a2 a1.1 a3),(11,sV a5 a4.1 a6),(12,iV al),(13,pV be 0),(14,sV ap a8 av),(89,.bool c5)]∧s=An bZ H [[],[],[]]) ?_ ?_
       ·rintro _ _ ⟨rfl,rfl⟩;refine Ck 13 ht rfl rfl ?_;obtain⟨c7,c8,eZ⟩:=bs eY;refine Eg 9 #[true,true,true,true,true,true,true,true,true,true,true,true,true,true,true,true,true,true,true,true,true,true,false,false,false,false,false,false,false,false,false] (fun L s=>∃(b0:LH),Jm bZ H b0 [] [(10,sV a2 a1.1 a3),(11,sV a5 a4.1 a6),(12,iV al),(14,sV ap a8 av),(98,.bool c7)] L s) ?_ ?_
        ·rintro _ _ ⟨b0,rfl,rfl,cf,c9⟩;refine Ck 22 ht rfl rfl ?_;obtain⟨e0,da,e1⟩:=bs eZ;refine Eg 0 #[true,true,true,true,true,true,true,true,true,true,true,true,true,true,true,true,true,true,true,true,true,true,true,true,true,true,true,true,true,true,true] (fun L s=>∃(db:LH),Jm b0 H db [] [(10,sV a2 a1.1 a3),(11,sV a5 a4.1 a6),(12,iV al),(107,.bool e0)] L s) ?_ ?_
         ·rintro _ _ ⟨db,rfl,rfl,e2,e3⟩;refine AY.fin (by decide+kernel) (BI e1 (fun e4 e5=>?_) (fun e4 e6=>?_))
          ·refine zg 4 rfl ?_;obtain rfl:=oi e5;obtain rfl:=cI _ bv;have e7:=elim_inl cE;obtain rfl:=oi e7;exact Hp rfl (JO.end (v:= .bool false) rfl (by decide+kernel) func4 rfl rfl rfl)
          ·obtain⟨e8,e9,fa⟩:=bs e6;refine zg 4 rfl (Ba e9 rfl rfl rfl ?_);refine zg 2 rfl ?_;obtain rfl:=oi fa;exact el e8 ((((((Z.Ac a9).Ac K).Ac ag).Ac a0).Ac cf).Ac e2) e3 rfl bv
         ·intro dc;refine OO (c:=c7) (i:=99) rfl (fun cg=>?_) (fun cg=>?_)
          ·have fb:=ip da cg;refine AZ ht rfl [23,24,25,26,27,28,29,30] rfl ?_;obtain rfl:=oi fb;refine CH ?_ (dc _ _ ⟨b0,rfl,rfl,Ar,c9⟩);exact⟨rfl,rfl,rfl,rfl,trivial⟩
          ·have fc:=ib da cg;refine AZ ht rfl [23,24,25] rfl ?_;obtain⟨fd,fe,ff⟩:=bs fc;refine CN 26 (b8.Ai (((((Z.Ac a9).Ac K).Ac ag).Ac a0).Ac cf)) fe ht underlying35 HM ?_;rintro hc hd _ ⟨fg,fh,rfl,fj⟩ fk;refine Cz 27 ht 0 fk Ij rfl rfl rfl rfl ?_;obtain⟨fm,fo,fp⟩:=bs ff;refine JG.call (i:=28) (vs:= [sV ap a8 av,sV fg fd fh]) (bp (cW.Ai (((K.Ac ag).Ac a0).Ac cf)) fj fo) (by decide+kernel) rfl rfl rfl (AV func34 rfl) rfl c9 ?_;rintro _ fq _ fs ⟨rfl,rfl⟩ fu;refine BA (v:= .bool (!fm)) 29 ht rfl rfl (fun ρ h s' hs=>Yl.not (h _ _ rfl)) ?_;refine Ck 30 ht rfl rfl ?_;obtain rfl:=oi fp;refine CH ?_ (dc _ _ ⟨fq,rfl,rfl,fs,fu⟩);exact⟨rfl,rfl,rfl,rfl,trivial⟩
        ·intro dd;refine OO (c:=c5) (i:=90) rfl (fun ci=>?_) (fun ci=>?_)
         ·have fv:=ip c8 ci;refine AZ ht rfl [14,15,16,17,18,19,20,21] rfl ?_;obtain rfl:=oi fv;refine CH ?_ (dd _ _ ⟨bZ,rfl,rfl,Ar,c1⟩);exact⟨rfl,rfl,rfl,rfl,rfl,trivial⟩
         ·have fw:=ib c8 ci;refine Fi 14 ht (cX.Ai (ag.Ac a0)) Cd BJ rfl rfl rfl ?_;refine AZ ht rfl [15,16] rfl ?_;obtain⟨de,fx,fy⟩:=bs fw;refine CN 17 (bo.Ai (((((bb.Ac Z).Ac a9).Ac K).Ac ag).Ac a0)) fx ht underlying33 BJ ?_;rintro he hf _ ⟨_,_,rfl,⟨fz,fA,rfl,fB⟩,⟨fC,fD,rfl,fE⟩⟩ fF;refine Fi 18 ht fF Cd BJ rfl rfl rfl ?_;obtain⟨fG,fH,fI⟩:=bs fy;refine JG.call (i:=19) (vs:= [.agg #[sV bU a7.1 bV,sV bW a7.2 bY],.agg #[sV fz de.1 fA,sV fC de.2 fD]]) (ba (cT.Ai ((K.Ac ag).Ac a0)) (cV.Ai ((K.Ac ag).Ac a0)) fB fE fH) (by decide+kernel) rfl rfl rfl (AV func33 rfl) rfl c1 ?_;rintro _ fJ _ fK ⟨rfl,rfl⟩ fL;refine BA (v:= .bool (!fG)) 20 ht rfl rfl (fun ρ h s' hs=>Yl.not (h _ _ rfl)) ?_;refine Ck 21 ht rfl rfl ?_;obtain rfl:=oi fI;refine CH ?_ (dd _ _ ⟨fJ,rfl,rfl,fK,fL⟩);exact⟨rfl,rfl,rfl,rfl,rfl,trivial⟩
       ·intro df;refine OO (c:=c3) (i:=85) rfl (fun ck=>?_) (fun ck=>?_)
        ·have fM:=ip c6 ck;refine AZ ht rfl [9,10,11,12] rfl ?_;obtain rfl:=oi fM;refine CH ?_ (df _ _ ⟨rfl,rfl⟩);exact⟨rfl,rfl,rfl,rfl,rfl,rfl,trivial⟩
        ·have fN:=ib c6 ck;refine AZ ht rfl [9,10,11,12] rfl ?_;obtain rfl:=oi fN;refine CH ?_ (df _ _ ⟨rfl,rfl⟩);exact⟨rfl,rfl,rfl,rfl,rfl,rfl,trivial⟩
      ·intro dg;refine EW (q:=cY.1≠c0.1) (i:=80) rfl (fun cm=>?_) (fun cm=>?_)
       ·have fO:=ip c4 cm;refine AZ ht rfl [4,5,6,7] rfl ?_;obtain rfl:=oi fO;refine CH ?_ (dg _ _ ⟨rfl,rfl⟩);exact⟨rfl,rfl,rfl,rfl,rfl,rfl,rfl,rfl,trivial⟩
       ·have fP:=im c4 cm;refine AZ ht rfl [4,5,6,7] rfl ?_;obtain rfl:=oi fP;refine CH ?_ (dg _ _ ⟨rfl,rfl⟩);exact⟨rfl,rfl,rfl,rfl,rfl,rfl,rfl,rfl,trivial⟩
     ·intro cn;refine HX (i:=4) (j:=10) rfl (by decide+kernel) ?_ ?_
      ·refine Take.H0 (vs:= [.agg #[sV cK bw.1 cM,sV cO bw.2 cP]]) b9 (Tx cN cQ cR) rfl rfl rfl (AV func26 rfl) rfl ?_;rintro _ hj _ b1 ⟨dh,di,dj,dk,rfl,rfl,dl,dm⟩ dn;refine HX (i:=9) (j:=10) rfl (by decide+kernel) ?_ ?_
       ·refine Take.H0 (vs:= [sV cb ca cc]) dn (PW (cd.Ai b1) ce) rfl rfl rfl Ky rfl ?_;rintro _ fQ _ co ⟨fR,fS,rfl,rfl,fT⟩ fU;refine JG.one (i:=10) rfl (by decide+kernel) (Take.Lo fU rfl rfl rfl GZ fun fW fX=>?_);exact Pr (cn _ _ ⟨fQ,dh,di,dj,dk,fR,fS,fW,rfl,rfl,(b1.Ac co),fX,(dl.Ai co),(dm.Ai co),fT⟩) rfl
       ·refine Take.Lo dn rfl rfl rfl GZ fun fY fZ=>JG.one (i:=9) rfl (by decide+kernel) (Take.H0 (vs:= [sV cb ca cc]) fZ (PW (cd.Ai b1) ce) rfl rfl rfl Ky rfl ?_);rintro _ ga _ cp ⟨gb,gc,rfl,rfl,gd⟩ ge;exact Pr (cn _ _ ⟨ga,dh,di,dj,dk,gb,gc,fY,rfl,rfl,(b1.Ac cp),ge,(dl.Ai cp),(dm.Ai cp),gd⟩) rfl
      ·refine Take.Lo b9 rfl rfl rfl GZ fun gf gg=>JG.one (i:=4) rfl (by decide+kernel) (Take.H0 (vs:= [.agg #[sV cK bw.1 cM,sV cO bw.2 cP]]) gg (Tx cN cQ cR) rfl rfl rfl (AV func26 rfl) rfl ?_);rintro _ hk _ dp ⟨gh,gi,gj,gk,rfl,rfl,gl,gm⟩ gn;refine JG.one (i:=9) rfl (by decide+kernel) (Take.H0 (vs:= [sV cb ca cc]) gn (PW (cd.Ai dp) ce) rfl rfl rfl Ky rfl ?_);rintro _ gp _ cq ⟨gq,gr,rfl,rfl,gt⟩ gu;exact Pr (cn _ _ ⟨gp,gh,gi,gj,gk,gq,gr,gf,rfl,rfl,(dp.Ac cq),gu,(gl.Ai cq),(gm.Ai cq),gt⟩) rfl
    ·refine JL.exit rfl ?_;obtain rfl:=oi eo;have gv:cD=(Sum.inr ()):=(cI _ bv).symm;exact Ay (ej _ _ ⟨(),cH,gv,rfl,rfl,Z,b9⟩) rfl
 ·intro dq;refine DU 23 dD (fun gw gx=>?_) (fun gw gy=>?_)
  ·refine zg 4 rfl ?_;obtain rfl:=oi gx;exact Ay (dq _ _ ⟨b7,rfl,rfl,Ar,cA⟩) rfl
  ·refine zg 1 rfl (Bh underlying25 rfl rfl rfl ?_);refine zg 2 rfl ?_;obtain rfl:=oi gy;exact Ay (dq _ _ ⟨b7,rfl,rfl,Ar,cA⟩) rfl
end Pal
namespace Pal
theorem Yq:∀h,h<32→∀l,l<256→f86 0 (h*256+l)=some ((Dc (h*256+l):Nat):Int):=by decide+kernel
theorem SO{F s:Nat}(hs:s<8192):f85 F s=some ((Dc s:Nat):Int):=by
 have h:=Yq (s / 256) (by omega) (s % 256) (by omega);rw [show s / 256*256+s % 256=s by omega] at h;have e:f86 F s=f86 0 s:=rfl;unfold f85;rw [e,h];rfl
theorem Xr{F n:Nat}{J:JW}{A:List Nat}{s:Nat}(U:100<F)(V:VJ n J)(hs:s<2 ^ n):f121 F (J.1,J.2,A) s=some (Ge J.1 s):=by
 have h:=Ru (A:=A) U V hs;have e:Pa=JJ:=rfl;unfold Ki at h;unfold f121;rw [e];cases K:f89 F s with
 | none=>rw [K] at h;cases h
 | some x=>
  rw [K] at h;simp only [Option.bind_some] at h ⊢;cases O:iter (JJ F (J.1,J.2,A) x) F (0,0) with
  | none=>rw [O] at h;cases h
  | some z=>
   rw [O] at h;simp only [Option.bind_some,Option.some.injEq,Prod.mk.injEq] at h ⊢;exact h.1
def N7(J:JW)(a:Nat)(p:List Int)(y:Nat)(m:Int):Prop:=∃e,ED J a (p++e)∧(p++e)[y]? =some m
theorem ED.more{a i:Nat}{J:JW}{q:List Int}{m x:Int}(h:ED J a q)(Z:q.length=i+1)(hm:q[i]? =some m)(V:x∈J.1.getD m.toNat []):ED J a (q++ [x]):=by
 constructor
 ·intro u hu;rw [List.getElem?_append_left (by omega)] at hu;exact h.1 u hu
 ·intro y u U hu K;have Y:=(List.getElem?_eq_some_iff.1 K).1;rw [List.length_append,List.length_singleton] at Y;rw [List.getElem?_append_left (by omega)] at hu;rcases Nat.lt_or_ge (y+1) q.length with O | O
  ·rw [List.getElem?_append_left O] at K;exact h.2 y u U hu K
  ·rw [List.getElem?_append_right O,show y+1 - q.length=0 by omega] at K;obtain rfl:x=U:=by simpa using K
   rw [show y=i by omega,hm] at hu;cases hu;exact V
def Jp(J:JW)(s:Nat):Nat→Nat
 | 0=>s
 | d+1=>Ge J.1 (Jp J s d)
theorem Pd{z:Int}(h:0≤z)(m:Nat):(CF [z]).testBit m=true↔z=(m:Int):=by
 rw [JE (fun x K=>by simp at K;omega)];simp only [decide_eq_true_iff,List.mem_singleton];omega
theorem Sr{n s:Nat}{J:JW}(K:VJ n J)(hs:s<2 ^ n):∀d,Jp J s d<2 ^ n
 | 0=>hs
 | d+1=>PD K _
theorem O1{n a L:Nat}{J:JW}{p:List Int}{z:Int}(K:VJ n J)(Y:ED J a p)(ag:p.length=L+1)(O:p[L]? =some z):∀(d m:Nat),(Jp J (CF [z]) d).testBit m=true↔∃e:List Int,e.length=d∧ED J a (p++e)∧(p++e)[L+d]? =some (m:Int)
 | 0,m=>by
  have am:=(Y.range K L z O).1
  unfold Jp
  rw [Pd am]
  constructor
  ·rintro rfl;exact⟨[],rfl,by simpa using Y,by simpa using O⟩
  ·rintro⟨e,he,_,U⟩;obtain rfl:=List.length_eq_zero_iff.1 he;simp only [List.append_nil,Nat.add_zero] at U;rw [O] at U;cases U;rfl
 | d+1,m=>by
  unfold Jp;rw [MX K];constructor
  ·rintro⟨u,_,U,ap⟩;obtain⟨e,al,V,Z⟩:=(O1 K Y ag O d u).1 U;refine⟨e++ [(m:Int)],by simp [al],?_,?_⟩
   ·rw [← List.append_assoc];exact V.more (i:=L+d) (by rw [List.length_append];omega) Z (by simpa using ap)
   ·rw [← List.append_assoc,List.getElem?_append_right (by rw [List.length_append];omega),List.length_append,show L+(d+1) - (p.length+e.length)=0 by omega];rfl
  ·rintro⟨e,al,V,Z⟩;have hlen:(p++e).length=L+d+2:=by rw [List.length_append];omega
   have hu:=List.getElem?_eq_getElem (l:=p++e) (i:=L+d) (by omega);have a0:=V.range K _ _ hu;refine⟨((p++e)[L+d]'(by omega)).toNat,by have:=K.le;omega,(O1 K Y ag O d _).2 ⟨e.take d,by simp;omega,?_,?_⟩,V.2 _ _ _ hu Z⟩
   ·have:=V.take (p.length+d)
    rwa [List.take_length_add_append] at this
   ·have av:(p++e.take d)[L+d]? =(p++e)[L+d]? :=by
     rw [← List.take_length_add_append,List.getElem?_take,if_pos (by omega)]
    rw [av,hu];congr 1;omega
theorem aj{F n a L y:Nat}{J:JW}{t:CE}(al:100<F)(K:VJ n J)(V:ED J a t.2.1)(av:t.2.1.length=L+1)(a2:L≤6)(a3:y≤6):
  A1 (f88 F (J.1,J.2,FG J) t (y:Int)) (fun s=>s<2 ^ n∧∀m:Nat,s.testBit m=true↔N7 J a t.2.1 y (m:Int)):=by
 have a4:=K.le;unfold f88;have one:∀i,i<t.2.1.length→∃z,t.2.1[i]? =some z∧f120 F ([z]:List Int)=some (CF [z])∧CF [z]<2 ^ n∧0≤z:=fun i hi=>by
  have hu:=List.getElem?_eq_getElem hi;have am:=V.range K _ _ hu;refine⟨_,hu,Pj al (by simp) (fun x a0=>by simp at a0;omega),QD fun k Y=>?_,am.1⟩;rw [Bool.eq_false_iff,ne_eq,Pd am.1];omega
 refine AT (L:Int) (by omega) (by omega) (by omega) (Bs (fun h=>?_) (fun h=>?_))
 ·obtain⟨z,z1,Z,O,ap⟩:=one y (by omega);refine AL (Ed (m:=y) rfl z1) (AL Z (Ak ⟨O,fun m=>?_⟩));rw [Pd ap];constructor
  ·rintro rfl;exact⟨[],by simpa using V,by simpa using z1⟩
  ·rintro⟨e,_,he⟩;rw [List.getElem?_append_left (by omega),z1] at he;cases he;rfl
 ·obtain⟨z,z1,Z,O,ap⟩:=one L (by omega);refine AL (Ed (m:=L) rfl z1) (AL Z ?_);refine AT ((y - L:Nat):Int) (by omega) (by omega) (by omega) (AE (S:=fun s=>s=Jp J (CF [z]) (y - L)) ?_ ?_)
  ·refine B6 (y - L) (fun i s=>s=(Jp J (CF [z]) i,(i:Int))) rfl (by omega) ?_ ?_
   ·rintro i s hi rfl;unfold NU;refine Bq (by simp only;omega) (AL (Xr al K (Sr K O i)) ?_);exact AT ((i+1:Nat):Int) (by simp) (by omega) (by omega) (Ak rfl)
   ·rintro s rfl;unfold NU;exact A6 (by simp only;omega) (Ak ⟨_,rfl,rfl⟩)
  ·rintro s rfl;refine Ak ⟨Sr K O _,fun m=>?_⟩;rw [O1 K V av z1,show L+(y - L)=y by omega];constructor
   ·rintro⟨e,_,ag,U⟩;exact⟨e,ag,U⟩
   ·rintro⟨e,ag,U⟩;have a1:=(List.getElem?_eq_some_iff.1 U).1;rw [List.length_append] at a1;have Y:(p:List Int)→p=t.2.1→(p++e).take (p.length+(y - L))=p++e.take (y - L):=fun p _=>List.take_length_add_append _;refine⟨e.take (y - L),by rw [List.length_take];omega,?_,?_⟩
    ·rw [← Y _ rfl];exact ag.take _
    ·rw [← Y _ rfl,List.getElem?_take,if_pos (by omega),U]
theorem YF{n q y a k m:Nat}{J:JW}{lk:Bm}(O:VJ n J)(K:Cg n lk)(be:lk.length<8)(bW:y≤6)(hm:m<n)(a5:Ou lk ((y:Int),(m:Int)) q):
  0<nT J (lk.take q++ [((y:Int),(m:Int))]++lk.drop q) q a k↔∃t∈TA J lk a,CR t=k∧N7 J a t.2.1 y (m:Int):=by
 have U:=K.with (l:=((y:Int),(m:Int))) be ⟨by simp only;omega,by simp only;omega⟩ ⟨by simp only;omega,by simp only;omega⟩ a5;have am:=MC (lk:=lk) (l:=((y:Int),(m:Int))) (q:=q);have ap:(lk.take q++ [((y:Int),(m:Int))]++lk.drop q)[q]? =some ((y:Int),(m:Int)):=by
  have av:=a5.1;rw [List.append_assoc,List.getElem?_append_right (by rw [List.length_take];omega),List.length_take,show q - min q lk.length=0 by omega];rfl
 generalize lk.take q++ [((y:Int),(m:Int))]++lk.drop q=M at U am ap;have Z:∀l,l∈M↔l∈lk∨l=((y:Int),(m:Int)):=fun l=>by rw [am.mem_iff];simp
 have bY:y≤B5 M:=by have:=I3 U _ ((Z _).2 (.inr rfl));simpa using this
 have bZ:B5 lk≤B5 M:=by
  rcases h:lk.getLast? with _ | l
  ·unfold B5;rw [h];simp
  ·have:=I3 U l ((Z _).2 (.inl (List.mem_of_getLast? h)));have al:B5 lk=l.1.toNat:=by unfold B5;rw [h]
   omega
 have bi:B5 M≤B5 lk∨B5 M≤y:=by
  rcases h:M.getLast? with _ | l
  ·left;unfold B5;rw [h];simp
  ·have al:B5 M=l.1.toNat:=by unfold B5;rw [h]
   rcases(Z l).1 (List.mem_of_getLast? h) with a0 | a0
   ·left;have:=I3 K l a0;omega
   ·right;rw [al,a0];simp
 have a6:∀p:List Int,Gw p ((y:Int),(m:Int))=false→(M.filter (Gw p)).length=(lk.filter (Gw p)).length:=fun p a1=>by
  rw [(am.filter _).length_eq,List.filter_append];simp [a1]
 have a7:∀p:List Int,p[y]? =some (m:Int)→Gw p ((y:Int),(m:Int))=false:=fun p a1=>by
  unfold Gw;simp only [Int.toNat_natCast,List.getD_eq_getElem?_getD,a1];simp
 have bo:∀(p:List Int),lk.filter (Gw (p.take (B5 lk+1)))=lk.filter (Gw p):=fun p=>List.filter_congr fun l V=>by
  have:=I3 K l V;unfold Gw;rw [List.getD_eq_getElem?_getD,List.getD_eq_getElem?_getD,List.getElem?_take,if_pos (by omega)]
 unfold nT;rw [List.countP_pos_iff];constructor
 ·rintro⟨t,ht,a8⟩;rw [Bool.and_eq_true,decide_eq_true_iff,Bool.not_eq_true'] at a8;obtain⟨a2,hb⟩:=a8;obtain⟨bv,al,a3,a4,a9⟩:=(Jd O U).1 ht;have Y:t.2.1[y]? =some (m:Int):=by
   have hu:=List.getElem?_eq_getElem (l:=t.2.1) (i:=y) (by omega);rw [hu];refine congrArg some (Decidable.byContradiction fun bw=>?_);have:(FF M 0 t.2.1).testBit q=true:=(Li _ _ _ _).2 ⟨_,ap,y,_,hu,by simp,bw⟩;rw [← a9,hb] at this;cases this
  have ag:((a:Int),t.2.1.take (B5 lk+1),FF lk 0 (t.2.1.take (B5 lk+1)))∈TA J lk a:=by
   refine(Jd O K).2 ⟨rfl,by simp only [List.length_take];omega,a3.take _,fun l V u hu=>?_,rfl⟩;simp only at hu;rw [List.getElem?_take] at hu;split at hu
   ·exact a4 l ((Z l).2 (.inl V)) u hu
   ·cases hu
  refine⟨_,ag,?_,t.2.1.drop (B5 lk+1),?_⟩
  ·rw [Lb O K ag,← a2,Lb O U ht,a6 _ (a7 _ Y),bo]
  ·simp only;rw [List.take_append_drop];exact⟨a3,Y⟩
 ·rintro⟨t,ht,a2,e,bU,he⟩;obtain⟨bv,al,a3,a4,a9⟩:=(Jd O K).1 ht;have b0:=(List.getElem?_eq_some_iff.1 he).1;have hlen:B5 M+1≤(t.2.1++e).length:=by
   rcases bi with h | h
   ·rw [List.length_append];omega
   ·omega
  have Y:((t.2.1++e).take (B5 M+1))[y]? =some (m:Int):=by
   rw [List.getElem?_take,if_pos (by omega)];exact he
  have ag:((a:Int),(t.2.1++e).take (B5 M+1),FF M 0 ((t.2.1++e).take (B5 M+1)))∈TA J M a:=by
   refine(Jd O U).2 ⟨rfl,by simp only;rw [List.length_take];omega,bU.take _,fun l V u hu=>?_,rfl⟩;simp only at hu;rcases(Z l).1 V with h | rfl
   ·have:=I3 K l h;rw [List.getElem?_take,if_pos (by omega),List.getElem?_append_left (by omega)] at hu;exact a4 l h u hu
   ·simp only [Int.toNat_natCast] at hu;rw [Y] at hu;cases hu;rw [Vo];exact .inl rfl
  refine⟨_,ag,?_⟩;rw [Bool.and_eq_true,decide_eq_true_iff,Bool.not_eq_true'];constructor
  ·rw [Lb O U ag,← a2,Lb O K ht,a6 _ (a7 _ Y)];refine congrArg List.length (List.filter_congr fun l V=>?_);have:=I3 K l V;unfold Gw;rw [List.getD_eq_getElem?_getD,List.getD_eq_getElem?_getD,List.getElem?_take,if_pos (by omega),List.getElem?_append_left (by omega)]
  ·simp only;rw [Bool.eq_false_iff];intro hb;obtain⟨l,av,u,v,bb,bV,bd⟩:=(Li _ _ _ _).1 hb;rw [ap] at av;cases av;simp only [Nat.zero_add] at bV bd;rw [show u=y by omega,Y] at bb;cases bb;exact bd rfl
end Pal
namespace Pal
theorem Z7{F k n:Nat}{b:Ft}{J:JW}{lk:List (Int×Int)}{l:Int×Int}(O:100<F)(U:VJ n J)(hb:BG k b)(V:k<900)(Z:lk.length≤20):
  A1 (f25 F lk l J b) (fun r=>(∃u v:List (Int×Int),r.1= [lk,u,v]∧u.length≤20∧v.length≤20)∧BG (k+100) r.2):=by
 unfold f25;refine AE (aC (many:=3) O U hb V (by omega)) ?_;rintro⟨u,ag⟩ ⟨_,Y,_,K⟩;simp only at Y K ⊢;refine AL (b:=u) (by unfold Om CQ;rw [if_pos (by simp;omega)];rfl) (AL (b:=u++ [l]) (by unfold CQ;rw [if_pos (by simp;omega)]) ?_);exact Ak ⟨⟨u,u++ [l],rfl,by omega,by simp;omega⟩,K⟩
theorem TU{α:Type}{P:α→Prop}{a b c:α}(K:P a)(hb:P b)(O:P c):∀i,i<3→∃x,([a,b,c]:List α)[i]? =some x∧P x
 | 0,_=>⟨a,rfl,K⟩
 | 1,_=>⟨b,rfl,hb⟩
 | 2,_=>⟨c,rfl,O⟩
end Pal
namespace Pal
def CG(f:Nat→Bool):Nat:=(List.range 13).countP f
theorem R2{s:Nat}{f:Nat→Bool}(hs:s<8192)(h:∀b,b<13→(s.testBit b=true↔f b=true)):Dc s=CG f:=by
 rw [O9,show List.range 16=List.range 13++ [13,14,15] from rfl,List.countP_append,MD (l:= [13,14,15]) fun x K=>?_]
 ·exact List.countP_congr fun b hb=>h b (List.mem_range.1 hb)
 ·have:13≤x:=by simp at K;omega
  exact Nat.testBit_lt_two_pow (Nat.lt_of_lt_of_le hs (Nat.pow_le_pow_right (n:=2) (by omega) this))
theorem RH{J:JW}{lk:Bm}{q lo hi:Nat}{f:Nat→Bool}(h:∀b,b<13→(Jt J lk q lo hi b=true↔f b=true)):(Oe J lk q lo hi).length=CG f:=by
 unfold Oe CG;rw [List.length_map,← List.countP_eq_length_filter];exact List.countP_congr fun b hb=>h b (List.mem_range.1 hb)
def Dw(C:Nat→Nat):Nat→Nat
 | 0=>0
 | m+1=>max (Dw C m) (C m)
theorem RU{C:Nat→Nat}{n:Nat}(h:∀m,n≤m→C m=0):∀j,Dw C (n+j)=Dw C n
 | 0=>rfl
 | j+1=>by
  have K:=RU h j
  have O:=h (n+j) (by omega)
  show max (Dw C (n+j)) (C (n+j))=Dw C n
  rw [K,O];omega
def Et(M:Nat→Nat)(w:Nat):Nat→Int×Int
 | 0=>(-1,(w:Int))
 | y+1=>if(M y:Int)<(Et M w y).2 then((y:Int),(M y:Int)) else Et M w y
def Jq(f:Nat→Nat→Nat→Bool)(g:Nat→Bool):Int×Int×Int:=if(Et (fun y=>Dw (fun m=>CG (f y m)) 8) (CG g) 7).1<0 then(0,0,11) else((Et (fun y=>Dw (fun m=>CG (f y m)) 8) (CG g) 7).1,(Et (fun y=>Dw (fun m=>CG (f y m)) 8) (CG g) 7).2,0)
def BS(J:JW)(l:List CE)(y m b:Nat):Prop:=∃t∈l,t.1=(b:Int)∧N7 J b t.2.1 y (m:Int)
def LL(J:JW)(lk:Bm)(r:Int×Int×Int):Prop:=(CL J lk≠0∧r=(0,0,CL J lk))∨(CL J lk=0∧((TT J lk= []∧r=(0,0,11))∨∃k,GL J lk k∧∀f g,(∀y m b,f y m b=true↔BS J (Eu J lk k) y m b)→(∀b,g b=true↔∃t∈Eu J lk k,t.1=((b:Nat):Int))→r=Jq f g))
theorem JY(P:Nat→Nat→Nat→Prop):∃f:Nat→Nat→Nat→Bool,∀y m b,f y m b=true↔P y m b:=⟨fun y m b=> @decide (P y m b) (Classical.propDecidable _),fun y m b=>by simp⟩
theorem LL.uniq{J:JW}{lk:Bm}{r q:Int×Int×Int}(h:LL J lk r)(Y:LL J lk q):r=q:=by
 rcases h with⟨O,rfl⟩ | ⟨O,K⟩ <;> rcases Y with⟨U,rfl⟩ | ⟨U,g2⟩
 ·rfl
 ·exact absurd U O
 ·exact absurd O U
 ·rcases K with⟨K,rfl⟩ | ⟨k,K,Z⟩ <;> rcases g2 with⟨g2,rfl⟩ | ⟨k',g2,ag⟩
  ·rfl
  ·exact absurd K g2.ne
  ·exact absurd g2 K.ne
  ·obtain rfl:=K.uniq g2;obtain⟨f,V⟩:=JY fun y m b=>BS J (Eu J lk k) y m b;obtain⟨g,hg⟩:=JY fun _ _ b=>∃t∈Eu J lk k,t.1=((b:Nat):Int);rw [Z f (g 0 0) V (hg 0 0),ag f (g 0 0) V (hg 0 0)]
theorem Ss{J:JW}{l:List CE}{r:Int×Int×Int}{f:Nat→Nat→Nat→Bool}{g:Nat→Bool}(K:∀y m b,f y m b=true↔BS J l y m b)(hg:∀b,g b=true↔∃t∈l,t.1=((b:Nat):Int))(h:r=Jq f g):∀f g,(∀y m b,f y m b=true↔BS J l y m b)→(∀b,g b=true↔∃t∈l,t.1=((b:Nat):Int))→r=Jq f g:=fun O g' U V=>by
 have Y:f=O:=by funext y m b;rw [Bool.eq_iff_iff,K,U]
 have Z:g=g':=by funext b;rw [Bool.eq_iff_iff,hg,V]
 rw [h,Y,Z]
theorem K0{J:JW}{lk:Bm}{k:Nat}{t:CE}:t∈Eu J lk k↔(∃a,a<13∧t∈TA J lk a)∧CR t=k:=by
 unfold Eu;rw [List.mem_filter,Lq,decide_eq_true_iff]
theorem Yx{J:JW}{lk:Bm}{k y m b:Nat}(hb:b<13):BS J (Eu J lk k) y m b↔∃t∈TA J lk b,CR t=k∧N7 J b t.2.1 y (m:Int):=by
 constructor
 ·rintro⟨t,K,U,O⟩;obtain⟨⟨a,Z,V⟩,Y⟩:=K0.1 K;have:=Nk V;obtain rfl:a=b:=by omega
  exact⟨t,V,Y,O⟩
 ·rintro⟨t,K,U,O⟩;exact⟨t,K0.2 ⟨⟨b,hb,K⟩,U⟩,Nk K,O⟩
theorem ZR{J:JW}{lk:Bm}{k b:Nat}(hb:b<13):(∃t∈Eu J lk k,t.1=(b:Int))↔∃t∈TA J lk b,CR t=k:=by
 constructor
 ·rintro⟨t,K,O⟩;obtain⟨⟨a,Y,U⟩,V⟩:=K0.1 K;have:=Nk U;obtain rfl:a=b:=by omega
  exact⟨t,U,V⟩
 ·rintro⟨t,K,O⟩;exact⟨t,K0.2 ⟨⟨b,hb,K⟩,O⟩,Nk K⟩
def Mk(P:Nat→Nat→Prop)(r:List Nat):Prop:=∃G:Nat→Nat,r=(List.range 8).map G∧∀m,m<8→G m<8192∧∀b,(G m).testBit b=true↔P m b
theorem Mk.congr{P Q:Nat→Nat→Prop}{r:List Nat}(h:Mk P r)(k:∀m b,P m b↔Q m b):Mk Q r:=by
 obtain⟨G,O,K⟩:=h;exact⟨G,O,fun m hm=>⟨(K m hm).1,fun b=>((K m hm).2 b).trans (k m b)⟩⟩
theorem Wb{F a s:Nat}{t:CE}{P:Nat→Nat→Prop}{r:List Nat}(ap:100<F)(al:t.1=(a:Int))(av:a<13)(hs:s<2 ^ 8)(U:Mk P r):A1 (iter (Lc F t (Cq s 16)) F (r,0)) (Mk fun m b=>P m b∨(b=a∧s.testBit m=true)):=by
 have hlen:=KE s 16;obtain⟨G,rfl,Y⟩:=U;refine B6 (Cq s 16).length (fun i st=>∃r,st=(r,(i:Int))∧Mk (fun m b=>P m b∨(b=a∧(m:Int)∈(Cq s 16).take i)) r) ⟨_,rfl,G,rfl,fun m hm=>⟨(Y m hm).1,fun b=>by rw [(Y m hm).2];simp⟩⟩ (by omega) ?_ ?_
 ·rintro i st hi ⟨r,rfl,H,rfl,V⟩;unfold Lc;obtain⟨u,u1,u2,K⟩:=HN.1 (List.getElem_mem hi);have hu:=HS hs u2;have Z:=V u hu;have am:f90 F (H u) t.1=some (H u ||| 1<<<a):=by rw [al];exact NN F (by omega) (by omega)
  refine Bq (by simp only;omega) (Bp (m:=i) rfl hi ?_);refine EA (i:=u) K hu (AL am ?_);refine EA (i:=u) K hu (AT ((i+1:Nat):Int) (by simp) (by omega) (by omega) ?_);refine Ak ⟨_,rfl,fun m=>if m=u then H u ||| 1<<<a else H m,?_,fun m hm=>?_⟩
  ·simp only;rw [K,show Int.toNat (u:Int)=u by omega,Kc]
  ·have ag:∀m:Nat,(m:Int)∈(Cq s 16).take (i+1)↔(m:Int)∈(Cq s 16).take i∨m=u:=fun m=>by
    rw [List.take_add_one,List.getElem?_eq_getElem hi,K];simp only [Option.toList_some,List.mem_append,List.mem_singleton,Int.natCast_inj]
   by_cases e:m=u
   ·subst e;simp only [if_pos];refine⟨Nat.or_lt_two_pow (n:=13) Z.1 ?_,fun b=>?_⟩
    ·rw [Nat.one_shiftLeft];exact Nat.pow_lt_pow_right (by omega) (by omega)
    ·rw [Nat.testBit_or,Bool.or_eq_true,Z.2,Nat.one_shiftLeft,Nat.testBit_two_pow,decide_eq_true_iff,ag];constructor
     ·rintro((h | h) | h)
      ·exact .inl h
      ·exact .inr ⟨h.1,.inl h.2⟩
      ·exact .inr ⟨h.symm,.inr rfl⟩
     ·rintro(h | ⟨h,_⟩)
      ·exact .inl (.inl h)
      ·exact .inr h.symm
   ·simp only [if_neg e];refine⟨(V m hm).1,fun b=>?_⟩;rw [(V m hm).2,ag];simp [e]
 ·rintro st ⟨r,rfl,U⟩;unfold Lc;refine A6 (by simp) (Ak ⟨_,rfl,U.congr fun m b=>?_⟩);rw [List.take_length,HN];constructor
  ·rintro(h | ⟨h,u,_,O,a0⟩)
   ·exact .inl h
   ·obtain rfl:m=u:=by omega
    exact .inr ⟨h,O⟩
  ·rintro(h | ⟨h,O⟩)
   ·exact .inl h
   ·exact .inr ⟨h,m,by have:=HS hs O;omega,O,rfl⟩
theorem Xt{F n:Nat}{J:JW}{lk:Bm}(al:268435456<F)(U:VJ n J)(V:Cg n lk)(am:lk.length≤4):
  A1 (f78 F J lk (-1) false) (fun r=>(TT J lk= []∧r.2.2=11)∨∃k,GL J lk k∧r=(some (J.1,J.2,FG J),((k:Int),Eu J lk k),0)):=by
 unfold f78;refine AL (Th (by omega) U V am) (A6 (by simp) ?_);refine AT ((lk.length:Int) - 1) rfl (by omega) (by omega) (AL (I5 F _ _ _) ?_);refine A6 (by simp;omega) (AL (ah (by omega) U) ?_);refine AL (b:=(J.1,J.2,FG J)) rfl (AE (Z4 al U V) ?_);rintro⟨q1,q2⟩ Y;have Z:=Y.Yw;rcases Y with⟨K,O⟩ | ⟨k,K,O,ap,ag⟩
 ·cases O;exact AL (b:=true) (by simp) (Bq rfl (Ak (.inl ⟨K,rfl⟩)))
 ·simp only at K ag Z;have av:¬((q2.length:Int)=0):=fun e=>by
   obtain⟨t,ht,_⟩:=O;rw [Z.1 (List.length_eq_zero_iff.1 (by omega))] at ht;simp at ht
  refine AL (b:=false) (by simp only;rw [if_neg av]) (A6 (by simp) (Ak (.inr ⟨k,⟨O,ap⟩,?_⟩)));rw [K,ag];rfl
theorem VX{F:Nat}{J:JW}{lk:Bm}(bb:3489660928<F)(av:NL J):A1 (Ju F J lk) (LL J lk):=by
 have Z:100<F:=by omega
 by_cases h:CL J lk=0
 ·obtain⟨K,O,a2⟩:=MM h;have a3:=K.le;unfold Ju;rw [aP (by omega) av h];refine AE (Xt (by omega) K O a2) ?_;rintro r (⟨ag,g2⟩ | ⟨k,ag,rfl⟩)
  ·exact Bq (by rw [g2];decide) (Ak (.inr ⟨h,.inl ⟨ag,by rw [g2]⟩⟩))
  ·refine A6 (by simp) ?_;have hlen:(Eu J lk k).length≤3489660928:=Nat.le_trans (List.length_filter_le _ _) (ZY O);have a0:∀t∈Eu J lk k,∃a:Nat,a<13∧t.1=(a:Int)∧ED J a t.2.1∧t.2.1.length=B5 lk+1:=fun t ht=>by
    obtain⟨⟨a,U,a4⟩,_⟩:=K0.1 ht;obtain⟨V,al,am,_,_⟩:=(Jd K O).1 a4;exact⟨a,U,V,am,al⟩
   obtain⟨f,a1⟩:=JY fun y m b=>BS J (Eu J lk k) y m b;obtain⟨g0,a5⟩:=JY fun _ _ b=>∃t∈Eu J lk k,t.1=((b:Nat):Int);generalize a6:g0 0 0=g;have hg:∀b,g b=true↔∃t∈Eu J lk k,t.1=((b:Nat):Int):=by rw [← a6];exact a5 0 0
   refine AE (Zl (l:=Eu J lk k) (by omega) (by omega) fun t ht=>by obtain⟨a,U,e,_⟩:=a0 t ht;omega) ?_;rintro w ⟨w1,w2⟩;refine AL (SO (s:=w) w1) ?_;rw [R2 (f:=g) w1 fun b _=>(w2 b).trans (hg b).symm];refine AL (b:=(J.1,J.2,FG J)) rfl (AE (S:=fun r=>r=Et (fun y=>Dw (fun m=>CG (f y m)) 8) (CG g) 7) ?_ ?_)
   ·refine B6 7 (fun y s=>s=((Et (fun y=>Dw (fun m=>CG (f y m)) 8) (CG g) y).1,(Et (fun y=>Dw (fun m=>CG (f y m)) 8) (CG g) y).2,(y:Int))) rfl (by omega) ?_ ?_
    ·rintro y s bd rfl;unfold MO;refine Bq (by simp only;omega) (AE (S:=Mk fun m b=>BS J (Eu J lk k) y m b) ?_ ?_)
     ·refine B6 (Eu J lk k).length (fun i s=>∃r,s=(r,(i:Int))∧Mk (fun m b=>BS J ((Eu J lk k).take i) y m b) r) ⟨_,rfl,fun _=>0,Lx,fun m _=>⟨(Nat.zero_lt_succ 8191:0<8192),fun b=>by simp [BS]⟩⟩ (by omega) ?_ ?_
      ·rintro i s hi ⟨r,rfl,Y⟩;unfold M9;obtain⟨a,U,V,al,am⟩:=a0 _ (List.getElem_mem hi);refine Bq (by simp only;omega) (Bp (m:=i) rfl hi ?_);refine AE (aj Z K al am (HQ O) (by omega)) ?_;rintro s ⟨s1,s2⟩;have be:=Nat.pow_le_pow_right (n:=2) (by omega) a3;refine AL (Nr Z (by omega)) (AE (Wb Z V U (by omega) Y) ?_);intro a7 a8;refine AT ((i+1:Nat):Int) (by simp) (by omega) (by omega) (Ak ⟨a7,rfl,a8.congr fun m b=>?_⟩);rw [s2,List.take_add_one,List.getElem?_eq_getElem hi];simp only [Option.toList_some,BS,List.mem_append,List.mem_singleton];constructor
       ·rintro(⟨t,t1,t2,t3⟩ | ⟨rfl,t3⟩)
        ·exact⟨t,.inl t1,t2,t3⟩
        ·exact⟨_,.inr rfl,V,t3⟩
       ·rintro⟨t,t1 | rfl,t2,t3⟩
        ·exact .inl ⟨t,t1,t2,t3⟩
        ·obtain rfl:a=b:=by omega
         exact .inr ⟨rfl,t3⟩
      ·rintro s ⟨r,rfl,Y⟩;unfold M9;rw [List.take_length] at Y;exact A6 (by simp only;omega) (Ak ⟨_,rfl,Y⟩)
     ·rintro r ⟨G,rfl,ap⟩;refine AE (S:=fun r=>r=((Dw (fun m=>CG (f y m)) 8:Nat):Int)) ?_ ?_
      ·refine B6 8 (fun i s=>s=(((Dw (fun m=>CG (f y m)) i:Nat):Int),(i:Int))) rfl (by omega) ?_ ?_
       ·rintro i s hi rfl;unfold M0;refine Bq (by simp only;omega) (EA (i:=i) rfl hi ?_);refine AL (SO (ap i hi).1) ?_;rw [R2 (f:=f y i) (ap i hi).1 fun b _=>((ap i hi).2 b).trans (a1 y i b).symm];refine AT ((i+1:Nat):Int) (by simp) (by omega) (by omega) (Ak (Prod.ext ?_ rfl));simp only [Dw];omega
       ·rintro s rfl;unfold M0;exact A6 (by simp only;omega) (Ak ⟨_,rfl,rfl⟩)
      ·rintro r rfl;refine AL (b:=Et (fun y=>Dw (fun m=>CG (f y m)) 8) (CG g) (y+1)) ?_ ?_
       ·simp only [Et];split <;> rfl
       exact AT ((y+1:Nat):Int) (by simp) (by omega) (by omega) (Ak rfl)
    ·rintro s rfl;unfold MO;exact A6 (by simp only;omega) (Ak ⟨_,rfl,rfl⟩)
   ·rintro r rfl;have a9:(if(Et (fun y=>Dw (fun m=>CG (f y m)) 8) (CG g) 7).1<0 then some (0,0,11) else some ((Et (fun y=>Dw (fun m=>CG (f y m)) 8) (CG g) 7).1,(Et (fun y=>Dw (fun m=>CG (f y m)) 8) (CG g) 7).2,0))=some (Jq f g):=by
     unfold Jq;split <;> rfl
    exact A1.of_eq a9 (.inr ⟨h,.inr ⟨k,ag,Ss a1 hg rfl⟩⟩)
 ·unfold Ju H6;refine AL (b:=(none,(0,[]),CL J lk)) ?_ (Bq h (Ak (.inl ⟨h,rfl⟩)));rw [RB (by omega) av,Option.bind_some,if_pos h]
theorem X9{F:Nat}{J:JW}{lk:Bm}(V:100<F)(ap:NL J):A1 (f36 F J lk) (LL J lk):=by
 unfold f36;refine AE (Yc V ap) ?_;rintro r (⟨O,rfl⟩ | ⟨h,⟨O,rfl⟩ | ⟨k,O,rfl⟩⟩)
 ·exact Bq O (Ak (.inl ⟨O,rfl⟩))
 ·exact Bq (by simp) (Ak (.inr ⟨h,.inl ⟨O,rfl⟩⟩))
 ·refine A6 (by simp) ?_;obtain⟨K,Y,a6⟩:=MM h;have a7:=K.le;have al:=O.le K Y;obtain⟨f,Z⟩:=JY fun y m b=>BS J (Eu J lk k) y m b;obtain⟨g0,av⟩:=JY fun _ _ b=>∃t∈Eu J lk k,t.1=((b:Nat):Int);generalize a0:g0 0 0=g;have hg:∀b,g b=true↔∃t∈Eu J lk k,t.1=((b:Nat):Int):=by rw [← a0];exact av 0 0
  refine AL (Px V K Y (.inl ⟨rfl,rfl⟩)) (AL (Ti (lo:=k) (hi:=k) V K Y al (by omega)) ?_);rw [RH (f:=g) fun b hb=>?_]
  ·refine AE (S:=fun r=>r=Et (fun y=>Dw (fun m=>CG (f y m)) 8) (CG g) 7) ?_ ?_
   ·refine B6 7 (fun y s=>s=((Et (fun y=>Dw (fun m=>CG (f y m)) 8) (CG g) y).1,(Et (fun y=>Dw (fun m=>CG (f y m)) 8) (CG g) y).2,(y:Int))) rfl (by omega) ?_ ?_
    ·rintro y s a8 rfl;unfold NV;refine Bq (by simp only;omega) (AE (S:=fun r=>r=((Dw (fun m=>CG (f y m)) 8:Nat):Int)) ?_ ?_)
     ·refine B6 J.1.length (fun i s=>s=(((Dw (fun m=>CG (f y m)) i:Nat):Int),(i:Int))) rfl (by omega) ?_ ?_
      ·rintro i s hi rfl;unfold NJ;refine Bq (by simp only;omega) (AE (Y3 (l:=((y:Int),(i:Int))) V (by omega)) ?_);rintro r ⟨q,ag,rfl⟩;have am:=Y.with (l:=((y:Int),(i:Int))) (by omega) ⟨by simp only;omega,by simp only;omega⟩ ⟨by simp only;omega,by simp only;omega⟩ ag;have hlen:(lk.take q++ [((y:Int),(i:Int))]++lk.drop q).length=lk.length+1:=by
        rw [MC.length_eq,List.length_append];rfl
       refine AL (Px (q:=q) V K am (.inr ⟨rfl,by have:=ag.1;omega⟩)) (AL (Ti (lo:=k) (hi:=k) V K am (by simp only;omega) (by omega)) ?_);rw [RH (f:=f y i) fun b hb=>?_]
       ·refine AT ((i+1:Nat):Int) (by simp) (by omega) (by omega) (Ak (Prod.ext ?_ rfl));simp only [Dw];omega
       ·rw [O4,Z,Yx hb,← YF K Y (by omega) (by omega) hi ag];constructor
        ·rintro⟨k',_,a1,a2,U⟩;obtain rfl:k'=k:=by omega
         exact U
        ·intro U;exact⟨k,by simp only;omega,Nat.le_refl _,Nat.le_refl _,U⟩
      ·rintro s rfl;unfold NJ;refine A6 (by simp only;omega) (Ak ⟨_,rfl,?_⟩);have:=RU (C:=fun m=>CG (f y m)) (n:=J.1.length) (fun m hm=>MD fun b _=>by
        rw [Bool.eq_false_iff]
        intro hb
        obtain⟨t,_,_,e,a3,he⟩:=(Z y m b).1 hb
        have:=a3.range K _ _ he
        omega) (8 - J.1.length)
       rw [show J.1.length+(8 - J.1.length)=8 by omega] at this;rw [this]
     ·rintro r rfl;refine AL (b:=Et (fun y=>Dw (fun m=>CG (f y m)) 8) (CG g) (y+1)) ?_ ?_
      ·simp only [Et];split <;> rfl
      exact AT ((y+1:Nat):Int) (by simp) (by omega) (by omega) (Ak rfl)
    ·rintro s rfl;unfold NV;exact A6 (by simp only;omega) (Ak ⟨_,rfl,rfl⟩)
   ·rintro r rfl;have a4:(if(Et (fun y=>Dw (fun m=>CG (f y m)) 8) (CG g) 7).1<0 then some (0,0,11) else some ((Et (fun y=>Dw (fun m=>CG (f y m)) 8) (CG g) 7).1,(Et (fun y=>Dw (fun m=>CG (f y m)) 8) (CG g) 7).2,0))=some (Jq f g):=by
     unfold Jq;split <;> rfl
    exact A1.of_eq a4 (.inr ⟨h,.inr ⟨k,O,Ss Z hg rfl⟩⟩)
  ·rw [O4,hg,ZR hb];have a5:=Tv (q:=16) (a:=b) (k:=k) K Y (by omega);rw [← a5];constructor
   ·rintro⟨k',_,a1,a2,U⟩;obtain rfl:k'=k:=by omega
    exact U
   ·intro U;exact⟨k,al,Nat.le_refl _,Nat.le_refl _,U⟩
theorem ao{F:Nat}(a2:3489660928<F)(hs:Km F=some true)(J:JW)(al:List (Int×Int))(l:Int×Int)(Oi:List Int):Ot F J al l Oi=some true:=by
 have O:100<F:=by omega
 refine C3 ?_;unfold Ot;refine AE (ZE O) ?_;intro bb a3;refine AE (S:=fun c=>c=false→NL J∧al.length≤20) ?_ ?_
 ·refine Bs (fun h=>Ak fun V=>by cases V) (fun h=>Ak fun V=>⟨a3 (by simpa using h),by simp at V;omega⟩)
 intro c a4;refine Bs (fun h=>AL hs (Ak rfl)) (fun h=>?_);obtain⟨am,ap⟩:=a4 (by simpa using h);refine AL (b:=(Oi,0,2685821657736338717)) rfl (AE (Z3 (k:=0) (b:=(Oi,0,2685821657736338717)) O am ⟨Int.le_refl _,Int.le_refl _⟩ (by omega)) ?_);rintro⟨bd,be⟩ ⟨⟨n,a5,Y,av⟩,a0⟩;simp only at av a0;subst av;refine AL (b:=a5) rfl (AE (Z7 (k:=301) O Y a0 (by omega) ap) ?_);rintro⟨ls,bi⟩ ⟨⟨u,v,a1,hu,a6⟩,bo⟩;simp only at a1;subst a1;refine AE (S:=fun q=>q=Sum.inr ()) ?_ (by rintro q rfl;rw [Sum.elim_inr];exact AL hs (Ak rfl));refine B6 3 (fun i s=>s=(i:Int)) rfl (by omega) ?_ ?_
 ·rintro i s hi rfl;unfold NC;obtain⟨K,Z,U⟩:=TU (P:=NL) am Y.nl Y.nl i hi;obtain⟨L,ag,a7⟩:=TU (P:=fun K:List (Int×Int)=>K.length≤20) ap hu a6 i hi;refine Bq (by simp;omega) (AL (Ed (m:=i) rfl Z) ?_);refine AL (Ed (m:=i) rfl ag) (AL (Zq O U) ?_);refine AL (aD (by omega)) (AE (VX a2 U) ?_);intro bv a8;refine AL (Ed (m:=i) rfl Z) (AL (Ed (m:=i) rfl ag) ?_);refine AE (X9 O U) ?_;intro bw a9;obtain rfl:=a8.uniq a9;refine AL (b:=false) (by rw [if_neg (by simp)];simp) (AL (b:=false) (by rw [if_neg (by simp)];simp) ?_);refine AL (b:=false) ?_ ?_
  ·rw [if_neg (by simp),Ed (m:=i) rfl Z,Option.bind_some,Zk O U];rfl
  refine AL (b:=false) ?_ ?_
  ·rw [if_neg (by simp),Ed (m:=i) rfl ag,Option.bind_some,ay O a7];rfl
  refine A6 (by simp) (AT ((i+1:Nat):Int) (by simp) (by omega) (by omega) ?_);exact Ak rfl
 ·rintro s rfl;unfold NC;exact A6 (by simp) (Ak ⟨_,rfl,rfl⟩)
end Pal
