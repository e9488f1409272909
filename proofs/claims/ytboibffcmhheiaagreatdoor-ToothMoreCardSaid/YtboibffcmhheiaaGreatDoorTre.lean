/- ToothMore. Part 5 of 8. -/
import Derived.Test.YtboibffcmhheiaaGreatDoorTrb
import Derived.Test.YtboibffcmhheiaaGreatDoorTrc
import Derived.Test.YtboibffcmhheiaaGreatDoorTrd
import Derived.ProofKit
set_option linter.all false
set_option maxRecDepth 100000
namespace Pal
def Es(J:JW)(lk:Cv):Nat→Nat→List Int→Nat→List (List Int×Nat)
 | 0,_,ms,fl=> [(ms,fl)]
 | k+1,sm,ms,fl=>(CC sm 16).flatMap fun m=>if EV J lk ms.length m=true then Es J lk k (CF (J.1.getD m.toNat [])) (ms++ [m]) (fl ||| De lk ms.length m lk.length) else []
theorem Oy(s:Nat):(CC s 16).length≤16:=My s 16
theorem Mw{α β:Type}{f:α→List β}{b:Nat}:∀{l:List α},(∀x∈l,(f x).length≤b)→(l.flatMap f).length≤l.length*b
 | [],_=>by simp
 | x::l,h=>by
  have O:=h x (by simp)
  have U:=Mw (l:=l) (fun y K=>h y (by simp [K]))
  simp only [List.flatMap_cons,List.length_append,List.length_cons,Nat.succ_mul]
  omega
theorem M3(J:JW)(lk:Cv):∀k sm ms fl,(Es J lk k sm ms fl).length≤16 ^ k
 | 0,_,_,_=>by simp [Es]
 | k+1,sm,ms,fl=>by
  unfold Es
  refine Nat.le_trans (Mw (b:=16 ^ k) fun m _=>?_) ?_
  ·split
   ·exact M3 J lk k _ _ _
   ·simp
  ·rw [Nat.pow_succ,Nat.mul_comm];exact Nat.mul_le_mul_left _ (Oy sm)
theorem Om{α β:Type}{step:List β→α→Option (List β)}{f:α→List β}:∀{l:List α} {ac:List β},(∀(l1 l2:List α) x,l=l1++x::l2→step (ac++l1.flatMap f) x=some (ac++(l1++ [x]).flatMap f))→EO step l ac=some (ac++l.flatMap f)
 | [],ac,_=>by simp [EO]
 | x::l,ac,h=>by
  have K:=h [] l x rfl
  simp only [List.flatMap_nil,List.append_nil,List.nil_append] at K
  unfold EO
  rw [K]
  simp only [Option.bind_some]
  rw [Om (f:=f) (ac:=ac++ [x].flatMap f) (l:=l) ?_]
  ·simp
  ·intro l1 l2 y O;have:=h (x::l1) l2 y (by rw [O];rfl);simp only [List.flatMap_cons,List.flatMap_nil,List.append_nil,List.cons_append,List.append_assoc] at this ⊢;simpa using this
theorem R2{α β:Type}{step:List β→α→Option (List β)}{f:α→List β}{l:List α}{ac:List β}(h:∀(l1 l2:List α) x,l=l1++x::l2→step (ac++l1.flatMap f) x=some (ac++l1.flatMap f++f x)):EO step l ac=some (ac++l.flatMap f):=
 Om fun l1 l2 x e=>by rw [h l1 l2 x e];simp
theorem VN{F n:Nat}{J:JW}{A:List Nat}{lk:Cv}{age:Int}{ok:List (List Int×Nat)→Bool}(Y:100<F)(O:VJ n J)(U:CQ n lk)(ao:∀l:List (List Int×Nat),l.length≤16 ^ 7→(∀x∈l,x.2<65536)→ok l=true):
  ∀(k g sm:Nat) (ms:List Int) (fl:Nat) (ac:List (List Int×Nat)),ms.length+k=Gx lk+1→k<g→sm<2 ^ n→fl<65536→ac.length+16 ^ k≤16 ^ 7→(∀x∈ac,x.2<65536)→
   HU ok F (J.1,J.2,A) lk age g sm ms fl ac=some (ac++Es J lk k sm ms fl)∧∀x∈Es J lk k sm ms fl,x.2<65536:=by
 have aE:=Pb U;have ap:=O.le;have aF:=Pl ap;intro k
 induction k with
 | zero=>
  intro g sm ms fl ac aq ar ag V hlen Z;obtain⟨g,rfl⟩:∃g',g=g'+1:=⟨g - 1,by omega⟩;refine⟨?_,fun x K=>by simp [Es] at K;subst K;exact V⟩;unfold HU;have aa:HR F (J.1,J.2,A) lk age ms fl sm=some none:=by
   unfold HR;rw [OW U];simp only [Option.bind_some];rw [if_pos (by omega)]
  rw [aa];simp only [Option.bind_some,IZ];rw [if_pos]
  ·rfl
  ·refine ao _ (by simpa using hlen) fun x K=>?_;rcases List.mem_append.1 K with K | K
   ·exact Z x K
   ·simp at K;subst K;exact V
 | succ k ah=>
  intro g sm ms fl ac aq ar ag V hlen Z;obtain⟨g,rfl⟩:∃g',g=g'+1:=⟨g - 1,by omega⟩;have aG:ms.length≤6:=by omega
  have aH:=Oy sm;have ai:∀m∈CC sm 16,∃q:Nat,m=(q:Int)∧q<n:=fun m hm=>by
   obtain⟨q,_,q2,au⟩:=Iw.1 hm;exact⟨q,au,IB ag q2⟩
  have aj:∀m:Int,fl ||| De lk ms.length m lk.length<65536:=fun m=>LR V (LJ _ _ _ _ (by have:=U.len;omega))
  have ak:∀q:Nat,q<n→CF (J.1.getD q [])<2 ^ n:=fun q W=>by
   rcases Nat.lt_or_ge (CF (J.1.getD q [])) (2 ^ n) with h | h
   ·exact h
   ·obtain⟨i,aI,al⟩:=Nat.exists_ge_and_testBit_of_ge_two_pow h;rw [KE (fun x K=>((O.G8 q).inr x K).1)] at al;have:=(O.G8 q).inr _ (of_decide_eq_true al);omega
  have am:∀m∈CC sm 16,EV J lk ms.length m=true→∀x∈Es J lk k (CF (J.1.getD m.toNat [])) (ms++ [m]) (fl ||| De lk ms.length m lk.length),x.2<65536:=fun m hm hb=>by
   obtain⟨q,rfl,W⟩:=ai m hm;have av:16 ^ k≤16 ^ 7:=Nat.pow_le_pow_right (by omega) (by omega);exact(ah (k+1) _ _ _ [] (by simp;omega) (by omega) (ak q W) (aj _) (by simpa using av) (fun x K=>by simp at K)).2
  constructor
  ·unfold HU;have aa:HR F (J.1,J.2,A) lk age ms fl sm=some (some (CC sm 16)):=by
    unfold HR;rw [OW U];simp only [Option.bind_some];rw [if_neg (by omega),Nl Y (by omega)];rfl
   rw [aa];simp only [Option.bind_some,IZ];rw [if_pos (by omega)];have e:Es J lk (k+1) sm ms fl=(CC sm 16).flatMap fun m=>if EV J lk ms.length m=true then Es J lk k (CF (J.1.getD m.toNat [])) (ms++ [m]) (fl ||| De lk ms.length m lk.length) else []:=rfl
   rw [e];refine R2 fun l1 l2 m hm=>?_;have aw:m∈CC sm 16:=by rw [hm];simp
   obtain⟨q,rfl,W⟩:=ai m aw;unfold NG;rw [Uk Y O U W (by omega) V];simp only [Option.bind_some];by_cases hb:EV J lk ms.length (q:Int)=true
   ·rw [if_pos hb,if_pos hb];simp only;have ay:J4 F (J.1,J.2,A) lk age (ms++ [(q:Int)]) (fl ||| De lk ms.length (q:Int) lk.length) (q:Int)=some (CF (J.1.getD q [])):=by
     unfold J4;have az:J.1[q]? =some (J.1.getD q []):=by rw [List.getD_eq_getElem?_getD,List.getElem?_eq_getElem (by have:=O.l1;omega)];rfl
     have an:=O.G8 q;rw [Gz (m:=q) rfl az];simp only [Option.bind_some];rw [PH Y (by have:=an.len;omega) (fun x K=>by have:=an.inr x K;omega)];rfl
    rw [ay];simp only [Option.bind_some];have aA:l1.length+1≤16:=by
     have:=congrArg List.length hm;simp at this;omega
    have aJ:(l1.flatMap fun m=>if EV J lk ms.length m=true then Es J lk k (CF (J.1.getD m.toNat [])) (ms++ [m]) (fl ||| De lk ms.length m lk.length) else []).length≤l1.length*16 ^ k:=Mw fun y _=>by
     split
     ·exact M3 _ _ _ _ _ _
     ·simp
    have hmul:l1.length*16 ^ k+16 ^ k≤16 ^ (k+1):=by
     rw [Nat.pow_succ,← Nat.succ_mul,Nat.mul_comm _ 16];exact Nat.mul_le_mul_right _ aA
    have:=ah g (CF (J.1.getD q [])) (ms++ [(q:Int)]) (fl ||| De lk ms.length (q:Int) lk.length) (ac++l1.flatMap fun m=>if EV J lk ms.length m=true then Es J lk k (CF (J.1.getD m.toNat [])) (ms++ [m]) (fl ||| De lk ms.length m lk.length) else []) (by simp;omega) (by omega) (ak q W) (aj _) (by rw [List.length_append];omega) ?_
    ·rw [this.1,show((q:Int)).toNat=q by omega]
    ·intro x K;rcases List.mem_append.1 K with K | K
     ·exact Z x K
     ·obtain⟨y,aB,ab⟩:=List.mem_flatMap.1 K;have aC:y∈CC sm 16:=by rw [hm];simp [aB]
      split at ab
      ·rename_i aD;exact am y aC aD x ab
      ·simp at ab
   ·rw [if_neg hb,if_neg hb];simp
  ·intro x K;unfold Es at K;obtain⟨m,hm,ae⟩:=List.mem_flatMap.1 K;split at ae
   ·rename_i hb;exact am m hm hb x ae
   ·simp at ae
end Pal
namespace Pal
abbrev DF:=Int×List Int×Nat
def EC(t:DF):Nat:=(CC t.2.2 16).length
theorem Ue{F:Nat}{t:DF}(K:100<F)(h:t.2.2<65536):f130 F t=some (EC t:Int):=by
 unfold f130;rw [Nl K h];rfl
def G5(K:List DF)(q:Int×List DF):Prop:=(K= []∧q=(0,[]))∨∃k:Nat,q.1=(k:Int)∧(∃t∈K,EC t=k)∧(∀t∈K,k≤EC t)∧q.2=K.filter (fun t=>decide (EC t=k))
theorem G5.len{K:List DF}{q:Int×List DF}(h:G5 K q):q.2.length≤K.length:=by
 rcases h with⟨_,rfl⟩ | ⟨k,_,_,_,h⟩
 ·simp
 ·rw [h];exact List.length_filter_le _ _
theorem G5.snoc(F:Nat){O:List DF}{q:Int×List DF}{t:DF}(h:G5 O q)(ak:O.length<2 ^ 39):∃K,HS F q.1 q.2 t (EC t:Int)=some K∧G5 (O++ [t]) K:=by
 have ag:=h.len;obtain⟨le,all⟩:=q;simp only at ag ⊢;have fresh:∀c:Bool,c=true→(∀s∈O,EC t<EC s)→∃K:Int×List DF,(Option.bind (if c=true then some ((EC t:Int),([]:List DF)) else some (le,all)) fun U=>Option.bind (if(EC t:Int)=U.1 then(Ds U.2 ([t]:List DF)).bind fun ah=>some ah else some U.2) fun ai=>some (U.1,ai))=some K∧G5 (O++ [t]) K:=by
  rintro c rfl V;refine⟨((EC t:Int),[t]),?_,.inr ⟨EC t,rfl,⟨t,by simp,rfl⟩,?_,?_⟩⟩
  ·simp [Ds]
  ·intro s hs;rcases List.mem_append.1 hs with hs | hs
   ·exact Nat.le_of_lt (V s hs)
   ·simp at hs;subst hs;exact Nat.le_refl _
  ·rw [List.filter_append,List.filter_eq_nil_iff.2 fun s hs=>by have:=V s hs;simp;omega];simp
 unfold HS;rcases h with⟨rfl,he⟩ | ⟨k,ae,⟨s,hs,Y⟩,Z,W⟩
 ·cases he;simp only [List.length_nil];obtain⟨K,aa,ab⟩:=fresh true rfl (fun s hs=>by simp at hs);exact⟨K,by simpa using aa,ab⟩
 ·simp only at ae W;subst ae;have aj:¬((all.length:Int)=0):=by
   have:s∈all:=by rw [W];exact List.mem_filter.2 ⟨hs,by simpa using Y⟩
   have:=List.length_pos_of_mem this;omega
  rw [if_neg aj];simp only [Option.bind_some];rcases Nat.lt_trichotomy (EC t) k with V | heq | al
  ·obtain⟨K,aa,ab⟩:=fresh (decide ((EC t:Int)<(k:Int))) (decide_eq_true (by omega)) (fun s hs=>Nat.lt_of_lt_of_le V (Z s hs));exact⟨K,aa,ab⟩
  ·rw [if_neg (by rw [decide_eq_true_iff];omega)];simp only [Option.bind_some];rw [if_pos (by omega)];refine⟨((k:Int),all++ [t]),?_,.inr ⟨k,rfl,⟨s,by simp [hs],Y⟩,?_,?_⟩⟩
   ·unfold Ds;rw [if_pos (by simp;omega)];rfl
   ·intro u hu;rcases List.mem_append.1 hu with hu | hu
    ·exact Z u hu
    ·simp at hu;subst hu;omega
   ·rw [List.filter_append,W];simp [heq]
  ·rw [if_neg (by rw [decide_eq_true_iff];omega)];simp only [Option.bind_some];rw [if_neg (by omega)];refine⟨((k:Int),all),rfl,.inr ⟨k,rfl,⟨s,by simp [hs],Y⟩,?_,?_⟩⟩
   ·intro u hu;rcases List.mem_append.1 hu with hu | hu
    ·exact Z u hu
    ·simp at hu;subst hu;omega
   ·rw [List.filter_append,← W];have:¬EC t=k:=by omega
    simp [this]
theorem MG{F:Nat}{a:Int}(O:100<F):∀(l:List (List Int×Nat)) (K:List DF) (q:Int×List DF),G5 K q→K.length+l.length<2 ^ 39→(∀x∈l,x.2<65536)→
  ∃U,EO (add1 F a) l q=some U∧G5 (K++l.map fun x=>(a,x.1,x.2)) U
 | [],K,q,h,_,_=>⟨q,rfl,by simpa using h⟩
 | x::l,K,q,h,W,V=>by
  simp only [List.length_cons] at W
  obtain⟨q1,Y,Z⟩:=h.snoc F (t:=(a,x.1,x.2)) (by omega)
  obtain⟨q2,aa,ab⟩:=MG O l (K++ [(a,x.1,x.2)]) q1 Z (by simp;omega) (fun y ae=>V y (by simp [ae]))
  refine⟨q2,?_,by simpa using ab⟩
  unfold EO add1
  rw [Ue (t:=(a,x.1,x.2)) O (V x (by simp))]
  simp only [Option.bind_some]
  rw [Y];exact aa
def TA(J:JW)(lk:Cv)(a:Nat):List DF:=(Es J lk (Gx lk+1) (AG J a) [] 0).map fun x=>((a:Int),x.1,x.2)
def TT(J:JW)(lk:Cv):List DF:=(List.range 13).flatMap (TA J lk)
theorem O2{F n a:Nat}{J:JW}{lk:Cv}(K:100<F)(O:VJ n J)(U:CQ n lk)(V:a<13):∃q,Gb F (J.1,J.2,Gf J) lk (a:Int)=some q∧G5 (TA J lk a) q∧∀t∈TA J lk a,t.2.2<65536:=by
 have ag:=Pb U;have W:(16:Nat) ^ (Gx lk+1)≤16 ^ 7:=Nat.pow_le_pow_right (by omega) (by omega);have Y:∀l:List (List Int×Nat),l.length≤16 ^ 7→(∀x∈l,x.2<65536)→(GX F (a:Int) l).isSome=true:=fun l ah Z=>by
  obtain⟨q,e,_⟩:=MG (a:=(a:Int)) K l [] (0,[]) (.inl ⟨rfl,rfl⟩) (by simp;omega) Z;unfold GX;rw [e];rfl
 obtain⟨d1,d2⟩:=VN (A:=Gf J) (age:=(a:Int)) (ok:=fun ac=>(GX F (a:Int) ac).isSome) K O U Y (Gx lk+1) F (AG J a) [] 0 [] (by simp) (by omega) (JV O a) (by omega) (by simpa using W) (by simp);obtain⟨q,aa,ab⟩:=MG (a:=(a:Int)) K (Es J lk (Gx lk+1) (AG J a) [] 0) [] (0,[]) (.inl ⟨rfl,rfl⟩) (by have:=M3 J lk (Gx lk+1) (AG J a) [] 0;simp;omega) d2;refine⟨q,?_,by unfold TA;simpa using ab,?_⟩
 ·unfold Gb I3;rw [Gz (m:=a) rfl (Uq J V)];simp only [Option.bind_some];rw [d1];simp only [Option.bind_some,List.nil_append];exact aa
 ·intro t ht;obtain⟨x,ae,rfl⟩:=List.mem_map.1 ht;exact d2 x ae
theorem SP{F n:Nat}{J:JW}{lk:Cv}(O:100<F)(U:VJ n J)(V:CQ n lk):∃qs:Nat→Int×List DF,IV F (J.1,J.2,Gf J) lk=some (En qs)∧∀j,j<13→G5 (TA J lk j) (qs j):=by
 refine⟨fun j=>(Gb F (J.1,J.2,Gf J) lk ((j:Nat):Int)).getD (0,[]),?_,fun j K=>?_⟩
 ·unfold IV;rw [if_pos];rw [List.all_eq_true];intro j K;obtain⟨q,e,_⟩:=O2 O U V (List.mem_range.1 K);rw [e];rfl
 ·obtain⟨q,e,h,_⟩:=O2 O U V K;simp only [e];exact h
theorem R4(qs:Nat→Int×List DF):(En qs).length≤13:=by
 unfold En;rw [List.length_map];exact Nat.le_trans (List.length_filter_le _ _) (by simp)
end Pal
namespace Pal
theorem LB{J:JW}{lk:Cv}{t:DF}:t∈TT J lk↔∃a,a<13∧t∈TA J lk a:=by
 unfold TT;rw [List.mem_flatMap];exact⟨fun⟨a,K,O⟩=>⟨a,List.mem_range.1 K,O⟩,fun⟨a,K,O⟩=>⟨a,List.mem_range.2 K,O⟩⟩
theorem QB{J:JW}{lk:Cv}{a:Nat}{t:DF}(h:t∈TA J lk a):t.1=(a:Int):=by
 obtain⟨x,_,rfl⟩:=List.mem_map.1 h;rfl
def Fg(J:JW)(lk:Cv)(p:Nat):List Int:=((List.range 13).filter fun a=>(TA J lk a).any fun t=>decide (EC t≤p)).map fun(a:Nat)=>(a:Int)
theorem Ou{J:JW}{lk:Cv}{p:Nat}{x:Int}:x∈Fg J lk p↔∃t∈TT J lk,EC t≤p∧t.1=x:=by
 unfold Fg;simp only [List.mem_map,List.mem_filter,List.mem_range,List.any_eq_true,decide_eq_true_iff];constructor
 ·rintro⟨a,⟨O,t,K,V⟩,rfl⟩;exact⟨t,LB.2 ⟨a,O,K⟩,V,QB K⟩
 ·rintro⟨t,O,K,rfl⟩;obtain⟨a,W,U⟩:=LB.1 O;exact⟨a,⟨W,t,U,K⟩,(QB U).symm⟩
theorem MH(J:JW)(lk:Cv)(p:Nat):(Fg J lk p).length≤13:=by
 unfold Fg;rw [List.length_map];exact Nat.le_trans (List.length_filter_le _ _) (by simp)
theorem M6{F n p:Nat}{J:JW}{lk:Cv}(ak:268435456<F)(K:VJ n J)(O:CQ n lk)(W:lk.length≤4)(al:p≤4):f43 F J lk (p:Int)=some (if Fg J lk p= [] then([],11) else(Fg J lk p,0)):=by
 obtain⟨qs,e,Y⟩:=SP (F:=F) (by omega) K O;have am:=R4 qs;refine D7 ?_;unfold f43;refine Bl (Ve (by omega) K O W) (BB (by simp) ?_);refine Bl (Lh F _ _ _) (BB (by simp;omega) ?_);refine Bl (U7 (by omega) K) (Bl (b:=(J.1,J.2,Gf J)) rfl ?_);refine Bl e ?_;have Z:((En qs).filter fun q=>decide (q.2.1≤(p:Int))).map (fun q=>q.1)=Fg J lk p:=by
  unfold En Fg;rw [List.filter_map,List.map_map,List.filter_filter];have:(List.range 13).filter (fun j=>((fun q:Int×Int×List DF=>decide (q.2.1≤(p:Int)))∘partOf qs) j&&decide (0<(qs j).2.length))=(List.range 13).filter fun a=>(TA J lk a).any fun t=>decide (EC t≤p):=by
   refine List.filter_congr fun j aa=>?_;have ab:=Y j (List.mem_range.1 aa);rw [Bool.eq_iff_iff];simp only [Function.comp,partOf,Bool.and_eq_true,decide_eq_true_iff,List.any_eq_true];rcases ab with⟨U,g2⟩ | ⟨k,U,⟨t,ht,ae⟩,ag,ah⟩
   ·constructor
    ·rintro⟨_,h⟩;rw [g2] at h;simp at h
    ·rintro⟨t,ht,_⟩;rw [U] at ht;simp at ht
   ·have:t∈(qs j).2:=by rw [ah];exact List.mem_filter.2 ⟨ht,by simpa using ae⟩
    have ai:=List.length_pos_of_mem this;constructor
    ·rintro⟨aj,_⟩;have V:(qs j).1≤(p:Int):=of_decide_eq_true aj;exact⟨t,ht,by omega⟩
    ·rintro⟨s,hs,an⟩;have:=ag s hs;have V:(qs j).1≤(p:Int):=by omega
     exact⟨decide_eq_true V,ai⟩
  rw [this];rfl
 refine AU (S:=fun r=>r=Fg J lk p) ?_ ?_
 ·rw [← Z];refine DX (En qs).length (fun i s=>s=((((En qs).take i).filter fun q=>decide (q.2.1≤(p:Int))).map (fun q=>q.1),(i:Int))) rfl (by omega) ?_ ?_
  ·rintro i s hi rfl;unfold Ls;refine Cy (by simp only;omega) (BM (m:=i) rfl hi ?_);refine AU (S:=fun c=>c=(((En qs).take (i+1)).filter fun q=>decide (q.2.1≤(p:Int))).map (fun q=>q.1)) ?_ ?_
   ·rw [List.take_add_one,List.getElem?_eq_getElem hi];simp only [Option.toList_some];rw [List.filter_append,List.map_append];refine B8 (fun h=>?_) (fun h=>?_)
    ·refine H7 ?_ (Au ?_)
     ·rw [List.length_map];exact Nat.le_trans (Nat.add_le_add_right (Nat.le_trans (List.length_filter_le _ _) (show((En qs).take i).length≤13 by rw [List.length_take];omega)) 1) (by omega)
     ·simp [List.filter_cons,h]
    ·refine Au ?_;simp [List.filter_cons,h]
   ·rintro c rfl;exact Bh ((i+1:Nat):Int) (by simp) (by omega) (by omega) (Au rfl)
  ·rintro s rfl;unfold Ls;refine BB (by simp) (Au ⟨_,rfl,?_⟩);rw [List.take_length]
 ·rintro r rfl;refine B8 (fun h=>?_) (fun h=>?_)
  ·rw [if_pos (List.length_eq_zero_iff.1 (by omega))];exact Au rfl
  ·rw [if_neg (fun e=>h (by rw [e];rfl))];exact Au rfl
end Pal
namespace Pal
def F9(J:JW)(a:Nat)(p:List Int):Prop:=(∀m,p[0]? =some m→∃k:Nat,m=(k:Int)∧(AG J a).testBit k=true)∧∀(y:Nat) m m',p[y]? =some m→p[y+1]? =some m'→m'∈J.1.getD m.toNat []
theorem F9.range{n a:Nat}{J:JW}{p:List Int}(K:VJ n J)(h:F9 J a p):∀(y:Nat) m,p[y]? =some m→0≤m∧m<(n:Int)
 | 0,m,hm=>by
  obtain⟨k,rfl,O⟩:=h.1 m hm
  have:=IB (JV K a) O
  omega
 | y+1,m,hm=>by
  have U:y<p.length:=by have:=(List.getElem?_eq_some_iff.1 hm).1;omega
  exact(K.G8 _).inr _ (h.2 y p[y] m (List.getElem?_eq_getElem U) hm)
theorem F9.take{a:Nat}{J:JW}{p:List Int}(h:F9 J a p)(k:Nat):F9 J a (p.take k):=by
 have key:∀(y:Nat) m,(p.take k)[y]? =some m→p[y]? =some m:=fun y m hm=>by
  rw [List.getElem?_take] at hm;split at hm
  ·exact hm
  ·cases hm
 exact⟨fun m hm=>h.1 m (key 0 m hm),fun y m m' K O=>h.2 y m m' (key _ _ K) (key _ _ O)⟩
theorem F9.snoc{a:Nat}{J:JW}{p:List Int}{m x:Int}(h:F9 J a (p++ [m]))(U:x∈J.1.getD m.toNat []):F9 J a (p++ [m]++ [x]):=by
 constructor
 ·intro y O;rw [List.getElem?_append_left (by simp)] at O;exact h.1 y O
 ·intro y u V hu K;rcases Nat.lt_or_ge (y+1) (p++ [m]).length with W | Y
  ·rw [List.getElem?_append_left (by omega)] at hu;rw [List.getElem?_append_left W] at K;exact h.2 y u V hu K
  ·have Z:=(List.getElem?_eq_some_iff.1 K).1;simp only [List.length_append,List.length_singleton] at Y Z;have e:y=p.length:=by omega
   subst e;rw [List.getElem?_append_left (by simp),List.getElem?_append_right (by omega)] at hu;rw [List.getElem?_append_right (by simp)] at K;simp at hu K;subst hu;subst K;exact U
theorem TO{n a q:Nat}{J:JW}{x:Int}(K:VJ n J)(O:(AG J a).testBit q=true)(U:x∈J.1.getD q []):∃k:Nat,x=(k:Int)∧(AG J (a+1)).testBit k=true:=by
 have V:=(K.G8 q).inr x U;refine⟨x.toNat,by omega,?_⟩;show(GI J.1 (AG J a)).testBit _=true;rw [Lq K];exact⟨q,by have:=IB (JV K a) O;have:=K.le;omega,O,by rw [show((x.toNat:Nat):Int)=x by omega];exact U⟩
theorem VJ.Q5{n q:Nat}{J:JW}(K:VJ n J)(U:q<n):J.1[q]? =some (J.1.getD q [])∧0<(J.1.getD q []).length:=by
 have V:=K.l1;have O:J.1[q]? =some (J.1.getD q []):=by rw [List.getD_eq_getElem?_getD,List.getElem?_eq_getElem (by omega)];rfl
 exact⟨O,(K.nx q _ O).2⟩
theorem Vk{F k n yrs:Nat}{b:Fo}{J:JW}(aA:100<F)(K:VJ n J)(hb:BG k b)(aB:k<1000)(aC:yrs≤20):
  A7 (f45 F b J (yrs:Int)) (fun r=>∃a:Nat,r.1=(a:Int)∧a≤6∧r.2.1.length=yrs∧F9 J a r.2.1∧BG (k+30) r.2.2):=by
 have aD:=K.le;have aE:=K.pos;unfold f45;refine AU (Gr hb (by omega) (by omega)) ?_;rintro⟨am,aF⟩ ⟨ap,g2,an⟩;simp only at ap g2 an ⊢;obtain⟨a,rfl⟩:∃a:Nat,am=(a:Int):=⟨am.toNat,by omega⟩;refine AU (S:=fun r=>∃q:Nat,r.1=(q:Int)∧(AG J a).testBit q=true∧BG (k+7) r.2) ?_ ?_
 ·refine DX a (fun i s=>∃q:Nat,s.2.2.2.1=(q:Int)∧(AG J i).testBit q=true∧s.2.2.2.2=(i:Int)∧BG (k+1+i) (s.1,s.2.1,s.2.2.1)) ⟨0,rfl,by show(1:Nat).testBit 0=true;decide,rfl,an⟩ (by omega) ?_ ?_
  ·rintro i ⟨s1,s2,aj,Y,ai⟩ hi ⟨q,O,Z,aa,ab⟩;simp only at O aa ab;subst O;subst aa;unfold LG;have aq:=IB (JV K i) Z;obtain⟨ak,al⟩:=K.Q5 aq;refine Cy (by simp only;omega) (Bl (Gz (m:=q) rfl ak) ?_);refine AU (Lx (F:=F) ab (by omega) al (by have:=(K.G8 q).len;omega)) ?_;rintro⟨x,ar⟩ ⟨ae,ag⟩;simp only at ae ag ⊢;obtain⟨au,rfl,av⟩:=TO K Z ae;exact Bh ((i+1:Nat):Int) (by simp) (by omega) (by omega) (Au ⟨au,rfl,av,rfl,ag⟩)
  ·rintro⟨s1,s2,aj,Y,ai⟩ ⟨q,O,Z,aa,ab⟩;simp only at O aa ab;subst O;subst aa;unfold LG;exact BB (by simp) (Au ⟨_,rfl,q,rfl,Z,ab.Ag (by omega)⟩)
 ·rintro⟨aG,ar⟩ ⟨q,O,Z,ag⟩;simp only at O ag ⊢;subst O;refine AU (S:=fun r=>r.1.length=yrs∧F9 J a r.1∧BG (k+30) r.2) ?_ ?_
  ·refine DX yrs (fun i s=>s.2.2.2.2.1.length=i∧s.2.2.2.2.2=(i:Int)∧F9 J a (s.2.2.2.2.1++ [s.2.2.2.1])∧BG (k+7+i) (s.1,s.2.1,s.2.2.1)) ⟨rfl,rfl,⟨?_,?_⟩,ag⟩ (by omega) ?_ ?_
   ·intro m hm;simp at hm;subst hm;exact⟨q,rfl,Z⟩
   ·intro y m m' _ aw;simp at aw
   ·rintro i ⟨s1,s2,aj,Y,ai,ay⟩ hi ⟨U,W,V,ah⟩;simp only at U W V ah;subst W;unfold Lu;have aH:=V.range K i Y (by rw [List.getElem?_append_right (by omega)];simp [U]);obtain⟨u,hu⟩:∃u:Nat,Y=(u:Int):=⟨Y.toNat,by omega⟩;subst hu;obtain⟨ak,al⟩:=K.Q5 (q:=u) (by omega);refine Cy (by simp only;omega) (H7 (by simp only;omega) ?_);refine Bl (Gz (m:=u) rfl ak) (AU (Lx (F:=F) ah (by omega) al (by have:=(K.G8 u).len;omega)) ?_);rintro⟨x,az⟩ ⟨ae,ao⟩;simp only at ae ao ⊢;exact Bh ((i+1:Nat):Int) (by simp) (by omega) (by omega) (Au ⟨by simp [U],rfl,V.snoc (by simpa using ae),ao⟩)
   ·rintro⟨s1,s2,aj,Y,ai,ay⟩ ⟨U,W,V,ah⟩;simp only at U W V ah;subst W;unfold Lu;refine BB (by simp) (Au ⟨_,rfl,U,?_,ah.Ag (by omega)⟩);have:=V.take ai.length
    rwa [List.take_left' rfl] at this
  ·rintro⟨ms,az⟩ ⟨U,W,V⟩;exact Au ⟨a,rfl,by omega,U,W,V⟩
theorem CQ.snoc{n:Nat}{lk:Cv}{l:Int×Int}(h:CQ n lk)(Y:lk.length<4)(U:0≤l.1∧l.1≤6)(V:0≤l.2∧l.2<(n:Int))(W:∀x∈lk,x.1≤l.1):CQ n (lk++ [l]) where
 len:=by simp;omega
 yr x K:=by
  rcases List.mem_append.1 K with K | K
  ·exact h.yr x K
  ·simp at K;subst K;exact U
 sn x K:=by
  rcases List.mem_append.1 K with K | K
  ·exact h.sn x K
  ·simp at K;subst K;exact V
 HY:=by
  rw [List.pairwise_append];exact⟨h.HY,by simp,fun x K y O=>by simp at O;subst O;exact W x K⟩
theorem CQ.nil{n:Nat}:CQ n []:=⟨by simp,by simp,by simp,by simp⟩
theorem Vb{F k n many:Nat}{b:Fo}{J:JW}{ms:List Int}(fl:Bool)(aE:100<F)(ag:VJ n J)(hb:BG k b)(aF:k<1000)(hm:many≤4)(ap:0<ms.length∧ms.length≤7)(Y:∀(y:Nat) m,ms[y]? =some m→0≤m∧m<(n:Int)):
  A7 (f46 F b J ms (many:Int) fl) (fun r=>CQ n r.1∧r.1.length≤many∧(∀l∈r.1,l.1.toNat<ms.length)∧(fl=false→∀l∈r.1,ms[l.1.toNat]? =some l.2)∧BG (k+30) r.2):=by
 have aq:=ag.l2;unfold f46;refine AU (Gr hb (by omega) (by omega)) ?_;rintro⟨ct,aG⟩ ⟨ar,g2,ah⟩;simp only at ar g2 ah ⊢;obtain⟨c,rfl⟩:∃c:Nat,ct=(c:Int):=⟨ct.toNat,by omega⟩;refine AU (S:=fun r=>CQ n r.1∧r.1.length≤many∧(∀l∈r.1,l.1.toNat<ms.length)∧(fl=false→∀l∈r.1,ms[l.1.toNat]? =some l.2)∧BG (k+30) r.2) ?_ (fun r Y=>Au Y);refine KX (fun m s=>∃y:Nat,s.2.2.2.2.2=(m:Int)∧s.2.2.2.2.1=(y:Int)∧y<ms.length∧s.2.2.2.1.length+m≤many∧CQ n s.2.2.2.1∧(∀l∈s.2.2.2.1,l.1≤(y:Int))∧(fl=false→∀l∈s.2.2.2.1,ms[l.1.toNat]? =some l.2)∧BG (k+29 - 4*m) (s.1,s.2.1,s.2.2.1)) ?_ (m:=c) ⟨0,rfl,rfl,ap.1,by simp;omega,CQ.nil,by simp,by simp,ah.Ag (by omega)⟩ (by omega);rintro m ⟨s1,s2,aH,out,yr,cnt⟩ ⟨y,ai,aj,aI,hlen,U,hle,Z,aa⟩;simp only at ai aj hlen U hle Z aa;subst ai;subst aj;unfold Nk;refine B8 (fun au=>?_) (fun av=>?_)
 ·simp only at au;have aJ:0<m:=by omega
  refine Bh ((ms.length - 1:Nat):Int) (by omega) (by omega) (by omega) (Bh ((y+2:Nat):Int) (by simp only;omega) (by omega) (by omega) ?_);refine AU (Nc (F:=F) aa (by omega) (by simp only;omega) (by simp only;omega) (by omega)) ?_;rintro⟨ak,aK⟩ ⟨v1,v2,ab⟩;simp only at v1 v2 ab ⊢;obtain⟨z,rfl⟩:∃z:Nat,ak=(z:Int):=⟨ak.toNat,by omega⟩;have al:z<ms.length:=by omega
  have V:ms[z]? =some ms[z]:=List.getElem?_eq_getElem al;obtain⟨aL,aw⟩:=Y z _ V;obtain⟨q,ay⟩:∃q:Nat,ms[z]=(q:Int):=⟨ms[z].toNat,by omega⟩;rw [ay] at V aw;have aM:q<n:=by omega
  have az:J.2[q]? =some (J.2.getD q []):=by rw [List.getD_eq_getElem?_getD,List.getElem?_eq_getElem (by omega)];rfl
  have am:=ag.Q6 q;refine Bl (Gz (m:=z) rfl V) ?_;refine Bl (Gz (m:=z) rfl V) ?_;refine Bl (Gz (m:=q) rfl az) ?_;refine AU (S:=fun c=>c=true→fl=true∧0<(J.2.getD q []).length) ?_ ?_
  ·refine B8 (fun h=>Au fun O=>⟨h,by have:=of_decide_eq_true O;omega⟩) (fun _=>Au fun O=>by cases O)
  ·intro aN aA;refine AU (S:=fun r=>(r.1=true→fl=true∧0<(J.2.getD q []).length)∧BG (k+29 - 4*m+2) r.2) ?_ ?_
   ·refine B8 (fun h=>?_) (fun _=>Au ⟨fun O=>(by cases O),BG.Ag ab (by omega)⟩);refine AU (JF (F:=F) ab (by omega) (by omega) (by omega)) ?_;rintro⟨o,aB⟩ W;exact Au ⟨fun _=>aA h,W⟩
   ·rintro⟨c2,aB⟩ ⟨an,W⟩;simp only at an W ⊢;refine AU (S:=fun r=>0≤r.2.2.2∧r.2.2.2<(n:Int)∧(fl=false→r.2.2.2=(q:Int))∧BG (k+29 - 4*m+3) (r.1,r.2.1,r.2.2.1)) ?_ ?_
    ·refine B8 (fun h=>?_) (fun _=>Au ⟨by simp only;omega,by simp only;omega,fun _=>rfl,BG.Ag W (by omega)⟩);obtain⟨f1,f2⟩:=an h;refine AU (Lx (F:=F) W (by omega) f2 (by have:=am.len;omega)) ?_;rintro⟨x,aO⟩ ⟨ae,aC⟩;have:=am.inr x ae;exact Au ⟨this.1,this.2,fun O=>(by rw [f1] at O;cases O),aC⟩
    ·rintro⟨u1,aP,aQ,sn⟩ ⟨w1,w2,w3,w4⟩;simp only at w1 w2 w3 w4 ⊢;refine H7 (by have:=U.len;omega) (Bh ((m - 1:Nat):Int) (by omega) (by omega) (by omega) ?_);refine Au ⟨m - 1,by omega,z,rfl,rfl,al,by simp;omega,?_,?_,?_,w4.Ag (by omega)⟩
     ·exact U.snoc (by have:=U.len;omega) ⟨by simp only;omega,by simp only;omega⟩ ⟨w1,w2⟩ fun x ae=>by have:=hle x ae;simp only;omega
     ·intro l K;rcases List.mem_append.1 K with K | K
      ·have:=hle l K;omega
      ·simp at K;subst K;exact Int.le_refl _
     ·intro ao l K;rcases List.mem_append.1 K with K | K
      ·exact Z ao l K
      ·simp at K;subst K;rw [w3 ao];exact V
 ·simp only at av;have aD:m=0:=by omega
  subst aD;exact Au ⟨U,by omega,fun l K=>by have aR:=hle l K;have aq:=U.yr l K;omega,Z,aa.Ag (by omega)⟩
theorem CQ.set{n i:Nat}{lk:Cv}{s:Int}(h:CQ n lk)(hi:i<lk.length)(hs:0≤s∧s<(n:Int)):CQ n (lk.set i (lk[i].1,s)):=by
 have hm:=List.getElem_mem hi;refine⟨by simpa using h.len,fun l K=>?_,fun l K=>?_,?_⟩
 ·rcases List.mem_or_eq_of_mem_set K with O | rfl
  ·exact h.yr l O
  ·exact h.yr lk[i] hm
 ·rcases List.mem_or_eq_of_mem_set K with O | rfl
  ·exact h.sn l O
  ·exact hs
 ·have key:(lk.set i (lk[i].1,s)).map (fun l=>l.1)=lk.map (fun l=>l.1):=by
   rw [List.map_set];apply List.ext_getElem?;intro j;by_cases e:i=j
   ·subst e;rw [List.getElem?_set_self (by simpa using hi)];simp [hi]
   ·rw [List.getElem?_set_ne e]
  have U:(lk.map fun l=>l.1).Pairwise (·≤·):=List.pairwise_map.2 h.HY;rw [← key] at U;exact List.pairwise_map.1 U
theorem VB{F k n many:Nat}{b:Fo}{J:JW}(V:100<F)(K:VJ n J)(hb:BG k b)(aq:k<900)(hm:many≤4):
  A7 (f40 F b J (many:Int)) (fun r=>CQ n r.1∧r.1.length≤many∧(∀l∈r.1,l.1.toNat<5)∧BG (k+100) r.2):=by
 have ar:=K.l1;have au:=K.pos;have av:=K.le;unfold f40;refine AU (Vk (yrs:=5) V K hb (by omega) (by omega)) ?_;rintro⟨aw,ms,ay⟩ ⟨a,_,_,g2,W,Y⟩;simp only at g2 W Y ⊢;refine AU (Vb (many:=many) true V K Y (by omega) hm ⟨by omega,by omega⟩ (W.range K)) ?_;rintro⟨lk,az⟩ ⟨v1,v2,Z,_,aa⟩;simp only at v1 v2 Z aa ⊢;refine AU (S:=fun r=>CQ n r.1∧r.1.length≤many∧(∀l∈r.1,l.1.toNat<5)∧BG (k+100) r.2) ?_ (fun r aj=>Au aj);refine DX lk.length (fun i s=>s.2.2.2.2=(i:Int)∧CQ n s.2.2.2.1∧s.2.2.2.1.length=lk.length∧(∀l∈s.2.2.2.1,l.1.toNat<5)∧BG (k+60+3*i) (s.1,s.2.1,s.2.2.1)) ⟨rfl,v1,rfl,fun l ak=>by have:=Z l ak;omega,aa⟩ (by have:=v1.len;omega) ?_ ?_
 ·rintro i ⟨s1,s2,al,l,c⟩ hi ⟨e,w1,w2,w3,w4⟩;simp only at e w1 w2 w3 w4;subst e;unfold LL;have O:i<l.length:=by omega
  have am:=v1.len;refine Cy (by simp only;omega) ?_;refine AU (JF (F:=F) w4 (by omega) (by omega) (by omega)) ?_;rintro⟨o,aA⟩ U;simp only at U ⊢;refine AU (S:=fun r=>CQ n r.1∧r.1.length=lk.length∧(∀x∈r.1,x.1.toNat<5)∧BG (k+60+3*i+2) r.2) ?_ ?_
  ·refine B8 (fun _=>?_) (fun _=>Au ⟨w1,w2,w3,BG.Ag U (by omega)⟩);refine Bh ((n - 1:Nat):Int) (by omega) (by omega) (by omega) (AU (Gr (F:=F) U (by omega) (by omega)) ?_);rintro⟨x,an⟩ ⟨ab,x2,ae⟩;simp only at ab x2 ae ⊢;refine BM (m:=i) rfl O (Au ⟨?_,by simpa using w2,?_,ae⟩)
   ·rw [show Int.toNat (i:Int)=i by omega];exact w1.set O ⟨ab,by omega⟩
   ·intro y ao;rcases List.mem_or_eq_of_mem_set ao with ap | rfl
    ·exact w3 y ap
    ·exact w3 l[i] (List.getElem_mem O)
  ·rintro⟨l2,an⟩ ⟨u1,ag,ah,ai⟩;simp only at u1 ag ah ai ⊢;exact Bh ((i+1:Nat):Int) (by simp) (by omega) (by omega) (Au ⟨rfl,u1,ag,ah,BG.Ag ai (by omega)⟩)
 ·rintro⟨s1,s2,al,l,c⟩ ⟨e,w1,w2,w3,w4⟩;simp only at e w1 w2 w3 w4;subst e;unfold LL;have am:=v1.len;exact BB (by simp only;omega) (Au ⟨_,rfl,w1,by simp only;omega,w3,BG.Ag w4 (by omega)⟩)
end Pal
namespace Pal
def Q0(J:JW)(lk:Cv)(p:List Int):Prop:=∀l∈lk,∀m,p[l.1.toNat]? =some m→Fh J m l=true
def HT(lk:Cv):Nat→List Int→Nat
 | _,[]=>0
 | y,m::p=>De lk y m lk.length ||| HT lk (y+1) p
def Kc(J:JW)(lk:Cv):Nat→Nat→List Int→Prop
 | _,_,[]=>True
 | y,sm,m::p=>m∈CC sm 16∧EV J lk y m=true∧Kc J lk (y+1) (CF (J.1.getD m.toNat [])) p
theorem Lf(J:JW)(lk:Cv)(x:List Int×Nat):∀(k sm:Nat) (ms:List Int) (fl:Nat),x∈Es J lk k sm ms fl↔∃p,p.length=k∧x.1=ms++p∧Kc J lk ms.length sm p∧x.2=fl ||| HT lk ms.length p
 | 0,sm,ms,fl=>by
  unfold Es
  rw [List.mem_singleton]
  constructor
  ·rintro rfl;exact⟨[],rfl,by simp,trivial,by simp [HT]⟩
  ·rintro⟨p,K,O,_,U⟩;have:p= []:=List.length_eq_zero_iff.1 K;subst this;simp [HT] at O U;exact Prod.ext O U
 | k+1,sm,ms,fl=>by
  unfold Es;rw [List.mem_flatMap];constructor
  ·rintro⟨m,hm,V⟩;split at V
   ·rename_i hb;obtain⟨p,K,O,U,W⟩:=(Lf J lk x k _ _ _).1 V;refine⟨m::p,by simp [K],by rw [O];simp,⟨hm,hb,by simpa using U⟩,?_⟩;rw [W];simp only [List.length_append,List.length_singleton,HT];exact Nat.or_assoc _ _ _
   ·simp at V
  ·rintro⟨p,K,O,U,W⟩;cases p with
   | nil=>simp at K
   | cons m p=>
    obtain⟨Y,g2,Z⟩:=U;refine⟨m,Y,?_⟩;rw [if_pos g2];refine(Lf J lk x k _ _ _).2 ⟨p,by simpa using K,by rw [O];simp,by simpa using Z,?_⟩;rw [W];simp only [List.length_append,List.length_singleton,HT];exact(Nat.or_assoc _ _ _).symm
theorem UP{J:JW}{lk:Cv}{y:Nat}{m:Int}:EV J lk y m=true↔∀l∈lk,l.1=(y:Int)→Fh J m l=true:=by
 unfold EV;rw [List.all_eq_true];refine forall_congr' fun l=>forall_congr' fun _=>?_;rw [Bool.or_eq_true,decide_eq_true_iff];by_cases h:l.1=(y:Int) <;> simp [h]
theorem Oz{n q:Nat}{J:JW}{m:Int}(U:VJ n J):m∈CC (CF (J.1.getD q [])) 16↔m∈J.1.getD q []:=by
 have K:=U.G8 q;have W:=U.le;rw [Iw];constructor
 ·rintro⟨k,_,V,rfl⟩;rw [KE (fun x O=>(K.inr x O).1)] at V;exact of_decide_eq_true V
 ·intro h;have:=K.inr m h;refine⟨m.toNat,by omega,?_,by omega⟩;rw [KE (fun x O=>(K.inr x O).1),show((m.toNat:Nat):Int)=m by omega];exact decide_eq_true h
theorem MS{n:Nat}{J:JW}{lk:Cv}(Z:VJ n J):∀(p:List Int) (y sm:Nat),Kc J lk y sm p↔(∀m,p[0]? =some m→m∈CC sm 16)∧(∀(q:Nat) m m',p[q]? =some m→p[q+1]? =some m'→m'∈J.1.getD m.toNat [])∧∀l∈lk,∀(q:Nat) m,l.1=((y+q:Nat):Int)→p[q]? =some m→Fh J m l=true
 | [],y,sm=>by simp [Kc]
 | m::p,y,sm=>by
  unfold Kc
  rw [MS Z p,UP]
  constructor
  ·rintro⟨aa,U,V,ab,ae⟩
   refine⟨fun u hu=>by simp at hu;subst hu;exact aa,fun q u W hu O=>?_,fun l K q u Y hu=>?_⟩
   ·cases q with
    | zero=>
     simp at hu O;subst hu;exact(Oz Z).1 (V W (by rw [List.getElem?_eq_some_iff];exact List.getElem?_eq_some_iff.1 O))
    | succ q=>exact ab q u W (by simpa using hu) (by simpa using O)
   ·cases q with
    | zero=>
     simp at hu;subst hu;exact U l K (by simpa using Y)
    | succ q=>exact ae l K q u (by rw [Y];congr 1;omega) (by simpa using hu)
  ·rintro⟨aa,U,V⟩;refine⟨aa m rfl,fun l K ag=>V l K 0 m (by simpa using ag) rfl,fun u hu=>(Oz Z).2 (U 0 m u rfl (by simpa using hu)),fun q u W hu O=>U (q+1) u W (by simpa using hu) (by simpa using O),fun l K q u Y hu=>V l K (q+1) u (by rw [Y];congr 1;omega) (by simpa using hu)⟩
theorem Qz{n a:Nat}{J:JW}{lk:Cv}(U:VJ n J)(ag:CQ n lk){t:DF}:t∈TA J lk a↔t.1=(a:Int)∧t.2.1.length=Gx lk+1∧F9 J a t.2.1∧Q0 J lk t.2.1∧t.2.2=HT lk 0 t.2.1:=by
 have Z:∀m:Int,m∈CC (AG J a) 16↔∃k:Nat,m=(k:Int)∧(AG J a).testBit k=true:=fun m=>by
  rw [Iw];exact⟨fun⟨k,_,O,K⟩=>⟨k,K,O⟩,fun⟨k,O,K⟩=>⟨k,by have:=IB (JV U a) K;have:=U.le;omega,K,O⟩⟩
 have aa:∀p:List Int,(∀l∈lk,∀(q:Nat) m,l.1=((0+q:Nat):Int)→p[q]? =some m→Fh J m l=true)↔Q0 J lk p:=fun p=>by
  constructor
  ·intro h l V m hm;have:=ag.yr l V;exact h l V l.1.toNat m (by omega) hm
  ·intro h l V q m ak hm;exact h l V m (by rw [show l.1.toNat=q by omega];exact hm)
 unfold TA;rw [List.mem_map];constructor
 ·rintro⟨x,ah,rfl⟩;obtain⟨p,O,K,W,Y⟩:=(Lf J lk x _ _ _ _).1 ah;obtain⟨ai,g2,aj⟩:=(MS U p _ _).1 W;simp only [List.nil_append] at K;rw [K,Y];refine⟨rfl,O,⟨fun m hm=>(Z m).1 (ai m hm),g2⟩,(aa p).1 aj,?_⟩;simp
 ·rintro⟨O,K,⟨W,Y⟩,ab,ae⟩;obtain⟨t1,t2,t3⟩:=t;simp only at O K W Y ab ae;subst O;subst ae;refine⟨(t2,HT lk 0 t2),(Lf J lk _ _ _ _ _).2 ⟨t2,K,by simp,(MS U t2 _ _).2 ⟨fun m hm=>(Z m).2 (W m hm),Y,(aa t2).2 ab⟩,by simp⟩,rfl⟩
theorem OA{J:JW}{m:Int}{l:Int×Int}:Fh J m l=true↔m=l.2∨l.2∈J.2.getD m.toNat []:=by
 unfold Fh;simp
end Pal
namespace Pal
theorem Nh{F:Nat}{p q:List Int}(K:100<F)(U:p.length<100)(O:q.length<100)(h:∀x∈p,x∈q):f44 F p q=some true:=by
 refine D7 ?_;unfold f44;refine AU (S:=fun q=>q=Sum.inr ()) ?_ (by rintro q rfl;exact Au rfl);refine DX p.length (fun i s=>s=(i:Int)) rfl (by omega) ?_ ?_
 ·rintro i s hi rfl;unfold Lz;refine Cy (by omega) (BM (m:=i) rfl hi ?_);refine Bl (UX K O) ?_;rw [decide_eq_true (h _ (List.getElem_mem hi))];refine BB (by simp) (Bh ((i+1:Nat):Int) (by simp) (by omega) (by omega) ?_);exact Au rfl
 ·rintro s rfl;unfold Lz;exact BB (by omega) (Au ⟨_,rfl,rfl⟩)
end Pal
namespace Pal
end Pal
namespace Pal
open Go Go.Conc Go.Proofs Go.Extern
section
variable {s:St}{X:Halt→St→Prop}
end
end Pal
namespace Pal
open Go Go.Conc
section
variable {P:Program}{J:Judge P}{Q:Gs_}{b:Frame}{n:Nat}{ds:Ld_}{ops:Ao_}{k:Li_}{cs:Lf_}{m fuel:Nat}{D:Nat→Bool}{listed:Array Bool}{L:Env}{s:St}{E E' H:LH}{S:List Seg}
variable {d:Option Tmp}{x y:Operand}{t u ty e:TypeId}{p:String}{af:Ae_}{g:On_}{v:Value}{i:Nat}{kd:IntKind}
theorem Sp{f:FuncId}{args:Array Operand}{ats:Array TypeId}{vs:Lv_}{seg:Seg}{R:Value→LH→Seg→Prop}(j:Nat)(am:∀x,D x=true→∃(O:Nat) (o:Obj),(S.set j [])[O]? =some [(x,o)])(an:AP J f vs E seg R)(ao:Region.ready .any ops listed= [i])
  (ap:ops[i]? =some ⟨d,.call ⟨.value (.func f),args,ats⟩,ty,p,af,g⟩) (aq:Br n d=true) (hw:A5 L ops ⟨d,.call ⟨.value (.func f),args,ats⟩,ty,p,af,g⟩=some true) (hb:Dk P f=true) (ar:evs L args.toList=some vs) (W:As E H S) (Y:S[j]? =some seg)
  (au:∀v E' seg',Le E E'→R v E' seg'→As E' H (S.set j seg')→AO J Q b n ds ops k cs m D fuel (A4 listed i) (AA L d v) (Al E' H (S.set j seg'))):
  AO J Q b n ds ops k cs m D (fuel+1) listed L (Al E H S):=by
 have ab:S.flatten.Perm (seg++(S.set j []).flatten):=(Du (seg':=seg) Y).1.trans List.perm_append_comm;have ae:Nd E H (seg++(S.set j []).flatten):=Nd.perm W ab;have av:Al E H S=mk E (A0 (S.set j []).flatten H) seg:=by
  rw [show Al E H S=mk E H S.flatten from rfl,D8 W ab];unfold mk;rw [EJ]
 have ag:=Dy.Iq (an (A0 (S.set j []).flatten H) (Nd.front ae)) (by rintro v s' ⟨E',B',_,_,_,rfl⟩;rfl);rw [← av] at ag;refine AO.call rfl ao ap aq hw hb ar ag ?_;rintro v aG ⟨⟨E',B',hle,aw,ay,rfl⟩,w,az⟩;have aA:mk E' (A0 (S.set j []).flatten H) B'=mk E' H (B'++(S.set j []).flatten):=by unfold mk;rw [EJ]
 have aB:Nd E H (S.set j []).flatten:=by
  have:=ae;rw [Nd.iff] at this ⊢;rw [List.map_append,List.nodup_append] at this;exact⟨this.1.2.1,fun q aC=>this.2 q (List.mem_append_right _ aC)⟩
 have aD:Nd E' H (S.set j []).flatten:=aB.grow fun x U=>by
  have aE:=az.d x U;have Z:A0 B' (A0 (S.set j []).flatten H) x=none:=aE;exact(FX Z).1
 have ah:Nd E' H (B'++(S.set j []).flatten):=Nd.glue ay aD;have ai:(B'++(S.set j []).flatten).Perm (S.set j B').flatten:=List.perm_append_comm.trans (Du Y).2.symm;have aj:As E' H (S.set j B'):=Nd.perm ah ai;rw [aA,D8 ah ai];refine⟨rfl,fun x o U=>?_,au v E' B' hle aw aj⟩;by_cases aa:D x=true
 ·obtain⟨O,o',V⟩:=am x aa;have ak:j≠O:=fun h=>by
   subst h;rw [List.getElem?_set_self (List.getElem?_eq_some_iff.1 Y).1] at V;cases V
  have al:S[O]? =some [(x,o')]:=by rw [List.getElem?_set_ne ak] at V;exact V
  have Z:(Al E H S).get x=some o':=D3 (i:=0) W al rfl;have aF:(Al E' H (S.set j B')).get x=some o':=D3 (i:=0) aj (by rw [List.getElem?_set_ne ak];exact al) rfl;have K:(if D x then(Al E H S).get x else E x)=some o:=U
  show(if D x then(Al E' H (S.set j B')).get x else E' x)=some o
  rw [if_pos aa] at K ⊢;rw [aF,← Z];exact K
 ·have K:(if D x then(Al E H S).get x else E x)=some o:=U
  show(if D x then(Al E' H (S.set j B')).get x else E' x)=some o
  rw [if_neg aa] at K ⊢;exact hle _ _ K
theorem AO.perm{S':List Seg}(K:S.flatten.Perm S'.flatten)(O:As E H S)(h:As E H S'→AO J Q b n ds ops k cs m D fuel listed L (Al E H S')):AO J Q b n ds ops k cs m D fuel listed L (Al E H S):=by
 have e:Al E H S=Al E H S':=D8 O K;rw [e];exact h (Nd.perm O K)
theorem EL{A B:Seg}(j:Nat)(K:S[j]? =some (A++B))(O:As E H S)(h:As E H (S.set j A++ [B])→AO J Q b n ds ops k cs m D fuel listed L (Al E H (S.set j A++ [B]))):AO J Q b n ds ops k cs m D fuel listed L (Al E H S):=by
 refine AO.perm ?_ O h;have U:=(Du (seg':=A) K).1;have V:=(Du (seg':=A) K).2;rw [F1];refine U.trans ?_;have W:=V.symm.append_right B
 rwa [List.append_assoc] at W
end
end Pal
namespace Pal
open Go Go.Conc
section
variable {P:Program}{J:Judge P}{Q:Gs_}{b:Frame}{n:Nat}{L:Env}{ds:Ld_}{k:Li_}{cs:Lf_}{s:St}{ops:Ao_}{i:Nat}{rest:List Nat}{v:Value}
variable {d:Option Tmp}{x:Operand}{ty:TypeId}{p:String}{af:Ae_}{g:On_}
end
end Pal
namespace Pal
open Go Go.Conc Go.Proofs Go.Extern
variable {J:Judge Tryz.prog}{E:LH}
end Pal
namespace Pal
open Go Go.Conc Go.Proofs
open Go.Proofs.Tryz
variable {J:Judge Tryz.prog}{E:LH}
end Pal
namespace Pal
open Go Go.Conc Go.Proofs
open Go.Proofs.Tryz
end Pal
namespace Pal
open Go Go.Conc Go.Proofs
open Go.Proofs.Tryz
end Pal
namespace Pal
open Go Go.Conc Go.Proofs
open Go.Proofs.Tryz
end Pal
namespace Pal
theorem Jz{f:Nat→Option Int}{n:Nat}(K:∀q,q<n→f q=none):(List.range n).findSome? f=none:=List.findSome?_eq_none_iff.2 fun q O=>K q (List.mem_range.1 O)
structure NL (J:JW):Prop where
 l1:J.1.length≤20
 l2:J.2.length≤20
 n1:∀l∈J.1,l.length≤20
 n2:∀l∈J.2,l.length≤20
end Pal
namespace Pal
theorem Qu{F:Nat}{l:List (List Int)}(Z:100<F)(aa:l.length≤20)(U:∀x∈l,x.length≤20):f77 F l=some l:=by
 refine D7 ?_;unfold f77;refine Bl (b:=List.replicate l.length []) ?_ ?_
 ·unfold JJ;rw [if_pos (by omega)];rfl
 refine AU (S:=fun r=>r=l) ?_ (fun r V=>Au V);refine DX l.length (fun i s=>s.2=(i:Int)∧s.1=l.take i++List.replicate (l.length - i) []) ⟨rfl,by simp⟩ (by omega) ?_ ?_
 ·rintro i ⟨o,c⟩ hi ⟨K,O⟩;simp only at K O;subst K;subst O;unfold Nm;refine Cy (by simp only;omega) (BM (m:=i) rfl hi ?_);refine Bl (b:=l[i]) ?_ ?_
  ·unfold f108;have:Ds ([]:List Int) l[i]=some l[i]:=by unfold Ds;rw [if_pos (by have:=U _ (List.getElem_mem hi);simp;omega)];rfl
   rw [this];rfl
  have W:(l.take i).length=i:=by rw [List.length_take];omega
  refine BM (m:=i) rfl (by simp;omega) (Bh ((i+1:Nat):Int) (by simp) (by omega) (by omega) ?_);refine Au ⟨rfl,?_⟩;simp only;rw [show Int.toNat (i:Int)=i by omega,List.set_append,if_neg (by omega),W,Nat.sub_self];obtain⟨k,Y⟩:∃k,l.length - i=k+1:=⟨l.length - i - 1,by omega⟩;rw [Y,List.replicate_succ,List.set_cons_zero,List.take_add_one,List.getElem?_eq_getElem hi,show l.length - (i+1)=k by omega];simp only [Option.toList_some,List.append_assoc,List.cons_append,List.nil_append]
 ·rintro⟨o,c⟩ ⟨K,O⟩;simp only at K O;subst K;subst O;unfold Nm;exact BB (by simp) (Au ⟨_,rfl,by simp⟩)
theorem Vo{F:Nat}{J:JW}(O:100<F)(K:NL J):f26 F J=some J:=by
 unfold f26;rw [Qu O K.l1 K.n1,Option.bind_some,Qu O K.l2 K.n2];rfl
theorem VJ.nl{n:Nat}{J:JW}(K:VJ n J):NL J:=by
 have U:=K.l1;have V:=K.l2;have W:=K.le;refine⟨by omega,by omega,fun l O=>?_,fun l O=>?_⟩
 ·obtain⟨i,hi,rfl⟩:=List.mem_iff_getElem.1 O;have:=(K.nx i _ (List.getElem?_eq_getElem hi)).1.len;omega
 ·obtain⟨i,hi,rfl⟩:=List.mem_iff_getElem.1 O;have:=(K.fl i _ (List.getElem?_eq_getElem hi)).1.len;omega
end Pal
namespace Pal
open Go Go.Conc
theorem F7{P:Program}{J:Judge P}{Q:Gs_}{b:Frame}{n:Nat}{ds:Ld_}{ops:Ao_}{k:Li_}{cs:Lf_}{m fuel:Nat}{D:Nat→Bool}{listed:Array Bool}{L L':Env}{s:St}(k':AO J Q b n ds ops k cs m D fuel listed L' s)(h:Gv L L'=Gw L'):AO J Q b n ds ops k cs m D fuel listed L s:=DD (LA h) k'
instance {α:Type} [DecidableEq α] (xs:List α):Decidable (xs= []):=inferInstance
section
variable {P:Program}{J:Judge P}{Q:Gs_}{b:Frame}{n:Nat}{L L':Env}{ds:Ld_}{k:Li_}{cs:Lf_}{s:St}{ops:Ao_}{E H:LH}{S:List Seg}{i:Nat}{rest:List Nat}
variable {d:Option Tmp}{x y:Operand}{t u ty e:TypeId}{p:String}{af:Ae_}{g:On_}{v w:Value}
end
section
variable {P:Program}{J:Judge P}{Q:Gs_}{b:Frame}{n:Nat}{ds:Ld_}{ops:Ao_}{k:Li_}{cs:Lf_}{m fuel:Nat}{listed:Array Bool}{L:Env}{E H:LH}{S:List Seg}
variable {d:Option Tmp}{x y:Operand}{t ty e:TypeId}{p:String}{af:Ae_}{g:On_}{v:Value}{i:Nat}
theorem OS{s:St}{D:Nat→Bool}{i j l:Nat}(K:s.q=false)(O:Region.ready .any ops listed= [i,j,l])(hi:Take J Q b n ds ops k cs m D fuel listed L s i)(U:Take J Q b n ds ops k cs m D fuel listed L s j)(V:Take J Q b n ds ops k cs m D fuel listed L s l):AO J Q b n ds ops k cs m D (fuel+1) listed L s:=
 MD K O (by simp) (by intro q K;simp at K;rcases K with rfl | rfl | rfl <;> assumption)
end
end Pal
namespace Pal
open Go Go.Conc Go.Proofs
open Go.Proofs.Tryz
variable {J:Judge Tryz.prog}{E:LH}
def Po(fuel:Nat)(p0:List (List Int))(K:(List (List Int))×Int):Option (Bi ((List (List Int))×Int) ((List (List Int)))):= if K.2<(p0.length:Int) then((ix p0 K.2).bind fun O=> (f108 fuel O).bind fun U=> (ix K.1 K.2).bind fun W=> (Av (K.2+1)).bind fun V=> some (.more ((K.1.set (Int.toNat K.2) U),V))) else(some (.done K.1))
def Ma(fuel:Nat)(p0:List (List Int)):Option ((List (List Int))):= (JJ (p0.length:Int) ([]:List Int)).bind fun K=> Option.bind (iter (Po fuel p0) fuel (K,0)) fun O=> some O
theorem QG{W:Ap}{c2:Nat}{p0:List (List Int)}(az:An (rL rI) E W c2 p0){fuel:Nat}{r:(List (List Int))}(am:Ma fuel p0=some r):AP J 77 [sV W p0 c2] E [] (fun w E' B'=>∃(an:Ap) (ao:Nat) (g0:Seg),w= sV an r ao∧B'=g0∧OL 28 (rL rI) E' an ao g0 r):=by
 refine A9 func77 fun Q bi cs H aA aB=>?_;unfold Ma at am;refine zg 7 rfl (Bx underlying22 rfl rfl rfl ?_);obtain⟨aC,aD,aE⟩:=bs am;refine JS.make (pp:=(rL rI)) aD rfl rfl rfl rfl rfl underlying22 B7 (CX type28) (by decide) Fv (by decide) ⟨_,_,rfl,An.nil⟩ aA fun aF aG aH aI=>?_;obtain⟨ap,aJ,aK⟩:=bs aE;refine zg 7 rfl (Bs (fun L s=>∃(ai:LH) (Y:Ap) (Z:Nat) (aa:Seg),Jn E H ai [aa] [(3,sV Y ap Z)] L s (OL 28 (rL rI) ai Y Z aa ap)) ?_ ?_)
 ·rintro _ _ ⟨ai,Y,Z,aa,rfl,rfl,aL,aM,aN⟩;refine zg 5 rfl ?_;obtain rfl:=oi aK;exact AN func77 rfl rfl (aB aL rfl ⟨Y,Z,aa,rfl,(by first | rfl | simp | (simp [Value.cells])),aN⟩ aM)
 ·intro aO;refine JL.block (CP aJ (fun L s K=>∃(ab:LH) (U:Ap) (V:Nat) (ae:Seg),Jn E H ab [ae] [(0,sV W p0 c2),(3,sV U K.1 V),(4,iV K.2)] L s (OL 28 (rL rI) ab U V ae K.1)) ⟨E,(Bc aF),aC.length,aG,rfl,rfl,Aq,aI,aH⟩ ?_);rintro _ _ K ⟨ab,U,V,ae,rfl,rfl,aj,aq,ar⟩ aP ⟨bj,ak⟩ aQ;have au:=ak;unfold Po at au;refine zg 5 rfl (Bx underlying22 rfl rfl rfl ?_);refine zg 2 rfl (AS au (fun aR aS=>?_) (fun aR aT=>?_))
  ·obtain⟨aU,aV,aW⟩:=bs aS;refine zg 8 rfl (Cf (az.Ag aj) aV underlying22 B7 ?_);rintro aX aY _ ⟨aZ,a0,rfl,a1⟩ a2;refine BV 0 a2 DC rfl rfl rfl ?_;obtain⟨O,a3,a4⟩:=bs aW;refine BH (Vm a1 a3) rfl rfl (AX func108 rfl) aq ?_;rintro _ a5 _ av ⟨ag,ah,rfl,rfl,a6⟩ a7;obtain⟨bl,a8,a9⟩:=bs a4;refine Lg 0 (ar.Ag av) a8 rfl rfl rfl rfl rfl rfl underlying22 B7 ?_;rintro aw al f74 _ ba ⟨bm,bn,rfl,bo⟩ bp bb bc bq br;refine JS.store (v:= sV ag O ah) (off:=al) 0 rfl rfl rfl a7 rfl rfl B7 (by simp [Value.cells,CG]) ba (by have:=bb;simp only [Rp.n,rK,rN,rB,rP,rL] at this;show _+1≤_;omega) fun bd=>?_;have be:=bc O [sV ag O ah] ⟨_,_,rfl,a6⟩;have ay:(K.1.set (Int.toNat K.2) O).length=K.1.length:=List.length_set;refine Hf (L':= [(0,.slice W p0.length c2),(3,.slice U ((K.1.set (Int.toNat K.2) O)).length V),(4,iV K.2),(8,iV K.2),(9,.slice W p0.length c2),(10,iV (p0.length:Int)),(11,.bool (decide (K.2<(p0.length:Int)))),(14,.slice U ((K.1.set (Int.toNat K.2) O)).length V),(15,iV K.2),(16,.slice W p0.length c2),(17,iV K.2),(18,pV aX aY),(19,.slice aZ aU.length a0),(20,.slice ag O.length ah),(21,pV aw al)]) ⟨rfl,by rw [ay];rfl,rfl,rfl,rfl,rfl,rfl,by rw [ay];rfl,rfl,rfl,rfl,rfl,rfl,rfl,rfl,trivial⟩ ?_;obtain⟨bf,bg,bh⟩:=bs a9;refine zg 4 rfl (Bg bg rfl rfl rfl ?_);refine zg 2 rfl ?_;obtain rfl:=oi bh;exact AB (aQ _ _ ((K.1.set (Int.toNat K.2) O),bf) ⟨a5,U,V,[(aw,.cells (Ba f74 al [sV ag O ah]) 28 (0,0))],rfl,rfl,(aj.Ab av),bd,be⟩ ak) rfl
  ·refine JL.exit rfl ?_;obtain rfl:=oi aT;obtain rfl:=aP _ ak;exact AB (aO _ _ ⟨ab,U,V,ae,rfl,rfl,aj,aq,ar⟩) rfl
def J1(fuel:Nat)(p0:BI):Option ((BI)):= (Ma fuel p0.1).bind fun K=> (Ma fuel p0.2).bind fun O=> some (K,O)
theorem EN{Z:Ap}{c2:Nat}{ab:Ap}{ae:Nat}{p0:BI}(ar:An (rL rI) E Z c2 p0.1)(au:An (rL rI) E ab ae p0.2){fuel:Nat}{r:(BI)}(ag:J1 fuel p0=some r):AP J 26 [.agg #[sV Z p0.1 c2,sV ab p0.2 ae]] E [] (fun w E' B'=>∃(ah:Ap) (ai:Nat) (aj:Seg) (ak:Ap) (al:Nat) (am:Seg),w= .agg #[sV ah r.1 ai,sV ak r.2 al]∧B'=aj++am∧OL 28 (rL rI) E' ah ai aj r.1∧OL 28 (rL rI) E' ak al am r.2):=by
 refine A9 func26 fun Q aL cs H av aw=>?_;unfold J1 at ag;refine zg 2 rfl (CB av fun aM aN aa an ay=>?_);refine Cr ay Dh fun aO az=>?_;refine zg 2 rfl (Ep 5 fun ht=>?_);refine Ce 0 ht underlying24 Ck rfl rfl rfl rfl (DR 1 ht 0 an C6 rfl rfl rfl rfl ?_);refine Ce 3 ht underlying24 Ck rfl rfl rfl rfl (DR 4 ht 1 an C6 rfl rfl rfl rfl ?_);obtain⟨W,aA,aB⟩:=bs ag;refine JG.call (i:=2) (vs:= [sV Z p0.1 c2]) (QG (ar.Ag aa) aA) (by decide+kernel) rfl rfl rfl (AX func77 rfl) rfl az ?_;rintro _ aP aC ao ⟨K,O,_,rfl,rfl,aD⟩ aE;refine Cp [5,6,7] ?_;obtain⟨Y,aF,aG⟩:=bs aB;refine BH (QG (au.Ag (aa.Ab ao)) aF) rfl rfl (AX func77 rfl) aE ?_;rintro _ aQ aH ap ⟨U,V,_,rfl,rfl,aI⟩ aJ;refine Az (v:= .agg #[sV K W O,sV U Y V]) rfl (fun ρ h=>CO [(0,1),(1,1)] h Dh underlying24 ⟨rfl,Bm type22,rfl,Bm type22,trivial⟩ rfl rfl) (BF 2 aJ Ca fun aq=>?_);refine JL.done ?_;obtain rfl:=oi aG;refine JL.ret (v:= .agg #[sV K W O,sV U Y V]) rfl rfl (BR.list func26 rfl (vs:= [.agg #[sV K W O,sV U Y V]]) ⟨⟨_,rfl,Ld.many (vs:= [sV K W O,sV U Y V]) Cx Ca (EG (off:=0) 2 aq rfl rfl)⟩,trivial⟩) (HH 2 aq rfl fun aK=>?_);exact aw ((aa.Ab ao).Ab ap) rfl ⟨K,O,aC,U,V,aH,rfl,(by first | rfl | simp | (simp [Value.cells])),(aD.Ag ap),aI⟩ aK
end Pal
namespace Pal
open Go Go.Conc
section
variable {P:Program}{J:Judge P}{Q:Gs_}{b:Frame}{n:Nat}{ds:Ld_}{ops:Ao_}{k:Li_}{cs:Lf_}{m fuel:Nat}{D:Nat→Bool}{listed:Array Bool}{L:Env}{E H:LH}{S:List Seg}
theorem CS{S1 S':List Seg}(K:S=S1)(O:S1.Perm S')(U:As E H S)(h:As E H S'→AO J Q b n ds ops k cs m D fuel listed L (Al E H S')):AO J Q b n ds ops k cs m D fuel listed L (Al E H S):=by
 subst K;exact AO.perm O.flatten U h
end
end Pal
namespace Pal
open Go Go.Conc Go.Proofs
open Go.Proofs.Tryz
def LM(fuel:Nat)(Y:(BI)×(B4))(U:(AY)×(B4))(Z:(BI))(aa:(BI))(ab:(List (List Int)))(ae:(List (List Int)))(K:(List Int)×Int):Option (Bi ((List Int)×Int) ((Bool)⊕(Unit))):= if K.2≤4 then((f43 fuel Y.1 U.1 K.2).bind fun O=> (f43 fuel (ab,Z.2) U.1 K.2).bind fun V=> (f43 fuel (aa.1,ae) U.1 K.2).bind fun W=> Option.bind (if O.2≠0 then(some (decide (O.2≠11))) else(some false)) fun ag=> Option.bind (if ag=true then(some true) else(if V.2≠0 then(some (decide (V.2≠11))) else(some false))) fun ah=> Option.bind (if ah=true then(some true) else(if W.2≠0 then(some (decide (W.2≠11))) else(some false))) fun ai=> if ai=true then(some (.done (Sum.inl false))) else((f44 fuel K.1 O.1).bind fun aj=> Option.bind (if(!aj)=true then(some true) else((f44 fuel O.1 V.1).bind fun ak=> some (!ak))) fun al=> Option.bind (if al=true then(some true) else((f44 fuel O.1 W.1).bind fun am=> some (!am))) fun an=> if an=true then(some (.done (Sum.inl false))) else((Av (K.2+1)).bind fun ao=> some (.more (O.1,ao))))) else(some (.done (Sum.inr ())))
def f6(fuel:Nat)(p0:List Int):Option Bool:= (f23 fuel p0).bind fun ab=> (f39 fuel ab 6).bind fun K=> (f40 fuel K.2 K.1 4).bind fun Y=> (Av ((K.1.1.length:Int) - 1)).bind fun ae=> (Av ((K.1.1.length:Int) - 1)).bind fun ag=> (f41 fuel Y.2 ae).bind fun O=> (f41 fuel O.2 ag).bind fun W=> (J1 fuel K.1).bind fun U=> (J1 fuel K.1).bind fun V=> (ix K.1.1 O.1).bind fun ah=> (f42 fuel ah W.1).bind fun Z=> Option.bind (if(Z.length:Int)≤3 then((ix U.1 O.1).bind fun ao=> some (U.1.set (Int.toNat O.1) Z)) else(some U.1)) fun ai=> (ix K.1.2 O.1).bind fun aj=> (f42 fuel aj W.1).bind fun aa=> Option.bind (if W.1≠O.1 then(some (decide ((aa.length:Int)≤3))) else(some false)) fun ak=> Option.bind (if ak=true then((ix V.2 O.1).bind fun ap=> some (V.2.set (Int.toNat O.1) aa)) else(some V.2)) fun al=> Option.bind (iter (LM fuel K Y U V ai al) fuel ([],0)) fun am=> Sum.elim (fun r=>some r) (fun aq=> (f22 fuel).bind fun an=> some an) am
set_option maxHeartbeats 20000000 in
theorem VD{E H:LH}{dm:Ap}{c2:Nat}{p0:List Int}(et:An rI E dm c2 p0){fuel:Nat}{r:Bool}(dn:f6 fuel p0=some r):(Dv Tryz.prog).ok (Jy Tryz.prog (fun v _=>v= .bool r)) (G (Frame.enter Tryz.prog 6 ([sV dm p0 c2]:Lv_).toArray .normal) []) (mk E H []):=by
 refine Sg func6 rfl rfl (Nat.le_of_ble_eq_true rfl) ?_;have eu:As E H [[]]:=trivial;unfold f6 at dn;obtain⟨kP,ew,ex⟩:=bs dn;refine zg 7 rfl (BH (Wn et ew) rfl rfl (AX func23 rfl) eu ?_);rintro _ kQ _ kR ⟨O,kS,kT,rfl,rfl,ey⟩ ez;obtain⟨ai,eA,eB⟩:=bs ex;refine zg 5 rfl (BP 1 (VZ ey eA) rfl rfl (AX func39 rfl) ez rfl ?_);rintro _ kU _ kV ⟨au,av,aw,ay,kW,kX,rfl,rfl,an,ao,eC⟩ eD;refine Cr eD Dh fun aK eE=>?_;refine BF 2 eE Ca fun eF=>?_;refine C9 2 eF rfl fun kY aa bF eG=>zg 4 rfl (Cl bF Cx Ca rfl rfl ?_);obtain⟨aP,eH,eI⟩:=bs eB;refine BP 1 (V4 (eC.Ag aa) (an.Ag aa) (ao.Ag aa) eH) rfl rfl (AX func40 rfl) eG rfl ?_;rintro _ kZ _ Z ⟨aQ,aR,k0,k1,rfl,rfl,cJ,eJ⟩ eK;refine zg 3 rfl (Ep 11 fun ht=>?_);refine Ct 0 ht rfl rfl (Ce 1 ht underlying24 Ck rfl rfl rfl rfl ?_);refine DR 2 ht 0 (bF.Ag Z) C6 rfl rfl rfl rfl (BC 3 ht rfl rfl (fun ρ h s' hs=>Yl.len rfl underlying22 (h _ _ rfl)) ?_);obtain⟨eL,eM,eN⟩:=bs eI;refine BC 4 ht rfl rfl (fun ρ h s' hs=>CY (h _ _ rfl) (h _ _ rfl) eM) (Ct 6 ht rfl rfl ?_);refine Ce 7 ht underlying24 Ck rfl rfl rfl rfl (DR 8 ht 0 (bF.Ag Z) C6 rfl rfl rfl rfl ?_);refine BC 9 ht rfl rfl (fun ρ h s' hs=>Yl.len rfl underlying22 (h _ _ rfl)) ?_;obtain⟨k2,eO,eP⟩:=bs eN;refine BC 10 ht rfl rfl (fun ρ h s' hs=>CY (h _ _ rfl) (h _ _ rfl) eO) ?_;obtain⟨aH,eQ,eR⟩:=bs eP;refine Sp (i:=5) (vs:= [pV O 0,iV eL]) 1 (fun _ h=>by cases h) (Gy eJ eQ) (by decide+kernel) rfl rfl rfl Gl rfl eK rfl ?_;rintro _ k3 _ W ⟨k4,k5,rfl,rfl,eS⟩ eT;refine Cp [11,12,13] ?_;obtain⟨K,eU,eV⟩:=bs eR;refine BP 1 (Gy eS eU) rfl rfl Gl eT rfl ?_;rintro _ eW _ Y ⟨U,V,rfl,rfl,k6⟩ cK;refine zg 4 rfl (Ep 6 fun ht=>?_);refine Ii 0 ht (bF.Ag ((Z.Ab W).Ab Y)) Cx Ca rfl rfl rfl (Ii 2 ht (bF.Ag ((Z.Ab W).Ab Y)) Cx Ca rfl rfl rfl ?_);obtain⟨am,cq,eX⟩:=bs eV;obtain⟨aj,a0,eY⟩:=bs eX;refine FL 2 #[true,true,true,true,true,true,false,false] (fun L s=>∃(b4:LH) (bj:Ap) (bl:Nat) (cw:Seg) (az:Ap) (aA:Nat) (bG:Seg) (aB:Ap) (aC:Nat) (bH:Seg) (aS:Ap) (aT:Nat) (bU:Seg) (ak:Nat) (al:Nat),Jn eW H b4 [[],[],bX O #[sV U K.2.1 V,iV K.2.2.1,.int .u64 ((K.2.2.2:Nat):Int)] 92,cw,bG,bH,bU,bX ak #[nS,nS] 24,bX al #[nS,nS] 24] [(4,pV aK 0),(5,sV aQ aP.1 aR),(6,iV aH.1),(7,iV K.1),(8,pV ak 0),(9,pV al 0),(40,.agg #[sV bj am.1 bl,sV az am.2 aA]),(42,.agg #[sV aB aj.1 aC,sV aS aj.2 aT])] L s (OL 28 (rL rI) b4 bj bl cw am.1∧OL 28 (rL rI) b4 az aA bG am.2∧OL 28 (rL rI) b4 aB aC bH aj.1∧OL 28 (rL rI) b4 aS aT bU aj.2)) ?_ ?_
 ·rintro _ _ ⟨b4,bj,bl,cw,az,aA,bG,aB,aC,bH,aS,aT,bU,ak,al,rfl,rfl,a4,eZ,dp,e0,e1,dq⟩;refine Cp [6,7] (BF 7 eZ Ca fun e2=>?_);refine BF 8 e2 Ca fun e3=>?_;refine zg 4 rfl (JL.fl 0 (bF.Ag (((Z.Ab W).Ab Y).Ab a4)) underlying24 Ck C6 ?_);obtain⟨e4,e5,e6⟩:=bs eY;refine zg 1 rfl (Cf (an.Ag ((((aa.Ab Z).Ab W).Ab Y).Ab a4)) e5 underlying22 B7 ?_);rintro e7 e8 _ ⟨e9,fa,rfl,fb⟩ fc;refine BV 0 fc DC rfl rfl rfl ?_;obtain⟨aI,fd,fe⟩:=bs e6;refine zg 1 rfl (BH (QV fb fd) rfl rfl (AX func42 rfl) e3 ?_);rintro _ cM _ aJ ⟨bI,bJ,rfl,rfl,ff⟩ cN;refine zg 5 rfl (Bx underlying28 rfl rfl rfl ?_);obtain⟨aL,fg,fh⟩:=bs fe;refine zg 2 rfl (Bs (fun L s=>∃(cO:LH) (aM:Ap) (aN:Nat) (b5:Seg),Jn cM H cO [bG,bH,bU,bX ak #[sV aM aL aN,sV az am.2 aA] 24,bX al #[sV aB aj.1 aC,sV aS aj.2 aT] 24,b5] [(4,pV aK 0),(5,sV aQ aP.1 aR),(6,iV aH.1),(7,iV K.1),(8,pV ak 0),(9,pV al 0)] L s (OL 28 (rL rI) cO aM aN b5 aL)) ?_ ?_)
  ·rintro _ _ ⟨cO,aM,aN,b5,rfl,rfl,aU,fj,fk⟩;refine zg 3 rfl (JL.fl 1 (bF.Ag (((((Z.Ab W).Ab Y).Ab a4).Ab aJ).Ab aU)) underlying24 Ck C6 ?_);obtain⟨k7,fm,fo⟩:=bs fh;refine zg 1 rfl (Cf (ao.Ag ((((((aa.Ab Z).Ab W).Ab Y).Ab a4).Ab aJ).Ab aU)) fm underlying22 B7 ?_);rintro k8 k9 _ ⟨la,lb,rfl,fp⟩ fq;refine BV 0 fq DC rfl rfl rfl ?_;obtain⟨a1,fs,fu⟩:=bs fo;refine zg 1 rfl (BH (QV fp fs) rfl rfl (AX func42 rfl) fj ?_);rintro _ cP _ a2 ⟨bV,bW,rfl,rfl,fv⟩ dr;obtain⟨dt,fw,fx⟩:=bs fu;refine zg 8 rfl (Fx [] (fun L s=>∃(cr:LH),Jm cP H cr [bG,bH,bU,bX ak #[sV aM aL aN,sV az am.2 aA] 24,bX al #[sV aB aj.1 aC,sV aS aj.2 aT] 24,b5] [(4,pV aK 0),(5,sV aQ aP.1 aR),(6,iV aH.1),(8,pV ak 0),(9,pV al 0),(11,sV bV a1 bW),(72,.bool dt)] L s) ?_ ?_)
   ·rintro _ _ ⟨cr,rfl,rfl,aV,cQ⟩;obtain⟨a5,fy,fz⟩:=bs fx;refine JL.done (Bs (fun L s=>∃(cR:LH) (a6:Ap) (a7:Nat) (cT:Seg),Jn cr H cR [bG,bH,bX ak #[sV aM aL aN,sV az am.2 aA] 24,bX al #[sV aB aj.1 aC,sV a6 a5 a7] 24,b5,cT] [(4,pV aK 0),(5,sV aQ aP.1 aR),(8,pV ak 0),(9,pV al 0)] L s (OL 28 (rL rI) cR a6 a7 cT a5)) ?_ ?_)
    ·rintro _ _ ⟨cR,a6,a7,cT,rfl,rfl,bm,fA,fB⟩;refine zg 9 rfl (Cb 4 (fk.Ag ((a2.Ab aV).Ab bm)) fA rfl fun lc bn fC fD=>?_);refine Cb 0 (e0.Ag (((((aJ.Ab aU).Ab a2).Ab aV).Ab bm).Ab bn)) fD rfl fun ld bo fE fF=>Cb 1 (e1.Ag ((((((aJ.Ab aU).Ab a2).Ab aV).Ab bm).Ab bn).Ab bo)) fF rfl fun lf bp fG fH=>Cb 5 (fB.Ag ((bn.Ab bo).Ab bp)) fH rfl fun cV bq fI fJ=>?_;obtain⟨du,fK,cW⟩:=bs fz;refine Bs (fun L s=>∃(dv:Unit) (dw:LH),du=Sum.inr dv∧Jm cV H dw [] [] L s) ?_ ?_
     ·rintro _ _ ⟨dv,dw,rfl,rfl,rfl,lg,fL⟩;have fM:=elim_inr cW;obtain⟨fN,fO,fP⟩:=bs fM;refine zg 2 rfl (BK (Wp fO) rfl rfl (AX func22 rfl) fL fun lh li lj=>?_);refine zg 2 rfl ?_;obtain rfl:=oi fP;exact GO rfl (JO.end (v:= .bool fN) rfl (by decide+kernel) func6 rfl rfl rfl)
     ·intro fQ;refine JL.block (CP fK (fun L s aW=>∃(cy:LH) (b6:Ap) (b7:Nat),Jn cV H cy [bX ak #[sV aM aL aN,sV az am.2 aA] 24,bX al #[sV aB aj.1 aC,sV a6 a5 a7] 24] [(4,pV aK 0),(5,sV aQ aP.1 aR),(8,pV ak 0),(9,pV al 0),(12,sV b6 aW.1 b7),(13,iV aW.2)] L s (An rI cy b6 b7 aW.1)) ⟨cV,none,0,rfl,rfl,Aq,fJ,An.nil⟩ ?_);rintro _ _ aW ⟨cy,b6,b7,rfl,rfl,aX,dx,fR⟩ cX ⟨ll,ct⟩ fS;have dy:=ct;unfold LM at dy;refine zg 6 rfl (AS dy (fun fT fU=>?_) (fun fT fW=>?_))
      ·refine zg 5 rfl (Cl (bF.Ag (((((((((((((Z.Ab W).Ab Y).Ab a4).Ab aJ).Ab aU).Ab a2).Ab aV).Ab bm).Ab bn).Ab bo).Ab bp).Ab bq).Ab aX)) Cx Ca rfl rfl ?_);obtain⟨b8,fX,fY⟩:=bs fU;refine zg 2 rfl (BH (LW (an.Ag ((((((((((((((aa.Ab Z).Ab W).Ab Y).Ab a4).Ab aJ).Ab aU).Ab a2).Ab aV).Ab bm).Ab bn).Ab bo).Ab bp).Ab bq).Ab aX)) (ao.Ag ((((((((((((((aa.Ab Z).Ab W).Ab Y).Ab a4).Ab aJ).Ab aU).Ab a2).Ab aV).Ab bm).Ab bn).Ab bo).Ab bp).Ab bq).Ab aX)) (cJ.Ag ((((((((((((W.Ab Y).Ab a4).Ab aJ).Ab aU).Ab a2).Ab aV).Ab bm).Ab bn).Ab bo).Ab bp).Ab bq).Ab aX)) fX) rfl rfl Kp dx ?_);rintro _ lm _ bK ⟨b9,ca,rfl,rfl,cz⟩ dz;refine zg 8 rfl (Az rfl (fun ρ h=>EK (vs:= [sV aM aL aN,sV az am.2 aA]) Cx Ca (h _ _ rfl) (EG (off:=0) 0 dz rfl rfl)) ?_);obtain⟨cA,fZ,ga⟩:=bs fY;refine zg 2 rfl (BH (LW (p0:=(aL,am.2)) (fC.Ag ((((bo.Ab bp).Ab bq).Ab aX).Ab bK)) (fE.Ag (((bp.Ab bq).Ab aX).Ab bK)) (cJ.Ag (((((((((((((W.Ab Y).Ab a4).Ab aJ).Ab aU).Ab a2).Ab aV).Ab bm).Ab bn).Ab bo).Ab bp).Ab bq).Ab aX).Ab bK)) fZ) rfl rfl Kp dz ?_);rintro _ ln _ br ⟨cY,cZ,rfl,rfl,gb⟩ dA;refine zg 8 rfl (Az rfl (fun ρ h=>EK (vs:= [sV aB aj.1 aC,sV a6 a5 a7]) Cx Ca (h _ _ rfl) (EG (off:=0) 1 dA rfl rfl)) ?_);obtain⟨cb,gc,gd⟩:=bs ga;refine zg 2 rfl (BH (LW (p0:=(aj.1,a5)) (fG.Ag (((bq.Ab aX).Ab bK).Ab br)) (fI.Ag ((aX.Ab bK).Ab br)) (cJ.Ag ((((((((((((((W.Ab Y).Ab a4).Ab aJ).Ab aU).Ab a2).Ab aV).Ab bm).Ab bn).Ab bo).Ab bp).Ab bq).Ab aX).Ab bK).Ab br)) gc) rfl rfl Kp dA ?_);rintro _ lq _ bY ⟨cB,cC,rfl,rfl,ge⟩ dB;obtain⟨gf,gg,gh⟩:=bs gd;refine zg 12 rfl (C3 6 16 [bX ak #[sV aM aL aN,sV az am.2 aA] 24,bX al #[sV aB aj.1 aC,sV a6 a5 a7] 24] [(4,pV aK 0),(5,sV aQ aP.1 aR),(8,pV ak 0),(9,pV al 0),(12,sV b6 aW.1 b7),(13,iV aW.2),(14,sV b9 b8.1 ca),(16,sV cY cA.1 cZ),(17,iV cA.2),(18,sV cB cb.1 cC),(19,iV cb.2),(108,.bool gf)] (fun lr bL c0=>?_) (fun dC=>?_))
       ·obtain⟨gi,gj,gk⟩:=bs gh;refine zg 1 rfl (C3 14 8 [bX ak #[sV aM aL aN,sV az am.2 aA] 24,bX al #[sV aB aj.1 aC,sV a6 a5 a7] 24] [(4,pV aK 0),(5,sV aQ aP.1 aR),(8,pV ak 0),(9,pV al 0),(12,sV b6 aW.1 b7),(13,iV aW.2),(14,sV b9 b8.1 ca),(16,sV cY cA.1 cZ),(18,sV cB cb.1 cC),(19,iV cb.2),(116,.bool gi)] (fun cD bM c1=>?_) (fun c3=>?_))
        ·obtain⟨gl,gm,gn⟩:=bs gk;refine zg 1 rfl (Fx [] (fun L s=>∃(dD:LH),Jm cD H dD [bX ak #[sV aM aL aN,sV az am.2 aA] 24,bX al #[sV aB aj.1 aC,sV a6 a5 a7] 24] [(4,pV aK 0),(5,sV aQ aP.1 aR),(8,pV ak 0),(9,pV al 0),(12,sV b6 aW.1 b7),(13,iV aW.2),(14,sV b9 b8.1 ca),(16,sV cY cA.1 cZ),(18,sV cB cb.1 cC),(124,.bool gl)] L s) ?_ ?_)
         ·rintro _ _ ⟨dD,rfl,rfl,bN,dE⟩;refine JL.done (BL gn (fun gp gq=>?_) (fun gp gr=>?_))
          ·refine zg 4 rfl (JS.drop 0 dE rfl fun gt=>?_);refine JS.drop 1 gt rfl fun ls=>?_;obtain rfl:=oi gq;obtain rfl:=cX _ ct;have gu:=elim_inl cW;obtain rfl:=oi gu;exact GO rfl (JO.end (v:= .bool false) rfl (by decide+kernel) func6 rfl rfl rfl)
          ·obtain⟨gv,gw,gx⟩:=bs gr;refine zg 6 rfl (BK (No (fR.Ag (((((bK.Ab br).Ab bY).Ab bL).Ab bM).Ab bN)) (cz.Ag ((((br.Ab bY).Ab bL).Ab bM).Ab bN)) gw) rfl rfl Mm dE fun lu cc dF=>?_);refine Az (v:= .bool (!gv)) rfl (fun ρ h=>Yl.not (h _ _ rfl)) ?_;obtain⟨gy,gz,gA⟩:=bs gx;refine zg 1 rfl (C3 10 6 [bX ak #[sV aM aL aN,sV az am.2 aA] 24,bX al #[sV aB aj.1 aC,sV a6 a5 a7] 24] [(4,pV aK 0),(5,sV aQ aP.1 aR),(8,pV ak 0),(9,pV al 0),(13,iV aW.2),(14,sV b9 b8.1 ca),(18,sV cB cb.1 cC),(134,.bool gy)] (fun dG cE dH=>?_) (fun dI=>?_))
           ·obtain⟨gB,gC,gD⟩:=bs gA;refine zg 1 rfl (Fx [] (fun L s=>∃(c4:LH),Jm dG H c4 [bX ak #[sV aM aL aN,sV az am.2 aA] 24,bX al #[sV aB aj.1 aC,sV a6 a5 a7] 24] [(4,pV aK 0),(5,sV aQ aP.1 aR),(8,pV ak 0),(9,pV al 0),(13,iV aW.2),(14,sV b9 b8.1 ca),(140,.bool gB)] L s) ?_ ?_)
            ·rintro _ _ ⟨c4,rfl,rfl,dJ,dK⟩;refine JL.done (BL gD (fun gE gF=>?_) (fun gE gG=>?_))
             ·refine zg 4 rfl (JS.drop 0 dK rfl fun gH=>?_);refine JS.drop 1 gH rfl fun lw=>?_;obtain rfl:=oi gF;obtain rfl:=cX _ ct;have gI:=elim_inl cW;obtain rfl:=oi gI;exact GO rfl (JO.end (v:= .bool false) rfl (by decide+kernel) func6 rfl rfl rfl)
             ·obtain⟨gJ,gK,gL⟩:=bs gG;refine zg 8 rfl (Bg gK rfl rfl rfl ?_);refine zg 2 rfl ?_;obtain rfl:=oi gL;exact AB (fS _ _ (b8.1,gJ) ⟨c4,b9,ca,rfl,rfl,(((((((((aX.Ab bK).Ab br).Ab bY).Ab bL).Ab bM).Ab bN).Ab cc).Ab cE).Ab dJ),dK,(cz.Ag (((((((br.Ab bY).Ab bL).Ab bM).Ab bN).Ab cc).Ab cE).Ab dJ))⟩ ct) rfl
            ·intro dL;refine Dr 135 gC (fun gM gN=>?_) (fun gM gO=>?_)
             ·refine zg 5 rfl ?_;obtain rfl:=oi gN;exact AB (dL _ _ ⟨dG,rfl,rfl,Aq,dH⟩) rfl
             ·obtain⟨gP,gQ,gR⟩:=bs gO;refine zg 2 rfl (BK (No (cz.Ag ((((((br.Ab bY).Ab bL).Ab bM).Ab bN).Ab cc).Ab cE)) (ge.Ag ((((bL.Ab bM).Ab bN).Ab cc).Ab cE)) gQ) rfl rfl Mm dH fun gS gT gU=>?_);refine Az (v:= .bool (!gP)) rfl (fun ρ h=>Yl.not (h _ _ rfl)) (zg 1 rfl ?_);obtain rfl:=oi gR;exact AB (dL _ _ ⟨gS,rfl,rfl,gT,gU⟩) rfl
           ·refine Dr 129 gz (fun gV gW=>?_) (fun gV gX=>?_)
            ·refine zg 5 rfl ?_;obtain rfl:=oi gW;exact dI Aq dF rfl
            ·obtain⟨gY,gZ,g0⟩:=bs gX;refine zg 2 rfl (BK (No (cz.Ag (((((br.Ab bY).Ab bL).Ab bM).Ab bN).Ab cc)) (gb.Ag ((((bY.Ab bL).Ab bM).Ab bN).Ab cc)) gZ) rfl rfl Mm dF fun lx g1 g3=>?_);refine Az (v:= .bool (!gY)) rfl (fun ρ h=>Yl.not (h _ _ rfl)) (zg 1 rfl ?_);obtain rfl:=oi g0;exact dI g1 g3 rfl
         ·intro c5;refine Dr 117 gm (fun g4 g5=>?_) (fun g4 g6=>?_)
          ·refine zg 7 rfl ?_;obtain rfl:=oi g5;exact AB (c5 _ _ ⟨cD,rfl,rfl,Aq,c1⟩) rfl
          ·refine zg 3 rfl (Er 120 g6 (fun g7 g8=>?_) (fun g7 g9=>?_))
           ·refine zg 4 rfl ?_;obtain rfl:=oi g8;exact AB (c5 _ _ ⟨cD,rfl,rfl,Aq,c1⟩) rfl
           ·refine zg 4 rfl ?_;obtain rfl:=oi g9;exact AB (c5 _ _ ⟨cD,rfl,rfl,Aq,c1⟩) rfl
        ·refine Dr 109 gj (fun ha hb=>?_) (fun ha hc=>?_)
         ·refine zg 7 rfl ?_;obtain rfl:=oi hb;exact c3 Aq c0 rfl
         ·refine zg 3 rfl (Er 112 hc (fun hd he=>?_) (fun hd hf=>?_))
          ·refine zg 4 rfl ?_;obtain rfl:=oi he;exact c3 Aq c0 rfl
          ·refine zg 4 rfl ?_;obtain rfl:=oi hf;exact c3 Aq c0 rfl
       ·refine Er 105 gg (fun hg hj=>?_) (fun hg hk=>?_)
        ·refine zg 3 rfl ?_;obtain rfl:=oi hj;exact dC Aq dB rfl
        ·refine zg 3 rfl ?_;obtain rfl:=oi hk;exact dC Aq dB rfl
      ·refine JL.exit rfl (JS.drop 0 dx rfl fun hl=>?_);refine JS.drop 1 hl rfl fun hm=>?_;obtain rfl:=oi fW;have hn:du=(Sum.inr ()):=(cX _ ct).symm;exact AB (fQ _ _ ⟨(),cy,hn,rfl,rfl,aX,hm⟩) rfl
    ·intro dM;refine BL fy (fun ho hp=>?_) (fun ho hq=>?_)
     ·refine JL.region (Bu underlying24 Ck rfl rfl rfl ?_);refine Az (v:= sV aS aj.2 aT) rfl (fun ρ h=>Yl.load C6 (h _ _ rfl) (Di (j:=4) (off:=1) cQ rfl rfl)) ?_;obtain⟨ly,hr,hu⟩:=bs hp;refine zg 2 rfl (Lg 2 (dq.Ag (((aJ.Ab aU).Ab a2).Ab aV)) hr rfl rfl rfl rfl rfl rfl underlying22 B7 ?_);rintro c6 cF dN _ hv ⟨lz,lA,rfl,lB⟩ lC hw hx lD lE;refine JS.store (v:= sV bV a1 bW) (off:=cF) 2 rfl rfl rfl cQ rfl rfl B7 (by simp [Value.cells,CG]) hv (by have:=hw;simp only [Rp.n,rK,rN,rB,rP,rL] at this;show _+1≤_;omega) fun hy=>?_;have hz:=hx a1 [sV bV a1 bW] ⟨_,_,rfl,(fv.Ag aV)⟩;have dO:(aj.2.set (Int.toNat aH.1) a1).length=aj.2.length:=List.length_set;refine Hf (L':= [(4,pV aK 0),(5,.slice aQ aP.1.length aR),(6,iV aH.1),(8,pV ak 0),(9,pV al 0),(11,.slice bV a1.length bW),(72,.bool dt),(73,pV al 1),(74,.slice aS ((aj.2.set (Int.toNat aH.1) a1)).length aT),(75,iV aH.1),(76,.slice bV a1.length bW),(77,pV c6 cF)]) ⟨rfl,rfl,rfl,rfl,rfl,rfl,rfl,rfl,by rw [dO];rfl,rfl,rfl,rfl,trivial⟩ ?_;refine Cg (S':= [bG,bH,[(c6,.cells (Ba dN cF [.slice bV a1.length bW]) 28 (0,0))],[(ak,.cells #[.slice aM aL.length aN,.slice az am.2.length aA] 24 (0,0))],[(al,.cells #[.slice aB aj.1.length aC,.slice aS ((aj.2.set (Int.toNat aH.1) a1)).length aT] 24 (0,0))],b5]) (by rw [dO] <;> rfl) hy fun hA=>JL.done (JS.swap 2 3 rfl rfl rfl hA fun hB=>?_);refine JS.swap 3 4 rfl rfl rfl hB fun hC=>JS.swap 4 5 rfl rfl rfl hC fun hD=>?_;obtain rfl:=oi hu;exact AB (dM _ _ ⟨cr,aS,aT,[(c6,.cells (Ba dN cF [sV bV a1 bW]) 28 (0,0))],rfl,rfl,Aq,hD,hz⟩) rfl
     ·refine JL.skip (JS.swap 2 3 rfl rfl rfl cQ fun hE=>?_);refine JS.swap 3 4 rfl rfl rfl hE fun hF=>JS.swap 4 5 rfl rfl rfl hF fun hG=>?_;obtain rfl:=oi hq;exact AB (dM _ _ ⟨cr,aS,aT,bU,rfl,rfl,Aq,hG,(dq.Ag (((aJ.Ab aU).Ab a2).Ab aV))⟩) rfl
   ·intro dP;refine Er 68 fw (fun hH hI=>?_) (fun hH hJ=>?_)
    ·refine zg 1 rfl (Bx underlying28 rfl rfl rfl ?_);refine zg 2 rfl ?_;obtain rfl:=oi hI;exact AB (dP _ _ ⟨cP,rfl,rfl,Aq,dr⟩) rfl
    ·refine zg 4 rfl ?_;obtain rfl:=oi hJ;exact AB (dP _ _ ⟨cP,rfl,rfl,Aq,dr⟩) rfl
  ·intro dQ;refine AS fg (fun hK hL=>?_) (fun hK hM=>?_)
   ·refine JL.region (Bu underlying24 Ck rfl rfl rfl ?_);refine Az (v:= sV bj am.1 bl) rfl (fun ρ h=>Yl.load C6 (h _ _ rfl) (Di (j:=7) (off:=0) cN rfl rfl)) ?_;obtain⟨lF,hN,hO⟩:=bs hL;refine zg 2 rfl (Lg 3 (dp.Ag aJ) hN rfl rfl rfl rfl rfl rfl underlying22 B7 ?_);rintro c7 cG dR _ hP ⟨lG,lH,rfl,lI⟩ lJ hQ hR lK lL;refine JS.store (v:= sV bI aI bJ) (off:=cG) 3 rfl rfl rfl cN rfl rfl B7 (by simp [Value.cells,CG]) hP (by have:=hQ;simp only [Rp.n,rK,rN,rB,rP,rL] at this;show _+1≤_;omega) fun hS=>?_;have hT:=hR aI [sV bI aI bJ] ⟨_,_,rfl,ff⟩;have c8:(am.1.set (Int.toNat aH.1) aI).length=am.1.length:=List.length_set;refine Hf (L':= [(4,pV aK 0),(5,.slice aQ aP.1.length aR),(6,iV aH.1),(7,iV K.1),(8,pV ak 0),(9,pV al 0),(40,.agg #[.slice bj ((am.1.set (Int.toNat aH.1) aI)).length bl,.slice az am.2.length aA]),(42,.agg #[.slice aB aj.1.length aC,.slice aS aj.2.length aT]),(43,pV aK 0),(44,.slice au ai.1.1.length av),(45,iV aH.1),(46,pV e7 e8),(47,.slice e9 e4.length fa),(48,iV K.1),(49,.slice bI aI.length bJ),(10,.slice bI aI.length bJ),(50,.slice bI aI.length bJ),(51,iV (aI.length:Int)),(52,.bool (decide ((aI.length:Int)≤3))),(53,pV ak 0),(54,.slice bj ((am.1.set (Int.toNat aH.1) aI)).length bl),(55,iV aH.1),(56,.slice bI aI.length bJ),(57,pV c7 cG)]) ⟨rfl,rfl,rfl,rfl,rfl,rfl,by rw [c8];rfl,rfl,rfl,rfl,rfl,rfl,rfl,rfl,rfl,rfl,rfl,rfl,rfl,rfl,by rw [c8];rfl,rfl,rfl,rfl,trivial⟩ ?_;refine Cg (S':= [[],[],[(O,.cells #[.slice U K.2.1.length V,iV K.2.2.1,.int .u64 ((K.2.2.2:Nat):Int)] 92 (0,0))],[(c7,.cells (Ba dR cG [.slice bI aI.length bJ]) 28 (0,0))],bG,bH,bU,[(ak,.cells #[.slice bj ((am.1.set (Int.toNat aH.1) aI)).length bl,.slice az am.2.length aA] 24 (0,0))],[(al,.cells #[.slice aB aj.1.length aC,.slice aS aj.2.length aT] 24 (0,0))],[]]) (by rw [c8] <;> rfl) hS fun hU=>JL.done (JS.drop 2 hU rfl fun hV=>?_);refine JS.swap 3 4 rfl rfl rfl hV fun hW=>JS.swap 4 5 rfl rfl rfl hW fun hX=>JS.swap 5 6 rfl rfl rfl hX fun hY=>JS.swap 6 7 rfl rfl rfl hY fun hZ=>JS.swap 7 8 rfl rfl rfl hZ fun h0=>?_;obtain rfl:=oi hO;exact AB (dQ _ _ ⟨cM,bj,bl,[(c7,.cells (Ba dR cG [sV bI aI bJ]) 28 (0,0))],rfl,rfl,Aq,h0,hT⟩) rfl
   ·refine JL.skip (JS.drop 2 cN rfl fun h1=>?_);refine JS.swap 3 4 rfl rfl rfl h1 fun h2=>JS.swap 4 5 rfl rfl rfl h2 fun h3=>JS.swap 5 6 rfl rfl rfl h3 fun h4=>JS.swap 6 7 rfl rfl rfl h4 fun h5=>JS.swap 7 8 rfl rfl rfl h5 fun h6=>?_;obtain rfl:=oi hM;exact AB (dQ _ _ ⟨cM,bj,bl,cw,rfl,rfl,Aq,h6,(dp.Ag aJ)⟩) rfl
 ·intro aY;refine OS (i:=1) (j:=4) (l:=5) rfl (by decide+kernel) ?_ ?_ ?_
  ·refine Take.Eo (vs:= [.agg #[sV au ai.1.1 av,sV aw ai.1.2 ay]]) cK (EN (an.Ag (((aa.Ab Z).Ab W).Ab Y)) (ao.Ag (((aa.Ab Z).Ab W).Ab Y)) cq) rfl rfl rfl EF rfl ?_;rintro _ lM _ aD ⟨cd,ce,ae,cf,cg,ag,rfl,rfl,ci,ck⟩ h7;refine EL 3 rfl h7 fun h8=>CS (S1:= [[],[(O,.cells #[sV U K.2.1 V,iV K.2.2.1,.int .u64 ((K.2.2.2:Nat):Int)] 92 (0,0))],[],ae,ag]) (S':= [[],[(O,.cells #[sV U K.2.1 V,iV K.2.2.1,.int .u64 ((K.2.2.2:Nat):Int)] 92 (0,0))],[],ae,ag]) rfl (List.Perm.refl _) h8 fun c9=>OS (i:=3) (j:=4) (l:=5) rfl (by decide+kernel) ?_ ?_ ?_
   ·refine Take.Eo (vs:= [.agg #[sV au ai.1.1 av,sV aw ai.1.2 ay]]) c9 (EN (an.Ag ((((aa.Ab Z).Ab W).Ab Y).Ab aD)) (ao.Ag ((((aa.Ab Z).Ab W).Ab Y).Ab aD)) a0) rfl rfl rfl EF rfl ?_;rintro _ dS _ cm ⟨dT,dU,a8,dV,dW,a9,rfl,rfl,dX,dY⟩ h9;refine EL 5 rfl h9 fun ia=>CS (S1:= [[],[(O,.cells #[sV U K.2.1 V,iV K.2.2.1,.int .u64 ((K.2.2.2:Nat):Int)] 92 (0,0))],[],ae,ag,a8,a9]) (S':= [[],[(O,.cells #[sV U K.2.1 V,iV K.2.2.1,.int .u64 ((K.2.2.2:Nat):Int)] 92 (0,0))],[],ae,ag,a8,a9]) rfl (List.Perm.refl _) ia fun dZ=>Gu (i:=4) (j:=5) rfl (by decide+kernel) ?_ ?_
    ·refine Take.DZ dZ rfl rfl rfl Dh fun cH ic=>JG.one (i:=5) rfl (by decide+kernel) (Take.DZ ic rfl rfl rfl Dh fun cI ie=>?_);exact CS (S1:= [[],[(O,.cells #[sV U K.2.1 V,iV K.2.2.1,.int .u64 ((K.2.2.2:Nat):Int)] 92 (0,0))],[],ae,ag,a8,a9,[(cH,.cells #[nS,nS] 24 (0,0))],[(cI,.cells #[nS,nS] 24 (0,0))]]) (S':= [[],[],[(O,.cells #[sV U K.2.1 V,iV K.2.2.1,.int .u64 ((K.2.2.2:Nat):Int)] 92 (0,0))],ae,ag,a8,a9,[(cH,.cells #[nS,nS] 24 (0,0))],[(cI,.cells #[nS,nS] 24 (0,0))]]) rfl (((List.perm_middle (α:=Seg) (l₁:= [[(O,.cells #[sV U K.2.1 V,iV K.2.2.1,.int .u64 ((K.2.2.2:Nat):Int)] 92 (0,0))]]) (a:= []) (l₂:= [ae,ag,a8,a9,[(cH,.cells #[nS,nS] 24 (0,0))],[(cI,.cells #[nS,nS] 24 (0,0))]])).trans ((List.Perm.refl _).cons _)).cons _) ie fun ig=>F7 (aY _ _ ⟨dS,cd,ce,ae,cf,cg,ag,dT,dU,a8,dV,dW,a9,cH,cI,rfl,rfl,(aD.Ab cm),ig,(ci.Ag cm),(ck.Ag cm),dX,dY⟩) rfl
    ·refine Take.DZ dZ rfl rfl rfl Dh fun cu ih=>JG.one (i:=4) rfl (by decide+kernel) (Take.DZ ih rfl rfl rfl Dh fun cv ii=>?_);exact CS (S1:= [[],[(O,.cells #[sV U K.2.1 V,iV K.2.2.1,.int .u64 ((K.2.2.2:Nat):Int)] 92 (0,0))],[],ae,ag,a8,a9,[(cu,.cells #[nS,nS] 24 (0,0))],[(cv,.cells #[nS,nS] 24 (0,0))]]) (S':= [[],[],[(O,.cells #[sV U K.2.1 V,iV K.2.2.1,.int .u64 ((K.2.2.2:Nat):Int)] 92 (0,0))],ae,ag,a8,a9,[(cv,.cells #[nS,nS] 24 (0,0))],[(cu,.cells #[nS,nS] 24 (0,0))]]) rfl (((List.perm_middle (α:=Seg) (l₁:= [[(O,.cells #[sV U K.2.1 V,iV K.2.2.1,.int .u64 ((K.2.2.2:Nat):Int)] 92 (0,0))]]) (a:= []) (l₂:= [ae,ag,a8,a9,[(cu,.cells #[nS,nS] 24 (0,0))],[(cv,.cells #[nS,nS] 24 (0,0))]])).trans ((((((((List.perm_middle (α:=Seg) (l₁:= [[(cu,.cells #[nS,nS] 24 (0,0))]]) (a:= [(cv,.cells #[nS,nS] 24 (0,0))]) (l₂:= [])).trans ((List.Perm.refl _).cons _)).cons _).cons _).cons _).cons _).cons _).cons _)).cons _) ii fun ij=>F7 (aY _ _ ⟨dS,cd,ce,ae,cf,cg,ag,dT,dU,a8,dV,dW,a9,cv,cu,rfl,rfl,(aD.Ab cm),ij,(ci.Ag cm),(ck.Ag cm),dX,dY⟩) rfl
   ·refine Take.DZ c9 rfl rfl rfl Dh fun aE ea=>Gu (i:=3) (j:=5) rfl (by decide+kernel) ?_ ?_
    ·refine Take.Eo (vs:= [.agg #[sV au ai.1.1 av,sV aw ai.1.2 ay]]) ea (EN (an.Ag ((((aa.Ab Z).Ab W).Ab Y).Ab aD)) (ao.Ag ((((aa.Ab Z).Ab W).Ab Y).Ab aD)) a0) rfl rfl rfl EF rfl ?_;rintro _ ik _ da ⟨il,io,bZ,iq,ir,bO,rfl,rfl,it,iu⟩ iv;refine EL 6 rfl iv fun iw=>CS (S1:= [[],[(O,.cells #[sV U K.2.1 V,iV K.2.2.1,.int .u64 ((K.2.2.2:Nat):Int)] 92 (0,0))],[],ae,ag,[(aE,.cells #[nS,nS] 24 (0,0))],bZ,bO]) (S':= [[],[(O,.cells #[sV U K.2.1 V,iV K.2.2.1,.int .u64 ((K.2.2.2:Nat):Int)] 92 (0,0))],[],ae,ag,[(aE,.cells #[nS,nS] 24 (0,0))],bZ,bO]) rfl (List.Perm.refl _) iw fun iy=>JG.one (i:=5) rfl (by decide+kernel) (Take.DZ iy rfl rfl rfl Dh fun cn iz=>?_);exact CS (S1:= [[],[(O,.cells #[sV U K.2.1 V,iV K.2.2.1,.int .u64 ((K.2.2.2:Nat):Int)] 92 (0,0))],[],ae,ag,[(aE,.cells #[nS,nS] 24 (0,0))],bZ,bO,[(cn,.cells #[nS,nS] 24 (0,0))]]) (S':= [[],[],[(O,.cells #[sV U K.2.1 V,iV K.2.2.1,.int .u64 ((K.2.2.2:Nat):Int)] 92 (0,0))],ae,ag,bZ,bO,[(aE,.cells #[nS,nS] 24 (0,0))],[(cn,.cells #[nS,nS] 24 (0,0))]]) rfl (((List.perm_middle (α:=Seg) (l₁:= [[(O,.cells #[sV U K.2.1 V,iV K.2.2.1,.int .u64 ((K.2.2.2:Nat):Int)] 92 (0,0))]]) (a:= []) (l₂:= [ae,ag,[(aE,.cells #[nS,nS] 24 (0,0))],bZ,bO,[(cn,.cells #[nS,nS] 24 (0,0))]])).trans ((((((List.perm_middle (α:=Seg) (l₁:= [[(aE,.cells #[nS,nS] 24 (0,0))]]) (a:=bZ) (l₂:= [bO,[(cn,.cells #[nS,nS] 24 (0,0))]])).trans (((List.perm_middle (α:=Seg) (l₁:= [[(aE,.cells #[nS,nS] 24 (0,0))]]) (a:=bO) (l₂:= [[(cn,.cells #[nS,nS] 24 (0,0))]])).trans ((List.Perm.refl _).cons _)).cons _)).cons _).cons _).cons _).cons _)).cons _) iz fun iA=>F7 (aY _ _ ⟨ik,cd,ce,ae,cf,cg,ag,il,io,bZ,iq,ir,bO,aE,cn,rfl,rfl,(aD.Ab da),iA,(ci.Ag da),(ck.Ag da),it,iu⟩) rfl
    ·refine Take.DZ ea rfl rfl rfl Dh fun bP iB=>JG.one (i:=3) rfl (by decide+kernel) (Take.Eo (vs:= [.agg #[sV au ai.1.1 av,sV aw ai.1.2 ay]]) iB (EN (an.Ag ((((aa.Ab Z).Ab W).Ab Y).Ab aD)) (ao.Ag ((((aa.Ab Z).Ab W).Ab Y).Ab aD)) a0) rfl rfl rfl EF rfl ?_);rintro _ iC _ db ⟨iD,iE,b0,iF,iG,bQ,rfl,rfl,iH,iI⟩ iJ;exact EL 7 rfl iJ fun iK=>CS (S1:= [[],[(O,.cells #[sV U K.2.1 V,iV K.2.2.1,.int .u64 ((K.2.2.2:Nat):Int)] 92 (0,0))],[],ae,ag,[(aE,.cells #[nS,nS] 24 (0,0))],[(bP,.cells #[nS,nS] 24 (0,0))],b0,bQ]) (S':= [[],[(O,.cells #[sV U K.2.1 V,iV K.2.2.1,.int .u64 ((K.2.2.2:Nat):Int)] 92 (0,0))],[],ae,ag,[(aE,.cells #[nS,nS] 24 (0,0))],[(bP,.cells #[nS,nS] 24 (0,0))],b0,bQ]) rfl (List.Perm.refl _) iK fun iL=>CS (S1:= [[],[(O,.cells #[sV U K.2.1 V,iV K.2.2.1,.int .u64 ((K.2.2.2:Nat):Int)] 92 (0,0))],[],ae,ag,[(aE,.cells #[nS,nS] 24 (0,0))],[(bP,.cells #[nS,nS] 24 (0,0))],b0,bQ]) (S':= [[],[],[(O,.cells #[sV U K.2.1 V,iV K.2.2.1,.int .u64 ((K.2.2.2:Nat):Int)] 92 (0,0))],ae,ag,b0,bQ,[(aE,.cells #[nS,nS] 24 (0,0))],[(bP,.cells #[nS,nS] 24 (0,0))]]) rfl (((List.perm_middle (α:=Seg) (l₁:= [[(O,.cells #[sV U K.2.1 V,iV K.2.2.1,.int .u64 ((K.2.2.2:Nat):Int)] 92 (0,0))]]) (a:= []) (l₂:= [ae,ag,[(aE,.cells #[nS,nS] 24 (0,0))],[(bP,.cells #[nS,nS] 24 (0,0))],b0,bQ])).trans ((((((List.perm_middle (α:=Seg) (l₁:= [[(aE,.cells #[nS,nS] 24 (0,0))],[(bP,.cells #[nS,nS] 24 (0,0))]]) (a:=b0) (l₂:= [bQ])).trans (((List.perm_middle (α:=Seg) (l₁:= [[(aE,.cells #[nS,nS] 24 (0,0))],[(bP,.cells #[nS,nS] 24 (0,0))]]) (a:=bQ) (l₂:= [])).trans ((List.Perm.refl _).cons _)).cons _)).cons _).cons _).cons _).cons _)).cons _) iL fun iM=>F7 (aY _ _ ⟨iC,cd,ce,ae,cf,cg,ag,iD,iE,b0,iF,iG,bQ,aE,bP,rfl,rfl,(aD.Ab db),iM,(ci.Ag db),(ck.Ag db),iH,iI⟩) rfl
   ·refine Take.DZ c9 rfl rfl rfl Dh fun ap eb=>Gu (i:=3) (j:=4) rfl (by decide+kernel) ?_ ?_
    ·refine Take.Eo (vs:= [.agg #[sV au ai.1.1 av,sV aw ai.1.2 ay]]) eb (EN (an.Ag ((((aa.Ab Z).Ab W).Ab Y).Ab aD)) (ao.Ag ((((aa.Ab Z).Ab W).Ab Y).Ab aD)) a0) rfl rfl rfl EF rfl ?_;rintro _ iN _ dc ⟨iO,iP,b1,iQ,iR,bR,rfl,rfl,iS,iT⟩ iU;refine EL 6 rfl iU fun iW=>CS (S1:= [[],[(O,.cells #[sV U K.2.1 V,iV K.2.2.1,.int .u64 ((K.2.2.2:Nat):Int)] 92 (0,0))],[],ae,ag,[(ap,.cells #[nS,nS] 24 (0,0))],b1,bR]) (S':= [[],[(O,.cells #[sV U K.2.1 V,iV K.2.2.1,.int .u64 ((K.2.2.2:Nat):Int)] 92 (0,0))],[],ae,ag,[(ap,.cells #[nS,nS] 24 (0,0))],b1,bR]) rfl (List.Perm.refl _) iW fun iX=>JG.one (i:=4) rfl (by decide+kernel) (Take.DZ iX rfl rfl rfl Dh fun b2 iY=>?_);exact CS (S1:= [[],[(O,.cells #[sV U K.2.1 V,iV K.2.2.1,.int .u64 ((K.2.2.2:Nat):Int)] 92 (0,0))],[],ae,ag,[(ap,.cells #[nS,nS] 24 (0,0))],b1,bR,[(b2,.cells #[nS,nS] 24 (0,0))]]) (S':= [[],[],[(O,.cells #[sV U K.2.1 V,iV K.2.2.1,.int .u64 ((K.2.2.2:Nat):Int)] 92 (0,0))],ae,ag,b1,bR,[(b2,.cells #[nS,nS] 24 (0,0))],[(ap,.cells #[nS,nS] 24 (0,0))]]) rfl (((List.perm_middle (α:=Seg) (l₁:= [[(O,.cells #[sV U K.2.1 V,iV K.2.2.1,.int .u64 ((K.2.2.2:Nat):Int)] 92 (0,0))]]) (a:= []) (l₂:= [ae,ag,[(ap,.cells #[nS,nS] 24 (0,0))],b1,bR,[(b2,.cells #[nS,nS] 24 (0,0))]])).trans ((((((List.perm_middle (α:=Seg) (l₁:= [[(ap,.cells #[nS,nS] 24 (0,0))]]) (a:=b1) (l₂:= [bR,[(b2,.cells #[nS,nS] 24 (0,0))]])).trans (((List.perm_middle (α:=Seg) (l₁:= [[(ap,.cells #[nS,nS] 24 (0,0))]]) (a:=bR) (l₂:= [[(b2,.cells #[nS,nS] 24 (0,0))]])).trans (((List.perm_middle (α:=Seg) (l₁:= [[(ap,.cells #[nS,nS] 24 (0,0))]]) (a:= [(b2,.cells #[nS,nS] 24 (0,0))]) (l₂:= [])).trans ((List.Perm.refl _).cons _)).cons _)).cons _)).cons _).cons _).cons _).cons _)).cons _) iY fun iZ=>F7 (aY _ _ ⟨iN,cd,ce,ae,cf,cg,ag,iO,iP,b1,iQ,iR,bR,b2,ap,rfl,rfl,(aD.Ab dc),iZ,(ci.Ag dc),(ck.Ag dc),iS,iT⟩) rfl
    ·refine Take.DZ eb rfl rfl rfl Dh fun bu i0=>JG.one (i:=3) rfl (by decide+kernel) (Take.Eo (vs:= [.agg #[sV au ai.1.1 av,sV aw ai.1.2 ay]]) i0 (EN (an.Ag ((((aa.Ab Z).Ab W).Ab Y).Ab aD)) (ao.Ag ((((aa.Ab Z).Ab W).Ab Y).Ab aD)) a0) rfl rfl rfl EF rfl ?_);rintro _ i1 _ dd ⟨i3,i4,b3,i5,i6,bS,rfl,rfl,i7,i8⟩ i9;exact EL 7 rfl i9 fun ja=>CS (S1:= [[],[(O,.cells #[sV U K.2.1 V,iV K.2.2.1,.int .u64 ((K.2.2.2:Nat):Int)] 92 (0,0))],[],ae,ag,[(ap,.cells #[nS,nS] 24 (0,0))],[(bu,.cells #[nS,nS] 24 (0,0))],b3,bS]) (S':= [[],[(O,.cells #[sV U K.2.1 V,iV K.2.2.1,.int .u64 ((K.2.2.2:Nat):Int)] 92 (0,0))],[],ae,ag,[(ap,.cells #[nS,nS] 24 (0,0))],[(bu,.cells #[nS,nS] 24 (0,0))],b3,bS]) rfl (List.Perm.refl _) ja fun jb=>CS (S1:= [[],[(O,.cells #[sV U K.2.1 V,iV K.2.2.1,.int .u64 ((K.2.2.2:Nat):Int)] 92 (0,0))],[],ae,ag,[(ap,.cells #[nS,nS] 24 (0,0))],[(bu,.cells #[nS,nS] 24 (0,0))],b3,bS]) (S':= [[],[],[(O,.cells #[sV U K.2.1 V,iV K.2.2.1,.int .u64 ((K.2.2.2:Nat):Int)] 92 (0,0))],ae,ag,b3,bS,[(bu,.cells #[nS,nS] 24 (0,0))],[(ap,.cells #[nS,nS] 24 (0,0))]]) rfl (((List.perm_middle (α:=Seg) (l₁:= [[(O,.cells #[sV U K.2.1 V,iV K.2.2.1,.int .u64 ((K.2.2.2:Nat):Int)] 92 (0,0))]]) (a:= []) (l₂:= [ae,ag,[(ap,.cells #[nS,nS] 24 (0,0))],[(bu,.cells #[nS,nS] 24 (0,0))],b3,bS])).trans ((((((List.perm_middle (α:=Seg) (l₁:= [[(ap,.cells #[nS,nS] 24 (0,0))],[(bu,.cells #[nS,nS] 24 (0,0))]]) (a:=b3) (l₂:= [bS])).trans (((List.perm_middle (α:=Seg) (l₁:= [[(ap,.cells #[nS,nS] 24 (0,0))],[(bu,.cells #[nS,nS] 24 (0,0))]]) (a:=bS) (l₂:= [])).trans (((List.perm_middle (α:=Seg) (l₁:= [[(ap,.cells #[nS,nS] 24 (0,0))]]) (a:= [(bu,.cells #[nS,nS] 24 (0,0))]) (l₂:= [])).trans ((List.Perm.refl _).cons _)).cons _)).cons _)).cons _).cons _).cons _).cons _)).cons _) jb fun jc=>F7 (aY _ _ ⟨i1,cd,ce,ae,cf,cg,ag,i3,i4,b3,i5,i6,bS,bu,ap,rfl,rfl,(aD.Ab dd),jc,(ci.Ag dd),(ck.Ag dd),i7,i8⟩) rfl
  ·refine Take.DZ cK rfl rfl rfl Dh fun ah ec=>Gu (i:=1) (j:=5) rfl (by decide+kernel) ?_ ?_
   ·refine Take.Eo (vs:= [.agg #[sV au ai.1.1 av,sV aw ai.1.2 ay]]) ec (EN (an.Ag (((aa.Ab Z).Ab W).Ab Y)) (ao.Ag (((aa.Ab Z).Ab W).Ab Y)) cq) rfl rfl rfl EF rfl ?_;rintro _ lN _ co ⟨ed,ee,aF,ef,eg,aq,rfl,rfl,eh,ei⟩ jd;refine EL 4 rfl jd fun je=>CS (S1:= [[],[(O,.cells #[sV U K.2.1 V,iV K.2.2.1,.int .u64 ((K.2.2.2:Nat):Int)] 92 (0,0))],[],[(ah,.cells #[nS,nS] 24 (0,0))],aF,aq]) (S':= [[],[(O,.cells #[sV U K.2.1 V,iV K.2.2.1,.int .u64 ((K.2.2.2:Nat):Int)] 92 (0,0))],[],[(ah,.cells #[nS,nS] 24 (0,0))],aF,aq]) rfl (List.Perm.refl _) je fun ej=>Gu (i:=3) (j:=5) rfl (by decide+kernel) ?_ ?_
    ·refine Take.Eo (vs:= [.agg #[sV au ai.1.1 av,sV aw ai.1.2 ay]]) ej (EN (an.Ag ((((aa.Ab Z).Ab W).Ab Y).Ab co)) (ao.Ag ((((aa.Ab Z).Ab W).Ab Y).Ab co)) a0) rfl rfl rfl EF rfl ?_;rintro _ jf _ de ⟨jg,jh,bv,ji,jj,ba,rfl,rfl,jk,jl⟩ jm;refine EL 6 rfl jm fun jo=>CS (S1:= [[],[(O,.cells #[sV U K.2.1 V,iV K.2.2.1,.int .u64 ((K.2.2.2:Nat):Int)] 92 (0,0))],[],[(ah,.cells #[nS,nS] 24 (0,0))],aF,aq,bv,ba]) (S':= [[],[(O,.cells #[sV U K.2.1 V,iV K.2.2.1,.int .u64 ((K.2.2.2:Nat):Int)] 92 (0,0))],[],[(ah,.cells #[nS,nS] 24 (0,0))],aF,aq,bv,ba]) rfl (List.Perm.refl _) jo fun jq=>JG.one (i:=5) rfl (by decide+kernel) (Take.DZ jq rfl rfl rfl Dh fun bT jr=>?_);exact CS (S1:= [[],[(O,.cells #[sV U K.2.1 V,iV K.2.2.1,.int .u64 ((K.2.2.2:Nat):Int)] 92 (0,0))],[],[(ah,.cells #[nS,nS] 24 (0,0))],aF,aq,bv,ba,[(bT,.cells #[nS,nS] 24 (0,0))]]) (S':= [[],[],[(O,.cells #[sV U K.2.1 V,iV K.2.2.1,.int .u64 ((K.2.2.2:Nat):Int)] 92 (0,0))],aF,aq,bv,ba,[(ah,.cells #[nS,nS] 24 (0,0))],[(bT,.cells #[nS,nS] 24 (0,0))]]) rfl (((List.perm_middle (α:=Seg) (l₁:= [[(O,.cells #[sV U K.2.1 V,iV K.2.2.1,.int .u64 ((K.2.2.2:Nat):Int)] 92 (0,0))]]) (a:= []) (l₂:= [[(ah,.cells #[nS,nS] 24 (0,0))],aF,aq,bv,ba,[(bT,.cells #[nS,nS] 24 (0,0))]])).trans ((((List.perm_middle (α:=Seg) (l₁:= [[(ah,.cells #[nS,nS] 24 (0,0))]]) (a:=aF) (l₂:= [aq,bv,ba,[(bT,.cells #[nS,nS] 24 (0,0))]])).trans (((List.perm_middle (α:=Seg) (l₁:= [[(ah,.cells #[nS,nS] 24 (0,0))]]) (a:=aq) (l₂:= [bv,ba,[(bT,.cells #[nS,nS] 24 (0,0))]])).trans (((List.perm_middle (α:=Seg) (l₁:= [[(ah,.cells #[nS,nS] 24 (0,0))]]) (a:=bv) (l₂:= [ba,[(bT,.cells #[nS,nS] 24 (0,0))]])).trans (((List.perm_middle (α:=Seg) (l₁:= [[(ah,.cells #[nS,nS] 24 (0,0))]]) (a:=ba) (l₂:= [[(bT,.cells #[nS,nS] 24 (0,0))]])).trans ((List.Perm.refl _).cons _)).cons _)).cons _)).cons _)).cons _).cons _)).cons _) jr fun js=>F7 (aY _ _ ⟨jf,ed,ee,aF,ef,eg,aq,jg,jh,bv,ji,jj,ba,ah,bT,rfl,rfl,(co.Ab de),js,(eh.Ag de),(ei.Ag de),jk,jl⟩) rfl
    ·refine Take.DZ ej rfl rfl rfl Dh fun bb jt=>JG.one (i:=3) rfl (by decide+kernel) (Take.Eo (vs:= [.agg #[sV au ai.1.1 av,sV aw ai.1.2 ay]]) jt (EN (an.Ag ((((aa.Ab Z).Ab W).Ab Y).Ab co)) (ao.Ag ((((aa.Ab Z).Ab W).Ab Y).Ab co)) a0) rfl rfl rfl EF rfl ?_);rintro _ ju _ df ⟨jv,jw,bw,jx,jy,bc,rfl,rfl,jz,jA⟩ jB;exact EL 7 rfl jB fun jC=>CS (S1:= [[],[(O,.cells #[sV U K.2.1 V,iV K.2.2.1,.int .u64 ((K.2.2.2:Nat):Int)] 92 (0,0))],[],[(ah,.cells #[nS,nS] 24 (0,0))],aF,aq,[(bb,.cells #[nS,nS] 24 (0,0))],bw,bc]) (S':= [[],[(O,.cells #[sV U K.2.1 V,iV K.2.2.1,.int .u64 ((K.2.2.2:Nat):Int)] 92 (0,0))],[],[(ah,.cells #[nS,nS] 24 (0,0))],aF,aq,[(bb,.cells #[nS,nS] 24 (0,0))],bw,bc]) rfl (List.Perm.refl _) jC fun jD=>CS (S1:= [[],[(O,.cells #[sV U K.2.1 V,iV K.2.2.1,.int .u64 ((K.2.2.2:Nat):Int)] 92 (0,0))],[],[(ah,.cells #[nS,nS] 24 (0,0))],aF,aq,[(bb,.cells #[nS,nS] 24 (0,0))],bw,bc]) (S':= [[],[],[(O,.cells #[sV U K.2.1 V,iV K.2.2.1,.int .u64 ((K.2.2.2:Nat):Int)] 92 (0,0))],aF,aq,bw,bc,[(ah,.cells #[nS,nS] 24 (0,0))],[(bb,.cells #[nS,nS] 24 (0,0))]]) rfl (((List.perm_middle (α:=Seg) (l₁:= [[(O,.cells #[sV U K.2.1 V,iV K.2.2.1,.int .u64 ((K.2.2.2:Nat):Int)] 92 (0,0))]]) (a:= []) (l₂:= [[(ah,.cells #[nS,nS] 24 (0,0))],aF,aq,[(bb,.cells #[nS,nS] 24 (0,0))],bw,bc])).trans ((((List.perm_middle (α:=Seg) (l₁:= [[(ah,.cells #[nS,nS] 24 (0,0))]]) (a:=aF) (l₂:= [aq,[(bb,.cells #[nS,nS] 24 (0,0))],bw,bc])).trans (((List.perm_middle (α:=Seg) (l₁:= [[(ah,.cells #[nS,nS] 24 (0,0))]]) (a:=aq) (l₂:= [[(bb,.cells #[nS,nS] 24 (0,0))],bw,bc])).trans (((List.perm_middle (α:=Seg) (l₁:= [[(ah,.cells #[nS,nS] 24 (0,0))],[(bb,.cells #[nS,nS] 24 (0,0))]]) (a:=bw) (l₂:= [bc])).trans (((List.perm_middle (α:=Seg) (l₁:= [[(ah,.cells #[nS,nS] 24 (0,0))],[(bb,.cells #[nS,nS] 24 (0,0))]]) (a:=bc) (l₂:= [])).trans ((List.Perm.refl _).cons _)).cons _)).cons _)).cons _)).cons _).cons _)).cons _) jD fun jE=>F7 (aY _ _ ⟨ju,ed,ee,aF,ef,eg,aq,jv,jw,bw,jx,jy,bc,ah,bb,rfl,rfl,(co.Ab df),jE,(eh.Ag df),(ei.Ag df),jz,jA⟩) rfl
   ·refine Take.DZ ec rfl rfl rfl Dh fun aZ jF=>JG.one (i:=1) rfl (by decide+kernel) (Take.Eo (vs:= [.agg #[sV au ai.1.1 av,sV aw ai.1.2 ay]]) jF (EN (an.Ag (((aa.Ab Z).Ab W).Ab Y)) (ao.Ag (((aa.Ab Z).Ab W).Ab Y)) cq) rfl rfl rfl EF rfl ?_);rintro _ lO _ dg ⟨jG,jH,bx,jI,jJ,bd,rfl,rfl,jK,jL⟩ jM;refine EL 5 rfl jM fun jN=>CS (S1:= [[],[(O,.cells #[sV U K.2.1 V,iV K.2.2.1,.int .u64 ((K.2.2.2:Nat):Int)] 92 (0,0))],[],[(ah,.cells #[nS,nS] 24 (0,0))],[(aZ,.cells #[nS,nS] 24 (0,0))],bx,bd]) (S':= [[],[(O,.cells #[sV U K.2.1 V,iV K.2.2.1,.int .u64 ((K.2.2.2:Nat):Int)] 92 (0,0))],[],[(ah,.cells #[nS,nS] 24 (0,0))],[(aZ,.cells #[nS,nS] 24 (0,0))],bx,bd]) rfl (List.Perm.refl _) jN fun jO=>JG.one (i:=3) rfl (by decide+kernel) (Take.Eo (vs:= [.agg #[sV au ai.1.1 av,sV aw ai.1.2 ay]]) jO (EN (an.Ag ((((aa.Ab Z).Ab W).Ab Y).Ab dg)) (ao.Ag ((((aa.Ab Z).Ab W).Ab Y).Ab dg)) a0) rfl rfl rfl EF rfl ?_);rintro _ jP _ dh ⟨jQ,jR,bz,jS,jT,be,rfl,rfl,jU,jV⟩ jW;exact EL 7 rfl jW fun jX=>CS (S1:= [[],[(O,.cells #[sV U K.2.1 V,iV K.2.2.1,.int .u64 ((K.2.2.2:Nat):Int)] 92 (0,0))],[],[(ah,.cells #[nS,nS] 24 (0,0))],[(aZ,.cells #[nS,nS] 24 (0,0))],bx,bd,bz,be]) (S':= [[],[(O,.cells #[sV U K.2.1 V,iV K.2.2.1,.int .u64 ((K.2.2.2:Nat):Int)] 92 (0,0))],[],[(ah,.cells #[nS,nS] 24 (0,0))],[(aZ,.cells #[nS,nS] 24 (0,0))],bx,bd,bz,be]) rfl (List.Perm.refl _) jX fun jY=>CS (S1:= [[],[(O,.cells #[sV U K.2.1 V,iV K.2.2.1,.int .u64 ((K.2.2.2:Nat):Int)] 92 (0,0))],[],[(ah,.cells #[nS,nS] 24 (0,0))],[(aZ,.cells #[nS,nS] 24 (0,0))],bx,bd,bz,be]) (S':= [[],[],[(O,.cells #[sV U K.2.1 V,iV K.2.2.1,.int .u64 ((K.2.2.2:Nat):Int)] 92 (0,0))],bx,bd,bz,be,[(ah,.cells #[nS,nS] 24 (0,0))],[(aZ,.cells #[nS,nS] 24 (0,0))]]) rfl (((List.perm_middle (α:=Seg) (l₁:= [[(O,.cells #[sV U K.2.1 V,iV K.2.2.1,.int .u64 ((K.2.2.2:Nat):Int)] 92 (0,0))]]) (a:= []) (l₂:= [[(ah,.cells #[nS,nS] 24 (0,0))],[(aZ,.cells #[nS,nS] 24 (0,0))],bx,bd,bz,be])).trans ((((List.perm_middle (α:=Seg) (l₁:= [[(ah,.cells #[nS,nS] 24 (0,0))],[(aZ,.cells #[nS,nS] 24 (0,0))]]) (a:=bx) (l₂:= [bd,bz,be])).trans (((List.perm_middle (α:=Seg) (l₁:= [[(ah,.cells #[nS,nS] 24 (0,0))],[(aZ,.cells #[nS,nS] 24 (0,0))]]) (a:=bd) (l₂:= [bz,be])).trans (((List.perm_middle (α:=Seg) (l₁:= [[(ah,.cells #[nS,nS] 24 (0,0))],[(aZ,.cells #[nS,nS] 24 (0,0))]]) (a:=bz) (l₂:= [be])).trans (((List.perm_middle (α:=Seg) (l₁:= [[(ah,.cells #[nS,nS] 24 (0,0))],[(aZ,.cells #[nS,nS] 24 (0,0))]]) (a:=be) (l₂:= [])).trans ((List.Perm.refl _).cons _)).cons _)).cons _)).cons _)).cons _).cons _)).cons _) jY fun jZ=>F7 (aY _ _ ⟨jP,jG,jH,bx,jI,jJ,bd,jQ,jR,bz,jS,jT,be,ah,aZ,rfl,rfl,(dg.Ab dh),jZ,(jK.Ag dh),(jL.Ag dh),jU,jV⟩) rfl
  ·refine Take.DZ cK rfl rfl rfl Dh fun ab ek=>Gu (i:=1) (j:=4) rfl (by decide+kernel) ?_ ?_
   ·refine Take.Eo (vs:= [.agg #[sV au ai.1.1 av,sV aw ai.1.2 ay]]) ek (EN (an.Ag (((aa.Ab Z).Ab W).Ab Y)) (ao.Ag (((aa.Ab Z).Ab W).Ab Y)) cq) rfl rfl rfl EF rfl ?_;rintro _ lP _ cp ⟨el,em,aG,en,eo,ar,rfl,rfl,ep,eq⟩ j0;refine EL 4 rfl j0 fun j1=>CS (S1:= [[],[(O,.cells #[sV U K.2.1 V,iV K.2.2.1,.int .u64 ((K.2.2.2:Nat):Int)] 92 (0,0))],[],[(ab,.cells #[nS,nS] 24 (0,0))],aG,ar]) (S':= [[],[(O,.cells #[sV U K.2.1 V,iV K.2.2.1,.int .u64 ((K.2.2.2:Nat):Int)] 92 (0,0))],[],[(ab,.cells #[nS,nS] 24 (0,0))],aG,ar]) rfl (List.Perm.refl _) j1 fun er=>Gu (i:=3) (j:=4) rfl (by decide+kernel) ?_ ?_
    ·refine Take.Eo (vs:= [.agg #[sV au ai.1.1 av,sV aw ai.1.2 ay]]) er (EN (an.Ag ((((aa.Ab Z).Ab W).Ab Y).Ab cp)) (ao.Ag ((((aa.Ab Z).Ab W).Ab Y).Ab cp)) a0) rfl rfl rfl EF rfl ?_;rintro _ j2 _ di ⟨j3,j4,bA,j5,j6,bf,rfl,rfl,j7,j8⟩ j9;refine EL 6 rfl j9 fun ka=>CS (S1:= [[],[(O,.cells #[sV U K.2.1 V,iV K.2.2.1,.int .u64 ((K.2.2.2:Nat):Int)] 92 (0,0))],[],[(ab,.cells #[nS,nS] 24 (0,0))],aG,ar,bA,bf]) (S':= [[],[(O,.cells #[sV U K.2.1 V,iV K.2.2.1,.int .u64 ((K.2.2.2:Nat):Int)] 92 (0,0))],[],[(ab,.cells #[nS,nS] 24 (0,0))],aG,ar,bA,bf]) rfl (List.Perm.refl _) ka fun kb=>JG.one (i:=4) rfl (by decide+kernel) (Take.DZ kb rfl rfl rfl Dh fun bB kc=>?_);exact CS (S1:= [[],[(O,.cells #[sV U K.2.1 V,iV K.2.2.1,.int .u64 ((K.2.2.2:Nat):Int)] 92 (0,0))],[],[(ab,.cells #[nS,nS] 24 (0,0))],aG,ar,bA,bf,[(bB,.cells #[nS,nS] 24 (0,0))]]) (S':= [[],[],[(O,.cells #[sV U K.2.1 V,iV K.2.2.1,.int .u64 ((K.2.2.2:Nat):Int)] 92 (0,0))],aG,ar,bA,bf,[(bB,.cells #[nS,nS] 24 (0,0))],[(ab,.cells #[nS,nS] 24 (0,0))]]) rfl (((List.perm_middle (α:=Seg) (l₁:= [[(O,.cells #[sV U K.2.1 V,iV K.2.2.1,.int .u64 ((K.2.2.2:Nat):Int)] 92 (0,0))]]) (a:= []) (l₂:= [[(ab,.cells #[nS,nS] 24 (0,0))],aG,ar,bA,bf,[(bB,.cells #[nS,nS] 24 (0,0))]])).trans ((((List.perm_middle (α:=Seg) (l₁:= [[(ab,.cells #[nS,nS] 24 (0,0))]]) (a:=aG) (l₂:= [ar,bA,bf,[(bB,.cells #[nS,nS] 24 (0,0))]])).trans (((List.perm_middle (α:=Seg) (l₁:= [[(ab,.cells #[nS,nS] 24 (0,0))]]) (a:=ar) (l₂:= [bA,bf,[(bB,.cells #[nS,nS] 24 (0,0))]])).trans (((List.perm_middle (α:=Seg) (l₁:= [[(ab,.cells #[nS,nS] 24 (0,0))]]) (a:=bA) (l₂:= [bf,[(bB,.cells #[nS,nS] 24 (0,0))]])).trans (((List.perm_middle (α:=Seg) (l₁:= [[(ab,.cells #[nS,nS] 24 (0,0))]]) (a:=bf) (l₂:= [[(bB,.cells #[nS,nS] 24 (0,0))]])).trans (((List.perm_middle (α:=Seg) (l₁:= [[(ab,.cells #[nS,nS] 24 (0,0))]]) (a:= [(bB,.cells #[nS,nS] 24 (0,0))]) (l₂:= [])).trans ((List.Perm.refl _).cons _)).cons _)).cons _)).cons _)).cons _)).cons _).cons _)).cons _) kc fun ke=>F7 (aY _ _ ⟨j2,el,em,aG,en,eo,ar,j3,j4,bA,j5,j6,bf,bB,ab,rfl,rfl,(cp.Ab di),ke,(ep.Ag di),(eq.Ag di),j7,j8⟩) rfl
    ·refine Take.DZ er rfl rfl rfl Dh fun a3 kf=>JG.one (i:=3) rfl (by decide+kernel) (Take.Eo (vs:= [.agg #[sV au ai.1.1 av,sV aw ai.1.2 ay]]) kf (EN (an.Ag ((((aa.Ab Z).Ab W).Ab Y).Ab cp)) (ao.Ag ((((aa.Ab Z).Ab W).Ab Y).Ab cp)) a0) rfl rfl rfl EF rfl ?_);rintro _ kg _ dj ⟨kh,ki,bC,kj,kl,bg,rfl,rfl,km,kn⟩ ko;exact EL 7 rfl ko fun kp=>CS (S1:= [[],[(O,.cells #[sV U K.2.1 V,iV K.2.2.1,.int .u64 ((K.2.2.2:Nat):Int)] 92 (0,0))],[],[(ab,.cells #[nS,nS] 24 (0,0))],aG,ar,[(a3,.cells #[nS,nS] 24 (0,0))],bC,bg]) (S':= [[],[(O,.cells #[sV U K.2.1 V,iV K.2.2.1,.int .u64 ((K.2.2.2:Nat):Int)] 92 (0,0))],[],[(ab,.cells #[nS,nS] 24 (0,0))],aG,ar,[(a3,.cells #[nS,nS] 24 (0,0))],bC,bg]) rfl (List.Perm.refl _) kp fun kq=>CS (S1:= [[],[(O,.cells #[sV U K.2.1 V,iV K.2.2.1,.int .u64 ((K.2.2.2:Nat):Int)] 92 (0,0))],[],[(ab,.cells #[nS,nS] 24 (0,0))],aG,ar,[(a3,.cells #[nS,nS] 24 (0,0))],bC,bg]) (S':= [[],[],[(O,.cells #[sV U K.2.1 V,iV K.2.2.1,.int .u64 ((K.2.2.2:Nat):Int)] 92 (0,0))],aG,ar,bC,bg,[(a3,.cells #[nS,nS] 24 (0,0))],[(ab,.cells #[nS,nS] 24 (0,0))]]) rfl (((List.perm_middle (α:=Seg) (l₁:= [[(O,.cells #[sV U K.2.1 V,iV K.2.2.1,.int .u64 ((K.2.2.2:Nat):Int)] 92 (0,0))]]) (a:= []) (l₂:= [[(ab,.cells #[nS,nS] 24 (0,0))],aG,ar,[(a3,.cells #[nS,nS] 24 (0,0))],bC,bg])).trans ((((List.perm_middle (α:=Seg) (l₁:= [[(ab,.cells #[nS,nS] 24 (0,0))]]) (a:=aG) (l₂:= [ar,[(a3,.cells #[nS,nS] 24 (0,0))],bC,bg])).trans (((List.perm_middle (α:=Seg) (l₁:= [[(ab,.cells #[nS,nS] 24 (0,0))]]) (a:=ar) (l₂:= [[(a3,.cells #[nS,nS] 24 (0,0))],bC,bg])).trans (((List.perm_middle (α:=Seg) (l₁:= [[(ab,.cells #[nS,nS] 24 (0,0))],[(a3,.cells #[nS,nS] 24 (0,0))]]) (a:=bC) (l₂:= [bg])).trans (((List.perm_middle (α:=Seg) (l₁:= [[(ab,.cells #[nS,nS] 24 (0,0))],[(a3,.cells #[nS,nS] 24 (0,0))]]) (a:=bg) (l₂:= [])).trans (((List.perm_middle (α:=Seg) (l₁:= [[(ab,.cells #[nS,nS] 24 (0,0))]]) (a:= [(a3,.cells #[nS,nS] 24 (0,0))]) (l₂:= [])).trans ((List.Perm.refl _).cons _)).cons _)).cons _)).cons _)).cons _)).cons _).cons _)).cons _) kq fun kr=>F7 (aY _ _ ⟨kg,el,em,aG,en,eo,ar,kh,ki,bC,kj,kl,bg,a3,ab,rfl,rfl,(cp.Ab dj),kr,(ep.Ag dj),(eq.Ag dj),km,kn⟩) rfl
   ·refine Take.DZ ek rfl rfl rfl Dh fun aO ks=>JG.one (i:=1) rfl (by decide+kernel) (Take.Eo (vs:= [.agg #[sV au ai.1.1 av,sV aw ai.1.2 ay]]) ks (EN (an.Ag (((aa.Ab Z).Ab W).Ab Y)) (ao.Ag (((aa.Ab Z).Ab W).Ab Y)) cq) rfl rfl rfl EF rfl ?_);rintro _ lQ _ dk ⟨kt,ku,bD,kv,kw,bh,rfl,rfl,kx,ky⟩ kz;refine EL 5 rfl kz fun kA=>CS (S1:= [[],[(O,.cells #[sV U K.2.1 V,iV K.2.2.1,.int .u64 ((K.2.2.2:Nat):Int)] 92 (0,0))],[],[(ab,.cells #[nS,nS] 24 (0,0))],[(aO,.cells #[nS,nS] 24 (0,0))],bD,bh]) (S':= [[],[(O,.cells #[sV U K.2.1 V,iV K.2.2.1,.int .u64 ((K.2.2.2:Nat):Int)] 92 (0,0))],[],[(ab,.cells #[nS,nS] 24 (0,0))],[(aO,.cells #[nS,nS] 24 (0,0))],bD,bh]) rfl (List.Perm.refl _) kA fun kB=>JG.one (i:=3) rfl (by decide+kernel) (Take.Eo (vs:= [.agg #[sV au ai.1.1 av,sV aw ai.1.2 ay]]) kB (EN (an.Ag ((((aa.Ab Z).Ab W).Ab Y).Ab dk)) (ao.Ag ((((aa.Ab Z).Ab W).Ab Y).Ab dk)) a0) rfl rfl rfl EF rfl ?_);rintro _ kC _ dl ⟨kD,kF,bE,kG,kI,bi,rfl,rfl,kJ,kK⟩ kL;exact EL 7 rfl kL fun kM=>CS (S1:= [[],[(O,.cells #[sV U K.2.1 V,iV K.2.2.1,.int .u64 ((K.2.2.2:Nat):Int)] 92 (0,0))],[],[(ab,.cells #[nS,nS] 24 (0,0))],[(aO,.cells #[nS,nS] 24 (0,0))],bD,bh,bE,bi]) (S':= [[],[(O,.cells #[sV U K.2.1 V,iV K.2.2.1,.int .u64 ((K.2.2.2:Nat):Int)] 92 (0,0))],[],[(ab,.cells #[nS,nS] 24 (0,0))],[(aO,.cells #[nS,nS] 24 (0,0))],bD,bh,bE,bi]) rfl (List.Perm.refl _) kM fun kN=>CS (S1:= [[],[(O,.cells #[sV U K.2.1 V,iV K.2.2.1,.int .u64 ((K.2.2.2:Nat):Int)] 92 (0,0))],[],[(ab,.cells #[nS,nS] 24 (0,0))],[(aO,.cells #[nS,nS] 24 (0,0))],bD,bh,bE,bi]) (S':= [[],[],[(O,.cells #[sV U K.2.1 V,iV K.2.2.1,.int .u64 ((K.2.2.2:Nat):Int)] 92 (0,0))],bD,bh,bE,bi,[(aO,.cells #[nS,nS] 24 (0,0))],[(ab,.cells #[nS,nS] 24 (0,0))]]) rfl (((List.perm_middle (α:=Seg) (l₁:= [[(O,.cells #[sV U K.2.1 V,iV K.2.2.1,.int .u64 ((K.2.2.2:Nat):Int)] 92 (0,0))]]) (a:= []) (l₂:= [[(ab,.cells #[nS,nS] 24 (0,0))],[(aO,.cells #[nS,nS] 24 (0,0))],bD,bh,bE,bi])).trans ((((List.perm_middle (α:=Seg) (l₁:= [[(ab,.cells #[nS,nS] 24 (0,0))],[(aO,.cells #[nS,nS] 24 (0,0))]]) (a:=bD) (l₂:= [bh,bE,bi])).trans (((List.perm_middle (α:=Seg) (l₁:= [[(ab,.cells #[nS,nS] 24 (0,0))],[(aO,.cells #[nS,nS] 24 (0,0))]]) (a:=bh) (l₂:= [bE,bi])).trans (((List.perm_middle (α:=Seg) (l₁:= [[(ab,.cells #[nS,nS] 24 (0,0))],[(aO,.cells #[nS,nS] 24 (0,0))]]) (a:=bE) (l₂:= [bi])).trans (((List.perm_middle (α:=Seg) (l₁:= [[(ab,.cells #[nS,nS] 24 (0,0))],[(aO,.cells #[nS,nS] 24 (0,0))]]) (a:=bi) (l₂:= [])).trans (((List.perm_middle (α:=Seg) (l₁:= [[(ab,.cells #[nS,nS] 24 (0,0))]]) (a:= [(aO,.cells #[nS,nS] 24 (0,0))]) (l₂:= [])).trans ((List.Perm.refl _).cons _)).cons _)).cons _)).cons _)).cons _)).cons _).cons _)).cons _) kN fun kO=>F7 (aY _ _ ⟨kC,kt,ku,bD,kv,kw,bh,kD,kF,bE,kG,kI,bi,aO,ab,rfl,rfl,(dk.Ab dl),kO,(kx.Ag dl),(ky.Ag dl),kJ,kK⟩) rfl
end Pal
namespace Pal
theorem PM{F:Nat}{J:JW}(K:100<F)(O:NL J):J1 F J=some J:=Vo K O
theorem Qn{F:Nat}{l:List Int}{x:Int}(ae:100<F)(ag:l.length<50)(U:l.Pairwise (·<·)):A7 (f42 F l x) (fun r=>r.Pairwise (·<·)∧∀z,z∈r↔z∈l∨z=x):=by
 unfold f42;refine AU (S:=fun out=>∃i,i≤l.length∧out=l.take i∧(∀z∈l.take i,z<x)∧∀z∈l.drop i,¬z<x) ?_ ?_
 ·refine KX (fun m s=>∃i,i≤l.length∧m=l.length - i∧s=(l.take i,(i:Int))∧∀z∈l.take i,z<x) ?_ (m:=l.length - 0) ⟨0,by omega,rfl,rfl,by simp⟩ (by omega);rintro m s ⟨i,hi,rfl,rfl,V⟩;unfold Ng;by_cases O:i<l.length
  ·refine Bl (b:=decide (l[i]<x)) ?_ ?_
   ·simp only;rw [if_pos (by omega),VV O];rfl
   refine B8 (fun h=>?_) (fun h=>?_)
   ·refine BM (m:=i) rfl O (H7 (by simp;omega) ?_);refine Bh ((i+1:Nat):Int) (by simp) (by omega) (by omega) ?_;have e:l.take (i+1)=l.take i++ [l[i]]:=by rw [List.take_add_one,List.getElem?_eq_getElem O];rfl
    refine Au ⟨l.length - (i+1),by omega,i+1,by omega,rfl,by rw [e],fun z K=>?_⟩;rw [e] at K;rcases List.mem_append.1 K with K | K
    ·exact V z K
    ·simp at K;rw [K];simpa using h
   ·refine Au ⟨i,hi,rfl,V,fun z K=>?_⟩;have aa:¬l[i]<x:=by simpa using h
    rw [List.drop_eq_getElem_cons O] at K;rcases List.mem_cons.1 K with rfl | K
    ·exact aa
    ·have Y:(l.drop i).Pairwise (·<·):=U.sublist (List.drop_sublist _ _);rw [List.drop_eq_getElem_cons O] at Y;have:=(List.pairwise_cons.1 Y).1 z K;omega
  ·refine Bl (b:=false) ?_ ?_
   ·simp only;rw [if_neg (by omega)]
   refine BB (by simp) (Au ⟨i,hi,rfl,V,fun z K=>?_⟩);rw [List.drop_eq_nil_of_le (by omega)] at K;cases K
 ·rintro out ⟨i,hi,rfl,Z,ab⟩;refine H7 (by simp;omega) (AU (S:=fun r=>r=l.take i++ [x]++l.filter (fun z=>decide (x<z))) ?_ ?_)
  ·refine DX l.length (fun j s=>s=(l.take i++ [x]++(l.take j).filter (fun z=>decide (x<z)),(j:Int))) (by simp) (by omega) ?_ ?_
   ·rintro j s W rfl;unfold Lt;refine Cy (by simp only;omega) (BM (m:=j) rfl W ?_);have e:l.take (j+1)=l.take j++ [l[j]]:=by rw [List.take_add_one,List.getElem?_eq_getElem W];rfl
    refine AU (S:=fun r=>r=l.take i++ [x]++(l.take (j+1)).filter (fun z=>decide (x<z))) ?_ ?_
    ·refine B8 (fun h=>?_) (fun h=>?_)
     ·refine BM (m:=j) rfl W (H7 ?_ ?_)
      ·have:=List.length_filter_le (fun z=>decide (x<z)) (l.take j);simp only [List.length_append,List.length_take,List.length_singleton] at this ⊢;omega
      refine Au ?_;rw [e,List.filter_append];simp [h]
     ·refine Au ?_;rw [e,List.filter_append];simp [h]
    ·rintro r rfl;exact Bh ((j+1:Nat):Int) (by simp) (by omega) (by omega) (Au rfl)
   ·rintro s rfl;unfold Lt;refine BB (by simp) (Au ⟨_,rfl,?_⟩);rw [List.take_length]
  ·rintro r rfl;refine Au ⟨?_,fun z=>?_⟩
   ·rw [List.pairwise_append,List.pairwise_append];refine⟨⟨U.sublist (List.take_sublist _ _),by simp,fun a h b K=>?_⟩,U.sublist List.filter_sublist,fun a h b K=>?_⟩
    ·simp at K;rw [K];exact Z a h
    ·have hb:x<b:=by simpa using (List.mem_filter.1 K).2
     rcases List.mem_append.1 h with h | h
     ·have:=Z a h;omega
     ·simp at h;omega
   ·rw [List.mem_append,List.mem_append,List.mem_singleton,List.mem_filter,decide_eq_true_iff];constructor
    ·rintro((h | h) | h)
     ·exact .inl (List.mem_of_mem_take h)
     ·exact .inr h
     ·exact .inl h.1
    ·rintro(h | h)
     ·rcases Int.lt_trichotomy z x with K | K | K
      ·rw [← List.take_append_drop i l] at h;rcases List.mem_append.1 h with h | h
       ·exact .inl (.inl h)
       ·exact absurd K (ab z h)
      ·exact .inl (.inr K)
      ·exact .inr ⟨h,K⟩
     ·exact .inl (.inr h)
def G7(J K:JW):Prop:=(∀m x,x∈J.1.getD m []→x∈K.1.getD m [])∧∀m x,x∈J.2.getD m []→x∈K.2.getD m []
theorem PY{n:Nat}{J K:JW}(U:VJ n J)(V:VJ n K)(h:G7 J K):∀a k,(AG J a).testBit k=true→(AG K a).testBit k=true
 | 0,k,O=>O
 | a+1,k,O=>by
  unfold AG at O ⊢
  obtain⟨m,W,Y,Z⟩:=(Lq U _ _).1 O
  exact(Lq V _ _).2 ⟨m,W,PY U V h a m Y,h.1 _ _ Z⟩
theorem UJ{n a:Nat}{J K:JW}{lk:Cv}{t:DF}(O:VJ n J)(U:VJ n K)(V:CQ n lk)(h:G7 J K)(ht:t∈TA J lk a):t∈TA K lk a:=by
 obtain⟨Y,Z,W,aa,ab⟩:=(Qz O V).1 ht;refine(Qz U V).2 ⟨Y,Z,⟨fun m hm=>?_,fun y m m' hm ae=>h.1 _ _ (W.2 y m m' hm ae)⟩,fun l ag m hm=>?_,ab⟩
 ·obtain⟨k,ah,ai⟩:=W.1 m hm;exact⟨k,ah,PY O U h a k ai⟩
 ·have:=OA.1 (aa l ag m hm);exact OA.2 (this.imp id (h.2 _ _))
theorem MB{n p q:Nat}{J K:JW}{lk:Cv}(O:VJ n J)(U:VJ n K)(V:CQ n lk)(h:G7 J K)(aa:p≤q):∀x∈Fg J lk p,x∈Fg K lk q:=fun x W=>by
 obtain⟨t,ht,ab,rfl⟩:=Ou.1 W
 obtain⟨a,Y,Z⟩:=LB.1 ht
 exact Ou.2 ⟨t,LB.2 ⟨a,Y,UJ O U V h Z⟩,by omega,rfl⟩
theorem G7.refl(J:JW):G7 J J:=⟨fun _ _ h=>h,fun _ _ h=>h⟩
theorem N3{l:List (List Int)}{q:Nat}{r:List Int}(h:∀x,x∈l.getD q []→x∈r)(m:Nat)(x:Int)(K:x∈l.getD m []):x∈(l.set q r).getD m []:=by
 rw [List.getD_eq_getElem?_getD] at K ⊢;rw [List.getElem?_set];by_cases e:q=m
 ·subst e;rw [if_pos rfl];by_cases O:q<l.length
  ·rw [if_pos O];exact h x (by rw [List.getD_eq_getElem?_getD];exact K)
  ·rw [List.getElem?_eq_none (by omega)] at K;simp at K
 ·rw [if_neg e];exact K
theorem V6{F:Nat}(ae:268435456<F)(hs:f22 F=some true)(Mc:List Int):f6 F Mc=some true:=by
 have W:100<F:=by omega
 refine D7 ?_;unfold f6;refine Bl (b:=(Mc,0,2685821657736338717)) rfl (AU (U3 (F:=F) (k:=0) (mx:=6) (b:=(Mc,0,2685821657736338717)) (by omega) ⟨Int.le_refl _,Int.le_refl _⟩ (by omega) (by omega) (by omega)) ?_);rintro⟨J,b⟩ ⟨⟨n,aM,K⟩,hb⟩;simp only at K hb ⊢;refine AU (VB (many:=4) W K hb (by omega) (by omega)) ?_;rintro⟨lk,aN⟩ ⟨Y,ab,_,al⟩;simp only at Y ab al ⊢;have am:=K.l1;have an:=K.l2;have ao:=K.le;have ap:=K.pos;refine Bh ((n - 1:Nat):Int) (by omega) (by omega) (by omega) (Bh ((n - 1:Nat):Int) (by omega) (by omega) (by omega) ?_);refine AU (Gr (m:=((n - 1:Nat):Int)) al (by omega) (by omega)) ?_;rintro⟨aq,aO⟩ ⟨aA,aB,ar⟩;simp only at aA aB ar ⊢;obtain⟨q,rfl⟩:∃q:Nat,aq=(q:Int):=⟨aq.toNat,by omega⟩;refine AU (Gr (m:=((n - 1:Nat):Int)) ar (by omega) (by omega)) ?_;rintro⟨x,aP⟩ ⟨aC,x2,_⟩;simp only at aC x2 ⊢;have aQ:q<n:=by omega
 have au:0≤x∧x<(n:Int):=by omega
 refine Bl (PM W K.nl) (Bl (PM W K.nl) ?_);have av:=List.getElem?_eq_getElem (l:=J.1) (i:=q) (by omega);obtain⟨ag,aR⟩:=K.nx q _ av;refine BM (m:=q) rfl (by omega) (AU (Qn (x:=x) W (by have:=ag.len;omega) ag.HY) ?_);rintro A ⟨aD,ah⟩;refine AU (S:=fun N=>VJ n (N,J.2)∧G7 J (N,J.2)) ?_ ?_
 ·refine B8 (fun h=>?_) (fun h=>Au ⟨K,G7.refl J⟩);refine BM (m:=q) rfl (by omega) (Au ?_);rw [show Int.toNat (q:Int)=q by omega];refine⟨⟨ap,ao,by simp only [List.length_set];exact am,an,fun i l U=>?_,K.fl⟩,⟨fun m z V=>N3 (fun y Z=>?_) m z V,fun m z V=>V⟩⟩
  ·simp only at U;rw [List.getElem?_set] at U;by_cases e:q=i
   ·rw [if_pos e,if_pos (by omega)] at U;cases U;refine⟨⟨by omega,fun z V=>?_,aD⟩,List.length_pos_of_mem ((ah x).2 (.inr rfl))⟩;rcases(ah z).1 V with O | O
    ·exact ag.inr z O
    ·rw [O];exact au
   ·rw [if_neg e] at U;exact K.nx i l U
  ·rw [List.getD_eq_getElem?_getD,av] at Z;exact(ah y).2 (.inl Z)
 rintro N ⟨aw,aE⟩;have ay:=List.getElem?_eq_getElem (l:=J.2) (i:=q) (by omega);obtain⟨ai,aF⟩:=K.fl q _ ay;refine BM (m:=q) rfl (by omega) (AU (Qn (x:=x) W (by have:=ai.len;omega) ai.HY) ?_);rintro B ⟨B1,aj⟩;refine AU (S:=fun c=>c=true→x≠(q:Int)∧B.length≤3) ?_ ?_
 ·refine B8 (fun h=>Au fun O=>⟨h,?_⟩) (fun h=>Au fun O=>by cases O);simp at O;omega
 intro c aG;refine AU (S:=fun M=>VJ n (J.1,M)∧G7 J (J.1,M)) ?_ ?_
 ·refine B8 (fun h=>?_) (fun h=>Au ⟨K,G7.refl J⟩);obtain⟨aH,c2⟩:=aG h;refine BM (m:=q) rfl (by omega) (Au ?_);rw [show Int.toNat (q:Int)=q by omega];refine⟨⟨ap,ao,am,by simp only [List.length_set];exact an,K.nx,fun i l U=>?_⟩,⟨fun m z V=>V,fun m z V=>N3 (fun y Z=>?_) m z V⟩⟩
  ·simp only at U;rw [List.getElem?_set] at U;by_cases e:q=i
   ·rw [if_pos e,if_pos (by omega)] at U;cases U;subst e;refine⟨⟨c2,fun z V=>?_,B1⟩,fun V=>?_⟩
    ·rcases(aj z).1 V with O | O
     ·exact ai.inr z O
     ·rw [O];exact au
    ·rcases(aj _).1 V with O | O
     ·exact aF O
     ·exact aH O.symm
   ·rw [if_neg e] at U;exact K.fl i l U
  ·rw [List.getD_eq_getElem?_getD,ay] at Z;exact(aj y).2 (.inl Z)
 rintro M ⟨az,aI⟩;refine AU (S:=fun q=>q=Sum.inr ()) ?_ (by rintro q rfl;rw [Sum.elim_inr];exact Bl hs (Au rfl));refine DX 5 (fun i s=>∃aa,s=(aa,(i:Int))∧aa.length<100∧∀z∈aa,z∈Fg J lk i) ⟨[],rfl,by simp,by simp⟩ (by omega) ?_ ?_
 ·rintro i s hi ⟨aa,rfl,aJ,aK⟩;unfold LM;refine Cy (by simp only;omega) (Bl (M6 (J:=J) (lk:=lk) ae K Y ab (by omega)) ?_);refine Bl (M6 (J:=(N,J.2)) (lk:=lk) ae aw Y ab (by omega)) (Bl (M6 (J:=(J.1,M)) (lk:=lk) ae az Y ab (by omega)) ?_);have aL:∀l:List Int,(if l= [] then(([],11):List Int×Int) else(l,0)).1=l:=fun l=>by split <;> simp_all
  have ak:∀l:List Int,(if l= [] then(([],11):List Int×Int) else(l,0)).2=0∨(if l= [] then(([],11):List Int×Int) else(l,0)).2=11:=fun l=>by split <;> simp
  have aS:=ak (Fg J lk i);have g2:=ak (Fg (N,J.2) lk i);have aT:=ak (Fg (J.1,M) lk i);have aU:=MH J lk i;have aV:=MH (N,J.2) lk i;have aW:=MH (J.1,M) lk i;refine AU (S:=fun c=>c=false) (B8 (fun h=>Au (decide_eq_false (by omega))) (fun _=>Au rfl)) ?_;rintro c rfl;refine AU (S:=fun c=>c=false) (BB (by simp) (B8 (fun h=>Au (decide_eq_false (by omega))) (fun _=>Au rfl))) ?_;rintro c rfl;refine AU (S:=fun c=>c=false) (BB (by simp) (B8 (fun h=>Au (decide_eq_false (by omega))) (fun _=>Au rfl))) ?_;rintro c rfl;refine BB (by simp) ?_;simp only [aL];refine Bl (Nh W aJ (by omega) aK) ?_;refine Bl (b:=false) ?_ ?_
  ·rw [if_neg (by simp),Nh W (by omega) (by omega) (MB K aw Y aE (Nat.le_refl i))];rfl
  refine Bl (b:=false) ?_ ?_
  ·rw [if_neg (by simp),Nh W (by omega) (by omega) (MB K az Y aI (Nat.le_refl i))];rfl
  refine BB (by simp) (Bh ((i+1:Nat):Int) (by simp) (by omega) (by omega) ?_);exact Au ⟨_,rfl,by omega,MB K K Y (G7.refl J) (Nat.le_succ i)⟩
 ·rintro s ⟨aa,rfl,_,_⟩;unfold LM;exact BB (by simp only;omega) (Au ⟨_,rfl,rfl⟩)
end Pal
