/- DebtNets: a part (6 of 9) of the proof of its row. -/
import Derived.Test.YtmeophcclkejkaaGreatNee
set_option linter.all false
set_option maxRecDepth 100000
namespace Pal
def tw(a b:Int)(d:DT):Int:=(if d.1=a/\d.2.1=b then d.2.2 else 0) - (if d.1=b/\d.2.1=a then d.2.2 else 0)
def C7(l:List DT)(a b:Int):Int:=(l.map (tw a b)).sum
theorem Vn(l:List DT)(d:DT)(a b:Int):C7 (l++ [d]) a b=C7 l a b+tw a b d:=by unfold C7;rw [List.map_append,List.sum_append];simp
theorem Q3(l:List DT)(d:DT)(a b:Int):C7 (d::l) a b=tw a b d+C7 l a b:=by unfold C7;rw [List.map_cons,List.sum_cons]
theorem QP{l:List DT}{i:Nat}(hi:i<l.length)(a b:Int):C7 (l.take (i+1)) a b=C7 (l.take i) a b+tw a b l[i]:=by
 rw [List.take_add_one,List.getElem?_eq_getElem hi,Option.toList_some,Vn]
theorem MT{a b:Int}:∀{l:List DT},(∀d∈l,1<=d.2.2/\d.2.2<=9)-> -(9*(l.length:Int))<=C7 l a b/\C7 l a b<=9*(l.length:Int)
 | [],_=>by simp [C7]
 | d::l,h=>by
  have O:=h d List.mem_cons_self
  have U:=MT (a:=a) (b:=b) (l:=l) λx K=>h x (List.mem_cons_of_mem _ K)
  rw [Q3,List.length_cons]
  have Y: -9<=tw a b d/\tw a b d<=9:=by unfold tw;split <;> split <;> omega
  omega
theorem OM{a b:Int}:∀{l:List DT},(∀d∈l,1<=d.2.2)->0<C7 l a b->∃d∈l,d.1=a/\d.2.1=b
 | [],_,h=>by simp [C7] at h
 | d::l,O,h=>by
  by_cases hd:d.1=a/\d.2.1=b
  ·exact⟨d,List.mem_cons_self,hd⟩
  ·rw [Q3] at h;have Y:=O d List.mem_cons_self;have:tw a b d<=0:=by unfold tw;rw [if_neg hd];split <;> omega
   obtain⟨x,K,U⟩:=OM (a:=a) (b:=b) (l:=l) (λx K=>O x (List.mem_cons_of_mem _ K)) (by omega);exact⟨x,List.mem_cons_of_mem _ K,U⟩
def JC(l:List DT)(a b:Nat):Option DT:=if 0<C7 l a b/\a≠b then some ((a:Int),(b:Int),C7 l a b) else none
def GO(l:List DT)(a k:Nat):List DT:=(List.range k).filterMap (JC l a)
def IJ(l:List DT)(n k:Nat):List DT:=(List.range k).flatMap λa=>GO l a n
def Gs(o:OW):List DT:=IJ o.2 o.1.length o.1.length
theorem VU(l:List DT)(a k:Nat):GO l a (k+1)=GO l a k++(if 0<C7 l a k/\a≠k then [((a:Int),(k:Int),C7 l a k)] else []):=by
 unfold GO;rw [List.range_succ,List.filterMap_append];congr 1;by_cases h:0<C7 l a k/\a≠k
 ·rw [if_pos h];simp only [List.filterMap_cons,List.filterMap_nil,JC,if_pos h]
 ·rw [if_neg h];simp only [List.filterMap_cons,List.filterMap_nil,JC,if_neg h]
theorem SC(l:List DT)(a k:Nat):(GO l a k).length<=k:=by
 unfold GO;have:=List.length_filterMap_le (JC l a) (List.range k)
 rwa [List.length_range] at this
theorem X1(l:List DT)(n k:Nat):(IJ l n k).length<=k*n:=by
 unfold IJ;have:=SB (f:=λa=>GO l a n) (m:=n) (l:=List.range k) λx _=>SC l x n
 rwa [List.length_range] at this
theorem OV{o:OW}{d:DT}:d∈Gs o↔(0<=d.1/\d.1<o.1.length)/\(0<=d.2.1/\d.2.1<o.1.length)/\d.1≠d.2.1/\0<d.2.2/\d.2.2=C7 o.2 d.1 d.2.1:=by
 unfold Gs IJ;rw [List.mem_flatMap];constructor
 ·rintro⟨a,K,hd⟩;obtain⟨b,hb,hd⟩:=List.mem_filterMap.1 hd;have K:=List.mem_range.1 K;have hb:=List.mem_range.1 hb;unfold JC at hd;split at hd
  ·rename_i h;cases hd;exact⟨⟨by simp only;omega,by simp only;omega⟩,⟨by simp only;omega,by simp only;omega⟩,by simp only;omega,h.1,rfl⟩
  ·cases hd
 ·rintro⟨⟨a1,U⟩,⟨Y,Z⟩,ac,ag,O⟩;obtain⟨x,y,v⟩:=d;simp only at a1 U Y Z ac ag O;obtain⟨a,rfl⟩:∃a:Nat,x=(a:Int):=⟨x.toNat,by omega⟩;obtain⟨b,rfl⟩:∃b:Nat,y=(b:Int):=⟨y.toNat,by omega⟩;refine⟨a,List.mem_range.2 (by omega),List.mem_filterMap.2 ⟨b,List.mem_range.2 (by omega),?_⟩⟩;unfold JC;rw [if_pos ⟨by omega,by omega⟩,← O]
theorem QF(o:OW):(Gs o).Pairwise λx y=>x.1<y.1∨(x.1=y.1/\x.2.1<y.2.1):=by
 unfold Gs IJ;rw [List.pairwise_flatMap];have K:∀{a:Nat} {k:Nat} {d:DT},d∈GO o.2 a k->d.1=(a:Int):=by
  intro a k d hd;obtain⟨b,_,hd⟩:=List.mem_filterMap.1 hd;unfold JC at hd;split at hd
  ·cases hd;rfl
  ·cases hd
 refine⟨λa _=>?_,?_⟩
 ·unfold GO;rw [List.pairwise_filterMap];refine List.pairwise_lt_range.imp λ{b c} Y d hd e he=>?_;unfold JC at hd he;split at hd
  ·cases hd;split at he
   ·cases he;exact .inr ⟨rfl,by simp only;omega⟩
   ·cases he
  ·cases hd
 ·refine List.pairwise_lt_range.imp λ{a b} Z x O y U=> .inl ?_;rw [K O,K U];omega
theorem Q8(o:OW):((Gs o).map λd=>(d.1,d.2.1)).Nodup:=by
 unfold List.Nodup;rw [List.pairwise_map];exact(QF o).imp λ{x y} h e=>by
  have:=Prod.mk.inj e;omega
theorem RQ{o:OW}(h:VO o):(Gs o).length<=8:=by
 have K:=List.Nodup.length_le_of_subset (Q8 o) (l₂:=o.2.map λd=>(d.1,d.2.1)) λx O=>by
  obtain⟨d,hd,rfl⟩:=List.mem_map.1 O;obtain⟨_,_,_,U,Y⟩:=OV.1 hd;obtain⟨e,he,Z,e2⟩:=OM (l:=o.2) (λd hd=>by obtain⟨_,_,_,_,_,v,_⟩:=h.ds d hd;exact v) (Y▸U);exact List.mem_map.2 ⟨e,he,by rw [Z,e2]⟩
 rw [List.length_map,List.length_map] at K;have:=h.d8;omega
theorem Yz{F:Nat}{o:OW}(al:100<F)(h:VO o):f46 F o=some (Gs o,0):=by
 have U:=h.n5;have am:=h.d8;refine Gl ?_;unfold f46;refine BT ((Ny F o).symm.trans (TN (by omega) h)) ?_;refine CY (by simp) ?_;refine BH (S:=λr=>r=Gs o) ?_ (by rintro r rfl;exact AS rfl);refine Fb o.1.length (λa s=>s.2=(a:Int)/\s.1=IJ o.2 o.1.length a) ⟨rfl,rfl⟩ (by omega) ?_ ?_
 ·rintro a ⟨A,z⟩ ap ⟨K,O⟩;simp only at K O;subst K;subst O;have Y:=X1 o.2 o.1.length a;have aq:a*o.1.length<=5*5:=Nat.mul_le_mul (by omega) U;have Z:IJ o.2 o.1.length (a+1)=IJ o.2 o.1.length a++GO o.2 a o.1.length:=by
   unfold IJ;rw [List.range_succ,List.flatMap_append];simp
  rw [Z];generalize IJ o.2 o.1.length a=A at Y ⊢;unfold Nt
  dsimp only;refine Eh (by omega) (BH (S:=λr=>r=A++GO o.2 a o.1.length) ?_ ?_)
  ·refine Fb o.1.length (λb s=>s.2=(b:Int)/\s.1=A++GO o.2 a b) ⟨rfl,by simp [GO]⟩ (by omega) ?_ ?_
   ·rintro b ⟨B,z⟩ hb ⟨K,O⟩;simp only at K O;subst K;subst O;have aw:=SC o.2 a b;unfold Ns
    dsimp only;refine Eh (by omega) (BH (S:=λr=>r=C7 o.2 a b) ?_ ?_)
    ·refine Fb o.2.length (λi s=>s.2=(i:Int)/\s.1=C7 (o.2.take i) a b) ⟨rfl,rfl⟩ (by omega) ?_ ?_
     ·rintro i ⟨m,z⟩ hi ⟨K,O⟩;simp only at K O;subst K;subst O;obtain⟨_,_,_,_,_,v6,ay⟩:=h.ds _ (List.getElem_mem hi);have hb:=MT (a:=(a:Int)) (b:=(b:Int)) (l:=o.2.take i) λd hd=>by
       obtain⟨_,_,_,_,_,ac,ag⟩:=h.ds _ (List.mem_of_mem_take hd);exact⟨ac,ag⟩
      rw [List.length_take] at hb;unfold Nk
      dsimp only;refine Eh (by omega) (DY (m:=i) rfl hi ?_);refine BH (S:=λq=>q=decide (o.2[i].1=(a:Int)/\o.2[i].2.1=(b:Int))) ?_ ?_
      ·refine DZ (λk=>AS (decide_eq_decide.2 ⟨λq=>⟨k,q⟩,λq=>q.2⟩)) (λk=>AS (decide_eq_false λq=>k q.1).symm)
      rintro q rfl;refine BH (S:=λr=>r=C7 (o.2.take i) a b+(if o.2[i].1=(a:Int)/\o.2[i].2.1=(b:Int) then o.2[i].2.2 else 0)) ?_ ?_
      ·refine DZ (λk=>?_) (λk=>AS ?_)
       ·refine B7 _ rfl (by omega) (by omega) (AS ?_);rw [if_pos (of_decide_eq_true k)]
       ·rw [if_neg (λq=>k (decide_eq_true q)),Int.add_zero]
      rintro r rfl;refine BH (S:=λq=>q=decide (o.2[i].1=(b:Int)/\o.2[i].2.1=(a:Int))) ?_ ?_
      ·refine DZ (λk=>AS (decide_eq_decide.2 ⟨λq=>⟨k,q⟩,λq=>q.2⟩)) (λk=>AS (decide_eq_false λq=>k q.1).symm)
      rintro q rfl;refine BH (S:=λr=>r=C7 (o.2.take (i+1)) a b) ?_ ?_
      ·rw [QP hi];unfold tw;refine DZ (λk=>?_) (λk=>AS ?_)
       ·refine B7 _ rfl (by split <;> omega) (by split <;> omega) (AS ?_);rw [if_pos (of_decide_eq_true k)];omega
       ·rw [if_neg (c:=o.2[i].1=(b:Int)/\o.2[i].2.1=(a:Int)) (λq=>k (decide_eq_true q))];omega
      rintro r rfl;exact B7 ((i+1:Nat):Int) (by simp) (by omega) (by omega) (AS ⟨rfl,rfl⟩)
     ·rintro⟨m,z⟩ ⟨K,O⟩;simp only at K O;subst K;subst O;unfold Nk
      dsimp only;exact CY (by omega) (AS ⟨_,rfl,by rw [List.take_length]⟩)
    ·rintro r rfl;refine BH (S:=λq=>q=decide (0<C7 o.2 a b/\a≠b)) ?_ ?_
     ·refine DZ (λk=>AS (decide_eq_decide.2 ⟨λq=>⟨k,by omega⟩,λq=>by have:=q.2;omega⟩)) (λk=>AS (decide_eq_false λq=>k q.1).symm)
     rintro q rfl;refine BH (S:=λr=>r=A++GO o.2 a (b+1)) ?_ ?_
     ·rw [VU];refine DZ (λk=>?_) (λk=>AS ?_)
      ·rw [if_pos (of_decide_eq_true k),← List.append_assoc];exact MC (by simp;omega) (AS rfl)
      ·rw [if_neg (λq=>k (decide_eq_true q)),List.append_nil]
     rintro r rfl;exact B7 ((b+1:Nat):Int) (by simp) (by omega) (by omega) (AS ⟨rfl,rfl⟩)
   ·rintro⟨B,z⟩ ⟨K,O⟩;simp only at K O;subst K;subst O;unfold Ns
    dsimp only;exact CY (by omega) (AS ⟨_,rfl,rfl⟩)
  ·rintro r rfl;exact B7 ((a+1:Nat):Int) (by simp) (by omega) (by omega) (AS ⟨rfl,rfl⟩)
 ·rintro⟨A,z⟩ ⟨K,O⟩;simp only at K O;subst K;subst O;unfold Nt
  dsimp only;exact CY (by omega) (AS ⟨_,rfl,rfl⟩)
theorem Rb(x:DT):∀l:List DT,(F2 x l).Perm (x::l)
 | []=> .refl _
 | y::ys=>by
  unfold F2
  split
  ·exact .refl _
  ·exact((Rb x ys).cons y).trans (.swap x y ys)
theorem UT(l:List DT):(Ez l).Perm l:=M7 (P:=λl=>(Ez l).Perm l) (.refl _) (λl x h=>by
 rw [Ls]
 exact(Rb x _).trans ((h.cons x).trans (List.perm_append_comm (l₁:= [x])))) l
theorem Wo{a b:DT}(K:GV b a=false)(O:GV a b=false):a=b:=by
 rw [Jt] at K O;obtain⟨a1,U,Y⟩:=a;obtain⟨Z,ac,ag⟩:=b;simp only at K O;have al:a1=Z:=by omega
 have e2:U=ac:=by omega
 have am:Y=ag:=by omega
 rw [al,e2,am]
theorem X4(o:OW):Lh (Gs o):=(QF o).imp λ{x y} h=>by rw [Jt];omega
theorem XS{l:List DT}{o:OW}(h:l.Perm (Gs o)):Ez l=Gs o:=
 List.Perm.eq_of_pairwise (λa b _ _ K O=>Wo K O) (RP l) (X4 o) ((UT l).trans h)
theorem Q7{α β:Type}(f:α->β){l:List α}(h:(l.map f).Nodup):l.Nodup:=Oj f h
theorem XR{F:Nat}{o:OW}{e:Int}(aq:100<F)(h:VO o):BQ (Pal.iter (LG F (o,e)) F (([]:List ((Int×Int)×Int)),0)) (λm=>KN m/\m.length<=16/\∀a b,(Bh m (a,b)).getD 0=C7 o.2 a b):=by
 have aw:=h.d8;refine(Fb o.2.length (λi s=>s.2=(i:Int)/\KN s.1/\s.1.length<=2*i/\∀a b,(Bh s.1 (a,b)).getD 0=C7 (o.2.take i) a b) (Q:=λm=>KN m/\m.length<=16/\∀a b,(Bh m (a,b)).getD 0=C7 o.2 a b) ⟨rfl,List.nodup_nil,Nat.zero_le _,λa b=>by simp [Bh,C7]⟩ (by omega) ?_ ?_)
 ·rintro i ⟨m,z⟩ hi ⟨K,O,U,hm⟩;simp only at K O U hm;subst K;obtain⟨_,_,_,_,Z,v6,ay⟩:=h.ds _ (List.getElem_mem hi);have hb:=λa b=>MT (a:=a) (b:=b) (l:=o.2.take i) λd hd=>by
   obtain⟨_,_,_,_,_,ag,al⟩:=h.ds _ (List.mem_of_mem_take hd);exact⟨ag,al⟩
  simp only [List.length_take] at hb;have az:=hb o.2[i].1 o.2[i].2.1;have a0:=hb o.2[i].2.1 o.2[i].1;have am:(o.2[i].2.1,o.2[i].1)≠(o.2[i].1,o.2[i].2.1):=λe=>Z (Prod.mk.inj e).2;unfold LG
  dsimp only;refine Eh (by omega) (DY (m:=i) rfl hi ?_);refine B7 (C7 (o.2.take i) o.2[i].1 o.2[i].2.1+o.2[i].2.2) (by rw [hm]) (by omega) (by omega) (B7 (C7 (o.2.take i) o.2[i].2.1 o.2[i].1 - o.2[i].2.2) (by rw [KB,if_neg am,hm]) (by omega) (by omega) ?_);refine B7 ((i+1:Nat):Int) (by simp) (by omega) (by omega) ?_;have ac:∀(k:Int×Int) (v:Int) (q:List ((Int×Int)×Int)),(Bo q k v).length<=q.length+1:=by
   intro k v q
   induction q with
   | nil=>simp [Bo]
   | cons y ys a1=>unfold Bo;split <;> simp <;> omega
  refine AS ⟨rfl,(O.put _ _).put _ _,?_,λa b=>?_⟩
  ·simp only;have a2:=ac (o.2[i].1,o.2[i].2.1) (C7 (o.2.take i) o.2[i].1 o.2[i].2.1+o.2[i].2.2) m;have g2:=ac (o.2[i].2.1,o.2[i].1) (C7 (o.2.take i) o.2[i].2.1 o.2[i].1 - o.2[i].2.2) (Bo m (o.2[i].1,o.2[i].2.1) (C7 (o.2.take i) o.2[i].1 o.2[i].2.1+o.2[i].2.2));omega
  ·simp only;rw [KB,KB,QP hi];unfold tw;by_cases Y:(a,b)=(o.2[i].2.1,o.2[i].1)
   ·obtain⟨rfl,rfl⟩:=Prod.mk.inj Y;rw [if_pos rfl,if_neg (λq=>Z q.1),if_pos ⟨rfl,rfl⟩,Option.getD_some];omega
   ·rw [if_neg Y];have ap:¬(o.2[i].1=b/\o.2[i].2.1=a):=λq=>Y (by rw [q.1,q.2]);rw [if_neg ap];by_cases e2:(a,b)=(o.2[i].1,o.2[i].2.1)
    ·obtain⟨rfl,rfl⟩:=Prod.mk.inj e2;rw [if_pos rfl,if_pos ⟨rfl,rfl⟩,Option.getD_some];omega
    ·rw [if_neg e2,if_neg (λq=>e2 (by rw [q.1,q.2])),hm];omega
 ·rintro⟨m,z⟩ ⟨K,O,U,hm⟩;simp only at K O U hm;subst K;unfold LG
  dsimp only;exact CY (by omega) (AS ⟨_,rfl,O,by omega,λa b=>by rw [hm,List.take_length]⟩)
theorem VW{o:OW}(h:VO o){m l:List ((Int×Int)×Int)}(Z:KN m)(hm:∀a b,(Bh m (a,b)).getD 0=C7 o.2 a b)(O:l.Perm m):(EU l).Perm (Gs o):=by
 have al:KN l:=Z.perm O;have am:∀d:DT,d∈EU l↔d∈Gs o:=by
  intro d;have ap:d∈EU l↔((d.1,d.2.1),d.2.2)∈m/\0<d.2.2:=by
   unfold EU;rw [List.mem_map];constructor
   ·rintro⟨e,he,rfl⟩;obtain⟨he,U⟩:=List.mem_filter.1 he;exact⟨O.mem_iff.1 he,by simpa using U⟩
   ·rintro⟨he,U⟩;exact⟨((d.1,d.2.1),d.2.2),List.mem_filter.2 ⟨O.mem_iff.2 he,by simpa using U⟩,rfl⟩
  rw [ap,OV,← OP Z];have K:=hm d.1 d.2.1;constructor
  ·rintro⟨aq,g2⟩;rw [aq,Option.getD_some] at K;obtain⟨e,he,aw,e2⟩:=OM (l:=o.2) (λd hd=>by obtain⟨_,_,_,_,_,v,_⟩:=h.ds d hd;exact v) (K▸g2);obtain⟨v1,v2,ac,v4,Y,-⟩:=h.ds e he;rw [aw] at v1 v2 Y;rw [e2] at ac v4 Y;exact⟨⟨v1,v2⟩,⟨ac,v4⟩,Y,g2,K⟩
  ·rintro⟨_,_,_,ay,az⟩;refine⟨?_,ay⟩;cases ag:Bh m (d.1,d.2.1) with
   | none=>rw [ag] at K;simp at K;omega
   | some v=>rw [ag,Option.getD_some] at K;rw [K,az]
 refine(List.perm_ext_iff_of_nodup ?_ ?_).2 am
 ·refine Q7 (λd:DT=>(d.1,d.2.1)) ?_;have e:(EU l).map (λd:DT=>(d.1,d.2.1))=(l.filter λe=>decide (0<e.2)).map (·.1):=by
   unfold EU;rw [List.map_map];rfl
  rw [e];exact List.Nodup.sublist (List.filter_sublist.map _) al
 ·exact Q7 _ (Q8 o)
theorem Y7{F:Nat}{o:OW}(O:100<F)(h:VO o):f45 F o=some (Gs o,0):=by
 have hlen:=RQ h;refine Gl ?_;unfold f45;refine BT (TX (by omega) h) ?_;refine CY (by simp) ?_;refine BH (XR O h) ?_;rintro m ⟨U,ac,hm⟩;rw [VB (by omega) (r:=some (Gs o,0)) λl p=>?_]
 ·exact AS rfl
 ·have K:=VW h U hm p;rw [Zy O (by rw [K.length_eq];omega) λd hd=>?_,XS K]
  ·rfl
  ·have hd:=K.mem_iff.1 hd;obtain⟨⟨a1,ag⟩,⟨al,am⟩,_,ap,aq⟩:=OV.1 hd;have hb:=MT (a:=d.1) (b:=d.2.1) (l:=o.2) λd hd=>by
    obtain⟨_,_,_,_,_,Y,Z⟩:=h.ds _ hd;exact⟨Y,Z⟩
   have:=h.n5;have:=h.d8;unfold BD;omega
end Pal
namespace Pal
open Go Go.Conc Go.Proofs
open Go.Proofs.Tryz
end Pal
namespace Pal
theorem VO.aR{o:OW}(h:VO o):NV 10 o:=⟨by have:=h.n5;omega,λx K=>by have:=(h.cs x K).1;omega,by have:=h.d8;omega⟩
theorem ZG{F k:Nat}{b:Il}(K:100<F)(hb:BG k b)(O:k<1000):BQ (f31 F b 5 6) (λr=>NV 10 r.1/\BG (k+100) r.2):=(Yt (pm:=5) (dm:=6) K hb O (by omega) (by omega) (by omega)).Ag λ_ h=>⟨h.1.aR,h.2.2.2⟩
theorem YE{F k:Nat}{b:Il}{o:OW}{d:DT}(Y:100<F)(O:NV 20 o)(hb:BG k b)(ac:k<500):BQ (f19 F o d b) (λr=>(∃a c,r.1= [o,a,c]/\NV 30 a/\NV 30 c)/\BG (k+101) r.2):=by
 unfold f19;refine BH (ZG Y hb (by omega)) ?_;rintro⟨a,ag⟩ ⟨K,Z⟩;simp only at K Z ⊢;refine BH (YL K (by omega)) ?_;rintro _ rfl;refine BH (SY Z (by omega) (by omega) (by omega)) ?_;rintro⟨y,al⟩ g2;simp only at g2 ⊢;have am:=K.l2;refine BH (S:=λr=>r.length<=20/\∀x∈r,x.length<=20) ?_ ?_
 ·refine DZ (λ_=>?_) (λ_=>?_)
  ·exact BT (Tl Y (O.up (m:=40) (by omega)).l1 (O.up (m:=40) (by omega)).n1) (AS ⟨O.l1,O.n1⟩)
  ·exact AS ⟨Nat.le_trans K.l1 (by omega),λx U=>Nat.le_trans (K.n1 x U) (by omega)⟩
 ·rintro r ⟨r1,r2⟩;exact AS ⟨⟨a,_,rfl,K.up (by omega),⟨Nat.le_trans r1 (by omega),λx U=>Nat.le_trans (r2 x U) (by omega),by simp;omega⟩⟩,g2⟩
end Pal
namespace Pal
theorem PE{F:Nat}{o:OW}(O:100<F)(h:NV 40 o):∃e,f48 F o=some e/\(e=0->VO o)/\(e≠0->f70 F o []=some (([],[]),e)):=by
 obtain⟨e,K,U⟩:=S2 O h;refine⟨e,K,U.1,λY=>?_⟩;refine Gl ?_;unfold f70;exact BT ((Ny F o).trans K) (Eh Y (AS rfl))
end Pal
namespace Pal
theorem Zl{F:Nat}{o:OW}(U:2000<F)(h:NV 40 o):∃r,f43 F o=some r/\f44 F o=some r/\r.1.length<=40:=by
 obtain⟨e,O,Y,Z⟩:=PE (F:=F) (by omega) h;by_cases he:e=0
 ·have K:=Y he;refine⟨_,Yd U K,?_,by have:=K.n5;simp only;rw [List.length_take];omega⟩;unfold f44;rw [O,Option.bind_some,if_neg (by simp [he]),Yq (by omega) K];rfl
 ·refine⟨([],e),?_,?_,by simp⟩
  ·unfold f43;rw [Z he,Option.bind_some,if_pos he]
  ·unfold f44;rw [O,Option.bind_some,if_pos he]
theorem X0{F:Nat}{o:OW}(Z:2000<F)(h:NV 40 o):∃r,f45 F o=some r/\f46 F o=some r/\r.1.length<=40:=by
 obtain⟨e,O,U,Y⟩:=PE (F:=F) (by omega) h;by_cases he:e=0
 ·have K:=U he;exact⟨_,Y7 (by omega) K,Yz (by omega) K,by have:=RQ K;simp only;omega⟩
 ·refine⟨([],e),?_,?_,by simp⟩
  ·unfold f45;rw [Y he,Option.bind_some,if_pos he]
  ·unfold f46;rw [O,Option.bind_some,if_pos he]
theorem ZY{F:Nat}(Z:2000<F)(ac:f18 F=some true)(o:OW)(d:DT)(NU:List Int):f9 F o d NU=some true:=by
 refine Gl ?_;unfold f9;refine BH (Zb (by omega)) ?_;intro c U;refine DZ (λ_=>BT ac (AS rfl)) (λh=>?_);have ag:=U (by simpa using h);refine BT (b:=(NU,0,2685821657736338717)) rfl (BH (YE (k:=0) (b:=(NU,0,2685821657736338717)) (by omega) ag ⟨Int.le_refl _,Int.le_refl _⟩ (by omega)) ?_);rintro⟨os,b⟩ ⟨⟨a,c,e,al,U⟩,hb⟩;simp only at e hb;have am:∀x∈os,NV 40 x:=by
  intro x Y;rw [e] at Y;simp only [List.mem_cons,List.not_mem_nil,or_false] at Y;rcases Y with rfl | rfl | rfl
  ·exact ag.up (by omega)
  ·exact al.up (by omega)
  ·exact U.up (by omega)
 have hlen:os.length=3:=by rw [e];rfl
 clear e;refine BH (S:=λq=>q=Sum.inr ()) ?_ ?_
 ·refine Fb 3 (λi s=>s=(i:Int)) rfl (by omega) ?_ ?_
  ·rintro i s hi rfl;have K:i<os.length:=by omega
   have O:=am _ (List.getElem_mem K);obtain⟨r1,ap,p2,p3⟩:=Zl Z O;obtain⟨r2,aq,g2,aw⟩:=X0 Z O;obtain⟨e,k1,-⟩:=PE (F:=F) (by omega) O;unfold NN;refine Eh (by simp only;omega) ?_;refine DY (m:=i) rfl K ?_;refine BT (Yw (by omega) O) ?_;refine BT ap ?_;refine DY (m:=i) rfl K ?_;refine BT p2 ?_;refine BT aq ?_;refine DY (m:=i) rfl K ?_;refine BT g2 ?_;refine DY (m:=i) rfl K ?_;refine BT ((Ny F _).trans k1) ?_;refine BT k1 ?_;refine BH (S:=λq=>q=false) (CY (by simp) (AS (decide_eq_false (by simp)))) ?_;rintro q rfl;refine BH (S:=λq=>q=false) (CY (by simp) (AS (decide_eq_false (by simp)))) ?_;rintro q rfl;refine BH (S:=λq=>q=false) (CY (by simp) (BT (SS (by omega) p3) (AS rfl))) ?_;rintro q rfl;refine BH (S:=λq=>q=false) (CY (by simp) (BT (S4 (by omega) aw) (AS rfl))) ?_;rintro q rfl;refine BH (S:=λq=>q=false) (CY (by simp) (DY (m:=i) rfl K (BT (Yk (by omega) O) (AS rfl)))) ?_;rintro q rfl;refine CY (by simp) ?_;refine B7 ((i+1:Nat):Int) (by simp) (by omega) (by omega) ?_;exact AS rfl
  ·rintro s rfl;unfold NN;exact CY (by simp only;omega) (AS ⟨_,rfl,rfl⟩)
 ·rintro q rfl;exact BT ac (AS rfl)
end Pal
