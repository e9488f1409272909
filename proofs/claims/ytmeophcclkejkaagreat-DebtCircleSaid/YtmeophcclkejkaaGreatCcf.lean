/- DebtCircle: a circle goes from each person to one to whom they have a debt: a part (6 of 9) of the proof of its row. -/
import Derived.Test.YtmeophcclkejkaaGreatCce
set_option linter.all false
set_option maxRecDepth 100000
namespace Pal
theorem Yd{F k:Nat}{b:HV}{pm dm:Nat}(K:100<F)(hb:BG k b)(O:k<1000)(U:2<=pm)(Y:pm<=5)(hd:dm<=8):BB (Oj F b pm dm) (λr=>VO r.1/\r.1.1.length<=pm/\r.1.2.length<=dm/\BG (k+100) r.2):=
 Zw K hb O U Y hd
theorem YP{F:Nat}{o:OW}(K:100<F)(h:NV 40 o):Ol F o=some o:=Zb K h
def Stp(o:OW)(c:List Int):Prop:=∀i x y,c[i]? =some x->c[i+1]? =some y->F3 o x y=true
theorem Px(o:OW):∀(k:Nat) (c:List Int),c∈CZ o k->Stp o c
 | 0,c,h=>by cases List.mem_singleton.1 h;intro i x y h;simp at h
 | k+1,c,h=>by
  obtain⟨a,Y,Z⟩:=List.mem_flatMap.1 h
  have ag:=Px o k a Y
  have am:=(JU o k a Y).1
  unfold ext Iw at Z
  obtain⟨z,al,rfl⟩:=List.mem_map.1 Z
  obtain⟨_,U⟩:=List.mem_filter.1 al
  intro i x y O K
  rcases Nat.lt_or_ge (i+1) a.length with hi | hi
  ·rw [List.getElem?_append_left (by omega)] at O K
   exact ag i x y O K
  ·have ac:i+1=a.length:=by
    have:=(List.getElem?_eq_some_iff.1 K).1;simp at this;omega
   rw [ac,List.getElem?_append_right (Nat.le_refl _),Nat.sub_self] at K;cases K;rw [List.getElem?_append_left (by omega)] at O;unfold I2 at U;simp only [Bool.and_eq_true,Bool.or_eq_true] at U;rcases U.2 with q | q
   ·have:=of_decide_eq_true q;subst this;simp at ac
   ·have e:DJ a=x:=by
     unfold DJ;rw [List.getD_eq_getElem?_getD,show a.length - 1=i by omega,O];rfl
    rw [e] at q;exact q
theorem Ps{o:OW}{a b:Int}(h:F3 o a b=true):∃m:Nat,∃d,o.2[m]? =some d/\d.1=a/\d.2.1=b:=by
 unfold F3 at h;rw [List.any_eq_true] at h;obtain⟨d,hd,h⟩:=h;rw [Bool.and_eq_true] at h;obtain⟨m,hm⟩:=List.mem_iff_getElem?.1 hd;exact⟨m,d,hm,of_decide_eq_true h.1,of_decide_eq_true h.2⟩
theorem WU{o:OW}{c:List Int}{k:Nat}(O:c∈CZ o k)(K:Gr o c=true)(Y:2<=k){i:Nat}(hi:i<k):F3 o (c.getD i 0) (c.getD ((i+1) % k) 0)=true:=by
 have U:=(JU o k c O).1;rcases Nat.lt_or_ge (i+1) k with h | h
 ·rw [Nat.mod_eq_of_lt h];refine Px o k c O i _ _ ?_ ?_
  ·rw [List.getD_eq_getElem?_getD,List.getElem?_eq_getElem (by omega)];rfl
  ·rw [List.getD_eq_getElem?_getD,List.getElem?_eq_getElem (by omega)];rfl
 ·obtain rfl:k=i+1:=by omega
  rw [Nat.mod_self];unfold Gr DJ at K;rw [U] at K;exact K
def Lz(d:DT):DT:=(min d.1 d.2.1,max d.1 d.2.1,d.2.2)
theorem Uu{o:OW}(h:∀d∈o.2,d.1<d.2.1){k:Nat}{c:List Int}(K:c∈CZ o k):∀i,i<c.length->0<i->c.getD 0 0<c.getD i 0
 | 0,_,O=>absurd O (by omega)
 | i+1,hi,_=>by
  have e:∀j,j<c.length->c[j]? =some (c.getD j 0):=λj U=>by rw [List.getD_eq_getElem?_getD,List.getElem?_eq_getElem U];rfl
  have Y:=Px o k c K i _ _ (e i (by omega)) (e (i+1) hi)
  obtain⟨m,d,hm,d1,d2⟩:=Ps Y
  have:=h d (List.mem_of_getElem? hm)
  rcases Nat.eq_zero_or_pos i with rfl | Z
  ·omega
  ·have:=Uu h K i (by omega) Z;omega
theorem YE{o:OW}(h:∀d∈o.2,d.1<d.2.1){r:List Int×Int}(U:Mz o r):r.2=11:=by
 rcases U with⟨k,k1,ac,-,O,ag⟩ | ⟨-,rfl⟩
 ·exfalso;have hm:=List.mem_of_find?_eq_some O;have K:Gr o r.1=true:=List.find?_some O;have Y:=(JU o k r.1 hm).1;have al:=Uu h hm (k - 1) (by omega) (by omega);unfold Gr DJ at K;rw [Y] at K;obtain⟨m,d,Z,d1,d2⟩:=Ps K;have:=h d (List.mem_of_getElem? Z);omega
 ·rfl
theorem YR{F:Nat}{D:List DT}(Y:100<F)(Z:D.length<=8):Pal.iter (Mq F) F (D,0)=some (D.map Lz):=by
 refine DU (Dg D.length (λi s=>s.2=(i:Int)/\s.1=(D.take i).map Lz++D.drop i) ⟨V,by simp⟩ (by omega) ?_ ?_)
 ·rintro i ⟨y,c⟩ hi ⟨O,K⟩;simp only at O K;subst O;have hlen:y.length=D.length:=by rw [K];simp;omega
  have U:y[i]? =some D[i]:=by
   rw [K,List.getElem?_append_right (by rw [List.length_map,List.length_take];omega),List.getElem?_drop];simp only [List.length_map,List.length_take];rw [show i+(i - min i D.length)=i by omega,List.getElem?_eq_getElem hi]
  unfold Mq;refine Cb (by simp only;omega) ?_;simp only;refine Bc (EX V U) (Bc (EX V U) ?_);refine Bc (EX V U) (Bc (b:=(min D[i].1 D[i].2.1,D[i].2.1,D[i].2.2)) (EX V (by rw [show Int.toNat (i:Int)=i by omega,List.getElem?_set_self (by omega)])) ?_);refine BA ((i+1:Nat):Int) (by simp) (by omega) (by omega) (Av ⟨V,?_⟩);simp only;rw [show Int.toNat (i:Int)=i by omega,List.set_set,K,List.set_append,if_neg (by rw [List.length_map,List.length_take];omega),List.drop_eq_getElem_cons hi,List.take_add_one,List.getElem?_eq_getElem hi];simp only [List.length_map,List.length_take,Option.toList_some,List.map_append,List.map_cons,List.map_nil,List.append_assoc,List.cons_append,List.nil_append];rw [show i - min i D.length=0 by omega,List.set_cons_zero]
  rfl
 ·rintro⟨y,c⟩ ⟨O,K⟩;simp only at O K;subst O;unfold Mq;have hlen:y.length=D.length:=by rw [K];simp
  refine BR (by simp only;omega) (Av ⟨_,V,?_⟩);simp only [K];simp
theorem bH{o:OW}(h:VO o):VO (o.1,o.2.map Lz):=by
 refine⟨h.n2,h.n5,h.cs,by simp only [List.length_map];exact h.d8,λd hd=>?_⟩;obtain⟨e,he,rfl⟩:=List.mem_map.1 hd;obtain⟨a1,K,O,U,Y,Z,ac⟩:=h.ds e he;simp only [VD,Lz];omega
theorem bO{o:OW}(h:VO o):∀d∈o.2.map Lz,d.1<d.2.1:=λd hd=>by
 obtain⟨e,he,rfl⟩:=List.mem_map.1 hd
 obtain⟨a1,K,O,U,Y,Z,ac⟩:=h.ds e he
 simp only [Lz]
 omega
theorem ai{F:Nat}{l:List Int}{x:Int}(K:100<F)(O:l.length<=40)(h:x ∉ l):f34 F l x=some (-1):=by
 refine DU ?_;unfold f34;refine Bo (S:=λq=>q=Sum.inr ()) ?_ (by rintro q rfl;exact Av rfl);refine Dg l.length (λi s=>s=(i:Int)) V (by omega) ?_ ?_
 ·rintro i s hi rfl;unfold NW;refine Cb (by omega) (C6 (m:=i) V hi ?_);refine BR (λe=>h (e▸List.getElem_mem hi)) (BA ((i+1:Nat):Int) (by simp) (by omega) (by omega) ?_);exact Av V
 ·rintro s rfl;unfold NW;exact BR (by omega) (Av ⟨_,V,V⟩)
theorem Xb(a b:Nat):((a:Int)).tmod (b:Int)=((a % b:Nat):Int):=by rw [Int.tmod_eq_emod_of_nonneg (by omega)];omega
theorem YQ{F:Nat}{o:OW}{b:HV}{c:List Int}{e l0:Int}{W:List Int}{i k:Nat}(ay:100<F)(az:o.2.length<=8)(ac:c.length=k)(a0:2<=k)(hi:i<k)(a1:k<=5)(h:F3 o (c.getD i 0) (c.getD ((i+1) % k) 0)=true):
  BB (Pal.iter (Mm F (o,b) (c,e) (l0,W,(i:Int))) F (-1,0)) (λr=>∃a:Nat,∃d,r=(a:Int)/\o.2[a]? =some d/\d.1=c.getD i 0/\d.2.1=c.getD ((i+1) % k) 0):=by
 obtain⟨m,d0,hm,ag,al⟩:=Ps h;have am:(i+1) % k<k:=Nat.mod_lt _ (by omega);have gc:∀j,j<k->c[j]? =some (c.getD j 0):=λj O=>by rw [List.getD_eq_getElem?_getD,List.getElem?_eq_getElem (by omega)];rfl
 refine Dg o.2.length (λj s=>s.2=(j:Int)/\((s.1= -1/\j<=m)∨∃a:Nat,∃d,s.1=(a:Int)/\o.2[a]? =some d/\d.1=c.getD i 0/\d.2.1=c.getD ((i+1) % k) 0)) ⟨V,.inl ⟨V,Nat.zero_le _⟩⟩ (by omega) ?_ ?_
 ·rintro j ⟨s,z⟩ O ⟨U,K⟩;simp only at U K;subst U;unfold Mm;refine Cb (by simp only;omega) ?_;simp only;refine C6 (m:=j) V O (Bc (EX V (gc i hi)) ?_);refine Bo (S:=λq=>q=decide (o.2[j].1=c.getD i 0/\o.2[j].2.1=c.getD ((i+1) % k) 0)) ?_ ?_
  ·refine Cl (λk1=>?_) (λk1=>Av (by rw [decide_eq_false (λq=>k1 q.1)]));refine C6 (m:=j) V O (BA ((i+1:Nat):Int) (by simp) (by omega) (by omega) ?_);refine Bc (b:=(((i+1) % k:Nat):Int)) (by unfold Ls;rw [if_neg (by omega),ac,Xb]) (Bc (EX V (gc _ am)) ?_);refine Av ?_;by_cases Y:o.2[j].2.1=c.getD ((i+1) % k) 0
   ·rw [decide_eq_true Y,decide_eq_true ⟨k1,Y⟩]
   ·rw [decide_eq_false Y,decide_eq_false (λq=>Y q.2)]
  ·rintro q rfl;refine Bo (S:=λq=>(q=s/\¬(o.2[j].1=c.getD i 0/\o.2[j].2.1=c.getD ((i+1) % k) 0))∨(q=(j:Int)/\o.2[j].1=c.getD i 0/\o.2[j].2.1=c.getD ((i+1) % k) 0)) ?_ ?_
   ·refine Cl (λq=>Av (.inr ⟨V,of_decide_eq_true q⟩)) (λq=>Av (.inl ⟨V,λk=>q (decide_eq_true k)⟩))
   ·rintro q ap;refine BA ((j+1:Nat):Int) (by simp) (by omega) (by omega) (Av ⟨V,?_⟩);simp only;rcases ap with⟨rfl,aq⟩ | ⟨rfl,av,aw⟩
    ·rcases K with⟨rfl,K⟩ | K
     ·refine .inl ⟨V,?_⟩;rcases Nat.lt_or_eq_of_le K with Z | Z
      ·omega
      ·subst Z;rw [List.getElem?_eq_getElem O] at hm;cases hm;exact absurd ⟨ag,al⟩ aq
     ·exact .inr K
    ·exact .inr ⟨j,_,V,List.getElem?_eq_getElem O,av,aw⟩
 ·rintro⟨s,z⟩ ⟨U,K⟩;simp only at U K;subst U;unfold Mm;refine BR (by simp only;omega) (Av ⟨_,V,?_⟩);rcases K with⟨_,K⟩ | K
  ·have:=(List.getElem?_eq_some_iff.1 hm).1;omega
  ·exact K
def Cw(o:OW)(c:List Int)(k i:Nat)(least:Int)(W:List Int):Prop:=
 W.length=i/\1<=least/\∀j<i,∃a:Nat,∃d,W[j]? =some (a:Int)/\o.2[a]? =some d/\d.1=c.getD j 0/\d.2.1=c.getD ((j+1) % k) 0/\least<=d.2.2
theorem Ya{F:Nat}{o:OW}{b:HV}{c:List Int}{e:Int}{k:Nat}(Z:100<F)(h:VO o)(hm:c∈CZ o k)(am:Gr o c=true)(ac:2<=k)(ap:k<=5):
  BB (Pal.iter (Mk F (o,b) (c,e)) F (9,([]:List Int),0)) (λq=>∃r,q=Sum.inr r/\Cw o c k k r.1 r.2):=by
 obtain⟨aq,av,-⟩:=JU o k c hm;have aw:=h.d8;have gc:∀j,j<k->c[j]? =some (c.getD j 0):=λj K=>by rw [List.getD_eq_getElem?_getD,List.getElem?_eq_getElem (by omega)];rfl
 refine Dg k (λi s=>s.2.2=(i:Int)/\Cw o c k i s.1 s.2.1) ⟨V,V,by decide,λj K=>absurd K (by omega)⟩ (by omega) ?_ ?_
 ·rintro i ⟨least,W,z⟩ hi ⟨O,hw,ay,K⟩;simp only at O hw ay K;subst O;unfold Mk;refine Cb (by simp only;omega) ?_;simp only;refine Bo (YQ Z aw aq ac hi ap (WU hm am ac hi)) ?_;rintro x ⟨a,d,rfl,U,d1,d2⟩;have halt:=(List.getElem?_eq_some_iff.1 U).1;refine Bo (S:=λq=>q=false) ?_ ?_
  ·refine BR (by omega) (Bc (b:=c.take i) (by unfold Gl;rw [if_pos (by omega)];simp) ?_);refine Bc (EX V (gc i hi)) (Bc (ai Z (by rw [List.length_take];omega) ?_) (Av (by decide)));intro az;obtain⟨q,Y⟩:=List.mem_iff_getElem?.1 az;have a0:q<i:=by have:=(List.getElem?_eq_some_iff.1 Y).1;rw [List.length_take] at this;omega
   rw [List.getElem?_take_of_lt a0,gc q (by omega)] at Y;have:q=i:=by
    have ag:=gc q (by omega);have e2:=gc i hi;rw [Option.some.inj Y,← e2] at ag;exact(List.getElem?_inj (by omega) av).1 ag
   omega
  ·rintro q rfl;refine BR (by simp) (Bc (EX V U) ?_);refine BB.Ly (by simp;omega) (BA ((i+1:Nat):Int) (by simp) (by omega) (by omega) ?_);have a1:=h.ds d (List.mem_of_getElem? U);refine Av ⟨V,by simp [hw],?_,λj a7=>?_⟩
   ·obtain⟨_,_,_,_,_,v,_⟩:=a1;simp only;omega
   ·simp only;rcases Nat.lt_or_ge j i with a2 | a8
    ·obtain⟨a3,d',a4,g2,a5,a6,a9⟩:=K j a2;exact⟨a3,d',by rw [List.getElem?_append_left (by omega)];exact a4,g2,a5,a6,by omega⟩
    ·obtain rfl:j=i:=by omega
     exact⟨a,d,by rw [List.getElem?_append_right (by omega),hw,Nat.sub_self];rfl,U,d1,d2,by omega⟩
 ·rintro⟨least,W,z⟩ ⟨O,al⟩;simp only at O al;subst O;unfold Mk;exact BR (by simp only;omega) (Av ⟨_,V,_,V,al⟩)
def n1(j:Int)(d:DT):Int:=(if j=d.2.1 then d.2.2 else 0)+(if j=d.1 then -d.2.2 else 0)
def nL(j:Int)(l:List DT):Int:=(l.map (n1 j)).sum
theorem JM(j:Int)(d:DT)(l:List DT):nL j (d::l)=n1 j d+nL j l:=by unfold nL;rw [List.map_cons,List.sum_cons]
theorem PL{j:Nat}:∀(l:List DT) (w:List Int),(∀d∈l,(0<=d.1/\d.1<5)/\0<=d.2.1/\d.2.1<5)->w.length=5->gN (l.foldl KH w) j=gN w j+nL j l
 | [],w,_,_=>by simp [nL]
 | d::l,w,h,hw=>by
  obtain⟨⟨a1,K⟩,O,U⟩:=h d List.mem_cons_self
  rw [List.foldl_cons,PL l _ (λx Y=>h x (List.mem_cons_of_mem _ Y)) (Yo hw),ar hw a1 K O U,JM]
  unfold n1
  omega
theorem TH{j:Int}{d d':DT}:∀{l:List DT} {m:Nat},l[m]? =some d->nL j (l.set m d')=nL j l - n1 j d+n1 j d'
 | [],m,h=>by simp at h
 | x::l,0,h=>by cases h;rw [List.set_cons_zero,JM,JM];omega
 | x::l,m+1,h=>by rw [List.set_cons_succ,JM,JM,TH (l:=l) h];omega
theorem RD{j:Int}:∀{l:List DT},(∀d∈l,0<=d.2.2)->nL j (l.filter λd=>decide (0<d.2.2))=nL j l
 | [],_=>rfl
 | d::l,h=>by
  have K:=RD (j:=j) (l:=l) λx O=>h x (List.mem_cons_of_mem _ O)
  have U:=h d List.mem_cons_self
  by_cases hd:0<d.2.2
  ·rw [List.filter_cons_of_pos (by simpa using hd),JM,JM,K]
  ·rw [List.filter_cons_of_neg (by simpa using hd),JM,K];have:d.2.2=0:=by omega
   unfold n1;rw [this];simp
def ind(j v x:Int):Int:=if j=x then v else 0
def Cy(D:List DT)(c:List Int)(k:Nat)(v:Int)(W:List Int)(i:Nat)(y:List DT):Prop:=
 y.length=D.length/\(∀(m:Nat) d,D[m]? =some d->y[m]? =some (if(m:Int)∈W.take i then(d.1,d.2.1,d.2.2 - v) else d))/\∀j,nL j y=nL j D - ind j v (c.getD (i % k) 0)+ind j v (c.getD 0 0)
theorem X9{F:Nat}{o:OW}{c:List Int}{k:Nat}{v:Int}{W:List Int}(a3:100<F)(h:VO o)(ap:c.Nodup)(a4:c.length=k)(a5:2<=k)(a6:k<=5)(hw:Cw o c k k v W):
  BB (Pal.iter (Mn F (v,W)) F (o.2,0)) (Cy o.2 c k v W k):=by
 have a7:=h.d8;obtain⟨aq,a8,hw⟩:=hw;have gc:∀j,j<k->c[j]? =some (c.getD j 0):=λj a9=>by rw [List.getD_eq_getElem?_getD,List.getElem?_eq_getElem (by omega)];rfl
 refine Dg k (λi s=>s.2=(i:Int)/\Cy o.2 c k v W i s.1) ⟨V,V,λm d hd=>by simp [hd],λj=>by show nL j o.2=nL j o.2 - ind j v (c.getD (0 % k) 0)+ind j v (c.getD 0 0);rw [Nat.zero_mod];omega⟩ (by omega) ?_ ?_
 ·rintro i ⟨y,z⟩ hi ⟨U,ag,K,al⟩;simp only at U ag K al;subst U;obtain⟨a,d,Y,hd,d1,d2,hle⟩:=hw i hi;have av:∀m:Nat,o.2[m]? =some d->(m:Int)∈W.take i->False:=by
   intro m hm aw;obtain⟨q,Z⟩:=List.mem_iff_getElem?.1 aw;have ay:q<i:=by have:=(List.getElem?_eq_some_iff.1 Z).1;rw [List.length_take] at this;omega
   rw [List.getElem?_take_of_lt ay] at Z;obtain⟨az,d',a0,O,a1,-⟩:=hw q (by omega);rw [a0] at Z;have:az=m:=by have:=Option.some.inj Z;omega
   subst this;rw [hm] at O;cases O;have:q=i:=by
    have am:=gc q (by omega);have g2:=gc i hi;rw [← a1,d1,← g2] at am;exact(List.getElem?_inj (by omega) ap).1 am
   omega
  have ac:y[a]? =some d:=by rw [K a d hd,if_neg (av a hd)]
  have bb:=(List.getElem?_eq_some_iff.1 hd).1;obtain⟨v1,v2,be,v4,bi,v6,bn⟩:=h.ds d (List.mem_of_getElem? hd);unfold Mn;refine Cb (by simp only;omega) ?_;simp only;refine Bc (EX V Y) ?_;refine Bc (EX V ac) ?_;refine Bc (EX V Y) ?_;refine Bc (EX V Y) ?_;refine Bc (EX V ac) ?_;refine BA (d.2.2 - v) V (by omega) (by omega) ?_;refine Bc (EX V ac) ?_;refine BA ((i+1:Nat):Int) (by simp) (by omega) (by omega) ?_;have a2:W.take (i+1)=W.take i++ [(a:Int)]:=by rw [List.take_add_one,Y];rfl
  refine Av ⟨V,by simp only;rw [List.length_set,ag],λm d' O=>?_,λj=>?_⟩
  ·simp only;rw [show Int.toNat (a:Int)=a by omega,List.getElem?_set,a2];by_cases e:a=m
   ·subst e;rw [hd] at O;cases O;rw [if_pos rfl,if_pos (by omega),if_pos (by simp)]
   ·rw [if_neg e,K m d' O];have:(m:Int)∈W.take i++ [(a:Int)]↔(m:Int)∈W.take i:=by
     rw [List.mem_append,List.mem_singleton];exact⟨λq=>q.elim id (λq=>absurd q (by omega)),.inl⟩
    by_cases hm:(m:Int)∈W.take i
    ·rw [if_pos hm,if_pos (this.2 hm)]
    ·rw [if_neg hm,if_neg (λq=>hm (this.1 q))]
  ·simp only;rw [show Int.toNat (a:Int)=a by omega,TH ac,al j,Nat.mod_eq_of_lt hi,← d1,← d2];unfold n1 ind;simp only;generalize c.getD 0 0=bo;split <;> split <;> (try split) <;> omega
 ·rintro⟨y,z⟩ ⟨U,K⟩;simp only at U K;subst U;unfold Mn;exact BR (by simp only;rw [aq];omega) (Av ⟨_,V,K⟩)
theorem Ym{F:Nat}{y:List DT}(U:100<F)(Y:y.length<=8):Pal.iter (Mi F y) F ([],0)=some (y.filter λd=>decide (0<d.2.2)):=by
 refine DU (Dg y.length (λi s=>s.2=(i:Int)/\s.1=(y.take i).filter λd=>decide (0<d.2.2)) ⟨V,V⟩ (by omega) ?_ ?_)
 ·rintro i ⟨s,z⟩ hi ⟨K,O⟩;simp only at K O;subst K;subst O;unfold Mi;refine Cb (by simp only;omega) ?_;simp only;refine C6 (m:=i) V hi (Bo (S:=λq=>q=(y.take (i+1)).filter λd=>decide (0<d.2.2)) ?_ ?_)
  ·rw [List.take_add_one,List.getElem?_eq_getElem hi,Option.toList_some,List.filter_append];refine Cl (λk=>?_) (λk=>Av ?_)
   ·refine C6 (m:=i) V hi ?_;have:((y.take i).filter λd=>decide (0<d.2.2)).length<=8:=Nat.le_trans (List.length_filter_le _ _) (by rw [List.length_take];omega);refine Km (by omega) (Av ?_);rw [List.filter_cons_of_pos (by simpa using k)];rfl
   ·rw [List.filter_cons_of_neg (by simpa using k)];simp
  ·rintro q rfl;exact BA ((i+1:Nat):Int) (by simp) (by omega) (by omega) (Av ⟨V,V⟩)
 ·rintro⟨s,z⟩ ⟨K,O⟩;simp only at K O;subst K;subst O;unfold Mi;exact BR (by simp only;omega) (Av ⟨_,V,by rw [List.take_length]⟩)
theorem bA{o:OW}{c:List Int}{k:Nat}{v:Int}{W:List Int}{y:List DT}(h:VO o)(a6:0<k)(hw:Cw o c k k v W)(U:Cy o.2 c k v W k y):VO (o.1,y.filter λd=>decide (0<d.2.2))/\CO o=CO (o.1,y.filter λd=>decide (0<d.2.2)):=by
 obtain⟨a7,a8,hw⟩:=hw;obtain⟨a9,U,ay⟩:=U;have al:∀d∈y,∃e∈o.2,d.1=e.1/\d.2.1=e.2.1/\0<=d.2.2/\d.2.2<=e.2.2:=by
  intro d hd;obtain⟨m,hm⟩:=List.mem_iff_getElem?.1 hd;have K:m<o.2.length:=by have:=(List.getElem?_eq_some_iff.1 hm).1;omega
  have he:=U m _ (List.getElem?_eq_getElem K);rw [hm] at he;have az:=h.ds _ (List.getElem_mem K);refine⟨_,List.getElem_mem K,?_⟩;obtain⟨_,_,_,_,_,v6,_⟩:=az;by_cases Y:(m:Int)∈W.take k
  ·rw [if_pos Y] at he;obtain⟨q,O⟩:=List.mem_iff_getElem?.1 Y;have am:q<k:=by have:=(List.getElem?_eq_some_iff.1 O).1;rw [List.length_take] at this;omega
   rw [List.getElem?_take_of_lt am] at O;obtain⟨a0,d',a2,ap,_,_,hle⟩:=hw q am;rw [a2] at O;have:a0=m:=by have:=Option.some.inj O;omega
   subst this;rw [List.getElem?_eq_getElem K] at ap;have a3:=Option.some.inj ap;have:=Option.some.inj he;subst this;rw [a3];exact⟨V,V,by simp only;omega,by simp only;omega⟩
  ·rw [if_neg Y] at he;have:=Option.some.inj he;subst this;exact⟨V,V,by omega,Int.le_refl _⟩
 have Z:VO (o.1,y.filter λd=>decide (0<d.2.2)):=by
  refine⟨h.n2,h.n5,h.cs,Nat.le_trans (List.length_filter_le _ _) (by have:=h.d8;omega),λd hd=>?_⟩;obtain⟨hd,aq⟩:=List.mem_filter.1 hd;have aq:=of_decide_eq_true aq;obtain⟨e,he,bb,e2,av,be⟩:=al d hd;obtain⟨a1,ac,aw,ag,bi,bn,bo⟩:=h.ds e he;exact⟨by omega,by simp only;omega,by omega,by simp only;omega,by omega,by omega,by omega⟩
 refine⟨Z,?_⟩;obtain⟨-,a4⟩:=Lc (F:=101) (by omega) h;obtain⟨-,a5⟩:=Lc (F:=101) (by omega) Z;have bv:=h.n5;refine Xs a4.1 a5.1 λj bw=>?_;unfold CO;rw [PL o.2 _ (λd hd=>by obtain⟨a1,ac,aw,ag,-⟩:=h.ds d hd;omega) (by simp),PL _ _ (λd hd=>by obtain⟨a1,ac,aw,ag,-⟩:=Z.ds d hd;simp only at ac ag;omega) (by simp)];rw [RD (λd hd=>by obtain⟨e,_,_,_,av,_⟩:=al d hd;exact av),ay j,Nat.mod_self];omega
theorem bQ{F:Nat}(Z:4000<F)(U:f18 F=some true)(QL:List Int):f4 F QL=some true:=by
 refine DU ?_;unfold f4;refine Bc (b:=(QL,0,2685821657736338717)) V (Bo (Yd (pm:=5) (dm:=8) (by omega) (k:=0) ⟨Int.le_refl _,Int.le_refl _⟩ (by omega) (by omega) (by omega) (by omega)) ?_);rintro⟨o,a0⟩ ⟨K,ap,hd,ac⟩;simp only at K ap hd ac ⊢;refine Bo (Uc ac (by omega) (by omega) (by omega)) ?_;rintro⟨q,a1⟩ g2;have ag:=K.d8;have a2:=K.n5;refine Cl (λ_=>?_) (λ_=>?_)
 ·refine Bc (YR (by omega) ag) (Bo (T7 Z (bH K)) ?_);intro r O;have:=YE (bO K) O;refine Bo (S:=λq=>q=true) (Cb this (Bc U (Av V))) ?_;rintro q rfl;exact Av V
 ·refine Bo (T7 Z K) ?_;rintro⟨c,e⟩ O;rcases O with⟨k,k1,a3,-,Y,al⟩ | ⟨-,O⟩
  ·simp only at Y al;subst al;have hm:=List.mem_of_find?_eq_some Y;have aq:Gr o c=true:=List.find?_some Y;obtain⟨av,aw,-⟩:=JU o k c hm;refine BR (by simp) (Bo (S:=λq=>q=false) (BR (by simp) (Av (decide_eq_false (by simp only;omega)))) ?_);rintro q rfl;refine Bo (S:=λq=>q=false) (BR (by simp) (Av (decide_eq_false (by simp only;omega)))) ?_;rintro q rfl;refine BR (by simp) (Bc (YP (by omega) K.nv) ?_);refine Bo (Ya (by omega) K hm aq k1 (by omega)) ?_;rintro q ⟨⟨v,W⟩,rfl,hw⟩;rw [Sum.elim_inr];refine Bo (X9 (by omega) K aw av k1 (by omega) hw) ?_;intro y am;obtain⟨ay,az⟩:=bA K (by omega) hw am;refine Bc (Ym (by omega) (by rw [am.1];exact ag)) (Bc (ZR (by omega) K ay V az) ?_);refine Bo (S:=λq=>q=true) (Cb V (Bc U (Av V))) ?_;rintro q rfl;exact Av V
  ·cases O;refine Cb V (Bo (S:=λq=>q=true) (Cb V (Bc U (Av V))) ?_);rintro q rfl;exact Av V
end Pal
