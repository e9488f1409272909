/- DebtAll: Fewest: a part (6 of 9) of the proof of its row. -/
import Derived.Test.YtmeophcclkejkaaGreatAaa
import Derived.Test.YtmeophcclkejkaaGreatAac
import Derived.Test.YtmeophcclkejkaaGreatAae
set_option linter.all false
set_option maxRecDepth 100000
namespace Pal
theorem YQ{F n:Nat}{x y:Int}(av:n<=5)(x0:0<=x)(aw:x<n)(y0:0<=y)(ay:y<n)(O:x≠y):∃K,f106 F x y=some K/\∀z,VP n z->f136 F K z.1 z.2=some (!JE (min x y,max x y) z):=by
 have key:∀a b c d:Fin 5,a≠b->c<d->(f106 0 ((a.val:Nat):Int) ((b.val:Nat):Int)).bind (λK=>f136 0 K ((c.val:Nat):Int) ((d.val:Nat):Int))=some (!JE (min ((a.val:Nat):Int) ((b.val:Nat):Int),max ((a.val:Nat):Int) ((b.val:Nat):Int)) (((c.val:Nat):Int),((d.val:Nat):Int))):=by decide+kernel
 obtain⟨a,rfl⟩:∃a:Nat,x=(a:Int):=⟨x.toNat,by omega⟩;obtain⟨b,rfl⟩:∃b:Nat,y=(b:Int):=⟨y.toNat,by omega⟩;have Z:=key ⟨a,by omega⟩ ⟨b,by omega⟩ ⟨0,by omega⟩ ⟨1,by omega⟩ (λe=>O (by rw [Fin.mk.injEq] at e;omega)) (by rw [Fin.mk_lt_mk];omega);obtain⟨K,U,_⟩:=bind_some Z;refine⟨K,U,λz ac=>?_⟩;obtain⟨z1,ag,al⟩:=ac;obtain⟨c,d⟩:=z;simp only at z1 ag al;obtain⟨c,rfl⟩:∃a:Nat,c=(a:Int):=⟨c.toNat,by omega⟩;obtain⟨d,rfl⟩:∃b:Nat,d=(b:Int):=⟨d.toNat,by omega⟩;have am:=key ⟨a,by omega⟩ ⟨b,by omega⟩ ⟨c,by omega⟩ ⟨d,by omega⟩ (λe=>O (by rw [Fin.mk.injEq] at e;omega)) (by rw [Fin.mk_lt_mk];omega);obtain⟨ap,aq,Y⟩:=bind_some am;rw [show ap=K from Option.some.inj (aq.symm.trans U)] at Y;exact Y
theorem ao{F:Nat}{o:OW}{x y:Int}(aq:100<F)(h:NV 40 o):∃e,f105 F o x y=some e/\((e≠0/\∃z,f70 F o [x,y]=some (z,e))∨(e=0/\f70 F o [x,y]=some (o,0)/\VO o/\(0<=x/\x<o.1.length)/\(0<=y/\y<o.1.length)/\x≠y)):=by
 obtain⟨r,am,av⟩:=Ud aq h;have ap:f47 F o=some r:=(Qq F o).trans am;have a1:=h.l1;have O:f105 F o x y=some (if r≠0 then r else if ¬(0<=x/\x<=(o.1.length:Int) - 1)∨¬(0<=y/\y<=(o.1.length:Int) - 1) then 3 else if x=y then 8 else 0):=by
  refine Df ?_;unfold f105;refine A9 am (BS (λK=>Au (by rw [if_pos K])) (λK=>?_));refine Bs _ V (by omega) (by omega) (A9 (Jp _ _ _ _) ?_);refine Bq (S:=λc=>c=decide (¬(0<=x/\x<=(o.1.length:Int) - 1)∨¬(0<=y/\y<=(o.1.length:Int) - 1))) ?_ ?_
  ·refine BS (λac=>Au ?_) (λac=>?_)
   ·have:¬(0<=x/\x<=(o.1.length:Int) - 1):=by simp at ac;omega
    exact(decide_eq_true (.inl this)).symm
   ·have aw:0<=x/\x<=(o.1.length:Int) - 1:=by simpa using ac
    refine Bs _ V (by omega) (by omega) (A9 (Jp _ _ _ _) (Au ?_));by_cases Y:0<=y/\y<=(o.1.length:Int) - 1
    ·rw [decide_eq_true Y,decide_eq_false (λk=>k.elim (λk=>k aw) (λk=>k Y))];rfl
    ·rw [decide_eq_false Y,decide_eq_true (.inr Y)];rfl
  ·rintro c rfl;rw [if_neg K];refine BS (λhc=>Au ?_) (λhc=>?_)
   ·rw [if_pos (of_decide_eq_true hc)]
   ·rw [if_neg (λk=>hc (decide_eq_true k))];refine BS (λhe=>Au (by rw [if_pos he])) (λhe=>Au (by rw [if_neg he]))
 by_cases K:r≠0
 ·refine⟨r,by rw [O,if_pos K],.inl ⟨K,([],[]),?_⟩⟩;refine Df ?_;unfold f70;exact A9 ap (Cf K (Au V))
 have ay:=av.1 (Decidable.not_not.1 K);have U:f70 F o [x,y]=some (if ¬(0<=x/\x<=(o.1.length:Int) - 1)∨¬(0<=y/\y<=(o.1.length:Int) - 1) then(([],[]),3) else if x=y then(([],[]),8) else(o,0)):=by
  refine Df ?_;unfold f70;refine A9 ap (BH K ?_);refine Bq (S:=λq=>(q=Sum.inl (([],[]),3)/\(¬(0<=x/\x<=(o.1.length:Int) - 1)∨¬(0<=y/\y<=(o.1.length:Int) - 1)))∨(q=Sum.inr ()/\¬(¬(0<=x/\x<=(o.1.length:Int) - 1)∨¬(0<=y/\y<=(o.1.length:Int) - 1)))) ?_ ?_
  ·refine Dx 2 (λi s=>s=(i:Int)/\∀j z,j<i-> [x,y][j]? =some z->0<=z/\z<=(o.1.length:Int) - 1) ⟨V,by simp⟩ (by omega) ?_ ?_
   ·rintro i s hi ⟨rfl,Z⟩;obtain⟨z,ag⟩:∃z,[x,y][i]? =some z:=⟨_,List.getElem?_eq_getElem (by simp;omega)⟩;have az:z=x∨z=y:=by
     have:=List.mem_of_getElem? ag;simpa using this
    unfold N7;refine Cf (by simp only [List.length_cons,List.length_nil];omega) (A9 (HT (m:=i) V ag) ?_);refine Bs _ V (by omega) (by omega) (A9 (bF _ _ _ _) ?_);refine BS (λhc=>Au (.inl ⟨V,?_⟩)) (λhc=>?_)
    ·have:¬(0<=z/\z<=(o.1.length:Int) - 1):=by simp at hc;omega
     rcases az with rfl | rfl
     ·exact .inl this
     ·exact .inr this
    ·have a0:0<=z/\z<=(o.1.length:Int) - 1:=by simpa using hc
     refine Bs ((i+1:Nat):Int) (by simp) (by omega) (by omega) (Au ⟨V,λj u al hu=>?_⟩);rcases Nat.lt_succ_iff_lt_or_eq.1 al with al | rfl
     ·exact Z j u al hu
     ·rw [ag] at hu;cases hu;exact a0
   ·rintro s ⟨rfl,Z⟩;unfold N7;refine BH (by simp) (Au ⟨_,V,.inr ⟨V,?_⟩⟩);rintro(k | k)
    ·exact k (Z 0 x (by omega) V)
    ·exact k (Z 1 y (by omega) V)
  ·rintro q (⟨rfl,k⟩ | ⟨rfl,k⟩)
   ·rw [Sum.elim_inl,if_pos k];exact Au V
   ·rw [Sum.elim_inr,if_neg k];refine Bq (S:=λc=>c=decide (x=y)) ?_ ?_
    ·refine Cf (by simp) (A9 (HT (m:=0) (b:=x) V V) ?_);exact A9 (HT (m:=1) (b:=y) V V) (Au V)
    ·rintro c rfl;refine BS (λhc=>Au ?_) (λhc=>Au ?_)
     ·rw [if_pos (of_decide_eq_true hc)]
     ·rw [if_neg (λe=>hc (decide_eq_true e))]
 rw [if_neg K] at O;by_cases k:¬(0<=x/\x<=(o.1.length:Int) - 1)∨¬(0<=y/\y<=(o.1.length:Int) - 1)
 ·rw [if_pos k] at O U;exact⟨3,O,.inl ⟨by decide,_,U⟩⟩
 ·rw [if_neg k] at O U;by_cases e:x=y
  ·rw [if_pos e] at O U;exact⟨8,O,.inl ⟨by decide,_,U⟩⟩
  ·rw [if_neg e] at O U;exact⟨0,O,.inr ⟨V,U,ay,by omega,by omega,e⟩⟩
theorem Tb{F:Nat}{x y:Int}{L:List (List DT)}(am:2000<F)(ap:L.length<=1024)(O:∀s∈L,s.length<=10):BB (Pal.iter (KJ F x y L) F (0,0)) (λr=>r=((cnt x y L:Nat):Int)):=by
 have Z:∀i,i<=L.length->cnt x y (L.take i)<=10*i:=by
  intro i
  induction i with
  | zero=>intro _;unfold cnt;simp
  | succ i ac=>
   intro hi;have ag:=ac (by omega);have U:i<L.length:=by omega
   have aq:=O _ (List.getElem_mem U);have av:=List.countP_le_length (p:=F3 x y) (l:=L[i]);unfold cnt at ag ⊢;rw [List.take_add_one,List.getElem?_eq_getElem U,List.flatten_append,List.countP_append];simp only [Option.toList_some,List.flatten_cons,List.flatten_nil,List.append_nil];omega
 refine Dx L.length (λi s=>s.2=(i:Int)/\s.1=((cnt x y (L.take i):Nat):Int)) ⟨V,V⟩ (by omega) ?_ ?_
 ·rintro i ⟨a,c⟩ hi ⟨hc,K⟩;simp only at hc K;subst hc;subst K;have aw:=Z i (by omega);have ay:=O _ (List.getElem_mem hi);unfold KJ;refine Cf (by simp only;omega) (CZ (m:=i) V hi ?_);refine Bq (S:=λr=>r=((cnt x y (L.take (i+1)):Nat):Int)) ?_ ?_
  ·have al:cnt x y (L.take (i+1))=cnt x y (L.take i)+L[i].countP (F3 x y):=by
    unfold cnt;rw [List.take_add_one,List.getElem?_eq_getElem hi,List.flatten_append,List.countP_append];simp only [Option.toList_some,List.flatten_cons,List.flatten_nil,List.append_nil]
   refine Dx L[i].length (λj s=>s.2=(j:Int)/\s.1=((cnt x y (L.take i)+(L[i].take j).countP (F3 x y):Nat):Int)) ⟨V,by simp⟩ (by omega) ?_ ?_
   ·rintro j ⟨a,c⟩ Y ⟨hc,K⟩;simp only at hc K;subst hc;subst K;have hle:(L[i].take j).countP (F3 x y)<=j:=by
     refine Nat.le_trans List.countP_le_length ?_;rw [List.length_take];omega
    have key:(L[i].take (j+1)).countP (F3 x y)=(L[i].take j).countP (F3 x y)+if F3 x y L[i][j]=true then 1 else 0:=by
     rw [List.take_add_one,List.getElem?_eq_getElem Y,List.countP_append];simp only [Option.toList_some,List.countP_cons,List.countP_nil,Nat.zero_add]
    unfold Lw;refine Cf (by simp only;omega) (CZ (m:=j) V Y ?_);refine Bq (S:=λc=>c=F3 x y L[i][j]) ?_ ?_
    ·unfold F3;refine BS (λh=>Au (by simp [h])) (λh=>Au (by simp [h]))
    rintro c rfl;refine Bq (S:=λr=>r=((cnt x y (L.take i)+(L[i].take (j+1)).countP (F3 x y):Nat):Int)) ?_ ?_
    ·refine BS (λh=>?_) (λh=>?_)
     ·refine Bs ((cnt x y (L.take i)+(L[i].take (j+1)).countP (F3 x y):Nat):Int) ?_ (by omega) (by rw [key,if_pos h];omega) (Au V);rw [key,if_pos h];simp only;omega
     ·exact Au (by rw [key,if_neg h];rfl)
    ·rintro r rfl;exact Bs ((j+1:Nat):Int) (by simp) (by omega) (by omega) (Au ⟨V,V⟩)
   ·rintro⟨a,c⟩ ⟨hc,K⟩;simp only at hc K;subst hc;unfold Lw;rw [List.take_length] at K;exact BH (by simp) (Au ⟨_,V,by rw [al];exact K⟩)
  ·rintro r rfl;exact Bs ((i+1:Nat):Int) (by simp) (by omega) (by omega) (Au ⟨V,V⟩)
 ·rintro⟨a,c⟩ ⟨hc,K⟩;simp only at hc K;subst hc;unfold KJ;rw [List.take_length] at K;exact BH (by simp) (Au ⟨_,V,K⟩)
theorem XZ{F:Nat}{x y:Int}{L:List (List DT)}{s:Int×Int}{l:List DT}(h:ix L s.2=some l):Ms F x y L s=Lw F x y l:=by
 funext z;unfold Ms Lw;simp only [h,Option.bind_some];cases ix l z.2 <;> rfl
theorem Yq(F:Nat)(x y:Int)(L:List (List DT)):Qs F x y L=KJ F x y L:=by
 funext s;unfold Qs KJ;split
 ·rename_i K;cases h:ix L s.2 with
  | none=>
   simp only [Option.bind_none];have e:Ms F x y L s=λ_=>none:=by
    funext z;unfold Ms;rw [h];rfl
   rw [e];cases F <;> rfl
  | some l=>rw [XZ h];rfl
 ·rfl
theorem So{o:OW}(h:VO o)(P:PR->Bool):(FW o.1.length (Cb o) P).length<=1024/\∃m,m<=5/\∀s∈FW o.1.length (Cb o) P,s.length=m:=by
 obtain⟨-,hw⟩:=Mt (F:=101) (by omega) h;obtain⟨K,m,O,U⟩:=Qb (P:=P) h.n5 hw;exact⟨K,m,O,λs Y=>(U s Y).1⟩
theorem bh(F:Nat)(a b:Int):f93 F a b=some (if a=0 then 2 else if a<b then 3 else 1):=by
 refine Df ?_;unfold f93;refine Bq (S:=λq=>(q=Sum.inl 2/\a=0)∨(q=Sum.inr (if a<b then 3 else 1)/\¬a=0)) ?_ ?_
 ·refine BS (λk=>Au (.inl ⟨V,k⟩)) (λk=>?_);refine BS (λK=>?_) (λK=>?_)
  ·refine Bs 2 V (by omega) (by omega) (Bq (S:=λr=>r=3) (Cf K (Bs 3 V (by omega) (by omega) (Au V))) ?_);rintro r rfl;exact Au (.inr ⟨by rw [if_pos K],k⟩)
  ·refine Bq (S:=λr=>r=1) (BH K (Au V)) ?_;rintro r rfl;exact Au (.inr ⟨by rw [if_neg K],k⟩)
 ·rintro q (⟨rfl,k⟩ | ⟨rfl,k⟩)
  ·rw [Sum.elim_inl,if_pos k];exact Au V
  ·rw [Sum.elim_inr,if_neg k];exact Au V
theorem UX{F:Nat}{o:OW}{x y:Int}(Z:3000<F)(K:VO o)(ac:0<=x/\x<o.1.length)(ag:0<=y/\y<o.1.length)(U:x≠y):f70 F o [x,y]=some (o,0):=by
 obtain⟨e,Y,⟨he,z,O⟩ | ⟨rfl,O,-⟩⟩:=ao (x:=x) (y:=y) (show 100<F by omega) K.nv
 ·exfalso;have:f105 F o x y=some 0:=by
   refine Df ?_;unfold f105;refine A9 (show f48 F o=some 0 from (Qq F o).symm.trans (UR (by omega) K)) (BH (by simp) ?_);have al:=K.n5;refine Bs _ V (by omega) (by omega) (A9 (Jp _ _ _ _) ?_);refine Bq (S:=λc=>c=false) ?_ ?_
   ·refine BH (by simp;omega) (Bs _ V (by omega) (by omega) ?_);refine A9 (Jp _ _ _ _) (Au ?_);simp;omega
   ·rintro c rfl;exact BH (by simp) (BH U (Au V))
  rw [Y] at this;exact he (Option.some.inj this)
 ·exact O
theorem Zj{F:Nat}{o:OW}{x y:Int}(Z:3000<F)(K:VO o)(O:0<=x/\x<o.1.length)(U:0<=y/\y<o.1.length)(Y:x≠y):f58 F o x y=some (match FW o.1.length (Cb o) (JE (min x y,max x y)) with | []=>(0,11) | s::_=>((s.length:Int),0)):=by
 refine Df ?_;obtain⟨am,ac,ag⟩:=YQ (F:=F) K.n5 O.1 O.2 U.1 U.2 Y;have al:=TX (P:=JE (min x y,max x y)) (show 100<F by omega) K ag;unfold f58;refine A9 (UX Z K O U Y) (BH (by simp) ?_);refine A9 ac (A9 al ?_);cases FW o.1.length (Cb o) (JE (min x y,max x y)) with
 | nil=>exact Cf (by simp) (Au rfl)
 | cons s L=>
  exact BH (by simp;omega) (A9 (HT (m:=0) V V) (Au V))
open Go Go.Conc Go.Proofs Go.Proofs.Tryz
variable {J:Judge Tryz.prog}{E:LH}
end Pal
namespace Pal
def n1(j:Int)(d:DT):Int:=(if j=d.2.1 then d.2.2 else 0)+(if j=d.1 then -d.2.2 else 0)
def nL(j:Int)(l:List DT):Int:=(l.map (n1 j)).sum
theorem Ts(j:Int)(d:DT)(l:List DT):nL j (d::l)=n1 j d+nL j l:=by unfold nL;rw [List.map_cons,List.sum_cons]
theorem TS{j:Nat}:∀(l:List DT) (w:List Int),(∀d∈l,(0<=d.1/\d.1<5)/\0<=d.2.1/\d.2.1<5)->w.length=5->gN (l.foldl GL w) j=gN w j+nL j l
 | [],w,_,_=>by simp [nL]
 | d::l,w,h,hw=>by
  obtain⟨⟨a1,K⟩,O,U⟩:=h d List.mem_cons_self
  rw [List.foldl_cons,TS l _ (λx Y=>h x (List.mem_cons_of_mem _ Y)) (YZ hw),b7 hw a1 K O U,Ts]
  unfold n1
  omega
theorem Yu{α β:Type}{f:α->β}{l:List α}(K:l.Nodup)(h:∀a∈l,∀b∈l,f a=f b->a=b):(l.map f).Nodup:=List.pairwise_map.2 (K.imp_of_mem λO hb U e=>U (h _ O _ hb e))
def s1(A:Nat->Bool)(d:DT):Int:=(if A d.2.1.toNat then d.2.2 else 0)+(if A d.1.toNat then -d.2.2 else 0)
theorem VO.dW{o:OW}(h:VO o):∀d∈o.2,(0<=d.1/\d.1<5)/\0<=d.2.1/\d.2.1<5:=λd hd=>by
 have K:=h.n5
 obtain⟨a1,O,U,Y,-⟩:=h.ds d hd;omega
theorem Zx:∀l:List (List DT),l≠ []->Jv l∈l:=by
 have:∀l:List (List DT),l= []∨((l.foldl DZ ([],false)).1∈l/\(l.foldl DZ ([],false)).2=true):=by
  refine KH (.inl V) λl x h=> .inr ?_;rw [List.foldl_append];show(DZ _ x).1∈l++ [x]/\(DZ _ x).2=true;rcases h with rfl | ⟨K,O⟩
  ·exact⟨by simp [DZ],V⟩
  ·unfold DZ;split
   ·exact⟨by simp,V⟩
   ·exact⟨List.mem_append_left _ K,O⟩
 intro l U;rcases this l with h | ⟨h,_⟩
 ·exact absurd h U
 ·exact h
def Q9(a b:Nat):Int:=if(a:Int)=0 then 2 else if(a:Int)<b then 3 else 1
theorem X9{F:Nat}{o:OW}{x y:Int}(O:3000<F)(K:VO o)(U:0<=x/\x<o.1.length)(Y:0<=y/\y<o.1.length)(Z:x≠y):f50 F o x y=some (Q9 (cnt x y (Fp o)) (Fp o).length,0):=by
 refine Df ?_;obtain⟨s1,m,hm,s2⟩:=So K λ_=>true;unfold f50;refine A9 (UX O K U Y Z) (BH (by simp) ?_);refine A9 (QQ (by omega) K) (Bq (Tb (by omega) s1 λs ac=>by rw [s2 s ac];omega) ?_);rintro r rfl;exact A9 (bh _ _ _) (Au V)
open Go Go.Conc
variable {κ ν:Type}
variable {pk:Rp κ}{pv:Rp ν}{ka va:Bool}{E E' H:LH}
variable {P:Program}{s:St}{t tm te:TypeId}{X:Halt->St->Prop}{bk:Nat}{o:Obj}{xs:List (κ×ν)}{k w:Value}{v0:ν}
section
variable [DecidableEq κ]
open Classical in
variable {x:κ}
end
variable {J:Judge P}{Q:Gs_}{b:Frame}{n:Nat}{ds:Ld_}{ops:Ao_}{kk:Li_}{cs:Lf_}{L:Env}{S:List Seg}{m fuel:Nat}{listed:Array Bool}
variable {y z:Operand}{u ty e:TypeId}{p:String}{af:Ae_}{g:On_}{i:Nat}{rest:List Nat}{zv:Value}{x0:κ}{z0:ν}
section
variable [DecidableEq κ]
variable {d:Option Tmp}{x:Operand}
end
end Pal
namespace Pal
open Go Go.Conc
variable {P:Program}{J:Judge P}{Q:Gs_}{b:Frame}{n:Nat}{L:Env}{ds:Ld_}{cs:Lf_}{E H:LH}{S:List Seg}
open Go.Proofs Go.Proofs.Tryz
variable {J:Judge Tryz.prog}
end Pal
namespace Pal
def tw(a b:Int)(d:DT):Int:=(if d.1=a/\d.2.1=b then d.2.2 else 0) - (if d.1=b/\d.2.1=a then d.2.2 else 0)
theorem Yo{a b:DT}(K:EF b a=false)(O:EF a b=false):a=b:=by
 rw [J0] at K O;obtain⟨a1,U,Y⟩:=a;obtain⟨Z,ac,ag⟩:=b;simp only at K O;have al:a1=Z:=by omega
 have e2:U=ac:=by omega
 have am:Y=ag:=by omega
 rw [al,e2,am]
def pay(x y v:Int):List DT:=if 0<v then [(x,y,v)] else if v<0 then [(y,x,-v)] else []
def nz(v:Int):Nat:=if v=0 then 0 else 1
theorem JX(x y v:Int):(pay x y v).length=nz v:=by
 unfold pay nz;split
 ·rw [if_neg (by omega)];rfl
 ·split
  ·rw [if_neg (by omega)];rfl
  ·rw [if_pos (by omega)];rfl
def raw(a b n:Int):List DT:=(pay 0 1 n++pay 0 2 (-a - n))++pay 1 2 (n - b)
theorem P5(a b n:Int):(raw a b n).length=nz n+nz (-a - n)+nz (n - b):=by unfold raw;rw [List.length_append,List.length_append,JX,JX,JX]
theorem J7(v:Int):nz v<=1:=by unfold nz;split <;> omega
theorem bR(a b n:Int):(raw a b n).length<=3:=by rw [P5];have:=J7 n;have:=J7 (-a - n);have:=J7 (n - b);omega
theorem Nj(x y v:Int):(pay x y v= []/\v=0)∨(pay x y v= [(x,y,v)]/\0<v)∨(pay x y v= [(y,x,-v)]/\v<0):=by
 unfold pay;split
 ·exact .inr (.inl ⟨V,by assumption⟩)
 ·split
  ·exact .inr (.inr ⟨V,by assumption⟩)
  ·exact .inl ⟨V,by omega⟩
theorem Yx(a b n:Int):((raw a b n).map HY).Nodup:=by
 unfold raw;rcases Nj 0 1 n with⟨K,_⟩ | ⟨K,_⟩ | ⟨K,_⟩ <;> rcases Nj 0 2 (-a - n) with⟨O,_⟩ | ⟨O,_⟩ | ⟨O,_⟩ <;> rcases Nj 1 2 (n - b) with⟨U,_⟩ | ⟨U,_⟩ | ⟨U,_⟩ <;> rw [K,O,U] <;> simp [HY]
theorem TQ{F:Nat}{x y v:Int}(Y:100<F):LM F [x,y,v]=some [(x,y,v)]:=by
 refine Df ?_;unfold LM;refine Bq (S:=λr=>r= [(x,y,v)]) ?_ (λr U=>Au U);refine Dx 1 (λi s=>s.2=3*(i:Int)/\s.1=if i=0 then [] else [(x,y,v)]) ⟨V,V⟩ (by omega) ?_ ?_
 ·rintro i ⟨l,z⟩ hi ⟨K,O⟩;obtain rfl:i=0:=by omega
  simp only [if_true] at K O;subst K;subst O;unfold NK;refine Bs 2 V (by omega) (by omega) (Cf (by simp) ?_);refine A9 (b:=x) V (Bs 1 V (by omega) (by omega) ?_);refine A9 (b:=y) V (Bs 2 V (by omega) (by omega) ?_);refine A9 (b:=v) V (BB.Kj (by simp) ?_);exact Bs 3 V (by omega) (by omega) (Au ⟨V,V⟩)
 ·rintro⟨l,z⟩ ⟨K,O⟩;simp only at K O;subst K;subst O;unfold NK;exact Bs 5 V (by omega) (by omega) (BH (by simp) (Au ⟨_,V,V⟩))
theorem P7{F:Nat}{x y v:Int}(K:100<F)(O: -1000<=v)(U:v<=1000):f108 F x y v=some (pay x y v):=by
 refine Df ?_;unfold f108 pay;refine BS (λh=>?_) (λh=>?_)
 ·rw [if_pos h];exact A9 (TQ K) (Au V)
 ·rw [if_neg h];refine BS (λh=>?_) (λh=>?_)
  ·rw [if_pos h];exact Bs (-v) V (by omega) (by omega) (A9 (TQ K) (Au V))
  ·rw [if_neg h];exact Au V
def Fc(x y:Int)(l:List DT):Bool:=decide (x≠y)&&l.any λd=>(decide (d.1=x)&&decide (d.2.1=y)) || (decide (d.1=y)&&decide (d.2.1=x))
theorem XI{F:Nat}{x y:Int}{l:List DT}(al:100<F)(am:l.length<=3):Pal.iter (Mz F x y l) F (false,0)=some (Fc x y l):=by
 refine Df (Dx l.length (λi s=>s.2=(i:Int)/\s.1=Fc x y (l.take i)) ⟨V,by simp [Fc]⟩ (by omega) ?_ ?_)
 ·rintro i ⟨c,z⟩ hi ⟨O,hc⟩;simp only at O hc;subst O;have Z:Fc x y (l.take (i+1))=(c || (decide (x≠y)&&((decide (l[i].1=x)&&decide (l[i].2.1=y)) || (decide (l[i].1=y)&&decide (l[i].2.1=x))))):=by
   rw [hc];unfold Fc;rw [List.take_add_one,List.getElem?_eq_getElem hi,List.any_append,Bool.and_or_distrib_left];simp
  unfold Mz;refine Cf (by simp only;omega) (Bq (S:=λq=>q=Fc x y (l.take (i+1))) ?_ ?_)
  ·rw [Z];simp only;have ac:ix l (i:Int)=some l[i]:=HT V (List.getElem?_eq_getElem hi);rw [ac];simp only [Option.bind_some];generalize l[i]=d;refine BS (λh=>Au (by rw [h];rfl)) (λh=>?_);have ag:c=false:=by simpa using h
   rw [ag,Bool.false_or];refine BS (λh=>?_) (λh=>Au (by simp [Decidable.not_not.1 h]));rw [decide_eq_true h,Bool.true_and];refine BS (λU=>?_) (λU=>?_)
   ·rw [decide_eq_true U,Bool.true_and];refine BS (λY=>Au (by rw [decide_eq_true Y];rfl)) (λY=>?_);rw [decide_eq_false Y,Bool.false_or];refine BS (λK=>Au (by rw [decide_eq_true K,Bool.true_and])) (λK=>Au (by rw [decide_eq_false K];rfl))
   ·rw [decide_eq_false U,Bool.false_and,Bool.false_or];refine BS (λK=>Au (by rw [decide_eq_true K,Bool.true_and])) (λK=>Au (by rw [decide_eq_false K];rfl))
  ·rintro q rfl;exact Bs ((i+1:Nat):Int) (by simp) (by omega) (by omega) (Au ⟨V,V⟩)
 ·rintro⟨c,z⟩ ⟨O,hc⟩;simp only at O hc;subst O;unfold Mz;exact BH (by simp only;omega) (Au ⟨_,V,by rw [hc,List.take_length]⟩)
def Ol(x y:DT):Option Bool:=if x.1<y.1 then some true else if x.1=y.1 then some (decide (x.2.1<y.2.1)) else some false
theorem WQ(F:Nat):Ny F=LR Ol:=by
 funext s;unfold Ny LR Ol;split
 ·cases O:ix s.2 s.1 with
  | none=>rfl
  | some x=>
   cases U:Ar (s.1 - 1) with
   | none=>rfl
   | some j=>
    simp only [Option.bind_some];cases Y:ix s.2 j with
    | none=>rfl
    | some y=>
     simp only [Option.bind_some];by_cases k1:x.1<y.1
     ·simp only [k1,if_true,Option.bind_some]
     ·by_cases K:x.1=y.1 <;> simp only [k1,K,if_true,if_false,Option.bind_some,Int.lt_irrefl]
 ·rfl
theorem YL{x y:DT}(h:HY x≠HY y):Ol x y=some (EF x y):=by
 obtain⟨O,x2,U⟩:=x;obtain⟨Y,K,Z⟩:=y;simp only [HY,ne_eq,Prod.mk.injEq] at h;unfold Ol EF;simp only;split
 ·rw [decide_eq_true (by omega)]
 ·split
  ·by_cases k:x2<K
   ·rw [decide_eq_true k,decide_eq_true (by omega)]
   ·rw [decide_eq_false k,decide_eq_false (by omega)]
  ·rw [decide_eq_false (by omega)]
theorem ZA{F:Nat}{l:List DT}(a0:100<F)(a1:l.length<=20)(Y:(l.map HY).Nodup):f109 F l=some (Cs l):=by
 refine Df ?_;unfold f109;refine Bq (S:=λr=>r=Cs l) ?_ (λr Z=>Au Z);refine Dx (l.length - 1) (λi s=>s.1=((i+1:Nat):Int)/\s.2=Cs (l.take (i+1))++l.drop (i+1)) ⟨V,?_⟩ (by omega) ?_ ?_
 ·cases l with
  | nil=>rfl
  | cons x xs=>rfl
 ·rintro i ⟨c,w⟩ hi ⟨hc,hw⟩;simp only at hc hw;subst hc;have K:i+1<l.length:=by omega
  have ac:w.length=l.length:=by rw [hw,List.length_append,Lc,List.length_take,List.length_drop];omega
  unfold NL;refine Cf (by simp only;omega) ?_;have ag:l.drop (i+1)=l[i+1]::l.drop (i+2):=List.drop_eq_getElem_cons K;have a2:(Cs (l.take (i+1))).length=i+1:=by rw [Lc,List.length_take];omega
  have al:∀d∈Cs (l.take (i+1)),HY l[i+1]≠HY d:=by
   intro d hd e;have hd:=(Pm _).1 hd;obtain⟨q,O⟩:=List.mem_iff_getElem?.1 hd;have am:q<i+1:=by have:=(List.getElem?_eq_some_iff.1 O).1;rw [List.length_take] at this;omega
   rw [List.getElem?_take_of_lt am] at O;have ap:(l.map HY)[q]? =some (HY d):=by rw [List.getElem?_map,O];rfl
   have g2:(l.map HY)[i+1]? =some (HY d):=by rw [List.getElem?_map,List.getElem?_eq_getElem K,← e];rfl
   have:=(List.getElem?_inj (by rw [List.length_map];omega) Y).1 (ap.trans g2.symm);omega
  have aq:Cs (l.take (i+2))=FM l[i+1] (Cs (l.take (i+1))):=by
   rw [List.take_add_one (i:=i+1),List.getElem?_eq_getElem K];exact La _ _
  have av:=SM (l.take (i+1));generalize l[i+1]=x at*;generalize Cs (l.take (i+1))=P at*;generalize l.drop (i+2)=R at*;refine Bq (S:=λr=>r=FM x P++R) ?_ ?_
  ·rw [WQ,hw,ag];have aw:((i+1:Nat):Int)=(P.length:Int):=by omega
   rw [aw];refine(S7 (lt:=EF) R (by omega) (by omega) λy U=>YL (al y U)).Ah ?_;rintro r ⟨A,B,rfl,rfl,ay,az⟩;rw [P1 ay ?_]
   ·simp
   ·rcases az with rfl | ⟨a3,y,rfl,U⟩
    ·simp
    ·exact RB av U
  ·rintro r rfl;refine Bs ((i+1+1:Nat):Int) (by simp) (by omega) (by omega) (Au ⟨V,?_⟩);simp only;rw [aq]
 ·rintro⟨c,w⟩ ⟨hc,hw⟩;simp only at hc hw;subst hc;have ac:w.length=l.length:=by rw [hw,List.length_append,Lc,List.length_take,List.length_drop];omega
  unfold NL;refine BH (by simp only;omega) (Au ⟨_,V,?_⟩);simp only;rw [hw,List.take_of_length_le (by omega),List.drop_eq_nil_of_le (by omega),List.append_nil]
theorem Q7{a b:Bool}(h:(a || b)=true):a=true∨b=true:=by cases a <;> simp_all
def ns(k:Nat):List Int:=(List.range k).map λi:Nat=>(i:Int) - 72
def Eh(a b n:Int):List DT:=Cs (raw a b n)
def Th(a b x y:Int)(k m:Nat)(out:List (List DT)):Prop:=
 out=((ns k).filter λn=> !Fc x y (raw a b n)&&((raw a b n).length==m)).map (Eh a b)/\(∀n∈ns k,Fc x y (raw a b n)=false->m<=(raw a b n).length)/\(out= []->∀n∈ns k,Fc x y (raw a b n)=true)
theorem PZ(k:Nat):ns (k+1)=ns k++ [(k:Int) - 72]:=by unfold ns;rw [List.range_succ,List.map_append];rfl
theorem Uy(k:Nat):(ns k).length=k:=by unfold ns;simp
theorem Qf{n:Int}:n∈ns 145↔ -72<=n/\n<=72:=by
 unfold ns;rw [List.mem_map];constructor
 ·rintro⟨i,hi,rfl⟩;have:=List.mem_range.1 hi;omega
 ·rintro⟨K,O⟩;exact⟨(n+72).toNat,List.mem_range.2 (by omega),by omega⟩
theorem Yw(k:Nat):(ns k).Nodup:=by
 unfold ns;exact Yu List.nodup_range λi _ j _ h=>by omega
theorem UD{F:Nat}{a b c x y:Int}(a8:1000<F)(a9: -72<=a/\a<=72)(hb: -72<=b/\b<=72):BB (f60 F [a,b,c] x y) (λout=>∃m,Th a b x y 145 m out):=by
 unfold f60;refine Bq (S:=λout=>∃m,Th a b x y 145 m out) ?_ (λr am=>Au am);refine Dx 145 (λk s=>s.2=(k:Int) - 72/\∃m,Th a b x y k m s.1) ⟨V,0,V,(λn U=>by cases U),(λ_ n U=>by cases U)⟩ (by omega) ?_ ?_
 ·rintro k ⟨out,n⟩ bb ⟨U,m,Z,hm,ap⟩;simp only at U Z hm ap;have hlen:out.length<=144:=by
   rw [Z,List.length_map];exact Nat.le_trans (List.length_filter_le _ _) (by rw [Uy];omega)
  have r3:=bR a b n;unfold Of;refine Cf (by simp only;omega) ?_
  dsimp only;refine Bq (S:=λO=>∃m',Th a b x y (k+1) m' O) ?_ ?_
  ·refine A9 (b:=a) V (Bs (-a) V (by omega) (by omega) ?_);refine Bs (-a - n) V (by omega) (by omega) (A9 (b:=b) V ?_);refine Bs (n - b) V (by omega) (by omega) (A9 (P7 (by omega) (by omega) (by omega)) ?_);refine A9 (P7 (by omega) (by omega) (by omega)) ?_;have l1:=J7 n;have l2:=J7 (-a - n);have be:=J7 (n - b);refine BB.Kj (by rw [JX,JX];omega) (A9 (P7 (by omega) (by omega) (by omega)) ?_);refine BB.Kj (by rw [List.length_append,JX,JX,JX];omega) ?_;have am:(pay 0 1 n++pay 0 2 (-a - n))++pay 1 2 (n - b)=raw a b n:=V;rw [am];refine A9 (XI (by omega) r3) ?_;have a2:∀(p:Int->Bool),p n=false->(ns (k+1)).filter p=(ns k).filter p:=λp aq=>by
    rw [PZ,List.filter_append,← U,List.filter_cons_of_neg (by rw [aq];decide)];simp
   have a3:∀(p:Int->Bool),p n=true->(ns (k+1)).filter p=(ns k).filter p++ [n]:=λp aq=>by
    rw [PZ,List.filter_append,← U,List.filter_cons_of_pos aq];rfl
   have av:∀{q:Int},q∈ns (k+1)↔q∈ns k∨q=n:=by
    intro q;rw [PZ,List.mem_append,List.mem_singleton,← U]
   have ay:∀s O,out=s::O->s.length=m:=by
    intro s O e;rw [e] at Z;have:s∈((ns k).filter λn=> !Fc x y (raw a b n)&&((raw a b n).length==m)).map (Eh a b):=by rw [← Z];exact List.mem_cons_self
    obtain⟨q,K,rfl⟩:=List.mem_map.1 this;have:=(List.mem_filter.1 K).2;rw [Bool.and_eq_true,beq_iff_eq] at this;unfold Eh;rw [Lc];exact this.2
   refine Bq (S:=λc=>c=(Fc x y (raw a b n) || (!out.isEmpty&&decide (m<(raw a b n).length)))) ?_ ?_
   ·refine BS (λh=>Au (by rw [h];rfl)) (λh=>?_);rw [Bool.eq_false_iff.2 h,Bool.false_or];cases ag:out with
    | nil=>exact BH (by simp) (Au rfl)
    | cons s O=>
     refine Cf (by simp only [List.length_cons];omega) (A9 (b:=s) V (Au ?_));have:=ay s O ag;simp only [List.isEmpty_cons,Bool.not_false,Bool.true_and];by_cases q:m<(raw a b n).length
     ·rw [decide_eq_true q];exact decide_eq_true (by omega)
     ·rw [decide_eq_false q];exact decide_eq_false (by omega)
   rintro c rfl;refine BS (λh=>?_) (λh=>?_)
   ·refine Au ⟨m,?_,?_,?_⟩
    ·show _=_;rw [a2 _ ?_]
     ·exact Z
     ·rcases Q7 h with h | h
      ·rw [h];rfl
      ·rw [Bool.and_eq_true] at h;have:=of_decide_eq_true h.2;rw [show((raw a b n).length==m)=false from beq_eq_false_iff_ne.2 (by omega),Bool.and_false]
    ·intro q K Y;rcases av.1 K with K | rfl
     ·exact hm q K Y
     ·rcases Q7 h with h | h
      ·rw [h] at Y;cases Y
      ·rw [Bool.and_eq_true] at h;have:=of_decide_eq_true h.2;omega
    ·intro e q K;rcases av.1 K with K | rfl
     ·exact ap e q K
     ·rcases Q7 h with h | h
      ·exact h
      ·rw [e] at h;simp at h
   ·have az:Fc x y (raw a b n)=false:=by
     cases q:Fc x y (raw a b n)
     ·rfl
     ·rw [q] at h;simp at h
    rw [az,Bool.false_or] at h;refine Bq (S:=λc=>c=(!out.isEmpty&&decide ((raw a b n).length<m))) ?_ ?_
    ·cases ag:out with
     | nil=>exact BH (by simp) (Au rfl)
     | cons s O=>
      refine Cf (by simp only [List.length_cons];omega) (A9 (b:=s) V (Au ?_));have:=ay s O ag;simp only [List.isEmpty_cons,Bool.not_false,Bool.true_and];by_cases q:(raw a b n).length<m
      ·rw [decide_eq_true q];exact decide_eq_true (by omega)
      ·rw [decide_eq_false q];exact decide_eq_false (by omega)
    rintro c rfl;have a4:∀ac:List (List DT),ac=((ns k).filter λq=> !Fc x y (raw a b q)&&((raw a b q).length==(raw a b n).length)).map (Eh a b)->(∀q∈ns k,Fc x y (raw a b q)=false->(raw a b n).length<=(raw a b q).length)->ac.length<=144->
      BB ((f109 F (raw a b n)).bind λa5=>(room ac a5).bind λa6=>some a6) (λO=>∃m',Th a b x y (k+1) m' O):=by
     intro ac aw e2 a0;refine A9 (ZA (by omega) (by omega) (Yx a b n)) (Pr (by omega) (Au ⟨(raw a b n).length,?_,?_,?_⟩))
     ·rw [a3 _ (by rw [az];simp),List.map_append,← aw];rfl
     ·intro q K Y;rcases av.1 K with K | rfl
      ·exact e2 q K Y
      ·exact Nat.le_refl _
     ·intro e;simp at e
    refine Bq (S:=λac=>ac=((ns k).filter λq=> !Fc x y (raw a b q)&&((raw a b q).length==(raw a b n).length)).map (Eh a b)/\(∀q∈ns k,Fc x y (raw a b q)=false->(raw a b n).length<=(raw a b q).length)/\ac.length<=144) ?_ ?_
    ·refine BS (λal=>Au ?_) (λal=>Au ?_)
     ·rw [Bool.and_eq_true] at al;have al:=of_decide_eq_true al.2;refine⟨?_,λq K Y=>by have:=hm q K Y;omega,by simp⟩;rw [List.filter_eq_nil_iff.2]
      ·rfl
      ·intro q K hh;rw [Bool.and_eq_true,beq_iff_eq,Bool.not_eq_true'] at hh;have:=hm q K hh.1;omega
     ·cases ag:out with
      | nil=>
       have a1:=ap ag;refine⟨?_,(λq K Y=>by rw [a1 q K] at Y;cases Y),by simp⟩;rw [List.filter_eq_nil_iff.2]
       ·rfl
       ·intro q K hh;rw [a1 q K] at hh;cases hh
      | cons s O=>
       rw [ag] at h al;simp only [List.isEmpty_cons,Bool.not_false,Bool.true_and,decide_eq_true_eq] at h al;have e:(raw a b n).length=m:=by omega
       rw [e,← ag];exact⟨Z,hm,hlen⟩
    ·rintro ac ⟨aw,e2,a0⟩;exact a4 ac aw e2 a0
  ·rintro O ⟨m',a7⟩;exact Bs (((k+1:Nat):Int) - 72) (by omega) (by omega) (by omega) (Au ⟨V,m',a7⟩)
 ·rintro⟨out,n⟩ ⟨U,m,Z⟩;simp only at U Z;unfold Of;exact BH (by simp only;omega) (Au ⟨_,V,m,Z⟩)
theorem Th.perm{a b x y:Int}{m m0:Nat}{out:List (List DT)}{N:List Int}(h:Th a b x y 145 m out)(ac:N.Nodup)(hm:∀n,n∈N↔(-72<=n/\n<=72)/\Fc x y (raw a b n)=false/\(raw a b n).length=m0)(ag:N≠ [])(al:∀n,Fc x y (raw a b n)=false->m0<=(raw a b n).length):out.Perm (N.map (Eh a b)):=by
 obtain⟨U,am,ap⟩:=h;obtain⟨O,aq⟩:=List.exists_mem_of_ne_nil N ag;obtain⟨Y,g2,av⟩:=(hm O).1 aq;have e:m=m0:=by
  have k1:=am O (Qf.2 Y) g2;cases Z:out with
  | nil=>have:=ap Z O (Qf.2 Y);rw [this] at g2;cases g2
  | cons s S=>
   have:s∈out:=by rw [Z];exact List.mem_cons_self
   rw [U] at this;obtain⟨q,K,rfl⟩:=List.mem_map.1 this;have K:=(List.mem_filter.1 K).2;rw [Bool.and_eq_true,beq_iff_eq,Bool.not_eq_true'] at K;have:=al q K.1;omega
 subst e;rw [U];refine List.Perm.map _ ((List.perm_ext_iff_of_nodup ((Yw 145).filter _) ac).2 λn=>?_);rw [List.mem_filter,Qf,hm n,Bool.and_eq_true,beq_iff_eq,Bool.not_eq_true']
def bt(x y:Int)(d:DT):Bool:=(decide (d.1=x)&&decide (d.2.1=y)) || (decide (d.1=y)&&decide (d.2.1=x))
theorem PT(x y u v t:Int):(pay u v t).any (bt x y)=(bt x y (u,v,0)&&decide (t≠0)):=by
 rcases Nj u v t with⟨K,O⟩ | ⟨K,O⟩ | ⟨K,O⟩
 ·rw [K,decide_eq_false (by omega),Bool.and_false];rfl
 ·rw [K,decide_eq_true (by omega),Bool.and_true];simp [bt]
 ·rw [K,decide_eq_true (by omega),Bool.and_true];simp only [List.any_cons,List.any_nil,Bool.or_false,bt];rw [Bool.or_comm,Bool.and_comm (decide (v=y)),Bool.and_comm (decide (v=x))]
theorem NF(x y a b n:Int):Fc x y (raw a b n)=(decide (x≠y)&&(((bt x y (0,1,0)&&decide (n≠0)) || (bt x y (0,2,0)&&decide (-a - n≠0))) || (bt x y (1,2,0)&&decide (n - b≠0)))):=by
 show(decide (x≠y)&&(raw a b n).any (bt x y))=_;unfold raw;rw [List.any_append,List.any_append,PT,PT,PT]
theorem Jg(x y:Int):pay x y 0= []:=rfl
theorem Ke{x y v:Int}(h:v≠0): [dP x (x,y) v]=pay x y (-v):=by
 unfold dP pay;simp only [show x+y - x=y by omega];split
 ·rw [if_neg (by omega),if_pos (by omega),Int.neg_neg]
 ·rw [if_pos (by omega)]
theorem ei{x y v:Int}(h:v≠0): [dP y (x,y) v]=pay x y v:=by
 unfold dP pay;simp only [show x+y - y=x by omega];split
 ·rfl
 ·rw [if_pos (by omega)]
theorem K9{n k:Nat}{l:List PR}{w:List Int}{out:List DT}{p i:Nat}{x:PR}(K:IA n l=some p)(O:l.findIdx (BE p)=i)(U:l.getD i (0,0)=x):
  Cr n (k+1) l w out=if gN w p=0 then none else Cr n k (l.eraseIdx i) (Hv w (dP p x (gN w p))) (out++ [dP p x (gN w p)]):=by
 subst O U;show(IA n l).bind _=_;rw [K];rfl
variable {a b c:Int}{out:List DT}
section
theorem Ve:Hv [a,b,c,0,0] (dP 0 (0,1) a)= [0,b+a,c,0,0]:=by unfold Hv dP;split <;> simp [Fh,gN] <;> omega
theorem dI:Hv [a,b,c,0,0] (dP 1 (0,1) b)= [a+b,0,c,0,0]:=by unfold Hv dP;split <;> simp [Fh,gN] <;> omega
theorem Vg:Hv [a,b,c,0,0] (dP 0 (0,2) a)= [0,b,c+a,0,0]:=by unfold Hv dP;split <;> simp [Fh,gN] <;> omega
theorem dN:Hv [a,b,c,0,0] (dP 1 (1,2) b)= [a,0,c+b,0,0]:=by unfold Hv dP;split <;> simp [Fh,gN] <;> omega
theorem K2{x y z:Int}:Cr 3 0 [] [x,y,z,0,0] out=if x=0/\y=0/\z=0 then some out else none:=by
 show(if [x,y,z,0,0]= [0,0,0,0,0] then some out else none)=_
 by_cases h:x=0/\y=0/\z=0
 ·rw [if_pos h,if_pos (by rw [h.1,h.2.1,h.2.2])]
 ·rw [if_neg h,if_neg (by intro e;injection e with K e;injection e with e2 e;injection e with O e;exact h ⟨K,e2,O⟩)]
theorem dO:Cr 3 1 [(0,1)] [a,b,c,0,0] out=if a=0 then none else Cr 3 0 [] [0,b+a,c,0,0] (out++ [dP 0 (0,1) a]):=by
 rw [K9 (p:=0) (i:=0) (x:=(0,1)) (by decide) (by decide) (by decide),← Ve];rfl
theorem Vk:Cr 3 1 [(0,2)] [a,b,c,0,0] out=if a=0 then none else Cr 3 0 [] [0,b,c+a,0,0] (out++ [dP 0 (0,2) a]):=by
 rw [K9 (p:=0) (i:=0) (x:=(0,2)) (by decide) (by decide) (by decide),← Vg];rfl
theorem QX:Cr 3 1 [(1,2)] [a,b,c,0,0] out=if b=0 then none else Cr 3 0 [] [a,0,c+b,0,0] (out++ [dP 1 (1,2) b]):=by
 rw [K9 (p:=1) (i:=0) (x:=(1,2)) (by decide) (by decide) (by decide),← dN];rfl
theorem bB:Cr 3 2 [(0,1),(0,2)] [a,b,c,0,0] out=if b=0 then none else Cr 3 1 [(0,2)] [a+b,0,c,0,0] (out++ [dP 1 (0,1) b]):=by
 rw [K9 (p:=1) (i:=0) (x:=(0,1)) (by decide) (by decide) (by decide),← dI];rfl
theorem bZ:Cr 3 2 [(0,1),(1,2)] [a,b,c,0,0] out=if a=0 then none else Cr 3 1 [(1,2)] [0,b+a,c,0,0] (out++ [dP 0 (0,1) a]):=by
 rw [K9 (p:=0) (i:=0) (x:=(0,1)) (by decide) (by decide) (by decide),← Ve];rfl
theorem ZW:Cr 3 2 [(0,2),(1,2)] [a,b,c,0,0] out=if a=0 then none else Cr 3 1 [(1,2)] [0,b,c+a,0,0] (out++ [dP 0 (0,2) a]):=by
 rw [K9 (p:=0) (i:=0) (x:=(0,2)) (by decide) (by decide) (by decide),← Vg];rfl
variable (hc:a+b+c=0)
include hc
theorem OP:F0 3 [a,b,c,0,0] []=if a=0/\b=0 then some (Eh a b 0) else none:=by
 show(Cr 3 0 [] _ []).map Cs=_;rw [K2];by_cases h:a=0/\b=0
 ·rw [if_pos h,if_pos ⟨h.1,h.2,by omega⟩,h.1,h.2];rfl
 ·rw [if_neg h,if_neg (λq=>h ⟨q.1,q.2.1⟩)];rfl
theorem QU:F0 3 [a,b,c,0,0] [(0,1)]=if a≠0/\a+b=0 then some (Eh a b b) else none:=by
 show(Cr 3 1 [(0,1)] _ []).map Cs=_;rw [dO];by_cases h:a=0
 ·rw [if_pos h,if_neg (λq=>q.1 h)];rfl
 ·rw [if_neg h,K2];by_cases k:a+b=0
  ·rw [if_pos ⟨rfl,by omega,by omega⟩,if_pos ⟨h,k⟩,List.nil_append,Ke h];unfold Eh raw;rw [show -a - b=0 by omega,show b - b=0 by omega,show -a=b by omega,Jg,Jg];simp
  ·rw [if_neg (λq=>k (by omega)),if_neg (λq=>k q.2)];rfl
theorem QY:F0 3 [a,b,c,0,0] [(0,2)]=if a≠0/\b=0 then some (Eh a b 0) else none:=by
 show(Cr 3 1 [(0,2)] _ []).map Cs=_;rw [Vk];by_cases h:a=0
 ·rw [if_pos h,if_neg (λq=>q.1 h)];rfl
 ·rw [if_neg h,K2];by_cases k:b=0
  ·rw [if_pos ⟨rfl,by omega,by omega⟩,if_pos ⟨h,k⟩,List.nil_append,Ke h];unfold Eh raw;rw [show -a - 0= -a by omega,show 0 - b=0 by omega,Jg,Jg];simp
  ·rw [if_neg (λq=>k q.2.1),if_neg (λq=>k q.2)];rfl
theorem QV:F0 3 [a,b,c,0,0] [(1,2)]=if b≠0/\a=0 then some (Eh a b 0) else none:=by
 show(Cr 3 1 [(1,2)] _ []).map Cs=_;rw [QX];by_cases h:b=0
 ·rw [if_pos h,if_neg (λq=>q.1 h)];rfl
 ·rw [if_neg h,K2];by_cases k:a=0
  ·rw [if_pos ⟨k,rfl,by omega⟩,if_pos ⟨h,k⟩,List.nil_append,Ke h];unfold Eh raw;rw [show -a - 0=0 by omega,show 0 - b= -b by omega,Jg,Jg];simp
  ·rw [if_neg (λq=>k q.1),if_neg (λq=>k q.2)];rfl
theorem UA:F0 3 [a,b,c,0,0] [(0,1),(0,2)]=if b≠0/\a+b≠0 then some (Eh a b b) else none:=by
 show(Cr 3 2 [(0,1),(0,2)] _ []).map Cs=_;rw [bB];by_cases h:b=0
 ·rw [if_pos h,if_neg (λq=>q.1 h)];rfl
 ·rw [if_neg h,Vk];by_cases k:a+b=0
  ·rw [if_pos k,if_neg (λq=>q.2 k)];rfl
  ·rw [if_neg k,K2,if_pos ⟨rfl,rfl,by omega⟩,if_pos ⟨h,k⟩,List.nil_append,Ke k,ei h];unfold Eh raw;rw [show -(a+b)= -a - b by omega,show b - b=0 by omega,Jg];simp
theorem T4:F0 3 [a,b,c,0,0] [(0,1),(1,2)]=if a≠0/\a+b≠0 then some (Eh a b (-a)) else none:=by
 show(Cr 3 2 [(0,1),(1,2)] _ []).map Cs=_;rw [bZ];by_cases h:a=0
 ·rw [if_pos h,if_neg (λq=>q.1 h)];rfl
 ·rw [if_neg h,QX];by_cases k:a+b=0
  ·rw [if_pos (by omega),if_neg (λq=>q.2 k)];rfl
  ·rw [if_neg (by omega),K2,if_pos ⟨rfl,rfl,by omega⟩,if_pos ⟨h,k⟩,List.nil_append,Ke (v:=b+a) (by omega),Ke h];unfold Eh raw;rw [show -(b+a)= -a - b by omega,show -a - -a=0 by omega,Jg];simp
theorem Uh:F0 3 [a,b,c,0,0] [(0,2),(1,2)]=if a≠0/\b≠0 then some (Eh a b 0) else none:=by
 show(Cr 3 2 [(0,2),(1,2)] _ []).map Cs=_;rw [ZW];by_cases h:a=0
 ·rw [if_pos h,if_neg (λq=>q.1 h)];rfl
 ·rw [if_neg h,QX];by_cases k:b=0
  ·rw [if_pos k,if_neg (λq=>q.2 k)];rfl
  ·rw [if_neg k,K2,if_pos ⟨rfl,rfl,by omega⟩,if_pos ⟨h,k⟩,List.nil_append,Ke k,Ke h];unfold Eh raw;rw [show -a - 0= -a by omega,show 0 - b= -b by omega,Jg];simp
end
theorem ON(w:List Int)(P:PR->Bool):FW 3 w P=if(Ct 3 w P 0 [] (C5 3)).isEmpty=false then Ct 3 w P 0 [] (C5 3) else if(Ct 3 w P 1 [] (C5 3)).isEmpty=false then Ct 3 w P 1 [] (C5 3) else Ct 3 w P 2 [] (C5 3):=by
 unfold FW;rw [show List.range 3= [0,1,2] from rfl];simp only [List.map_cons,List.map_nil,List.find?_cons,List.find?_nil];cases O:(Ct 3 w P 0 [] (C5 3)).isEmpty
 ·simp
 ·cases U:(Ct 3 w P 1 [] (C5 3)).isEmpty
  ·simp
  ·cases K:(Ct 3 w P 2 [] (C5 3)).isEmpty
   ·simp
   ·simp [List.isEmpty_iff.1 K]
theorem H0(w:List Int)(P:PR->Bool)(m:Nat)(K:List PR)(h:(C5 3).filter P=K):Ct 3 w P m [] (C5 3)=(Fx m K).filterMap (F0 3 w):=by unfold Ct;rw [h];simp only [List.nil_append]
section
variable (hc:a+b+c=0)
include hc
theorem Um:∃N:List Int,∃m0,FW 3 [a,b,c,0,0] (λ_=>true)=N.map (Eh a b)/\N.Nodup/\N≠ []/\(∀n,n∈N↔nz n+nz (-a - n)+nz (n - b)=m0)/\∀n,m0<=nz n+nz (-a - n)+nz (n - b):=by
 have U:=H0 [a,b,c,0,0] (λ_=>true) 0 [(0,1),(0,2),(1,2)] (by decide);have Y:=H0 [a,b,c,0,0] (λ_=>true) 1 [(0,1),(0,2),(1,2)] (by decide);have e2:=H0 [a,b,c,0,0] (λ_=>true) 2 [(0,1),(0,2),(1,2)] (by decide);rw [ON,U,Y,e2];simp only [Fx,List.map_cons,List.map_nil,List.append_nil,List.nil_append,List.cons_append,List.filterMap_cons,List.filterMap_nil,OP hc,QU hc,QY hc,QV hc,UA hc,T4 hc,Uh hc];by_cases K:a=0
 ·by_cases hb:b=0
  ·refine⟨[0],0,by simp [K,hb],by simp,by simp,λn=>?_,λn=>by omega⟩;rw [List.mem_singleton];unfold nz;(repeat' split) <;> omega
  ·refine⟨[0],1,by simp [K,hb],by simp,by simp,λn=>?_,λn=>?_⟩
   ·rw [List.mem_singleton];unfold nz;(repeat' split) <;> omega
   ·unfold nz;(repeat' split) <;> omega
 ·by_cases hb:b=0
  ·refine⟨[0],1,by simp [K,hb],by simp,by simp,λn=>?_,λn=>?_⟩
   ·rw [List.mem_singleton];unfold nz;(repeat' split) <;> omega
   ·unfold nz;(repeat' split) <;> omega
  ·by_cases O:a+b=0
   ·refine⟨[b],1,by simp [K,hb,O],by simp,by simp,λn=>?_,λn=>?_⟩
    ·rw [List.mem_singleton];unfold nz;(repeat' split) <;> omega
    ·unfold nz;(repeat' split) <;> omega
   ·refine⟨[b,-a,0],2,by simp [K,hb,O],?_,by simp,λn=>?_,λn=>?_⟩
    ·simp;omega
    ·simp only [List.mem_cons,List.not_mem_nil,or_false];unfold nz;(repeat' split) <;> omega
    ·unfold nz;(repeat' split) <;> omega
theorem dm:FW 3 [a,b,c,0,0] (JE (0,1))= [Eh a b 0]:=by
 rw [ON,H0 _ _ 0 [(0,2),(1,2)] (by decide),H0 _ _ 1 [(0,2),(1,2)] (by decide),H0 _ _ 2 [(0,2),(1,2)] (by decide)];simp only [Fx,List.map_cons,List.map_nil,List.append_nil,List.nil_append,List.cons_append,List.filterMap_cons,List.filterMap_nil,OP hc,QY hc,QV hc,Uh hc];by_cases K:a=0 <;> by_cases hb:b=0 <;> simp [K,hb]
theorem dq:FW 3 [a,b,c,0,0] (JE (0,2))= [Eh a b (-a)]:=by
 rw [ON,H0 _ _ 0 [(0,1),(1,2)] (by decide),H0 _ _ 1 [(0,1),(1,2)] (by decide),H0 _ _ 2 [(0,1),(1,2)] (by decide)];simp only [Fx,List.map_cons,List.map_nil,List.append_nil,List.nil_append,List.cons_append,List.filterMap_cons,List.filterMap_nil,OP hc,QU hc,QV hc,T4 hc];by_cases K:a=0
 ·by_cases hb:b=0 <;> simp [K,hb]
 ·by_cases O:a+b=0
  ·have:b= -a:=by omega
   have U:a+ -a=0:=by omega
   simp [K,this,U]
  ·simp [K,O]
theorem dA:FW 3 [a,b,c,0,0] (JE (1,2))= [Eh a b b]:=by
 rw [ON,H0 _ _ 0 [(0,1),(0,2)] (by decide),H0 _ _ 1 [(0,1),(0,2)] (by decide),H0 _ _ 2 [(0,1),(0,2)] (by decide)];simp only [Fx,List.map_cons,List.map_nil,List.append_nil,List.nil_append,List.cons_append,List.filterMap_cons,List.filterMap_nil,OP hc,QU hc,QY hc,UA hc];by_cases hb:b=0
 ·by_cases K:a=0 <;> simp [K,hb]
 ·by_cases O:a+b=0
  ·have:a= -b:=by omega
   have U: -b+b=0:=by omega
   simp [hb,this,U]
  ·simp [hb,O]
end
theorem mm{i j p q:Nat}(K:min i j=p)(O:max i j=q):((min (i:Int) j,max (i:Int) j):Int×Int)=((p:Int),(q:Int)):=Prod.ext (by simp only;omega) (by simp only;omega)
theorem ZY{i j:Nat}(hi:i<3)(K:j<3)(O:i≠j):(min i j=0/\max i j=1/\(i=0/\j=1∨i=1/\j=0))∨(min i j=0/\max i j=2/\(i=0/\j=2∨i=2/\j=0))∨(min i j=1/\max i j=2/\(i=1/\j=2∨i=2/\j=1)):=by omega
theorem RH{a b c:Int}(hc:a+b+c=0)(ag: -72<=a/\a<=72)(hb: -72<=b/\b<=72){i j:Nat}(hi:i<3)(U:j<3)(Y:i≠j):
  ∃n,FW 3 [a,b,c,0,0] (JE (min (i:Int) j,max (i:Int) j))= [Eh a b n]/\∀{m:Nat} {out:List (List DT)},Th a b i j 145 m out->out= [Eh a b n]:=by
 have key:∀K:Int,(-72<=K/\K<=72)->(∀n,Fc i j (raw a b n)=false↔n=K)->∀{m:Nat} {out:List (List DT)},Th a b i j 145 m out->out= [Eh a b K]:=by
  intro K Z hb m out h;have:=h.perm (N:= [K]) (m0:=(raw a b K).length) (by simp) (λn=>?_) (by simp) (λn ac=>by rw [(hb n).1 ac];exact Nat.le_refl _)
  ·exact List.perm_singleton.1 this
  ·rw [List.mem_singleton,hb n];exact⟨λe=>by subst e;exact⟨Z,rfl,rfl⟩,λe=>e.2.1⟩
 rcases ZY hi U Y with⟨O,e2,hh⟩ | ⟨O,e2,hh⟩ | ⟨O,e2,hh⟩
 ·refine⟨0,by rw [mm O e2];exact dm hc,key 0 (by omega) λn=>?_⟩;rw [NF];rcases hh with⟨rfl,rfl⟩ | ⟨rfl,rfl⟩ <;> simp [bt]
 ·refine⟨-a,by rw [mm O e2];exact dq hc,key (-a) (by omega) λn=>?_⟩;rw [NF];rcases hh with⟨rfl,rfl⟩ | ⟨rfl,rfl⟩ <;> simp [bt] <;> omega
 ·refine⟨b,by rw [mm O e2];exact dA hc,key b (by omega) λn=>?_⟩;rw [NF];rcases hh with⟨rfl,rfl⟩ | ⟨rfl,rfl⟩ <;> simp [bt] <;> omega
theorem Xq{a b c:Int}(hc:a+b+c=0)(ap: -72<=a/\a<=72)(hb: -72<=b/\b<=72){m:Nat}{out:List (List DT)}(h:Th a b 0 0 145 m out):out.Perm (FW 3 [a,b,c,0,0] λ_=>true):=by
 obtain⟨N,m0,e,O,U,Y,K⟩:=Um hc;rw [e];have Z:∀n,Fc 0 0 (raw a b n)=false:=λn=>by rw [NF];simp
 refine h.perm O (m0:=m0) (λn=>?_) U λn _=>by rw [P5];exact K n
 rw [Y n,P5];refine⟨λk=>⟨?_,Z n,k⟩,λk=>k.2.2⟩;have aq:=K 0;have av:nz 0=0:=V;have l1:=J7 (-a - 0);have l2:=J7 (0 - b);have z:∀v:Int,v≠0->nz v=1:=λv ac=>if_neg ac;by_cases ag:n=0
 ·omega
 by_cases al: -a - n=0
 ·omega
 by_cases am:n - b=0
 ·omega
 rw [z n ag,z _ al,z _ am] at k;omega
theorem Zl(x:DT):EF x x=false:=by rw [J0];omega
theorem aX{x y z:DT}(K:EF x y=true)(O:EF y z=true):EF x z=true:=by
 rw [PX] at*;omega
theorem NB:∀l:List DT,CJ l l=false
 | []=>rfl
 | x::xs=>by unfold CJ;rw [if_pos rfl];exact NB xs
theorem QC:∀{a b c:List DT},CJ a b=true->CJ b c=true->CJ a c=true
 | [],[],c,h,_=>by cases h
 | [],_::_,[],_,h=>by cases h
 | [],_::_,_::_,_,_=>rfl
 | _::_,[],_,h,_=>by cases h
 | _::_,_::_,[],_,h=>by cases h
 | x::xs,y::ys,z::ac,O,K=>by
  unfold CJ at O K ⊢
  by_cases U:x=y
  ·subst U
   rw [if_pos rfl] at O;by_cases e2:x=z
   ·rw [if_pos e2] at K ⊢;exact QC O K
   ·rw [if_neg e2] at K ⊢;exact K
  ·rw [if_neg U] at O;by_cases e2:y=z
   ·subst e2;rw [if_neg U];exact O
   ·rw [if_neg e2] at K;have Y:=aX O K;by_cases Z:x=z
    ·subst Z;rw [Zl] at Y;cases Y
    ·rw [if_neg Z];exact Y
theorem SO:∀{a b:List DT},CJ a b=false->CJ b a=false->a=b
 | [],[],_,_=>rfl
 | [],_::_,h,_=>by cases h
 | _::_,[],_,h=>by cases h
 | x::xs,y::ys,K,O=>by
  unfold CJ at K O
  by_cases e:x=y
  ·subst e
   rw [if_pos rfl] at K O;rw [SO K O]
  ·rw [if_neg e] at K;rw [if_neg (λq=>e q.symm)] at O;exact absurd (Yo O K) e
theorem XO:∀l:List (List DT),∀s∈l,CJ s (Jv l)=false:=by
 have:∀l:List (List DT),(l≠ []->(l.foldl DZ ([],false)).2=true)/\∀s∈l,CJ s (l.foldl DZ ([],false)).1=false:=by
  refine KH ⟨λh=>absurd V h,λs K=>by cases K⟩ λl x h=>?_;obtain⟨O,Y⟩:=h;rw [List.foldl_append];show(_->(DZ _ x).2=true)/\∀s∈l++ [x],CJ s (DZ _ x).1=false;by_cases Z:l= []
  ·subst Z;refine⟨λ_=>V,λs K=>?_⟩;cases List.mem_singleton.1 K;exact NB _
  ·have O:=O Z;generalize l.foldl DZ ([],false)=b at O Y;unfold DZ;rw [O];simp only [Bool.not_true,Bool.false_or];by_cases U:CJ x b.1=true
   ·rw [if_pos U];refine⟨λ_=>V,λs K=>?_⟩;rcases List.mem_append.1 K with K | K
    ·have:=Y s K;cases q:CJ s x
     ·rfl
     ·rw [QC q U] at this;cases this
    ·cases List.mem_singleton.1 K;exact NB _
   ·rw [if_neg U];refine⟨λ_=>O,λs K=>?_⟩;rcases List.mem_append.1 K with K | K
    ·exact Y s K
    ·cases List.mem_singleton.1 K;exact Bool.eq_false_iff.2 U
 exact λl=>(this l).2
def IZ(l:List DT):List Int:=l.flatMap λd=> [d.1,d.2.1,d.2.2]
theorem Md:∀l:List DT,(IZ l).length=3*l.length
 | []=>rfl
 | d::l=>by
  show([d.1,d.2.1,d.2.2]++IZ l).length=_
  rw [List.length_append,Md l];simp;omega
def I0:List Int->List Int->Bool
 | x::xs,y::ys=>if x=y then I0 xs ys else decide (x<y)
 | _,_=>false
theorem Xw(x y:Int)(xs ys:List Int):I0 (x::xs) (y::ys)=if x=y then I0 xs ys else decide (x<y):=rfl
theorem SA:∀{s t:List DT},s.length=t.length->I0 (IZ s) (IZ t)=CJ s t
 | [],[],_=>rfl
 | d::s,e::t,h=>by
  have ac:=SA (s:=s) (t:=t) (by simpa using h)
  obtain⟨d1,d2,d3⟩:=d;obtain⟨O,e2,U⟩:=e
  show(if d1=O then if d2=e2 then if d3=U then I0 (IZ s) (IZ t) else decide (d3<U) else decide (d2<e2) else decide (d1<O))=if(d1,d2,d3)=(O,e2,U) then CJ s t else EF (d1,d2,d3) (O,e2,U)
  rw [ac]
  unfold EF
  simp only [Prod.mk.injEq]
  by_cases K:d1=O
  ·by_cases Y:d2=e2
   ·by_cases Z:d3=U
    ·rw [if_pos K,if_pos Y,if_pos Z,if_pos ⟨K,Y,Z⟩]
    ·rw [if_pos K,if_pos Y,if_neg Z,if_neg (λq=>Z q.2.2)];exact decide_eq_decide.2 (by omega)
   ·rw [if_pos K,if_neg Y,if_neg (λq=>Y q.2.1)];exact decide_eq_decide.2 (by omega)
  ·rw [if_neg K,if_neg (λq=>K q.1)];exact decide_eq_decide.2 (by omega)
theorem UE{F:Nat}{l:List DT}(U:100<F)(Y:l.length<=20):f62 F l=some (IZ l):=by
 refine Df ?_;unfold f62;refine Bq (S:=λr=>r=IZ l) ?_ (λr O=>Au O);refine Dx l.length (λi s=>s.2=(i:Int)/\s.1=IZ (l.take i)) ⟨V,V⟩ (by omega) ?_ ?_
 ·rintro i ⟨w,z⟩ hi ⟨K,hw⟩;simp only at K hw;subst K;unfold N8;refine Cf (by simp only;omega) (CZ (m:=i) V hi ?_);refine CZ (m:=i) V hi (CZ (m:=i) V hi ?_);refine BB.Kj (by simp only [hw,Md,List.length_take,List.length_cons,List.length_nil];omega) (Bs ((i+1:Nat):Int) (by simp) (by omega) (by omega) ?_);refine Au ⟨V,?_⟩;simp only;rw [hw,List.take_add_one,List.getElem?_eq_getElem hi];unfold IZ;rw [List.flatMap_append];simp
 ·rintro⟨w,z⟩ ⟨K,hw⟩;simp only at K hw;subst K;unfold N8;exact BH (by simp only;omega) (Au ⟨_,V,by rw [hw,List.take_length]⟩)
theorem bP{F:Nat}{p q:List Int}(U:100<F)(O:p.length=q.length)(Y:p.length<=60):f61 F p q=some (I0 p q):=by
 refine Df ?_;unfold f61;refine Bq (S:=λr=>r=Sum.inl (I0 p q)∨(r=Sum.inr ()/\I0 p q=false)) ?_ ?_
 ·refine Dx q.length (λi s=>s=(i:Int)/\I0 p q=I0 (p.drop i) (q.drop i)) ⟨V,V⟩ (by omega) ?_ ?_
  ·rintro i s hi ⟨rfl,he⟩;have K:i<p.length:=by omega
   unfold NW;refine Cf (by omega) (BH (by omega) ?_);refine CZ (m:=i) V K (CZ (m:=i) V hi ?_);rw [List.drop_eq_getElem_cons K,List.drop_eq_getElem_cons hi,Xw] at he;refine BS (λk=>?_) (λk=>?_)
   ·rw [if_neg k] at he;refine CZ (m:=i) V K (CZ (m:=i) V hi ?_);exact Au (.inl (by rw [he]))
   ·rw [if_pos (Decidable.not_not.1 k)] at he;exact Bs ((i+1:Nat):Int) (by simp) (by omega) (by omega) (Au ⟨V,he⟩)
  ·rintro s ⟨rfl,he⟩;unfold NW;rw [← O,List.drop_length,O,List.drop_length] at he;exact BH (by omega) (Au ⟨_,V,.inr ⟨V,he⟩⟩)
 ·rintro r (rfl | ⟨rfl,h⟩)
  ·exact Au V
  ·rw [h];exact Au V
theorem Yy{F m:Nat}{L:List (List DT)}(ap:2000<F)(aq:L.length<=1000)(ac:L≠ [])(hm:m<=5)(K:∀s∈L,s.length=m):
  BB (Pal.iter (Mp F L) F (0,0)) (λr=>∃k:Nat,r=(k:Int)/\∃h:k<L.length,∀s∈L,CJ s L[k]=false):=by
 have ag:0<L.length:=List.length_pos_iff.2 ac;refine Dx L.length (λi s=>s.2=(i:Int)/\∃k:Nat,s.1=(k:Int)/\∃h:k<L.length,∀s∈L.take i,CJ s L[k]=false) ⟨V,0,V,ag,λs K=>by cases K⟩ (by omega) ?_ ?_
 ·rintro i ⟨b,z⟩ hi ⟨O,k,U,Y,Z⟩;simp only at O U;subst O;subst U;have l1:=K _ (List.getElem_mem hi);have l2:=K _ (List.getElem_mem Y);unfold Mp;refine Cf (by simp only;omega) (CZ (m:=i) V hi ?_);refine CZ (m:=k) V Y (A9 (UE (by omega) (by omega)) ?_);refine A9 (UE (by omega) (by omega)) (A9 (bP (by omega) (by rw [Md,Md];omega) (by rw [Md];omega)) ?_);rw [SA (by omega)];refine Bq (S:=λr=>∃k:Nat,r=(k:Int)/\∃h:k<L.length,∀s∈L.take (i+1),CJ s L[k]=false) ?_ ?_
  ·refine BS (λh=>Au ⟨i,V,hi,?_⟩) (λh=>Au ⟨k,V,Y,?_⟩)
   ·refine Mi hi (λs K=>?_) (NB _);have:=Z s K;cases q:CJ s L[i]
    ·rfl
    ·rw [QC q h] at this;cases this
   ·exact Mi hi Z (Bool.eq_false_iff.2 h)
  ·rintro r ⟨k',rfl,al,am⟩;exact Bs ((i+1:Nat):Int) (by simp) (by omega) (by omega) (Au ⟨V,k',V,al,am⟩)
 ·rintro⟨b,z⟩ ⟨O,k,U,Y,Z⟩;simp only at O U;subst O;subst U;unfold Mp;rw [List.take_length] at Z;exact BH (by simp only;omega) (Au ⟨_,V,k,V,Y,Z⟩)
theorem dy{j:Int}{d:DT}(K:d.1≠d.2.1)(O:1<=d.2.2)(U:d.2.2<=9): -9<=n1 j d/\n1 j d<=9:=by
 unfold n1;split <;> split <;> omega
theorem U7{n:Nat}{j:Int}:∀{l:List DT},(∀d∈l,VD n d)-> -(9*(l.length:Int))<=nL j l/\nL j l<=9*(l.length:Int)
 | [],_=>by simp [nL]
 | d::l,h=>by
  obtain⟨_,_,_,_,K,O,U⟩:=h d List.mem_cons_self
  have Z:=dy (j:=j) K O U
  have ac:=U7 (j:=j) (l:=l) λx Y=>h x (List.mem_cons_of_mem _ Y)
  rw [Ts,List.length_cons]
  omega
theorem cK{o:OW}(h:VO o)(U:o.1.length=3)(Z:o.2.length<=6):∃a b c,Cb o= [a,b,c,0,0]/\a+b+c=0/\(-72<=a/\a<=72)/\(-72<=b/\b<=72):=by
 obtain⟨-,hw⟩:=Mt (F:=101) (by omega) h;have K:=Zs h;rw [U] at K;have O:=XL h;unfold KU at O;rw [K 4 (by omega),K 3 (by omega)] at O;have hb:∀j:Nat,-72<=gN (Cb o) j/\gN (Cb o) j<=72:=λj=>by
  unfold Cb;rw [TS o.2 _ h.dW (by simp)];have e:gN (List.replicate 5 0) j=0:=by
   unfold gN;rw [List.getD_eq_getElem?_getD,List.getElem?_replicate];split <;> rfl
  rw [e];have:=U7 (j:=(j:Int)) h.ds;omega
 refine⟨gN (Cb o) 0,gN (Cb o) 1,gN (Cb o) 2,?_,by omega,hb 0,hb 1⟩;refine XY hw.1 V λj ac=>?_;have Y:j=0∨j=1∨j=2∨j=3∨j=4:=by omega
 rcases Y with rfl | rfl | rfl | rfl | rfl
 ·rfl
 ·rfl
 ·rfl
 ·exact K 3 (by omega)
 ·exact K 4 (by omega)
theorem Yc{F k c:Nat}{b:Kh}(am:100<F)(hb:BG k b)(ap:k<1000)(hc:c<=6):BB (Pal.iter (Mo F) F (b.1,b.2.1,b.2.2,([]:List DT),(c:Int))) (λr=>r.2.2.2.length<=6/\∀d∈r.2.2.2,VD 3 d):=by
 refine Dx c (λj s=>s.2.2.2.2=((c - j:Nat):Int)/\s.2.2.2.1.length=j/\(∀d∈s.2.2.2.1,VD 3 d)/\BG (k+4*j) (s.1,s.2.1,s.2.2.1)) ⟨V,V,by simp,hb⟩ (by omega) ?_ ?_
 ·rintro j ⟨l,t,ag,al,z⟩ aq ⟨K,hw,O,Y⟩;simp only at K hw O Y;subst K;unfold Mo;refine Cf (by simp only;omega) (Bq (cf (n:=3) Y (by omega) (by omega) (by omega)) ?_);rintro⟨d,av⟩ ⟨Z,ac⟩;simp only at Z ac ⊢;refine BB.Kj (by simp;omega) (Bs ((c - (j+1):Nat):Int) (by omega) (by omega) (by omega) ?_);refine Au ⟨V,by simp [hw],?_,ac.Ah (by omega)⟩;intro x U;rcases List.mem_append.1 U with U | U
  ·exact O x U
  ·cases List.mem_singleton.1 U;exact Z
 ·rintro⟨l,t,ag,al,z⟩ ⟨K,hw,O,Y⟩;simp only at K hw O Y;subst K;unfold Mo;exact BH (by simp) (Au ⟨_,V,by simp only;omega,O⟩)
theorem XC(F:Nat)(L:List (List DT))(x y:Int):Qm F L x y=Qs F x y L:=rfl
theorem ah{F:Nat}(aq:3000<F)(Y:f18 F=some true)(QT:List Int):f15 F QT=some true:=by
 refine Df ?_;unfold f15;refine A9 (b:=(QT,0,2685821657736338717)) V (Bq (N1 (k:=0) (m:=6) ⟨Int.le_refl _,Int.le_refl _⟩ (by omega) (by omega)) ?_);rintro⟨c,a9⟩ ⟨c1,c2,av⟩;simp only at c1 c2 av ⊢;obtain⟨c,rfl⟩:∃m:Nat,c=(m:Int):=⟨c.toNat,by omega⟩;refine Bq (Yc (b:=a9) (by omega) av (by omega) (by omega)) ?_;rintro⟨l,t,b1,D⟩ ⟨aw,ay⟩;simp only at aw ay ⊢;have K:VO ([[1],[],[2]],D):=⟨by simp,by simp,by intro x az;simp at az;rcases az with rfl | rfl | rfl <;> simp [CS],by simp only;omega,by simpa using ay⟩;generalize al:(([[1],[],[2]],D):OW)=o at*;have U:o.1.length=3:=by rw [← al];rfl
 have bb:o.2.length<=6:=by rw [← al];exact aw
 obtain⟨a,b,a0,a1,ac,Z,hb⟩:=cK K U bb;have a2:f55 F o=some [a,b,a0]:=by rw [bu (by omega) K,a1,U];rfl
 have am:∀P,FW o.1.length (Cb o) P=FW 3 [a,b,a0,0,0] P:=λP=>by rw [U,a1]
 refine A9 a2 (Bq (UD (by omega) Z hb) ?_);rintro all ⟨m,a3⟩;have O:all.Perm (Fp o):=by rw [show Fp o=_ from am _];exact Xq ac Z hb a3
 obtain⟨s1,k,be,s2⟩:=So K λ_=>true;have a4:Fp o≠ []:=by
  obtain⟨N,m0,e,_,bi,_⟩:=Um ac;rw [show Fp o=_ from am _,e];intro q;exact bi (List.map_eq_nil_iff.1 q)
 have bn:all≠ []:=λq=>a4 (by rw [q] at O;exact List.perm_nil.1 O.symm);have a5:∀s∈all,s.length=k:=λs h=>s2 s (O.mem_iff.1 h);have b2:all.length<=145:=by
  rw [a3.1,List.length_map];exact Nat.le_trans (List.length_filter_le _ _) (by rw [Uy];omega)
 refine A9 (ck (by omega) K) (A9 (ar (by omega) K) ?_);refine Bq (Yy (m:=k) (by omega) (by omega) bn be a5) ?_;rintro r ⟨q,rfl,a6,bo⟩;have bv:all[q]=Jv (Fp o):=by
  refine SO (XO _ _ (O.mem_iff.1 (List.getElem_mem a6))) (bo _ (O.mem_iff.2 (Zx _ a4)))
 refine Bq (S:=λc=>c=false) (BH (by simp) (Au (by simp))) ?_;rintro c rfl;refine Bq (S:=λc=>c=false) (BH (by simp) (Au (by simp [O.length_eq]))) ?_;rintro c rfl;refine Bq (S:=λc=>c=false) ?_ ?_
 ·refine BH (by simp) (CZ (m:=q) V a6 ?_);rw [bv];refine A9 (aR (by omega) (by have:=V1 K;simp only;omega)) (Au V)
 rintro c rfl;refine BH (by simp) ?_;have bw:∀x y,∀s∈Fp o,s.countP (F3 x y)<=1:=λx y s Y=>ZL K.n5 s Y;refine Bq (S:=λq=>q=Sum.inr ()) ?_ ?_
 ·refine Dx 3 (λi s=>s=(i:Int)) V (by omega) ?_ ?_
  ·rintro i s hi rfl;unfold N2;refine Cf (by omega) (Bq (S:=λq=>q=Sum.inr ()) ?_ ?_)
   ·refine Dx 3 (λi s=>s=(i:Int)) V (by omega) ?_ ?_
    ·rintro j s a7 rfl;unfold N4;refine Cf (by omega) (Bq (S:=λq=>q=Sum.inr ()) ?_ ?_)
     ·refine BS (λ_=>Au V) (λap=>?_);have a8:i≠j:=λe=>ap (by rw [e]);rw [XC,Yq];refine Bq (Tb (by omega) (by omega) λs Y=>by rw [a5 s Y];omega) ?_;rintro x rfl;rw [XE O];have hle:=Ua (bw i j);refine Bq (S:=λv=>v=Q9 (cnt i j (Fp o)) (Fp o).length) ?_ ?_
      ·unfold Q9;refine BS (λh=>Au (by rw [if_pos h])) (λh=>?_);rw [if_neg h];refine Bq (S:=λv=>v=if((cnt i j (Fp o):Nat):Int)<(((Fp o).length:Nat):Int) then 3 else 1) ?_ (λv bx=>Au bx)
       rw [O.length_eq];refine BS (λh=>Au (by rw [if_neg (by omega)])) (λh=>Au (by rw [if_pos (by omega)]))
      rintro v rfl;rw [al];refine A9 (X9 aq K (by rw [U];omega) (by rw [U];omega) ap) (A9 (Zj aq K (by rw [U];omega) (by rw [U];omega) ap) ?_);rw [am];refine Bq (S:=λc=>c=false) ?_ ?_
      ·refine BH (by simp) (Au ?_);split
       ·rename_i bz;obtain⟨n,ag,-⟩:=RH ac Z hb hi a7 a8;rw [bz] at ag;cases ag
       ·simp
      rintro c rfl;refine Bq (S:=λc=>c=false) (BH (by simp) (Au (by simp))) ?_;rintro c rfl;refine Bq (S:=λc=>c=false) ?_ ?_
      ·refine BH (by simp) (A9 a2 ?_);refine Bq (UD (by omega) Z hb) ?_;rintro out ⟨m',b0⟩;obtain⟨n,ag,e2⟩:=RH ac Z hb hi a7 a8;rw [ag,e2 b0];exact A9 (b:=Eh a b n) V (Au (by simp))
      rintro c rfl;exact BH (by simp) (Au V)
     ·rintro q rfl;rw [Sum.elim_inr];exact Bs ((j+1:Nat):Int) (by simp) (by omega) (by omega) (Au V)
    ·rintro s rfl;unfold N4;exact BH (by omega) (Au ⟨_,V,V⟩)
   ·rintro q rfl;rw [Sum.elim_inr];exact Bs ((i+1:Nat):Int) (by simp) (by omega) (by omega) (Au V)
  ·rintro s rfl;unfold N2;exact BH (by omega) (Au ⟨_,V,V⟩)
 ·rintro q rfl;rw [Sum.elim_inr];exact A9 Y (Au V)
end Pal
