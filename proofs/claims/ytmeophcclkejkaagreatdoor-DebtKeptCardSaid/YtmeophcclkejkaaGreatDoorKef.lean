/- DebtKept states that all nets together are 0: a part (6 of 9) of the proof of its row. -/
import Derived.Test.YtmeophcclkejkaaGreatDoorKee
set_option linter.all false
set_option maxRecDepth 100000
namespace Pal
structure PI (n:Nat) (K:List Nat) (w:List Int) (i:Nat) (m:List Int) (out:List DT):Prop where
 ml:m.length=n
 gd:∀d∈out,GD n d
 Ut:∀k,i<k->k<n->gN (out.foldl CU w) (K.getD k 0)=0
 rest:∀k,k<=i->k<n->gN m (K.getD k 0)=gN (out.foldl CU w) (K.getD k 0)
 sub:∀A,∃B,EC (out.foldl CU w) A=EC w B
 pl:∀d∈out,∃k j,i<k/\k<n/\j<k/\((d.1=((K.getD k 0:Nat):Int)/\d.2.1=((K.getD j 0:Nat):Int))∨(d.1=((K.getD j 0:Nat):Int)/\d.2.1=((K.getD k 0:Nat):Int)))
 nd:(out.map eD).Nodup
 ol:out.length+i+1<=n
def IP(out:List DT)(u v:Nat)(z:Int):List DT:=if 0<z then out++ [((u:Int),(v:Int),z)] else if z<0 then out++ [((v:Int),(u:Int),-z)] else out
theorem PI.step{n:Nat}{K:List Nat}{w:List Int}{i j:Nat}{m:List Int}{out:List DT}(h:PI n K w i m out)(ag:n<=5)(hw:w.length=5)(hb:∀A,-72<=EC w A/\EC w A<=72)(U:PN n K)(bv:0<i)(hi:i<n)(a2:j<i):
  PI n K w (i - 1) (m.set (K.getD j 0) (gN m (K.getD j 0)+gN m (K.getD i 0))) (IP out (K.getD j 0) (K.getD i 0) (gN m (K.getD i 0))):=by
 have bw:=U.get hi;have hu:=U.get (show j<n by omega);have a9:K.getD j 0≠K.getD i 0:=λe=>by have:=U.inj (by omega) hi e;omega
 have al:=h.rest i (Nat.le_refl _) hi;have e2:=h.rest j (by omega) (by omega);obtain⟨a3,b0⟩:=KZ ag out w hw h.gd;have b1: -72<=gN m (K.getD i 0)/\gN m (K.getD i 0)<=72:=by
  obtain⟨B,am⟩:=h.sub λx=>x==K.getD i 0;rw [Rz (by omega)] at am;rw [al,am];exact hb B
 have O:∀d∈IP out (K.getD j 0) (K.getD i 0) (gN m (K.getD i 0)),GD n d:=by
  intro d hd;unfold IP at hd;split at hd
  ·rcases List.mem_append.1 hd with hd | hd
   ·exact h.gd d hd
   ·rw [List.mem_singleton] at hd;subst hd;unfold GD;simp only;omega
  ·split at hd
   ·rcases List.mem_append.1 hd with hd | hd
    ·exact h.gd d hd
    ·rw [List.mem_singleton] at hd;subst hd;unfold GD;simp only;omega
   ·exact h.gd d hd
 have aq:∀k,gN ((IP out (K.getD j 0) (K.getD i 0) (gN m (K.getD i 0))).foldl CU w) k=if k=K.getD i 0 then 0 else if k=K.getD j 0 then gN (out.foldl CU w) (K.getD j 0)+gN (out.foldl CU w) (K.getD i 0) else gN (out.foldl CU w) k:=by
  intro k;unfold IP at O ⊢;rw [← al];split
  ·rename_i Y;rw [if_pos Y] at O;have g:=O _ (List.mem_append_right _ List.mem_cons_self);rw [List.foldl_append,List.foldl_cons,List.foldl_nil,Nm a3 ag g];unfold cN;simp only;by_cases k1:k=K.getD i 0
   ·subst k1;rw [if_pos rfl,if_neg (by omega),if_pos rfl];omega
   ·rw [if_neg (by omega),if_neg k1];by_cases Z:k=K.getD j 0
    ·subst Z;rw [if_pos rfl,if_pos rfl];omega
    ·rw [if_neg (by omega),if_neg Z];omega
  ·split
   ·rename_i aw Y;rw [if_neg aw,if_pos Y] at O;have g:=O _ (List.mem_append_right _ List.mem_cons_self);rw [List.foldl_append,List.foldl_cons,List.foldl_nil,Nm a3 ag g];unfold cN;simp only;by_cases k1:k=K.getD i 0
    ·subst k1;rw [if_neg (by omega),if_pos rfl,if_pos rfl];omega
    ·by_cases Z:k=K.getD j 0
     ·subst Z;rw [if_pos rfl,if_neg (by omega),if_neg k1,if_pos rfl];omega
     ·rw [if_neg (by omega),if_neg (by omega),if_neg k1,if_neg Z];omega
   ·have Y:gN m (K.getD i 0)=0:=by omega
    by_cases k1:k=K.getD i 0
    ·subst k1;rw [if_pos rfl,← al,Y]
    ·rw [if_neg k1];by_cases Z:k=K.getD j 0
     ·subst Z;rw [if_pos rfl,Y];omega
     ·rw [if_neg Z]
 have bb:∀d:DT,GD n d->(d.1=((K.getD i 0:Nat):Int)/\d.2.1=((K.getD j 0:Nat):Int)∨d.1=((K.getD j 0:Nat):Int)/\d.2.1=((K.getD i 0:Nat):Int))->eD d ∉ out.map eD:=by
  intro d hd a4 hm;obtain⟨d',a5,e⟩:=List.mem_map.1 hm;obtain⟨k,l,be,ap,a6,a7⟩:=h.pl d' a5;have a1:K.getD k 0≠K.getD i 0:=λe=>by have:=U.inj ap hi e;omega
  have b2:K.getD k 0≠K.getD j 0:=λe=>by have:=U.inj ap (by omega) e;omega
  have:=bN ag (h.gd d' a5) hd e;omega
 refine⟨by rw [List.length_set];exact h.ml,O,λk bi ac=>?_,λk bi ac=>?_,λA=>?_,λd hd=>?_,?_,?_⟩
 ·rw [aq];by_cases a8:k=i
  ·subst a8;rw [if_pos rfl]
  ·rw [if_neg (λe=>a8 (U.inj ac hi e)),if_neg (λe=>by have:=U.inj ac (show j<n by omega) e;omega)];exact h.Ut k (by omega) ac
 ·rw [aq,if_neg (λe=>by have:=U.inj ac hi e;omega)];by_cases a0:k=j
  ·subst a0;rw [if_pos rfl,← al,← e2];unfold gN;rw [List.getD_eq_getElem?_getD,List.getElem?_set_self (by rw [h.ml];exact hu)];rfl
  ·rw [if_neg (λe=>a0 (U.inj ac (by omega) e)),PF (λe=>a0 (U.inj ac (by omega) e.symm))];exact h.rest k (by omega) ac
 ·obtain⟨B,am⟩:=h.sub λx=>if x=K.getD i 0 then A (K.getD j 0) else A x
  exact⟨B,(Wd (p:=K.getD i 0) (o:=K.getD j 0) (by omega) (by omega) a9 aq A).trans am⟩
 ·unfold IP at hd;have old:d∈out->_:=λhd=>let ⟨k,l,be,ap,a6,a7⟩:=h.pl d hd;(⟨k,l,by omega,ap,a6,a7⟩:∃k j,i - 1<k/\k<n/\j<k/\((d.1=((K.getD k 0:Nat):Int)/\d.2.1=((K.getD j 0:Nat):Int))∨(d.1=((K.getD j 0:Nat):Int)/\d.2.1=((K.getD k 0:Nat):Int))));split at hd
  ·rcases List.mem_append.1 hd with hd | hd
   ·exact old hd
   ·rw [List.mem_singleton] at hd;subst hd;exact⟨i,j,by omega,hi,a2,.inr ⟨V,V⟩⟩
  ·split at hd
   ·rcases List.mem_append.1 hd with hd | hd
    ·exact old hd
    ·rw [List.mem_singleton] at hd;subst hd;exact⟨i,j,by omega,hi,a2,.inl ⟨V,V⟩⟩
   ·exact old hd
 ·have add:∀d:DT,GD n d->(d.1=((K.getD i 0:Nat):Int)/\d.2.1=((K.getD j 0:Nat):Int)∨d.1=((K.getD j 0:Nat):Int)/\d.2.1=((K.getD i 0:Nat):Int))->((out++ [d]).map eD).Nodup:=by
   intro d hd a4;rw [List.map_append,List.nodup_append];refine⟨h.nd,by simp,λa bo b hb e=>?_⟩;simp at hb;subst hb;subst e;exact bb d hd a4 bo
  unfold IP at O ⊢;split
  ·rename_i Y;rw [if_pos Y] at O;exact add _ (O _ (List.mem_append_right _ List.mem_cons_self)) (.inr ⟨V,V⟩)
  ·split
   ·rename_i aw Y;rw [if_neg aw,if_pos Y] at O;exact add _ (O _ (List.mem_append_right _ List.mem_cons_self)) (.inl ⟨V,V⟩)
   ·exact h.nd
 ·have:=h.ol;unfold IP;split
  ·rw [List.length_append,List.length_singleton];omega
  ·split
   ·rw [List.length_append,List.length_singleton];omega
   ·omega
theorem PI.fin{n:Nat}{U:List Nat}{o:OW}{m:List Int}{out:List DT}(h:PI n U (Cm o) 0 m out)(Z:VO o)(am:o.1.length=n)(hw:(Cm o).length=5)(ap:U.Perm (List.range n)):out.foldl CU (Cm o)=z5:=by
 have aq:n<=5:=am▸Z.n5;have a4:2<=n:=am▸Z.n2;obtain⟨a1,a2⟩:=KZ aq out (Cm o) hw h.gd;have a5:U.length=n:=by rw [ap.length_eq];simp
 have O:S5 (out.foldl CU (Cm o))=0:=by
  have:∀(l:List DT) (w:List Int),w.length=5->(∀d∈l,GD n d)->S5 (l.foldl CU w)=S5 w:=by
   intro l
   induction l with
   | nil=>exact λ_ _ _=>rfl
   | cons d l ac=>exact λw hw Y=>(ac _ (Sf hw) λe he=>Y e (List.mem_cons_of_mem _ he)).trans (Y5 hw aq (Y d List.mem_cons_self))
  rw [this _ _ hw h.gd,Ul Z]
 have K:∀j,j<5->j≠U.getD 0 0->gN (out.foldl CU (Cm o)) j=0:=by
  intro j aw ag;rcases Nat.lt_or_ge j n with a0 | a0
  ·obtain⟨k,a3,e⟩:=List.getElem_of_mem (ap.mem_iff.2 (List.mem_range.2 a0));have al:U.getD k 0=j:=(KV a3).trans e;have a6:k≠0:=λe=>ag (by rw [e] at al;exact al.symm);rw [← al];exact h.Ut k (by omega) (by omega)
  ·rw [a2,SW Z j (by omega)];have:∀l:List DT,(∀d∈l,GD n d)->(l.map (cN j)).sum=0:=by
    intro l
    induction l with
    | nil=>exact λ_=>rfl
    | cons d l ac=>
     intro Y;obtain⟨a7,g2,a8,a9,_⟩:=Y d List.mem_cons_self;rw [List.map_cons,List.sum_cons,ac λe he=>Y e (List.mem_cons_of_mem _ he)];unfold cN;rw [if_neg (by omega),if_neg (by omega)];rfl
   rw [this out h.gd];rfl
 refine OQ a1 V λj aw=>?_;rw [Mc];by_cases ag:j=U.getD 0 0
 ·unfold S5 EC at O;simp only [if_true] at O;obtain rfl | rfl | rfl | rfl | rfl:j=0∨j=1∨j=2∨j=3∨j=4:=by omega
  ·rw [K 1 (by omega) (by omega),K 2 (by omega) (by omega),K 3 (by omega) (by omega),K 4 (by omega) (by omega)] at O;omega
  ·rw [K 0 (by omega) (by omega),K 2 (by omega) (by omega),K 3 (by omega) (by omega),K 4 (by omega) (by omega)] at O;omega
  ·rw [K 1 (by omega) (by omega),K 0 (by omega) (by omega),K 3 (by omega) (by omega),K 4 (by omega) (by omega)] at O;omega
  ·rw [K 1 (by omega) (by omega),K 2 (by omega) (by omega),K 0 (by omega) (by omega),K 4 (by omega) (by omega)] at O;omega
  ·rw [K 1 (by omega) (by omega),K 2 (by omega) (by omega),K 3 (by omega) (by omega),K 0 (by omega) (by omega)] at O;omega
 ·exact K j aw ag
theorem YK(F:Nat)(o:OW):Mh F o=f55 F o:=by
 have e:Pa F o=L4 F o:=by funext s;rfl
 unfold f55 Mh;rw [e]
structure RP (o:OW) (x:List DT):Prop where
 gd:∀d∈x,GD o.1.length d
 nd:(x.map eD).Nodup
 z:x.foldl CU (Cm o)=z5
 len:x.length+1<=o.1.length
theorem RP.perm{o:OW}{x y:List DT}(h:RP o x)(K:x.Perm y)(O:VO o)(hw:(Cm o).length=5):RP o y:=
 ⟨λd hd=>h.gd d (K.mem_iff.2 hd),(K.map eD).nodup_iff.1 h.nd,(WA O.n5 hw h.gd K).symm.trans h.z,by rw [← K.length_eq];exact h.len⟩
theorem PL{l:List Int}{j:Nat}(h:j<l.length):ix l (j:Int)=some (gN l j):=by
 refine Lf (m:=j) V ?_;rw [List.getElem?_eq_getElem h,JJ h]
theorem VU{F k:Nat}{o:OW}{b a0:Hn}{K:List Nat}(a1:100<F)(h:VO o)(hb:BG k b)(a2:k<2000)(U:PN o.1.length K)(al:K.Perm (List.range o.1.length)):
  BT (Pal.iter (LR F (K.map (λi:Nat=>(i:Int)),a0)) F (b.1,b.2.1,b.2.2,(Cm o).take o.1.length,[],((o.1.length - 1:Nat):Int))) (λr=>RP o r.1/\BG (k+5) r.2):=by
 obtain⟨_,Y⟩:=LW a1 h;have a3:=h.n5;have bb:=h.n2;refine Gs (o.1.length - 1) (λt s=>∃i,i=o.1.length - 1 - t/\s.2.2.2.2.2=(i:Int)/\BG (k+t) (s.1,s.2.1,s.2.2.1)/\PI o.1.length K (Cm o) i s.2.2.2.1 s.2.2.2.2.1) ⟨_,V,by simp,hb,?_⟩ (by omega) ?_ ?_
 ·refine⟨by rw [List.length_take,Y.1];omega,λd hd=>absurd hd List.not_mem_nil,λk a4 am=>by omega,λk a4 am=>?_,λA=>⟨A,V⟩,λd hd=>absurd hd List.not_mem_nil,.nil,by simp;omega⟩;have a2:=U.get am;rw [List.foldl_nil,JJ (by rw [List.length_take,Y.1];omega),JJ (by rw [Y.1];omega),List.getElem_take]
 ·rintro t ⟨l,z,a5,m,out,c⟩ be ⟨i,hi,Z,ac,O⟩;simp only at Z ac O;subst Z;have a6:0<i:=by omega
  have ag:i<o.1.length:=by omega
  unfold LR;refine FT (by simp only;omega) ?_;simp only;have bi:K.length=o.1.length:=by rw [al.length_eq];simp
  have ap:∀q,q<o.1.length->ix (K.map λi:Nat=>(i:Int)) (q:Int)=some ((K.getD q 0:Nat):Int):=λq aq=>by
   refine Lf (m:=q) V ?_;rw [List.getElem?_map,List.getElem?_eq_getElem (by omega),Option.map_some,KV (by omega)]
  refine Bq (ap i ag) (Ch ((i:Int) - 1) V (by omega) (by omega) ?_);refine Cb (JI ac (by omega) (by omega)) ?_;rintro⟨j,bo⟩ ⟨a7,a8,g2⟩;simp only at a7 a8 g2 ⊢;obtain⟨j,rfl⟩:∃q:Nat,j=(q:Int):=⟨j.toNat,by omega⟩;have a9:j<i:=by omega
  refine Bq (ap j (by omega)) ?_;have bv:=U.get ag;have hu:=U.get (show j<o.1.length by omega);have bw:=O.ml;have bd:∀q,q<=i-> -72<=gN m (K.getD q 0)/\gN m (K.getD q 0)<=72:=λq aq=>by
   obtain⟨B,aw⟩:=O.sub λx=>x==K.getD q 0;have b0:=U.get (show q<o.1.length by omega);rw [Rz (by omega)] at aw;rw [O.rest q aq (by omega),aw];exact Ua h B
  have b1:=bd i (Nat.le_refl _);have b2:=bd j (by omega);refine Bq (PL (by omega)) ?_;refine Bq (PL (by omega)) ?_;refine Ch _ V (by omega) (by omega) ?_;refine Bq (PL (by omega)) ?_;have b3:=O.ol;refine Bq (b:=IP out (K.getD j 0) (K.getD i 0) (gN m (K.getD i 0))) ?_ ?_
  ·unfold IP;split
   ·exact ES (KM (by omega) (Bi V))
   ·split
    ·exact ES (Bq (ES (Ch _ V (by omega) (by omega) (KM (by omega) (Bi V)))) (Bi V))
    ·rfl
  refine Ch ((i - 1:Nat):Int) (by omega) (by omega) (by omega) (Bi ⟨i - 1,by omega,V,g2,?_⟩);simp only [Int.toNat_natCast];exact O.step a3 Y.1 (Ua h) U a6 ag a9
 ·rintro⟨l,z,a5,m,out,c⟩ ⟨i,hi,Z,ac,O⟩;simp only at Z ac O;subst Z;obtain rfl:i=0:=by omega
  unfold LR;refine Dx (by simp) (Bi ⟨_,V,⟨O.gd,O.nd,O.fin h V Y.1 al,by have:=O.ol;omega⟩,ac.Ah (by omega)⟩)
theorem Wo{F:Nat}{out:List DT}{K:List Nat}{b ap:Hn}(aw:100<F)(a0:out.length<=5)(ag:PN out.length K)(al:K.Perm (List.range out.length)):
  BT (Pal.iter (LU F (out,b) (K.map (λi:Nat=>(i:Int)),ap)) F (List.replicate out.length (0,0,0),0)) (λr=>out.Perm r):=by
 have a1:K.length=out.length:=by rw [al.length_eq];simp
 refine Gs out.length (λt s=>s.2=(t:Int)/\s.1.length=out.length/\∀q,q<t->s.1[K.getD q 0]? =out[q]?) ⟨V,by simp,λq O=>by omega⟩ (by omega) ?_ ?_
 ·rintro t ⟨l,c⟩ Z ⟨U,ac,Y⟩;simp only at U ac Y;subst U;unfold LU;refine FT (by simp only;omega) ?_;simp only;have hu:=ag.get Z;have am:ix (K.map λi:Nat=>(i:Int)) (t:Int)=some ((K.getD t 0:Nat):Int):=by
   refine Lf (m:=t) V ?_;rw [List.getElem?_map,List.getElem?_eq_getElem (by omega),Option.map_some,KV (by omega)]
  refine Bq am (EU (m:=K.getD t 0) V (by omega) ?_);refine Bq am (EU (m:=t) V Z ?_);refine EU (m:=K.getD t 0) V (by omega) (Ch ((t+1:Nat):Int) (by simp) (by omega) (by omega) ?_);refine Bi ⟨V,by simp [ac],λq O=>?_⟩;simp only [Int.toNat_natCast];by_cases e:q=t
  ·subst e;rw [List.getElem?_set_self (by omega),List.getElem?_eq_getElem Z]
  ·rw [List.getElem?_set_ne (λk=>e (ag.inj Z (by omega) k).symm)];exact Y q (by omega)
 ·rintro⟨l,c⟩ ⟨U,ac,Y⟩;simp only at U ac Y;subst U;unfold LU;refine Dx (by simp) (Bi ⟨_,V,?_⟩);simp only;have aq:out=K.map λp=>l.getD p (0,0,0):=by
   refine List.ext_getElem? λq=>?_;rcases Nat.lt_or_ge q out.length with O | O
   ·have:=ag.get O;rw [← Y q O,List.getElem?_eq_getElem (show K.getD q 0<l.length by omega),List.getElem?_map,List.getElem?_eq_getElem (show q<K.length by omega),Option.map_some,← KV (l:=K) (d:=0) (by omega),KV (l:=l) (by omega)]
   ·rw [List.getElem?_eq_none O,List.getElem?_eq_none (by simp;omega)]
  have e2:(List.range out.length).map (λp=>l.getD p (0,0,0))=l:=by
   refine List.ext_getElem? λq=>?_;rcases Nat.lt_or_ge q out.length with O | O
   ·rw [List.getElem?_map,List.getElem?_range O,Option.map_some,KV (by omega),List.getElem?_eq_getElem (by omega)]
   ·rw [List.getElem?_eq_none (by simp;omega),List.getElem?_eq_none (by omega)]
  rw [aq];refine(al.map _).trans ?_;rw [e2]
theorem XU{F k:Nat}{o:OW}{b:Hn}(K:100<F)(h:VO o)(hb:BG k b)(a1:k<900):BT (Md F b o) (λr=>RP o r.1/\BG (k+20) r.2):=by
 obtain⟨_,U⟩:=LW K h;have al:=h.n5;have a2:=h.n2;have hlen:((Cm o).take o.1.length).length=o.1.length:=by rw [List.length_take,U.1];omega
 unfold Md;refine Bq ((YK F o).trans (Tt K h)) ?_;rw [hlen];refine Cb (Te K hb (by omega) al) ?_;rintro⟨a3,a4⟩ ⟨am,ap,Y,rfl,Z⟩;simp only at Z ⊢;have a5:am.length=o.1.length:=by rw [Y.length_eq];simp
 refine Ch ((o.1.length - 1:Nat):Int) (by simp;omega) (by omega) (by omega) (Cb (VU K h Z (by omega) ap Y) ?_);rintro⟨out,a6⟩ ⟨O,ac⟩;simp only at O ac ⊢;have a7:=O.len;refine Bq (b:=List.replicate out.length (0,0,0)) (by unfold He;rw [if_pos (by omega)];simp) (Cb (Te K ac (by omega) (by omega)) ?_);rintro⟨pl,a8⟩ ⟨a9,aq,aw,rfl,ag⟩;simp only at ag ⊢;refine Cb (Wo K (by omega) aq aw) ?_;intro l a0;exact Bi ⟨O.perm a0 h U.1,ag.Ah (by omega)⟩
theorem YR{F:Nat}{o:OW}{x:List DT}(am:100<F)(h:VO o)(K:RP o x)(hw:(Cm o).length=5):Mj F (o.1.length:Int) x=some ((Cm o).take o.1.length,true):=by
 have O:=h.n5;have ap:=K.len;refine ES ?_;unfold Mj;refine Bq (b:=List.replicate o.1.length 0) (by unfold He;rw [if_pos (by omega)];rfl) ?_;refine Cb (S:=λr=>r=Sum.inr ((Cm o).take o.1.length)) ?_ (λr K=>by subst K;exact Bi rfl);refine Gs x.length (λi s=>s.2=(i:Int)/\∃w,s.1=w.take o.1.length/\w=(x.take i).foldl EN z5/\BN (144*i) w) ⟨rfl,z5,by rw [List.take_replicate,Nat.min_eq_left O],rfl,rfl,by simp⟩ (by omega) ?_ ?_
 ·rintro i ⟨s,c⟩ hi ⟨U,w,Y,hw,hb⟩;simp only at U Y;subst U;subst Y;obtain⟨v1,v2,ac,v4,ag,v6,aq⟩:=K.gd _ (List.getElem_mem hi);have al:=hb.add (i:=x[i].2.1) (v:=x[i].2.2) (V:=72) (by omega) (by omega) (by omega) (by omega);have g2:=al.add (i:=x[i].1) (v:= -x[i].2.2) (V:=72) (by omega) (by omega) (by omega) (by omega);have k1:=hb.bd (i:=x[i].2.1.toNat) (by omega);have aw:=hb.bd (i:=x[i].1.toNat) (by omega);unfold Nh;refine FT (by simp only;omega) (EU (m:=i) rfl hi ?_);refine Bq (b:=false) (by rw [if_neg (by omega)];simp;omega) (Bq (b:=false) (by rw [if_neg (by simp)];simp;omega) ?_);refine Bq (b:=false) (by rw [if_neg (by simp)];simp;omega) (Bq (b:=false) (by rw [if_neg (by simp)];simp;omega) ?_);refine Bq (b:=false) (by rw [if_neg (by simp)];simp;omega) (Dx (by simp) ?_);refine Bq (K6 hb O (by omega) (by omega)) (Bq (K6 hb O (by omega) (by omega)) ?_);refine Ch _ rfl (by omega) (by omega) (Bq (K6 hb O (by omega) (by omega)) ?_);refine Ch _ rfl (by omega) (by omega) (Ch ((i+1:Nat):Int) (by simp) (by omega) (by omega) ?_);refine Bi ⟨rfl,EN w x[i],(RD v1 ac ag).symm,?_,g2.Ah (by omega)⟩;rw [List.take_add_one,List.getElem?_eq_getElem hi,List.foldl_append,← hw]
  rfl
 ·rintro⟨s,c⟩ ⟨U,w,Y,Z,hb⟩;simp only at U Y;subst U;unfold Nh;rw [List.take_length,Wr O hw K.gd K.z] at Z;exact Dx (by simp) (Bi ⟨_,rfl,by simp only;rw [Y,Z]⟩)
theorem X2{F:Nat}{l:List Int}(ac:100<F)(ag:l.length<=20)(hb:∀x∈l,-1000<=x/\x<=1000):Mk F l=some l.sum:=by
 refine ES ?_;unfold Mk;refine Cb (S:=λr=>r=l.sum) ?_ (λr U=>Bi U);refine Gs l.length (λi s=>s.2=(i:Int)/\s.1=(l.take i).sum/\ -1000*(i:Int)<=s.1/\s.1<=1000*i) ⟨V,V,by simp,by simp⟩ (by omega) ?_ ?_
 ·rintro i ⟨s,c⟩ hi ⟨O,K,Y,Z⟩;simp only at O K Y Z;subst O;have:=hb _ (List.getElem_mem hi);unfold Nl;refine FT (by simp only;omega) (EU (m:=i) V hi ?_);refine Ch _ V (by simp only;omega) (by simp only;omega) (Ch ((i+1:Nat):Int) (by simp) (by omega) (by omega) ?_);exact Bi ⟨V,by rw [W0 hi,← K],by simp only;omega,by simp only;omega⟩
 ·rintro⟨s,c⟩ ⟨O,K,_⟩;simp only at O K;subst O;unfold Nl;rw [List.take_length] at K;exact Dx (by simp) (Bi ⟨_,V,K⟩)
theorem VQ{o:OW}(h:VO o)(hw:(Cm o).length=5):((Cm o).take o.1.length).sum=0:=by
 have K:=SW h;have Z:=Ul h;have ac:=h.n5;have ag:=h.n2;generalize Cm o=w at*
 match w,hw with
 | [a,b,c,d,e],_=>
  unfold S5 EC at Z;simp only [if_true,gN,List.getD_eq_getElem?_getD,List.getElem?_cons_zero,List.getElem?_cons_succ,Option.getD_some] at Z;have O:=K 2;have U:=K 3;have Y:=K 4;simp only [gN,List.getD_eq_getElem?_getD,List.getElem?_cons_zero,List.getElem?_cons_succ,Option.getD_some] at O U Y;obtain e | e | e | e:o.1.length=2∨o.1.length=3∨o.1.length=4∨o.1.length=5:=by omega
  all_goals rw [e] at O U Y ⊢;simp at O U Y ⊢;omega
theorem X8{F:Nat}(ag:2000<F)(al:f18 F=some true)(Ui:List Int):N1 F Ui=some true:=by
 refine ES ?_;unfold N1;refine Cb (S:=λb=>BG 0 b) ?_ ?_
 ·unfold f20;exact Bi ⟨Int.le_refl 0,Int.le_refl 0⟩
 intro b am;refine Cb (ZU (k:=0) (pm:=5) (dm:=8) (by omega) am (by omega) (by omega) (by omega) (by omega)) ?_;rintro⟨o,b⟩ ⟨U,_,_,Y⟩;have h:VO o:=U;have hb:BG 100 b:=Y.Ah (by omega);clear U Y;simp only;obtain⟨_,O⟩:=LW (F:=F) (by omega) h;have ap:=h.n5;have aq:=h.n2;have hlen:((Cm o).take o.1.length).length=o.1.length:=by rw [List.length_take,O.1];omega
 refine Bq (Z7 ag h) ?_;simp only;refine Bq (b:=false) ?_ ?_
 ·rw [if_neg (by simp)];refine ES (Bq (X2 (by omega) (by omega) λx aw=>?_) (Bi ?_))
  ·have:=O.2 x (List.mem_of_mem_take aw);omega
  ·rw [VQ h O.1];rfl
 refine Bq (b:=false) ?_ ?_
 ·rw [if_neg (by simp)];refine ES (Bq (Tt (by omega) h) ?_);exact Bq (TG (by omega) (by omega)) (Bi V)
 refine Dx (by simp) (Cb (XU (by omega) h hb (by omega)) ?_);rintro⟨own,a1⟩ ⟨K,Z⟩;simp only at K Z ⊢;have a2:=K.len;rw [hlen];refine Bq (YR (by omega) h K O.1) ?_;simp only;refine Bq (b:=false) ?_ ?_
 ·rw [if_neg (by simp)];exact ES (Bq (TG (by omega) (by omega)) (Bi V))
 refine Bq (b:=false) ?_ ?_
 ·rw [if_neg (by simp)];refine ES (Bq (SN (by omega) h K.gd (by omega)) (Bi ?_));rw [if_pos K.nd,if_pos K.z];rfl
 refine Dx (by simp) (Bq (b:=own) (by unfold N2 Dy;rw [if_pos (by simp;omega)];rfl) ?_);refine Cb (TR Z (by omega) aq (by omega)) ?_;rintro⟨d,a3⟩ ⟨hd,_⟩;simp only at hd ⊢;refine BT.Uu (by simp;omega) (Bq (SN (by omega) h (λe he=>?_) (by simp;omega)) ?_)
 ·rcases List.mem_append.1 he with he | he
  ·exact K.gd e he
  ·rw [List.mem_singleton] at he;subst he;exact hd.gd
 have a0:(own++ [d]).foldl CU (Cm o)≠z5:=by
  rw [List.foldl_append,K.z];intro e;have:=congrArg (λw=>gN w d.2.1.toNat) e;simp only [List.foldl_cons,List.foldl_nil] at this;rw [Nm rfl ap hd.gd,Mc] at this;obtain⟨a4,g2,a5,a6,a7,a8,a9⟩:=hd;unfold cN at this;rw [if_pos (by omega),if_neg (by omega)] at this;omega
 rw [if_neg a0];refine Bq (b:=true) ?_ ?_
 ·by_cases ac:((own++ [d]).map eD).Nodup
  ·rw [if_pos ac];rfl
  ·rw [if_neg ac];rfl
 refine Bq (b:=true) ?_ (Bi V);rw [if_pos rfl];exact ES (Bq al (Bi V))
end Pal
