/- ToothSettle. Part 5 of 8. -/
import Derived.Test.YtboibffcmhheiaaGreatDoorTsb
import Derived.Test.YtboibffcmhheiaaGreatDoorTsc
import Derived.Test.YtboibffcmhheiaaGreatDoorTsd
import Derived.ProofKit
set_option linter.all false
set_option maxRecDepth 100000
namespace Pal
theorem WK(J:JW){a:Nat}(K:a<13):(EL J)[a]? =some (AG J a):=by simp [EL,K]
abbrev Ft:=List Int×Int×Nat
def BG(k:Nat)(b:Ft):Prop:=0≤b.2.1∧b.2.1≤(k:Int)
theorem BG.Ai{k k':Nat}{b:Ft}(h:BG k b)(K:k≤k'):BG k' b:=⟨h.1,by have:=h.2;omega⟩
theorem Wo{F k:Nat}{b:Ft}(hb:BG k b)(K:k<1000000):AY (f100 F b) (fun r=>r.1<2 ^ 64∧BG (k+1) r.2):=by
 obtain⟨O,U⟩:=hb;unfold f100;refine AV (b.2.1+1) rfl (by omega) (by omega) ?_;have key:∀x:Nat,(x % 2 ^ 64)>>>11<2 ^ 64:=fun x=>Nat.lt_of_le_of_lt (Nat.shiftRight_le _ _) (Nat.mod_lt _ (Nat.two_pow_pos 64));refine AI (S:=fun _=>True) ?_ ?_
 ·refine By (fun h=>?_) (fun h=>?_)
  ·refine AV b.2.1 (by omega) (by omega) (by omega) (Bu (m:=b.2.1.toNat) (by omega) (by omega) ?_);exact Am trivial
  ·exact Am trivial
 ·intro x _;exact Am ⟨key _,by simp only;omega,by simp only;omega⟩
theorem Ub{a:Nat}(h:a<2 ^ 62):Ln a=(a:Int):=by
 unfold Ln;exact Iw (by omega)
theorem HI{F k:Nat}{b:Ft}{m:Int}(hb:BG k b)(O:k<1000000)(hm:m<1000000):AY (f41 F b m) (fun r=>0≤r.1∧(r.1≤m∨r.1=0)∧BG (k+1) r.2):=by
 unfold f41;refine AI (Wo hb O) ?_;rintro⟨x,W⟩ ⟨Z,K⟩;refine By (fun h=>?_) (fun h=>?_)
 ·exact Am ⟨by simp,.inr rfl,K⟩
 ·have U:Da m=m.toNat:=by unfold Da;omega
  have e2:(Da m+1) % 2 ^ 64=m.toNat+1:=by rw [U];omega
  have V:x % (m.toNat+1)<m.toNat+1:=Nat.mod_lt _ (by omega);refine AM (b:=x % (m.toNat+1)) (by rw [e2];unfold Na;rw [if_neg (by omega)]) ?_;refine Am ?_;simp only;generalize x % (m.toNat+1)=z at V ⊢;rw [Ub (by omega)];exact⟨by omega,.inl (by omega),K⟩
theorem OB{F k:Nat}{b:Ft}{lo hi:Int}(hb:BG k b)(O:k<1000000)(V:0≤lo)(W:lo≤hi)(Z:hi<1000):AY (f96 F b lo hi) (fun r=>lo≤r.1∧r.1≤hi∧BG (k+1) r.2):=by
 unfold f96;refine AV (hi - lo) rfl (by omega) (by omega) (AI (HI hb O (by omega)) ?_);rintro⟨x,aa⟩ ⟨U,g2,K⟩;simp only at U g2 K ⊢;exact AV (lo+x) rfl (by omega) (by omega) (Am ⟨by simp only;omega,by simp only;omega,K⟩)
theorem KE{F k:Nat}{b:Ft}{m:Int}(hb:BG k b)(K:k<1000000)(U:1≤m)(V:m<1000):AY (f97 F b m) (fun r=>BG (k+1) r.2):=by
 unfold f97;refine AV (m - 1) rfl (by omega) (by omega) (AI (HI hb K (by omega)) ?_);rintro⟨x,W⟩ ⟨Z,g2,O⟩;exact Am O
theorem MV{F k:Nat}{b:Ft}{l:List Int}(hb:BG k b)(U:k<1000000)(W:0<l.length)(Z:l.length<1000):AY (f99 F b l) (fun r=>r.1∈l∧BG (k+1) r.2):=by
 unfold f99;refine AV ((l.length - 1:Nat):Int) (by omega) (by omega) (by omega) (AI (HI hb U (by omega)) ?_);rintro⟨x,aa⟩ ⟨V,g2,K⟩;simp only at V g2 K ⊢;have O:x.toNat<l.length:=by omega
 exact Bu (m:=x.toNat) (by omega) O (Am ⟨List.getElem_mem O,K⟩)
theorem Wd{F:Nat}{x:Int}(K:100<F):f98 F [] x=some [x]:=by
 obtain⟨F,rfl⟩:∃k,F=k+1:=⟨F - 1,by omega⟩;refine Dq ?_;unfold f98;refine AM (b:=([],false)) ?_ ?_
 ·unfold iter;rfl
 ·refine AM (b:= [x]) ?_ (Am rfl)
  rfl
theorem VN{F:Nat}{a x:Int}(ag:100<F):f98 F [a] x=some (if x<a then [x,a] else if x=a then [a] else [a,x]):=by
 obtain⟨F,rfl⟩:∃k,F=k+2:=⟨F - 2,by omega⟩;refine Dq ?_;unfold f98;have U:Au 1=some 1:=rfl;have V:ix [a] 0=some a:=rfl;have r0:room ([]:List Int) x=some [x]:=if_pos (by simp);have aa:room ([]:List Int) a=some [a]:=if_pos (by simp);have ab:room [x] a=some [x,a]:=if_pos (by simp);have ae:room [a] x=some [a,x]:=if_pos (by simp);have step:Ju (F+2) [a] x ([],false,0)=some (.more (if x<a then([x,a],true,1) else if x=a then([x],true,1) else([a],false,1))):=by
  unfold Ju;rcases Int.lt_trichotomy x a with h | h | h
  ·have W:x≤a:=by omega
   have Z:a≠x:=by omega
   simp [V,h,W,Z,r0,ab,U]
  ·subst h;simp [V,r0,U]
  ·have W:¬x≤a:=by omega
   have Z:a≠x:=by omega
   have K:¬x<a:=by omega
   have O:¬x=a:=by omega
   simp [V,W,Z,K,O,aa,U]
 have last:∀(o:List Int) (b:Bool),Ju (F+2) [a] x (o,b,1)=some (.done (o,b)):=by
  intro o b;unfold Ju;simp
 rcases Int.lt_trichotomy x a with h | h | h
 ·rw [if_pos h] at step;refine AM (b:=([x,a],true)) ?_ ?_
  ·unfold iter;rw [step];simp only;unfold iter;rw [last]
  ·rw [if_pos h];exact AM (b:= [x,a]) (by simp) (Am rfl)
 ·subst h;rw [if_neg (by omega),if_pos rfl] at step;refine AM (b:=([x],true)) ?_ ?_
  ·unfold iter;rw [step];simp only;unfold iter;rw [last]
  ·rw [if_neg (show ¬x<x by omega),if_pos (rfl:x=x)];exact AM (b:= [x]) (by simp) (Am rfl)
 ·have K:¬x<a:=by omega
  have O:¬x=a:=by omega
  rw [if_neg K,if_neg O] at step;refine AM (b:=([a],false)) ?_ ?_
  ·unfold iter;rw [step];simp only;unfold iter;rw [last]
  ·rw [if_neg K,if_neg O];exact AM (b:= [a,x]) (by simp [ae]) (Am rfl)
theorem Sk{F n:Nat}{l:List Int}{x:Int}(O:100<F)(U:Hs n l)(V:l.length≤1)(W:0≤x∧x<(n:Int)):AY (f98 F l x) (fun r=>VL n r∧0<r.length∧r.length≤l.length+1∧∀y∈r,y=x∨y∈l):=by
 match l,V with
 | [],_=>
  rw [Wd O];exact Am ⟨⟨by simp,fun y K=>by simp at K;subst K;exact W,by simp⟩,by simp,by simp,fun y K=>by simpa using K⟩
 | [a],_=>
  rw [VN O];have Z:=U a (by simp);refine Am ?_;rcases Int.lt_trichotomy x a with h | h | h
  ·rw [if_pos h];exact⟨⟨by simp,fun y K=>by simp at K;rcases K with rfl | rfl <;> assumption,by simpa using h⟩,by simp,by simp,fun y K=>by simpa using K⟩
  ·rw [if_neg (by omega),if_pos h];exact⟨⟨by simp,fun y K=>by simp at K;subst K;exact Z,by simp⟩,by simp,by simp,fun y K=>by simp at K;subst K;simp⟩
  ·rw [if_neg (by omega),if_neg (by omega)];exact⟨⟨by simp,fun y K=>by simp at K;rcases K with rfl | rfl <;> assumption,by simpa using h⟩,by simp,by simp,fun y K=>by simp at K;rcases K with rfl | rfl <;> simp⟩
 | a::b::l,h=>simp at h
structure PJ (n i:Nat) (N K:List (List Int)):Prop where
 l1:N.length=i
 l2:K.length=i
 nx:∀(q:Nat) l,N[q]? =some l→VL n l∧0<l.length
 fl:∀(q:Nat) l,K[q]? =some l→VL n l∧(q:Int) ∉ l
theorem PJ.snoc{n i:Nat}{N U:List (List Int)}{a b:List Int}(h:PJ n i N U)(V:VL n a∧0<a.length)(hb:VL n b∧(i:Int) ∉ b):PJ n (i+1) (N++ [a]) (U++ [b]):=by
 refine⟨by simp [h.l1],by simp [h.l2],fun q l K=>?_,fun q l K=>?_⟩
 ·rcases Nat.lt_or_ge q N.length with O | O
  ·rw [List.getElem?_append_left O] at K;exact h.nx q l K
  ·rw [List.getElem?_append_right O] at K;have:q - N.length=0:=by
    rcases Nat.eq_zero_or_pos (q - N.length) with e | e
    ·exact e
    ·rw [List.getElem?_eq_none (by simp;omega)] at K;cases K
   rw [this] at K;simp at K;subst K;exact V
 ·rcases Nat.lt_or_ge q U.length with O | O
  ·rw [List.getElem?_append_left O] at K;exact h.fl q l K
  ·rw [List.getElem?_append_right O] at K;have e:q - U.length=0:=by
    rcases Nat.eq_zero_or_pos (q - U.length) with e | e
    ·exact e
    ·rw [List.getElem?_eq_none (by simp;omega)] at K;cases K
   rw [e] at K;simp at K;subst K;have:q=i:=by have:=h.l2;omega
   subst this;exact hb
theorem Uz{F n i k:Nat}{ab:Int×Ft}{ae:(List (List Int))×(List (List Int))×(List Int)×Int×Nat×Int}{b:Ft}{c:Int}(ao:100<F)(ag:ab.1=(n:Int))(ah:ae.2.2.2.2.2=(i:Int))(hi:i<n)(au:n≤8)(hb:BG k b)(av:k<1000)(aw:c=0∨c=1∨c=2):
  AY (iter (MH F ab ae) F (b.1,b.2.1,b.2.2,[],c)) (fun r=>VL n r.1∧(i:Int) ∉ r.1∧BG (k+10) r.2):=by
 refine Og (fun m st=>∃(l:List Int) (K:Ft),st=(K.1,K.2.1,K.2.2,l,(m:Int))∧m≤2∧VL n l∧(i:Int) ∉ l∧l.length≤2 - m∧BG (k+10 - 4*m) K) ?_ (m:=c.toNat) ⟨[],b,by simp;omega,by omega,⟨by simp,fun x ap=>by simp at ap,by simp⟩,by simp,by simp,hb.Ai (by omega)⟩ (by omega);rintro m st ⟨l,K,rfl,ay,W,Z,hlen,ai⟩;unfold MH;refine AI (S:=fun q=>q=decide (0<m∧1<n)) ?_ ?_
 ·refine By (fun h=>?_) (fun h=>?_)
  ·refine Am ?_;rw [ag];exact decide_eq_decide.2 ⟨fun aj=>⟨by simp only at h;omega,by omega⟩,fun aj=>by omega⟩
  ·refine Am ?_;have:¬0<m:=by simp only at h;omega
   simp [this]
 ·rintro q rfl;refine By (fun h=>?_) (fun h=>?_)
  ·have aj:0<m∧1<n:=of_decide_eq_true h;refine AV ((i:Int) - 1) (by rw [ah]) (by omega) (by omega) ?_;refine AI (HI (F:=F) (b:=(K.1,K.2.1,K.2.2)) (m:=max 0 ((i:Int) - 1)) ai (by omega) (by omega)) ?_;rintro⟨y,az⟩ ⟨ak,g2,al⟩;simp only at ak g2 al ⊢;refine AI (KE (F:=F) al (by omega) (by omega) (by omega)) ?_;rintro⟨o,aA⟩ aa;simp only at aa ⊢;refine AI (S:=fun r=>0≤r.1∧r.1<(n:Int)∧BG (k+10 - 4*m+1+1+1) r.2) ?_ ?_
   ·refine By (fun _=>?_) (fun _=>?_)
    ·refine AV ((n:Int) - 1) (by rw [ag]) (by omega) (by omega) (AI (HI (F:=F) aa (by omega) (by omega)) ?_);rintro⟨z,am⟩ ⟨O,U,V⟩;exact Am ⟨O,by simp only at O U ⊢;omega,V⟩
    ·exact Am ⟨ak,by simp only;omega,BG.Ai aa (by omega)⟩
   ·rintro⟨z,am⟩ ⟨O,U,V⟩;simp only at O U V ⊢;refine AI (S:=fun r=>VL n r∧(i:Int) ∉ r∧r.length≤l.length+1) ?_ ?_
    ·rw [ah];refine By (fun aq=>?_) (fun _=>?_)
     ·refine AI (Sk (F:=F) ao W.inr (by omega) ⟨O,U⟩) ?_;rintro r ⟨v1,v2,an,v4⟩;refine Am ⟨v1,fun ar=>?_,an⟩;rcases v4 _ ar with e | e
      ·exact aq e.symm
      ·exact Z e
     ·exact Am ⟨W,Z,by omega⟩
    ·rintro r ⟨v1,v2,an⟩;exact AV ((m - 1:Nat):Int) (by omega) (by omega) (by omega) (Am ⟨m - 1,by omega,r,am,rfl,by omega,v1,v2,by omega,V.Ai (by omega)⟩)
  ·exact Am ⟨W,Z,ai.Ai (by omega)⟩
theorem XX{F k mx:Nat}{b:Ft}(ai:100<F)(hb:BG k b)(aB:k<100)(aC:1≤mx)(aD:mx≤8):AY (f39 F b (mx:Int)) (fun r=>(∃n,n≤mx∧VJ n r.1)∧BG (k+301) r.2):=by
 unfold f39;refine AI (OB (F:=F) hb (by omega) (by omega) (by omega) (by omega)) ?_;rintro⟨aj,av⟩ ⟨n1,n2,ak⟩;simp only at n1 n2 ak;obtain⟨n,rfl⟩:∃n:Nat,aj=(n:Int):=⟨aj.toNat,by omega⟩;have aE:1≤n:=by omega
 have al:n≤8:=by omega
 refine AI (S:=fun r=>PJ n n r.2.2.2.1 r.2.2.2.2∧BG (k+301) (r.1,r.2.1,r.2.2.1)) ?_ ?_
 ·refine Cj n (fun i st=>∃(N O:List (List Int)) (W:Ft),st=(N,O,W.1,W.2.1,W.2.2,(i:Int))∧PJ n i N O∧BG (k+1+30*i) W) ⟨[],[],av,rfl,⟨rfl,rfl,fun q l aa=>by simp at aa,fun q l aa=>by simp at aa⟩,ak⟩ (by omega) ?_ ?_
  ·rintro i st hi ⟨N,O,Z,rfl,K,ab⟩;unfold MZ;refine BD (by simp only;omega) (AV ((n:Int) - 1) rfl (by omega) (by omega) ?_);refine AV ((i+1:Nat):Int) (by simp) (by omega) (by omega) (AI (KE (F:=F) (b:=(Z.1,Z.2.1,Z.2.2)) ab (by omega) (by omega) (by omega)) ?_);rintro⟨o,aF⟩ g2;simp only at g2 ⊢;have am:Hs n [min ((n:Int) - 1) ((i+1:Nat):Int)]:=fun x U=>by simp at U;subst U;omega
   refine AI (S:=fun r=>VL n r.1∧0<r.1.length∧BG (k+1+30*i+2) r.2) ?_ ?_
   ·refine By (fun _=>?_) (fun _=>?_)
    ·refine AV ((n:Int) - 1) rfl (by omega) (by omega) (AI (OB (F:=F) g2 (by omega) (by omega) (by omega) (by omega)) ?_);rintro⟨y,an⟩ ⟨ae,ag,V⟩;simp only at ae ag V ⊢;refine AI (Sk (F:=F) ai am (by simp) ⟨by omega,by omega⟩) ?_;rintro r ⟨v1,v2,aG,v4⟩;exact Am ⟨v1,v2,V⟩
    ·exact Am ⟨⟨by simp,am,by simp⟩,by simp,BG.Ai g2 (by omega)⟩
   ·rintro⟨nx,an⟩ ⟨w1,w2,w3⟩;simp only at w1 w2 w3 ⊢;refine AI (KE (F:=F) (b:=an) w3 (by omega) (by omega) (by omega)) ?_;rintro⟨aH,aI⟩ ah;simp only at ah ⊢;refine AI (S:=fun r=>VL n r.1∧0<r.1.length∧BG (k+1+30*i+4) r.2) ?_ ?_
    ·refine By (fun _=>?_) (fun _=>?_)
     ·refine AV ((n:Int) - 1) rfl (by omega) (by omega) (AI (HI (F:=F) ah (by omega) (by omega)) ?_);rintro⟨y,ao⟩ ⟨ae,ag,V⟩;simp only at ae ag V ⊢;exact Am ⟨⟨by simp,fun x U=>by simp at U;subst U;omega,by simp⟩,by simp,V⟩
     ·exact Am ⟨w1,w2,BG.Ai ah (by omega)⟩
    ·rintro⟨ap,ao⟩ ⟨u1,aq,ar⟩;simp only at u1 aq ar ⊢;refine AI (MV (F:=F) (b:=ao) ar (by omega) (by simp) (by simp)) ?_;rintro⟨c,aw⟩ ⟨au,c2⟩;simp only at au c2 ⊢;have ay:c=0∨c=1∨c=2:=by simp at au;omega
     refine AI (Uz (F:=F) (b:=aw) ai rfl rfl hi al c2 (by omega) ay) ?_;rintro⟨fl,az⟩ ⟨t1,t2,t3⟩;simp only at t1 t2 t3 ⊢;have aJ:=K.l1;have aK:=K.l2;refine AM (b:=N++ [ap]) (if_pos (by simp;omega)) (AM (b:=O++ [fl]) (if_pos (by simp;omega)) ?_);exact AV ((i+1:Nat):Int) (by simp) (by omega) (by omega) (Am ⟨N++ [ap],O++ [fl],az,rfl,K.snoc ⟨u1,aq⟩ ⟨t1,t2⟩,t3.Ai (by omega)⟩)
  ·rintro st ⟨N,O,Z,rfl,K,ab⟩;unfold MZ;refine Bj (by simp) (Am ⟨_,rfl,K,ab.Ai (by omega)⟩)
 ·rintro⟨aL,aM,aN,N,O⟩ ⟨K,aA⟩;refine Am ⟨⟨n,by omega,?_⟩,aA⟩;exact⟨by omega,al,K.l1,K.l2,K.nx,K.fl⟩
end Pal
namespace Pal
open Go Go.Conc Go.Proofs
open Go.Proofs.Tryz
end Pal
namespace Pal
def HS(J:JW)(n a:Nat)(d:List Bool):Prop:=d.length=n∧∀m,m<n→d[m]? =some ((AG J a).testBit m)
def Pk(J:JW)(n a k:Nat)(d:List Bool):Prop:=d.length=n∧∀x:Nat,x<n→(d[x]? =some true↔∃m,m<k∧(AG J a).testBit m=true∧(x:Int)∈J.1.getD m [])
theorem Pk.due{n a:Nat}{J:JW}{d:List Bool}(K:VJ n J)(h:Pk J n a n d):HS J n (a+1) d:=by
 refine⟨h.1,fun x U=>?_⟩;have V:x<d.length:=by rw [h.1];exact U
 rw [List.getElem?_eq_getElem V];congr 1;have W:=h.2 x U;rw [List.getElem?_eq_getElem V,Option.some.injEq] at W;have Z:=Me K (AG J a) x;have e:d[x]=true↔(AG J (a+1)).testBit x=true:=by
  rw [W];show _↔(F4 J.1 (AG J a)).testBit x=true;rw [Z];have ab:=K.le;constructor
  ·rintro⟨m,aa,g2,O⟩;exact⟨m,by omega,g2,O⟩
  ·rintro⟨m,aa,g2,O⟩;exact⟨m,Hc (Ia K a) g2,g2,O⟩
 cases hd:d[x] <;> cases ae:(AG J (a+1)).testBit x <;> simp_all
theorem UY{d:List Bool}{q x:Nat}(K:q<d.length):(d.set q true)[x]? =some true↔d[x]? =some true∨x=q:=by
 by_cases e:q=x
 ·subst e;rw [List.getElem?_set_self K];simp
 ·rw [List.getElem?_set_ne e];constructor
  ·exact .inl
  ·rintro(h | h)
   ·exact h
   ·exact absurd h.symm e
end Pal
namespace Pal
open Go Go.Conc Go.Proofs
open Go.Proofs.Tryz
end Pal
namespace Pal
theorem VJ.Pf{n:Nat}{J:JW}(K:VJ n J)(m:Nat):VL n (J.2.getD m []):=by
 rw [List.getD_eq_getElem?_getD];cases h:J.2[m]? with
 | none=>exact⟨by simp,fun x O=>by simp at O,by simp⟩
 | some l=>exact(K.fl m l h).1
end Pal
namespace Pal
abbrev BP:=List (Int×Int)
structure Ct (n:Nat) (K:BP):Prop where
 len:K.length≤8
 yr:∀l∈K,0≤l.1∧l.1≤6
 sn:∀l∈K,0≤l.2∧l.2<(n:Int)
 IY:K.Pairwise (fun a b=>a.1≤b.1)
theorem VG{F n:Nat}{J:JW}{K:BP}(V:100<F)(O:VJ n J)(U:Ct n K)(W:K.length≤4):f116 F J K=some none:=by
 have Z:=O.l1;have aa:=O.pos;have ab:=O.le;refine Dq ?_;unfold f116;refine Bj (by omega) ?_;refine AI (S:=fun q=>q=Sum.inr ()) ?_ (by rintro q rfl;exact Am rfl);refine Cj K.length (fun i s=>s=(i:Int)) rfl (by omega) ?_ ?_
 ·rintro i s hi rfl;unfold Mh;have hm:=List.getElem_mem hi;have ae:=U.yr _ hm;have hs:=U.sn _ hm;refine BD (by omega) (Bu (m:=i) rfl hi ?_);refine AM (IC F _ _ _) (Bj (by simp;omega) ?_);refine AI (S:=fun c=>c=false) ?_ ?_
  ·refine By (fun h=>?_) (fun h=>Am rfl);refine AV ((i - 1:Nat):Int) (by omega) (by omega) (by omega) (Bu (m:=i - 1) rfl (by omega) ?_);have:=List.pairwise_iff_getElem.1 U.IY (i - 1) i (by omega) hi (by omega);exact Am (decide_eq_false (by omega))
  ·rintro c rfl;refine Bj (by simp) (AV ((n - 1:Nat):Int) (by omega) (by omega) (by omega) ?_);refine AM (IC F _ _ _) (Bj (by simp;omega) ?_);exact AV ((i+1:Nat):Int) (by simp) (by omega) (by omega) (Am rfl)
 ·rintro s rfl;unfold Mh;exact Bj (by omega) (Am ⟨_,rfl,rfl⟩)
theorem OH{F n:Nat}{J:JW}{K:BP}(O:100<F)(U:VJ n J)(V:Ct n K)(W:K.length≤4):f69 F J K=some 0:=by
 unfold f69;rw [Rq O U];simp only [Option.bind_some,Option.isSome_none,Bool.false_eq_true,if_false];rw [VG O U V W];simp only [Option.bind_some];rw [Ts];rfl
def Dd(K:BP):Nat:=match K.getLast? with
 | some l=>l.1.toNat
 | none=>0
theorem IA{n:Nat}{K:BP}(O:Ct n K):Dd K≤6:=by
 unfold Dd;split
 ·rename_i l h;have:=O.yr l (List.mem_of_getLast? h);omega
 ·omega
theorem Qq{F n:Nat}{U:JW}{A:List Nat}{K:BP}{age:Int}{ms:List Int}{fl:Nat}(V:Ct n K):KX F ((U.1,U.2,A),K,age,ms,fl)=some ((Dd K:Nat):Int):=by
 have W:=V.len;refine Dq ?_;unfold KX Dd;refine By (fun h=>?_) (fun h=>?_)
 ·simp only at h;have:K= []:=List.length_eq_zero_iff.1 (by omega);subst this;exact Am rfl
 ·simp only at h;have O:K.length - 1<K.length:=by omega
  refine AV ((K.length - 1:Nat):Int) (by simp only;omega) (by omega) (by omega) (Bu (m:=K.length - 1) rfl O ?_);rw [List.getLast?_eq_getElem?,List.getElem?_eq_getElem O];have:=V.yr _ (List.getElem_mem O);refine Am ?_;simp only;omega
def Em(J:JW)(m:Int)(l:Int×Int):Bool:=decide (m=l.2) || decide (l.2∈J.2.getD m.toNat [])
def Fq(J:JW)(K:BP)(y:Nat)(m:Int):Bool:=K.all fun l=>decide (l.1≠(y:Int)) || Em J m l
def Df(K:BP)(y:Nat)(m:Int):Nat→Nat
 | 0=>0
 | k+1=>match K[k]? with
  | some l=>if l.1=(y:Int)∧m≠l.2 then Df K y m k ||| 1<<<k else Df K y m k
  | none=>Df K y m k
theorem Mz(K:BP)(y:Nat)(m:Int):∀k,k≤16→Df K y m k<65536
 | 0,_=>by unfold Df;omega
 | k+1,h=>by
  have:=Mz K y m k (by omega)
  unfold Df
  split
  ·split
   ·exact Nl this (R3 (by omega))
   ·exact this
  ·exact this
theorem Ri(aa:BP)(y:Nat)(m:Int)(i:Nat):∀k,(Df aa y m k).testBit i=true↔i<k∧∃l,aa[i]? =some l∧l.1=(y:Int)∧m≠l.2
 | 0=>by simp [Df]
 | k+1=>by
  have ab:=Ri aa y m i k
  have hb:(1<<<k).testBit i=decide (i=k):=by
   rw [Nat.one_shiftLeft,Nat.testBit_two_pow];exact decide_eq_decide.2 ⟨fun h=>h.symm,fun h=>h.symm⟩
  have key:∀P:Prop,(i<k∧P↔i<k+1∧P)∨i=k:=fun P=>by
   by_cases e:i=k
   ·exact .inr e
   ·exact .inl ⟨fun h=>⟨by omega,h.2⟩,fun h=>⟨by omega,h.2⟩⟩
  unfold Df;split
  ·rename_i l U;split
   ·rename_i V;rw [Nat.testBit_or,Bool.or_eq_true,ab,hb,decide_eq_true_iff];constructor
    ·rintro(⟨O,K⟩ | rfl)
     ·exact⟨by omega,K⟩
     ·exact⟨by omega,l,U,V.1,V.2⟩
    ·rintro⟨O,K⟩;by_cases e:i=k
     ·exact .inr e
     ·exact .inl ⟨by omega,K⟩
   ·rename_i V;rw [ab];constructor
    ·rintro⟨O,K⟩;exact⟨by omega,K⟩
    ·rintro⟨O,ae,K,W,Z⟩;by_cases e:i=k
     ·subst e;rw [U] at K;cases K;exact absurd ⟨W,Z⟩ V
     ·exact⟨by omega,ae,K,W,Z⟩
  ·rename_i U;rw [ab];constructor
   ·rintro⟨O,K⟩;exact⟨by omega,K⟩
   ·rintro⟨O,ae,K,W,Z⟩;by_cases e:i=k
    ·subst e;rw [U] at K;cases K
    ·exact⟨by omega,ae,K,W,Z⟩
theorem V8{F:Nat}{l:List Int}{x:Int}(V:100<F)(W:l.length<100):AY (f201 F l x) (fun r=>decide (0≤r)=decide (x∈l)):=by
 unfold f201;refine AI (S:=fun q=>match q with | Sum.inl r=>0≤r∧x∈l | Sum.inr _=>x ∉ l) ?_ ?_
 ·refine Cj l.length (fun i s=>s=(i:Int)∧x ∉ l.take i) ⟨rfl,by simp⟩ (by omega) ?_ ?_
  ·rintro i s hi ⟨rfl,K⟩;unfold Mj;refine BD (by omega) (Bu (m:=i) rfl hi ?_);refine By (fun h=>?_) (fun h=>?_)
   ·exact Am ⟨by omega,by rw [h];exact List.getElem_mem hi⟩
   ·refine AV ((i+1:Nat):Int) (by simp) (by omega) (by omega) (Am ⟨rfl,?_⟩);rw [List.take_add_one,List.getElem?_eq_getElem hi];simp only [Option.toList_some,List.mem_append,List.mem_singleton];rintro(O | O)
    ·exact K O
    ·exact h O
  ·rintro s ⟨rfl,K⟩;unfold Mj;exact Bj (by omega) (Am ⟨_,rfl,by simpa using K⟩)
 ·rintro(r | u) U
  ·exact Am (by rw [decide_eq_true U.1,decide_eq_true U.2])
  ·exact Am (by rw [decide_eq_false U];rfl)
theorem VP{F:Nat}{l:List Int}{x:Int}(K:100<F)(O:l.length<100):f199 F l x=some (decide (x∈l)):=by
 refine Dq ?_;unfold f199;refine AI (V8 K O) ?_;intro r U;exact Am U
theorem WH{F n m:Nat}{J:JW}{A:List Nat}{s:Int}(U:100<F)(O:VJ n J)(hm:m<n):f192 F (J.1,J.2,A) (m:Int) s=some (if(m:Int)=s then some ((m:Int),none) else if s∈J.2.getD m [] then some ((m:Int),some s) else none):=by
 have W:=O.l2;refine Dq ?_;unfold f192;refine By (fun h=>?_) (fun h=>?_)
 ·rw [if_pos h];exact Am rfl
 ·rw [if_neg h];have V:J.2[m]? =some (J.2.getD m []):=by rw [List.getD_eq_getElem?_getD,List.getElem?_eq_getElem (by omega)];rfl
  refine AM (Dk (m:=m) rfl V) (AM (VP U (by have:=(O.Pf m).len;omega)) ?_);refine By (fun K=>?_) (fun K=>?_)
  ·rw [if_pos (of_decide_eq_true K)];exact Am rfl
  ·rw [if_neg (of_decide_eq_false (by simpa using K))];exact Am rfl
theorem WW{F n m y:Nat}{J:JW}{A:List Nat}{K:BP}{age:Int}{ms:List Int}{fl:Nat}(ae:100<F)(ag:VJ n J)(ah:Ct n K)(hm:m<n):
  KM F ((J.1,J.2,A),K,age,ms,fl) (y:Int) (m:Int)=some (if Fq J K y (m:Int)=true then(Df K y (m:Int) K.length,true) else(0,false)):=by
 have al:=ah.len;refine Dq ?_;unfold KM;refine AI (S:=fun q=>(Fq J K y (m:Int)=true∧q=Sum.inr (Df K y (m:Int) K.length))∨(Fq J K y (m:Int)=false∧q=Sum.inl (0,false))) ?_ ?_
 ·refine Cj K.length (fun i s=>s=(Df K y (m:Int) i,(i:Int))∧∀l∈K.take i,(decide (l.1≠(y:Int)) || Em J (m:Int) l)=true) ⟨rfl,by simp⟩ (by omega) ?_ ?_
  ·rintro i s hi ⟨rfl,O⟩;unfold LV;have ai:=Mz K y (m:Int) i (by omega);have ab:K[i]? =some K[i]:=List.getElem?_eq_getElem hi;have step:∀(l:Int×Int),l=K[i]→(decide (l.1≠(y:Int)) || Em J (m:Int) l)=true→∀U∈K.take (i+1),(decide (U.1≠(y:Int)) || Em J (m:Int) U)=true:=by
    rintro l rfl aj U V;rw [List.take_add_one,ab] at V;simp only [Option.toList_some,List.mem_append,List.mem_singleton] at V;rcases V with h | rfl
    ·exact O U h
    ·exact aj
   have W:Df K y (m:Int) (i+1)=if K[i].1=(y:Int)∧(m:Int)≠K[i].2 then Df K y (m:Int) i ||| 1<<<i else Df K y (m:Int) i:=by
    rw [Df,ab]
   refine BD (by simp only;omega) (AI (S:=fun q=>(q=Sum.inr (Df K y (m:Int) (i+1))∧(decide (K[i].1≠(y:Int)) || Em J (m:Int) K[i])=true)∨(q=Sum.inl (0,false)∧(decide (K[i].1≠(y:Int)) || Em J (m:Int) K[i])=false)) ?_ ?_)
   ·refine Bu (m:=i) rfl hi (By (fun h=>?_) (fun h=>?_))
    ·refine Am (.inl ⟨?_,by rw [decide_eq_true h];rfl⟩);rw [W,if_neg (fun Z=>h Z.1)]
    ·have ak:K[i].1=(y:Int):=by simpa using h
     refine AM (WH ae ag hm) ?_;by_cases e:(m:Int)=K[i].2
     ·rw [if_pos e];refine AI (S:=fun q=>q=Sum.inr (Df K y (m:Int) i)) (BD rfl (Am rfl)) ?_;rintro q rfl;refine Am (.inl ⟨?_,by unfold Em;rw [decide_eq_true e];simp⟩);rw [W,if_neg (fun Z=>Z.2 e)]
     ·rw [if_neg e];by_cases e2:K[i].2∈J.2.getD m []
      ·rw [if_pos e2];refine AI (S:=fun q=>q=Sum.inr (Df K y (m:Int) i ||| 1<<<i)) ?_ ?_
       ·refine Bj (by simp [JD]) (BD rfl ?_);refine AM (M0 F ai (by omega)) (Am rfl)
       ·rintro q rfl;refine Am (.inl ⟨?_,by unfold Em;rw [show((m:Int)).toNat=m by omega,decide_eq_true e2];simp⟩);rw [W,if_pos ⟨ak,e⟩]
      ·rw [if_neg e2];refine AI (S:=fun q=>q=Sum.inl (0,false)) ?_ ?_
       ·exact Bj (by simp [JD]) (Bj (by simp [K7]) (Am rfl))
       ·rintro q rfl;refine Am (.inr ⟨rfl,?_⟩);unfold Em;rw [show((m:Int)).toNat=m by omega,decide_eq_false e2,decide_eq_false e,decide_eq_false h];rfl
   ·rintro q (⟨rfl,aa⟩ | ⟨rfl,aa⟩)
    ·rw [Sum.elim_inr];exact AV ((i+1:Nat):Int) (by simp) (by omega) (by omega) (Am ⟨rfl,step _ rfl aa⟩)
    ·rw [Sum.elim_inl];refine Am (.inr ⟨?_,rfl⟩);unfold Fq;rw [List.all_eq_false];exact⟨K[i],List.getElem_mem hi,by rw [aa];simp⟩
  ·rintro s ⟨rfl,O⟩;unfold LV;refine Bj (by simp only;omega) (Am ⟨_,rfl,.inl ⟨?_,rfl⟩⟩);rw [List.take_length] at O;unfold Fq;exact List.all_eq_true.2 O
 ·rintro q (⟨h,rfl⟩ | ⟨h,rfl⟩)
  ·rw [Sum.elim_inr,if_pos h];exact Am rfl
  ·rw [Sum.elim_inl,if_neg (by rw [h];simp)];exact Am rfl
theorem Wz{F n m:Nat}{J:JW}{A:List Nat}{K:BP}{age:Int}{ms:List Int}{fl:Nat}(U:100<F)(V:VJ n J)(O:Ct n K)(hm:m<n)(aa:ms.length<100)(W:fl<65536):
  K1 F (J.1,J.2,A) K age ms fl (m:Int)=some (if Fq J K ms.length (m:Int)=true then some (ms++ [(m:Int)],fl ||| Df K ms.length (m:Int) K.length) else none):=by
 refine Dq ?_;unfold K1;refine AM (WW U V O hm) ?_;have Z:=Mz K ms.length (m:Int) K.length (by have:=O.len;omega);by_cases h:Fq J K ms.length (m:Int)=true
 ·rw [if_pos h,if_pos h];refine Bj (by simp) (AM (b:=ms) ?_ ?_)
  ·unfold f175 K0;have:Dl ([]:List Int) ms=some ms:=by unfold Dl;rw [if_pos (by simp;omega)];rfl
   rw [this];rfl
  ·refine AM (b:=ms++ [(m:Int)]) ?_ ?_
   ·unfold Dl;rw [if_pos (by simp;omega)]
   ·exact AM (if_pos ⟨W,Z⟩) (Am rfl)
 ·rw [if_neg h,if_neg h];exact BD rfl (Am rfl)
end Pal
namespace Pal
def EK(J:JW)(K:BP):Nat→Nat→List Int→Nat→List (List Int×Nat)
 | 0,_,ms,fl=> [(ms,fl)]
 | k+1,sm,ms,fl=>(BT sm 16).flatMap fun m=>if Fq J K ms.length m=true then EK J K k (CH (J.1.getD m.toNat [])) (ms++ [m]) (fl ||| Df K ms.length m K.length) else []
theorem NY(s:Nat):(BT s 16).length≤16:=I4 s 16
theorem Hx{α β:Type}{f:α→List β}{b:Nat}:∀{l:List α},(∀x∈l,(f x).length≤b)→(l.flatMap f).length≤l.length*b
 | [],_=>by simp
 | x::l,h=>by
  have O:=h x (by simp)
  have U:=Hx (l:=l) (fun y K=>h y (by simp [K]))
  simp only [List.flatMap_cons,List.length_append,List.length_cons,Nat.succ_mul]
  omega
theorem Ma(J:JW)(K:BP):∀k sm ms fl,(EK J K k sm ms fl).length≤16 ^ k
 | 0,_,_,_=>by simp [EK]
 | k+1,sm,ms,fl=>by
  unfold EK
  refine Nat.le_trans (Hx (b:=16 ^ k) fun m _=>?_) ?_
  ·split
   ·exact Ma J K k _ _ _
   ·simp
  ·rw [Nat.pow_succ,Nat.mul_comm];exact Nat.mul_le_mul_left _ (NY sm)
theorem UF{k:Nat}(h:k≤7):16 ^ k≤268435456:=Nat.le_trans (Nat.pow_le_pow_right (by omega) h) (by decide)
theorem Qf{α β:Type}{step:List β→α→Option (List β)}{f:α→List β}:∀{l:List α} {ac:List β},(∀(l1 l2:List α) x,l=l1++x::l2→step (ac++l1.flatMap f) x=some (ac++(l1++ [x]).flatMap f))→Fh step l ac=some (ac++l.flatMap f)
 | [],ac,_=>by simp [Fh]
 | x::l,ac,h=>by
  have K:=h [] l x rfl
  simp only [List.flatMap_nil,List.append_nil,List.nil_append] at K
  unfold Fh
  rw [K]
  simp only [Option.bind_some]
  rw [Qf (f:=f) (ac:=ac++ [x].flatMap f) (l:=l) ?_]
  ·simp
  ·intro l1 l2 y O;have:=h (x::l1) l2 y (by rw [O];rfl);simp only [List.flatMap_cons,List.flatMap_nil,List.append_nil,List.cons_append,List.append_assoc] at this ⊢;simpa using this
theorem TB{α β:Type}{step:List β→α→Option (List β)}{f:α→List β}{l:List α}{ac:List β}(h:∀(l1 l2:List α) x,l=l1++x::l2→step (ac++l1.flatMap f) x=some (ac++l1.flatMap f++f x)):Fh step l ac=some (ac++l.flatMap f):=
 Qf fun l1 l2 x e=>by rw [h l1 l2 x e];simp
theorem Ye{F n:Nat}{J:JW}{A:List Nat}{K:BP}{age:Int}{ok:List (List Int×Nat)→Bool}(aa:100<F)(U:VJ n J)(V:Ct n K)(aq:∀l:List (List Int×Nat),l.length≤16 ^ 7→(∀x∈l,x.2<65536)→ok l=true):
  ∀(k g sm:Nat) (ms:List Int) (fl:Nat) (ac:List (List Int×Nat)),ms.length+k=Dd K+1→k<g→sm<2 ^ n→fl<65536→ac.length+16 ^ k≤16 ^ 7→(∀x∈ac,x.2<65536)→
   Ik ok F (J.1,J.2,A) K age g sm ms fl ac=some (ac++EK J K k sm ms fl)∧∀x∈EK J K k sm ms fl,x.2<65536:=by
 have aG:=IA V;have ar:=U.le;have aH:=Rb ar;intro k
 induction k with
 | zero=>
  intro g sm ms fl ac au av ai W hlen ab;obtain⟨g,rfl⟩:∃g',g=g'+1:=⟨g - 1,by omega⟩;refine⟨?_,fun x O=>by simp [EK] at O;subst O;exact W⟩;unfold Ik;have ae:IW F (J.1,J.2,A) K age ms fl sm=some none:=by
   unfold IW;rw [Qq V];simp only [Option.bind_some];rw [if_pos (by omega)]
  rw [ae];simp only [Option.bind_some,JN];rw [if_pos]
  ·rfl
  ·refine aq _ (by simpa using hlen) fun x O=>?_;rcases List.mem_append.1 O with O | O
   ·exact ab x O
   ·simp at O;subst O;exact W
 | succ k aj=>
  intro g sm ms fl ac au av ai W hlen ab;obtain⟨g,rfl⟩:∃g',g=g'+1:=⟨g - 1,by omega⟩;have aI:ms.length≤6:=by omega
  have aJ:=NY sm;have ak:∀m∈BT sm 16,∃q:Nat,m=(q:Int)∧q<n:=fun m hm=>by
   obtain⟨q,_,q2,aw⟩:=Hy.1 hm;exact⟨q,aw,Hc ai q2⟩
  have al:∀m:Int,fl ||| Df K ms.length m K.length<65536:=fun m=>Nl W (Mz _ _ _ _ (by have:=V.len;omega))
  have am:∀q:Nat,q<n→CH (J.1.getD q [])<2 ^ n:=fun q Z=>by
   rcases Nat.lt_or_ge (CH (J.1.getD q [])) (2 ^ n) with h | h
   ·exact h
   ·obtain⟨i,aK,an⟩:=Nat.exists_ge_and_testBit_of_ge_two_pow h;rw [Kd (fun x O=>((U.Gl q).inr x O).1)] at an;have:=(U.Gl q).inr _ (of_decide_eq_true an);omega
  have ao:∀m∈BT sm 16,Fq J K ms.length m=true→∀x∈EK J K k (CH (J.1.getD m.toNat [])) (ms++ [m]) (fl ||| Df K ms.length m K.length),x.2<65536:=fun m hm hb=>by
   obtain⟨q,rfl,Z⟩:=ak m hm;have ay:16 ^ k≤16 ^ 7:=Nat.pow_le_pow_right (by omega) (by omega);exact(aj (k+1) _ _ _ [] (by simp;omega) (by omega) (am q Z) (al _) (by simpa using ay) (fun x O=>by simp at O)).2
  constructor
  ·unfold Ik;have ae:IW F (J.1,J.2,A) K age ms fl sm=some (some (BT sm 16)):=by
    unfold IW;rw [Qq V];simp only [Option.bind_some];rw [if_neg (by omega),MN aa (by omega)];rfl
   rw [ae];simp only [Option.bind_some,JN];rw [if_pos (by omega)];have e:EK J K (k+1) sm ms fl=(BT sm 16).flatMap fun m=>if Fq J K ms.length m=true then EK J K k (CH (J.1.getD m.toNat [])) (ms++ [m]) (fl ||| Df K ms.length m K.length) else []:=rfl
   rw [e];refine TB fun l1 l2 m hm=>?_;have az:m∈BT sm 16:=by rw [hm];simp
   obtain⟨q,rfl,Z⟩:=ak m az;unfold Pa;rw [Wz aa U V Z (by omega) W];simp only [Option.bind_some];by_cases hb:Fq J K ms.length (q:Int)=true
   ·rw [if_pos hb,if_pos hb];simp only;have aA:La F (J.1,J.2,A) K age (ms++ [(q:Int)]) (fl ||| Df K ms.length (q:Int) K.length) (q:Int)=some (CH (J.1.getD q [])):=by
     unfold La;have aB:J.1[q]? =some (J.1.getD q []):=by rw [List.getD_eq_getElem?_getD,List.getElem?_eq_getElem (by have:=U.l1;omega)];rfl
     have ap:=U.Gl q;rw [Dk (m:=q) rfl aB];simp only [Option.bind_some];rw [Ov aa (by have:=ap.len;omega) (fun x O=>by have:=ap.inr x O;omega)];rfl
    rw [aA];simp only [Option.bind_some];have aC:l1.length+1≤16:=by
     have:=congrArg List.length hm;simp at this;omega
    have aL:(l1.flatMap fun m=>if Fq J K ms.length m=true then EK J K k (CH (J.1.getD m.toNat [])) (ms++ [m]) (fl ||| Df K ms.length m K.length) else []).length≤l1.length*16 ^ k:=Hx fun y _=>by
     split
     ·exact Ma _ _ _ _ _ _
     ·simp
    have hmul:l1.length*16 ^ k+16 ^ k≤16 ^ (k+1):=by
     rw [Nat.pow_succ,← Nat.succ_mul,Nat.mul_comm _ 16];exact Nat.mul_le_mul_right _ aC
    have:=aj g (CH (J.1.getD q [])) (ms++ [(q:Int)]) (fl ||| Df K ms.length (q:Int) K.length) (ac++l1.flatMap fun m=>if Fq J K ms.length m=true then EK J K k (CH (J.1.getD m.toNat [])) (ms++ [m]) (fl ||| Df K ms.length m K.length) else []) (by simp;omega) (by omega) (am q Z) (al _) (by rw [List.length_append];omega) ?_
    ·rw [this.1,show((q:Int)).toNat=q by omega]
    ·intro x O;rcases List.mem_append.1 O with O | O
     ·exact ab x O
     ·obtain⟨y,aD,ag⟩:=List.mem_flatMap.1 O;have aE:y∈BT sm 16:=by rw [hm];simp [aD]
      split at ag
      ·rename_i aF;exact ao y aE aF x ag
      ·simp at ag
   ·rw [if_neg hb,if_neg hb];simp
  ·intro x O;unfold EK at O;obtain⟨m,hm,ah⟩:=List.mem_flatMap.1 O;split at ah
   ·rename_i hb;exact ao m hm hb x ah
   ·simp at ah
end Pal
namespace Pal
abbrev Cr:=Int×List Int×Nat
def De(t:Cr):Nat:=(BT t.2.2 16).length
theorem VO{F:Nat}{t:Cr}(K:100<F)(h:t.2.2<65536):f130 F t=some (De t:Int):=by
 unfold f130;rw [MN K h];rfl
def DL(K:List Cr)(q:Int×List Cr):Prop:=(K= []∧q=(0,[]))∨∃k:Nat,q.1=(k:Int)∧(∃t∈K,De t=k)∧(∀t∈K,k≤De t)∧q.2=K.filter (fun t=>decide (De t=k))
theorem DL.len{K:List Cr}{q:Int×List Cr}(h:DL K q):q.2.length≤K.length:=by
 rcases h with⟨_,rfl⟩ | ⟨k,_,_,_,h⟩
 ·simp
 ·rw [h];exact List.length_filter_le _ _
theorem DL.sub{K:List Cr}{q:Int×List Cr}(h:DL K q):∀t∈q.2,t∈K∧(De t:Int)=q.1:=by
 rcases h with⟨_,rfl⟩ | ⟨k,O,_,_,h⟩
 ·simp
 ·intro t ht;rw [h] at ht;obtain⟨a,b⟩:=List.mem_filter.1 ht;exact⟨a,by rw [O,of_decide_eq_true b]⟩
theorem DL.snoc(F:Nat){O:List Cr}{q:Int×List Cr}{t:Cr}(h:DL O q)(ak:O.length<2 ^ 39):∃K,Ii F q.1 q.2 t (De t:Int)=some K∧DL (O++ [t]) K:=by
 have ag:=h.len;obtain⟨le,all⟩:=q;simp only at ag ⊢;have fresh:∀c:Bool,c=true→(∀s∈O,De t<De s)→∃K:Int×List Cr,(Option.bind (if c=true then some ((De t:Int),([]:List Cr)) else some (le,all)) fun U=>Option.bind (if(De t:Int)=U.1 then(Dl U.2 ([t]:List Cr)).bind fun ah=>some ah else some U.2) fun ai=>some (U.1,ai))=some K∧DL (O++ [t]) K:=by
  rintro c rfl V;refine⟨((De t:Int),[t]),?_,.inr ⟨De t,rfl,⟨t,by simp,rfl⟩,?_,?_⟩⟩
  ·simp [Dl]
  ·intro s hs;rcases List.mem_append.1 hs with hs | hs
   ·exact Nat.le_of_lt (V s hs)
   ·simp at hs;subst hs;exact Nat.le_refl _
  ·rw [List.filter_append,List.filter_eq_nil_iff.2 fun s hs=>by have:=V s hs;simp;omega];simp
 unfold Ii;rcases h with⟨rfl,he⟩ | ⟨k,ae,⟨s,hs,Z⟩,aa,W⟩
 ·cases he;simp only [List.length_nil];obtain⟨K,ab,e2⟩:=fresh true rfl (fun s hs=>by simp at hs);exact⟨K,by simpa using ab,e2⟩
 ·simp only at ae W;subst ae;have aj:¬((all.length:Int)=0):=by
   have:s∈all:=by rw [W];exact List.mem_filter.2 ⟨hs,by simpa using Z⟩
   have:=List.length_pos_of_mem this;omega
  rw [if_neg aj];simp only [Option.bind_some];rcases Nat.lt_trichotomy (De t) k with V | heq | al
  ·obtain⟨K,ab,e2⟩:=fresh (decide ((De t:Int)<(k:Int))) (decide_eq_true (by omega)) (fun s hs=>Nat.lt_of_lt_of_le V (aa s hs));exact⟨K,ab,e2⟩
  ·rw [if_neg (by rw [decide_eq_true_iff];omega)];simp only [Option.bind_some];rw [if_pos (by omega)];refine⟨((k:Int),all++ [t]),?_,.inr ⟨k,rfl,⟨s,by simp [hs],Z⟩,?_,?_⟩⟩
   ·unfold Dl;rw [if_pos (by simp;omega)];rfl
   ·intro u hu;rcases List.mem_append.1 hu with hu | hu
    ·exact aa u hu
    ·simp at hu;subst hu;omega
   ·rw [List.filter_append,W];simp [heq]
  ·rw [if_neg (by rw [decide_eq_true_iff];omega)];simp only [Option.bind_some];rw [if_neg (by omega)];refine⟨((k:Int),all),rfl,.inr ⟨k,rfl,⟨s,by simp [hs],Z⟩,?_,?_⟩⟩
   ·intro u hu;rcases List.mem_append.1 hu with hu | hu
    ·exact aa u hu
    ·simp at hu;subst hu;omega
   ·rw [List.filter_append,← W];have:¬De t=k:=by omega
    simp [this]
theorem N4{F:Nat}{a:Int}(O:100<F):∀(l:List (List Int×Nat)) (K:List Cr) (q:Int×List Cr),DL K q→K.length+l.length<2 ^ 39→(∀x∈l,x.2<65536)→
  ∃U,Fh (add1 F a) l q=some U∧DL (K++l.map fun x=>(a,x.1,x.2)) U
 | [],K,q,h,_,_=>⟨q,rfl,by simpa using h⟩
 | x::l,K,q,h,W,V=>by
  simp only [List.length_cons] at W
  obtain⟨q1,Z,e2⟩:=h.snoc F (t:=(a,x.1,x.2)) (by omega)
  obtain⟨q2,aa,ab⟩:=N4 O l (K++ [(a,x.1,x.2)]) q1 e2 (by simp;omega) (fun y ae=>V y (by simp [ae]))
  refine⟨q2,?_,by simpa using ab⟩
  unfold Fh add1
  rw [VO (t:=(a,x.1,x.2)) O (V x (by simp))]
  simp only [Option.bind_some]
  rw [Z];exact aa
def TA(J:JW)(K:BP)(a:Nat):List Cr:=(EK J K (Dd K+1) (AG J a) [] 0).map fun x=>((a:Int),x.1,x.2)
def TT(J:JW)(K:BP):List Cr:=(List.range 13).flatMap (TA J K)
theorem RQ{n:Nat}{J:JW}{K:BP}(O:Ct n K)(a:Nat):(TA J K a).length≤268435456:=by
 unfold TA;rw [List.length_map];exact Nat.le_trans (Ma _ _ _ _ _ _) (UF (by have:=IA O;omega))
theorem QI{F n a:Nat}{J:JW}{K:BP}(O:100<F)(U:VJ n J)(V:Ct n K)(W:a<13):∃q,GA F (J.1,J.2,EL J) K (a:Int)=some q∧DL (TA J K a) q∧∀t∈TA J K a,t.2.2<65536:=by
 have ah:=IA V;have Z:(16:Nat) ^ (Dd K+1)≤16 ^ 7:=Nat.pow_le_pow_right (by omega) (by omega);have aa:∀l:List (List Int×Nat),l.length≤16 ^ 7→(∀x∈l,x.2<65536)→(Hh F (a:Int) l).isSome=true:=fun l ai ab=>by
  obtain⟨q,e,_⟩:=N4 (a:=(a:Int)) O l [] (0,[]) (.inl ⟨rfl,rfl⟩) (by simp;omega) ab;unfold Hh;rw [e];rfl
 obtain⟨d1,d2⟩:=Ye (A:=EL J) (age:=(a:Int)) (ok:=fun ac=>(Hh F (a:Int) ac).isSome) O U V aa (Dd K+1) F (AG J a) [] 0 [] (by simp) (by omega) (Ia U a) (by omega) (by simpa using Z) (by simp);obtain⟨q,ae,e2⟩:=N4 (a:=(a:Int)) O (EK J K (Dd K+1) (AG J a) [] 0) [] (0,[]) (.inl ⟨rfl,rfl⟩) (by have:=Ma J K (Dd K+1) (AG J a) [] 0;simp;omega) d2;refine⟨q,?_,by unfold TA;simpa using e2,?_⟩
 ·unfold GA JJ;rw [Dk (m:=a) rfl (WK J W)];simp only [Option.bind_some];rw [d1];simp only [Option.bind_some,List.nil_append];exact ae
 ·intro t ht;obtain⟨x,ag,rfl⟩:=List.mem_map.1 ht;exact d2 x ag
theorem P7{F n:Nat}{J:JW}{K:BP}(U:100<F)(V:VJ n J)(W:Ct n K):∃qs:Nat→Int×List Cr,Jq F (J.1,J.2,EL J) K=some (C9 qs)∧∀j,j<13→DL (TA J K j) (qs j):=by
 refine⟨fun j=>(GA F (J.1,J.2,EL J) K ((j:Nat):Int)).getD (0,[]),?_,fun j O=>?_⟩
 ·unfold Jq;rw [if_pos];rw [List.all_eq_true];intro j O;obtain⟨q,e,_⟩:=QI U V W (List.mem_range.1 O);rw [e];rfl
 ·obtain⟨q,e,h,_⟩:=QI U V W O;simp only [e];exact h
theorem QQ{α β:Type}{f g:α→List β}:∀{l:List α},(∀x∈l,f x=g x)→l.flatMap f=l.flatMap g
 | [],_=>rfl
 | x::l,h=>by rw [List.flatMap_cons,List.flatMap_cons,h x (by simp),QQ fun y K=>h y (by simp [K])]
theorem DL.flat{T:Nat→List Cr}{Q:Nat→Int×List Cr}{l:List Nat}{r:Int×List Cr}(h:∀j∈l,DL (T j) (Q j))(ai:DL (l.flatMap fun j=>(Q j).2) r):DL (l.flatMap T) r:=by
 have Gv:∀j∈l,(Q j).2= []→T j= []:=fun j K e=>by
  rcases h j K with⟨U,_⟩ | ⟨k,_,⟨t,ht,Z⟩,_,aa⟩
  ·exact U
  ·have:t∈(Q j).2:=by rw [aa];exact List.mem_filter.2 ⟨ht,by simpa using Z⟩
   rw [e] at this;simp at this
 rcases ai with⟨U,rfl⟩ | ⟨k,U,⟨t,ht,Z⟩,ah,aa⟩
 ·refine .inl ⟨?_,rfl⟩;rw [List.flatMap_eq_nil_iff] at U ⊢;exact fun j K=>Gv j K (U j K)
 ·have low:∀j∈l,∀s∈T j,∃O:Nat,(Q j).2=(T j).filter (fun t=>decide (De t=O))∧k≤O∧O≤De s:=fun j K s hs=>by
   rcases h j K with⟨ab,_⟩ | ⟨O,_,⟨u,hu,ae⟩,V,W⟩
   ·rw [ab] at hs;simp at hs
   ·refine⟨O,W,?_,V s hs⟩;have:=ah u (List.mem_flatMap.2 ⟨j,K,by rw [W];exact List.mem_filter.2 ⟨hu,by simpa using ae⟩⟩);omega
  refine .inr ⟨k,U,?_,?_,?_⟩
  ·obtain⟨j,K,aj⟩:=List.mem_flatMap.1 ht;exact⟨t,List.mem_flatMap.2 ⟨j,K,((h j K).sub t aj).1⟩,Z⟩
  ·intro s hs;obtain⟨j,K,ak⟩:=List.mem_flatMap.1 hs;obtain⟨O,_,g2,V⟩:=low j K s ak;omega
  ·rw [aa,List.filter_flatMap,List.filter_flatMap];refine QQ fun j K=>?_;rcases h j K with⟨ab,g2⟩ | ⟨O,_,⟨u,hu,ae⟩,V,W⟩
   ·rw [ab,g2]
   ·obtain⟨am,an,e2,ao⟩:=low j K u hu;rw [W,List.filter_filter];by_cases e:O=k
    ·subst e;exact List.filter_congr fun x _=>by simp
    ·have ap:k<O:=by
      have al:u∈(Q j).2:=by rw [W];exact List.mem_filter.2 ⟨hu,by simpa using ae⟩
      have:=ah u (List.mem_flatMap.2 ⟨j,K,al⟩);omega
     rw [List.filter_eq_nil_iff.2 fun x ag=>?_,List.filter_eq_nil_iff.2 fun x ag=>?_]
     ·have:=V x ag;simp;omega
     ·have:=V x ag;simp;omega
theorem TO{qs:Nat→Int×List Cr}{p:Int×Int×List Cr}(h:p∈C9 qs):∃j,j<13∧p=partOf qs j∧0<(qs j).2.length:=by
 unfold C9 at h;obtain⟨j,K,rfl⟩:=List.mem_map.1 h;obtain⟨O,U⟩:=List.mem_filter.1 K;exact⟨j,List.mem_range.1 O,rfl,of_decide_eq_true U⟩
theorem PO(qs:Nat→Int×List Cr):(C9 qs).length≤13:=by
 unfold C9;rw [List.length_map];exact Nat.le_trans (List.length_filter_le _ _) (by simp)
theorem Tl(qs:Nat→Int×List Cr):((C9 qs).flatMap fun p=>p.2.2)=(List.range 13).flatMap fun j=>(qs j).2:=by
 unfold C9;rw [List.flatMap_map];generalize List.range 13=l
 induction l with
 | nil=>rfl
 | cons j l K=>
  rw [List.filter_cons,List.flatMap_cons];split
  ·rw [List.flatMap_cons,K];rfl
  ·rename_i h;have:(qs j).2= []:=List.length_eq_zero_iff.1 (by simpa using h);rw [K,this];rfl
theorem Xd{F:Nat}{p:Int×Int×List Cr}{pre:List Cr}{le:Int}{all:List Cr}(W:268435456<F)(Z:p.2.2.length≤268435456)(aa:pre.length<2 ^ 38)(V:∀t∈p.2.2,(De t:Int)=p.2.1)(h:DL pre (le,all)):
  AY (iter (KD F p) F (le,all,0)) (fun r=>DL (pre++p.2.2) r):=by
 refine Cj p.2.2.length (fun i s=>s.2.2=(i:Int)∧DL (pre++p.2.2.take i) (s.1,s.2.1)) ⟨rfl,by simpa using h⟩ (by omega) ?_ ?_
 ·rintro i ⟨a,b,c⟩ hi ⟨O,K⟩;simp only at O K;subst O;unfold KD;refine BD (by simp only;omega) (Bu (m:=i) rfl hi ?_);obtain⟨q,U,e2⟩:=K.snoc F (t:=p.2.2[i]) (by simp;omega);rw [V _ (List.getElem_mem hi)] at U;refine AM U (AV ((i+1:Nat):Int) (by simp) (by omega) (by omega) ?_);refine Am ⟨rfl,?_⟩;rw [List.take_add_one,List.getElem?_eq_getElem hi];simpa using e2
 ·rintro⟨a,b,c⟩ ⟨O,K⟩;simp only at O K;subst O;unfold KD;refine Bj (by simp) (Am ⟨_,rfl,?_⟩);rw [List.take_length] at K;exact K
theorem RR{F n:Nat}{J:JW}{W:BP}(ae:268435456<F)(ag:VJ n J)(ab:Ct n W):AY (f93 F (J.1,J.2,EL J) W) (fun r=>DL (TT J W) r):=by
 obtain⟨qs,e,Z⟩:=P7 (F:=F) (by omega) ag ab;unfold f93;refine AM e ?_;have aj:=PO qs;have hlen:∀p∈C9 qs,p.2.2.length≤268435456∧∀t∈p.2.2,(De t:Int)=p.2.1:=fun p aa=>by
  obtain⟨j,U,rfl,_⟩:=TO aa;exact⟨Nat.le_trans (Z j U).len (RQ ab j),fun t ht=>((Z j U).sub t ht).2⟩
 refine AI (S:=fun r=>DL ((C9 qs).flatMap fun p=>p.2.2) r) ?_ ?_
 ·refine Cj (C9 qs).length (fun i s=>s.2.2=(i:Int)∧DL (((C9 qs).take i).flatMap fun p=>p.2.2) (s.1,s.2.1)) ⟨rfl,.inl ⟨rfl,rfl⟩⟩ (by omega) ?_ ?_
  ·rintro i ⟨a,b,c⟩ hi ⟨O,K⟩;simp only at O K;subst O;unfold Mt;refine BD (by simp only;omega) (Bu (m:=i) rfl hi ?_);obtain⟨ah,g2⟩:=hlen _ (List.getElem_mem hi);have ak:(((C9 qs).take i).flatMap fun p=>p.2.2).length≤((C9 qs).take i).length*268435456:=Hx fun p aa=>(hlen p (List.mem_of_mem_take aa)).1;have ai:((C9 qs).take i).length≤13:=by rw [List.length_take];omega
   have hmul:((C9 qs).take i).length*268435456≤13*268435456:=Nat.mul_le_mul_right _ ai;refine AI (Xd ae ah (by omega) g2 K) ?_;intro r V;refine AV ((i+1:Nat):Int) (by simp) (by omega) (by omega) ?_;refine Am ⟨rfl,?_⟩;rw [List.take_add_one,List.getElem?_eq_getElem hi];simp only [Option.toList_some,List.flatMap_append,List.flatMap_cons,List.flatMap_nil,List.append_nil];exact V
  ·rintro⟨a,b,c⟩ ⟨O,K⟩;simp only at O K;subst O;unfold Mt;refine Bj (by simp) (Am ⟨_,rfl,?_⟩);rw [List.take_length] at K;exact K
 ·intro r V;refine Am ?_;rw [Tl] at V;exact DL.flat (fun j U=>Z j (List.mem_range.1 U)) V
end Pal
namespace Pal
theorem DL.Rw{K:List Cr}{q:Int×List Cr}(h:DL K q):q.2= []↔K= []:=by
 rcases h with⟨O,rfl⟩ | ⟨k,_,⟨t,ht,U⟩,_,V⟩
 ·simp [O]
 ·constructor
  ·intro e;have:t∈q.2:=by rw [V];exact List.mem_filter.2 ⟨ht,by simpa using U⟩
   rw [e] at this;simp at this
  ·rintro rfl;simp at ht
def H9(J:JW)(K:BP)(k:Nat):Prop:=(∃t∈TT J K,De t=k)∧∀t∈TT J K,k≤De t
def D6(J:JW)(K:BP)(k:Nat):List Cr:=(TT J K).filter fun t=>decide (De t=k)
theorem H9.uniq{J:JW}{K:BP}{k k':Nat}(h:H9 J K k)(O:H9 J K k'):k=k':=by
 obtain⟨⟨t,ht,aa⟩,U⟩:=h;obtain⟨⟨V,W,ab⟩,Z⟩:=O;have:=U V W;have:=Z t ht;omega
theorem KG{J:JW}{U:BP}{t:Cr}:t∈TT J U↔∃a,a<13∧t∈TA J U a:=by
 unfold TT;rw [List.mem_flatMap];exact⟨fun⟨a,K,O⟩=>⟨a,List.mem_range.1 K,O⟩,fun⟨a,K,O⟩=>⟨a,List.mem_range.2 K,O⟩⟩
theorem MQ{J:JW}{K:BP}{a:Nat}{t:Cr}(h:t∈TA J K a):t.1=(a:Int):=by
 obtain⟨x,_,rfl⟩:=List.mem_map.1 h;rfl
theorem X8{n:Nat}{J:JW}{K:BP}(O:Ct n K):(TT J K).length≤13*268435456:=by
 unfold TT;have:=Hx (l:=List.range 13) (f:=TA J K) (b:=268435456) fun a _=>RQ O a;simpa using this
theorem Xp{F n:Nat}{J:JW}{K:BP}{p:Int}(b:Bool)(Z:268435456<F)(O:VJ n J)(V:Ct n K)(aa:K.length≤4)(ab: -1≤p∧p<(K.length:Int)):
  AY (f78 F J K p b) (fun r=>DL (TT J K) r.2.1∧r.2.2=if TT J K= []∧b=false then 11 else 0):=by
 unfold f78;refine AM (OH (by omega) O V aa) (Bj (by simp) ?_);refine AV ((K.length:Int) - 1) rfl (by omega) (by omega) (AM (IC F _ _ _) ?_);refine Bj (by simp;omega) (AM (ON (by omega) O) ?_);refine AM (b:=(J.1,J.2,EL J)) rfl (AI (RR Z O V) ?_);intro r U;have W:=U.Rw;refine AI (S:=fun c=>c=decide (TT J K= []∧b=false)) ?_ ?_
 ·refine By (fun h=>?_) (fun h=>?_)
  ·have:TT J K= []:=W.1 (List.length_eq_zero_iff.1 (by omega));refine Am ?_;cases b <;> simp [this]
  ·have:TT J K≠ []:=fun e=>h (by rw [W.2 e];rfl);exact Am (by simp [this])
 ·rintro c rfl;refine By (fun h=>?_) (fun h=>?_)
  ·exact Am ⟨U,by rw [if_pos (of_decide_eq_true h)]⟩
  ·exact Am ⟨U,by rw [if_neg (of_decide_eq_false (by simpa using h))]⟩
theorem asked{F n:Nat}{J:JW}{K:BP}{p:Int}(aa:268435456<F)(ab:VJ n J)(ae:Ct n K)(O:K.length≤4)(ag: -1≤p∧p<(K.length:Int)):
  AY (f78 F J K p false) (fun r=>(TT J K= []∧r.2.1=(0,[])∧r.2.2=11)∨∃k,H9 J K k∧r.2.1=((k:Int),D6 J K k)∧r.2.2=0):=by
 refine(Xp false aa ab ae O ag).Ai ?_;rintro⟨x,⟨q1,q2⟩,e⟩ ⟨W,V⟩;simp only at W V;rcases W with⟨U,O⟩ | ⟨k,U,O,ah,Z⟩
 ·exact .inl ⟨U,O,by rw [V,if_pos (by simp [U])]⟩
 ·refine .inr ⟨k,⟨O,ah⟩,?_,?_⟩
  ·simp only at U Z;rw [U,Z];rfl
  ·obtain⟨t,ht,_⟩:=O;simp only;rw [V,if_neg];rintro⟨ai,_⟩;rw [ai] at ht;simp at ht
theorem XQ{F n:Nat}{J:JW}{K:BP}(W:268435456<F)(Z:VJ n J)(aa:Ct n K)(ab:K.length≤4):
  AY (f47 F J K) (fun r=>(TT J K= []∧r=(0,11))∨∃k,H9 J K k∧r=((k:Int),0)):=by
 unfold f47;refine AI (asked W Z aa ab ⟨by omega,by omega⟩) ?_;rintro⟨x,q,e⟩ (⟨V,O,U⟩ | ⟨k,V,O,U⟩)
 ·simp only at O U;subst O;subst U;exact Am (.inl ⟨V,rfl⟩)
 ·simp only at O U;subst O;subst U;exact Am (.inr ⟨k,V,rfl⟩)
def GZ(J:JW)(K:BP)(p:Nat):List Int:=((List.range 13).filter fun a=>(TA J K a).any fun t=>decide (De t≤p)).map fun(a:Nat)=>(a:Int)
theorem Uj{J:JW}{U:BP}{p:Nat}{x:Int}:x∈GZ J U p↔∃t∈TT J U,De t≤p∧t.1=x:=by
 unfold GZ;simp only [List.mem_map,List.mem_filter,List.mem_range,List.any_eq_true,decide_eq_true_iff];constructor
 ·rintro⟨a,⟨O,t,K,W⟩,rfl⟩;exact⟨t,KG.2 ⟨a,O,K⟩,W,MQ K⟩
 ·rintro⟨t,O,K,rfl⟩;obtain⟨a,Z,V⟩:=KG.1 O;exact⟨a,⟨Z,t,V,K⟩,(MQ V).symm⟩
theorem W5{F n p:Nat}{J:JW}{K:BP}(am:268435456<F)(O:VJ n J)(U:Ct n K)(Z:K.length≤4)(an:p≤4):f43 F J K (p:Int)=some (if GZ J K p= [] then([],11) else(GZ J K p,0)):=by
 obtain⟨qs,e,aa⟩:=P7 (F:=F) (by omega) O U;have ao:=PO qs;refine Dq ?_;unfold f43;refine AM (OH (by omega) O U Z) (Bj (by simp) ?_);refine AM (IC F _ _ _) (Bj (by simp;omega) ?_);refine AM (ON (by omega) O) (AM (b:=(J.1,J.2,EL J)) rfl ?_);refine AM e ?_;have ab:((C9 qs).filter fun q=>decide (q.2.1≤(p:Int))).map (fun q=>q.1)=GZ J K p:=by
  unfold C9 GZ;rw [List.filter_map,List.map_map,List.filter_filter];have:(List.range 13).filter (fun j=>((fun q:Int×Int×List Cr=>decide (q.2.1≤(p:Int)))∘partOf qs) j&&decide (0<(qs j).2.length))=(List.range 13).filter fun a=>(TA J K a).any fun t=>decide (De t≤p):=by
   refine List.filter_congr fun j ae=>?_;have ag:=aa j (List.mem_range.1 ae);rw [Bool.eq_iff_iff];simp only [Function.comp,partOf,Bool.and_eq_true,decide_eq_true_iff,List.any_eq_true];rcases ag with⟨V,g2⟩ | ⟨k,V,⟨t,ht,ah⟩,ai,aj⟩
   ·constructor
    ·rintro⟨_,h⟩;rw [g2] at h;simp at h
    ·rintro⟨t,ht,_⟩;rw [V] at ht;simp at ht
   ·have:t∈(qs j).2:=by rw [aj];exact List.mem_filter.2 ⟨ht,by simpa using ah⟩
    have ak:=List.length_pos_of_mem this;constructor
    ·rintro⟨al,_⟩;have W:(qs j).1≤(p:Int):=of_decide_eq_true al;exact⟨t,ht,by omega⟩
    ·rintro⟨s,hs,ap⟩;have:=ai s hs;have W:(qs j).1≤(p:Int):=by omega
     exact⟨decide_eq_true W,ak⟩
  rw [this];rfl
 refine AI (S:=fun r=>r=GZ J K p) ?_ ?_
 ·rw [← ab];refine Cj (C9 qs).length (fun i s=>s=((((C9 qs).take i).filter fun q=>decide (q.2.1≤(p:Int))).map (fun q=>q.1),(i:Int))) rfl (by omega) ?_ ?_
  ·rintro i s hi rfl;unfold MS;refine BD (by simp only;omega) (Bu (m:=i) rfl hi ?_);refine AI (S:=fun c=>c=(((C9 qs).take (i+1)).filter fun q=>decide (q.2.1≤(p:Int))).map (fun q=>q.1)) ?_ ?_
   ·rw [List.take_add_one,List.getElem?_eq_getElem hi];simp only [Option.toList_some];rw [List.filter_append,List.map_append];refine By (fun h=>?_) (fun h=>?_)
    ·refine Iv ?_ (Am ?_)
     ·rw [List.length_map];exact Nat.le_trans (Nat.add_le_add_right (Nat.le_trans (List.length_filter_le _ _) (show((C9 qs).take i).length≤13 by rw [List.length_take];omega)) 1) (by omega)
     ·simp [List.filter_cons,h]
    ·refine Am ?_;simp [List.filter_cons,h]
   ·rintro c rfl;exact AV ((i+1:Nat):Int) (by simp) (by omega) (by omega) (Am rfl)
  ·rintro s rfl;unfold MS;refine Bj (by simp) (Am ⟨_,rfl,?_⟩);rw [List.take_length]
 ·rintro r rfl;refine By (fun h=>?_) (fun h=>?_)
  ·rw [if_pos (List.length_eq_zero_iff.1 (by omega))];exact Am rfl
  ·rw [if_neg (fun e=>h (by rw [e];rfl))];exact Am rfl
theorem XF{F:Nat}{l:List Cr}(aa:l.length<F)(hlen:l.length<2 ^ 40)(h:∀t∈l,0≤t.1∧t.1<13):AY (f87 F l) (fun r=>r<2 ^ 13∧∀a:Nat,r.testBit a=true↔∃t∈l,t.1=(a:Int)):=by
 unfold f87;refine AI (S:=fun r=>r<2 ^ 13∧∀a:Nat,r.testBit a=true↔∃t∈l,t.1=(a:Int)) ?_ (fun r W=>Am W);refine Cj l.length (fun i s=>s.2=(i:Int)∧s.1<2 ^ 13∧∀a:Nat,s.1.testBit a=true↔∃t∈l.take i,t.1=(a:Int)) ⟨rfl,by simp,fun a=>by simp⟩ (by omega) ?_ ?_
 ·rintro i ⟨s,c⟩ hi ⟨O,U,K⟩;simp only at O U K;subst O;unfold MG;have hm:=h _ (List.getElem_mem hi);refine BD (by simp only;omega) (Bu (m:=i) rfl hi ?_);have Z:l[i].1=((l[i].1.toNat:Nat):Int):=by omega
  have V:=M0 F (s:=s) (n:=l[i].1.toNat) (by omega) (by omega);rw [← Z] at V;refine AM V ?_;refine AV ((i+1:Nat):Int) (by simp) (by omega) (by omega) ?_;refine Am ⟨rfl,?_,fun a=>?_⟩
  ·refine Nat.or_lt_two_pow U ?_;rw [Nat.one_shiftLeft];exact Nat.pow_lt_pow_right (by omega) (by omega)
  ·simp only;rw [Nat.testBit_or,Bool.or_eq_true,K,Nat.one_shiftLeft,Nat.testBit_two_pow,decide_eq_true_iff,List.take_add_one,List.getElem?_eq_getElem hi];simp only [Option.toList_some,List.mem_append,List.mem_singleton];constructor
   ·rintro(⟨t,t1,t2⟩ | ab)
    ·exact⟨t,.inl t1,t2⟩
    ·exact⟨l[i],.inr rfl,by omega⟩
   ·rintro⟨t,t1 | t1,t2⟩
    ·exact .inl ⟨t,t1,t2⟩
    ·subst t1;exact .inr (by omega)
 ·rintro⟨s,c⟩ ⟨O,U,K⟩;simp only at O U K;subst O;unfold MG;refine Bj (by simp) (Am ⟨_,rfl,U,?_⟩);rw [List.take_length] at K;exact K
end Pal
namespace Pal
def Eh(J:JW)(a:Nat)(p:List Int):Prop:=(∀m,p[0]? =some m→∃k:Nat,m=(k:Int)∧(AG J a).testBit k=true)∧∀(y:Nat) m m',p[y]? =some m→p[y+1]? =some m'→m'∈J.1.getD m.toNat []
theorem Eh.range{n a:Nat}{J:JW}{p:List Int}(K:VJ n J)(h:Eh J a p):∀(y:Nat) m,p[y]? =some m→0≤m∧m<(n:Int)
 | 0,m,hm=>by
  obtain⟨k,rfl,O⟩:=h.1 m hm
  have:=Hc (Ia K a) O
  omega
 | y+1,m,hm=>by
  have U:y<p.length:=by have:=(List.getElem?_eq_some_iff.1 hm).1;omega
  exact(K.Gl _).inr _ (h.2 y p[y] m (List.getElem?_eq_getElem U) hm)
theorem Eh.take{a:Nat}{J:JW}{p:List Int}(h:Eh J a p)(k:Nat):Eh J a (p.take k):=by
 have key:∀(y:Nat) m,(p.take k)[y]? =some m→p[y]? =some m:=fun y m hm=>by
  rw [List.getElem?_take] at hm;split at hm
  ·exact hm
  ·cases hm
 exact⟨fun m hm=>h.1 m (key 0 m hm),fun y m m' K O=>h.2 y m m' (key _ _ K) (key _ _ O)⟩
theorem Eh.snoc{a:Nat}{J:JW}{p:List Int}{m x:Int}(h:Eh J a (p++ [m]))(U:x∈J.1.getD m.toNat []):Eh J a (p++ [m]++ [x]):=by
 constructor
 ·intro y O;rw [List.getElem?_append_left (by simp)] at O;exact h.1 y O
 ·intro y u V hu K;rcases Nat.lt_or_ge (y+1) (p++ [m]).length with W | Z
  ·rw [List.getElem?_append_left (by omega)] at hu;rw [List.getElem?_append_left W] at K;exact h.2 y u V hu K
  ·have aa:=(List.getElem?_eq_some_iff.1 K).1;simp only [List.length_append,List.length_singleton] at Z aa;have e:y=p.length:=by omega
   subst e;rw [List.getElem?_append_left (by simp),List.getElem?_append_right (by omega)] at hu;rw [List.getElem?_append_right (by simp)] at K;simp at hu K;subst hu;subst K;exact U
theorem Wr{n a q:Nat}{J:JW}{x:Int}(K:VJ n J)(O:(AG J a).testBit q=true)(U:x∈J.1.getD q []):∃k:Nat,x=(k:Int)∧(AG J (a+1)).testBit k=true:=by
 have V:=(K.Gl q).inr x U;refine⟨x.toNat,by omega,?_⟩;show(F4 J.1 (AG J a)).testBit _=true;rw [Me K];exact⟨q,by have:=Hc (Ia K a) O;have:=K.le;omega,O,by rw [show((x.toNat:Nat):Int)=x by omega];exact U⟩
theorem VJ.SI{n q:Nat}{J:JW}(K:VJ n J)(U:q<n):J.1[q]? =some (J.1.getD q [])∧0<(J.1.getD q []).length:=by
 have V:=K.l1;have O:J.1[q]? =some (J.1.getD q []):=by rw [List.getD_eq_getElem?_getD,List.getElem?_eq_getElem (by omega)];rfl
 exact⟨O,(K.nx q _ O).2⟩
theorem Yg{F k n yrs:Nat}{b:Ft}{J:JW}(aB:100<F)(K:VJ n J)(hb:BG k b)(aC:k<1000)(aD:yrs≤20):
  AY (f45 F b J (yrs:Int)) (fun r=>∃a:Nat,r.1=(a:Int)∧a≤6∧r.2.1.length=yrs∧Eh J a r.2.1∧BG (k+30) r.2.2):=by
 have aE:=K.le;have aF:=K.pos;unfold f45;refine AI (HI hb (by omega) (by omega)) ?_;rintro⟨an,aG⟩ ⟨aq,g2,ao⟩;simp only at aq g2 ao ⊢;obtain⟨a,rfl⟩:∃a:Nat,an=(a:Int):=⟨an.toNat,by omega⟩;refine AI (S:=fun r=>∃q:Nat,r.1=(q:Int)∧(AG J a).testBit q=true∧BG (k+7) r.2) ?_ ?_
 ·refine Cj a (fun i s=>∃q:Nat,s.2.2.2.1=(q:Int)∧(AG J i).testBit q=true∧s.2.2.2.2=(i:Int)∧BG (k+1+i) (s.1,s.2.1,s.2.2.1)) ⟨0,rfl,by show(1:Nat).testBit 0=true;decide,rfl,ao⟩ (by omega) ?_ ?_
  ·rintro i ⟨s1,s2,ak,Z,aj⟩ hi ⟨q,O,aa,ab,ae⟩;simp only at O ab ae;subst O;subst ab;unfold MD;have ar:=Hc (Ia K i) aa;obtain⟨al,am⟩:=K.SI ar;refine BD (by simp only;omega) (AM (Dk (m:=q) rfl al) ?_);refine AI (MV (F:=F) ae (by omega) am (by have:=(K.Gl q).len;omega)) ?_;rintro⟨x,au⟩ ⟨ag,ah⟩;simp only at ag ah ⊢;obtain⟨av,rfl,aw⟩:=Wr K aa ag;exact AV ((i+1:Nat):Int) (by simp) (by omega) (by omega) (Am ⟨av,rfl,aw,rfl,ah⟩)
  ·rintro⟨s1,s2,ak,Z,aj⟩ ⟨q,O,aa,ab,ae⟩;simp only at O ab ae;subst O;subst ab;unfold MD;exact Bj (by simp) (Am ⟨_,rfl,q,rfl,aa,ae.Ai (by omega)⟩)
 ·rintro⟨aH,au⟩ ⟨q,O,aa,ah⟩;simp only at O ah ⊢;subst O;refine AI (S:=fun r=>r.1.length=yrs∧Eh J a r.1∧BG (k+30) r.2) ?_ ?_
  ·refine Cj yrs (fun i s=>s.2.2.2.2.1.length=i∧s.2.2.2.2.2=(i:Int)∧Eh J a (s.2.2.2.2.1++ [s.2.2.2.1])∧BG (k+7+i) (s.1,s.2.1,s.2.2.1)) ⟨rfl,rfl,⟨?_,?_⟩,ah⟩ (by omega) ?_ ?_
   ·intro m hm;simp at hm;subst hm;exact⟨q,rfl,aa⟩
   ·intro y m m' _ ay;simp at ay
   ·rintro i ⟨s1,s2,ak,Z,aj,az⟩ hi ⟨U,W,V,ai⟩;simp only at U W V ai;subst W;unfold My;have aI:=V.range K i Z (by rw [List.getElem?_append_right (by omega)];simp [U]);obtain⟨u,hu⟩:∃u:Nat,Z=(u:Int):=⟨Z.toNat,by omega⟩;subst hu;obtain⟨al,am⟩:=K.SI (q:=u) (by omega);refine BD (by simp only;omega) (Iv (by simp only;omega) ?_);refine AM (Dk (m:=u) rfl al) (AI (MV (F:=F) ai (by omega) am (by have:=(K.Gl u).len;omega)) ?_);rintro⟨x,aA⟩ ⟨ag,ap⟩;simp only at ag ap ⊢;exact AV ((i+1:Nat):Int) (by simp) (by omega) (by omega) (Am ⟨by simp [U],rfl,V.snoc (by simpa using ag),ap⟩)
   ·rintro⟨s1,s2,ak,Z,aj,az⟩ ⟨U,W,V,ai⟩;simp only at U W V ai;subst W;unfold My;refine Bj (by simp) (Am ⟨_,rfl,U,?_,ai.Ai (by omega)⟩);have:=V.take aj.length
    rwa [List.take_left' rfl] at this
  ·rintro⟨ms,aA⟩ ⟨U,W,V⟩;exact Am ⟨a,rfl,by omega,U,W,V⟩
theorem Ct.snoc{n:Nat}{O:BP}{l:Int×Int}(h:Ct n O)(aa:O.length<4)(V:0≤l.1∧l.1≤6)(W:0≤l.2∧l.2<(n:Int))(Z:∀x∈O,x.1≤l.1):Ct n (O++ [l]) where
 len:=by simp;omega
 yr x K:=by
  rcases List.mem_append.1 K with K | K
  ·exact h.yr x K
  ·simp at K;subst K;exact V
 sn x K:=by
  rcases List.mem_append.1 K with K | K
  ·exact h.sn x K
  ·simp at K;subst K;exact W
 IY:=by
  rw [List.pairwise_append];exact⟨h.IY,by simp,fun x K y U=>by simp at U;subst U;exact Z x K⟩
theorem Ct.nil{n:Nat}:Ct n []:=⟨by simp,by simp,by simp,by simp⟩
theorem Xc{F k n many:Nat}{b:Ft}{J:JW}{ms:List Int}(fl:Bool)(aE:100<F)(ah:VJ n J)(hb:BG k b)(aF:k<1000)(hm:many≤4)(ap:0<ms.length∧ms.length≤7)(Z:∀(y:Nat) m,ms[y]? =some m→0≤m∧m<(n:Int)):
  AY (f46 F b J ms (many:Int) fl) (fun r=>Ct n r.1∧r.1.length≤many∧(∀l∈r.1,l.1.toNat<ms.length)∧(fl=false→∀l∈r.1,ms[l.1.toNat]? =some l.2)∧BG (k+30) r.2):=by
 have aq:=ah.l2;unfold f46;refine AI (HI hb (by omega) (by omega)) ?_;rintro⟨ct,aG⟩ ⟨ar,g2,ai⟩;simp only at ar g2 ai ⊢;obtain⟨c,rfl⟩:∃c:Nat,ct=(c:Int):=⟨ct.toNat,by omega⟩;refine AI (S:=fun r=>Ct n r.1∧r.1.length≤many∧(∀l∈r.1,l.1.toNat<ms.length)∧(fl=false→∀l∈r.1,ms[l.1.toNat]? =some l.2)∧BG (k+30) r.2) ?_ (fun r Z=>Am Z);refine Og (fun m s=>∃y:Nat,s.2.2.2.2.2=(m:Int)∧s.2.2.2.2.1=(y:Int)∧y<ms.length∧s.2.2.2.1.length+m≤many∧Ct n s.2.2.2.1∧(∀l∈s.2.2.2.1,l.1≤(y:Int))∧(fl=false→∀l∈s.2.2.2.1,ms[l.1.toNat]? =some l.2)∧BG (k+29 - 4*m) (s.1,s.2.1,s.2.2.1)) ?_ (m:=c) ⟨0,rfl,rfl,ap.1,by simp;omega,Ct.nil,by simp,by simp,ai.Ai (by omega)⟩ (by omega);rintro m ⟨s1,s2,aH,out,yr,cnt⟩ ⟨y,aj,e2,aI,hlen,U,hle,aa,ab⟩;simp only at aj e2 hlen U hle aa ab;subst aj;subst e2;unfold OA;refine By (fun au=>?_) (fun av=>?_)
 ·simp only at au;have aJ:0<m:=by omega
  refine AV ((ms.length - 1:Nat):Int) (by omega) (by omega) (by omega) (AV ((y+2:Nat):Int) (by simp only;omega) (by omega) (by omega) ?_);refine AI (OB (F:=F) ab (by omega) (by simp only;omega) (by simp only;omega) (by omega)) ?_;rintro⟨ak,aK⟩ ⟨v1,v2,ae⟩;simp only at v1 v2 ae ⊢;obtain⟨z,rfl⟩:∃z:Nat,ak=(z:Int):=⟨ak.toNat,by omega⟩;have al:z<ms.length:=by omega
  have V:ms[z]? =some ms[z]:=List.getElem?_eq_getElem al;obtain⟨aL,aw⟩:=Z z _ V;obtain⟨q,ay⟩:∃q:Nat,ms[z]=(q:Int):=⟨ms[z].toNat,by omega⟩;rw [ay] at V aw;have aM:q<n:=by omega
  have az:J.2[q]? =some (J.2.getD q []):=by rw [List.getD_eq_getElem?_getD,List.getElem?_eq_getElem (by omega)];rfl
  have am:=ah.Pf q;refine AM (Dk (m:=z) rfl V) ?_;refine AM (Dk (m:=z) rfl V) ?_;refine AM (Dk (m:=q) rfl az) ?_;refine AI (S:=fun c=>c=true→fl=true∧0<(J.2.getD q []).length) ?_ ?_
  ·refine By (fun h=>Am fun O=>⟨h,by have:=of_decide_eq_true O;omega⟩) (fun _=>Am fun O=>by cases O)
  ·intro aN aA;refine AI (S:=fun r=>(r.1=true→fl=true∧0<(J.2.getD q []).length)∧BG (k+29 - 4*m+2) r.2) ?_ ?_
   ·refine By (fun h=>?_) (fun _=>Am ⟨fun O=>(by cases O),BG.Ai ae (by omega)⟩);refine AI (KE (F:=F) ae (by omega) (by omega) (by omega)) ?_;rintro⟨o,aB⟩ W;exact Am ⟨fun _=>aA h,W⟩
   ·rintro⟨c2,aB⟩ ⟨an,W⟩;simp only at an W ⊢;refine AI (S:=fun r=>0≤r.2.2.2∧r.2.2.2<(n:Int)∧(fl=false→r.2.2.2=(q:Int))∧BG (k+29 - 4*m+3) (r.1,r.2.1,r.2.2.1)) ?_ ?_
    ·refine By (fun h=>?_) (fun _=>Am ⟨by simp only;omega,by simp only;omega,fun _=>rfl,BG.Ai W (by omega)⟩);obtain⟨f1,f2⟩:=an h;refine AI (MV (F:=F) W (by omega) f2 (by have:=am.len;omega)) ?_;rintro⟨x,aO⟩ ⟨ag,aC⟩;have:=am.inr x ag;exact Am ⟨this.1,this.2,fun O=>(by rw [f1] at O;cases O),aC⟩
    ·rintro⟨u1,aP,aQ,sn⟩ ⟨w1,w2,w3,w4⟩;simp only at w1 w2 w3 w4 ⊢;refine Iv (by have:=U.len;omega) (AV ((m - 1:Nat):Int) (by omega) (by omega) (by omega) ?_);refine Am ⟨m - 1,by omega,z,rfl,rfl,al,by simp;omega,?_,?_,?_,w4.Ai (by omega)⟩
     ·exact U.snoc (by have:=U.len;omega) ⟨by simp only;omega,by simp only;omega⟩ ⟨w1,w2⟩ fun x ag=>by have:=hle x ag;simp only;omega
     ·intro l K;rcases List.mem_append.1 K with K | K
      ·have:=hle l K;omega
      ·simp at K;subst K;exact Int.le_refl _
     ·intro ao l K;rcases List.mem_append.1 K with K | K
      ·exact aa ao l K
      ·simp at K;subst K;rw [w3 ao];exact V
 ·simp only at av;have aD:m=0:=by omega
  subst aD;exact Am ⟨U,by omega,fun l K=>by have aR:=hle l K;have aq:=U.yr l K;omega,aa,ab.Ai (by omega)⟩
theorem Ct.set{n i:Nat}{K:BP}{s:Int}(h:Ct n K)(hi:i<K.length)(hs:0≤s∧s<(n:Int)):Ct n (K.set i (K[i].1,s)):=by
 have hm:=List.getElem_mem hi;refine⟨by simpa using h.len,fun l O=>?_,fun l O=>?_,?_⟩
 ·rcases List.mem_or_eq_of_mem_set O with U | rfl
  ·exact h.yr l U
  ·exact h.yr K[i] hm
 ·rcases List.mem_or_eq_of_mem_set O with U | rfl
  ·exact h.sn l U
  ·exact hs
 ·have key:(K.set i (K[i].1,s)).map (fun l=>l.1)=K.map (fun l=>l.1):=by
   rw [List.map_set];apply List.ext_getElem?;intro j;by_cases e:i=j
   ·subst e;rw [List.getElem?_set_self (by simpa using hi)];simp [hi]
   ·rw [List.getElem?_set_ne e]
  have V:(K.map fun l=>l.1).Pairwise (·≤·):=List.pairwise_map.2 h.IY;rw [← key] at V;exact List.pairwise_map.1 V
theorem Xg{F k n many:Nat}{b:Ft}{J:JW}(W:100<F)(K:VJ n J)(hb:BG k b)(au:k<900)(hm:many≤4):
  AY (f40 F b J (many:Int)) (fun r=>Ct n r.1∧r.1.length≤many∧(∀l∈r.1,l.1.toNat<5)∧BG (k+100) r.2):=by
 have av:=K.l1;have aw:=K.pos;have ay:=K.le;unfold f40;refine AI (Yg (yrs:=5) W K hb (by omega) (by omega)) ?_;rintro⟨az,ms,aA⟩ ⟨a,_,_,g2,Z,aa⟩;simp only at g2 Z aa ⊢;refine AI (Xc (many:=many) true W K aa (by omega) hm ⟨by omega,by omega⟩ (Z.range K)) ?_;rintro⟨O,aB⟩ ⟨v1,v2,ab,_,ae⟩;simp only at v1 v2 ab ae ⊢;refine AI (S:=fun r=>Ct n r.1∧r.1.length≤many∧(∀l∈r.1,l.1.toNat<5)∧BG (k+100) r.2) ?_ (fun r al=>Am al);refine Cj O.length (fun i s=>s.2.2.2.2=(i:Int)∧Ct n s.2.2.2.1∧s.2.2.2.1.length=O.length∧(∀l∈s.2.2.2.1,l.1.toNat<5)∧BG (k+60+3*i) (s.1,s.2.1,s.2.2.1)) ⟨rfl,v1,rfl,fun l am=>by have:=ab l am;omega,ae⟩ (by have:=v1.len;omega) ?_ ?_
 ·rintro i ⟨s1,s2,an,l,c⟩ hi ⟨e,w1,w2,w3,w4⟩;simp only at e w1 w2 w3 w4;subst e;unfold M1;have U:i<l.length:=by omega
  have ao:=v1.len;refine BD (by simp only;omega) ?_;refine AI (KE (F:=F) w4 (by omega) (by omega) (by omega)) ?_;rintro⟨o,aC⟩ V;simp only at V ⊢;refine AI (S:=fun r=>Ct n r.1∧r.1.length=O.length∧(∀x∈r.1,x.1.toNat<5)∧BG (k+60+3*i+2) r.2) ?_ ?_
  ·refine By (fun _=>?_) (fun _=>Am ⟨w1,w2,w3,BG.Ai V (by omega)⟩);refine AV ((n - 1:Nat):Int) (by omega) (by omega) (by omega) (AI (HI (F:=F) V (by omega) (by omega)) ?_);rintro⟨x,ap⟩ ⟨ag,x2,ah⟩;simp only at ag x2 ah ⊢;refine Bu (m:=i) rfl U (Am ⟨?_,by simpa using w2,?_,ah⟩)
   ·rw [show Int.toNat (i:Int)=i by omega];exact w1.set U ⟨ag,by omega⟩
   ·intro y aq;rcases List.mem_or_eq_of_mem_set aq with ar | rfl
    ·exact w3 y ar
    ·exact w3 l[i] (List.getElem_mem U)
  ·rintro⟨l2,ap⟩ ⟨u1,ai,aj,ak⟩;simp only at u1 ai aj ak ⊢;exact AV ((i+1:Nat):Int) (by simp) (by omega) (by omega) (Am ⟨rfl,u1,ai,aj,BG.Ai ak (by omega)⟩)
 ·rintro⟨s1,s2,an,l,c⟩ ⟨e,w1,w2,w3,w4⟩;simp only at e w1 w2 w3 w4;subst e;unfold M1;have ao:=v1.len;exact Bj (by simp only;omega) (Am ⟨_,rfl,w1,by simp only;omega,w3,BG.Ai w4 (by omega)⟩)
end Pal
namespace Pal
def JE(J:JW)(K:BP)(p:List Int):Prop:=∀l∈K,∀m,p[l.1.toNat]? =some m→Em J m l=true
def FK(K:BP):Nat→List Int→Nat
 | _,[]=>0
 | y,m::p=>Df K y m K.length ||| FK K (y+1) p
theorem Rs(W:BP)(i:Nat):∀(p:List Int) (y:Nat),(FK W y p).testBit i=true↔∃l,W[i]? =some l∧∃(q:Nat) (m:Int),p[q]? =some m∧l.1=((y+q:Nat):Int)∧m≠l.2
 | [],y=>by simp [FK]
 | m::p,y=>by
  unfold FK
  rw [Nat.testBit_or,Bool.or_eq_true,Ri,Rs W i p (y+1)]
  constructor
  ·rintro(⟨_,l,K,O,U⟩ | ⟨l,K,q,u,O,U,V⟩)
   ·exact⟨l,K,0,m,rfl,by simpa using O,U⟩
   ·exact⟨l,K,q+1,u,by simpa using O,by rw [U];congr 1;omega,V⟩
  ·rintro⟨l,K,q,u,O,U,V⟩;cases q with
   | zero=>
    simp at O;subst O;exact .inl ⟨(List.getElem?_eq_some_iff.1 K).1,l,K,by simpa using U,V⟩
   | succ q=>exact .inr ⟨l,K,q,u,by simpa using O,by rw [U];congr 1;omega,V⟩
def Lm(J:JW)(K:BP):Nat→Nat→List Int→Prop
 | _,_,[]=>True
 | y,sm,m::p=>m∈BT sm 16∧Fq J K y m=true∧Lm J K (y+1) (CH (J.1.getD m.toNat [])) p
theorem Mf(J:JW)(V:BP)(x:List Int×Nat):∀(k sm:Nat) (ms:List Int) (fl:Nat),x∈EK J V k sm ms fl↔∃p,p.length=k∧x.1=ms++p∧Lm J V ms.length sm p∧x.2=fl ||| FK V ms.length p
 | 0,sm,ms,fl=>by
  unfold EK
  rw [List.mem_singleton]
  constructor
  ·rintro rfl;exact⟨[],rfl,by simp,trivial,by simp [FK]⟩
  ·rintro⟨p,K,O,_,U⟩;have:p= []:=List.length_eq_zero_iff.1 K;subst this;simp [FK] at O U;exact Prod.ext O U
 | k+1,sm,ms,fl=>by
  unfold EK;rw [List.mem_flatMap];constructor
  ·rintro⟨m,hm,W⟩;split at W
   ·rename_i hb;obtain⟨p,K,O,U,Z⟩:=(Mf J V x k _ _ _).1 W;refine⟨m::p,by simp [K],by rw [O];simp,⟨hm,hb,by simpa using U⟩,?_⟩;rw [Z];simp only [List.length_append,List.length_singleton,FK];exact Nat.or_assoc _ _ _
   ·simp at W
  ·rintro⟨p,K,O,U,Z⟩;cases p with
   | nil=>simp at K
   | cons m p=>
    obtain⟨aa,g2,ab⟩:=U;refine⟨m,aa,?_⟩;rw [if_pos g2];refine(Mf J V x k _ _ _).2 ⟨p,by simpa using K,by rw [O];simp,by simpa using ab,?_⟩;rw [Z];simp only [List.length_append,List.length_singleton,FK];exact(Nat.or_assoc _ _ _).symm
theorem VB{J:JW}{K:BP}{y:Nat}{m:Int}:Fq J K y m=true↔∀l∈K,l.1=(y:Int)→Em J m l=true:=by
 unfold Fq;rw [List.all_eq_true];refine forall_congr' fun l=>forall_congr' fun _=>?_;rw [Bool.or_eq_true,decide_eq_true_iff];by_cases h:l.1=(y:Int) <;> simp [h]
theorem P5{n q:Nat}{J:JW}{m:Int}(U:VJ n J):m∈BT (CH (J.1.getD q [])) 16↔m∈J.1.getD q []:=by
 have K:=U.Gl q;have W:=U.le;rw [Hy];constructor
 ·rintro⟨k,_,V,rfl⟩;rw [Kd (fun x O=>(K.inr x O).1)] at V;exact of_decide_eq_true V
 ·intro h;have:=K.inr m h;refine⟨m.toNat,by omega,?_,by omega⟩;rw [Kd (fun x O=>(K.inr x O).1),show((m.toNat:Nat):Int)=m by omega];exact decide_eq_true h
theorem Oq{n:Nat}{J:JW}{ae:BP}(aa:VJ n J):∀(p:List Int) (y sm:Nat),Lm J ae y sm p↔(∀m,p[0]? =some m→m∈BT sm 16)∧(∀(q:Nat) m m',p[q]? =some m→p[q+1]? =some m'→m'∈J.1.getD m.toNat [])∧∀l∈ae,∀(q:Nat) m,l.1=((y+q:Nat):Int)→p[q]? =some m→Em J m l=true
 | [],y,sm=>by simp [Lm]
 | m::p,y,sm=>by
  unfold Lm
  rw [Oq aa p,VB]
  constructor
  ·rintro⟨ab,U,V,ag,ah⟩
   refine⟨fun u hu=>by simp at hu;subst hu;exact ab,fun q u W hu O=>?_,fun l K q u Z hu=>?_⟩
   ·cases q with
    | zero=>
     simp at hu O;subst hu;exact(P5 aa).1 (V W (by rw [List.getElem?_eq_some_iff];exact List.getElem?_eq_some_iff.1 O))
    | succ q=>exact ag q u W (by simpa using hu) (by simpa using O)
   ·cases q with
    | zero=>
     simp at hu;subst hu;exact U l K (by simpa using Z)
    | succ q=>exact ah l K q u (by rw [Z];congr 1;omega) (by simpa using hu)
  ·rintro⟨ab,U,V⟩;refine⟨ab m rfl,fun l K ai=>V l K 0 m (by simpa using ai) rfl,fun u hu=>(P5 aa).2 (U 0 m u rfl (by simpa using hu)),fun q u W hu O=>U (q+1) u W (by simpa using hu) (by simpa using O),fun l K q u Z hu=>V l K (q+1) u (by rw [Z];congr 1;omega) (by simpa using hu)⟩
theorem MP{n a:Nat}{J:JW}{K:BP}(V:VJ n J)(ai:Ct n K){t:Cr}:t∈TA J K a↔t.1=(a:Int)∧t.2.1.length=Dd K+1∧Eh J a t.2.1∧JE J K t.2.1∧t.2.2=FK K 0 t.2.1:=by
 have ab:∀m:Int,m∈BT (AG J a) 16↔∃k:Nat,m=(k:Int)∧(AG J a).testBit k=true:=fun m=>by
  rw [Hy];exact⟨fun⟨k,_,U,O⟩=>⟨k,O,U⟩,fun⟨k,U,O⟩=>⟨k,by have:=Hc (Ia V a) O;have:=V.le;omega,O,U⟩⟩
 have ae:∀p:List Int,(∀l∈K,∀(q:Nat) m,l.1=((0+q:Nat):Int)→p[q]? =some m→Em J m l=true)↔JE J K p:=fun p=>by
  constructor
  ·intro h l W m hm;have:=ai.yr l W;exact h l W l.1.toNat m (by omega) hm
  ·intro h l W q m am hm;exact h l W m (by rw [show l.1.toNat=q by omega];exact hm)
 unfold TA;rw [List.mem_map];constructor
 ·rintro⟨x,aj,rfl⟩;obtain⟨p,U,O,Z,aa⟩:=(Mf J K x _ _ _ _).1 aj;obtain⟨ak,g2,al⟩:=(Oq V p _ _).1 Z;simp only [List.nil_append] at O;rw [O,aa];refine⟨rfl,U,⟨fun m hm=>(ab m).1 (ak m hm),g2⟩,(ae p).1 al,?_⟩;simp
 ·rintro⟨U,O,⟨Z,aa⟩,ag,ah⟩;obtain⟨t1,t2,t3⟩:=t;simp only at U O Z aa ag ah;subst U;subst ah;refine⟨(t2,FK K 0 t2),(Mf J K _ _ _ _ _).2 ⟨t2,O,by simp,(Oq V t2 _ _).2 ⟨fun m hm=>(ab m).2 (Z m hm),aa,(ae t2).2 ag⟩,by simp⟩,rfl⟩
def CX(p:List Int)(l:Int×Int):Bool:=decide (p.getD l.1.toNat 0≠l.2)
theorem P9{α:Type}(K:List α)(Q:α→Bool):∀k,((List.range k).filter fun i=>(K[i]?.map Q).getD false).length=((K.take k).filter Q).length
 | 0=>by simp
 | k+1=>by
  rw [List.range_succ,List.filter_append,List.length_append,P9 K Q k,List.take_add_one,List.filter_append,List.length_append]
  congr 1
  cases h:K[k]? with
  | none=>simp [h]
  | some x=>cases O:Q x <;> simp [h,O]
theorem U8{n:Nat}{K:BP}{p:List Int}(W:Ct n K)(Z:∀l∈K,l.1.toNat<p.length)(i:Nat):(FK K 0 p).testBit i=(K[i]?.map (CX p)).getD false:=by
 rw [Bool.eq_iff_iff,Rs];cases h:K[i]? with
 | none=>simp
 | some l=>
  have hm:=List.mem_of_getElem? h;have O:=Z l hm;have ae:=W.yr l hm;have aa:p.getD l.1.toNat 0=p[l.1.toNat]:=by rw [List.getD_eq_getElem?_getD,List.getElem?_eq_getElem O];rfl
  simp only [Option.map_some,Option.getD_some,CX,decide_eq_true_iff,aa];constructor
  ·rintro⟨ag,U,q,m,V,ah,ab⟩;cases U;have:l.1.toNat=q:=by omega
   subst this;rw [List.getElem?_eq_getElem O] at V;cases V;exact ab
  ·intro U;exact⟨l,rfl,l.1.toNat,_,List.getElem?_eq_getElem O,by omega,U⟩
theorem L2{n:Nat}{K:BP}(U:Ct n K):∀l∈K,l.1.toNat≤Dd K:=by
 intro l V;obtain⟨i,hi,rfl⟩:=List.mem_iff_getElem.1 V;have O:K.length - 1<K.length:=by omega
 unfold Dd;rw [List.getLast?_eq_getElem?,List.getElem?_eq_getElem O];simp only;rcases Nat.lt_or_ge i (K.length - 1) with h | h
 ·have:=List.pairwise_iff_getElem.1 U.IY i (K.length - 1) hi O h;omega
 ·have e:i=K.length - 1:=by omega
  subst e;exact Nat.le_refl _
theorem Oh{n a:Nat}{J:JW}{K:BP}(U:VJ n J)(O:Ct n K){t:Cr}(ht:t∈TA J K a):De t=(K.filter (CX t.2.1)).length:=by
 obtain⟨_,Z,_,_,V⟩:=(MP U O).1 ht;have aa:=O.len;unfold De BT;rw [List.length_map,V];have e:(List.range 16).filter (fun i=>(FK K 0 t.2.1).testBit i)=(List.range 16).filter fun i=>(K[i]?.map (CX t.2.1)).getD false:=
  List.filter_congr fun i _=>U8 O (fun l W=>by have:=L2 O l W;omega) i
 rw [e,P9,List.take_of_length_le (by omega)]
theorem NX{J:JW}{m:Int}{l:Int×Int}:Em J m l=true↔m=l.2∨l.2∈J.2.getD m.toNat []:=by
 unfold Em;simp
end Pal
namespace Pal
theorem X5{F n:Nat}{K:BP}(O:Ct n K):f52 F K=some ((Dd K+1:Nat):Int):=by
 have V:=O.len;have W:=IA O;refine Dq ?_;unfold f52;refine By (fun h=>?_) (fun h=>?_)
 ·have:K= []:=List.length_eq_zero_iff.1 (by omega);subst this;exact Am rfl
 ·have U:K.length - 1<K.length:=by omega
  have Z:=O.yr _ (List.getElem_mem U);have e:Dd K=K[K.length - 1].1.toNat:=by unfold Dd;rw [List.getLast?_eq_getElem?,List.getElem?_eq_getElem U]
  refine AV ((K.length - 1:Nat):Int) (by omega) (by omega) (by omega) (Bu (m:=K.length - 1) rfl U ?_);refine AV (K[K.length - 1].1+1) rfl (by omega) (by omega) (Am ?_);rw [e];omega
end Pal
namespace Pal
abbrev Lf(s:Nat):Nat:=(BT s 16).length
theorem Wv(s:Nat):Lf s=(List.range 16).countP fun n=>s.testBit n:=by
 unfold Lf BT;rw [List.length_map,List.countP_eq_length_filter]
theorem Qm{α:Type}{p:α→Bool}{l:List α}(h:∀x∈l,p x=false):l.countP p=0:=List.countP_eq_zero.2 fun x K=>by rw [h x K];simp
end Pal
namespace Pal
def nx(J:JW)(m:Int):List Int:=J.1.getD m.toNat []
def Fw(J:JW):Nat→List Int→Int→List (List Int)
 | 0,p,_=> [p]
 | k+1,p,m=>(nx J m).flatMap fun u=>Fw J k (p++ [u]) u
theorem Qr{J:JW}:∀(k:Nat) (p:List Int) (m:Int),p.getLast? =some m→Fw J (k+1) p m=(Fw J k p m).flatMap fun q=>(nx J (q.getLast?.getD 0)).map fun u=>q++ [u]
 | 0,p,m,h=>by simp [Fw,h,List.map_eq_flatMap]
 | k+1,p,m,h=>by
  rw [show Fw J (k+1+1) p m=(nx J m).flatMap fun u=>Fw J (k+1) (p++ [u]) u from rfl,show Fw J (k+1) p m=(nx J m).flatMap fun u=>Fw J k (p++ [u]) u from rfl,List.flatMap_assoc]
  congr 1
  funext u
  exact Qr k (p++ [u]) u (by simp)
theorem Qd{n:Nat}{J:JW}(K:VJ n J):∀(k:Nat) (p:List Int) (m:Int),(Fw J k p m).length≤3 ^ k
 | 0,p,m=>by simp [Fw]
 | k+1,p,m=>by
  simp only [Fw]
  refine Nat.le_trans (Hx (b:=3 ^ k) fun u _=>Qd K k _ u) ?_
  rw [Nat.pow_succ,Nat.mul_comm]
  exact Nat.mul_le_mul_left _ (K.Gl m.toNat).len
def DU(J:JW)(Y a:Nat):List (List Int):=(BT (AG J a) 16).flatMap fun m=>Fw J Y [m] m
def Fo(J:JW)(Y k:Nat):List (Int×List Int):=(List.range k).flatMap fun a=>(DU J Y a).map fun q=>((a:Int),q)
theorem QC{n:Nat}{J:JW}(K:VJ n J)(Y a:Nat):(DU J Y a).length≤16*3 ^ Y:=by
 unfold DU;exact Nat.le_trans (Hx (b:=3 ^ Y) fun u _=>Qd K Y _ u) (Nat.mul_le_mul_right _ (NY _))
theorem Q2{Y:Nat}(h:Y≤7):3 ^ Y≤2187:=Nat.le_trans (Nat.pow_le_pow_right (by omega) h) (by decide)
theorem Qz{n:Nat}{J:JW}(K:VJ n J){Y k:Nat}(O:Y≤7):(Fo J Y k).length≤k*34992:=by
 unfold Fo;refine Nat.le_trans (Hx (b:=34992) fun a _=>?_) (by simp);rw [List.length_map];have:=QC K Y a;have:=Q2 O;omega
theorem L8{n:Nat}{J:JW}(U:VJ n J):∀(k:Nat) (p:List Int) (m:Int) (q:List Int),p.getLast? =some m→(q∈Fw J k p m↔∃e,q=p++e∧e.length=k∧∀(y:Nat) u v,p.length≤y+1→q[y]? =some u→q[y+1]? =some v→v∈nx J u)
 | 0,p,m,q,h=>by
  simp only [Fw,List.mem_singleton]
  constructor
  ·rintro rfl
   refine⟨[],by simp,rfl,fun y u v O hu W=>?_⟩;have:=(List.getElem?_eq_some_iff.1 W).1;omega
  ·rintro⟨e,rfl,he,_⟩;rw [List.length_eq_zero_iff.1 he,List.append_nil]
 | k+1,p,m,q,h=>by
  have hlen:0<p.length:=by
   cases p with
   | nil=>simp at h
   | cons=>simp
  have V:p[p.length - 1]? =some m:=by rw [← List.getLast?_eq_getElem?];exact h
  simp only [Fw,List.mem_flatMap];constructor
  ·rintro⟨u,hu,Z⟩;obtain⟨e,rfl,he,hw⟩:=(L8 U k (p++ [u]) u q (by simp)).1 Z;refine⟨u::e,by simp,by simp [he],fun y a b O K hb=>?_⟩;rcases Nat.lt_or_ge (y+1) (p.length+1) with aa | aa
   ·have ab:y=p.length - 1:=by omega
    subst ab;rw [List.append_assoc,List.getElem?_append_left (by omega),V] at K;rw [List.append_assoc,List.getElem?_append_right (by omega),show p.length - 1+1 - p.length=0 by omega] at hb;simp at K hb;subst K;subst hb;exact hu
   ·exact hw y a b (by simp;omega) K hb
  ·rintro⟨e,rfl,he,hw⟩;cases e with
   | nil=>simp at he
   | cons u e=>
    refine⟨u,hw (p.length - 1) m u (by omega) (by rw [List.getElem?_append_left (by omega)];exact V) (by rw [List.getElem?_append_right (by omega),show p.length - 1+1 - p.length=0 by omega];rfl),?_⟩;refine(L8 U k (p++ [u]) u _ (by simp)).2 ⟨e,by simp,by simpa using he,fun y a b O K hb=>?_⟩;exact hw y a b (by simp at O;omega) K hb
theorem Oc{n:Nat}{J:JW}(U:VJ n J){Y a:Nat}{p:List Int}:p∈DU J Y a↔p.length=Y+1∧Eh J a p:=by
 have W:∀m:Int,m∈BT (AG J a) 16↔∃k:Nat,m=(k:Int)∧(AG J a).testBit k=true:=fun m=>by
  rw [Hy];exact⟨fun⟨k,_,O,K⟩=>⟨k,K,O⟩,fun⟨k,O,K⟩=>⟨k,by have:=Hc (Ia U a) K;have:=U.le;omega,K,O⟩⟩
 unfold DU;rw [List.mem_flatMap];constructor
 ·rintro⟨m,hm,h⟩;obtain⟨e,rfl,he,hw⟩:=(L8 U Y [m] m p rfl).1 h;refine⟨by simp [he],fun u hu=>?_,fun y u v hu V=>hw y u v (by simp) hu V⟩;simp at hu;subst hu;exact(W m).1 hm
 ·rintro⟨Z,O,K⟩;cases p with
  | nil=>simp at Z
  | cons m e=>
   refine⟨m,(W m).2 (O m rfl),(L8 U Y [m] m _ rfl).2 ⟨e,rfl,by simpa using Z,fun y u v _ hu V=>K y u v hu V⟩⟩
theorem Oa{n:Nat}{J:JW}(O:VJ n J){Y:Nat}{t:Int×List Int}:t∈Fo J Y 13↔∃a:Nat,a<13∧t.1=(a:Int)∧t.2.length=Y+1∧Eh J a t.2:=by
 unfold Fo;rw [List.mem_flatMap];constructor
 ·rintro⟨a,K,h⟩;obtain⟨p,U,rfl⟩:=List.mem_map.1 h;have:=(Oc O).1 U;exact⟨a,List.mem_range.1 K,rfl,this.1,this.2⟩
 ·rintro⟨a,K,V,W,Z⟩;refine⟨a,List.mem_range.2 K,List.mem_map.2 ⟨t.2,(Oc O).2 ⟨W,Z⟩,?_⟩⟩;exact Prod.ext V.symm rfl
def FF(J:JW)(K:BP)(p:List Int):Bool:=K.all fun l=>match p[l.1.toNat]? with
 | some m=>Em J m l
 | none=>true
theorem LO{J:JW}{K:BP}{p:List Int}:FF J K p=true↔JE J K p:=by
 unfold FF JE;rw [List.all_eq_true];refine forall_congr' fun l=>forall_congr' fun _=>?_;cases p[l.1.toNat]? with
 | none=>simp
 | some m=>simp
def pick(J:JW)(K:BP)(p:List Int):Option (List Int×Nat):=if FF J K p=true then some (p,FK K 0 p) else none
end Pal
namespace Pal
theorem IK{α:Type}{f:Nat→α}{N i:Nat}(h:i<N):((List.range N).map f)[i]? =some (f i):=by simp [h]
theorem M3{α:Type}{f:Nat→α}{N:Nat}(i:Nat)(v:α):((List.range N).map f).set i v=(List.range N).map (fun j=>if j=i then v else f j):=by
 apply List.ext_getElem?;intro j;by_cases K:j<N
 ·by_cases e:i=j
  ·subst e;rw [List.getElem?_set_self (by simpa using K),IK K,if_pos rfl]
  ·rw [List.getElem?_set_ne e,IK K,IK K,if_neg (fun h=>e h.symm)]
 ·rw [List.getElem?_eq_none (by simpa using K),List.getElem?_eq_none (by simpa using K)]
theorem Oz{α:Type}{z:α}{N:Nat}:List.replicate N z=(List.range N).map fun _=>z:=by
 apply List.ext_getElem?;intro j;by_cases K:j<N
 ·rw [IK K,List.getElem?_replicate,if_pos K]
 ·rw [List.getElem?_eq_none (by simpa using K),List.getElem?_eq_none (by simpa using K)]
theorem Ji{α β:Type}{Q:α→Prop}{f:β→Option α}{g:Nat→β}{N i:Nat}{j:Int}(h:j=(i:Int))(hi:i<N)(k:AY (f (g i)) Q):AY ((ix ((List.range N).map g) j).bind f) Q:=AM (Dk h (IK hi)) k
theorem VZ:∀h,h<32→∀l,l<256→f86 0 (h*256+l)=some ((Lf (h*256+l):Nat):Int):=by decide+kernel
theorem Sf{F s:Nat}(hs:s<8192):f85 F s=some ((Lf s:Nat):Int):=by
 have h:=VZ (s / 256) (by omega) (s % 256) (by omega);rw [show s / 256*256+s % 256=s by omega] at h;have e:f86 F s=f86 0 s:=rfl;unfold f85;rw [e,h];rfl
theorem VF{F n:Nat}{J:JW}{A:List Nat}{s:Nat}(U:100<F)(V:VJ n J)(hs:s<2 ^ n):f121 F (J.1,J.2,A) s=some (F4 J.1 s):=by
 have h:=QU (A:=A) U V hs;have e:Oj=I9:=rfl;unfold Jw at h;unfold f121;rw [e];cases K:f89 F s with
 | none=>rw [K] at h;cases h
 | some x=>
  rw [K] at h;simp only [Option.bind_some] at h ⊢;cases O:iter (I9 F (J.1,J.2,A) x) F (0,0) with
  | none=>rw [O] at h;cases h
  | some z=>
   rw [O] at h;simp only [Option.bind_some,Option.some.injEq,Prod.mk.injEq] at h ⊢;exact h.1
def SB(J:JW)(a:Nat)(p:List Int)(y:Nat)(m:Int):Prop:=∃e,Eh J a (p++e)∧(p++e)[y]? =some m
theorem Eh.more{a i:Nat}{J:JW}{q:List Int}{m x:Int}(h:Eh J a q)(Z:q.length=i+1)(hm:q[i]? =some m)(V:x∈J.1.getD m.toNat []):Eh J a (q++ [x]):=by
 constructor
 ·intro u hu;rw [List.getElem?_append_left (by omega)] at hu;exact h.1 u hu
 ·intro y u U hu K;have W:=(List.getElem?_eq_some_iff.1 K).1;rw [List.length_append,List.length_singleton] at W;rw [List.getElem?_append_left (by omega)] at hu;rcases Nat.lt_or_ge (y+1) q.length with O | O
  ·rw [List.getElem?_append_left O] at K;exact h.2 y u U hu K
  ·rw [List.getElem?_append_right O,show y+1 - q.length=0 by omega] at K;obtain rfl:x=U:=by simpa using K
   rw [show y=i by omega,hm] at hu;cases hu;exact V
def IU(J:JW)(s:Nat):Nat→Nat
 | 0=>s
 | d+1=>F4 J.1 (IU J s d)
theorem Om{z:Int}(h:0≤z)(m:Nat):(CH [z]).testBit m=true↔z=(m:Int):=by
 rw [Kd (fun x K=>by simp at K;omega)];simp only [decide_eq_true_iff,List.mem_singleton];omega
theorem RJ{n s:Nat}{J:JW}(K:VJ n J)(hs:s<2 ^ n):∀d,IU J s d<2 ^ n
 | 0=>hs
 | d+1=>OP K _
theorem N6{n a L:Nat}{J:JW}{p:List Int}{z:Int}(K:VJ n J)(V:Eh J a p)(Z:p.length=L+1)(O:p[L]? =some z):∀(d m:Nat),(IU J (CH [z]) d).testBit m=true↔∃e:List Int,e.length=d∧Eh J a (p++e)∧(p++e)[L+d]? =some (m:Int)
 | 0,m=>by
  have ab:=(V.range K L z O).1
  unfold IU
  rw [Om ab]
  constructor
  ·rintro rfl;exact⟨[],rfl,by simpa using V,by simpa using O⟩
  ·rintro⟨e,he,_,U⟩;obtain rfl:=List.length_eq_zero_iff.1 he;simp only [List.append_nil,Nat.add_zero] at U;rw [O] at U;cases U;rfl
 | d+1,m=>by
  unfold IU;rw [Me K];constructor
  ·rintro⟨u,_,U,ae⟩;obtain⟨e,aa,e2,W⟩:=(N6 K V Z O d u).1 U;refine⟨e++ [(m:Int)],by simp [aa],?_,?_⟩
   ·rw [← List.append_assoc];exact e2.more (i:=L+d) (by rw [List.length_append];omega) W (by simpa using ae)
   ·rw [← List.append_assoc,List.getElem?_append_right (by rw [List.length_append];omega),List.length_append,show L+(d+1) - (p.length+e.length)=0 by omega];rfl
  ·rintro⟨e,aa,e2,W⟩;have hlen:(p++e).length=L+d+2:=by rw [List.length_append];omega
   have hu:=List.getElem?_eq_getElem (l:=p++e) (i:=L+d) (by omega);have ah:=e2.range K _ _ hu;refine⟨((p++e)[L+d]'(by omega)).toNat,by have:=K.le;omega,(N6 K V Z O d _).2 ⟨e.take d,by simp;omega,?_,?_⟩,e2.2 _ _ _ hu W⟩
   ·have:=e2.take (p.length+d)
    rwa [List.take_length_add_append] at this
   ·have ag:(p++e.take d)[L+d]? =(p++e)[L+d]? :=by
     rw [← List.take_length_add_append,List.getElem?_take,if_pos (by omega)]
    rw [ag,hu];congr 1;omega
theorem XZ{F n a L y:Nat}{J:JW}{t:Cr}(aa:100<F)(K:VJ n J)(V:Eh J a t.2.1)(ag:t.2.1.length=L+1)(aj:L≤6)(ak:y≤6):
  AY (f88 F (J.1,J.2,EL J) t (y:Int)) (fun s=>s<2 ^ n∧∀m:Nat,s.testBit m=true↔SB J a t.2.1 y (m:Int)):=by
 have al:=K.le;unfold f88;have one:∀i,i<t.2.1.length→∃z,t.2.1[i]? =some z∧f120 F ([z]:List Int)=some (CH [z])∧CH [z]<2 ^ n∧0≤z:=fun i hi=>by
  have hu:=List.getElem?_eq_getElem hi;have ab:=V.range K _ _ hu;refine⟨_,hu,Ov aa (by simp) (fun x ah=>by simp at ah;omega),PV fun k W=>?_,ab.1⟩;rw [Bool.eq_false_iff,ne_eq,Om ab.1];omega
 refine AV (L:Int) (by omega) (by omega) (by omega) (By (fun h=>?_) (fun h=>?_))
 ·obtain⟨z,z1,Z,O,ae⟩:=one y (by omega);refine AM (Dk (m:=y) rfl z1) (AM Z (Am ⟨O,fun m=>?_⟩));rw [Om ae];constructor
  ·rintro rfl;exact⟨[],by simpa using V,by simpa using z1⟩
  ·rintro⟨e,_,he⟩;rw [List.getElem?_append_left (by omega),z1] at he;cases he;rfl
 ·obtain⟨z,z1,Z,O,ae⟩:=one L (by omega);refine AM (Dk (m:=L) rfl z1) (AM Z ?_);refine AV ((y - L:Nat):Int) (by omega) (by omega) (by omega) (AI (S:=fun s=>s=IU J (CH [z]) (y - L)) ?_ ?_)
  ·refine Cj (y - L) (fun i s=>s=(IU J (CH [z]) i,(i:Int))) rfl (by omega) ?_ ?_
   ·rintro i s hi rfl;unfold MA;refine BD (by simp only;omega) (AM (VF aa K (RJ K O i)) ?_);exact AV ((i+1:Nat):Int) (by simp) (by omega) (by omega) (Am rfl)
   ·rintro s rfl;unfold MA;exact Bj (by simp only;omega) (Am ⟨_,rfl,rfl⟩)
  ·rintro s rfl;refine Am ⟨RJ K O _,fun m=>?_⟩;rw [N6 K V ag z1,show L+(y - L)=y by omega];constructor
   ·rintro⟨e,_,e2,U⟩;exact⟨e,e2,U⟩
   ·rintro⟨e,e2,U⟩;have ai:=(List.getElem?_eq_some_iff.1 U).1;rw [List.length_append] at ai;have W:(p:List Int)→p=t.2.1→(p++e).take (p.length+(y - L))=p++e.take (y - L):=fun p _=>List.take_length_add_append _;refine⟨e.take (y - L),by rw [List.length_take];omega,?_,?_⟩
    ·rw [← W _ rfl];exact e2.take _
    ·rw [← W _ rfl,List.getElem?_take,if_pos (by omega),U]
def Cw(f:Nat→Bool):Nat:=(List.range 13).countP f
theorem Qv{s:Nat}{f:Nat→Bool}(hs:s<8192)(h:∀b,b<13→(s.testBit b=true↔f b=true)):Lf s=Cw f:=by
 rw [Wv,show List.range 16=List.range 13++ [13,14,15] from rfl,List.countP_append,Qm (l:= [13,14,15]) fun x K=>?_]
 ·exact List.countP_congr fun b hb=>h b (List.mem_range.1 hb)
 ·have:13≤x:=by simp at K;omega
  exact Nat.testBit_lt_two_pow (Nat.lt_of_lt_of_le hs (Nat.pow_le_pow_right (n:=2) (by omega) this))
def C3(C:Nat→Nat):Nat→Nat
 | 0=>0
 | m+1=>max (C3 C m) (C m)
theorem QB{C:Nat→Nat}{n:Nat}(h:∀m,n≤m→C m=0):∀j,C3 C (n+j)=C3 C n
 | 0=>rfl
 | j+1=>by
  have K:=QB h j
  have O:=h (n+j) (by omega)
  show max (C3 C (n+j)) (C (n+j))=C3 C n
  rw [K,O];omega
def EI(M:Nat→Nat)(w:Nat):Nat→Int×Int
 | 0=>(-1,(w:Int))
 | y+1=>if(M y:Int)<(EI M w y).2 then((y:Int),(M y:Int)) else EI M w y
def JI(f:Nat→Nat→Nat→Bool)(g:Nat→Bool):Int×Int×Int:=if(EI (fun y=>C3 (fun m=>Cw (f y m)) 8) (Cw g) 7).1<0 then(0,0,11) else((EI (fun y=>C3 (fun m=>Cw (f y m)) 8) (Cw g) 7).1,(EI (fun y=>C3 (fun m=>Cw (f y m)) 8) (Cw g) 7).2,0)
def BS(J:JW)(l:List Cr)(y m b:Nat):Prop:=∃t∈l,t.1=(b:Int)∧SB J b t.2.1 y (m:Int)
theorem Mo(P:Nat→Nat→Nat→Prop):∃f:Nat→Nat→Nat→Bool,∀y m b,f y m b=true↔P y m b:=⟨fun y m b=> @decide (P y m b) (Classical.propDecidable _),fun y m b=>by simp⟩
theorem Wl{J:JW}{l:List Cr}{r:Int×Int×Int}{f:Nat→Nat→Nat→Bool}{g:Nat→Bool}(K:∀y m b,f y m b=true↔BS J l y m b)(O:∀b,g b=true↔∃t∈l,t.1=((b:Nat):Int))(h:r=JI f g):∀f g,(∀y m b,f y m b=true↔BS J l y m b)→(∀b,g b=true↔∃t∈l,t.1=((b:Nat):Int))→r=JI f g:=fun U g' V W=>by
 have Z:f=U:=by funext y m b;rw [Bool.eq_iff_iff,K,V]
 have e2:g=g':=by funext b;rw [Bool.eq_iff_iff,O,W]
 rw [h,Z,e2]
theorem Kj{J:JW}{K:BP}{k:Nat}{t:Cr}:t∈D6 J K k↔(∃a,a<13∧t∈TA J K a)∧De t=k:=by
 unfold D6;rw [List.mem_filter,KG,decide_eq_true_iff]
theorem Xl{J:JW}{O:BP}{k b:Nat}(hb:b<13):(∃t∈D6 J O k,t.1=(b:Int))↔∃t∈TA J O b,De t=k:=by
 constructor
 ·rintro⟨t,K,U⟩;obtain⟨⟨a,Z,V⟩,W⟩:=Kj.1 K;have:=MQ V;obtain rfl:a=b:=by omega
  exact⟨t,V,W⟩
 ·rintro⟨t,K,U⟩;exact⟨t,Kj.2 ⟨⟨b,hb,K⟩,U⟩,MQ K⟩
def Mk(P:Nat→Nat→Prop)(r:List Nat):Prop:=∃G:Nat→Nat,r=(List.range 8).map G∧∀m,m<8→G m<8192∧∀b,(G m).testBit b=true↔P m b
theorem Mk.congr{P Q:Nat→Nat→Prop}{r:List Nat}(h:Mk P r)(k:∀m b,P m b↔Q m b):Mk Q r:=by
 obtain⟨G,O,K⟩:=h;exact⟨G,O,fun m hm=>⟨(K m hm).1,fun b=>((K m hm).2 b).trans (k m b)⟩⟩
theorem U9{F a s:Nat}{t:Cr}{P:Nat→Nat→Prop}{r:List Nat}(ah:100<F)(ab:t.1=(a:Int))(ai:a<13)(hs:s<2 ^ 8)(U:Mk P r):AY (iter (Kv F t (BT s 16)) F (r,0)) (Mk fun m b=>P m b∨(b=a∧s.testBit m=true)):=by
 have hlen:=I4 s 16;obtain⟨G,rfl,W⟩:=U;refine Cj (BT s 16).length (fun i st=>∃r,st=(r,(i:Int))∧Mk (fun m b=>P m b∨(b=a∧(m:Int)∈(BT s 16).take i)) r) ⟨_,rfl,G,rfl,fun m hm=>⟨(W m hm).1,fun b=>by rw [(W m hm).2];simp⟩⟩ (by omega) ?_ ?_
 ·rintro i st hi ⟨r,rfl,H,rfl,V⟩;unfold Kv;obtain⟨u,u1,ae,K⟩:=Hy.1 (List.getElem_mem hi);have hu:=Hc hs ae;have Z:=V u hu;have ag:f90 F (H u) t.1=some (H u ||| 1<<<a):=by rw [ab];exact M0 F (by omega) (by omega)
  refine BD (by simp only;omega) (Bu (m:=i) rfl hi ?_);refine Ji (i:=u) K hu (AM ag ?_);refine Ji (i:=u) K hu (AV ((i+1:Nat):Int) (by simp) (by omega) (by omega) ?_);refine Am ⟨_,rfl,fun m=>if m=u then H u ||| 1<<<a else H m,?_,fun m hm=>?_⟩
  ·simp only;rw [K,show Int.toNat (u:Int)=u by omega,M3]
  ·have aa:∀m:Nat,(m:Int)∈(BT s 16).take (i+1)↔(m:Int)∈(BT s 16).take i∨m=u:=fun m=>by
    rw [List.take_add_one,List.getElem?_eq_getElem hi,K];simp only [Option.toList_some,List.mem_append,List.mem_singleton,Int.natCast_inj]
   by_cases e:m=u
   ·subst e;simp only [if_pos];refine⟨Nat.or_lt_two_pow (n:=13) Z.1 ?_,fun b=>?_⟩
    ·rw [Nat.one_shiftLeft];exact Nat.pow_lt_pow_right (by omega) (by omega)
    ·rw [Nat.testBit_or,Bool.or_eq_true,Z.2,Nat.one_shiftLeft,Nat.testBit_two_pow,decide_eq_true_iff,aa];constructor
     ·rintro((h | h) | h)
      ·exact .inl h
      ·exact .inr ⟨h.1,.inl h.2⟩
      ·exact .inr ⟨h.symm,.inr rfl⟩
     ·rintro(h | ⟨h,_⟩)
      ·exact .inl (.inl h)
      ·exact .inr h.symm
   ·simp only [if_neg e];refine⟨(V m hm).1,fun b=>?_⟩;rw [(V m hm).2,aa];simp [e]
 ·rintro st ⟨r,rfl,U⟩;unfold Kv;refine Bj (by simp) (Am ⟨_,rfl,U.congr fun m b=>?_⟩);rw [List.take_length,Hy];constructor
  ·rintro(h | ⟨h,u,_,O,aj⟩)
   ·exact .inl h
   ·obtain rfl:m=u:=by omega
    exact .inr ⟨h,O⟩
  ·rintro(h | ⟨h,O⟩)
   ·exact .inl h
   ·exact .inr ⟨h,m,by have:=Hc hs O;omega,O,rfl⟩
theorem Wt{F n:Nat}{J:JW}{K:BP}(ae:268435456<F)(V:VJ n J)(W:Ct n K)(ag:K.length≤4):
  AY (f78 F J K (-1) false) (fun r=>(TT J K= []∧r.2.2=11)∨∃k,H9 J K k∧r=(some (J.1,J.2,EL J),((k:Int),D6 J K k),0)):=by
 unfold f78;refine AM (OH (by omega) V W ag) (Bj (by simp) ?_);refine AV ((K.length:Int) - 1) rfl (by omega) (by omega) (AM (IC F _ _ _) ?_);refine Bj (by simp;omega) (AM (ON (by omega) V) ?_);refine AM (b:=(J.1,J.2,EL J)) rfl (AI (RR ae V W) ?_);rintro⟨q1,q2⟩ Z;have aa:=Z.Rw;rcases Z with⟨O,U⟩ | ⟨k,O,U,ah,ab⟩
 ·cases U;exact AM (b:=true) (by simp) (BD rfl (Am (.inl ⟨O,rfl⟩)))
 ·simp only at O ab aa;have ai:¬((q2.length:Int)=0):=fun e=>by
   obtain⟨t,ht,_⟩:=U;rw [aa.1 (List.length_eq_zero_iff.1 (by omega))] at ht;simp at ht
  refine AM (b:=false) (by simp only;rw [if_neg ai]) (Bj (by simp) (Am (.inr ⟨k,⟨U,ah⟩,?_⟩)));rw [O,ab];rfl
def YX(J:JW)(K:BP)(r:Int×Int×Int):Prop:=(TT J K= []∧r=(0,0,11))∨∃k,H9 J K k∧∀f g,(∀y m b,f y m b=true↔BS J (D6 J K k) y m b)→(∀b,g b=true↔∃t∈D6 J K k,t.1=((b:Nat):Int))→r=JI f g
theorem WB{F n:Nat}{J:JW}{K:BP}(au:3489660928<F)(O:VJ n J)(U:Ct n K)(ak:K.length≤4):AY (f35 F J K) (YX J K):=by
 have aa:100<F:=by omega
 have al:=O.le;unfold f35;refine AI (Wt (by omega) O U ak) ?_;rintro r (⟨ab,g2⟩ | ⟨k,ab,rfl⟩)
 ·exact BD (by rw [g2];decide) (Am (.inl ⟨ab,by rw [g2]⟩))
 ·refine Bj (by simp) ?_;have hlen:(D6 J K k).length≤3489660928:=Nat.le_trans (List.length_filter_le _ _) (X8 U);have ah:∀t∈D6 J K k,∃a:Nat,a<13∧t.1=(a:Int)∧Eh J a t.2.1∧t.2.1.length=Dd K+1:=fun t ht=>by
   obtain⟨⟨a,V,am⟩,_⟩:=Kj.1 ht;obtain⟨W,e2,ae,_,_⟩:=(MP O U).1 am;exact⟨a,V,W,ae,e2⟩
  obtain⟨f,ai⟩:=Mo fun y m b=>BS J (D6 J K k) y m b;obtain⟨g0,an⟩:=Mo fun _ _ b=>∃t∈D6 J K k,t.1=((b:Nat):Int);generalize ao:g0 0 0=g;have aj:∀b,g b=true↔∃t∈D6 J K k,t.1=((b:Nat):Int):=by rw [← ao];exact an 0 0
  refine AI (XF (l:=D6 J K k) (by omega) (by omega) fun t ht=>by obtain⟨a,V,e,_⟩:=ah t ht;omega) ?_;rintro w ⟨w1,w2⟩;refine AM (Sf (s:=w) w1) ?_;rw [Qv (f:=g) w1 fun b _=>(w2 b).trans (aj b).symm];refine AM (b:=(J.1,J.2,EL J)) rfl (AI (S:=fun r=>r=EI (fun y=>C3 (fun m=>Cw (f y m)) 8) (Cw g) 7) ?_ ?_)
  ·refine Cj 7 (fun y s=>s=((EI (fun y=>C3 (fun m=>Cw (f y m)) 8) (Cw g) y).1,(EI (fun y=>C3 (fun m=>Cw (f y m)) 8) (Cw g) y).2,(y:Int))) rfl (by omega) ?_ ?_
   ·rintro y s av rfl;unfold MM;refine BD (by simp only;omega) (AI (S:=Mk fun m b=>BS J (D6 J K k) y m b) ?_ ?_)
    ·refine Cj (D6 J K k).length (fun i s=>∃r,s=(r,(i:Int))∧Mk (fun m b=>BS J ((D6 J K k).take i) y m b) r) ⟨_,rfl,fun _=>0,Oz,fun m _=>⟨(Nat.zero_lt_succ 8191:0<8192),fun b=>by simp [BS]⟩⟩ (by omega) ?_ ?_
     ·rintro i s hi ⟨r,rfl,Z⟩;unfold MI;obtain⟨a,V,W,e2,ae⟩:=ah _ (List.getElem_mem hi);refine BD (by simp only;omega) (Bu (m:=i) rfl hi ?_);refine AI (XZ aa O e2 ae (IA U) (by omega)) ?_;rintro s ⟨s1,s2⟩;have aw:=Nat.pow_le_pow_right (n:=2) (by omega) al;refine AM (MN aa (by omega)) (AI (U9 aa W V (by omega) Z) ?_);intro ap aq;refine AV ((i+1:Nat):Int) (by simp) (by omega) (by omega) (Am ⟨ap,rfl,aq.congr fun m b=>?_⟩);rw [s2,List.take_add_one,List.getElem?_eq_getElem hi];simp only [Option.toList_some,BS,List.mem_append,List.mem_singleton];constructor
      ·rintro(⟨t,t1,t2,t3⟩ | ⟨rfl,t3⟩)
       ·exact⟨t,.inl t1,t2,t3⟩
       ·exact⟨_,.inr rfl,W,t3⟩
      ·rintro⟨t,t1 | rfl,t2,t3⟩
       ·exact .inl ⟨t,t1,t2,t3⟩
       ·obtain rfl:a=b:=by omega
        exact .inr ⟨rfl,t3⟩
     ·rintro s ⟨r,rfl,Z⟩;unfold MI;rw [List.take_length] at Z;exact Bj (by simp only;omega) (Am ⟨_,rfl,Z⟩)
    ·rintro r ⟨G,rfl,ag⟩;refine AI (S:=fun r=>r=((C3 (fun m=>Cw (f y m)) 8:Nat):Int)) ?_ ?_
     ·refine Cj 8 (fun i s=>s=(((C3 (fun m=>Cw (f y m)) i:Nat):Int),(i:Int))) rfl (by omega) ?_ ?_
      ·rintro i s hi rfl;unfold MT;refine BD (by simp only;omega) (Ji (i:=i) rfl hi ?_);refine AM (Sf (ag i hi).1) ?_;rw [Qv (f:=f y i) (ag i hi).1 fun b _=>((ag i hi).2 b).trans (ai y i b).symm];refine AV ((i+1:Nat):Int) (by simp) (by omega) (by omega) (Am (Prod.ext ?_ rfl));simp only [C3];omega
      ·rintro s rfl;unfold MT;exact Bj (by simp only;omega) (Am ⟨_,rfl,rfl⟩)
     ·rintro r rfl;refine AM (b:=EI (fun y=>C3 (fun m=>Cw (f y m)) 8) (Cw g) (y+1)) ?_ ?_
      ·simp only [EI];split <;> rfl
      exact AV ((y+1:Nat):Int) (by simp) (by omega) (by omega) (Am rfl)
   ·rintro s rfl;unfold MM;exact Bj (by simp only;omega) (Am ⟨_,rfl,rfl⟩)
  ·rintro r rfl;have ar:(if(EI (fun y=>C3 (fun m=>Cw (f y m)) 8) (Cw g) 7).1<0 then some (0,0,11) else some ((EI (fun y=>C3 (fun m=>Cw (f y m)) 8) (Cw g) 7).1,(EI (fun y=>C3 (fun m=>Cw (f y m)) 8) (Cw g) 7).2,0))=some (JI f g):=by
    unfold JI;split <;> rfl
   exact AY.of_eq ar (.inr ⟨k,ab,Wl ai aj rfl⟩)
end Pal
namespace Pal
open Go Go.Conc Go.Proofs Go.Extern
section
variable {s:St}{X:Halt→St→Prop}
end
end Pal
namespace Pal
open Go Go.Conc
theorem Tb{E H:LH}{B:List (Nat×Obj)}(i:Nat){bk:Nat}{o:Obj}(K:Nd E H B)(h:B[i]? =some (bk,o)):∃E',Le E E'∧E' bk=some o∧Nd E' H (B.eraseIdx i)∧Cp (mk E H B) (mk E' H (B.eraseIdx i)):=by
 have ag:=List.mem_of_getElem? h;have ah:E bk=none∧H bk=none:=by
  have:∀{B:List (Nat×Obj)},Nd E H B→(bk,o)∈B→E bk=none∧H bk=none:=by
   intro B K O
   induction B with
   | nil=>simp at O
   | cons q B V=>
    rcases List.mem_cons.1 O with rfl | O
    ·exact⟨K.1,K.2.1⟩
    ·exact V K.2.2.2 O
  exact this K ag
 let E':LH:=fun x=>if x=bk then some o else E x
 have aa:E' bk=some o:=by simp [E']
 have hle:Le E E':=fun x u U=>by
  have:x≠bk:=fun e=>by subst e;rw [ah.1] at U;cases U
  simp [E',this,U]
 have ai:Nd E' H (B.eraseIdx i):=by
  have:∀{B:List (Nat×Obj)} {i:Nat},Nd E H B→B[i]? =some (bk,o)→Nd E' H (B.eraseIdx i)∧∀p∈B.eraseIdx i,p.1≠bk:=by
   intro B
   induction B with
   | nil=>intro i _ h;simp at h
   | cons q B V=>
    obtain⟨c,v⟩:=q;intro i K h;have up:∀{B:List (Nat×Obj)},Nd E H B→(∀p∈B,p.1≠bk)→Nd E' H B:=by
     intro B K ab
     induction B with
     | nil=>trivial
     | cons q B aj=>exact⟨by simpa [E',ab q (by simp)] using K.1,K.2.1,K.2.2.1,aj K.2.2.2 fun p O=>ab p (List.mem_cons_of_mem _ O)⟩
    cases i with
    | zero=>
     simp at h;obtain⟨rfl,rfl⟩:=h;exact⟨up K.2.2.2 K.2.2.1,K.2.2.1⟩
    | succ i=>
     simp at h;obtain⟨W,Z⟩:=V K.2.2.2 h;have ae:c≠bk:=fun e=>K.2.2.1 (bk,o) (List.mem_of_getElem? h) e.symm;refine⟨⟨by simpa [E',ae] using K.1,K.2.1,fun p O=>K.2.2.1 p (List.mem_of_mem_eraseIdx O),W⟩,fun p O=>?_⟩;rcases List.mem_cons.1 O with rfl | O
     ·exact ae
     ·exact Z p O
  exact(this K h).1
 refine⟨E',hle,aa,ai,⟨fun x u U=>hle x u U,fun x u U=>(J5 K h U).2,fun x u U=>?_,rfl⟩⟩;by_cases e:x=bk
 ·subst e;right;have:u=o:=by have:E' x=some u:=U;rw [aa] at this;exact(Option.some.inj this).symm
  subst this;refine⟨HC K h,?_⟩;cases ak:(mk E' H (B.eraseIdx i)).H x with
  | none=>rfl
  | some y=>exact absurd rfl (J5 K h ak).1
 ·left;have W:E' x=some u:=U;have Z:E' x=E x:=by simp [E',e]
  show E x=some u;rw [← Z];exact W
theorem S2{E H:LH}{B0:List (Nat×Obj)}{e:TypeId}{sz l c:Nat}{a:Option Addr}{blk:List (Nat×Obj)}{xs:Lv_}(Z:GS e sz a l c blk xs)(O:Nd E H (B0++blk)):∃E',Le E E'∧Ns E' sz (.slice a l c) l xs∧Nd E' H B0∧Cp (mk E H (B0++blk)) (mk E' H B0):=by
 rcases Z with⟨rfl,rfl,rfl,rfl,rfl⟩ | ⟨bk,f,rfl,rfl,aa,U,rfl⟩
 ·simp only [List.append_nil] at O ⊢;exact⟨E,Le.refl _,.nil,O,.refl _⟩
 ·have ab:(B0++ [(bk,Obj.cells f e (0,0))])[B0.length]? =some (bk,Obj.cells f e (0,0)):=by simp
  obtain⟨E',hle,ae,V,W⟩:=Tb B0.length O ab;have ag:(B0++ [(bk,Obj.cells f e (0,0))]).eraseIdx B0.length=B0:=by rw [List.eraseIdx_append_of_length_le (Nat.le_refl _)];simp
  rw [ag] at V W;refine⟨E',hle,⟨_,c,rfl,U,?_,.inr ⟨bk,0,f,e,(0,0),rfl,ae,fun j w K=>?_⟩⟩,V,W⟩
  ·have:l*sz≤c*sz:=Nat.mul_le_mul_right _ U;simp [aa,Nat.min_eq_left this]
  ·rw [List.getElem?_take] at K;split at K
   ·simpa using K
   ·cases K
theorem S7{α:Type}{pp:Rp α}{E H:LH}{S:List Seg}{e:TypeId}{a:Option Addr}{c:Nat}{seg:Seg}{xs:List α}(j:Nat)(U:OL e pp E a c seg xs)(ag:Ar E H S)(ah:S[j]? =some seg):∃E',Le E E'∧Ao pp E' a c xs∧Ar E' H (S.set j [])∧Cp (Ak E H S) (Ak E' H (S.set j [])):=by
 obtain⟨wss,U,Z,aa⟩:=U;have ai:∀ad:Addr,a=some ad→ad.spot=none:=fun ad K=>by
  rcases U with⟨O,_⟩ | ⟨bk,f,O,_⟩
  ·rw [O] at K;cases K
  ·rw [O] at K;cases K;rfl
 obtain⟨O,aj⟩:=Ge ag ah;obtain⟨E',hle,ak,al,ab⟩:=S2 U aj;rw [← O] at ab;refine⟨E',hle,?_,al,ab⟩;obtain⟨am,an,V,ao,av,W⟩:=ak;obtain⟨rfl,-,rfl⟩:a=am∧xs.length=xs.length∧c=an:=by
  simp only [Value.slice.injEq] at V;exact⟨V.1,rfl,V.2.2⟩
 refine⟨ao,?_⟩;rcases W with W | ⟨bk,off,f,ap,fr,aq,g2,ar⟩
 ·exact .inl ⟨List.eq_nil_of_length_eq_zero W,fun ad K=> .inl (ai ad K)⟩
 ·refine .inr ⟨bk,off,aq,fun i x ae=>?_⟩;have au:i<wss.length:=by rw [Z];exact(List.getElem?_eq_some_iff.1 ae).1
  have hw:=List.getElem?_eq_getElem au;refine⟨wss[i],pp.Ai hle (aa i x _ ae hw),f,ap,fr,g2,fun m w hm=>?_⟩;rw [Nat.add_assoc];exact ar _ w (Iu (HD Z aa) hw m w hm)
theorem Cp.get{s s₀:St}(h:Cp s s₀){b:Nat}{o:Obj}(K:s₀.get b=some o):s.get b=some o:=by
 unfold St.get at K ⊢;cases O:s₀.E b with
 | some o'=>
  rw [O] at K;simp only at K;cases K;rcases h.D7 _ _ O with U | ⟨U,_⟩
  ·rw [U]
  ·cases he:s.E b with
   | none=>exact U
   | some V=>
    have:=h.ext _ _ he;rw [O] at this;cases this;rfl
 | none=>
  rw [O] at K;simp only at K;cases he:s.E b with
  | none=>exact h.own _ _ K
  | some V=>
   have:=h.ext _ _ he;rw [O] at this;cases this
theorem Cp.upd{s s₀:St}(h:Cp s s₀){b:Nat}(o:Obj)(hb:(∃u,s₀.H b=some u)∨s₀.E b=none):Cp (s.upd b o) (s₀.upd b o):=by
 refine⟨h.ext,fun x u K=>?_,fun x u K=>?_,h.q⟩
 ·simp only [St.upd] at K ⊢;by_cases e:x=b
  ·rw [if_pos e] at K ⊢;exact K
  ·rw [if_neg e] at K ⊢;exact h.own _ _ K
 ·have O:s₀.E x=some u:=K;rcases h.D7 _ _ O with U | ⟨U,V⟩
  ·exact .inl U
  ·refine .inr ?_;have e:x≠b:=fun e=>by
    subst e;rcases hb with⟨w,hw⟩ | hb
    ·rw [hw] at V;cases V
    ·rw [hb] at O;cases O
   simp only [St.upd,if_neg e];exact⟨U,V⟩
theorem Cp.none{s s₀:St}(h:Cp s s₀){b:Nat}(U:s.E b=none)(O:s.H b=none):s₀.E b=none∧s₀.H b=none:=by
 constructor
 ·cases he:s₀.E b with
  | none=>rfl
  | some o=>
   rcases h.D7 _ _ he with K | ⟨K,_⟩
   ·rw [U] at K;cases K
   ·rw [O] at K;cases K
 ·cases he:s₀.H b with
  | none=>rfl
  | some o=>have:=h.own _ _ he;rw [O] at this;cases this
theorem U7{P:Program}{α:Type}(x:Sem α):∀{s s₀:St} {Q:α→St→Prop} {X:Halt→St→Prop},Cp s s₀→lp P x s₀ Q X→lp P x s (fun a s'=>∃W,Cp s' W∧Q a W) (fun h s'=>∃W,Cp s' W∧X h W):=by
 induction x with
 | pure a=>intro s s₀ Q X g h;exact⟨s₀,g,h⟩
 | load m a k K=>
  intro s s₀ Q X g h;obtain⟨O,v,U,V⟩:=h;obtain⟨o,ab,ae⟩:=Option.bind_eq_some_iff.1 U;exact⟨O,v,by unfold St.cell?;rw [g.get ab];exact ae,K v g V⟩
 | store m a v k K=>
  intro s s₀ Q X g h;obtain⟨O,U,o,V,ag,ah,ai⟩:=h;exact⟨O,U,o,g.own _ _ V,ag,ah,K (g.upd _ (.inl ⟨o,V⟩)) ai⟩
 | new o k K=>
  intro s s₀ Q X g h;refine⟨by rw [← g.q];exact h.1,fun r O U=>?_⟩;obtain⟨aa,e2⟩:=g.none O U;exact K r (g.upd _ (.inr aa)) (h.2 r aa e2)
 | shape r k K=>intro s s₀ Q X g h;obtain⟨o,O,U⟩:=h;exact⟨o,g.get O,K _ g U⟩
 | freeze a n k K=>intro s s₀ Q X g h;exact h.elim
 | frozen a k K=>intro s s₀ Q X g h;obtain⟨o,O,U⟩:=h;exact⟨o,g.get O,K _ g U⟩
 | getObj r k K=>intro s s₀ Q X g h;obtain⟨o,O,U,V⟩:=h;exact⟨o,g.get O,U,K _ g V⟩
 | setObj r o k K=>
  intro s s₀ Q X g h;obtain⟨⟨o',O,aj⟩,U,V⟩:=h;exact⟨⟨o',g.own _ _ O,aj⟩,U,K (g.upd _ (.inl ⟨o',O⟩)) V⟩
 | choose q k K=>
  intro s s₀ Q X g h;simp only [lp] at h ⊢;split
  ·rename_i Z;rw [if_pos Z] at h;exact K _ g h
  ·rename_i Z;rw [if_neg Z] at h;exact⟨by rw [← g.q];exact h.1,fun t=>K _ g (h.2 t)⟩
 | sys c k K=>intro s s₀ Q X g h;exact h.elim
 | program k K=>intro s s₀ Q X g h;exact K _ g h
 | mark m k K=>
  intro s s₀ Q X g h;refine⟨?_,K g h.2⟩;rcases h.1 with⟨O,U⟩ | O
  ·exact .inl ⟨by rw [← g.q];exact O,U⟩
  ·exact .inr O
 | halt h=>intro s s₀ Q X g ak;exact⟨s₀,g,ak⟩
section
variable {P:Program}{J:Judge P}{Q:Gs_}{b:Frame}{n:Nat}{ds:Ld_}{ops:Ao_}{k:Li_}{cs:Lf_}{m fuel:Nat}{D:Nat→Bool}{listed:Array Bool}{L:Env}{s:St}{E E' H:LH}{S:List Seg}
variable {d:Option Tmp}{x y:Operand}{t u ty e:TypeId}{p:String}{af:Ae_}{g:On_}{v:Value}{i:Nat}{kd:IntKind}
theorem AT.perm{S':List Seg}(K:S.flatten.Perm S'.flatten)(O:Ar E H S)(h:Ar E H S'→AT J Q b n ds ops k cs m D fuel listed L (Ak E H S')):AT J Q b n ds ops k cs m D fuel listed L (Ak E H S):=by
 have e:Ak E H S=Ak E H S':=EV O K;rw [e];exact h (Nd.perm O K)
theorem QH{A B:Seg}(j:Nat)(K:S[j]? =some (A++B))(O:Ar E H S)(h:Ar E H (S.set j A++ [B])→AT J Q b n ds ops k cs m D fuel listed L (Ak E H (S.set j A++ [B]))):AT J Q b n ds ops k cs m D fuel listed L (Ak E H S):=by
 refine AT.perm ?_ O h;have U:=(Dr (seg':=A) K).1;have V:=(Dr (seg':=A) K).2;rw [FV];refine U.trans ?_;have W:=V.symm.append_right B
 rwa [List.append_assoc] at W
theorem JA.ghost:∀(fuel:Nat) {listed:Array Bool} {T:Ax} {s s₀:St},Cp s s₀→JA J Q b ds ops k cs m DV fuel listed T s₀→JA J Q b ds ops k cs m DV fuel listed T s
 | 0,listed,T,s,s₀,g,h=>⟨h.1,J.ghost g h.2⟩
 | fuel+1,listed,T,s,s₀,g,h=>by
  rcases h with⟨O,U⟩ | ⟨O,U,Z⟩
  ·exact .inl ⟨O,fun t=>J.ghost g (U t)⟩
  ·refine .inr ⟨O,by rw [← g.q];exact U,fun i hi o aa=>?_⟩;obtain⟨ab,ae,ag⟩:=Z i hi o aa;refine⟨ab,fun e=>JA.ghost fuel g (ae e),fun e=>?_⟩;have ah:=U7 _ (s:=BB DV s) (s₀:=BB DV s₀) g (ag e);refine Ds _ ah ?_ (fun _ s' ⟨_,_,h⟩=>h);intro nx s' K;obtain⟨V,W,K⟩:=K;cases nx with
   | value v=>exact JA.ghost fuel (s:=s') (s₀:=V) W K
   | skip=>exact JA.ghost fuel (s:=s') (s₀:=V) W K
   | enter f args=>
    obtain⟨R,ai,aj⟩:=K;refine⟨R,fun Q c cs ak=>J.ghost (s:=s') (s₀:=V) W (ai Q c cs ak),fun v al am=>?_⟩;obtain⟨an,ao,ap⟩:=aj v al am;exact⟨an,fun x o K=>ao x o (g.ext x o K),ap⟩
   | _=>exact K.elim
theorem PE{α:Type}{pp:Rp α}{a:Option Addr}{c:Nat}{seg:Seg}{xs:List α}(j:Nat)(K:OL e pp E a c seg xs)(O:Ar E H S)(U:S[j]? =some seg)
  (h:∀E',Le E E'→Ao pp E' a c xs→Ar E' H (S.set j [])→AT J Q b n ds ops k cs m DV fuel listed L (Ak E' H (S.set j []))):AT J Q b n ds ops k cs m DV fuel listed L (Ak E H S):=fun T V=>by
 obtain⟨E',W,Z,aa,ab⟩:=S7 j K O U
 exact JA.ghost _ ab (h E' W Z aa T V)
end
end Pal
namespace Pal
open Go Go.Conc
section
variable {P:Program}{J:Judge P}{Q:Gs_}{b:Frame}{n:Nat}{L:Env}{ds:Ld_}{k:Li_}{cs:Lf_}{s:St}{ops:Ao_}{i:Nat}{rest:List Nat}{v:Value}
variable {d:Option Tmp}{x:Operand}{ty:TypeId}{p:String}{af:Ae_}{g:On_}
end
end Pal
namespace Pal
open Go Go.Conc Go.Proofs Go.Extern
variable {J:Judge Tryz.prog}{E:LH}
end Pal
namespace Pal
open Go Go.Conc Go.Proofs
open Go.Proofs.Tryz
variable {J:Judge Tryz.prog}{E:LH}
end Pal
namespace Pal
open Go Go.Conc Go.Proofs
open Go.Proofs.Tryz
end Pal
namespace Pal
open Go Go.Conc Go.Proofs
open Go.Proofs.Tryz
end Pal
namespace Pal
open Go Go.Conc Go.Proofs
open Go.Proofs.Tryz
end Pal
namespace Pal
theorem EH{f:Nat→Option Int}{n i:Nat}{c:Int}(K:∀q,q<i→f q=none)(O:f i=some c)(hi:i<n):(List.range n).findSome? f=some c:=by
 have key:∀(k:Nat),i<k→(List.range k).findSome? f=some c:=by
  intro k
  induction k with
  | zero=>intro h;omega
  | succ k U=>
   intro h;rw [List.range_succ,List.findSome?_append];by_cases e:i=k
   ·subst e;have:(List.range i).findSome? f=none:=List.findSome?_eq_none_iff.2 fun q V=>K q (List.mem_range.1 V);rw [this];simp [O]
   ·rw [U (by omega)];rfl
 exact key n hi
theorem Gv{f:Nat→Option Int}{n:Nat}(K:∀q,q<n→f q=none):(List.range n).findSome? f=none:=List.findSome?_eq_none_iff.2 fun q O=>K q (List.mem_range.1 O)
def Fb(n:Nat)(m:Int)(b:Bool)(l:List Int)(i:Nat):Option Int:=
 if l.getD i 0<0∨(n:Int) - 1<l.getD i 0 then some 3 else if l.getD i 0=m∧b=false then some 8 else if 0<i∧l.getD i 0≤l.getD (i - 1) 0 then some 5 else none
def EJ(n:Nat)(m:Int)(b:Bool)(l:List Int):Option Int:=(List.range l.length).findSome? (Fb n m b l)
theorem Gd{α:Type}{l:List α}{i:Nat}{d:α}(h:i<l.length):l.getD i d=l[i]:=by rw [List.getD_eq_getElem?_getD,List.getElem?_eq_getElem h];rfl
theorem QO{F:Nat}{J:JW}{m:Int}{l:List Int}{b:Bool}(ag:100<F)(ah:l.length<100)(ai:J.1.length<100):AY (f136 F J m l b) (fun e=>e.map (·.1)=EJ J.1.length m b l):=by
 unfold f136;refine AI (S:=fun q=>(∃c,q=Sum.inl (some (c,m))∧EJ J.1.length m b l=some c)∨(q=Sum.inr ()∧EJ J.1.length m b l=none)) ?_ ?_
 ·refine Cj l.length (fun i s=>s=(i:Int)∧∀q,q<i→Fb J.1.length m b l q=none) ⟨rfl,fun q ae=>by omega⟩ (by omega) ?_ ?_
  ·rintro i s hi ⟨rfl,O⟩;unfold Jg;have W:l.getD i 0=l[i]:=Gd hi;refine BD (by omega) (Bu (m:=i) rfl hi ?_);refine AV ((J.1.length:Int) - 1) rfl (by omega) (by omega) (AM (IC F _ _ _) ?_);refine By (fun h=>?_) (fun h=>?_)
   ·have U:=of_decide_eq_true h;exact Am (.inl ⟨3,rfl,EH O (by unfold Fb;rw [W,if_pos U]) hi⟩)
   ·have U:¬(l[i]<0∨(J.1.length:Int) - 1<l[i]):=fun x=>h (decide_eq_true x);refine AI (S:=fun c=>c=decide (l[i]=m∧b=false)) ?_ ?_
    ·refine By (fun K=>Am ?_) (fun K=>Am ?_)
     ·cases b <;> simp [K]
     ·simp [K]
    ·rintro c rfl;refine By (fun K=>?_) (fun K=>?_)
     ·have Z:=of_decide_eq_true K;exact Am (.inl ⟨8,rfl,EH O (by unfold Fb;rw [W,if_neg U,if_pos Z]) hi⟩)
     ·have Z:¬(l[i]=m∧b=false):=fun x=>K (decide_eq_true x);refine AI (S:=fun c=>c=decide (0<i∧l[i]≤l.getD (i - 1) 0)) ?_ ?_
      ·refine By (fun V=>?_) (fun V=>?_)
       ·have ab:i - 1<l.length:=by omega
        refine AV ((i - 1:Nat):Int) (by omega) (by omega) (by omega) (Bu (m:=i - 1) rfl ab ?_);refine Am ?_;rw [Gd ab];exact decide_eq_decide.2 ⟨fun x=>⟨by omega,x⟩,fun x=>x.2⟩
       ·exact Am (decide_eq_false (by omega)).symm
      ·rintro c rfl;refine By (fun V=>?_) (fun V=>?_)
       ·have aa:=of_decide_eq_true V;exact Am (.inl ⟨5,rfl,EH O (by unfold Fb;rw [W,if_neg U,if_neg Z,if_pos aa]) hi⟩)
       ·have aa:¬(0<i∧l[i]≤l.getD (i - 1) 0):=fun x=>V (decide_eq_true x);refine AV ((i+1:Nat):Int) (by simp) (by omega) (by omega) ?_;refine Am ⟨rfl,fun q ae=>?_⟩;by_cases e:q=i
        ·subst e;unfold Fb;rw [W,if_neg U,if_neg Z,if_neg aa]
        ·exact O q (by omega)
  ·rintro s ⟨rfl,O⟩;unfold Jg;exact Bj (by omega) (Am ⟨_,rfl,.inr ⟨rfl,Gv O⟩⟩)
 ·rintro q (⟨c,rfl,h⟩ | ⟨rfl,h⟩)
  ·exact Am h.symm
  ·exact Am h.symm
theorem Oy(F:Nat)(a lo hi:Int):f104 F a lo hi=some (decide (lo≤a∧a≤hi)):=by
 unfold f104;by_cases h:lo≤a
 ·simp [h]
 ·simp [h]
theorem Vj{F:Nat}{J:JW}{m:Int}{l:List Int}(ab:100<F)(ae:l.length<100)(ag:J.1.length<100):f114 F J l=some (if l.length=0 then 7 else if 3<l.length then 6 else(EJ J.1.length m true l).getD 0):=by
 refine Dq ?_;unfold f114;refine By (fun h=>?_) (fun h=>?_)
 ·rw [if_pos (show l.length=0 by omega)];exact Am rfl
 rw [if_neg (show ¬l.length=0 by omega)];refine By (fun h=>?_) (fun h=>?_)
 ·rw [if_pos (show 3<l.length by omega)];exact Am rfl
 rw [if_neg (show ¬3<l.length by omega)];refine AI (S:=fun q=>(∃c,q=Sum.inl c∧EJ J.1.length m true l=some c)∨(q=Sum.inr ()∧EJ J.1.length m true l=none)) ?_ ?_
 ·refine Cj l.length (fun i s=>s=(i:Int)∧∀q,q<i→Fb J.1.length m true l q=none) ⟨rfl,fun q aa=>by omega⟩ (by omega) ?_ ?_
  ·rintro i s hi ⟨rfl,K⟩;unfold L6;have V:l.getD i 0=l[i]:=Gd hi;refine BD (by omega) (Bu (m:=i) rfl hi ?_);refine AV ((J.1.length:Int) - 1) rfl (by omega) (by omega) (AM (Oy F _ _ _) ?_);refine By (fun h=>?_) (fun h=>?_)
   ·have U:l[i]<0∨(J.1.length:Int) - 1<l[i]:=by simp at h;omega
    exact Am (.inl ⟨3,rfl,EH K (by unfold Fb;rw [V,if_pos U]) hi⟩)
   ·have U:¬(l[i]<0∨(J.1.length:Int) - 1<l[i]):=by simp at h;omega
    refine AI (S:=fun c=>c=decide (0<i∧l[i]≤l.getD (i - 1) 0)) ?_ ?_
    ·refine By (fun O=>?_) (fun O=>?_)
     ·have Z:i - 1<l.length:=by omega
      refine Bu (m:=i) rfl hi (AV ((i - 1:Nat):Int) (by omega) (by omega) (by omega) ?_);refine Bu (m:=i - 1) rfl Z (Am ?_);rw [Gd Z];exact decide_eq_decide.2 ⟨fun x=>⟨by omega,x⟩,fun x=>x.2⟩
     ·exact Am (decide_eq_false (by omega)).symm
    ·rintro c rfl;refine By (fun O=>?_) (fun O=>?_)
     ·have W:=of_decide_eq_true O;exact Am (.inl ⟨5,rfl,EH K (by unfold Fb;rw [V,if_neg U,if_neg (by simp),if_pos W]) hi⟩)
     ·have W:¬(0<i∧l[i]≤l.getD (i - 1) 0):=fun x=>O (decide_eq_true x);refine AV ((i+1:Nat):Int) (by simp) (by omega) (by omega) ?_;refine Am ⟨rfl,fun q aa=>?_⟩;by_cases e:q=i
      ·subst e;unfold Fb;rw [V,if_neg U,if_neg (by simp),if_neg W]
      ·exact K q (by omega)
  ·rintro s ⟨rfl,K⟩;unfold L6;exact Bj (by omega) (Am ⟨_,rfl,.inr ⟨rfl,Gv K⟩⟩)
 ·rintro q (⟨c,rfl,h⟩ | ⟨rfl,h⟩)
  ·exact Am (by rw [h];rfl)
  ·exact Am (by rw [h];rfl)
theorem U0{F:Nat}{J:JW}{m:Int}{l:List Int}(ag:100<F)(ah:l.length<100)(ai:J.1.length<100):f115 F J m l=some (if 3<l.length then 6 else(EJ J.1.length m false l).getD 0):=by
 refine Dq ?_;unfold f115;refine By (fun h=>?_) (fun h=>?_)
 ·rw [if_pos (show 3<l.length by omega)];exact Am rfl
 rw [if_neg (show ¬3<l.length by omega)];refine AI (S:=fun q=>(∃c,q=Sum.inl c∧EJ J.1.length m false l=some c)∨(q=Sum.inr ()∧EJ J.1.length m false l=none)) ?_ ?_
 ·refine Cj l.length (fun i s=>s=(i:Int)∧∀q,q<i→Fb J.1.length m false l q=none) ⟨rfl,fun q ae=>by omega⟩ (by omega) ?_ ?_
  ·rintro i s hi ⟨rfl,K⟩;unfold L5;have V:l.getD i 0=l[i]:=Gd hi;refine BD (by omega) (Bu (m:=i) rfl hi ?_);refine AV ((J.1.length:Int) - 1) rfl (by omega) (by omega) (AM (Oy F _ _ _) ?_);refine By (fun h=>?_) (fun h=>?_)
   ·have O:l[i]<0∨(J.1.length:Int) - 1<l[i]:=by simp at h;omega
    exact Am (.inl ⟨3,rfl,EH K (by unfold Fb;rw [V,if_pos O]) hi⟩)
   ·have O:¬(l[i]<0∨(J.1.length:Int) - 1<l[i]):=by simp at h;omega
    refine Bu (m:=i) rfl hi (By (fun W=>?_) (fun W=>?_))
    ·exact Am (.inl ⟨8,rfl,EH K (by unfold Fb;rw [V,if_neg O,if_pos ⟨W,rfl⟩]) hi⟩)
    have aa:¬(l[i]=m∧false=false):=fun x=>W x.1;refine AI (S:=fun c=>c=decide (0<i∧l[i]≤l.getD (i - 1) 0)) ?_ ?_
    ·refine By (fun U=>?_) (fun U=>?_)
     ·have ab:i - 1<l.length:=by omega
      refine Bu (m:=i) rfl hi (AV ((i - 1:Nat):Int) (by omega) (by omega) (by omega) ?_);refine Bu (m:=i - 1) rfl ab (Am ?_);rw [Gd ab];exact decide_eq_decide.2 ⟨fun x=>⟨by omega,x⟩,fun x=>x.2⟩
     ·exact Am (decide_eq_false (by omega)).symm
    ·rintro c rfl;refine By (fun U=>?_) (fun U=>?_)
     ·have Z:=of_decide_eq_true U;exact Am (.inl ⟨5,rfl,EH K (by unfold Fb;rw [V,if_neg O,if_neg aa,if_pos Z]) hi⟩)
     ·have Z:¬(0<i∧l[i]≤l.getD (i - 1) 0):=fun x=>U (decide_eq_true x);refine AV ((i+1:Nat):Int) (by simp) (by omega) (by omega) ?_;refine Am ⟨rfl,fun q ae=>?_⟩;by_cases e:q=i
      ·subst e;unfold Fb;rw [V,if_neg O,if_neg aa,if_neg Z]
      ·exact K q (by omega)
  ·rintro s ⟨rfl,K⟩;unfold L5;exact Bj (by omega) (Am ⟨_,rfl,.inr ⟨rfl,Gv K⟩⟩)
 ·rintro q (⟨c,rfl,h⟩ | ⟨rfl,h⟩)
  ·exact Am (by rw [h];rfl)
  ·exact Am (by rw [h];rfl)
def Ei(J:JW)(i:Nat):Option Int:=
 if(J.1.getD i []).length=0 then some 7 else if 3<(J.1.getD i []).length then some 6 else match EJ J.1.length i true (J.1.getD i []) with
  | some c=>some c
  | none=>if 3<(J.2.getD i []).length then some 6 else EJ J.1.length i false (J.2.getD i [])
def CJ(J:JW):Option Int:=if J.1.length=0 then some 7 else if 8<J.1.length then some 6 else if J.2.length≠J.1.length then some 9 else(List.range J.1.length).findSome? (Ei J)
structure NL (J:JW):Prop where
 l1:J.1.length≤20
 l2:J.2.length≤20
 n1:∀l∈J.1,l.length≤20
 n2:∀l∈J.2,l.length≤20
theorem Vs{F:Nat}{J:JW}(Z:100<F)(V:NL J):AY (f113 F J) (fun e=>e.map (·.1)=CJ J):=by
 have ae:=V.l1;unfold f113 CJ;refine By (fun h=>?_) (fun h=>?_)
 ·rw [if_pos (show J.1.length=0 by omega)];exact Am rfl
 rw [if_neg (show ¬J.1.length=0 by omega)];refine By (fun h=>?_) (fun h=>?_)
 ·rw [if_pos (show 8<J.1.length by omega)];exact Am rfl
 rw [if_neg (show ¬8<J.1.length by omega)];refine By (fun h=>?_) (fun h=>?_)
 ·rw [if_pos (show J.2.length≠J.1.length by omega)];exact Am rfl
 rw [if_neg (show ¬J.2.length≠J.1.length by omega)];refine AI (S:=fun q=>(∃c,q=Sum.inl (some c)∧(List.range J.1.length).findSome? (Ei J)=some c.1)∨(q=Sum.inr ()∧(List.range J.1.length).findSome? (Ei J)=none)) ?_ ?_
 ·refine Cj J.1.length (fun i s=>s=(i:Int)∧∀q,q<i→Ei J q=none) ⟨rfl,fun q ab=>by omega⟩ (by omega) ?_ ?_
  ·rintro i s hi ⟨rfl,K⟩;unfold Je;have U:i<J.2.length:=by omega
   have O:J.1.getD i []=J.1[i]:=Gd hi;have g2:J.2.getD i []=J.2[i]:=Gd U;have n1:=V.n1 _ (List.getElem_mem hi);have n2:=V.n2 _ (List.getElem_mem U);refine BD (by omega) ?_;refine Bu (m:=i) rfl hi ?_;refine By (fun h=>?_) (fun ag=>?_)
   ·exact Am (.inl ⟨(7,(i:Int)),rfl,EH K (by unfold Ei;rw [O,if_pos (by omega)]) hi⟩)
   refine By (fun h=>?_) (fun ah=>?_)
   ·exact Am (.inl ⟨(6,(i:Int)),rfl,EH K (by unfold Ei;rw [O,if_neg (by omega),if_pos (by omega)]) hi⟩)
   refine AI (QO Z (by omega) (by omega)) ?_;intro e he;refine By (fun h=>?_) (fun h=>?_)
   ·obtain⟨c,rfl⟩:=Option.isSome_iff_exists.1 h;refine Am (.inl ⟨c,rfl,EH K ?_ hi⟩);unfold Ei;rw [O,if_neg (by omega),if_neg (by omega),← he];rfl
   ·obtain rfl:e=none:=by cases e <;> simp_all
    have W:EJ J.1.length (i:Int) true J.1[i]=none:=he.symm;refine Bu (m:=i) rfl U ?_;refine By (fun h=>?_) (fun ai=>?_)
    ·refine Am (.inl ⟨(6,(i:Int)),rfl,EH K ?_ hi⟩);unfold Ei;rw [O,g2,if_neg (by omega),if_neg (by omega),W];simp only;rw [if_pos (by omega)]
    refine Bu (m:=i) rfl U (AI (QO Z (by omega) (by omega)) ?_);intro e2 aa;refine By (fun h=>?_) (fun h=>?_)
    ·obtain⟨c,rfl⟩:=Option.isSome_iff_exists.1 h;refine Am (.inl ⟨c,rfl,EH K ?_ hi⟩);unfold Ei;rw [O,g2,if_neg (by omega),if_neg (by omega),W];simp only;rw [if_neg (by omega),← aa];rfl
    ·obtain rfl:e2=none:=by cases e2 <;> simp_all
     refine AV ((i+1:Nat):Int) (by simp) (by omega) (by omega) (Am ⟨rfl,fun q ab=>?_⟩);by_cases e:q=i
     ·subst e;unfold Ei;rw [O,g2,if_neg (by omega),if_neg (by omega),W];simp only;rw [if_neg (by omega),← aa];rfl
     ·exact K q (by omega)
  ·rintro s ⟨rfl,K⟩;unfold Je;exact Bj (by omega) (Am ⟨_,rfl,.inr ⟨rfl,Gv K⟩⟩)
 ·rintro q (⟨c,rfl,h⟩ | ⟨rfl,h⟩)
  ·exact Am h.symm
  ·exact Am h.symm
theorem L9{n:Nat}{m:Int}{b:Bool}{l:List Int}{c:Int}(h:EJ n m b l=some c):c≠0:=by
 obtain⟨i,_,hi⟩:=List.exists_of_findSome?_eq_some h;unfold Fb at hi;split at hi
 ·cases hi;omega
 ·split at hi
  ·cases hi;omega
  ·split at hi
   ·cases hi;omega
   ·cases hi
theorem Wy{J:JW}{i:Nat}{c:Int}(h:Ei J i=some c):c≠0:=by
 unfold Ei at h;split at h
 ·cases h;omega
 ·split at h
  ·cases h;omega
  ·split at h
   ·rename_i e;cases h;exact L9 e
   ·split at h
    ·cases h;omega
    ·exact L9 h
theorem YR{J:JW}{c:Int}(h:CJ J=some c):c≠0:=by
 unfold CJ at h;split at h
 ·cases h;omega
 ·split at h
  ·cases h;omega
  ·split at h
   ·cases h;omega
   ·obtain⟨i,_,hi⟩:=List.exists_of_findSome?_eq_some h;exact Wy hi
theorem W2{F:Nat}{J:JW}(aa:100<F)(V:NL J):f68 F J=some ((CJ J).getD 0):=by
 have ae:=V.l1;refine Dq ?_;unfold f68 CJ;refine By (fun h=>?_) (fun h=>?_)
 ·rw [if_pos (show J.1.length=0 by omega)];exact Am rfl
 rw [if_neg (show ¬J.1.length=0 by omega)];refine By (fun h=>?_) (fun h=>?_)
 ·rw [if_pos (show 8<J.1.length by omega)];exact Am rfl
 rw [if_neg (show ¬8<J.1.length by omega)];refine By (fun h=>?_) (fun h=>?_)
 ·rw [if_pos (show J.2.length≠J.1.length by omega)];exact Am rfl
 rw [if_neg (show ¬J.2.length≠J.1.length by omega)];refine AI (S:=fun q=>(∃c,q=Sum.inl c∧(List.range J.1.length).findSome? (Ei J)=some c)∨(q=Sum.inr ()∧(List.range J.1.length).findSome? (Ei J)=none)) ?_ ?_
 ·refine Cj J.1.length (fun i s=>s=(i:Int)∧∀q,q<i→Ei J q=none) ⟨rfl,fun q ab=>by omega⟩ (by omega) ?_ ?_
  ·rintro i s hi ⟨rfl,K⟩;unfold MB;have W:i<J.2.length:=by omega
   have U:J.1.getD i []=J.1[i]:=Gd hi;have g2:J.2.getD i []=J.2[i]:=Gd W;have n1:=V.n1 _ (List.getElem_mem hi);have n2:=V.n2 _ (List.getElem_mem W);refine BD (by omega) ?_;refine Bu (m:=i) rfl hi ?_;refine AM (Vj (m:=(i:Int)) aa (by omega) (by omega)) ?_;by_cases O:J.1[i].length=0
   ·rw [if_pos O];exact BD (by omega) (Am (.inl ⟨7,rfl,EH K (by unfold Ei;rw [U,if_pos O]) hi⟩))
   rw [if_neg O];by_cases c2:3<J.1[i].length
   ·rw [if_pos c2];exact BD (by omega) (Am (.inl ⟨6,rfl,EH K (by unfold Ei;rw [U,if_neg O,if_pos c2]) hi⟩))
   rw [if_neg c2];cases he:EJ J.1.length (i:Int) true J.1[i] with
   | some c=>
    exact BD (L9 he) (Am (.inl ⟨c,rfl,EH K (by unfold Ei;rw [U,if_neg O,if_neg c2,he]) hi⟩))
   | none=>
    refine Bj (by simp) (Bu (m:=i) rfl W ?_);refine AM (U0 (m:=(i:Int)) aa (by omega) (by omega)) ?_;by_cases c3:3<J.2[i].length
    ·rw [if_pos c3];refine BD (by omega) (Am (.inl ⟨6,rfl,EH K ?_ hi⟩));unfold Ei;rw [U,g2,if_neg O,if_neg c2,he];simp only;rw [if_pos c3]
    rw [if_neg c3];cases Z:EJ J.1.length (i:Int) false J.2[i] with
    | some c=>
     refine BD (L9 Z) (Am (.inl ⟨c,rfl,EH K ?_ hi⟩));unfold Ei;rw [U,g2,if_neg O,if_neg c2,he];simp only;rw [if_neg c3,Z]
    | none=>
     refine Bj (by simp) (AV ((i+1:Nat):Int) (by simp) (by omega) (by omega) ?_);refine Am ⟨rfl,fun q ab=>?_⟩;by_cases e:q=i
     ·subst e;unfold Ei;rw [U,g2,if_neg O,if_neg c2,he];simp only;rw [if_neg c3,Z]
     ·exact K q (by omega)
  ·rintro s ⟨rfl,K⟩;unfold MB;exact Bj (by omega) (Am ⟨_,rfl,.inr ⟨rfl,Gv K⟩⟩)
 ·rintro q (⟨c,rfl,h⟩ | ⟨rfl,h⟩)
  ·exact Am (by rw [h];rfl)
  ·exact Am (by rw [h];rfl)
theorem PU{n:Nat}{m:Int}{b:Bool}{l:List Int}(h:EJ n m b l=none):Hs n l∧l.Pairwise (·<·)∧(b=false→m ∉ l):=by
 have K:∀i (hi:i<l.length),¬(l[i]<0∨(n:Int) - 1<l[i])∧¬(l[i]=m∧b=false)∧¬(0<i∧l[i]≤l.getD (i - 1) 0):=fun i hi=>by
  have:=List.findSome?_eq_none_iff.1 h i (List.mem_range.2 hi);unfold Fb at this;rw [Gd hi] at this;split at this
  ·cases this
  ·split at this
   ·cases this
   ·split at this
    ·cases this
    ·rename_i U V W;exact⟨U,V,W⟩
 refine⟨fun x Z=>?_,?_,fun hb hm=>?_⟩
 ·obtain⟨i,hi,rfl⟩:=List.mem_iff_getElem.1 Z;have:=(K i hi).1;omega
 ·have step:∀i (hi:i+1<l.length),l[i]<l[i+1]:=fun i hi=>by
   have:=(K (i+1) hi).2.2;rw [show i+1 - 1=i by omega,Gd (by omega)] at this;omega
  rw [List.pairwise_iff_getElem];intro i j hi ag ah;have key:∀k (O:i+1+k<l.length),l[i]<l[i+1+k]:=fun k=>by
   induction k with
   | zero=>intro O;exact step i O
   | succ k aa=>intro O;have ab:=aa (by omega);have ae:=step (i+1+k) (by omega);exact Int.lt_trans ab ae
  have:=key (j - i - 1) (by omega);simpa [show i+1+(j - i - 1)=j by omega] using this
 ·obtain⟨i,hi,e⟩:=List.mem_iff_getElem.1 hm;exact(K i hi).2.1 ⟨e,hb⟩
theorem UZ{J:JW}(h:CJ J=none):VJ J.1.length J:=by
 unfold CJ at h;split at h
 ·cases h
 rename_i ah;split at h
 ·cases h
 rename_i ai;split at h
 ·cases h
 rename_i aj;have O:∀i,i<J.1.length→(J.1.getD i []).length≠0∧(J.1.getD i []).length≤3∧EJ J.1.length i true (J.1.getD i [])=none∧(J.2.getD i []).length≤3∧EJ J.1.length i false (J.2.getD i [])=none:=fun i hi=>by
  have:=List.findSome?_eq_none_iff.1 h i (List.mem_range.2 hi);unfold Ei at this;split at this
  ·cases this
  ·split at this
   ·cases this
   ·split at this
    ·cases this
    ·rename_i aa ak _ ab;split at this
     ·cases this
     ·rename_i al;exact⟨aa,by omega,ab,by omega,this⟩
 refine⟨by omega,by omega,rfl,by omega,fun i l K=>?_,fun i l K=>?_⟩
 ·have hi:=(List.getElem?_eq_some_iff.1 K).1;obtain⟨ae,U,V,_,_⟩:=O i hi;have e:J.1.getD i []=l:=by rw [List.getD_eq_getElem?_getD,K];rfl
  rw [e] at ae U V;obtain⟨v1,v2,_⟩:=PU V;exact⟨⟨U,v1,v2⟩,by omega⟩
 ·have hi:i<J.1.length:=by have:=(List.getElem?_eq_some_iff.1 K).1;omega
  obtain⟨_,_,_,W,Z⟩:=O i hi;have e:J.2.getD i []=l:=by rw [List.getD_eq_getElem?_getD,K];rfl
  rw [e] at W Z;obtain⟨v1,v2,ag⟩:=PU Z;exact⟨⟨W,v1,v2⟩,ag rfl⟩
end Pal
namespace Pal
theorem WV{F n a m:Nat}{J:JW}{due K:List Bool}(ak:100<F)(V:VJ n J)(hd:HS J n a due)(hm:m<n)(aa:K.length=n):
  AY (iter (Jj F J due (K,(m:Int))) F (K,0)) (fun r=>r.length=n∧∀x:Nat,x<n→(r[x]? =some true↔K[x]? =some true∨((AG J a).testBit m=true∧(x:Int)∈J.1.getD m []))):=by
 have al:=V.l1;have am:=V.le;have O:m<J.1.length:=by omega
 obtain⟨ab,an⟩:=V.nx m _ (List.getElem?_eq_getElem O);have hlen:=ab.len;have ai:J.1.getD m []=J.1[m]:=Gd O;have ae:=hd.2 m hm;cases ag:(AG J a).testBit m with
 | false=>
  refine Cj 0 (fun i st=>st=(K,0)) rfl (by omega) (fun i st hi=>by omega) ?_;rintro st rfl;unfold Jj;refine Bu (m:=m) rfl O (AI (S:=fun c=>c=false) ?_ ?_)
  ·refine By (fun h=>?_) (fun h=>Am rfl);exact AM (Dk (m:=m) rfl ae) (Am ag)
  ·rintro c rfl;refine Bj (by simp) (Am ⟨_,rfl,aa,fun x U=>?_⟩);simp
 | true=>
  refine Cj J.1[m].length (fun i st=>∃nx:List Bool,st=(nx,(i:Int))∧nx.length=n∧∀x:Nat,x<n→(nx[x]? =some true↔K[x]? =some true∨(x:Int)∈J.1[m].take i)) ⟨K,rfl,aa,fun x U=>by simp⟩ (by omega) ?_ ?_
  ·rintro i st hi ⟨nx,rfl,W,Z⟩;unfold Jj;refine Bu (m:=m) rfl O (AI (S:=fun c=>c=true) ?_ ?_)
   ·refine BD (by simp only;omega) (AM (Dk (m:=m) rfl ae) ?_);exact Am ag
   ·rintro c rfl;refine BD rfl (Bu (m:=m) rfl O ?_);refine Bu (m:=i) rfl hi ?_;have U:=ab.inr J.1[m][i] (List.getElem_mem hi);have ah:J.1[m][i].toNat<nx.length:=by omega
    refine Bu (m:=J.1[m][i].toNat) (show J.1[m][i]=_ by omega) ah (AV ((i+1:Nat):Int) (by simp) (by omega) (by omega) ?_);refine Am ⟨nx.set J.1[m][i].toNat true,rfl,by simpa using W,fun x aj=>?_⟩;rw [UY ah,Z x aj,List.take_add_one,List.getElem?_eq_getElem hi];simp only [Option.toList_some,List.mem_append,List.mem_singleton];rw [or_assoc];refine or_congr Iff.rfl (or_congr Iff.rfl ⟨fun h=>by omega,fun h=>by omega⟩)
  ·rintro st ⟨nx,rfl,W,Z⟩;unfold Jj;refine Bu (m:=m) rfl O (AI (S:=fun c=>c=false) (Bj (by simp) (Am rfl)) ?_);rintro c rfl;refine Bj (by simp) (Am ⟨_,rfl,W,fun x U=>?_⟩);rw [Z x U,List.take_length,ai];simp
theorem V6{F n a:Nat}{J:JW}{due:List Bool}(Z:100<F)(W:VJ n J)(hd:HS J n a due):AY (f119 F J due) (HS J n (a+1)):=by
 have aj:=W.le;have aa:=hd.1;unfold f119;refine AM (b:=List.replicate n false) ?_ ?_
 ·unfold Gh;rw [if_pos (by omega),aa];rfl
 refine AI (S:=HS J n (a+1)) ?_ (fun r ab=>Am ab);refine Cj n (fun k st=>∃nx:List Bool,st=(nx,(k:Int))∧Pk J n a k nx) ⟨_,rfl,by simp,fun x U=>?_⟩ (by omega) ?_ ?_
 ·rw [List.getElem?_replicate,if_pos U];simp
 ·rintro k st ae ⟨nx,rfl,V⟩;unfold Ms;refine BD (by simp only;omega) (AI (WV (m:=k) Z W hd ae V.1) ?_);rintro ag ⟨ah,g2⟩;refine AV ((k+1:Nat):Int) (by simp) (by omega) (by omega) (Am ⟨ag,rfl,ah,fun x U=>?_⟩);rw [g2 x U,V.2 x U];constructor
  ·rintro(⟨m,ai,K,O⟩ | ⟨K,O⟩)
   ·exact⟨m,by omega,K,O⟩
   ·exact⟨k,by omega,K,O⟩
  ·rintro⟨m,ai,K,O⟩;rcases Nat.lt_or_ge m k with h | h
   ·exact .inl ⟨m,h,K,O⟩
   ·obtain rfl:m=k:=by omega
    exact .inr ⟨K,O⟩
 ·rintro st ⟨nx,rfl,V⟩;unfold Ms;exact Bj (by simp only;omega) (Am ⟨_,rfl,V.due W⟩)
theorem YZ{n:Nat}{J:JW}(K:0<n):HS J n 0 ((List.replicate n false).set 0 true):=by
 refine⟨by simp,fun m hm=>?_⟩;by_cases e:m=0
 ·subst e;rw [List.getElem?_set_self (by simpa using hm)];exact congrArg some (show true=(1:Nat).testBit 0 by decide)
 ·rw [List.getElem?_set_ne (by omega),List.getElem?_replicate,if_pos hm];have:(AG J 0).testBit m=false:=by
   show(1:Nat).testBit m=false;have:=Nat.testBit_two_pow_of_ne (n:=0) (m:=m) (by omega);simpa using this
  rw [this]
theorem Xk{F n a:Nat}{J:JW}(U:100<F)(K:VJ n J)(aa:a<13):AY (f82 F J (a:Int)) (HS J n a):=by
 have ab:=K.le;have O:=K.pos;have V:=K.l1;unfold f82;refine AM (b:=List.replicate n false) ?_ ?_
 ·unfold Gh;rw [if_pos (by omega),V];rfl
 refine Bu (m:=0) rfl (by simpa using O) (AI (S:=HS J n a) ?_ (fun r W=>Am W));refine Cj a (fun i st=>∃d:List Bool,st=(d,(i:Int))∧HS J n i d) ⟨_,rfl,YZ O⟩ (by omega) ?_ ?_
 ·rintro i st hi ⟨d,rfl,hd⟩;unfold MO;refine BD (by simp only;omega) (AI (V6 U K hd) ?_);intro d2 Z;exact AV ((i+1:Nat):Int) (by simp) (by omega) (by omega) (Am ⟨d2,rfl,Z⟩)
 ·rintro st ⟨d,rfl,hd⟩;unfold MO;exact Bj (by simp) (Am ⟨_,rfl,hd⟩)
theorem VJ.nl{n:Nat}{J:JW}(K:VJ n J):NL J:=by
 have U:=K.l1;have V:=K.l2;have W:=K.le;refine⟨by omega,by omega,fun l O=>?_,fun l O=>?_⟩
 ·obtain⟨i,hi,rfl⟩:=List.mem_iff_getElem.1 O;have:=(K.nx i _ (List.getElem?_eq_getElem hi)).1.len;omega
 ·obtain⟨i,hi,rfl⟩:=List.mem_iff_getElem.1 O;have:=(K.fl i _ (List.getElem?_eq_getElem hi)).1.len;omega
end Pal
namespace Pal
theorem Tp{s n:Nat}(h:s<2 ^ n)(d:Nat):BT s (n+d)=BT s n:=by
 induction d with
 | zero=>rfl
 | succ d K=>
  rw [← Nat.add_assoc,NP,if_neg,K];have:s<2 ^ (n+d):=Nat.lt_of_lt_of_le h (Nat.pow_le_pow_right (by omega) (by omega));rw [Nat.testBit_lt_two_pow this];decide
theorem WZ{F n s:Nat}{d:List Bool}(K:100<F)(O:n≤8)(U:d.length=n)(hd:∀m,m<n→d[m]? =some (s.testBit m)):f111 F d=some (BT s n):=by
 refine Dq ?_;unfold f111;refine AI (S:=fun r=>r=BT s n) ?_ (by rintro r rfl;exact Am rfl);refine Cj n (fun i st=>st=(BT s i,(i:Int))) rfl (by omega) ?_ ?_
 ·rintro i st hi rfl;unfold Mr;have hlen:=I4 s i;refine BD (by simp only;omega) (AM (Dk (m:=i) rfl (hd i hi)) ?_);refine AI (S:=fun r=>r=BT s (i+1)) ?_ ?_
  ·rw [NP];refine By (fun h=>?_) (fun h=>?_)
   ·rw [if_pos h];exact Iv (by simp only;omega) (Am rfl)
   ·rw [if_neg h];exact Am rfl
  ·rintro r rfl;exact AV ((i+1:Nat):Int) (by simp) (by omega) (by omega) (Am rfl)
 ·rintro st rfl;unfold Mr;exact Bj (by simp only;omega) (Am ⟨_,rfl,rfl⟩)
def Pb(J:JW)(a:Int):List Int×Int:=match CJ J with | some c=>([],c) | none=>if 0≤a∧a≤12 then(BT (AG J a.toNat) 16,0) else([],1)
theorem WN{F:Nat}{J:JW}{a:Int}(O:100<F)(W:NL J):f64 F J a=some (Pb J a):=by
 refine Dq ?_;unfold f64 Pb;refine AM (W2 O W) ?_;cases h:CJ J with
 | some c=>exact BD (YR h) (Am rfl)
 | none=>
  have K:=UZ h;refine Bj (by simp) ?_;refine AM (Oy F _ _ _) ?_;refine By (fun U=>?_) (fun U=>?_)
  ·have V:¬(0≤a∧a≤12):=by simp at U;omega
   refine Am ?_;simp only;rw [if_neg V]
  ·have V:0≤a∧a≤12:=by simpa using U
   obtain⟨b,rfl⟩:∃b:Nat,a=(b:Int):=⟨a.toNat,by omega⟩;refine AI (Xk O K (by omega)) ?_;intro d hd;refine AM (WZ O K.le hd.1 hd.2) (Am ?_);simp only;rw [if_pos V];have e:(16:Nat)=J.1.length+(16 - J.1.length):=by have:=K.le;omega
   show(BT (AG J b) J.1.length,(0:Int))=(BT (AG J b) 16,0);rw [e,Tp (Ia K b)]
end Pal
namespace Pal
open Go Go.Conc Go.Proofs
open Go.Proofs.Tryz
variable {J:Judge Tryz.prog}{E:LH}
def M7(fuel:Nat)(p0:List Int):Option ((List Int)):= (Dl ([]:List Int) p0).bind fun K=> some K
theorem RM{K:Ap}{c2:Nat}{p0:List Int}(W:Ao rI E K c2 p0){fuel:Nat}{r:(List Int)}(O:M7 fuel p0=some r):AQ J 108 [sV K p0 c2] E [] (fun w E' B'=>∃(U:Ap) (V:Nat) (g0:Seg),w= sV U r V∧B'=g0∧OL 3 rI E' U V g0 r):=by
 refine Bc func108 fun Q an cs H Z aa=>?_;unfold M7 at O;refine zg 6 rfl (Oo (pp:=rI) rfl rfl rfl underlying28 AW Z fun ao ap ab ae=>?_);obtain⟨aq,ag,ah⟩:=bs O;refine zg 1 rfl (Kt (pp:=rI) 1 ag rfl rfl rfl rfl rfl rfl rfl underlying28 underlying28 AW (CP type3) Cz rfl (by decide) (by decide) ab W ae rfl fun ai aj ak al am=>?_);refine zg 2 rfl ?_;obtain rfl:=oi ah;exact AF func108 rfl rfl (aa Aq rfl ⟨ai,aj,ak,rfl,(by first | rfl | simp | (simp [Value.cells])),al⟩ am)
def MU(fuel:Nat)(O:(List Int)×Int)(K:(List (List Int))×Int):Option (Bl ((List (List Int))×Int) ((List (List Int)))):= if K.2<(O.1.length:Int) then((ix O.1 K.2).bind fun U=> (room K.1 ([U]:List Int)).bind fun V=> (Au (K.2+1)).bind fun W=> some (.more (V,W))) else(some (.done K.1))
def MJ(fuel:Nat)(U:(List (List Int))×Int)(V:(List (List Int))×Int)(O:List Int)(K:(List (List Int))×Int):Option (Bl ((List (List Int))×Int) ((List (List Int)))):= if K.2<(O.length:Int) then((ix U.1 V.2).bind fun W=> (ix O K.2).bind fun Z=> (M7 fuel W).bind fun aa=> (Dl aa ([Z]:List Int)).bind fun ab=> (Dl K.1 ([ab]:List (List Int))).bind fun ae=> (Au (K.2+1)).bind fun ag=> some (.more (ae,ag))) else(some (.done K.1))
def ML(fuel:Nat)(p0:Bt)(O:(List (List Int))×Int)(K:(List (List Int))×Int):Option (Bl ((List (List Int))×Int) ((List (List Int)))):= if K.2<(O.1.length:Int) then((ix O.1 K.2).bind fun U=> (Au (O.2 - 1)).bind fun V=> (ix U V).bind fun W=> (ix p0.1 W).bind fun Z=> Option.bind (iter (MJ fuel O K Z) fuel (K.1,0)) fun aa=> (Au (K.2+1)).bind fun ab=> some (.more (aa,ab))) else(some (.done K.1))
def ME(fuel:Nat)(p0:Bt)(p1:Int)(K:(List (List Int))×Int):Option (Bl ((List (List Int))×Int) ((List (List Int)))):= if K.2<p1 then(Option.bind (iter (ML fuel p0 K) fuel ([],0)) fun O=> (Au (K.2+1)).bind fun U=> some (.more (O,U))) else(some (.done K.1))
def Mw(fuel:Nat)(U:(List (Int×(List Int)))×Int)(O:(List (List Int)))(K:(List (Int×(List Int)))×Int):Option (Bl ((List (Int×(List Int)))×Int) ((List (Int×(List Int))))):= if K.2<(O.length:Int) then((ix O K.2).bind fun V=> (room K.1 (U.2,V)).bind fun W=> (Au (K.2+1)).bind fun Z=> some (.more (W,Z))) else(some (.done K.1))
def Mv(fuel:Nat)(p0:Bt)(p1:Int)(K:(List (Int×(List Int)))×Int):Option (Bl ((List (Int×(List Int)))×Int) (((List (Int×(List Int))))⊕((List (Int×(List Int)))))):= if K.2≤12 then((f64 fuel p0 K.2).bind fun O=> if O.2≠0 then(some (.done (Sum.inl ([])))) else(Option.bind (iter (MU fuel O) fuel ([],0)) fun U=> Option.bind (iter (ME fuel p0 p1) fuel (U,1)) fun V=> Option.bind (iter (Mw fuel K V) fuel (K.1,0)) fun W=> (Au (K.2+1)).bind fun Z=> some (.more (W,Z)))) else(some (.done (Sum.inr K.1)))
def f55(fuel:Nat)(p0:Bt)(p1:Int):Option ((List (Int×(List Int)))):= Option.bind (iter (Mv fuel p0 p1) fuel ([],0)) fun K=> Sum.elim (fun r=>some r) (fun O=> some O) K
theorem Ym{bA:Ap}{c2:Nat}{bB:Ap}{bC:Nat}{p0:Bt}{p1:Int}(bD:Ao (rL rI) E bA c2 p0.1)(cp:Ao (rL rI) E bB bC p0.2){fuel:Nat}{r:(List (Int×(List Int)))}(bE:f55 fuel p0 p1=some r):AQ J 55 [.agg #[sV bA p0.1 c2,sV bB p0.2 bC],iV p1] E [] (fun w E' B'=>∃(bF:Ap) (bG:Nat),w= sV bF r bG∧B'= []∧Ao (rP rI (rL rI)) E' bF bG r):=by
 refine Bc func55 fun Q gq cs H cq bH=>?_;unfold f55 at bE;refine zg 2 rfl (Cs cq fun W a8 al bI cr=>?_);obtain⟨bJ,ct,bK⟩:=bs bE;refine zg 11 rfl (Bs (fun L s=>∃(az:(List (Int×(List Int)))) (a9:LH) (aA:Ap) (aB:Nat) (ba:Seg),bJ=Sum.inr az∧Jn a8 H a9 [ba] [(5,sV aA az aB)] L s (OL 75 (rP rI (rL rI)) a9 aA aB ba az)) ?_ ?_)
 ·rintro _ _ ⟨az,a9,aA,aB,ba,rfl,rfl,rfl,cu,cv,cw⟩;have cy:=elim_inr bK;refine zg 5 rfl (Ca 0 cw cv rfl fun gr cz cA cB=>?_);obtain rfl:=oi cy;exact AF func55 rfl rfl (bH ((al.Ac cu).Ac cz) rfl ⟨aA,aB,rfl,rfl,cA⟩ cB)
 ·intro cC;refine JL.block (CG ct (fun L s K=>∃(aC:LH) (O:Ap) (U:Nat) (V:Seg),Jn a8 H aC [V] [(1,iV p1),(2,pV W 0),(5,sV O K.1 U),(6,iV K.2)] L s (OL 75 (rP rI (rL rI)) aC O U V K.1)) ⟨a8,none,0,[],rfl,rfl,Aq,cr,OL.nil⟩ ?_);rintro _ _ K ⟨aC,O,U,V,rfl,rfl,aa,bL,bM⟩ bN ⟨gt,aD⟩ cD;have bO:=aD;unfold Mv at bO;refine zg 6 rfl (AK bO (fun cE cF=>?_) (fun cE cG=>?_))
  ·refine zg 5 rfl (Cm (bI.Ai aa) Cy Cc rfl rfl ?_);obtain⟨cH,cI,cJ⟩:=bs cF;refine zg 1 rfl (BO (YK (bD.Ai (al.Ac aa)) (cp.Ai (al.Ac aa)) cI) rfl rfl (A2 func64 rfl) bL ?_);rintro _ bb _ am ⟨cK,cM,rfl,rfl,cN⟩ bP;refine zg 12 rfl (AK cJ (fun cO cP=>?_) (fun cO cQ=>?_))
   ·refine zg 4 rfl (JS.drop 0 bP rfl fun cR=>?_);obtain rfl:=oi cP;obtain rfl:=bN _ aD;have cT:=elim_inl bK;obtain rfl:=oi cT;exact AF func55 rfl rfl (bH ((al.Ac aa).Ac am) rfl ⟨none,0,rfl,rfl,Ao.nil⟩ cR)
   ·obtain⟨bQ,cV,cW⟩:=bs cQ;refine zg 10 rfl (Bs (fun L s=>∃(bc:LH) (aE:Ap) (aF:Nat) (bd:Seg),Jn bb H bc [V,bd] [(1,iV p1),(2,pV W 0),(5,sV O K.1 U),(6,iV K.2),(9,sV aE bQ aF)] L s (OL 28 (rL rI) bc aE aF bd bQ)) ?_ ?_)
    ·rintro _ _ ⟨bc,aE,aF,bd,rfl,rfl,aG,cX,cY⟩;refine zg 5 rfl (Ca 1 cY cX rfl fun be aH cZ c0=>?_);obtain⟨bf,c1,c3⟩:=bs cW;refine Bs (fun L s=>∃(ai:LH) (aI:Ap) (aJ:Nat),Jn be H ai [V] [(1,iV p1),(2,pV W 0),(5,sV O K.1 U),(6,iV K.2),(9,sV aI bf aJ)] L s (Ao (rL rI) ai aI aJ bf)) ?_ ?_
     ·rintro _ _ ⟨ai,aI,aJ,rfl,rfl,bR,c4,c5⟩;obtain⟨bg,c6,c7⟩:=bs c3;refine zg 4 rfl (Bs (fun L s=>∃(aK:LH) (aL:Ap) (aM:Nat) (aN:Seg),Jn ai H aK [aN] [(1,iV p1),(2,pV W 0),(5,sV aL bg aM),(6,iV K.2)] L s (OL 75 (rP rI (rL rI)) aK aL aM aN bg)) ?_ ?_)
      ·rintro _ _ ⟨aK,aL,aM,aN,rfl,rfl,c8,c9,da⟩;obtain⟨db,dc,dd⟩:=bs c7;refine zg 3 rfl (Ba dc rfl rfl rfl ?_);refine zg 2 rfl ?_;obtain rfl:=oi dd;exact Ay (cD _ _ (bg,db) ⟨aK,aL,aM,aN,rfl,rfl,(((((aa.Ac am).Ac aG).Ac aH).Ac bR).Ac c8),c9,da⟩ aD) rfl
      ·intro de;refine JL.block (CG c6 (fun L s aO=>∃(an:LH) (ao:Ap) (ap:Nat) (aP:Seg),Jn ai H an [aP] [(1,iV p1),(2,pV W 0),(5,sV ao aO.1 ap),(6,iV K.2),(9,sV aI bf aJ),(16,iV aO.2)] L s (OL 75 (rP rI (rL rI)) an ao ap aP aO.1)) ⟨ai,O,U,V,rfl,rfl,Aq,c4,(bM.Ai (((am.Ac aG).Ac aH).Ac bR))⟩ ?_);rintro _ _ aO ⟨an,ao,ap,aP,rfl,rfl,bh,bS,bT⟩ df ⟨gu,bi⟩ dg;have bU:=bi;unfold Mw at bU;refine zg 5 rfl (Bp underlying22 rfl rfl rfl ?_);refine zg 2 rfl (AK bU (fun dh di=>?_) (fun dh dj=>?_))
       ·obtain⟨bV,dk,dl⟩:=bs di;refine zg 8 rfl (Cb (c5.Ai bh) dk underlying22 BV ?_);rintro gv gw _ ⟨bW,bY,rfl,dm⟩ dn;refine BW 0 dn C4 rfl rfl rfl (AA (v:= .agg #[iV K.2,sV bW bV bY]) rfl (fun ρ h=>Dc [(0,1),(1,1)] h (DY type75) underlying75 ⟨rfl,Bq type3,rfl,Bq type28,trivial⟩ rfl rfl) ?_);obtain⟨dp,dq,dr⟩:=bs dl;refine JS.app (pp:=(rP rI (rL rI))) (v:= .agg #[iV K.2,sV bW bV bY]) (a:=ao) (c:=ap) 0 dq rfl rfl rfl rfl (fun _=>rfl) rfl (fun _=>rfl) rfl rfl rfl underlying71 underlying71 underlying71 LF (CP type75) (DY type75) rfl (by decide) (by decide) (by decide) (by decide) bT ⟨_,_,rfl,rfl,⟨_,_,rfl,dm⟩⟩ bS rfl fun gx dt du dv dw dx=>?_;obtain⟨dy,dz,dA⟩:=bs dr;refine zg 5 rfl (Ba dz rfl rfl rfl ?_);refine zg 2 rfl ?_;obtain rfl:=oi dA;exact Ay (dg _ _ (dp,dy) ⟨an,dt,du,dv,rfl,rfl,bh,dx,dw⟩ bi) rfl
       ·refine JL.exit rfl ?_;obtain rfl:=oi dj;obtain rfl:=df _ bi;exact Ay (de _ _ ⟨an,ao,ap,aP,rfl,rfl,bh,bS,bT⟩) rfl
     ·intro dB;refine JL.block (CG c1 (fun L s Z=>∃(ab:LH) (ae:Ap) (ag:Nat),Jn be H ab [V] [(1,iV p1),(2,pV W 0),(5,sV O K.1 U),(6,iV K.2),(9,sV ae Z.1 ag),(11,iV Z.2)] L s (Ao (rL rI) ab ae ag Z.1)) ⟨be,aE,aF,rfl,rfl,Aq,c0,cZ⟩ ?_);rintro _ _ Z ⟨ab,ae,ag,rfl,rfl,aQ,bZ,bj⟩ dC ⟨gy,bl⟩ dD;have b0:=bl;unfold ME at b0;refine zg 7 rfl (AK b0 (fun dE dF=>?_) (fun dE dG=>?_))
      ·obtain⟨bm,dH,dI⟩:=bs dF;refine zg 12 rfl (Bs (fun L s=>∃(bn:LH) (aR:Ap) (aS:Nat) (bo:Seg),Jn ab H bn [V,bo] [(1,iV p1),(2,pV W 0),(5,sV O K.1 U),(6,iV K.2),(11,iV Z.2),(12,sV aR bm aS)] L s (OL 28 (rL rI) bn aR aS bo bm)) ?_ ?_)
       ·rintro _ _ ⟨bn,aR,aS,bo,rfl,rfl,dJ,dK,dL⟩;obtain⟨dM,dN,dO⟩:=bs dI;refine zg 7 rfl (Ba dN rfl rfl rfl ?_);refine zg 2 rfl (Ca 1 dL dK rfl fun dP dQ dR dS=>?_);obtain rfl:=oi dO;exact Ay (dD _ _ (bm,dM) ⟨dP,aR,aS,rfl,rfl,((aQ.Ac dJ).Ac dQ),dS,dR⟩ bl) rfl
       ·intro dT;refine JL.block (CG dH (fun L s aj=>∃(ah:LH) (aq:Ap) (ar:Nat) (au:Seg),Jn ab H ah [V,au] [(1,iV p1),(2,pV W 0),(5,sV O K.1 U),(6,iV K.2),(9,sV ae Z.1 ag),(11,iV Z.2),(12,sV aq aj.1 ar),(13,iV aj.2)] L s (OL 28 (rL rI) ah aq ar au aj.1)) ⟨ab,none,0,[],rfl,rfl,Aq,bZ,OL.nil⟩ ?_);rintro _ _ aj ⟨ah,aq,ar,au,rfl,rfl,ak,b1,b2⟩ dU ⟨gz,bp⟩ dV;have b3:=bp;unfold ML at b3;refine zg 5 rfl (Bp underlying22 rfl rfl rfl ?_);refine zg 2 rfl (AK b3 (fun dW dX=>?_) (fun dW dY=>?_))
        ·refine zg 4 rfl (DG 10 fun ht=>?_);refine B6 0 ht underlying24 Cl rfl rfl rfl rfl (CI 1 ht 0 (bI.Ai (((((aa.Ac am).Ac aG).Ac aH).Ac aQ).Ac ak)) CW rfl rfl rfl rfl ?_);refine Bi ht rfl [2,3] rfl ?_;obtain⟨gA,dZ,ea⟩:=bs dX;refine Du 4 (bj.Ai ak) dZ ht underlying22 BV ?_;rintro gB gC _ ⟨gD,gE,rfl,eb⟩ ec;refine CI 5 ht 0 ec C4 rfl rfl rfl rfl (Cv 6 ht rfl rfl ?_);obtain⟨gF,ed,ee⟩:=bs ea;refine BC 7 ht rfl rfl (fun ρ h s' hs=>C8 (h _ _ rfl) (h _ _ rfl) ed) ?_;obtain⟨gG,ef,eg⟩:=bs ee;refine Du 8 eb ef ht underlying28 AW ?_;rintro gH gI _ rfl eh;refine CI 9 ht 0 eh Bx rfl rfl rfl rfl (Co [10,11,12] ?_);obtain⟨ei,ej,ek⟩:=bs eg;refine Cb (bD.Ai ((((((al.Ac aa).Ac am).Ac aG).Ac aH).Ac aQ).Ac ak)) ej underlying22 BV ?_;rintro gJ gK _ ⟨el,em,rfl,en⟩ eo;refine BW 0 eo C4 rfl rfl rfl ?_;obtain⟨bq,ep,eq⟩:=bs ek;refine zg 6 rfl (Bs (fun L s=>∃(aT:LH) (aU:Ap) (aV:Nat) (aW:Seg),Jn ah H aT [V,aW] [(1,iV p1),(2,pV W 0),(5,sV O K.1 U),(6,iV K.2),(9,sV ae Z.1 ag),(11,iV Z.2),(12,sV aU bq aV),(13,iV aj.2)] L s (OL 28 (rL rI) aT aU aV aW bq)) ?_ ?_)
         ·rintro _ _ ⟨aT,aU,aV,aW,rfl,rfl,er,et,eu⟩;obtain⟨ew,ex,ey⟩:=bs eq;refine zg 3 rfl (Ba ex rfl rfl rfl ?_);refine zg 2 rfl ?_;obtain rfl:=oi ey;exact Ay (dV _ _ (bq,ew) ⟨aT,aU,aV,aW,rfl,rfl,(ak.Ac er),et,eu⟩ bp) rfl
         ·intro ez;refine JL.block (CG ep (fun L s aX=>∃(aY:LH) (aZ:Ap) (a0:Nat) (a1:Seg),Jn ah H aY [V,a1] [(1,iV p1),(2,pV W 0),(5,sV O K.1 U),(6,iV K.2),(9,sV ae Z.1 ag),(11,iV Z.2),(12,sV aZ aX.1 a0),(13,iV aj.2),(14,sV el ei em),(15,iV aX.2)] L s (OL 28 (rL rI) aY aZ a0 a1 aX.1)) ⟨ah,aq,ar,au,rfl,rfl,Aq,b1,b2⟩ ?_);rintro _ _ aX ⟨aY,aZ,a0,a1,rfl,rfl,av,br,bu⟩ eA ⟨gL,a2⟩ b4;have b5:=a2;unfold MJ at b5;refine zg 5 rfl (Bp underlying28 rfl rfl rfl ?_);refine zg 2 rfl (AK b5 (fun eB eC=>?_) (fun eB eD=>?_))
          ·refine zg 3 rfl (DG 13 fun ht=>?_);refine Bi ht rfl [0,1,2] rfl ?_;obtain⟨b6,eE,eF⟩:=bs eC;refine Du 3 (bj.Ai (ak.Ac av)) eE ht underlying22 BV ?_;rintro gM gN _ ⟨b7,b8,rfl,b9⟩ eG;refine CI 4 ht 0 eG C4 rfl rfl rfl rfl (Bi ht rfl [6,7] rfl ?_);obtain⟨a3,eH,eI⟩:=bs eF;refine Du 8 (en.Ai av) eH ht underlying28 AW ?_;rintro gO gP _ rfl eJ;refine CI 9 ht 0 eJ Bx rfl rfl rfl rfl ?_;obtain⟨gQ,ca,eK⟩:=bs eI;obtain⟨a4,cb,cc⟩:=bs eK;refine Kx (i:=5) (j:=10) rfl (by decide+kernel) ?_ ?_
           ·refine Take.Nk (vs:= [sV b7 b6 b8]) br (RM b9 ca) rfl rfl rfl (A2 func108 rfl) rfl ?_;rintro _ gR _ cd ⟨gS,gT,gU,rfl,rfl,eL⟩ eM;refine JG.one (i:=10) rfl (by decide+kernel) (Take.JF (pp:=rI) [iV a3] ([a3]:List Int) eM rfl rfl rfl underlying28 AW Cz (by decide) rfl rfl rfl ⟨rfl,trivial⟩ fun gV gW eN eO=>?_);refine JG.one (i:=11) rfl (by decide+kernel) (Take.app0 (pp:=rI) 2 3 eO cb rfl rfl rfl rfl rfl rfl rfl underlying28 underlying28 AW (CP type3) Cz rfl (by decide) (by decide) eL eN rfl rfl fun eP eQ gX gY eR eS=>?_);refine QH 2 rfl eS fun eT=>PE 4 eR eT rfl fun gZ ce eU eV=>JG.one (i:=12) rfl (by decide+kernel) (Take.JF (pp:=(rL rI)) [sV eP a4 eQ] ([a4]:List (List Int)) eV rfl rfl rfl underlying22 BV EF (by decide) rfl rfl rfl ⟨⟨_,_,rfl,eU⟩,trivial⟩ fun g0 g1 eW eX=>?_);refine Co [13,14] (Ca 5 eW eX rfl fun eY cf eZ e0=>?_);obtain⟨e1,e3,e4⟩:=bs cc;refine Kt (pp:=(rL rI)) 1 e3 rfl rfl rfl rfl rfl rfl rfl underlying22 underlying22 BV (CP type28) EF rfl (by decide) (by decide) (bu.Ai ((cd.Ac ce).Ac cf)) eZ e0 rfl fun e5 e6 e7 e8 e9=>?_;obtain⟨fa,fb,fc⟩:=bs e4;refine zg 5 rfl (Ba fb rfl rfl rfl ?_);refine zg 2 rfl (JS.drop 2 e9 rfl fun fd=>?_);refine JS.drop 3 fd rfl fun fe=>?_;obtain rfl:=oi fc;exact Ay (b4 _ _ (e1,fa) ⟨eY,e5,e6,e7,rfl,rfl,(((av.Ac cd).Ac ce).Ac cf),fe,e8⟩ a2) rfl
           ·refine Take.JF (pp:=rI) [iV a3] ([a3]:List Int) br rfl rfl rfl underlying28 AW Cz (by decide) rfl rfl rfl ⟨rfl,trivial⟩ fun g3 g4 ff fg=>JG.one (i:=5) rfl (by decide+kernel) (Take.Nk (vs:= [sV b7 b6 b8]) fg (RM b9 ca) rfl rfl rfl (A2 func108 rfl) rfl ?_);rintro _ g5 _ bv ⟨g6,g7,g8,rfl,rfl,fh⟩ fj;refine JG.one (i:=11) rfl (by decide+kernel) (Take.app0 (pp:=rI) 3 2 fj cb rfl rfl rfl rfl rfl rfl rfl underlying28 underlying28 AW (CP type3) Cz rfl (by decide) (by decide) fh (ff.Ai bv) rfl rfl fun fk fm g9 ha fo fp=>?_);refine QH 3 rfl fp fun fq=>PE 4 fo fq rfl fun hb cg fs fu=>JG.one (i:=12) rfl (by decide+kernel) (Take.JF (pp:=(rL rI)) [sV fk a4 fm] ([a4]:List (List Int)) fu rfl rfl rfl underlying22 BV EF (by decide) rfl rfl rfl ⟨⟨_,_,rfl,fs⟩,trivial⟩ fun hc he fv fw=>?_);refine Co [13,14] (Ca 5 fv fw rfl fun fx ci fy fz=>?_);obtain⟨fA,fB,fC⟩:=bs cc;refine Kt (pp:=(rL rI)) 1 fB rfl rfl rfl rfl rfl rfl rfl underlying22 underlying22 BV (CP type28) EF rfl (by decide) (by decide) (bu.Ai ((bv.Ac cg).Ac ci)) fy fz rfl fun fD fE fF fG fH=>?_;obtain⟨fI,fJ,fK⟩:=bs fC;refine zg 5 rfl (Ba fJ rfl rfl rfl ?_);refine zg 2 rfl (JS.drop 2 fH rfl fun fL=>?_);refine JS.drop 3 fL rfl fun fM=>?_;obtain rfl:=oi fK;exact Ay (b4 _ _ (fA,fI) ⟨fx,fD,fE,fF,rfl,rfl,(((av.Ac bv).Ac cg).Ac ci),fM,fG⟩ a2) rfl
          ·refine JL.exit rfl ?_;obtain rfl:=oi eD;obtain rfl:=eA _ a2;exact Ay (ez _ _ ⟨aY,aZ,a0,a1,rfl,rfl,av,br,bu⟩) rfl
        ·refine JL.exit rfl ?_;obtain rfl:=oi dY;obtain rfl:=dU _ bp;exact Ay (dT _ _ ⟨ah,aq,ar,au,rfl,rfl,ak,b1,b2⟩) rfl
      ·refine JL.exit rfl ?_;obtain rfl:=oi dG;obtain rfl:=dC _ bl;exact Ay (dB _ _ ⟨ab,ae,ag,rfl,rfl,aQ,bZ,bj⟩) rfl
    ·intro fN;refine JL.block (CG cV (fun L s a5=>∃(a6:LH) (aw:Ap) (ay:Nat) (a7:Seg),Jn bb H a6 [V,a7] [(1,iV p1),(2,pV W 0),(5,sV O K.1 U),(6,iV K.2),(7,sV cK cH.1 cM),(9,sV aw a5.1 ay),(10,iV a5.2)] L s (OL 28 (rL rI) a6 aw ay a7 a5.1)) ⟨bb,none,0,[],rfl,rfl,Aq,bP,OL.nil⟩ ?_);rintro _ _ a5 ⟨a6,aw,ay,a7,rfl,rfl,bw,ck,cm⟩ fO ⟨hf,bx⟩ fP;have cn:=bx;unfold MU at cn;refine zg 5 rfl (Bp underlying28 rfl rfl rfl ?_);refine zg 2 rfl (AK cn (fun fQ fR=>?_) (fun fQ fS=>?_))
     ·obtain⟨bz,fT,fU⟩:=bs fR;refine zg 7 rfl (Cb (cN.Ai bw) fT underlying28 AW ?_);rintro hg hj _ rfl fW;refine BW 0 fW Bx rfl rfl rfl (JS.lit (pp:=rI) [iV bz] [bz] rfl rfl rfl underlying28 AW Cz (by decide) rfl rfl rfl ⟨rfl,trivial⟩ ck fun fX hk fY fZ=>?_);refine Ca 2 fY fZ rfl fun ga co gb gc=>?_;obtain⟨gd,ge,gf⟩:=bs fU;refine JS.app (pp:=(rL rI)) (v:= .slice (Bh fX) (([bz]:List Int)).length 1) (a:=aw) (c:=ay) 1 ge rfl rfl rfl rfl (fun _=>rfl) rfl (fun _=>rfl) rfl rfl rfl underlying22 underlying22 underlying22 BV (CP type28) EF rfl (by decide) (by decide) (by decide) (by decide) (cm.Ai co) ⟨_,_,rfl,gb⟩ gc rfl fun hl gg gh gi gj gk=>?_;obtain⟨gl,gm,gn⟩:=bs gf;refine zg 5 rfl (Ba gm rfl rfl rfl ?_);refine zg 2 rfl ?_;obtain rfl:=oi gn;exact Ay (fP _ _ (gd,gl) ⟨ga,gg,gh,gi,rfl,rfl,(bw.Ac co),gk,gj⟩ bx) rfl
     ·refine JL.exit rfl ?_;obtain rfl:=oi fS;obtain rfl:=fO _ bx;exact Ay (fN _ _ ⟨a6,aw,ay,a7,rfl,rfl,bw,ck,cm⟩) rfl
  ·refine JL.exit rfl ?_;obtain rfl:=oi cG;have gp:bJ=(Sum.inr K.1):=(bN _ aD).symm;exact Ay (cC _ _ ⟨K.1,aC,O,U,V,gp,rfl,rfl,aa,bL,bM⟩) rfl
end Pal
namespace Pal
open Go Go.Conc Go.Proofs
open Go.Proofs.Tryz
end Pal
namespace Pal
open Go Go.Conc
def SP{α:Type}(p:Rp α):Rp (List α):=⟨1,fun E ws xs=>(xs= []∧ws= [.slice none 0 0])∨(xs≠ []∧(rL p).r E ws xs),
 fun hle h=>h.imp id fun h=>⟨h.1,(rL p).Ai hle h.2⟩,fun h=>by
  rcases h with⟨_,rfl⟩ | ⟨_,h⟩
  ·rfl
  ·exact(rL p).len h,fun h w hw=>by
  rcases h with⟨_,rfl⟩ | ⟨_,h⟩
  ·simp at hw;subst hw;rfl
  ·exact(rL p).one h w hw⟩
instance {α:Type} [DecidableEq α] (xs:List α):Decidable (xs= []):=inferInstance
section
variable {P:Program}{J:Judge P}{Q:Gs_}{b:Frame}{n:Nat}{L L':Env}{ds:Ld_}{k:Li_}{cs:Lf_}{s:St}{ops:Ao_}{E H:LH}{S:List Seg}{i:Nat}{rest:List Nat}
variable {d:Option Tmp}{x y:Operand}{t u ty e:TypeId}{p:String}{af:Ae_}{g:On_}{v w:Value}
end
section
variable {P:Program}{J:Judge P}{Q:Gs_}{b:Frame}{n:Nat}{ds:Ld_}{ops:Ao_}{k:Li_}{cs:Lf_}{m fuel:Nat}{listed:Array Bool}{L:Env}{E H:LH}{S:List Seg}
variable {d:Option Tmp}{x y:Operand}{t ty e:TypeId}{p:String}{af:Ae_}{g:On_}{v:Value}{i:Nat}
end
end Pal
namespace Pal
open Go Go.Conc
section
variable {P:Program}{J:Judge P}{Q:Gs_}{b:Frame}{n:Nat}{ds:Ld_}{ops:Ao_}{k:Li_}{cs:Lf_}{m fuel:Nat}{D:Nat→Bool}{listed:Array Bool}{L:Env}{E H:LH}{S:List Seg}
end
end Pal
namespace Pal
open Go Go.Conc
def D4{α:Type}(e e2:TypeId)(p:Rp α)(E:LH)(a:Option Addr)(c:Nat)(seg:Seg)(K:List (List α)):Prop:=
 ∃(g0:Seg) (hs:Lv_) (rows:List Seg),seg=g0++rows.flatten∧OL e rV E a c g0 hs∧hs.length=K.length∧rows.length=K.length∧
  ∀(i:Nat) xs r h,K[i]? =some xs→rows[i]? =some r→hs[i]? =some h→∃O ci,h= .slice O xs.length ci∧OL e2 p E O ci r xs
theorem D4.Ai{α:Type}{e e2:TypeId}{p:Rp α}{E E':LH}{a:Option Addr}{c:Nat}{seg:Seg}{K:List (List α)}(h:D4 e e2 p E a c seg K)(hle:Le E E'):D4 e e2 p E' a c seg K:=
 let ⟨g0,hs,rows,O,U,V,W,Z⟩:=h
 ⟨g0,hs,rows,O,U.Ai hle,V,W,fun i xs r q a b c=>let ⟨aa,ci,k1,ab⟩:=Z i xs r q a b c;⟨aa,ci,k1,ab.Ai hle⟩⟩
theorem D4.make{α:Type}{e e2:TypeId}{p:Rp α}{E:LH}{a:Option Addr}{c:Nat}{seg:Seg}{m:Int}{K:List (List α)}(O:Gh m ([]:List α)=some K)(h:OL e (SP p) E a c seg K):D4 e e2 p E a c seg K:=by
 have U:∀xs∈K,xs= []:=by
  unfold Gh at O;split at O
  ·cases O;intro xs Z;exact(List.mem_replicate.1 Z).2
  ·cases O
 obtain⟨wss,aa,V,ab⟩:=h;have key:∀(i:Nat) ws,wss[i]? =some ws→ws= [.slice none 0 0]:=fun i ws hw=>by
  have W:i<K.length:=by rw [← V];exact(List.getElem?_eq_some_iff.1 hw).1
  have ae:=List.getElem?_eq_getElem W;rcases ab i _ ws ae hw with⟨_,h⟩ | ⟨h,_⟩
  ·exact h
  ·exact absurd (U _ (List.getElem_mem W)) h
 refine⟨seg,List.replicate K.length (.slice none 0 0),List.replicate K.length [],by simp,⟨wss,?_,by simpa using V,fun i x ws ag hw=>?_⟩,by simp,by simp,fun i xs r q a b c=>?_⟩
 ·rw [List.length_replicate];exact aa
 ·rw [key i ws hw];obtain rfl:=(List.mem_replicate.1 (List.mem_of_getElem? ag)).2;exact⟨rfl,rfl⟩
 ·obtain rfl:=(List.mem_replicate.1 (List.mem_of_getElem? b)).2;obtain rfl:=(List.mem_replicate.1 (List.mem_of_getElem? c)).2;obtain rfl:=U xs (List.mem_of_getElem? a);exact⟨none,0,rfl,OL.nil⟩
theorem RL{rows:List Seg}{m:Nat}{r:Seg}(h:rows[m]? =some r):rows.flatten=(rows.take m).flatten++r++(rows.drop (m+1)).flatten:=by
 have K:=(List.getElem?_eq_some_iff.1 h).1;have e:rows=rows.take m++r::rows.drop (m+1):=by
  rw [(List.getElem?_eq_some_iff.1 h).2.symm];rw [← List.drop_eq_getElem_cons K,List.take_append_drop]
 conv=>lhs;rw [e]
 simp
theorem P0{rows:List Seg}{m:Nat}{r:Seg}(h:m<rows.length):(rows.set m r).flatten=(rows.take m).flatten++r++(rows.drop (m+1)).flatten:=by
 rw [RL (rows:=rows.set m r) (m:=m) (r:=r) (by rw [List.getElem?_set_self h]),List.take_set_of_le (Nat.le_refl _),List.drop_set_of_lt (by omega)]
theorem D4.row{α:Type}{e e2:TypeId}{p:Rp α}{E:LH}{a:Option Addr}{c:Nat}{seg:Seg}{aa:List (List α)}{m:Int}{xs:List α}(h:D4 e e2 p E a c seg aa)(hm:ix aa m=some xs):
  ∃(bk:Nat) (f:Ax) (V:Option Addr) (ci:Nat) (ab r g2:Seg),a=some ⟨bk,0,none⟩∧seg=(bk,.cells f e (0,0))::(ab++r++g2)∧f[m.toNat*1]? =some (.slice V xs.length ci)∧m.toNat*1+1≤f.size∧OL e2 p E V ci r xs∧
   (∀E' U O,Le E E'→O.length=xs.length→OL e2 p E' V ci U O→D4 e e2 p E' a c ((bk,.cells f e (0,0))::(ab++U++g2)) (aa.set m.toNat O))∧
   (∀E' W Z U O,Le E E'→OL e2 p E' W Z U O→D4 e e2 p E' a c ((bk,.cells (Be f (m.toNat*1) [.slice W O.length Z]) e (0,0))::(ab++U++g2)) (aa.set m.toNat O)):=by
 obtain⟨g0,hs,rows,rfl,aj,ak,al,ae⟩:=h;obtain⟨K,rfl,am⟩:=GY hm;have az:=(List.getElem?_eq_some_iff.1 am).1;have an:rows[K]? =some rows[K]:=List.getElem?_eq_getElem (by omega);have hh:hs[K]? =some hs[K]:=List.getElem?_eq_getElem (by omega);obtain⟨V,ci,aq,ar⟩:=ae K xs _ _ am an hh;rw [aq] at hh;obtain⟨bk,f,ws,rfl,rfl,au,ao,av,ap⟩:=OL.get aj hh;obtain⟨rfl,-⟩:=au;have aw:(rV).n=1:=rfl;rw [aw] at ao av ap;simp only [Int.toNat_natCast];refine⟨bk,f,V,ci,(rows.take K).flatten,rows[K],(rows.drop (K+1)).flatten,rfl,by rw [RL an];rfl,by have:=ao 0 _ rfl;simpa using this,by omega,ar,fun E' U O hle ay ag=>?_,fun E' W Z U O hle ag=>?_⟩
 ·refine⟨_,hs,rows.set K U,by rw [P0 (by omega)];rfl,aj.Ai hle,by simpa using ak,by simpa using al,fun i ys q v a b c=>?_⟩;rw [List.getElem?_set] at a b;by_cases e:K=i
  ·subst e;rw [if_pos rfl,if_pos (by omega)] at a b;cases a;cases b;rw [hh] at c;cases c;exact⟨V,ci,by rw [ay],ag⟩
  ·rw [if_neg e] at a b;obtain⟨ah,ai,l1,l2⟩:=ae i ys q v a b c;exact⟨ah,ai,l1,l2.Ai hle⟩
 ·refine⟨_,hs.set K (.slice W O.length Z),rows.set K U,by rw [P0 (by omega)];rfl,(ap _ _ ⟨rfl,rfl⟩).Ai hle,by simpa using ak,by simpa using al,fun i ys q v a b c=>?_⟩;rw [List.getElem?_set] at a b c;by_cases e:K=i
  ·subst e;rw [if_pos rfl,if_pos (by omega)] at a b c;cases a;cases b;cases c;exact⟨W,Z,rfl,ag⟩
  ·rw [if_neg e] at a b c;obtain⟨ah,ai,l1,l2⟩:=ae i ys q v a b c;exact⟨ah,ai,l1,l2.Ai hle⟩
theorem Vx{E H:LH}{S:List Seg}{j bk:Nat}{o:Obj}{seg:Seg}(K:Ar E H S)(O:S[j]? =some seg)(h:(bk,o)∈seg):(Ak E H S).get bk=some o:=by
 obtain⟨i,hi⟩:=List.mem_iff_getElem?.1 h;exact Ey K O hi
theorem NV{E H:LH}{S:List Seg}{j bk off:Nat}{c:Ax}{e:TypeId}{f:Nat×Nat}{v:Value}{seg:Seg}(K:Ar E H S)(O:S[j]? =some seg)(h:(bk,.cells c e f)∈seg)(U:c[off]? =some v):(Ak E H S).cell? ⟨bk,off,none⟩=some v:=by
 unfold St.cell?;rw [Vx K O h];exact U
section
variable {P:Program}{J:Judge P}{Q:Gs_}{b:Frame}{n:Nat}{L L':Env}{ds:Ld_}{k:Li_}{cs:Lf_}{s:St}{ops:Ao_}{E H:LH}{S:List Seg}{i:Nat}{rest:List Nat}
variable {d:Option Tmp}{x y:Operand}{t u ty e e2:TypeId}{p:String}{af:Ae_}{g:On_}{v w:Value}
theorem Pp{S:List Seg}{j:Nat}{A B:Seg}{seg seg':Seg}{q:Nat×Obj}(K:S[j]? =some seg)(h:seg.Perm (q::A)):S.flatten.Perm (S.set j A++ [[q]]).flatten:=by
 have O:=(Dr (seg':=A) K).1;have U:=(Dr (seg':=A) K).2;rw [FV];refine O.trans ?_;refine(h.append_left _).trans ?_;refine List.Perm.trans ?_ (U.symm.append_right [q]);rw [List.append_assoc];exact(List.perm_append_comm (l₁:= [q]) (l₂:=A)).append_left _
theorem R8{bk off:Nat}{c:Ax}{seg seg' A:Seg}(j:Nat)(U:Ar E H S)(K:S[j]? =some seg)(V:seg.Perm ((bk,.cells c e (0,0))::A))(W:seg'.Perm ((bk,.cells (Be c off v.cells.toList) e (0,0))::A))(Z:Bz P t=some v.cells.size)(aa:Ej b n L ops i=some ⟨d,.store t x y,ty,p,af,g⟩)
  (ab:ev L x=some (.pointer (some ⟨bk,off,none⟩))) (ae:ev L y=some v)
  (hle:off+v.cells.size≤c.size) (ag:∀u∈v.cells.toList,CM u=true)
  (h:Ar E H (S.set j seg')→JL J Q b n (AB L d undef) ds (.inRegion ops rest::k) cs (Ak E H (S.set j seg'))):
  JL J Q b n L ds (.inRegion ops (i::rest)::k) cs (Ak E H S):=by
 have ah:=(List.getElem?_eq_some_iff.1 K).1;have key:∀q:Nat×Obj,∀g',g'.Perm (q::A)→(S.set j A++ [[q]]).flatten.Perm (S.set j g').flatten:=fun q g' ai=>by
  have:=Pp (B:= []) (seg':= []) (S:=S.set j g') (j:=j) (seg:=g') (A:=A) (q:=q) (by rw [List.getElem?_set_self ah]) ai;rw [List.set_set] at this;exact this.symm
 refine JS.perm (S':=S.set j A++ [[(bk,.cells c e (0,0))]]) (Pp (B:= []) (seg':= []) K V) U fun aj=>?_;have hlen:(S.set j A++ [[(bk,Obj.cells c e (0,0))]])[(S.set j A).length]? =some [(bk,.cells c e (0,0))]:=by simp
 refine SD (S.set j A).length aj Z aa ab ae hlen (fun O=>?_) hle ag;rw [Hf] at O ⊢;exact JS.perm (key _ _ W) O h
theorem Vt{q:Nat×Obj}{K r r0 g2:Seg}:(q::(K++r0++g2)++r).Perm (q::(K++r++g2)++r0):=by
 simp only [List.cons_append,List.append_assoc];refine List.Perm.cons _ (List.Perm.append_left _ ?_);refine(List.perm_append_comm (l₁:=r0) (l₂:=g2++r)).trans ?_;rw [← List.append_assoc];exact(List.perm_append_comm (l₁:=g2) (l₂:=r)).append_right r0
theorem QV{p q:Nat×Obj}{K g2:Seg}:(q::(K++ [p]++g2)).Perm (p::q::(K++g2)):=by
 refine List.Perm.trans ?_ (List.Perm.swap p q _);rw [List.append_assoc];exact List.Perm.cons _ List.perm_middle
theorem WO{O g' r r0:Seg}{j K:Nat}{S:List Seg}(Z:j<S.length)(U:j≠K)(aa:S[K]? =some r)(ab:(O++r).Perm (g'++r0)):(S.set j O).flatten.Perm (((S.set j g').set K [])++ [r0]).flatten:=by
 have ae:(S.set j O)[K]? =some r:=by rw [List.getElem?_set_ne U];exact aa
 have ag:=(Dr (seg':=([]:Seg)) ae).1;have V:((S.set j O).set K [])[j]? =some O:=by rw [List.getElem?_set_ne (Ne.symm U),List.getElem?_set_self Z]
 have ah:=(Dr (seg':=g') V).1;have W:=(Dr (seg':=g') V).2;have e:((S.set j O).set K []).set j g'=(S.set j g').set K []:=by rw [List.set_comm _ _ (Ne.symm U),List.set_set]
 rw [e] at W;rw [FV];refine ag.trans ((ah.append_right r).trans ?_);refine List.Perm.trans ?_ (W.symm.append_right r0);rw [List.append_assoc,List.append_assoc];exact ab.append_left _
structure Jz {α:Type} (e e2:TypeId) (pp:Rp α) (E:LH) (a:Ap) (c bk:Nat) (f:Ax) (U:Ap) (ci:Nat) (V r g2:Seg) (W:List (List α)) (m:Int) (xs:List α):Prop where
 ad:a=some ⟨bk,0,none⟩
 hd:f[m.toNat*1]? =some (.slice U xs.length ci)
 sz:m.toNat*1+1≤f.size
 ol:OL e2 pp E U ci r xs
 set:∀E' O K,Le E E'→K.length=xs.length→OL e2 pp E' U ci O K→D4 e e2 pp E' a c ((bk,.cells f e (0,0))::(V++O++g2)) (W.set m.toNat K)
 put:∀E' Z aa O K,Le E E'→OL e2 pp E' Z aa O K→D4 e e2 pp E' a c ((bk,.cells (Be f (m.toNat*1) [.slice Z K.length aa]) e (0,0))::(V++O++g2)) (W.set m.toNat K)
theorem D4.rowOf{α:Type}{pp:Rp α}{a:Ap}{c:Nat}{seg:Seg}{O:List (List α)}{m:Int}{xs:List α}(h:D4 e e2 pp E a c seg O)(hm:ix O m=some xs):
  ∃(bk:Nat) (f:Ax) (U:Ap) (ci:Nat) (K r g2:Seg),seg=(bk,.cells f e (0,0))::(K++r++g2)∧Jz e e2 pp E a c bk f U ci K r g2 O m xs:=by
 obtain⟨bk,f,U,ci,K,r,g2,W,Z,aa,ab,ae,V⟩:=h.row hm;exact⟨bk,f,U,ci,K,r,g2,Z,W,aa,ab,ae,V.1,V.2⟩
theorem Va{α:Type}{pp:Rp α}{c bk K ci:Nat}{a O ae:Ap}{f:Ax}{U r0 g2 r:Seg}{W:List (List α)}{m:Int}{xs ys:List α}(j V:Nat)(Z:Jz e e2 pp E a c bk f ae ci U r0 g2 W m xs)(ag:OL e2 pp E O K r ys)(ah:Ar E H S)(aa:S[j]? =some ((bk,.cells f e (0,0))::(U++r0++g2)))(ai:j≠V)(aj:S[V]? =some r)
  (ak:Bz P t=some 1) (al:Ej b n L ops i=some ⟨d,.store t x y,ty,p,af,g⟩) (am:ev L x=some (.pointer (some ⟨bk,m.toNat*1,none⟩))) (an:ev L y=some (.slice O ys.length K))
  (h:∀g',D4 e e2 pp E a c g' (W.set m.toNat ys)→Ar E H ((S.set j g').set V [])→JL J Q b n (AB L d undef) ds (.inRegion ops rest::k) cs (Ak E H ((S.set j g').set V []))):
  JL J Q b n L ds (.inRegion ops (i::rest)::k) cs (Ak E H S):=by
 have ao:=(List.getElem?_eq_some_iff.1 aa).1;refine R8 (v:= .slice O ys.length K) (c:=f) (e:=e) (off:=m.toNat*1) (A:=U++r0++g2) (seg':=(bk,.cells (Be f (m.toNat*1) [.slice O ys.length K]) e (0,0))::(U++r0++g2)) j ah aa (List.Perm.refl _) (List.Perm.refl _) ak al am an Z.sz (by simp [Value.cells,CM]) fun ap=>?_;refine JS.perm (WO (g':=(bk,.cells (Be f (m.toNat*1) [.slice O ys.length K]) e (0,0))::(U++r++g2)) (r:=r) (r0:=r0) ao ai aj Vt) ap fun aq=>?_;refine JS.drop _ aq (List.getElem?_concat_length) fun ab=>?_;rw [show ∀(T:List Seg),(T++ [r0]).set T.length []=T++ [[]] from fun T=>Hf _ _ _ _] at ab ⊢;refine DC (S':=(S.set j ((bk,.cells (Be f (m.toNat*1) [.slice O ys.length K]) e (0,0))::(U++r++g2))).set V []) (by simp) ab fun ar=>?_;exact h _ (Z.put _ _ _ _ _ (Le.refl _) ag) ar
theorem Jz.elem{α:Type}{pp:Rp α}{a O:Ap}{c bk ci:Nat}{f:Ax}{U r g2:Seg}{V:List (List α)}{m q:Int}{xs:List α}{W:α}(h:Jz e e2 pp E a c bk f O ci U r g2 V m xs)(ab:ix xs q=some W):
  ∃(bk2:Nat) (f2:Ax) (ws:Lv_),O=some ⟨bk2,0,none⟩∧r= [(bk2,.cells f2 e2 (0,0))]∧pp.r E ws W∧(∀(j:Nat) w,ws[j]? =some w→f2[q.toNat*pp.n+j]? =some w)∧(q.toNat+1)*pp.n≤f2.size∧
   ∀E' x' ws',Le E E'→pp.r E' ws' x'→D4 e e2 pp E' a c ((bk,.cells f e (0,0))::(U++ [(bk2,.cells (Be f2 (q.toNat*pp.n) ws') e2 (0,0))]++g2)) (V.set m.toNat (xs.set q.toNat x')):=by
 obtain⟨al,rfl,Z⟩:=GY ab;obtain⟨bk2,f2,ws,ae,aa,ag,ah,ai,_⟩:=OL.get h.ol Z;refine⟨bk2,f2,ws,ae,aa,ag,ah,ai,fun E' x' ws' hle aj=>?_⟩;obtain⟨am,f3,_,_,K,_,_,_,ak⟩:=OL.get (h.ol.Ai hle) Z;rw [aa] at K;simp only [List.cons.injEq,Prod.mk.injEq,Obj.cells.injEq,and_true] at K;obtain⟨rfl,rfl⟩:=K;exact h.set E' _ _ hle (by simp) (ak x' ws' aj)
theorem Km{α:Type}{s:St}{ρ:Operand→Value}{x y:Operand}{d:Option Tmp}{t ty e:TypeId}{p:String}{af:Ae_}{g:On_}{kd:IntKind}{xs:List α}{xv:α}{m:Int}{a:Ap}{bk c sz:Nat}(K:a=some ⟨bk,0,none⟩)(hm:ix xs m=some xv)(ht:P.underlying t=some (.slice e))(O:Bz P e=some sz)(U:ρ x= .slice a xs.length c)(V:ρ y= .int kd m):
  Yl P ⟨d,.indexAddr t x y,ty,p,af,g⟩ ρ s (.pointer (some ⟨bk,m.toNat*sz,none⟩)):=by
 subst K;exact QK hm ht O U V
def IV(E:LH):Nat→Bool:=fun x=>(E x).isNone
theorem XR(x:Nat):(BB (IV E) (Ak E H S)).E x=(Ak E H S).get x:=by
 show(if IV E x then(Ak E H S).get x else E x)=_
 unfold IV;cases h:E x with
 | none=>simp
 | some o=>
  rw [if_neg (by simp)];unfold St.get;rw [show(Ak E H S).E x=some o from h]
theorem Y0{s':St}(hs:∀x o,(BB (IV E) (Ak E H S)).E x=some o→s'.E x=some o){x:Nat}{o:Obj}(h:(Ak E H S).get x=some o):s'.get x=some o:=by
 have:=hs x o (by rw [XR];exact h);unfold St.get;rw [this]
theorem Nf{s':St}(hs:∀x o,(BB (IV E) (Ak E H S)).E x=some o→s'.E x=some o){a:Addr}{v:Value}(h:(Ak E H S).cell? a=some v):s'.cell? a=some v:=by
 obtain⟨o,K,O⟩:=Option.bind_eq_some_iff.1 h;unfold St.cell?;rw [Y0 hs K];exact O
theorem Yy(m:Nat){id:Nat}(h:Dt ops m=true→AT J Q b n ds ops k cs m (IV E) ops.size (Array.replicate ops.size false) L (Ak E H S))(hm:P.follows .mixedOrders=true:=by exact rfl)(K:(b.kind != .early)=true:=by exact rfl)(ht:Dt ops m=true:=by decide+kernel):
  JL J Q b n L ds (.code (.region id ops true)::k) cs (Ak E H S):=Od m (IV E) rfl hm K (h ht)
abbrev rs(q:Nat×Obj)(K:Seg)(p:Nat×Obj)(g2:Seg):Seg:=q::(K++ [p]++g2)
theorem VX{p q:Nat×Obj}{K g2:Seg}:p∈q::(K++ [p]++g2):=by simp
theorem WX{bk bk2:Nat}{f f2:Ax}{K g2:Seg}{off:Nat}(j:Nat)(O:Ar E H S)(U:S[j]? =some ((bk,.cells f e (0,0))::(K++ [(bk2,.cells f2 e2 (0,0))]++g2)))
  (V:Bz P t=some v.cells.size) (W:Ej b n L ops i=some ⟨d,.store t x y,ty,p,af,g⟩) (Z:ev L x=some (.pointer (some ⟨bk2,off,none⟩))) (aa:ev L y=some v)
  (hle:off+v.cells.size≤f2.size) (ab:∀u∈v.cells.toList,CM u=true)
  (h:Ar E H (S.set j ((bk,.cells f e (0,0))::(K++ [(bk2,.cells (Be f2 off v.cells.toList) e2 (0,0))]++g2)))→JL J Q b n (AB L d undef) ds (.inRegion ops rest::k) cs (Ak E H (S.set j ((bk,.cells f e (0,0))::(K++ [(bk2,.cells (Be f2 off v.cells.toList) e2 (0,0))]++g2))))):
  JL J Q b n L ds (.inRegion ops (i::rest)::k) cs (Ak E H S):=
 R8 j O U QV QV V W Z aa hle ab h
end
end Pal
namespace Pal
open Go Go.Conc Go.Proofs
open Go.Proofs.Tryz
def KB(fuel:Nat)(K:(List (List Bool))×Int):Option (Bl ((List (List Bool))×Int) ((List (List Bool)))):= if K.2<(K.1.length:Int) then((Gh 13 (false:Bool)).bind fun O=> (ix K.1 K.2).bind fun V=> (Au (K.2+1)).bind fun U=> some (.more ((K.1.set (Int.toNat K.2) O),U))) else(some (.done K.1))
def Kz(fuel:Nat)(aa:(Bt)×(B8))(ab:(A4)×(B8))(ae:Int×Int)(ag:Int×Int×Int)(O:(List (Int×(List Int))))(K:(List (List Bool))×Int):Option (Bl ((List (List Bool))×Int) ((List (List Bool)))):= if K.2<(O.length:Int) then((ix O K.2).bind fun ah=> (f54 fuel aa.1 ab.1 ah.2).bind fun U=> Option.bind (if U.2.2=true then(some (decide (U.2.1=ae.1))) else(some false)) fun ai=> Option.bind (if ai=true then((ix O K.2).bind fun aj=> (ix aj.2 ag.2.2).bind fun V=> (ix K.1 V).bind fun W=> (ix O K.2).bind fun Z=> (ix W Z.1).bind fun am=> some (K.1.set (Int.toNat V) (W.set (Int.toNat Z.1) true))) else(some K.1)) fun ak=> (Au (K.2+1)).bind fun al=> some (.more (ak,al))) else(some (.done K.1))
def MC(fuel:Nat)(O:(List (List Bool)))(U:Int×Int)(K:Int×Int):Option (Bl (Int×Int) Int):= if K.2≤12 then((ix O U.2).bind fun V=> (ix V K.2).bind fun W=> Option.bind (if W=true then((Au (K.1+1)).bind fun Z=> some Z) else(some K.1)) fun aa=> (Au (K.2+1)).bind fun ab=> some (.more (aa,ab))) else(some (.done K.1))
def Ky(fuel:Nat)(O:(List (List Bool)))(K:Int×Int):Option (Bl (Int×Int) Int):= if K.2<(O.length:Int) then(Option.bind (iter (MC fuel O K) fuel (0,0)) fun U=> (Au (K.2+1)).bind fun V=> some (.more (max K.1 U,V))) else(some (.done K.1))
def MY(fuel:Nat)(O:(Bt)×(B8))(U:(A4)×(B8))(Z:Int×Int)(K:Int×Int×Int):Option (Bl (Int×Int×Int) (Int×Int)):= if K.2.2≤6 then((Au (K.2.2+1)).bind fun aa=> (f52 fuel U.1).bind fun ab=> (f55 fuel O.1 (max aa ab)).bind fun ae=> (Gh (O.1.1.length:Int) ([]:List Bool)).bind fun ag=> Option.bind (iter (KB fuel) fuel (ag,0)) fun ah=> Option.bind (iter (Kz fuel O U Z K ae) fuel (ah,0)) fun ai=> Option.bind (iter (Ky fuel ai) fuel (0,0)) fun V=> Option.bind (if V<K.2.1 then(some (K.2.2,V)) else(some (K.1,K.2.1))) fun W=> (Au (K.2.2+1)).bind fun aj=> some (.more (W.1,W.2,aj))) else(some (.done (K.1,K.2.1)))
def f11(fuel:Nat)(p0:List Int):Option Bool:= (f23 fuel p0).bind fun aa=> (f39 fuel aa 5).bind fun O=> (f40 fuel O.2 O.1 3).bind fun V=> (f35 fuel O.1 V.1).bind fun K=> (f47 fuel O.1 V.1).bind fun U=> if U.2=11 then(Option.bind (if K.2.2=U.2 then(some (decide (K.1=0))) else(some false)) fun ab=> Option.bind (if ab=true then(some (decide (K.2.1=0))) else(some false)) fun ae=> Option.bind (if ae=true then((f22 fuel).bind fun ag=> some ag) else(some false)) fun ah=> some ah) else((f43 fuel O.1 V.1 U.1).bind fun Z=> Option.bind (if U.2≠0 then(some true) else(some (decide (Z.2≠0)))) fun ai=> if ai=true then(some false) else(Option.bind (iter (MY fuel O V U) fuel ((-1),(Z.1.length:Int),0)) fun W=> if W.1<0 then(Option.bind (if K.2.2=11 then(some (decide (K.1=0))) else(some false)) fun aj=> Option.bind (if aj=true then(some (decide (K.2.1=0))) else(some false)) fun ak=> Option.bind (if ak=true then((f22 fuel).bind fun al=> some al) else(some false)) fun am=> some am) else(Option.bind (if K.2.2=0 then(some (decide (K.1=W.1))) else(some false)) fun an=> Option.bind (if an=true then(some (decide (K.2.1=W.2))) else(some false)) fun ao=> Option.bind (if ao=true then((f22 fuel).bind fun ap=> some ap) else(some false)) fun aq=> some aq)))
set_option maxHeartbeats 2000000 in
theorem WU{E H:LH}{bw:Ap}{c2:Nat}{p0:List Int}(cE:Ao rI E bw c2 p0){fuel:Nat}{r:Bool}(bx:f11 fuel p0=some r):(DN Tryz.prog).ok (Kq Tryz.prog (fun v _=>v= .bool r)) (G (Frame.enter Tryz.prog 11 ([sV bw p0 c2]:Lv_).toArray .normal) []) (mk E H []):=by
 refine Ut func11 rfl rfl (Nat.le_of_ble_eq_true rfl) ?_;have cF:Ar E H [[]]:=trivial;unfold f11 at bx;obtain⟨hN,cG,cH⟩:=bs bx;refine zg 7 rfl (BO (YG cE cG) rfl rfl (A2 func23 rfl) cF ?_);rintro _ hO _ hP ⟨hQ,hR,hS,rfl,rfl,cI⟩ cJ;obtain⟨bz,cK,cM⟩:=bs cH;refine zg 5 rfl (BY 1 (YF cI cK) rfl rfl (A2 func39 rfl) cJ rfl ?_);rintro _ hT _ hU ⟨cN,cO,cP,cQ,hV,hW,rfl,rfl,aG,aH,cR⟩ cT;refine CO cT J3 fun ab cV=>?_;refine BQ 2 cV Cc fun cW=>?_;refine Dp 2 cW rfl fun hX ai aC cX=>zg 4 rfl (Cm aC Cy Cc rfl rfl ?_);obtain⟨V,cY,cZ⟩:=bs cM;refine BY 1 (YC (cR.Ai ai) (aG.Ai ai) (aH.Ai ai) cY) rfl rfl (A2 func40 rfl) cX rfl ?_;rintro _ hY _ ae ⟨W,Z,hZ,h0,rfl,rfl,aO,h1⟩ c0;refine zg 4 rfl (Cm (aC.Ai ae) Cy Cc rfl rfl ?_);obtain⟨K,c1,c3⟩:=bs cZ;refine zg 1 rfl (BH (Sy (aG.Ai (ai.Ac ae)) (aH.Ai (ai.Ac ae)) aO c1) rfl rfl (A2 func35 rfl) c0 fun h2 aa c4=>?_);refine zg 10 rfl (Cm (aC.Ai (ae.Ac aa)) Cy Cc rfl rfl ?_);obtain⟨ag,c5,c6⟩:=bs c3;refine zg 1 rfl (BH (YI (aG.Ai ((ai.Ac ae).Ac aa)) (aH.Ai ((ai.Ac ae).Ac aa)) (aO.Ai aa) c5) rfl rfl (A2 func47 rfl) c4 fun h3 aj a7=>?_);refine zg 12 rfl (AK c6 (fun c7 c8=>?_) (fun c7 c9=>?_))
 ·obtain⟨da,db,dc⟩:=bs c8;refine zg 6 rfl (CV 7 8 [] [(7,iV K.2.1),(55,.bool da)] (fun h4 h5 bA=>?_) (fun bB=>?_))
  ·obtain⟨dd,de,df⟩:=bs dc;refine zg 1 rfl (CV 11 4 [] [(59,.bool dd)] (fun h6 h7 bC=>?_) (fun bD=>?_))
   ·obtain⟨bE,dg,dh⟩:=bs df;refine zg 1 rfl (CV 14 1 [] [(62,.bool bE)] (fun h8 h9 ia=>?_) (fun bF=>?_))
    ·refine zg 2 rfl ?_;obtain rfl:=oi dh;exact GQ rfl (JO.end (v:= .bool bE) rfl (by decide+kernel) func11 rfl rfl rfl)
    ·refine Dj 60 dg (fun di dj=>?_) (fun di dk=>?_)
     ·obtain⟨ic,dl,dm⟩:=bs dj;refine BH (O4 dl) rfl rfl NH bC fun ie dn dp=>zg 1 rfl ?_;obtain rfl:=oi dm;exact bF dn dp rfl
     ·refine zg 2 rfl ?_;obtain rfl:=oi dk;exact bF Aq bC rfl
   ·refine Dj 56 de (fun dq dr=>?_) (fun dq dt=>?_)
    ·refine zg 3 rfl ?_;obtain rfl:=oi dr;exact bD Aq bA rfl
    ·refine zg 3 rfl ?_;obtain rfl:=oi dt;exact bD Aq bA rfl
  ·refine Ew 52 db (fun du dv=>?_) (fun du dw=>?_)
   ·refine zg 3 rfl (JS.drop 1 a7 rfl fun dx=>?_);obtain rfl:=oi dv;exact bB Aq dx rfl
   ·refine zg 3 rfl (JS.drop 1 a7 rfl fun dy=>?_);obtain rfl:=oi dw;exact bB Aq dy rfl
 ·refine zg 3 rfl (Cm (aC.Ai ((ae.Ac aa).Ac aj)) Cy Cc rfl rfl ?_);obtain⟨dz,dA,dB⟩:=bs c9;refine zg 2 rfl (BO (Sr (aG.Ai (((ai.Ac ae).Ac aa).Ac aj)) (aH.Ai (((ai.Ac ae).Ac aa).Ac aj)) (aO.Ai (aa.Ac aj)) dA) rfl rfl (A2 func43 rfl) a7 ?_);rintro _ a8 _ am ⟨dC,dD,rfl,rfl,ig⟩ bG;obtain⟨dE,dF,dG⟩:=bs dB;refine zg 12 rfl (Gb [] (fun L s=>∃(bH:LH),Jm a8 H bH [] [(4,pV ab 0),(5,sV W V.1 Z),(6,iV K.1),(7,iV K.2.1),(8,iV K.2.2),(9,iV ag.1),(11,sV dC dz.1 dD),(75,.bool dE)] L s) ?_ ?_)
  ·rintro _ _ ⟨bH,rfl,rfl,an,dH⟩;refine JL.done (BM dG (fun dI dJ=>?_) (fun dI dK=>?_))
   ·refine zg 4 rfl ?_;obtain rfl:=oi dJ;exact GQ rfl (JO.end (v:= .bool false) rfl (by decide+kernel) func11 rfl rfl rfl)
   ·refine zg 4 rfl (Bp underlying28 rfl rfl rfl ?_);obtain⟨a9,dL,dM⟩:=bs dK;refine zg 8 rfl (Cu [] [(6,iV K.1),(7,iV K.2.1),(8,iV K.2.2),(13,iV a9.1),(14,iV a9.2)] (fun ih ii aV=>?_) (fun dN=>?_))
    ·refine zg 6 rfl (AK dM (fun dO dP=>?_) (fun dO dQ=>?_))
     ·obtain⟨dR,dS,dT⟩:=bs dP;refine zg 5 rfl (CV 6 8 [] [(7,iV K.2.1),(178,.bool dR)] (fun ij ik bI=>?_) (fun bJ=>?_))
      ·obtain⟨dU,dV,dW⟩:=bs dT;refine zg 1 rfl (CV 10 4 [] [(182,.bool dU)] (fun il io bK=>?_) (fun bL=>?_))
       ·obtain⟨bM,dX,dY⟩:=bs dW;refine zg 1 rfl (CV 13 1 [] [(185,.bool bM)] (fun iq ir it=>?_) (fun bN=>?_))
        ·refine zg 2 rfl ?_;obtain rfl:=oi dY;exact GQ rfl (JO.end (v:= .bool bM) rfl (by decide+kernel) func11 rfl rfl rfl)
        ·refine Dj 183 dX (fun dZ ea=>?_) (fun dZ eb=>?_)
         ·obtain⟨iu,ec,ed⟩:=bs ea;refine BH (O4 ec) rfl rfl NH bK fun iv ee ef=>zg 1 rfl ?_;obtain rfl:=oi ed;exact bN ee ef rfl
         ·refine zg 2 rfl ?_;obtain rfl:=oi eb;exact bN Aq bK rfl
       ·refine Dj 179 dV (fun eg eh=>?_) (fun eg ei=>?_)
        ·refine zg 3 rfl ?_;obtain rfl:=oi eh;exact bL Aq bI rfl
        ·refine zg 3 rfl ?_;obtain rfl:=oi ei;exact bL Aq bI rfl
      ·refine Ew 175 dS (fun ej ek=>?_) (fun ej el=>?_)
       ·refine zg 3 rfl ?_;obtain rfl:=oi ek;exact bJ Aq aV rfl
       ·refine zg 3 rfl ?_;obtain rfl:=oi el;exact bJ Aq aV rfl
     ·obtain⟨em,en,eo⟩:=bs dQ;refine zg 6 rfl (CV 7 9 [] [(7,iV K.2.1),(14,iV a9.2),(192,.bool em)] (fun iw iy bO=>?_) (fun bP=>?_))
      ·obtain⟨ep,eq,er⟩:=bs eo;refine zg 1 rfl (CV 12 4 [] [(197,.bool ep)] (fun iz iA bQ=>?_) (fun bR=>?_))
       ·obtain⟨bS,et,eu⟩:=bs er;refine zg 1 rfl (CV 15 1 [] [(200,.bool bS)] (fun iB iC iD=>?_) (fun bT=>?_))
        ·refine zg 2 rfl ?_;obtain rfl:=oi eu;exact GQ rfl (JO.end (v:= .bool bS) rfl (by decide+kernel) func11 rfl rfl rfl)
        ·refine Dj 198 et (fun ew ex=>?_) (fun ew ey=>?_)
         ·obtain⟨iE,ez,eA⟩:=bs ex;refine BH (O4 ez) rfl rfl NH bQ fun iF eB eC=>zg 1 rfl ?_;obtain rfl:=oi eA;exact bT eB eC rfl
         ·refine zg 2 rfl ?_;obtain rfl:=oi ey;exact bT Aq bQ rfl
       ·refine Dj 193 eq (fun eD eE=>?_) (fun eD eF=>?_)
        ·refine zg 4 rfl ?_;obtain rfl:=oi eE;exact bR Aq bO rfl
        ·refine zg 4 rfl ?_;obtain rfl:=oi eF;exact bR Aq bO rfl
      ·refine Ew 188 en (fun eG eH=>?_) (fun eG eI=>?_)
       ·refine zg 4 rfl ?_;obtain rfl:=oi eH;exact bP Aq aV rfl
       ·refine zg 4 rfl ?_;obtain rfl:=oi eI;exact bP Aq aV rfl
    ·refine JL.block (CC dL (fun O=> []) (fun O=> [(4,pV ab 0),(5,sV W V.1 Z),(6,iV K.1),(7,iV K.2.1),(8,iV K.2.2),(9,iV ag.1),(13,iV O.1),(14,iV O.2.1),(15,iV O.2.2)]) Aq dH ?_);rintro O iG al bU eJ ⟨iH,ba⟩ eK;have bV:=ba;unfold MY at bV;refine zg 6 rfl (AK bV (fun eL eM=>?_) (fun eL eN=>?_))
     ·refine zg 4 rfl (DG 6 fun ht=>?_);refine HF 0 ht (aC.Ai (((((ae.Ac aa).Ac aj).Ac am).Ac an).Ac al)) Cy Cc rfl rfl rfl (Cv 1 ht rfl rfl ?_);obtain⟨eO,eP,eQ⟩:=bs eM;refine BC 2 ht rfl rfl (fun ρ h s' hs=>Rt (h _ _ rfl) (h _ _ rfl) eP) (Cv 3 ht rfl rfl ?_);obtain⟨eR,eS,eT⟩:=bs eQ;refine JG.call (i:=4) (vs:= [sV W V.1 Z]) (Yp (aO.Ai ((((aa.Ac aj).Ac am).Ac an).Ac al)) eS) (by decide+kernel) rfl rfl rfl (A2 func52 rfl) rfl bU ?_;rintro _ iI _ aw ⟨rfl,rfl⟩ eU;refine BC (v:=iV (max eO eR)) 5 ht rfl rfl (fun ρ h s' hs=>Yl.max2 (h _ _ rfl) (h _ _ rfl)) (Co [6,7] ?_);obtain⟨ao,eV,eW⟩:=bs eT;refine BO (Ym (aG.Ai (((((((ai.Ac ae).Ac aa).Ac aj).Ac am).Ac an).Ac al).Ac aw)) (aH.Ai (((((((ai.Ac ae).Ac aa).Ac aj).Ac am).Ac an).Ac al).Ac aw)) eV) rfl rfl (A2 func55 rfl) eU ?_;rintro _ bb _ aI ⟨ap,aq,rfl,rfl,bc⟩ eX;refine zg 4 rfl (JL.fl 0 (aC.Ai (((((((ae.Ac aa).Ac aj).Ac am).Ac an).Ac al).Ac aw).Ac aI)) underlying24 Cl CW ?_);refine Bp underlying22 rfl rfl rfl ?_;obtain⟨eY,bW,eZ⟩:=bs eW;refine JS.make (pp:=(SP rB)) bW rfl rfl rfl rfl rfl underlying73 J4 (CP type68) (by decide) (DY type68) (by decide) (.inl ⟨rfl,rfl⟩) eX fun e0 e1 bd e3=>?_;replace bd:=D4.make (e2:=4) bW bd;obtain⟨bY,e4,e5⟩:=bs eZ;refine zg 7 rfl (Bs (fun L s=>∃(aJ:LH) (aW:Ap) (aX:Nat) (aY:Seg),Jn bb H aJ [aY] [(4,pV ab 0),(5,sV W V.1 Z),(6,iV K.1),(7,iV K.2.1),(8,iV K.2.2),(9,iV ag.1),(13,iV O.1),(14,iV O.2.1),(15,iV O.2.2),(16,sV ap ao aq),(17,sV aW bY aX)] L s (D4 68 4 rB aJ aW aX aY bY)) ?_ ?_)
      ·rintro _ _ ⟨aJ,aW,aX,aY,rfl,rfl,ay,e6,e7⟩;obtain⟨aK,e8,e9⟩:=bs e5;refine zg 5 rfl (Bs (fun L s=>∃(be:LH) (aD:Ap) (aE:Nat) (aF:Seg),Jn aJ H be [aF] [(4,pV ab 0),(5,sV W V.1 Z),(6,iV K.1),(7,iV K.2.1),(8,iV K.2.2),(9,iV ag.1),(13,iV O.1),(14,iV O.2.1),(15,iV O.2.2),(17,sV aD aK aE)] L s (D4 68 4 rB be aD aE aF aK)) ?_ ?_)
       ·rintro _ _ ⟨be,aD,aE,aF,rfl,rfl,fa,fb,fc⟩;obtain⟨fd,fe,ff⟩:=bs e9;refine zg 9 rfl (Cu [] [(4,pV ab 0),(5,sV W V.1 Z),(6,iV K.1),(7,iV K.2.1),(8,iV K.2.2),(9,iV ag.1),(13,iV O.1),(14,iV O.2.1),(15,iV O.2.2),(23,iV fd)] (fun iJ fg bZ=>?_) (fun fh=>?_))
        ·obtain⟨aZ,fj,fk⟩:=bs ff;refine zg 6 rfl (Cu [] [(4,pV ab 0),(5,sV W V.1 Z),(6,iV K.1),(7,iV K.2.1),(8,iV K.2.2),(9,iV ag.1),(13,iV aZ.1),(14,iV aZ.2),(15,iV O.2.2)] (fun iK fm fo=>?_) (fun b0=>?_))
         ·obtain⟨fp,fq,fs⟩:=bs fk;refine zg 3 rfl (Ba fq rfl rfl rfl ?_);refine zg 2 rfl ?_;obtain rfl:=oi fs;exact eK (aZ.1,aZ.2,fp) ((((((al.Ac aw).Ac aI).Ac ay).Ac fa).Ac fg).Ac fm) fo rfl ba
         ·refine AK fj (fun fu fv=>?_) (fun fu fw=>?_)
          ·refine zg 6 rfl ?_;obtain rfl:=oi fv;exact b0 Aq bZ rfl
          ·refine JL.skip ?_;obtain rfl:=oi fw;exact b0 Aq bZ rfl
        ·refine JL.block (CC fe (fun ak=> [aF]) (fun ak=> [(4,pV ab 0),(5,sV W V.1 Z),(6,iV K.1),(7,iV K.2.1),(8,iV K.2.2),(9,iV ag.1),(13,iV O.1),(14,iV O.2.1),(15,iV O.2.2),(17,sV aD aK aE),(23,iV ak.1),(24,iV ak.2)]) Aq fb ?_);rintro ak iL bf b1 fx ⟨iM,bg⟩ fy;have b2:=bg;unfold Ky at b2;refine zg 5 rfl (Bp underlying73 rfl rfl rfl ?_);refine zg 2 rfl (AK b2 (fun fz fA=>?_) (fun fz fB=>?_))
         ·obtain⟨bh,fC,fD⟩:=bs fA;refine zg 12 rfl (Cu [aF] [(4,pV ab 0),(5,sV W V.1 Z),(6,iV K.1),(7,iV K.2.1),(8,iV K.2.2),(9,iV ag.1),(13,iV O.1),(14,iV O.2.1),(15,iV O.2.2),(17,sV aD aK aE),(23,iV ak.1),(24,iV ak.2),(25,iV bh)] (fun iN fE fF=>?_) (fun fG=>?_))
          ·refine zg 3 rfl (AA (v:=iV (max ak.1 bh)) rfl (fun ρ h=>Yl.max2 (h _ _ rfl) (h _ _ rfl)) ?_);obtain⟨fH,fI,fJ⟩:=bs fD;refine zg 5 rfl (Ba fI rfl rfl rfl ?_);refine zg 2 rfl ?_;obtain rfl:=oi fJ;exact fy (max ak.1 bh,fH) (bf.Ac fE) fF rfl bg
          ·refine JL.block (CC fC (fun aL=> [aF]) (fun aL=> [(4,pV ab 0),(5,sV W V.1 Z),(6,iV K.1),(7,iV K.2.1),(8,iV K.2.2),(9,iV ag.1),(13,iV O.1),(14,iV O.2.1),(15,iV O.2.2),(17,sV aD aK aE),(23,iV ak.1),(24,iV ak.2),(25,iV aL.1),(26,iV aL.2)]) Aq b1 ?_);rintro aL iO bi aP fK ⟨iP,bj⟩ fL;have b3:=bj;unfold MC at b3;refine zg 6 rfl (AK b3 (fun fM fN=>?_) (fun fM fO=>?_))
           ·obtain⟨fP,b4,fQ⟩:=bs fN;refine zg 7 rfl ?_;obtain⟨fR,iQ,fS,fT,iR,iS,iT,b5,bl⟩:=D4.rowOf (fc.Ai (bf.Ac bi)) b4;refine AA (v:= .pointer (some ⟨fR,Int.toNat (ak.2)*1,none⟩)) rfl (fun ρ h=>Km bl.ad b4 underlying73 J4 (h _ _ rfl) (h _ _ rfl)) (AA (v:= sV fS fP fT) rfl (fun ρ h=>Yl.load (DZ underlying68) (h _ _ rfl) (NV (j:=0) aP (congrArg some b5) (List.Mem.head _) bl.hd)) ?_);obtain⟨fU,b6,fW⟩:=bs fQ;refine zg 1 rfl ?_;obtain⟨fX,iU,_,fY,rfl,rfl,fZ,iW,iX⟩:=Jz.elem bl b6;refine AA (v:= .pointer (some ⟨fX,Int.toNat (aL.2)*1,none⟩)) rfl (fun ρ h=>Km fY b6 underlying68 FD (h _ _ rfl) (h _ _ rfl)) (AA (v:= .bool fU) rfl (fun ρ h=>Yl.load Nw (h _ _ rfl) (NV (j:=0) aP (congrArg some b5) VX (fZ 0 _ rfl))) ?_);obtain⟨b7,ga,gb⟩:=bs fW;refine JL.done (Cu [aF] [(4,pV ab 0),(5,sV W V.1 Z),(6,iV K.1),(7,iV K.2.1),(8,iV K.2.2),(9,iV ag.1),(13,iV O.1),(14,iV O.2.1),(15,iV O.2.2),(17,sV aD aK aE),(23,iV ak.1),(24,iV ak.2),(25,iV b7),(26,iV aL.2)] (fun iY gc gd=>?_) (fun b8=>?_))
            ·obtain⟨ge,gf,gg⟩:=bs gb;refine zg 3 rfl (Ba gf rfl rfl rfl ?_);refine zg 2 rfl ?_;obtain rfl:=oi gg;exact fL (b7,ge) (bi.Ac gc) gd rfl bj
            ·refine BM ga (fun gh gi=>?_) (fun gh gj=>?_)
             ·obtain⟨iZ,gk,gl⟩:=bs gi;refine zg 2 rfl (Ba gk rfl rfl rfl ?_);refine zg 2 rfl ?_;obtain rfl:=oi gl;exact b8 Aq aP rfl
             ·refine JL.skip ?_;obtain rfl:=oi gj;exact b8 Aq aP rfl
           ·refine JL.exit rfl ?_;obtain rfl:=oi fO;obtain rfl:=fK _ bj;exact fG bi aP rfl
         ·refine JL.exit rfl (JS.drop 0 b1 rfl fun gm=>?_);obtain rfl:=oi fB;obtain rfl:=fx _ bg;exact fh bf gm rfl
       ·intro gn;refine JL.block (CG e8 (fun L s ah=>∃(a0:LH) (ar:Ap) (au:Nat) (aM:Seg),Jn aJ H a0 [aM] [(4,pV ab 0),(5,sV W V.1 Z),(6,iV K.1),(7,iV K.2.1),(8,iV K.2.2),(9,iV ag.1),(13,iV O.1),(14,iV O.2.1),(15,iV O.2.2),(16,sV ap ao aq),(17,sV ar ah.1 au),(19,iV ah.2)] L s (D4 68 4 rB a0 ar au aM ah.1)) ⟨aJ,aW,aX,aY,rfl,rfl,Aq,e6,e7⟩ ?_);rintro _ _ ah ⟨a0,ar,au,aM,rfl,rfl,av,b9,bm⟩ gp ⟨i0,bn⟩ gq;have ca:=bn;unfold Kz at ca;refine zg 5 rfl (Bp underlying71 rfl rfl rfl ?_);refine zg 2 rfl (AK ca (fun gr gt=>?_) (fun gr gu=>?_))
        ·refine zg 4 rfl (DG 14 fun ht=>?_);refine HF 0 ht (aC.Ai (((((((((ae.Ac aa).Ac aj).Ac am).Ac an).Ac al).Ac aw).Ac aI).Ac ay).Ac av)) Cy Cc rfl rfl rfl (Bi ht rfl [1,2,3] rfl ?_);obtain⟨gv,gw,gx⟩:=bs gt;refine Du 4 (bc.Ai (ay.Ac av)) gw ht underlying71 LF ?_;rintro i1 i3 _ ⟨_,_,rfl,rfl,⟨gy,gz,rfl,gA⟩⟩ gB;refine B6 5 ht underlying75 BV rfl rfl rfl rfl (CI 6 ht 1 gB C4 rfl rfl rfl rfl ?_);obtain⟨i4,gC,gD⟩:=bs gx;refine JG.call (i:=7) (vs:= [.agg #[sV cN bz.1.1 cO,sV cP bz.1.2 cQ],sV W V.1 Z,sV gy gv.2 gz]) (Yz (aG.Ai ((((((((((ai.Ac ae).Ac aa).Ac aj).Ac am).Ac an).Ac al).Ac aw).Ac aI).Ac ay).Ac av)) (aH.Ai ((((((((((ai.Ac ae).Ac aa).Ac aj).Ac am).Ac an).Ac al).Ac aw).Ac aI).Ac ay).Ac av)) (aO.Ai ((((((((aa.Ac aj).Ac am).Ac an).Ac al).Ac aw).Ac aI).Ac ay).Ac av)) gA gC) (by decide+kernel) rfl rfl rfl (A2 func54 rfl) rfl b9 ?_;rintro _ bo _ aQ ⟨i5,i6,rfl,rfl,i7⟩ cb;refine Bi ht rfl [8,9,10,11,12,13] rfl (Co [14] ?_);obtain⟨cc,gE,gF⟩:=bs gD;refine zg 6 rfl (Gb [] (fun L s=>∃(aR:LH),Jm bo H aR [aM] [(4,pV ab 0),(5,sV W V.1 Z),(6,iV K.1),(7,iV K.2.1),(8,iV K.2.2),(9,iV ag.1),(13,iV O.1),(14,iV O.2.1),(15,iV O.2.2),(16,sV ap ao aq),(17,sV ar ah.1 au),(19,iV ah.2),(126,.bool cc)] L s) ?_ ?_)
         ·rintro _ _ ⟨aR,rfl,rfl,aS,bp⟩;obtain⟨bq,gG,gH⟩:=bs gF;refine JL.done (Bs (fun L s=>∃(a1:LH) (a2:Ap) (a3:Nat) (a4:Seg),Jn aR H a1 [a4] [(4,pV ab 0),(5,sV W V.1 Z),(6,iV K.1),(7,iV K.2.1),(8,iV K.2.2),(9,iV ag.1),(13,iV O.1),(14,iV O.2.1),(15,iV O.2.2),(16,sV ap ao aq),(17,sV a2 bq a3),(19,iV ah.2)] L s (D4 68 4 rB a1 a2 a3 a4 bq)) ?_ ?_)
          ·rintro _ _ ⟨a1,a2,a3,a4,rfl,rfl,gI,gJ,gK⟩;obtain⟨gL,gM,gN⟩:=bs gH;refine zg 3 rfl (Ba gM rfl rfl rfl ?_);refine zg 2 rfl ?_;obtain rfl:=oi gN;exact Ay (gq _ _ (bq,gL) ⟨a1,a2,a3,a4,rfl,rfl,(((av.Ac aQ).Ac aS).Ac gI),gJ,gK⟩ bn) rfl
          ·intro cd;refine BM gG (fun gO gP=>?_) (fun gO gQ=>?_)
           ·refine Yy 16 fun ht=>Bi ht rfl [0,1,2] rfl ?_;obtain⟨ce,gR,gS⟩:=bs gP;refine Du 3 (bc.Ai (((ay.Ac av).Ac aQ).Ac aS)) gR ht underlying71 LF ?_;rintro cf cg _ ⟨_,_,rfl,rfl,⟨ci,ck,rfl,gT⟩⟩ gU;refine B6 4 ht underlying75 BV rfl rfl rfl rfl (BC (v:= sV ci ce.2 ck) 5 ht rfl rfl (fun ρ h s' hs=>Yl.load C4 (h _ _ rfl) (Nf hs (At.KS (j:=1) gU rfl))) ?_);refine Cv 6 ht rfl rfl ?_;obtain⟨aN,gV,gW⟩:=bs gS;refine Du 7 gT gV ht underlying28 AW ?_;rintro gX gY _ rfl gZ;refine BC (v:=iV aN) 8 ht rfl rfl (fun ρ h s' hs=>Yl.load Bx (h _ _ rfl) (Nf hs (At.KS (j:=0) gZ rfl))) ?_;obtain⟨a5,cm,g0⟩:=bs gW;obtain⟨cn,g1,g3,g4,g5,i8,g6,co,br⟩:=D4.rowOf (bm.Ai (aQ.Ac aS)) cm;refine BC (v:= .pointer (some ⟨cn,Int.toNat (aN)*1,none⟩)) 9 ht rfl rfl (fun ρ h s' hs=>Km br.ad cm underlying73 J4 (h _ _ rfl) (h _ _ rfl)) (BC (v:= sV g3 a5 g4) 10 ht rfl rfl (fun ρ h s' hs=>Yl.load (DZ underlying68) (h _ _ rfl) (Nf hs (NV (j:=0) bp (congrArg some co) (List.Mem.head _) br.hd))) ?_);refine Bi ht rfl [11,12] rfl ?_;obtain⟨az,g7,g8⟩:=bs g0;refine Du 13 (bc.Ai (((ay.Ac av).Ac aQ).Ac aS)) g7 ht underlying71 LF ?_;rintro cp cq _ ⟨_,_,rfl,rfl,⟨i9,ja,rfl,jb⟩⟩ g9;refine B6 14 ht underlying75 AW rfl rfl rfl rfl (BC (v:=iV az.1) 15 ht rfl rfl (fun ρ h s' hs=>Yl.load Bx (h _ _ rfl) (Nf hs (At.KS (j:=0) g9 rfl))) ?_);refine Co [16,17] ?_;obtain⟨jc,cr,ha⟩:=bs g8;obtain⟨ct,hb,_,hc,rfl,rfl,jd,he,hf⟩:=Jz.elem br cr;refine AA (v:= .pointer (some ⟨ct,Int.toNat (az.1)*1,none⟩)) rfl (fun ρ h=>Km hc cr underlying68 FD (h _ _ rfl) (h _ _ rfl)) (WX (v:= .bool true) (off:=Int.toNat (az.1)*1) 0 bp (congrArg some co) FD rfl rfl rfl (by have:=he;simp only [Rp.n,rK,rN,rB,rP,rL] at this;show _+1≤_;omega) (by simp [Value.cells,CM]) fun hg=>?_);have hj:=hf _ true [.bool true] Aq rfl;have cu:(ah.1.set (Int.toNat aN) (a5.set (Int.toNat az.1) true)).length=ah.1.length:=List.length_set;refine GV (L':= [(4,pV ab 0),(5,.slice W V.1.length Z),(6,iV K.1),(7,iV K.2.1),(8,iV K.2.2),(9,iV ag.1),(13,iV O.1),(14,iV O.2.1),(15,iV O.2.2),(16,.slice ap ao.length aq),(17,.slice ar ((ah.1.set (Int.toNat aN) (a5.set (Int.toNat az.1) true))).length au),(19,iV ah.2),(126,.bool cc),(127,.slice ar ((ah.1.set (Int.toNat aN) (a5.set (Int.toNat az.1) true))).length au),(128,.slice ap ao.length aq),(129,iV ah.2),(130,pV cf cg),(131,pV cf (cg+1)),(132,.slice ci ce.2.length ck),(133,iV O.2.2),(134,pV gX gY),(135,iV aN),(138,.slice ap ao.length aq),(139,iV ah.2),(140,pV cp cq),(141,pV cp cq),(142,iV az.1)]) ⟨rfl,rfl,rfl,rfl,rfl,rfl,rfl,rfl,rfl,rfl,by rw [cu];rfl,rfl,rfl,by rw [cu];rfl,rfl,rfl,rfl,rfl,rfl,rfl,rfl,rfl,rfl,rfl,rfl,rfl,rfl,trivial⟩ ?_;refine JL.done ?_;obtain rfl:=oi ha;exact Ay (cd _ _ ⟨aR,ar,au,(rs (cn,.cells g1 68 (0,0)) g5 (ct,.cells (Be hb (Int.toNat (az.1)*1) [.bool true]) 4 (0,0)) g6),rfl,rfl,Aq,hg,hj⟩) rfl
           ·refine JL.skip ?_;obtain rfl:=oi gQ;exact Ay (cd _ _ ⟨aR,ar,au,aM,rfl,rfl,Aq,bp,(bm.Ai (aQ.Ac aS))⟩) rfl
         ·intro cv;refine Dj 122 gE (fun hk hl=>?_) (fun hk hm=>?_)
          ·refine zg 4 rfl ?_;obtain rfl:=oi hl;exact Ay (cv _ _ ⟨bo,rfl,rfl,Aq,cb⟩) rfl
          ·refine zg 4 rfl ?_;obtain rfl:=oi hm;exact Ay (cv _ _ ⟨bo,rfl,rfl,Aq,cb⟩) rfl
        ·refine JL.exit rfl ?_;obtain rfl:=oi gu;obtain rfl:=gp _ bn;exact Ay (gn _ _ ⟨a0,ar,au,aM,rfl,rfl,av,b9,bm⟩) rfl
      ·intro hn;refine JL.block (CG e4 (fun L s U=>∃(aT:LH) (aA:Ap) (aB:Nat) (a6:Seg),Jn bb H aT [a6] [(4,pV ab 0),(5,sV W V.1 Z),(6,iV K.1),(7,iV K.2.1),(8,iV K.2.2),(9,iV ag.1),(13,iV O.1),(14,iV O.2.1),(15,iV O.2.2),(16,sV ap ao aq),(17,sV aA U.1 aB),(18,iV U.2)] L s (D4 68 4 rB aT aA aB a6 U.1)) ⟨bb,(Bh e0),eY.length,e1,rfl,rfl,Aq,e3,bd⟩ ?_);rintro _ _ U ⟨aT,aA,aB,a6,rfl,rfl,cw,cy,cz⟩ ho ⟨je,bu⟩ hp;have cA:=bu;unfold KB at cA;refine zg 5 rfl (Bp underlying73 rfl rfl rfl ?_);refine zg 2 rfl (AK cA (fun hq hr=>?_) (fun hq hu=>?_))
       ·obtain⟨aU,hv,hw⟩:=bs hr;refine zg 6 rfl (JS.make (pp:=rB) hv rfl rfl rfl rfl rfl underlying68 FD (CP type4) (by decide) LD (by decide) rfl cy fun jf jg hx hy=>?_);obtain⟨jh,cB,hz⟩:=bs hw;obtain⟨hA,ji,jj,jk,jl,jm,jo,hB,cC⟩:=D4.rowOf cz cB;refine AA (v:= .pointer (some ⟨hA,Int.toNat (U.2)*1,none⟩)) rfl (fun ρ h=>Km cC.ad cB underlying73 J4 (h _ _ rfl) (h _ _ rfl)) (Va 0 1 cC hx hy (congrArg some hB) (by decide) rfl J4 rfl rfl rfl fun hC hD hE=>?_);have bv:(U.1.set (Int.toNat U.2) aU).length=U.1.length:=List.length_set;refine GV (L':= [(4,pV ab 0),(5,.slice W V.1.length Z),(6,iV K.1),(7,iV K.2.1),(8,iV K.2.2),(9,iV ag.1),(13,iV O.1),(14,iV O.2.1),(15,iV O.2.2),(16,.slice ap ao.length aq),(17,.slice aA ((U.1.set (Int.toNat U.2) aU)).length aB),(18,iV U.2),(93,iV U.2),(94,.slice aA ((U.1.set (Int.toNat U.2) aU)).length aB),(95,iV (U.1.length:Int)),(96,.bool (decide (U.2<(U.1.length:Int)))),(99,.slice aA ((U.1.set (Int.toNat U.2) aU)).length aB),(100,iV U.2)]) ⟨rfl,rfl,rfl,rfl,rfl,rfl,rfl,rfl,rfl,rfl,by rw [bv];rfl,rfl,rfl,by rw [bv];rfl,rfl,rfl,by rw [bv];rfl,rfl,trivial⟩ ?_;obtain⟨hF,hG,hH⟩:=bs hz;refine zg 4 rfl (Ba hG rfl rfl rfl ?_);refine zg 2 rfl ?_;obtain rfl:=oi hH;exact Ay (hp _ _ ((U.1.set (Int.toNat U.2) aU),hF) ⟨aT,aA,aB,hC,rfl,rfl,cw,hE,hD⟩ bu) rfl
       ·refine JL.exit rfl ?_;obtain rfl:=oi hu;obtain rfl:=ho _ bu;exact Ay (hn _ _ ⟨aT,aA,aB,a6,rfl,rfl,cw,cy,cz⟩) rfl
     ·refine JL.exit rfl ?_;obtain rfl:=oi eN;obtain rfl:=eJ _ ba;exact dN al bU rfl
  ·intro cD;refine Ew 72 dF (fun hI hJ=>?_) (fun hI hK=>?_)
   ·refine zg 3 rfl (JS.drop 1 bG rfl fun hL=>?_);obtain rfl:=oi hJ;exact Ay (cD _ _ ⟨a8,rfl,rfl,Aq,hL⟩) rfl
   ·refine zg 3 rfl (JS.drop 1 bG rfl fun hM=>?_);obtain rfl:=oi hK;exact Ay (cD _ _ ⟨a8,rfl,rfl,Aq,hM⟩) rfl
end Pal
namespace Pal
theorem VJ.cj{n:Nat}{J:JW}(K:VJ n J):CJ J=none:=by
 obtain⟨e,O,U⟩:=Vs (F:=200) (by omega) K.nl;rw [Rq (by omega) K] at O;cases O;exact U.symm
theorem XC{F n a:Nat}{J:JW}(O:100<F)(K:VJ n J)(U:a<13):f64 F J (a:Int)=some (BT (AG J a) 16,0):=by
 rw [WN O K.nl];unfold Pb;rw [K.cj];simp only;rw [if_pos (by omega)];rfl
theorem TX(J:JW)(k a:Nat):DU J (k+1) a=(DU J k a).flatMap fun q=>(nx J (q.getLast?.getD 0)).map fun u=>q++ [u]:=by
 unfold DU;rw [List.flatMap_assoc];congr 1;funext m;exact Qr k [m] m rfl
theorem Ud(J:JW)(a:Nat):DU J 0 a=(BT (AG J a) 16).map fun m=> [m]:=by simp [DU,Fw,List.map_eq_flatMap]
theorem Ke{α β:Type}{l:List α}{f:α→β}{i:Nat}(h:i<l.length):(l.take (i+1)).map f=(l.take i).map f++ [f l[i]]:=by
 rw [List.take_add_one,List.getElem?_eq_getElem h,List.map_append];rfl
theorem Xi{F n Y:Nat}{J:JW}(aj:1000000<F)(K:VJ n J)(ak:1≤Y)(al:Y≤7):f55 F J (Y:Int)=some (Fo J (Y - 1) 13):=by
 have am:=K.l1;have W:∀i a,i≤7→(DU J i a).length≤34992:=fun i a hi=>by have:=QC K i a;have:=Q2 hi;omega
 refine Dq ?_;unfold f55;refine AI (S:=fun q=>q=Sum.inr (Fo J (Y - 1) 13)) ?_ (by rintro q rfl;rw [Sum.elim_inr];exact Am rfl);refine Cj 13 (fun a s=>s=(Fo J (Y - 1) a,(a:Int))) rfl (by omega) ?_ ?_
 ·rintro a s ab rfl;unfold Mv;refine BD (by simp only;omega) (AM (XC (by omega) K ab) ?_);refine Bj (by simp) (AI (S:=fun q=>q=DU J 0 a) ?_ ?_)
  ·have an:=I4 (AG J a) 16;refine Cj (BT (AG J a) 16).length (fun i s=>s=(((BT (AG J a) 16).take i).map (fun m=> [m]),(i:Int))) rfl (by omega) ?_ ?_
   ·rintro i s hi rfl;unfold MU;refine BD (by simp only;omega) (Bu (m:=i) rfl hi ?_);refine Iv (by simp;omega) (AV ((i+1:Nat):Int) (by simp) (by omega) (by omega) ?_);refine Am ?_;show _=_;rw [Ke hi]
   ·rintro s rfl;unfold MU;refine Bj (by simp only;omega) (Am ⟨_,rfl,?_⟩);rw [List.take_length,Ud]
  ·rintro q rfl;refine AI (S:=fun q=>q=DU J (Y - 1) a) ?_ ?_
   ·refine Cj (Y - 1) (fun i s=>s=(DU J i a,((i+1:Nat):Int))) rfl (by omega) ?_ ?_
    ·rintro i s hi rfl;unfold ME;refine BD (by simp only;omega) (AI (S:=fun q=>q=DU J (i+1) a) ?_ ?_)
     ·rw [TX];have ao:=W i a (by omega);refine Cj (DU J i a).length (fun j s=>s=(((DU J i a).take j).flatMap fun q=>(nx J (q.getLast?.getD 0)).map fun u=>q++ [u],(j:Int))) rfl (by omega) ?_ ?_
      ·rintro j s O rfl;unfold ML;obtain⟨q,U⟩:∃q,(DU J i a)[j]? =some q:=⟨_,List.getElem?_eq_getElem O⟩;have Z:=(Oc K).1 (List.mem_of_getElem? U);obtain⟨u,hu⟩:∃u,q[i]? =some u:=⟨_,List.getElem?_eq_getElem (by omega)⟩;have ae:q.getLast?.getD 0=u:=by rw [List.getLast?_eq_getElem?,Z.1,Nat.add_sub_cancel,hu];rfl
       have ag:(((DU J i a).take j).flatMap fun q=>(nx J (q.getLast?.getD 0)).map fun u=>q++ [u]).length≤34992*3:=by
        refine Nat.le_trans (Hx (b:=3) fun q _=>?_) ?_
        ·rw [List.length_map];exact(K.Gl _).len
        ·refine Nat.mul_le_mul_right _ ?_;rw [List.length_take];omega
       have V:((DU J i a).take (j+1)).flatMap (fun q=>(nx J (q.getLast?.getD 0)).map fun u=>q++ [u])=((DU J i a).take j).flatMap (fun q=>(nx J (q.getLast?.getD 0)).map fun u=>q++ [u])++(nx J (q.getLast?.getD 0)).map fun u=>q++ [u]:=by
        rw [List.take_add_one,U,List.flatMap_append];simp only [Option.toList_some,List.flatMap_cons,List.flatMap_nil,List.append_nil]
       generalize ap:((DU J i a).take j).flatMap (fun q=>(nx J (q.getLast?.getD 0)).map fun u=>q++ [u])=acc at ag V ⊢;rw [ae] at V;have aq:=Z.2.range K i _ hu;refine BD (by simp only;omega) (AM (Dk (m:=j) rfl U) ?_);refine AV (i:Int) (by simp only;omega) (by omega) (by omega) (AM (Dk (m:=i) rfl hu) ?_);have ah:J.1[u.toNat]? =some (nx J u):=by
        unfold nx;rw [List.getD_eq_getElem?_getD,List.getElem?_eq_getElem (by omega)];rfl
       have ai:=(K.Gl u.toNat).len;change (nx J u).length≤3 at ai;refine AM (Dk (m:=u.toNat) (by omega) ah) ?_;refine AI (S:=fun r=>r=acc++(nx J u).map fun u=>q++ [u]) ?_ ?_
       ·refine Cj (nx J u).length (fun l s=>s=(acc++((nx J u).take l).map (fun u=>q++ [u]),(l:Int))) (by simp) (by omega) ?_ ?_
        ·rintro l s aa rfl;unfold MJ;refine BD (by simp only;omega) (AM (b:=q) (Dk (m:=j) rfl U) ?_);refine Bu (m:=l) rfl aa (AM (b:=q) (by unfold M7 Dl;rw [if_pos (by simp;omega)];simp) ?_);refine AM (b:=q++ [(nx J u)[l]]) (by unfold Dl;rw [if_pos (by simp;omega)]) (AM (b:=acc++((nx J u).take (l+1)).map (fun u=>q++ [u])) ?_ ?_)
         ·unfold Dl;rw [if_pos (by simp only [List.length_append,List.length_map,List.length_take,List.length_singleton];omega),Ke aa,List.append_assoc]
         exact AV ((l+1:Nat):Int) (by simp) (by omega) (by omega) (Am rfl)
        ·rintro s rfl;unfold MJ;refine Bj (by simp only;omega) (Am ⟨_,rfl,?_⟩);rw [List.take_length]
       ·rintro r rfl;refine AV ((j+1:Nat):Int) (by simp) (by omega) (by omega) (Am ?_);show _=_;rw [V]
      ·rintro s rfl;unfold ML;refine Bj (by simp only;omega) (Am ⟨_,rfl,?_⟩);rw [List.take_length]
     ·rintro q rfl;exact AV ((i+1+1:Nat):Int) (by simp) (by omega) (by omega) (Am rfl)
    ·rintro s rfl;unfold ME;exact Bj (by simp only;omega) (Am ⟨_,rfl,rfl⟩)
   ·rintro q rfl;have ar:=Qz (k:=a) K (show Y - 1≤7 by omega);have au:=W (Y - 1) a (by omega);refine AI (S:=fun q=>q=Fo J (Y - 1) (a+1)) ?_ ?_
    ·have hs:Fo J (Y - 1) (a+1)=Fo J (Y - 1) a++(DU J (Y - 1) a).map fun q=>((a:Int),q):=by
      unfold Fo;rw [List.range_succ,List.flatMap_append];simp
     refine Cj (DU J (Y - 1) a).length (fun j s=>s=(Fo J (Y - 1) a++((DU J (Y - 1) a).take j).map (fun q=>((a:Int),q)),(j:Int))) (by simp) (by omega) ?_ ?_
     ·rintro j s O rfl;unfold Mw;refine BD (by simp only;omega) (Bu (m:=j) rfl O ?_);refine Iv (by simp only [List.length_append,List.length_map,List.length_take];omega) (AV ((j+1:Nat):Int) (by simp) (by omega) (by omega) ?_);refine Am ?_;show _=_;rw [Ke O,← List.append_assoc]
     ·rintro s rfl;unfold Mw;refine Bj (by simp only;omega) (Am ⟨_,rfl,?_⟩);rw [List.take_length,hs]
    ·rintro q rfl;exact AV ((a+1:Nat):Int) (by simp) (by omega) (by omega) (Am rfl)
 ·rintro s rfl;unfold Mv;exact Bj (by simp) (Am ⟨_,rfl,rfl⟩)
theorem UD{F n:Nat}{J:JW}{K:BP}{p:List Int}(aj:100<F)(ab:VJ n J)(ae:Ct n K)(ak:∀l∈K,l.1.toNat<p.length)(al:∀(y:Nat) m,p[y]? =some m→0≤m∧m<(n:Int)):
  f54 F J K p=some (if FF J K p=true then(K.map (CX p),((K.filter (CX p)).length:Int),true) else([],0,false)):=by
 have ap:=ae.len;have aq:=ab.l2;refine Dq ?_;unfold f54;refine AM (b:=List.replicate K.length false) ?_ ?_
 ·unfold Gh;rw [if_pos (by omega)];rfl
 refine AI (S:=fun q=>if FF J K p=true then q=Sum.inr (K.map (CX p),((K.filter (CX p)).length:Int)) else q=Sum.inl ([],0,false)) ?_ ?_
 ·refine Cj K.length (fun i s=>s=((K.take i).map (CX p)++List.replicate (K.length - i) false,(((K.take i).filter (CX p)).length:Int),(i:Int))∧∀l∈K.take i,∀m,p[l.1.toNat]? =some m→Em J m l=true) ⟨by simp,by simp⟩ (by omega) ?_ ?_
  ·rintro i s hi ⟨rfl,V⟩;unfold MK;have hm:=List.getElem_mem hi;have ar:=ae.yr _ hm;have am:=ak _ hm;have U:p[K[i].1.toNat]? =some p[K[i].1.toNat]:=List.getElem?_eq_getElem am;obtain⟨au,av⟩:=al _ _ U;have ag:p.getD K[i].1.toNat 0=p[K[i].1.toNat]:=by rw [List.getD_eq_getElem?_getD,U];rfl
   have aw:((K.take i).filter (CX p)).length≤8:=Nat.le_trans (List.length_filter_le _ _) (by rw [List.length_take];omega);have ah:((K.take (i+1)).filter (CX p)).length=((K.take i).filter (CX p)).length+if CX p K[i]=true then 1 else 0:=by
    rw [List.take_add_one,List.getElem?_eq_getElem hi,List.filter_append,List.length_append];congr 1;simp only [Option.toList_some,List.filter_cons,List.filter_nil];split <;> simp
   have ai:List.replicate (K.length - i) false=false::List.replicate (K.length - (i+1)) false:=by
    rw [show K.length - i=(K.length - (i+1))+1 by omega,List.replicate_succ]
   have an:Em J p[K[i].1.toNat] K[i]=true→∀l∈K.take (i+1),∀m,p[l.1.toNat]? =some m→Em J m l=true:=fun hb l O m aa=>by
    rw [List.take_add_one,List.getElem?_eq_getElem hi] at O;rcases List.mem_append.1 O with O | O
    ·exact V l O m aa
    ·simp at O;subst O;rw [U] at aa;cases aa;exact hb
   refine BD (by simp only;omega) (AI (S:=fun q=>(Em J p[K[i].1.toNat] K[i]=true∧q=Sum.inr ((K.take (i+1)).map (CX p)++List.replicate (K.length - (i+1)) false,(((K.take (i+1)).filter (CX p)).length:Int)))∨(Em J p[K[i].1.toNat] K[i]=false∧q=Sum.inl ([],0,false))) ?_ ?_)
   ·refine Bu (m:=i) rfl hi (AM (Dk (m:=K[i].1.toNat) (by omega) U) ?_);refine Bu (m:=i) rfl hi (By (fun h=>?_) (fun h=>?_))
    ·refine Am (.inl ⟨NX.2 (.inl h),?_⟩);have e:CX p K[i]=false:=by unfold CX;rw [ag];simp [h]
     rw [ah,Ke hi,e,if_neg (by simp),ai,List.append_assoc];rfl
    ·have ao:J.2[p[K[i].1.toNat].toNat]? =some (J.2.getD p[K[i].1.toNat].toNat []):=by rw [List.getD_eq_getElem?_getD,List.getElem?_eq_getElem (by omega)];rfl
     refine AM (Dk (m:=p[K[i].1.toNat].toNat) (by omega) ao) (Bu (m:=i) rfl hi ?_);refine AM (W6 aj (by have:=(ab.Pf p[K[i].1.toNat].toNat).len;omega)) ?_;by_cases W:K[i].2∈J.2.getD p[K[i].1.toNat].toNat []
     ·rw [decide_eq_true W];refine Bj (by simp) (AV ((((K.take i).filter (CX p)).length+1:Nat):Int) (by simp) (by omega) (by omega) ?_);refine Bu (m:=i) rfl (by simp only [List.length_append,List.length_map,List.length_take,List.length_replicate];omega) (Am (.inl ⟨NX.2 (.inr W),?_⟩));have e:CX p K[i]=true:=by unfold CX;rw [ag];simp [h]
      have O:((K.take i).map (CX p)).length=i:=by rw [List.length_map,List.length_take];omega
      rw [ah,Ke hi,e,if_pos rfl,ai,List.append_assoc];simp only [Int.toNat_natCast];rw [List.set_append_right _ _ (by omega),O,Nat.sub_self];rfl
     ·rw [decide_eq_false W];refine BD (by simp) (Am (.inr ⟨?_,rfl⟩));rw [Bool.eq_false_iff];intro hb;exact(NX.1 hb).elim h W
   ·rintro q (⟨hb,rfl⟩ | ⟨hb,rfl⟩)
    ·rw [Sum.elim_inr];exact AV ((i+1:Nat):Int) (by simp) (by omega) (by omega) (Am ⟨rfl,an hb⟩)
    ·rw [Sum.elim_inl];refine Am ?_;show if _ then _ else _
     rw [if_neg];intro hs;have:=LO.1 hs _ hm _ U;rw [hb] at this;cases this
  ·rintro s ⟨rfl,V⟩;unfold MK;refine Bj (by simp) (Am ⟨_,rfl,?_⟩);rw [List.take_length] at V ⊢;rw [if_pos (LO.2 V),Nat.sub_self];simp
 ·intro q Z;by_cases hs:FF J K p=true
  ·rw [if_pos hs] at Z ⊢;subst Z;exact Am rfl
  ·rw [if_neg hs] at Z ⊢;subst Z;exact Am rfl
theorem WA{n k y m b Y:Nat}{J:JW}{K:BP}(O:VJ n J)(U:Ct n K)(an:Y=max (y+1) (Dd K+1)):BS J (D6 J K k) y m b↔∃t∈Fo J (Y - 1) 13,FF J K t.2=true∧(K.filter (CX t.2)).length=k∧t.2[y]? =some (m:Int)∧t.1=(b:Int):=by
 have ae:∀(p q:List Int),(∀i,i≤Dd K→p[i]? =q[i]?)→K.filter (CX p)=K.filter (CX q)∧(JE J K p→JE J K q):=fun p q h=>⟨List.filter_congr fun l V=>by
  have:=L2 U l V
  unfold CX
  rw [List.getD_eq_getElem?_getD,List.getD_eq_getElem?_getD,h _ this],fun hs l V u hu=>hs l V u (by rw [h _ (L2 U l V)];exact hu)⟩
 constructor
 ·rintro⟨t,ht,hb,e,aj,he⟩;obtain⟨⟨a,W,ag⟩,Z⟩:=Kj.1 ht;obtain⟨ao,e2,ap,ak,aq⟩:=(MP O U).1 ag;obtain rfl:a=b:=by omega
  have al:=(List.getElem?_eq_some_iff.1 he).1;have ar:Y≤(t.2.1++e).length:=by rw [List.length_append] at al ⊢;omega
  have aa:∀i,i≤Dd K→t.2.1[i]? =((t.2.1++e).take Y)[i]? :=fun i hi=>by
   rw [List.getElem?_take,if_pos (by omega),List.getElem?_append_left (by omega)]
  obtain⟨ab,c2⟩:=ae _ _ aa;refine⟨((a:Int),(t.2.1++e).take Y),(Oa O).2 ⟨a,W,rfl,by simp only [List.length_take];omega,aj.take _⟩,LO.2 (c2 ak),?_,?_,rfl⟩
  ·simp only;rw [← ab,← Oh O U ag,Z]
  ·simp only;rw [List.getElem?_take,if_pos (by omega)];exact he
 ·rintro⟨t,ht,hs,Z,am,hb⟩;obtain⟨a,W,au,av,ah⟩:=(Oa O).1 ht;obtain rfl:a=b:=by omega
  have aa:∀i,i≤Dd K→t.2[i]? =(t.2.take (Dd K+1))[i]? :=fun i hi=>by rw [List.getElem?_take,if_pos (by omega)]
  obtain⟨ab,c2⟩:=ae _ _ aa;have ai:((a:Int),t.2.take (Dd K+1),FK K 0 (t.2.take (Dd K+1)))∈TA J K a:=(MP O U).2 ⟨rfl,by simp only [List.length_take];omega,ah.take _,c2 (LO.1 hs),rfl⟩;refine⟨_,Kj.2 ⟨⟨a,W,ai⟩,?_⟩,rfl,t.2.drop (Dd K+1),?_⟩
  ·rw [Oh O U ai];simp only;rw [← ab,Z]
  ·simp only;rw [List.take_append_drop];exact⟨ah,am⟩
theorem Ui{k:Nat}{J:JW}{K:BP}{g:Nat→Bool}(h:H9 J K k)(U:∀b,g b=true↔∃t∈D6 J K k,t.1=((b:Nat):Int)):(GZ J K k).length=Cw g:=by
 unfold GZ Cw;rw [List.length_map,← List.countP_eq_length_filter];refine List.countP_congr fun b hb=>?_;have hb:=List.mem_range.1 hb;rw [U,Xl hb,List.any_eq_true];constructor
 ·rintro⟨t,ht,O⟩;have:=h.2 t (KG.2 ⟨b,hb,ht⟩);have:=of_decide_eq_true O;exact⟨t,ht,by omega⟩
 ·rintro⟨t,ht,O⟩;exact⟨t,ht,decide_eq_true (by omega)⟩
def Gr(n:Nat)(G:Nat→Nat→Bool):List (List Bool):=(List.range n).map fun m=>(List.range 13).map fun b=>G m b
theorem Vz{F n:Nat}(O:100<F)(U:n≤8):iter (KB F) F (List.replicate n [],0)=some (Gr n fun _ _=>false):=by
 refine Dq (Cj n (fun i s=>s=((List.range n).map (fun m=>if m<i then List.replicate 13 false else []),(i:Int))) (by rw [Oz];simp) (by omega) ?_ ?_)
 ·rintro i s hi rfl;unfold KB;refine BD (by simp;omega) (AM (b:=List.replicate 13 false) rfl ?_);refine Ji (i:=i) rfl hi (AV ((i+1:Nat):Int) (by simp) (by omega) (by omega) ?_);refine Am (Prod.ext ?_ rfl);simp only [Int.toNat_natCast];rw [M3];refine List.map_congr_left fun j _=>?_;by_cases e:j=i
  ·rw [if_pos e,if_pos (by omega)]
  ·rw [if_neg e];by_cases e2:j<i
   ·rw [if_pos e2,if_pos (by omega)]
   ·rw [if_neg e2,if_neg (by omega)]
 ·rintro s rfl;unfold KB;refine Bj (by simp) (Am ⟨_,rfl,?_⟩);unfold Gr;refine List.map_congr_left fun j K=>?_;rw [if_pos (List.mem_range.1 K),Oz]
theorem Un{F n k y Y:Nat}{J:JW}{K:BP}{ak al:Ft}{q:Int×Int×Int}(av:1000000<F)(U:VJ n J)(Z:Ct n K)(am:Y=max (y+1) (Dd K+1))(aw:y≤6)(an:q.2.2=(y:Int)):
  AY (iter (Kz F (J,ak) (K,al) ((k:Int),0) q (Fo J (Y - 1) 13)) F (Gr n fun _ _=>false,0)) (fun r=>∃G,r=Gr n G∧∀m b,m<n→b<13→(G m b=true↔BS J (D6 J K k) y m b)):=by
 have ay:=IA Z;have hlen:=Qz (k:=13) U (show Y - 1≤7 by omega);have ah:∀m b,BS J (D6 J K k) y m b↔_:=fun m b=>WA (k:=k) (m:=m) (b:=b) U Z am;have ai:∀t∈Fo J (Y - 1) 13,_:=fun t ht=>(Oa U).1 ht;generalize Fo J (Y - 1) 13=all at hlen ah ai ⊢;refine Cj all.length (fun i s=>∃G,s=(Gr n G,(i:Int))∧∀m b,m<n→b<13→(G m b=true↔∃t∈all.take i,FF J K t.2=true∧(K.filter (CX t.2)).length=k∧t.2[y]? =some (m:Int)∧t.1=(b:Int))) ⟨_,rfl,by simp⟩ (by omega) ?_ ?_
 ·rintro i s hi ⟨G,rfl,W⟩;unfold Kz;obtain⟨t,ht⟩:∃t,all[i]? =some t:=⟨_,List.getElem?_eq_getElem hi⟩;obtain⟨a,ao,t1,t2,t3⟩:=ai t (List.mem_of_getElem? ht);obtain⟨u,hu⟩:∃u,t.2[y]? =some u:=⟨_,List.getElem?_eq_getElem (by omega)⟩;obtain⟨u1,az⟩:=t3.range U y u hu;obtain⟨O,rfl⟩:∃O:Nat,u=(O:Int):=⟨u.toNat,by omega⟩;have aj:∀m b:Nat,(∃t∈all.take (i+1),FF J K t.2=true∧(K.filter (CX t.2)).length=k∧t.2[y]? =some (m:Int)∧t.1=(b:Int))↔((∃t∈all.take i,FF J K t.2=true∧(K.filter (CX t.2)).length=k∧t.2[y]? =some (m:Int)∧t.1=(b:Int))∨((FF J K t.2=true∧(K.filter (CX t.2)).length=k)∧m=O∧b=a)):=fun m b=>by
   rw [List.take_add_one,ht];simp only [Option.toList_some,List.mem_append,List.mem_singleton];constructor
   ·rintro⟨x,ab | rfl,V,aa,ae,ap⟩
    ·exact .inl ⟨x,ab,V,aa,ae,ap⟩
    ·rw [hu] at ae;have aA:(O:Int)=(m:Int):=Option.some.inj ae;exact .inr ⟨⟨V,aa⟩,by omega,by omega⟩
   ·rintro(⟨x,ab,V⟩ | ⟨⟨V,aa⟩,rfl,rfl⟩)
    ·exact⟨x,.inl ab,V⟩
    ·exact⟨t,.inr rfl,V,aa,hu,t1⟩
  refine BD (by simp only;omega) (AM (Dk (m:=i) rfl ht) ?_);refine AM (UD (by omega) U Z (fun l aq=>by have:=L2 Z l aq;omega) (fun y m hm=>t3.range U y m hm)) (AI (S:=fun c=>c=decide (FF J K t.2=true∧(K.filter (CX t.2)).length=k)) ?_ ?_)
  ·by_cases hs:FF J K t.2=true
   ·rw [if_pos hs];refine BD rfl (Am ?_);refine decide_eq_decide.2 ?_;simp only [hs,true_and];omega
   ·rw [if_neg hs];exact Bj (by simp) (Am (by simp [hs]))
  ·rintro c rfl;refine AI (S:=fun r=>∃G,r=Gr n G∧∀m b,m<n→b<13→(G m b=true↔∃t∈all.take (i+1),FF J K t.2=true∧(K.filter (CX t.2)).length=k∧t.2[y]? =some (m:Int)∧t.1=(b:Int))) ?_ ?_
   ·refine By (fun h=>?_) (fun h=>?_)
    ·have h:=of_decide_eq_true h;refine AM (Dk (m:=i) rfl ht) ?_;rw [an];refine AM (Dk (m:=y) rfl hu) ?_;refine AM (b:=(List.range 13).map fun b=>G O b) (Dk (m:=O) rfl (by simp only [Gr];exact IK (by omega))) ?_;refine AM (Dk (m:=i) rfl ht) ?_;refine Ji (i:=a) t1 ao ?_;refine Am ⟨fun m b=>if m=O then(if b=a then true else G O b) else G m b,?_,fun m b hm hb=>?_⟩
     ·simp only [Gr,t1,Int.toNat_natCast];rw [M3,M3];refine List.map_congr_left fun m _=>?_;by_cases e:m=O
      ·simp only [e,if_pos]
      ·simp only [e,if_false]
     ·rw [aj,← W m b hm hb];by_cases e:m=O
      ·subst e;by_cases e2:b=a
       ·subst e2;simp [h]
       ·simp [e2]
      ·simp [e]
    ·have h:¬(FF J K t.2=true∧(K.filter (CX t.2)).length=k):=by simpa using h
     refine Am ⟨G,rfl,fun m b hm hb=>?_⟩;rw [aj,W m b hm hb];constructor
     ·exact .inl
     ·rintro(ag | ⟨ag,_⟩)
      ·exact ag
      ·exact absurd ag h
   ·rintro r ⟨ar,rfl,au⟩;exact AV ((i+1:Nat):Int) (by simp) (by omega) (by omega) (Am ⟨ar,rfl,au⟩)
 ·rintro s ⟨G,rfl,W⟩;unfold Kz;rw [List.take_length] at W;exact Bj (by simp only;omega) (Am ⟨_,rfl,G,rfl,fun m b hm hb=>(W m b hm hb).trans (ah m b).symm⟩)
theorem T2{F n:Nat}{G:Nat→Nat→Bool}(U:100<F)(K:n≤8):iter (Ky F (Gr n G)) F (0,0)=some ((C3 (fun m=>Cw (G m)) n:Nat):Int):=by
 refine Dq (Cj n (fun i s=>s=(((C3 (fun m=>Cw (G m)) i:Nat):Int),(i:Int))) rfl (by omega) ?_ ?_)
 ·rintro i s hi rfl;unfold Ky;refine BD (by simp [Gr];omega) (AI (S:=fun c=>c=((Cw (G i):Nat):Int)) ?_ ?_)
  ·refine Cj 13 (fun x s=>s=((((List.range x).countP (G i):Nat):Int),(x:Int))) rfl (by omega) ?_ ?_
   ·rintro x s O rfl;unfold MC;have V:(List.range x).countP (G i)≤13:=Nat.le_trans List.countP_le_length (by simp;omega);have K:(List.range (x+1)).countP (G i)=(List.range x).countP (G i)+if G i x=true then 1 else 0:=by
     rw [List.range_succ,List.countP_append];simp [List.countP_cons]
    refine BD (by simp only;omega) (AM (b:=(List.range 13).map fun b=>G i b) (Dk (m:=i) rfl (by simp only [Gr];exact IK hi)) ?_);refine Ji (i:=x) rfl O (AI (S:=fun c=>c=(((List.range (x+1)).countP (G i):Nat):Int)) ?_ ?_)
    ·refine By (fun h=>?_) (fun h=>?_)
     ·refine AV (((List.range x).countP (G i)+1:Nat):Int) (by simp) (by omega) (by omega) (Am ?_);rw [K,if_pos h]
     ·refine Am ?_;rw [K,if_neg h];rfl
    ·rintro c rfl;exact AV ((x+1:Nat):Int) (by simp) (by omega) (by omega) (Am rfl)
   ·rintro s rfl;unfold MC;exact Bj (by simp) (Am ⟨_,rfl,rfl⟩)
  ·rintro c rfl;refine AV ((i+1:Nat):Int) (by simp) (by omega) (by omega) (Am (Prod.ext ?_ rfl));simp only [C3];omega
 ·rintro s rfl;unfold Ky;exact Bj (by simp [Gr]) (Am ⟨_,rfl,rfl⟩)
theorem Qe{C D:Nat→Nat}:∀{n:Nat},(∀m,m<n→C m=D m)→C3 C n=C3 D n
 | 0,_=>rfl
 | n+1,h=>by
  unfold C3
  rw [Qe fun m hm=>h m (by omega),h n (by omega)]
theorem Xv{F:Nat}(ai:3489660928<F)(hs:f22 F=some true)(Nq:List Int):f11 F Nq=some true:=by
 refine Dq ?_;unfold f11;refine AM (b:=(Nq,0,2685821657736338717)) rfl (AI (XX (F:=F) (k:=0) (mx:=5) (b:=(Nq,0,2685821657736338717)) (by omega) ⟨Int.le_refl _,Int.le_refl _⟩ (by omega) (by omega) (by omega)) ?_);rintro⟨J,b⟩ ⟨⟨n,ay,K⟩,hb⟩;simp only at K hb ⊢;have Z:100<F:=by omega
 have ae:=K.le;have aj:=K.l1;refine AI (Xg (many:=3) Z K hb (by omega) (by omega)) ?_;rintro⟨O,az⟩ ⟨U,ak,_,_⟩;simp only at U ak ⊢;have aA:=IA U;refine AI (WB ai K U (by omega)) ?_;intro aB ag;refine AI (XQ (by omega) K U (by omega)) ?_;rintro aC (⟨aa,rfl⟩ | ⟨k,V,rfl⟩)
 ·rcases ag with⟨_,rfl⟩ | ⟨k,V,_⟩
  ·refine BD rfl (AM (b:=true) (by simp) ?_);refine AM (b:=true) (by simp) (AM (b:=true) ?_ (Am rfl));rw [if_pos rfl,hs];rfl
  ·obtain⟨⟨t,ht,_⟩,_⟩:=V;rw [aa] at ht;simp at ht
 ·rcases ag with⟨aa,_⟩ | ⟨k',al,W⟩
  ·obtain⟨⟨t,ht,_⟩,_⟩:=V;rw [aa] at ht;simp at ht
  obtain rfl:=V.uniq al;have am:k≤4:=by
   obtain⟨⟨t,ht,rfl⟩,_⟩:=V;obtain⟨a,aD,an⟩:=KG.1 ht;rw [Oh K U an];exact Nat.le_trans (List.length_filter_le _ _) (by omega)
  obtain⟨f,ab⟩:=Mo fun y m b=>BS J (D6 J O k) y m b;obtain⟨g0,ao⟩:=Mo fun _ _ b=>∃t∈D6 J O k,t.1=((b:Nat):Int);generalize ap:g0 0 0=g;have ah:∀b,g b=true↔∃t∈D6 J O k,t.1=((b:Nat):Int):=by rw [← ap];exact ao 0 0
  have W:=W f g ab ah;have hw:=Ui V ah;have aq:GZ J O k≠ []:=fun e=>by
   obtain⟨t,ht,aE⟩:=V.1;have:t.1∈GZ J O k:=Uj.2 ⟨t,ht,by omega,rfl⟩;rw [e] at this;simp at this
  refine Bj (by simp) (AM (W5 (p:=k) (by omega) K U (by omega) am) ?_);rw [if_neg aq];refine AM (b:=false) (by simp) (Bj (by simp) ?_);refine AI (S:=fun r=>r=EI (fun y=>C3 (fun m=>Cw (f y m)) 8) (Cw g) 7) ?_ ?_
  ·refine Cj 7 (fun y s=>s=((EI (fun y=>C3 (fun m=>Cw (f y m)) 8) (Cw g) y).1,(EI (fun y=>C3 (fun m=>Cw (f y m)) 8) (Cw g) y).2,(y:Int))) (by rw [hw];rfl) (by omega) ?_ ?_
   ·rintro y s aF rfl;unfold MY;refine BD (by simp only;omega) (AV ((y+1:Nat):Int) (by simp) (by omega) (by omega) ?_);refine AM (X5 U) ?_;have ar:max ((y+1:Nat):Int) ((Dd O+1:Nat):Int)=((max (y+1) (Dd O+1):Nat):Int):=by omega
    simp only [ar];refine AM (Xi (Y:=max (y+1) (Dd O+1)) (by omega) K (by omega) (by omega)) (AM (b:=List.replicate n []) (by unfold Gh;rw [if_pos (by omega),aj];rfl) ?_);refine AM (Vz Z ae) (AI (Un (by omega) K U rfl (by omega) rfl) ?_);rintro r ⟨G,rfl,au⟩;refine AM (T2 Z ae) ?_;have hm:C3 (fun m=>Cw (G m)) n=C3 (fun m=>Cw (f y m)) 8:=by
     have av:C3 (fun m=>Cw (G m)) n=C3 (fun m=>Cw (f y m)) n:=Qe fun m hm=>List.countP_congr fun b hb=>by
      rw [au m b hm (List.mem_range.1 hb),ab]
     rw [av];have:=QB (C:=fun m=>Cw (f y m)) (n:=n) (fun m hm=>Qm fun b _=>by
      rw [Bool.eq_false_iff]
      intro hb
      obtain⟨t,_,_,e,aw,he⟩:=(ab y m b).1 hb
      have:=aw.range K _ _ he
      omega) (8 - n)
     rw [show n+(8 - n)=8 by omega] at this;exact this.symm
    rw [hm];refine AM (b:=EI (fun y=>C3 (fun m=>Cw (f y m)) 8) (Cw g) (y+1)) ?_ ?_
    ·simp only [EI];split <;> rfl
    exact AV ((y+1:Nat):Int) (by simp) (by omega) (by omega) (Am rfl)
   ·rintro s rfl;unfold MY;exact Bj (by simp only;omega) (Am ⟨_,rfl,rfl⟩)
  ·rintro r rfl;unfold JI at W;refine By (fun h=>?_) (fun h=>?_)
   ·rw [if_pos h] at W;subst W;refine AM (b:=true) (by simp) (AM (b:=true) (by simp) ?_);refine AM (b:=true) ?_ (Am rfl);rw [if_pos rfl,hs];rfl
   ·rw [if_neg h] at W;subst W;refine AM (b:=true) (by simp) (AM (b:=true) (by simp) ?_);refine AM (b:=true) ?_ (Am rfl);rw [if_pos rfl,hs];rfl
end Pal
