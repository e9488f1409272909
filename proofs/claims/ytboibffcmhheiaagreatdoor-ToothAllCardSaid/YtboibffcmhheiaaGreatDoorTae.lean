/- ToothAll: gone through one by one, all horses say what the program says Part 5 of 8. -/
import Derived.Test.YtboibffcmhheiaaGreatDoorTab
import Derived.Test.YtboibffcmhheiaaGreatDoorTac
import Derived.Test.YtboibffcmhheiaaGreatDoorTad
import Derived.ProofKit
set_option linter.all false
set_option maxRecDepth 100000
namespace Pal
theorem WS(J:JW){a:Nat}(K:a<13):(Gi J)[a]? =some (AG J a):=by simp [Gi,K]
abbrev Fp:=List Int×Int×Nat
def BG(k:Nat)(b:Fp):Prop:=0≤b.2.1∧b.2.1≤(k:Int)
theorem BG.Ai{k k':Nat}{b:Fp}(h:BG k b)(K:k≤k'):BG k' b:=⟨h.1,by have:=h.2;omega⟩
theorem WE{F k:Nat}{b:Fp}(hb:BG k b)(K:k<1000000):A5 (f100 F b) (fun r=>r.1<2 ^ 64∧BG (k+1) r.2):=by
 obtain⟨O,U⟩:=hb;unfold f100;refine AX (b.2.1+1) rfl (by omega) (by omega) ?_;have key:∀x:Nat,(x % 2 ^ 64)>>>11<2 ^ 64:=fun x=>Nat.lt_of_le_of_lt (Nat.shiftRight_le _ _) (Nat.mod_lt _ (Nat.two_pow_pos 64));refine AI (S:=fun _=>True) ?_ ?_
 ·refine By (fun h=>?_) (fun h=>?_)
  ·refine AX b.2.1 (by omega) (by omega) (by omega) (Bv (m:=b.2.1.toNat) (by omega) (by omega) ?_);exact Al trivial
  ·exact Al trivial
 ·intro x _;exact Al ⟨key _,by simp only;omega,by simp only;omega⟩
theorem Uo{a:Nat}(h:a<2 ^ 62):LF a=(a:Int):=by
 unfold LF;exact Ii (by omega)
theorem HV{F k:Nat}{b:Fp}{m:Int}(hb:BG k b)(O:k<1000000)(hm:m<1000000):A5 (f41 F b m) (fun r=>0≤r.1∧(r.1≤m∨r.1=0)∧BG (k+1) r.2):=by
 unfold f41;refine AI (WE hb O) ?_;rintro⟨x,W⟩ ⟨Z,K⟩;refine By (fun h=>?_) (fun h=>?_)
 ·exact Al ⟨by simp,.inr rfl,K⟩
 ·have U:Dm m=m.toNat:=by unfold Dm;omega
  have e2:(Dm m+1) % 2 ^ 64=m.toNat+1:=by rw [U];omega
  have V:x % (m.toNat+1)<m.toNat+1:=Nat.mod_lt _ (by omega);refine AP (b:=x % (m.toNat+1)) (by rw [e2];unfold Ns;rw [if_neg (by omega)]) ?_;refine Al ?_;simp only;generalize x % (m.toNat+1)=z at V ⊢;rw [Uo (by omega)];exact⟨by omega,.inl (by omega),K⟩
theorem OK{F k:Nat}{b:Fp}{lo hi:Int}(hb:BG k b)(O:k<1000000)(V:0≤lo)(W:lo≤hi)(Z:hi<1000):A5 (f96 F b lo hi) (fun r=>lo≤r.1∧r.1≤hi∧BG (k+1) r.2):=by
 unfold f96;refine AX (hi - lo) rfl (by omega) (by omega) (AI (HV hb O (by omega)) ?_);rintro⟨x,aa⟩ ⟨U,g2,K⟩;simp only at U g2 K ⊢;exact AX (lo+x) rfl (by omega) (by omega) (Al ⟨by simp only;omega,by simp only;omega,K⟩)
theorem K1{F k:Nat}{b:Fp}{m:Int}(hb:BG k b)(K:k<1000000)(U:1≤m)(V:m<1000):A5 (f97 F b m) (fun r=>BG (k+1) r.2):=by
 unfold f97;refine AX (m - 1) rfl (by omega) (by omega) (AI (HV hb K (by omega)) ?_);rintro⟨x,W⟩ ⟨Z,g2,O⟩;exact Al O
theorem MQ{F k:Nat}{b:Fp}{l:List Int}(hb:BG k b)(U:k<1000000)(W:0<l.length)(Z:l.length<1000):A5 (f99 F b l) (fun r=>r.1∈l∧BG (k+1) r.2):=by
 unfold f99;refine AX ((l.length - 1:Nat):Int) (by omega) (by omega) (by omega) (AI (HV hb U (by omega)) ?_);rintro⟨x,aa⟩ ⟨V,g2,K⟩;simp only at V g2 K ⊢;have O:x.toNat<l.length:=by omega
 exact Bv (m:=x.toNat) (by omega) O (Al ⟨List.getElem_mem O,K⟩)
theorem WW{F:Nat}{x:Int}(K:100<F):f98 F [] x=some [x]:=by
 obtain⟨F,rfl⟩:∃k,F=k+1:=⟨F - 1,by omega⟩;refine CV ?_;unfold f98;refine AP (b:=([],false)) ?_ ?_
 ·unfold iter;rfl
 ·refine AP (b:= [x]) ?_ (Al rfl)
  rfl
theorem Wa{F:Nat}{a x:Int}(ag:100<F):f98 F [a] x=some (if x<a then [x,a] else if x=a then [a] else [a,x]):=by
 obtain⟨F,rfl⟩:∃k,F=k+2:=⟨F - 2,by omega⟩;refine CV ?_;unfold f98;have U:Av 1=some 1:=rfl;have V:ix [a] 0=some a:=rfl;have r0:room ([]:List Int) x=some [x]:=if_pos (by simp);have aa:room ([]:List Int) a=some [a]:=if_pos (by simp);have ab:room [x] a=some [x,a]:=if_pos (by simp);have ae:room [a] x=some [a,x]:=if_pos (by simp);have step:JP (F+2) [a] x ([],false,0)=some (.more (if x<a then([x,a],true,1) else if x=a then([x],true,1) else([a],false,1))):=by
  unfold JP;rcases Int.lt_trichotomy x a with h | h | h
  ·have W:x≤a:=by omega
   have Z:a≠x:=by omega
   simp [V,h,W,Z,r0,ab,U]
  ·subst h;simp [V,r0,U]
  ·have W:¬x≤a:=by omega
   have Z:a≠x:=by omega
   have K:¬x<a:=by omega
   have O:¬x=a:=by omega
   simp [V,W,Z,K,O,aa,U]
 have last:∀(o:List Int) (b:Bool),JP (F+2) [a] x (o,b,1)=some (.done (o,b)):=by
  intro o b;unfold JP;simp
 rcases Int.lt_trichotomy x a with h | h | h
 ·rw [if_pos h] at step;refine AP (b:=([x,a],true)) ?_ ?_
  ·unfold iter;rw [step];simp only;unfold iter;rw [last]
  ·rw [if_pos h];exact AP (b:= [x,a]) (by simp) (Al rfl)
 ·subst h;rw [if_neg (by omega),if_pos rfl] at step;refine AP (b:=([x],true)) ?_ ?_
  ·unfold iter;rw [step];simp only;unfold iter;rw [last]
  ·rw [if_neg (show ¬x<x by omega),if_pos (rfl:x=x)];exact AP (b:= [x]) (by simp) (Al rfl)
 ·have K:¬x<a:=by omega
  have O:¬x=a:=by omega
  rw [if_neg K,if_neg O] at step;refine AP (b:=([a],false)) ?_ ?_
  ·unfold iter;rw [step];simp only;unfold iter;rw [last]
  ·rw [if_neg K,if_neg O];exact AP (b:= [a,x]) (by simp [ae]) (Al rfl)
theorem R2{F n:Nat}{l:List Int}{x:Int}(O:100<F)(U:HB n l)(V:l.length≤1)(W:0≤x∧x<(n:Int)):A5 (f98 F l x) (fun r=>VL n r∧0<r.length∧r.length≤l.length+1∧∀y∈r,y=x∨y∈l):=by
 match l,V with
 | [],_=>
  rw [WW O];exact Al ⟨⟨by simp,fun y K=>by simp at K;subst K;exact W,by simp⟩,by simp,by simp,fun y K=>by simpa using K⟩
 | [a],_=>
  rw [Wa O];have Z:=U a (by simp);refine Al ?_;rcases Int.lt_trichotomy x a with h | h | h
  ·rw [if_pos h];exact⟨⟨by simp,fun y K=>by simp at K;rcases K with rfl | rfl <;> assumption,by simpa using h⟩,by simp,by simp,fun y K=>by simpa using K⟩
  ·rw [if_neg (by omega),if_pos h];exact⟨⟨by simp,fun y K=>by simp at K;subst K;exact Z,by simp⟩,by simp,by simp,fun y K=>by simp at K;subst K;simp⟩
  ·rw [if_neg (by omega),if_neg (by omega)];exact⟨⟨by simp,fun y K=>by simp at K;rcases K with rfl | rfl <;> assumption,by simpa using h⟩,by simp,by simp,fun y K=>by simp at K;rcases K with rfl | rfl <;> simp⟩
 | a::b::l,h=>simp at h
structure PJ (n i:Nat) (N K:List (List Int)):Prop where
 l1:N.length=i
 l2:K.length=i
 nx:∀(q:Nat) l,N[q]? =some l→VL n l∧0<l.length
 fl:∀(q:Nat) l,K[q]? =some l→VL n l∧(q:Int) ∉ l
theorem PJ.snoc{n i:Nat}{N U:List (List Int)}{a b:List Int}(h:PJ n i N U)(V:VL n a∧0<a.length)(hb:VL n b∧(i:Int) ∉ b):PJ n (i+1) (N++ [a]) (U++ [b]):=by
 refine⟨by simp [h.l1],by simp [h.l2],fun q l K=>?_,fun q l K=>?_⟩
 ·rcases Nat.lt_or_ge q N.length with O | O
  ·rw [List.getElem?_append_left O] at K;exact h.nx q l K
  ·rw [List.getElem?_append_right O] at K;have:q - N.length=0:=by
    rcases Nat.eq_zero_or_pos (q - N.length) with e | e
    ·exact e
    ·rw [List.getElem?_eq_none (by simp;omega)] at K;cases K
   rw [this] at K;simp at K;subst K;exact V
 ·rcases Nat.lt_or_ge q U.length with O | O
  ·rw [List.getElem?_append_left O] at K;exact h.fl q l K
  ·rw [List.getElem?_append_right O] at K;have e:q - U.length=0:=by
    rcases Nat.eq_zero_or_pos (q - U.length) with e | e
    ·exact e
    ·rw [List.getElem?_eq_none (by simp;omega)] at K;cases K
   rw [e] at K;simp at K;subst K;have:q=i:=by have:=h.l2;omega
   subst this;exact hb
theorem UD{F n i k:Nat}{ab:Int×Fp}{ae:(List (List Int))×(List (List Int))×(List Int)×Int×Nat×Int}{b:Fp}{c:Int}(ao:100<F)(ag:ab.1=(n:Int))(ah:ae.2.2.2.2.2=(i:Int))(hi:i<n)(au:n≤8)(hb:BG k b)(av:k<1000)(aw:c=0∨c=1∨c=2):
  A5 (iter (M5 F ab ae) F (b.1,b.2.1,b.2.2,[],c)) (fun r=>VL n r.1∧(i:Int) ∉ r.1∧BG (k+10) r.2):=by
 refine Ot (fun m st=>∃(l:List Int) (K:Fp),st=(K.1,K.2.1,K.2.2,l,(m:Int))∧m≤2∧VL n l∧(i:Int) ∉ l∧l.length≤2 - m∧BG (k+10 - 4*m) K) ?_ (m:=c.toNat) ⟨[],b,by simp;omega,by omega,⟨by simp,fun x ap=>by simp at ap,by simp⟩,by simp,by simp,hb.Ai (by omega)⟩ (by omega);rintro m st ⟨l,K,rfl,ay,W,Z,hlen,ai⟩;unfold M5;refine AI (S:=fun q=>q=decide (0<m∧1<n)) ?_ ?_
 ·refine By (fun h=>?_) (fun h=>?_)
  ·refine Al ?_;rw [ag];exact decide_eq_decide.2 ⟨fun aj=>⟨by simp only at h;omega,by omega⟩,fun aj=>by omega⟩
  ·refine Al ?_;have:¬0<m:=by simp only at h;omega
   simp [this]
 ·rintro q rfl;refine By (fun h=>?_) (fun h=>?_)
  ·have aj:0<m∧1<n:=of_decide_eq_true h;refine AX ((i:Int) - 1) (by rw [ah]) (by omega) (by omega) ?_;refine AI (HV (F:=F) (b:=(K.1,K.2.1,K.2.2)) (m:=max 0 ((i:Int) - 1)) ai (by omega) (by omega)) ?_;rintro⟨y,az⟩ ⟨ak,g2,al⟩;simp only at ak g2 al ⊢;refine AI (K1 (F:=F) al (by omega) (by omega) (by omega)) ?_;rintro⟨o,aA⟩ aa;simp only at aa ⊢;refine AI (S:=fun r=>0≤r.1∧r.1<(n:Int)∧BG (k+10 - 4*m+1+1+1) r.2) ?_ ?_
   ·refine By (fun _=>?_) (fun _=>?_)
    ·refine AX ((n:Int) - 1) (by rw [ag]) (by omega) (by omega) (AI (HV (F:=F) aa (by omega) (by omega)) ?_);rintro⟨z,am⟩ ⟨O,U,V⟩;exact Al ⟨O,by simp only at O U ⊢;omega,V⟩
    ·exact Al ⟨ak,by simp only;omega,BG.Ai aa (by omega)⟩
   ·rintro⟨z,am⟩ ⟨O,U,V⟩;simp only at O U V ⊢;refine AI (S:=fun r=>VL n r∧(i:Int) ∉ r∧r.length≤l.length+1) ?_ ?_
    ·rw [ah];refine By (fun aq=>?_) (fun _=>?_)
     ·refine AI (R2 (F:=F) ao W.inr (by omega) ⟨O,U⟩) ?_;rintro r ⟨v1,v2,an,v4⟩;refine Al ⟨v1,fun ar=>?_,an⟩;rcases v4 _ ar with e | e
      ·exact aq e.symm
      ·exact Z e
     ·exact Al ⟨W,Z,by omega⟩
    ·rintro r ⟨v1,v2,an⟩;exact AX ((m - 1:Nat):Int) (by omega) (by omega) (by omega) (Al ⟨m - 1,by omega,r,am,rfl,by omega,v1,v2,by omega,V.Ai (by omega)⟩)
  ·exact Al ⟨W,Z,ai.Ai (by omega)⟩
theorem Yj{F k mx:Nat}{b:Fp}(ai:100<F)(hb:BG k b)(aA:k<100)(aB:1≤mx)(aC:mx≤8):A5 (f39 F b (mx:Int)) (fun r=>(∃n,n≤mx∧VJ n r.1)∧BG (k+301) r.2):=by
 unfold f39;refine AI (OK (F:=F) hb (by omega) (by omega) (by omega) (by omega)) ?_;rintro⟨aj,au⟩ ⟨n1,n2,ak⟩;simp only at n1 n2 ak;obtain⟨n,rfl⟩:∃n:Nat,aj=(n:Int):=⟨aj.toNat,by omega⟩;have aD:1≤n:=by omega
 have al:n≤8:=by omega
 refine AI (S:=fun r=>PJ n n r.2.2.2.1 r.2.2.2.2∧BG (k+301) (r.1,r.2.1,r.2.2.1)) ?_ ?_
 ·refine Cq n (fun i st=>∃(N O:List (List Int)) (W:Fp),st=(N,O,W.1,W.2.1,W.2.2,(i:Int))∧PJ n i N O∧BG (k+1+30*i) W) ⟨[],[],au,rfl,⟨rfl,rfl,fun q l aa=>by simp at aa,fun q l aa=>by simp at aa⟩,ak⟩ (by omega) ?_ ?_
  ·rintro i st hi ⟨N,O,Z,rfl,K,ab⟩;unfold M0;refine BI (by simp only;omega) (AX ((n:Int) - 1) rfl (by omega) (by omega) ?_);refine AX ((i+1:Nat):Int) (by simp) (by omega) (by omega) (AI (K1 (F:=F) (b:=(Z.1,Z.2.1,Z.2.2)) ab (by omega) (by omega) (by omega)) ?_);rintro⟨o,aE⟩ g2;simp only at g2 ⊢;have am:HB n [min ((n:Int) - 1) ((i+1:Nat):Int)]:=fun x U=>by simp at U;subst U;omega
   refine AI (S:=fun r=>VL n r.1∧0<r.1.length∧BG (k+1+30*i+2) r.2) ?_ ?_
   ·refine By (fun _=>?_) (fun _=>?_)
    ·refine AX ((n:Int) - 1) rfl (by omega) (by omega) (AI (OK (F:=F) g2 (by omega) (by omega) (by omega) (by omega)) ?_);rintro⟨y,an⟩ ⟨ae,ag,V⟩;simp only at ae ag V ⊢;refine AI (R2 (F:=F) ai am (by simp) ⟨by omega,by omega⟩) ?_;rintro r ⟨v1,v2,aF,v4⟩;exact Al ⟨v1,v2,V⟩
    ·exact Al ⟨⟨by simp,am,by simp⟩,by simp,BG.Ai g2 (by omega)⟩
   ·rintro⟨nx,an⟩ ⟨w1,w2,w3⟩;simp only at w1 w2 w3 ⊢;refine AI (K1 (F:=F) (b:=an) w3 (by omega) (by omega) (by omega)) ?_;rintro⟨o2,aG⟩ ah;simp only at ah ⊢;refine AI (S:=fun r=>VL n r.1∧0<r.1.length∧BG (k+1+30*i+4) r.2) ?_ ?_
    ·refine By (fun _=>?_) (fun _=>?_)
     ·refine AX ((n:Int) - 1) rfl (by omega) (by omega) (AI (HV (F:=F) ah (by omega) (by omega)) ?_);rintro⟨y,ao⟩ ⟨ae,ag,V⟩;simp only at ae ag V ⊢;exact Al ⟨⟨by simp,fun x U=>by simp at U;subst U;omega,by simp⟩,by simp,V⟩
     ·exact Al ⟨w1,w2,BG.Ai ah (by omega)⟩
    ·rintro⟨ap,ao⟩ ⟨u1,u2,aq⟩;simp only at u1 u2 aq ⊢;refine AI (MQ (F:=F) (b:=ao) aq (by omega) (by simp) (by simp)) ?_;rintro⟨c,av⟩ ⟨ar,c2⟩;simp only at ar c2 ⊢;have aw:c=0∨c=1∨c=2:=by simp at ar;omega
     refine AI (UD (F:=F) (b:=av) ai rfl rfl hi al c2 (by omega) aw) ?_;rintro⟨fl,ay⟩ ⟨t1,t2,t3⟩;simp only at t1 t2 t3 ⊢;have aH:=K.l1;have aI:=K.l2;refine AP (b:=N++ [ap]) (if_pos (by simp;omega)) (AP (b:=O++ [fl]) (if_pos (by simp;omega)) ?_);exact AX ((i+1:Nat):Int) (by simp) (by omega) (by omega) (Al ⟨N++ [ap],O++ [fl],ay,rfl,K.snoc ⟨u1,u2⟩ ⟨t1,t2⟩,t3.Ai (by omega)⟩)
  ·rintro st ⟨N,O,Z,rfl,K,ab⟩;unfold M0;refine Bf (by simp) (Al ⟨_,rfl,K,ab.Ai (by omega)⟩)
 ·rintro⟨aJ,aK,aL,N,O⟩ ⟨K,az⟩;refine Al ⟨⟨n,by omega,?_⟩,az⟩;exact⟨by omega,al,K.l1,K.l2,K.nx,K.fl⟩
end Pal
namespace Pal
open Go Go.Conc Go.Proofs
open Go.Proofs.Tryz
end Pal
namespace Pal
def H5(J:JW)(n a:Nat)(d:List Bool):Prop:=d.length=n∧∀m,m<n→d[m]? =some ((AG J a).testBit m)
def Po(J:JW)(n a k:Nat)(d:List Bool):Prop:=d.length=n∧∀x:Nat,x<n→(d[x]? =some true↔∃m,m<k∧(AG J a).testBit m=true∧(x:Int)∈J.1.getD m [])
theorem Po.due{n a:Nat}{J:JW}{d:List Bool}(K:VJ n J)(h:Po J n a n d):H5 J n (a+1) d:=by
 refine⟨h.1,fun x U=>?_⟩;have V:x<d.length:=by rw [h.1];exact U
 rw [List.getElem?_eq_getElem V];congr 1;have W:=h.2 x U;rw [List.getElem?_eq_getElem V,Option.some.injEq] at W;have Z:=Oz K (AG J a) x;have e:d[x]=true↔(AG J (a+1)).testBit x=true:=by
  rw [W];show _↔(GN J.1 (AG J a)).testBit x=true;rw [Z];have ab:=K.le;constructor
  ·rintro⟨m,aa,g2,O⟩;exact⟨m,by omega,g2,O⟩
  ·rintro⟨m,aa,g2,O⟩;exact⟨m,Ik (Iz K a) g2,g2,O⟩
 cases hd:d[x] <;> cases ae:(AG J (a+1)).testBit x <;> simp_all
theorem VM{d:List Bool}{q x:Nat}(K:q<d.length):(d.set q true)[x]? =some true↔d[x]? =some true∨x=q:=by
 by_cases e:q=x
 ·subst e;rw [List.getElem?_set_self K];simp
 ·rw [List.getElem?_set_ne e];constructor
  ·exact .inl
  ·rintro(h | h)
   ·exact h
   ·exact absurd h.symm e
end Pal
namespace Pal
open Go Go.Conc Go.Proofs
open Go.Proofs.Tryz
end Pal
namespace Pal
theorem VJ.Pq{n:Nat}{J:JW}(K:VJ n J)(m:Nat):VL n (J.2.getD m []):=by
 rw [List.getD_eq_getElem?_getD];cases h:J.2[m]? with
 | none=>exact⟨by simp,fun x O=>by simp at O,by simp⟩
 | some l=>exact(K.fl m l h).1
end Pal
namespace Pal
abbrev BH:=List (Int×Int)
structure Cl (n:Nat) (K:BH):Prop where
 len:K.length≤8
 yr:∀l∈K,0≤l.1∧l.1≤6
 sn:∀l∈K,0≤l.2∧l.2<(n:Int)
 II:K.Pairwise (fun a b=>a.1≤b.1)
theorem Wk{F n:Nat}{J:JW}{K:BH}(V:100<F)(O:VJ n J)(U:Cl n K)(W:K.length≤4):f116 F J K=some none:=by
 have Z:=O.l1;have aa:=O.pos;have ab:=O.le;refine CV ?_;unfold f116;refine Bf (by omega) ?_;refine AI (S:=fun q=>q=Sum.inr ()) ?_ (by rintro q rfl;exact Al rfl);refine Cq K.length (fun i s=>s=(i:Int)) rfl (by omega) ?_ ?_
 ·rintro i s hi rfl;unfold Ms;have hm:=List.getElem_mem hi;have ae:=U.yr _ hm;have hs:=U.sn _ hm;refine BI (by omega) (Bv (m:=i) rfl hi ?_);refine AP (IV F _ _ _) (Bf (by simp;omega) ?_);refine AI (S:=fun c=>c=false) ?_ ?_
  ·refine By (fun h=>?_) (fun h=>Al rfl);refine AX ((i - 1:Nat):Int) (by omega) (by omega) (by omega) (Bv (m:=i - 1) rfl (by omega) ?_);have:=List.pairwise_iff_getElem.1 U.II (i - 1) i (by omega) hi (by omega);exact Al (decide_eq_false (by omega))
  ·rintro c rfl;refine Bf (by simp) (AX ((n - 1:Nat):Int) (by omega) (by omega) (by omega) ?_);refine AP (IV F _ _ _) (Bf (by simp;omega) ?_);exact AX ((i+1:Nat):Int) (by simp) (by omega) (by omega) (Al rfl)
 ·rintro s rfl;unfold Ms;exact Bf (by omega) (Al ⟨_,rfl,rfl⟩)
theorem OO{F n:Nat}{J:JW}{K:BH}(O:100<F)(U:VJ n J)(V:Cl n K)(W:K.length≤4):f69 F J K=some 0:=by
 unfold f69;rw [RR O U];simp only [Option.bind_some,Option.isSome_none,Bool.false_eq_true,if_false];rw [Wk O U V W];simp only [Option.bind_some];rw [TX];rfl
def DU(K:BH):Nat:=match K.getLast? with
 | some l=>l.1.toNat
 | none=>0
theorem Jv{n:Nat}{K:BH}(O:Cl n K):DU K≤6:=by
 unfold DU;split
 ·rename_i l h;have:=O.yr l (List.mem_of_getLast? h);omega
 ·omega
theorem QL{F n:Nat}{U:JW}{A:List Nat}{K:BH}{age:Int}{ms:List Int}{fl:Nat}(V:Cl n K):Lp F ((U.1,U.2,A),K,age,ms,fl)=some ((DU K:Nat):Int):=by
 have W:=V.len;refine CV ?_;unfold Lp DU;refine By (fun h=>?_) (fun h=>?_)
 ·simp only at h;have:K= []:=List.length_eq_zero_iff.1 (by omega);subst this;exact Al rfl
 ·simp only at h;have O:K.length - 1<K.length:=by omega
  refine AX ((K.length - 1:Nat):Int) (by simp only;omega) (by omega) (by omega) (Bv (m:=K.length - 1) rfl O ?_);rw [List.getLast?_eq_getElem?,List.getElem?_eq_getElem O];have:=V.yr _ (List.getElem_mem O);refine Al ?_;simp only;omega
def Ex(J:JW)(m:Int)(l:Int×Int):Bool:=decide (m=l.2) || decide (l.2∈J.2.getD m.toNat [])
def Fu(J:JW)(K:BH)(y:Nat)(m:Int):Bool:=K.all fun l=>decide (l.1≠(y:Int)) || Ex J m l
def Dp(K:BH)(y:Nat)(m:Int):Nat→Nat
 | 0=>0
 | k+1=>match K[k]? with
  | some l=>if l.1=(y:Int)∧m≠l.2 then Dp K y m k ||| 1<<<k else Dp K y m k
  | none=>Dp K y m k
theorem ML(K:BH)(y:Nat)(m:Int):∀k,k≤16→Dp K y m k<65536
 | 0,_=>by unfold Dp;omega
 | k+1,h=>by
  have:=ML K y m k (by omega)
  unfold Dp
  split
  ·split
   ·exact Nr this (Sl (by omega))
   ·exact this
  ·exact this
theorem Ri(aa:BH)(y:Nat)(m:Int)(i:Nat):∀k,(Dp aa y m k).testBit i=true↔i<k∧∃l,aa[i]? =some l∧l.1=(y:Int)∧m≠l.2
 | 0=>by simp [Dp]
 | k+1=>by
  have ab:=Ri aa y m i k
  have hb:(1<<<k).testBit i=decide (i=k):=by
   rw [Nat.one_shiftLeft,Nat.testBit_two_pow];exact decide_eq_decide.2 ⟨fun h=>h.symm,fun h=>h.symm⟩
  have key:∀P:Prop,(i<k∧P↔i<k+1∧P)∨i=k:=fun P=>by
   by_cases e:i=k
   ·exact .inr e
   ·exact .inl ⟨fun h=>⟨by omega,h.2⟩,fun h=>⟨by omega,h.2⟩⟩
  unfold Dp;split
  ·rename_i l U;split
   ·rename_i V;rw [Nat.testBit_or,Bool.or_eq_true,ab,hb,decide_eq_true_iff];constructor
    ·rintro(⟨O,K⟩ | rfl)
     ·exact⟨by omega,K⟩
     ·exact⟨by omega,l,U,V.1,V.2⟩
    ·rintro⟨O,K⟩;by_cases e:i=k
     ·exact .inr e
     ·exact .inl ⟨by omega,K⟩
   ·rename_i V;rw [ab];constructor
    ·rintro⟨O,K⟩;exact⟨by omega,K⟩
    ·rintro⟨O,ae,K,W,Z⟩;by_cases e:i=k
     ·subst e;rw [U] at K;cases K;exact absurd ⟨W,Z⟩ V
     ·exact⟨by omega,ae,K,W,Z⟩
  ·rename_i U;rw [ab];constructor
   ·rintro⟨O,K⟩;exact⟨by omega,K⟩
   ·rintro⟨O,ae,K,W,Z⟩;by_cases e:i=k
    ·subst e;rw [U] at K;cases K
    ·exact⟨by omega,ae,K,W,Z⟩
theorem Wr{F:Nat}{l:List Int}{x:Int}(V:100<F)(W:l.length<100):A5 (f201 F l x) (fun r=>decide (0≤r)=decide (x∈l)):=by
 unfold f201;refine AI (S:=fun q=>match q with | Sum.inl r=>0≤r∧x∈l | Sum.inr _=>x ∉ l) ?_ ?_
 ·refine Cq l.length (fun i s=>s=(i:Int)∧x ∉ l.take i) ⟨rfl,by simp⟩ (by omega) ?_ ?_
  ·rintro i s hi ⟨rfl,K⟩;unfold ME;refine BI (by omega) (Bv (m:=i) rfl hi ?_);refine By (fun h=>?_) (fun h=>?_)
   ·exact Al ⟨by omega,by rw [h];exact List.getElem_mem hi⟩
   ·refine AX ((i+1:Nat):Int) (by simp) (by omega) (by omega) (Al ⟨rfl,?_⟩);rw [List.take_add_one,List.getElem?_eq_getElem hi];simp only [Option.toList_some,List.mem_append,List.mem_singleton];rintro(O | O)
    ·exact K O
    ·exact h O
  ·rintro s ⟨rfl,K⟩;unfold ME;exact Bf (by omega) (Al ⟨_,rfl,by simpa using K⟩)
 ·rintro(r | u) U
  ·exact Al (by rw [decide_eq_true U.1,decide_eq_true U.2])
  ·exact Al (by rw [decide_eq_false U];rfl)
theorem V5{F:Nat}{l:List Int}{x:Int}(K:100<F)(O:l.length<100):f199 F l x=some (decide (x∈l)):=by
 refine CV ?_;unfold f199;refine AI (Wr K O) ?_;intro r U;exact Al U
theorem WI{F n m:Nat}{J:JW}{A:List Nat}{s:Int}(U:100<F)(O:VJ n J)(hm:m<n):f192 F (J.1,J.2,A) (m:Int) s=some (if(m:Int)=s then some ((m:Int),none) else if s∈J.2.getD m [] then some ((m:Int),some s) else none):=by
 have W:=O.l2;refine CV ?_;unfold f192;refine By (fun h=>?_) (fun h=>?_)
 ·rw [if_pos h];exact Al rfl
 ·rw [if_neg h];have V:J.2[m]? =some (J.2.getD m []):=by rw [List.getD_eq_getElem?_getD,List.getElem?_eq_getElem (by omega)];rfl
  refine AP (Ec (m:=m) rfl V) (AP (V5 U (by have:=(O.Pq m).len;omega)) ?_);refine By (fun K=>?_) (fun K=>?_)
  ·rw [if_pos (of_decide_eq_true K)];exact Al rfl
  ·rw [if_neg (of_decide_eq_false (by simpa using K))];exact Al rfl
theorem WX{F n m y:Nat}{J:JW}{A:List Nat}{K:BH}{age:Int}{ms:List Int}{fl:Nat}(ab:100<F)(ae:VJ n J)(ag:Cl n K)(hm:m<n):
  Lm F ((J.1,J.2,A),K,age,ms,fl) (y:Int) (m:Int)=some (if Fu J K y (m:Int)=true then(Dp K y (m:Int) K.length,true) else(0,false)):=by
 have ak:=ag.len;refine CV ?_;unfold Lm;refine AI (S:=fun q=>(Fu J K y (m:Int)=true∧q=Sum.inr (Dp K y (m:Int) K.length))∨(Fu J K y (m:Int)=false∧q=Sum.inl (0,false))) ?_ ?_
 ·refine Cq K.length (fun i s=>s=(Dp K y (m:Int) i,(i:Int))∧∀l∈K.take i,(decide (l.1≠(y:Int)) || Ex J (m:Int) l)=true) ⟨rfl,by simp⟩ (by omega) ?_ ?_
  ·rintro i s hi ⟨rfl,O⟩;unfold Mh;have ah:=ML K y (m:Int) i (by omega);have hg:K[i]? =some K[i]:=List.getElem?_eq_getElem hi;have step:∀(l:Int×Int),l=K[i]→(decide (l.1≠(y:Int)) || Ex J (m:Int) l)=true→∀U∈K.take (i+1),(decide (U.1≠(y:Int)) || Ex J (m:Int) U)=true:=by
    rintro l rfl ai U V;rw [List.take_add_one,hg] at V;simp only [Option.toList_some,List.mem_append,List.mem_singleton] at V;rcases V with h | rfl
    ·exact O U h
    ·exact ai
   have W:Dp K y (m:Int) (i+1)=if K[i].1=(y:Int)∧(m:Int)≠K[i].2 then Dp K y (m:Int) i ||| 1<<<i else Dp K y (m:Int) i:=by
    rw [Dp,hg]
   refine BI (by simp only;omega) (AI (S:=fun q=>(q=Sum.inr (Dp K y (m:Int) (i+1))∧(decide (K[i].1≠(y:Int)) || Ex J (m:Int) K[i])=true)∨(q=Sum.inl (0,false)∧(decide (K[i].1≠(y:Int)) || Ex J (m:Int) K[i])=false)) ?_ ?_)
   ·refine Bv (m:=i) rfl hi (By (fun h=>?_) (fun h=>?_))
    ·refine Al (.inl ⟨?_,by rw [decide_eq_true h];rfl⟩);rw [W,if_neg (fun Z=>h Z.1)]
    ·have aj:K[i].1=(y:Int):=by simpa using h
     refine AP (WI ab ae hm) ?_;by_cases e:(m:Int)=K[i].2
     ·rw [if_pos e];refine AI (S:=fun q=>q=Sum.inr (Dp K y (m:Int) i)) (BI rfl (Al rfl)) ?_;rintro q rfl;refine Al (.inl ⟨?_,by unfold Ex;rw [decide_eq_true e];simp⟩);rw [W,if_neg (fun Z=>Z.2 e)]
     ·rw [if_neg e];by_cases e2:K[i].2∈J.2.getD m []
      ·rw [if_pos e2];refine AI (S:=fun q=>q=Sum.inr (Dp K y (m:Int) i ||| 1<<<i)) ?_ ?_
       ·refine Bf (by simp [J8]) (BI rfl ?_);refine AP (OT F ah (by omega)) (Al rfl)
       ·rintro q rfl;refine Al (.inl ⟨?_,by unfold Ex;rw [show((m:Int)).toNat=m by omega,decide_eq_true e2];simp⟩);rw [W,if_pos ⟨aj,e⟩]
      ·rw [if_neg e2];refine AI (S:=fun q=>q=Sum.inl (0,false)) ?_ ?_
       ·exact Bf (by simp [J8]) (Bf (by simp [LB]) (Al rfl))
       ·rintro q rfl;refine Al (.inr ⟨rfl,?_⟩);unfold Ex;rw [show((m:Int)).toNat=m by omega,decide_eq_false e2,decide_eq_false e,decide_eq_false h];rfl
   ·rintro q (⟨rfl,aa⟩ | ⟨rfl,aa⟩)
    ·rw [Sum.elim_inr];exact AX ((i+1:Nat):Int) (by simp) (by omega) (by omega) (Al ⟨rfl,step _ rfl aa⟩)
    ·rw [Sum.elim_inl];refine Al (.inr ⟨?_,rfl⟩);unfold Fu;rw [List.all_eq_false];exact⟨K[i],List.getElem_mem hi,by rw [aa];simp⟩
  ·rintro s ⟨rfl,O⟩;unfold Mh;refine Bf (by simp only;omega) (Al ⟨_,rfl,.inl ⟨?_,rfl⟩⟩);rw [List.take_length] at O;unfold Fu;exact List.all_eq_true.2 O
 ·rintro q (⟨h,rfl⟩ | ⟨h,rfl⟩)
  ·rw [Sum.elim_inr,if_pos h];exact Al rfl
  ·rw [Sum.elim_inl,if_neg (by rw [h];simp)];exact Al rfl
theorem WU{F n m:Nat}{J:JW}{A:List Nat}{K:BH}{age:Int}{ms:List Int}{fl:Nat}(U:100<F)(V:VJ n J)(O:Cl n K)(hm:m<n)(aa:ms.length<100)(W:fl<65536):
  LC F (J.1,J.2,A) K age ms fl (m:Int)=some (if Fu J K ms.length (m:Int)=true then some (ms++ [(m:Int)],fl ||| Dp K ms.length (m:Int) K.length) else none):=by
 refine CV ?_;unfold LC;refine AP (WX U V O hm) ?_;have Z:=ML K ms.length (m:Int) K.length (by have:=O.len;omega);by_cases h:Fu J K ms.length (m:Int)=true
 ·rw [if_pos h,if_pos h];refine Bf (by simp) (AP (b:=ms) ?_ ?_)
  ·unfold f175 Lq;have:Dy ([]:List Int) ms=some ms:=by unfold Dy;rw [if_pos (by simp;omega)];rfl
   rw [this];rfl
  ·refine AP (b:=ms++ [(m:Int)]) ?_ ?_
   ·unfold Dy;rw [if_pos (by simp;omega)]
   ·exact AP (if_pos ⟨W,Z⟩) (Al rfl)
 ·rw [if_neg h,if_neg h];exact BI rfl (Al rfl)
end Pal
namespace Pal
def Er(J:JW)(K:BH):Nat→Nat→List Int→Nat→List (List Int×Nat)
 | 0,_,ms,fl=> [(ms,fl)]
 | k+1,sm,ms,fl=>(BU sm 16).flatMap fun m=>if Fu J K ms.length m=true then Er J K k (CW (J.1.getD m.toNat [])) (ms++ [m]) (fl ||| Dp K ms.length m K.length) else []
theorem N5(s:Nat):(BU s 16).length≤16:=Jj s 16
theorem HI{α β:Type}{f:α→List β}{b:Nat}:∀{l:List α},(∀x∈l,(f x).length≤b)→(l.flatMap f).length≤l.length*b
 | [],_=>by simp
 | x::l,h=>by
  have O:=h x (by simp)
  have U:=HI (l:=l) (fun y K=>h y (by simp [K]))
  simp only [List.flatMap_cons,List.length_append,List.length_cons,Nat.succ_mul]
  omega
theorem MC(J:JW)(K:BH):∀k sm ms fl,(Er J K k sm ms fl).length≤16 ^ k
 | 0,_,_,_=>by simp [Er]
 | k+1,sm,ms,fl=>by
  unfold Er
  refine Nat.le_trans (HI (b:=16 ^ k) fun m _=>?_) ?_
  ·split
   ·exact MC J K k _ _ _
   ·simp
  ·rw [Nat.pow_succ,Nat.mul_comm];exact Nat.mul_le_mul_left _ (N5 sm)
theorem Vw{k:Nat}(h:k≤7):16 ^ k≤268435456:=Nat.le_trans (Nat.pow_le_pow_right (by omega) h) (by decide)
theorem Qc{α β:Type}{step:List β→α→Option (List β)}{f:α→List β}:∀{l:List α} {ac:List β},(∀(l1 l2:List α) x,l=l1++x::l2→step (ac++l1.flatMap f) x=some (ac++(l1++ [x]).flatMap f))→FB step l ac=some (ac++l.flatMap f)
 | [],ac,_=>by simp [FB]
 | x::l,ac,h=>by
  have K:=h [] l x rfl
  simp only [List.flatMap_nil,List.append_nil,List.nil_append] at K
  unfold FB
  rw [K]
  simp only [Option.bind_some]
  rw [Qc (f:=f) (ac:=ac++ [x].flatMap f) (l:=l) ?_]
  ·simp
  ·intro l1 l2 y O;have:=h (x::l1) l2 y (by rw [O];rfl);simp only [List.flatMap_cons,List.flatMap_nil,List.append_nil,List.cons_append,List.append_assoc] at this ⊢;simpa using this
theorem T5{α β:Type}{step:List β→α→Option (List β)}{f:α→List β}{l:List α}{ac:List β}(h:∀(l1 l2:List α) x,l=l1++x::l2→step (ac++l1.flatMap f) x=some (ac++l1.flatMap f++f x)):FB step l ac=some (ac++l.flatMap f):=
 Qc fun l1 l2 x e=>by rw [h l1 l2 x e];simp
theorem XA{F n:Nat}{J:JW}{A:List Nat}{K:BH}{age:Int}{ok:List (List Int×Nat)→Bool}(aa:100<F)(U:VJ n J)(V:Cl n K)(aq:∀l:List (List Int×Nat),l.length≤16 ^ 7→(∀x∈l,x.2<65536)→ok l=true):
  ∀(k g sm:Nat) (ms:List Int) (fl:Nat) (ac:List (List Int×Nat)),ms.length+k=DU K+1→k<g→sm<2 ^ n→fl<65536→ac.length+16 ^ k≤16 ^ 7→(∀x∈ac,x.2<65536)→
   IG ok F (J.1,J.2,A) K age g sm ms fl ac=some (ac++Er J K k sm ms fl)∧∀x∈Er J K k sm ms fl,x.2<65536:=by
 have aF:=Jv V;have ar:=U.le;have aG:=R0 ar;intro k
 induction k with
 | zero=>
  intro g sm ms fl ac au hg ai W hlen ab;obtain⟨g,rfl⟩:∃g',g=g'+1:=⟨g - 1,by omega⟩;refine⟨?_,fun x O=>by simp [Er] at O;subst O;exact W⟩;unfold IG;have ae:I9 F (J.1,J.2,A) K age ms fl sm=some none:=by
   unfold I9;rw [QL V];simp only [Option.bind_some];rw [if_pos (by omega)]
  rw [ae];simp only [Option.bind_some,J6];rw [if_pos]
  ·rfl
  ·refine aq _ (by simpa using hlen) fun x O=>?_;rcases List.mem_append.1 O with O | O
   ·exact ab x O
   ·simp at O;subst O;exact W
 | succ k aj=>
  intro g sm ms fl ac au hg ai W hlen ab;obtain⟨g,rfl⟩:∃g',g=g'+1:=⟨g - 1,by omega⟩;have aH:ms.length≤6:=by omega
  have aI:=N5 sm;have ak:∀m∈BU sm 16,∃q:Nat,m=(q:Int)∧q<n:=fun m hm=>by
   obtain⟨q,_,q2,av⟩:=Ie.1 hm;exact⟨q,av,Ik ai q2⟩
  have al:∀m:Int,fl ||| Dp K ms.length m K.length<65536:=fun m=>Nr W (ML _ _ _ _ (by have:=V.len;omega))
  have am:∀q:Nat,q<n→CW (J.1.getD q [])<2 ^ n:=fun q Z=>by
   rcases Nat.lt_or_ge (CW (J.1.getD q [])) (2 ^ n) with h | h
   ·exact h
   ·obtain⟨i,aJ,an⟩:=Nat.exists_ge_and_testBit_of_ge_two_pow h;rw [Mc (fun x O=>((U.Gh q).inr x O).1)] at an;have:=(U.Gh q).inr _ (of_decide_eq_true an);omega
  have ao:∀m∈BU sm 16,Fu J K ms.length m=true→∀x∈Er J K k (CW (J.1.getD m.toNat [])) (ms++ [m]) (fl ||| Dp K ms.length m K.length),x.2<65536:=fun m hm hb=>by
   obtain⟨q,rfl,Z⟩:=ak m hm;have aw:16 ^ k≤16 ^ 7:=Nat.pow_le_pow_right (by omega) (by omega);exact(aj (k+1) _ _ _ [] (by simp;omega) (by omega) (am q Z) (al _) (by simpa using aw) (fun x O=>by simp at O)).2
  constructor
  ·unfold IG;have ae:I9 F (J.1,J.2,A) K age ms fl sm=some (some (BU sm 16)):=by
    unfold I9;rw [QL V];simp only [Option.bind_some];rw [if_neg (by omega),M6 aa (by omega)];rfl
   rw [ae];simp only [Option.bind_some,J6];rw [if_pos (by omega)];have e:Er J K (k+1) sm ms fl=(BU sm 16).flatMap fun m=>if Fu J K ms.length m=true then Er J K k (CW (J.1.getD m.toNat [])) (ms++ [m]) (fl ||| Dp K ms.length m K.length) else []:=rfl
   rw [e];refine T5 fun l1 l2 m hm=>?_;have ay:m∈BU sm 16:=by rw [hm];simp
   obtain⟨q,rfl,Z⟩:=ak m ay;unfold Pm;rw [WU aa U V Z (by omega) W];simp only [Option.bind_some];by_cases hb:Fu J K ms.length (q:Int)=true
   ·rw [if_pos hb,if_pos hb];simp only;have az:Lz F (J.1,J.2,A) K age (ms++ [(q:Int)]) (fl ||| Dp K ms.length (q:Int) K.length) (q:Int)=some (CW (J.1.getD q [])):=by
     unfold Lz;have aA:J.1[q]? =some (J.1.getD q []):=by rw [List.getD_eq_getElem?_getD,List.getElem?_eq_getElem (by have:=U.l1;omega)];rfl
     have ap:=U.Gh q;rw [Ec (m:=q) rfl aA];simp only [Option.bind_some];rw [Rn aa (by have:=ap.len;omega) (fun x O=>by have:=ap.inr x O;omega)];rfl
    rw [az];simp only [Option.bind_some];have aB:l1.length+1≤16:=by
     have:=congrArg List.length hm;simp at this;omega
    have aK:(l1.flatMap fun m=>if Fu J K ms.length m=true then Er J K k (CW (J.1.getD m.toNat [])) (ms++ [m]) (fl ||| Dp K ms.length m K.length) else []).length≤l1.length*16 ^ k:=HI fun y _=>by
     split
     ·exact MC _ _ _ _ _ _
     ·simp
    have hmul:l1.length*16 ^ k+16 ^ k≤16 ^ (k+1):=by
     rw [Nat.pow_succ,← Nat.succ_mul,Nat.mul_comm _ 16];exact Nat.mul_le_mul_right _ aB
    have:=aj g (CW (J.1.getD q [])) (ms++ [(q:Int)]) (fl ||| Dp K ms.length (q:Int) K.length) (ac++l1.flatMap fun m=>if Fu J K ms.length m=true then Er J K k (CW (J.1.getD m.toNat [])) (ms++ [m]) (fl ||| Dp K ms.length m K.length) else []) (by simp;omega) (by omega) (am q Z) (al _) (by rw [List.length_append];omega) ?_
    ·rw [this.1,show((q:Int)).toNat=q by omega]
    ·intro x O;rcases List.mem_append.1 O with O | O
     ·exact ab x O
     ·obtain⟨y,aC,ag⟩:=List.mem_flatMap.1 O;have aD:y∈BU sm 16:=by rw [hm];simp [aC]
      split at ag
      ·rename_i aE;exact ao y aD aE x ag
      ·simp at ag
   ·rw [if_neg hb,if_neg hb];simp
  ·intro x O;unfold Er at O;obtain⟨m,hm,ah⟩:=List.mem_flatMap.1 O;split at ah
   ·rename_i hb;exact ao m hm hb x ah
   ·simp at ah
end Pal
namespace Pal
abbrev BW:=Int×List Int×Nat
def CY(t:BW):Nat:=(BU t.2.2 16).length
theorem Xh{F:Nat}{t:BW}(K:100<F)(h:t.2.2<65536):f130 F t=some (CY t:Int):=by
 unfold f130;rw [M6 K h];rfl
def DW(K:List BW)(q:Int×List BW):Prop:=(K= []∧q=(0,[]))∨∃k:Nat,q.1=(k:Int)∧(∃t∈K,CY t=k)∧(∀t∈K,k≤CY t)∧q.2=K.filter (fun t=>decide (CY t=k))
theorem DW.len{K:List BW}{q:Int×List BW}(h:DW K q):q.2.length≤K.length:=by
 rcases h with⟨_,rfl⟩ | ⟨k,_,_,_,h⟩
 ·simp
 ·rw [h];exact List.length_filter_le _ _
theorem DW.sub{K:List BW}{q:Int×List BW}(h:DW K q):∀t∈q.2,t∈K∧(CY t:Int)=q.1:=by
 rcases h with⟨_,rfl⟩ | ⟨k,O,_,_,h⟩
 ·simp
 ·intro t ht;rw [h] at ht;obtain⟨a,b⟩:=List.mem_filter.1 ht;exact⟨a,by rw [O,of_decide_eq_true b]⟩
theorem DW.snoc(F:Nat){O:List BW}{q:Int×List BW}{t:BW}(h:DW O q)(ak:O.length<2 ^ 39):∃K,ID F q.1 q.2 t (CY t:Int)=some K∧DW (O++ [t]) K:=by
 have ag:=h.len;obtain⟨le,all⟩:=q;simp only at ag ⊢;have fresh:∀c:Bool,c=true→(∀s∈O,CY t<CY s)→∃K:Int×List BW,(Option.bind (if c=true then some ((CY t:Int),([]:List BW)) else some (le,all)) fun U=>Option.bind (if(CY t:Int)=U.1 then(Dy U.2 ([t]:List BW)).bind fun ah=>some ah else some U.2) fun ai=>some (U.1,ai))=some K∧DW (O++ [t]) K:=by
  rintro c rfl V;refine⟨((CY t:Int),[t]),?_,.inr ⟨CY t,rfl,⟨t,by simp,rfl⟩,?_,?_⟩⟩
  ·simp [Dy]
  ·intro s hs;rcases List.mem_append.1 hs with hs | hs
   ·exact Nat.le_of_lt (V s hs)
   ·simp at hs;subst hs;exact Nat.le_refl _
  ·rw [List.filter_append,List.filter_eq_nil_iff.2 fun s hs=>by have:=V s hs;simp;omega];simp
 unfold ID;rcases h with⟨rfl,he⟩ | ⟨k,ae,⟨s,hs,Z⟩,aa,W⟩
 ·cases he;simp only [List.length_nil];obtain⟨K,ab,e2⟩:=fresh true rfl (fun s hs=>by simp at hs);exact⟨K,by simpa using ab,e2⟩
 ·simp only at ae W;subst ae;have aj:¬((all.length:Int)=0):=by
   have:s∈all:=by rw [W];exact List.mem_filter.2 ⟨hs,by simpa using Z⟩
   have:=List.length_pos_of_mem this;omega
  rw [if_neg aj];simp only [Option.bind_some];rcases Nat.lt_trichotomy (CY t) k with V | heq | al
  ·obtain⟨K,ab,e2⟩:=fresh (decide ((CY t:Int)<(k:Int))) (decide_eq_true (by omega)) (fun s hs=>Nat.lt_of_lt_of_le V (aa s hs));exact⟨K,ab,e2⟩
  ·rw [if_neg (by rw [decide_eq_true_iff];omega)];simp only [Option.bind_some];rw [if_pos (by omega)];refine⟨((k:Int),all++ [t]),?_,.inr ⟨k,rfl,⟨s,by simp [hs],Z⟩,?_,?_⟩⟩
   ·unfold Dy;rw [if_pos (by simp;omega)];rfl
   ·intro u hu;rcases List.mem_append.1 hu with hu | hu
    ·exact aa u hu
    ·simp at hu;subst hu;omega
   ·rw [List.filter_append,W];simp [heq]
  ·rw [if_neg (by rw [decide_eq_true_iff];omega)];simp only [Option.bind_some];rw [if_neg (by omega)];refine⟨((k:Int),all),rfl,.inr ⟨k,rfl,⟨s,by simp [hs],Z⟩,?_,?_⟩⟩
   ·intro u hu;rcases List.mem_append.1 hu with hu | hu
    ·exact aa u hu
    ·simp at hu;subst hu;omega
   ·rw [List.filter_append,← W];have:¬CY t=k:=by omega
    simp [this]
theorem N4{F:Nat}{a:Int}(O:100<F):∀(l:List (List Int×Nat)) (K:List BW) (q:Int×List BW),DW K q→K.length+l.length<2 ^ 39→(∀x∈l,x.2<65536)→
  ∃U,FB (add1 F a) l q=some U∧DW (K++l.map fun x=>(a,x.1,x.2)) U
 | [],K,q,h,_,_=>⟨q,rfl,by simpa using h⟩
 | x::l,K,q,h,W,V=>by
  simp only [List.length_cons] at W
  obtain⟨q1,Z,e2⟩:=h.snoc F (t:=(a,x.1,x.2)) (by omega)
  obtain⟨q2,aa,ab⟩:=N4 O l (K++ [(a,x.1,x.2)]) q1 e2 (by simp;omega) (fun y ae=>V y (by simp [ae]))
  refine⟨q2,?_,by simpa using ab⟩
  unfold FB add1
  rw [Xh (t:=(a,x.1,x.2)) O (V x (by simp))]
  simp only [Option.bind_some]
  rw [Z];exact aa
def TA(J:JW)(K:BH)(a:Nat):List BW:=(Er J K (DU K+1) (AG J a) [] 0).map fun x=>((a:Int),x.1,x.2)
def TT(J:JW)(K:BH):List BW:=(List.range 13).flatMap (TA J K)
theorem Sd{n:Nat}{J:JW}{K:BH}(O:Cl n K)(a:Nat):(TA J K a).length≤268435456:=by
 unfold TA;rw [List.length_map];exact Nat.le_trans (MC _ _ _ _ _ _) (Vw (by have:=Jv O;omega))
theorem Of{F n a:Nat}{J:JW}{K:BH}(O:100<F)(U:VJ n J)(V:Cl n K)(W:a<13):∃q,GI F (J.1,J.2,Gi J) K (a:Int)=some q∧DW (TA J K a) q∧∀t∈TA J K a,t.2.2<65536:=by
 have ah:=Jv V;have Z:(16:Nat) ^ (DU K+1)≤16 ^ 7:=Nat.pow_le_pow_right (by omega) (by omega);have aa:∀l:List (List Int×Nat),l.length≤16 ^ 7→(∀x∈l,x.2<65536)→(Hr F (a:Int) l).isSome=true:=fun l ai ab=>by
  obtain⟨q,e,_⟩:=N4 (a:=(a:Int)) O l [] (0,[]) (.inl ⟨rfl,rfl⟩) (by simp;omega) ab;unfold Hr;rw [e];rfl
 obtain⟨d1,d2⟩:=XA (A:=Gi J) (age:=(a:Int)) (ok:=fun ac=>(Hr F (a:Int) ac).isSome) O U V aa (DU K+1) F (AG J a) [] 0 [] (by simp) (by omega) (Iz U a) (by omega) (by simpa using Z) (by simp);obtain⟨q,ae,e2⟩:=N4 (a:=(a:Int)) O (Er J K (DU K+1) (AG J a) [] 0) [] (0,[]) (.inl ⟨rfl,rfl⟩) (by have:=MC J K (DU K+1) (AG J a) [] 0;simp;omega) d2;refine⟨q,?_,by unfold TA;simpa using e2,?_⟩
 ·unfold GI J2;rw [Ec (m:=a) rfl (WS J W)];simp only [Option.bind_some];rw [d1];simp only [Option.bind_some,List.nil_append];exact ae
 ·intro t ht;obtain⟨x,ag,rfl⟩:=List.mem_map.1 ht;exact d2 x ag
theorem Qs{F n:Nat}{J:JW}{K:BH}(U:100<F)(V:VJ n J)(W:Cl n K):∃qs:Nat→Int×List BW,JR F (J.1,J.2,Gi J) K=some (Dk qs)∧∀j,j<13→DW (TA J K j) (qs j):=by
 refine⟨fun j=>(GI F (J.1,J.2,Gi J) K ((j:Nat):Int)).getD (0,[]),?_,fun j O=>?_⟩
 ·unfold JR;rw [if_pos];rw [List.all_eq_true];intro j O;obtain⟨q,e,_⟩:=Of U V W (List.mem_range.1 O);rw [e];rfl
 ·obtain⟨q,e,h,_⟩:=Of U V W O;simp only [e];exact h
theorem KD{α β:Type}{f g:α→List β}:∀{l:List α},(∀x∈l,f x=g x)→l.flatMap f=l.flatMap g
 | [],_=>rfl
 | x::l,h=>by rw [List.flatMap_cons,List.flatMap_cons,h x (by simp),KD fun y K=>h y (by simp [K])]
theorem DW.flat{T:Nat→List BW}{Q:Nat→Int×List BW}{l:List Nat}{r:Int×List BW}(h:∀j∈l,DW (T j) (Q j))(ai:DW (l.flatMap fun j=>(Q j).2) r):DW (l.flatMap T) r:=by
 have GB:∀j∈l,(Q j).2= []→T j= []:=fun j K e=>by
  rcases h j K with⟨U,_⟩ | ⟨k,_,⟨t,ht,Z⟩,_,aa⟩
  ·exact U
  ·have:t∈(Q j).2:=by rw [aa];exact List.mem_filter.2 ⟨ht,by simpa using Z⟩
   rw [e] at this;simp at this
 rcases ai with⟨U,rfl⟩ | ⟨k,U,⟨t,ht,Z⟩,ah,aa⟩
 ·refine .inl ⟨?_,rfl⟩;rw [List.flatMap_eq_nil_iff] at U ⊢;exact fun j K=>GB j K (U j K)
 ·have low:∀j∈l,∀s∈T j,∃O:Nat,(Q j).2=(T j).filter (fun t=>decide (CY t=O))∧k≤O∧O≤CY s:=fun j K s hs=>by
   rcases h j K with⟨ab,_⟩ | ⟨O,_,⟨u,hu,ae⟩,V,W⟩
   ·rw [ab] at hs;simp at hs
   ·refine⟨O,W,?_,V s hs⟩;have:=ah u (List.mem_flatMap.2 ⟨j,K,by rw [W];exact List.mem_filter.2 ⟨hu,by simpa using ae⟩⟩);omega
  refine .inr ⟨k,U,?_,?_,?_⟩
  ·obtain⟨j,K,aj⟩:=List.mem_flatMap.1 ht;exact⟨t,List.mem_flatMap.2 ⟨j,K,((h j K).sub t aj).1⟩,Z⟩
  ·intro s hs;obtain⟨j,K,ak⟩:=List.mem_flatMap.1 hs;obtain⟨O,_,g2,V⟩:=low j K s ak;omega
  ·rw [aa,List.filter_flatMap,List.filter_flatMap];refine KD fun j K=>?_;rcases h j K with⟨ab,g2⟩ | ⟨O,_,⟨u,hu,ae⟩,V,W⟩
   ·rw [ab,g2]
   ·obtain⟨am,an,e2,ao⟩:=low j K u hu;rw [W,List.filter_filter];by_cases e:O=k
    ·subst e;exact List.filter_congr fun x _=>by simp
    ·have ap:k<O:=by
      have al:u∈(Q j).2:=by rw [W];exact List.mem_filter.2 ⟨hu,by simpa using ae⟩
      have:=ah u (List.mem_flatMap.2 ⟨j,K,al⟩);omega
     rw [List.filter_eq_nil_iff.2 fun x ag=>?_,List.filter_eq_nil_iff.2 fun x ag=>?_]
     ·have:=V x ag;simp;omega
     ·have:=V x ag;simp;omega
theorem T8{qs:Nat→Int×List BW}{p:Int×Int×List BW}(h:p∈Dk qs):∃j,j<13∧p=partOf qs j∧0<(qs j).2.length:=by
 unfold Dk at h;obtain⟨j,K,rfl⟩:=List.mem_map.1 h;obtain⟨O,U⟩:=List.mem_filter.1 K;exact⟨j,List.mem_range.1 O,rfl,of_decide_eq_true U⟩
theorem P2(qs:Nat→Int×List BW):(Dk qs).length≤13:=by
 unfold Dk;rw [List.length_map];exact Nat.le_trans (List.length_filter_le _ _) (by simp)
theorem TC(qs:Nat→Int×List BW):((Dk qs).flatMap fun p=>p.2.2)=(List.range 13).flatMap fun j=>(qs j).2:=by
 unfold Dk;rw [List.flatMap_map];generalize List.range 13=l
 induction l with
 | nil=>rfl
 | cons j l K=>
  rw [List.filter_cons,List.flatMap_cons];split
  ·rw [List.flatMap_cons,K];rfl
  ·rename_i h;have:(qs j).2= []:=List.length_eq_zero_iff.1 (by simpa using h);rw [K,this];rfl
theorem Ym{F:Nat}{p:Int×Int×List BW}{pre:List BW}{le:Int}{all:List BW}(W:268435456<F)(Z:p.2.2.length≤268435456)(aa:pre.length<2 ^ 38)(V:∀t∈p.2.2,(CY t:Int)=p.2.1)(h:DW pre (le,all)):
  A5 (iter (K7 F p) F (le,all,0)) (fun r=>DW (pre++p.2.2) r):=by
 refine Cq p.2.2.length (fun i s=>s.2.2=(i:Int)∧DW (pre++p.2.2.take i) (s.1,s.2.1)) ⟨rfl,by simpa using h⟩ (by omega) ?_ ?_
 ·rintro i ⟨a,b,c⟩ hi ⟨O,K⟩;simp only at O K;subst O;unfold K7;refine BI (by simp only;omega) (Bv (m:=i) rfl hi ?_);obtain⟨q,U,e2⟩:=K.snoc F (t:=p.2.2[i]) (by simp;omega);rw [V _ (List.getElem_mem hi)] at U;refine AP U (AX ((i+1:Nat):Int) (by simp) (by omega) (by omega) ?_);refine Al ⟨rfl,?_⟩;rw [List.take_add_one,List.getElem?_eq_getElem hi];simpa using e2
 ·rintro⟨a,b,c⟩ ⟨O,K⟩;simp only at O K;subst O;unfold K7;refine Bf (by simp) (Al ⟨_,rfl,?_⟩);rw [List.take_length] at K;exact K
theorem XK{F n:Nat}{J:JW}{W:BH}(ae:268435456<F)(ag:VJ n J)(ab:Cl n W):A5 (f93 F (J.1,J.2,Gi J) W) (fun r=>DW (TT J W) r):=by
 obtain⟨qs,e,Z⟩:=Qs (F:=F) (by omega) ag ab;unfold f93;refine AP e ?_;have aj:=P2 qs;have hlen:∀p∈Dk qs,p.2.2.length≤268435456∧∀t∈p.2.2,(CY t:Int)=p.2.1:=fun p aa=>by
  obtain⟨j,U,rfl,_⟩:=T8 aa;exact⟨Nat.le_trans (Z j U).len (Sd ab j),fun t ht=>((Z j U).sub t ht).2⟩
 refine AI (S:=fun r=>DW ((Dk qs).flatMap fun p=>p.2.2) r) ?_ ?_
 ·refine Cq (Dk qs).length (fun i s=>s.2.2=(i:Int)∧DW (((Dk qs).take i).flatMap fun p=>p.2.2) (s.1,s.2.1)) ⟨rfl,.inl ⟨rfl,rfl⟩⟩ (by omega) ?_ ?_
  ·rintro i ⟨a,b,c⟩ hi ⟨O,K⟩;simp only at O K;subst O;unfold M1;refine BI (by simp only;omega) (Bv (m:=i) rfl hi ?_);obtain⟨ah,g2⟩:=hlen _ (List.getElem_mem hi);have ak:(((Dk qs).take i).flatMap fun p=>p.2.2).length≤((Dk qs).take i).length*268435456:=HI fun p aa=>(hlen p (List.mem_of_mem_take aa)).1;have ai:((Dk qs).take i).length≤13:=by rw [List.length_take];omega
   have hmul:((Dk qs).take i).length*268435456≤13*268435456:=Nat.mul_le_mul_right _ ai;refine AI (Ym ae ah (by omega) g2 K) ?_;intro r V;refine AX ((i+1:Nat):Int) (by simp) (by omega) (by omega) ?_;refine Al ⟨rfl,?_⟩;rw [List.take_add_one,List.getElem?_eq_getElem hi];simp only [Option.toList_some,List.flatMap_append,List.flatMap_cons,List.flatMap_nil,List.append_nil];exact V
  ·rintro⟨a,b,c⟩ ⟨O,K⟩;simp only at O K;subst O;unfold M1;refine Bf (by simp) (Al ⟨_,rfl,?_⟩);rw [List.take_length] at K;exact K
 ·intro r V;refine Al ?_;rw [TC] at V;exact DW.flat (fun j U=>Z j (List.mem_range.1 U)) V
end Pal
namespace Pal
theorem DW.WA{K:List BW}{q:Int×List BW}(h:DW K q):q.2= []↔K= []:=by
 rcases h with⟨O,rfl⟩ | ⟨k,_,⟨t,ht,U⟩,_,V⟩
 ·simp [O]
 ·constructor
  ·intro e;have:t∈q.2:=by rw [V];exact List.mem_filter.2 ⟨ht,by simpa using U⟩
   rw [e] at this;simp at this
  ·rintro rfl;simp at ht
def G7(J:JW)(K:BH)(k:Nat):Prop:=(∃t∈TT J K,CY t=k)∧∀t∈TT J K,k≤CY t
def Dz(J:JW)(K:BH)(k:Nat):List BW:=(TT J K).filter fun t=>decide (CY t=k)
theorem G7.pos{J:JW}{K:BH}{k:Nat}(h:G7 J K k):0<(Dz J K k).length:=by
 obtain⟨⟨t,ht,O⟩,_⟩:=h;exact List.length_pos_of_mem (List.mem_filter.2 ⟨ht,by simpa using O⟩)
theorem G7.uniq{J:JW}{K:BH}{k k':Nat}(h:G7 J K k)(O:G7 J K k'):k=k':=by
 obtain⟨⟨t,ht,aa⟩,U⟩:=h;obtain⟨⟨V,W,ab⟩,Z⟩:=O;have:=U V W;have:=Z t ht;omega
theorem I3{J:JW}{U:BH}{t:BW}:t∈TT J U↔∃a,a<13∧t∈TA J U a:=by
 unfold TT;rw [List.mem_flatMap];exact⟨fun⟨a,K,O⟩=>⟨a,List.mem_range.1 K,O⟩,fun⟨a,K,O⟩=>⟨a,List.mem_range.2 K,O⟩⟩
theorem Lb{J:JW}{K:BH}{a:Nat}{t:BW}(h:t∈TA J K a):t.1=(a:Int):=by
 obtain⟨x,_,rfl⟩:=List.mem_map.1 h;rfl
theorem S5{F n:Nat}{J:JW}{K:BH}(U:100<F)(V:VJ n J)(W:Cl n K){t:BW}(ht:t∈TT J K):t.2.2<65536∧0≤t.1∧t.1<13:=by
 obtain⟨a,Z,O⟩:=I3.1 ht;obtain⟨_,_,_,h⟩:=Of U V W Z;have:=Lb O;exact⟨h t O,by omega,by omega⟩
theorem OS{n:Nat}{J:JW}{K:BH}(O:Cl n K):(TT J K).length≤13*268435456:=by
 unfold TT;have:=HI (l:=List.range 13) (f:=TA J K) (b:=268435456) fun a _=>Sd O a;simpa using this
theorem Si{F n:Nat}{J:JW}{K:BH}{p:Int}(b:Bool)(Z:268435456<F)(O:VJ n J)(V:Cl n K)(aa:K.length≤4)(ab: -1≤p∧p<(K.length:Int)):
  A5 (f78 F J K p b) (fun r=>DW (TT J K) r.2.1∧r.2.2=if TT J K= []∧b=false then 11 else 0):=by
 unfold f78;refine AP (OO (by omega) O V aa) (Bf (by simp) ?_);refine AX ((K.length:Int) - 1) rfl (by omega) (by omega) (AP (IV F _ _ _) ?_);refine Bf (by simp;omega) (AP (Sk (by omega) O) ?_);refine AP (b:=(J.1,J.2,Gi J)) rfl (AI (XK Z O V) ?_);intro r U;have W:=U.WA;refine AI (S:=fun c=>c=decide (TT J K= []∧b=false)) ?_ ?_
 ·refine By (fun h=>?_) (fun h=>?_)
  ·have:TT J K= []:=W.1 (List.length_eq_zero_iff.1 (by omega));refine Al ?_;cases b <;> simp [this]
  ·have:TT J K≠ []:=fun e=>h (by rw [W.2 e];rfl);exact Al (by simp [this])
 ·rintro c rfl;refine By (fun h=>?_) (fun h=>?_)
  ·exact Al ⟨U,by rw [if_pos (of_decide_eq_true h)]⟩
  ·exact Al ⟨U,by rw [if_neg (of_decide_eq_false (by simpa using h))]⟩
theorem asked{F n:Nat}{J:JW}{K:BH}{p:Int}(aa:268435456<F)(ab:VJ n J)(ae:Cl n K)(O:K.length≤4)(ag: -1≤p∧p<(K.length:Int)):
  A5 (f78 F J K p false) (fun r=>(TT J K= []∧r.2.1=(0,[])∧r.2.2=11)∨∃k,G7 J K k∧r.2.1=((k:Int),Dz J K k)∧r.2.2=0):=by
 refine(Si false aa ab ae O ag).Ai ?_;rintro⟨x,⟨q1,q2⟩,e⟩ ⟨W,V⟩;simp only at W V;rcases W with⟨U,O⟩ | ⟨k,U,O,ah,Z⟩
 ·exact .inl ⟨U,O,by rw [V,if_pos (by simp [U])]⟩
 ·refine .inr ⟨k,⟨O,ah⟩,?_,?_⟩
  ·simp only at U Z;rw [U,Z];rfl
  ·obtain⟨t,ht,_⟩:=O;simp only;rw [V,if_neg];rintro⟨ai,_⟩;rw [ai] at ht;simp at ht
theorem YE{F n:Nat}{J:JW}{K:BH}(W:268435456<F)(Z:VJ n J)(aa:Cl n K)(ab:K.length≤4):
  A5 (f47 F J K) (fun r=>(TT J K= []∧r=(0,11))∨∃k,G7 J K k∧r=((k:Int),0)):=by
 unfold f47;refine AI (asked W Z aa ab ⟨by omega,by omega⟩) ?_;rintro⟨x,q,e⟩ (⟨V,O,U⟩ | ⟨k,V,O,U⟩)
 ·simp only at O U;subst O;subst U;exact Al (.inl ⟨V,rfl⟩)
 ·simp only at O U;subst O;subst U;exact Al (.inr ⟨k,V,rfl⟩)
theorem Sx{F n:Nat}{J:JW}{K:BH}(Z:268435456<F)(aa:VJ n J)(ab:Cl n K)(ae:K.length≤4):
  A5 (f30 F J K) (fun r=>(TT J K= []∧r=(0,[],11))∨∃k t,G7 J K k∧(Dz J K k)[0]? =some t∧r=(t.1,t.2.1,0)):=by
 unfold f30;refine AI (asked Z aa ab ae ⟨by omega,by omega⟩) ?_;rintro⟨x,q,e⟩ (⟨V,O,U⟩ | ⟨k,V,O,U⟩)
 ·simp only at O U;subst O;subst U;exact BI (by simp) (Al (.inl ⟨V,rfl⟩))
 ·simp only at O U;subst O;subst U;refine Bf (by simp) ?_;have W:=V.pos;refine Bv (m:=0) rfl W (Bv (m:=0) rfl W ?_);exact Al (.inr ⟨k,(Dz J K k)[0],V,List.getElem?_eq_getElem W,rfl⟩)
def vd(c l:Nat):Int:=if c=0 then 2 else if c<l then 3 else 1
theorem Xr{F n p:Nat}{J:JW}{K:BH}(ai:3489660928<F)(W:VJ n J)(V:Cl n K)(ab:K.length≤4)(aj:p<K.length):
  A5 (f49 F J K (p:Int)) (fun r=>(TT J K= []∧r=(0,11))∨∃k,G7 J K k∧r=(vd ((Dz J K k).filter fun t=>t.2.2.testBit p).length (Dz J K k).length,0)):=by
 unfold f49;refine AP (OO (by omega) W V ab) (Bf (by simp) ?_);refine AX ((K.length:Int) - 1) rfl (by omega) (by omega) (AP (IV F _ _ _) ?_);refine Bf (by simp;omega) (AI (asked (p:=(p:Int)) (by omega) W V ab ⟨by omega,by omega⟩) ?_);rintro⟨x,q,e⟩ (⟨Z,O,U⟩ | ⟨k,Z,O,U⟩)
 ·simp only at O U;subst O;subst U;exact BI (by simp) (Al (.inl ⟨Z,rfl⟩))
 ·simp only at O U;subst O;subst U;refine Bf (by simp) ?_;have ag:(Dz J K k).length≤3489660928:=Nat.le_trans (List.length_filter_le _ _) (OS V);refine AI (S:=fun c=>c=(((Dz J K k).filter fun t=>t.2.2.testBit p).length:Int)) ?_ ?_
  ·refine Cq (Dz J K k).length (fun i s=>s=((((((Dz J K k).take i).filter fun t=>t.2.2.testBit p).length:Nat):Int),(i:Int))) rfl (by omega) ?_ ?_
   ·rintro i s hi rfl;unfold Na;have hm:=List.getElem_mem hi;obtain⟨ah,_,_⟩:=S5 (F:=F) (by omega) W V (List.mem_filter.1 hm).1;refine BI (by simp only;omega) (Bv (m:=i) rfl hi ?_);refine AP (RP F ah (by omega)) ?_;have ak:(((Dz J K k).take i).filter fun t=>t.2.2.testBit p).length≤3489660928:=Nat.le_trans (List.length_filter_le _ _) (by rw [List.length_take];omega);refine AI (S:=fun c=>c=((((Dz J K k).take (i+1)).filter fun t=>t.2.2.testBit p).length:Int)) ?_ ?_
    ·rw [List.take_add_one,List.getElem?_eq_getElem hi];simp only [Option.toList_some];rw [List.filter_append];refine By (fun h=>?_) (fun h=>?_)
     ·refine AX ((((Dz J K k).take i).filter fun t=>t.2.2.testBit p).length+1:Int) rfl (by omega) (by omega) (Al ?_);simp [List.filter_cons,h]
     ·refine Al ?_;simp [List.filter_cons,h]
    ·rintro c rfl;exact AX ((i+1:Nat):Int) (by simp) (by omega) (by omega) (Al rfl)
   ·rintro s rfl;unfold Na;refine Bf (by simp) (Al ⟨_,rfl,?_⟩);rw [List.take_length]
  ·rintro c rfl;refine AI (S:=fun v=>v=vd ((Dz J K k).filter fun t=>t.2.2.testBit p).length (Dz J K k).length) ?_ (by rintro v rfl;exact Al (.inr ⟨k,Z,rfl⟩));have ae:((Dz J K k).filter fun t=>t.2.2.testBit p).length≤(Dz J K k).length:=List.length_filter_le _ _;generalize ((Dz J K k).filter fun t=>t.2.2.testBit p).length=c at ae;generalize (Dz J K k).length=l at ag ae;refine AI (S:=fun v=>v=vd c l - 1) ?_ ?_
   ·refine AI (S:=fun b=>b=decide (0<c∧c<l)) ?_ ?_
    ·refine By (fun h=>Al ?_) (fun h=>Al ?_)
     ·exact decide_eq_decide.2 (by omega)
     ·exact(decide_eq_false (by omega)).symm
    ·rintro b rfl;unfold vd;refine By (fun h=>?_) (fun h=>?_)
     ·have h:=of_decide_eq_true h;refine AX 1 rfl (by omega) (by omega) ?_;refine AX 2 rfl (by omega) (by omega) ?_;refine Al ?_;rw [if_neg (by omega),if_pos h.2];rfl
     ·have h:¬(0<c∧c<l):=fun aa=>h (decide_eq_true aa);refine By (fun aa=>?_) (fun aa=>?_)
      ·refine AX 1 rfl (by omega) (by omega) (Al ?_);rw [if_pos (by omega)];rfl
      ·refine Al ?_;rw [if_neg (by omega),if_neg (by omega)];rfl
   ·rintro v rfl;have:1≤vd c l∧vd c l≤3:=by unfold vd;split <;> (try split) <;> omega
    exact AX (vd c l) (by omega) (by omega) (by omega) (Al rfl)
def CR(J:JW)(K:BH)(p:Nat):List Int:=((List.range 13).filter fun a=>(TA J K a).any fun t=>decide (CY t≤p)).map fun(a:Nat)=>(a:Int)
theorem US{J:JW}{U:BH}{p:Nat}{x:Int}:x∈CR J U p↔∃t∈TT J U,CY t≤p∧t.1=x:=by
 unfold CR;simp only [List.mem_map,List.mem_filter,List.mem_range,List.any_eq_true,decide_eq_true_iff];constructor
 ·rintro⟨a,⟨O,t,K,W⟩,rfl⟩;exact⟨t,I3.2 ⟨a,O,K⟩,W,Lb K⟩
 ·rintro⟨t,O,K,rfl⟩;obtain⟨a,Z,V⟩:=I3.1 O;exact⟨a,⟨Z,t,V,K⟩,(Lb V).symm⟩
theorem UE(J:JW)(K:BH)(p:Nat):(CR J K p).length≤13:=by
 unfold CR;rw [List.length_map];exact Nat.le_trans (List.length_filter_le _ _) (by simp)
theorem X6{F n p:Nat}{J:JW}{K:BH}(am:268435456<F)(O:VJ n J)(U:Cl n K)(Z:K.length≤4)(an:p≤4):f43 F J K (p:Int)=some (if CR J K p= [] then([],11) else(CR J K p,0)):=by
 obtain⟨qs,e,aa⟩:=Qs (F:=F) (by omega) O U;have ao:=P2 qs;refine CV ?_;unfold f43;refine AP (OO (by omega) O U Z) (Bf (by simp) ?_);refine AP (IV F _ _ _) (Bf (by simp;omega) ?_);refine AP (Sk (by omega) O) (AP (b:=(J.1,J.2,Gi J)) rfl ?_);refine AP e ?_;have ab:((Dk qs).filter fun q=>decide (q.2.1≤(p:Int))).map (fun q=>q.1)=CR J K p:=by
  unfold Dk CR;rw [List.filter_map,List.map_map,List.filter_filter];have:(List.range 13).filter (fun j=>((fun q:Int×Int×List BW=>decide (q.2.1≤(p:Int)))∘partOf qs) j&&decide (0<(qs j).2.length))=(List.range 13).filter fun a=>(TA J K a).any fun t=>decide (CY t≤p):=by
   refine List.filter_congr fun j ae=>?_;have ag:=aa j (List.mem_range.1 ae);rw [Bool.eq_iff_iff];simp only [Function.comp,partOf,Bool.and_eq_true,decide_eq_true_iff,List.any_eq_true];rcases ag with⟨V,g2⟩ | ⟨k,V,⟨t,ht,ah⟩,ai,aj⟩
   ·constructor
    ·rintro⟨_,h⟩;rw [g2] at h;simp at h
    ·rintro⟨t,ht,_⟩;rw [V] at ht;simp at ht
   ·have:t∈(qs j).2:=by rw [aj];exact List.mem_filter.2 ⟨ht,by simpa using ah⟩
    have ak:=List.length_pos_of_mem this;constructor
    ·rintro⟨al,_⟩;have W:(qs j).1≤(p:Int):=of_decide_eq_true al;exact⟨t,ht,by omega⟩
    ·rintro⟨s,hs,ap⟩;have:=ai s hs;have W:(qs j).1≤(p:Int):=by omega
     exact⟨decide_eq_true W,ak⟩
  rw [this];rfl
 refine AI (S:=fun r=>r=CR J K p) ?_ ?_
 ·rw [← ab];refine Cq (Dk qs).length (fun i s=>s=((((Dk qs).take i).filter fun q=>decide (q.2.1≤(p:Int))).map (fun q=>q.1),(i:Int))) rfl (by omega) ?_ ?_
  ·rintro i s hi rfl;unfold Nf;refine BI (by simp only;omega) (Bv (m:=i) rfl hi ?_);refine AI (S:=fun c=>c=(((Dk qs).take (i+1)).filter fun q=>decide (q.2.1≤(p:Int))).map (fun q=>q.1)) ?_ ?_
   ·rw [List.take_add_one,List.getElem?_eq_getElem hi];simp only [Option.toList_some];rw [List.filter_append,List.map_append];refine By (fun h=>?_) (fun h=>?_)
    ·refine Ij ?_ (Al ?_)
     ·rw [List.length_map];exact Nat.le_trans (Nat.add_le_add_right (Nat.le_trans (List.length_filter_le _ _) (show((Dk qs).take i).length≤13 by rw [List.length_take];omega)) 1) (by omega)
     ·simp [List.filter_cons,h]
    ·refine Al ?_;simp [List.filter_cons,h]
   ·rintro c rfl;exact AX ((i+1:Nat):Int) (by simp) (by omega) (by omega) (Al rfl)
  ·rintro s rfl;unfold Nf;refine Bf (by simp) (Al ⟨_,rfl,?_⟩);rw [List.take_length]
 ·rintro r rfl;refine By (fun h=>?_) (fun h=>?_)
  ·rw [if_pos (List.length_eq_zero_iff.1 (by omega))];exact Al rfl
  ·rw [if_neg (fun e=>h (by rw [e];rfl))];exact Al rfl
theorem Yq{F:Nat}{l:List BW}(aa:l.length<F)(hlen:l.length<2 ^ 40)(h:∀t∈l,0≤t.1∧t.1<13):A5 (f87 F l) (fun r=>r<2 ^ 13∧∀a:Nat,r.testBit a=true↔∃t∈l,t.1=(a:Int)):=by
 unfold f87;refine AI (S:=fun r=>r<2 ^ 13∧∀a:Nat,r.testBit a=true↔∃t∈l,t.1=(a:Int)) ?_ (fun r W=>Al W);refine Cq l.length (fun i s=>s.2=(i:Int)∧s.1<2 ^ 13∧∀a:Nat,s.1.testBit a=true↔∃t∈l.take i,t.1=(a:Int)) ⟨rfl,by simp,fun a=>by simp⟩ (by omega) ?_ ?_
 ·rintro i ⟨s,c⟩ hi ⟨O,U,K⟩;simp only at O U K;subst O;unfold M3;have hm:=h _ (List.getElem_mem hi);refine BI (by simp only;omega) (Bv (m:=i) rfl hi ?_);have Z:l[i].1=((l[i].1.toNat:Nat):Int):=by omega
  have V:=OT F (s:=s) (n:=l[i].1.toNat) (by omega) (by omega);rw [← Z] at V;refine AP V ?_;refine AX ((i+1:Nat):Int) (by simp) (by omega) (by omega) ?_;refine Al ⟨rfl,?_,fun a=>?_⟩
  ·refine Nat.or_lt_two_pow U ?_;rw [Nat.one_shiftLeft];exact Nat.pow_lt_pow_right (by omega) (by omega)
  ·simp only;rw [Nat.testBit_or,Bool.or_eq_true,K,Nat.one_shiftLeft,Nat.testBit_two_pow,decide_eq_true_iff,List.take_add_one,List.getElem?_eq_getElem hi];simp only [Option.toList_some,List.mem_append,List.mem_singleton];constructor
   ·rintro(⟨t,t1,t2⟩ | ab)
    ·exact⟨t,.inl t1,t2⟩
    ·exact⟨l[i],.inr rfl,by omega⟩
   ·rintro⟨t,t1 | t1,t2⟩
    ·exact .inl ⟨t,t1,t2⟩
    ·subst t1;exact .inr (by omega)
 ·rintro⟨s,c⟩ ⟨O,U,K⟩;simp only at O U K;subst O;unfold M3;refine Bf (by simp) (Al ⟨_,rfl,U,?_⟩);rw [List.take_length] at K;exact K
end Pal
namespace Pal
def Gc(J:JW)(a:Nat)(p:List Int):Prop:=(∀m,p[0]? =some m→∃k:Nat,m=(k:Int)∧(AG J a).testBit k=true)∧∀(y:Nat) m m',p[y]? =some m→p[y+1]? =some m'→m'∈J.1.getD m.toNat []
theorem Gc.range{n a:Nat}{J:JW}{p:List Int}(K:VJ n J)(h:Gc J a p):∀(y:Nat) m,p[y]? =some m→0≤m∧m<(n:Int)
 | 0,m,hm=>by
  obtain⟨k,rfl,O⟩:=h.1 m hm
  have:=Ik (Iz K a) O
  omega
 | y+1,m,hm=>by
  have U:y<p.length:=by have:=(List.getElem?_eq_some_iff.1 hm).1;omega
  exact(K.Gh _).inr _ (h.2 y p[y] m (List.getElem?_eq_getElem U) hm)
theorem Gc.take{a:Nat}{J:JW}{p:List Int}(h:Gc J a p)(k:Nat):Gc J a (p.take k):=by
 have key:∀(y:Nat) m,(p.take k)[y]? =some m→p[y]? =some m:=fun y m hm=>by
  rw [List.getElem?_take] at hm;split at hm
  ·exact hm
  ·cases hm
 exact⟨fun m hm=>h.1 m (key 0 m hm),fun y m m' K O=>h.2 y m m' (key _ _ K) (key _ _ O)⟩
theorem Gc.snoc{a:Nat}{J:JW}{p:List Int}{m x:Int}(h:Gc J a (p++ [m]))(U:x∈J.1.getD m.toNat []):Gc J a (p++ [m]++ [x]):=by
 constructor
 ·intro y O;rw [List.getElem?_append_left (by simp)] at O;exact h.1 y O
 ·intro y u V hu K;rcases Nat.lt_or_ge (y+1) (p++ [m]).length with W | Z
  ·rw [List.getElem?_append_left (by omega)] at hu;rw [List.getElem?_append_left W] at K;exact h.2 y u V hu K
  ·have aa:=(List.getElem?_eq_some_iff.1 K).1;simp only [List.length_append,List.length_singleton] at Z aa;have e:y=p.length:=by omega
   subst e;rw [List.getElem?_append_left (by simp),List.getElem?_append_right (by omega)] at hu;rw [List.getElem?_append_right (by simp)] at K;simp at hu K;subst hu;subst K;exact U
theorem Xl{n a q:Nat}{J:JW}{x:Int}(K:VJ n J)(O:(AG J a).testBit q=true)(U:x∈J.1.getD q []):∃k:Nat,x=(k:Int)∧(AG J (a+1)).testBit k=true:=by
 have V:=(K.Gh q).inr x U;refine⟨x.toNat,by omega,?_⟩;show(GN J.1 (AG J a)).testBit _=true;rw [Oz K];exact⟨q,by have:=Ik (Iz K a) O;have:=K.le;omega,O,by rw [show((x.toNat:Nat):Int)=x by omega];exact U⟩
theorem VJ.S8{n q:Nat}{J:JW}(K:VJ n J)(U:q<n):J.1[q]? =some (J.1.getD q [])∧0<(J.1.getD q []).length:=by
 have V:=K.l1;have O:J.1[q]? =some (J.1.getD q []):=by rw [List.getD_eq_getElem?_getD,List.getElem?_eq_getElem (by omega)];rfl
 exact⟨O,(K.nx q _ O).2⟩
theorem YC{F k n yrs:Nat}{b:Fp}{J:JW}(aB:100<F)(K:VJ n J)(hb:BG k b)(aC:k<1000)(aD:yrs≤20):
  A5 (f45 F b J (yrs:Int)) (fun r=>∃a:Nat,r.1=(a:Int)∧a≤6∧r.2.1.length=yrs∧Gc J a r.2.1∧BG (k+30) r.2.2):=by
 have aE:=K.le;have aF:=K.pos;unfold f45;refine AI (HV hb (by omega) (by omega)) ?_;rintro⟨an,aG⟩ ⟨aq,g2,ao⟩;simp only at aq g2 ao ⊢;obtain⟨a,rfl⟩:∃a:Nat,an=(a:Int):=⟨an.toNat,by omega⟩;refine AI (S:=fun r=>∃q:Nat,r.1=(q:Int)∧(AG J a).testBit q=true∧BG (k+7) r.2) ?_ ?_
 ·refine Cq a (fun i s=>∃q:Nat,s.2.2.2.1=(q:Int)∧(AG J i).testBit q=true∧s.2.2.2.2=(i:Int)∧BG (k+1+i) (s.1,s.2.1,s.2.2.1)) ⟨0,rfl,by show(1:Nat).testBit 0=true;decide,rfl,ao⟩ (by omega) ?_ ?_
  ·rintro i ⟨s1,s2,ak,Z,aj⟩ hi ⟨q,O,aa,ab,ae⟩;simp only at O ab ae;subst O;subst ab;unfold Nb;have ar:=Ik (Iz K i) aa;obtain⟨al,am⟩:=K.S8 ar;refine BI (by simp only;omega) (AP (Ec (m:=q) rfl al) ?_);refine AI (MQ (F:=F) ae (by omega) am (by have:=(K.Gh q).len;omega)) ?_;rintro⟨x,au⟩ ⟨ag,ah⟩;simp only at ag ah ⊢;obtain⟨av,rfl,aw⟩:=Xl K aa ag;exact AX ((i+1:Nat):Int) (by simp) (by omega) (by omega) (Al ⟨av,rfl,aw,rfl,ah⟩)
  ·rintro⟨s1,s2,ak,Z,aj⟩ ⟨q,O,aa,ab,ae⟩;simp only at O ab ae;subst O;subst ab;unfold Nb;exact Bf (by simp) (Al ⟨_,rfl,q,rfl,aa,ae.Ai (by omega)⟩)
 ·rintro⟨aH,au⟩ ⟨q,O,aa,ah⟩;simp only at O ah ⊢;subst O;refine AI (S:=fun r=>r.1.length=yrs∧Gc J a r.1∧BG (k+30) r.2) ?_ ?_
  ·refine Cq yrs (fun i s=>s.2.2.2.2.1.length=i∧s.2.2.2.2.2=(i:Int)∧Gc J a (s.2.2.2.2.1++ [s.2.2.2.1])∧BG (k+7+i) (s.1,s.2.1,s.2.2.1)) ⟨rfl,rfl,⟨?_,?_⟩,ah⟩ (by omega) ?_ ?_
   ·intro m hm;simp at hm;subst hm;exact⟨q,rfl,aa⟩
   ·intro y m m' _ ay;simp at ay
   ·rintro i ⟨s1,s2,ak,Z,aj,az⟩ hi ⟨U,W,V,ai⟩;simp only at U W V ai;subst W;unfold MN;have aI:=V.range K i Z (by rw [List.getElem?_append_right (by omega)];simp [U]);obtain⟨u,hu⟩:∃u:Nat,Z=(u:Int):=⟨Z.toNat,by omega⟩;subst hu;obtain⟨al,am⟩:=K.S8 (q:=u) (by omega);refine BI (by simp only;omega) (Ij (by simp only;omega) ?_);refine AP (Ec (m:=u) rfl al) (AI (MQ (F:=F) ai (by omega) am (by have:=(K.Gh u).len;omega)) ?_);rintro⟨x,aA⟩ ⟨ag,ap⟩;simp only at ag ap ⊢;exact AX ((i+1:Nat):Int) (by simp) (by omega) (by omega) (Al ⟨by simp [U],rfl,V.snoc (by simpa using ag),ap⟩)
   ·rintro⟨s1,s2,ak,Z,aj,az⟩ ⟨U,W,V,ai⟩;simp only at U W V ai;subst W;unfold MN;refine Bf (by simp) (Al ⟨_,rfl,U,?_,ai.Ai (by omega)⟩);have:=V.take aj.length
    rwa [List.take_left' rfl] at this
  ·rintro⟨ms,aA⟩ ⟨U,W,V⟩;exact Al ⟨a,rfl,by omega,U,W,V⟩
theorem Cl.snoc{n:Nat}{O:BH}{l:Int×Int}(h:Cl n O)(aa:O.length<4)(V:0≤l.1∧l.1≤6)(W:0≤l.2∧l.2<(n:Int))(Z:∀x∈O,x.1≤l.1):Cl n (O++ [l]) where
 len:=by simp;omega
 yr x K:=by
  rcases List.mem_append.1 K with K | K
  ·exact h.yr x K
  ·simp at K;subst K;exact V
 sn x K:=by
  rcases List.mem_append.1 K with K | K
  ·exact h.sn x K
  ·simp at K;subst K;exact W
 II:=by
  rw [List.pairwise_append];exact⟨h.II,by simp,fun x K y U=>by simp at U;subst U;exact Z x K⟩
theorem Cl.nil{n:Nat}:Cl n []:=⟨by simp,by simp,by simp,by simp⟩
theorem Yy{F k n many:Nat}{b:Fp}{J:JW}{ms:List Int}(fl:Bool)(aD:100<F)(ag:VJ n J)(hb:BG k b)(aE:k<1000)(hm:many≤4)(ao:0<ms.length∧ms.length≤7)(W:∀(y:Nat) m,ms[y]? =some m→0≤m∧m<(n:Int)):
  A5 (f46 F b J ms (many:Int) fl) (fun r=>Cl n r.1∧r.1.length≤many∧(∀l∈r.1,l.1.toNat<ms.length)∧(fl=false→∀l∈r.1,ms[l.1.toNat]? =some l.2)∧BG (k+30) r.2):=by
 have ap:=ag.l2;unfold f46;refine AI (HV hb (by omega) (by omega)) ?_;rintro⟨ct,aF⟩ ⟨aq,g2,ah⟩;simp only at aq g2 ah ⊢;obtain⟨c,rfl⟩:∃c:Nat,ct=(c:Int):=⟨ct.toNat,by omega⟩;refine AI (S:=fun r=>Cl n r.1∧r.1.length≤many∧(∀l∈r.1,l.1.toNat<ms.length)∧(fl=false→∀l∈r.1,ms[l.1.toNat]? =some l.2)∧BG (k+30) r.2) ?_ (fun r W=>Al W);refine Ot (fun m s=>∃y:Nat,s.2.2.2.2.2=(m:Int)∧s.2.2.2.2.1=(y:Int)∧y<ms.length∧s.2.2.2.1.length+m≤many∧Cl n s.2.2.2.1∧(∀l∈s.2.2.2.1,l.1≤(y:Int))∧(fl=false→∀l∈s.2.2.2.1,ms[l.1.toNat]? =some l.2)∧BG (k+29 - 4*m) (s.1,s.2.1,s.2.2.1)) ?_ (m:=c) ⟨0,rfl,rfl,ao.1,by simp;omega,Cl.nil,by simp,by simp,ah.Ai (by omega)⟩ (by omega);rintro m ⟨s1,s2,aG,out,yr,cnt⟩ ⟨y,ai,e2,aH,hlen,U,hle,Z,aa⟩;simp only at ai e2 hlen U hle Z aa;subst ai;subst e2;unfold OJ;refine By (fun ar=>?_) (fun au=>?_)
 ·simp only at ar;have aI:0<m:=by omega
  refine AX ((ms.length - 1:Nat):Int) (by omega) (by omega) (by omega) (AX ((y+2:Nat):Int) (by simp only;omega) (by omega) (by omega) ?_);refine AI (OK (F:=F) aa (by omega) (by simp only;omega) (by simp only;omega) (by omega)) ?_;rintro⟨aj,aJ⟩ ⟨v1,v2,ab⟩;simp only at v1 v2 ab ⊢;obtain⟨z,rfl⟩:∃z:Nat,aj=(z:Int):=⟨aj.toNat,by omega⟩;have ak:z<ms.length:=by omega
  have hg:ms[z]? =some ms[z]:=List.getElem?_eq_getElem ak;obtain⟨aK,av⟩:=W z _ hg;obtain⟨q,aw⟩:∃q:Nat,ms[z]=(q:Int):=⟨ms[z].toNat,by omega⟩;rw [aw] at hg av;have aL:q<n:=by omega
  have ay:J.2[q]? =some (J.2.getD q []):=by rw [List.getD_eq_getElem?_getD,List.getElem?_eq_getElem (by omega)];rfl
  have al:=ag.Pq q;refine AP (Ec (m:=z) rfl hg) ?_;refine AP (Ec (m:=z) rfl hg) ?_;refine AP (Ec (m:=q) rfl ay) ?_;refine AI (S:=fun c=>c=true→fl=true∧0<(J.2.getD q []).length) ?_ ?_
  ·refine By (fun h=>Al fun O=>⟨h,by have:=of_decide_eq_true O;omega⟩) (fun _=>Al fun O=>by cases O)
  ·intro aM az;refine AI (S:=fun r=>(r.1=true→fl=true∧0<(J.2.getD q []).length)∧BG (k+29 - 4*m+2) r.2) ?_ ?_
   ·refine By (fun h=>?_) (fun _=>Al ⟨fun O=>(by cases O),BG.Ai ab (by omega)⟩);refine AI (K1 (F:=F) ab (by omega) (by omega) (by omega)) ?_;rintro⟨o,aA⟩ V;exact Al ⟨fun _=>az h,V⟩
   ·rintro⟨c2,aA⟩ ⟨am,V⟩;simp only at am V ⊢;refine AI (S:=fun r=>0≤r.2.2.2∧r.2.2.2<(n:Int)∧(fl=false→r.2.2.2=(q:Int))∧BG (k+29 - 4*m+3) (r.1,r.2.1,r.2.2.1)) ?_ ?_
    ·refine By (fun h=>?_) (fun _=>Al ⟨by simp only;omega,by simp only;omega,fun _=>rfl,BG.Ai V (by omega)⟩);obtain⟨f1,f2⟩:=am h;refine AI (MQ (F:=F) V (by omega) f2 (by have:=al.len;omega)) ?_;rintro⟨x,aN⟩ ⟨ae,aB⟩;have:=al.inr x ae;exact Al ⟨this.1,this.2,fun O=>(by rw [f1] at O;cases O),aB⟩
    ·rintro⟨u1,u2,aO,sn⟩ ⟨w1,w2,w3,w4⟩;simp only at w1 w2 w3 w4 ⊢;refine Ij (by have:=U.len;omega) (AX ((m - 1:Nat):Int) (by omega) (by omega) (by omega) ?_);refine Al ⟨m - 1,by omega,z,rfl,rfl,ak,by simp;omega,?_,?_,?_,w4.Ai (by omega)⟩
     ·exact U.snoc (by have:=U.len;omega) ⟨by simp only;omega,by simp only;omega⟩ ⟨w1,w2⟩ fun x ae=>by have:=hle x ae;simp only;omega
     ·intro l K;rcases List.mem_append.1 K with K | K
      ·have:=hle l K;omega
      ·simp at K;subst K;exact Int.le_refl _
     ·intro an l K;rcases List.mem_append.1 K with K | K
      ·exact Z an l K
      ·simp at K;subst K;rw [w3 an];exact hg
 ·simp only at au;have aC:m=0:=by omega
  subst aC;exact Al ⟨U,by omega,fun l K=>by have aP:=hle l K;have ap:=U.yr l K;omega,Z,aa.Ai (by omega)⟩
theorem Cl.set{n i:Nat}{K:BH}{s:Int}(h:Cl n K)(hi:i<K.length)(hs:0≤s∧s<(n:Int)):Cl n (K.set i (K[i].1,s)):=by
 have hm:=List.getElem_mem hi;refine⟨by simpa using h.len,fun l O=>?_,fun l O=>?_,?_⟩
 ·rcases List.mem_or_eq_of_mem_set O with U | rfl
  ·exact h.yr l U
  ·exact h.yr K[i] hm
 ·rcases List.mem_or_eq_of_mem_set O with U | rfl
  ·exact h.sn l U
  ·exact hs
 ·have key:(K.set i (K[i].1,s)).map (fun l=>l.1)=K.map (fun l=>l.1):=by
   rw [List.map_set];apply List.ext_getElem?;intro j;by_cases e:i=j
   ·subst e;rw [List.getElem?_set_self (by simpa using hi)];simp [hi]
   ·rw [List.getElem?_set_ne e]
  have V:(K.map fun l=>l.1).Pairwise (·≤·):=List.pairwise_map.2 h.II;rw [← key] at V;exact List.pairwise_map.1 V
theorem XH{F k n many:Nat}{b:Fp}{J:JW}(W:100<F)(K:VJ n J)(hb:BG k b)(ar:k<900)(hm:many≤4):
  A5 (f40 F b J (many:Int)) (fun r=>Cl n r.1∧r.1.length≤many∧(∀l∈r.1,l.1.toNat<5)∧BG (k+100) r.2):=by
 have au:=K.l1;have av:=K.pos;have aw:=K.le;unfold f40;refine AI (YC (yrs:=5) W K hb (by omega) (by omega)) ?_;rintro⟨ay,ms,az⟩ ⟨a,_,_,g2,Z,aa⟩;simp only at g2 Z aa ⊢;refine AI (Yy (many:=many) true W K aa (by omega) hm ⟨by omega,by omega⟩ (Z.range K)) ?_;rintro⟨O,aA⟩ ⟨v1,v2,ab,_,ae⟩;simp only at v1 v2 ab ae ⊢;refine AI (S:=fun r=>Cl n r.1∧r.1.length≤many∧(∀l∈r.1,l.1.toNat<5)∧BG (k+100) r.2) ?_ (fun r ak=>Al ak);refine Cq O.length (fun i s=>s.2.2.2.2=(i:Int)∧Cl n s.2.2.2.1∧s.2.2.2.1.length=O.length∧(∀l∈s.2.2.2.1,l.1.toNat<5)∧BG (k+60+3*i) (s.1,s.2.1,s.2.2.1)) ⟨rfl,v1,rfl,fun l al=>by have:=ab l al;omega,ae⟩ (by have:=v1.len;omega) ?_ ?_
 ·rintro i ⟨s1,s2,am,l,c⟩ hi ⟨e,w1,w2,w3,w4⟩;simp only at e w1 w2 w3 w4;subst e;unfold M9;have U:i<l.length:=by omega
  have an:=v1.len;refine BI (by simp only;omega) ?_;refine AI (K1 (F:=F) w4 (by omega) (by omega) (by omega)) ?_;rintro⟨o,aB⟩ V;simp only at V ⊢;refine AI (S:=fun r=>Cl n r.1∧r.1.length=O.length∧(∀x∈r.1,x.1.toNat<5)∧BG (k+60+3*i+2) r.2) ?_ ?_
  ·refine By (fun _=>?_) (fun _=>Al ⟨w1,w2,w3,BG.Ai V (by omega)⟩);refine AX ((n - 1:Nat):Int) (by omega) (by omega) (by omega) (AI (HV (F:=F) V (by omega) (by omega)) ?_);rintro⟨x,ao⟩ ⟨ag,x2,ah⟩;simp only at ag x2 ah ⊢;refine Bv (m:=i) rfl U (Al ⟨?_,by simpa using w2,?_,ah⟩)
   ·rw [show Int.toNat (i:Int)=i by omega];exact w1.set U ⟨ag,by omega⟩
   ·intro y ap;rcases List.mem_or_eq_of_mem_set ap with aq | rfl
    ·exact w3 y aq
    ·exact w3 l[i] (List.getElem_mem U)
  ·rintro⟨l2,ao⟩ ⟨u1,u2,ai,aj⟩;simp only at u1 u2 ai aj ⊢;exact AX ((i+1:Nat):Int) (by simp) (by omega) (by omega) (Al ⟨rfl,u1,u2,ai,BG.Ai aj (by omega)⟩)
 ·rintro⟨s1,s2,am,l,c⟩ ⟨e,w1,w2,w3,w4⟩;simp only at e w1 w2 w3 w4;subst e;unfold M9;have an:=v1.len;exact Bf (by simp only;omega) (Al ⟨_,rfl,w1,by simp only;omega,w3,BG.Ai w4 (by omega)⟩)
end Pal
namespace Pal
def Fo(J:JW)(K:BH)(p:List Int):Prop:=∀l∈K,∀m,p[l.1.toNat]? =some m→Ex J m l=true
def D5(K:BH):Nat→List Int→Nat
 | _,[]=>0
 | y,m::p=>Dp K y m K.length ||| D5 K (y+1) p
theorem RS(W:BH)(i:Nat):∀(p:List Int) (y:Nat),(D5 W y p).testBit i=true↔∃l,W[i]? =some l∧∃(q:Nat) (m:Int),p[q]? =some m∧l.1=((y+q:Nat):Int)∧m≠l.2
 | [],y=>by simp [D5]
 | m::p,y=>by
  unfold D5
  rw [Nat.testBit_or,Bool.or_eq_true,Ri,RS W i p (y+1)]
  constructor
  ·rintro(⟨_,l,K,O,U⟩ | ⟨l,K,q,u,O,U,V⟩)
   ·exact⟨l,K,0,m,rfl,by simpa using O,U⟩
   ·exact⟨l,K,q+1,u,by simpa using O,by rw [U];congr 1;omega,V⟩
  ·rintro⟨l,K,q,u,O,U,V⟩;cases q with
   | zero=>
    simp at O;subst O;exact .inl ⟨(List.getElem?_eq_some_iff.1 K).1,l,K,by simpa using U,V⟩
   | succ q=>exact .inr ⟨l,K,q,u,by simpa using O,by rw [U];congr 1;omega,V⟩
def LD(J:JW)(K:BH):Nat→Nat→List Int→Prop
 | _,_,[]=>True
 | y,sm,m::p=>m∈BU sm 16∧Fu J K y m=true∧LD J K (y+1) (CW (J.1.getD m.toNat [])) p
theorem MH(J:JW)(V:BH)(x:List Int×Nat):∀(k sm:Nat) (ms:List Int) (fl:Nat),x∈Er J V k sm ms fl↔∃p,p.length=k∧x.1=ms++p∧LD J V ms.length sm p∧x.2=fl ||| D5 V ms.length p
 | 0,sm,ms,fl=>by
  unfold Er
  rw [List.mem_singleton]
  constructor
  ·rintro rfl;exact⟨[],rfl,by simp,trivial,by simp [D5]⟩
  ·rintro⟨p,K,O,_,U⟩;have:p= []:=List.length_eq_zero_iff.1 K;subst this;simp [D5] at O U;exact Prod.ext O U
 | k+1,sm,ms,fl=>by
  unfold Er;rw [List.mem_flatMap];constructor
  ·rintro⟨m,hm,W⟩;split at W
   ·rename_i hb;obtain⟨p,K,O,U,Z⟩:=(MH J V x k _ _ _).1 W;refine⟨m::p,by simp [K],by rw [O];simp,⟨hm,hb,by simpa using U⟩,?_⟩;rw [Z];simp only [List.length_append,List.length_singleton,D5];exact Nat.or_assoc _ _ _
   ·simp at W
  ·rintro⟨p,K,O,U,Z⟩;cases p with
   | nil=>simp at K
   | cons m p=>
    obtain⟨aa,g2,ab⟩:=U;refine⟨m,aa,?_⟩;rw [if_pos g2];refine(MH J V x k _ _ _).2 ⟨p,by simpa using K,by rw [O];simp,by simpa using ab,?_⟩;rw [Z];simp only [List.length_append,List.length_singleton,D5];exact(Nat.or_assoc _ _ _).symm
theorem Q9{J:JW}{K:BH}{y:Nat}{m:Int}:Fu J K y m=true↔∀l∈K,l.1=(y:Int)→Ex J m l=true:=by
 unfold Fu;rw [List.all_eq_true];refine forall_congr' fun l=>forall_congr' fun _=>?_;rw [Bool.or_eq_true,decide_eq_true_iff];by_cases h:l.1=(y:Int) <;> simp [h]
theorem Ob{n q:Nat}{J:JW}{m:Int}(U:VJ n J):m∈BU (CW (J.1.getD q [])) 16↔m∈J.1.getD q []:=by
 have K:=U.Gh q;have W:=U.le;rw [Ie];constructor
 ·rintro⟨k,_,V,rfl⟩;rw [Mc (fun x O=>(K.inr x O).1)] at V;exact of_decide_eq_true V
 ·intro h;have:=K.inr m h;refine⟨m.toNat,by omega,?_,by omega⟩;rw [Mc (fun x O=>(K.inr x O).1),show((m.toNat:Nat):Int)=m by omega];exact decide_eq_true h
theorem Ow{n:Nat}{J:JW}{ae:BH}(aa:VJ n J):∀(p:List Int) (y sm:Nat),LD J ae y sm p↔(∀m,p[0]? =some m→m∈BU sm 16)∧(∀(q:Nat) m m',p[q]? =some m→p[q+1]? =some m'→m'∈J.1.getD m.toNat [])∧∀l∈ae,∀(q:Nat) m,l.1=((y+q:Nat):Int)→p[q]? =some m→Ex J m l=true
 | [],y,sm=>by simp [LD]
 | m::p,y,sm=>by
  unfold LD
  rw [Ow aa p,Q9]
  constructor
  ·rintro⟨ab,U,V,ag,ah⟩
   refine⟨fun u hu=>by simp at hu;subst hu;exact ab,fun q u W hu O=>?_,fun l K q u Z hu=>?_⟩
   ·cases q with
    | zero=>
     simp at hu O;subst hu;exact(Ob aa).1 (V W (by rw [List.getElem?_eq_some_iff];exact List.getElem?_eq_some_iff.1 O))
    | succ q=>exact ag q u W (by simpa using hu) (by simpa using O)
   ·cases q with
    | zero=>
     simp at hu;subst hu;exact U l K (by simpa using Z)
    | succ q=>exact ah l K q u (by rw [Z];congr 1;omega) (by simpa using hu)
  ·rintro⟨ab,U,V⟩;refine⟨ab m rfl,fun l K ai=>V l K 0 m (by simpa using ai) rfl,fun u hu=>(Ob aa).2 (U 0 m u rfl (by simpa using hu)),fun q u W hu O=>U (q+1) u W (by simpa using hu) (by simpa using O),fun l K q u Z hu=>V l K (q+1) u (by rw [Z];congr 1;omega) (by simpa using hu)⟩
theorem OY{n a:Nat}{J:JW}{K:BH}(V:VJ n J)(ai:Cl n K){t:BW}:t∈TA J K a↔t.1=(a:Int)∧t.2.1.length=DU K+1∧Gc J a t.2.1∧Fo J K t.2.1∧t.2.2=D5 K 0 t.2.1:=by
 have ab:∀m:Int,m∈BU (AG J a) 16↔∃k:Nat,m=(k:Int)∧(AG J a).testBit k=true:=fun m=>by
  rw [Ie];exact⟨fun⟨k,_,U,O⟩=>⟨k,O,U⟩,fun⟨k,U,O⟩=>⟨k,by have:=Ik (Iz V a) O;have:=V.le;omega,O,U⟩⟩
 have ae:∀p:List Int,(∀l∈K,∀(q:Nat) m,l.1=((0+q:Nat):Int)→p[q]? =some m→Ex J m l=true)↔Fo J K p:=fun p=>by
  constructor
  ·intro h l W m hm;have:=ai.yr l W;exact h l W l.1.toNat m (by omega) hm
  ·intro h l W q m am hm;exact h l W m (by rw [show l.1.toNat=q by omega];exact hm)
 unfold TA;rw [List.mem_map];constructor
 ·rintro⟨x,aj,rfl⟩;obtain⟨p,U,O,Z,aa⟩:=(MH J K x _ _ _ _).1 aj;obtain⟨ak,g2,al⟩:=(Ow V p _ _).1 Z;simp only [List.nil_append] at O;rw [O,aa];refine⟨rfl,U,⟨fun m hm=>(ab m).1 (ak m hm),g2⟩,(ae p).1 al,?_⟩;simp
 ·rintro⟨U,O,⟨Z,aa⟩,ag,ah⟩;obtain⟨t1,t2,t3⟩:=t;simp only at U O Z aa ag ah;subst U;subst ah;refine⟨(t2,D5 K 0 t2),(MH J K _ _ _ _ _).2 ⟨t2,O,by simp,(Ow V t2 _ _).2 ⟨fun m hm=>(ab m).2 (Z m hm),aa,(ae t2).2 ag⟩,by simp⟩,rfl⟩
def DK(p:List Int)(l:Int×Int):Bool:=decide (p.getD l.1.toNat 0≠l.2)
theorem P8{α:Type}(K:List α)(Q:α→Bool):∀k,((List.range k).filter fun i=>(K[i]?.map Q).getD false).length=((K.take k).filter Q).length
 | 0=>by simp
 | k+1=>by
  rw [List.range_succ,List.filter_append,List.length_append,P8 K Q k,List.take_add_one,List.filter_append,List.length_append]
  congr 1
  cases h:K[k]? with
  | none=>simp [h]
  | some x=>cases O:Q x <;> simp [h,O]
theorem QB{n:Nat}{K:BH}{p:List Int}(W:Cl n K)(Z:∀l∈K,l.1.toNat<p.length)(i:Nat):(D5 K 0 p).testBit i=(K[i]?.map (DK p)).getD false:=by
 rw [Bool.eq_iff_iff,RS];cases h:K[i]? with
 | none=>simp
 | some l=>
  have hm:=List.mem_of_getElem? h;have O:=Z l hm;have ab:=W.yr l hm;have hg:p.getD l.1.toNat 0=p[l.1.toNat]:=by rw [List.getD_eq_getElem?_getD,List.getElem?_eq_getElem O];rfl
  simp only [Option.map_some,Option.getD_some,DK,decide_eq_true_iff,hg];constructor
  ·rintro⟨ae,U,q,m,V,ag,aa⟩;cases U;have:l.1.toNat=q:=by omega
   subst this;rw [List.getElem?_eq_getElem O] at V;cases V;exact aa
  ·intro U;exact⟨l,rfl,l.1.toNat,_,List.getElem?_eq_getElem O,by omega,U⟩
theorem Oq{n:Nat}{K:BH}(U:Cl n K):∀l∈K,l.1.toNat≤DU K:=by
 intro l V;obtain⟨i,hi,rfl⟩:=List.mem_iff_getElem.1 V;have O:K.length - 1<K.length:=by omega
 unfold DU;rw [List.getLast?_eq_getElem?,List.getElem?_eq_getElem O];simp only;rcases Nat.lt_or_ge i (K.length - 1) with h | h
 ·have:=List.pairwise_iff_getElem.1 U.II i (K.length - 1) hi O h;omega
 ·have e:i=K.length - 1:=by omega
  subst e;exact Nat.le_refl _
theorem Rh{n a:Nat}{J:JW}{K:BH}(U:VJ n J)(O:Cl n K){t:BW}(ht:t∈TA J K a):CY t=(K.filter (DK t.2.1)).length:=by
 obtain⟨_,Z,_,_,V⟩:=(OY U O).1 ht;have aa:=O.len;unfold CY BU;rw [List.length_map,V];have e:(List.range 16).filter (fun i=>(D5 K 0 t.2.1).testBit i)=(List.range 16).filter fun i=>(K[i]?.map (DK t.2.1)).getD false:=
  List.filter_congr fun i _=>QB O (fun l W=>by have:=Oq O l W;omega) i
 rw [e,P8,List.take_of_length_le (by omega)]
theorem Oc{J:JW}{m:Int}{l:Int×Int}:Ex J m l=true↔m=l.2∨l.2∈J.2.getD m.toNat []:=by
 unfold Ex;simp
end Pal
namespace Pal
theorem X8{F n:Nat}{K:BH}(O:Cl n K):f52 F K=some ((DU K+1:Nat):Int):=by
 have V:=O.len;have W:=Jv O;refine CV ?_;unfold f52;refine By (fun h=>?_) (fun h=>?_)
 ·have:K= []:=List.length_eq_zero_iff.1 (by omega);subst this;exact Al rfl
 ·have U:K.length - 1<K.length:=by omega
  have Z:=O.yr _ (List.getElem_mem U);have e:DU K=K[K.length - 1].1.toNat:=by unfold DU;rw [List.getLast?_eq_getElem?,List.getElem?_eq_getElem U]
  refine AX ((K.length - 1:Nat):Int) (by omega) (by omega) (by omega) (Bv (m:=K.length - 1) rfl U ?_);refine AX (K[K.length - 1].1+1) rfl (by omega) (by omega) (Al ?_);rw [e];omega
theorem PO(s k:Nat):(BU s k).Pairwise (·<·):=by
 unfold BU;rw [List.pairwise_map];exact(List.pairwise_lt_range.filter _).imp fun h=>by omega
theorem Yo{F n:Nat}{J:JW}{K:BH}(al:3489660928<F)(ab:VJ n J)(Z:Cl n K)(ah:K.length≤4):
  A5 (f61 F J K) (fun r=>(TT J K= []∧r=((0,0),11))∨∃k,G7 J K k∧r.2=0∧(∃t∈Dz J K k,t.1=r.1.1)∧(∃t∈Dz J K k,t.1=r.1.2)∧∀t∈Dz J K k,r.1.1≤t.1∧t.1≤r.1.2):=by
 unfold f61;refine AI (asked (by omega) ab Z ah ⟨by omega,by omega⟩) ?_;rintro⟨x,q,e⟩ (⟨V,O,U⟩ | ⟨k,V,O,U⟩)
 ·simp only at O U;subst O;subst U;exact BI (by simp) (Al (.inl ⟨V,rfl⟩))
 ·simp only at O U;subst O;subst U;refine Bf (by simp) ?_;have am:(Dz J K k).length≤3489660928:=Nat.le_trans (List.length_filter_le _ _) (OS Z);have ai:=V.pos;have ae:∀t∈Dz J K k,0≤t.1∧t.1<13:=fun t ht=>(S5 (F:=F) (by omega) ab Z (List.mem_filter.1 ht).1).2;refine AI (Yq (by simp only;omega) (by simp only;omega) ae) ?_;rintro s ⟨s1,s2⟩;refine AP (M6 (by omega) (by omega)) ?_;have W:∀x:Int,x∈BU s 16↔∃t∈Dz J K k,t.1=x:=fun x=>by
   rw [Ie];constructor
   ·rintro⟨a,_,O,rfl⟩;exact(s2 a).1 O
   ·rintro⟨t,ht,rfl⟩;have:=ae t ht;exact⟨t.1.toNat,by omega,(s2 _).2 ⟨t,ht,by omega⟩,by omega⟩
  have an:=Jj s 16;have aa:0<(BU s 16).length:=List.length_pos_of_mem ((W _).2 ⟨_,List.getElem_mem ai,rfl⟩);have aj:=PO s 16;refine Bv (m:=0) rfl aa ?_;refine AX (((BU s 16).length - 1:Nat):Int) (by omega) (by omega) (by omega) ?_;refine Bv (m:=(BU s 16).length - 1) rfl (by omega) ?_;refine Al (.inr ⟨k,V,rfl,(W _).1 (List.getElem_mem aa),(W _).1 (List.getElem_mem (by omega)),fun t ht=>?_⟩);obtain⟨i,hi,ak⟩:=List.mem_iff_getElem.1 ((W _).2 ⟨t,ht,rfl⟩);have ag:=List.pairwise_iff_getElem.1 aj;simp only;rw [← ak];constructor
  ·rcases Nat.eq_zero_or_pos i with rfl | h
   ·exact Int.le_refl _
   ·have:=ag 0 i aa hi h;omega
  ·rcases Nat.lt_or_ge i ((BU s 16).length - 1) with h | h
   ·have:=ag i _ hi (by omega) h;omega
   ·have e:i=(BU s 16).length - 1:=by omega
    subst e;exact Int.le_refl _
end Pal
namespace Pal
theorem RE:∀{a b:List Int},a.Pairwise (·<·)→b.Pairwise (·<·)→(∀x,x∈a↔x∈b)→a=b
 | [],[],_,_,_=>rfl
 | [],y::b,_,_,h=>by have:=(h y).2 (by simp);simp at this
 | x::a,[],_,_,h=>by have:=(h x).1 (by simp);simp at this
 | x::a,y::b,W,hb,h=>by
  obtain⟨U,Z⟩:=List.pairwise_cons.1 W
  obtain⟨V,aa⟩:=List.pairwise_cons.1 hb
  have ab:x=y:=by
   have ae:=(h x).1 (by simp);have ag:=(h y).2 (by simp);rcases List.mem_cons.1 ae with e | e
   ·exact e
   ·rcases List.mem_cons.1 ag with K | K
    ·exact K.symm
    ·have:=U y K;have:=V x e;omega
  subst ab;rw [RE Z aa fun z=>?_];have O:=h z;simp only [List.mem_cons] at O;constructor
  ·intro hm;rcases O.1 (.inr hm) with e | e
   ·subst e;have:=U z hm;omega
   ·exact e
  ·intro hm;rcases O.2 (.inr hm) with e | e
   ·subst e;have:=V z hm;omega
   ·exact e
theorem T4{n q:Nat}{J:JW}(K:VJ n J):BU (CW (J.1.getD q [])) 16=J.1.getD q []:=RE (PO _ _) (K.Gh q).II fun _=>Ob K
end Pal
namespace Pal
def nx(J:JW)(m:Int):List Int:=J.1.getD m.toNat []
def Es(J:JW):Nat→List Int→Int→List (List Int)
 | 0,p,_=> [p]
 | k+1,p,m=>(nx J m).flatMap fun u=>Es J k (p++ [u]) u
theorem Oy{J:JW}:∀(k:Nat) (p:List Int) (m:Int) (q:List Int),q∈Es J k p m→∃e,q=p++e∧e.length=k
 | 0,p,m,q,h=>by
  simp only [Es,List.mem_singleton] at h
  exact⟨[],by simp [h],rfl⟩
 | k+1,p,m,q,h=>by
  simp only [Es,List.mem_flatMap] at h
  obtain⟨u,_,h⟩:=h
  obtain⟨e,rfl,he⟩:=Oy k _ u q h
  exact⟨u::e,by simp,by simp [he]⟩
theorem QM{J:JW}:∀(k:Nat) (p:List Int) (m:Int),p.getLast? =some m→Es J (k+1) p m=(Es J k p m).flatMap fun q=>(nx J (q.getLast?.getD 0)).map fun u=>q++ [u]
 | 0,p,m,h=>by simp [Es,h,List.map_eq_flatMap]
 | k+1,p,m,h=>by
  rw [show Es J (k+1+1) p m=(nx J m).flatMap fun u=>Es J (k+1) (p++ [u]) u from rfl,show Es J (k+1) p m=(nx J m).flatMap fun u=>Es J k (p++ [u]) u from rfl,List.flatMap_assoc]
  congr 1
  funext u
  exact QM k (p++ [u]) u (by simp)
theorem Ql{n:Nat}{J:JW}(K:VJ n J):∀(k:Nat) (p:List Int) (m:Int),(Es J k p m).length≤3 ^ k
 | 0,p,m=>by simp [Es]
 | k+1,p,m=>by
  simp only [Es]
  refine Nat.le_trans (HI (b:=3 ^ k) fun u _=>Ql K k _ u) ?_
  rw [Nat.pow_succ,Nat.mul_comm]
  exact Nat.mul_le_mul_left _ (K.Gh m.toNat).len
def DJ(J:JW)(Y a:Nat):List (List Int):=(BU (AG J a) 16).flatMap fun m=>Es J Y [m] m
def EO(J:JW)(Y k:Nat):List (Int×List Int):=(List.range k).flatMap fun a=>(DJ J Y a).map fun q=>((a:Int),q)
theorem QC{n:Nat}{J:JW}(K:VJ n J)(Y a:Nat):(DJ J Y a).length≤16*3 ^ Y:=by
 unfold DJ;exact Nat.le_trans (HI (b:=3 ^ Y) fun u _=>Ql K Y _ u) (Nat.mul_le_mul_right _ (N5 _))
theorem RX{Y:Nat}(h:Y≤7):3 ^ Y≤2187:=Nat.le_trans (Nat.pow_le_pow_right (by omega) h) (by decide)
theorem QT{n:Nat}{J:JW}(K:VJ n J){Y k:Nat}(O:Y≤7):(EO J Y k).length≤k*34992:=by
 unfold EO;refine Nat.le_trans (HI (b:=34992) fun a _=>?_) (by simp);rw [List.length_map];have:=QC K Y a;have:=RX O;omega
theorem MB{n:Nat}{J:JW}(U:VJ n J):∀(k:Nat) (p:List Int) (m:Int) (q:List Int),p.getLast? =some m→(q∈Es J k p m↔∃e,q=p++e∧e.length=k∧∀(y:Nat) u v,p.length≤y+1→q[y]? =some u→q[y+1]? =some v→v∈nx J u)
 | 0,p,m,q,h=>by
  simp only [Es,List.mem_singleton]
  constructor
  ·rintro rfl
   refine⟨[],by simp,rfl,fun y u v O hu W=>?_⟩;have:=(List.getElem?_eq_some_iff.1 W).1;omega
  ·rintro⟨e,rfl,he,_⟩;rw [List.length_eq_zero_iff.1 he,List.append_nil]
 | k+1,p,m,q,h=>by
  have hlen:0<p.length:=by
   cases p with
   | nil=>simp at h
   | cons=>simp
  have V:p[p.length - 1]? =some m:=by rw [← List.getLast?_eq_getElem?];exact h
  simp only [Es,List.mem_flatMap];constructor
  ·rintro⟨u,hu,Z⟩;obtain⟨e,rfl,he,hw⟩:=(MB U k (p++ [u]) u q (by simp)).1 Z;refine⟨u::e,by simp,by simp [he],fun y a b O K hb=>?_⟩;rcases Nat.lt_or_ge (y+1) (p.length+1) with aa | aa
   ·have ab:y=p.length - 1:=by omega
    subst ab;rw [List.append_assoc,List.getElem?_append_left (by omega),V] at K;rw [List.append_assoc,List.getElem?_append_right (by omega),show p.length - 1+1 - p.length=0 by omega] at hb;simp at K hb;subst K;subst hb;exact hu
   ·exact hw y a b (by simp;omega) K hb
  ·rintro⟨e,rfl,he,hw⟩;cases e with
   | nil=>simp at he
   | cons u e=>
    refine⟨u,hw (p.length - 1) m u (by omega) (by rw [List.getElem?_append_left (by omega)];exact V) (by rw [List.getElem?_append_right (by omega),show p.length - 1+1 - p.length=0 by omega];rfl),?_⟩;refine(MB U k (p++ [u]) u _ (by simp)).2 ⟨e,by simp,by simpa using he,fun y a b O K hb=>?_⟩;exact hw y a b (by simp at O;omega) K hb
theorem Oo{n:Nat}{J:JW}(U:VJ n J){Y a:Nat}{p:List Int}:p∈DJ J Y a↔p.length=Y+1∧Gc J a p:=by
 have W:∀m:Int,m∈BU (AG J a) 16↔∃k:Nat,m=(k:Int)∧(AG J a).testBit k=true:=fun m=>by
  rw [Ie];exact⟨fun⟨k,_,O,K⟩=>⟨k,K,O⟩,fun⟨k,O,K⟩=>⟨k,by have:=Ik (Iz U a) K;have:=U.le;omega,K,O⟩⟩
 unfold DJ;rw [List.mem_flatMap];constructor
 ·rintro⟨m,hm,h⟩;obtain⟨e,rfl,he,hw⟩:=(MB U Y [m] m p rfl).1 h;refine⟨by simp [he],fun u hu=>?_,fun y u v hu V=>hw y u v (by simp) hu V⟩;simp at hu;subst hu;exact(W m).1 hm
 ·rintro⟨Z,O,K⟩;cases p with
  | nil=>simp at Z
  | cons m e=>
   refine⟨m,(W m).2 (O m rfl),(MB U Y [m] m _ rfl).2 ⟨e,rfl,by simpa using Z,fun y u v _ hu V=>K y u v hu V⟩⟩
theorem VW{n:Nat}{J:JW}(O:VJ n J){Y:Nat}{t:Int×List Int}:t∈EO J Y 13↔∃a:Nat,a<13∧t.1=(a:Int)∧t.2.length=Y+1∧Gc J a t.2:=by
 unfold EO;rw [List.mem_flatMap];constructor
 ·rintro⟨a,K,h⟩;obtain⟨p,U,rfl⟩:=List.mem_map.1 h;have:=(Oo O).1 U;exact⟨a,List.mem_range.1 K,rfl,this.1,this.2⟩
 ·rintro⟨a,K,V,W,Z⟩;refine⟨a,List.mem_range.2 K,List.mem_map.2 ⟨t.2,(Oo O).2 ⟨W,Z⟩,?_⟩⟩;exact Prod.ext V.symm rfl
def I4(J:JW)(K:BH)(p:List Int):Bool:=K.all fun l=>match p[l.1.toNat]? with
 | some m=>Ex J m l
 | none=>true
theorem Jk{J:JW}{K:BH}{p:List Int}:I4 J K p=true↔Fo J K p:=by
 unfold I4 Fo;rw [List.all_eq_true];refine forall_congr' fun l=>forall_congr' fun _=>?_;cases p[l.1.toNat]? with
 | none=>simp
 | some m=>simp
theorem Fo.pre{J:JW}{K:BH}{p e:List Int}(h:Fo J K (p++e)):Fo J K p:=fun l O m hm=>h l O m (by
 rw [List.getElem?_append_left (List.getElem?_eq_some_iff.1 hm).1];exact hm)
theorem Fo.snoc{n:Nat}{J:JW}{O:BH}(W:Cl n O){p:List Int}{u:Int}:Fo J O (p++ [u])↔Fo J O p∧Fu J O p.length u=true:=by
 rw [Q9];constructor
 ·intro h;refine⟨h.pre,fun l K U=>h l K u ?_⟩;rw [U,Int.toNat_natCast];simp
 ·rintro⟨Z,aa⟩ l K m hm;have U:=W.yr l K;rcases Nat.lt_or_ge l.1.toNat p.length with V | V
  ·rw [List.getElem?_append_left V] at hm;exact Z l K m hm
  ·have ab:=(List.getElem?_eq_some_iff.1 hm).1;simp at ab;have ae:l.1.toNat=p.length:=by omega
   rw [ae] at hm;simp at hm;subst hm;exact aa l K (by omega)
theorem QZ(K:BH)(u:Int):∀(p:List Int) (y:Nat),D5 K y (p++ [u])=D5 K y p ||| Dp K (y+p.length) u K.length
 | [],y=>by simp [D5]
 | m::p,y=>by
  simp only [List.cons_append,D5,QZ K u p (y+1),List.length_cons]
  rw [show y+1+p.length=y+(p.length+1) by omega]
  exact(Nat.or_assoc _ _ _).symm
def pick(J:JW)(K:BH)(p:List Int):Option (List Int×Nat):=if I4 J K p=true then some (p,D5 K 0 p) else none
theorem O0{α β:Type}{f:α→Option β}:∀{l:List α},(∀x∈l,f x=none)→l.filterMap f= []
 | [],_=>rfl
 | x::l,h=>by
  rw [List.filterMap_cons,h x (by simp)]
  exact O0 fun y K=>h y (by simp [K])
theorem MG{α β K:Type}{f:α→List β}{g:β→Option K}:∀{l:List α},(l.flatMap f).filterMap g=l.flatMap fun x=>(f x).filterMap g
 | []=>rfl
 | x::l=>by simp only [List.flatMap_cons,List.filterMap_append,MG]
theorem Rc{n:Nat}{J:JW}{K:BH}(U:VJ n J)(O:Cl n K):∀(k:Nat) (ms:List Int) (m:Int),Fo J K ms→Er J K k (CW (nx J m)) ms (D5 K 0 ms)=(Es J k ms m).filterMap (pick J K)
 | 0,ms,m,h=>by
  simp only [Er,Es,pick,List.filterMap_cons,List.filterMap_nil,if_pos (Jk.2 h)]
 | k+1,ms,m,h=>by
  simp only [Er,Es,MG]
  rw [show BU (CW (nx J m)) 16=nx J m from T4 U]
  refine KD fun u _=>?_
  split
  ·rename_i hb
   have V:Fo J K (ms++ [u]):=(Fo.snoc O).2 ⟨h,hb⟩;have:=Rc U O k (ms++ [u]) u V;rw [QZ,Nat.zero_add] at this;exact this
  ·rename_i hb;refine(O0 fun q W=>?_).symm;obtain⟨e,rfl,_⟩:=Oy k _ u q W;unfold pick;rw [if_neg];intro hs;exact hb ((Fo.snoc O).1 (Jk.1 hs).pre).2
theorem Yh{n:Nat}{J:JW}{K:BH}(V:VJ n J)(U:Cl n K)(a:Nat):TA J K a=((DJ J (DU K) a).filterMap (pick J K)).map fun x=>((a:Int),x.1,x.2):=by
 unfold TA DJ;rw [MG];congr 1;simp only [Er];refine KD fun u _=>?_;have W:Fo J K ([]:List Int):=fun l _ m hm=>by simp at hm
 have O:=Fo.snoc (J:=J) (p:= []) (u:=u) U;simp only [List.nil_append,List.length_nil] at O ⊢;split
 ·rename_i hb;have Z:Fo J K [u]:=O.2 ⟨W,hb⟩;have:=Rc V U (DU K) [u] u Z;simp only [D5,Nat.or_zero] at this;rw [Nat.zero_or];exact this
 ·rename_i hb;refine(O0 fun q aa=>?_).symm;obtain⟨e,rfl,_⟩:=Oy _ _ u q aa;unfold pick;rw [if_neg];intro hs;exact hb (O.1 (Jk.1 hs).pre).2
def EF(J:JW)(K:BH)(t:Int×List Int):Option BW:=(pick J K t.2).map fun x=>(t.1,x.1,x.2)
theorem Yx{n:Nat}{J:JW}{K:BH}(O:VJ n J)(U:Cl n K):TT J K=(EO J (DU K) 13).filterMap (EF J K):=by
 unfold TT EO;rw [MG];refine KD fun a _=>?_;rw [Yh O U,List.filterMap_map,List.map_filterMap]
 rfl
end Pal
namespace Pal
theorem La{α:Type}{f:Nat→α}{N i:Nat}(h:i<N):((List.range N).map f)[i]? =some (f i):=by simp [h]
theorem Ir{α:Type}{f:Nat→α}{N:Nat}(i:Nat)(v:α):((List.range N).map f).set i v=(List.range N).map (fun j=>if j=i then v else f j):=by
 apply List.ext_getElem?;intro j;by_cases K:j<N
 ·by_cases e:i=j
  ·subst e;rw [List.getElem?_set_self (by simpa using K),La K,if_pos rfl]
  ·rw [List.getElem?_set_ne e,La K,La K,if_neg (fun h=>e h.symm)]
 ·rw [List.getElem?_eq_none (by simpa using K),List.getElem?_eq_none (by simpa using K)]
theorem JK{α:Type}{z:α}{N:Nat}:List.replicate N z=(List.range N).map fun _=>z:=by
 apply List.ext_getElem?;intro j;by_cases K:j<N
 ·rw [La K,List.getElem?_replicate,if_pos K]
 ·rw [List.getElem?_eq_none (by simpa using K),List.getElem?_eq_none (by simpa using K)]
theorem D8{α β:Type}{Q:α→Prop}{f:β→Option α}{g:Nat→β}{N i:Nat}{j:Int}(h:j=(i:Int))(hi:i<N)(k:A5 (f (g i)) Q):A5 ((ix ((List.range N).map g) j).bind f) Q:=AP (Ec h (La hi)) k
end Pal
namespace Pal
open Go Go.Conc Go.Proofs Go.Extern
section
variable {s:St}{X:Halt→St→Prop}
end
end Pal
namespace Pal
open Go Go.Conc
theorem Tz{E H:LH}{B:List (Nat×Obj)}(i:Nat){bk:Nat}{o:Obj}(K:Nd E H B)(h:B[i]? =some (bk,o)):∃E',Le E E'∧E' bk=some o∧Nd E' H (B.eraseIdx i)∧Cv (mk E H B) (mk E' H (B.eraseIdx i)):=by
 have ag:=List.mem_of_getElem? h;have ah:E bk=none∧H bk=none:=by
  have:∀{B:List (Nat×Obj)},Nd E H B→(bk,o)∈B→E bk=none∧H bk=none:=by
   intro B K O
   induction B with
   | nil=>simp at O
   | cons q B V=>
    rcases List.mem_cons.1 O with rfl | O
    ·exact⟨K.1,K.2.1⟩
    ·exact V K.2.2.2 O
  exact this K ag
 let E':LH:=fun x=>if x=bk then some o else E x
 have aa:E' bk=some o:=by simp [E']
 have hle:Le E E':=fun x u U=>by
  have:x≠bk:=fun e=>by subst e;rw [ah.1] at U;cases U
  simp [E',this,U]
 have ai:Nd E' H (B.eraseIdx i):=by
  have:∀{B:List (Nat×Obj)} {i:Nat},Nd E H B→B[i]? =some (bk,o)→Nd E' H (B.eraseIdx i)∧∀p∈B.eraseIdx i,p.1≠bk:=by
   intro B
   induction B with
   | nil=>intro i _ h;simp at h
   | cons q B V=>
    obtain⟨c,v⟩:=q;intro i K h;have up:∀{B:List (Nat×Obj)},Nd E H B→(∀p∈B,p.1≠bk)→Nd E' H B:=by
     intro B K ab
     induction B with
     | nil=>trivial
     | cons q B aj=>exact⟨by simpa [E',ab q (by simp)] using K.1,K.2.1,K.2.2.1,aj K.2.2.2 fun p O=>ab p (List.mem_cons_of_mem _ O)⟩
    cases i with
    | zero=>
     simp at h;obtain⟨rfl,rfl⟩:=h;exact⟨up K.2.2.2 K.2.2.1,K.2.2.1⟩
    | succ i=>
     simp at h;obtain⟨W,Z⟩:=V K.2.2.2 h;have ae:c≠bk:=fun e=>K.2.2.1 (bk,o) (List.mem_of_getElem? h) e.symm;refine⟨⟨by simpa [E',ae] using K.1,K.2.1,fun p O=>K.2.2.1 p (List.mem_of_mem_eraseIdx O),W⟩,fun p O=>?_⟩;rcases List.mem_cons.1 O with rfl | O
     ·exact ae
     ·exact Z p O
  exact(this K h).1
 refine⟨E',hle,aa,ai,⟨fun x u U=>hle x u U,fun x u U=>(Km K h U).2,fun x u U=>?_,rfl⟩⟩;by_cases e:x=bk
 ·subst e;right;have:u=o:=by have:E' x=some u:=U;rw [aa] at this;exact(Option.some.inj this).symm
  subst this;refine⟨HP K h,?_⟩;cases ak:(mk E' H (B.eraseIdx i)).H x with
  | none=>rfl
  | some y=>exact absurd rfl (Km K h ak).1
 ·left;have W:E' x=some u:=U;have Z:E' x=E x:=by simp [E',e]
  show E x=some u;rw [← Z];exact W
theorem To{E H:LH}{B0:List (Nat×Obj)}{e:TypeId}{sz l c:Nat}{a:Option Addr}{blk:List (Nat×Obj)}{xs:Lv_}(hg:GS e sz a l c blk xs)(O:Nd E H (B0++blk)):∃E',Le E E'∧ND E' sz (.slice a l c) l xs∧Nd E' H B0∧Cv (mk E H (B0++blk)) (mk E' H B0):=by
 rcases hg with⟨rfl,rfl,rfl,rfl,rfl⟩ | ⟨bk,f,rfl,rfl,Z,U,rfl⟩
 ·simp only [List.append_nil] at O ⊢;exact⟨E,Le.refl _,.nil,O,.refl _⟩
 ·have aa:(B0++ [(bk,Obj.cells f e (0,0))])[B0.length]? =some (bk,Obj.cells f e (0,0)):=by simp
  obtain⟨E',hle,ab,V,W⟩:=Tz B0.length O aa;have ae:(B0++ [(bk,Obj.cells f e (0,0))]).eraseIdx B0.length=B0:=by rw [List.eraseIdx_append_of_length_le (Nat.le_refl _)];simp
  rw [ae] at V W;refine⟨E',hle,⟨_,c,rfl,U,?_,.inr ⟨bk,0,f,e,(0,0),rfl,ab,fun j w K=>?_⟩⟩,V,W⟩
  ·have:l*sz≤c*sz:=Nat.mul_le_mul_right _ U;simp [Z,Nat.min_eq_left this]
  ·rw [List.getElem?_take] at K;split at K
   ·simpa using K
   ·cases K
theorem Tq{α:Type}{pp:Rp α}{E H:LH}{S:List Seg}{e:TypeId}{a:Option Addr}{c:Nat}{seg:Seg}{xs:List α}(j:Nat)(hg:OL e pp E a c seg xs)(ae:Au E H S)(ag:S[j]? =some seg):∃E',Le E E'∧Ap pp E' a c xs∧Au E' H (S.set j [])∧Cv (Ak E H S) (Ak E' H (S.set j [])):=by
 obtain⟨wss,hg,W,Z⟩:=hg;have ah:∀ad:Addr,a=some ad→ad.spot=none:=fun ad K=>by
  rcases hg with⟨O,_⟩ | ⟨bk,f,O,_⟩
  ·rw [O] at K;cases K
  ·rw [O] at K;cases K;rfl
 obtain⟨O,ai⟩:=F8 ae ag;obtain⟨E',hle,aj,ak,aa⟩:=To hg ai;rw [← O] at aa;refine⟨E',hle,?_,ak,aa⟩;obtain⟨al,am,U,an,au,V⟩:=aj;obtain⟨rfl,-,rfl⟩:a=al∧xs.length=xs.length∧c=am:=by
  simp only [Value.slice.injEq] at U;exact⟨U.1,rfl,U.2.2⟩
 refine⟨an,?_⟩;rcases V with V | ⟨bk,off,f,ao,fr,ap,g2,aq⟩
 ·exact .inl ⟨List.eq_nil_of_length_eq_zero V,fun ad K=> .inl (ah ad K)⟩
 ·refine .inr ⟨bk,off,ap,fun i x ab=>?_⟩;have ar:i<wss.length:=by rw [W];exact(List.getElem?_eq_some_iff.1 ab).1
  have hw:=List.getElem?_eq_getElem ar;refine⟨wss[i],pp.Ai hle (Z i x _ ab hw),f,ao,fr,g2,fun m w hm=>?_⟩;rw [Nat.add_assoc];exact aq _ w (IN (HO W Z) hw m w hm)
theorem Cv.get{s s₀:St}(h:Cv s s₀){b:Nat}{o:Obj}(hg:s₀.get b=some o):s.get b=some o:=by
 unfold St.get at hg ⊢;cases K:s₀.E b with
 | some o'=>
  rw [K] at hg;simp only at hg;cases hg;rcases h.Eh _ _ K with O | ⟨O,_⟩
  ·rw [O]
  ·cases he:s.E b with
   | none=>exact O
   | some U=>
    have:=h.ext _ _ he;rw [K] at this;cases this;rfl
 | none=>
  rw [K] at hg;simp only at hg;cases he:s.E b with
  | none=>exact h.own _ _ hg
  | some U=>
   have:=h.ext _ _ he;rw [K] at this;cases this
theorem Cv.upd{s s₀:St}(h:Cv s s₀){b:Nat}(o:Obj)(hb:(∃u,s₀.H b=some u)∨s₀.E b=none):Cv (s.upd b o) (s₀.upd b o):=by
 refine⟨h.ext,fun x u K=>?_,fun x u K=>?_,h.q⟩
 ·simp only [St.upd] at K ⊢;by_cases e:x=b
  ·rw [if_pos e] at K ⊢;exact K
  ·rw [if_neg e] at K ⊢;exact h.own _ _ K
 ·have O:s₀.E x=some u:=K;rcases h.Eh _ _ O with U | ⟨U,V⟩
  ·exact .inl U
  ·refine .inr ?_;have e:x≠b:=fun e=>by
    subst e;rcases hb with⟨w,hw⟩ | hb
    ·rw [hw] at V;cases V
    ·rw [hb] at O;cases O
   simp only [St.upd,if_neg e];exact⟨U,V⟩
theorem Cv.none{s s₀:St}(h:Cv s s₀){b:Nat}(U:s.E b=none)(O:s.H b=none):s₀.E b=none∧s₀.H b=none:=by
 constructor
 ·cases he:s₀.E b with
  | none=>rfl
  | some o=>
   rcases h.Eh _ _ he with K | ⟨K,_⟩
   ·rw [U] at K;cases K
   ·rw [O] at K;cases K
 ·cases he:s₀.H b with
  | none=>rfl
  | some o=>have:=h.own _ _ he;rw [O] at this;cases this
theorem Ve{P:Program}{α:Type}(x:Sem α):∀{s s₀:St} {Q:α→St→Prop} {X:Halt→St→Prop},Cv s s₀→lp P x s₀ Q X→lp P x s (fun a s'=>∃W,Cv s' W∧Q a W) (fun h s'=>∃W,Cv s' W∧X h W):=by
 induction x with
 | pure a=>intro s s₀ Q X g h;exact⟨s₀,g,h⟩
 | load m a k K=>
  intro s s₀ Q X g h;obtain⟨O,v,U,V⟩:=h;obtain⟨o,ab,ae⟩:=Option.bind_eq_some_iff.1 U;exact⟨O,v,by unfold St.cell?;rw [g.get ab];exact ae,K v g V⟩
 | store m a v k K=>
  intro s s₀ Q X g h;obtain⟨O,U,o,V,ag,ah,ai⟩:=h;exact⟨O,U,o,g.own _ _ V,ag,ah,K (g.upd _ (.inl ⟨o,V⟩)) ai⟩
 | new o k K=>
  intro s s₀ Q X g h;refine⟨by rw [← g.q];exact h.1,fun r O U=>?_⟩;obtain⟨aa,e2⟩:=g.none O U;exact K r (g.upd _ (.inr aa)) (h.2 r aa e2)
 | shape r k K=>intro s s₀ Q X g h;obtain⟨o,O,U⟩:=h;exact⟨o,g.get O,K _ g U⟩
 | freeze a n k K=>intro s s₀ Q X g h;exact h.elim
 | frozen a k K=>intro s s₀ Q X g h;obtain⟨o,O,U⟩:=h;exact⟨o,g.get O,K _ g U⟩
 | getObj r k K=>intro s s₀ Q X g h;obtain⟨o,O,U,V⟩:=h;exact⟨o,g.get O,U,K _ g V⟩
 | setObj r o k K=>
  intro s s₀ Q X g h;obtain⟨⟨o',O,aj⟩,U,V⟩:=h;exact⟨⟨o',g.own _ _ O,aj⟩,U,K (g.upd _ (.inl ⟨o',O⟩)) V⟩
 | choose q k K=>
  intro s s₀ Q X g h;simp only [lp] at h ⊢;split
  ·rename_i Z;rw [if_pos Z] at h;exact K _ g h
  ·rename_i Z;rw [if_neg Z] at h;exact⟨by rw [← g.q];exact h.1,fun t=>K _ g (h.2 t)⟩
 | sys c k K=>intro s s₀ Q X g h;exact h.elim
 | program k K=>intro s s₀ Q X g h;exact K _ g h
 | mark m k K=>
  intro s s₀ Q X g h;refine⟨?_,K g h.2⟩;rcases h.1 with⟨O,U⟩ | O
  ·exact .inl ⟨by rw [← g.q];exact O,U⟩
  ·exact .inr O
 | halt h=>intro s s₀ Q X g ak;exact⟨s₀,g,ak⟩
section
variable {P:Program}{J:Judge P}{Q:Gs_}{b:Frame}{n:Nat}{ds:Ld_}{ops:Ao_}{k:Li_}{cs:Lf_}{m fuel:Nat}{D:Nat→Bool}{listed:Array Bool}{L:Env}{s:St}{E E' H:LH}{S:List Seg}
variable {d:Option Tmp}{x y:Operand}{t u ty e:TypeId}{p:String}{af:Ae_}{g:On_}{v:Value}{i:Nat}{kd:IntKind}
theorem AV.perm{S':List Seg}(K:S.flatten.Perm S'.flatten)(O:Au E H S)(h:Au E H S'→AV J Q b n ds ops k cs m D fuel listed L (Ak E H S')):AV J Q b n ds ops k cs m D fuel listed L (Ak E H S):=by
 have e:Ak E H S=Ak E H S':=EX O K;rw [e];exact h (Nd.perm O K)
theorem Qz{A B:Seg}(j:Nat)(K:S[j]? =some (A++B))(O:Au E H S)(h:Au E H (S.set j A++ [B])→AV J Q b n ds ops k cs m D fuel listed L (Ak E H (S.set j A++ [B]))):AV J Q b n ds ops k cs m D fuel listed L (Ak E H S):=by
 refine AV.perm ?_ O h;have U:=(Du (seg':=A) K).1;have V:=(Du (seg':=A) K).2;rw [FT];refine U.trans ?_;have W:=V.symm.append_right B
 rwa [List.append_assoc] at W
theorem JA.ghost:∀(fuel:Nat) {listed:Array Bool} {T:AA} {s s₀:St},Cv s s₀→JA J Q b ds ops k cs m C9 fuel listed T s₀→JA J Q b ds ops k cs m C9 fuel listed T s
 | 0,listed,T,s,s₀,g,h=>⟨h.1,J.ghost g h.2⟩
 | fuel+1,listed,T,s,s₀,g,h=>by
  rcases h with⟨O,U⟩ | ⟨O,U,Z⟩
  ·exact .inl ⟨O,fun t=>J.ghost g (U t)⟩
  ·refine .inr ⟨O,by rw [← g.q];exact U,fun i hi o aa=>?_⟩;obtain⟨ab,ae,ag⟩:=Z i hi o aa;refine⟨ab,fun e=>JA.ghost fuel g (ae e),fun e=>?_⟩;have ah:=Ve _ (s:=BF C9 s) (s₀:=BF C9 s₀) g (ag e);refine Dv _ ah ?_ (fun _ s' ⟨_,_,h⟩=>h);intro nx s' K;obtain⟨V,W,K⟩:=K;cases nx with
   | value v=>exact JA.ghost fuel (s:=s') (s₀:=V) W K
   | skip=>exact JA.ghost fuel (s:=s') (s₀:=V) W K
   | enter f args=>
    obtain⟨R,ai,aj⟩:=K;refine⟨R,fun Q c cs ak=>J.ghost (s:=s') (s₀:=V) W (ai Q c cs ak),fun v al am=>?_⟩;obtain⟨an,ao,ap⟩:=aj v al am;exact⟨an,fun x o K=>ao x o (g.ext x o K),ap⟩
   | _=>exact K.elim
theorem PI{α:Type}{pp:Rp α}{a:Option Addr}{c:Nat}{seg:Seg}{xs:List α}(j:Nat)(hg:OL e pp E a c seg xs)(K:Au E H S)(O:S[j]? =some seg)
  (h:∀E',Le E E'→Ap pp E' a c xs→Au E' H (S.set j [])→AV J Q b n ds ops k cs m C9 fuel listed L (Ak E' H (S.set j []))):AV J Q b n ds ops k cs m C9 fuel listed L (Ak E H S):=fun T U=>by
 obtain⟨E',V,W,Z,aa⟩:=Tq j hg K O
 exact JA.ghost _ aa (h E' V W Z T U)
end
end Pal
namespace Pal
open Go Go.Conc
section
variable {P:Program}{J:Judge P}{Q:Gs_}{b:Frame}{n:Nat}{L:Env}{ds:Ld_}{k:Li_}{cs:Lf_}{s:St}{ops:Ao_}{i:Nat}{rest:List Nat}{v:Value}
variable {d:Option Tmp}{x:Operand}{ty:TypeId}{p:String}{af:Ae_}{g:On_}
end
end Pal
namespace Pal
open Go Go.Conc Go.Proofs Go.Extern
variable {J:Judge Tryz.prog}{E:LH}
end Pal
namespace Pal
open Go Go.Conc Go.Proofs
open Go.Proofs.Tryz
variable {J:Judge Tryz.prog}{E:LH}
end Pal
namespace Pal
open Go Go.Conc Go.Proofs
open Go.Proofs.Tryz
end Pal
namespace Pal
open Go Go.Conc Go.Proofs
open Go.Proofs.Tryz
end Pal
namespace Pal
open Go Go.Conc Go.Proofs
open Go.Proofs.Tryz
end Pal
namespace Pal
theorem EW{f:Nat→Option Int}{n i:Nat}{c:Int}(K:∀q,q<i→f q=none)(O:f i=some c)(hi:i<n):(List.range n).findSome? f=some c:=by
 have key:∀(k:Nat),i<k→(List.range k).findSome? f=some c:=by
  intro k
  induction k with
  | zero=>intro h;omega
  | succ k U=>
   intro h;rw [List.range_succ,List.findSome?_append];by_cases e:i=k
   ·subst e;have:(List.range i).findSome? f=none:=List.findSome?_eq_none_iff.2 fun q V=>K q (List.mem_range.1 V);rw [this];simp [O]
   ·rw [U (by omega)];rfl
 exact key n hi
theorem GB{f:Nat→Option Int}{n:Nat}(K:∀q,q<n→f q=none):(List.range n).findSome? f=none:=List.findSome?_eq_none_iff.2 fun q O=>K q (List.mem_range.1 O)
def Ft(n:Nat)(m:Int)(b:Bool)(l:List Int)(i:Nat):Option Int:=
 if l.getD i 0<0∨(n:Int) - 1<l.getD i 0 then some 3 else if l.getD i 0=m∧b=false then some 8 else if 0<i∧l.getD i 0≤l.getD (i - 1) 0 then some 5 else none
def EY(n:Nat)(m:Int)(b:Bool)(l:List Int):Option Int:=(List.range l.length).findSome? (Ft n m b l)
theorem Gq{α:Type}{l:List α}{i:Nat}{d:α}(h:i<l.length):l.getD i d=l[i]:=by rw [List.getD_eq_getElem?_getD,List.getElem?_eq_getElem h];rfl
theorem QS{F:Nat}{J:JW}{m:Int}{l:List Int}{b:Bool}(ae:100<F)(ag:l.length<100)(ah:J.1.length<100):A5 (f136 F J m l b) (fun e=>e.map (·.1)=EY J.1.length m b l):=by
 unfold f136;refine AI (S:=fun q=>(∃c,q=Sum.inl (some (c,m))∧EY J.1.length m b l=some c)∨(q=Sum.inr ()∧EY J.1.length m b l=none)) ?_ ?_
 ·refine Cq l.length (fun i s=>s=(i:Int)∧∀q,q<i→Ft J.1.length m b l q=none) ⟨rfl,fun q ab=>by omega⟩ (by omega) ?_ ?_
  ·rintro i s hi ⟨rfl,O⟩;unfold JH;have hg:l.getD i 0=l[i]:=Gq hi;refine BI (by omega) (Bv (m:=i) rfl hi ?_);refine AX ((J.1.length:Int) - 1) rfl (by omega) (by omega) (AP (IV F _ _ _) ?_);refine By (fun h=>?_) (fun h=>?_)
   ·have U:=of_decide_eq_true h;exact Al (.inl ⟨3,rfl,EW O (by unfold Ft;rw [hg,if_pos U]) hi⟩)
   ·have U:¬(l[i]<0∨(J.1.length:Int) - 1<l[i]):=fun x=>h (decide_eq_true x);refine AI (S:=fun c=>c=decide (l[i]=m∧b=false)) ?_ ?_
    ·refine By (fun K=>Al ?_) (fun K=>Al ?_)
     ·cases b <;> simp [K]
     ·simp [K]
    ·rintro c rfl;refine By (fun K=>?_) (fun K=>?_)
     ·have W:=of_decide_eq_true K;exact Al (.inl ⟨8,rfl,EW O (by unfold Ft;rw [hg,if_neg U,if_pos W]) hi⟩)
     ·have W:¬(l[i]=m∧b=false):=fun x=>K (decide_eq_true x);refine AI (S:=fun c=>c=decide (0<i∧l[i]≤l.getD (i - 1) 0)) ?_ ?_
      ·refine By (fun V=>?_) (fun V=>?_)
       ·have aa:i - 1<l.length:=by omega
        refine AX ((i - 1:Nat):Int) (by omega) (by omega) (by omega) (Bv (m:=i - 1) rfl aa ?_);refine Al ?_;rw [Gq aa];exact decide_eq_decide.2 ⟨fun x=>⟨by omega,x⟩,fun x=>x.2⟩
       ·exact Al (decide_eq_false (by omega)).symm
      ·rintro c rfl;refine By (fun V=>?_) (fun V=>?_)
       ·have Z:=of_decide_eq_true V;exact Al (.inl ⟨5,rfl,EW O (by unfold Ft;rw [hg,if_neg U,if_neg W,if_pos Z]) hi⟩)
       ·have Z:¬(0<i∧l[i]≤l.getD (i - 1) 0):=fun x=>V (decide_eq_true x);refine AX ((i+1:Nat):Int) (by simp) (by omega) (by omega) ?_;refine Al ⟨rfl,fun q ab=>?_⟩;by_cases e:q=i
        ·subst e;unfold Ft;rw [hg,if_neg U,if_neg W,if_neg Z]
        ·exact O q (by omega)
  ·rintro s ⟨rfl,O⟩;unfold JH;exact Bf (by omega) (Al ⟨_,rfl,.inr ⟨rfl,GB O⟩⟩)
 ·rintro q (⟨c,rfl,h⟩ | ⟨rfl,h⟩)
  ·exact Al h.symm
  ·exact Al h.symm
theorem OB(F:Nat)(a lo hi:Int):f104 F a lo hi=some (decide (lo≤a∧a≤hi)):=by
 unfold f104;by_cases h:lo≤a
 ·simp [h]
 ·simp [h]
theorem Vf{F:Nat}{J:JW}{m:Int}{l:List Int}(aa:100<F)(ab:l.length<100)(ae:J.1.length<100):f114 F J l=some (if l.length=0 then 7 else if 3<l.length then 6 else(EY J.1.length m true l).getD 0):=by
 refine CV ?_;unfold f114;refine By (fun h=>?_) (fun h=>?_)
 ·rw [if_pos (show l.length=0 by omega)];exact Al rfl
 rw [if_neg (show ¬l.length=0 by omega)];refine By (fun h=>?_) (fun h=>?_)
 ·rw [if_pos (show 3<l.length by omega)];exact Al rfl
 rw [if_neg (show ¬3<l.length by omega)];refine AI (S:=fun q=>(∃c,q=Sum.inl c∧EY J.1.length m true l=some c)∨(q=Sum.inr ()∧EY J.1.length m true l=none)) ?_ ?_
 ·refine Cq l.length (fun i s=>s=(i:Int)∧∀q,q<i→Ft J.1.length m true l q=none) ⟨rfl,fun q Z=>by omega⟩ (by omega) ?_ ?_
  ·rintro i s hi ⟨rfl,K⟩;unfold Mo;have hg:l.getD i 0=l[i]:=Gq hi;refine BI (by omega) (Bv (m:=i) rfl hi ?_);refine AX ((J.1.length:Int) - 1) rfl (by omega) (by omega) (AP (OB F _ _ _) ?_);refine By (fun h=>?_) (fun h=>?_)
   ·have U:l[i]<0∨(J.1.length:Int) - 1<l[i]:=by simp at h;omega
    exact Al (.inl ⟨3,rfl,EW K (by unfold Ft;rw [hg,if_pos U]) hi⟩)
   ·have U:¬(l[i]<0∨(J.1.length:Int) - 1<l[i]):=by simp at h;omega
    refine AI (S:=fun c=>c=decide (0<i∧l[i]≤l.getD (i - 1) 0)) ?_ ?_
    ·refine By (fun O=>?_) (fun O=>?_)
     ·have W:i - 1<l.length:=by omega
      refine Bv (m:=i) rfl hi (AX ((i - 1:Nat):Int) (by omega) (by omega) (by omega) ?_);refine Bv (m:=i - 1) rfl W (Al ?_);rw [Gq W];exact decide_eq_decide.2 ⟨fun x=>⟨by omega,x⟩,fun x=>x.2⟩
     ·exact Al (decide_eq_false (by omega)).symm
    ·rintro c rfl;refine By (fun O=>?_) (fun O=>?_)
     ·have V:=of_decide_eq_true O;exact Al (.inl ⟨5,rfl,EW K (by unfold Ft;rw [hg,if_neg U,if_neg (by simp),if_pos V]) hi⟩)
     ·have V:¬(0<i∧l[i]≤l.getD (i - 1) 0):=fun x=>O (decide_eq_true x);refine AX ((i+1:Nat):Int) (by simp) (by omega) (by omega) ?_;refine Al ⟨rfl,fun q Z=>?_⟩;by_cases e:q=i
      ·subst e;unfold Ft;rw [hg,if_neg U,if_neg (by simp),if_neg V]
      ·exact K q (by omega)
  ·rintro s ⟨rfl,K⟩;unfold Mo;exact Bf (by omega) (Al ⟨_,rfl,.inr ⟨rfl,GB K⟩⟩)
 ·rintro q (⟨c,rfl,h⟩ | ⟨rfl,h⟩)
  ·exact Al (by rw [h];rfl)
  ·exact Al (by rw [h];rfl)
theorem VE{F:Nat}{J:JW}{m:Int}{l:List Int}(ae:100<F)(ag:l.length<100)(ah:J.1.length<100):f115 F J m l=some (if 3<l.length then 6 else(EY J.1.length m false l).getD 0):=by
 refine CV ?_;unfold f115;refine By (fun h=>?_) (fun h=>?_)
 ·rw [if_pos (show 3<l.length by omega)];exact Al rfl
 rw [if_neg (show ¬3<l.length by omega)];refine AI (S:=fun q=>(∃c,q=Sum.inl c∧EY J.1.length m false l=some c)∨(q=Sum.inr ()∧EY J.1.length m false l=none)) ?_ ?_
 ·refine Cq l.length (fun i s=>s=(i:Int)∧∀q,q<i→Ft J.1.length m false l q=none) ⟨rfl,fun q ab=>by omega⟩ (by omega) ?_ ?_
  ·rintro i s hi ⟨rfl,K⟩;unfold Mw;have hg:l.getD i 0=l[i]:=Gq hi;refine BI (by omega) (Bv (m:=i) rfl hi ?_);refine AX ((J.1.length:Int) - 1) rfl (by omega) (by omega) (AP (OB F _ _ _) ?_);refine By (fun h=>?_) (fun h=>?_)
   ·have O:l[i]<0∨(J.1.length:Int) - 1<l[i]:=by simp at h;omega
    exact Al (.inl ⟨3,rfl,EW K (by unfold Ft;rw [hg,if_pos O]) hi⟩)
   ·have O:¬(l[i]<0∨(J.1.length:Int) - 1<l[i]):=by simp at h;omega
    refine Bv (m:=i) rfl hi (By (fun V=>?_) (fun V=>?_))
    ·exact Al (.inl ⟨8,rfl,EW K (by unfold Ft;rw [hg,if_neg O,if_pos ⟨V,rfl⟩]) hi⟩)
    have Z:¬(l[i]=m∧false=false):=fun x=>V x.1;refine AI (S:=fun c=>c=decide (0<i∧l[i]≤l.getD (i - 1) 0)) ?_ ?_
    ·refine By (fun U=>?_) (fun U=>?_)
     ·have aa:i - 1<l.length:=by omega
      refine Bv (m:=i) rfl hi (AX ((i - 1:Nat):Int) (by omega) (by omega) (by omega) ?_);refine Bv (m:=i - 1) rfl aa (Al ?_);rw [Gq aa];exact decide_eq_decide.2 ⟨fun x=>⟨by omega,x⟩,fun x=>x.2⟩
     ·exact Al (decide_eq_false (by omega)).symm
    ·rintro c rfl;refine By (fun U=>?_) (fun U=>?_)
     ·have W:=of_decide_eq_true U;exact Al (.inl ⟨5,rfl,EW K (by unfold Ft;rw [hg,if_neg O,if_neg Z,if_pos W]) hi⟩)
     ·have W:¬(0<i∧l[i]≤l.getD (i - 1) 0):=fun x=>U (decide_eq_true x);refine AX ((i+1:Nat):Int) (by simp) (by omega) (by omega) ?_;refine Al ⟨rfl,fun q ab=>?_⟩;by_cases e:q=i
      ·subst e;unfold Ft;rw [hg,if_neg O,if_neg Z,if_neg W]
      ·exact K q (by omega)
  ·rintro s ⟨rfl,K⟩;unfold Mw;exact Bf (by omega) (Al ⟨_,rfl,.inr ⟨rfl,GB K⟩⟩)
 ·rintro q (⟨c,rfl,h⟩ | ⟨rfl,h⟩)
  ·exact Al (by rw [h];rfl)
  ·exact Al (by rw [h];rfl)
def Eo(J:JW)(i:Nat):Option Int:=
 if(J.1.getD i []).length=0 then some 7 else if 3<(J.1.getD i []).length then some 6 else match EY J.1.length i true (J.1.getD i []) with
  | some c=>some c
  | none=>if 3<(J.2.getD i []).length then some 6 else EY J.1.length i false (J.2.getD i [])
def CJ(J:JW):Option Int:=if J.1.length=0 then some 7 else if 8<J.1.length then some 6 else if J.2.length≠J.1.length then some 9 else(List.range J.1.length).findSome? (Eo J)
structure NL (J:JW):Prop where
 l1:J.1.length≤20
 l2:J.2.length≤20
 n1:∀l∈J.1,l.length≤20
 n2:∀l∈J.2,l.length≤20
theorem V3{F:Nat}{J:JW}(Z:100<F)(V:NL J):A5 (f113 F J) (fun e=>e.map (·.1)=CJ J):=by
 have ae:=V.l1;unfold f113 CJ;refine By (fun h=>?_) (fun h=>?_)
 ·rw [if_pos (show J.1.length=0 by omega)];exact Al rfl
 rw [if_neg (show ¬J.1.length=0 by omega)];refine By (fun h=>?_) (fun h=>?_)
 ·rw [if_pos (show 8<J.1.length by omega)];exact Al rfl
 rw [if_neg (show ¬8<J.1.length by omega)];refine By (fun h=>?_) (fun h=>?_)
 ·rw [if_pos (show J.2.length≠J.1.length by omega)];exact Al rfl
 rw [if_neg (show ¬J.2.length≠J.1.length by omega)];refine AI (S:=fun q=>(∃c,q=Sum.inl (some c)∧(List.range J.1.length).findSome? (Eo J)=some c.1)∨(q=Sum.inr ()∧(List.range J.1.length).findSome? (Eo J)=none)) ?_ ?_
 ·refine Cq J.1.length (fun i s=>s=(i:Int)∧∀q,q<i→Eo J q=none) ⟨rfl,fun q ab=>by omega⟩ (by omega) ?_ ?_
  ·rintro i s hi ⟨rfl,K⟩;unfold Jz;have U:i<J.2.length:=by omega
   have O:J.1.getD i []=J.1[i]:=Gq hi;have g2:J.2.getD i []=J.2[i]:=Gq U;have n1:=V.n1 _ (List.getElem_mem hi);have n2:=V.n2 _ (List.getElem_mem U);refine BI (by omega) ?_;refine Bv (m:=i) rfl hi ?_;refine By (fun h=>?_) (fun ag=>?_)
   ·exact Al (.inl ⟨(7,(i:Int)),rfl,EW K (by unfold Eo;rw [O,if_pos (by omega)]) hi⟩)
   refine By (fun h=>?_) (fun ah=>?_)
   ·exact Al (.inl ⟨(6,(i:Int)),rfl,EW K (by unfold Eo;rw [O,if_neg (by omega),if_pos (by omega)]) hi⟩)
   refine AI (QS Z (by omega) (by omega)) ?_;intro e he;refine By (fun h=>?_) (fun h=>?_)
   ·obtain⟨c,rfl⟩:=Option.isSome_iff_exists.1 h;refine Al (.inl ⟨c,rfl,EW K ?_ hi⟩);unfold Eo;rw [O,if_neg (by omega),if_neg (by omega),← he];rfl
   ·obtain rfl:e=none:=by cases e <;> simp_all
    have W:EY J.1.length (i:Int) true J.1[i]=none:=he.symm;refine Bv (m:=i) rfl U ?_;refine By (fun h=>?_) (fun ai=>?_)
    ·refine Al (.inl ⟨(6,(i:Int)),rfl,EW K ?_ hi⟩);unfold Eo;rw [O,g2,if_neg (by omega),if_neg (by omega),W];simp only;rw [if_pos (by omega)]
    refine Bv (m:=i) rfl U (AI (QS Z (by omega) (by omega)) ?_);intro e2 aa;refine By (fun h=>?_) (fun h=>?_)
    ·obtain⟨c,rfl⟩:=Option.isSome_iff_exists.1 h;refine Al (.inl ⟨c,rfl,EW K ?_ hi⟩);unfold Eo;rw [O,g2,if_neg (by omega),if_neg (by omega),W];simp only;rw [if_neg (by omega),← aa];rfl
    ·obtain rfl:e2=none:=by cases e2 <;> simp_all
     refine AX ((i+1:Nat):Int) (by simp) (by omega) (by omega) (Al ⟨rfl,fun q ab=>?_⟩);by_cases e:q=i
     ·subst e;unfold Eo;rw [O,g2,if_neg (by omega),if_neg (by omega),W];simp only;rw [if_neg (by omega),← aa];rfl
     ·exact K q (by omega)
  ·rintro s ⟨rfl,K⟩;unfold Jz;exact Bf (by omega) (Al ⟨_,rfl,.inr ⟨rfl,GB K⟩⟩)
 ·rintro q (⟨c,rfl,h⟩ | ⟨rfl,h⟩)
  ·exact Al h.symm
  ·exact Al h.symm
theorem Mt{n:Nat}{m:Int}{b:Bool}{l:List Int}{c:Int}(h:EY n m b l=some c):c≠0:=by
 obtain⟨i,_,hi⟩:=List.exists_of_findSome?_eq_some h;unfold Ft at hi;split at hi
 ·cases hi;omega
 ·split at hi
  ·cases hi;omega
  ·split at hi
   ·cases hi;omega
   ·cases hi
theorem Xa{J:JW}{i:Nat}{c:Int}(h:Eo J i=some c):c≠0:=by
 unfold Eo at h;split at h
 ·cases h;omega
 ·split at h
  ·cases h;omega
  ·split at h
   ·rename_i e;cases h;exact Mt e
   ·split at h
    ·cases h;omega
    ·exact Mt h
theorem YR{J:JW}{c:Int}(h:CJ J=some c):c≠0:=by
 unfold CJ at h;split at h
 ·cases h;omega
 ·split at h
  ·cases h;omega
  ·split at h
   ·cases h;omega
   ·obtain⟨i,_,hi⟩:=List.exists_of_findSome?_eq_some h;exact Xa hi
theorem W1{F:Nat}{J:JW}(aa:100<F)(V:NL J):f68 F J=some ((CJ J).getD 0):=by
 have ae:=V.l1;refine CV ?_;unfold f68 CJ;refine By (fun h=>?_) (fun h=>?_)
 ·rw [if_pos (show J.1.length=0 by omega)];exact Al rfl
 rw [if_neg (show ¬J.1.length=0 by omega)];refine By (fun h=>?_) (fun h=>?_)
 ·rw [if_pos (show 8<J.1.length by omega)];exact Al rfl
 rw [if_neg (show ¬8<J.1.length by omega)];refine By (fun h=>?_) (fun h=>?_)
 ·rw [if_pos (show J.2.length≠J.1.length by omega)];exact Al rfl
 rw [if_neg (show ¬J.2.length≠J.1.length by omega)];refine AI (S:=fun q=>(∃c,q=Sum.inl c∧(List.range J.1.length).findSome? (Eo J)=some c)∨(q=Sum.inr ()∧(List.range J.1.length).findSome? (Eo J)=none)) ?_ ?_
 ·refine Cq J.1.length (fun i s=>s=(i:Int)∧∀q,q<i→Eo J q=none) ⟨rfl,fun q ab=>by omega⟩ (by omega) ?_ ?_
  ·rintro i s hi ⟨rfl,K⟩;unfold MW;have W:i<J.2.length:=by omega
   have U:J.1.getD i []=J.1[i]:=Gq hi;have g2:J.2.getD i []=J.2[i]:=Gq W;have n1:=V.n1 _ (List.getElem_mem hi);have n2:=V.n2 _ (List.getElem_mem W);refine BI (by omega) ?_;refine Bv (m:=i) rfl hi ?_;refine AP (Vf (m:=(i:Int)) aa (by omega) (by omega)) ?_;by_cases O:J.1[i].length=0
   ·rw [if_pos O];exact BI (by omega) (Al (.inl ⟨7,rfl,EW K (by unfold Eo;rw [U,if_pos O]) hi⟩))
   rw [if_neg O];by_cases c2:3<J.1[i].length
   ·rw [if_pos c2];exact BI (by omega) (Al (.inl ⟨6,rfl,EW K (by unfold Eo;rw [U,if_neg O,if_pos c2]) hi⟩))
   rw [if_neg c2];cases he:EY J.1.length (i:Int) true J.1[i] with
   | some c=>
    exact BI (Mt he) (Al (.inl ⟨c,rfl,EW K (by unfold Eo;rw [U,if_neg O,if_neg c2,he]) hi⟩))
   | none=>
    refine Bf (by simp) (Bv (m:=i) rfl W ?_);refine AP (VE (m:=(i:Int)) aa (by omega) (by omega)) ?_;by_cases c3:3<J.2[i].length
    ·rw [if_pos c3];refine BI (by omega) (Al (.inl ⟨6,rfl,EW K ?_ hi⟩));unfold Eo;rw [U,g2,if_neg O,if_neg c2,he];simp only;rw [if_pos c3]
    rw [if_neg c3];cases Z:EY J.1.length (i:Int) false J.2[i] with
    | some c=>
     refine BI (Mt Z) (Al (.inl ⟨c,rfl,EW K ?_ hi⟩));unfold Eo;rw [U,g2,if_neg O,if_neg c2,he];simp only;rw [if_neg c3,Z]
    | none=>
     refine Bf (by simp) (AX ((i+1:Nat):Int) (by simp) (by omega) (by omega) ?_);refine Al ⟨rfl,fun q ab=>?_⟩;by_cases e:q=i
     ·subst e;unfold Eo;rw [U,g2,if_neg O,if_neg c2,he];simp only;rw [if_neg c3,Z]
     ·exact K q (by omega)
  ·rintro s ⟨rfl,K⟩;unfold MW;exact Bf (by omega) (Al ⟨_,rfl,.inr ⟨rfl,GB K⟩⟩)
 ·rintro q (⟨c,rfl,h⟩ | ⟨rfl,h⟩)
  ·exact Al (by rw [h];rfl)
  ·exact Al (by rw [h];rfl)
theorem PY{n:Nat}{m:Int}{b:Bool}{l:List Int}(h:EY n m b l=none):HB n l∧l.Pairwise (·<·)∧(b=false→m ∉ l):=by
 have K:∀i (hi:i<l.length),¬(l[i]<0∨(n:Int) - 1<l[i])∧¬(l[i]=m∧b=false)∧¬(0<i∧l[i]≤l.getD (i - 1) 0):=fun i hi=>by
  have:=List.findSome?_eq_none_iff.1 h i (List.mem_range.2 hi);unfold Ft at this;rw [Gq hi] at this;split at this
  ·cases this
  ·split at this
   ·cases this
   ·split at this
    ·cases this
    ·rename_i U V W;exact⟨U,V,W⟩
 refine⟨fun x Z=>?_,?_,fun hb hm=>?_⟩
 ·obtain⟨i,hi,rfl⟩:=List.mem_iff_getElem.1 Z;have:=(K i hi).1;omega
 ·have step:∀i (hi:i+1<l.length),l[i]<l[i+1]:=fun i hi=>by
   have:=(K (i+1) hi).2.2;rw [show i+1 - 1=i by omega,Gq (by omega)] at this;omega
  rw [List.pairwise_iff_getElem];intro i j hi ag ah;have key:∀k (O:i+1+k<l.length),l[i]<l[i+1+k]:=fun k=>by
   induction k with
   | zero=>intro O;exact step i O
   | succ k aa=>intro O;have ab:=aa (by omega);have ae:=step (i+1+k) (by omega);exact Int.lt_trans ab ae
  have:=key (j - i - 1) (by omega);simpa [show i+1+(j - i - 1)=j by omega] using this
 ·obtain⟨i,hi,e⟩:=List.mem_iff_getElem.1 hm;exact(K i hi).2.1 ⟨e,hb⟩
theorem Vz{J:JW}(h:CJ J=none):VJ J.1.length J:=by
 unfold CJ at h;split at h
 ·cases h
 rename_i ah;split at h
 ·cases h
 rename_i ai;split at h
 ·cases h
 rename_i aj;have O:∀i,i<J.1.length→(J.1.getD i []).length≠0∧(J.1.getD i []).length≤3∧EY J.1.length i true (J.1.getD i [])=none∧(J.2.getD i []).length≤3∧EY J.1.length i false (J.2.getD i [])=none:=fun i hi=>by
  have:=List.findSome?_eq_none_iff.1 h i (List.mem_range.2 hi);unfold Eo at this;split at this
  ·cases this
  ·split at this
   ·cases this
   ·split at this
    ·cases this
    ·rename_i aa ak _ ab;split at this
     ·cases this
     ·rename_i al;exact⟨aa,by omega,ab,by omega,this⟩
 refine⟨by omega,by omega,rfl,by omega,fun i l K=>?_,fun i l K=>?_⟩
 ·have hi:=(List.getElem?_eq_some_iff.1 K).1;obtain⟨ae,U,V,_,_⟩:=O i hi;have e:J.1.getD i []=l:=by rw [List.getD_eq_getElem?_getD,K];rfl
  rw [e] at ae U V;obtain⟨v1,v2,_⟩:=PY V;exact⟨⟨U,v1,v2⟩,by omega⟩
 ·have hi:i<J.1.length:=by have:=(List.getElem?_eq_some_iff.1 K).1;omega
  obtain⟨_,_,_,W,Z⟩:=O i hi;have e:J.2.getD i []=l:=by rw [List.getD_eq_getElem?_getD,K];rfl
  rw [e] at W Z;obtain⟨v1,v2,ag⟩:=PY Z;exact⟨⟨W,v1,v2⟩,ag rfl⟩
end Pal
namespace Pal
theorem W0{F n a m:Nat}{J:JW}{due K:List Bool}(ak:100<F)(V:VJ n J)(hd:H5 J n a due)(hm:m<n)(aa:K.length=n):
  A5 (iter (JD F J due (K,(m:Int))) F (K,0)) (fun r=>r.length=n∧∀x:Nat,x<n→(r[x]? =some true↔K[x]? =some true∨((AG J a).testBit m=true∧(x:Int)∈J.1.getD m []))):=by
 have al:=V.l1;have am:=V.le;have O:m<J.1.length:=by omega
 obtain⟨ab,an⟩:=V.nx m _ (List.getElem?_eq_getElem O);have hlen:=ab.len;have ai:J.1.getD m []=J.1[m]:=Gq O;have ae:=hd.2 m hm;cases ag:(AG J a).testBit m with
 | false=>
  refine Cq 0 (fun i st=>st=(K,0)) rfl (by omega) (fun i st hi=>by omega) ?_;rintro st rfl;unfold JD;refine Bv (m:=m) rfl O (AI (S:=fun c=>c=false) ?_ ?_)
  ·refine By (fun h=>?_) (fun h=>Al rfl);exact AP (Ec (m:=m) rfl ae) (Al ag)
  ·rintro c rfl;refine Bf (by simp) (Al ⟨_,rfl,aa,fun x U=>?_⟩);simp
 | true=>
  refine Cq J.1[m].length (fun i st=>∃nx:List Bool,st=(nx,(i:Int))∧nx.length=n∧∀x:Nat,x<n→(nx[x]? =some true↔K[x]? =some true∨(x:Int)∈J.1[m].take i)) ⟨K,rfl,aa,fun x U=>by simp⟩ (by omega) ?_ ?_
  ·rintro i st hi ⟨nx,rfl,W,Z⟩;unfold JD;refine Bv (m:=m) rfl O (AI (S:=fun c=>c=true) ?_ ?_)
   ·refine BI (by simp only;omega) (AP (Ec (m:=m) rfl ae) ?_);exact Al ag
   ·rintro c rfl;refine BI rfl (Bv (m:=m) rfl O ?_);refine Bv (m:=i) rfl hi ?_;have U:=ab.inr J.1[m][i] (List.getElem_mem hi);have ah:J.1[m][i].toNat<nx.length:=by omega
    refine Bv (m:=J.1[m][i].toNat) (show J.1[m][i]=_ by omega) ah (AX ((i+1:Nat):Int) (by simp) (by omega) (by omega) ?_);refine Al ⟨nx.set J.1[m][i].toNat true,rfl,by simpa using W,fun x aj=>?_⟩;rw [VM ah,Z x aj,List.take_add_one,List.getElem?_eq_getElem hi];simp only [Option.toList_some,List.mem_append,List.mem_singleton];rw [or_assoc];refine or_congr Iff.rfl (or_congr Iff.rfl ⟨fun h=>by omega,fun h=>by omega⟩)
  ·rintro st ⟨nx,rfl,W,Z⟩;unfold JD;refine Bv (m:=m) rfl O (AI (S:=fun c=>c=false) (Bf (by simp) (Al rfl)) ?_);rintro c rfl;refine Bf (by simp) (Al ⟨_,rfl,W,fun x U=>?_⟩);rw [Z x U,List.take_length,ai];simp
theorem Wh{F n a:Nat}{J:JW}{due:List Bool}(Z:100<F)(W:VJ n J)(hd:H5 J n a due):A5 (f119 F J due) (H5 J n (a+1)):=by
 have aj:=W.le;have aa:=hd.1;unfold f119;refine AP (b:=List.replicate n false) ?_ ?_
 ·unfold Eg;rw [if_pos (by omega),aa];rfl
 refine AI (S:=H5 J n (a+1)) ?_ (fun r ab=>Al ab);refine Cq n (fun k st=>∃nx:List Bool,st=(nx,(k:Int))∧Po J n a k nx) ⟨_,rfl,by simp,fun x U=>?_⟩ (by omega) ?_ ?_
 ·rw [List.getElem?_replicate,if_pos U];simp
 ·rintro k st ae ⟨nx,rfl,V⟩;unfold Mn;refine BI (by simp only;omega) (AI (W0 (m:=k) Z W hd ae V.1) ?_);rintro ag ⟨ah,g2⟩;refine AX ((k+1:Nat):Int) (by simp) (by omega) (by omega) (Al ⟨ag,rfl,ah,fun x U=>?_⟩);rw [g2 x U,V.2 x U];constructor
  ·rintro(⟨m,ai,K,O⟩ | ⟨K,O⟩)
   ·exact⟨m,by omega,K,O⟩
   ·exact⟨k,by omega,K,O⟩
  ·rintro⟨m,ai,K,O⟩;rcases Nat.lt_or_ge m k with h | h
   ·exact .inl ⟨m,h,K,O⟩
   ·obtain rfl:m=k:=by omega
    exact .inr ⟨K,O⟩
 ·rintro st ⟨nx,rfl,V⟩;unfold Mn;exact Bf (by simp only;omega) (Al ⟨_,rfl,V.due W⟩)
theorem Zm{n:Nat}{J:JW}(K:0<n):H5 J n 0 ((List.replicate n false).set 0 true):=by
 refine⟨by simp,fun m hm=>?_⟩;by_cases e:m=0
 ·subst e;rw [List.getElem?_set_self (by simpa using hm)];exact congrArg some (show true=(1:Nat).testBit 0 by decide)
 ·rw [List.getElem?_set_ne (by omega),List.getElem?_replicate,if_pos hm];have:(AG J 0).testBit m=false:=by
   show(1:Nat).testBit m=false;have:=Nat.testBit_two_pow_of_ne (n:=0) (m:=m) (by omega);simpa using this
  rw [this]
theorem Yn{F n a:Nat}{J:JW}(U:100<F)(K:VJ n J)(aa:a<13):A5 (f82 F J (a:Int)) (H5 J n a):=by
 have ab:=K.le;have O:=K.pos;have V:=K.l1;unfold f82;refine AP (b:=List.replicate n false) ?_ ?_
 ·unfold Eg;rw [if_pos (by omega),V];rfl
 refine Bv (m:=0) rfl (by simpa using O) (AI (S:=H5 J n a) ?_ (fun r W=>Al W));refine Cq a (fun i st=>∃d:List Bool,st=(d,(i:Int))∧H5 J n i d) ⟨_,rfl,Zm O⟩ (by omega) ?_ ?_
 ·rintro i st hi ⟨d,rfl,hd⟩;unfold M8;refine BI (by simp only;omega) (AI (Wh U K hd) ?_);intro d2 Z;exact AX ((i+1:Nat):Int) (by simp) (by omega) (by omega) (Al ⟨d2,rfl,Z⟩)
 ·rintro st ⟨d,rfl,hd⟩;unfold M8;exact Bf (by simp) (Al ⟨_,rfl,hd⟩)
theorem Sf{F:Nat}{l:List Int}(K:100<F)(O:l.length≤20):f32 F l l=some true:=by
 refine CV ?_;unfold f32;refine AI (S:=fun q=>q=Sum.inr ()) ?_ (by rintro q rfl;exact Al (by simp));refine Cq l.length (fun i s=>s=(i:Int)) rfl (by omega) ?_ ?_
 ·rintro i s hi rfl;unfold MK;refine AI (S:=fun c=>c=true) (BI (by omega) (Al (decide_eq_true (by omega)))) ?_;rintro c rfl;refine BI rfl (Bv (m:=i) rfl hi ?_);refine Bv (m:=i) rfl hi (Bf (by simp) ?_);exact AX ((i+1:Nat):Int) (by simp) (by omega) (by omega) (Al rfl)
 ·rintro s rfl;unfold MK;refine AI (S:=fun c=>c=false) (Bf (by omega) (Al rfl)) ?_;rintro c rfl;exact Bf (by simp) (Al ⟨_,rfl,rfl⟩)
theorem VJ.nl{n:Nat}{J:JW}(K:VJ n J):NL J:=by
 have U:=K.l1;have V:=K.l2;have W:=K.le;refine⟨by omega,by omega,fun l O=>?_,fun l O=>?_⟩
 ·obtain⟨i,hi,rfl⟩:=List.mem_iff_getElem.1 O;have:=(K.nx i _ (List.getElem?_eq_getElem hi)).1.len;omega
 ·obtain⟨i,hi,rfl⟩:=List.mem_iff_getElem.1 O;have:=(K.fl i _ (List.getElem?_eq_getElem hi)).1.len;omega
end Pal
namespace Pal
theorem TF{s n:Nat}(h:s<2 ^ n)(d:Nat):BU s (n+d)=BU s n:=by
 induction d with
 | zero=>rfl
 | succ d K=>
  rw [← Nat.add_assoc,NU,if_neg,K];have:s<2 ^ (n+d):=Nat.lt_of_lt_of_le h (Nat.pow_le_pow_right (by omega) (by omega));rw [Nat.testBit_lt_two_pow this];decide
theorem W6{F n s:Nat}{d:List Bool}(K:100<F)(O:n≤8)(U:d.length=n)(hd:∀m,m<n→d[m]? =some (s.testBit m)):f111 F d=some (BU s n):=by
 refine CV ?_;unfold f111;refine AI (S:=fun r=>r=BU s n) ?_ (by rintro r rfl;exact Al rfl);refine Cq n (fun i st=>st=(BU s i,(i:Int))) rfl (by omega) ?_ ?_
 ·rintro i st hi rfl;unfold MI;have hlen:=Jj s i;refine BI (by simp only;omega) (AP (Ec (m:=i) rfl (hd i hi)) ?_);refine AI (S:=fun r=>r=BU s (i+1)) ?_ ?_
  ·rw [NU];refine By (fun h=>?_) (fun h=>?_)
   ·rw [if_pos h];exact Ij (by simp only;omega) (Al rfl)
   ·rw [if_neg h];exact Al rfl
  ·rintro r rfl;exact AX ((i+1:Nat):Int) (by simp) (by omega) (by omega) (Al rfl)
 ·rintro st rfl;unfold MI;exact Bf (by simp only;omega) (Al ⟨_,rfl,rfl⟩)
def Pe(J:JW)(a:Int):List Int×Int:=match CJ J with | some c=>([],c) | none=>if 0≤a∧a≤12 then(BU (AG J a.toNat) 16,0) else([],1)
theorem WM{F:Nat}{J:JW}{a:Int}(O:100<F)(W:NL J):f64 F J a=some (Pe J a):=by
 refine CV ?_;unfold f64 Pe;refine AP (W1 O W) ?_;cases h:CJ J with
 | some c=>exact BI (YR h) (Al rfl)
 | none=>
  have K:=Vz h;refine Bf (by simp) ?_;refine AP (OB F _ _ _) ?_;refine By (fun U=>?_) (fun U=>?_)
  ·have V:¬(0≤a∧a≤12):=by simp at U;omega
   refine Al ?_;simp only;rw [if_neg V]
  ·have V:0≤a∧a≤12:=by simpa using U
   obtain⟨b,rfl⟩:∃b:Nat,a=(b:Int):=⟨a.toNat,by omega⟩;refine AI (Yn O K (by omega)) ?_;intro d hd;refine AP (W6 O K.le hd.1 hd.2) (Al ?_);simp only;rw [if_pos V];have e:(16:Nat)=J.1.length+(16 - J.1.length):=by have:=K.le;omega
   show(BU (AG J b) J.1.length,(0:Int))=(BU (AG J b) 16,0);rw [e,TF (Iz K b)]
end Pal
namespace Pal
open Go Go.Conc Go.Proofs
open Go.Proofs.Tryz
variable {J:Judge Tryz.prog}{E:LH}
def Ni(fuel:Nat)(p0:List Int):Option ((List Int)):= (Dy ([]:List Int) p0).bind fun K=> some K
theorem RF{K:Ao}{c2:Nat}{p0:List Int}(W:Ap rI E K c2 p0){fuel:Nat}{r:(List Int)}(O:Ni fuel p0=some r):AU J 108 [sV K p0 c2] E [] (fun w E' B'=>∃(U:Ao) (V:Nat) (g0:Seg),w= sV U r V∧B'=g0∧OL 3 rI E' U V g0 r):=by
 refine Bj func108 fun Q an cs H Z aa=>?_;unfold Ni at O;refine zg 6 rfl (Ox (pp:=rI) rfl rfl rfl underlying28 AN Z fun ao ap ab ae=>?_);obtain⟨aq,ag,ah⟩:=bs O;refine zg 1 rfl (KN (pp:=rI) 1 ag rfl rfl rfl rfl rfl rfl rfl underlying28 underlying28 AN (Cu type3) Cp rfl (by decide) (by decide) ab W ae rfl fun ai aj ak al am=>?_);refine zg 2 rfl ?_;obtain rfl:=oi ah;exact AL func108 rfl rfl (aa Aq rfl ⟨ai,aj,ak,rfl,(by first | rfl | simp | (simp [Value.cells])),al⟩ am)
def MY(fuel:Nat)(O:(List Int)×Int)(K:(List (List Int))×Int):Option (Bn ((List (List Int))×Int) ((List (List Int)))):= if K.2<(O.1.length:Int) then((ix O.1 K.2).bind fun U=> (room K.1 ([U]:List Int)).bind fun V=> (Av (K.2+1)).bind fun W=> some (.more (V,W))) else(some (.done K.1))
def MT(fuel:Nat)(U:(List (List Int))×Int)(V:(List (List Int))×Int)(O:List Int)(K:(List (List Int))×Int):Option (Bn ((List (List Int))×Int) ((List (List Int)))):= if K.2<(O.length:Int) then((ix U.1 V.2).bind fun W=> (ix O K.2).bind fun Z=> (Ni fuel W).bind fun aa=> (Dy aa ([Z]:List Int)).bind fun ab=> (Dy K.1 ([ab]:List (List Int))).bind fun ae=> (Av (K.2+1)).bind fun ag=> some (.more (ae,ag))) else(some (.done K.1))
def MZ(fuel:Nat)(p0:Bz)(O:(List (List Int))×Int)(K:(List (List Int))×Int):Option (Bn ((List (List Int))×Int) ((List (List Int)))):= if K.2<(O.1.length:Int) then((ix O.1 K.2).bind fun U=> (Av (O.2 - 1)).bind fun V=> (ix U V).bind fun W=> (ix p0.1 W).bind fun Z=> Option.bind (iter (MT fuel O K Z) fuel (K.1,0)) fun aa=> (Av (K.2+1)).bind fun ab=> some (.more (aa,ab))) else(some (.done K.1))
def MR(fuel:Nat)(p0:Bz)(p1:Int)(K:(List (List Int))×Int):Option (Bn ((List (List Int))×Int) ((List (List Int)))):= if K.2<p1 then(Option.bind (iter (MZ fuel p0 K) fuel ([],0)) fun O=> (Av (K.2+1)).bind fun U=> some (.more (O,U))) else(some (.done K.1))
def MO(fuel:Nat)(U:(List (Int×(List Int)))×Int)(O:(List (List Int)))(K:(List (Int×(List Int)))×Int):Option (Bn ((List (Int×(List Int)))×Int) ((List (Int×(List Int))))):= if K.2<(O.length:Int) then((ix O K.2).bind fun V=> (room K.1 (U.2,V)).bind fun W=> (Av (K.2+1)).bind fun Z=> some (.more (W,Z))) else(some (.done K.1))
def Nc(fuel:Nat)(p0:Bz)(p1:Int)(K:(List (Int×(List Int)))×Int):Option (Bn ((List (Int×(List Int)))×Int) (((List (Int×(List Int))))⊕((List (Int×(List Int)))))):= if K.2≤12 then((f64 fuel p0 K.2).bind fun O=> if O.2≠0 then(some (.done (Sum.inl ([])))) else(Option.bind (iter (MY fuel O) fuel ([],0)) fun U=> Option.bind (iter (MR fuel p0 p1) fuel (U,1)) fun V=> Option.bind (iter (MO fuel K V) fuel (K.1,0)) fun W=> (Av (K.2+1)).bind fun Z=> some (.more (W,Z)))) else(some (.done (Sum.inr K.1)))
def f55(fuel:Nat)(p0:Bz)(p1:Int):Option ((List (Int×(List Int)))):= Option.bind (iter (Nc fuel p0 p1) fuel ([],0)) fun K=> Sum.elim (fun r=>some r) (fun O=> some O) K
theorem YX{bA:Ao}{c2:Nat}{bB:Ao}{bC:Nat}{p0:Bz}{p1:Int}(bD:Ap (rL rI) E bA c2 p0.1)(cp:Ap (rL rI) E bB bC p0.2){fuel:Nat}{r:(List (Int×(List Int)))}(bE:f55 fuel p0 p1=some r):AU J 55 [.agg #[sV bA p0.1 c2,sV bB p0.2 bC],iV p1] E [] (fun w E' B'=>∃(bF:Ao) (bG:Nat),w= sV bF r bG∧B'= []∧Ap (rP rI (rL rI)) E' bF bG r):=by
 refine Bj func55 fun Q gr cs H cq bH=>?_;unfold f55 at bE;refine zg 2 rfl (Cy cq fun W a8 al bI cr=>?_);obtain⟨bJ,ct,bK⟩:=bs bE;refine zg 11 rfl (Bs (fun L s=>∃(az:(List (Int×(List Int)))) (a9:LH) (aA:Ao) (aB:Nat) (ba:Seg),bJ=Sum.inr az∧Jn a8 H a9 [ba] [(5,sV aA az aB)] L s (OL 75 (rP rI (rL rI)) a9 aA aB ba az)) ?_ ?_)
 ·rintro _ _ ⟨az,a9,aA,aB,ba,rfl,rfl,rfl,cu,cv,cw⟩;have cy:=elim_inr bK;refine zg 5 rfl (Cc 0 cw cv rfl fun gt cz cA cB=>?_);obtain rfl:=oi cy;exact AL func55 rfl rfl (bH ((al.Ab cu).Ab cz) rfl ⟨aA,aB,rfl,rfl,cA⟩ cB)
 ·intro cC;refine JL.block (CE ct (fun L s K=>∃(aC:LH) (O:Ao) (U:Nat) (V:Seg),Jn a8 H aC [V] [(1,iV p1),(2,pV W 0),(5,sV O K.1 U),(6,iV K.2)] L s (OL 75 (rP rI (rL rI)) aC O U V K.1)) ⟨a8,none,0,[],rfl,rfl,Aq,cr,OL.nil⟩ ?_);rintro _ _ K ⟨aC,O,U,V,rfl,rfl,aa,bL,bM⟩ bN ⟨gu,aD⟩ cD;have bO:=aD;unfold Nc at bO;refine zg 6 rfl (AM bO (fun cE cF=>?_) (fun cE cG=>?_))
  ·refine zg 5 rfl (Cf (bI.Ai aa) Cs B4 rfl rfl ?_);obtain⟨cH,cI,cJ⟩:=bs cF;refine zg 1 rfl (BR (Y0 (bD.Ai (al.Ab aa)) (cp.Ai (al.Ab aa)) cI) rfl rfl (A3 func64 rfl) bL ?_);rintro _ bb _ am ⟨cK,cM,rfl,rfl,cN⟩ bP;refine zg 12 rfl (AM cJ (fun cO cP=>?_) (fun cO cQ=>?_))
   ·refine zg 4 rfl (JS.drop 0 bP rfl fun cR=>?_);obtain rfl:=oi cP;obtain rfl:=bN _ aD;have cT:=elim_inl bK;obtain rfl:=oi cT;exact AL func55 rfl rfl (bH ((al.Ab aa).Ab am) rfl ⟨none,0,rfl,rfl,Ap.nil⟩ cR)
   ·obtain⟨bQ,cV,cW⟩:=bs cQ;refine zg 10 rfl (Bs (fun L s=>∃(bc:LH) (aE:Ao) (aF:Nat) (bd:Seg),Jn bb H bc [V,bd] [(1,iV p1),(2,pV W 0),(5,sV O K.1 U),(6,iV K.2),(9,sV aE bQ aF)] L s (OL 28 (rL rI) bc aE aF bd bQ)) ?_ ?_)
    ·rintro _ _ ⟨bc,aE,aF,bd,rfl,rfl,aG,cX,cY⟩;refine zg 5 rfl (Cc 1 cY cX rfl fun be aH cZ c0=>?_);obtain⟨bf,c1,c3⟩:=bs cW;refine Bs (fun L s=>∃(ai:LH) (aI:Ao) (aJ:Nat),Jn be H ai [V] [(1,iV p1),(2,pV W 0),(5,sV O K.1 U),(6,iV K.2),(9,sV aI bf aJ)] L s (Ap (rL rI) ai aI aJ bf)) ?_ ?_
     ·rintro _ _ ⟨ai,aI,aJ,rfl,rfl,bR,c4,c5⟩;obtain⟨bg,c6,c7⟩:=bs c3;refine zg 4 rfl (Bs (fun L s=>∃(aK:LH) (aL:Ao) (aM:Nat) (aN:Seg),Jn ai H aK [aN] [(1,iV p1),(2,pV W 0),(5,sV aL bg aM),(6,iV K.2)] L s (OL 75 (rP rI (rL rI)) aK aL aM aN bg)) ?_ ?_)
      ·rintro _ _ ⟨aK,aL,aM,aN,rfl,rfl,c8,c9,da⟩;obtain⟨db,dc,dd⟩:=bs c7;refine zg 3 rfl (A9 dc rfl rfl rfl ?_);refine zg 2 rfl ?_;obtain rfl:=oi dd;exact Aw (cD _ _ (bg,db) ⟨aK,aL,aM,aN,rfl,rfl,(((((aa.Ab am).Ab aG).Ab aH).Ab bR).Ab c8),c9,da⟩ aD) rfl
      ·intro de;refine JL.block (CE c6 (fun L s aO=>∃(an:LH) (ao:Ao) (ap:Nat) (aP:Seg),Jn ai H an [aP] [(1,iV p1),(2,pV W 0),(5,sV ao aO.1 ap),(6,iV K.2),(9,sV aI bf aJ),(16,iV aO.2)] L s (OL 75 (rP rI (rL rI)) an ao ap aP aO.1)) ⟨ai,O,U,V,rfl,rfl,Aq,c4,(bM.Ai (((am.Ab aG).Ab aH).Ab bR))⟩ ?_);rintro _ _ aO ⟨an,ao,ap,aP,rfl,rfl,bh,bS,bT⟩ df ⟨gv,bi⟩ dg;have bU:=bi;unfold MO at bU;refine zg 5 rfl (Bo underlying22 rfl rfl rfl ?_);refine zg 2 rfl (AM bU (fun dh di=>?_) (fun dh dj=>?_))
       ·obtain⟨bV,dk,dl⟩:=bs di;refine zg 8 rfl (B5 (c5.Ai bh) dk underlying22 BS ?_);rintro gw gx _ ⟨bW,bY,rfl,dm⟩ dn;refine BY 0 dn C4 rfl rfl rfl (Ay (v:= .agg #[iV K.2,sV bW bV bY]) rfl (fun ρ h=>De [(0,1),(1,1)] h (DZ type75) underlying75 ⟨rfl,Br type3,rfl,Br type28,trivial⟩ rfl rfl) ?_);obtain⟨dp,dq,dr⟩:=bs dl;refine JS.app (pp:=(rP rI (rL rI))) (v:= .agg #[iV K.2,sV bW bV bY]) (a:=ao) (c:=ap) 0 dq rfl rfl rfl rfl (fun _=>rfl) rfl (fun _=>rfl) rfl rfl rfl underlying71 underlying71 underlying71 Kl (Cu type75) (DZ type75) rfl (by decide) (by decide) (by decide) (by decide) bT ⟨_,_,rfl,rfl,⟨_,_,rfl,dm⟩⟩ bS rfl fun gy dt du dv dw dx=>?_;obtain⟨dy,dz,dA⟩:=bs dr;refine zg 5 rfl (A9 dz rfl rfl rfl ?_);refine zg 2 rfl ?_;obtain rfl:=oi dA;exact Aw (dg _ _ (dp,dy) ⟨an,dt,du,dv,rfl,rfl,bh,dx,dw⟩ bi) rfl
       ·refine JL.exit rfl ?_;obtain rfl:=oi dj;obtain rfl:=df _ bi;exact Aw (de _ _ ⟨an,ao,ap,aP,rfl,rfl,bh,bS,bT⟩) rfl
     ·intro dB;refine JL.block (CE c1 (fun L s Z=>∃(ab:LH) (ae:Ao) (ag:Nat),Jn be H ab [V] [(1,iV p1),(2,pV W 0),(5,sV O K.1 U),(6,iV K.2),(9,sV ae Z.1 ag),(11,iV Z.2)] L s (Ap (rL rI) ab ae ag Z.1)) ⟨be,aE,aF,rfl,rfl,Aq,c0,cZ⟩ ?_);rintro _ _ Z ⟨ab,ae,ag,rfl,rfl,aQ,bZ,bj⟩ dC ⟨gz,bl⟩ dD;have b0:=bl;unfold MR at b0;refine zg 7 rfl (AM b0 (fun dE dF=>?_) (fun dE dG=>?_))
      ·obtain⟨bm,dH,dI⟩:=bs dF;refine zg 12 rfl (Bs (fun L s=>∃(bn:LH) (aR:Ao) (aS:Nat) (bo:Seg),Jn ab H bn [V,bo] [(1,iV p1),(2,pV W 0),(5,sV O K.1 U),(6,iV K.2),(11,iV Z.2),(12,sV aR bm aS)] L s (OL 28 (rL rI) bn aR aS bo bm)) ?_ ?_)
       ·rintro _ _ ⟨bn,aR,aS,bo,rfl,rfl,dJ,dK,dL⟩;obtain⟨dM,dN,dO⟩:=bs dI;refine zg 7 rfl (A9 dN rfl rfl rfl ?_);refine zg 2 rfl (Cc 1 dL dK rfl fun dP dQ dR dS=>?_);obtain rfl:=oi dO;exact Aw (dD _ _ (bm,dM) ⟨dP,aR,aS,rfl,rfl,((aQ.Ab dJ).Ab dQ),dS,dR⟩ bl) rfl
       ·intro dT;refine JL.block (CE dH (fun L s aj=>∃(ah:LH) (aq:Ao) (ar:Nat) (au:Seg),Jn ab H ah [V,au] [(1,iV p1),(2,pV W 0),(5,sV O K.1 U),(6,iV K.2),(9,sV ae Z.1 ag),(11,iV Z.2),(12,sV aq aj.1 ar),(13,iV aj.2)] L s (OL 28 (rL rI) ah aq ar au aj.1)) ⟨ab,none,0,[],rfl,rfl,Aq,bZ,OL.nil⟩ ?_);rintro _ _ aj ⟨ah,aq,ar,au,rfl,rfl,ak,b1,b2⟩ dU ⟨gA,bp⟩ dV;have b3:=bp;unfold MZ at b3;refine zg 5 rfl (Bo underlying22 rfl rfl rfl ?_);refine zg 2 rfl (AM b3 (fun dW dX=>?_) (fun dW dY=>?_))
        ·refine zg 4 rfl (DC 10 fun ht=>?_);refine Ch 0 ht underlying24 Ct rfl rfl rfl rfl (CH 1 ht 0 (bI.Ai (((((aa.Ab am).Ab aG).Ab aH).Ab aQ).Ab ak)) Da rfl rfl rfl rfl ?_);refine Bh ht rfl [2,3] rfl ?_;obtain⟨gB,dZ,ea⟩:=bs dX;refine Ds 4 (bj.Ai ak) dZ ht underlying22 BS ?_;rintro gC gD _ ⟨gE,gF,rfl,eb⟩ ec;refine CH 5 ht 0 ec C4 rfl rfl rfl rfl (Cz 6 ht rfl rfl ?_);obtain⟨gG,ed,ee⟩:=bs ea;refine Bw 7 ht rfl rfl (fun ρ h s' hs=>Dc (h _ _ rfl) (h _ _ rfl) ed) ?_;obtain⟨gH,ef,eg⟩:=bs ee;refine Ds 8 eb ef ht underlying28 AN ?_;rintro gI gJ _ rfl eh;refine CH 9 ht 0 eh Bq rfl rfl rfl rfl (Cg [10,11,12] ?_);obtain⟨ei,ej,ek⟩:=bs eg;refine B5 (bD.Ai ((((((al.Ab aa).Ab am).Ab aG).Ab aH).Ab aQ).Ab ak)) ej underlying22 BS ?_;rintro gK gL _ ⟨el,em,rfl,en⟩ eo;refine BY 0 eo C4 rfl rfl rfl ?_;obtain⟨bq,ep,eq⟩:=bs ek;refine zg 6 rfl (Bs (fun L s=>∃(aT:LH) (aU:Ao) (aV:Nat) (aW:Seg),Jn ah H aT [V,aW] [(1,iV p1),(2,pV W 0),(5,sV O K.1 U),(6,iV K.2),(9,sV ae Z.1 ag),(11,iV Z.2),(12,sV aU bq aV),(13,iV aj.2)] L s (OL 28 (rL rI) aT aU aV aW bq)) ?_ ?_)
         ·rintro _ _ ⟨aT,aU,aV,aW,rfl,rfl,er,et,eu⟩;obtain⟨ew,ex,ey⟩:=bs eq;refine zg 3 rfl (A9 ex rfl rfl rfl ?_);refine zg 2 rfl ?_;obtain rfl:=oi ey;exact Aw (dV _ _ (bq,ew) ⟨aT,aU,aV,aW,rfl,rfl,(ak.Ab er),et,eu⟩ bp) rfl
         ·intro ez;refine JL.block (CE ep (fun L s aX=>∃(aY:LH) (aZ:Ao) (a0:Nat) (a1:Seg),Jn ah H aY [V,a1] [(1,iV p1),(2,pV W 0),(5,sV O K.1 U),(6,iV K.2),(9,sV ae Z.1 ag),(11,iV Z.2),(12,sV aZ aX.1 a0),(13,iV aj.2),(14,sV el ei em),(15,iV aX.2)] L s (OL 28 (rL rI) aY aZ a0 a1 aX.1)) ⟨ah,aq,ar,au,rfl,rfl,Aq,b1,b2⟩ ?_);rintro _ _ aX ⟨aY,aZ,a0,a1,rfl,rfl,av,br,bu⟩ eA ⟨gM,a2⟩ b4;have b5:=a2;unfold MT at b5;refine zg 5 rfl (Bo underlying28 rfl rfl rfl ?_);refine zg 2 rfl (AM b5 (fun eB eC=>?_) (fun eB eD=>?_))
          ·refine zg 3 rfl (DC 13 fun ht=>?_);refine Bh ht rfl [0,1,2] rfl ?_;obtain⟨b6,eE,eF⟩:=bs eC;refine Ds 3 (bj.Ai (ak.Ab av)) eE ht underlying22 BS ?_;rintro gN gO _ ⟨b7,b8,rfl,b9⟩ eG;refine CH 4 ht 0 eG C4 rfl rfl rfl rfl (Bh ht rfl [6,7] rfl ?_);obtain⟨a3,eH,eI⟩:=bs eF;refine Ds 8 (en.Ai av) eH ht underlying28 AN ?_;rintro gP gQ _ rfl eJ;refine CH 9 ht 0 eJ Bq rfl rfl rfl rfl ?_;obtain⟨gR,ca,eK⟩:=bs eI;obtain⟨a4,cb,cc⟩:=bs eK;refine I1 (i:=5) (j:=10) rfl (by decide+kernel) ?_ ?_
           ·refine Take.Np (vs:= [sV b7 b6 b8]) br (RF b9 ca) rfl rfl rfl (A3 func108 rfl) rfl ?_;rintro _ gS _ cd ⟨gT,gU,gV,rfl,rfl,eL⟩ eM;refine JG.one (i:=10) rfl (by decide+kernel) (Take.J3 (pp:=rI) [iV a3] ([a3]:List Int) eM rfl rfl rfl underlying28 AN Cp (by decide) rfl rfl rfl ⟨rfl,trivial⟩ fun gW gX eN eO=>?_);refine JG.one (i:=11) rfl (by decide+kernel) (Take.app0 (pp:=rI) 2 3 eO cb rfl rfl rfl rfl rfl rfl rfl underlying28 underlying28 AN (Cu type3) Cp rfl (by decide) (by decide) eL eN rfl rfl fun eP eQ gY gZ eR eS=>?_);refine Qz 2 rfl eS fun eT=>PI 4 eR eT rfl fun g0 ce eU eV=>JG.one (i:=12) rfl (by decide+kernel) (Take.J3 (pp:=(rL rI)) [sV eP a4 eQ] ([a4]:List (List Int)) eV rfl rfl rfl underlying22 BS EK (by decide) rfl rfl rfl ⟨⟨_,_,rfl,eU⟩,trivial⟩ fun g1 g3 eW eX=>?_);refine Cg [13,14] (Cc 5 eW eX rfl fun eY cf eZ e0=>?_);obtain⟨e1,e3,e4⟩:=bs cc;refine KN (pp:=(rL rI)) 1 e3 rfl rfl rfl rfl rfl rfl rfl underlying22 underlying22 BS (Cu type28) EK rfl (by decide) (by decide) (bu.Ai ((cd.Ab ce).Ab cf)) eZ e0 rfl fun e5 e6 e7 e8 e9=>?_;obtain⟨fa,fb,fc⟩:=bs e4;refine zg 5 rfl (A9 fb rfl rfl rfl ?_);refine zg 2 rfl (JS.drop 2 e9 rfl fun fd=>?_);refine JS.drop 3 fd rfl fun fe=>?_;obtain rfl:=oi fc;exact Aw (b4 _ _ (e1,fa) ⟨eY,e5,e6,e7,rfl,rfl,(((av.Ab cd).Ab ce).Ab cf),fe,e8⟩ a2) rfl
           ·refine Take.J3 (pp:=rI) [iV a3] ([a3]:List Int) br rfl rfl rfl underlying28 AN Cp (by decide) rfl rfl rfl ⟨rfl,trivial⟩ fun g4 g5 ff fg=>JG.one (i:=5) rfl (by decide+kernel) (Take.Np (vs:= [sV b7 b6 b8]) fg (RF b9 ca) rfl rfl rfl (A3 func108 rfl) rfl ?_);rintro _ g6 _ bv ⟨g7,g8,g9,rfl,rfl,fh⟩ fj;refine JG.one (i:=11) rfl (by decide+kernel) (Take.app0 (pp:=rI) 3 2 fj cb rfl rfl rfl rfl rfl rfl rfl underlying28 underlying28 AN (Cu type3) Cp rfl (by decide) (by decide) fh (ff.Ai bv) rfl rfl fun fk fm ha hb fo fp=>?_);refine Qz 3 rfl fp fun fq=>PI 4 fo fq rfl fun hc cg fu fv=>JG.one (i:=12) rfl (by decide+kernel) (Take.J3 (pp:=(rL rI)) [sV fk a4 fm] ([a4]:List (List Int)) fv rfl rfl rfl underlying22 BS EK (by decide) rfl rfl rfl ⟨⟨_,_,rfl,fu⟩,trivial⟩ fun he hf fw fx=>?_);refine Cg [13,14] (Cc 5 fw fx rfl fun fy ci fz fA=>?_);obtain⟨fB,fC,fD⟩:=bs cc;refine KN (pp:=(rL rI)) 1 fC rfl rfl rfl rfl rfl rfl rfl underlying22 underlying22 BS (Cu type28) EK rfl (by decide) (by decide) (bu.Ai ((bv.Ab cg).Ab ci)) fz fA rfl fun fE fF fG fH fI=>?_;obtain⟨fJ,fK,fL⟩:=bs fD;refine zg 5 rfl (A9 fK rfl rfl rfl ?_);refine zg 2 rfl (JS.drop 2 fI rfl fun fM=>?_);refine JS.drop 3 fM rfl fun fN=>?_;obtain rfl:=oi fL;exact Aw (b4 _ _ (fB,fJ) ⟨fy,fE,fF,fG,rfl,rfl,(((av.Ab bv).Ab cg).Ab ci),fN,fH⟩ a2) rfl
          ·refine JL.exit rfl ?_;obtain rfl:=oi eD;obtain rfl:=eA _ a2;exact Aw (ez _ _ ⟨aY,aZ,a0,a1,rfl,rfl,av,br,bu⟩) rfl
        ·refine JL.exit rfl ?_;obtain rfl:=oi dY;obtain rfl:=dU _ bp;exact Aw (dT _ _ ⟨ah,aq,ar,au,rfl,rfl,ak,b1,b2⟩) rfl
      ·refine JL.exit rfl ?_;obtain rfl:=oi dG;obtain rfl:=dC _ bl;exact Aw (dB _ _ ⟨ab,ae,ag,rfl,rfl,aQ,bZ,bj⟩) rfl
    ·intro fO;refine JL.block (CE cV (fun L s a5=>∃(a6:LH) (aw:Ao) (ay:Nat) (a7:Seg),Jn bb H a6 [V,a7] [(1,iV p1),(2,pV W 0),(5,sV O K.1 U),(6,iV K.2),(7,sV cK cH.1 cM),(9,sV aw a5.1 ay),(10,iV a5.2)] L s (OL 28 (rL rI) a6 aw ay a7 a5.1)) ⟨bb,none,0,[],rfl,rfl,Aq,bP,OL.nil⟩ ?_);rintro _ _ a5 ⟨a6,aw,ay,a7,rfl,rfl,bw,ck,cm⟩ fP ⟨hj,bx⟩ fQ;have cn:=bx;unfold MY at cn;refine zg 5 rfl (Bo underlying28 rfl rfl rfl ?_);refine zg 2 rfl (AM cn (fun fR fS=>?_) (fun fR fT=>?_))
     ·obtain⟨bz,fU,fW⟩:=bs fS;refine zg 7 rfl (B5 (cN.Ai bw) fU underlying28 AN ?_);rintro hk hl _ rfl fX;refine BY 0 fX Bq rfl rfl rfl (JS.lit (pp:=rI) [iV bz] [bz] rfl rfl rfl underlying28 AN Cp (by decide) rfl rfl rfl ⟨rfl,trivial⟩ ck fun fY hm fZ ga=>?_);refine Cc 2 fZ ga rfl fun gb co gc gd=>?_;obtain⟨ge,gf,gg⟩:=bs fW;refine JS.app (pp:=(rL rI)) (v:= .slice (A2 fY) (([bz]:List Int)).length 1) (a:=aw) (c:=ay) 1 gf rfl rfl rfl rfl (fun _=>rfl) rfl (fun _=>rfl) rfl rfl rfl underlying22 underlying22 underlying22 BS (Cu type28) EK rfl (by decide) (by decide) (by decide) (by decide) (cm.Ai co) ⟨_,_,rfl,gc⟩ gd rfl fun hn gh gi gj gk gl=>?_;obtain⟨gm,gn,gp⟩:=bs gg;refine zg 5 rfl (A9 gn rfl rfl rfl ?_);refine zg 2 rfl ?_;obtain rfl:=oi gp;exact Aw (fQ _ _ (ge,gm) ⟨gb,gh,gi,gj,rfl,rfl,(bw.Ab co),gl,gk⟩ bx) rfl
     ·refine JL.exit rfl ?_;obtain rfl:=oi fT;obtain rfl:=fP _ bx;exact Aw (fO _ _ ⟨a6,aw,ay,a7,rfl,rfl,bw,ck,cm⟩) rfl
  ·refine JL.exit rfl ?_;obtain rfl:=oi cG;have gq:bJ=(Sum.inr K.1):=(bN _ aD).symm;exact Aw (cC _ _ ⟨K.1,aC,O,U,V,gq,rfl,rfl,aa,bL,bM⟩) rfl
end Pal
namespace Pal
open Go Go.Conc Go.Proofs
open Go.Proofs.Tryz
end Pal
namespace Pal
theorem VJ.cj{n:Nat}{J:JW}(K:VJ n J):CJ J=none:=by
 obtain⟨e,O,U⟩:=V3 (F:=200) (by omega) K.nl;rw [RR (by omega) K] at O;cases O;exact U.symm
theorem Yi{F n a:Nat}{J:JW}(O:100<F)(K:VJ n J)(U:a<13):f64 F J (a:Int)=some (BU (AG J a) 16,0):=by
 rw [WM O K.nl];unfold Pe;rw [K.cj];simp only;rw [if_pos (by omega)];rfl
theorem UG(J:JW)(k a:Nat):DJ J (k+1) a=(DJ J k a).flatMap fun q=>(nx J (q.getLast?.getD 0)).map fun u=>q++ [u]:=by
 unfold DJ;rw [List.flatMap_assoc];congr 1;funext m;exact QM k [m] m rfl
theorem Uv(J:JW)(a:Nat):DJ J 0 a=(BU (AG J a) 16).map fun m=> [m]:=by simp [DJ,Es,List.map_eq_flatMap]
theorem Kq{α β:Type}{l:List α}{f:α→β}{i:Nat}(h:i<l.length):(l.take (i+1)).map f=(l.take i).map f++ [f l[i]]:=by
 rw [List.take_add_one,List.getElem?_eq_getElem h,List.map_append];rfl
theorem X5{F n Y:Nat}{J:JW}(aj:1000000<F)(K:VJ n J)(ak:1≤Y)(al:Y≤7):f55 F J (Y:Int)=some (EO J (Y - 1) 13):=by
 have am:=K.l1;have W:∀i a,i≤7→(DJ J i a).length≤34992:=fun i a hi=>by have:=QC K i a;have:=RX hi;omega
 refine CV ?_;unfold f55;refine AI (S:=fun q=>q=Sum.inr (EO J (Y - 1) 13)) ?_ (by rintro q rfl;rw [Sum.elim_inr];exact Al rfl);refine Cq 13 (fun a s=>s=(EO J (Y - 1) a,(a:Int))) rfl (by omega) ?_ ?_
 ·rintro a s ab rfl;unfold Nc;refine BI (by simp only;omega) (AP (Yi (by omega) K ab) ?_);refine Bf (by simp) (AI (S:=fun q=>q=DJ J 0 a) ?_ ?_)
  ·have an:=Jj (AG J a) 16;refine Cq (BU (AG J a) 16).length (fun i s=>s=(((BU (AG J a) 16).take i).map (fun m=> [m]),(i:Int))) rfl (by omega) ?_ ?_
   ·rintro i s hi rfl;unfold MY;refine BI (by simp only;omega) (Bv (m:=i) rfl hi ?_);refine Ij (by simp;omega) (AX ((i+1:Nat):Int) (by simp) (by omega) (by omega) ?_);refine Al ?_;show _=_;rw [Kq hi]
   ·rintro s rfl;unfold MY;refine Bf (by simp only;omega) (Al ⟨_,rfl,?_⟩);rw [List.take_length,Uv]
  ·rintro q rfl;refine AI (S:=fun q=>q=DJ J (Y - 1) a) ?_ ?_
   ·refine Cq (Y - 1) (fun i s=>s=(DJ J i a,((i+1:Nat):Int))) rfl (by omega) ?_ ?_
    ·rintro i s hi rfl;unfold MR;refine BI (by simp only;omega) (AI (S:=fun q=>q=DJ J (i+1) a) ?_ ?_)
     ·rw [UG];have ao:=W i a (by omega);refine Cq (DJ J i a).length (fun j s=>s=(((DJ J i a).take j).flatMap fun q=>(nx J (q.getLast?.getD 0)).map fun u=>q++ [u],(j:Int))) rfl (by omega) ?_ ?_
      ·rintro j s O rfl;unfold MZ;obtain⟨q,U⟩:∃q,(DJ J i a)[j]? =some q:=⟨_,List.getElem?_eq_getElem O⟩;have Z:=(Oo K).1 (List.mem_of_getElem? U);obtain⟨u,hu⟩:∃u,q[i]? =some u:=⟨_,List.getElem?_eq_getElem (by omega)⟩;have ae:q.getLast?.getD 0=u:=by rw [List.getLast?_eq_getElem?,Z.1,Nat.add_sub_cancel,hu];rfl
       have ag:(((DJ J i a).take j).flatMap fun q=>(nx J (q.getLast?.getD 0)).map fun u=>q++ [u]).length≤34992*3:=by
        refine Nat.le_trans (HI (b:=3) fun q _=>?_) ?_
        ·rw [List.length_map];exact(K.Gh _).len
        ·refine Nat.mul_le_mul_right _ ?_;rw [List.length_take];omega
       have V:((DJ J i a).take (j+1)).flatMap (fun q=>(nx J (q.getLast?.getD 0)).map fun u=>q++ [u])=((DJ J i a).take j).flatMap (fun q=>(nx J (q.getLast?.getD 0)).map fun u=>q++ [u])++(nx J (q.getLast?.getD 0)).map fun u=>q++ [u]:=by
        rw [List.take_add_one,U,List.flatMap_append];simp only [Option.toList_some,List.flatMap_cons,List.flatMap_nil,List.append_nil]
       generalize ap:((DJ J i a).take j).flatMap (fun q=>(nx J (q.getLast?.getD 0)).map fun u=>q++ [u])=acc at ag V ⊢;rw [ae] at V;have aq:=Z.2.range K i _ hu;refine BI (by simp only;omega) (AP (Ec (m:=j) rfl U) ?_);refine AX (i:Int) (by simp only;omega) (by omega) (by omega) (AP (Ec (m:=i) rfl hu) ?_);have ah:J.1[u.toNat]? =some (nx J u):=by
        unfold nx;rw [List.getD_eq_getElem?_getD,List.getElem?_eq_getElem (by omega)];rfl
       have ai:=(K.Gh u.toNat).len;change (nx J u).length≤3 at ai;refine AP (Ec (m:=u.toNat) (by omega) ah) ?_;refine AI (S:=fun r=>r=acc++(nx J u).map fun u=>q++ [u]) ?_ ?_
       ·refine Cq (nx J u).length (fun l s=>s=(acc++((nx J u).take l).map (fun u=>q++ [u]),(l:Int))) (by simp) (by omega) ?_ ?_
        ·rintro l s aa rfl;unfold MT;refine BI (by simp only;omega) (AP (b:=q) (Ec (m:=j) rfl U) ?_);refine Bv (m:=l) rfl aa (AP (b:=q) (by unfold Ni Dy;rw [if_pos (by simp;omega)];simp) ?_);refine AP (b:=q++ [(nx J u)[l]]) (by unfold Dy;rw [if_pos (by simp;omega)]) (AP (b:=acc++((nx J u).take (l+1)).map (fun u=>q++ [u])) ?_ ?_)
         ·unfold Dy;rw [if_pos (by simp only [List.length_append,List.length_map,List.length_take,List.length_singleton];omega),Kq aa,List.append_assoc]
         exact AX ((l+1:Nat):Int) (by simp) (by omega) (by omega) (Al rfl)
        ·rintro s rfl;unfold MT;refine Bf (by simp only;omega) (Al ⟨_,rfl,?_⟩);rw [List.take_length]
       ·rintro r rfl;refine AX ((j+1:Nat):Int) (by simp) (by omega) (by omega) (Al ?_);show _=_;rw [V]
      ·rintro s rfl;unfold MZ;refine Bf (by simp only;omega) (Al ⟨_,rfl,?_⟩);rw [List.take_length]
     ·rintro q rfl;exact AX ((i+1+1:Nat):Int) (by simp) (by omega) (by omega) (Al rfl)
    ·rintro s rfl;unfold MR;exact Bf (by simp only;omega) (Al ⟨_,rfl,rfl⟩)
   ·rintro q rfl;have ar:=QT (k:=a) K (show Y - 1≤7 by omega);have au:=W (Y - 1) a (by omega);refine AI (S:=fun q=>q=EO J (Y - 1) (a+1)) ?_ ?_
    ·have hs:EO J (Y - 1) (a+1)=EO J (Y - 1) a++(DJ J (Y - 1) a).map fun q=>((a:Int),q):=by
      unfold EO;rw [List.range_succ,List.flatMap_append];simp
     refine Cq (DJ J (Y - 1) a).length (fun j s=>s=(EO J (Y - 1) a++((DJ J (Y - 1) a).take j).map (fun q=>((a:Int),q)),(j:Int))) (by simp) (by omega) ?_ ?_
     ·rintro j s O rfl;unfold MO;refine BI (by simp only;omega) (Bv (m:=j) rfl O ?_);refine Ij (by simp only [List.length_append,List.length_map,List.length_take];omega) (AX ((j+1:Nat):Int) (by simp) (by omega) (by omega) ?_);refine Al ?_;show _=_;rw [Kq O,← List.append_assoc]
     ·rintro s rfl;unfold MO;refine Bf (by simp only;omega) (Al ⟨_,rfl,?_⟩);rw [List.take_length,hs]
    ·rintro q rfl;exact AX ((a+1:Nat):Int) (by simp) (by omega) (by omega) (Al rfl)
 ·rintro s rfl;unfold Nc;exact Bf (by simp) (Al ⟨_,rfl,rfl⟩)
theorem U4{F n:Nat}{J:JW}{K:BH}{p:List Int}(ai:100<F)(aa:VJ n J)(ab:Cl n K)(aj:∀l∈K,l.1.toNat<p.length)(ak:∀(y:Nat) m,p[y]? =some m→0≤m∧m<(n:Int)):
  f54 F J K p=some (if I4 J K p=true then(K.map (DK p),((K.filter (DK p)).length:Int),true) else([],0,false)):=by
 have ao:=ab.len;have ap:=aa.l2;refine CV ?_;unfold f54;refine AP (b:=List.replicate K.length false) ?_ ?_
 ·unfold Eg;rw [if_pos (by omega)];rfl
 refine AI (S:=fun q=>if I4 J K p=true then q=Sum.inr (K.map (DK p),((K.filter (DK p)).length:Int)) else q=Sum.inl ([],0,false)) ?_ ?_
 ·refine Cq K.length (fun i s=>s=((K.take i).map (DK p)++List.replicate (K.length - i) false,(((K.take i).filter (DK p)).length:Int),(i:Int))∧∀l∈K.take i,∀m,p[l.1.toNat]? =some m→Ex J m l=true) ⟨by simp,by simp⟩ (by omega) ?_ ?_
  ·rintro i s hi ⟨rfl,U⟩;unfold MV;have hm:=List.getElem_mem hi;have aq:=ab.yr _ hm;have al:=aj _ hm;have hg:p[K[i].1.toNat]? =some p[K[i].1.toNat]:=List.getElem?_eq_getElem al;obtain⟨ar,au⟩:=ak _ _ hg;have ae:p.getD K[i].1.toNat 0=p[K[i].1.toNat]:=by rw [List.getD_eq_getElem?_getD,hg];rfl
   have av:((K.take i).filter (DK p)).length≤8:=Nat.le_trans (List.length_filter_le _ _) (by rw [List.length_take];omega);have ag:((K.take (i+1)).filter (DK p)).length=((K.take i).filter (DK p)).length+if DK p K[i]=true then 1 else 0:=by
    rw [List.take_add_one,List.getElem?_eq_getElem hi,List.filter_append,List.length_append];congr 1;simp only [Option.toList_some,List.filter_cons,List.filter_nil];split <;> simp
   have ah:List.replicate (K.length - i) false=false::List.replicate (K.length - (i+1)) false:=by
    rw [show K.length - i=(K.length - (i+1))+1 by omega,List.replicate_succ]
   have am:Ex J p[K[i].1.toNat] K[i]=true→∀l∈K.take (i+1),∀m,p[l.1.toNat]? =some m→Ex J m l=true:=fun hb l O m Z=>by
    rw [List.take_add_one,List.getElem?_eq_getElem hi] at O;rcases List.mem_append.1 O with O | O
    ·exact U l O m Z
    ·simp at O;subst O;rw [hg] at Z;cases Z;exact hb
   refine BI (by simp only;omega) (AI (S:=fun q=>(Ex J p[K[i].1.toNat] K[i]=true∧q=Sum.inr ((K.take (i+1)).map (DK p)++List.replicate (K.length - (i+1)) false,(((K.take (i+1)).filter (DK p)).length:Int)))∨(Ex J p[K[i].1.toNat] K[i]=false∧q=Sum.inl ([],0,false))) ?_ ?_)
   ·refine Bv (m:=i) rfl hi (AP (Ec (m:=K[i].1.toNat) (by omega) hg) ?_);refine Bv (m:=i) rfl hi (By (fun h=>?_) (fun h=>?_))
    ·refine Al (.inl ⟨Oc.2 (.inl h),?_⟩);have e:DK p K[i]=false:=by unfold DK;rw [ae];simp [h]
     rw [ag,Kq hi,e,if_neg (by simp),ah,List.append_assoc];rfl
    ·have an:J.2[p[K[i].1.toNat].toNat]? =some (J.2.getD p[K[i].1.toNat].toNat []):=by rw [List.getD_eq_getElem?_getD,List.getElem?_eq_getElem (by omega)];rfl
     refine AP (Ec (m:=p[K[i].1.toNat].toNat) (by omega) an) (Bv (m:=i) rfl hi ?_);refine AP (X9 ai (by have:=(aa.Pq p[K[i].1.toNat].toNat).len;omega)) ?_;by_cases V:K[i].2∈J.2.getD p[K[i].1.toNat].toNat []
     ·rw [decide_eq_true V];refine Bf (by simp) (AX ((((K.take i).filter (DK p)).length+1:Nat):Int) (by simp) (by omega) (by omega) ?_);refine Bv (m:=i) rfl (by simp only [List.length_append,List.length_map,List.length_take,List.length_replicate];omega) (Al (.inl ⟨Oc.2 (.inr V),?_⟩));have e:DK p K[i]=true:=by unfold DK;rw [ae];simp [h]
      have O:((K.take i).map (DK p)).length=i:=by rw [List.length_map,List.length_take];omega
      rw [ag,Kq hi,e,if_pos rfl,ah,List.append_assoc];simp only [Int.toNat_natCast];rw [List.set_append_right _ _ (by omega),O,Nat.sub_self];rfl
     ·rw [decide_eq_false V];refine BI (by simp) (Al (.inr ⟨?_,rfl⟩));rw [Bool.eq_false_iff];intro hb;exact(Oc.1 hb).elim h V
   ·rintro q (⟨hb,rfl⟩ | ⟨hb,rfl⟩)
    ·rw [Sum.elim_inr];exact AX ((i+1:Nat):Int) (by simp) (by omega) (by omega) (Al ⟨rfl,am hb⟩)
    ·rw [Sum.elim_inl];refine Al ?_;show if _ then _ else _
     rw [if_neg];intro hs;have:=Jk.1 hs _ hm _ hg;rw [hb] at this;cases this
  ·rintro s ⟨rfl,U⟩;unfold MV;refine Bf (by simp) (Al ⟨_,rfl,?_⟩);rw [List.take_length] at U ⊢;rw [if_pos (Jk.2 U),Nat.sub_self];simp
 ·intro q W;by_cases hs:I4 J K p=true
  ·rw [if_pos hs] at W ⊢;subst W;exact Al rfl
  ·rw [if_neg hs] at W ⊢;subst W;exact Al rfl
end Pal
namespace Pal
theorem Se{F n:Nat}{J:JW}{K:BH}(Z:268435456<F)(aa:VJ n J)(ab:Cl n K)(ae:K.length≤4):
  A5 (f28 F J K) (fun r=>(TT J K= []∧r=(0,0))∨∃k,G7 J K k∧r=(((Dz J K k).length:Int),0)):=by
 unfold f28;refine AI (Si true Z aa ab ae ⟨by omega,by omega⟩) ?_;rintro⟨x,⟨q1,q2⟩,e⟩ ⟨U,g2⟩;simp only at U g2;rw [if_neg (by simp)] at g2;subst g2;refine Al ?_;rcases U with⟨V,O⟩ | ⟨k,V,O,ag,W⟩
 ·cases O;exact .inl ⟨V,rfl⟩
 ·simp only at W;refine .inr ⟨k,⟨O,ag⟩,?_⟩;simp only;rw [W];rfl
end Pal
namespace Pal
open Go Go.Conc
def Pp{α:Type}(p:Rp α):Rp (List α):=⟨1,fun E ws xs=>(xs= []∧ws= [.slice none 0 0])∨(xs≠ []∧(rL p).r E ws xs),
 fun hle h=>h.imp id fun h=>⟨h.1,(rL p).Ai hle h.2⟩,fun h=>by
  rcases h with⟨_,rfl⟩ | ⟨_,h⟩
  ·rfl
  ·exact(rL p).len h,fun h w hw=>by
  rcases h with⟨_,rfl⟩ | ⟨_,h⟩
  ·simp at hw;subst hw;rfl
  ·exact(rL p).one h w hw⟩
instance {α:Type} [DecidableEq α] (xs:List α):Decidable (xs= []):=inferInstance
section
variable {P:Program}{J:Judge P}{Q:Gs_}{b:Frame}{n:Nat}{L L':Env}{ds:Ld_}{k:Li_}{cs:Lf_}{s:St}{ops:Ao_}{E H:LH}{S:List Seg}{i:Nat}{rest:List Nat}
variable {d:Option Tmp}{x y:Operand}{t u ty e:TypeId}{p:String}{af:Ae_}{g:On_}{v w:Value}
end
section
variable {P:Program}{J:Judge P}{Q:Gs_}{b:Frame}{n:Nat}{ds:Ld_}{ops:Ao_}{k:Li_}{cs:Lf_}{m fuel:Nat}{listed:Array Bool}{L:Env}{E H:LH}{S:List Seg}
variable {d:Option Tmp}{x y:Operand}{t ty e:TypeId}{p:String}{af:Ae_}{g:On_}{v:Value}{i:Nat}
theorem Take.Ya{bk off:Nat}{c:AA}(j:Nat)(V:Au E H S)(W:ops[i]? =some ⟨d,.store t x y,ty,p,af,g⟩)(hw:Bi L ops ⟨d,.store t x y,ty,p,af,g⟩=some true)(Z:BE n d=true)
  (aa:ev L x=some (.pointer (some ⟨bk,off,none⟩))) (ab:ev L y=some v) (ae:BA P t=some v.cells.size) (ag:∀u∈v.cells.toList,Cx u=true) (K:S[j]? =some [(bk,.cells c e (0,0))]) (hle:off+v.cells.size≤c.size)
  (h:Au E H (S.set j [(bk,.cells (A4 c off v.cells.toList) e (0,0))])→AV J Q b n ds ops k cs m C9 fuel (Bg listed i) (AF L d undef) (Ak E H (S.set j [(bk,.cells (A4 c off v.cells.toList) e (0,0))]))):
  Take J Q b n ds ops k cs m C9 fuel listed L (Ak E H S) i:=
 Take.Ka W (by simp [Dx,Z]) hw fun ρ O=>by
  obtain⟨ah,ai⟩:=F8 V K
  rw [ah]
  show lp P (do Instr.storeAt t (ρ x) (ρ y);pure Next.skip) _ _ _
  rw [O x _ aa,O y v ab]
  refine AH _ _ ?_
  unfold Instr.storeAt
  simp only [Instr.sureAddr,bind,Sem.bind,pure]
  refine NX (pl:=(S.set j []).flatten.length) ae ag ai (c:=c) (e:=e) (by simp) hle fun U=>?_
  have aj:((S.set j []).flatten++ [(bk,Obj.cells c e (0,0))]).set (S.set j []).flatten.length (bk,.cells (A4 c off v.cells.toList) e (0,0))=(S.set j []).flatten++ [(bk,.cells (A4 c off v.cells.toList) e (0,0))]:=GD _ _ _ _
  rw [aj] at U ⊢
  obtain⟨ak,al⟩:=Ho K U
  rw [ak]
  exact h al
end
end Pal
namespace Pal
open Go Go.Conc
section
variable {P:Program}{J:Judge P}{Q:Gs_}{b:Frame}{n:Nat}{ds:Ld_}{ops:Ao_}{k:Li_}{cs:Lf_}{m fuel:Nat}{D:Nat→Bool}{listed:Array Bool}{L:Env}{E H:LH}{S:List Seg}
end
end Pal
namespace Pal
open Go Go.Conc
def CF{α:Type}(e e2:TypeId)(p:Rp α)(E:LH)(a:Option Addr)(c:Nat)(seg:Seg)(K:List (List α)):Prop:=
 ∃(g0:Seg) (hs:Lv_) (rows:List Seg),seg=g0++rows.flatten∧OL e rV E a c g0 hs∧hs.length=K.length∧rows.length=K.length∧
  ∀(i:Nat) xs r h,K[i]? =some xs→rows[i]? =some r→hs[i]? =some h→∃O ci,h= .slice O xs.length ci∧OL e2 p E O ci r xs
theorem CF.Ai{α:Type}{e e2:TypeId}{p:Rp α}{E E':LH}{a:Option Addr}{c:Nat}{seg:Seg}{K:List (List α)}(h:CF e e2 p E a c seg K)(hle:Le E E'):CF e e2 p E' a c seg K:=
 let ⟨g0,hs,rows,O,U,V,W,Z⟩:=h
 ⟨g0,hs,rows,O,U.Ai hle,V,W,fun i xs r q a b c=>let ⟨aa,ci,k1,ab⟩:=Z i xs r q a b c;⟨aa,ci,k1,ab.Ai hle⟩⟩
theorem CF.make{α:Type}{e e2:TypeId}{p:Rp α}{E:LH}{a:Option Addr}{c:Nat}{seg:Seg}{m:Int}{K:List (List α)}(O:Eg m ([]:List α)=some K)(h:OL e (Pp p) E a c seg K):CF e e2 p E a c seg K:=by
 have U:∀xs∈K,xs= []:=by
  unfold Eg at O;split at O
  ·cases O;intro xs Z;exact(List.mem_replicate.1 Z).2
  ·cases O
 obtain⟨wss,aa,V,ab⟩:=h;have key:∀(i:Nat) ws,wss[i]? =some ws→ws= [.slice none 0 0]:=fun i ws hw=>by
  have W:i<K.length:=by rw [← V];exact(List.getElem?_eq_some_iff.1 hw).1
  have ae:=List.getElem?_eq_getElem W;rcases ab i _ ws ae hw with⟨_,h⟩ | ⟨h,_⟩
  ·exact h
  ·exact absurd (U _ (List.getElem_mem W)) h
 refine⟨seg,List.replicate K.length (.slice none 0 0),List.replicate K.length [],by simp,⟨wss,?_,by simpa using V,fun i x ws ag hw=>?_⟩,by simp,by simp,fun i xs r q a b c=>?_⟩
 ·rw [List.length_replicate];exact aa
 ·rw [key i ws hw];obtain rfl:=(List.mem_replicate.1 (List.mem_of_getElem? ag)).2;exact⟨rfl,rfl⟩
 ·obtain rfl:=(List.mem_replicate.1 (List.mem_of_getElem? b)).2;obtain rfl:=(List.mem_replicate.1 (List.mem_of_getElem? c)).2;obtain rfl:=U xs (List.mem_of_getElem? a);exact⟨none,0,rfl,OL.nil⟩
theorem Rq{rows:List Seg}{m:Nat}{r:Seg}(h:rows[m]? =some r):rows.flatten=(rows.take m).flatten++r++(rows.drop (m+1)).flatten:=by
 have K:=(List.getElem?_eq_some_iff.1 h).1;have e:rows=rows.take m++r::rows.drop (m+1):=by
  rw [(List.getElem?_eq_some_iff.1 h).2.symm];rw [← List.drop_eq_getElem_cons K,List.take_append_drop]
 conv=>lhs;rw [e]
 simp
theorem Qq{rows:List Seg}{m:Nat}{r:Seg}(h:m<rows.length):(rows.set m r).flatten=(rows.take m).flatten++r++(rows.drop (m+1)).flatten:=by
 rw [Rq (rows:=rows.set m r) (m:=m) (r:=r) (by rw [List.getElem?_set_self h]),List.take_set_of_le (Nat.le_refl _),List.drop_set_of_lt (by omega)]
theorem CF.row{α:Type}{e e2:TypeId}{p:Rp α}{E:LH}{a:Option Addr}{c:Nat}{seg:Seg}{aa:List (List α)}{m:Int}{xs:List α}(h:CF e e2 p E a c seg aa)(hm:ix aa m=some xs):
  ∃(bk:Nat) (f:AA) (V:Option Addr) (ci:Nat) (ab r g2:Seg),a=some ⟨bk,0,none⟩∧seg=(bk,.cells f e (0,0))::(ab++r++g2)∧f[m.toNat*1]? =some (.slice V xs.length ci)∧m.toNat*1+1≤f.size∧OL e2 p E V ci r xs∧
   (∀E' U O,Le E E'→O.length=xs.length→OL e2 p E' V ci U O→CF e e2 p E' a c ((bk,.cells f e (0,0))::(ab++U++g2)) (aa.set m.toNat O))∧
   (∀E' W Z U O,Le E E'→OL e2 p E' W Z U O→CF e e2 p E' a c ((bk,.cells (A4 f (m.toNat*1) [.slice W O.length Z]) e (0,0))::(ab++U++g2)) (aa.set m.toNat O)):=by
 obtain⟨g0,hs,rows,rfl,aj,ak,al,ae⟩:=h;obtain⟨K,rfl,am⟩:=GH hm;have az:=(List.getElem?_eq_some_iff.1 am).1;have an:rows[K]? =some rows[K]:=List.getElem?_eq_getElem (by omega);have hh:hs[K]? =some hs[K]:=List.getElem?_eq_getElem (by omega);obtain⟨V,ci,aq,ar⟩:=ae K xs _ _ am an hh;rw [aq] at hh;obtain⟨bk,f,ws,rfl,rfl,au,ao,av,ap⟩:=OL.get aj hh;obtain⟨rfl,-⟩:=au;have aw:(rV).n=1:=rfl;rw [aw] at ao av ap;simp only [Int.toNat_natCast];refine⟨bk,f,V,ci,(rows.take K).flatten,rows[K],(rows.drop (K+1)).flatten,rfl,by rw [Rq an];rfl,by have:=ao 0 _ rfl;simpa using this,by omega,ar,fun E' U O hle ay ag=>?_,fun E' W Z U O hle ag=>?_⟩
 ·refine⟨_,hs,rows.set K U,by rw [Qq (by omega)];rfl,aj.Ai hle,by simpa using ak,by simpa using al,fun i ys q v a b c=>?_⟩;rw [List.getElem?_set] at a b;by_cases e:K=i
  ·subst e;rw [if_pos rfl,if_pos (by omega)] at a b;cases a;cases b;rw [hh] at c;cases c;exact⟨V,ci,by rw [ay],ag⟩
  ·rw [if_neg e] at a b;obtain⟨ah,ai,l1,l2⟩:=ae i ys q v a b c;exact⟨ah,ai,l1,l2.Ai hle⟩
 ·refine⟨_,hs.set K (.slice W O.length Z),rows.set K U,by rw [Qq (by omega)];rfl,(ap _ _ ⟨rfl,rfl⟩).Ai hle,by simpa using ak,by simpa using al,fun i ys q v a b c=>?_⟩;rw [List.getElem?_set] at a b c;by_cases e:K=i
  ·subst e;rw [if_pos rfl,if_pos (by omega)] at a b c;cases a;cases b;cases c;exact⟨W,Z,rfl,ag⟩
  ·rw [if_neg e] at a b c;obtain⟨ah,ai,l1,l2⟩:=ae i ys q v a b c;exact⟨ah,ai,l1,l2.Ai hle⟩
theorem Vs{E H:LH}{S:List Seg}{j bk:Nat}{o:Obj}{seg:Seg}(K:Au E H S)(O:S[j]? =some seg)(h:(bk,o)∈seg):(Ak E H S).get bk=some o:=by
 obtain⟨i,hi⟩:=List.mem_iff_getElem?.1 h;exact EN K O hi
theorem HJ{E H:LH}{S:List Seg}{j bk off:Nat}{c:AA}{e:TypeId}{f:Nat×Nat}{v:Value}{seg:Seg}(K:Au E H S)(O:S[j]? =some seg)(h:(bk,.cells c e f)∈seg)(U:c[off]? =some v):(Ak E H S).cell? ⟨bk,off,none⟩=some v:=by
 unfold St.cell?;rw [Vs K O h];exact U
section
variable {P:Program}{J:Judge P}{Q:Gs_}{b:Frame}{n:Nat}{L L':Env}{ds:Ld_}{k:Li_}{cs:Lf_}{s:St}{ops:Ao_}{E H:LH}{S:List Seg}{i:Nat}{rest:List Nat}
variable {d:Option Tmp}{x y:Operand}{t u ty e e2:TypeId}{p:String}{af:Ae_}{g:On_}{v w:Value}
theorem L2{S:List Seg}{j:Nat}{A B:Seg}{seg seg':Seg}{q:Nat×Obj}(K:S[j]? =some seg)(h:seg.Perm (q::A)):S.flatten.Perm (S.set j A++ [[q]]).flatten:=by
 have O:=(Du (seg':=A) K).1;have U:=(Du (seg':=A) K).2;rw [FT];refine O.trans ?_;refine(h.append_left _).trans ?_;refine List.Perm.trans ?_ (U.symm.append_right [q]);rw [List.append_assoc];exact(List.perm_append_comm (l₁:= [q]) (l₂:=A)).append_left _
theorem R8{bk off:Nat}{c:AA}{seg seg' A:Seg}(j:Nat)(U:Au E H S)(K:S[j]? =some seg)(V:seg.Perm ((bk,.cells c e (0,0))::A))(W:seg'.Perm ((bk,.cells (A4 c off v.cells.toList) e (0,0))::A))(Z:BA P t=some v.cells.size)(aa:Ep b n L ops i=some ⟨d,.store t x y,ty,p,af,g⟩)
  (ab:ev L x=some (.pointer (some ⟨bk,off,none⟩))) (ae:ev L y=some v)
  (hle:off+v.cells.size≤c.size) (ag:∀u∈v.cells.toList,Cx u=true)
  (h:Au E H (S.set j seg')→JL J Q b n (AF L d undef) ds (.inRegion ops rest::k) cs (Ak E H (S.set j seg'))):
  JL J Q b n L ds (.inRegion ops (i::rest)::k) cs (Ak E H S):=by
 have ah:=(List.getElem?_eq_some_iff.1 K).1;have key:∀q:Nat×Obj,∀g',g'.Perm (q::A)→(S.set j A++ [[q]]).flatten.Perm (S.set j g').flatten:=fun q g' hg=>by
  have:=L2 (B:= []) (seg':= []) (S:=S.set j g') (j:=j) (seg:=g') (A:=A) (q:=q) (by rw [List.getElem?_set_self ah]) hg;rw [List.set_set] at this;exact this.symm
 refine JS.perm (S':=S.set j A++ [[(bk,.cells c e (0,0))]]) (L2 (B:= []) (seg':= []) K V) U fun ai=>?_;have hlen:(S.set j A++ [[(bk,Obj.cells c e (0,0))]])[(S.set j A).length]? =some [(bk,.cells c e (0,0))]:=by simp
 refine SL (S.set j A).length ai Z aa ab ae hlen (fun O=>?_) hle ag;rw [GD] at O ⊢;exact JS.perm (key _ _ W) O h
theorem QY{q:Nat×Obj}{K r r0 g2:Seg}:(q::(K++r0++g2)++r).Perm (q::(K++r++g2)++r0):=by
 simp only [List.cons_append,List.append_assoc];refine List.Perm.cons _ (List.Perm.append_left _ ?_);refine(List.perm_append_comm (l₁:=r0) (l₂:=g2++r)).trans ?_;rw [← List.append_assoc];exact(List.perm_append_comm (l₁:=g2) (l₂:=r)).append_right r0
theorem QJ{p q:Nat×Obj}{K g2:Seg}:(q::(K++ [p]++g2)).Perm (p::q::(K++g2)):=by
 refine List.Perm.trans ?_ (List.Perm.swap p q _);rw [List.append_assoc];exact List.Perm.cons _ List.perm_middle
theorem RB{O g' r r0:Seg}{j K:Nat}{S:List Seg}(Z:j<S.length)(U:j≠K)(aa:S[K]? =some r)(ab:(O++r).Perm (g'++r0)):(S.set j O).flatten.Perm (((S.set j g').set K [])++ [r0]).flatten:=by
 have ae:(S.set j O)[K]? =some r:=by rw [List.getElem?_set_ne U];exact aa
 have ag:=(Du (seg':=([]:Seg)) ae).1;have V:((S.set j O).set K [])[j]? =some O:=by rw [List.getElem?_set_ne (Ne.symm U),List.getElem?_set_self Z]
 have ah:=(Du (seg':=g') V).1;have W:=(Du (seg':=g') V).2;have e:((S.set j O).set K []).set j g'=(S.set j g').set K []:=by rw [List.set_comm _ _ (Ne.symm U),List.set_set]
 rw [e] at W;rw [FT];refine ag.trans ((ah.append_right r).trans ?_);refine List.Perm.trans ?_ (W.symm.append_right r0);rw [List.append_assoc,List.append_assoc];exact ab.append_left _
structure Hw {α:Type} (e e2:TypeId) (pp:Rp α) (E:LH) (a:Ao) (c bk:Nat) (f:AA) (U:Ao) (ci:Nat) (V r g2:Seg) (W:List (List α)) (m:Int) (xs:List α):Prop where
 ad:a=some ⟨bk,0,none⟩
 hd:f[m.toNat*1]? =some (.slice U xs.length ci)
 sz:m.toNat*1+1≤f.size
 ol:OL e2 pp E U ci r xs
 set:∀E' O K,Le E E'→K.length=xs.length→OL e2 pp E' U ci O K→CF e e2 pp E' a c ((bk,.cells f e (0,0))::(V++O++g2)) (W.set m.toNat K)
 put:∀E' Z aa O K,Le E E'→OL e2 pp E' Z aa O K→CF e e2 pp E' a c ((bk,.cells (A4 f (m.toNat*1) [.slice Z K.length aa]) e (0,0))::(V++O++g2)) (W.set m.toNat K)
theorem CF.rowOf{α:Type}{pp:Rp α}{a:Ao}{c:Nat}{seg:Seg}{O:List (List α)}{m:Int}{xs:List α}(h:CF e e2 pp E a c seg O)(hm:ix O m=some xs):
  ∃(bk:Nat) (f:AA) (U:Ao) (ci:Nat) (K r g2:Seg),seg=(bk,.cells f e (0,0))::(K++r++g2)∧Hw e e2 pp E a c bk f U ci K r g2 O m xs:=by
 obtain⟨bk,f,U,ci,K,r,g2,W,Z,aa,ab,ae,V⟩:=h.row hm;exact⟨bk,f,U,ci,K,r,g2,Z,W,aa,ab,ae,V.1,V.2⟩
theorem Ol{α:Type}{pp:Rp α}{c bk K ci:Nat}{a O ae:Ao}{f:AA}{U r0 g2 r:Seg}{W:List (List α)}{m:Int}{xs ys:List α}(j V:Nat)(Z:Hw e e2 pp E a c bk f ae ci U r0 g2 W m xs)(ag:OL e2 pp E O K r ys)(ah:Au E H S)(aa:S[j]? =some ((bk,.cells f e (0,0))::(U++r0++g2)))(ai:j≠V)(aj:S[V]? =some r)
  (ak:BA P t=some 1) (al:Ep b n L ops i=some ⟨d,.store t x y,ty,p,af,g⟩) (am:ev L x=some (.pointer (some ⟨bk,m.toNat*1,none⟩))) (an:ev L y=some (.slice O ys.length K))
  (h:∀g',CF e e2 pp E a c g' (W.set m.toNat ys)→Au E H ((S.set j g').set V [])→JL J Q b n (AF L d undef) ds (.inRegion ops rest::k) cs (Ak E H ((S.set j g').set V []))):
  JL J Q b n L ds (.inRegion ops (i::rest)::k) cs (Ak E H S):=by
 have ao:=(List.getElem?_eq_some_iff.1 aa).1;refine R8 (v:= .slice O ys.length K) (c:=f) (e:=e) (off:=m.toNat*1) (A:=U++r0++g2) (seg':=(bk,.cells (A4 f (m.toNat*1) [.slice O ys.length K]) e (0,0))::(U++r0++g2)) j ah aa (List.Perm.refl _) (List.Perm.refl _) ak al am an Z.sz (by simp [Value.cells,Cx]) fun ap=>?_;refine JS.perm (RB (g':=(bk,.cells (A4 f (m.toNat*1) [.slice O ys.length K]) e (0,0))::(U++r++g2)) (r:=r) (r0:=r0) ao ai aj QY) ap fun aq=>?_;refine JS.drop _ aq (List.getElem?_concat_length) fun ab=>?_;rw [show ∀(T:List Seg),(T++ [r0]).set T.length []=T++ [[]] from fun T=>GD _ _ _ _] at ab ⊢;refine DO (S':=(S.set j ((bk,.cells (A4 f (m.toNat*1) [.slice O ys.length K]) e (0,0))::(U++r++g2))).set V []) (by simp) ab fun ar=>?_;exact h _ (Z.put _ _ _ _ _ (Le.refl _) ag) ar
theorem Hw.elem{α:Type}{pp:Rp α}{a O:Ao}{c bk ci:Nat}{f:AA}{U r g2:Seg}{V:List (List α)}{m q:Int}{xs:List α}{W:α}(h:Hw e e2 pp E a c bk f O ci U r g2 V m xs)(ab:ix xs q=some W):
  ∃(bk2:Nat) (f2:AA) (ws:Lv_),O=some ⟨bk2,0,none⟩∧r= [(bk2,.cells f2 e2 (0,0))]∧pp.r E ws W∧(∀(j:Nat) w,ws[j]? =some w→f2[q.toNat*pp.n+j]? =some w)∧(q.toNat+1)*pp.n≤f2.size∧
   ∀E' x' ws',Le E E'→pp.r E' ws' x'→CF e e2 pp E' a c ((bk,.cells f e (0,0))::(U++ [(bk2,.cells (A4 f2 (q.toNat*pp.n) ws') e2 (0,0))]++g2)) (V.set m.toNat (xs.set q.toNat x')):=by
 obtain⟨al,rfl,Z⟩:=GH ab;obtain⟨bk2,f2,ws,ae,aa,ag,ah,ai,_⟩:=OL.get h.ol Z;refine⟨bk2,f2,ws,ae,aa,ag,ah,ai,fun E' x' ws' hle aj=>?_⟩;obtain⟨am,f3,_,_,K,_,_,_,ak⟩:=OL.get (h.ol.Ai hle) Z;rw [aa] at K;simp only [List.cons.injEq,Prod.mk.injEq,Obj.cells.injEq,and_true] at K;obtain⟨rfl,rfl⟩:=K;exact h.set E' _ _ hle (by simp) (ak x' ws' aj)
theorem Fe{α:Type}{s:St}{ρ:Operand→Value}{x y:Operand}{d:Option Tmp}{t ty e:TypeId}{p:String}{af:Ae_}{g:On_}{kd:IntKind}{xs:List α}{xv:α}{m:Int}{a:Ao}{bk c sz:Nat}(K:a=some ⟨bk,0,none⟩)(hm:ix xs m=some xv)(ht:P.underlying t=some (.slice e))(O:BA P e=some sz)(U:ρ x= .slice a xs.length c)(V:ρ y= .int kd m):
  Yl P ⟨d,.indexAddr t x y,ty,p,af,g⟩ ρ s (.pointer (some ⟨bk,m.toNat*sz,none⟩)):=by
 subst K;exact QA hm ht O U V
def IC(E:LH):Nat→Bool:=fun x=>(E x).isNone
theorem X0(x:Nat):(BF (IC E) (Ak E H S)).E x=(Ak E H S).get x:=by
 show(if IC E x then(Ak E H S).get x else E x)=_
 unfold IC;cases h:E x with
 | none=>simp
 | some o=>
  rw [if_neg (by simp)];unfold St.get;rw [show(Ak E H S).E x=some o from h]
theorem Zn{s':St}(hs:∀x o,(BF (IC E) (Ak E H S)).E x=some o→s'.E x=some o){x:Nat}{o:Obj}(h:(Ak E H S).get x=some o):s'.get x=some o:=by
 have:=hs x o (by rw [X0];exact h);unfold St.get;rw [this]
theorem IA{s':St}(hs:∀x o,(BF (IC E) (Ak E H S)).E x=some o→s'.E x=some o){a:Addr}{v:Value}(h:(Ak E H S).cell? a=some v):s'.cell? a=some v:=by
 obtain⟨o,K,O⟩:=Option.bind_eq_some_iff.1 h;unfold St.cell?;rw [Zn hs K];exact O
theorem XT{s':St}(hs:∀x o,(BF (IC E) (Ak E H S)).E x=some o→s'.E x=some o){a:Addr}{vs:Lv_}(h:∀(i:Nat) v,vs[i]? =some v→(Ak E H S).cell? (Addr.add a i)=some v):∀(i:Nat) v,vs[i]? =some v→s'.cell? (Addr.add a i)=some v:=fun i v K=>IA hs (h i v K)
theorem O7(m:Nat){id:Nat}(h:DG ops m=true→AV J Q b n ds ops k cs m (IC E) ops.size (Array.replicate ops.size false) L (Ak E H S))(hm:P.follows .mixedOrders=true:=by exact rfl)(K:(b.kind != .early)=true:=by exact rfl)(ht:DG ops m=true:=by decide+kernel):
  JL J Q b n L ds (.code (.region id ops true)::k) cs (Ak E H S):=Oh m (IC E) rfl hm K (h ht)
abbrev rs(q:Nat×Obj)(K:Seg)(p:Nat×Obj)(g2:Seg):Seg:=q::(K++ [p]++g2)
theorem Mq{p q:Nat×Obj}{K g2:Seg}:p∈q::(K++ [p]++g2):=by simp
theorem Rr{bk bk2:Nat}{f f2:AA}{K g2:Seg}{off:Nat}(j:Nat)(O:Au E H S)(U:S[j]? =some ((bk,.cells f e (0,0))::(K++ [(bk2,.cells f2 e2 (0,0))]++g2)))
  (V:BA P t=some v.cells.size) (W:Ep b n L ops i=some ⟨d,.store t x y,ty,p,af,g⟩) (Z:ev L x=some (.pointer (some ⟨bk2,off,none⟩))) (aa:ev L y=some v)
  (hle:off+v.cells.size≤f2.size) (ab:∀u∈v.cells.toList,Cx u=true)
  (h:Au E H (S.set j ((bk,.cells f e (0,0))::(K++ [(bk2,.cells (A4 f2 off v.cells.toList) e2 (0,0))]++g2)))→JL J Q b n (AF L d undef) ds (.inRegion ops rest::k) cs (Ak E H (S.set j ((bk,.cells f e (0,0))::(K++ [(bk2,.cells (A4 f2 off v.cells.toList) e2 (0,0))]++g2))))):
  JL J Q b n L ds (.inRegion ops (i::rest)::k) cs (Ak E H S):=
 R8 j O U QJ QJ V W Z aa hle ab h
end
end Pal
namespace Pal
open Go Go.Conc
section
variable {P:Program}{E H:LH}{S:List Seg}{t e:TypeId}
theorem W7{K:Next→St→Prop}{α:Type}{pp:Rp α}{z:Value}{W:α}{m:Int}{xs:List α}(V:Eg m W=some xs)
  (ht:P.underlying t=some (.slice e)) (ah:BA P e=some pp.n) {U:Nat} (hb:Ey P e=some U) (au:U≤64) (ai:zeroOf P e=some z) (av:0<pp.n) (Z:pp.r E z.cells.toList W) (aj:Au E H S)
  (h:∀r seg,OL e pp E (some ⟨r,0,none⟩) xs.length seg xs→Au E H (S++ [seg])→K (.value (.slice (some ⟨r,0,none⟩) xs.length xs.length)) (Ak E H (S++ [seg]))):
  lp P (do pure (Next.value (← Instr.makeSlice t (iV m) (iV m)))) (Ak E H S) K (fun _ _=>False):=by
 unfold Eg at V;split at V
 rotate_left
 ·cases V
 rename_i hm;cases V;refine AH _ _ ?_;unfold Instr.makeSlice;refine AH _ _ (Di ht ?_);simp only [asInt,G0];obtain⟨inf,ak,al⟩:=Kv hb;refine AH (x:=typeInfo e) _ (HH ak ?_);simp only [al,Ii (show -9223372036854775808≤m∧m≤9223372036854775807 by omega)];have aw:(U:Int)*m≤64*2 ^ 20:=by
  have aa:(U:Int)*m≤64*m:=Int.mul_le_mul_of_nonneg_right (by omega) hm.1;omega
 have am:((decide (m<0) || decide ((U:Int)*m>2 ^ 48)) || decide (m<0) || decide (m>m))=false:=by
  simp only [Bool.or_eq_false_iff,decide_eq_false_iff_not];omega
 rw [am];simp only [Bool.false_eq_true,if_false];refine AH (x:=askRoom _) _ ?_;have an:∀{Q:Unit→St→Prop} {X:Halt→St→Prop} (w:Nat),Q () (Ak E H S)→lp P (askRoom w) (Ak E H S) Q X:=by
  intro Q X w ab;unfold askRoom;split
  ·exact⟨.inl ⟨rfl,rfl⟩,ab⟩
  ·exact ab
 refine an _ (AH (x:=Go.sizeOf e) _ (EV ah ?_));have ae:z.cells.size=pp.n:=by simpa using pp.len Z
 have fin:∀O:AA,((Array.range (m.toNat*pp.n)).map (O[· % O.size]!)).toList=(List.replicate m.toNat z.cells.toList).flatten→lp P (do let a ← newRow e ((Array.range (m.toNat*pp.n)).map (O[· % O.size]!));pure (Value.slice (some a) m.toNat m.toNat)) (Ak E H S) (fun a s'=>lp P (pure (Next.value a)) s' K (fun _ _=>False)) (fun _ _=>False):=by
  intro O ao;refine AH _ _ (G2 aj fun r ag=>?_);rw [(EB ag).1];have ay:((Array.range (m.toNat*pp.n)).map (O[· % O.size]!)).size=m.toNat*pp.n:=by simp
  have:=h r _ ⟨List.replicate m.toNat z.cells.toList,.inr ⟨r,_,rfl,rfl,by simp,by simp,by
   rw [ao,List.take_of_length_le (by rw [L5];simp [ae])]⟩,by simp,fun i y us ap hu=>by
    have:=List.mem_of_getElem? ap;have aq:=List.eq_of_mem_replicate this
    have:=List.mem_of_getElem? hu;have e2:=List.eq_of_mem_replicate this
    subst aq e2;exact Z⟩ (EB ag).2
  simp only [List.length_replicate] at this;exact this
 split
 ·rename_i ar;have aa:m.toNat=0:=by rcases Nat.mul_eq_zero.1 ar with h | h <;> omega
  exact fin #[] (by simp [aa])
 ·refine AH (x:=zeroValue e) _ (F5 ai ?_);refine fin z.cells ?_;rw [← ae];exact QV z.cells (by omega) _
end
theorem VX{O g' r r0:Seg}{j K:Nat}{S:List Seg}(W:j<S.length)(Z:j≠K)(U:S[K]? =some r)(aa:(O++r).Perm (g'++r0)):(S.set j O).flatten.Perm (((S.set j g').set K r0)).flatten:=by
 have h:=RB (g':=g') (r0:=r0) W Z U aa;refine h.trans ?_;have ab:((S.set j g').set K r0)[K]? =some r0:=by
  rw [List.getElem?_set_self];rw [List.length_set];exact(List.getElem?_eq_some_iff.1 U).1
 have V:=(Du (seg':=([]:Seg)) ab).1;rw [List.set_set] at V;rw [FT];exact V.symm
section
variable {P:Program}{J:Judge P}{Q:Gs_}{b:Frame}{n:Nat}{ds:Ld_}{ops:Ao_}{k:Li_}{cs:Lf_}{m fuel:Nat}{D:Nat→Bool}{listed:Array Bool}{L:Env}{s:St}{E E' H:LH}{S:List Seg}
variable {d:Option Tmp}{x y:Operand}{t u ty e e2:TypeId}{p:String}{af:Ae_}{g:On_}{v:Value}{i:Nat}{kd:IntKind}
theorem Take.Lh{α:Type}{pp:Rp α}{z:Value}{O:α}{K:Int}{xs:List α}(W:Au E H S)(Z:Eg K O=some xs)
  (aa:ops[i]? =some ⟨d,.makeSlice t x y,ty,p,af,g⟩) (hw:Bi L ops ⟨d,.makeSlice t x y,ty,p,af,g⟩=some true) (ab:BE n d=true)
  (ae:ev L x=some (iV K)) (ag:ev L y=some (iV K)) (ht:P.underlying t=some (.slice e)) (ah:BA P e=some pp.n) {U:Nat} (hb:Ey P e=some U) (ai:U≤64) (aj:zeroOf P e=some z) (ak:0<pp.n) (al:pp.r E z.cells.toList O)
  (h:∀r seg,OL e pp E (some ⟨r,0,none⟩) xs.length seg xs→Au E H (S++ [seg])→AV J Q b n ds ops k cs m C9 fuel (Bg listed i) (AF L d (.slice (some ⟨r,0,none⟩) xs.length xs.length)) (Ak E H (S++ [seg]))):
  Take J Q b n ds ops k cs m C9 fuel listed L (Ak E H S) i:=
 Take.Ka aa (by simp [Dx,ab]) hw fun ρ V=>by
  rw [P7,V x _ ae,V y _ ag]
  exact W7 Z ht ah hb ai aj ak al W h
theorem Take.Zj{bk off:Nat}{c:AA}{seg seg' A:Seg}(j:Nat)(K:Au E H S)(O:S[j]? =some seg)(W:seg.Perm ((bk,.cells c e (0,0))::A))(Z:seg'.Perm ((bk,.cells (A4 c off v.cells.toList) e (0,0))::A))(aa:BA P t=some v.cells.size)
  (ab:ops[i]? =some ⟨d,.store t x y,ty,p,af,g⟩) (hw:Bi L ops ⟨d,.store t x y,ty,p,af,g⟩=some true) (ae:BE n d=true)
  (ag:ev L x=some (.pointer (some ⟨bk,off,none⟩))) (ah:ev L y=some v)
  (hle:off+v.cells.size≤c.size) (ai:∀u∈v.cells.toList,Cx u=true)
  (h:Au E H (S.set j seg')→AV J Q b n ds ops k cs m C9 fuel (Bg listed i) (AF L d undef) (Ak E H (S.set j seg'))):
  Take J Q b n ds ops k cs m C9 fuel listed L (Ak E H S) i:=by
 have aj:=(List.getElem?_eq_some_iff.1 O).1;have key:∀q:Nat×Obj,∀g',g'.Perm (q::A)→(S.set j A++ [[q]]).flatten.Perm (S.set j g').flatten:=fun q g' hg=>by
  have:=L2 (B:= []) (seg':= []) (S:=S.set j g') (j:=j) (seg:=g') (A:=A) (q:=q) (by rw [List.getElem?_set_self aj]) hg;rw [List.set_set] at this;exact this.symm
 have U:=L2 (B:= []) (seg':= []) (S:=S) (j:=j) (seg:=seg) (A:=A) (q:=(bk,.cells c e (0,0))) O W;have ak:=EX K U;have al:Au E H (S.set j A++ [[(bk,.cells c e (0,0))]]):=Nd.perm K U;have am:Ak E H S=Ak E H (S.set j A++ [[(bk,.cells c e (0,0))]]):=ak;rw [am];have hlen:(S.set j A++ [[(bk,Obj.cells c e (0,0))]])[(S.set j A).length]? =some [(bk,.cells c e (0,0))]:=by simp
 refine Take.Ya (S.set j A).length al ab hw ae ag ah aa ai hlen hle fun V=>?_;rw [GD] at V ⊢;exact AV.perm (key _ _ Z) V h
theorem Take.OV{α:Type}{pp:Rp α}{c bk O ci:Nat}{a U ae:Ao}{f:AA}{V r0 g2 r:Seg}{Z:List (List α)}{K:Int}{xs ys:List α}(j W:Nat)(ag:Au E H S)(aa:Hw e e2 pp E a c bk f ae ci V r0 g2 Z K xs)(ah:OL e2 pp E U O r ys)(ab:S[j]? =some ((bk,.cells f e (0,0))::(V++r0++g2)))(ai:j≠W)(aj:S[W]? =some r)
  (ak:BA P t=some 1) (al:ops[i]? =some ⟨d,.store t x y,ty,p,af,g⟩) (hw:Bi L ops ⟨d,.store t x y,ty,p,af,g⟩=some true) (am:BE n d=true) (an:ev L x=some (.pointer (some ⟨bk,K.toNat*1,none⟩))) (ao:ev L y=some (.slice U ys.length O))
  (h:∀g',CF e e2 pp E a c g' (Z.set K.toNat ys)→Au E H ((S.set j g').set W r0)→AV J Q b n ds ops k cs m C9 fuel (Bg listed i) (AF L d undef) (Ak E H ((S.set j g').set W r0))):
  Take J Q b n ds ops k cs m C9 fuel listed L (Ak E H S) i:=by
 have ap:=(List.getElem?_eq_some_iff.1 ab).1;refine Take.Zj (v:= .slice U ys.length O) (c:=f) (e:=e) (off:=K.toNat*1) (A:=V++r0++g2) (seg':=(bk,.cells (A4 f (K.toNat*1) [.slice U ys.length O]) e (0,0))::(V++r0++g2)) j ag ab (List.Perm.refl _) (List.Perm.refl _) ak al hw am an ao aa.sz (by simp [Value.cells,Cx]) fun aq=>?_;refine AV.perm (VX (g':=(bk,.cells (A4 f (K.toNat*1) [.slice U ys.length O]) e (0,0))::(V++r++g2)) (r:=r) (r0:=r0) ap ai aj QY) aq fun ar=>?_;exact h _ (aa.put _ _ _ _ _ (Le.refl _) ah) ar
end
end Pal
namespace Pal
open Go Go.Conc Go.Proofs
open Go.Proofs.Tryz
theorem Zd:Ta Tryz.prog 81:=⟨_,_,underlying81,by decide+kernel,by decide+kernel,by decide,by decide,underlying3,underlying3,rfl,rfl⟩
def KX(fuel:Nat)(O:(A6)×(BZ))(K:(List (List Int))×(List (List Bool))×Int):Option (Bn ((List (List Int))×(List (List Bool))×Int) ((List (List Int))×(List (List Bool)))):= if K.2.2≤(O.1.length:Int) then((Eg (O.1.length:Int) (0:Int)).bind fun U=> (Eg 13 (false:Bool)).bind fun V=> (ix K.1 K.2.2).bind fun Z=> (ix K.2.1 K.2.2).bind fun aa=> (Av (K.2.2+1)).bind fun W=> some (.more ((K.1.set (Int.toNat K.2.2) U),(K.2.1.set (Int.toNat K.2.2) V),W))) else(some (.done (K.1,K.2.1)))
def KZ(fuel:Nat)(O:(List Bool)×Int×Bool)(K:(List (List Int))×Int):Option (Bn ((List (List Int))×Int) ((List (List Int)))):= if K.2<(O.1.length:Int) then((ix O.1 K.2).bind fun V=> Option.bind (if V=true then((ix K.1 O.2.1).bind fun U=> (ix U K.2).bind fun W=> (Av (W+1)).bind fun Z=> some (K.1.set (Int.toNat O.2.1) (U.set (Int.toNat K.2) Z))) else(some K.1)) fun aa=> (Av (K.2+1)).bind fun ab=> some (.more (aa,ab))) else(some (.done K.1))
def Lc(fuel:Nat)(aa:(Bz)×(BZ))(ab:(A6)×(BZ))(V:(List (Int×(List Int))))(K:(List Int)×(List Int)×(List (List Int))×(List (List Bool))×Int):Option (Bn ((List Int)×(List Int)×(List (List Int))×(List (List Bool))×Int) ((List Int)×(List Int)×(List (List Int))×(List (List Bool)))):= if K.2.2.2.2<(V.length:Int) then(Option.bind ((ix V K.2.2.2.2).bind fun ae=> (f54 fuel aa.1 ab.1 ae.2).bind fun O=> if(!O.2.2)=true then(some (K.1,K.2.1,K.2.2.1,K.2.2.2.1)) else((ix K.1 O.2.1).bind fun ag=> Option.bind (if ag=0 then((ix K.2.1 O.2.1).bind fun am=> some (K.2.1.set (Int.toNat O.2.1) K.2.2.2.2)) else(some K.2.1)) fun ah=> (ix K.1 O.2.1).bind fun ai=> (Av (ai+1)).bind fun aj=> (ix K.1 O.2.1).bind fun an=> (ix K.2.2.2.1 O.2.1).bind fun W=> (ix V K.2.2.2.2).bind fun Z=> (ix W Z.1).bind fun ao=> Option.bind (iter (KZ fuel O) fuel (K.2.2.1,0)) fun ak=> some ((K.1.set (Int.toNat O.2.1) aj),ah,ak,(K.2.2.2.1.set (Int.toNat O.2.1) (W.set (Int.toNat Z.1) true))))) fun U=> (Av (K.2.2.2.2+1)).bind fun al=> some (.more (U.1,U.2.1,U.2.2.1,U.2.2.2,al))) else(some (.done (K.1,K.2.1,K.2.2.1,K.2.2.2.1)))
def K8(fuel:Nat)(O:(List Int)×(List Int)×(List (List Int))×(List (List Bool)))(K:Int):Option (Bn Int Int):= Option.bind (if K<(O.1.length:Int) then((ix O.1 K).bind fun U=> some (decide (U=0))) else(some false)) fun V=> if V=true then((Av (K+1)).bind fun W=> some (.more W)) else(some (.done K))
def M7(fuel:Nat)(Z:(Bz)×(BZ))(V:(A6)×(BZ))(O:(List Int)×(List Int)×(List (List Int))×(List (List Bool)))(U:Int)(K:Int):Option (Bn Int ((Bool)⊕(Unit))):= if K<(V.1.length:Int) then((ix O.2.2.1 U).bind fun aa=> (ix aa K).bind fun ab=> Option.bind (if ab=0 then(some 2) else((ix O.2.2.1 U).bind fun ae=> (ix ae K).bind fun ag=> (ix O.1 U).bind fun ah=> Option.bind (if ag=ah then(some 1) else(some 3)) fun ai=> some ai)) fun aj=> (f49 fuel Z.1 V.1 K).bind fun W=> Option.bind (if W.2≠0 then(some true) else(some (decide (W.1≠aj)))) fun ak=> if ak=true then(some (.done (Sum.inl false))) else((Av (K+1)).bind fun al=> some (.more al))) else(some (.done (Sum.inr ())))
def Lf(fuel:Nat)(U:(List Int)×(List Int)×(List (List Int))×(List (List Bool)))(V:(List Bool)×Int)(K:(List Int)×(List Bool)×Int):Option (Bn ((List Int)×(List Bool)×Int) ((List Int)×(List Bool))):= if K.2.2≤12 then((ix K.2.1 K.2.2).bind fun W=> Option.bind (if W=true then(some true) else((ix U.2.2.2 V.2).bind fun Z=> (ix Z K.2.2).bind fun aa=> some aa)) fun O=> (ix K.2.1 K.2.2).bind fun ai=> (ix (K.2.1.set (Int.toNat K.2.2) O) K.2.2).bind fun ab=> Option.bind (if ab=true then((room K.1 K.2.2).bind fun ae=> some ae) else(some K.1)) fun ag=> (Av (K.2.2+1)).bind fun ah=> some (.more (ag,(K.2.1.set (Int.toNat K.2.2) O),ah))) else(some (.done (K.1,K.2.1)))
def MM(fuel:Nat)(Z:(Bz)×(BZ))(V:(A6)×(BZ))(aa:(List Int)×(List Int)×(List (List Int))×(List (List Bool)))(ab:Int)(K:(List Bool)×Int):Option (Bn ((List Bool)×Int) ((Bool)⊕(Unit))):= if K.2≤(V.1.length:Int) then(Option.bind (iter (Lf fuel aa K) fuel ([],K.1,0)) fun O=> (f43 fuel Z.1 V.1 K.2).bind fun U=> (f32 fuel U.1 O.1).bind fun ae=> Option.bind (if(!ae)=true then(some true) else(some ((decide (U.2=0)) != (decide (0<(O.1.length:Int)))))) fun ag=> Option.bind (if ag=true then(some true) else(if U.2≠0 then(some (decide (U.2≠11))) else(some false))) fun ah=> if ah=true then(some (.done (Sum.inl false))) else(Option.bind (if K.2=ab then((f61 fuel Z.1 V.1).bind fun W=> Option.bind (if W.2≠0 then(some true) else((ix O.1 (0)).bind fun ai=> (Av ((O.1.length:Int) - 1)).bind fun aj=> (ix O.1 aj).bind fun ak=> some (decide (¬(W.1.1=ai∧W.1.2=ak))))) fun al=> if al=true then(some (Sum.inl false)) else(some (Sum.inr ()))) else(some (Sum.inr ()))) fun am=>Sum.elim (fun r=>some (.done (Sum.inl r))) (fun ao=> (Av (K.2+1)).bind fun an=> some (.more (O.2,an))) am)) else(some (.done (Sum.inr ())))
def f17(fuel:Nat)(p0:List Int):Option Bool:= (f23 fuel p0).bind fun ag=> (f39 fuel ag 6).bind fun O=> (f40 fuel O.2 O.1 4).bind fun K=> (f52 fuel K.1).bind fun ah=> (f55 fuel O.1 ah).bind fun ab=> (Av ((K.1.length:Int)+1)).bind fun ai=> (Eg ai (0:Int)).bind fun aj=> (Av ((K.1.length:Int)+1)).bind fun ak=> (Eg ak (0:Int)).bind fun al=> (Av ((K.1.length:Int)+1)).bind fun am=> (Eg am ([]:List Int)).bind fun an=> (Av ((K.1.length:Int)+1)).bind fun ao=> (Eg ao ([]:List Bool)).bind fun ap=> Option.bind (iter (KX fuel K) fuel (an,ap,0)) fun ae=> Option.bind (iter (Lc fuel O K ab) fuel (aj,al,ae.1,ae.2,0)) fun U=> Option.bind (iter (K8 fuel U) fuel 0) fun V=> (f47 fuel O.1 K.1).bind fun Z=> (f28 fuel O.1 K.1).bind fun aa=> (f30 fuel O.1 K.1).bind fun W=> if V=(U.1.length:Int) then(Option.bind (if Z.2=11 then(some (decide (W.2.2=Z.2))) else(some false)) fun aq=> Option.bind (if aq=true then(some (decide (aa.2=0))) else(some false)) fun ar=> Option.bind (if ar=true then(some (decide (aa.1=0))) else(some false)) fun au=> Option.bind (if au=true then(some (decide ((W.2.1.length:Int)=0))) else(some false)) fun av=> Option.bind (if av=true then((f22 fuel).bind fun aw=> some aw) else(some false)) fun ay=> some ay) else(Option.bind (if Z.2≠0 then(some true) else(some (decide (aa.2≠0)))) fun az=> Option.bind (if az=true then(some true) else(some (decide (W.2.2≠0)))) fun aA=> Option.bind (if aA=true then(some true) else(some (decide (Z.1≠V)))) fun aB=> Option.bind (if aB=true then(some true) else((ix U.1 V).bind fun aC=> some (decide (aa.1≠aC)))) fun aD=> Option.bind (if aD=true then(some true) else((ix U.2.1 V).bind fun aE=> (ix ab aE).bind fun aF=> some (decide (W.1≠aF.1)))) fun aG=> Option.bind (if aG=true then(some true) else((ix U.2.1 V).bind fun aH=> (ix ab aH).bind fun aI=> (f32 fuel W.2.1 aI.2).bind fun aJ=> some (!aJ))) fun aK=> if aK=true then(some false) else(Option.bind (iter (M7 fuel O K U V) fuel 0) fun aL=> Sum.elim (fun r=>some r) (fun aP=> (Eg 13 (false:Bool)).bind fun aM=> Option.bind (iter (MM fuel O K U V) fuel (aM,0)) fun aN=> Sum.elim (fun r=>some r) (fun aQ=> (f22 fuel).bind fun aO=> some aO) aN) aL))
set_option maxHeartbeats 4000000 in
theorem Wt{E H:LH}{eI:Ao}{c2:Nat}{p0:List Int}(g7:Ap rI E eI c2 p0){fuel:Nat}{r:Bool}(eJ:f17 fuel p0=some r):(DR Tryz.prog).ok (KT Tryz.prog (fun v _=>v= .bool r)) (G (Frame.enter Tryz.prog 17 ([sV eI p0 c2]:Lv_).toArray .normal) []) (mk E H []):=by
 refine Uw func17 rfl rfl (Nat.le_of_ble_eq_true rfl) ?_;have g8:Au E H [[]]:=trivial;unfold f17 at eJ;obtain⟨r2,g9,ha⟩:=bs eJ;refine zg 7 rfl (BR (Y1 g7 g9) rfl rfl (A3 func23 rfl) g8 ?_);rintro _ r3 _ r4 ⟨r5,r6,r7,rfl,rfl,hb⟩ hc;obtain⟨cu,he,hf⟩:=bs ha;refine zg 5 rfl (B8 1 (YT hb he) rfl rfl (A3 func39 rfl) hc rfl ?_);rintro _ r8 _ r9 ⟨eK,eL,eM,eN,sa,sb,rfl,rfl,bj,bl,hj⟩ hk;refine CN hk Kk fun ab hl=>?_;refine BT 2 hl B4 fun hm=>?_;refine Dr 2 hm rfl fun sc aE bm hn=>zg 4 rfl (Cf bm Cs B4 rfl rfl ?_);obtain⟨O,ho,hp⟩:=bs hf;refine B8 1 (YN (hj.Ai aE) (bj.Ai aE) (bl.Ai aE) ho) rfl rfl (A3 func40 rfl) hn rfl ?_;rintro _ sd _ aw ⟨Z,aa,se,sf,rfl,rfl,bx,sg⟩ hq;refine zg 3 rfl (DC 3 fun ht=>?_);refine HU 0 ht (bm.Ai aw) Cs B4 rfl rfl rfl (Cz 1 ht rfl rfl ?_);obtain⟨si,hr,hu⟩:=bs hp;refine JG.call (i:=2) (vs:= [sV Z O.1 aa]) (Y5 bx hr) (by decide+kernel) rfl rfl rfl (A3 func52 rfl) rfl hq ?_;rintro _ sj _ ai ⟨rfl,rfl⟩ hv;refine Cg [3,4] ?_;obtain⟨ah,hw,hx⟩:=bs hu;refine BR (YX (bj.Ai ((aE.Ab aw).Ab ai)) (bl.Ai ((aE.Ab aw).Ab ai)) hw) rfl rfl (A3 func55 rfl) hv ?_;rintro _ dy _ am ⟨aj,ak,rfl,rfl,cv⟩ hy;refine zg 5 rfl (Bo underlying25 rfl rfl rfl ?_);obtain⟨sk,hz,hA⟩:=bs hx;refine A9 hz rfl rfl rfl ?_;obtain⟨aM,hB,hC⟩:=bs hA;refine JS.make (pp:=rI) hB rfl rfl rfl rfl rfl underlying28 AN (Cu type3) (by decide) Cp (by decide) rfl hy fun bn dz hD hE=>zg 5 rfl (Bo underlying25 rfl rfl rfl ?_);obtain⟨so,hF,hG⟩:=bs hC;refine A9 hF rfl rfl rfl ?_;obtain⟨aN,hH,hI⟩:=bs hG;refine JS.make (pp:=rI) hH rfl rfl rfl rfl rfl underlying28 AN (Cu type3) (by decide) Cp (by decide) rfl hE fun bo dA hJ hK=>zg 5 rfl (Bo underlying25 rfl rfl rfl ?_);obtain⟨sp,hL,hM⟩:=bs hI;refine A9 hL rfl rfl rfl ?_;obtain⟨hN,eO,hO⟩:=bs hM;refine JS.make (pp:=(Pp rI)) eO rfl rfl rfl rfl rfl underlying22 BS (Cu type28) (by decide) EK (by decide) (.inl ⟨rfl,rfl⟩) hK fun hP hQ dB hR=>?_;replace dB:=CF.make (e2:=3) eO dB;refine zg 5 rfl (Bo underlying25 rfl rfl rfl ?_);obtain⟨sq,hS,hT⟩:=bs hO;refine A9 hS rfl rfl rfl ?_;obtain⟨hU,eP,hV⟩:=bs hT;refine JS.make (pp:=(Pp rB)) eP rfl rfl rfl rfl rfl underlying73 HG (Cu type68) (by decide) (DZ type68) (by decide) (.inl ⟨rfl,rfl⟩) hR fun hW hX dC hY=>?_;replace dC:=CF.make (e2:=4) eP dC;obtain⟨cw,hZ,h0⟩:=bs hV;refine zg 7 rfl (Bs (fun L s=>∃(bS:LH) (cy:Ao) (cz:Nat) (cA:Seg) (cB:Ao) (cC:Nat) (cD:Seg),Jn dy H bS [dz,dA,cA,cD] [(4,pV ab 0),(5,sV Z O.1 aa),(6,sV aj ah ak),(7,.slice (A2 bn) aM.length aM.length),(8,.slice (A2 bo) aN.length aN.length),(9,sV cy cw.1 cz),(10,sV cB cw.2 cC)] L s (CF 28 3 rI bS cy cz cA cw.1∧CF 68 4 rB bS cB cC cD cw.2)) ?_ ?_)
 ·rintro _ _ ⟨bS,cy,cz,cA,cB,cC,cD,rfl,rfl,ae,h1,h2,h3⟩;obtain⟨U,h4,h5⟩:=bs h0;refine zg 5 rfl (Bs (fun L s=>∃(b3:LH) (aQ:Ao) (aR:Nat) (aS:Seg) (a9:Ao) (ba:Nat) (bb:Seg) (aT:Ao) (aU:Nat) (aV:Seg) (ao:Ao) (ap:Nat) (aq:Seg),Jn bS H b3 [aS,bb,aV,aq] [(4,pV ab 0),(5,sV Z O.1 aa),(6,sV aj ah ak),(7,sV aQ U.1 aR),(8,sV a9 U.2.1 ba),(9,sV aT U.2.2.1 aU),(10,sV ao U.2.2.2 ap)] L s (OL 3 rI b3 aQ aR aS U.1∧OL 3 rI b3 a9 ba bb U.2.1∧CF 28 3 rI b3 aT aU aV U.2.2.1∧CF 68 4 rB b3 ao ap aq U.2.2.2)) ?_ ?_)
  ·rintro _ _ ⟨b3,aQ,aR,aS,a9,ba,bb,aT,aU,aV,ao,ap,aq,rfl,rfl,ar,h6,dD,eQ,eR,h7⟩;obtain⟨au,h8,h9⟩:=bs h5;refine zg 5 rfl (CM [aS,bb,aV,aq] [(4,pV ab 0),(5,sV Z O.1 aa),(6,sV aj ah ak),(7,sV aQ U.1 aR),(8,sV a9 U.2.1 ba),(9,sV aT U.2.2.1 aU),(10,sV ao U.2.2.2 ap),(17,iV au)] (fun sr ag ia=>?_) (fun ic=>?_))
   ·refine zg 2 rfl (Cf (bm.Ai (((((aw.Ab ai).Ab am).Ab ae).Ab ar).Ab ag)) Cs B4 rfl rfl ?_);obtain⟨eS,ie,ig⟩:=bs h9;refine zg 1 rfl (BJ (Y6 (bj.Ai ((((((aE.Ab aw).Ab ai).Ab am).Ab ae).Ab ar).Ab ag)) (bl.Ai ((((((aE.Ab aw).Ab ai).Ab am).Ab ae).Ab ar).Ab ag)) (bx.Ai ((((ai.Ab am).Ab ae).Ab ar).Ab ag)) ie) rfl rfl (A3 func47 rfl) ia fun ss al ih=>?_);refine zg 8 rfl (Cf (bm.Ai ((((((aw.Ab ai).Ab am).Ab ae).Ab ar).Ab ag).Ab al)) Cs B4 rfl rfl ?_);obtain⟨b4,ii,ij⟩:=bs ig;refine zg 1 rfl (BJ (SY (bj.Ai (((((((aE.Ab aw).Ab ai).Ab am).Ab ae).Ab ar).Ab ag).Ab al)) (bl.Ai (((((((aE.Ab aw).Ab ai).Ab am).Ab ae).Ab ar).Ab ag).Ab al)) (bx.Ai (((((ai.Ab am).Ab ae).Ab ar).Ab ag).Ab al)) ii) rfl rfl (A3 func28 rfl) ih fun st av ik=>?_);refine zg 8 rfl (Cf (bm.Ai (((((((aw.Ab ai).Ab am).Ab ae).Ab ar).Ab ag).Ab al).Ab av)) Cs B4 rfl rfl ?_);obtain⟨a3,il,io⟩:=bs ij;refine zg 1 rfl (BR (SN (bj.Ai ((((((((aE.Ab aw).Ab ai).Ab am).Ab ae).Ab ar).Ab ag).Ab al).Ab av)) (bl.Ai ((((((((aE.Ab aw).Ab ai).Ab am).Ab ae).Ab ar).Ab ag).Ab al).Ab av)) (bx.Ai ((((((ai.Ab am).Ab ae).Ab ar).Ab ag).Ab al).Ab av)) il) rfl rfl (A3 func30 rfl) ik ?_);rintro _ su _ aB ⟨bz,bA,rfl,rfl,iq⟩ cE;refine zg 13 rfl (Bo underlying28 rfl rfl rfl ?_);refine zg 2 rfl (AM io (fun ir it=>?_) (fun ir iu=>?_))
    ·obtain⟨iv,iw,iy⟩:=bs it;refine zg 5 rfl (CS 7 17 [] [(20,iV b4.1),(21,iV b4.2),(23,sV bz a3.2.1 bA),(186,.bool iv)] (fun sv sx eT=>?_) (fun eU=>?_))
     ·obtain⟨iz,iA,iB⟩:=bs iy;refine zg 1 rfl (CS 11 13 [] [(20,iV b4.1),(23,sV bz a3.2.1 bA),(190,.bool iz)] (fun sy sB eV=>?_) (fun eW=>?_))
      ·obtain⟨iC,iD,iE⟩:=bs iB;refine zg 1 rfl (CS 15 9 [] [(23,sV bz a3.2.1 bA),(194,.bool iC)] (fun sC sD eX=>?_) (fun eY=>?_))
       ·obtain⟨iF,iG,iH⟩:=bs iE;refine zg 1 rfl (CS 20 4 [] [(199,.bool iF)] (fun sE sF eZ=>?_) (fun e0=>?_))
        ·obtain⟨e1,iI,iJ⟩:=bs iH;refine zg 1 rfl (CS 23 1 [] [(202,.bool e1)] (fun sG sH sI=>?_) (fun e3=>?_))
         ·refine zg 2 rfl ?_;obtain rfl:=oi iJ;exact Gn rfl (JO.end (v:= .bool e1) rfl (by decide+kernel) func17 rfl rfl rfl)
         ·refine C8 200 iI (fun iK iL=>?_) (fun iK iM=>?_)
          ·obtain⟨sJ,iN,iO⟩:=bs iL;refine BJ (SR iN) rfl rfl (A3 func22 rfl) eZ fun sK iP iQ=>zg 1 rfl ?_;obtain rfl:=oi iO;exact e3 iP iQ rfl
          ·refine zg 2 rfl ?_;obtain rfl:=oi iM;exact e3 Aq eZ rfl
        ·refine C8 195 iG (fun iR iS=>?_) (fun iR iT=>?_)
         ·refine zg 1 rfl (Bo underlying28 rfl rfl rfl ?_);refine zg 2 rfl ?_;obtain rfl:=oi iS;exact e0 Aq eX rfl
         ·refine zg 4 rfl ?_;obtain rfl:=oi iT;exact e0 Aq eX rfl
       ·refine C8 191 iD (fun iU iW=>?_) (fun iU iX=>?_)
        ·refine zg 3 rfl ?_;obtain rfl:=oi iW;exact eY Aq eV rfl
        ·refine zg 3 rfl ?_;obtain rfl:=oi iX;exact eY Aq eV rfl
      ·refine C8 187 iA (fun iY iZ=>?_) (fun iY i0=>?_)
       ·refine zg 3 rfl ?_;obtain rfl:=oi iZ;exact eW Aq eT rfl
       ·refine zg 3 rfl ?_;obtain rfl:=oi i0;exact eW Aq eT rfl
     ·refine EE 182 iw (fun i1 i3=>?_) (fun i1 i4=>?_)
      ·refine zg 4 rfl (JS.drop 0 cE rfl fun i5=>?_);refine JS.drop 1 i5 rfl fun i6=>JS.drop 2 i6 rfl fun i7=>JS.drop 3 i7 rfl fun i8=>?_;obtain rfl:=oi i3;exact eU Aq i8 rfl
      ·refine zg 4 rfl (JS.drop 0 cE rfl fun i9=>?_);refine JS.drop 1 i9 rfl fun ja=>JS.drop 2 ja rfl fun jb=>JS.drop 3 jb rfl fun jc=>?_;obtain rfl:=oi i4;exact eU Aq jc rfl
    ·obtain⟨jd,je,jf⟩:=bs iu;refine zg 7 rfl (CS 6 42 [aS,bb,aV,aq] [(4,pV ab 0),(5,sV Z O.1 aa),(6,sV aj ah ak),(7,sV aQ U.1 aR),(8,sV a9 U.2.1 ba),(9,sV aT U.2.2.1 aU),(10,sV ao U.2.2.2 ap),(17,iV au),(18,iV eS.1),(20,iV b4.1),(22,iV a3.1),(23,sV bz a3.2.1 bA),(24,iV a3.2.2),(208,.bool jd)] (fun sL ay e4=>?_) (fun e5=>?_))
     ·obtain⟨jg,jh,ji⟩:=bs jf;refine zg 1 rfl (CS 10 38 [aS,bb,aV,aq] [(4,pV ab 0),(5,sV Z O.1 aa),(6,sV aj ah ak),(7,sV aQ U.1 aR),(8,sV a9 U.2.1 ba),(9,sV aT U.2.2.1 aU),(10,sV ao U.2.2.2 ap),(17,iV au),(18,iV eS.1),(20,iV b4.1),(22,iV a3.1),(23,sV bz a3.2.1 bA),(212,.bool jg)] (fun sM az e6=>?_) (fun e7=>?_))
      ·obtain⟨jj,jk,jl⟩:=bs ji;refine zg 1 rfl (CS 15 33 [aS,bb,aV,aq] [(4,pV ab 0),(5,sV Z O.1 aa),(6,sV aj ah ak),(7,sV aQ U.1 aR),(8,sV a9 U.2.1 ba),(9,sV aT U.2.2.1 aU),(10,sV ao U.2.2.2 ap),(17,iV au),(20,iV b4.1),(22,iV a3.1),(23,sV bz a3.2.1 bA),(217,.bool jj)] (fun sN aA dE=>?_) (fun e8=>?_))
       ·obtain⟨jm,jo,jq⟩:=bs jl;refine zg 1 rfl (CS 23 25 [aS,bb,aV,aq] [(4,pV ab 0),(5,sV Z O.1 aa),(6,sV aj ah ak),(7,sV aQ U.1 aR),(8,sV a9 U.2.1 ba),(9,sV aT U.2.2.1 aU),(10,sV ao U.2.2.2 ap),(17,iV au),(22,iV a3.1),(23,sV bz a3.2.1 bA),(225,.bool jm)] (fun sO aC dF=>?_) (fun e9=>?_))
        ·obtain⟨jr,js,jt⟩:=bs jq;refine zg 1 rfl (CS 35 13 [aS,bb,aV,aq] [(4,pV ab 0),(5,sV Z O.1 aa),(6,sV aj ah ak),(7,sV aQ U.1 aR),(8,sV a9 U.2.1 ba),(9,sV aT U.2.2.1 aU),(10,sV ao U.2.2.2 ap),(17,iV au),(23,sV bz a3.2.1 bA),(237,.bool jr)] (fun fa aF dG=>?_) (fun fb=>?_))
         ·obtain⟨ju,jv,jw⟩:=bs jt;refine zg 1 rfl (FP [] (fun L s=>∃(dH:LH),Jm fa H dH [aS,aV,aq] [(4,pV ab 0),(5,sV Z O.1 aa),(7,sV aQ U.1 aR),(9,sV aT U.2.2.1 aU),(10,sV ao U.2.2.2 ap),(17,iV au),(250,.bool ju)] L s) ?_ ?_)
          ·rintro _ _ ⟨dH,rfl,rfl,aW,fc⟩;refine JL.done (BK jw (fun jx jy=>?_) (fun jx jz=>?_))
           ·refine zg 4 rfl (JS.drop 0 fc rfl fun jA=>?_);refine JS.drop 1 jA rfl fun jB=>JS.drop 2 jB rfl fun sP=>?_;obtain rfl:=oi jy;exact Gn rfl (JO.end (v:= .bool false) rfl (by decide+kernel) func17 rfl rfl rfl)
           ·obtain⟨fd,jC,fe⟩:=bs jz;refine zg 6 rfl (Bs (fun L s=>∃(ff:Unit) (cc:LH),fd=Sum.inr ff∧Jm dH H cc [aq] [(4,pV ab 0),(5,sV Z O.1 aa),(10,sV ao U.2.2.2 ap),(17,iV au)] L s) ?_ ?_)
            ·rintro _ _ ⟨ff,cc,rfl,rfl,rfl,bp,jD⟩;have jE:=elim_inr fe;obtain⟨jF,jG,jH⟩:=bs jE;refine zg 6 rfl (JS.make (pp:=rB) jG rfl rfl rfl rfl rfl underlying68 Ef (Cu type4) (by decide) IM (by decide) rfl jD fun jI jJ jK jL=>?_);obtain⟨fg,jM,dI⟩:=bs jH;refine zg 7 rfl (Bs (fun L s=>∃(fh:Unit) (fj:LH),fg=Sum.inr fh∧Jm cc H fj [] [] L s) ?_ ?_)
             ·rintro _ _ ⟨fh,fj,rfl,rfl,rfl,sQ,jN⟩;have jO:=elim_inr dI;obtain⟨jP,jQ,jR⟩:=bs jO;refine zg 2 rfl (BJ (SR jQ) rfl rfl (A3 func22 rfl) jN fun sR sS sT=>?_);refine zg 2 rfl ?_;obtain rfl:=oi jR;exact Gn rfl (JO.end (v:= .bool jP) rfl (by decide+kernel) func17 rfl rfl rfl)
             ·intro jS;refine JL.block (CE jM (fun L s a1=>∃(bT:LH) (cF:Ao) (cG:Nat) (cH:Seg),Jn cc H bT [aq,cH] [(4,pV ab 0),(5,sV Z O.1 aa),(10,sV ao U.2.2.2 ap),(17,iV au),(30,sV cF a1.1 cG),(31,iV a1.2)] L s (OL 4 rB bT cF cG cH a1.1)) ⟨cc,(A2 jI),jF.length,jJ,rfl,rfl,Aq,jL,jK⟩ ?_);rintro _ _ a1 ⟨bT,cF,cG,cH,rfl,rfl,bc,fk,jT⟩ dJ ⟨sU,cd⟩ jU;have fm:=cd;unfold MM at fm;refine zg 5 rfl (Bo underlying25 rfl rfl rfl ?_);refine zg 2 rfl (AM fm (fun jV jW=>?_) (fun jV jX=>?_))
              ·obtain⟨a4,jY,jZ⟩:=bs jW;refine zg 12 rfl (Bs (fun L s=>∃(cI:LH) (ce:Ao) (cf:Nat) (dK:Seg) (bB:Ao) (bC:Nat) (bD:Seg),Jn bT H cI [aq,dK,bD] [(4,pV ab 0),(5,sV Z O.1 aa),(10,sV ao U.2.2.2 ap),(17,iV au),(29,sV ce a4.1 cf),(30,sV bB a4.2 bC),(31,iV a1.2)] L s (OL 3 rI cI ce cf dK a4.1∧OL 4 rB cI bB bC bD a4.2)) ?_ ?_)
               ·rintro _ _ ⟨cI,ce,cf,dK,bB,bC,bD,rfl,rfl,bq,j0,j1,j2⟩;refine zg 2 rfl (Cf (bm.Ai (((((((((((((((((aw.Ab ai).Ab am).Ab ae).Ab ar).Ab ag).Ab al).Ab av).Ab aB).Ab ay).Ab az).Ab aA).Ab aC).Ab aF).Ab aW).Ab bp).Ab bc).Ab bq)) Cs B4 rfl rfl ?_);obtain⟨fo,j3,j4⟩:=bs jZ;refine zg 2 rfl (BR (S4 (bj.Ai ((((((((((((((((((aE.Ab aw).Ab ai).Ab am).Ab ae).Ab ar).Ab ag).Ab al).Ab av).Ab aB).Ab ay).Ab az).Ab aA).Ab aC).Ab aF).Ab aW).Ab bp).Ab bc).Ab bq)) (bl.Ai ((((((((((((((((((aE.Ab aw).Ab ai).Ab am).Ab ae).Ab ar).Ab ag).Ab al).Ab av).Ab aB).Ab ay).Ab az).Ab aA).Ab aC).Ab aF).Ab aW).Ab bp).Ab bc).Ab bq)) (bx.Ai ((((((((((((((((ai.Ab am).Ab ae).Ab ar).Ab ag).Ab al).Ab av).Ab aB).Ab ay).Ab az).Ab aA).Ab aC).Ab aF).Ab aW).Ab bp).Ab bc).Ab bq)) j3) rfl rfl (A3 func43 rfl) j0 ?_);rintro _ sW _ bU ⟨sX,sY,rfl,rfl,j5⟩ j6;refine zg 11 rfl (Cc 1 (j1.Ai bU) j6 rfl fun sZ bV dL j7=>?_);obtain⟨j8,j9,ka⟩:=bs j4;refine BJ (Lg (j5.Ai bV) dL j9) rfl rfl Kh j7 fun s0 bE fp=>Ay (v:= .bool (!j8)) rfl (fun ρ h=>Yl.not (h _ _ rfl)) ?_;obtain⟨kb,kc,ke⟩:=bs ka;refine zg 1 rfl (CS 12 8 [aq,bD] [(4,pV ab 0),(5,sV Z O.1 aa),(10,sV ao U.2.2.2 ap),(17,iV au),(29,sV ce a4.1 cf),(30,sV bB a4.2 bC),(31,iV a1.2),(34,iV fo.2),(344,.bool kb)] (fun cJ bF dM=>?_) (fun fq=>?_))
                ·obtain⟨kf,kg,kh⟩:=bs ke;refine zg 1 rfl (FP [] (fun L s=>∃(cK:LH),Jm cJ H cK [aq,bD] [(4,pV ab 0),(5,sV Z O.1 aa),(10,sV ao U.2.2.2 ap),(17,iV au),(29,sV ce a4.1 cf),(30,sV bB a4.2 bC),(31,iV a1.2),(352,.bool kf)] L s) ?_ ?_)
                 ·rintro _ _ ⟨cK,rfl,rfl,bG,dN⟩;refine JL.done (BK kh (fun ki kj=>?_) (fun ki kl=>?_))
                  ·refine zg 4 rfl (JS.drop 0 dN rfl fun km=>?_);refine JS.drop 1 km rfl fun s1=>?_;obtain rfl:=oi kj;obtain rfl:=dJ _ cd;have kn:=elim_inl dI;obtain rfl:=oi kn;exact Gn rfl (JO.end (v:= .bool false) rfl (by decide+kernel) func17 rfl rfl rfl)
                  ·obtain⟨ko,kp,fu⟩:=bs kl;refine zg 7 rfl (Bs (fun L s=>∃(fv:Unit) (dO:LH),ko=Sum.inr fv∧Jm cK H dO [aq,bD] [(4,pV ab 0),(5,sV Z O.1 aa),(10,sV ao U.2.2.2 ap),(17,iV au),(30,sV bB a4.2 bC),(31,iV a1.2)] L s) ?_ ?_)
                   ·rintro _ _ ⟨fv,dO,rfl,rfl,rfl,fw,kq⟩;have kr:=elim_inr fu;obtain⟨ks,kt,ku⟩:=bs kr;refine zg 3 rfl (A9 kt rfl rfl rfl ?_);refine zg 2 rfl ?_;obtain rfl:=oi ku;exact Aw (jU _ _ (a4.2,ks) ⟨dO,bB,bC,bD,rfl,rfl,(((((((bc.Ab bq).Ab bU).Ab bV).Ab bE).Ab bF).Ab bG).Ab fw),kq,(j2.Ai (((((bU.Ab bV).Ab bE).Ab bF).Ab bG).Ab fw))⟩ cd) rfl
                   ·intro fx;refine AM kp (fun kv kw=>?_) (fun kv kx=>?_)
                    ·refine zg 2 rfl (Cf (bm.Ai ((((((((((((((((((((((aw.Ab ai).Ab am).Ab ae).Ab ar).Ab ag).Ab al).Ab av).Ab aB).Ab ay).Ab az).Ab aA).Ab aC).Ab aF).Ab aW).Ab bp).Ab bc).Ab bq).Ab bU).Ab bV).Ab bE).Ab bF).Ab bG)) Cs B4 rfl rfl ?_);obtain⟨cg,ky,kz⟩:=bs kw;refine zg 1 rfl (BJ (YY (bj.Ai (((((((((((((((((((((((aE.Ab aw).Ab ai).Ab am).Ab ae).Ab ar).Ab ag).Ab al).Ab av).Ab aB).Ab ay).Ab az).Ab aA).Ab aC).Ab aF).Ab aW).Ab bp).Ab bc).Ab bq).Ab bU).Ab bV).Ab bE).Ab bF).Ab bG)) (bl.Ai (((((((((((((((((((((((aE.Ab aw).Ab ai).Ab am).Ab ae).Ab ar).Ab ag).Ab al).Ab av).Ab aB).Ab ay).Ab az).Ab aA).Ab aC).Ab aF).Ab aW).Ab bp).Ab bc).Ab bq).Ab bU).Ab bV).Ab bE).Ab bF).Ab bG)) (bx.Ai (((((((((((((((((((((ai.Ab am).Ab ae).Ab ar).Ab ag).Ab al).Ab av).Ab aB).Ab ay).Ab az).Ab aA).Ab aC).Ab aF).Ab aW).Ab bp).Ab bc).Ab bq).Ab bU).Ab bV).Ab bE).Ab bF).Ab bG)) ky) rfl rfl (A3 func61 rfl) dN fun s2 dP kA=>?_);refine zg 3 rfl (CN kA Kj fun s3 kB=>?_);refine BT 3 kB Jf fun kC=>?_;refine Dr 3 kC rfl fun fy dQ kD fz=>zg 3 rfl (O7 16 fun ht=>?_);refine Bh ht rfl [0,1,2] rfl ?_;obtain⟨kF,fA,kG⟩:=bs kz;refine FR 0 #[true,true,true,true,true,true,true,true,true,true,true,true,true,true,true,true] (fun L s=>L= [(4,pV ab 0),(5,sV Z O.1 aa),(10,sV ao U.2.2.2 ap),(17,iV au),(30,sV bB a4.2 bC),(31,iV a1.2),(377,.bool kF)]∧s=Ak fy H [aq,bD,[],[]]) ?_ ?_
                     ·rintro _ _ ⟨rfl,rfl⟩;refine AV.fin (by decide+kernel) (BK kG (fun kI kJ=>?_) (fun kI kK=>?_))
                      ·refine zg 4 rfl (JS.drop 0 fz rfl fun kL=>?_);refine JS.drop 1 kL rfl fun s4=>?_;obtain rfl:=oi kJ;have kM:=elim_inl fu;obtain rfl:=oi kM;obtain rfl:=dJ _ cd;have kN:=elim_inl dI;obtain rfl:=oi kN;exact Gn rfl (JO.end (v:= .bool false) rfl (by decide+kernel) func17 rfl rfl rfl)
                      ·exact JL.skip (Aw (fx _ _ ⟨(),fy,(Option.some.inj kK).symm,rfl,rfl,(dP.Ab dQ),fz⟩) rfl)
                     ·intro fB;refine FO (q:=cg.2≠0) (i:=364) rfl (fun dR=>?_) (fun dR=>?_)
                      ·have kO:=ip fA dR;refine Bh ht rfl [3,4,5,6,7,8,9,10,11,12,13,14,15] rfl ?_;obtain rfl:=oi kO;refine Dg ?_ (fB _ _ ⟨rfl,rfl⟩);exact⟨rfl,rfl,rfl,rfl,rfl,rfl,rfl,trivial⟩
                      ·have kP:=im fA dR;refine Bw 3 ht rfl rfl (fun ρ h s' hs=>FQ (vs:= [iV cg.1.1,iV cg.1.2]) NH Jf (h _ _ rfl) (XT hs (At.Sb kD))) ?_;refine Cz 4 ht rfl rfl ?_;obtain⟨dS,kQ,kR⟩:=bs kP;refine Ds 5 (dL.Ai ((((bE.Ab bF).Ab bG).Ab dP).Ab dQ)) kQ ht underlying28 AN ?_;rintro s5 s6 _ rfl kS;refine Bw (v:=iV dS) 6 ht rfl rfl (fun ρ h s' hs=>Yl.load Bq (h _ _ rfl) (IA hs (At.Ll (j:=0) kS rfl))) ?_;refine Bh ht rfl [7,8] rfl ?_;refine Bw 9 ht rfl rfl (fun ρ h s' hs=>Yl.len rfl underlying28 (h _ _ rfl)) ?_;obtain⟨s7,kT,kU⟩:=bs kR;refine Bw 10 ht rfl rfl (fun ρ h s' hs=>Dc (h _ _ rfl) (h _ _ rfl) kT) ?_;obtain⟨dT,kV,kW⟩:=bs kU;refine Ds 11 (dL.Ai ((((bE.Ab bF).Ab bG).Ab dP).Ab dQ)) kV ht underlying28 AN ?_;rintro s8 s9 _ rfl kX;refine Bw (v:=iV dT) 12 ht rfl rfl (fun ρ h s' hs=>Yl.load Bq (h _ _ rfl) (IA hs (At.Ll (j:=0) kX rfl))) ?_;refine Bw (v:= .agg #[iV dS,iV dT]) 13 ht rfl rfl (fun ρ h s' hs=>De [(0,1),(1,1)] h Kj underlying81 ⟨rfl,Br type3,rfl,Br type3,trivial⟩ rfl rfl) ?_;refine Bw (v:= .bool (decide (¬(cg.1.1=dS∧cg.1.2=dT)))) 14 ht rfl rfl (fun ρ h s' hs=>Vv Zd (h _ _ rfl) (h _ _ rfl)) ?_;refine Cz 15 ht rfl rfl ?_;obtain rfl:=oi kW;refine Dg ?_ (fB _ _ ⟨rfl,rfl⟩);exact⟨rfl,rfl,rfl,rfl,rfl,rfl,rfl,trivial⟩
                    ·exact JL.skip (Aw (fx _ _ ⟨(),cK,(Option.some.inj kx).symm,rfl,rfl,Aq,dN⟩) rfl)
                 ·intro dU;refine C8 345 kg (fun kY kZ=>?_) (fun kY k0=>?_)
                  ·refine zg 7 rfl ?_;obtain rfl:=oi kZ;exact Aw (dU _ _ ⟨cJ,rfl,rfl,Aq,dM⟩) rfl
                  ·refine zg 3 rfl (EE 348 k0 (fun k1 k2=>?_) (fun k1 k3=>?_))
                   ·refine zg 4 rfl ?_;obtain rfl:=oi k2;exact Aw (dU _ _ ⟨cJ,rfl,rfl,Aq,dM⟩) rfl
                   ·refine zg 4 rfl ?_;obtain rfl:=oi k3;exact Aw (dU _ _ ⟨cJ,rfl,rfl,Aq,dM⟩) rfl
                ·refine C8 337 kc (fun k4 k5=>?_) (fun k4 k6=>?_)
                 ·refine zg 7 rfl ?_;obtain rfl:=oi k5;exact fq Aq fp rfl
                 ·refine zg 3 rfl (Bo underlying28 rfl rfl rfl ?_);refine zg 1 rfl (Ay (v:= .bool (((decide (fo.2=0)) != (decide (0<(a4.1.length:Int)))))) rfl (fun ρ h=>Xe underlying4 (h _ _ rfl) (h _ _ rfl)) ?_);refine zg 1 rfl ?_;obtain rfl:=oi k6;exact fq Aq fp rfl
               ·intro k7;refine JL.block (CE jY (fun L s an=>∃(ci:LH) (bH:Ao) (bI:Nat) (b5:Seg) (bd:Ao) (be:Nat) (ck:Seg),Jn bT H ci [aq,b5,ck] [(4,pV ab 0),(5,sV Z O.1 aa),(10,sV ao U.2.2.2 ap),(17,iV au),(29,sV bH an.1 bI),(30,sV bd an.2.1 be),(31,iV a1.2),(32,iV an.2.2)] L s (OL 3 rI ci bH bI b5 an.1∧OL 4 rB ci bd be ck an.2.1)) ⟨bT,none,0,[],cF,cG,cH,rfl,rfl,Aq,fk,OL.nil,jT⟩ ?_);rintro _ _ an ⟨ci,bH,bI,b5,bd,be,ck,rfl,rfl,dV,b6,dW,dX⟩ k8 ⟨ta,dY⟩ k9;have fC:=dY;unfold Lf at fC;refine zg 6 rfl (AM fC (fun la lb=>?_) (fun la lc=>?_))
                ·obtain⟨ld,lf,lg⟩:=bs lb;refine zg 9 rfl (FU 2 dX lf rfl rfl rfl rfl rfl rfl underlying68 Ef ?_);rintro tb tc td _ lh rfl li te tf tg th;refine Ay (v:= .bool ld) rfl (fun ρ h=>Yl.load Jc (h _ _ rfl) (Db (j:=2) b6 lh (li 0 _ rfl))) ?_;obtain⟨a5,lj,lk⟩:=bs lg;refine zg 1 rfl (CS 15 2 [aq,b5,ck] [(4,pV ab 0),(5,sV Z O.1 aa),(10,sV ao U.2.2.2 ap),(17,iV au),(29,sV bH an.1 bI),(30,sV bd an.2.1 be),(31,iV a1.2),(32,iV an.2.2),(302,sV bd an.2.1 be),(303,iV an.2.2),(316,.bool a5)] (fun dZ cM ll=>?_) (fun fD=>?_))
                 ·obtain⟨ti,lm,ln⟩:=bs lk;refine FU 2 (dX.Ai cM) lm rfl rfl rfl rfl rfl rfl underlying68 Ef ?_;rintro ea cN fE _ lq rfl tj lr ls tk tl;refine JS.store (v:= .bool a5) (off:=cN) 2 rfl rfl rfl ll rfl rfl Ef (by simp [Value.cells,Cx]) lq (by have:=lr;simp only [Rp.n,rK,rN,rB,rP,rL] at this;show _+1≤_;omega) fun eb=>?_;have fF:=ls a5 [.bool a5] rfl;have fG:(an.2.1.set (Int.toNat an.2.2) a5).length=an.2.1.length:=List.length_set;refine Fg (L':= [(4,pV ab 0),(5,.slice Z O.1.length aa),(10,.slice ao U.2.2.2.length ap),(17,iV au),(29,.slice bH an.1.length bI),(30,.slice bd ((an.2.1.set (Int.toNat an.2.2) a5)).length be),(31,iV a1.2),(32,iV an.2.2),(302,.slice bd ((an.2.1.set (Int.toNat an.2.2) a5)).length be),(303,iV an.2.2),(316,.bool a5),(317,pV ea cN)]) ⟨rfl,rfl,rfl,rfl,rfl,by rw [fG];rfl,rfl,rfl,by rw [fG];rfl,rfl,rfl,rfl,trivial⟩ ?_;obtain⟨lu,lw,lx⟩:=bs ln;refine zg 5 rfl (FU 2 fF lw rfl rfl rfl rfl rfl rfl underlying68 Ef ?_);rintro tm tn tp _ ly rfl lz tq ts tt tu;refine Ay (v:= .bool lu) rfl (fun ρ h=>Yl.load Jc (h _ _ rfl) (Db (j:=2) eb ly (lz 0 _ rfl))) ?_;obtain⟨ec,lA,lB⟩:=bs lx;refine JL.done (Bs (fun L s=>∃(cO:LH) (cP:Ao) (cQ:Nat) (cR:Seg),Jn dZ H cO [aq,bX ea (A4 fE cN [.bool a5]) 4,cR] [(4,pV ab 0),(5,sV Z O.1 aa),(10,sV ao U.2.2.2 ap),(17,iV au),(29,sV cP ec cQ),(30,.slice bd ((an.2.1.set (Int.toNat an.2.2) a5)).length be),(31,iV a1.2),(32,iV an.2.2)] L s (OL 3 rI cO cP cQ cR ec)) ?_ ?_)
                  ·rintro _ _ ⟨cO,cP,cQ,cR,rfl,rfl,fH,lC,lD⟩;obtain⟨lE,lF,lG⟩:=bs lB;refine zg 3 rfl (A9 lF rfl rfl rfl ?_);refine zg 2 rfl (JS.swap 1 2 rfl rfl rfl lC fun lH=>?_);obtain rfl:=oi lG;exact Aw (k9 _ _ (ec,(an.2.1.set (Int.toNat an.2.2) a5),lE) ⟨cO,cP,cQ,cR,bd,be,[(ea,.cells (A4 fE cN [.bool a5]) 4 (0,0))],rfl,rfl,((dV.Ab cM).Ab fH),lH,lD,(fF.Ai fH)⟩ dY) rfl
                  ·intro fI;refine BK lA (fun lI lJ=>?_) (fun lI lK=>?_)
                   ·obtain⟨tv,lL,lM⟩:=bs lJ;refine zg 3 rfl (JS.app (pp:=rI) (v:=iV an.2.2) (a:=bH) (c:=bI) 1 lL rfl rfl rfl rfl (fun _=>rfl) rfl (fun _=>rfl) rfl rfl rfl underlying28 underlying28 underlying28 AN (Cu type3) Cp rfl (by decide) (by decide) (by decide) (by decide) (dW.Ai cM) rfl eb rfl fun tx lN lO lP lQ lR=>?_);refine zg 2 rfl (JS.swap 1 2 rfl rfl rfl lR fun lS=>?_);obtain rfl:=oi lM;exact Aw (fI _ _ ⟨dZ,lN,lO,lP,rfl,rfl,Aq,lS,lQ⟩) rfl
                   ·refine JL.skip (JS.swap 1 2 rfl rfl rfl eb fun lT=>?_);obtain rfl:=oi lK;exact Aw (fI _ _ ⟨dZ,bH,bI,b5,rfl,rfl,Aq,lT,(dW.Ai cM)⟩) rfl
                 ·refine C8 308 lj (fun lU lV=>?_) (fun lU lW=>?_)
                  ·refine zg 8 rfl ?_;obtain rfl:=oi lV;exact fD Aq b6 rfl
                  ·obtain⟨lX,fJ,lY⟩:=bs lW;refine zg 2 rfl ?_;obtain⟨lZ,tz,l0,l3,tA,tB,tC,fK,ed⟩:=CF.rowOf (h7.Ai ((((((((((((ag.Ab al).Ab av).Ab aB).Ab ay).Ab az).Ab aA).Ab aC).Ab aF).Ab aW).Ab bp).Ab bc).Ab dV)) fJ;refine Ay (v:= .pointer (some ⟨lZ,Int.toNat (a1.2)*1,none⟩)) rfl (fun ρ h=>Fe ed.ad fJ underlying73 HG (h _ _ rfl) (h _ _ rfl)) (Ay (v:= sV l0 lX l3) rfl (fun ρ h=>Yl.load (D1 underlying68) (h _ _ rfl) (HJ (j:=0) b6 (congrArg some fK) (List.Mem.head _) ed.hd)) ?_);obtain⟨l4,fL,l5⟩:=bs lY;refine zg 1 rfl ?_;obtain⟨l6,tD,_,l7,rfl,rfl,l8,tE,tF⟩:=Hw.elem ed fL;refine Ay (v:= .pointer (some ⟨l6,Int.toNat (an.2.2)*1,none⟩)) rfl (fun ρ h=>Fe l7 fL underlying68 Ef (h _ _ rfl) (h _ _ rfl)) (Ay (v:= .bool l4) rfl (fun ρ h=>Yl.load Jc (h _ _ rfl) (HJ (j:=0) b6 (congrArg some fK) Mq (l8 0 _ rfl))) ?_);refine zg 1 rfl ?_;obtain rfl:=oi l5;exact fD Aq b6 rfl
                ·refine JL.exit rfl ?_;obtain rfl:=oi lc;obtain rfl:=k8 _ dY;exact Aw (k7 _ _ ⟨ci,bH,bI,b5,bd,be,ck,rfl,rfl,dV,b6,dW,dX⟩) rfl
              ·refine JL.exit rfl (JS.drop 0 fk rfl fun l9=>?_);refine JS.drop 1 l9 rfl fun ma=>?_;obtain rfl:=oi jX;have mb:fg=(Sum.inr ()):=(dJ _ cd).symm;exact Aw (jS _ _ ⟨(),bT,mb,rfl,rfl,bc,ma⟩) rfl
            ·intro mc;refine JL.block (CO jC (fun bJ=> [aS,aV,aq]) (fun bJ=> [(4,pV ab 0),(5,sV Z O.1 aa),(7,sV aQ U.1 aR),(9,sV aT U.2.2.1 aU),(10,sV ao U.2.2.2 ap),(17,iV au),(25,iV bJ)]) Aq fc ?_);rintro bJ md br bu fM ⟨tG,cT⟩ me;have fN:=cT;unfold M7 at fN;refine zg 5 rfl (Bo underlying25 rfl rfl rfl ?_);refine zg 2 rfl (AM fN (fun mf mg=>?_) (fun mf mh=>?_))
             ·obtain⟨mi,fO,mj⟩:=bs mg;refine zg 12 rfl ?_;obtain⟨ml,tH,mm,mn,tI,tJ,tK,fP,ee⟩:=CF.rowOf (eR.Ai ((((((((((ag.Ab al).Ab av).Ab aB).Ab ay).Ab az).Ab aA).Ab aC).Ab aF).Ab aW).Ab br)) fO;refine Ay (v:= .pointer (some ⟨ml,Int.toNat (au)*1,none⟩)) rfl (fun ρ h=>Fe ee.ad fO underlying22 BS (h _ _ rfl) (h _ _ rfl)) (Ay (v:= sV mm mi mn) rfl (fun ρ h=>Yl.load C4 (h _ _ rfl) (HJ (j:=1) bu (congrArg some fP) (List.Mem.head _) ee.hd)) ?_);obtain⟨mo,fQ,mp⟩:=bs mj;refine zg 1 rfl ?_;obtain⟨mq,tL,_,mr,rfl,rfl,ms,tM,tN⟩:=Hw.elem ee fQ;refine Ay (v:= .pointer (some ⟨mq,Int.toNat (bJ)*1,none⟩)) rfl (fun ρ h=>Fe mr fQ underlying28 AN (h _ _ rfl) (h _ _ rfl)) (Ay (v:=iV mo) rfl (fun ρ h=>Yl.load Bq (h _ _ rfl) (HJ (j:=1) bu (congrArg some fP) Mq (ms 0 _ rfl))) ?_);obtain⟨mv,mw,my⟩:=bs mp;refine zg 2 rfl (CM [aS,aV,aq] [(4,pV ab 0),(5,sV Z O.1 aa),(7,sV aQ U.1 aR),(9,sV aT U.2.2.1 aU),(10,sV ao U.2.2.2 ap),(17,iV au),(25,iV bJ),(26,iV mv)] (fun tO cm mz=>?_) (fun fR=>?_))
              ·refine zg 2 rfl (Cf (bm.Ai ((((((((((((((((aw.Ab ai).Ab am).Ab ae).Ab ar).Ab ag).Ab al).Ab av).Ab aB).Ab ay).Ab az).Ab aA).Ab aC).Ab aF).Ab aW).Ab br).Ab cm)) Cs B4 rfl rfl ?_);obtain⟨tP,mB,mC⟩:=bs my;refine zg 2 rfl (BJ (SM (bj.Ai (((((((((((((((((aE.Ab aw).Ab ai).Ab am).Ab ae).Ab ar).Ab ag).Ab al).Ab av).Ab aB).Ab ay).Ab az).Ab aA).Ab aC).Ab aF).Ab aW).Ab br).Ab cm)) (bl.Ai (((((((((((((((((aE.Ab aw).Ab ai).Ab am).Ab ae).Ab ar).Ab ag).Ab al).Ab av).Ab aB).Ab ay).Ab az).Ab aA).Ab aC).Ab aF).Ab aW).Ab br).Ab cm)) (bx.Ai (((((((((((((((ai.Ab am).Ab ae).Ab ar).Ab ag).Ab al).Ab av).Ab aB).Ab ay).Ab az).Ab aA).Ab aC).Ab aF).Ab aW).Ab br).Ab cm)) mB) rfl rfl (A3 func49 rfl) mz fun ef mD fS=>?_);obtain⟨mE,mF,mG⟩:=bs mC;refine zg 11 rfl (FP [] (fun L s=>∃(fT:LH),Jm ef H fT [aS,aV,aq] [(4,pV ab 0),(5,sV Z O.1 aa),(7,sV aQ U.1 aR),(9,sV aT U.2.2.1 aU),(10,sV ao U.2.2.2 ap),(17,iV au),(25,iV bJ),(290,.bool mE)] L s) ?_ ?_)
               ·rintro _ _ ⟨fT,rfl,rfl,mH,fU⟩;refine JL.done (BK mG (fun mI mJ=>?_) (fun mI mK=>?_))
                ·refine zg 4 rfl (JS.drop 0 fU rfl fun mL=>?_);refine JS.drop 1 mL rfl fun mM=>JS.drop 2 mM rfl fun tQ=>?_;obtain rfl:=oi mJ;obtain rfl:=fM _ cT;have mN:=elim_inl fe;obtain rfl:=oi mN;exact Gn rfl (JO.end (v:= .bool false) rfl (by decide+kernel) func17 rfl rfl rfl)
                ·obtain⟨mO,mP,mQ⟩:=bs mK;refine zg 4 rfl (A9 mP rfl rfl rfl ?_);refine zg 2 rfl ?_;obtain rfl:=oi mQ;exact me mO (((br.Ab cm).Ab mD).Ab mH) fU rfl cT
               ·intro fW;refine EE 286 mF (fun mR mS=>?_) (fun mR mT=>?_)
                ·refine zg 4 rfl ?_;obtain rfl:=oi mS;exact Aw (fW _ _ ⟨ef,rfl,rfl,Aq,fS⟩) rfl
                ·refine zg 4 rfl ?_;obtain rfl:=oi mT;exact Aw (fW _ _ ⟨ef,rfl,rfl,Aq,fS⟩) rfl
              ·refine AM mw (fun mU mV=>?_) (fun mU mW=>?_)
               ·refine zg 3 rfl ?_;obtain rfl:=oi mV;exact fR Aq bu rfl
               ·refine JL.seq (O7 11 fun ht=>?_);refine Bh ht rfl [0,1] rfl ?_;obtain⟨mX,fX,mY⟩:=bs mW;obtain⟨mZ,tR,m0,m1,tS,tT,tU,fY,eg⟩:=CF.rowOf (eR.Ai ((((((((((ag.Ab al).Ab av).Ab aB).Ab ay).Ab az).Ab aA).Ab aC).Ab aF).Ab aW).Ab br)) fX;refine Bw (v:= .pointer (some ⟨mZ,Int.toNat (au)*1,none⟩)) 2 ht rfl rfl (fun ρ h s' hs=>Fe eg.ad fX underlying22 BS (h _ _ rfl) (h _ _ rfl)) (Bw (v:= sV m0 mX m1) 3 ht rfl rfl (fun ρ h s' hs=>Yl.load C4 (h _ _ rfl) (IA hs (HJ (j:=1) bu (congrArg some fY) (List.Mem.head _) eg.hd))) ?_);refine Cz 4 ht rfl rfl ?_;obtain⟨m2,fZ,m3⟩:=bs mY;obtain⟨m4,tV,_,m5,rfl,rfl,m6,tW,tX⟩:=Hw.elem eg fZ;refine Bw (v:= .pointer (some ⟨m4,Int.toNat (bJ)*1,none⟩)) 5 ht rfl rfl (fun ρ h s' hs=>Fe m5 fZ underlying28 AN (h _ _ rfl) (h _ _ rfl)) (Bw (v:=iV m2) 6 ht rfl rfl (fun ρ h s' hs=>Yl.load Bq (h _ _ rfl) (IA hs (HJ (j:=1) bu (congrArg some fY) Mq (m6 0 _ rfl)))) ?_);refine Bh ht rfl [7,8] rfl ?_;obtain⟨m7,ga,m8⟩:=bs m3;obtain⟨m9,tY,_,na,nb,rfl,nc⟩:=OL.Zo (dD.Ai ((((((((((ag.Ab al).Ab av).Ab aB).Ab ay).Ab az).Ab aA).Ab aC).Ab aF).Ab aW).Ab br)) ga;refine Bw (v:= .pointer (some ⟨m9,(Int.toNat (au)*1),none⟩)) 9 ht rfl rfl (fun ρ h s' hs=>Fe na ga underlying28 AN (h _ _ rfl) (h _ _ rfl)) (Bw (v:=iV m7) 10 ht rfl rfl (fun ρ h s' hs=>Yl.load Bq (h _ _ rfl) (IA hs (Db (j:=0) bu (congrArg some nb) (nc 0 _ rfl)))) ?_);refine Cg [11] ?_;obtain⟨nf,ng,nh⟩:=bs m8;refine zg 2 rfl (CM [aS,aV,aq] [(4,pV ab 0),(5,sV Z O.1 aa),(7,sV aQ U.1 aR),(9,sV aT U.2.2.1 aU),(10,sV ao U.2.2.2 ap),(17,iV au),(25,iV bJ),(26,iV nf)] (fun tZ ni nj=>?_) (fun gb=>?_))
                ·obtain rfl:=oi nh;exact fR ni nj rfl
                ·refine AM ng (fun nk nm=>?_) (fun nk nn=>?_)
                 ·refine zg 3 rfl ?_;obtain rfl:=oi nm;exact gb Aq bu rfl
                 ·refine JL.skip ?_;obtain rfl:=oi nn;exact gb Aq bu rfl
             ·refine JL.exit rfl (JS.drop 0 bu rfl fun np=>?_);refine JS.drop 1 np rfl fun nq=>?_;obtain rfl:=oi mh;have nr:fd=(Sum.inr ()):=(fM _ cT).symm;exact Aw (mc _ _ ⟨(),md,nr,rfl,rfl,br,nq⟩) rfl
          ·intro gc;refine C8 238 jv (fun ns nt=>?_) (fun ns nu=>?_)
           ·refine zg 12 rfl (JS.drop 1 dG rfl fun nv=>?_);obtain rfl:=oi nt;exact Aw (gc _ _ ⟨fa,rfl,rfl,Aq,nv⟩) rfl
           ·obtain⟨nw,ny,nz⟩:=bs nu;refine zg 4 rfl (FU 1 (eQ.Ai ((((((((ag.Ab al).Ab av).Ab aB).Ab ay).Ab az).Ab aA).Ab aC).Ab aF)) ny rfl rfl rfl rfl rfl rfl underlying28 AN ?_);rintro ua ub uc _ nA rfl nB ud ue uf ug;refine Ay (v:=iV nw) rfl (fun ρ h=>Yl.load Bq (h _ _ rfl) (Db (j:=1) dG nA (nB 0 _ rfl))) ?_;obtain⟨uh,nC,nD⟩:=bs nz;refine B5 (cv.Ai ((((((((((ae.Ab ar).Ab ag).Ab al).Ab av).Ab aB).Ab ay).Ab az).Ab aA).Ab aC).Ab aF)) nC underlying71 Kl ?_;rintro ui uj _ ⟨_,_,rfl,rfl,⟨uk,ul,rfl,nE⟩⟩ nF;refine JL.fl 1 nF underlying75 BS C4 ?_;obtain⟨nG,nH,nI⟩:=bs nD;refine BJ (Lg (iq.Ai ((((ay.Ab az).Ab aA).Ab aC).Ab aF)) nE nH) rfl rfl Kh dG fun nJ nK nL=>Ay (v:= .bool (!nG)) rfl (fun ρ h=>Yl.not (h _ _ rfl)) (zg 1 rfl ?_);refine JS.drop 1 nL rfl fun nM=>?_;obtain rfl:=oi nI;exact Aw (gc _ _ ⟨nJ,rfl,rfl,nK,nM⟩) rfl
         ·refine C8 226 js (fun nN nO=>?_) (fun nN nP=>?_)
          ·refine zg 11 rfl ?_;obtain rfl:=oi nO;exact fb Aq dF rfl
          ·obtain⟨nQ,nR,nT⟩:=bs nP;refine zg 4 rfl (FU 1 (eQ.Ai (((((((ag.Ab al).Ab av).Ab aB).Ab ay).Ab az).Ab aA).Ab aC)) nR rfl rfl rfl rfl rfl rfl underlying28 AN ?_);rintro um un uo _ nU rfl nV uq ur ut uu;refine Ay (v:=iV nQ) rfl (fun ρ h=>Yl.load Bq (h _ _ rfl) (Db (j:=1) dF nU (nV 0 _ rfl))) ?_;obtain⟨uv,nW,nX⟩:=bs nT;refine B5 (cv.Ai (((((((((ae.Ab ar).Ab ag).Ab al).Ab av).Ab aB).Ab ay).Ab az).Ab aA).Ab aC)) nW underlying71 Kl ?_;rintro uw ux _ ⟨_,_,rfl,rfl,⟨uy,uz,rfl,uA⟩⟩ nY;refine JL.fl 0 nY underlying75 AN Bq ?_;refine zg 2 rfl ?_;obtain rfl:=oi nX;exact fb Aq dF rfl
        ·refine C8 218 jo (fun nZ n0=>?_) (fun nZ n3=>?_)
         ·refine zg 7 rfl ?_;obtain rfl:=oi n0;exact e9 Aq dE rfl
         ·obtain⟨n4,n5,n6⟩:=bs n3;refine zg 3 rfl (FU 0 (dD.Ai ((((((ag.Ab al).Ab av).Ab aB).Ab ay).Ab az).Ab aA)) n5 rfl rfl rfl rfl rfl rfl underlying28 AN ?_);rintro uB uC uD _ n7 rfl n8 uE uF uG uH;refine Ay (v:=iV n4) rfl (fun ρ h=>Yl.load Bq (h _ _ rfl) (Db (j:=0) dE n7 (n8 0 _ rfl))) (zg 2 rfl ?_);obtain rfl:=oi n6;exact e9 Aq dE rfl
       ·refine C8 213 jk (fun n9 oa=>?_) (fun n9 ob=>?_)
        ·refine zg 4 rfl ?_;obtain rfl:=oi oa;exact e8 Aq e6 rfl
        ·refine zg 4 rfl ?_;obtain rfl:=oi ob;exact e8 Aq e6 rfl
      ·refine C8 209 jh (fun oc od=>?_) (fun oc oe=>?_)
       ·refine zg 3 rfl ?_;obtain rfl:=oi od;exact e7 Aq e4 rfl
       ·refine zg 3 rfl ?_;obtain rfl:=oi oe;exact e7 Aq e4 rfl
     ·refine EE 205 je (fun og oh=>?_) (fun og oj=>?_)
      ·refine zg 3 rfl ?_;obtain rfl:=oi oh;exact e5 Aq cE rfl
      ·refine zg 3 rfl ?_;obtain rfl:=oi oj;exact e5 Aq cE rfl
   ·refine JL.block (CO h8 (fun cV=> [aS,bb,aV,aq]) (fun cV=> [(4,pV ab 0),(5,sV Z O.1 aa),(6,sV aj ah ak),(7,sV aQ U.1 aR),(8,sV a9 U.2.1 ba),(9,sV aT U.2.2.1 aU),(10,sV ao U.2.2.2 ap),(17,iV cV)]) Aq h6 ?_);rintro cV eh ei ej om ⟨uI,ek⟩ oo;have gd:=ek;unfold K8 at gd;refine zg 5 rfl (Bo underlying28 rfl rfl rfl ?_);obtain⟨oq,ot,ou⟩:=bs gd;refine zg 2 rfl (FP [] (fun L s=>∃(ge:LH),Jm eh H ge [aS,bb,aV,aq] [(4,pV ab 0),(5,sV Z O.1 aa),(6,sV aj ah ak),(7,sV aQ U.1 aR),(8,sV a9 U.2.1 ba),(9,sV aT U.2.2.1 aU),(10,sV ao U.2.2.2 ap),(17,iV cV),(154,.bool oq)] L s) ?_ ?_)
    ·rintro _ _ ⟨ge,rfl,rfl,gf,gg⟩;refine JL.done (BK ou (fun ov ow=>?_) (fun ov ox=>?_))
     ·obtain⟨oy,oz,oA⟩:=bs ow;refine zg 4 rfl (A9 oz rfl rfl rfl ?_);refine zg 3 rfl ?_;obtain rfl:=oi oA;exact oo oy (ei.Ab gf) gg rfl ek
     ·refine JL.exit rfl ?_;obtain rfl:=oi ox;obtain rfl:=om _ ek;exact ic (ei.Ab gf) gg rfl
    ·intro gh;refine EE 148 ot (fun oB oC=>?_) (fun oB oD=>?_)
     ·obtain⟨oE,oF,oG⟩:=bs oC;refine zg 2 rfl (FU 0 (dD.Ai ei) oF rfl rfl rfl rfl rfl rfl underlying28 AN ?_);rintro uJ uK uL _ oH rfl oI uM uN uO uP;refine Ay (v:=iV oE) rfl (fun ρ h=>Yl.load Bq (h _ _ rfl) (Db (j:=0) ej oH (oI 0 _ rfl))) (zg 2 rfl ?_);obtain rfl:=oi oG;exact Aw (gh _ _ ⟨eh,rfl,rfl,Aq,ej⟩) rfl
     ·refine zg 6 rfl ?_;obtain rfl:=oi oD;exact Aw (gh _ _ ⟨eh,rfl,rfl,Aq,ej⟩) rfl
  ·intro oJ;refine JL.block (CE h4 (fun L s V=>∃(bK:LH) (aO:Ao) (aP:Nat) (b7:Seg) (bv:Ao) (bw:Nat) (b8:Seg) (bf:Ao) (bg:Nat) (bW:Seg) (aY:Ao) (aZ:Nat) (b9:Seg),Jn bS H bK [b7,b8,bW,b9] [(4,pV ab 0),(5,sV Z O.1 aa),(6,sV aj ah ak),(7,sV aO V.1 aP),(8,sV bv V.2.1 bw),(9,sV bf V.2.2.1 bg),(10,sV aY V.2.2.2.1 aZ),(12,iV V.2.2.2.2)] L s (OL 3 rI bK aO aP b7 V.1∧OL 3 rI bK bv bw b8 V.2.1∧CF 28 3 rI bK bf bg bW V.2.2.1∧CF 68 4 rB bK aY aZ b9 V.2.2.2.1)) ⟨bS,(A2 bn),aM.length,dz,(A2 bo),aN.length,dA,cy,cz,cA,cB,cC,cD,rfl,rfl,Aq,h1,(hD.Ai ae),(hJ.Ai ae),h2,h3⟩ ?_);rintro _ _ V ⟨bK,aO,aP,b7,bv,bw,b8,bf,bg,bW,aY,aZ,b9,rfl,rfl,bL,gi,cn,cW,el,em⟩ oK ⟨uQ,en⟩ oL;have gj:=en;unfold Lc at gj;refine zg 5 rfl (Bo underlying71 rfl rfl rfl ?_);refine zg 2 rfl (AM gj (fun oM oN=>?_) (fun oM oO=>?_))
   ·obtain⟨a6,oP,oQ⟩:=bs oN;refine zg 2 rfl (Bs (fun L s=>∃(bY:LH) (cX:Ao) (cY:Nat) (cZ:Seg) (c0:Ao) (c1:Nat) (c3:Seg) (c4:Ao) (c5:Nat) (c6:Seg) (c7:Ao) (c8:Nat) (c9:Seg),Jn bK H bY [cZ,c3,c6,c9] [(4,pV ab 0),(5,sV Z O.1 aa),(6,sV aj ah ak),(7,sV cX a6.1 cY),(8,sV c0 a6.2.1 c1),(9,sV c4 a6.2.2.1 c5),(10,sV c7 a6.2.2.2 c8),(12,iV V.2.2.2.2)] L s (OL 3 rI bY cX cY cZ a6.1∧OL 3 rI bY c0 c1 c3 a6.2.1∧CF 28 3 rI bY c4 c5 c6 a6.2.2.1∧CF 68 4 rB bY c7 c8 c9 a6.2.2.2)) ?_ ?_)
    ·rintro _ _ ⟨bY,cX,cY,cZ,c0,c1,c3,c4,c5,c6,c7,c8,c9,rfl,rfl,oR,oS,oT,oU,oV,oW⟩;obtain⟨oX,oY,oZ⟩:=bs oQ;refine zg 2 rfl (A9 oY rfl rfl rfl ?_);refine zg 2 rfl ?_;obtain rfl:=oi oZ;exact Aw (oL _ _ (a6.1,a6.2.1,a6.2.2.1,a6.2.2.2,oX) ⟨bY,cX,cY,cZ,c0,c1,c3,c4,c5,c6,c7,c8,c9,rfl,rfl,(bL.Ab oR),oS,oT,oU,oV,oW⟩ en) rfl
    ·intro gk;refine zg 2 rfl (DC 14 fun ht=>?_);refine HU 0 ht (bm.Ai ((((aw.Ab ai).Ab am).Ab ae).Ab bL)) Cs B4 rfl rfl rfl (Bh ht rfl [1,2,3] rfl ?_);obtain⟨gl,o0,o3⟩:=bs oP;refine Ds 4 (cv.Ai (ae.Ab bL)) o0 ht underlying71 Kl ?_;rintro gm gn _ ⟨_,_,rfl,rfl,⟨gp,gq,rfl,o4⟩⟩ o5;refine Ch 5 ht underlying75 BS rfl rfl rfl rfl (CH 6 ht 1 o5 C4 rfl rfl rfl rfl ?_);obtain⟨W,o6,o7⟩:=bs o3;refine JG.call (i:=7) (vs:= [.agg #[sV eK cu.1.1 eL,sV eM cu.1.2 eN],sV Z O.1 aa,sV gp gl.2 gq]) (Y2 (bj.Ai (((((aE.Ab aw).Ab ai).Ab am).Ab ae).Ab bL)) (bl.Ai (((((aE.Ab aw).Ab ai).Ab am).Ab ae).Ab bL)) (bx.Ai (((ai.Ab am).Ab ae).Ab bL)) o4 o6) (by decide+kernel) rfl rfl rfl (A3 func54 rfl) rfl gi ?_;rintro _ da _ a2 ⟨a7,a8,rfl,rfl,o8⟩ db;refine Bh ht rfl [8,9,10,11,12,13] rfl (Cg [14] ?_);refine zg 6 rfl (Ay (v:= .bool (!W.2.2)) rfl (fun ρ h=>Yl.not (h _ _ rfl)) ?_);refine JL.done (BK o7 (fun o9 pa=>?_) (fun o9 pb=>?_))
     ·refine JL.exit rfl ?_;obtain rfl:=oi pa;exact Aw (gk _ _ ⟨da,aO,aP,b7,bv,bw,b8,bf,bg,bW,aY,aZ,b9,rfl,rfl,a2,db,(cn.Ai a2),(cW.Ai a2),(el.Ai a2),(em.Ai a2)⟩) rfl
     ·obtain⟨eo,pc,pd⟩:=bs pb;refine zg 6 rfl (FU 0 (cn.Ai a2) pc rfl rfl rfl rfl rfl rfl underlying28 AN ?_);rintro pe pf uR _ pg rfl pi uS uT uU uW;refine Ay (v:=iV eo) rfl (fun ρ h=>Yl.load Bq (h _ _ rfl) (Db (j:=0) db pg (pi 0 _ rfl))) ?_;obtain⟨bM,pj,pk⟩:=bs pd;refine zg 2 rfl (Bs (fun L s=>∃(ca:LH) (bh:Ao) (bi:Nat) (bZ:Seg),Jn da H ca [b7,bW,b9,bZ] [(4,pV ab 0),(5,sV Z O.1 aa),(6,sV aj ah ak),(7,sV aO V.1 aP),(8,sV bh bM bi),(9,sV bf V.2.2.1 bg),(10,sV aY V.2.2.2.1 aZ),(12,iV V.2.2.2.2),(13,sV a7 W.1 a8),(14,iV W.2.1)] L s (OL 3 rI ca bh bi bZ bM)) ?_ ?_)
      ·rintro _ _ ⟨ca,bh,bi,bZ,rfl,rfl,b0,gr,pm⟩;obtain⟨ep,pn,po⟩:=bs pk;refine zg 4 rfl (FU 0 (cn.Ai (a2.Ab b0)) pn rfl rfl rfl rfl rfl rfl underlying28 AN ?_);rintro gt gu uX _ pq rfl pr uY uZ u0 u3;refine Ay (v:=iV ep) rfl (fun ρ h=>Yl.load Bq (h _ _ rfl) (Db (j:=0) gr pq (pr 0 _ rfl))) ?_;obtain⟨aK,ps,pt⟩:=bs po;refine A9 ps rfl rfl rfl ?_;obtain⟨u4,pu,pw⟩:=bs pt;refine FU 0 (cn.Ai (a2.Ab b0)) pu rfl rfl rfl rfl rfl rfl underlying28 AN ?_;rintro cb b1 dc _ px rfl u5 py pz u6 u7;refine JS.store (v:=iV aK) (off:=b1) 0 rfl rfl rfl gr rfl rfl AN (by simp [Value.cells,Cx]) px (by have:=py;simp only [Rp.n,rK,rN,rB,rP,rL] at this;show _+1≤_;omega) fun gv=>?_;have pA:=pz aK [iV aK] rfl;have gw:(V.1.set (Int.toNat W.2.1) aK).length=V.1.length:=List.length_set;refine Fg (L':= [(4,pV ab 0),(5,.slice Z O.1.length aa),(6,.slice aj ah.length ak),(7,.slice aO ((V.1.set (Int.toNat W.2.1) aK)).length aP),(8,.slice bh bM.length bi),(9,.slice bf V.2.2.1.length bg),(10,.slice aY V.2.2.2.1.length aZ),(12,iV V.2.2.2.2),(13,.slice a7 W.1.length a8),(14,iV W.2.1),(109,.slice aO ((V.1.set (Int.toNat W.2.1) aK)).length aP),(110,iV W.2.1),(111,pV gt gu),(112,iV ep),(113,iV aK),(114,pV cb b1)]) ⟨rfl,rfl,rfl,by rw [gw];rfl,rfl,rfl,rfl,rfl,rfl,rfl,by rw [gw];rfl,rfl,rfl,rfl,rfl,rfl,trivial⟩ ?_;refine zg 2 rfl (O7 9 fun ht=>?_);refine Bh ht rfl [0,1] rfl ?_;obtain⟨bN,gx,pB⟩:=bs pw;obtain⟨co,dd,pC,pD,de,u8,df,gy,eq⟩:=CF.rowOf (em.Ai (a2.Ab b0)) gx;refine Bw (v:= .pointer (some ⟨co,Int.toNat (W.2.1)*1,none⟩)) 2 ht rfl rfl (fun ρ h s' hs=>Fe eq.ad gx underlying73 HG (h _ _ rfl) (h _ _ rfl)) (Bw (v:= sV pC bN pD) 3 ht rfl rfl (fun ρ h s' hs=>Yl.load (D1 underlying68) (h _ _ rfl) (IA hs (HJ (j:=2) gv (congrArg some gy) (List.Mem.head _) eq.hd))) ?_);refine Bh ht rfl [4,5] rfl ?_;obtain⟨a0,pE,pF⟩:=bs pB;refine Ds 6 (cv.Ai (((ae.Ab bL).Ab a2).Ab b0)) pE ht underlying71 Kl ?_;rintro gz gA _ ⟨_,_,rfl,rfl,⟨u9,va,rfl,vb⟩⟩ pG;refine Ch 7 ht underlying75 AN rfl rfl rfl rfl (Bw (v:=iV a0.1) 8 ht rfl rfl (fun ρ h s' hs=>Yl.load Bq (h _ _ rfl) (IA hs (At.Ll (j:=0) pG rfl))) ?_);refine Cg [9,10] ?_;obtain⟨vc,gB,pH⟩:=bs pF;obtain⟨cp,dg,_,pI,rfl,rfl,ve,pJ,pK⟩:=Hw.elem eq gB;refine Ay (v:= .pointer (some ⟨cp,Int.toNat (a0.1)*1,none⟩)) rfl (fun ρ h=>Fe pI gB underlying68 Ef (h _ _ rfl) (h _ _ rfl)) (Rr (v:= .bool true) (off:=Int.toNat (a0.1)*1) 2 gv (congrArg some gy) Ef rfl rfl rfl (by have:=pJ;simp only [Rp.n,rK,rN,rB,rP,rL] at this;show _+1≤_;omega) (by simp [Value.cells,Cx]) fun pL=>?_);have pM:=pK _ true [.bool true] Aq rfl;have gC:(V.2.2.2.1.set (Int.toNat W.2.1) (bN.set (Int.toNat a0.1) true)).length=V.2.2.2.1.length:=List.length_set;refine Fg (L':= [(4,pV ab 0),(5,.slice Z O.1.length aa),(6,.slice aj ah.length ak),(7,.slice aO ((V.1.set (Int.toNat W.2.1) aK)).length aP),(8,.slice bh bM.length bi),(9,.slice bf V.2.2.1.length bg),(10,.slice aY ((V.2.2.2.1.set (Int.toNat W.2.1) (bN.set (Int.toNat a0.1) true))).length aZ),(12,iV V.2.2.2.2),(13,.slice a7 W.1.length a8),(14,iV W.2.1),(109,.slice aO ((V.1.set (Int.toNat W.2.1) aK)).length aP),(110,iV W.2.1),(111,pV gt gu),(112,iV ep),(113,iV aK),(114,pV cb b1),(115,.slice aY ((V.2.2.2.1.set (Int.toNat W.2.1) (bN.set (Int.toNat a0.1) true))).length aZ),(116,iV W.2.1),(119,.slice aj ah.length ak),(120,iV V.2.2.2.2),(121,pV gz gA),(122,pV gz gA),(123,iV a0.1)]) ⟨rfl,rfl,rfl,rfl,rfl,rfl,by rw [gC];rfl,rfl,rfl,rfl,rfl,rfl,rfl,rfl,rfl,rfl,by rw [gC];rfl,rfl,rfl,rfl,rfl,rfl,rfl,trivial⟩ ?_;obtain⟨gD,pN,pO⟩:=bs pH;refine zg 5 rfl (Bs (fun L s=>∃(dh:LH) (di:Ao) (dj:Nat) (dk:Seg),Jn ca H dh [bX cb (A4 dc b1 [iV aK]) 3,(rs (co,.cells dd 68 (0,0)) de (cp,.cells (A4 dg (Int.toNat (a0.1)*1) [.bool true]) 4 (0,0)) df),bZ,dk] [(4,pV ab 0),(5,sV Z O.1 aa),(6,sV aj ah ak),(7,.slice aO ((V.1.set (Int.toNat W.2.1) aK)).length aP),(8,sV bh bM bi),(9,sV di gD dj),(10,.slice aY ((V.2.2.2.1.set (Int.toNat W.2.1) (bN.set (Int.toNat a0.1) true))).length aZ),(12,iV V.2.2.2.2)] L s (CF 28 3 rI dh di dj dk gD)) ?_ ?_)
       ·rintro _ _ ⟨dh,di,dj,dk,rfl,rfl,dl,pP,pQ⟩;refine NZ (JS.swap 1 2 rfl rfl rfl pP fun pR=>?_);refine JS.swap 2 3 rfl rfl rfl pR fun pS=>?_;obtain rfl:=oi pO;exact Aw (gk _ _ ⟨dh,aO,aP,[(cb,.cells (A4 dc b1 [iV aK]) 3 (0,0))],bh,bi,bZ,di,dj,dk,aY,aZ,(rs (co,.cells dd 68 (0,0)) de (cp,.cells (A4 dg (Int.toNat (a0.1)*1) [.bool true]) 4 (0,0)) df),rfl,rfl,((a2.Ab b0).Ab dl),pS,(pA.Ai dl),(pm.Ai dl),pQ,(pM.Ai dl)⟩) rfl
       ·intro pT;refine JL.block (JS.swap 1 2 rfl rfl rfl pL fun pU=>?_);refine JS.swap 2 3 rfl rfl rfl pU fun pW=>CE pN (fun L s aD=>∃(b2:LH) (bO:Ao) (bP:Nat) (cq:Seg),Jn ca H b2 [bX cb (A4 dc b1 [iV aK]) 3,(rs (co,.cells dd 68 (0,0)) de (cp,.cells (A4 dg (Int.toNat (a0.1)*1) [.bool true]) 4 (0,0)) df),bZ,cq] [(4,pV ab 0),(5,sV Z O.1 aa),(6,sV aj ah ak),(7,.slice aO ((V.1.set (Int.toNat W.2.1) aK)).length aP),(8,sV bh bM bi),(9,sV bO aD.1 bP),(10,.slice aY ((V.2.2.2.1.set (Int.toNat W.2.1) (bN.set (Int.toNat a0.1) true))).length aZ),(12,iV V.2.2.2.2),(13,sV a7 W.1 a8),(14,iV W.2.1),(16,iV aD.2)] L s (CF 28 3 rI b2 bO bP cq aD.1)) ⟨ca,bf,bg,bW,rfl,rfl,Aq,pW,(el.Ai (a2.Ab b0))⟩ ?_;rintro _ _ aD ⟨b2,bO,bP,cq,rfl,rfl,er,cr,et⟩ pX ⟨vf,eu⟩ pY;have gE:=eu;unfold KZ at gE;refine zg 5 rfl (Bo underlying68 rfl rfl rfl ?_);refine zg 2 rfl (AM gE (fun pZ p3=>?_) (fun pZ p4=>?_))
        ·obtain⟨p5,p6,p7⟩:=bs p3;refine zg 7 rfl (B5 (o8.Ai (b0.Ab er)) p6 underlying68 Ef ?_);rintro p8 p9 _ rfl qa;refine BY 0 qa Jc rfl rfl rfl ?_;obtain⟨ew,qb,qc⟩:=bs p7;refine JL.done (Bs (fun L s=>∃(dm:LH) (dn:Ao) (dp:Nat) (dq:Seg),Jn b2 H dm [bX cb (A4 dc b1 [iV aK]) 3,(rs (co,.cells dd 68 (0,0)) de (cp,.cells (A4 dg (Int.toNat (a0.1)*1) [.bool true]) 4 (0,0)) df),bZ,dq] [(4,pV ab 0),(5,sV Z O.1 aa),(6,sV aj ah ak),(7,.slice aO ((V.1.set (Int.toNat W.2.1) aK)).length aP),(8,sV bh bM bi),(9,sV dn ew dp),(10,.slice aY ((V.2.2.2.1.set (Int.toNat W.2.1) (bN.set (Int.toNat a0.1) true))).length aZ),(12,iV V.2.2.2.2),(13,sV a7 W.1 a8),(14,iV W.2.1),(16,iV aD.2)] L s (CF 28 3 rI dm dn dp dq ew)) ?_ ?_)
         ·rintro _ _ ⟨dm,dn,dp,dq,rfl,rfl,qd,qe,qf⟩;obtain⟨qg,qh,qi⟩:=bs qc;refine zg 3 rfl (A9 qh rfl rfl rfl ?_);refine zg 2 rfl ?_;obtain rfl:=oi qi;exact Aw (pY _ _ (ew,qg) ⟨dm,dn,dp,dq,rfl,rfl,(er.Ab qd),qe,qf⟩ eu) rfl
         ·intro gF;refine BK qb (fun qj qk=>?_) (fun qj ql=>?_)
          ·obtain⟨dr,gG,qm⟩:=bs qk;refine zg 3 rfl ?_;obtain⟨gH,qn,qo,qp,qq,vg,qr,ex,ey⟩:=CF.rowOf et gG;refine Ay (v:= .pointer (some ⟨gH,Int.toNat (W.2.1)*1,none⟩)) rfl (fun ρ h=>Fe ey.ad gG underlying22 BS (h _ _ rfl) (h _ _ rfl)) (Ay (v:= sV qo dr qp) rfl (fun ρ h=>Yl.load C4 (h _ _ rfl) (HJ (j:=3) cr (congrArg some ex) (List.Mem.head _) ey.hd)) ?_);obtain⟨gI,ez,qt⟩:=bs qm;refine zg 1 rfl ?_;obtain⟨eA,qu,_,gJ,rfl,rfl,qv,qw,qx⟩:=Hw.elem ey ez;refine Ay (v:= .pointer (some ⟨eA,Int.toNat (aD.2)*1,none⟩)) rfl (fun ρ h=>Fe gJ ez underlying28 AN (h _ _ rfl) (h _ _ rfl)) (Ay (v:=iV gI) rfl (fun ρ h=>Yl.load Bq (h _ _ rfl) (HJ (j:=3) cr (congrArg some ex) Mq (qv 0 _ rfl))) ?_);obtain⟨bQ,qy,qz⟩:=bs qt;refine A9 qy rfl rfl rfl (Ay (v:= .pointer (some ⟨eA,Int.toNat (aD.2)*1,none⟩)) rfl (fun ρ h=>Fe gJ ez underlying28 AN (h _ _ rfl) (h _ _ rfl)) ?_);refine Rr (v:=iV bQ) (off:=Int.toNat (aD.2)*1) 3 cr (congrArg some ex) AN rfl rfl rfl (by have:=qw;simp only [Rp.n,rK,rN,rB,rP,rL] at this;show _+1≤_;omega) (by simp [Value.cells,Cx]) fun qA=>?_;have qB:=qx _ bQ [iV bQ] Aq rfl;have gK:(aD.1.set (Int.toNat W.2.1) (dr.set (Int.toNat aD.2) bQ)).length=aD.1.length:=List.length_set;refine Fg (L':= [(4,pV ab 0),(5,.slice Z O.1.length aa),(6,.slice aj ah.length ak),(7,.slice aO ((V.1.set (Int.toNat W.2.1) aK)).length aP),(8,.slice bh bM.length bi),(9,.slice bO ((aD.1.set (Int.toNat W.2.1) (dr.set (Int.toNat aD.2) bQ))).length bP),(10,.slice aY ((V.2.2.2.1.set (Int.toNat W.2.1) (bN.set (Int.toNat a0.1) true))).length aZ),(12,iV V.2.2.2.2),(13,.slice a7 W.1.length a8),(14,iV W.2.1),(16,iV aD.2),(125,iV aD.2),(126,.slice a7 W.1.length a8),(127,iV (W.1.length:Int)),(128,.bool (decide (aD.2<(W.1.length:Int)))),(131,.slice a7 W.1.length a8),(132,iV aD.2),(133,pV p8 p9),(134,.bool p5),(135,.slice bO ((aD.1.set (Int.toNat W.2.1) (dr.set (Int.toNat aD.2) bQ))).length bP),(136,iV W.2.1),(139,iV aD.2),(141,iV gI),(142,iV bQ)]) ⟨rfl,rfl,rfl,rfl,rfl,by rw [gK];rfl,rfl,rfl,rfl,rfl,rfl,rfl,rfl,rfl,rfl,rfl,rfl,rfl,rfl,by rw [gK];rfl,rfl,rfl,rfl,rfl,trivial⟩ ?_;refine JL.done ?_;obtain rfl:=oi qz;exact Aw (gF _ _ ⟨b2,bO,bP,(rs (gH,.cells qn 28 (0,0)) qq (eA,.cells (A4 qu (Int.toNat (aD.2)*1) [iV bQ]) 3 (0,0)) qr),rfl,rfl,Aq,qA,qB⟩) rfl
          ·refine JL.skip ?_;obtain rfl:=oi ql;exact Aw (gF _ _ ⟨b2,bO,bP,cq,rfl,rfl,Aq,cr,et⟩) rfl
        ·refine JL.exit rfl ?_;obtain rfl:=oi p4;obtain rfl:=pX _ eu;exact Aw (pT _ _ ⟨b2,bO,bP,cq,rfl,rfl,er,cr,et⟩) rfl
      ·intro gL;refine AM pj (fun qC qD=>?_) (fun qC qE=>?_)
       ·obtain⟨vh,qF,qG⟩:=bs qD;refine zg 4 rfl (FU 1 (cW.Ai a2) qF rfl rfl rfl rfl rfl rfl underlying28 AN ?_);rintro gM eB qH _ qI rfl vi qJ qK vj vk;refine JS.store (v:=iV V.2.2.2.2) (off:=eB) 1 rfl rfl rfl db rfl rfl AN (by simp [Value.cells,Cx]) qI (by have:=qJ;simp only [Rp.n,rK,rN,rB,rP,rL] at this;show _+1≤_;omega) fun qL=>?_;have qM:=qK V.2.2.2.2 [iV V.2.2.2.2] rfl;have gN:(V.2.1.set (Int.toNat W.2.1) V.2.2.2.2).length=V.2.1.length:=List.length_set;refine Fg (L':= [(4,pV ab 0),(5,.slice Z O.1.length aa),(6,.slice aj ah.length ak),(7,.slice aO V.1.length aP),(8,.slice bv ((V.2.1.set (Int.toNat W.2.1) V.2.2.2.2)).length bw),(9,.slice bf V.2.2.1.length bg),(10,.slice aY V.2.2.2.1.length aZ),(12,iV V.2.2.2.2),(80,iV V.2.2.2.2),(81,.slice aj ah.length ak),(82,iV (ah.length:Int)),(83,.bool (decide (V.2.2.2.2<(ah.length:Int)))),(87,.agg #[.slice eK cu.1.1.length eL,.slice eM cu.1.2.length eN]),(88,.slice Z O.1.length aa),(89,.slice aj ah.length ak),(90,iV V.2.2.2.2),(91,pV gm gn),(92,pV gm (gn+1)),(93,.slice gp gl.2.length gq),(94,.tuple #[.slice a7 W.1.length a8,iV W.2.1,.bool W.2.2]),(86,.tuple #[.slice a7 W.1.length a8,iV W.2.1,.bool W.2.2]),(95,.slice a7 W.1.length a8),(96,iV W.2.1),(97,.bool W.2.2),(13,.slice a7 W.1.length a8),(14,iV W.2.1),(15,.bool W.2.2),(98,.bool W.2.2),(99,.bool (!W.2.2)),(100,.slice aO V.1.length aP),(101,iV W.2.1),(102,pV pe pf),(103,iV eo),(104,.bool (decide (eo=0))),(105,.slice bv ((V.2.1.set (Int.toNat W.2.1) V.2.2.2.2)).length bw),(106,iV W.2.1),(107,iV V.2.2.2.2),(108,pV gM eB)]) ⟨rfl,rfl,rfl,rfl,by rw [gN];rfl,rfl,rfl,rfl,rfl,rfl,rfl,rfl,rfl,rfl,rfl,rfl,rfl,rfl,rfl,rfl,rfl,rfl,rfl,rfl,rfl,rfl,rfl,rfl,rfl,rfl,rfl,rfl,rfl,rfl,by rw [gN];rfl,rfl,rfl,rfl,trivial⟩ ?_;refine JL.done (JS.swap 1 2 rfl rfl rfl qL fun qN=>?_);refine JS.swap 2 3 rfl rfl rfl qN fun qO=>?_;obtain rfl:=oi qG;exact Aw (gL _ _ ⟨da,bv,bw,[(gM,.cells (A4 qH eB [iV V.2.2.2.2]) 3 (0,0))],rfl,rfl,Aq,qO,qM⟩) rfl
       ·refine JL.skip (JS.swap 1 2 rfl rfl rfl db fun qP=>?_);refine JS.swap 2 3 rfl rfl rfl qP fun qQ=>?_;obtain rfl:=oi qE;exact Aw (gL _ _ ⟨da,bv,bw,b8,rfl,rfl,Aq,qQ,(cW.Ai a2)⟩) rfl
   ·refine JL.exit rfl ?_;obtain rfl:=oi oO;obtain rfl:=oK _ en;exact Aw (oJ _ _ ⟨bK,aO,aP,b7,bv,bw,b8,bf,bg,bW,aY,aZ,b9,rfl,rfl,bL,gi,cn,cW,el,em⟩) rfl
 ·intro qR;refine JL.block (JS.drop 1 hY rfl fun qS=>?_);refine CE hZ (fun L s K=>∃(bR:LH) (aG:Ao) (aH:Nat) (dt:Seg) (aI:Ao) (aJ:Nat) (du:Seg),Jn dy H bR [dz,dA,dt,du] [(4,pV ab 0),(5,sV Z O.1 aa),(6,sV aj ah ak),(7,.slice (A2 bn) aM.length aM.length),(8,.slice (A2 bo) aN.length aN.length),(9,sV aG K.1 aH),(10,sV aI K.2.1 aJ),(11,iV K.2.2)] L s (CF 28 3 rI bR aG aH dt K.1∧CF 68 4 rB bR aI aJ du K.2.1)) ⟨dy,(A2 hP),hN.length,hQ,(A2 hW),hU.length,hX,rfl,rfl,Aq,qS,dB,dC⟩ ?_;rintro _ _ K ⟨bR,aG,aH,dt,aI,aJ,du,rfl,rfl,dv,eC,eD,dw⟩ qT ⟨vl,ct⟩ eE;have gO:=ct;unfold KX at gO;refine zg 5 rfl (Bo underlying25 rfl rfl rfl ?_);refine zg 2 rfl (AM gO (fun qU qV=>?_) (fun qU qW=>?_))
  ·refine zg 3 rfl (DC 10 fun ht=>?_);refine Bh ht rfl [0,1,2,3,4] rfl (Bw 5 ht rfl rfl (fun ρ h s' hs=>Yl.len rfl underlying25 (h _ _ rfl)) ?_);obtain⟨aL,gP,qX⟩:=bs qV;obtain⟨aX,eF,qY⟩:=bs qX;obtain⟨vm,dx,eG⟩:=bs qY;refine I1 (i:=6) (j:=7) rfl (by decide+kernel) ?_ ?_
   ·refine Take.Lh (pp:=rI) eC gP rfl rfl rfl rfl rfl underlying28 AN (Cu type3) (by decide) Cp (by decide) rfl fun vn vo gQ gR=>?_;obtain⟨qZ,vp,vq,vr,vt,vu,vv,gS,eH⟩:=CF.rowOf eD dx;refine Bw (v:= .pointer (some ⟨qZ,Int.toNat (K.2.2)*1,none⟩)) 8 ht rfl rfl (fun ρ h s' hs=>Fe eH.ad dx underlying22 BS (h _ _ rfl) (h _ _ rfl)) (I1 (i:=7) (j:=9) rfl (by decide+kernel) ?_ ?_)
    ·refine Take.Lh (pp:=rB) gR eF rfl rfl rfl rfl rfl underlying68 Ef (Cu type4) (by decide) IM (by decide) rfl fun q0 vw q3 q4=>JG.one (i:=9) rfl (by decide+kernel) (Take.OV 2 4 q4 eH gQ (congrArg some gS) (by decide) rfl BS rfl rfl rfl rfl rfl fun q5 q6 q7=>?_);have gT:(K.1.set (Int.toNat K.2.2) aL).length=K.1.length:=List.length_set;refine Dg (L':= [(4,pV ab 0),(5,.slice Z O.1.length aa),(6,.slice aj ah.length ak),(7,.slice (A2 bn) aM.length aM.length),(8,.slice (A2 bo) aN.length aN.length),(9,.slice aG ((K.1.set (Int.toNat K.2.2) aL)).length aH),(10,.slice aI K.2.1.length aJ),(11,iV K.2.2),(64,iV K.2.2),(65,.slice Z O.1.length aa),(66,iV (O.1.length:Int)),(67,.bool (decide (K.2.2≤(O.1.length:Int)))),(70,.slice aG ((K.1.set (Int.toNat K.2.2) aL)).length aH),(71,iV K.2.2),(72,.slice aI K.2.1.length aJ),(73,iV K.2.2),(74,.slice Z O.1.length aa),(75,iV (O.1.length:Int)),(77,.slice (A2 q0) aX.length aX.length)]) ⟨rfl,rfl,rfl,rfl,rfl,by rw [gT];rfl,rfl,rfl,rfl,rfl,rfl,rfl,by rw [gT];rfl,rfl,rfl,rfl,rfl,rfl,rfl,trivial⟩ ?_;refine Cg [10,11] ?_;obtain⟨vx,gU,q8⟩:=bs eG;obtain⟨q9,vy,vz,vA,vB,vC,vD,ra,gV⟩:=CF.rowOf dw gU;refine Ay (v:= .pointer (some ⟨q9,Int.toNat (K.2.2)*1,none⟩)) rfl (fun ρ h=>Fe gV.ad gU underlying73 HG (h _ _ rfl) (h _ _ rfl)) (Ol 3 5 gV q3 q7 (congrArg some ra) (by decide) rfl HG rfl rfl rfl fun rb rc rd=>?_);have gW:(K.2.1.set (Int.toNat K.2.2) aX).length=K.2.1.length:=List.length_set;refine Fg (L':= [(4,pV ab 0),(5,.slice Z O.1.length aa),(6,.slice aj ah.length ak),(7,.slice (A2 bn) aM.length aM.length),(8,.slice (A2 bo) aN.length aN.length),(9,.slice aG ((K.1.set (Int.toNat K.2.2) aL)).length aH),(10,.slice aI ((K.2.1.set (Int.toNat K.2.2) aX)).length aJ),(11,iV K.2.2),(64,iV K.2.2),(65,.slice Z O.1.length aa),(66,iV (O.1.length:Int)),(67,.bool (decide (K.2.2≤(O.1.length:Int)))),(70,.slice aG ((K.1.set (Int.toNat K.2.2) aL)).length aH),(71,iV K.2.2),(72,.slice aI ((K.2.1.set (Int.toNat K.2.2) aX)).length aJ),(73,iV K.2.2),(74,.slice Z O.1.length aa),(75,iV (O.1.length:Int))]) ⟨rfl,rfl,rfl,rfl,rfl,rfl,by rw [gW];rfl,rfl,rfl,rfl,rfl,rfl,rfl,rfl,by rw [gW];rfl,rfl,rfl,rfl,trivial⟩ ?_;obtain⟨re,rf,rg⟩:=bs q8;refine zg 4 rfl (A9 rf rfl rfl rfl ?_);refine zg 2 rfl (JS.drop 4 rd rfl fun rh=>?_);obtain rfl:=oi rg;exact Aw (eE _ _ ((K.1.set (Int.toNat K.2.2) aL),(K.2.1.set (Int.toNat K.2.2) aX),re) ⟨bR,aG,aH,q5,aI,aJ,rb,rfl,rfl,dv,rh,q6,rc⟩ ct) rfl
    ·refine Take.OV 2 4 gR eH gQ (congrArg some gS) (by decide) rfl BS rfl rfl rfl rfl rfl fun ri rj rk=>?_;have gX:(K.1.set (Int.toNat K.2.2) aL).length=K.1.length:=List.length_set;refine Dg (L':= [(4,pV ab 0),(5,.slice Z O.1.length aa),(6,.slice aj ah.length ak),(7,.slice (A2 bn) aM.length aM.length),(8,.slice (A2 bo) aN.length aN.length),(9,.slice aG ((K.1.set (Int.toNat K.2.2) aL)).length aH),(10,.slice aI K.2.1.length aJ),(11,iV K.2.2),(64,iV K.2.2),(65,.slice Z O.1.length aa),(66,iV (O.1.length:Int)),(67,.bool (decide (K.2.2≤(O.1.length:Int)))),(70,.slice aG ((K.1.set (Int.toNat K.2.2) aL)).length aH),(71,iV K.2.2),(72,.slice aI K.2.1.length aJ),(73,iV K.2.2),(74,.slice Z O.1.length aa),(75,iV (O.1.length:Int))]) ⟨rfl,rfl,rfl,rfl,rfl,by rw [gX];rfl,rfl,rfl,rfl,rfl,rfl,rfl,by rw [gX];rfl,rfl,rfl,rfl,rfl,rfl,trivial⟩ ?_;refine JG.one (i:=7) rfl (by decide+kernel) (Take.Lh (pp:=rB) rk eF rfl rfl rfl rfl rfl underlying68 Ef (Cu type4) (by decide) IM (by decide) rfl fun vE vF rl rm=>?_);refine Cg [10,11] ?_;obtain⟨vG,gY,rn⟩:=bs eG;obtain⟨ro,vH,vI,vJ,vK,vL,vM,rp,gZ⟩:=CF.rowOf dw gY;refine Ay (v:= .pointer (some ⟨ro,Int.toNat (K.2.2)*1,none⟩)) rfl (fun ρ h=>Fe gZ.ad gY underlying73 HG (h _ _ rfl) (h _ _ rfl)) (Ol 3 5 gZ rl rm (congrArg some rp) (by decide) rfl HG rfl rfl rfl fun rq rr rt=>?_);have g0:(K.2.1.set (Int.toNat K.2.2) aX).length=K.2.1.length:=List.length_set;refine Fg (L':= [(4,pV ab 0),(5,.slice Z O.1.length aa),(6,.slice aj ah.length ak),(7,.slice (A2 bn) aM.length aM.length),(8,.slice (A2 bo) aN.length aN.length),(9,.slice aG ((K.1.set (Int.toNat K.2.2) aL)).length aH),(10,.slice aI ((K.2.1.set (Int.toNat K.2.2) aX)).length aJ),(11,iV K.2.2),(64,iV K.2.2),(65,.slice Z O.1.length aa),(66,iV (O.1.length:Int)),(67,.bool (decide (K.2.2≤(O.1.length:Int)))),(70,.slice aG ((K.1.set (Int.toNat K.2.2) aL)).length aH),(71,iV K.2.2),(72,.slice aI ((K.2.1.set (Int.toNat K.2.2) aX)).length aJ),(73,iV K.2.2),(74,.slice Z O.1.length aa),(75,iV (O.1.length:Int))]) ⟨rfl,rfl,rfl,rfl,rfl,rfl,by rw [g0];rfl,rfl,rfl,rfl,rfl,rfl,rfl,rfl,by rw [g0];rfl,rfl,rfl,rfl,trivial⟩ ?_;obtain⟨ru,rv,rx⟩:=bs rn;refine zg 4 rfl (A9 rv rfl rfl rfl ?_);refine zg 2 rfl (JS.drop 4 rt rfl fun ry=>?_);obtain rfl:=oi rx;exact Aw (eE _ _ ((K.1.set (Int.toNat K.2.2) aL),(K.2.1.set (Int.toNat K.2.2) aX),ru) ⟨bR,aG,aH,ri,aI,aJ,rq,rfl,rfl,dv,ry,rj,rr⟩ ct) rfl
   ·refine Take.Lh (pp:=rB) eC eF rfl rfl rfl rfl rfl underlying68 Ef (Cu type4) (by decide) IM (by decide) rfl fun rz vN rC rD=>JG.one (i:=6) rfl (by decide+kernel) (Take.Lh (pp:=rI) rD gP rfl rfl rfl rfl rfl underlying28 AN (Cu type3) (by decide) Cp (by decide) rfl fun vO vP rE rF=>?_);obtain⟨rG,vQ,vR,vS,vT,vU,vV,rH,g1⟩:=CF.rowOf eD dx;refine Bw (v:= .pointer (some ⟨rG,Int.toNat (K.2.2)*1,none⟩)) 8 ht rfl rfl (fun ρ h s' hs=>Fe g1.ad dx underlying22 BS (h _ _ rfl) (h _ _ rfl)) (JG.one (i:=9) rfl (by decide+kernel) ?_);refine Take.OV 2 5 rF g1 rE (congrArg some rH) (by decide) rfl BS rfl rfl rfl rfl rfl fun rJ rM rO=>?_;have g3:(K.1.set (Int.toNat K.2.2) aL).length=K.1.length:=List.length_set;refine Dg (L':= [(4,pV ab 0),(5,.slice Z O.1.length aa),(6,.slice aj ah.length ak),(7,.slice (A2 bn) aM.length aM.length),(8,.slice (A2 bo) aN.length aN.length),(9,.slice aG ((K.1.set (Int.toNat K.2.2) aL)).length aH),(10,.slice aI K.2.1.length aJ),(11,iV K.2.2),(64,iV K.2.2),(65,.slice Z O.1.length aa),(66,iV (O.1.length:Int)),(67,.bool (decide (K.2.2≤(O.1.length:Int)))),(70,.slice aG ((K.1.set (Int.toNat K.2.2) aL)).length aH),(71,iV K.2.2),(72,.slice aI K.2.1.length aJ),(73,iV K.2.2),(74,.slice Z O.1.length aa),(75,iV (O.1.length:Int)),(77,.slice (A2 rz) aX.length aX.length)]) ⟨rfl,rfl,rfl,rfl,rfl,by rw [g3];rfl,rfl,rfl,rfl,rfl,rfl,rfl,by rw [g3];rfl,rfl,rfl,rfl,rfl,rfl,rfl,trivial⟩ ?_;refine Cg [10,11] ?_;obtain⟨vW,g4,rQ⟩:=bs eG;obtain⟨rR,vX,vY,vZ,v0,v1,v2,rS,g5⟩:=CF.rowOf dw g4;refine Ay (v:= .pointer (some ⟨rR,Int.toNat (K.2.2)*1,none⟩)) rfl (fun ρ h=>Fe g5.ad g4 underlying73 HG (h _ _ rfl) (h _ _ rfl)) (Ol 3 4 g5 rC rO (congrArg some rS) (by decide) rfl HG rfl rfl rfl fun rT rU rW=>?_);have g6:(K.2.1.set (Int.toNat K.2.2) aX).length=K.2.1.length:=List.length_set;refine Fg (L':= [(4,pV ab 0),(5,.slice Z O.1.length aa),(6,.slice aj ah.length ak),(7,.slice (A2 bn) aM.length aM.length),(8,.slice (A2 bo) aN.length aN.length),(9,.slice aG ((K.1.set (Int.toNat K.2.2) aL)).length aH),(10,.slice aI ((K.2.1.set (Int.toNat K.2.2) aX)).length aJ),(11,iV K.2.2),(64,iV K.2.2),(65,.slice Z O.1.length aa),(66,iV (O.1.length:Int)),(67,.bool (decide (K.2.2≤(O.1.length:Int)))),(70,.slice aG ((K.1.set (Int.toNat K.2.2) aL)).length aH),(71,iV K.2.2),(72,.slice aI ((K.2.1.set (Int.toNat K.2.2) aX)).length aJ),(73,iV K.2.2),(74,.slice Z O.1.length aa),(75,iV (O.1.length:Int))]) ⟨rfl,rfl,rfl,rfl,rfl,rfl,by rw [g6];rfl,rfl,rfl,rfl,rfl,rfl,rfl,rfl,by rw [g6];rfl,rfl,rfl,rfl,trivial⟩ ?_;obtain⟨rX,rY,rZ⟩:=bs rQ;refine zg 4 rfl (A9 rY rfl rfl rfl ?_);refine zg 2 rfl (JS.drop 5 rW rfl fun r1=>?_);obtain rfl:=oi rZ;exact Aw (eE _ _ ((K.1.set (Int.toNat K.2.2) aL),(K.2.1.set (Int.toNat K.2.2) aX),rX) ⟨bR,aG,aH,rJ,aI,aJ,rT,rfl,rfl,dv,r1,rM,rU⟩ ct) rfl
  ·refine JL.exit rfl ?_;obtain rfl:=oi qW;obtain rfl:=qT _ ct;exact Aw (qR _ _ ⟨bR,aG,aH,dt,aI,aJ,du,rfl,rfl,dv,eC,eD,dw⟩) rfl
end Pal
namespace Pal
def kk(A:List BW)(n:Nat):List BW:=A.filter fun t=>decide (CY t=n)
theorem MD(A:List BW)(x:BW)(n:Nat):kk (A++ [x]) n=kk A n++if CY x=n then [x] else []:=by
 unfold kk;rw [List.filter_append];congr 1;by_cases h:CY x=n <;> simp [h]
theorem JV{A:List BW}{t:BW}{n:Nat}:t∈kk A n↔t∈A∧CY t=n:=by unfold kk;simp
def H2(A:List BW)(n k:Nat):Nat:=((kk A n).filter fun t=>t.2.2.testBit k).length
theorem RN(A:List BW)(n k:Nat):H2 A n k≤A.length:=Nat.le_trans (List.length_filter_le _ _) (List.length_filter_le _ _)
theorem UH(A:List BW)(x:BW)(n k:Nat):H2 (A++ [x]) n k=H2 A n k+if n=CY x∧x.2.2.testBit k=true then 1 else 0:=by
 unfold H2;rw [MD,List.filter_append,List.length_append];congr 1;by_cases h:CY x=n
 ·subst h;by_cases K:x.2.2.testBit k=true
  ·simp [K]
  ·simp [K]
 ·rw [if_neg h,if_neg (fun e=>h e.1.symm)];rfl
def J9(p:List Int)(K:BH)(k:Nat):Bool:=(K[k]?.map (DK p)).getD false
theorem Vt{F L:Nat}{O:BH}{b:Fp}(V:100<F)(U:O.length=L)(W:L≤4):iter (KX F (O,b)) F (List.replicate (L+1) [],List.replicate (L+1) [],0)=some ((List.range (L+1)).map (fun _=>(List.range L).map fun _=>(0:Int)),(List.range (L+1)).map fun _=>(List.range 13).map fun _=>false):=by
 refine CV (Cq (L+1) (fun i s=>s=((List.range (L+1)).map (fun m=>if m<i then List.replicate L (0:Int) else []),(List.range (L+1)).map (fun m=>if m<i then List.replicate 13 false else []),(i:Int))) (by rw [JK,JK];simp) (by omega) ?_ ?_)
 ·rintro i s hi rfl;unfold KX;refine BI (by simp only;omega) (AP (b:=List.replicate L (0:Int)) (by unfold Eg;rw [if_pos (by simp only;omega)];simp [U]) ?_);refine AP (b:=List.replicate 13 false) rfl (D8 (i:=i) rfl hi ?_);refine D8 (i:=i) rfl hi (AX ((i+1:Nat):Int) (by simp) (by omega) (by omega) ?_);refine Al ?_;have key:∀{α:Type} (v:List α),((List.range (L+1)).map (fun m=>if m<i then v else [])).set i v=(List.range (L+1)).map (fun m=>if m<i+1 then v else []):=fun v=>by
   rw [Ir];refine List.map_congr_left fun j _=>?_;by_cases e:j=i
   ·rw [if_pos e,if_pos (by omega)]
   ·rw [if_neg e];by_cases e2:j<i
    ·rw [if_pos e2,if_pos (by omega)]
    ·rw [if_neg e2,if_neg (by omega)]
  simp only [Int.toNat_natCast,key]
  rfl
 ·rintro s rfl;unfold KX;refine Bf (by simp only;omega) (Al ⟨_,rfl,?_⟩);refine Prod.ext ?_ ?_
  ·refine List.map_congr_left fun j K=>?_;rw [if_pos (List.mem_range.1 K),JK]
  ·refine List.map_congr_left fun j K=>?_;rw [if_pos (List.mem_range.1 K),JK]
theorem Vn{F N O:Nat}{K:BH}{p:List Int}{M:Nat→Nat→Nat}(ab:100<F)(ae:K.length≤4)(W:O<N)(Z:∀k,M O k≤2 ^ 40):
  iter (KZ F (K.map (DK p),(O:Int),true)) F ((List.range N).map (fun n=>(List.range K.length).map fun k=>((M n k:Nat):Int)),0)=some ((List.range N).map fun n=>(List.range K.length).map fun k=>((M n k+(if n=O∧J9 p K k=true then 1 else 0):Nat):Int)):=by
 refine CV (Cq K.length (fun j s=>s=((List.range N).map (fun n=>(List.range K.length).map fun k=>((M n k+(if n=O∧k<j∧J9 p K k=true then 1 else 0):Nat):Int)),(j:Int))) (by simp) (by omega) ?_ ?_)
 ·rintro j s U rfl;unfold KZ;refine BI (by simp only [List.length_map];omega) (Bv (m:=j) rfl (by simpa using U) ?_);have hb:(K.map (DK p))[j]'(by simpa using U)=J9 p K j:=by unfold J9;rw [List.getElem?_eq_getElem U,List.getElem_map];rfl
  rw [hb];refine AI (S:=fun c=>c=(List.range N).map (fun n=>(List.range K.length).map fun k=>((M n k+(if n=O∧k<j+1∧J9 p K k=true then 1 else 0):Nat):Int))) ?_ ?_
  ·refine By (fun h=>?_) (fun h=>?_)
   ·refine D8 (i:=O) rfl W (D8 (i:=j) rfl U ?_);have:=Z j;rw [if_neg (by omega)];refine AX ((M O j+1:Nat):Int) (by simp) (by omega) (by omega) (Al ?_);simp only [Int.toNat_natCast];rw [Ir,Ir];refine List.map_congr_left fun n _=>?_;by_cases e:n=O
    ·rw [if_pos e];subst e;refine List.map_congr_left fun k _=>?_;by_cases e2:k=j
     ·subst e2;simp [h]
     ·have V:k<j+1↔k<j:=by omega
      simp only [if_neg e2,V]
    ·rw [if_neg e];refine List.map_congr_left fun k _=>?_;simp [e]
   ·refine Al (List.map_congr_left fun n _=>List.map_congr_left fun k _=>?_);by_cases e2:k=j
    ·subst e2;simp [h]
    ·have V:k<j+1↔k<j:=by omega
     simp only [V]
  ·rintro c rfl;exact AX ((j+1:Nat):Int) (by simp) (by omega) (by omega) (Al rfl)
 ·rintro s rfl;unfold KZ;refine Bf (by simp) (Al ⟨_,rfl,?_⟩);refine List.map_congr_left fun n _=>List.map_congr_left fun k aa=>?_;have:=List.mem_range.1 aa;simp [this]
structure Nu (J:JW) (K:BH) (all:List (Int×List Int)) (A:List BW) (fn:Nat→Int) (G:Nat→Nat→Bool):Prop where
 fs:∀n,0<(kk A n).length→∃(q:Nat) (t:Int×List Int) (x:BW),fn n=(q:Int)∧all[q]? =some t∧EF J K t=some x∧(kk A n)[0]? =some x
 gs:∀n b,b<13→(G n b=true↔∃t∈kk A n,t.1=(b:Int))
def Ge(N L:Nat)(A:List BW)(fn:Nat→Int)(G:Nat→Nat→Bool):List Int×List Int×List (List Int)×List (List Bool):=
 ((List.range N).map (fun n=>((kk A n).length:Int)),(List.range N).map fn,(List.range N).map (fun n=>(List.range L).map fun k=>((H2 A n k:Nat):Int)),(List.range N).map fun n=>(List.range 13).map fun b=>G n b)
theorem UC{F n:Nat}{J:JW}{K:BH}{ao ap:Fp}(aI:1000000<F)(W:VJ n J)(U:Cl n K)(aq:K.length≤4)(ai:Nat→Int):
  A5 (iter (Lc F (J,ao) (K,ap) (EO J (DU K) 13)) F ((List.range (K.length+1)).map (fun _=>(0:Int)),(List.range (K.length+1)).map ai,(List.range (K.length+1)).map (fun _=>(List.range K.length).map fun _=>(0:Int)),(List.range (K.length+1)).map (fun _=>(List.range 13).map fun _=>false),0))
   (fun r=>∃fn G,r=Ge (K.length+1) K.length (TT J K) fn G∧Nu J K (EO J (DU K) 13) (TT J K) fn G):=by
 have aJ:=Jv U;have hlen:=QT (k:=13) W (show DU K≤7 by omega);have ar:=Yx W U;have aj:∀t∈EO J (DU K) 13,_:=fun t ht=>(VW W).1 ht;rw [ar];generalize EO J (DU K) 13=all at hlen aj ⊢;have au:∀i,((all.take i).filterMap (EF J K)).length≤454896:=fun i=>Nat.le_trans (List.length_filterMap_le _ _) (by rw [List.length_take];omega);refine Cq all.length (fun i s=>∃fn G,s=((Ge (K.length+1) K.length ((all.take i).filterMap (EF J K)) fn G).1,(Ge (K.length+1) K.length ((all.take i).filterMap (EF J K)) fn G).2.1,(Ge (K.length+1) K.length ((all.take i).filterMap (EF J K)) fn G).2.2.1,(Ge (K.length+1) K.length ((all.take i).filterMap (EF J K)) fn G).2.2.2,(i:Int))∧Nu J K all ((all.take i).filterMap (EF J K)) fn G) ⟨ai,fun _ _=>false,rfl,⟨fun n h=>by simp [kk] at h,fun n b _=>by simp [kk]⟩⟩ (by omega) ?_ ?_
 ·rintro i s hi ⟨fn,G,rfl,V⟩;obtain⟨t,ht⟩:∃t,all[i]? =some t:=⟨_,List.getElem?_eq_getElem hi⟩;obtain⟨a,av,t1,t2,t3⟩:=aj t (List.mem_of_getElem? ht);have ak:=au i;have al:(all.take (i+1)).filterMap (EF J K)=(all.take i).filterMap (EF J K)++(EF J K t).toList:=by
   rw [List.take_add_one,ht,List.filterMap_append];cases h:EF J K t <;> simp [h]
  generalize (all.take i).filterMap (EF J K)=A at V ak al ⊢;rw [al];unfold Lc;refine BI (by simp only;omega) (AI (S:=fun r=>∃fn G,r=Ge (K.length+1) K.length (A++(EF J K t).toList) fn G∧Nu J K all (A++(EF J K t).toList) fn G) ?_ ?_)
  ·refine AP (Ec (m:=i) rfl ht) (AP (U4 (by omega) W U (fun l ag=>by have:=Oq U l ag;omega) (fun y m hm=>t3.range W y m hm)) ?_);by_cases hs:I4 J K t.2=true
   ·have aa:EF J K t=some (t.1,t.2,D5 K 0 t.2):=by unfold EF pick;rw [if_pos hs];rfl
    have aw:(t.1,t.2,D5 K 0 t.2)∈TA J K a:=(OY W U).2 ⟨t1,t2,t3,Jk.1 hs,rfl⟩;have Z:=Rh W U aw;have ay:∀k,(D5 K 0 t.2).testBit k=J9 t.2 K k:=fun k=>QB U (fun l ag=>by have:=Oq U l ag;omega) k;have az:(K.filter (DK t.2)).length≤K.length:=List.length_filter_le _ _;rw [aa,if_pos hs];simp only [Option.toList_some];simp only at Z;generalize aK:(K.filter (DK t.2)).length=O at Z az;generalize am:((t.1,t.2,D5 K 0 t.2):BW)=x at Z aa;have aA:x.2.2=D5 K 0 t.2:=by rw [← am]
    have an:x.1=t.1:=by rw [← am]
    refine Bf (by simp) ?_;unfold Ge;simp only;refine D8 (i:=O) rfl (by omega) (AI (S:=fun q=>q=(List.range (K.length+1)).map fun m=>if m=O∧(kk A O).length=0 then(i:Int) else fn m) ?_ ?_)
    ·refine By (fun h=>?_) (fun h=>?_)
     ·refine D8 (i:=O) rfl (by omega) (Al ?_);have h:(kk A O).length=0:=by omega
      simp only [Int.toNat_natCast];rw [Ir];simp only [h,and_true]
     ·refine Al ?_;have h:¬(kk A O).length=0:=by omega
      simp only [h,and_false,if_false]
    ·rintro q rfl;have aL:(kk A O).length≤454896:=Nat.le_trans (List.length_filter_le _ _) ak;refine D8 (i:=O) rfl (by omega) (AX (((kk A O).length+1:Nat):Int) (by simp) (by omega) (by omega) ?_);refine D8 (i:=O) rfl (by omega) (D8 (i:=O) rfl (by omega) ?_);refine AP (Ec (m:=i) rfl ht) (D8 (i:=a) t1 av ?_);refine AP (Vn (M:=H2 A) (by omega) aq (show O<K.length+1 by omega) (fun k=>by have:=RN A O k;omega)) (Al ⟨fun m=>if m=O∧(kk A O).length=0 then(i:Int) else fn m,fun m b=>if m=O∧b=a then true else G m b,?_,?_⟩)
     ·simp only [t1,Int.toNat_natCast];rw [Ir,Ir,Ir];refine Prod.ext ?_ (Prod.ext rfl (Prod.ext ?_ ?_))
      ·refine List.map_congr_left fun m _=>?_;rw [MD,Z];by_cases e:m=O
       ·subst e;simp
       ·simp [e,Ne.symm e]
      ·refine List.map_congr_left fun m _=>List.map_congr_left fun k _=>?_;rw [UH,Z,aA,ay]
      ·refine List.map_congr_left fun m _=>?_;by_cases e:m=O
       ·subst e;simp
       ·simp [e]
     ·constructor
      ·intro m hm;rw [MD,Z] at hm ⊢;by_cases e:m=O
       ·subst e;simp only [if_true,true_and];by_cases ab:(kk A m).length=0
        ·rw [if_pos ab];have ab:=List.eq_nil_of_length_eq_zero ab;rw [ab];exact⟨i,t,x,rfl,ht,aa,rfl⟩
        ·rw [if_neg ab];obtain⟨q,aB,x',aC,g2,aD,aE⟩:=V.fs m (by omega);exact⟨q,aB,x',aC,g2,aD,by rw [List.getElem?_append_left (by omega)];exact aE⟩
       ·rw [if_neg (fun h=>e h.symm),List.append_nil] at hm;rw [if_neg (fun h=>e h.1),if_neg (fun h=>e h.symm),List.append_nil];exact V.fs m hm
      ·intro m b hb;rw [MD,Z];have hg:=V.gs m b hb;by_cases e:m=O
       ·subst e;simp only [if_true,true_and,List.mem_append,List.mem_singleton];by_cases e2:b=a
        ·subst e2;simp only [if_true,true_iff];exact⟨x,.inr rfl,by rw [an];exact t1⟩
        ·rw [if_neg e2,hg];constructor
         ·rintro⟨y,ah,ae⟩;exact⟨y,.inl ah,ae⟩
         ·rintro⟨y,ah | rfl,ae⟩
          ·exact⟨y,ah,ae⟩
          ·rw [an,t1] at ae;exact absurd (by omega) e2
       ·rw [if_neg (fun h=>e h.1),if_neg (fun h=>e h.symm),List.append_nil,hg]
   ·have aa:EF J K t=none:=by unfold EF pick;rw [if_neg hs];rfl
    rw [aa,if_neg hs];simp only [Option.toList_none,List.append_nil];refine BI rfl (Al ⟨fn,G,rfl,V⟩)
  ·rintro r ⟨aF,aG,rfl,aH⟩;exact AX ((i+1:Nat):Int) (by simp) (by omega) (by omega) (Al ⟨aF,aG,rfl,aH⟩)
 ·rintro s ⟨fn,G,rfl,V⟩;unfold Lc;rw [List.take_length] at V ⊢;exact Bf (by simp only;omega) (Al ⟨_,rfl,fn,G,rfl,V⟩)
theorem Vb{F N L:Nat}{A:List BW}{fn:Nat→Int}{G:Nat→Nat→Bool}(O:100<F)(U:N≤9):
  A5 (iter (K8 F (Ge N L A fn G)) F 0) (fun r=>∃q:Nat,r=(q:Int)∧q≤N∧(∀n,n<q→(kk A n).length=0)∧(q<N→(kk A q).length≠0)):=by
 refine Cq N (fun i s=>s=(i:Int)∧∀n,n<i→(kk A n).length=0) ⟨rfl,by omega⟩ (by omega) ?_ ?_
 ·rintro i s hi ⟨rfl,K⟩;unfold K8 Ge;simp only;refine AP (b:=decide ((kk A i).length=0)) ?_ ?_
  ·refine CV (BI (by simp only [List.length_map,List.length_range];omega) ?_);refine D8 (i:=i) rfl hi (Al ?_);exact decide_eq_decide.2 (by omega)
  refine By (fun h=>?_) (fun h=>?_)
  ·have h:=of_decide_eq_true h;refine AX ((i+1:Nat):Int) (by simp) (by omega) (by omega) ?_;refine Al ⟨rfl,fun n V=>?_⟩;by_cases e:n=i
   ·rw [e];exact h
   ·exact K n (by omega)
  ·have h:¬(kk A i).length=0:=by simpa using h
   exact Al ⟨i,rfl,by omega,K,fun _=>h⟩
 ·rintro s ⟨rfl,K⟩;unfold K8 Ge;simp only;refine AP (b:=false) ?_ ?_
  ·rw [if_neg (by simp)]
  exact Bf (by simp) (Al ⟨_,rfl,N,rfl,by omega,K,by omega⟩)
theorem Ur(J:JW)(K:BH)(k:Nat):(CR J K k).Pairwise (·<·):=by
 unfold CR;rw [List.pairwise_map];exact(List.pairwise_lt_range.filter _).imp fun h=>by omega
def Hk(J:JW)(K:BH)(k b:Nat):Bool:=(TA J K b).any fun t=>decide (CY t<k)
theorem Vj(J:JW)(K:BH)(k:Nat):CR J K k=((List.range 13).filter (Hk J K (k+1))).map fun(a:Nat)=>(a:Int):=by
 unfold CR Hk;simp only [Nat.lt_succ_iff]
theorem VO{F n k N L:Nat}{J:JW}{K:BH}{fn:Nat→Int}{G:Nat→Nat→Bool}(ag:100<F)(U:k<N)(Z:Nu J K (EO J (DU K) 13) (TT J K) fn G):
  iter (Lf F (Ge N L (TT J K) fn G) ((List.range 13).map (Hk J K k),(k:Int))) F ([],(List.range 13).map (Hk J K k),0)=some (CR J K k,(List.range 13).map (Hk J K (k+1))):=by
 refine CV (Cq 13 (fun x s=>s=(((List.range x).filter (Hk J K (k+1))).map (fun(a:Nat)=>(a:Int)),(List.range 13).map (fun b=>if b<x then Hk J K (k+1) b else Hk J K k b),(x:Int))) (by simp) (by omega) ?_ ?_)
 ·rintro x s O rfl;have V:Hk J K (k+1) x=(Hk J K k x || G k x):=by
   rw [Bool.eq_iff_iff,Bool.or_eq_true,Z.gs k x O];unfold Hk;simp only [List.any_eq_true,decide_eq_true_iff,JV];constructor
   ·rintro⟨t,ht,aa⟩;rcases Nat.lt_or_ge (CY t) k with h | h
    ·exact .inl ⟨t,ht,h⟩
    ·exact .inr ⟨t,⟨I3.2 ⟨x,O,ht⟩,by omega⟩,Lb ht⟩
   ·rintro(⟨t,ht,aa⟩ | ⟨t,⟨ht,U⟩,ah⟩)
    ·exact⟨t,ht,by omega⟩
    ·obtain⟨a,ai,W⟩:=I3.1 ht;have:=Lb W;obtain rfl:a=x:=by omega
     exact⟨t,W,by omega⟩
  have ab:((List.range 13).map (fun b=>if b<x then Hk J K (k+1) b else Hk J K k b)).set x (Hk J K (k+1) x)=(List.range 13).map (fun b=>if b<x+1 then Hk J K (k+1) b else Hk J K k b):=by
   rw [Ir];refine List.map_congr_left fun j _=>?_;by_cases e:j=x
   ·rw [if_pos e,if_pos (by omega),e]
   ·rw [if_neg e];by_cases e2:j<x
    ·rw [if_pos e2,if_pos (by omega)]
    ·rw [if_neg e2,if_neg (by omega)]
  unfold Lf Ge;simp only;refine BI (by omega) (D8 (i:=x) rfl O ?_);rw [if_neg (Nat.lt_irrefl x)];refine AP (b:=Hk J K (k+1) x) ?_ ?_
  ·refine CV (By (fun h=>Al ?_) (fun h=>?_))
   ·rw [V,h];rfl
   ·refine D8 (i:=k) rfl U (D8 (i:=x) rfl O (Al ?_));rw [V,show Hk J K k x=false by simpa using h];rfl
  refine D8 (i:=x) rfl O ?_;simp only [Int.toNat_natCast,ab];refine D8 (i:=x) rfl O ?_;rw [if_pos (show x<x+1 by omega)];refine AI (S:=fun c=>c=((List.range (x+1)).filter (Hk J K (k+1))).map (fun(a:Nat)=>(a:Int))) ?_ ?_
  ·rw [List.range_succ,List.filter_append,List.map_append];refine By (fun h=>?_) (fun h=>?_)
   ·refine Ij ?_ (Al ?_)
    ·rw [List.length_map];have:=List.length_filter_le (Hk J K (k+1)) (List.range x);rw [List.length_range] at this;omega
    ·simp [List.filter_cons,h]
   ·refine Al ?_;simp [List.filter_cons,h]
  ·rintro c rfl;exact AX ((x+1:Nat):Int) (by simp) (by omega) (by omega) (Al rfl)
 ·rintro s rfl;unfold Lf;refine Bf (by simp) (Al ⟨_,rfl,?_⟩);rw [Vj];refine Prod.ext rfl (List.map_congr_left fun j ae=>?_);rw [if_pos (List.mem_range.1 ae)]
theorem Zf{c l:Nat}(h:c≤l):vd c l=if c=0 then 2 else if c=l then 1 else 3:=by
 unfold vd;split
 ·rfl
 ·split
  ·rw [if_neg (by omega)]
  ·rw [if_pos (by omega)]
theorem Ys{F:Nat}(av:3489660928<F)(hs:f22 F=some true)(NA:List Int):f17 F NA=some true:=by
 refine CV ?_;unfold f17;refine AP (b:=(NA,0,2685821657736338717)) rfl (AI (Yj (F:=F) (k:=0) (mx:=6) (b:=(NA,0,2685821657736338717)) (by omega) ⟨Int.le_refl _,Int.le_refl _⟩ (by omega) (by omega) (by omega)) ?_);rintro⟨J,b⟩ ⟨⟨n,aY,O⟩,hb⟩;simp only at O hb ⊢;have ae:100<F:=by omega
 have aZ:=O.le;have a0:=O.l1;refine AI (XH (many:=4) ae O hb (by omega) (by omega)) ?_;rintro⟨K,a1⟩ ⟨U,ak,_,_⟩;simp only at U ak ⊢;have a2:=Jv U;refine AP (X8 U) ?_;refine AP (X5 (Y:=DU K+1) (by omega) O (by omega) (by omega)) ?_;rw [Nat.add_sub_cancel];have ah:∀{α:Type} (z:α),Eg ((K.length+1:Nat):Int) z=some (List.replicate (K.length+1) z):=fun z=>by
  unfold Eg;rw [if_pos (by omega)];rfl
 refine AX ((K.length+1:Nat):Int) (by simp) (by omega) (by omega) (AP (ah _) ?_);refine AX ((K.length+1:Nat):Int) (by simp) (by omega) (by omega) (AP (ah _) ?_);refine AX ((K.length+1:Nat):Int) (by simp) (by omega) (by omega) (AP (ah _) ?_);refine AX ((K.length+1:Nat):Int) (by simp) (by omega) (by omega) (AP (ah _) ?_);refine AP (Vt ae rfl ak) ?_;rw [JK];refine AI (UC (by omega) O U ak (fun _=>0)) ?_;rintro r ⟨fn,G,rfl,aw⟩;refine AI (Vb ae (by omega)) ?_;rintro r ⟨q,rfl,a3,aI,ay⟩;have hlen:((Ge (K.length+1) K.length (TT J K) fn G).1).length=K.length+1:=by simp [Ge]
 have a4:(TT J K).length≤13*268435456:=OS U;refine AI (YE (by omega) O U (by omega)) ?_;rintro a5 (⟨V,rfl⟩ | ⟨k,Z,rfl⟩)
 ·refine AI (Se (by omega) O U (by omega)) ?_;rintro aJ (⟨_,rfl⟩ | ⟨k,Z,rfl⟩)
  rotate_left
  ·obtain⟨⟨t,ht,_⟩,_⟩:=Z;rw [V] at ht;simp at ht
  refine AI (Sx (by omega) O U (by omega)) ?_;rintro aK (⟨_,rfl⟩ | ⟨k,t,Z,_⟩)
  rotate_left
  ·obtain⟨⟨t,ht,_⟩,_⟩:=Z;rw [V] at ht;simp at ht
  have aL:q=K.length+1:=by
   rcases Nat.lt_or_ge q (K.length+1) with h | h
   ·have:=ay h;rw [V] at this;simp [kk] at this
   ·omega
  refine BI (by rw [hlen,aL]) (AP (b:=true) (by simp) ?_);refine AP (b:=true) (by simp) (AP (b:=true) (by simp) ?_);refine AP (b:=true) (by simp) (AP (b:=true) ?_ (Al rfl));rw [if_pos rfl,hs];rfl
 ·have aM:=Z;obtain⟨⟨t0,W,az⟩,aA⟩:=aM;have a6:k≤K.length:=by
   obtain⟨a,aN,al⟩:=I3.1 W;rw [← az,Rh O U al];exact List.length_filter_le _ _
  have aO:0<(kk (TT J K) k).length:=List.length_pos_of_mem (JV.2 ⟨W,az⟩);obtain rfl:q=k:=by
   rcases Nat.lt_trichotomy q k with h | h | h
   ·have V:=ay (by omega);obtain⟨t,ht⟩:=List.exists_mem_of_length_pos (Nat.pos_of_ne_zero V);obtain⟨aa,g2⟩:=JV.1 ht;have:=aA t aa;omega
   ·exact h
   ·have:=aI k h;omega
  have am:Dz J K q=kk (TT J K) q:=rfl;refine AI (Se (by omega) O U (by omega)) ?_;rintro aJ (⟨V,_⟩ | ⟨k,ab,rfl⟩)
  ·rw [V] at W;simp at W
  obtain rfl:=Z.uniq ab;refine AI (Sx (by omega) O U (by omega)) ?_;rintro aK (⟨V,_⟩ | ⟨k,t,ab,ht,rfl⟩)
  ·rw [V] at W;simp at W
  obtain rfl:=Z.uniq ab;obtain⟨i,aB,x,aa,g2,ag,aC⟩:=aw.fs q aO;have aP:x=t:=by rw [am,aC] at ht;exact Option.some.inj ht
  subst aP;obtain⟨aQ,e2⟩:x.1=aB.1∧x.2.1=aB.2:=by
   unfold EF pick at ag;split at ag
   ·simp only [Option.map_some] at ag;cases ag;exact⟨rfl,rfl⟩
   ·cases ag
  have aR:x.2.1.length≤20:=by
   obtain⟨a,aN,al⟩:=I3.1 (JV.1 (List.mem_of_getElem? aC)).1;have:=((OY O U).1 al).2.1;omega
  refine Bf (by rw [hlen];omega) (AP (b:=false) (by simp) ?_);refine AP (b:=false) (by simp) (AP (b:=false) (by simp) ?_);refine AP (b:=false) ?_ ?_
  ·refine CV (Bf (by simp) ?_);refine D8 (i:=q) rfl (by omega) (Al ?_);simp [am]
  refine AP (b:=false) ?_ ?_
  ·refine CV (Bf (by simp) ?_);refine D8 (i:=q) rfl (by omega) (AP (Ec (m:=i) aa g2) (Al ?_));simp [aQ]
  refine AP (b:=false) ?_ ?_
  ·refine CV (Bf (by simp) ?_);refine D8 (i:=q) rfl (by omega) (AP (Ec (m:=i) aa g2) ?_);rw [← e2];refine AP (Sf ae aR) (Al rfl)
  refine Bf (by simp) (AI (S:=fun r=>r=Sum.inr ()) ?_ ?_)
  ·refine Cq K.length (fun p s=>s=(p:Int)) rfl (by omega) ?_ ?_
   ·rintro p s an rfl;have hm:=RN (TT J K) q p;have aS:H2 (TT J K) q p≤(kk (TT J K) q).length:=List.length_filter_le _ _;unfold M7;refine BI (by simp only;omega) (D8 (i:=q) rfl (by omega) ?_);refine D8 (i:=p) rfl an (AP (b:=vd (H2 (TT J K) q p) (kk (TT J K) q).length) ?_ ?_)
    ·refine CV ?_;rw [Zf aS];refine By (fun h=>Al ?_) (fun h=>?_)
     ·rw [if_pos (by omega)]
     ·rw [if_neg (by omega)];refine D8 (i:=q) rfl (by omega) (D8 (i:=p) rfl an ?_);refine D8 (i:=q) rfl (by omega) (AI (S:=fun v=>v=if H2 (TT J K) q p=(kk (TT J K) q).length then 1 else 3) ?_ (fun v ao=>Al ao))
      refine By (fun h=>Al ?_) (fun h=>Al ?_)
      ·rw [if_pos (by omega)]
      ·rw [if_neg (by omega)]
    refine AI (Xr av O U (by omega) an) ?_;rintro a7 (⟨V,_⟩ | ⟨k,ab,rfl⟩)
    ·rw [V] at W;simp at W
    obtain rfl:=Z.uniq ab;refine AP (b:=false) ?_ ?_
    ·rw [if_neg (by simp)];exact congrArg some (decide_eq_false (fun h=>h rfl))
    refine Bf (by simp) (AX ((p+1:Nat):Int) (by simp) (by omega) (by omega) ?_);exact Al rfl
   ·rintro s rfl;unfold M7;exact Bf (by simp) (Al ⟨_,rfl,rfl⟩)
  rintro r rfl;rw [Sum.elim_inr];refine AP (b:=List.replicate 13 false) rfl (AI (S:=fun r=>r=Sum.inr ()) ?_ ?_)
  ·refine Cq (K.length+1) (fun k s=>s=((List.range 13).map (Hk J K k),(k:Int))) ?_ (by omega) ?_ ?_
   ·rw [JK];refine Prod.ext (List.map_congr_left fun b _=>?_) rfl;unfold Hk;simp
   ·rintro k s aT rfl;unfold MM;refine BI (by simp only;omega) (AP (VO (n:=n) ae aT aw) ?_);refine AP (X6 (p:=k) (by omega) O U (by omega) (by omega)) ?_;have a8:=UE J K k;have aU:(if CR J K k= [] then(([]:List Int),(11:Int)) else(CR J K k,0))=(CR J K k,if CR J K k= [] then 11 else 0):=by
     by_cases h:CR J K k= []
     ·rw [if_pos h,if_pos h,h]
     ·rw [if_neg h,if_neg h]
    rw [aU];refine AP (Sf (l:=CR J K k) ae (by omega)) (AP (b:=false) ?_ ?_)
    ·rw [if_neg (by simp)];by_cases h:CR J K k= []
     ·simp [h]
     ·have:0<(CR J K k).length:=by cases hh:CR J K k with
       | nil=>exact absurd hh h
       | cons=>simp
      simp [h,this]
    refine AP (b:=false) ?_ ?_
    ·rw [if_neg (by simp)];by_cases h:CR J K k= []
     ·simp [h]
     ·simp [h]
    refine Bf (by simp) (AI (S:=fun r=>r=Sum.inr ()) ?_ ?_)
    ·refine By (fun h=>?_) (fun h=>Al rfl);obtain rfl:k=q:=by simp only at h;omega
     refine AI (Yo av O U (by omega)) ?_;rintro⟨⟨lo,hi⟩,e⟩ (⟨V,_⟩ | ⟨k',ab,aD,⟨u,hu,aE⟩,⟨v,ao,aF⟩,ap⟩)
     ·rw [V] at W;simp at W
     obtain rfl:=Z.uniq ab;simp only at aD aE aF ap;subst aD;have ai:∀y:Int,y∈CR J K k↔∃t∈Dz J K k,t.1=y:=fun y=>by
      rw [US,am];constructor
      ·rintro⟨t,ht,a9,rfl⟩;exact⟨t,JV.2 ⟨ht,by have:=aA t ht;omega⟩,rfl⟩
      ·rintro⟨t,ht,rfl⟩;obtain⟨aa,g2⟩:=JV.1 ht;exact⟨t,aa,by omega,rfl⟩
     have aG:=(ai lo).2 ⟨u,hu,aE⟩;have aV:=(ai hi).2 ⟨v,ao,aF⟩;have aq:0<(CR J K k).length:=List.length_pos_of_mem aG;have aH:=List.pairwise_iff_getElem.1 (Ur J K k);have aW:(CR J K k)[0]=lo:=by
      obtain⟨t,ht,h⟩:=(ai _).1 (List.getElem_mem aq);have aa:=(ap t ht).1;obtain⟨j,ar,au⟩:=List.mem_iff_getElem.1 aG;rcases Nat.eq_zero_or_pos j with rfl | aj
      ·exact au
      ·have:=aH 0 j aq ar aj;omega
     have aX:(CR J K k)[(CR J K k).length - 1]=hi:=by
      obtain⟨t,ht,h⟩:=(ai _).1 (List.getElem_mem (show(CR J K k).length - 1<(CR J K k).length by omega));have aa:=(ap t ht).2;obtain⟨j,ar,au⟩:=List.mem_iff_getElem.1 aV;rcases Nat.lt_or_ge j ((CR J K k).length - 1) with aj | aj
      ·have:=aH j _ ar (show(CR J K k).length - 1<(CR J K k).length by omega) aj;omega
      ·obtain rfl:j=(CR J K k).length - 1:=by omega
       exact au
     refine AP (b:=false) ?_ ?_
     ·refine CV (Bf (by simp) ?_);refine Bv (m:=0) rfl aq (AX (((CR J K k).length - 1:Nat):Int) (by simp only;omega) (by omega) (by omega) ?_);refine Bv (m:=(CR J K k).length - 1) rfl (by simp only;omega) (Al ?_);simp [aW,aX]
     exact Bf (by simp) (Al rfl)
    ·rintro r rfl;rw [Sum.elim_inr];exact AX ((k+1:Nat):Int) (by simp) (by omega) (by omega) (Al rfl)
   ·rintro s rfl;unfold MM;exact Bf (by simp only;omega) (Al ⟨_,rfl,rfl⟩)
  rintro r rfl;rw [Sum.elim_inr,hs];exact Al rfl
end Pal
