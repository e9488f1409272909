/- DebtNumbered: if persons have other numbers: a part (6 of 9) of the proof of its row. -/
import Derived.Test.YtmeophcclkejkaaGreatNue
set_option linter.all false
set_option maxRecDepth 100000
namespace Pal
theorem R7{α β:Type}{f:α->β}{l:List α}(K:l.Nodup)(h:∀a∈l,∀b∈l,f a=f b->a=b):(l.map f).Nodup:=List.pairwise_map.2 (K.imp_of_mem λO hb U e=>U (h _ O _ hb e))
def Ox(x y:Int)(R:List (List PR)):Nat:=R.flatten.countP (λp=>p==(x,y))
def OI(K:List Nat)(T:(Nat->Bool)->Int):(Nat->Bool)->Int:=λA=>T λi=>A (K.getD i 0)
def OE(n:Nat):Nat->List (List Nat)
 | 0=> [[]]
 | k+1=>(List.range n).flatMap λx=>(OE n k).map (x::·)
theorem SQ{n:Nat}:∀{l:List Nat},(∀x∈l,x<n)->l∈OE n l.length
 | [],_=>List.mem_singleton.2 rfl
 | x::l,h=>List.mem_flatMap.2 ⟨x,List.mem_range.2 (h x List.mem_cons_self),List.mem_map.2 ⟨l,SQ λy K=>h y (List.mem_cons_of_mem _ K),rfl⟩⟩
def Gv(n k:Nat):List Nat:=(List.range n).map λi=>if i=k then k+1 else if i=k+1 then k else i
def GH(n:Nat):List Nat->List Nat
 | []=>List.range n
 | k::ws=>(GH n ws).map λi=>(Gv n k).getD i 0
def US(n:Nat):List (List Nat):= [[],[0]].flatMap λa=> [[],[1],[1,0]].flatMap λb=> [[],[2],[2,1],[2,1,0]].filterMap λc=>if(a++b++c).all (λk=>decide (k+1<n))=true then some (a++b++c) else none
theorem Y8:∀n,2<=n->n<=4->((OE n n).all λK=> !decide K.Nodup || (US n).any λw=>decide (GH n w=K))=true
 | 2,_,_ | 3,_,_ | 4,_,_=>by decide+kernel
def UM(n:Nat)(K:List Nat)(L M:List (List PR)):Bool:=
 L.length==M.length&& !M.isEmpty&&(L.headD []).length==(M.headD []).length&&
  (List.range n).all λi=>(List.range n).all λj=>i==j || Ox i j L==Ox ((K.getD i 0:Nat):Int) ((K.getD j 0:Nat):Int) M
def Kf(n k:Nat)(T:(Nat->Bool)->Int):Bool:=
 !(FD n T λ_=>true).isEmpty&&UM n (Gv n k) (FD n T λ_=>true) (FD n (OI (Gv n k) T) λ_=>true)
theorem cB:JH 2 (Kf 2 0)=true:=by decide+kernel
theorem cf:JH 3 (Kf 3 0)=true:=by decide+kernel
theorem bM:JH 3 (Kf 3 1)=true:=by decide+kernel
theorem cJ:JH 4 (Kf 4 0)=true:=by decide+kernel
theorem b7:JH 4 (Kf 4 1)=true:=by decide+kernel
theorem b8:JH 4 (Kf 4 2)=true:=by decide+kernel
theorem Tg{x y:Int}{S:List (List DT)}{R:List (List PR)}(h:FQ S R):cnt x y S=Ox x y R:=by
 unfold cnt Ox
 induction h with
 | nil=>rfl
 | @cons s t O U hm _ K=>
  rw [List.flatten_cons,List.flatten_cons,List.countP_append,List.countP_append,K,← hm.countP_eq,List.countP_map];refine congrArg (·+_) (List.countP_congr λd _=>?_);unfold HE G5;simp
theorem FQ.length{S:List (List DT)}{R:List (List PR)}(h:FQ S R):S.length=R.length:=by
 induction h with
 | nil=>rfl
 | cons _ _ K=>simp [K]
theorem FQ.head{S:List (List DT)}{R:List (List PR)}(h:FQ S R):(S.headD []).length=(R.headD []).length:=by
 cases h with
 | nil=>rfl
 | cons hm _=>exact(List.length_map _).symm.trans hm.length_eq
def EW(K:List Nat)(d:DT):DT:=(((K.getD d.1.toNat 0:Nat):Int),((K.getD d.2.1.toNat 0:Nat):Int),d.2.2)
def s1(A:Nat->Bool)(d:DT):Int:=(if A d.2.1.toNat then d.2.2 else 0)+(if A d.1.toNat then -d.2.2 else 0)
theorem Sy{w:List Int}(hw:w.length=5){i v:Int}(K:0<=i)(O:i<5)(A:Nat->Bool):EV (Fq w i v) A=EV w A+if A i.toNat then v else 0:=by
 unfold EV;rw [G0 hw K O,G0 hw K O,G0 hw K O,G0 hw K O,G0 hw K O];obtain rfl | rfl | rfl | rfl | rfl:i=0∨i=1∨i=2∨i=3∨i=4:=by omega
 ·simp only [show Int.toNat 0=0 from rfl];cases A 0 <;> simp <;> omega
 ·simp only [show Int.toNat 1=1 from rfl];cases A 1 <;> simp <;> omega
 ·simp only [show Int.toNat 2=2 from rfl];cases A 2 <;> simp <;> omega
 ·simp only [show Int.toNat 3=3 from rfl];cases A 3 <;> simp <;> omega
 ·simp only [show Int.toNat 4=4 from rfl];cases A 4 <;> simp <;> omega
theorem Pd(A:Nat->Bool):∀(l:List DT) (w:List Int),(∀d∈l,(0<=d.1/\d.1<5)/\0<=d.2.1/\d.2.1<5)->w.length=5->EV (l.foldl I6 w) A=EV w A+(l.map (s1 A)).sum
 | [],w,_,_=>by simp
 | d::l,w,h,hw=>by
  obtain⟨⟨a1,K⟩,O,U⟩:=h d List.mem_cons_self
  rw [List.foldl_cons,Pd A l _ (λx Y=>h x (List.mem_cons_of_mem _ Y)) (YA hw),List.map_cons,List.sum_cons]
  unfold I6 s1
  rw [Sy (by unfold Fq;rw [List.length_set];exact hw) a1 K,Sy hw O U]
  omega
theorem VO.UU{o:OW}(h:VO o):∀d∈o.2,(0<=d.1/\d.1<5)/\0<=d.2.1/\d.2.1<5:=λd hd=>by
 have K:=h.n5
 obtain⟨a1,O,U,Y,-⟩:=h.ds d hd;omega
theorem YV{o x:OW}{K:List Nat}(h:VO o)(U:VO x)(e:x.2=o.2.map (EW K))(A:Nat->Bool):EV (CH x) A=EV (CH o) λi=>A (K.getD i 0):=by
 unfold CH;rw [Pd A _ _ U.UU (by simp),Pd _ _ _ h.UU (by simp),e,List.map_map];have O:∀B:Nat->Bool,EV (List.replicate 5 0) B=0:=λB=>by simp [EV,gN]
 rw [O,O];congr 2
structure PN (n:Nat) (K:List Nat):Prop where
 len:K.length=n
 nd:K.Nodup
 lt:∀x∈K,x<n
theorem PN.get{n:Nat}{K:List Nat}(h:PN n K){i:Nat}(hi:i<n):K.getD i 0<n:=by
 rw [List.getD_eq_getElem?_getD,List.getElem?_eq_getElem (by rw [h.len];exact hi)];exact h.lt _ (List.getElem_mem _)
theorem PN.inj{n:Nat}{K:List Nat}(h:PN n K){i j:Nat}(hi:i<n)(O:j<n)(e:K.getD i 0=K.getD j 0):i=j:=by
 have U:=h.len;rw [List.getD_eq_getElem?_getD,List.getD_eq_getElem?_getD,List.getElem?_eq_getElem (by omega),List.getElem?_eq_getElem (by omega)] at e;exact(List.getElem_inj h.nd).1 e
theorem Qv{o:OW}{U:List Nat}{K:A6}(h:VO o)(O:PN o.1.length U)(Y:K.length=o.1.length)(Z:∀x∈K,CS x):VO (K,o.2.map (EW U)):=by
 have n2:=h.n2;have n5:=h.n5;refine⟨by simp only;omega,by simp only;omega,Z,by simp only [List.length_map];exact h.d8,λd hd=>?_⟩;obtain⟨e,he,rfl⟩:=List.mem_map.1 hd;obtain⟨a1,am,ap,aq,ac,ag,al⟩:=h.ds e he;have av:=O.get (i:=e.1.toNat) (by omega);have g2:=O.get (i:=e.2.1.toNat) (by omega);simp only [VD,EW,Y];refine⟨by omega,by omega,by omega,by omega,λq=>ac ?_,ag,al⟩;have:=O.inj (i:=e.1.toNat) (j:=e.2.1.toNat) (by omega) (by omega) (by omega);omega
def OF(n:Nat)(o x:OW)(K:List Nat):Prop:=Dw o≠ []/\Dw x≠ []/\(Dw o).length=(Dw x).length/\((Dw o).headD []).length=((Dw x).headD []).length/\∀i j:Nat,i<n->j<n->i≠j->cnt i j (Dw o)=cnt ((K.getD i 0:Nat):Int) ((K.getD j 0:Nat):Int) (Dw x)
theorem Uu{n k:Nat}(U:k+1<n):PN n (Gv n k):=by
 refine⟨by simp [Gv],?_,λx K=>?_⟩
 ·unfold Gv;refine R7 List.nodup_range λa O b hb h=>?_
  (repeat' split at h) <;> omega
 ·unfold Gv at K;obtain⟨a,O,rfl⟩:=List.mem_map.1 K;have:=List.mem_range.1 O;split
  ·omega
  ·split <;> omega
theorem TQ{o:OW}{k:Nat}(h:VO o)(am:o.1.length<=4)(ap:k+1<o.1.length):OF o.1.length o (o.1,o.2.map (EW (Gv o.1.length k))) (Gv o.1.length k):=by
 have aq:=Uu ap;have Z:VO (o.1,o.2.map (EW (Gv o.1.length k))):=Qv h aq V h.cs;obtain⟨-,hw⟩:=Mk (F:=101) (by omega) h;obtain⟨-,av⟩:=Mk (F:=101) (by omega) Z;have ac:=YY h;have U:=XM h;unfold KV at U;rw [ac 4 (by omega),Int.add_zero] at U;have a4:=h.n2;have aw:JH o.1.length (Kf o.1.length k)=true:=by
  obtain⟨e,rfl⟩ | ⟨e,rfl⟩ | ⟨e,rfl⟩ | ⟨e,rfl⟩ | ⟨e,rfl⟩ | ⟨e,rfl⟩:(o.1.length=2/\k=0)∨(o.1.length=3/\k=0)∨(o.1.length=3/\k=1)∨(o.1.length=4/\k=0)∨(o.1.length=4/\k=1)∨(o.1.length=4/\k=2):=by omega
  all_goals rw [e]
  ·exact cB
  ·exact cf
  ·exact bM
  ·exact cJ
  ·exact b7
  ·exact b8
 obtain⟨T,Y,ag⟩:=Wj aw hw.1 ac am U;have ay:∀A,OI (Gv o.1.length k) T A=sg (EV (CH (o.1,o.2.map (EW (Gv o.1.length k)))) A):=λA=>by
  unfold OI;rw [ag,YV h Z rfl]
 have K:FQ (Dw o) (FD o.1.length T λ_=>true):=T1 h.n5 hw.1 ag;have O:FQ (Dw (o.1,o.2.map (EW (Gv o.1.length k)))) (FD o.1.length (OI (Gv o.1.length k) T) λ_=>true):=T1 (P:=λ_=>true) (n:=o.1.length) h.n5 av.1 ay;unfold Kf at Y;rw [Bool.and_eq_true] at Y;obtain⟨t0,t2⟩:=Y;unfold UM at t2;simp only [Bool.and_eq_true] at t2;obtain⟨⟨⟨a1,al⟩,az⟩,a0⟩:=t2;refine⟨λq=>?_,λq=>?_,?_,?_,λi j hi a2 a3=>?_⟩
 ·have:=K.PF;rw [q] at this;rw [← this] at t0;cases t0
 ·have:=O.PF;rw [q] at this;rw [← this] at al;cases al
 ·rw [K.length,O.length];exact eq_of_beq a1
 ·rw [K.head,O.head];exact eq_of_beq az
 ·have:=List.all_eq_true.1 (List.all_eq_true.1 a0 i (List.mem_range.2 hi)) j (List.mem_range.2 a2);rw [Bool.or_eq_true,beq_iff_eq,beq_iff_eq] at this;rw [Tg K,Tg O];exact this.resolve_left a3
theorem getD_map{f:Nat->Nat}{l:List Nat}{i:Nat}(h:i<l.length):(l.map f).getD i 0=f (l.getD i 0):=by
 rw [List.getD_eq_getElem?_getD,List.getD_eq_getElem?_getD,List.getElem?_map,List.getElem?_eq_getElem h];rfl
theorem TH{n:Nat}(ap:n<=4):∀(ws:List Nat),(∀k∈ws,k+1<n)->PN n (GH n ws)/\∀o:OW,VO o->o.1.length=n->Dw o≠ []->OF n o (o.1,o.2.map (EW (GH n ws))) (GH n ws)
 | [],_=>by
  have ay:PN n (GH n []):=⟨by simp [GH],List.nodup_range,λx O=>List.mem_range.1 O⟩
  refine⟨ay,λo U Y ac=>?_⟩
  have K:∀i,i<n->(GH n []).getD i 0=i:=λi hi=>by
   show(List.range n).getD i 0=i
   rw [List.getD_eq_getElem?_getD,List.getElem?_range hi];rfl
  have e:o.2.map (EW (GH n []))=o.2:=by
   refine(List.map_congr_left λd hd=>?_).trans (List.map_id _);obtain⟨a1,az,ag,a0,-⟩:=U.ds d hd;unfold EW;rw [K _ (by omega),K _ (by omega)];obtain⟨x,y,z⟩:=d;simp only at a1 ag ⊢;rw [Int.toNat_of_nonneg a1,Int.toNat_of_nonneg ag];rfl
  rw [e];exact⟨ac,ac,V,V,λi j hi Z _=>by rw [K i hi,K j Z]⟩
 | k::ws,h=>by
  obtain⟨ip,a2⟩:=TH ap ws λx O=>h x (List.mem_cons_of_mem _ O);have aq:=h k List.mem_cons_self;have av:=Uu aq;have K:∀i,i<n->(GH n (k::ws)).getD i 0=(Gv n k).getD ((GH n ws).getD i 0) 0:=λi hi=>getD_map (by rw [ip.len];exact hi);refine⟨⟨by show(List.map _ _).length=n;rw [List.length_map,ip.len],?_,λx O=>?_⟩,λo U Y ac=>?_⟩
  ·exact R7 ip.nd λa al b hb e=>av.inj (ip.lt a al) (ip.lt b hb) e
  ·obtain⟨a,al,rfl⟩:=List.mem_map.1 O;exact av.get (ip.lt a al)
  ·have O:VO (o.1,o.2.map (EW (GH n ws))):=Qv U (by rw [Y];exact ip) rfl U.cs;obtain⟨a3,a7,a4,a5,a6⟩:=a2 o U Y ac;obtain⟨-,c2,c3,c4,am⟩:=TQ (o:=(o.1,o.2.map (EW (GH n ws)))) (k:=k) O (by rw [Y];exact ap) (by rw [Y];exact aq);simp only [Y] at c2 c3 c4 am;have e:(o.2.map (EW (GH n ws))).map (EW (Gv n k))=o.2.map (EW (GH n (k::ws))):=by
    rw [List.map_map];refine List.map_congr_left λd hd=>?_;obtain⟨a1,az,ag,a0,-⟩:=U.ds d hd;unfold EW;simp only [Function.comp,Int.toNat_natCast];rw [K _ (by omega),K _ (by omega)]
   rw [e] at c2 c3 c4 am;refine⟨a3,c2,a4.trans c3,a5.trans c4,λi j hi Z aw=>?_⟩;rw [a6 i j hi Z aw,am _ _ (ip.get hi) (ip.get Z) (λq=>aw (ip.inj hi Z q)),K i hi,K j Z]
theorem ZP{o:OW}(h:VO o)(K:o.1.length<=4):Dw o≠ []:=by
 have:=h.n2;exact(TQ (k:=0) h K (by omega)).1
theorem ba{o x:OW}{K:List Nat}(h:VO o)(O:o.1.length<=4)(ac:x.1.length=o.1.length)(U:PN o.1.length K)(e:x.2=o.2.map (EW K)):OF o.1.length o x K:=by
 have ag:K∈OE o.1.length o.1.length:=by
  have:=SQ U.lt
  rwa [U.len] at this
 have t2:=List.all_eq_true.1 (Y8 o.1.length h.n2 O) K ag;rw [decide_eq_true U.nd] at t2;simp only [Bool.not_true,Bool.false_or] at t2;obtain⟨ws,hw,Y⟩:=List.any_eq_true.1 t2;have Y:=of_decide_eq_true Y;have Z:∀k∈ws,k+1<o.1.length:=by
  unfold US at hw;obtain⟨a,-,hw⟩:=List.mem_flatMap.1 hw;obtain⟨b,-,hw⟩:=List.mem_flatMap.1 hw;obtain⟨c,-,hw⟩:=List.mem_filterMap.1 hw;split at hw
  ·rename_i al;cases hw;exact λk Z=>of_decide_eq_true (List.all_eq_true.1 al k Z)
  ·cases hw
 have:=(TH O ws Z).2 o h V (ZP h O);rw [Y] at this;have e2:Dw x=Dw (o.1,o.2.map (EW K)):=by
  show FW _ _ _=FW _ _ _;unfold CH;rw [ac,e]
 unfold OF at this ⊢;rw [e2];exact this
theorem Yy:∀l:List (List DT),l≠ []->Mx l∈l:=by
 have:∀l:List (List DT),l= []∨((l.foldl G2 ([],false)).1∈l/\(l.foldl G2 ([],false)).2=true):=by
  refine Mh (.inl V) λl x h=> .inr ?_;rw [List.foldl_append];show(G2 _ x).1∈l++ [x]/\(G2 _ x).2=true;rcases h with rfl | ⟨K,O⟩
  ·exact⟨by simp [G2],V⟩
  ·unfold G2;split
   ·exact⟨by simp,V⟩
   ·exact⟨List.mem_append_left _ K,O⟩
 intro l U;rcases this l with h | ⟨h,_⟩
 ·exact absurd h U
 ·exact h
theorem Sr{o:OW}(h:VO o)(K:Dw o≠ []):(Mx (Dw o)).length=((Dw o).headD []).length:=by
 obtain⟨_,k,_,O⟩:=Sb h λ_=>true;rw [O _ (Yy _ K)];have:(Dw o).headD []∈Dw o:=by
  cases U:Dw o with
  | nil=>exact absurd U K
  | cons s S=>exact List.mem_cons_self
 exact(O _ this).symm
def de(a b:Nat):Int:=if(a:Int)=0 then 2 else if(a:Int)<b then 3 else 1
theorem Se{F:Nat}{o:OW}{x y:Int}(O:3000<F)(K:VO o)(U:0<=x/\x<o.1.length)(Y:0<=y/\y<o.1.length)(Z:x≠y):f50 F o x y=some (de (cnt x y (Dw o)) (Dw o).length,0):=by
 refine El ?_;obtain⟨s1,m,hm,s2⟩:=Sb K λ_=>true;unfold f50;refine Bq (bC O K U Y Z) (BV (by simp) ?_);refine Bq (Qu (by omega) K) (Bu (Y1 (by omega) s1 λs ac=>by rw [s2 s ac];omega) ?_);rintro r rfl;exact Bq (ZV _ _ _) (Ay V)
theorem Zj{F k:Nat}{b:H9}{n:Nat}(ay:100<F)(hb:BG k b)(az:k<1000)(a0:n<=5):BM (f49 F b (n:Int)) (λr=>∃O,PN n O/\r.1=O.map λi:Nat=>(i:Int)):=by
 unfold f49;refine Bu (S:=λr=>∃O,PN n O/\r.1=O.map λi:Nat=>(i:Int)) ?_ (λr ag=>Ay ag);refine DX n (λi s=>s.2.2.2.2=(i:Int)/\BG (k+i) (s.1,s.2.1,s.2.2.1)/\s.2.2.2.1.Perm ((List.range i).map λi:Nat=>(i:Int))) ⟨V,hb,.refl _⟩ (by omega) ?_ ?_
 ·rintro i ⟨l,t,al,w,z⟩ hi ⟨U,Y,K⟩;simp only at U Y K;subst U;have am:w.length=i:=by rw [K.length_eq];simp
  unfold NU;refine CK (by simp only;omega) (Bu (KH Y (by omega) (by simp only;omega)) ?_);rintro⟨j,a1⟩ ⟨ap,aq,g2⟩;simp only at ap aq g2 ⊢;obtain⟨j,rfl⟩:∃m:Nat,j=(m:Int):=⟨j.toNat,by omega⟩;have a2:j<=i:=by omega
  refine La (by omega) ?_;have a3:(w++ [(i:Int)]).length=i+1:=by simp [am]
  refine C7 (m:=j) V (by omega) (C7 (m:=i) V (by omega) ?_);refine C7 (m:=j) V (by rw [List.length_set];omega) (BB ((i+1:Nat):Int) (by simp) (by omega) (by omega) ?_);refine Ay ⟨V,g2,?_⟩;simp only;rw [show Int.toNat (i:Int)=i by omega,show Int.toNat (j:Int)=j by omega];have av:(w++ [(i:Int)])[i]'(by omega)=(i:Int):=by
   rw [List.getElem_append_right (by omega)];simp
  have aw:(((w++ [(i:Int)]).set i ((w++ [(i:Int)])[j]'(by omega))).set j (i:Int)).Perm (w++ [(i:Int)]):=by
   have:=List.set_set_perm (show i<(w++ [(i:Int)]).length by omega) (show j<(w++ [(i:Int)]).length by omega);rw [av] at this;exact this
  refine aw.trans ?_;rw [List.range_succ,List.map_append];exact K.append_right _
 ·rintro⟨l,t,al,w,z⟩ ⟨U,Y,K⟩;simp only at U Y K;subst U;unfold NU;refine BV (by simp only;omega) (Ay ⟨_,V,w.map Int.toNat,?_,?_⟩)
  ·have Z:(w.map Int.toNat).Perm (List.range n):=by
    have:=K.map Int.toNat;rw [List.map_map] at this;have e:(Int.toNat∘λi:Nat=>(i:Int))=id:=by funext i;simp
    rwa [e,List.map_id] at this
   exact⟨by rw [Z.length_eq];simp,Z.nodup_iff.2 List.nodup_range,λx ac=>List.mem_range.1 (Z.mem_iff.1 ac)⟩
  ·simp only;rw [List.map_map];refine(List.map_id _).symm.trans (List.map_congr_left λx ac=>?_);obtain⟨y,-,rfl⟩:=List.mem_map.1 (K.mem_iff.1 ac);simp
theorem Y7{F:Nat}{o:OW}(K:100<F)(h:NV 40 o):OB F o=some o:=aE K h
theorem LJ{n:Nat}{K:List Nat}(h:PN n K){i:Nat}(hi:i<n):(K.map λi:Nat=>(i:Int))[i]? =some ((K.getD i 0:Nat):Int):=by
 rw [List.getElem?_map,List.getD_eq_getElem?_getD,List.getElem?_eq_getElem (by rw [h.len];exact hi)];rfl
theorem XJ{F:Nat}{o:OW}{b b':H9}{U:List Nat}(al:100<F)(h:VO o)(Y:PN o.1.length U):
  BM (Pal.iter (Mq F (o,b) (U.map (λi:Nat=>(i:Int)),b')) F (o.1,0)) (λac=>ac.length=o.1.length/\∀x∈ac,CS x):=by
 have am:=h.n5;have ap:=Y.len;refine DX o.1.length (λi s=>s.2=(i:Int)/\s.1.length=o.1.length/\∀x∈s.1,CS x) ⟨V,V,h.cs⟩ (by omega) ?_ ?_
 ·rintro i ⟨y,z⟩ hi ⟨K,O,ag⟩;simp only at K O ag;subst K;have aq:=Y.get hi;unfold Mq;refine CK (by simp only [List.length_map];omega) ?_;simp only;refine Bq (FM V (LJ Y hi)) (C7 (m:=U.getD i 0) V (by omega) ?_);refine Bq (FM V (LJ Y hi)) (C7 (m:=i) V hi ?_);refine C7 (m:=U.getD i 0) V (by omega) (BB ((i+1:Nat):Int) (by simp) (by omega) (by omega) ?_);refine Ay ⟨V,by simp only;rw [List.length_set];exact O,λx Z=>?_⟩;rcases List.mem_or_eq_of_mem_set Z with Z | rfl
  ·exact ag x Z
  ·exact h.cs _ (List.getElem_mem hi)
 ·rintro⟨y,z⟩ ⟨K,O⟩;simp only at K O;subst K;unfold Mq;exact BV (by simp only [List.length_map];omega) (Ay ⟨_,V,O⟩)
theorem XX{F:Nat}{o:OW}{b b':H9}{K:List Nat}(ag:100<F)(h:VO o)(Y:PN o.1.length K):
  Pal.iter (Mp F (o,b) (K.map (λi:Nat=>(i:Int)),b')) F (o.2,0)=some (o.2.map (EW K)):=by
 refine El ?_;have al:=h.d8;refine DX o.2.length (λi s=>s.2=(i:Int)/\s.1=(o.2.take i).map (EW K)++o.2.drop i) ⟨V,by simp⟩ (by omega) ?_ ?_
 ·rintro i ⟨y,c⟩ hi ⟨U,O⟩;simp only at U O;subst U;have hlen:y.length=o.2.length:=by rw [O];simp;omega
  have Z:y[i]? =some o.2[i]:=by
   rw [O,List.getElem?_append_right (by rw [List.length_map,List.length_take];omega),List.getElem?_drop];simp only [List.length_map,List.length_take];rw [show i+(i - min i o.2.length)=i by omega,List.getElem?_eq_getElem hi]
  obtain⟨a1,am,ap,aq,-⟩:=h.ds _ (List.getElem_mem hi);have ac:ix (K.map λi:Nat=>(i:Int)) o.2[i].1=some ((K.getD o.2[i].1.toNat 0:Nat):Int):=FM (m:=o.2[i].1.toNat) (by omega) (LJ Y (by omega));have e2:ix (K.map λi:Nat=>(i:Int)) o.2[i].2.1=some ((K.getD o.2[i].2.1.toNat 0:Nat):Int):=FM (m:=o.2[i].2.1.toNat) (by omega) (LJ Y (by omega));unfold Mp;refine CK (by simp only;omega) ?_;simp only;refine Bq (FM V Z) (C7 (m:=i) V hi ?_);refine Bq ac (C7 (m:=i) V hi ?_);refine Bq e2 (Bq (FM V Z) ?_);refine Bq (b:=(((K.getD o.2[i].1.toNat 0:Nat):Int),o.2[i].2.1,o.2[i].2.2)) (FM V (by rw [show Int.toNat (i:Int)=i by omega,List.getElem?_set_self (by omega)])) ?_;refine BB ((i+1:Nat):Int) (by simp) (by omega) (by omega) (Ay ⟨V,?_⟩);simp only;rw [show Int.toNat (i:Int)=i by omega,List.set_set,O,List.set_append,if_neg (by rw [List.length_map,List.length_take];omega),List.drop_eq_getElem_cons hi,List.take_add_one,List.getElem?_eq_getElem hi];simp only [List.length_map,List.length_take,Option.toList_some,List.map_append,List.map_cons,List.map_nil,List.append_assoc,List.cons_append,List.nil_append];rw [show i - min i o.2.length=0 by omega,List.set_cons_zero]
  rfl
 ·rintro⟨y,c⟩ ⟨U,O⟩;simp only at U O;subst U;unfold Mp;refine BV (by simp only;omega) (Ay ⟨_,V,?_⟩);simp only [O];simp
theorem Zh{F:Nat}(al:3000<F)(az:f18 F=some true)(QG:List Int):f11 F QG=some true:=by
 refine El ?_;unfold f11;refine Bq (b:=(QG,0,2685821657736338717)) V (Bu (Z5 (pm:=4) (dm:=6) (by omega) (k:=0) ⟨Int.le_refl _,Int.le_refl _⟩ (by omega) (by omega) (by omega) (by omega)) ?_);rintro⟨o,a4⟩ ⟨K,am,hd,ap⟩;simp only at K am hd ap ⊢;refine Bu (Zj (by omega) ap (by omega) (by omega)) ?_;rintro⟨or,a5⟩ ⟨ag,O,aq⟩;simp only at aq;subst aq;refine Bq (Y7 (by omega) K.nv) (Bu (XJ (by omega) K O) ?_);rintro av ⟨U,a0⟩;refine Bq (XX (by omega) K O) ?_;have Y:VO (av,o.2.map (EW ag)):=Qv K O U a0;obtain⟨a1,n1,n2,a2,a3⟩:=ba (x:=(av,o.2.map (EW ag))) K am U O V;refine Bq (Uj (by omega) K) (Bq (Uj (by omega) Y) ?_);refine Bq (TG (by omega) K) (Bq (TG (by omega) Y) ?_);rw [Sr K a1,Sr Y n1,n2,a2];refine Bu (S:=λc=>c=false) (BV (by simp) (Ay (by simp))) ?_;rintro c rfl;refine Bu (S:=λc=>c=false) (BV (by simp) (Ay (by simp))) ?_;rintro c rfl;refine Bu (S:=λc=>c=false) (BV (by simp) (Ay (by simp))) ?_;rintro c rfl;refine Bu (S:=λc=>c=false) (BV (by simp) (Ay (by simp))) ?_;rintro c rfl;refine Bu (S:=λc=>c=false) (BV (by simp) (Ay (by simp))) ?_;rintro c rfl;refine BV (by simp) ?_;have a6:=K.n5;have Z:(ag.map λi:Nat=>(i:Int)).length=o.1.length:=by rw [List.length_map,O.len]
 refine Bu (S:=λq=>q=Sum.inr ()) ?_ ?_
 ·refine DX o.1.length (λi s=>s=(i:Int)) V (by omega) ?_ ?_
  ·rintro i s hi rfl;unfold NM;refine CK (by simp only [Z];omega) (Bu (S:=λq=>q=Sum.inr ()) ?_ ?_)
   ·refine DX o.1.length (λi s=>s=(i:Int)) V (by omega) ?_ ?_
    ·rintro j s ac rfl;unfold NR;refine CK (by simp only [Z];omega) (Bu (S:=λq=>q=Sum.inr ()) ?_ ?_)
     ·refine Cn (λ_=>Ay V) (λaw=>?_);have ay:i≠j:=λe=>aw (by rw [e]);have a7:=O.get hi;have a8:=O.get ac;refine Bq (Se al K (by simp only;omega) (by simp only;omega) aw) (Bq (FM V (LJ O hi)) ?_);refine Bq (FM V (LJ O ac)) (Bq (Se al Y (by simp only [U];omega) (by simp only [U];omega) (λe=>ay (O.inj hi ac (by omega)))) ?_);rw [n2,a3 i j hi ac ay];refine Bu (S:=λc=>c=false) (BV (by simp) (Ay (by simp))) ?_;rintro c rfl;refine Bu (S:=λc=>c=false) (BV (by simp) (Ay (by simp))) ?_;rintro c rfl;exact BV (by simp) (Ay V)
     ·rintro q rfl;rw [Sum.elim_inr];exact BB ((j+1:Nat):Int) (by simp) (by omega) (by omega) (Ay V)
    ·rintro s rfl;unfold NR;exact BV (by simp only [Z];omega) (Ay ⟨_,V,V⟩)
   ·rintro q rfl;rw [Sum.elim_inr];exact BB ((i+1:Nat):Int) (by simp) (by omega) (by omega) (Ay V)
  ·rintro s rfl;unfold NM;exact BV (by simp only [Z];omega) (Ay ⟨_,V,V⟩)
 ·rintro q rfl;rw [Sum.elim_inr];exact Bq az (Ay V)
end Pal
