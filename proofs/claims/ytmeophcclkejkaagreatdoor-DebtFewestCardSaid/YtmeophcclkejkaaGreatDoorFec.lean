/- DebtFewest states that the payments of Fewest are right and in order: a part (3 of 9) of the proof of its row. -/
import Derived.Test.YtmeophcclkejkaaGreatDoorFea
import Derived.Test.YtmeophcclkejkaaGreatDoorFeb
import Derived.Test.YtmeophcclkejkaaGreatDoorProg
import Derived.ProofKit
set_option linter.all false
set_option maxRecDepth 100000
namespace Pal
open Go Go.Conc
variable {P:Program}
section
variable (J:Judge P)(Q:Gs_)(b:Frame)(ds:Ld_)(ops:Ao_)(k:Li_)(cs:Lf_)(X D D0:Nat->Bool)
def JB:Nat->Array Bool->Av_->St->Prop
 | 0,listed,T,s=>Region.ready .any ops listed= []/\J.ok Q (G (fr b T ds (.inRegion ops []::k)) cs) s
 | fuel+1,listed,T,s=>
  Region.ready .any ops listed≠ []/\s.q=false/\∀i∈Region.ready .any ops listed,∀o,ops[i]? =some o->(∀c,o.op≠ .defer c)/\
   (Region.wanted o (yielded ops T)=false->JB fuel (Bb listed i) (CQ T o.dst undef) s)/\
   (Region.wanted o (yielded ops T)=true->X i=true->lp P (execOp (Bx T) o) s (λK s'=>(∀x u,D0 x=true->s.get x=some u->s'.get x=some u)/\match K with
    | .value v=>JB fuel (Bb listed i) (CQ T o.dst v) s'
    | .skip=>JB fuel (Bb listed i) (CQ T o.dst undef) s'
    | _=>False) (λ_ _=>False))/\
   (Region.wanted o (yielded ops T)=true->X i=false->lp P (execOp (Bx T) o) (Bp D s) (λK s'=>match K with
    | .value v=>JB fuel (Bb listed i) (CQ T o.dst v) (Cr D s s')
    | .skip=>JB fuel (Bb listed i) (CQ T o.dst undef) (Cr D s s')
    | _=>False) (λ_ _=>False))
variable {J Q b ds ops k cs X D D0}
theorem ZH(Z:b.kind≠ .early):∀(fuel t:Nat) (listed:Array Bool) (T:Av_) (s:St),JB J Q b ds ops k cs X D D0 fuel listed T s->
  J.ok Q (G (fr b T ds (.inRegion ops (Region.linearise.go .any ops fuel t listed [])::k)) cs) s:=by
 intro fuel
 induction fuel with
 | zero=>intro t listed T s h;simpa [Region.linearise.go] using h.2
 | succ fuel O=>
  intro t listed T s h;obtain⟨al,am,h⟩:=h;obtain⟨i,hi⟩:∃i,(Region.ready .any ops listed)[t % (Region.ready .any ops listed).length]? =some i:=by
   have:0<(Region.ready .any ops listed).length:=List.length_pos_iff.2 al;exact⟨_,List.getElem?_eq_getElem (Nat.mod_lt _ this)⟩
  have ac:=List.mem_of_getElem? hi;have hgo:Region.linearise.go .any ops (fuel+1) t listed []=i::Region.linearise.go .any ops fuel (t / (Region.ready .any ops listed).length) (Bb listed i) []:=by
   simp only [Region.linearise.go];change (match(Region.ready .any ops listed)[t % (Region.ready .any ops listed).length]? with
    | some i=>Region.linearise.go .any ops fuel (t / (Region.ready .any ops listed).length) (listed.setIfInBounds i true) [i]
    | none=> [].reverse)=_
   rw [hi];simp only;rw [linearise_go_acc];rfl
  rw [hgo];obtain⟨_,o,U,_⟩:=mem_ready.1 ac;obtain⟨hd,ap,aq,av⟩:=h i ac o U;cases hw:Region.wanted o (yielded ops T) with
  | false=>exact Judge.unwanted U hw (O _ _ _ _ (ap hw))
  | true=>
   cases ag:X i with
   | true=>
    refine Judge.oper U hw Z (.inr hd) (Ej _ (aq hw ag) ?_ (λ_ _ h=>h.elim));rintro Y s' ⟨_,K⟩;cases Y with
    | value v=>exact O _ _ _ _ K
    | skip=>exact O _ _ _ _ K
    | _=>exact K.elim
   | false=>
    refine Judge.T5 D U hw Z hd am (Ej _ (av hw ag) ?_ (λ_ _ h=>h));intro Y s' K;cases Y with
    | value v=>exact O _ _ _ _ K
    | skip=>exact O _ _ _ _ K
    | _=>exact K.elim
def waitAll(ops:Ao_)(X:Nat->Bool)(i:Nat):Bool:=(List.range ops.size).all λj=> !X j || waits ops ops.size j i
theorem ar{D:Nat->Bool}{s s':St}(K:s'.E=(Bp D s).E){x:Nat}{o:Obj}(h:s.E x=some o):(Cr D s s').E x=some o:=by
 by_cases hd:D x
 ·simp [Cr,hd,h]
 ·have:=congrFun K x;simp [Bp,hd] at this;simp [Cr,hd,this,h]
theorem ZT{D0 D:Nat->Bool}{s:St}(h:∀x,D0 x=true->D x=true):∀x o,(Bp D0 s).E x=some o->(Bp D s).E x=some o:=λx o K=>by
 simp only [Bp] at K ⊢
 split
 ·split at K
  ·exact K
  ·unfold St.get;rw [K]
 ·rename_i hd;rw [if_neg (λe=>hd (h x e))] at K;exact K
theorem fI{D0:Nat->Bool}{s s':St}(h:∀x o,(Bp D0 s).E x=some o->s'.E x=some o):∀x o,s.E x=some o->s'.E x=some o:=λx o K=>h x o (by
 simp only [Bp];split
 ·unfold St.get;rw [K]
 ·exact K)
theorem ZJ{D0:Nat->Bool}{s s':St}(h:∀x u,D0 x=true->s.get x=some u->s'.get x=some u)(O:s'.E=s.E):∀x o,(Bp D0 s).E x=some o->(Bp D0 s').E x=some o:=λx o K=>by
 simp only [Bp] at K ⊢
 split
 ·rename_i hd;rw [if_pos hd] at K;exact h x o hd K
 ·rename_i hd;rw [if_neg hd] at K;rw [O];exact K
theorem RX{D0 D:Nat->Bool}{s s':St}(h:∀x,D0 x=true->D x=true)(O:s'.E=(Bp D s).E):∀x o,(Bp D0 s).E x=some o->(Bp D0 (Cr D s s')).E x=some o:=λx o K=>by
 simp only [Bp] at K ⊢
 split
 ·rename_i hd;rw [if_pos hd] at K
  unfold St.get Cr;simp only [h x hd,if_true];exact K
 ·rename_i hd;rw [if_neg hd] at K;exact ar O K
theorem TE{i:Nat}{oi:Oper}{w pure:Bool}{v:Value}(bz:∀x,D0 x=true->D x=true)(hi:ops[i]? =some oi)(c4:X i=false)(ce:(pure || waitAll ops X i)=true)(c5:Region.noSelect ops=true)(c6:∀c,oi.op≠ .defer c):
  ∀(fuel:Nat) (listed:Array Bool) (T:Av_) (s:St),Ja ops listed i oi=true->Ic ops listed=true->listed.size=ops.size->i∈Region.ready .any ops listed->s.q=false->Region.wanted oi (yielded ops T)=w->
   (w=true->∀s',s'.q=false->(∀x o,(Bp D0 s).E x=some o->s'.E x=some o)->(pure=false->∀x o,(Bp D s).E x=some o->s'.E x=some o)->Yl P oi (Bx T) s' v)->
   JB J Q b ds ops k cs X D D0 fuel (Bb listed i) (CQ T oi.dst (if w then v else undef)) s->JB J Q b ds ops k cs X D D0 (fuel+1) listed T s:=by
 have av:∀(j:Nat) (al:Oper),ops[j]? =some al->∀cs b,al.op≠Op.select cs b:=λj al h cs b=>Region.noSelect_spec c5 j al cs b h;intro fuel
 induction fuel with
 | zero=>?_
 | succ fuel a2=>?_
 all_goals
  intro listed T s ci co a3 bv a4 hw aw h;refine⟨λe=>(by rw [e] at bv;cases bv),a4,λj cp al U=>?_⟩;by_cases a5:j=i
  ·subst a5;obtain rfl:al=oi:=by rw [hi] at U;exact(Option.some.inj U).symm
   refine⟨c6,λO=>?_,λay K=>?_,λay K=>?_⟩
   ·rw [O] at hw;subst hw;exact h
   ·rw [c4] at K;cases K
   ·rw [ay] at hw;subst hw;refine Ej _ (aw V (Bp D s) a4 (ZT bz) λ_ _ _ h=>h).out ?_ (λ_ _ h=>h);rintro bw s' ⟨rfl,rfl⟩;rw [LA];exact h
  ·
   have ct:j∈Region.ready .any ops (Bb listed i):=ready_mono cp a5;obtain⟨az,Y,cw,b0⟩:=mem_ready.1 cp;obtain rfl:Y=al:=by rw [U] at cw;exact(Option.some.inj cw).symm
   have b1:=(mem_ready.1 bv).1;have c7:(Y.after.any λe=>Region.binds .any e&&e.on==i)=false:=by
    rw [Array.any_eq_false];intro e he K;simp only [Bool.and_eq_true,beq_iff_eq] at K;have:=b0 _ (Array.getElem_mem he) K.1;rw [K.2] at this;have a0:listed.getD i true=listed.getD i false∨listed.size<=i:=by
     rcases Nat.lt_or_ge i listed.size with q | q
     ·left;simp [Array.getD_eq_getD_getElem?,q]
     ·exact .inr q
    rcases a0 with a0 | a0
    ·rw [b1,this] at a0;cases a0
    ·rw [Array.getD_eq_getD_getElem?,Array.getElem?_eq_none a0] at this;simp at this
   have c8:oi.apart ops Y=true:=by
    have b2:j<ops.size:=(Array.getElem?_eq_some_iff.1 U).1;have:=List.all_eq_true.1 ci j (List.mem_range.2 b2);simp only [Bool.or_eq_true,beq_iff_eq] at this;rcases this with(q | q) | q
    ·exact absurd q a5
    ·rw [az] at q;cases q
    ·rw [U] at q;simp only [Bool.or_eq_true] at q;rw [c7] at q;exact q.resolve_left (by simp)
   obtain⟨a1,a6,a7⟩:=Oper.apart_spec c8;obtain⟨cy,p2⟩:=IA (ops:=ops) (T:=T) (v:=if w then v else undef) (av j Y U) a1
   first
    | exact absurd ct (by rw [h.1];simp)
    | (
     obtain⟨eg,_,h⟩:=h
     obtain⟨hd,O,c9,dd⟩:=h j ct Y U
     have a8:Bb (Bb listed i) j=Bb (Bb listed j) i:=by
      unfold Bb;exact Array.setIfInBounds_comm _ _ (Ne.symm a5)
     have a9:i∈Region.ready .any ops (Bb listed j):=ready_mono bv (Ne.symm a5)
     have bb:Ja ops (Bb listed j) i oi=true:=by
      refine List.all_eq_true.2 λx K=>?_
      have:=List.all_eq_true.1 ci x K
      simp only [Bool.or_eq_true,beq_iff_eq] at this ⊢
      rcases this with(q | q) | q
      ·exact .inl (.inl q)
      ·left;right
       by_cases e:j=x
       ·subst e;rw [az] at q;cases q
       ·rw [Bb,getD_set_ne true e];exact q
      ·exact .inr q
     have be:(Bb listed j).size=ops.size:=by unfold Bb;simpa using a3
     have bi:Ic ops (Bb listed j)=true:=by
      refine List.all_eq_true.2 λx K=>?_
      cases b3:ops[x]? with
      | none=>simp
      | some dn=>
       simp only [Bool.or_eq_true,Bool.not_eq_true']
       by_cases e:j=x
       ·subst e
        obtain rfl:dn=Y:=by rw [U] at b3;exact(Option.some.inj b3).symm
        right
        refine Array.all_eq_true'.2 λe he=>?_
        cases hb:Region.binds .any e with
        | false=>simp
        | true=>
         have:=b0 e he hb
         by_cases e2:j=e.on
         ·rw [← e2] at this
          have b4:j<listed.size:=by rw [a3];exact(Array.getElem?_eq_some_iff.1 U).1
          simp [Array.getD_eq_getD_getElem?,b4] at this az
          rw [az] at this;cases this
         ·rw [Bb,getD_set_ne false e2];simpa using this
       ·cases c0:(Bb listed j).getD x false with
        | false=>exact .inl rfl
        | true=>
         right
         have ea:listed.getD x false=true:=by rw [Bb,getD_set_ne false e] at c0;exact c0
         refine Array.all_eq_true'.2 λb5 he=>?_
         cases hb:Region.binds .any b5 with
         | false=>simp
         | true=>
          have:=PT co b3 ea b5 he hb
          by_cases e2:j=b5.on
          ·rw [← e2] at this
           have b4:j<listed.size:=by rw [a3];exact(Array.getElem?_eq_some_iff.1 U).1
           simp [Array.getD_eq_getD_getElem?,b4] at this az
           rw [az] at this;cases this
          ·rw [Bb,getD_set_ne false e2];simpa using this
     refine⟨hd,λeb=>?_,λb6 bx=>?_,λb6 bx=>?_⟩
     ·have:=O (by rw [p2];exact eb)
      rw [a8,JH a6] at this
      obtain⟨Z,ac⟩:=IA (ops:=ops) (T:=T) (d:=Y.dst) (v:=undef) (o:=oi) (av i oi hi) a7
      exact a2 _ _ _ bb bi be a9 a4 (by rw [ac];exact hw) (λag s' ec O am=>by unfold Yl;rw [Z];exact(aw ag s' ec O am).out) this
     ·
      have ed:pure=true:=by
       cases ee:pure with
       | true=>rfl
       | false=>
        exfalso
        rw [ee,Bool.false_or] at ce
        have b2:j<ops.size:=(Array.getElem?_eq_some_iff.1 U).1
        have ay:=List.all_eq_true.1 ce j (List.mem_range.2 b2)
        rw [bx] at ay
        simp only [Bool.not_true,Bool.false_or] at ay
        rcases R4 co _ j Y U (λe he hb=>b0 e he hb) ay with q | ⟨x,Z,ac⟩
        ·have ef:i<listed.size:=by rw [a3];exact(Array.getElem?_eq_some_iff.1 hi).1
         simp [Array.getD_eq_getD_getElem?,ef] at q b1
         rw [b1] at q;cases q
        ·have:¬x<listed.size:=by rw [a3];intro K;simp [K] at Z
         simp [Array.getD_eq_getD_getElem?,this] at ac
      have bn:=Pu _ (c9 (by rw [p2];exact b6) bx)
      rw [cy] at bn
      refine Ej _ bn ?_ (λ_ _ h=>h)
      rintro bw s' ⟨⟨ca,K⟩,am,cc⟩
      have c1:=ZJ ca am
      have bo:s'.q=false:=cc.trans a4
      have c2:pure=false->∀{α:Prop},α:=λe=>by rw [ed] at e;cases e
      cases bw with
      | value u=>
       simp only at K ⊢
       rw [a8,JH a6] at K
       obtain⟨Z,ac⟩:=IA (ops:=ops) (T:=T) (d:=Y.dst) (v:=u) (o:=oi) (av i oi hi) a7
       exact⟨ca,a2 _ _ _ bb bi be a9 bo (by rw [ac];exact hw) (λag s2 ap O aq=>by unfold Yl;rw [Z];exact(aw ag s2 ap (λx o h=>O x o (c1 x o h)) (λe=>c2 e)).out) K⟩
      | skip=>
       simp only at K ⊢
       rw [a8,JH a6] at K
       obtain⟨Z,ac⟩:=IA (ops:=ops) (T:=T) (d:=Y.dst) (v:=undef) (o:=oi) (av i oi hi) a7
       exact⟨ca,a2 _ _ _ bb bi be a9 bo (by rw [ac];exact hw) (λag s2 ap O aq=>by unfold Yl;rw [Z];exact(aw ag s2 ap (λx o h=>O x o (c1 x o h)) (λe=>c2 e)).out) K⟩
      | _=>exact K.elim
     ·have bn:=Pu _ (dd (by rw [p2];exact b6) bx)
      rw [cy] at bn
      refine Ej _ bn ?_ (λ_ _ h=>h)
      rintro bw s' ⟨K,am,cc⟩
      have c3:=Sj (D:=D) am
      have bo:(Cr D s s').q=false:=by show s'.q=false;rw [cc];exact a4
      cases bw with
      | value u=>
       simp only at K ⊢
       rw [a8,JH a6] at K
       obtain⟨Z,ac⟩:=IA (ops:=ops) (T:=T) (d:=Y.dst) (v:=u) (o:=oi) (av i oi hi) a7
       exact a2 _ _ _ bb bi be a9 bo (by rw [ac];exact hw) (λag s2 ap O aq=>by unfold Yl;rw [Z];exact(aw ag s2 ap (λx o h=>O x o (RX bz am x o h)) (λe=>by rw [c3] at aq;exact aq e)).out) K
      | skip=>
       simp only at K ⊢
       rw [a8,JH a6] at K
       obtain⟨Z,ac⟩:=IA (ops:=ops) (T:=T) (d:=Y.dst) (v:=undef) (o:=oi) (av i oi hi) a7
       exact a2 _ _ _ bb bi be a9 bo (by rw [ac];exact hw) (λag s2 ap O aq=>by unfold Yl;rw [Z];exact(aw ag s2 ap (λx o h=>O x o (RX bz am x o h)) (λe=>by rw [c3] at aq;exact aq e)).out) K
      | _=>exact K.elim)
end
section
variable (J:Judge P)(Q:Gs_)(b:Frame)(n:Nat)(ds:Ld_)(ops:Ao_)(k:Li_)(cs:Lf_)(X D D0:Nat->Bool)
def FF(fuel:Nat)(listed:Array Bool)(L:Env)(s:St):Prop:=∀T,Has n L T->JB J Q b ds ops k cs X D D0 fuel listed T s
end
theorem JB.take{i:Nat}{oi:Oper}{w pure:Bool}{v:Value}{P:Program}{J:Judge P}{Q:Gs_}{b:Frame}{ds:Ld_}{ops:Ao_}{k:Li_}{cs:Lf_}{X D D0:Nat->Bool}(K:∀x,D0 x=true->D x=true)(hi:ops[i]? =some oi)(O:X i=false)(U:(pure || waitAll ops X i)=true)(Y:Region.noSelect ops=true)(Z:∀c,oi.op≠ .defer c)
  (fuel:Nat) (listed:Array Bool) (T:Av_) (s:St) (ac:Ja ops listed i oi=true) (ag:Ic ops listed=true) (al:listed.size=ops.size) (am:i∈Region.ready .any ops listed) (ap:s.q=false) (aq:Region.wanted oi (yielded ops T)=w)
  (av:w=true->∀s',s'.q=false->(pure=false->∀x o,(Bp D s).E x=some o->s'.E x=some o)->Yl P oi (Bx T) s' v)
  (h:JB J Q b ds ops k cs X D D0 fuel (Bb listed i) (CQ T oi.dst (if w then v else undef)) s):JB J Q b ds ops k cs X D D0 (fuel+1) listed T s:=
 TE K hi O U Y Z fuel listed T s ac ag al am ap aq (λe s' aw _ ay=>av e s' aw ay) h
def JZ(ops:Ao_)(listed:Array Bool)(xs:List Nat)(pure:Bool)(i:Nat):Bool:=match ops[i]? with
 | some oi=> !AA xs i&&(pure || waitAll ops (AA xs) i)&&Region.noSelect ops&& !Eo oi.op&&Ja ops listed i oi&&Ic ops listed&&listed.size==ops.size&&(Region.ready .any ops listed).contains i
 | none=>false
variable {J:Judge P}{Q:Gs_}{n:Nat}{ds:Ld_}{ops:Ao_}{k:Li_}{cs:Lf_}{X D:Nat->Bool}{l0:List Nat}{L:Env}{s:St}{E H:LH}{S:List Seg}{xl bks:List Nat}
variable {d:Option Tmp}{t u ty:TypeId}{p:String}{af:Ae_}{g:On_}{v:Value}{kd:IntKind}
section
variable {b:Frame}{fuel:Nat}{listed:Array Bool}
variable {x y:Operand}{e:TypeId}{i:Nat}
theorem H8(xl bks l0:List Nat){id:Nat}(hm:P.follows .mixedOrders=true)(K:(b.kind != .early)=true)
  (h:FF J Q b n ds ops k cs (AA xl) (AA (l0++bks)) (AA l0) ops.size (Array.replicate ops.size false) L (Ak E H S)):JL J Q b n L ds (.code (.region id ops true)::k) cs (Ak E H S):=
 T9 V hm λt T O=>ZH (by simpa using K) ops.size t _ T _ (h T O)
theorem U3:∀x,AA l0 x=true->AA (l0++bks) x=true:=λx h=>by
 simp only [AA,List.contains_iff_mem,List.mem_append] at h ⊢;exact .inl h
theorem JB.val{oi:Oper}(i:Nat)(pure:Bool)(hi:ops[i]? =some oi)(K:JZ ops listed xl pure i=true)(Y:s.q=false)
  (hw:AP L ops oi=some true) (Z:Bj n oi.dst=true) (ac:∀ρ,EV L ρ->∀s':St,(pure=false->∀x o,(Bp (AA (l0++bks)) s).E x=some o->s'.E x=some o)->Yl P oi ρ s' v)
  (h:FF J Q b n ds ops k cs (AA xl) (AA (l0++bks)) (AA l0) fuel (Bb listed i) (Av L oi.dst v) s):FF J Q b n ds ops k cs (AA xl) (AA (l0++bks)) (AA l0) (fuel+1) listed L s:=λT O=>by
 simp only [JZ,hi,Bool.and_eq_true] at K
 obtain⟨⟨⟨⟨⟨⟨⟨ag,al⟩,am⟩,U⟩,ap⟩,aq⟩,av⟩,aw⟩:=K
 refine JB.take (w:=true) (v:=v) (pure:=pure) U3 hi (by simpa using ag) al am (λc K=>by rw [K] at U;simp [Eo] at U) fuel listed T s ap aq (by simpa using av) (by simpa using aw) Y (Ca O hw) (λ_ s' az ay=>ac _ O.Gi s' ay) ?_
 exact h _ (O.put Z v)
theorem br{oi:Oper}(i:Nat)(hi:ops[i]? =some oi)(K:JZ ops listed xl true i=true)(Y:s.q=false)
  (hw:AP L ops oi=some true) (Z:Bj n oi.dst=true) (ac:∀ρ,EV L ρ->∀s':St,(∀x o,(Bp (AA l0) s).E x=some o->s'.E x=some o)->Yl P oi ρ s' v)
  (h:FF J Q b n ds ops k cs (AA xl) (AA (l0++bks)) (AA l0) fuel (Bb listed i) (Av L oi.dst v) s):FF J Q b n ds ops k cs (AA xl) (AA (l0++bks)) (AA l0) (fuel+1) listed L s:=λT O=>by
 simp only [JZ,hi,Bool.and_eq_true] at K
 obtain⟨⟨⟨⟨⟨⟨⟨ag,al⟩,am⟩,U⟩,ap⟩,aq⟩,av⟩,aw⟩:=K
 refine TE (w:=true) (v:=v) (pure:=true) U3 hi (by simpa using ag) al am (λc K=>by rw [K] at U;simp [Eo] at U) fuel listed T s ap aq (by simpa using av) (by simpa using aw) Y (Ca O hw) (λ_ s' az ay _=>ac _ O.Gi s' ay) ?_
 exact h _ (O.put Z v)
theorem Km{oi:Oper}(i:Nat)(hi:ops[i]? =some oi)(K:JZ ops listed xl true i=true)(O:s.q=false)
  (hw:AP L ops oi=some true) (U:Bj n oi.dst=true) (Y:∀ρ,EV L ρ->∀s':St,(∀x o,s.E x=some o->s'.E x=some o)->Yl P oi ρ s' v)
  (h:FF J Q b n ds ops k cs (AA xl) (AA (l0++bks)) (AA l0) fuel (Bb listed i) (Av L oi.dst v) s):FF J Q b n ds ops k cs (AA xl) (AA (l0++bks)) (AA l0) (fuel+1) listed L s:=
 br i hi K O hw U (λρ Z s' ac=>Y ρ Z s' (fI ac)) h
theorem JB.fin{l0:List Nat}(K:Region.ready .any ops listed= [])(h:JL J Q b n L ds k cs s):FF J Q b n ds ops k cs X D (AA l0) 0 listed L s:=λT O=>⟨K,JL.done h T O⟩
def Nq(S:List Seg)(j:Nat):List Nat->Prop
 | []=>True
 | bk::l=>(∃(i:Nat) (o:Obj),(i==j)=false/\S[i]? =some [(bk,o)])/\Nq S j l
theorem Nq.mem{S:List Seg}{j:Nat}:∀{l:List Nat},Nq S j l->∀bk∈l,∃(i:Nat) (o:Obj),i≠j/\S[i]? =some [(bk,o)]
 | [],_,_,h=>by cases h
 | b::l,⟨⟨i,o,hi,h⟩,K⟩,bk,hb=>by
  rcases List.mem_cons.1 hb with rfl | hb
  ·exact⟨i,o,by simpa using hi,h⟩
  ·exact K.mem bk hb
theorem JB.store{bk off:Nat}{c:Av_}(i j:Nat)(Y:Region.ready .any ops listed= [i])(av:AA xl i=true)(aw:ops[i]? =some ⟨d,.store t x y,ty,p,af,g⟩)(hw:AP L ops ⟨d,.store t x y,ty,p,af,g⟩=some true)(ay:Bj n d=true)(Z:Aq E H S)
  (O:ev L x=some (.pointer (some ⟨bk,off,none⟩))) (az:ev L y=some v) (a0:Bo P t=some v.cells.size) (a1:∀u∈v.cells.toList,CP u=true) (ac:S[j]? =some [(bk,.cells c e (0,0))]) (a2:Nq S j l0) (hle:off+v.cells.size<=c.size)
  (h:Aq E H (S.set j [(bk,.cells (Bd c off v.cells.toList) e (0,0))])->FF J Q b n ds ops k cs (AA xl) (AA (l0++bks)) (AA l0) fuel (Bb listed i) (Av L d undef) (Ak E H (S.set j [(bk,.cells (Bd c off v.cells.toList) e (0,0))]))):
  FF J Q b n ds ops k cs (AA xl) (AA (l0++bks)) (AA l0) (fuel+1) listed L (Ak E H S):=λT K=>by
 refine⟨by rw [Y];simp,rfl,λbe U o' ag=>?_⟩
 rw [Y] at U
 simp at U
 subst U
 obtain rfl:o'=⟨d,.store t x y,ty,p,af,g⟩:=by rw [aw] at ag;exact(Option.some.inj ag).symm
 have a3:=Ca K hw;refine⟨λc a4=>(by cases a4),λe=>?_,λ_ _=>?_,λ_ e=>?_⟩
 ·rw [a3] at e;cases e
 ·obtain⟨al,a5⟩:=Ha Z ac;rw [al];show lp P (do Instr.storeAt t (Bx T x) (Bx T y);pure Next.skip) _ _ _
  rw [K.ev O,K.ev az];refine As _ _ ?_;unfold Instr.storeAt;simp only [Instr.sureAddr,bind,Sem.bind,pure];refine PU (pl:=(S.set j []).flatten.length) a0 a1 a5 (c:=c) (e:=e) (by simp) hle λam=>?_;have a6:((S.set j []).flatten++ [(bk,Obj.cells c e (0,0))]).set (S.set j []).flatten.length (bk,.cells (Bd c off v.cells.toList) e (0,0))=(S.set j []).flatten++ [(bk,.cells (Bd c off v.cells.toList) e (0,0))]:=I7 _ _ _ _;rw [a6] at am ⊢;obtain⟨a7,ap⟩:=Jb ac am;rw [a7];refine⟨λx u O a8=>?_,h ap _ (K.put ay undef)⟩;obtain⟨bi,o',a9,aq⟩:=a2.mem x (by simpa [AA] using O);have bb:(Ak E H S).get x=some o':=DD (i:=0) Z aq rfl;have g2:(Ak E H (S.set j [(bk,.cells (Bd c off v.cells.toList) e (0,0))])).get x=some o':=DD (i:=0) ap (by rw [List.getElem?_set_ne (Ne.symm a9)];exact aq) rfl;have g0:(Ak E H S).get x=some u:=by rw [al];exact a8
  rw [bb] at g0;rw [g2];exact g0
 ·rw [av] at e;cases e
end
theorem My{E H:LH}{S:List Seg}{bks:List Nat}{bk o:Nat}{l ws:Lv_}{e:TypeId}{f:Nat×Nat}{s':St}{w:Value}(j:Nat)(K:Aq E H S)(O:S[j]? =some [(bk,.cells (l++ws).toArray e f)])(U:AA bks bk=true)(Y:∀x o,(Bp (AA bks) (Ak E H S)).E x=some o->s'.E x=some o)(Z:ws[o]? =some w):s'.cell? ⟨bk,l.length+o,none⟩=some w:=by
 have:=Tj j K O U Y o w Z
 rwa [Ed rfl] at this
variable {B:List (Nat×Obj)}
section
variable {e:TypeId}
theorem RY{ats:Array TypeId}{a:Option Addr}{l K O m cx:Nat}{ax:Option Addr}{xs ys:Lv_}{z:Value}{Q:Value->St->Prop}{X:Halt->St->Prop}
  (a0:ats[0]? =some t) {t1 a1:TypeId} (a2:ats[1]? =some t1) (a3:P.underlying t1=some (.slice a1)) (a4:P.underlying t=some (.slice e)) (a5:Bo P e=some K) (hb:F0 P e=some O) (a6:zeroOf P e=some z) (a7:z.cells.size=K)
  (a8:Nd E H B) (al:Ig (mk E H B) (.slice a l l) K xs)
  (Z:Ig (mk E H B) (.slice ax m cx) K ys) (bx:∀w∈ys,CP w=true) (bz:0<O) (b0:l+m<=2 ^ 40) (a9:O<=64)
  (ay:m=0->Q (.slice a (l+m) l) (mk E H B))
  (bb:∀r ac am,l+m<=am->ac.size=am*K->ac.toList.take ((l+m)*K)=xs++ys->Nd E H (B++ [(r,.cells ac e (0,0))])->Q (.slice (some ⟨r,0,none⟩) (l+m) am) (mk E H (B++ [(r,.cells ac e (0,0))]))):
  lp P (Builtin.append_ ats ty #[.slice a l l,.slice ax m cx]) (mk E H B) Q X:=by
 unfold Builtin.append_;simp only [a0,a2,List.getElem?_toArray,List.getElem?_cons_zero,List.getElem?_cons_succ];refine As _ _ (Cq a4 ?_);refine As _ _ (Fe a5 ?_);refine As _ _ (Cq a3 ?_);simp only [Iy,Bool.false_eq_true,if_false,Builtin.lenOf,Bool.not_false,if_true];have ag:ys.length=m*K:=by
  cases ax with
  | none=>obtain⟨U,Y⟩:=Z;subst U Y;simp
  | some ad=>exact Z.2.1
 have ap:xs.length=l*K:=by
  cases a with
  | none=>obtain⟨U,Y⟩:=al;subst U Y;simp
  | some ad=>exact al.2.1
 obtain⟨c,b1⟩:∃c,c=l:=⟨_,V⟩;split
 ·rename_i b2;have hm:m=0:=by omega
  have be:ys= []:=List.eq_nil_of_length_eq_zero (by rw [ag,hm];simp);refine As _ _ (KS ⟨ax,cx,V⟩ Z ?_);subst be;cases a with
  | none=>exact ay hm
  | some ad=>exact ay hm
 ·rename_i b3;have U:¬(((l+m:Nat):Int)>IntKind.i64.max/\(False∨O=0)):=by rintro⟨_,h | h⟩ <;> omega
  have Y:¬(Builtin.nextslicecap (l+m) l*O>2 ^ 48):=by
   have:=Sp (need:=l+m) (old:=l) (by omega);have b4:Builtin.nextslicecap (l+m) l*O<=(2*(l+m)+768)*64:=Nat.mul_le_mul this a9;omega
  obtain⟨inf,aq,av⟩:=P6 hb;refine As _ _ (KT aq ?_);rw [av,if_neg U];refine As _ _ (KT aq ?_);rw [av,if_neg Y];refine As _ _ ?_;simp only [choose,lp,Question.forced,Bool.false_eq_true,if_false];refine⟨V,λbi=>?_⟩;generalize bn:(Question.appendCap (l+m) l e).cut bi=aw;have bo:l+m<=aw:=by rw [← bn];simp [Question.cut]
  refine As _ _ (KT aq ?_);rw [av];have bv:∀{α:Type} {f:Unit->Sem α} {Q:α->St->Prop},lp P (f ()) (mk E H B) Q X->lp P (askRoom (aw*O)>>=f) (mk E H B) Q X:=by
   intro α f Q az;refine As _ _ ?_;unfold askRoom;split
   ·exact⟨.inl ⟨V,V⟩,az⟩
   ·exact az
  refine bv (As _ _ (KS ⟨a,l,V⟩ al ?_));refine As _ _ (KS ⟨ax,cx,V⟩ Z ?_);refine As _ _ (H2 a6 ?_);refine As _ _ (JF a8 λr bw=>?_);refine bb r _ aw bo ?_ ?_ bw
  ·simp only [Array.size_append,List.size_toArray,RS,a7,ap,ag];rw [← Nat.add_mul,← Nat.add_mul];congr 1;omega
  ·simp only [Array.toList_append];rw [List.take_append_of_le_length (by simp [ap,ag,Nat.add_mul])];rw [List.take_of_length_le (by simp [ap,ag,Nat.add_mul])]
end
theorem Al.spot{α:Type}{pp:Rp α}{E:LH}{a:Option Addr}{c:Nat}{xs:List α}(h:Al pp E a c xs):∀ad,a=some ad->ad.spot=none∨c=0:=λad K=>by
 rcases h.2 with⟨_,h⟩ | ⟨bk,off,h,_⟩
 ·exact h ad K
 ·rw [h] at K;cases K;exact .inl rfl
theorem Al.full{α:Type}{pp:Rp α}{E:LH}{a:Option Addr}{c:Nat}{xs:List α}(h:Al pp E a c xs):Al pp E a xs.length xs:=⟨Nat.le_refl _,h.2.imp (λ⟨h,_⟩=>⟨h,λ_ _=> .inr (by rw [h];rfl)⟩) id⟩
theorem Al.MH{α:Type}{pp:Rp α}{E H:LH}{B:List (Nat×Obj)}{a:Option Addr}{c:Nat}{ys:List α}(ac:Al pp E a c ys):
  ∃K:List (Lv_),K.length=ys.length/\(∀(i:Nat) x ws,ys[i]? =some x->K[i]? =some ws->pp.r E ws x)/\Ig (mk E H B) (.slice a ys.length c) pp.n K.flatten/\∀w∈K.flatten,CP w=true:=by
 obtain⟨K,U,Z,Y⟩:=ac.rows;have ag:=IG U Z;refine⟨K,U,Z,?_,λw hw=>?_⟩
 ·rcases Y with⟨Y,aw⟩ | ⟨bk,off,rfl,Y⟩
  ·subst Y;have:K= []:=List.eq_nil_of_length_eq_zero U;subst this;cases a with
   | none=>exact⟨rfl,rfl⟩
   | some ad=>exact⟨.inr rfl,by simp,Nat.zero_le _,λq w O=>by simp at O⟩
  ·refine⟨.inl V,by rw [Mp ag,U],ac.1,λq w O=>?_⟩;obtain⟨al,m,ws,am,e2,ap⟩:=PS ag O;have:=(Y al ws am).cell (H:=H) (B:=B) e2;subst ap;rw [← Nat.add_assoc];exact this
 ·obtain⟨us,aq,hw⟩:=List.mem_flatten.1 hw;obtain⟨q,O⟩:=List.mem_iff_getElem?.1 aq;have av:q<ys.length:=by rw [← U];exact(List.getElem?_eq_some_iff.1 O).1
  exact pp.one (Z q _ us (List.getElem?_eq_getElem av) O) w hw
variable {E':LH}
variable {z1:Operand}{rest:List Nat}{ρ:Operand->Value}
section
variable {b:Frame}
variable {x y:Operand}{e:TypeId}{i:Nat}
theorem PW{a:Option Addr}{l c K:Nat}(O:∀ad,a=some ad->ad.spot=none∨c=0)(U:l<=c)(Y:P.underlying t=some (.slice e))(Z:Bo P e=some K)(ac:ρ x= .slice a l c)(ag:ρ y=iV (l:Int))(al:ρ z1=iV (l:Int)):
  Yl P ⟨d,.slice t x none (some y) (some z1),ty,p,af,g⟩ ρ s (.slice a l l):=by
 have h:=Yl.slice (P:=P) (s:=s) (d:=d) (ty:=ty) (p:=p) (af:=af) (g:=g) (olo:=none) (ohi:=some y) (omx:=some z1) (lo:=0) (hi:=l) (mx:=l) Y Z ac al ag V U (Nat.le_refl _) (Nat.zero_le _);have am:(if l=0 then a else a.map (·.add (0*K)))=a:=by
  split
  ·rfl
  ·cases a with
   | none=>rfl
   | some ad=>
    have:=(O ad rfl).resolve_right (by omega);simp only [Option.map_some,Nat.zero_mul];rw [Ed this];obtain⟨b,o,sp⟩:=ad;simp only at this;subst this;simp
 rw [am] at h;simpa using h
theorem Xs{α:Type}{pp:Rp α}{t1:TypeId}{Y c cx:Nat}{a ax:Option Addr}{xs ys Z:List α}{ats:Array TypeId}{z:Value}(U:Ep xs ys=some Z)
  (aw:ops[i]? =some ⟨d,.call ⟨.builtin .append,#[x,y],ats⟩,ty,p,af,g⟩) (hw:AP L ops ⟨d,.call ⟨.builtin .append,#[x,y],ats⟩,ty,p,af,g⟩=some true) (ay:BS b n ⟨d,.call ⟨.builtin .append,#[x,y],ats⟩,ty,p,af,g⟩=true)
  (az:ev L x=some (.slice a xs.length xs.length)) (a0:ev L y=some (.slice ax ys.length cx)) (a1:ats[0]? =some t) (a2:ats[1]? =some t1) (a3:P.underlying t=some (.slice e)) (a4:P.underlying t1=some (.slice e)) (a5:Bo P e=some pp.n) (hb:F0 P e=some Y) (a6:zeroOf P e=some z) (a7:z.cells.size=pp.n)
  (a8:0<Y) (a9:Y<=64) (ac:Al pp E a c xs) (bb:Al pp E ax cx ys) (ag:Aq E H S)
  (h:∀E' al K,Le E E'->Al pp E' al K Z->Aq E' H (S++ [[]])->JL J Q b n (Av L d (.slice al Z.length K)) ds (.inRegion ops rest::k) cs (Ak E' H (S++ [[]]))):
  JL J Q b n L ds (.inRegion ops (i::rest)::k) cs (Ak E H S):=by
 unfold Ep at U;split at U
 rotate_left
 ·cases U
 rename_i be;cases U;obtain⟨wss,am,bi,bn,ci⟩:=Al.MH (H:=H) (B:=S.flatten) ac.full;obtain⟨bo,bv,bw,bx,bz⟩:=Al.MH (H:=H) (B:=S.flatten) bb;have hlen:(xs++ys).length=xs.length+ys.length:=by simp
 show JL J Q b n L ds (.inRegion ops (i::rest)::k) cs (mk E H S.flatten);refine JL.op aw hw ay λρ ap=>?_;rw [Mo,ap x _ az,ap y _ a0];refine As _ _ (RY a1 a2 a4 a3 a5 hb a6 a7 ag bn bx bz a8 be a9 ?_ ?_)
 ·intro hm;have b0:ys= []:=List.eq_nil_of_length_eq_zero hm;subst b0;have b1:Aq E H (S++ [[]]):=by unfold Aq at*;rw [G7,List.append_nil];exact ag
  have b2:mk E H S.flatten=Ak E H (S++ [[]]):=by unfold Ak;rw [G7,List.append_nil]
  rw [b2];have:=h E a xs.length (Le.refl _) (by rw [List.append_nil];exact ac.full) b1;rw [hlen] at this;exact this
 ·intro r O K b3 b4 b5 b6;have ca:OL e pp E (some ⟨r,0,none⟩) K [(r,.cells O e (0,0))] (xs++ys):=
   ⟨wss++bo,.inr ⟨r,O,rfl,rfl,b4,by rw [hlen];exact b3,by rw [hlen,List.flatten_append];exact b5.symm⟩,by simp [am,bv],NU am bi bw⟩
  have aq:=FJ (S:=S) (seg:= [(r,.cells O e (0,0))]) b6;show JL J Q b n _ ds _ cs (mk E H (S.flatten++ [(r,.cells O e (0,0))]));rw [aq.1];refine Cj S.length ca aq.2 (by simp) λE' hle cc av=>?_;have ce:(S++ [[(r,Obj.cells O e (0,0))]]).set S.length []=S++ [[]]:=I7 _ _ _ _;rw [ce] at av ⊢;have:=h E' (some ⟨r,0,none⟩) K hle cc av;rw [hlen] at this;exact this
end
open Go.ConcN (sumTo sumTo_upd upd upd_ne upd_same)
def MG(P:Program)(R:Value->St->Prop):GP:=λg s=>
 g.status= .running/\∃v,R v s/\∀w,stepG P true g w= .ended (.done v) w #[]
variable {R:Value->St->Prop}
section
variable {b:Frame}
theorem JO.end{fn:Func}{t:Tmp}{v:Value}(K:b.kind= .normal)(hi:P.inits.idxOf? b.fn=none)(O:P.funcs[b.fn]? =some fn)(U:fn.results= #[.tmp t])(Y:look L t=some v)(Z:R v s):JO J (MG P R) b n L [] [] s:=λT ac todo=>by
 refine J.stop ⟨rfl,v,Z,λw=>?_⟩
 have e:results fn T=Sem.pure v:=by
  have:=ac.at_ t v Y;simp only [results,U,Array.mapM_eq_mapM_toList];show Sem.pure (T.getD t undef)=_;rw [this]
 have ag:(results fn T).run P w= .ok v w:=by rw [e];rfl
 have e2:(results fn T).events P w #[]= #[]:=by rw [e];simp [Sem.events_pure']
 simp [G,stepG,unwind,EB,O,ag,e2,doReturn,K,GStep.after,hi,seen_none]
end
def After(P:Program)(R:Value->St->Prop)(K:World)(s₀:St)(v:Value)(w':World):Prop:=
 ∃s,R v s/\Fits s w'/\(∀b o,s₀.E b=some o->s.E b=some o)/\w'.tape=K.tape/\GC K.os w'.os/\w'.output=K.output
def RA(P:Program)(R:Value->St->Prop)(K:World)(s₀:St)(O:Nat)(m:Machine)(t:Trace):Prop:=
 ∃gs w sl q Sh g s,m=crowd gs w sl/\HO P gs w t q Sh g s/\MG P R g s/\O=sumTo gs.size q/\(∀b o,s₀.E b=some o->s.E b=some o)/\w.tape=K.tape/\GC K.os w.os/\w.output=K.output
theorem YJ{ap:World}{s₀:St}(ay:Nat)(m:Machine)(t:Trace)(h:RA P R ap s₀ ay m t):
  (∃o w ops,stepT P m=(.ended o w,ops)/\Good P (After P R ap s₀) m o w (t++ops))∨(∃m' ops az,stepT P m=(.next m',ops)/\az<ay/\RA P R ap s₀ az m' (t++ops)):=by
 obtain⟨gs,w,sl,q,Sh,g,s,rfl,hC,bi,rfl,a0,a1,a2,a3⟩:=h;obtain⟨ac,v,a4,a5⟩:=bi;have bn:∀x∈gs,awake x:=by
  intro x Y;obtain⟨i,hi,rfl⟩:=Array.mem_iff_getElem.1 Y;rcases Nat.eq_zero_or_pos i with rfl | aq
  ·have:gs[0]=g:=by simpa [Array.getElem?_eq_getElem hi] using hC.main
   rw [this];exact awake_of (.inl ac)
  ·exact awake_of ((hC.lv.old i _ aq (Array.getElem?_eq_getElem hi)).status.elim .inl λx=> .inr (.inr x))
 obtain⟨i,x,d,a6,hi,Y,a7⟩:=crowd_pick (P:=P) (w:=w) (sl:=sl) bn ⟨0,g,hC.main,ac⟩;have a8:=hC.at_ d;have bo:0<gs.size:=(Array.getElem?_eq_some_iff.1 hC.main).1;have bv:∀(a:Nat) (fn:FuncId) (pos:String),MemOp.ofEvents a fn pos #[]= #[]:=λa fn pos=>by rw [ofEvents_eq];simp
 rcases Nat.eq_zero_or_pos i with rfl | aq
 ·obtain rfl:x=g:=by rw [hC.main] at hi;exact(Option.some.inj hi).symm
  have ag:=runT_many_ended (P:=P) (sl:=a6) (i:=0) hi (show stepG P (0==0) x (w.at d)=_ from a5 (w.at d));rw [bv] at ag;refine .inl ⟨_,_,_,a7.trans ag,v,V,⟨s,a4,a8.Cd.fits 0 bo,a0,a1,a2,a3⟩,?_,?_,⟨λy K=>?_,V⟩,λj y K O=>?_⟩
  ·simpa using hC.Cd.clean
  ·simpa using hC.over
  ·obtain⟨j,O⟩:=List.mem_iff_getElem?.1 K;rw [List.getElem?_drop] at O;exact⟨_,(hC.lv.old (1+j) y (by omega) (by simpa [crowd] using O)).leaves⟩
  ·have Z:=hC.lv.old j y (by omega) K;exact⟨q j,by simp only [Array.append_empty];exact Z.hears w⟩
 ·have Z:=hC.lv.old i x aq hi;have bw:(i==0)=false:=by simp;omega
  have a9:i<gs.size:=(Array.getElem?_eq_some_iff.1 hi).1;cases av:q i with
  | zero=>rw [av] at Z;rw [Z.1] at Y;cases Y
  | succ k=>
   rw [av] at Z;rcases Z with⟨bx,_⟩ | ⟨_,x',es,hm,bz,b0⟩
   ·rw [bx] at Y;cases Y
   have b4:sumTo gs.size (upd q i k)+(k+1)=sumTo gs.size q+k:=by
    have:=sumTo_upd q k id a9;simpa [av] using this
   have ag:=runT_crowd_go (P:=P) (sl:=a6) (i:=i) hi (by rw [bw];exact bz (w.at d));have aw:((gs.map (woken P x x' (w.at d))).setIfInBounds i x').size=gs.size:=by simp
   have al:∀op∈MemOp.ofEvents i x.frame.fn x.frame.place es,op.g=i:=λop U=>by obtain⟨e,_,rfl⟩:=mem_ofEvents U;rfl
   have bb:∀op∈MemOp.ofEvents i x.frame.fn x.frame.place es,op.act.touch? =none:=λop U=>by obtain⟨e,he,rfl⟩:=mem_ofEvents U;exact touch_mute (hm e he)
   have b1:HO P ((gs.map (woken P x x' (w.at d))).setIfInBounds i x') (w.at d) (t++MemOp.ofEvents i x.frame.fn x.frame.place es) (upd q i k) Sh g s:=by
    refine⟨?_,⟨λj y O K=>?_,λj O=>?_⟩,?_,?_,?_⟩
    ·have b2:i≠0:=by omega
     rw [Array.getElem?_setIfInBounds_ne b2,Array.getElem?_map,hC.main];simp [woken_run ac]
    ·by_cases am:i=j
     ·subst am;rw [Array.getElem?_setIfInBounds_self_of_lt (by simpa using a9)] at K;obtain rfl:=Option.some.inj K;rw [upd_same,Deaf_own];exact b0
     ·rw [Array.getElem?_setIfInBounds_ne am,Array.getElem?_map] at K;obtain⟨z,b3,rfl⟩:=Option.map_eq_some_iff.1 K;have be:=hC.lv.old j z O b3;rw [woken_quitsD be,upd_ne q k (Ne.symm am),Deaf_other t am _ al];exact be
    ·rw [Deaf_other t (g':=i) (by simp at O;omega) _ al];exact hC.lv.above j (by simpa using O)
    ·rw [aw];exact a8.Cd.mute al bb (λop U=>by obtain⟨e,he,rfl⟩:=mem_ofEvents U;exact low_mute (hm e he) _) V
    ·exact handedOver_app hC.over λop U=> .inr (bb op U)
    ·rw [Deaf_other t (by omega) _ al];exact hC.hears
   exact .inr ⟨_,_,_,a7.trans ag,by rw [← aw];rw [aw];omega,_,_,_,_,_,_,_,V,b1,⟨ac,v,a4,a5⟩,V,a0,a1,a2,a3⟩
theorem ends{gs:Array Goroutine}{w:World}{sl:Option (Nat×Nat)}{t:Trace}{q:Nat->Nat}{Sh:Nat->Prop}{g:Goroutine}{s:St}(hC:HO P gs w t q Sh g s)(O:MG P R g s):
  ∃N last o w' K,runNT P (N+1) (crowd gs w sl) t=(.ended o w',K)/\runN P N (crowd gs w sl)= .next last/\step P last= .ended o w'/\Good P (After P R w s) last o w' K:=
 run_of_inv Nat.lt_wfRel.wf (RA P R w s) (Good P (After P R w s)) YJ _ _ _ ⟨gs,w,sl,q,Sh,g,s,V,hC,O,V,λ_ _ h=>h,V,.refl _,V⟩
theorem Xr{m m':Machine}{t K:Trace}{n:Nat}(h:runNT P n m t=(.next m',K)):runN P n m= .next m':=by rw [← runNT_fst P n m t,h]
def GG(W:World):St:=⟨λb=>W.heap[b]?,λ_=>none,false⟩
theorem YK{W:World}{g:Goroutine}(h:(Hc P).ok (MG P R) g (GG W)):
  ∃M last o w' K,runNT P (M+1) (solo g W) #[]=(.ended o w',K)/\runN P M (solo g W)= .next last/\step P last= .ended o w'/\Good P (After P R W (GG W)) last o w' K:=by
 have hC:HO P #[g] W #[] (λ_=>0) (λ_=>False) g (GG W):=by
  have Y:∀{i:Nat} {a:Touch},touchAt #[] i=some a->False:=λ{i a} h=>by simp [touchAt,Trace.act?] at h
  refine⟨V,leavers_one P g,⟨λi hi=>?_,λi j hi ac bi=>by simp at hi ac;omega,λi hi b hb=>hb.elim,λb hb=>hb.elim,λsaid=>?_,by simp,λi _ b _ x a O=>(Y O).elim,λi _ b _ x a O=>(Y O).elim⟩,λi g ag=>by simp [Trace.g?] at ag,V⟩
  ·have:i=0:=by simp at hi;exact hi
   subst this;exact⟨λb o U=>U,λb o U=>(by cases U),λb _=>V⟩
  ·rintro⟨i,j,_,⟨a,b,al,_⟩,_⟩;simp [Trace.act?] at al
 obtain⟨n,gs',w',am,K,q',bn,g',s',Z,ap,aq,av,aw,ay,az⟩:=h #[g] W none #[] _ _ hC;obtain⟨N,last,o,a0,a2,k1,a3,a4,a5⟩:=ends (sl:=am) ap aq;refine⟨n+N,last,o,a0,a2,?_,?_,a4,?_⟩
 ·rw [solo_eq_crowd,Nat.add_assoc,runNT_add,Z];exact k1
 ·have a6:=Xr Z;rw [solo_eq_crowd,runN_add,a6];exact a3
 ·obtain⟨v,e,⟨s2,a1,a7,a8,a9,bb,be⟩,r⟩:=a5;exact⟨v,e,⟨s2,a1,a7,λb o hb=>a8 b o (av b o hb),a9.trans aw,ay.trans bb,be.trans az⟩,r⟩
end Pal
namespace Pal
open Go Go.Conc
theorem Yj{P:Program}{Q:Gs_}{E H:LH}{f:FuncId}{fn:Func}{c:Code}{vs:Lv_}(U:P.funcs[f]? =some fn)(hb:fn.body=some c)(ag:fn.ntmps=fn.ntmps)(al:vs.length<=fn.ntmps)
  (h:JL (Hc P) Q (base f) fn.ntmps (Gv 0 vs) [] [.code c] [] (Ak E H [[]])):(Hc P).ok Q (G (Frame.enter P f vs.toArray .normal) []) (mk E H []):=by
 have he:Frame.enter P f vs.toArray .normal=fr (base f) (vs.toArray++Array.replicate (fn.ntmps - vs.length) undef) [] [.code c]:=by
  simp [Frame.enter,fr,U,hb,base];rfl
 rw [he];have Y:mk E H []=Ak E H [[]]:=by unfold Ak;simp
 rw [Y];refine h _ ⟨by simp;omega,λt v Z=>?_⟩;obtain⟨_,K⟩:=Ke Z;have ac:t<vs.length:=by
  rcases Nat.lt_or_ge t vs.length with O | O
  ·exact O
  ·simp at K;have:=(List.getElem?_eq_some_iff.1 K).1;omega
 rw [Array.getD_eq_getD_getElem?,Array.getElem?_append_left (by simpa using ac)];simp at K;simp [K]
def HR(K:Bool)(ws:Lv_):Value:=if K then .agg ws.toArray else ws.headD undef
def Vr{α:Type}(pp:Rp α)(K:Bool)(E:LH)(v:Value)(x:α):Prop:=∃ws,pp.r E ws x/\v=HR K ws
theorem Vr.Ag{α:Type}{pp:Rp α}{K:Bool}{E E':LH}{v:Value}{x:α}(h:Vr pp K E v x)(hle:Le E E'):Vr pp K E' v x:=
 let ⟨ws,O,U⟩:=h;⟨ws,pp.Ag hle O,U⟩
structure GX (P:Program) (t:TypeId) {κ:Type} [DecidableEq κ] (pk:Rp κ) (ka:Bool):Prop where
 BS:∀{em:Bool} {E:LH} {v:Value} {x:κ} {s:St} {Q:Unit->St->Prop} {X:Halt->St->Prop},Vr pk ka E v x->Q () s->lp P (Instr.checkKey em 10000 t v) s Q X
 kind:∃kd,P.underlying t=some kd/\((∀v w,Instr.sameNow kd v w=none)∨∀{E:LH} {v w:Value} {x y:κ},Vr pk ka E v x->Vr pk ka E w y->Instr.sameNow kd v w=some (decide (x=y)))
 eq:∀{E:LH} {v w:Value} {x y:κ} {s:St} {Q:Bool->St->Prop} {X:Halt->St->Prop},Vr pk ka E v x->Vr pk ka E w y->Q (decide (x=y)) s->lp P (Op.equal t v w) s Q X
 same:∀{E:LH} {v:Value} {x:κ},Vr pk ka E v x->Instr.sameBits 10000 v v=true
 uniq:∀{E:LH} {v w:Value} {x:κ},Vr pk ka E v x->Vr pk ka E w x->v=w
variable {κ ν:Type}{pk:Rp κ}{pv:Rp ν}{ka va:Bool}{E E':LH}
variable {P:Program}{s:St}{t tm te:TypeId}{X:Halt->St->Prop}
section
variable [DecidableEq κ]
def Ef(pk:Rp κ)(ka:Bool)(pv:Rp ν)(va:Bool)(E:LH):List MapEntry->List (κ×ν)->Prop
 | [],[]=>True
 | e::es,x::xs=>Vr pk ka E e.key x.1/\Vr pv va E e.val x.2/\Ef pk ka pv va E es xs
 | _,_=>False
theorem Ef.Ag(hle:Le E E'):∀{es:List MapEntry} {xs:List (κ×ν)},Ef pk ka pv va E es xs->Ef pk ka pv va E' es xs
 | [],[],_=>trivial
 | e::es,x::xs,h=>⟨h.1.Ag hle,h.2.1.Ag hle,Ef.Ag hle h.2.2⟩
 | [],_::_,h=>h.elim
 | _::_,[],h=>h.elim
theorem Ef.len:∀{es:List MapEntry} {xs:List (κ×ν)},Ef pk ka pv va E es xs->es.length=xs.length
 | [],[],_=>rfl
 | e::es,x::xs,h=>by simp [Ef.len h.2.2]
 | [],_::_,h=>h.elim
 | _::_,[],h=>h.elim
def GF(x:κ):List MapEntry->List (κ×ν)->Nat->Option (Nat×Value)
 | e::es,y::ys,i=>if x=y.1 then some (i,e.val) else GF x es ys (i+1)
 | _,_,_=>none
def BL(xs:List (κ×ν))(x:κ):Option ν:=(xs.find? λy=>decide (x=y.1)).map (·.2)
def Dz(xs:List (κ×ν))(x:κ)(v:ν):List (κ×ν):=match xs with
 | []=> [(x,v)]
 | y::ys=>if x=y.1 then(x,v)::ys else y::Dz ys x v
theorem UG{x:κ}:∀{es:List MapEntry} {xs:List (κ×ν)} {i:Nat},Ef pk ka pv va E es xs->(GF x es xs i=none/\BL xs x=none)∨∃j w v0,GF x es xs i=some (j,w)/\BL xs x=some v0/\Vr pv va E w v0
 | [],[],i,_=> .inl ⟨rfl,rfl⟩
 | e::es,y::ys,i,h=>by
  unfold GF BL
  by_cases K:x=y.1
  ·exact .inr ⟨i,e.val,y.2,by rw [if_pos K],by simp [K],h.2.1⟩
  ·rcases UG (x:=x) (i:=i+1) h.2.2 with⟨O,U⟩ | ⟨j,w,v0,O,U,Y⟩
   ·exact .inl ⟨by rw [if_neg K];exact O,by simpa [K,BL] using U⟩
   ·exact .inr ⟨j,w,v0,by rw [if_neg K];exact O,by simpa [K,BL] using U,Y⟩
 | [],_::_,_,h=>h.elim
 | _::_,[],_,h=>h.elim
theorem Ef.put{x:κ}{v0:ν}{O w:Value}(U:Vr pk ka E O x)(hw:Vr pv va E w v0)(Z:Nat):∀{es:List MapEntry} {xs:List (κ×ν)} {i:Nat},Ef pk ka pv va E es xs->
  (GF x es xs i=none/\Ef pk ka pv va E (es++ [{key:=O,val:=w,born:=Z}]) (Dz xs x v0))∨
  ∃j u,GF x es xs i=some (i+j,u)/\j<es.length/\(∀e,es[j]? =some e->Vr pk ka E e.key x)/\Ef pk ka pv va E (es.modify j λe=>{e with key:=O,val:=w}) (Dz xs x v0)
 | [],[],i,_=> .inl ⟨rfl,U,hw,trivial⟩
 | e::es,y::ys,i,h=>by
  unfold GF Dz
  by_cases K:x=y.1
  ·refine .inr ⟨0,e.val,by rw [if_pos K];rfl,by simp,λac he=>?_,?_⟩
   ·simp at he;subst he;rw [K];exact h.1
   ·rw [if_pos K];exact⟨U,hw,h.2.2⟩
  ·rcases Ef.put U hw Z (i:=i+1) h.2.2 with⟨Y,ag⟩ | ⟨j,u,Y,ag,al,am⟩
   ·exact .inl ⟨by rw [if_neg K];exact Y,by rw [if_neg K];exact⟨h.1,h.2.1,ag⟩⟩
   ·refine .inr ⟨j+1,u,by rw [if_neg K,Y];congr 2;omega,by simp;omega,λac he=>al ac (by simpa using he),?_⟩;rw [if_neg K];exact⟨h.1,h.2.1,am⟩
 | [],_::_,_,h=>h.elim
 | _::_,[],_,h=>h.elim
def Lh(pk:Rp κ)(ka:Bool)(pv:Rp ν)(va:Bool)(E:LH)(o:Obj)(xs:List (κ×ν)):Prop:=
 ∃es clock,o= .map es clock/\Ef pk ka pv va E es.toList xs/\(es.toList.map (·.born)).Pairwise (·<·)/\∀e∈es.toList,e.born<clock
theorem Lh.Ag{o:Obj}{xs:List (κ×ν)}(h:Lh pk ka pv va E o xs)(hle:Le E E'):Lh pk ka pv va E' o xs:=
 let ⟨es,c,K,O,U⟩:=h;⟨es,c,K,O.Ag hle,U⟩
theorem RZ(U:GX P t pk ka){k:Value}{x:κ}(Y:Vr pk ka E k x){Q:Option (Nat×Value)->St->Prop}:∀{es:List MapEntry} {xs:List (κ×ν)} {i:Nat},Ef pk ka pv va E es xs->Q (GF x es xs i) s->lp P (Instr.findAsking t k es i) s Q X
 | [],[],i,_,h=>h
 | e::es,y::ys,i,h,K=>by
  unfold Instr.findAsking
  refine As _ _ (U.eq Y h.1 ?_)
  unfold GF at K
  by_cases O:x=y.1
  ·rw [decide_eq_true O]
   rw [if_pos O] at K;exact K
  ·rw [decide_eq_false O];rw [if_neg O] at K;exact RZ U Y h.2.2 K
 | [],_::_,_,h,_=>h.elim
 | _::_,[],_,h,_=>h.elim
theorem Si{kd:TypeDesc}{k:Value}{x:κ}(O:Vr pk ka E k x)(U:∀{E:LH} {v w:Value} {x y:κ},Vr pk ka E v x->Vr pk ka E w y->Instr.sameNow kd v w=some (decide (x=y))):∀{es:List MapEntry} {xs:List (κ×ν)} {i:Nat},Ef pk ka pv va E es xs->Instr.findNow kd k es i=some (GF x es xs i)
 | [],[],i,_=>rfl
 | e::es,y::ys,i,h=>by
  unfold Instr.findNow GF
  rw [U O h.1]
  by_cases K:x=y.1
  ·simp [K]
  ·simp only [decide_eq_false K,if_neg K];exact Si O U h.2.2
 | [],_::_,_,h=>h.elim
 | _::_,[],_,h=>h.elim
theorem PX(O:GX P t pk ka){k:Value}{x:κ}(U:Vr pk ka E k x){Q:Option (Nat×Value)->St->Prop}{es:List MapEntry}{xs:List (κ×ν)}(h:Ef pk ka pv va E es xs)(K:Q (GF x es xs 0) s):lp P (Instr.findKey t k es) s Q X:=by
 unfold Instr.findKey;obtain⟨kd,Y,Z | ac⟩:=O.kind
 ·refine As _ _ (Cq Y ?_);cases es with
  | nil=>
   cases xs with
   | nil=>exact K
   | cons y ys=>exact h.elim
  | cons e es=>
   have ag:Instr.findNow kd k (e::es) 0=none:=by unfold Instr.findNow;rw [Z]
   rw [ag];exact RZ O U h K
 ·refine As _ _ (Cq Y ?_);rw [Si U ac h];exact K
theorem X2(O:GX P t pk ka)(hm:P.underlying tm=some (.map t te)){z:Value}{z0:ν}(Z:zeroOf P te=some z)(ac:Vr pv va E z z0){bk:Nat}{o:Obj}{xs:List (κ×ν)}{k:Value}{x:κ}(ag:s.get bk=some o)(al:Lh pk ka pv va E o xs)(U:Vr pk ka E k x)(ok:Bool){Q:Value->St->Prop}
  (h:∀w,Vr pv va E w ((BL xs x).getD z0)->Q (if ok then .tuple #[w,.bool (BL xs x).isSome] else w) s):lp P (Instr.lookup tm (.map (some bk)) k ok) s Q X:=by
 obtain⟨es,c,rfl,Y,ap,aq⟩:=al;unfold Instr.lookup;refine As _ _ (Cq hm ?_);refine As _ _ ?_;unfold getObj;simp only [bind,Sem.bind,lp];refine⟨_,ag,V,?_⟩;refine As (x:=Instr.checkKey _ 10000 t k) _ (O.BS U ?_);refine As (x:=Instr.findKey t k es.toList) _ (PX O U Y ?_);rcases UG (x:=x) (i:=0) Y with⟨K,e2⟩ | ⟨j,w,v0,K,e2,am⟩
 ·rw [K];simp only;refine As (x:=zeroValue te) _ (H2 Z ?_);have:=h z (by rw [e2];exact ac);rw [e2] at this;exact this
 ·rw [K];have:=h w (by rw [e2];exact am);rw [e2] at this;exact this
theorem WQ(O:GX P t pk ka)(hm:P.underlying tm=some (.map t te)){bk:Nat}{o:Obj}{xs:List (κ×ν)}{k w:Value}{x:κ}{v0:ν}(am:s.get bk=some o)(Z:s.H bk=some o)(ap:Lh pk ka pv va E o xs)(K:Vr pk ka E k x)(hw:Vr pv va E w v0){Q:Unit->St->Prop}
  (h:∀o',Lh pk ka pv va E o' (Dz xs x v0)->Q () (s.upd bk o')):lp P (Instr.mapUpdate tm (.map (some bk)) k w) s Q X:=by
 obtain⟨es,c,rfl,ac,ag,U⟩:=ap;unfold Instr.mapUpdate;refine As _ _ (Cq hm ?_);unfold getObj;simp only [bind,Sem.bind,lp];refine⟨_,am,V,?_⟩;refine As (x:=Instr.checkKey false 10000 t k) _ (O.BS K ?_);refine As (x:=Instr.findKey t k es.toList) _ (PX O K ac ?_);rcases Ef.put K hw c (i:=0) ac with⟨Y,e2⟩ | ⟨j,u,Y,e2,aq,av⟩
 ·rw [Y];simp only [setObj,lp];refine⟨⟨_,Z,V⟩,V,h _ ⟨es.push {key:=k,val:=w,born:=c},c+1,V,by simpa using e2,?_,?_⟩⟩
  ·rw [Array.toList_push,List.map_append,List.pairwise_append];refine⟨ag,by simp,λa aw b hb=>?_⟩;simp at hb;subst hb;obtain⟨e,he,rfl⟩:=List.mem_map.1 aw;exact U e he
  ·intro e he;rw [Array.toList_push] at he;rcases List.mem_append.1 he with he | he
   ·have:=U e he;omega
   ·simp at he;subst he;simp
 ·rw [Y];have al:es[j]? =some (es[j]'(by simpa using e2)):=Array.getElem?_eq_getElem (by simpa using e2);have ay:(es[j]'(by simpa using e2)).key=k:=O.uniq (aq _ (by rw [Array.getElem?_toList];exact al)) K;simp only [Nat.zero_add,al,Option.map_some,Option.getD_some,ay];refine As (x:=Instr.keyThatStays k k) _ ?_;unfold Instr.keyThatStays;rw [if_pos (O.same K)];simp only [lp,pure,setObj];refine⟨⟨_,Z,V⟩,V,h _ ⟨_,c,V,by simpa using av,?_,?_⟩⟩
  ·have:(es.modify j λe=>{e with key:=k,val:=w}).toList.map (·.born)=es.toList.map (·.born):=by
    rw [Array.toList_modify];apply List.ext_getElem?;intro q;simp only [List.getElem?_map,List.getElem?_modify];split <;> cases es.toList[q]? <;> rfl
   rw [this];exact ag
  ·intro e he;rw [Array.toList_modify] at he;obtain⟨q,az,rfl⟩:=List.mem_iff_getElem.1 he;rw [List.getElem_modify];have a0:q<es.toList.length:=by simpa using az
   split
   ·show(es.toList[q]'a0).born<c;exact U _ (List.getElem_mem _)
   ·exact U _ (List.getElem_mem _)
end
theorem TY{l us r:Lv_}:∀j w,us[j]? =some w->(l++us++r).toArray[l.length+j]? =some w:=λj w h=>by
 have K:j<us.length:=(List.getElem?_eq_some_iff.1 h).1
 rw [List.getElem?_toArray,List.append_assoc,List.getElem?_append_right (by omega),show l.length+j - l.length=j by omega,List.getElem?_append_left K]
 exact h
section
variable {e:TypeId}
theorem LD{c:Av_}{off:Nat}{us:Lv_}{O:Bool}(Y:Dx P e=some O)(Z:Bo P e=some us.length)(ac:O=false->us.length=1)(hw:∀j w,us[j]? =some w->c[off+j]? =some w)
  {Q:Value->St->Prop} (k:Q (HR O us) s):lp P (Go.part e c off) s Q X:=by
 unfold Go.part;refine As (x:=isAgg e) _ (N7 Y ?_);cases O with
 | true=>
  simp only [if_true];refine As (x:=Go.sizeOf e) _ (Fe Z ?_);have ag:c.extract off (off+us.length)=us.toArray:=by
   apply Array.ext_getElem?;intro j;by_cases U:j<us.length
   ·have K:=hw j us[j] (List.getElem?_eq_getElem U);have al:off+j<c.size:=(Array.getElem?_eq_some_iff.1 K).1;simp only [Array.getElem?_extract];rw [if_pos (by omega),K];simp [U]
   ·simp only [Array.getElem?_extract];rw [if_neg (by omega)];simp;omega
  show Q (.agg (c.extract off (off+us.length))) s;rw [ag];exact k
 | false=>
  obtain⟨w,rfl⟩:∃w,us= [w]:=by
   match us,ac rfl with
   | [w],_=>exact⟨w,rfl⟩
  have K:=hw 0 w V;rw [Nat.add_zero] at K;simp only [Bool.false_eq_true,if_false,K];exact k
end
structure B9 (P:Program) (t:TypeId) {α:Type} [DecidableEq α] (pp:Rp α) (K:Bool) (dep:Nat):Prop where
 agg:Dx P t=some K
 size:Bo P t=some pp.n
 one:K=false->pp.n=1
 eq:∀{n:Nat} {E E':LH} {ws ws':Lv_} {x y:α} {s:St} {Q:Bool->St->Prop} {X:Halt->St->Prop},dep<=n->pp.r E ws x->pp.r E' ws' y->Q (decide (x=y)) s->lp P (Op.equalIn n t (HR K ws) (HR K ws')) s Q X
 BS:∀{n:Nat} {em:Bool} {E:LH} {ws:Lv_} {x:α} {s:St} {Q:Unit->St->Prop} {X:Halt->St->Prop},dep<=n->pp.r E ws x->Q () s->lp P (Instr.checkKey em n t (HR K ws)) s Q X
 uniq:∀{E E':LH} {ws ws':Lv_} {x:α},pp.r E ws x->pp.r E' ws' x->ws=ws'
 same:∀{E:LH} {ws:Lv_} {x:α},pp.r E ws x->∀w∈ws,∀m,Instr.sameBits (m+1) w w=true
 now:∃kd,P.underlying t=some kd/\((∀v w,Instr.sameNow kd v w=none)∨∀{E E':LH} {ws ws':Lv_} {x y:α},pp.r E ws x->pp.r E' ws' y->Instr.sameNow kd (HR K ws) (HR K ws')=some (decide (x=y)))
variable {ρ:Operand->Value}{d:Option Tmp}{u ty:TypeId}{p:String}{af:Ae_}{g:On_}{ws ws':Lv_}
section
variable {e:TypeId}
theorem B9.int{kd:IntKind}(U:P.underlying t=some (.int kd))(Y:Bo P t=some 1):B9 P t (rK kd) false 1 where
 agg:=by unfold Dx;rw [U]
 size:=Y
 one _:=rfl
 eq {n E E' ws ws' x y s Q X} Z K O k:=by
  obtain⟨m,rfl⟩:∃m,n=m+1:=⟨n - 1,by omega⟩;have K:ws= [.int kd x]:=K;have O:ws'= [.int kd y]:=O;subst K O;refine UT U ?_;have e:(x==y)=decide (x=y):=by by_cases h:x=y <;> simp [h]
  rw [e];exact k
 BS {n em E ws x s Q X} Z K k:=by
  obtain⟨m,rfl⟩:∃m,n=m+1:=⟨n - 1,by omega⟩;have K:ws= [.int kd x]:=K;subst K;unfold Instr.checkKey;refine As _ _ (Cq U ?_);exact k
 uniq K O:=by
  have K:_= [Value.int kd _]:=K;have O:_= [Value.int kd _]:=O;rw [K,O]
 same {E ws x} h w hw m:=by
  have h:ws= [Value.int kd x]:=h;subst h;simp at hw;subst hw;simp [Instr.sameBits]
 now:=⟨_,U,.inr λ{E E' ws ws' x y} K O=>by
  have K:ws= [.int kd x]:=K
  have O:ws'= [.int kd y]:=O
  subst K O
  have e:(x==y)=decide (x=y):=by by_cases h:x=y <;> simp [h]
  show(if kd=kd then some (x==y) else none)=_
  rw [if_pos rfl,e]⟩
theorem B9.nat{kd:IntKind}(U:P.underlying t=some (.int kd))(Z:Bo P t=some 1):B9 P t (rN kd) false 1 where
 agg:=by unfold Dx;rw [U]
 size:=Z
 one _:=rfl
 eq {n E E' ws ws' x y s Q X} ac K O k:=by
  obtain⟨m,rfl⟩:∃m,n=m+1:=⟨n - 1,by omega⟩;have K:ws= [.int kd ((x:Nat):Int)]:=K;have O:ws'= [.int kd ((y:Nat):Int)]:=O;subst K O;refine UT U ?_;have e:((x:Int)==(y:Int))=decide (x=y):=by
   by_cases h:x=y
   ·simp [h]
   ·have Y:¬(x:Int)=(y:Int):=by omega
    simp [h,Y]
  rw [e];exact k
 BS {n em E ws x s Q X} ac K k:=by
  obtain⟨m,rfl⟩:∃m,n=m+1:=⟨n - 1,by omega⟩;have K:ws= [.int kd ((x:Nat):Int)]:=K;subst K;unfold Instr.checkKey;refine As _ _ (Cq U ?_);exact k
 uniq K O:=by
  have K:_= [Value.int kd _]:=K;have O:_= [Value.int kd _]:=O;rw [K,O]
 same {E ws x} h w hw m:=by
  have h:ws= [Value.int kd ((x:Nat):Int)]:=h;subst h;simp at hw;subst hw;simp [Instr.sameBits]
 now:=⟨_,U,.inr λ{E E' ws ws' x y} K O=>by
  have K:ws= [.int kd ((x:Nat):Int)]:=K
  have O:ws'= [.int kd ((y:Nat):Int)]:=O
  subst K O
  have e:((x:Int)==(y:Int))=decide (x=y):=by
   by_cases h:x=y
   ·simp [h]
   ·have Y:¬(x:Int)=(y:Int):=by omega
    simp [h,Y]
  show(if kd=kd then some ((x:Int)==(y:Int)) else none)=_
  rw [if_pos rfl,e]⟩
theorem B9.up{α:Type} [DecidableEq α] {pp:Rp α}{O:Bool}{dep U:Nat}(h:B9 P t pp O dep)(hd:dep<=U):B9 P t pp O U:=
 ⟨h.agg,h.size,h.one,λK=>h.eq (Nat.le_trans hd K),λK=>h.BS (Nat.le_trans hd K),h.uniq,h.same,h.now⟩
theorem Qt{α:Type}{kk:Nat}{pp:Rp α}{E:LH}{ws:Lv_}{xs:List α}(K:(rA kk pp).r E ws xs){i:Nat}(hi:i<kk):∃x us,xs[i]? =some x/\pp.r E us x/\us.length=pp.n/\∀j w,us[j]? =some w->ws.toArray[i*pp.n+j]? =some w:=by
 have O:xs[i]? =some (xs[i]'(by rw [K.1];exact hi)):=List.getElem?_eq_getElem (by rw [K.1];exact hi);have Y:ix xs (i:Int)=some (xs[i]'(by rw [K.1];exact hi)):=by unfold ix;rw [if_pos (by omega)];simpa using O
 obtain⟨us,U,_,_,Z⟩:=G8 (m:=(i:Int)) K Y;exact⟨_,us,O,U,pp.len U,λj w ac=>by have:=Z j w ac;rw [List.getElem?_toArray];simpa using this⟩
theorem B9.arr{α:Type} [DecidableEq α] {pp:Rp α}{a6:Bool}{dep kk:Nat}(h:B9 P e pp a6 dep)(Z:P.underlying t=some (.array kk e))(a7:Bo P t=some (kk*pp.n)):B9 P t (rA kk pp) true (dep+1) where
 agg:=by unfold Dx;rw [Z]
 size:=a7
 one:=λh=>by cases h
 eq {n E E' ws ws' xs ys s Q X} a8 ac a0 k:=by
  obtain⟨n,rfl⟩:∃m,n=m+1:=⟨n - 1,by omega⟩;have bx:=ac.1;have bz:=a0.1;unfold Op.equalIn;refine As _ _ (Cq Z ?_);refine As (x:=Go.sizeOf e) _ (Fe h.size ?_);simp only [HR,if_true];simp only [Std.Legacy.Range.forIn_eq_forIn_range',Std.Legacy.Range.size,Nat.sub_zero,Nat.add_one_sub_one,Nat.div_one];let bd:Nat->Option Bool×Unit->Sem (ForInStep (Option Bool×Unit)):=λi _=>do
   if !(← Op.equalIn n e (← Go.part e ws.toArray (i*pp.n)) (← Go.part e ws'.toArray (i*pp.n))) then pure (ForInStep.done (some false,())) else pure (ForInStep.yield (none,()))
  have key:∀(m st:Nat),st+m=kk->(∀i,i<st->xs[i]? =ys[i]?)->∀{K:Option Bool×Unit->St->Prop},K (if xs=ys then(none,()) else(some false,())) s->lp P (forIn (List.range' st m) (none,()) bd:Sem _) s K X:=by
   intro m
   induction m with
   | zero=>
    intro st al am K O;have U:xs=ys:=by
     apply List.ext_getElem?;intro i;rcases Nat.lt_or_ge i st with hi | hi
     ·exact am i hi
     ·rw [List.getElem?_eq_none (by omega),List.getElem?_eq_none (by omega)]
    rw [if_pos U] at O;simp only [List.range'_zero,List.forIn_nil];exact O
   | succ m ap=>
    intro st al am K O;simp only [List.range'_succ,List.forIn_cons];obtain⟨a,us,ag,aq,Y,av⟩:=Qt ac (i:=st) (by omega);obtain⟨c,b0,aw,a9,a2,bb⟩:=Qt a0 (i:=st) (by omega);refine As _ _ (As _ _ (LD h.agg (by rw [Y];exact h.size) (λq=>by rw [Y];exact h.one q) av ?_));refine As _ _ (LD h.agg (by rw [a2];exact h.size) (λq=>by rw [a2];exact h.one q) bb ?_);refine As _ _ (h.eq (by omega) aq a9 ?_);by_cases ay:a=c
    ·subst ay;simp only [decide_true,Bool.not_true,Bool.false_eq_true,if_false,lp,pure];exact ap (st+1) (by omega) (λi hi=>by
      rcases Nat.lt_or_ge i st with a3 | a3
      ·exact am i a3
      ·obtain rfl:i=st:=by omega
       rw [ag,aw]) O
    ·have be:¬xs=ys:=λq=>ay (by rw [q] at ag;rw [ag] at aw;exact Option.some.inj aw);rw [if_neg be] at O;simp only [ay,decide_false,Bool.not_false,if_true,lp,pure];exact O
  refine As _ _ (key kk 0 (by omega) (λi hi=>by omega) ?_);by_cases U:xs=ys
  ·rw [if_pos U];simpa [lp,pure,U] using k
  ·rw [if_neg U];simpa [lp,pure,U] using k
 BS {n em E ws xs s Q X} a8 ac k:=by
  obtain⟨n,rfl⟩:∃m,n=m+1:=⟨n - 1,by omega⟩;unfold Instr.checkKey;refine As _ _ (Cq Z ?_);simp only [HR,if_true];simp only [Std.Legacy.Range.forIn_eq_forIn_range',Std.Legacy.Range.size,Nat.sub_zero,Nat.add_one_sub_one,Nat.div_one];let bd:Nat->Unit->Sem (ForInStep Unit):=λi _=>do
   Instr.checkKey em n e (← Go.part e ws.toArray (i*(← Go.sizeOf e)))
   pure (ForInStep.yield ())
  have key:∀(m st:Nat),st+m=kk->∀{K:Unit->St->Prop},K () s->lp P (forIn (List.range' st m) () bd:Sem _) s K X:=by
   intro m
   induction m with
   | zero=>
    intro st al K O;simp only [List.range'_zero,List.forIn_nil];exact O
   | succ m ap=>
    intro st al K O;simp only [List.range'_succ,List.forIn_cons];obtain⟨a,us,ag,aq,Y,av⟩:=Qt ac (i:=st) (by omega);refine As _ _ (As (x:=Go.sizeOf e) _ (Fe h.size ?_));refine As _ _ (LD h.agg (by rw [Y];exact h.size) (λq=>by rw [Y];exact h.one q) av ?_);refine As _ _ (h.BS (by omega) aq ?_);exact ap (st+1) (by omega) O
  exact As _ _ (key kk 0 (by omega) k)
 uniq {E E' ws ws' xs} az bi:=by
  obtain⟨a1,wss,rfl,a4,c1⟩:=az;obtain⟨b1,bn,rfl,b2,c2⟩:=bi;have:wss=bn:=by
   apply List.ext_getElem (by omega);intro i hi bo;have a5:xs[i]? =some (xs[i]'(by omega)):=List.getElem?_eq_getElem (by omega);exact h.uniq (c1 i _ _ a5 (List.getElem?_eq_getElem hi)) (c2 i _ _ a5 (List.getElem?_eq_getElem bo))
  rw [this]
 same {E ws xs} az w hw m:=by
  obtain⟨a1,wss,rfl,a4,c1⟩:=az;obtain⟨us,bv,hw⟩:=List.mem_flatten.1 hw;obtain⟨i,hi⟩:=List.mem_iff_getElem?.1 bv;have bw:i<xs.length:=by rw [a1,← a4];exact(List.getElem?_eq_some_iff.1 hi).1
  exact h.same (c1 i _ us (List.getElem?_eq_getElem bw) hi) w hw m
 now:=⟨_,Z,.inl λv w=>rfl⟩
theorem B9.field{α:Type} [DecidableEq α] {pp:Rp α}{ac:Bool}{dep n:Nat}{f:Field}{s:St}{X:Halt->St->Prop}(h:B9 P f.type pp ac dep)(hd:dep<=n)(ag:f.name≠ "_"){E E':LH}{us Y:Lv_}{x y:α}(r1:pp.r E us x)(r2:pp.r E' Y y){cx Z:Av_}
  (w1:∀j w,us[j]? =some w->cx[f.offset+j]? =some w) (w2:∀j w,Y[j]? =some w->Z[f.offset+j]? =some w) {K:ForInStep (Option Bool×Unit)->St->Prop} (O:K (if x=y then .yield (none,()) else .done (some false,())) s):
  lp P (if f.name≠ "_" then do
   if !(← Op.equalIn n f.type (← Go.part f.type cx f.offset) (← Go.part f.type Z f.offset)) then pure (ForInStep.done (some false,())) else pure (ForInStep.yield (none,()))
   else pure (ForInStep.yield (none,()))) s K X:=by
 rw [if_pos ag]
 refine As _ _ (LD h.agg (by rw [pp.len r1];exact h.size) (λq=>by rw [pp.len r1];exact h.one q) w1 ?_)
 refine As _ _ (LD h.agg (by rw [pp.len r2];exact h.size) (λq=>by rw [pp.len r2];exact h.one q) w2 ?_)
 refine As _ _ (h.eq hd r1 r2 ?_)
 by_cases U:x=y
 ·rw [if_pos U] at O;simpa [lp,pure,U] using O
 ·rw [if_neg U] at O;simpa [lp,pure,U] using O
theorem B9.MR{α:Type} [DecidableEq α] {pp:Rp α}{O em:Bool}{dep n:Nat}{f:Field}{s:St}{X:Halt->St->Prop}(h:B9 P f.type pp O dep)(hd:dep<=n)(U:f.name≠ "_"){E:LH}{us:Lv_}{x:α}(r1:pp.r E us x){cx:Av_}
  (w1:∀j w,us[j]? =some w->cx[f.offset+j]? =some w) {K:ForInStep Unit->St->Prop} (Y:K (.yield ()) s):
  lp P (if f.name≠ "_" then do
   Instr.checkKey em n f.type (← Go.part f.type cx f.offset)
   pure (ForInStep.yield ())
   else pure (ForInStep.yield ())) s K X:=by
 rw [if_pos U]
 refine As _ _ (LD h.agg (by rw [pp.len r1];exact h.size) (λq=>by rw [pp.len r1];exact h.one q) w1 ?_)
 refine As _ _ (h.BS hd r1 ?_)
 exact Y
theorem L3{us r:Lv_}{o:Nat}(K:o=0):∀j w,us[j]? =some w->(us++r).toArray[o+j]? =some w:=λj w h=>by subst K;exact TY (l:= []) j w h
theorem O8{l us r:Lv_}{o:Nat}(K:o=l.length):∀j w,us[j]? =some w->(l++(us++r)).toArray[o+j]? =some w:=λj w h=>by
 subst K
 have:=TY (l:=l) (r:=r) j w h
 rwa [List.append_assoc] at this
theorem O0{l us:Lv_}{o:Nat}(K:o=l.length):∀j w,us[j]? =some w->(l++us).toArray[o+j]? =some w:=λj w h=>by
 have:=O8 (r:= []) K j w h
 rwa [List.append_nil] at this
theorem Ra{l m us:Lv_}{o:Nat}(K:o=l.length+m.length):∀j w,us[j]? =some w->(l++(m++us)).toArray[o+j]? =some w:=λj w h=>by
 have:=O0 (l:=l++m) (o:=o) (by simp [K]) j w h
 rwa [List.append_assoc] at this
theorem B9.two{α β:Type} [DecidableEq α] [DecidableEq β] {K:Rp α}{p2:Rp β}{a1 aw:Bool}{dep:Nat}{f1 f2:Field}(O:P.underlying t=some (.struct #[f1,f2]))(U:B9 P f1.type K a1 dep)(Y:B9 P f2.type p2 aw dep)(ay:P.stoodInHeld t=false)
  (n1:f1.name≠ "_") (n2:f2.name≠ "_") (ag:f1.offset=0) (al:f2.offset=K.n) (az:Bo P t=some (K.n+p2.n)):B9 P t (rP K p2) true (dep+1) where
 agg:=by unfold Dx;rw [O]
 size:=az
 one:=λh=>by cases h
 eq {n E E' ws ws' x y s Q X} a0 am a2 k:=by
  obtain⟨n,rfl⟩:∃m,n=m+1:=⟨n - 1,by omega⟩;obtain⟨ap,aq,rfl,r1,r2⟩:=am;obtain⟨v1,v2,rfl,Z,av⟩:=a2;simp only [HR,if_true];unfold Op.equalIn;refine As _ _ (Cq O ?_);refine As (x:=program) _ ?_;show lp P (if P.stoodInHeld t=true then _ else _) s _ _
  rw [if_neg (by rw [ay];exact Bool.false_ne_true)]
  dsimp only;rw [← Array.forIn_toList];simp only [List.forIn_cons,List.forIn_nil];refine As _ _ (As _ _ (U.field (by omega) n1 r1 Z (L3 ag) (L3 ag) ?_));by_cases ac:x.1=y.1
  ·rw [if_pos ac];refine As _ _ (Y.field (by omega) n2 r2 av (O0 (al.trans (K.len r1).symm)) (O0 (al.trans (K.len Z).symm)) ?_);by_cases e2:x.2=y.2
   ·have e:x=y:=Prod.ext ac e2;rw [if_pos e2];simpa [lp,pure,e] using k
   ·have e:¬x=y:=λq=>e2 (by rw [q]);rw [if_neg e2];simpa [lp,pure,e] using k
  ·have e:¬x=y:=λq=>ac (by rw [q]);rw [if_neg ac];simpa [lp,pure,e] using k
 BS {n em E ws x s Q X} a0 am k:=by
  obtain⟨n,rfl⟩:∃m,n=m+1:=⟨n - 1,by omega⟩;obtain⟨ap,aq,rfl,r1,r2⟩:=am;simp only [HR,if_true];unfold Instr.checkKey;refine As _ _ (Cq O ?_)
  dsimp only;rw [← Array.forIn_toList];simp only [List.forIn_cons,List.forIn_nil];refine As _ _ (As _ _ (U.MR (by omega) n1 r1 (L3 ag) ?_));refine As _ _ (Y.MR (by omega) n2 r2 (O0 (al.trans (K.len r1).symm)) ?_);exact k
 uniq {E E' ws ws' x} a b:=by
  obtain⟨ap,aq,rfl,r1,r2⟩:=a;obtain⟨v1,v2,rfl,Z,av⟩:=b;rw [U.uniq r1 Z,Y.uniq r2 av]
 same {E ws x} a w hw m:=by
  obtain⟨ap,aq,rfl,r1,r2⟩:=a;rcases List.mem_append.1 hw with hw | hw
  ·exact U.same r1 w hw m
  ·exact Y.same r2 w hw m
 now:=⟨_,O,.inl λv w=>rfl⟩
theorem B9.three{α β a3:Type} [DecidableEq α] [DecidableEq β] [DecidableEq a3] {K:Rp α}{p2:Rp β}{p3:Rp a3}{a1 a5 a6:Bool}{dep:Nat}{f1 f2 f3:Field}(U:P.underlying t=some (.struct #[f1,f2,f3]))(Y:B9 P f1.type K a1 dep)(Z:B9 P f2.type p2 a5 dep)(ac:B9 P f3.type p3 a6 dep)(a7:P.stoodInHeld t=false)
  (n1:f1.name≠ "_") (n2:f2.name≠ "_") (a4:f3.name≠ "_") (ap:f1.offset=0) (aq:f2.offset=K.n) (av:f3.offset=K.n+p2.n) (a8:Bo P t=some (K.n+(p2.n+p3.n))):B9 P t (rP K (rP p2 p3)) true (dep+1) where
 agg:=by unfold Dx;rw [U]
 size:=a8
 one:=λh=>by cases h
 eq {n E E' ws ws' x y s Q X} a9 aw bb k:=by
  obtain⟨n,rfl⟩:∃m,n=m+1:=⟨n - 1,by omega⟩;obtain⟨ay,_,rfl,r1,az,a0,rfl,r2,r3⟩:=aw;obtain⟨v1,_,rfl,O,v2,be,rfl,ag,a2⟩:=bb;simp only [HR,if_true];unfold Op.equalIn;refine As _ _ (Cq U ?_);refine As (x:=program) _ ?_;show lp P (if P.stoodInHeld t=true then _ else _) s _ _
  rw [if_neg (by rw [a7];exact Bool.false_ne_true)]
  dsimp only;rw [← Array.forIn_toList];simp only [List.forIn_cons,List.forIn_nil];refine As _ _ (As _ _ (Y.field (by omega) n1 r1 O (L3 ap) (L3 ap) ?_));by_cases al:x.1=y.1
  ·rw [if_pos al];refine As _ _ (Z.field (by omega) n2 r2 ag (O8 (aq.trans (K.len r1).symm)) (O8 (aq.trans (K.len O).symm)) ?_);by_cases e2:x.2.1=y.2.1
   ·rw [if_pos e2];refine As _ _ (ac.field (by omega) a4 r3 a2 (Ra (by rw [av,K.len r1,p2.len r2])) (Ra (by rw [av,K.len O,p2.len ag])) ?_);by_cases am:x.2.2=y.2.2
    ·have e:x=y:=Prod.ext al (Prod.ext e2 am);rw [if_pos am];simpa [lp,pure,e] using k
    ·have e:¬x=y:=λq=>am (by rw [q]);rw [if_neg am];simpa [lp,pure,e] using k
   ·have e:¬x=y:=λq=>e2 (by rw [q]);rw [if_neg e2];simpa [lp,pure,e] using k
  ·have e:¬x=y:=λq=>al (by rw [q]);rw [if_neg al];simpa [lp,pure,e] using k
 BS {n em E ws x s Q X} a9 aw k:=by
  obtain⟨n,rfl⟩:∃m,n=m+1:=⟨n - 1,by omega⟩;obtain⟨ay,_,rfl,r1,az,a0,rfl,r2,r3⟩:=aw;simp only [HR,if_true];unfold Instr.checkKey;refine As _ _ (Cq U ?_)
  dsimp only;rw [← Array.forIn_toList];simp only [List.forIn_cons,List.forIn_nil];refine As _ _ (As _ _ (Y.MR (by omega) n1 r1 (L3 ap) ?_));refine As _ _ (Z.MR (by omega) n2 r2 (O8 (aq.trans (K.len r1).symm)) ?_);refine As _ _ (ac.MR (by omega) a4 r3 (Ra (by rw [av,K.len r1,p2.len r2])) ?_);exact k
 uniq {E E' ws ws' x} a b:=by
  obtain⟨ay,_,rfl,r1,az,a0,rfl,r2,r3⟩:=a;obtain⟨v1,_,rfl,O,v2,be,rfl,ag,a2⟩:=b;rw [Y.uniq r1 O,Z.uniq r2 ag,ac.uniq r3 a2]
 same {E ws x} a w hw m:=by
  obtain⟨ay,_,rfl,r1,az,a0,rfl,r2,r3⟩:=a;rcases List.mem_append.1 hw with hw | hw
  ·exact Y.same r1 w hw m
  ·rcases List.mem_append.1 hw with hw | hw
   ·exact Z.same r2 w hw m
   ·exact ac.same r3 w hw m
 now:=⟨_,U,.inl λv w=>rfl⟩
theorem B9.key{α:Type} [DecidableEq α] {pp:Rp α}{K:Bool}{dep:Nat}(h:B9 P t pp K dep)(hd:dep<=10000):GX P t pp K where
 BS:=by
  rintro em E v x s Q X ⟨ws,Y,rfl⟩ k;exact h.BS hd Y k
 kind:=by
  obtain⟨kd,O,Z⟩:=h.now;refine⟨kd,O,Z.imp id λac=>?_⟩;rintro E v w x y ⟨ws,r1,rfl⟩ ⟨ws',r2,rfl⟩;exact ac r1 r2
 eq:=by
  rintro E v w x y s Q X ⟨ws,r1,rfl⟩ ⟨ws',r2,rfl⟩ k;exact h.eq hd r1 r2 k
 same:=by
  rintro E v x ⟨ws,r1,rfl⟩;cases K with
  | false=>
   obtain⟨w,rfl⟩:∃w,ws= [w]:=by
    have:=(pp.len r1).trans (h.one V)
    match ws,this with
    | [w],_=>exact⟨w,rfl⟩
   exact h.same r1 w (by simp) 9999
  | true=>
   show(ws.toArray.size==ws.toArray.size&&(ws.toArray.toList.zip ws.toArray.toList).all λ(x,y)=>Instr.sameBits 9999 x y)=true;rw [Bool.and_eq_true];refine⟨by simp,List.all_eq_true.2 ?_⟩;rintro⟨a,b⟩ ag;have O:∀(l:Lv_) a b,(a,b)∈l.zip l->a=b/\a∈l:=by
    intro l
    induction l with
    | nil=>intro a b h;simp at h
    | cons c l U=>
     intro a b h;simp only [List.zip_cons_cons,List.mem_cons,Prod.mk.injEq] at h;rcases h with⟨rfl,rfl⟩ | h
     ·exact⟨V,by simp⟩
     ·exact⟨(U a b h).1,List.mem_cons_of_mem _ (U a b h).2⟩
   obtain⟨rfl,hm⟩:=O _ a b ag;exact h.same r1 a (by simpa using hm) 9998
 uniq:=by
  rintro E v w x ⟨ws,r1,rfl⟩ ⟨ws',r2,rfl⟩;rw [h.uniq r1 r2]
section
variable {x y:Operand}
theorem aa{α:Type} [DecidableEq α] {pp:Rp α}{dep:Nat}{a b:α}(h:B9 P t pp true dep)(hd:dep<=10000)(K:P.eqGuardType P.depth t=false)(r1:pp.r E ws a)(r2:pp.r E' ws' b)(O:ρ x= .agg ws.toArray)(U:ρ y= .agg ws'.toArray):Yl P ⟨d,.binOp .eql t x y u,ty,p,af,g⟩ ρ s (.bool (decide (a=b))):=by
 refine Fz (sm:=do eqGuard .eql t x y (ρ x) (ρ y);binOp .eql t (ρ x) (ρ y)) V ?_
 rw [O,U];refine As _ _ (SO (.inl V) K ?_);have hb:binOp .eql t (.agg ws.toArray) (.agg ws'.toArray)=(do pure (.bool (← Op.equal t (.agg ws.toArray) (.agg ws'.toArray)))):=V
 rw [hb];exact As (x:=Op.equal t _ _) _ (h.eq hd r1 r2 ⟨V,V⟩)
theorem QE{α:Type} [DecidableEq α] {pp:Rp α}{dep:Nat}{a b:α}(h:B9 P t pp true dep)(hd:dep<=10000)(K:P.eqGuardType P.depth t=false)(r1:pp.r E ws a)(r2:pp.r E' ws' b)(O:ρ x= .agg ws.toArray)(U:ρ y= .agg ws'.toArray):Yl P ⟨d,.binOp .neq t x y u,ty,p,af,g⟩ ρ s (.bool (decide (a≠b))):=by
 refine Fz (sm:=do eqGuard .neq t x y (ρ x) (ρ y);binOp .neq t (ρ x) (ρ y)) V ?_
 rw [O,U];refine As _ _ (SO (.inr V) K ?_);have hb:binOp .neq t (.agg ws.toArray) (.agg ws'.toArray)=(do pure (.bool (!(← Op.equal t (.agg ws.toArray) (.agg ws'.toArray))))):=V
 rw [hb];exact As (x:=Op.equal t _ _) _ (h.eq hd r1 r2 ⟨by simp,V⟩)
end
end
theorem WR{E H:LH}{B:List (Nat×Obj)}(i:Nat){bk:Nat}{o:Obj}(K:Nd E H B)(h:B[i]? =some (bk,o)):∃E',Le E E'/\E' bk=some o/\Nd E' H (B.eraseIdx i)/\Cl (mk E H B) (mk E' H (B.eraseIdx i)):=by
 have ap:=List.mem_of_getElem? h;have aq:E bk=none/\H bk=none:=by
  have:∀{B:List (Nat×Obj)},Nd E H B->(bk,o)∈B->E bk=none/\H bk=none:=by
   intro B K O
   induction B with
   | nil=>simp at O
   | cons q B Y=>
    rcases List.mem_cons.1 O with rfl | O
    ·exact⟨K.1,K.2.1⟩
    ·exact Y K.2.2.2 O
  exact this K ap
 let E':LH:=λx=>if x=bk then some o else E x
 have ag:E' bk=some o:=by simp [E']
 have hle:Le E E':=λx u U=>by
  have:x≠bk:=λe=>by subst e;rw [aq.1] at U;cases U
  simp [E',this,U]
 have av:Nd E' H (B.eraseIdx i):=by
  have:∀{B:List (Nat×Obj)} {i:Nat},Nd E H B->B[i]? =some (bk,o)->Nd E' H (B.eraseIdx i)/\∀p∈B.eraseIdx i,p.1≠bk:=by
   intro B
   induction B with
   | nil=>intro i _ h;simp at h
   | cons q B Y=>
    obtain⟨c,v⟩:=q;intro i K h;have up:∀{B:List (Nat×Obj)},Nd E H B->(∀p∈B,p.1≠bk)->Nd E' H B:=by
     intro B K al
     induction B with
     | nil=>trivial
     | cons q B aw=>exact⟨by simpa [E',al q (by simp)] using K.1,K.2.1,K.2.2.1,aw K.2.2.2 λp O=>al p (List.mem_cons_of_mem _ O)⟩
    cases i with
    | zero=>
     simp at h;obtain⟨rfl,rfl⟩:=h;exact⟨up K.2.2.2 K.2.2.1,K.2.2.1⟩
    | succ i=>
     simp at h;obtain⟨Z,ac⟩:=Y K.2.2.2 h;have am:c≠bk:=λe=>K.2.2.1 (bk,o) (List.mem_of_getElem? h) e.symm;refine⟨⟨by simpa [E',am] using K.1,K.2.1,λp O=>K.2.2.1 p (List.mem_of_mem_eraseIdx O),Z⟩,λp O=>?_⟩;rcases List.mem_cons.1 O with rfl | O
     ·exact am
     ·exact ac p O
  exact(this K h).1
 refine⟨E',hle,ag,av,⟨λx u U=>hle x u U,λx u U=>(Mq K h U).2,λx u U=>?_,V⟩⟩;by_cases e:x=bk
 ·subst e;right;have:u=o:=by have:E' x=some u:=U;rw [ag] at this;exact(Option.some.inj this).symm
  subst this;refine⟨JI K h,?_⟩;cases ay:(mk E' H (B.eraseIdx i)).H x with
  | none=>rfl
  | some y=>exact absurd rfl (Mq K h ay).1
 ·left;have Z:E' x=some u:=U;have ac:E' x=E x:=by simp [E',e]
  show E x=some u;rw [← ac];exact Z
theorem Wz{E H:LH}{B0:List (Nat×Obj)}{e:TypeId}{K l c:Nat}{a:Option Addr}{blk:List (Nat×Obj)}{xs:Lv_}(ag:GS e K a l c blk xs)(U:Nd E H (B0++blk)):∃E',Le E E'/\Px E' K (.slice a l c) l xs/\Nd E' H B0/\Cl (mk E H (B0++blk)) (mk E' H B0):=by
 rcases ag with⟨rfl,rfl,rfl,rfl,rfl⟩ | ⟨bk,f,rfl,rfl,al,Y,rfl⟩
 ·simp only [List.append_nil] at U ⊢;exact⟨E,Le.refl _,.nil,U,.refl _⟩
 ·have am:(B0++ [(bk,Obj.cells f e (0,0))])[B0.length]? =some (bk,Obj.cells f e (0,0)):=by simp
  obtain⟨E',hle,ap,Z,ac⟩:=WR B0.length U am;have aq:(B0++ [(bk,Obj.cells f e (0,0))]).eraseIdx B0.length=B0:=by rw [List.eraseIdx_append_of_length_le (Nat.le_refl _)];simp
  rw [aq] at Z ac;refine⟨E',hle,⟨_,c,V,Y,?_,.inr ⟨bk,0,f,e,(0,0),V,ap,λj w O=>?_⟩⟩,Z,ac⟩
  ·have:l*K<=c*K:=Nat.mul_le_mul_right _ Y;simp [al,Nat.min_eq_left this]
  ·rw [List.getElem?_take] at O;split at O
   ·simpa using O
   ·cases O
theorem WB{α:Type}{pp:Rp α}{E H:LH}{S:List Seg}{e:TypeId}{a:Option Addr}{c:Nat}{seg:Seg}{xs:List α}(j:Nat)(U:OL e pp E a c seg xs)(ap:Aq E H S)(aq:S[j]? =some seg):∃E',Le E E'/\Al pp E' a c xs/\Aq E' H (S.set j [])/\Cl (Ak E H S) (Ak E' H (S.set j [])):=by
 obtain⟨wss,U,ac,ag⟩:=U;have av:∀ad:Addr,a=some ad->ad.spot=none:=λad K=>by
  rcases U with⟨O,_⟩ | ⟨bk,f,O,_⟩
  ·rw [O] at K;cases K
  ·rw [O] at K;cases K;rfl
 obtain⟨O,aw⟩:=Ha ap aq;obtain⟨E',hle,ay,az,al⟩:=Wz U aw;rw [← O] at al;refine⟨E',hle,?_,az,al⟩;obtain⟨a0,a1,Y,a2,a7,Z⟩:=ay;obtain⟨rfl,-,rfl⟩:a=a0/\xs.length=xs.length/\c=a1:=by
  simp only [Value.slice.injEq] at Y;exact⟨Y.1,V,Y.2.2⟩
 refine⟨a2,?_⟩;rcases Z with Z | ⟨bk,off,f,a3,fr,a4,g2,a5⟩
 ·exact .inl ⟨List.eq_nil_of_length_eq_zero Z,λad K=> .inl (av ad K)⟩
 ·refine .inr ⟨bk,off,a4,λi x am=>?_⟩;have a6:i<wss.length:=by rw [ac];exact(List.getElem?_eq_some_iff.1 am).1
  have hw:=List.getElem?_eq_getElem a6;refine⟨wss[i],pp.Ag hle (ag i x _ am hw),f,a3,fr,g2,λm w hm=>?_⟩;rw [Nat.add_assoc];exact a5 _ w (KX (IG ac ag) hw m w hm)
theorem Cl.get{s s₀:St}(h:Cl s s₀){b:Nat}{o:Obj}(K:s₀.get b=some o):s.get b=some o:=by
 unfold St.get at K ⊢;cases O:s₀.E b with
 | some o'=>
  rw [O] at K;simp only at K;cases K;rcases h.EY _ _ O with U | ⟨U,_⟩
  ·rw [U]
  ·cases he:s.E b with
   | none=>exact U
   | some Y=>
    have:=h.ext _ _ he;rw [O] at this;cases this;rfl
 | none=>
  rw [O] at K;simp only at K;cases he:s.E b with
  | none=>exact h.own _ _ K
  | some Y=>
   have:=h.ext _ _ he;rw [O] at this;cases this
theorem Cl.upd{s s₀:St}(h:Cl s s₀){b:Nat}(o:Obj)(hb:(∃u,s₀.H b=some u)∨s₀.E b=none):Cl (s.upd b o) (s₀.upd b o):=by
 refine⟨h.ext,λx u K=>?_,λx u K=>?_,h.q⟩
 ·simp only [St.upd] at K ⊢;by_cases e:x=b
  ·rw [if_pos e] at K ⊢;exact K
  ·rw [if_neg e] at K ⊢;exact h.own _ _ K
 ·have O:s₀.E x=some u:=K;rcases h.EY _ _ O with U | ⟨U,Y⟩
  ·exact .inl U
  ·refine .inr ?_;have e:x≠b:=λe=>by
    subst e;rcases hb with⟨w,hw⟩ | hb
    ·rw [hw] at Y;cases Y
    ·rw [hb] at O;cases O
   simp only [St.upd,if_neg e];exact⟨U,Y⟩
theorem Cl.none{s s₀:St}(h:Cl s s₀){b:Nat}(U:s.E b=none)(O:s.H b=none):s₀.E b=none/\s₀.H b=none:=by
 constructor
 ·cases he:s₀.E b with
  | none=>rfl
  | some o=>
   rcases h.EY _ _ he with K | ⟨K,_⟩
   ·rw [U] at K;cases K
   ·rw [O] at K;cases K
 ·cases he:s₀.H b with
  | none=>rfl
  | some o=>have:=h.own _ _ he;rw [O] at this;cases this
theorem ZC{P:Program}{α:Type}(x:Sem α):∀{s s₀:St} {Q:α->St->Prop} {X:Halt->St->Prop},Cl s s₀->lp P x s₀ Q X->lp P x s (λa s'=>∃Z,Cl s' Z/\Q a Z) (λh s'=>∃Z,Cl s' Z/\X h Z):=by
 induction x with
 | pure a=>intro s s₀ Q X g h;exact⟨s₀,g,h⟩
 | load m a k K=>
  intro s s₀ Q X g h;obtain⟨O,v,U,Y⟩:=h;obtain⟨o,al,am⟩:=Option.bind_eq_some_iff.1 U;exact⟨O,v,by unfold St.cell?;rw [g.get al];exact am,K v g Y⟩
 | store m a v k K=>
  intro s s₀ Q X g h;obtain⟨O,U,o,Y,ap,aq,av⟩:=h;exact⟨O,U,o,g.own _ _ Y,ap,aq,K (g.upd _ (.inl ⟨o,Y⟩)) av⟩
 | new o k K=>
  intro s s₀ Q X g h;refine⟨by rw [← g.q];exact h.1,λr O U=>?_⟩;obtain⟨ag,e2⟩:=g.none O U;exact K r (g.upd _ (.inr ag)) (h.2 r ag e2)
 | shape r k K=>intro s s₀ Q X g h;obtain⟨o,O,U⟩:=h;exact⟨o,g.get O,K _ g U⟩
 | freeze a n k K=>intro s s₀ Q X g h;exact h.elim
 | frozen a k K=>intro s s₀ Q X g h;obtain⟨o,O,U⟩:=h;exact⟨o,g.get O,K _ g U⟩
 | getObj r k K=>intro s s₀ Q X g h;obtain⟨o,O,U,Y⟩:=h;exact⟨o,g.get O,U,K _ g Y⟩
 | setObj r o k K=>
  intro s s₀ Q X g h;obtain⟨⟨o',O,aw⟩,U,Y⟩:=h;exact⟨⟨o',g.own _ _ O,aw⟩,U,K (g.upd _ (.inl ⟨o',O⟩)) Y⟩
 | choose q k K=>
  intro s s₀ Q X g h;simp only [lp] at h ⊢;split
  ·rename_i ac;rw [if_pos ac] at h;exact K _ g h
  ·rename_i ac;rw [if_neg ac] at h;exact⟨by rw [← g.q];exact h.1,λt=>K _ g (h.2 t)⟩
 | sys c k K=>intro s s₀ Q X g h;exact h.elim
 | program k K=>intro s s₀ Q X g h;exact K _ g h
 | mark m k K=>
  intro s s₀ Q X g h;refine⟨?_,K g h.2⟩;rcases h.1 with⟨O,U⟩ | O
  ·exact .inl ⟨by rw [← g.q];exact O,U⟩
  ·exact .inr O
 | halt h=>intro s s₀ Q X g ay;exact⟨s₀,g,ay⟩
variable {J:Judge P}{Q:Gs_}{n:Nat}{ds:Ld_}{ops:Ao_}{k:Li_}{cs:Lf_}{m:Nat}{D:Nat->Bool}{L:Env}{H:LH}{S:List Seg}
variable {v:Value}{kd:IntKind}
section
variable {b:Frame}{fuel:Nat}{listed:Array Bool}
variable {x y:Operand}{e:TypeId}{i:Nat}
theorem Qe{f:FuncId}{args:Array Operand}{ats:Array TypeId}{vs:Lv_}{seg:Seg}{R:Value->LH->Seg->Prop}(j:Nat)(a0:∀x,D x=true->∃(O:Nat) (o:Obj),(S.set j [])[O]? =some [(x,o)])(a1:AK J f vs E seg R)(a2:Region.ready .any ops listed= [i])
  (a3:ops[i]? =some ⟨d,.call ⟨.value (.func f),args,ats⟩,ty,p,af,g⟩) (a4:Bj n d=true) (hw:AP L ops ⟨d,.call ⟨.value (.func f),args,ats⟩,ty,p,af,g⟩=some true) (hb:DL P f=true) (a5:evs L args.toList=some vs) (Z:Aq E H S) (ac:S[j]? =some seg)
  (a6:∀v E' seg',Le E E'->R v E' seg'->Aq E' H (S.set j seg')->AQ J Q b n ds ops k cs m D fuel (Bb listed i) (Av L d v) (Ak E' H (S.set j seg'))):
  AQ J Q b n ds ops k cs m D (fuel+1) listed L (Ak E H S):=by
 have al:S.flatten.Perm (seg++(S.set j []).flatten):=(Ey (seg':=seg) ac).1.trans List.perm_append_comm;have am:Nd E H (seg++(S.set j []).flatten):=Nd.perm Z al;have a7:Ak E H S=mk E (Bh (S.set j []).flatten H) seg:=by
  rw [show Ak E H S=mk E H S.flatten from rfl,Fp Z al];unfold mk;rw [FV]
 have ap:=EO.Lq (a1 (Bh (S.set j []).flatten H) (Nd.front am)) (by rintro v s' ⟨E',B',_,_,_,rfl⟩;rfl);rw [← a7] at ap;refine AQ.call V a2 a3 a4 hw hb a5 ap ?_;rintro v bw ⟨⟨E',B',hle,a8,a9,rfl⟩,w,bb⟩;have e2:mk E' (Bh (S.set j []).flatten H) B'=mk E' H (B'++(S.set j []).flatten):=by unfold mk;rw [FV]
 have be:Nd E H (S.set j []).flatten:=by
  have:=am;rw [Nd.iff] at this ⊢;rw [List.map_append,List.nodup_append] at this;exact⟨this.1.2.1,λq bi=>this.2 q (List.mem_append_right _ bi)⟩
 have bn:Nd E' H (S.set j []).flatten:=be.grow λx U=>by
  have bo:=bb.d x U;have ag:Bh B' (Bh (S.set j []).flatten H) x=none:=bo;exact(H0 ag).1
 have aq:Nd E' H (B'++(S.set j []).flatten):=Nd.glue a9 bn;have av:(B'++(S.set j []).flatten).Perm (S.set j B').flatten:=List.perm_append_comm.trans (Ey ac).2.symm;have aw:Aq E' H (S.set j B'):=Nd.perm aq av;rw [e2,Fp aq av];refine⟨V,λx o U=>?_,a6 v E' B' hle a8 aw⟩;by_cases hd:D x=true
 ·obtain⟨O,o',Y⟩:=a0 x hd;have ay:j≠O:=λh=>by
   subst h;rw [List.getElem?_set_self (List.getElem?_eq_some_iff.1 ac).1] at Y;cases Y
  have az:S[O]? =some [(x,o')]:=by rw [List.getElem?_set_ne ay] at Y;exact Y
  have ag:(Ak E H S).get x=some o':=DD (i:=0) Z az V;have bv:(Ak E' H (S.set j B')).get x=some o':=DD (i:=0) aw (by rw [List.getElem?_set_ne ay];exact az) rfl;have K:(if D x then(Ak E H S).get x else E x)=some o:=U
  show(if D x then(Ak E' H (S.set j B')).get x else E' x)=some o
  rw [if_pos hd] at K ⊢;rw [bv,← ag];exact K
 ·have K:(if D x then(Ak E H S).get x else E x)=some o:=U
  show(if D x then(Ak E' H (S.set j B')).get x else E' x)=some o
  rw [if_neg hd] at K ⊢;exact hle _ _ K
theorem AQ.perm{S':List Seg}(K:S.flatten.Perm S'.flatten)(O:Aq E H S)(h:Aq E H S'->AQ J Q b n ds ops k cs m D fuel listed L (Ak E H S')):AQ J Q b n ds ops k cs m D fuel listed L (Ak E H S):=by
 have e:Ak E H S=Ak E H S':=Fp O K;rw [e];exact h (Nd.perm O K)
theorem JA.ghost:∀(fuel:Nat) {listed:Array Bool} {T:Av_} {s s₀:St},Cl s s₀->JA J Q b ds ops k cs m Dy fuel listed T s₀->JA J Q b ds ops k cs m Dy fuel listed T s
 | 0,listed,T,s,s₀,g,h=>⟨h.1,J.ghost g h.2⟩
 | fuel+1,listed,T,s,s₀,g,h=>by
  rcases h with⟨O,U⟩ | ⟨O,U,ac⟩
  ·exact .inl ⟨O,λt=>J.ghost g (U t)⟩
  ·refine .inr ⟨O,by rw [← g.q];exact U,λi hi o ag=>?_⟩;obtain⟨a1,al,am⟩:=ac i hi o ag;refine⟨a1,λe=>JA.ghost fuel g (al e),λe=>?_⟩;have ap:=ZC _ (s:=Bp Dy s) (s₀:=Bp Dy s₀) g (am e);refine Ej _ ap ?_ (λ_ s' ⟨_,_,h⟩=>h);intro aq s' K;obtain⟨Y,Z,K⟩:=K;cases aq with
   | value v=>exact JA.ghost fuel (s:=s') (s₀:=Y) Z K
   | skip=>exact JA.ghost fuel (s:=s') (s₀:=Y) Z K
   | enter f args=>
    obtain⟨R,av,aw⟩:=K;refine⟨R,λQ c cs ay=>J.ghost (s:=s') (s₀:=Y) Z (av Q c cs ay),λv az a0=>?_⟩;obtain⟨a2,a3,a4⟩:=aw v az a0;exact⟨a2,λx o K=>a3 x o (g.ext x o K),a4⟩
   | _=>exact K.elim
theorem Ga{α:Type}{pp:Rp α}{a:Option Addr}{c:Nat}{seg:Seg}{xs:List α}(j:Nat)(K:OL e pp E a c seg xs)(O:Aq E H S)(U:S[j]? =some seg)
  (h:∀E',Le E E'->Al pp E' a c xs->Aq E' H (S.set j [])->AQ J Q b n ds ops k cs m Dy fuel listed L (Ak E' H (S.set j []))):AQ J Q b n ds ops k cs m Dy fuel listed L (Ak E H S):=λT Y=>by
 obtain⟨E',Z,ac,ag,al⟩:=WB j K O U
 exact JA.ghost _ al (h E' Z ac ag T Y)
end
theorem oi{α:Type}{a b:α}(h:some a=some b):a=b:=Option.some.inj h
theorem bs{α β:Type}{o:Option α}{f:α->Option β}{r:β}(h:o.bind f=some r):∃x,o=some x/\f x=some r:=bind_some h
def II(L:Env):Env->List (Option Value)
 | []=> []
 | (t,_)::L'=>look L t::II L L'
def IL:Env->List (Option Value)
 | []=> []
 | (_,v)::L'=>some v::IL L'
theorem OE{L:Env}:∀{L':Env},II L L'=IL L'->Sub L' L
 | [],_=>trivial
 | (t,v)::L',h=>by
  simp only [II,IL,List.cons.injEq] at h
  exact⟨h.1,OE h.2⟩
variable {L':Env}{k':Li_}{rest:List Nat}
variable {op:Op}
section
variable {b:Frame}{i:Nat}
theorem EJ(L':Env)(h:II L L'=IL L')(k':JL J Q b n L' ds k cs s):JL J Q b n L ds k cs s:=EH (OE h) k'
theorem AB(k':JL J Q b n L' ds k cs s)(h:II L L'=IL L'):JL J Q b n L ds k cs s:=EH (OE h) k'
def FE(b:Frame)(n:Nat)(L:Env)(ops:Ao_)(i:Nat):Option Oper:=
 match JY ops.toList i with
 | some ⟨d,op,ty,p,af,g⟩=>match AP L ops ⟨d,op,ty,p,af,g⟩ with
  | some true=>match BS b n ⟨d,op,ty,p,af,g⟩ with
   | true=>some ⟨d,op,ty,p,af,g⟩
   | false=>none
  | _=>none
 | none=>none
theorem K2{o:Oper}(h:FE b n L ops i=some o):ops[i]? =some o/\AP L ops o=some true/\BS b n o=true:=by
 unfold FE at h;split at h
 ·rename_i K;rw [LQ,Array.getElem?_toList] at K;split at h
  ·rename_i hw;split at h
   ·rename_i O;cases h;exact⟨K,hw,O⟩
   ·cases h
  ·cases h
 ·cases h
theorem Am(K:FE b n L ops i=some ⟨d,op,ty,p,af,g⟩)(h:∀ρ,EV L ρ->Yl P ⟨d,op,ty,p,af,g⟩ ρ s v)(O:JL J Q b n (Av L d v) ds (.inRegion ops rest::k) cs s):
  JL J Q b n L ds (.inRegion ops (i::rest)::k) cs s:=
 let ⟨U,Y,Z⟩:=K2 K
 A7 U Y Z h O
theorem LX{f:FuncId}{fn:Func}{c:Code}{E:LH}{vs:Lv_}{B:Seg}{R:Value->LH->Seg->Prop}(O:P.funcs[f]? =some fn)(hb:fn.body=some c)(U:Nat.ble vs.length fn.ntmps=true)
  (h:∀(Q:Gs_) (K:Frame) (cs:Lf_) (H:LH),Aq E H [B]->(∀v E' S' B',Le E E'->S'.flatten=B'->R v E' B'->Aq E' H S'->J.ok Q (G (K.finish v) cs) (Ak E' H S'))->JL J Q (base f) fn.ntmps (Gv 0 vs) [] [.code c] (K::cs) (Ak E H [B])):AK J f vs E B R:=
 AK.enter O hb (Nat.le_of_ble_eq_true U) h
def Pw(n:Nat)(L:Env)(ops:Ao_)(i:Nat):Option Env:=
 match JY ops.toList i with
 | some ⟨d,op,ty,p,af,g⟩=>match AP L ops ⟨d,op,ty,p,af,g⟩ with
  | some true=>match Bj n d with
   | true=>match Ll L op with
    | some v=>match d with
     | some d=>some ((d,v)::L)
     | none=>some L
    | none=>none
   | false=>none
  | some false=>match Bj n d with
   | true=>match d with
    | some d=>some ((d,undef)::L)
    | none=>some L
   | false=>none
  | none=>none
 | none=>none
def Hj(n:Nat)(L:Env)(ops:Ao_)(i:Nat):Option Oper:=
 match JY ops.toList i with
 | some ⟨d,op,ty,p,af,g⟩=>match AP L ops ⟨d,op,ty,p,af,g⟩ with
  | some true=>match Bj n d with
   | true=>some ⟨d,op,ty,p,af,g⟩
   | false=>none
  | _=>none
 | none=>none
theorem Qc{o:Oper}(h:Hj n L ops i=some o):ops[i]? =some o/\AP L ops o=some true/\Bj n o.dst=true:=by
 unfold Hj at h;split at h
 ·rename_i K;rw [LQ,Array.getElem?_toList] at K;split at h
  ·rename_i hw;split at h
   ·rename_i O;cases h;exact⟨K,hw,O⟩
   ·cases h
  ·cases h
 ·cases h
theorem Zq(h:Pw n L ops i=some L'):∃o,ops[i]? =some o/\Bj n o.dst=true/\((∃v,AP L ops o=some true/\Ll L o.op=some v/\L'=Av L o.dst v)∨(AP L ops o=some false/\L'=Av L o.dst undef)):=by
 unfold Pw at h;split at h
 ·rename_i d op ty p af g O;rw [LQ,Array.getElem?_toList] at O;refine⟨_,O,?_⟩;split at h
  ·rename_i hw;split at h
   ·rename_i K;refine⟨K,.inl ?_⟩;split at h
    ·rename_i v U;refine⟨v,hw,U,?_⟩;cases d with
     | none=>cases h;rfl
     | some d=>cases h;rfl
    ·cases h
   ·cases h
  ·rename_i hw;split at h
   ·rename_i K;refine⟨K,.inr ⟨hw,?_⟩⟩;cases d with
    | none=>cases h;rfl
    | some d=>cases h;rfl
   ·cases h
  ·cases h
 ·cases h
variable {fuel:Nat}{listed:Array Bool}
theorem Di(i:Nat)(K:Ek ops m=true)(O:s.q=false)(h:Pw n L ops i=some L')
  (U:AQ J Q b n ds ops k cs m D fuel (Bb listed i) L' s) (Y:Gx ops listed m i=true:=by decide+kernel):AQ J Q b n ds ops k cs m D (fuel+1) listed L s:=by
 obtain⟨o,Z,ac,⟨v,hw,ag,rfl⟩ | ⟨hw,rfl⟩⟩:=Zq h
 ·exact JG.val i Z K Y O hw ac (λρ al s' _=>Ok al ag) U
 ·exact fK i Z K Y O hw ac U
theorem AL(i:Nat)(K:Ek ops m=true)(O:s.q=false)(U:Hj n L ops i=some ⟨d,op,ty,p,af,g⟩)
  (Y:∀ρ,EV L ρ->∀s':St,(∀x o,(Bp D s).E x=some o->s'.E x=some o)->Yl P ⟨d,op,ty,p,af,g⟩ ρ s' v)
  (Z:AQ J Q b n ds ops k cs m D fuel (Bb listed i) (Av L d v) s) (ac:Gx ops listed m i=true:=by decide+kernel):AQ J Q b n ds ops k cs m D (fuel+1) listed L s:=by
 obtain⟨ag,al,am⟩:=Qc U;exact JG.val i ag K ac O al am Y Z
end
abbrev Jn(E H E':LH)(S:List Seg)(K L:Env)(s:St)(R:Prop):Prop:=L=K/\s=Ak E' H S/\Le E E'/\Aq E' H S/\R
abbrev Jm(E H E':LH)(S:List Seg)(K L:Env)(s:St):Prop:=L=K/\s=Ak E' H S/\Le E E'/\Aq E' H S
def Pl(L:Env):List ResultVar->Option (Lv_)
 | []=>some []
 | .tmp t::rs=>match look L t with
  | some v=>match Pl L rs with
   | some vs=>some (v::vs)
   | none=>none
  | none=>none
 | _=>none
theorem Ug{P:Program}{L:Env}{s:St}:∀{rs:List ResultVar} {vs:Lv_},Pl L rs=some vs->RV P L s rs vs
 | [],vs,h=>by cases h;trivial
 | .tmp t::rs,vs,h=>by
  unfold Pl at h
  split at h
  ·rename_i v K
   split at h
   ·rename_i ws hw;cases h;exact⟨K,Ug hw⟩
   ·cases h
  ·cases h
 | .cell _ _::_,_,h=>by cases h
variable {ft:TypeId}
section
variable {b:Frame}{i:Nat}
variable {x y:Operand}{e:TypeId}
theorem AS{c:Frame}{fn:Func}{vs:Lv_}(O:P.funcs[b.fn]? =some fn)(K:(b.kind== .normal&&b.roundOf.isNone)=true)(U:Pl L fn.results.toList=some vs)(h:J.ok Q (G (c.finish (Oi vs)) cs) s):JL J Q b n L [] (.code .ret::k) (c::cs) s:=by
 simp only [Bool.and_eq_true,beq_iff_eq,Option.isNone_iff_eq_none] at K;exact JL.ret K.1 K.2 (BE.list O V (Ug U)) h
theorem BY{f:FuncId}{args:Array Operand}{ats:Array TypeId}{vs:Lv_}{R:Value->LH->Seg->Prop}
  (O:AK J f vs E [] R) (U:FE b n L ops i=some ⟨d,.call ⟨.value (.func f),args,ats⟩,ty,p,af,g⟩) (Y:evs L args.toList=some vs) (hb:DL P f=true)
  (Z:Aq E H S) (ac:∀v E' seg',Le E E'->R v E' seg'->Aq E' H (S++ [seg'])->JL J Q b n (Av L d v) ds (.inRegion ops rest::k) cs (Ak E' H (S++ [seg']))):
  JL J Q b n L ds (.inRegion ops (i::rest)::k) cs (Ak E H S):=by
 obtain⟨ag,al,K⟩:=K2 U;refine JS.call O ag al ?_ hb Y Z ac;simp only [BS,Bool.and_eq_true] at K ⊢;exact⟨K.1,K.2.1⟩
theorem Cs{f:FuncId}{args:Array Operand}{ats:Array TypeId}{vs:Lv_}{v:Value}
  (O:AK J f vs E [] (λw E' B'=>w=v/\B'= [])) (U:FE b n L ops i=some ⟨d,.call ⟨.value (.func f),args,ats⟩,ty,p,af,g⟩) (Y:evs L args.toList=some vs) (hb:DL P f=true)
  (K:Aq E H S) (Z:∀E',Le E E'->Aq E' H (S++ [[]])->JL J Q b n (Av L d v) ds (.inRegion ops rest::k) cs (Ak E' H (S++ [[]]))):
  JL J Q b n L ds (.inRegion ops (i::rest)::k) cs (Ak E H S):=BY O U Y hb K (by rintro _ E' _ hle ⟨rfl,rfl⟩ K;exact Z E' hle K)
theorem Ch{f:FuncId}{args:Array Operand}{ats:Array TypeId}{vs:Lv_}{seg:Seg}{R:Value->LH->Seg->Prop}(j:Nat)
  (O:AK J f vs E seg R) (U:FE b n L ops i=some ⟨d,.call ⟨.value (.func f),args,ats⟩,ty,p,af,g⟩) (Y:evs L args.toList=some vs) (hb:DL P f=true)
  (Z:Aq E H S) (ac:S[j]? =some seg) (ag:∀v E' seg',Le E E'->R v E' seg'->Aq E' H (S.set j seg')->JL J Q b n (Av L d v) ds (.inRegion ops rest::k) cs (Ak E' H (S.set j seg'))):
  JL J Q b n L ds (.inRegion ops (i::rest)::k) cs (Ak E H S):=by
 obtain⟨al,am,K⟩:=K2 U;refine Ti j O al am ?_ hb Y Z ac ag;simp only [BS,Bool.and_eq_true] at K ⊢;exact⟨K.1,K.2.1⟩
def MX(K:Array Field)(i:Nat):Option (Nat×TypeId):=match K[i]? with
 | some f=>some (f.offset,f.type)
 | none=>none
theorem Bq{r m m':Int}{u:TypeId}(h:Au (m+m')=some r)(K:FE b n L ops i=some ⟨d,.binOp .add t x y u,ty,p,af,g⟩)(O:ev L x=some (iV m))(U:ev L y=some (iV m'))
  (Y:JL J Q b n (Av L d (iV r)) ds (.inRegion ops rest::k) cs s):JL J Q b n L ds (.inRegion ops (i::rest)::k) cs s:=Am K (λ_ q=>FY (q _ _ O) (q _ _ U) h) Y
theorem Ck{r m m':Int}{u:TypeId}(h:Au (m - m')=some r)(K:FE b n L ops i=some ⟨d,.binOp .sub t x y u,ty,p,af,g⟩)(O:ev L x=some (iV m))(U:ev L y=some (iV m'))
  (Y:JL J Q b n (Av L d (iV r)) ds (.inRegion ops rest::k) cs s):JL J Q b n L ds (.inRegion ops (i::rest)::k) cs s:=Am K (λ_ q=>DJ (q _ _ O) (q _ _ U) h) Y
theorem JL.ln{a:Option Addr}{e:TypeId}{l c:Nat}{ats:Array TypeId}(K:P.underlying t=some (.slice e))(O:FE b n L ops i=some ⟨d,.call ⟨.builtin .len,#[x],ats⟩,ty,p,af,g⟩)(U:ats[0]? =some t)(Y:ev L x=some (.slice a l c))
  (Z:JL J Q b n (Av L d (.int .i64 l)) ds (.inRegion ops rest::k) cs s):JL J Q b n L ds (.inRegion ops (i::rest)::k) cs s:=Am O (λ_ q=>Yl.len U K (q _ _ Y)) Z
theorem JL.fd{bk o O off:Nat}{U:Array Field}{Y:Nat}(Z:P.underlying t=some (.struct U))(ac:Bo P ft=some (O+1))(ag:FE b n L ops i=some ⟨d,.fieldAddr t x Y,ty,p,af,g⟩)(al:ev L x=some (.pointer (some ⟨bk,o,none⟩)))(K:MX U Y=some (off,ft))
  (am:JL J Q b n (Av L d (.pointer (some ⟨bk,o+off,none⟩))) ds (.inRegion ops rest::k) cs s):
  JL J Q b n L ds (.inRegion ops (i::rest)::k) cs s:=by
 unfold MX at K;split at K
 ·rename_i f ap;cases K;refine Am ag (λρ h=>GV (a:=⟨bk,o,none⟩) O f.offset Z ac ap V V (h _ _ al)) ?_;rw [Ed rfl];exact am
 ·cases K
theorem Cy{bk o:Nat}{ws:Lv_}(j:Nat)(K:At E bk o ws)(O:Dx P t=some false)(U:FE b n L ops i=some ⟨d,.load t x,ty,p,af,g⟩)(Y:ev L x=some (.pointer (some ⟨bk,o+j,none⟩)))(Z:ws[j]? =some v)
  (ac:JL J Q b n (Av L d v) ds (.inRegion ops rest::k) cs (Ak E H S)):
  JL J Q b n L ds (.inRegion ops (i::rest)::k) cs (Ak E H S):=
 Am U (λ_ h=>Yl.load O (h _ _ Y) (At.JV K Z)) ac
theorem V1{bk off:Nat}{c:Av_}(j:Nat)(K:Aq E H S)(O:Bo P t=some v.cells.size)(U:FE b n L ops i=some ⟨d,.store t x y,ty,p,af,g⟩)
  (Y:ev L x=some (.pointer (some ⟨bk,off,none⟩))) (Z:ev L y=some v) (ac:S[j]? =some [(bk,.cells c e (0,0))])
  (h:Aq E H (S.set j [(bk,.cells (Bd c off v.cells.toList) e (0,0))])->JL J Q b n (Av L d undef) ds (.inRegion ops rest::k) cs (Ak E H (S.set j [(bk,.cells (Bd c off v.cells.toList) e (0,0))])))
  (hle:off+v.cells.size<=c.size:=by exact Nat.le_of_ble_eq_true rfl) (ag:∀u∈v.cells.toList,CP u=true:=by simp [Value.cells,CP]):
  JL J Q b n L ds (.inRegion ops (i::rest)::k) cs (Ak E H S):=by
 obtain⟨al,am,ap⟩:=K2 U;exact JS.store j al am ap K Y Z O ag ac hle h
theorem B4{bk o:Nat}{ws:Lv_}(K:At E bk o ws)(O:Dx P t=some true)(U:Bo P t=some ws.length)(Y:FE b n L ops i=some ⟨d,.load t x,ty,p,af,g⟩)(Z:ev L x=some (.pointer (some ⟨bk,o,none⟩)))
  (ac:JL J Q b n (Av L d (.agg ws.toArray)) ds (.inRegion ops rest::k) cs (Ak E H S)):
  JL J Q b n L ds (.inRegion ops (i::rest)::k) cs (Ak E H S):=
 Am Y (λ_ h=>IE O U (h _ _ Z) (At.MO K)) ac
variable {fuel:Nat}{listed:Array Bool}
theorem JG.fd{bk o O off:Nat}{U:Array Field}{Y:Nat}(i:Nat)(Z:Ek ops m=true)(ac:P.underlying t=some (.struct U))(ag:Bo P ft=some (O+1))(al:s.q=false)(am:Hj n L ops i=some ⟨d,.fieldAddr t x Y,ty,p,af,g⟩)(ap:ev L x=some (.pointer (some ⟨bk,o,none⟩)))(K:MX U Y=some (off,ft))
  (aq:AQ J Q b n ds ops k cs m D fuel (Bb listed i) (Av L d (.pointer (some ⟨bk,o+off,none⟩))) s) (av:Gx ops listed m i=true:=by decide+kernel):AQ J Q b n ds ops k cs m D (fuel+1) listed L s:=by
 unfold MX at K;split at K
 ·rename_i f aw;cases K;refine AL i Z al am (λρ h _ _=>GV (a:=⟨bk,o,none⟩) O f.offset ac ag aw V V (h _ _ ap)) ?_ av;rw [Ed rfl];exact aq
 ·cases K
theorem Dw{bk o:Nat}{ws:Lv_}(i:Nat)(K:Ek ops m=true)(j:Nat)(O:At (Bp D s).E bk o ws)(U:Dx P t=some false)(Y:s.q=false)(Z:Hj n L ops i=some ⟨d,.load t x,ty,p,af,g⟩)(ac:ev L x=some (.pointer (some ⟨bk,o+j,none⟩)))(ag:ws[j]? =some v)
  (al:AQ J Q b n ds ops k cs m D fuel (Bb listed i) (Av L d v) s) (am:Gx ops listed m i=true:=by decide+kernel):AQ J Q b n ds ops k cs m D (fuel+1) listed L s:=
 AL i K Y Z (λ_ h _ ap=>Yl.load U (h _ _ ac) (At.Jh O ap ag)) al am
theorem Ks{bk o:Nat}{ws:Lv_}(i:Nat)(K:Ek ops m=true)(O:At (Bp D s).E bk o ws)(U:Dx P t=some true)(Y:Bo P t=some ws.length)(Z:s.q=false)(ac:Hj n L ops i=some ⟨d,.load t x,ty,p,af,g⟩)(ag:ev L x=some (.pointer (some ⟨bk,o,none⟩)))
  (al:AQ J Q b n ds ops k cs m D fuel (Bb listed i) (Av L d (.agg ws.toArray)) s) (am:Gx ops listed m i=true:=by decide+kernel):AQ J Q b n ds ops k cs m D (fuel+1) listed L s:=
 AL i K Z ac (λ_ h _ ap=>IE U Y (h _ _ ag) (At.OF O ap)) al am
end
abbrev RJ:=Int×List Int×Nat
abbrev AJ:=List (Int×Int)
abbrev B8:=List Int×Int×Nat
abbrev An:=Option Addr
abbrev Ew:Rp (Int×Int):=rP rI rI
theorem ip{α:Type}{p:Prop} [Decidable p] {A B:Option α}{r:α}(h:(if p then A else B)=some r)(c:p):A=some r:=by rwa [if_pos c] at h
theorem im{α:Type}{p:Prop} [Decidable p] {A B:Option α}{r:α}(h:(if p then A else B)=some r)(c:¬p):B=some r:=by rwa [if_neg c] at h
theorem ib{α:Type}{c:Bool}{A B:Option α}{r:α}(h:(if c=true then A else B)=some r)(K:c=false):B=some r:=by subst K;simpa using h
def RD(n:Nat)(ops:Ao_):List Nat->Nat->Env->Option (Nat×Env)
 | [],f,L=>some (f,L)
 | i::l,f+1,L=>match Pw n L ops i with
  | some L'=>RD n ops l f L'
  | none=>none
 | _::_,0,_=>none
def Re(ops:Ao_)(m:Nat):Array Bool->List Nat->Bool
 | _,[]=>true
 | listed,i::l=>Gx ops listed m i&&Re ops m (Bb listed i) l
def VQ:Array Bool->List Nat->Array Bool
 | listed,[]=>listed
 | listed,i::l=>VQ (Bb listed i) l
theorem A6{P:Program}{J:Judge P}{Q:Gs_}{b:Frame}{n:Nat}{ds:Ld_}{k:Li_}{cs:Lf_}{s:St}{ops:Ao_}{m:Nat}{D:Nat->Bool}{L':Env}{U:Nat}(Y:Ek ops m=true)(Z:s.q=false):
  ∀(l:List Nat) {fuel:Nat} {listed:Array Bool} {L:Env},RD n ops l fuel L=some (U,L')->AQ J Q b n ds ops k cs m D U (VQ listed l) L' s->(K:Re ops m listed l=true:=by decide+kernel)->AQ J Q b n ds ops k cs m D fuel listed L s
 | [],fuel,listed,L,h,O,_=>by cases h;exact O
 | i::l,fuel,listed,L,h,O,K=>by
  cases fuel with
  | zero=>cases h
  | succ fuel=>
   unfold Re at K;rw [Bool.and_eq_true] at K;unfold RD at h;split at h
   ·rename_i ac e;exact Di i Y Z e (A6 Y Z l h O K.2) K.1
   ·cases h
theorem zg{P:Program}{J:Judge P}{Q:Gs_}{b:Frame}{n:Nat}{L L':Env}{ds:Ld_}{k k':Li_}{cs:Lf_}{s:St}(m:Nat)(h:OV b n m k L=some (k',L'))(K:JL J Q b n L' ds k' cs s):JL J Q b n L ds k cs s:=JL.go m h K
abbrev C:=@zg
abbrev bX(r:Nat)(c:Av_)(t:TypeId):Seg:= [(r,.cells c t (0,0))]
variable {α:Type}{A B:Option α}{r:α}
section
variable {b:Frame}
theorem AU{c:Operand}{x y:Code}{p:Prop} [Decidable p] (K:(if p then A else B)=some r)(O:p->A=some r->JL J Q b n L ds (.code x::k) cs s)(U:¬p->B=some r->JL J Q b n L ds (.code y::k) cs s)
  (Y:ev L c=some (.bool (decide p)):=by exact rfl):JL J Q b n L ds (.code (.cond c x y)::k) cs s:=Gt Y (λh=>O h (ip K h)) λh=>U h (im K h)
theorem Cx{c:Operand}{x y:Code}{t:Bool}(K:(if t=true then A else B)=some r)(O:t=true->A=some r->JL J Q b n L ds (.code x::k) cs s)(U:t=false->B=some r->JL J Q b n L ds (.code y::k) cs s)
  (Y:ev L c=some (.bool t):=by exact rfl):JL J Q b n L ds (.code (.cond c x y)::k) cs s:=Qo Y (λh=>O h (ip K h)) λh=>U h (ib K h)
theorem Je{q:Prop} [Decidable q] (i:Nat)(K:(if q then A else B)=some r)(O:q->A=some r->JL J Q b n (Av L (some i) (.bool true)) ds k cs s)(U:¬q->B=some r->JL J Q b n (Av L (some i) (.bool false)) ds k cs s)
  (Y:look L i=some (.bool (decide q)):=by exact rfl):JL J Q b n L ds k cs s:=Mw Y (λh=>O h (ip K h)) λh=>U h (im K h)
theorem EA{t:Bool}(i:Nat)(K:(if t=true then A else B)=some r)(O:t=true->A=some r->JL J Q b n (Av L (some i) (.bool true)) ds k cs s)(U:t=false->B=some r->JL J Q b n (Av L (some i) (.bool false)) ds k cs s)
  (Y:look L i=some (.bool t):=by exact rfl):JL J Q b n L ds k cs s:=K0 Y (λh=>O h (ip K h)) λh=>U h (ib K h)
theorem Cw{K O:Type}{c:Code}{body:K->Option (Bn K O)}{f:Nat}{U:K}{a:O}(Z:iter body f U=some a)(I:Env->St->K->Prop)(ac:I L' s U)
  (round:∀L s x,I L s x->(∀Y,body x=some (.done Y)->Y=a)->(∃st,body x=some st)->(∀L' s' x',I L' s' x'->body x=some (.more x')->JL J Q b n L' ds (.inLoop c::k) cs s')->JL J Q b n L ds (.code c:: .inLoop c::k) cs s)
  (ag:II L L'=IL L':=by exact rfl):JL J Q b n L ds (.code (.loop c)::k) cs s:=EJ L' ag (TB Z I ac round)
variable {fuel:Nat}{listed:Array Bool}
def Pj(ops:Ao_):Array Bool->List Nat->Bool
 | _,[]=>true
 | l,i::t=>Region.ready .any ops l== [i]&&Pj ops (Bb l i) t
theorem UA:∀{t:List Nat} {l:Array Bool},Pj ops l t=true->∀u,Region.linearise.go .any ops t.length u l []=t
 | [],_,_,_=>rfl
 | i::t,l,h,u=>by
  unfold Pj at h
  rw [Bool.and_eq_true,beq_iff_eq] at h
  exact dC h.1 (UA h.2) u
theorem Dl(t:List Nat)(O:JL J Q b n L ds (.inRegion ops t::k) cs s)(K:(Rr m listed&&Pj ops listed t&&(fuel+1==t.length))=true:=by decide+kernel):AQ J Q b n ds ops k cs m D (fuel+1) listed L s:=by
 rw [Bool.and_eq_true,Bool.and_eq_true,beq_iff_eq] at K;exact AQ.leaf K.1.1 (by rw [K.2];exact UA K.1.2) O
theorem Ff(m:Nat){id:Nat}(h:Ek ops m=true->AQ J Q b n ds ops k cs m Dy ops.size (Array.replicate ops.size false) L (Ak E H S))(hm:P.follows .mixedOrders=true:=by exact rfl)(K:(b.kind != .early)=true:=by exact rfl)(O:Ek ops m=true:=by decide+kernel):
  JL J Q b n L ds (.code (.region id ops true)::k) cs (Ak E H S):=YH m hm K O h
theorem Fs(m:Nat)(bks:List Nat){id:Nat}(K:HE S bks)(O:Aq E H S)(h:Ek ops m=true->AQ J Q b n ds ops k cs m (AA bks) ops.size (Array.replicate ops.size false) L (Ak E H S))(hm:P.follows .mixedOrders=true:=by exact rfl)(U:(b.kind != .early)=true:=by exact rfl)(Y:Ek ops m=true:=by decide+kernel):
  JL J Q b n L ds (.code (.region id ops true)::k) cs (Ak E H S):=YV m bks K O hm U Y h
theorem Er{α:Type}{pp:Rp α}{a:Option Addr}{c:Nat}{xs:List α}{xv:α}{K:Int}{d:Option Tmp}{x y:Operand}{t ty e:TypeId}{p:String}{af:Ae_}{g:On_}{kd:IntKind}(i:Nat)(O:Al pp E a c xs)(U:ix xs K=some xv)(Y:Ek ops m=true)(Z:P.underlying t=some (.slice e))(ac:Bo P e=some pp.n)
  (h:∀bk o ws,pp.r E ws xv->At E bk o ws->AQ J Q b n ds ops k cs m D fuel (Bb listed i) (Av L d (.pointer (some ⟨bk,o,none⟩))) s)
  (ag:ops[i]? =some ⟨d,.indexAddr t x y,ty,p,af,g⟩:=by exact rfl) (al:Gx ops listed m i=true:=by decide+kernel) (am:s.q=false:=by exact rfl)
  (hw:AP L ops ⟨d,.indexAddr t x y,ty,p,af,g⟩=some true:=by exact rfl) (ap:Bj n d=true:=by exact rfl)
  (aq:ev L x=some (.slice a xs.length c):=by exact rfl) (av:ev L y=some (.int kd K):=by exact rfl):
  AQ J Q b n ds ops k cs m D (fuel+1) listed L s:=eG i O U ag Y al am hw ap aq av Z ac h
end
theorem EI{P:Program}{J:Judge P}{Q:Gs_}{b:Frame}{n:Nat}{ds:Ld_}{ops:Ao_}{k:Li_}{cs:Lf_}{m fuel:Nat}{D:Nat->Bool}{listed:Array Bool}{L L':Env}{s:St}(k':AQ J Q b n ds ops k cs m D fuel listed L' s)(h:II L L'=IL L'):AQ J Q b n ds ops k cs m D fuel listed L s:=Ec (OE h) k'
instance {α:Type} [DecidableEq α] (xs:List α):Decidable (xs= []):=inferInstance
variable {w:Value}
section
variable {b:Frame}{i:Nat}
variable {x y:Operand}{e:TypeId}
end
section
variable {b:Frame}{fuel:Nat}{listed:Array Bool}
variable {x y:Operand}{e:TypeId}{i:Nat}
theorem N8{s:St}{D:Nat->Bool}{i j l:Nat}(K:s.q=false)(O:Region.ready .any ops listed= [i,j,l])(hi:Take J Q b n ds ops k cs m D fuel listed L s i)(U:Take J Q b n ds ops k cs m D fuel listed L s j)(Y:Take J Q b n ds ops k cs m D fuel listed L s l):AQ J Q b n ds ops k cs m D (fuel+1) listed L s:=
 PZ K O (by simp) (by intro q K;simp at K;rcases K with rfl | rfl | rfl <;> assumption)
end
theorem Al.cut{α:Type}{pp:Rp α}{E:LH}{a:Option Addr}{c:Nat}{xs ys:List α}{lo hi:Int}(Y:Al pp E a c xs)(hC:HL xs lo hi=some ys):
  ∃Z ac,Al pp E Z ac ys/\∀{P:Program} {ρ:Operand->Value} {s:St} {d:Option Tmp} {x:Operand} {t ty e:TypeId} {p:String} {af:Ae_} {g:On_} {olo ohi:Option Operand},P.underlying t=some (.slice e)->Bo P e=some pp.n->ρ x= .slice a xs.length c->
   (match ohi with | some w=>ρ w=iV hi | none=>hi=xs.length)->(match olo with | some w=>ρ w=iV lo | none=>lo=0)->Yl P ⟨d,.slice t x olo ohi none,ty,p,af,g⟩ ρ s (.slice Z ys.length ac):=by
 unfold HL at hC;split at hC
 rotate_left
 ·cases hC
 rename_i hb;obtain⟨a1,a2,ap⟩:=hb;cases hC;obtain⟨lo,rfl⟩:∃l:Nat,lo=l:=⟨lo.toNat,by omega⟩;obtain⟨hi,rfl⟩:∃l:Nat,hi=l:=⟨hi.toNat,by omega⟩;simp only [Int.toNat_natCast] at*;have a3:=Y.1;have hlen:((xs.take hi).drop lo).length=hi - lo:=by simp;omega
 have ag:∀ad:Addr,a=some ad->ad.spot=none∨c=0:=λad K=>by
  rcases Y.2 with⟨_,h⟩ | ⟨bk,off,h,_⟩
  ·exact h ad K
  ·rw [h] at K;cases K;exact .inl V
 refine⟨if c=lo then a else a.map (·.add (lo*pp.n)),c - lo,⟨by rw [hlen];omega,?_⟩,?_⟩
 ·by_cases aq:hi - lo=0
  ·left;refine⟨List.eq_nil_of_length_eq_zero (by rw [hlen];exact aq),λad K=>?_⟩;split at K
   ·exact(ag ad K).imp id λh=>by omega
   ·cases a with
    | none=>cases K
    | some av=>
     simp only [Option.map_some,Option.some.injEq] at K;subst K;exact .inl (by rw [Ed ((ag av rfl).resolve_right (by omega))])
  ·right;rcases Y.2 with⟨h,_⟩ | ⟨bk,off,rfl,O⟩
   ·subst h;simp at ap;omega
   ·refine⟨bk,off+lo*pp.n,?_,λq z U=>?_⟩
    ·rw [if_neg (by omega),Option.map_some,Ed rfl]
    ·rw [List.getElem?_drop,List.getElem?_take] at U;split at U
     ·obtain⟨ws,aw,al⟩:=O _ z U;refine⟨ws,aw,?_⟩;rw [Nat.add_mul] at al;rw [Nat.add_assoc];exact al
     ·cases U
 ·intro P ρ s d x t ty e p af g olo ohi ay az a0 O am;rw [hlen];refine Yl.slice (mx:=c) (hi:=hi) (lo:=lo) ay az a0 V ?_ ?_ (Nat.le_refl _) (by omega) (by omega)
  ·cases ohi with
   | none=>exact⟨by simp only at O;omega,rfl⟩
   | some w=>exact O
  ·cases olo with
   | none=>simp only at am;show lo=0;omega
   | some w=>exact am
section
variable {b:Frame}{fuel:Nat}{listed:Array Bool}
theorem H3{S1 S':List Seg}(K:S=S1)(O:S1.Perm S')(U:Aq E H S)(h:Aq E H S'->AQ J Q b n ds ops k cs m D fuel listed L (Ak E H S')):AQ J Q b n ds ops k cs m D fuel listed L (Ak E H S):=by
 subst K;exact AQ.perm O.flatten U h
end
variable {e2:TypeId}
section
variable {b:Frame}{i:Nat}
variable {x y:Operand}{e:TypeId}
def KF(E:LH):Nat->Bool:=λx=>(E x).isNone
theorem cC(x:Nat):(Bp (KF E) (Ak E H S)).E x=(Ak E H S).get x:=by
 show(if KF E x then(Ak E H S).get x else E x)=_
 unfold KF;cases h:E x with
 | none=>simp
 | some o=>
  rw [if_neg (by simp)];unfold St.get;rw [show(Ak E H S).E x=some o from h]
theorem Rv{s':St}(K:∀x o,(Bp (KF E) (Ak E H S)).E x=some o->s'.E x=some o){x:Nat}{o:Obj}(h:(Ak E H S).get x=some o):s'.get x=some o:=by
 have:=K x o (by rw [cC];exact h);unfold St.get;rw [this]
theorem M8{s':St}(K:∀x o,(Bp (KF E) (Ak E H S)).E x=some o->s'.E x=some o){a:Addr}{v:Value}(h:(Ak E H S).cell? a=some v):s'.cell? a=some v:=by
 obtain⟨o,O,U⟩:=Option.bind_eq_some_iff.1 h;unfold St.cell?;rw [Rv K O];exact U
theorem UM{s':St}(K:∀x o,(Bp (KF E) (Ak E H S)).E x=some o->s'.E x=some o){a:Addr}{vs:Lv_}(h:∀(i:Nat) v,vs[i]? =some v->(Ak E H S).cell? (Addr.add a i)=some v):∀(i:Nat) v,vs[i]? =some v->s'.cell? (Addr.add a i)=some v:=λi v O=>M8 K (h i v O)
theorem Rh(m:Nat){id:Nat}(h:Ek ops m=true->AQ J Q b n ds ops k cs m (KF E) ops.size (Array.replicate ops.size false) L (Ak E H S))(hm:P.follows .mixedOrders=true:=by exact rfl)(K:(b.kind != .early)=true:=by exact rfl)(O:Ek ops m=true:=by decide+kernel):
  JL J Q b n L ds (.code (.region id ops true)::k) cs (Ak E H S):=Qn m (KF E) V hm K (h O)
abbrev rs(q:Nat×Obj)(K:Seg)(p:Nat×Obj)(g2:Seg):Seg:=q::(K++ [p]++g2)
end
variable {o:Obj}{xs:List (κ×ν)}{v0:ν}
variable {kk:Li_}
variable {z:Operand}{x0:κ}
section
variable [DecidableEq κ]
def KN(xs:List (κ×ν)):Prop:=(xs.map (·.1)).Nodup
theorem KN.perm{xs ys:List (κ×ν)}(h:KN xs)(p:ys.Perm xs):KN ys:=((p.map (λq:κ×ν=>q.1)).nodup_iff).2 h
theorem TP{xs:List (κ×ν)}(h:KN xs){x:κ}{v:ν}:BL xs x=some v↔(x,v)∈xs:=by
 induction xs with
 | nil=>simp [BL]
 | cons y ys U=>
  have O:y.1 ∉ ys.map (·.1)/\KN ys:=by simpa [KN] using h
  by_cases e:x=y.1
  ·subst e;have K:BL (y::ys) y.1=some y.2:=by simp [BL]
   rw [K];constructor
   ·intro q;cases q;simp
   ·intro q;rcases List.mem_cons.1 q with q | q
    ·rw [← q]
    ·exact absurd (List.mem_map.2 ⟨_,q,V⟩) O.1
  ·have K:BL (y::ys) x=BL ys x:=by simp [BL,e]
   rw [K,U O.2];constructor
   ·intro q;exact List.mem_cons_of_mem _ q
   ·intro q;rcases List.mem_cons.1 q with q | q
    ·exact absurd (by rw [← q]) e
    ·exact q
theorem SH{xs ys:List (κ×ν)}(h:KN xs)(p:ys.Perm xs)(x:κ):BL ys x=BL xs x:=by
 apply Option.ext;intro v;rw [TP h,TP (h.perm p),p.mem_iff]
def Es(xs:List (κ×ν))(x:κ):List (κ×ν):=xs.filter λy=>decide (x≠y.1)
theorem SS{xs:List (κ×ν)}{x:κ}(h:∀y∈xs,x≠y.1):Es xs x=xs:=List.filter_eq_self.2 λy K=>by simpa using h y K
theorem N1{x:κ}{v:ν}:∀{xs:List (κ×ν)},KN xs->(Dz xs x v).Perm ((x,v)::Es xs x)
 | [],_=> .refl _
 | y::ys,h=>by
  have K:y.1 ∉ ys.map (·.1)/\KN ys:=by simpa [KN] using h
  unfold Dz;by_cases e:x=y.1
  ·rw [if_pos e];have e2:Es (y::ys) x=ys:=by
    have:Es (y::ys) x=Es ys x:=by simp [Es,e]
    rw [this];exact SS λz O q=>K.1 (List.mem_map.2 ⟨z,O,by rw [← q,e]⟩)
   rw [e2]
  ·rw [if_neg e];have e2:Es (y::ys) x=y::Es ys x:=by simp [Es,e]
   rw [e2];exact((N1 K.2).cons y).trans (List.Perm.swap _ _ _)
theorem P3{xs ys:List (κ×ν)}(p:ys.Perm xs)(x:κ):(Es ys x).Perm (Es xs x):=p.filter _
theorem Xo{xs ys:List (κ×ν)}(h:KN xs)(p:ys.Perm xs)(x:κ)(v:ν):(Dz ys x v).Perm (Dz xs x v):=
 (N1 (h.perm p)).trans (((P3 p x).cons _).trans (N1 h).symm)
theorem KN.del{xs:List (κ×ν)}(h:KN xs)(x:κ):KN (Es xs x):=by
 unfold KN Es;exact List.Nodup.sublist (List.Sublist.map _ List.filter_sublist) h
theorem KN.put{xs:List (κ×ν)}(h:KN xs)(x:κ)(v:ν):KN (Dz xs x v):=by
 refine KN.perm ?_ (N1 h);unfold KN;simp only [List.map_cons,List.nodup_cons];refine⟨λq=>?_,h.del x⟩;obtain⟨z,K,e⟩:=List.mem_map.1 q;have:=(List.mem_filter.1 K).2;simp at this;exact this e.symm
def BK(pk:Rp κ)(ka:Bool)(pv:Rp ν)(va:Bool)(E:LH)(o:Obj)(xs:List (κ×ν)):Prop:=KN xs/\∃ys,ys.Perm xs/\Lh pk ka pv va E o ys
theorem BK.Ag{o:Obj}{xs:List (κ×ν)}(h:BK pk ka pv va E o xs)(hle:Le E E'):BK pk ka pv va E' o xs:=
 let ⟨K,ys,O,U⟩:=h;⟨K,ys,O,U.Ag hle⟩
theorem BK.perm{o:Obj}{xs ys:List (κ×ν)}(h:BK pk ka pv va E o xs)(p:ys.Perm xs):BK pk ka pv va E o ys:=
 let ⟨K,O,U,Y⟩:=h;⟨K.perm p,O,U.trans p.symm,Y⟩
theorem BK.nil:BK pk ka pv va E (.map #[] 0) []:=⟨List.nodup_nil,[],.refl _,⟨#[],0,V,trivial,.nil,by simp⟩⟩
def rM(pk:Rp κ)(ka:Bool)(pv:Rp ν)(va:Bool):Rp (List (κ×ν)):=⟨1,λE ws xs=>∃bk o,ws= [.map (some bk)]/\E bk=some o/\BK pk ka pv va E o xs,
 λhle ⟨bk,o,h,K,O⟩=>⟨bk,o,h,hle _ _ K,O.Ag hle⟩,λ⟨bk,o,h,_,_⟩=>by subst h;rfl,λ⟨bk,o,h,_,_⟩ w hw=>by subst h;simp at hw;subst hw;rfl⟩
section
variable {bk:Nat}{k:Value}{x:κ}
theorem Xk(K:GX P t pk ka)(hm:P.underlying tm=some (.map t te)){z:Value}{z0:ν}(O:zeroOf P te=some z)(U:Vr pv va E z z0)(Y:s.get bk=some o)(Z:BK pk ka pv va E o xs)(ac:Vr pk ka E k x)(ok:Bool){Q:Value->St->Prop}
  (h:∀w,Vr pv va E w ((BL xs x).getD z0)->Q (if ok then .tuple #[w,.bool (BL xs x).isSome] else w) s):lp P (Instr.lookup tm (.map (some bk)) k ok) s Q X:=by
 obtain⟨ag,ys,al,am⟩:=Z;refine X2 K hm O U Y am ac ok ?_;rw [SH ag al];exact h
theorem WA(O:GX P t pk ka)(hm:P.underlying tm=some (.map t te))(U:s.get bk=some o)(Y:s.H bk=some o)(Z:BK pk ka pv va E o xs)(ac:Vr pk ka E k x)(hw:Vr pv va E w v0){Q:Unit->St->Prop}
  (h:∀o',BK pk ka pv va E o' (Dz xs x v0)->Q () (s.upd bk o')):lp P (Instr.mapUpdate tm (.map (some bk)) k w) s Q X:=by
 obtain⟨K,ys,ag,al⟩:=Z;exact WQ O hm U Y al ac hw λo' am=>h o' ⟨K.put _ _,_,Xo K ag _ _,am⟩
theorem Ef.erase(Y:Vr pk ka E k x):∀{es:List MapEntry} {ys:List (κ×ν)} {i:Nat},Ef pk ka pv va E es ys->KN ys->
  (GF x es ys i=none/\Es ys x=ys)∨∃j u,GF x es ys i=some (i+j,u)/\Ef pk ka pv va E (es.eraseIdx j) (Es ys x)
 | [],[],i,_,_=> .inl ⟨rfl,rfl⟩
 | e::es,y::ys,i,h,Z=>by
  have U:y.1 ∉ ys.map (·.1)/\KN ys:=by simpa [KN] using Z
  unfold GF;by_cases K:x=y.1
  ·refine .inr ⟨0,e.val,by rw [if_pos K];rfl,?_⟩;have e2:Es (y::ys) x=ys:=by
    have:Es (y::ys) x=Es ys x:=by simp [Es,K]
    rw [this];exact SS λz ac q=>U.1 (List.mem_map.2 ⟨z,ac,by rw [← q,K]⟩)
   rw [e2];exact h.2.2
  ·have e2:Es (y::ys) x=y::Es ys x:=by simp [Es,K]
   rcases Ef.erase Y (i:=i+1) h.2.2 U.2 with⟨a1,O⟩ | ⟨j,u,a1,O⟩
   ·exact .inl ⟨by rw [if_neg K];exact a1,by rw [e2,O]⟩
   ·refine .inr ⟨j+1,u,by rw [if_neg K,a1];congr 2;omega,?_⟩;rw [e2];exact⟨h.1,h.2.1,O⟩
 | [],_::_,_,h,_=>h.elim
 | _::_,[],_,h,_=>h.elim
theorem Xq(ag:GX P t pk ka)(hm:P.underlying tm=some (.map t te))(av:s.get bk=some o)(al:s.H bk=some o)(aw:BK pk ka pv va E o xs)(K:Vr pk ka E k x){u:TypeId}{Q:Value->St->Prop}
  (h:∀o',BK pk ka pv va E o' (Es xs x)->Q (.tuple #[]) (s.upd bk o')):lp P (Builtin.delete_ #[tm,t] u #[.map (some bk),k]) s Q X:=by
 obtain⟨O,ys,U,es,c,rfl,Y,am,ap⟩:=aw;unfold Builtin.delete_;simp only [List.getElem?_toArray,List.getElem?_cons_zero,List.getElem?_cons_succ];refine As _ _ (Cq hm ?_)
 dsimp only;refine As _ _ ?_;unfold getObj;simp only [bind,Sem.bind,lp];refine⟨_,av,V,?_⟩;refine As (x:=Instr.checkKey _ 10000 t k) _ (ag.BS K ?_);refine As (x:=Instr.findKey t k es.toList) _ (PX ag K Y ?_);rcases Ef.erase K (i:=0) Y (O.perm U) with⟨Z,e2⟩ | ⟨j,u,Z,e2⟩
 ·rw [Z];simp only [setObj,lp,pure];refine⟨⟨_,al,V⟩,V,h _ ⟨O.del _,_,P3 U x,es,c,V,by rw [e2];exact Y,am,ap⟩⟩
 ·rw [Z];simp only [setObj,lp,pure];have aq:(es.toList.eraseIdx j).Sublist es.toList:=List.eraseIdx_sublist _ _;have ac:(es.eraseIdxIfInBounds (0+j)).toList=es.toList.eraseIdx j:=by rw [Nat.zero_add];simp
  refine⟨⟨_,al,V⟩,V,h _ ⟨O.del _,_,P3 U x,_,c,V,by rw [ac];exact e2,?_,?_⟩⟩
  ·rw [ac];exact am.sublist (aq.map _)
  ·rw [ac];exact λe he=>ap e (aq.subset he)
end
section
variable {b:Frame}
variable {x y:Operand}{e:TypeId}{i:Nat}{bk:Nat}{k:Value}
theorem Yl.lookup{K v:Value}{z0:ν}{ok:Bool}(O:GX P t pk ka)(hm:P.underlying tm=some (.map t te))(U:zeroOf P te=some K)(Y:Vr pv va E K z0)(Z:BK pk ka pv va E o xs)(ac:Vr pk ka E k x0)
  (ag:∀w,Vr pv va E w ((BL xs x0).getD z0)->(if ok then .tuple #[w,.bool (BL xs x0).isSome] else w)=v) (al:ρ x= .map (some bk)) (am:ρ y=k) (ap:s.get bk=some o):Yl P ⟨d,.lookup tm x y ok,ty,p,af,g⟩ ρ s v:=by
 refine Fz (sm:=Instr.lookup tm (ρ x) (ρ y) ok) V ?_;rw [al,am];exact Xk O hm U Y ap Z ac ok λw hw=>⟨ag w hw,V⟩
theorem JS.makeMap(K:ops[i]? =some ⟨d,.makeMap t none,ty,p,af,g⟩)(hw:AP L ops ⟨d,.makeMap t none,ty,p,af,g⟩=some true)(O:BS b n ⟨d,.makeMap t none,ty,p,af,g⟩=true)(U:Aq E H S)
  (h:∀r,Aq E H (S++ [[(r,.map #[] 0)]])->JL J Q b n (Av L d (.map (some r))) ds (.inRegion ops rest::kk) cs (Ak E H (S++ [[(r,.map #[] 0)]]))):
  JL J Q b n L ds (.inRegion ops (i::rest)::kk) cs (Ak E H S):=
 JL.op K hw O λρ ap=>by
  show lp P (do pure (Next.value (← Instr.makeMap t none))) _ _ _
  refine As _ _ ?_
  unfold Instr.makeMap
  simp only [newObj,bind,Sem.bind,pure,lp]
  refine⟨rfl,λr Y Z=>?_⟩
  obtain⟨ac,ag⟩:=Kk Y Z (.map #[] 0) U
  obtain⟨al,p2⟩:=FJ ac
  have am:(Ak E H S).upd r (.map #[] 0)=Ak E H (S++ [[(r,.map #[] 0)]]):=by rw [← al,← ag];rfl
  show JL J Q b n (Av L d (.map (some r))) ds (.inRegion ops rest::kk) cs ((Ak E H S).upd r (.map #[] 0));rw [am];exact h r p2
theorem JS.mapUpdate(j:Nat)(Y:GX P t pk ka)(hm:P.underlying tm=some (.map t te))(Z:BK pk ka pv va E o xs)(ac:Vr pk ka E k x0)(ag:Vr pv va E w v0)(K:Aq E H S)(O:S[j]? =some [(bk,o)])
  (al:ops[i]? =some ⟨d,.mapUpdate tm x y z,ty,p,af,g⟩) (hw:AP L ops ⟨d,.mapUpdate tm x y z,ty,p,af,g⟩=some true) (am:BS b n ⟨d,.mapUpdate tm x y z,ty,p,af,g⟩=true) (ap:ev L x=some (.map (some bk))) (aq:ev L y=some k) (av:ev L z=some w)
  (h:∀o',BK pk ka pv va E o' (Dz xs x0 v0)->Aq E H (S.set j [(bk,o')])->JL J Q b n (Av L d undef) ds (.inRegion ops rest::kk) cs (Ak E H (S.set j [(bk,o')]))):
  JL J Q b n L ds (.inRegion ops (i::rest)::kk) cs (Ak E H S):=
 JL.op al hw am λρ U=>by
  show lp P (do Instr.mapUpdate tm (ρ x) (ρ y) (ρ z);pure Next.skip) _ _ _
  rw [U _ _ ap,U _ _ aq,U _ _ av]
  refine As _ _ (WA Y hm (DD (i:=0) K O rfl) (KA K O) Z ac ag λo' aw=>?_)
  obtain⟨ay,az⟩:=K3 K O o'
  rw [ay]
  exact h o' aw az
theorem WM{at1:TypeId}(j:Nat)(Y:GX P t pk ka)(hm:P.underlying tm=some (.map t te))(Z:BK pk ka pv va E o xs)(ac:Vr pk ka E k x0)(K:Aq E H S)(O:S[j]? =some [(bk,o)])
  (ag:ops[i]? =some ⟨d,.call ⟨.builtin .delete,#[x,y],#[tm,t]⟩,ty,p,af,g⟩) (hw:AP L ops ⟨d,.call ⟨.builtin .delete,#[x,y],#[tm,t]⟩,ty,p,af,g⟩=some true) (al:BS b n ⟨d,.call ⟨.builtin .delete,#[x,y],#[tm,t]⟩,ty,p,af,g⟩=true) (am:ev L x=some (.map (some bk))) (ap:ev L y=some k)
  (h:∀o',BK pk ka pv va E o' (Es xs x0)->Aq E H (S.set j [(bk,o')])->JL J Q b n (Av L d (.tuple #[])) ds (.inRegion ops rest::kk) cs (Ak E H (S.set j [(bk,o')]))):
  JL J Q b n L ds (.inRegion ops (i::rest)::kk) cs (Ak E H S):=
 JL.op ag hw al λρ U=>by
  have aq:execOp ρ ⟨d,.call ⟨.builtin .delete,#[x,y],#[tm,t]⟩,ty,p,af,g⟩=(do pure (Next.value (← Builtin.delete_ #[tm,t] ty #[ρ x,ρ y]))):=by
   simp [execOp,resolve,Deferred.ofValue,invoke,bind,Sem.bind,pure,Go.builtin]
  rw [aq,U _ _ am,U _ _ ap];refine As _ _ (Xq Y hm (DD (i:=0) K O rfl) (KA K O) Z ac λo' av=>?_);obtain⟨aw,ay⟩:=K3 K O o';rw [aw];exact h o' av ay
theorem P2{todo:Li_}(j:Nat)(O:Aq E H S)(U:S[j]? =some [(bk,o)])
  (h:∀E',Le E E'->E' bk=some o->Aq E' H (S.set j [])->JL J Q b n L ds todo cs (Ak E' H (S.set j []))):JL J Q b n L ds todo cs (Ak E H S):=by
 obtain⟨Y,Z⟩:=Ha O U;rw [Y];have ac:((S.set j []).flatten++ [(bk,o)])[(S.set j []).flatten.length]? =some (bk,o):=by simp
 refine JL.freeze (S.set j []).flatten.length Z ac λE' hle ag K=>?_;have al:((S.set j []).flatten++ [(bk,o)]).eraseIdx (S.set j []).flatten.length=(S.set j []).flatten:=by rw [List.eraseIdx_append_of_length_le (Nat.le_refl _)];simp
 rw [al] at K ⊢;exact h E' hle ag K
theorem SC{α:Type}{m:Nat}{f:Nat->Sem α}{s:St}{Q:α->St->Prop}{X:Halt->St->Prop}(hm:0<m)(K:s.q=false)(h:∀i,i<m->lp P (f i) s Q X):lp P ((choose (.mapNext m)).bind f) s Q X:=by
 simp only [choose,Sem.bind,lp];split
 ·exact h 0 hm
 ·exact⟨K,λt=>h _ (Nat.mod_lt _ hm)⟩
theorem JS.range{es:Array MapEntry}{c:Nat}(hm:P.underlying tm=some (.map t te))(K:(Ak E H S).get bk=some (.map es c))(O:ops[i]? =some ⟨d,.range tm x,ty,p,af,g⟩)(hw:AP L ops ⟨d,.range tm x,ty,p,af,g⟩=some true)(U:BS b n ⟨d,.range tm x,ty,p,af,g⟩=true)(Y:Aq E H S)
  (Z:ev L x=some (.map (some bk)))
  (h:∀r,Aq E H (S++ [[(r,.mapIter (some bk) c #[] c)]])->JL J Q b n (Av L d (.pointer (some ⟨r,0,none⟩))) ds (.inRegion ops rest::kk) cs (Ak E H (S++ [[(r,.mapIter (some bk) c #[] c)]]))):
  JL J Q b n L ds (.inRegion ops (i::rest)::kk) cs (Ak E H S):=
 JL.op O hw U λρ ac=>by
  show lp P (do pure (Next.value (← Instr.range tm (ρ x)))) _ _ _
  rw [ac _ _ Z]
  refine As _ _ ?_
  unfold Instr.range
  refine As _ _ (Cq hm ?_)
  simp only [getObj,newObj,bind,Sem.bind,pure,lp]
  refine⟨_,K,rfl,rfl,λr ag al=>?_⟩
  obtain⟨am,ap⟩:=Kk ag al (.mapIter (some bk) c #[] c) Y
  obtain⟨aq,p2⟩:=FJ am
  have av:(Ak E H S).upd r (.mapIter (some bk) c #[] c)=Ak E H (S++ [[(r,.mapIter (some bk) c #[] c)]]):=by rw [← aq,← ap];rfl
  show JL J Q b n (Av L d (.pointer (some ⟨r,0,none⟩))) ds (.inRegion ops rest::kk) cs ((Ak E H S).upd r (.mapIter (some bk) c #[] c));rw [av];exact h r p2
theorem JS.next{es:Array MapEntry}{c r:Nat}{seen:Array Nat}(j:Nat)(am:(Ak E H S).get bk=some (.map es c))(hb:∀e∈es.toList,e.born<c)(K:Aq E H S)(O:S[j]? =some [(r,.mapIter (some bk) c seen c)])
  (ap:ops[i]? =some ⟨d,.next x false,ty,p,af,g⟩) (hw:AP L ops ⟨d,.next x false,ty,p,af,g⟩=some true) (aq:BS b n ⟨d,.next x false,ty,p,af,g⟩=true) (U:ev L x=some (.pointer (some ⟨r,0,none⟩)))
  (av:∀e∈es.toList,e.born ∉ seen->Aq E H (S.set j [(r,.mapIter (some bk) c (seen.push e.born) c)])->JL J Q b n (Av L d (.tuple #[.bool true,e.key,e.val])) ds (.inRegion ops rest::kk) cs (Ak E H (S.set j [(r,.mapIter (some bk) c (seen.push e.born) c)])))
  (aw:(∀e∈es.toList,e.born∈seen)->JL J Q b n (Av L d (.tuple #[.bool false])) ds (.inRegion ops rest::kk) cs (Ak E H S)):
  JL J Q b n L ds (.inRegion ops (i::rest)::kk) cs (Ak E H S):=
 JL.op ap hw aq λρ ay=>by
  show lp P (do pure (Next.value (← Instr.next (ρ x) false ty))) _ _ _
  rw [ay _ _ U]
  refine As _ _ ?_
  unfold Instr.next
  simp only [getObj,setObj,bind,Sem.bind,pure,lp]
  refine⟨_,DD (i:=0) K O rfl,rfl,?_⟩
  simp only [lp]
  refine⟨_,am,rfl,?_⟩
  have az:(!seen.isEmpty&& !es.isEmpty&&es.all (λe=>decide (e.born>=c)))=false:=by
   by_cases he:es.toList= []
   ·have:es.isEmpty=true:=by simpa [Array.isEmpty_iff] using he
    simp [this]
   ·obtain⟨e,ag⟩:=List.exists_mem_of_ne_nil _ he;have bi:=hb e ag;have:es.all (λe=>decide (e.born>=c))=false:=by
     cases U:es.all (λe=>decide (e.born>=c)) with
     | false=>rfl
     | true=>
      have:=Array.all_eq_true'.1 U e (Array.mem_toList_iff.1 ag);simp at this;omega
    simp [this]
  have a0:Array.filter (λx:MapEntry=>decide (x.born<c)) (Array.filter (λe=> !seen.contains e.born) es)=Array.filter (λe=> !seen.contains e.born) es:=by
   apply Array.toList_inj.1;rw [Array.toList_filter,List.filter_eq_self];intro e he;rw [Array.toList_filter] at he;simpa using hb e (List.mem_filter.1 he).1
  have e2:Array.filter (λx:MapEntry=>decide (x.born>=c)) (Array.filter (λe=> !seen.contains e.born) es)= #[]:=by
   apply Array.toList_inj.1;rw [Array.toList_filter,List.filter_eq_nil_iff];intro e he;rw [Array.toList_filter] at he;have:=hb e (List.mem_filter.1 he).1;simp;omega
  dsimp only;rw [if_neg (by rw [az];exact Bool.false_ne_true),a0,e2];have Y:∀e,e∈(Array.filter (λe=> !seen.contains e.born) es).toList↔e∈es.toList/\e.born ∉ seen:=by
   intro e;rw [Array.toList_filter,List.mem_filter];simp
  generalize Array.filter (λe:MapEntry=> !seen.contains e.born) es=left at Y ⊢;by_cases Z:left.toList= []
  ·have a1:left= #[]:=Array.toList_inj.1 Z;subst a1;refine SC (by simp) rfl λi hi=>?_;obtain rfl:i=0:=by simp at hi;exact hi
   have a2:((if(#[]:Array MapEntry).isEmpty=true then #[none] else #[])++Array.map some ((#[]:Array MapEntry)++ #[]))[0]? =some none:=by simp
   rw [a2];refine aw λe he=>?_;by_cases al:e.born∈seen
   ·exact al
   ·have:=(Y e).2 ⟨he,al⟩;simp at this
  ·have a3:left.isEmpty=false:=by
    cases a4:left.isEmpty with
    | false=>rfl
    | true=>exact absurd (by simpa [Array.isEmpty_iff] using a4) Z
   rw [a3];simp only [Bool.false_eq_true,if_false,Array.append_empty,Array.empty_append];have a5:0<left.size:=by
    rcases Nat.eq_zero_or_pos left.size with ac | ac
    ·exact absurd (by simpa using Array.eq_empty_of_size_eq_zero ac) Z
    ·exact ac
   refine SC (by simpa using a5) rfl λi hi=>?_;have a6:i<left.size:=by simpa using hi
   have a7:(Array.map some left)[i]? =some (some left[i]):=by simp [a6]
   rw [a7];simp only [lp];obtain⟨a8,a9⟩:=(Y left[i]).1 (Array.getElem_mem_toList _);refine⟨⟨_,KA K O,rfl⟩,rfl,?_⟩;obtain⟨bb,be⟩:=K3 K O (.mapIter (some bk) c (seen.push left[i].born) c);rw [bb];exact av _ a8 a9 be
theorem JS.entry{es:Array MapEntry}{c r:Nat}{seen:Array Nat}{e:MapEntry}(j:Nat)(U:(Ak E H S).get bk=some (.map es c))(he:e∈es.toList)(hb:(es.toList.map (·.born)).Pairwise (·<·))(Y:Aq E H S)(Z:S[j]? =some [(r,.mapIter (some bk) c (seen.push e.born) c)])
  (ac:ops[i]? =some ⟨d,.entry x,ty,p,af,g⟩) (hw:AP L ops ⟨d,.entry x,ty,p,af,g⟩=some true) (ag:BS b n ⟨d,.entry x,ty,p,af,g⟩=true) (al:ev L x=some (.pointer (some ⟨r,0,none⟩)))
  (h:JL J Q b n (Av L d (.tuple #[e.key,e.val])) ds (.inRegion ops rest::kk) cs (Ak E H S)):
  JL J Q b n L ds (.inRegion ops (i::rest)::kk) cs (Ak E H S):=
 JL.op ac hw ag λρ am=>by
  show lp P (do pure (Next.value (← Instr.entry (ρ x)))) _ _ _
  rw [am _ _ al]
  refine As _ _ ?_
  unfold Instr.entry
  simp only [getObj,bind,Sem.bind,pure,lp]
  refine⟨_,DD (i:=0) Y Z rfl,rfl,?_⟩
  simp only [Array.back?_push,bne_self_eq_false,lp]
  refine⟨_,U,rfl,?_⟩
  have ap:es.find? (λx=>x.born==e.born)=some e:=by
   rw [← Array.find?_toList];have key:∀(l:List MapEntry),e∈l->(l.map (·.born)).Pairwise (·<·)->l.find? (λx=>x.born==e.born)=some e:=by
    intro l
    induction l with
    | nil=>intro h;cases h
    | cons y l aq=>
     intro hm K;rw [List.map_cons,List.pairwise_cons] at K;by_cases O:y.born=e.born
     ·rcases List.mem_cons.1 hm with rfl | hm
      ·simp
      ·have:=K.1 e.born (List.mem_map.2 ⟨e,hm,rfl⟩);omega
     ·rw [List.find?_cons_of_neg (by simpa using O)];rcases List.mem_cons.1 hm with rfl | hm
      ·exact absurd rfl O
      ·exact aq hm K.2
   exact key _ he hb
  simp only [bne_self_eq_false,Bool.false_eq_true,if_false,ap,lp];exact h
end
end
theorem KU{E H:LH}{S:List Seg}{bk:Nat}{o:Obj}(h:E bk=some o):(Ak E H S).get bk=some o:=by
 show(match E bk with | some o=>some o | none=>_)=some o
 rw [h]
theorem R9{α β:Type}(f:α->β){l:List α}(h:(l.map f).Nodup):l.Nodup:=by
 unfold List.Nodup at h ⊢;rw [List.pairwise_map] at h;exact h.imp λh e=>h (by rw [e])
theorem Tu{α:Type}:∀{l l':List α},l.Nodup->(∀x∈l,x∈l')->l.length<=l'.length
 | [],_,_,_=>Nat.zero_le _
 | x::l,l',h,O=>by
  obtain⟨a,b,rfl⟩:=List.append_of_mem (O x (by simp))
  have U:=List.nodup_cons.1 h
  have:=Tu (l:=l) (l':=a++b) U.2 (λy Y=>by
   have K:=O y (List.mem_cons_of_mem _ Y)
   have Z:y≠x:=λe=>U.1 (e▸Y)
   simp at K ⊢
   rcases K with K | K | K
   ·exact .inl K
   ·exact absurd K Z
   ·exact .inr K)
  simp at this ⊢;omega
variable {ys:List (κ×ν)}
section
variable [DecidableEq κ]
def Jc(es:Array MapEntry)(ys:List (κ×ν))(seen:Array Nat)(done:List (κ×ν)):Prop:=
 ∃K:List (MapEntry×(κ×ν)),done=K.map (·.2)/\seen.toList=K.map (·.1.born)/\K.Nodup/\∀q∈K,q∈es.toList.zip ys
theorem Jc.nil{es:Array MapEntry}{ys:List (κ×ν)}:Jc es ys #[] []:=⟨[],V,V,.nil,by simp⟩
theorem Ta:∀{es:List MapEntry} {ys:List (κ×ν)},(es.map (·.born)).Pairwise (·<·)->∀{p q:MapEntry×(κ×ν)},p∈es.zip ys->q∈es.zip ys->p.1.born=q.1.born->p=q
 | [],_,_,_,_,h,_,_=>by simp at h
 | _::_,[],_,_,_,h,_,_=>by simp at h
 | e::es,y::ys,U,p,q,K,O,hb=>by
  rw [List.map_cons,List.pairwise_cons] at U
  rw [List.zip_cons_cons] at K O
  have Y:∀{z:MapEntry×(κ×ν)},z∈es.zip ys->z.1.born∈es.map (·.born):=λ{z} Z=>by
   have:=(List.of_mem_zip Z).1
   exact List.mem_map.2 ⟨z.1,this,V⟩
  rcases List.mem_cons.1 K with rfl | K <;> rcases List.mem_cons.1 O with rfl | O
  ·rfl
  ·have:=U.1 _ (Y O);simp at hb;omega
  ·have:=U.1 _ (Y K);simp at hb;omega
  ·exact Ta U.2 K O hb
theorem Ef.zip:∀{es:List MapEntry} {ys:List (κ×ν)},Ef pk ka pv va E es ys->∀{q:MapEntry×(κ×ν)},q∈es.zip ys->Vr pk ka E q.1.key q.2.1/\Vr pv va E q.1.val q.2.2
 | [],[],_,_,h=>by simp at h
 | e::es,y::ys,h,q,K=>by
  rw [List.zip_cons_cons] at K
  rcases List.mem_cons.1 K with rfl | K
  ·exact⟨h.1,h.2.1⟩
  ·exact Ef.zip h.2.2 K
 | [],_::_,h,_,_=>h.elim
 | _::_,[],h,_,_=>h.elim
theorem Tg:∀{es:List MapEntry} {ys:List (κ×ν)},KN ys->(es.map (·.born)).Pairwise (·<·)->∀{p q:MapEntry×(κ×ν)},p∈es.zip ys->q∈es.zip ys->p.2.1=q.2.1->p=q
 | [],_,_,_,_,_,h,_,_=>by simp at h
 | _::_,[],_,_,_,_,h,_,_=>by simp at h
 | e::es,y::ys,ac,Y,p,q,K,O,hb=>by
  have U:y.1 ∉ ys.map (·.1)/\KN ys:=by simpa [KN] using ac
  rw [List.map_cons,List.pairwise_cons] at Y;rw [List.zip_cons_cons] at K O;have Z:∀{z:MapEntry×(κ×ν)},z∈es.zip ys->z.2.1∈ys.map (·.1):=λ{z} ag=>List.mem_map.2 ⟨z.2,(List.of_mem_zip ag).2,rfl⟩;rcases List.mem_cons.1 K with rfl | K <;> rcases List.mem_cons.1 O with rfl | O
  ·rfl
  ·have:=Z O;simp only at hb;rw [← hb] at this;exact absurd this U.1
  ·have:=Z K;simp only at hb;rw [hb] at this;exact absurd this U.1
  ·exact Tg U.2 Y.2 K O hb
theorem Jc.len{es:Array MapEntry}{ys:List (κ×ν)}{seen:Array Nat}{done:List (κ×ν)}(h:Jc es ys seen done):done.length<=ys.length:=by
 obtain⟨Y,rfl,Z,K,O⟩:=h;rw [List.length_map];have U:=Tu K O;exact Nat.le_trans U (by rw [List.length_zip];exact Nat.min_le_right _ _)
section
variable {b:Frame}
variable {x y:Operand}{e:TypeId}{i:Nat}{bk:Nat}
theorem TF{es:Array MapEntry}{c r:Nat}{seen:Array Nat}{done:List (κ×ν)}(j:Nat)(ag:Ef pk ka pv va E es.toList ys)(Z:(es.toList.map (·.born)).Pairwise (·<·))(hb:∀e∈es.toList,e.born<c)(av:KN ys)(aw:Jc es ys seen done)(ay:(Ak E' H S).get bk=some (.map es c))(az:Aq E' H S)(a0:S[j]? =some [(r,.mapIter (some bk) c seen c)])
  (a2:ops[i]? =some ⟨d,.next x false,ty,p,af,g⟩) (hw:AP L ops ⟨d,.next x false,ty,p,af,g⟩=some true) (a3:BS b n ⟨d,.next x false,ty,p,af,g⟩=true) (a4:ev L x=some (.pointer (some ⟨r,0,none⟩)))
  (a5:∀e O,Vr pk ka E e.key O.1->Vr pv va E e.val O.2->O∈ys->O.1 ∉ done.map (·.1)->e∈es.toList->Jc es ys (seen.push e.born) (done++ [O])->Aq E' H (S.set j [(r,.mapIter (some bk) c (seen.push e.born) c)])->
   JL J Q b n (Av L d (.tuple #[.bool true,e.key,e.val])) ds (.inRegion ops rest::kk) cs (Ak E' H (S.set j [(r,.mapIter (some bk) c (seen.push e.born) c)])))
  (a6:done.Perm ys->JL J Q b n (Av L d (.tuple #[.bool false])) ds (.inRegion ops rest::kk) cs (Ak E' H S)):
  JL J Q b n L ds (.inRegion ops (i::rest)::kk) cs (Ak E' H S):=by
 obtain⟨ac,rfl,a1,al,Y⟩:=aw;have hlen:=ag.len;refine JS.next j ay hb az a0 a2 hw a3 a4 (λe he a7 a8=>?_) (λa9=>?_)
 ·obtain⟨m,hm,bb⟩:=List.mem_iff_getElem.1 he;have U:(e,ys[m]'(by omega))∈es.toList.zip ys:=by
   rw [← bb];have:(es.toList.zip ys)[m]'(by rw [List.length_zip];omega)=(es.toList[m],ys[m]'(by omega)):=List.getElem_zip;rw [← this];exact List.getElem_mem _
  obtain⟨k1,be⟩:=ag.zip U;have am:(e,ys[m]'(by omega)) ∉ ac:=λq=>a7 (by
   rw [← Array.mem_toList_iff,a1]
   exact List.mem_map.2 ⟨_,q,V⟩)
  refine a5 e _ k1 be (List.getElem_mem _) (λq=>?_) he ⟨ac++ [(e,ys[m]'(by omega))],by simp,by simp [a1],?_,λq K=>?_⟩ a8
  ·obtain⟨O,bi,bn⟩:=List.mem_map.1 q;obtain⟨z,ap,rfl⟩:=List.mem_map.1 bi;have:=Tg av Z (Y z ap) U bn;exact am (this▸ap)
  ·rw [List.nodup_append];exact⟨al,by simp,by intro q K z aq bo;simp at aq;subst aq bo;exact am K⟩
  ·rcases List.mem_append.1 K with K | K
   ·exact Y q K
   ·simp at K;subst K;exact U
 ·refine a6 ?_;have bv:ac.Perm (es.toList.zip ys):=by
   have bw:(es.toList.zip ys).Nodup:=by
    have:((es.toList.zip ys).map (·.1)).Nodup:=by
     rw [List.map_fst_zip (by omega)];exact R9 (λe:MapEntry=>e.born) (Z.imp (λh=>Nat.ne_of_lt h))
    exact R9 _ this
   refine(List.perm_ext_iff_of_nodup al bw).2 λq=>⟨λK=>Y q K,λK=>?_⟩;have:=a9 q.1 (List.of_mem_zip K).1;rw [← Array.mem_toList_iff,a1] at this;obtain⟨z,U,bx⟩:=List.mem_map.1 this;have:=Ta Z (Y z U) K bx;exact this▸U
  have:=bv.map (·.2)
  rwa [List.map_snd_zip (by omega)] at this
end
end
variable {l0 bks:List Nat}{xl:List Nat}
section
variable {b:Frame}{fuel:Nat}{listed:Array Bool}
theorem FC(i:Nat)(pure:Bool)(K:s.q=false)(O:Hj n L ops i=some ⟨d,op,ty,p,af,g⟩)
  (U:∀ρ,EV L ρ->∀s':St,(pure=false->∀x o,(Bp (AA (l0++bks)) s).E x=some o->s'.E x=some o)->Yl P ⟨d,op,ty,p,af,g⟩ ρ s' v)
  (Y:FF J Q b n ds ops k cs (AA xl) (AA (l0++bks)) (AA l0) fuel (Bb listed i) (Av L d v) s) (Z:JZ ops listed xl pure i=true:=by decide+kernel):FF J Q b n ds ops k cs (AA xl) (AA (l0++bks)) (AA l0) (fuel+1) listed L s:=by
 obtain⟨ac,ag,al⟩:=Qc O;exact JB.val i pure ac Z K ag al U Y
def RI(n:Nat)(L:Env)(ops:Ao_)(i:Nat):Option Env:=
 match JY ops.toList i with
 | some ⟨d,op,ty,p,af,g⟩=>match AP L ops ⟨d,op,ty,p,af,g⟩ with
  | some true=>match Bj n d with
   | true=>match Ll L op with
    | some v=>match d with
     | some d=>some ((d,v)::L)
     | none=>some L
    | none=>none
   | false=>none
  | _=>none
 | none=>none
theorem YE{i:Nat}(h:RI n L ops i=some L'):∃o v,ops[i]? =some o/\Bj n o.dst=true/\AP L ops o=some true/\Ll L o.op=some v/\L'=Av L o.dst v:=by
 unfold RI at h;split at h
 ·rename_i d op ty p af g K;rw [LQ,Array.getElem?_toList] at K;split at h
  ·rename_i hw;split at h
   ·rename_i O;split at h
    ·rename_i v U;refine⟨_,v,K,O,hw,U,?_⟩;cases d with
     | none=>cases h;rfl
     | some d=>cases h;rfl
    ·cases h
   ·cases h
  ·cases h
 ·cases h
theorem Bm(i:Nat)(K:s.q=false)(h:RI n L ops i=some L')
  (O:FF J Q b n ds ops k cs (AA xl) (AA (l0++bks)) (AA l0) fuel (Bb listed i) L' s) (U:JZ ops listed xl true i=true:=by decide+kernel):FF J Q b n ds ops k cs (AA xl) (AA (l0++bks)) (AA l0) (fuel+1) listed L s:=by
 obtain⟨o,v,Y,Z,hw,ac,rfl⟩:=YE h;exact JB.val i true Y U K hw Z (λρ ag s' _=>Ok ag ac) O
end
variable {i2:Nat}
variable {d2:Option Tmp}{x2:Operand}{t2 ty2:TypeId}{p2:String}{af2:Ae_}{g2:On_}
section
variable {b:Frame}{i:Nat}
variable {x y:Operand}{e:TypeId}
theorem Dp(O:Aq E H S)(h:∀r E',Le E E'->At E' r 0 v.cells.toList->Aq E' H (S++ [[]])->JL J Q b n (Av L d (.pointer (some ⟨r,0,none⟩))) ds (.inRegion ops rest::k) cs (Ak E' H (S++ [[]])))
  (U:FE b n L ops i=some ⟨d,.box e x,ty,p,af,g⟩:=by exact rfl) (Y:ev L x=some v:=by exact rfl):JL J Q b n L ds (.inRegion ops (i::rest)::k) cs (Ak E H S):=by
 obtain⟨Z,ac,ag⟩:=K2 U;refine JS.box Z ac ag O Y λr al=>Cu (bk:=r) (c:=v.cells) (e:=e) (f:=(0,0)) S.length al (by simp) λE' hle am K=>?_;have ap:(S++ [[(r,Obj.cells v.cells e (0,0))]]).set S.length []=S++ [[]]:=by simp
 rw [ap] at K ⊢;exact h r E' hle am K
theorem BQ{z:Value}(K:Aq E H S)(O:zeroOf P e=some z)(h:∀r,Aq E H (S++ [[(r,.cells z.cells e (0,0))]])->JL J Q b n (Av L d (.pointer (some ⟨r,0,none⟩))) ds (.inRegion ops rest::k) cs (Ak E H (S++ [[(r,.cells z.cells e (0,0))]])))
  (U:FE b n L ops i=some ⟨d,.alloc e,ty,p,af,g⟩:=by exact rfl):JL J Q b n L ds (.inRegion ops (i::rest)::k) cs (Ak E H S):=by
 obtain⟨Y,Z,ac⟩:=K2 U;exact JS.alloc Y Z ac K O h
theorem BJ{bk off K:Nat}{c:Av_}(j:Nat)(O:Aq E H S)(U:Bo P t=some K)
  (h:Aq E H (S.set j [(bk,.cells (Bd c off v.cells.toList) e (0,0))])->JL J Q b n (Av L d undef) ds (.inRegion ops rest::k) cs (Ak E H (S.set j [(bk,.cells (Bd c off v.cells.toList) e (0,0))])))
  (Y:FE b n L ops i=some ⟨d,.store t x y,ty,p,af,g⟩:=by exact rfl) (Z:ev L x=some (.pointer (some ⟨bk,off,none⟩)):=by exact rfl) (ac:ev L y=some v:=by exact rfl) (ag:S[j]? =some [(bk,.cells c e (0,0))]:=by exact rfl)
  (al:K=v.cells.size:=by exact rfl) (hle:off+v.cells.size<=c.size:=by exact Nat.le_of_ble_eq_true rfl) (am:v.cells.toList.all CP=true:=by first | exact rfl | simp [Value.cells,CP]):
  JL J Q b n L ds (.inRegion ops (i::rest)::k) cs (Ak E H S):=V1 j O (by rw [← al];exact U) Y Z ac ag h hle (List.all_eq_true.1 am)
theorem B5{bk o K Y off:Nat}{O:Array Field}{U:Nat}{ws:Lv_}(j:Nat)(Z:At E bk o ws)(ac:P.underlying t=some (.struct O))(ag:Bo P ft=some (Y+1))(al:Dx P t2=some false)
  (am:JL J Q b n (Av (Av L d (.pointer (some ⟨bk,K+off,none⟩))) d2 v) ds (.inRegion ops rest::k) cs (Ak E H S))
  (ap:FE b n L ops i=some ⟨d,.fieldAddr t x U,ty,p,af,g⟩:=by exact rfl) (aq:ev L x=some (.pointer (some ⟨bk,K,none⟩)):=by exact rfl) (av:MX O U=some (off,ft):=by exact rfl)
  (aw:FE b n (Av L d (.pointer (some ⟨bk,K+off,none⟩))) ops i2=some ⟨d2,.load t2 x2,ty2,p2,af2,g2⟩:=by exact rfl) (ay:ev (Av L d (.pointer (some ⟨bk,K+off,none⟩))) x2=some (.pointer (some ⟨bk,o+j,none⟩)):=by exact rfl) (az:ws[j]? =some v:=by exact rfl):
  JL J Q b n L ds (.inRegion ops (i::i2::rest)::k) cs (Ak E H S):=JL.fd ac ag ap aq av (Cy j Z al aw ay az am)
theorem JS.ix{α:Type}{pp:Rp α}{a:Option Addr}{c:Nat}{xs:List α}{xv:α}{m:Int}{kd:IntKind}(K:Al pp E a c xs)(hm:ix xs m=some xv)(O:P.underlying t=some (.slice e))(U:Bo P e=some pp.n)
  (h:∀bk o ws,pp.r E ws xv->At E bk o ws->JL J Q b n (Av L d (.pointer (some ⟨bk,o,none⟩))) ds (.inRegion ops rest::k) cs (Ak E H S))
  (Y:FE b n L ops i=some ⟨d,.indexAddr t x y,ty,p,af,g⟩:=by exact rfl) (Z:ev L x=some (.slice a xs.length c):=by exact rfl) (ac:ev L y=some (.int kd m):=by exact rfl):
  JL J Q b n L ds (.inRegion ops (i::rest)::k) cs (Ak E H S):=by
 obtain⟨ag,al,am⟩:=K2 Y;exact T0 K hm ag al am Z ac O U h
theorem EU(K:List Seg)(O:Env){todo:Li_}{c:Code}(U:∀E',Le E E'->Aq E' H K->JL J Q b n O ds todo cs (Ak E' H K))
  (h:(∀{E':LH} {L:Env},Le E E'->Aq E' H K->II L O=IL O->JL J Q b n L ds todo cs (Ak E' H K))->JL J Q b n L ds (.code c::todo) cs (Ak E H S)):JL J Q b n L ds (.code c::todo) cs (Ak E H S):=
 h λY Z ac=>AB (U _ Y Z) ac
theorem Fq{U:List Nat}(Y Z:Nat)(K:List Seg)(O:Env){todo:Li_}(ac:∀E',Le E E'->Aq E' H K->JL J Q b n O ds (.inRegion ops (List.range' Y Z)::todo) cs (Ak E' H K))
  (h:(∀{E':LH} {L:Env},Le E E'->Aq E' H K->II L O=IL O->JL J Q b n L ds (.inRegion ops (List.range' Y Z)::todo) cs (Ak E' H K))->JL J Q b n L ds (.inRegion ops U::todo) cs (Ak E H S)):JL J Q b n L ds (.inRegion ops U::todo) cs (Ak E H S):=
 h λag al am=>AB (ac _ ag al) am
theorem Ee{O ag:Type}{c:Code}{body:O->Option (Bn O ag)}{f:Nat}{Y:O}{a:ag}{Z:LH}{k:Li_}(am:iter body f Y=some a)(K:O->List Seg)(U:O->Env)(hle:Le Z E)(ap:Aq E H (K Y))
  (round:∀x E',Le Z E'->Aq E' H (K x)->(∀al,body x=some (.done al)->al=a)->(∃st,body x=some st)->(∀{L':Env} {ac:LH} (x':O),Le Z ac->Aq ac H (K x')->II L' (U x')=IL (U x')->body x=some (.more x')->JL J Q b n L' ds (.inLoop c::k) cs (Ak ac H (K x')))->JL J Q b n (U x) ds (.code c:: .inLoop c::k) cs (Ak E' H (K x)))
  (aq:II L (U Y)=IL (U Y):=by exact rfl) (av:Ak E H S=Ak E H (K Y):=by exact rfl):JL J Q b n L ds (.code (.loop c)::k) cs (Ak E H S):=by
 rw [av];refine EJ _ aq (TB am (λL s x=>∃E',Jm Z H E' (K x) (U x) L s) ⟨E,V,V,hle,ap⟩ ?_);rintro _ _ x ⟨E',rfl,rfl,aw,ay⟩ hd hb az;exact round x E' aw ay hd hb λx' a0 g2 a1 a2=>AB (az _ _ x' ⟨_,V,V,a0,g2⟩ a2) a1
theorem Bi{f:FuncId}{fn:Func}{c:Code}{E:LH}{vs:Lv_}{B:Seg}{R:Value->LH->Seg->Prop}(O:P.funcs[f]? =some fn)
  (h:∀(Q:Gs_) (K:Frame) (cs:Lf_) (H:LH),Aq E H [B]->(∀{v:Value} {E':LH} {S':List Seg} {B':Seg},Le E E'->S'.flatten=B'->R v E' B'->Aq E' H S'->J.ok Q (G (K.finish v) cs) (Ak E' H S'))->JL J Q (base f) fn.ntmps (Gv 0 vs) [] [.code c] (K::cs) (Ak E H [B]))
  (hb:fn.body=some c:=by exact rfl) (U:Nat.ble vs.length fn.ntmps=true:=by exact rfl):AK J f vs E B R:=
 LX O hb U λQ K cs H Y Z=>h Q K cs H Y λac ag al am=>Z _ _ _ _ ac ag al am
variable {fuel:Nat}{listed:Array Bool}
theorem Lc{bk:Nat}{c:Av_}{f:Nat×Nat}(i:Nat)(K:Ek ops m=true)(o:Nat)(j:Nat)(O:Aq E H S)(U:Dx P t=some false)
  (Y:AQ J Q b n ds ops k cs m (AA bks) fuel (Bb listed i) (Av L d w) (Ak E H S)) (Z:Hj n L ops i=some ⟨d,.load t x,ty,p,af,g⟩:=by exact rfl) (ac:ev L x=some (.pointer (some ⟨bk,o,none⟩)):=by exact rfl)
  (ag:S[j]? =some [(bk,.cells c e f)]:=by exact rfl) (hw:c[o]? =some w:=by exact rfl) (al:AA bks bk=true:=by simp [AA]) (am:Gx ops listed m i=true:=by decide+kernel):AQ J Q b n ds ops k cs m (AA bks) (fuel+1) listed L (Ak E H S):=
 AL i K V Z (λρ h s' ap=>Yl.load U (h _ _ ac) (Cg (o:=o) j O ag al ap hw)) Y am
theorem JG.lp{bk o:Nat}{ws:Lv_}(i:Nat)(K:Ek ops m=true)(j:Nat)(O:At E bk o ws)(U:Aq E H S)(Y:HE S bks)(Z:Dx P t=some false)
  (ac:AQ J Q b n ds ops k cs m (AA bks) fuel (Bb listed i) (Av L d w) (Ak E H S)) (ag:Hj n L ops i=some ⟨d,.load t x,ty,p,af,g⟩:=by exact rfl) (al:ev L x=some (.pointer (some ⟨bk,o+j,none⟩)):=by exact rfl)
  (hw:ws[j]? =some w:=by exact rfl) (am:Gx ops listed m i=true:=by decide+kernel):AQ J Q b n ds ops k cs m (AA bks) (fuel+1) listed L (Ak E H S):=
 AL i K V ag (λρ h s' ap=>Yl.load Z (h _ _ al) (At.Jh (j:=j) O (V0 U ap Y) hw)) ac am
theorem VM{bk o K:Nat}{c:Av_}{f:Nat×Nat}(i:Nat)(O:Ek ops m=true)(vs:Lv_)(j:Nat)(U:Aq E H S)(hw:∀(q:Nat) w,vs[q]? =some w->c[o+q]? =some w)(Y:Dx P t=some true)(Z:Bo P t=some K)
  (ac:AQ J Q b n ds ops k cs m (AA bks) fuel (Bb listed i) (Av L d (.agg vs.toArray)) (Ak E H S)) (ag:Hj n L ops i=some ⟨d,.load t x,ty,p,af,g⟩:=by exact rfl) (al:ev L x=some (.pointer (some ⟨bk,o,none⟩)):=by exact rfl)
  (am:S[j]? =some [(bk,.cells c e f)]:=by exact rfl) (ap:K=vs.length:=by exact rfl) (aq:AA bks bk=true:=by simp [AA]) (av:Gx ops listed m i=true:=by decide+kernel):AQ J Q b n ds ops k cs m (AA bks) (fuel+1) listed L (Ak E H S):=
 AL i O V ag (λρ h s' aw=>IE (vs:=vs) Y (by rw [← ap];exact Z) (h _ _ al) (λq w ay=>by rw [Ed rfl];exact Cg j U am aq aw (hw q w ay))) ac av
theorem JG.ix{D:Nat->Bool}{α:Type}{xs:List α}{xv:α}{K:Int}{bk c O U:Nat}{kd:IntKind}(i:Nat)(Y:Ek ops m=true)(Z:xs.length=U)(hm:ix xs K=some xv)(ac:P.underlying t=some (.slice e))(ag:Bo P e=some O)
  (al:AQ J Q b n ds ops k cs m D fuel (Bb listed i) (Av L d (.pointer (some ⟨bk,K.toNat*O,none⟩))) s) (am:s.q=false:=by exact rfl) (ap:Hj n L ops i=some ⟨d,.indexAddr t x y,ty,p,af,g⟩:=by exact rfl)
  (aq:ev L x=some (.slice (some ⟨bk,0,none⟩) U c):=by exact rfl) (av:ev L y=some (.int kd K):=by exact rfl) (aw:Gx ops listed m i=true:=by decide+kernel):AQ J Q b n ds ops k cs m D (fuel+1) listed L s:=
 AL i Y am ap (λρ h s' ay=>FK Z hm ac ag (h _ _ aq) (h _ _ av)) al aw
theorem JB.ix{l0 bks:List Nat}{α:Type}{xs:List α}{xv:α}{K:Int}{bk c O U:Nat}{kd:IntKind}(i:Nat)(Y:xs.length=U)(hm:ix xs K=some xv)(Z:P.underlying t=some (.slice e))(ac:Bo P e=some O)
  (ag:FF J Q b n ds ops k cs (AA xl) (AA (l0++bks)) (AA l0) fuel (Bb listed i) (Av L d (.pointer (some ⟨bk,K.toNat*O,none⟩))) s) (al:s.q=false:=by exact rfl) (am:Hj n L ops i=some ⟨d,.indexAddr t x y,ty,p,af,g⟩:=by exact rfl)
  (ap:ev L x=some (.slice (some ⟨bk,0,none⟩) U c):=by exact rfl) (aq:ev L y=some (.int kd K):=by exact rfl) (av:JZ ops listed xl true i=true:=by decide+kernel):FF J Q b n ds ops k cs (AA xl) (AA (l0++bks)) (AA l0) (fuel+1) listed L s:=
 FC i true al am (λρ h s' aw=>FK Y hm Z ac (h _ _ ap) (h _ _ aq)) ag av
theorem VK{l0:List Nat}{bk o K:Nat}{c:Av_}{f:Nat×Nat}(i:Nat)(vs:Lv_)(j:Nat)(O:Aq E H S)(hw:∀(q:Nat) w,vs[q]? =some w->c[o+q]? =some w)(U:Dx P t=some true)(Y:Bo P t=some K)
  (Z:FF J Q b n ds ops k cs (AA xl) (AA (l0++bks)) (AA l0) fuel (Bb listed i) (Av L d (.agg vs.toArray)) (Ak E H S)) (ac:Hj n L ops i=some ⟨d,.load t x,ty,p,af,g⟩:=by exact rfl) (ag:ev L x=some (.pointer (some ⟨bk,o,none⟩)):=by exact rfl)
  (al:S[j]? =some [(bk,.cells c e f)]:=by exact rfl) (am:K=vs.length:=by exact rfl) (ap:AA (l0++bks) bk=true:=by simp [AA]) (aq:JZ ops listed xl false i=true:=by decide+kernel):FF J Q b n ds ops k cs (AA xl) (AA (l0++bks)) (AA l0) (fuel+1) listed L (Ak E H S):=
 FC i false V ac (λρ h s' av=>IE (vs:=vs) U (by rw [← am];exact Y) (h _ _ ag) (λq w aw=>by rw [Ed rfl];exact Cg j O al ap (av rfl) (hw q w aw))) Z aq
theorem ET{l0 bks:List Nat}{bk off K:Nat}{c:Av_}(i j:Nat)(O:Aq E H S)(U:Bo P t=some K)(Y:Nq S j l0)(hle:off+K<=c.size)
  (h:Aq E H (S.set j [(bk,.cells (Bd c off v.cells.toList) e (0,0))])->FF J Q b n ds ops k cs (AA xl) (AA (l0++bks)) (AA l0) fuel (Bb listed i) (Av L d undef) (Ak E H (S.set j [(bk,.cells (Bd c off v.cells.toList) e (0,0))])))
  (Z:Hj n L ops i=some ⟨d,.store t x y,ty,p,af,g⟩:=by exact rfl) (ac:ev L x=some (.pointer (some ⟨bk,off,none⟩)):=by exact rfl) (ag:ev L y=some v:=by exact rfl) (al:S[j]? =some [(bk,.cells c e (0,0))]:=by exact rfl)
  (am:K=v.cells.size:=by exact rfl) (ap:v.cells.toList.all CP=true:=by first | exact rfl | simp [Value.cells,CP]) (aq:Region.ready .any ops listed= [i]:=by decide+kernel) (av:AA xl i=true:=by decide+kernel):
  FF J Q b n ds ops k cs (AA xl) (AA (l0++bks)) (AA l0) (fuel+1) listed L (Ak E H S):=by
 obtain⟨aw,ay,az⟩:=Qc Z;subst am;exact JB.store i j aq av aw ay az O ac ag U (List.all_eq_true.1 ap) al Y hle h
end
abbrev s8(s:Nat):Value:= .int .u8 (s:Int)
def Pd(a:Nat)(n:Int):Option Nat:=if 0<=n/\n<=8 then some (a>>>n.toNat) else none
def Mb(a b:Nat):Option Nat:=if a<256/\b<256 then some (a ||| b) else none
def O6(a b:Nat):Option Nat:=if a<256/\b<256 then some (a&&& b) else none
variable {a c:Nat}
section
variable {x y:Operand}{b r:Nat}{m:Int}
theorem VH{m:Nat}(h:m<256):IntKind.u8.wrap (m:Int)=m:=by
 simp only [IntKind.wrap,IntKind.bits,IntKind.signed];simp;omega
theorem Pv{m:Nat}(h:m<256):(BitVec.ofInt IntKind.u8.bits (m:Int)).toNat=m:=by
 simp [IntKind.bits,BitVec.toNat_ofInt];omega
theorem gq{k:Nat}(a c:Nat)(K:c<=k):((a:Int).fdiv (2 ^ (min c k)))=((a>>>c:Nat):Int):=by
 rw [Nat.min_eq_left K,Nat.shiftRight_eq_div_pow,Int.fdiv_eq_ediv_of_nonneg _ (Int.pow_nonneg (by decide)),Int.natCast_ediv]
 rfl
theorem Tb(K:ρ x=s8 a)(O:ρ y=iV m)(h:Pd a m=some r):Yl P ⟨d,.binOp .shr t x y u,ty,p,af,g⟩ ρ s (s8 r):=by
 unfold Pd at h;split at h
 ·rename_i U;cases h;have h:=Yl.shr (P:=P) (s:=s) (d:=d) (t:=t) (u:=u) (ty:=ty) (p:=p) (af:=af) (g:=g) K O U.1;rw [show IntKind.u8.bits=8 from rfl,gq a m.toNat (by omega)] at h;exact h
 ·cases h
theorem Oq(O:ρ x=s8 a)(U:ρ y=s8 b)(h:Mb a b=some r):Yl P ⟨d,.binOp .or t x y u,ty,p,af,g⟩ ρ s (s8 r):=by
 unfold Mb at h;split at h
 ·rename_i K;cases h;have h:=Yl.or (P:=P) (s:=s) (d:=d) (t:=t) (u:=u) (ty:=ty) (p:=p) (af:=af) (g:=g) O U;rw [BitVec.toNat_or,Pv K.1,Pv K.2,VH (Nat.or_lt_two_pow (n:=8) K.1 K.2)] at h;exact h
 ·cases h
theorem TI(O:ρ x=s8 a)(U:ρ y=s8 b)(h:O6 a b=some r):Yl P ⟨d,.binOp .and t x y u,ty,p,af,g⟩ ρ s (s8 r):=by
 unfold O6 at h;split at h
 ·rename_i K;cases h;have h:=Yl.and (P:=P) (s:=s) (d:=d) (t:=t) (u:=u) (ty:=ty) (p:=p) (af:=af) (g:=g) O U;rw [BitVec.toNat_and,Pv K.1,Pv K.2,VH (Nat.lt_of_le_of_lt Nat.and_le_left K.1)] at h;exact h
 ·cases h
end
def OT(a b:Nat):Option Nat:=if a<4294967296/\b<4294967296 then some (a&&& b) else none
def O3(a b:Nat):Option Nat:=if a<4294967296/\b<4294967296 then some (a ||| b) else none
def Q7(a:Nat)(n:Int):Option Nat:=if 0<=n/\n<=32/\a*2 ^ n.toNat<4294967296 then some (a*2 ^ n.toNat) else none
def Li(n:Int):Option Nat:=if 0<=n/\n<=8 then some ((1<<<n.toNat) % 256) else none
section
variable {e:TypeId}{x y:Operand}{b r:Nat}{m:Int}
theorem wrap32{m:Nat}(h:m<4294967296):IntKind.u32.wrap (m:Int)=m:=by
 simp only [IntKind.wrap,IntKind.bits,IntKind.signed];simp;omega
theorem Po{m:Nat}(h:m<4294967296):(BitVec.ofInt IntKind.u32.bits (m:Int)).toNat=m:=by
 simp [IntKind.bits,BitVec.toNat_ofInt];omega
theorem XZ(O:ρ x= .int .u32 (a:Int))(U:ρ y= .int .u32 (b:Int))(h:OT a b=some r):Yl P ⟨d,.binOp .and t x y u,ty,p,af,g⟩ ρ s (.int .u32 (r:Int)):=by
 unfold OT at h;split at h
 ·rename_i K;cases h;have h:=Yl.and (P:=P) (s:=s) (d:=d) (t:=t) (u:=u) (ty:=ty) (p:=p) (af:=af) (g:=g) O U;rw [BitVec.toNat_and,Po K.1,Po K.2,wrap32 (Nat.lt_of_le_of_lt Nat.and_le_left K.1)] at h;exact h
 ·cases h
theorem ZG(O:ρ x= .int .u32 (a:Int))(U:ρ y= .int .u32 (b:Int))(h:O3 a b=some r):Yl P ⟨d,.binOp .or t x y u,ty,p,af,g⟩ ρ s (.int .u32 (r:Int)):=by
 unfold O3 at h;split at h
 ·rename_i K;cases h;have h:=Yl.or (P:=P) (s:=s) (d:=d) (t:=t) (u:=u) (ty:=ty) (p:=p) (af:=af) (g:=g) O U;rw [BitVec.toNat_or,Po K.1,Po K.2,wrap32 (Nat.or_lt_two_pow (n:=32) K.1 K.2)] at h;exact h
 ·cases h
theorem X0(O:ρ x= .int .u32 (a:Int))(U:ρ y=iV m)(h:Q7 a m=some r):Yl P ⟨d,.binOp .shl t x y u,ty,p,af,g⟩ ρ s (.int .u32 (r:Int)):=by
 unfold Q7 at h;split at h
 ·rename_i K;cases h;have h:=Yl.shl (P:=P) (s:=s) (d:=d) (t:=t) (u:=u) (ty:=ty) (p:=p) (af:=af) (g:=g) O U K.1;have e:IntKind.u32.wrap ((a:Int)*2 ^ (min m.toNat IntKind.u32.bits))=((a*2 ^ m.toNat:Nat):Int):=by
   have Y:min m.toNat IntKind.u32.bits=m.toNat:=by simp [IntKind.bits];omega
   rw [Y,← wrap32 K.2.2];simp
  rw [e] at h;exact h
 ·cases h
theorem MB(K:ρ x=s8 1)(O:ρ y=iV m)(h:Li m=some r):Yl P ⟨d,.binOp .shl t x y u,ty,p,af,g⟩ ρ s (s8 r):=by
 unfold Li at h;split at h
 ·rename_i U;cases h;have h:=Yl.shl (P:=P) (s:=s) (d:=d) (t:=t) (u:=u) (ty:=ty) (p:=p) (af:=af) (g:=g) K O U.1;have e:IntKind.u8.wrap (((1:Nat):Int)*2 ^ (min m.toNat IntKind.u8.bits))=(((1<<<m.toNat) % 256:Nat):Int):=
   (by decide:∀k:Fin 9,IntKind.u8.wrap (((1:Nat):Int)*2 ^ (min k.1 IntKind.u8.bits))=(((1<<<k.1) % 256:Nat):Int)) ⟨m.toNat,by omega⟩
  rw [e] at h;exact h
 ·cases h
theorem Zl(K:ρ x=s8 a)(O:ρ y=s8 b)(hb:b<=256):Yl P ⟨d,.binOp .sub t x y u,ty,p,af,g⟩ ρ s (s8 ((a+(256 - b)) % 256)):=by
 have h:=Yl.sub (P:=P) (s:=s) (d:=d) (t:=t) (u:=u) (ty:=ty) (p:=p) (af:=af) (g:=g) K O;have e:IntKind.u8.wrap ((a:Int) - (b:Int))=(((a+(256 - b)) % 256:Nat):Int):=by
  simp only [IntKind.wrap,IntKind.bits,IntKind.signed];simp;omega
 rw [e] at h;exact h
theorem aV{kd:IntKind}{E:LH}(xs:List Nat):(rA xs.length (rN kd)).r E (xs.map λx=>Value.int kd ((x:Nat):Int)) xs:=by
 refine⟨V,xs.map λx=> [Value.int kd ((x:Nat):Int)],?_,by simp,λi x us K hu=>?_⟩
 ·induction xs with
  | nil=>rfl
  | cons x xs O=>simp [← O]
 ·rw [List.getElem?_map,K] at hu;exact(Option.some.inj hu).symm
theorem Oo{α:Type}{kk:Nat}{pp:Rp α}{E:LH}{us:Lv_}{x:α}(h:pp.r E us x):(rA kk pp).r E (List.replicate kk us).flatten (List.replicate kk x):=
 ⟨by simp,List.replicate kk us,V,by simp,λi y ws K hw=>by
  rw [List.getElem?_replicate] at K hw
  split at K
  ·rename_i O
   rw [if_pos O] at hw
   cases K;cases hw
   exact h
  ·cases K⟩
theorem N5{k K:Nat}{z v:Value}(O:P.underlying t=some (.array k e))(U:zeroOf P t=some z)(Y:Bo P e=some K)(Z: .agg z.cells=v):Yl P ⟨d,.build t #[],ty,p,af,g⟩ ρ s v:=by
 refine Fz P9 ?_;unfold Instr.build;refine As (x:=zeroValue t) _ (H2 U ?_);refine As _ _ (Cq O ?_);refine As (x:=Go.sizeOf e) _ (Fe Y ?_);subst Z;simp [Instr.fill,lp,pure]
theorem aB{k K:Nat}{z v:Value}{L:Env}{U:Array (Nat×Operand)}{vs:List (Nat×Value)}(h:EV L ρ)(Z:P.underlying t=some (.array k e))(ac:zeroOf P t=some z)(ag:Bo P e=some K)(al:U.toList.mapM (λq=>(ev L q.2).map λv=>(q.1,v))=some vs)(O:(Instr.fill (λi=>some (i*K,K)) z.cells vs).map Value.agg=some v):Yl P ⟨d,.build t U,ty,p,af,g⟩ ρ s v:=by
 refine Fz P9 ?_;unfold Instr.build;refine As (x:=zeroValue t) _ (H2 ac ?_);refine As _ _ (Cq Z ?_);refine As (x:=Go.sizeOf e) _ (Fe ag ?_);have am:=P8 h al;have ap:(U.map λ(j,x)=>(j,ρ x)).toList=vs:=by rw [← am,Array.toList_map]
 rw [ap];cases Y:Instr.fill (λi=>some (i*K,K)) z.cells vs with
 | none=>rw [Y] at O;cases O
 | some cells=>rw [Y] at O;cases O;exact⟨rfl,rfl⟩
end
section
variable {e:TypeId}
end
section
variable {b:Frame}{fuel:Nat}{listed:Array Bool}
variable {x y:Operand}{e:TypeId}{i:Nat}
end
def Hk(b:Frame)(T:Av_)(ds:Ld_)(todo:Li_)(ch:List PanicEntry):Frame:={b with tmps:=T,todo:=todo,defers:=ds,mode:= .panicking ch}
def raised(v:Value):List PanicEntry:= [{v,recovered:=false}]
def taken(v:Value):List PanicEntry:= [{v,recovered:=true}]
section
variable (J:Judge P)(Q:Gs_)
def JP(b:Frame)(n:Nat)(L:Env)(ds:Ld_)(cs:Lf_)(ch:List PanicEntry)(s:St):Prop:=
 ∀T,Has n L T->∀todo,J.ok Q (G (Hk b T ds todo ch) cs) s
end
variable {bc:Frame}{dsc:Ld_}{ch:List PanicEntry}{T Tc:Av_}{todoc:Li_}
section
variable {b:Frame}
variable {i:Nat}{x:Operand}
theorem JL.panic{t:TypeId}(O:ops[i]? =some ⟨d,.panic x,ty,p,af,g⟩)(U:b.roundOf=none)(hw:AP L ops ⟨d,.panic x,ty,p,af,g⟩=some true)(Y:ev L x=some (.iface t v))
  (h:JP J Q b n L ds cs (raised (.iface t v)) s):JL J Q b n L ds (.inRegion ops (i::rest)::k) cs s:=λT K=>
 Judge.Dm V (λw=>by
  have he:execOp (Bx T) ⟨d,.panic x,ty,p,af,g⟩= .halt (.panic (.iface t v)):=by
   simp [execOp,Instr.panic,K.ev Y,goPanic,bind,Sem.bind]
  rw [stepG_op O (Ca K hw)]
  simp [U,stepG.apply,he,Sem.run,Sem.runT,Sem.events,GStep.after,fr,Hk,Frame.raise,G,raised,seen_none]) (h T K (.inRegion ops (i::rest)::k))
theorem JP.pop{fn:Func}(K:P.funcs[b.fn]? =some fn)(h:J.ok Q (G (Hk bc Tc dsc todoc ch) cs) s):JP J Q b n L [] (fr bc Tc dsc todoc::cs) ch s:=λT O todo=>
 Judge.Dm V (λw=>by simp [G,stepG,unwind,Hk,fr,Frame.raise,Frame.catches,K]) h
theorem JP.QU{f:FuncId}{fn:Func}{c:Code}{vs caps:Lv_}(ap:b.roundOf=none)(O:P.funcs[f]? =some fn)(Y:(fn.name== "runtime.NumGoroutine")=false)(hb:fn.body=some c)(Z:(vs++caps).length<=fn.ntmps)
  (h:∀T,Has n L T->∀todo,JL J Q (baseD f) fn.ntmps (Gv 0 (vs++caps)) [] [.code c] (Hk b T ds todo ch::cs) s):JP J Q b n L (Lg f vs.toArray caps.toArray::ds) cs ch s:=λT ac todo=>by
 have ag:¬fn.name= "runtime.NumGoroutine" :=by simpa using Y
 refine Judge.Dm rfl (λw=>?_) (h T ac todo ((vs++caps).toArray++Array.replicate (fn.ntmps - (vs++caps).length) undef) ⟨by simp;simp at Z;omega,λt v al=>?_⟩)
 ·rw [BT (b:=baseD f) rfl];have:=enter_atD (P:=P) (vs++caps).toArray O hb;simp only [List.size_toArray] at this;rw [← this];simp [G,stepG,unwind,callDeferred,Hk,Lg,invoke,callFunc,O,ag,hb,GStep.after,seen_none]
 ·obtain⟨_,K⟩:=Ke al;have am:t<(vs++caps).length:=by
   rcases Nat.lt_or_ge t (vs++caps).length with U | U
   ·exact U
   ·simp only [Nat.sub_zero] at K;have:=(List.getElem?_eq_some_iff.1 K).1;omega
  rw [Array.getD_eq_getD_getElem?,Array.getElem?_append_left (by simpa using am)];simp only [Nat.sub_zero] at K;rw [List.getElem?_toArray,K];rfl
theorem WV{ats:Array TypeId}{K:List PanicEntry}(O:ops[i]? =some ⟨d,.call ⟨.builtin .recover,#[],ats⟩,ty,p,af,g⟩)(U:b.roundOf=none)(Y:b.kind= .deferred)(ag:Bj n d=true)(hw:AP L ops ⟨d,.call ⟨.builtin .recover,#[],ats⟩,ty,p,af,g⟩=some true)
  (h:JL J Q b n (Av L d v) ds (.inRegion ops rest::k) (Hk bc Tc dsc todoc ({v,recovered:=true}::K)::cs) s):
  JL J Q b n L ds (.inRegion ops (i::rest)::k) (Hk bc Tc dsc todoc ({v,recovered:=false}::K)::cs) s:=λT Z=>
 Judge.Dm V (λw=>by
  have he:execOp (Bx T) ⟨d,.call ⟨.builtin .recover,#[],ats⟩,ty,p,af,g⟩= .pure .recover:=by
   simp [execOp,resolve,Deferred.ofValue,invoke,bind,Sem.bind,pure,Go.builtin]
  have ac:=GO (b:=b) (ds:=ds) (k:=k) T ops i rest v _ O
  simp only [fr,U,Y] at ac
  rw [stepG_op O (Ca Z hw)]
  simp [U,Y,stepG.apply,he,Sem.run,Sem.runT,Sem.events,GStep.after,fr,Hk,tryRecover,G,seen_none,ac]) (h _ (Z.put ag _))
theorem W1{ats:Array TypeId}(K:ops[i]? =some ⟨d,.call ⟨.builtin .recover,#[],ats⟩,ty,p,af,g⟩)(O:b.roundOf=none)(U:b.kind= .deferred)(ac:Bj n d=true)(hw:AP L ops ⟨d,.call ⟨.builtin .recover,#[],ats⟩,ty,p,af,g⟩=some true)
  (h:JL J Q b n (Av L d .nilIface) ds (.inRegion ops rest::k) (EB bc Tc dsc todoc::cs) s):
  JL J Q b n L ds (.inRegion ops (i::rest)::k) (EB bc Tc dsc todoc::cs) s:=λT Y=>
 Judge.Dm V (λw=>by
  have he:execOp (Bx T) ⟨d,.call ⟨.builtin .recover,#[],ats⟩,ty,p,af,g⟩= .pure .recover:=by
   simp [execOp,resolve,Deferred.ofValue,invoke,bind,Sem.bind,pure,Go.builtin]
  have Z:=GO (b:=b) (ds:=ds) (k:=k) T ops i rest .nilIface _ K
  simp only [fr,O,U] at Z
  rw [stepG_op K (Ca Y hw)]
  simp [O,U,stepG.apply,he,Sem.run,Sem.runT,Sem.events,GStep.after,fr,EB,tryRecover,G,seen_none,Z]) (h _ (Y.put ac _))
theorem JO.dg{fn:Func}(O:b.kind= .deferred)(U:P.funcs[b.fn]? =some fn)(K:fn.results= #[])(h:J.ok Q (G (EB bc Tc dsc todoc) cs) s):JO J Q b n L [] (Hk bc Tc dsc todoc (taken v)::cs) s:=λT Z todo=>by
 refine Judge.Dm rfl (λw=>?_) h
 have Y:=results_none K T P w
 have e2:=λ(x:Array Event)=>events_results_none (P:=P) (w:=w) K T x
 simp [G,stepG,unwind,EB,Hk,U,Y,e2,doReturn,O,GStep.after,seen_none,taken]
end
open Go.Proofs
abbrev Dq:=Int×Int×Int
abbrev Ax:=List Dq
abbrev A2:=List Ax
abbrev Bs:=List (List Int)
abbrev AZ:=Bs×Ax
abbrev Aw:=rP rI Ew
open Go.Proofs.Tryz
def Ay:=AM Tryz.type3
def Bg:=AM Tryz.type42
def F9:=AM Tryz.type122
def G6:=AM Tryz.type82
def NM:=AM Tryz.type245
def A3:=Cm Tryz.underlying3
def Mj:=A1 Tryz.func83 rfl
def Fo:=AM Tryz.type25
def Fy:=Cm Tryz.underlying25
def Hv:=AM Tryz.type26
def Jx:=Cm Tryz.underlying26
def DO:=Cm Tryz.underlying42
def BP:=C8 Tryz.type42
def FU:=AM Tryz.type22
def Jy:=Cm Tryz.underlying22
def HY:=C8 Tryz.type82
def CV:=AM Tryz.type28
def GM:=Cm Tryz.underlying82
def Jz:=C8 Tryz.type122
def Hu:=C8 Tryz.type78
def Fc:=Cm Tryz.underlying28
def Du:=AM Tryz.type78
def FI:=Cm Tryz.underlying78
def CH:=C8 Tryz.type3
def J9:=A1 Tryz.func54 rfl
def Mk:=A1 Tryz.func55 rfl
def Ix:=A1 Tryz.func64 rfl
def Kd:=AM Tryz.type4
def NF:=Cm Tryz.underlying4
def Bl:=AM Tryz.type96
def BH:=Cm Tryz.underlying96
def HZ:=AM Tryz.type199
def HX:=A1 Tryz.func60 rfl
def Ml:=C8 Tryz.type22
def Mm:=C8 Tryz.type4
def NH:=A1 Tryz.func103 rfl
def Lx:=C8 Tryz.type253
def HW:=A1 Tryz.func92 rfl
def PK:=C8 Tryz.type96
def NC:=Cm Tryz.underlying205
def Py:=Cm Tryz.underlying91
def PF:=A1 Tryz.func62 rfl
def PD:=A1 Tryz.func197 rfl
def PC:=A1 Tryz.func177 rfl
def Pz:=A1 Tryz.func146 rfl
def NG:=A1 Tryz.func102 rfl
def KR:=Cm Tryz.underlying199
def PE:=C8 Tryz.type245
def Nz:=Cm Tryz.underlying245
def Kb:=AM Tryz.type152
def NK:=C8 Tryz.type152
def NA:=Cm Tryz.underlying152
def Ht:=Cm Tryz.underlying21
def NO:=AM Tryz.type93
def Ka:=C8 Tryz.type28
def NI:=A1 Tryz.func44 rfl
def PH:=A1 Tryz.func42 rfl
def NJ:=A1 Tryz.func40 rfl
def NL:=A1 Tryz.func14 rfl
def Kc:=AM Tryz.type72
def ND:=Cm Tryz.underlying72
def J8:=A1 Tryz.func26 rfl
def PG:=A1 Tryz.func27 rfl
def Ly:=C8 Tryz.type128
def NB:=Cm Tryz.underlying177
def Mn:=AM Tryz.type177
theorem mixed:Tryz.prog.follows .mixedOrders=true:=rfl
theorem fg:B9 Tryz.prog 42 (rP rI (rP rI rI)) true 2:=B9.three underlying42 (B9.int underlying3 Ay) (B9.int underlying3 Ay) (B9.int underlying3 Ay) (by decide+kernel) (by decide) (by decide) (by decide) V V V Bg
theorem cG:B9 Tryz.prog 122 (rP rI rI) true 2:=B9.two underlying122 (B9.int underlying3 Ay) (B9.int underlying3 Ay) (by decide+kernel) (by decide) (by decide) V V F9
theorem Q3:B9 Tryz.prog 82 (rA 5 rI) true 2:=B9.arr (kk:=5) (B9.int underlying3 Ay) underlying82 G6
theorem eB:B9 Tryz.prog 243 (rA 10 rI) true 2:=B9.arr (kk:=10) (B9.int underlying3 Ay) underlying243 (AM type243)
theorem Vi:B9 Tryz.prog 245 (rA 5 (rA 10 rI)) true 3:=B9.arr (kk:=5) eB underlying245 NM
theorem eO:B9 Tryz.prog 267 (rP (rN .u8) (rA 5 (rA 10 rI))) true 4:=B9.two underlying267 ((B9.nat underlying5 (AM type5)).up (by decide)) Vi (by decide+kernel) (by decide) (by decide) V V (AM type267)
theorem Jl:GX Tryz.prog 3 rI false:=(B9.int underlying3 Ay).key (by decide)
theorem Q5:GX Tryz.prog 122 (rP rI rI) true:=cG.key (by decide)
theorem VE:GX Tryz.prog 245 (rA 5 (rA 10 rI)) true:=Vi.key (by decide)
theorem U1:GX Tryz.prog 267 (rP (rN .u8) (rA 5 (rA 10 rI))) true:=eO.key (by decide)
end Pal
namespace Pal
open Go Go.Conc Go.Proofs Go.Extern
abbrev Fw(t:Nat):Value:= .pointer (some ⟨1,t,none⟩)
abbrev J0(t:Nat):Value:= .iface 222 (.agg #[Fw t])
variable {s:St}{X:Halt->St->Prop}
theorem W4{Q:Value->St->Prop}(t:Addr):lp Tryz.prog (ReflectliteValue.unpack (.iface 130 (.pointer (some t)))) s Q X=(s.q=false/\∀r,s.E r=none->s.H r=none->Q (.agg #[Fw 130,.pointer (some ⟨r,0,none⟩),.int .u64 150]) (s.upd r (.cells #[.pointer (some t)] 130 (0,0)))):=by kernel_rfl
theorem WZ{Q:Value->St->Prop}(c:Int):lp Tryz.prog (ReflectliteValue.unpack (.iface 128 (.agg #[iV c]))) s Q X=(s.q=false/\∀r,s.E r=none->s.H r=none->Q (.agg #[Fw 128,.pointer (some ⟨r,0,none⟩),.int .u64 153]) (s.upd r (.cells #[iV c] 128 (0,0)))):=by kernel_rfl
theorem ZL{Q:Value->St->Prop}(a:Addr):lp Tryz.prog (ReflectliteValue.methodAny (ReflectliteValue.valueError "reflectlite.Value.Type" 0) (λt _ _ _=>ReflectliteType.toType t) #[.agg #[Fw 130,.pointer (some a),.int .u64 150]]) s Q X=Q (J0 130) s:=by kernel_rfl
theorem Xx{Q:Value->St->Prop}(v:Value):lp Tryz.prog (ReflectliteType.typeOf #[.iface 128 v]) s Q X=Q (J0 128) s:=by kernel_rfl
theorem U8{Q:FuncId×Value->St->Prop}(h:Value):lp Tryz.prog (Go.method (Tryz.prog.types.size+Made.depth) 222 (.agg #[h]) "Kind") s Q X=Q (216,h) s:=by kernel_rfl
theorem cE{Q:FuncId×Value->St->Prop}(h:Value):lp Tryz.prog (Go.method (Tryz.prog.types.size+Made.depth) 222 (.agg #[h]) "Elem") s Q X=Q (227,.agg #[h]) s:=by kernel_rfl
theorem dO{Q:FuncId×Value->St->Prop}(h:Value):lp Tryz.prog (Go.method (Tryz.prog.types.size+Made.depth) 222 (.agg #[h]) "Implements") s Q X=Q (228,.agg #[h]) s:=by kernel_rfl
theorem fM{Q:FuncId×Value->St->Prop}(h:Value):lp Tryz.prog (Go.method (Tryz.prog.types.size+Made.depth) 222 (.agg #[h]) "AssignableTo") s Q X=Q (225,.agg #[h]) s:=by kernel_rfl
theorem Zy{Q:Value->St->Prop}:lp Tryz.prog ((ReflectliteType.abiMethod λt=>(λa:Nat=>Value.int IntKind.u8 (a:Int))<$>Rtype.kind t) #[Fw 130]) s Q X=Q (.int .u8 22) s:=by kernel_rfl
theorem YY{Q:Value->St->Prop}:lp Tryz.prog ((ReflectliteType.abiMethod λt=>(λa:Nat=>Value.int IntKind.u8 (a:Int))<$>Rtype.kind t) #[Fw 128]) s Q X=Q (.int .u8 25) s:=by kernel_rfl
theorem YT{Q:Value->St->Prop}:lp Tryz.prog (ReflectliteType.method ReflectliteType.elem #[.agg #[Fw 130]]) s Q X=Q (J0 128) s:=by kernel_rfl
theorem ZI{Q:Value->St->Prop}:lp Tryz.prog (ReflectliteType.relation "Implements" ReflectliteType.implements_ #[.agg #[Fw 128],J0 88]) s Q X=Q (.bool true) s:=by kernel_rfl
theorem ZV{Q:Value->St->Prop}:lp Tryz.prog (ReflectliteType.relation "AssignableTo" ReflectliteType.assignableTo #[.agg #[Fw 128],J0 128]) s Q X=Q (.bool true) s:=by kernel_rfl
theorem SL{Q:Option (TypeId×Addr×Nat)->St->Prop}(a:Addr):lp Tryz.prog (ReflectliteValue.parts (.agg #[Fw 130,.pointer (some a),.int .u64 150])) s Q X=Q (some (130,a,150)) s:=by kernel_rfl
theorem XQ{Q:Option (TypeId×Addr×Nat)->St->Prop}(a:Addr):lp Tryz.prog (ReflectliteValue.parts (.agg #[Fw 128,.pointer (some a),.int .u64 153])) s Q X=Q (some (128,a,153)) s:=by kernel_rfl
theorem Xz{Q:Option (TypeId×Addr×Nat)->St->Prop}(a:Addr):lp Tryz.prog (ReflectliteValue.parts (.agg #[Fw 128,.pointer (some a),.int .u64 409])) s Q X=Q (some (128,a,409)) s:=by kernel_rfl
theorem bG{Q:Option TypeId->St->Prop}:lp Tryz.prog (Rtype.elem? 130) s Q X=Q (some 128) s:=by kernel_rfl
theorem ck{Q:Value->St->Prop}(p:Addr):lp Tryz.prog (ReflectliteValue.mk 128 p ReflectliteValue.flagAddr) s Q X=Q (.agg #[Fw 128,.pointer (some p),.int .u64 409]) s:=by kernel_rfl
theorem bK{Q:Bool->St->Prop}:lp Tryz.prog (Rtype.directlyAssignable 128 128) s Q X=Q true s:=by kernel_rfl
theorem Tq{Q:Value->St->Prop}(a:Addr):lp Tryz.prog (loadVar 130 a) s Q X=(Mode.plain= .plain/\∃v,s.cell? a=some v/\Q v s):=by kernel_rfl
theorem YN{Q:Value->St->Prop}(a:Addr):lp Tryz.prog (loadVar 128 a) s Q X=(Mode.plain= .plain/\∃v,s.cell? (a.add 0)=some v/\Q (.agg #[v]) s):=by kernel_rfl
theorem Vj:BM Tryz.prog 116 (λargs=>ReflectliteValue.unpack (args.getD 0 (.tuple #[]))):=⟨⟨_,Tryz.func116,by kernel_rfl,by kernel_rfl,by kernel_rfl,by kernel_rfl⟩⟩
theorem cf:BM Tryz.prog 117 (ReflectliteValue.methodAny (ReflectliteValue.valueError "reflectlite.Value.Type" 0) (λt _ _ _=>ReflectliteType.toType t)):=⟨⟨_,Tryz.func117,by kernel_rfl,by kernel_rfl,by kernel_rfl,by kernel_rfl⟩⟩
theorem cZ:BM Tryz.prog 118 (ReflectliteValue.method (ReflectliteValue.valueError "reflectlite.Value.IsNil" 0) ReflectliteValue.isNil):=⟨⟨_,Tryz.func118,by kernel_rfl,by kernel_rfl,by kernel_rfl,by kernel_rfl⟩⟩
theorem dp:BM Tryz.prog 157 ReflectliteType.typeOf:=⟨⟨_,Tryz.func157,by kernel_rfl,by kernel_rfl,by kernel_rfl,by kernel_rfl⟩⟩
theorem eZ:BM Tryz.prog 158 (ReflectliteValue.method (ReflectliteValue.valueError "reflectlite.Value.Elem" 0) ReflectliteValue.elem):=⟨⟨_,Tryz.func158,by kernel_rfl,by kernel_rfl,by kernel_rfl,by kernel_rfl⟩⟩
theorem eT:BM Tryz.prog 159 ReflectliteValue.set:=⟨⟨_,Tryz.func159,by kernel_rfl,by kernel_rfl,by kernel_rfl,by kernel_rfl⟩⟩
theorem Vh:BM Tryz.prog 216 (ReflectliteType.abiMethod λt=>(λa:Nat=>Value.int IntKind.u8 (a:Int))<$>Rtype.kind t):=⟨⟨_,Tryz.func216,by kernel_rfl,by kernel_rfl,by kernel_rfl,by kernel_rfl⟩⟩
theorem cO:BM Tryz.prog 225 (ReflectliteType.relation "AssignableTo" ReflectliteType.assignableTo):=⟨⟨_,Tryz.func225,by kernel_rfl,by kernel_rfl,by kernel_rfl,by kernel_rfl⟩⟩
theorem dw:BM Tryz.prog 227 (ReflectliteType.method ReflectliteType.elem):=⟨⟨_,Tryz.func227,by kernel_rfl,by kernel_rfl,by kernel_rfl,by kernel_rfl⟩⟩
theorem dU:BM Tryz.prog 228 (ReflectliteType.relation "Implements" ReflectliteType.implements_):=⟨⟨_,Tryz.func228,by kernel_rfl,by kernel_rfl,by kernel_rfl,by kernel_rfl⟩⟩
end Pal
namespace Pal
open Go Go.Conc
variable {P:Program}{J:Judge P}{Q:Gs_}{n:Nat}{L:Env}{ds:Ld_}{k:Li_}{cs:Lf_}{s:St}{ops:Ao_}{rest:List Nat}{v:Value}
variable {d:Option Tmp}{ty:TypeId}{p:String}{af:Ae_}{g:On_}
section
variable {b:Frame}{i:Nat}
variable {x:Operand}
theorem SR{f:FuncId}{e:Av_->Sem Value}{args:Av_}{Q:Next->St->Prop}{X:Halt->St->Prop}(he:BM P f e)(h:lp P (e args) s (λv s'=>Q (.value v) s') X):lp P (callFunc f args) s Q X:=by
 obtain⟨fn,K,O,U,Y,Z⟩:=he.h;unfold callFunc;simp only [bind,Sem.bind,program,lp,K,O,U,Bool.false_eq_true,if_false,if_true,mark,Y,Z];refine⟨.inr ⟨f,V⟩,?_⟩;exact As _ _ (Ej _ h (λv s' ac=>ac) (λ_ _ ag=>ag))
theorem K9{f:FuncId}{e:Av_->Sem Value}{args:Array Operand}{ats:Array TypeId}{vs:Lv_}(he:BM P f e)(O:ops[i]? =some ⟨d,.call ⟨.value (.func f),args,ats⟩,ty,p,af,g⟩)(hw:AP L ops ⟨d,.call ⟨.value (.func f),args,ats⟩,ty,p,af,g⟩=some true)(U:BS b n ⟨d,.call ⟨.value (.func f),args,ats⟩,ty,p,af,g⟩=true)(Y:evs L args.toList=some vs)
  (h:lp P (e vs.toArray) s (λv s'=>JL J Q b n (Av L d v) ds (.inRegion ops rest::k) cs s') (λ_ _=>False)):JL J Q b n L ds (.inRegion ops (i::rest)::k) cs s:=by
 refine JL.op O hw U λρ K=>?_;have Z:args.map ρ=vs.toArray:=by
  rw [← Gc K Y];apply Array.ext';simp
 have ac:ρ (.func f)= .func (.func f) #[] #[]:=K _ _ V;simp only [execOp,resolve,bind,Sem.bind,Deferred.ofValue,ac,pure,invoke];have ag: #[]++args.map ρ++ #[]=vs.toArray:=by rw [Z];simp
 rw [ag];exact SR he h
theorem M7{t:TypeId}{K O:Value}{name:String}{f:FuncId}{e:Av_->Sem Value}{args:Array Operand}{ats:Array TypeId}{vs:Lv_}(he:BM P f e)(hm:∀{s:St} {X:Halt->St->Prop} {Q:FuncId×Value->St->Prop},lp P (Go.method (P.types.size+Made.depth) t K name) s Q X=Q (f,O) s)
  (Y:ops[i]? =some ⟨d,.call ⟨.invoke x name,args,ats⟩,ty,p,af,g⟩) (hw:AP L ops ⟨d,.call ⟨.invoke x name,args,ats⟩,ty,p,af,g⟩=some true) (Z:BS b n ⟨d,.call ⟨.invoke x name,args,ats⟩,ty,p,af,g⟩=true) (ac:ev L x=some (.iface t K)) (ag:evs L args.toList=some vs)
  (h:lp P (e (O::vs).toArray) s (λv s'=>JL J Q b n (Av L d v) ds (.inRegion ops rest::k) cs s') (λ_ _=>False)):JL J Q b n L ds (.inRegion ops (i::rest)::k) cs s:=by
 refine JL.op Y hw Z λρ U=>?_;have al:args.map ρ=vs.toArray:=by
  rw [← Gc U ag];apply Array.ext';simp
 have am:ρ x= .iface t K:=U _ _ ac;simp only [execOp,resolve,bind,Sem.bind,pure,invoke,am,al];have ap:(#[Value.iface t K]++vs.toArray)[0]? =some (.iface t K):=by simp
 have aq:(#[Value.iface t K]++vs.toArray).extract 1 (#[Value.iface t K]++vs.toArray).size=vs.toArray:=by
  apply Array.ext';simp
 simp only [ap,aq,callMethod,bind,Sem.bind,program,lp];refine As _ _ ?_;rw [hm];have e2: #[O]++vs.toArray=(O::vs).toArray:=by apply Array.ext';simp
 rw [e2];exact SR he h
end
open Go.Proofs Go.Proofs.Tryz
variable {E:LH}
variable {J:Judge Tryz.prog}
def f91(fu_:Nat)(p0:Int)(K:Int)(p2:Int):Option Bool:= Option.bind (if K<=p0 then(some (decide (p0<=p2))) else(some false)) λO=> some O
theorem M3{p0:Int}{K:Int}{p2:Int}{fu_:Nat}{r:Bool}(O:f91 fu_ p0 K p2=some r):AK J 83 [iV p0,iV K,iV p2] E [] (λw E' B'=>w= .bool r/\B'= []):=by
 refine Bi func83 λQ ay cs H U Z=>?_;unfold f91 at O;obtain⟨ac,ag,al⟩:=bs O;refine C 10 V (Fq 8 1 [] [(14,.bool ac)] (λaz am ap=>?_) (λY=>?_))
 ·refine C 2 V ?_;obtain rfl:=oi al;exact AS func83 V V (Z am V ⟨V,V⟩ ap)
 ·refine Je 10 ag (λaq av=>?_) (λaq aw=>?_)
  ·refine C 4 V ?_;obtain rfl:=oi av;exact Y AE U V
  ·refine C 4 V ?_;obtain rfl:=oi aw;exact Y AE U V
def f86(fu_:Nat)(p0:Int×Int×Int)(K:Int)(p2:Int):Option Int:= (Au (K - 1)).bind λO=> (f91 fu_ p0.1 0 O).bind λU=> Option.bind (if(!U)=true then(some true) else((Au (K - 1)).bind λY=> (f91 fu_ p0.2.1 0 Y).bind λZ=> some (!Z))) λac=> if ac=true then(some 3) else(if p0.1=p0.2.1 then(some 8) else((f91 fu_ p0.2.2 1 p2).bind λag=> if(!ag)=true then(some 1) else(some 0)))
theorem VN{p0:Int×Int×Int}{ag:Int}{p2:Int}{fu_:Nat}{r:Int}(al:f86 fu_ p0 ag p2=some r):AK J 84 [.agg #[iV p0.1,iV p0.2.1,iV p0.2.2],iV ag,iV p2] E [] (λw E' B'=>w=iV r/\B'= []):=by
 refine Bi func84 λQ ci cs H aw Y=>?_;unfold f86 at al;refine C 2 V (Dp aw λr2 co Z U ay=>?_);refine C 6 V (B5 0 U underlying42 Ay A3 ?_);obtain⟨cp,az,a0⟩:=bs al;refine C 1 V (Ck az V V V ?_);obtain⟨a1,a2,a3⟩:=bs a0;refine Cs (M3 a2) V V Mj ay λct K am=>Am (v:= .bool (!a1)) V (λρ h=>Yl.not (h _ _ V)) ?_;obtain⟨a4,a5,a6⟩:=bs a3;refine C 1 V (Fq 14 1 [] [(2,iV p2),(3,Aj r2 0),(21,.bool a4)] (λcw O ac=>?_) (λap=>?_))
 ·refine C 2 V (Cx a6 (λa7 a8=>?_) (λa7 a9=>?_))
  ·refine C 4 V ?_;obtain rfl:=oi a8;exact AS func84 V V (Y ((Z.Ad K).Ad O) V ⟨V,V⟩ ac)
  ·refine C 2 V (B5 0 (U.Ag (K.Ad O)) underlying42 Ay A3 ?_);refine B5 1 (U.Ag (K.Ad O)) underlying42 Ay A3 ?_;refine C 3 V (AU a9 (λbb be=>?_) (λbb bi=>?_))
   ·refine C 4 V ?_;obtain rfl:=oi be;exact AS func84 V V (Y ((Z.Ad K).Ad O) V ⟨V,V⟩ ac)
   ·refine C 2 V (B5 2 (U.Ag (K.Ad O)) underlying42 Ay A3 ?_);obtain⟨bn,bo,bv⟩:=bs bi;refine C 1 V (Cs (M3 bo) V V Mj ac λcy aq av=>?_);refine Am (v:= .bool (!bn)) V (λρ h=>Yl.not (h _ _ V)) (C 2 V ?_);refine Cx bv (λbw bx=>?_) (λbw bz=>?_)
    ·refine C 4 V ?_;obtain rfl:=oi bx;exact AS func84 V V (Y (((Z.Ad K).Ad O).Ad aq) V ⟨V,V⟩ av)
    ·refine C 6 V ?_;obtain rfl:=oi bz;exact AS func84 V V (Y (((Z.Ad K).Ad O).Ad aq) V ⟨V,V⟩ av)
 ·refine EA 14 a5 (λb0 b1=>?_) (λb0 b2=>?_)
  ·refine C 7 V ?_;obtain rfl:=oi b1;exact ap AE am V
  ·refine B5 1 (U.Ag K) underlying42 Ay A3 ?_;obtain⟨c0,b3,b4⟩:=bs b2;refine C 1 V (Ck b3 V V V ?_);obtain⟨b5,b6,ca⟩:=bs b4;refine Cs (M3 b6) V V Mj am λc1 cc ce=>Am (v:= .bool (!b5)) V (λρ h=>Yl.not (h _ _ V)) (C 1 V ?_);obtain rfl:=oi ca;exact ap cc ce V
def OR(fu_:Nat)(O:List Int)(K:Int):Option (Bn Int ((Int)⊕(Unit))):= if K<(O.length:Int) then((ix O K).bind λU=> (f91 fu_ U 1 9).bind λY=> if(!Y)=true then(some (.done (Sum.inl 1))) else((Au (K+1)).bind λZ=> some (.more Z))) else(some (.done (Sum.inr ())))
def OZ(fu_:Nat)(p0:AZ)(K:Int):Option (Bn Int ((Int)⊕(Unit))):= if K<(p0.1.length:Int) then((ix p0.1 K).bind λO=> if 3<(O.length:Int) then(some (.done (Sum.inl 6))) else(Option.bind (iter (OR fu_ O) fu_ 0) λU=> Sum.elim (λr=>some (.done (Sum.inl r))) (λZ=> (Au (K+1)).bind λY=> some (.more Y)) U)) else(some (.done (Sum.inr ())))
def UU(fu_:Nat)(p0:AZ)(K:Int):Option (Bn Int ((Int)⊕(Unit))):= if K<(p0.2.length:Int) then((ix p0.2 K).bind λU=> (f86 fu_ U (p0.1.length:Int) 9).bind λO=> if O≠0 then(some (.done (Sum.inl O))) else((Au (K+1)).bind λY=> some (.more Y))) else(some (.done (Sum.inr ())))
def f47(fu_:Nat)(p0:AZ):Option Int:= if(p0.1.length:Int)<2 then(some 7) else(if 5<(p0.1.length:Int) then(some 6) else(Option.bind (iter (OZ fu_ p0) fu_ 0) λK=> Sum.elim (λr=>some r) (λU=> if 8<(p0.2.length:Int) then(some 6) else(Option.bind (iter (UU fu_ p0) fu_ 0) λO=> Sum.elim (λr=>some r) (λY=> some 0) O)) K))
theorem fS{a1:An}{c2:Nat}{aw:An}{ay:Nat}{p0:AZ}(cw:Al (rL rI) E a1 c2 p0.1)(cy:Al Aw E aw ay p0.2){fu_:Nat}{r:Int}(a8:f47 fu_ p0=some r):AK J 41 [.agg #[sV a1 p0.1 c2,sV aw p0.2 ay]] E [] (λw E' B'=>w=iV r/\B'= []):=by
 refine Bi func41 λQ hp cs H c0 O=>?_;unfold f47 at a8;refine C 2 V (Dp c0 λY c1 K Z az=>?_);refine C 5 V (B5 0 Z underlying28 Fo Fy ?_);refine JL.ln underlying25 V V V (C 9 V ?_);refine AU a8 (λc3 c4=>?_) (λc3 c5=>?_)
 ·refine C 4 V ?_;obtain rfl:=oi c4;exact AS func41 V V (O K V ⟨V,V⟩ az)
 ·refine C 6 V (AU c5 (λc6 c7=>?_) (λc6 c8=>?_))
  ·refine C 4 V ?_;obtain rfl:=oi c7;exact AS func41 V V (O K V ⟨V,V⟩ az)
  ·refine C 5 V (B5 0 Z underlying28 Fo Fy ?_);refine JL.ln underlying25 V V V ?_;obtain⟨a9,c9,a0⟩:=bs c8;refine C 2 V (Bt (λL s=>∃(bb:Unit) (a2:LH),a9=Sum.inr bb/\Jm c1 H a2 [] [(1,Aj Y 0)] L s) ?_ ?_)
   ·rintro _ _ ⟨bb,a2,rfl,rfl,rfl,U,be⟩;have dd:=elim_inr a0;refine C 3 V (B5 1 (Z.Ag U) underlying28 Hv Jx ?_);refine JL.ln underlying26 V V V (C 2 V ?_);refine AU dd (λdn ea=>?_) (λdn eb=>?_)
    ·refine C 4 V ?_;obtain rfl:=oi ea;exact AS func41 V V (O (K.Ad U) V ⟨V,V⟩ be)
    ·refine C 4 V (B5 1 (Z.Ag U) underlying28 Hv Jx ?_);refine JL.ln underlying26 V V V ?_;obtain⟨bi,ec,bn⟩:=bs eb;refine C 2 V (Bt (λL s=>∃(bo:Unit) (bv:LH),bi=Sum.inr bo/\Jm a2 H bv [] [] L s) ?_ ?_)
     ·rintro _ _ ⟨bo,bv,rfl,rfl,rfl,ed,ee⟩;have ef:=elim_inr bn;refine C 4 V ?_;obtain rfl:=oi ef;exact AS func41 V V (O ((K.Ad U).Ad ed) V ⟨V,V⟩ ee)
     ·intro eg;refine JL.block (Ee ec (λa3=> []) (λa3=> [(1,Aj Y 0),(46,sV aw p0.2 ay),(47,iV (p0.2.length:Int)),(48,iV a3)]) AE be ?_);rintro a3 ej ac bw bx ⟨hq,ap⟩ ek;have bz:=ap;unfold UU at bz;refine C 5 V (AU bz (λel em=>?_) (λel eo=>?_))
      ·obtain⟨hr,ep,er⟩:=bs em;refine C 5 V (JS.ix (cy.Ag ((K.Ad U).Ad ac)) ep underlying26 Bg ?_);rintro hs ht _ ⟨_,_,rfl,rfl,⟨_,_,rfl,rfl,rfl⟩⟩ eu;refine B4 eu DO Bg V V (BQ bw BP λhu ew=>?_);refine BJ 0 ew Bg λex=>?_;refine Cu 0 ex V λhv a4 ey eA=>C 3 V (B4 ey DO Bg V V ?_);refine B5 0 (Z.Ag ((U.Ad ac).Ad a4)) underlying28 Fo Fy ?_;refine JL.ln underlying25 V V V ?_;obtain⟨hw,eC,eN⟩:=bs er;refine Cs (VN eC) V V (A1 func84 V) eA λhx b0 b1=>C 7 V (AU eN (λe0 e1=>?_) (λe0 e3=>?_))
       ·refine C 5 V ?_;obtain rfl:=oi e1;obtain rfl:=bx _ ap;have e4:=elim_inl bn;obtain rfl:=oi e4;exact AS func41 V V (O ((((K.Ad U).Ad ac).Ad a4).Ad b0) V ⟨V,V⟩ b1)
       ·obtain⟨e5,e6,e7⟩:=bs e3;refine C 3 V (Bq e6 V V V ?_);refine C 2 V ?_;obtain rfl:=oi e7;exact ek e5 ((ac.Ad a4).Ad b0) b1 V ap
      ·refine JL.exit V ?_;obtain rfl:=oi eo;have e8:bi=(Sum.inr ()):=(bx _ ap).symm;exact AB (eg _ _ ⟨(),ej,e8,V,V,ac,bw⟩) V
   ·intro ff;refine JL.block (Ee c9 (λag=> []) (λag=> [(1,Aj Y 0),(21,sV a1 p0.1 c2),(22,iV (p0.1.length:Int)),(23,iV ag)]) AE az ?_);rintro ag b2 al a5 a6 ⟨hy,am⟩ fk;have b3:=am;unfold OZ at b3;refine C 5 V (AU b3 (λfl fm=>?_) (λfl fo=>?_))
    ·obtain⟨b4,fs,fv⟩:=bs fm;refine C 5 V (JS.ix (cw.Ag (K.Ad al)) fs underlying25 FU ?_);rintro hz hA _ ⟨fw,fN,rfl,gc⟩ ge;refine Cy 0 ge Jy V V V (C 6 V ?_);refine JL.ln underlying22 V V V (C 2 V ?_);refine AU fv (λgg gh=>?_) (λgg gl=>?_)
     ·refine C 4 V ?_;obtain rfl:=oi gh;obtain rfl:=a6 _ am;have gt:=elim_inl a0;obtain rfl:=oi gt;exact AS func41 V V (O (K.Ad al) V ⟨V,V⟩ a5)
     ·refine C 4 V (JL.ln underlying22 V V V ?_);obtain⟨b5,gE,b6⟩:=bs gl;refine C 2 V (Bt (λL s=>∃(ca:Unit) (cc:LH),b5=Sum.inr ca/\Jm b2 H cc [] [(1,Aj Y 0),(21,sV a1 p0.1 c2),(22,iV (p0.1.length:Int)),(23,iV ag)] L s) ?_ ?_)
      ·rintro _ _ ⟨ca,cc,rfl,rfl,rfl,gO,gV⟩;have gW:=elim_inr b6;obtain⟨gX,gY,gZ⟩:=bs gW;refine C 2 V (Bq gY V V V ?_);refine C 2 V ?_;obtain rfl:=oi gZ;exact fk gX (al.Ad gO) gV V am
      ·intro g0;refine JL.block (Ee gE (λa7=> []) (λa7=> [(1,Aj Y 0),(21,sV a1 p0.1 c2),(22,iV (p0.1.length:Int)),(23,iV ag),(30,sV fw b4 fN),(31,iV (b4.length:Int)),(32,iV a7)]) AE a5 ?_);rintro a7 g1 aq ce ci ⟨hB,av⟩ g3;have co:=av;unfold OR at co;refine C 5 V (AU co (λg4 g5=>?_) (λg4 g6=>?_))
       ·obtain⟨hC,g7,g8⟩:=bs g5;refine C 5 V (JS.ix (gc.Ag aq) g7 underlying22 Ay ?_);rintro hD hE _ rfl g9;refine Cy 0 g9 A3 V V V ?_;obtain⟨ha,hb,hc⟩:=bs g8;refine C 5 V (Cs (M3 hb) V V Mj ce λhF cp ct=>?_);refine Am (v:= .bool (!ha)) V (λρ h=>Yl.not (h _ _ V)) (JL.done ?_);refine Cx hc (λhd he=>?_) (λhd hf=>?_)
        ·refine C 4 V ?_;obtain rfl:=oi he;obtain rfl:=ci _ av;have hg:=elim_inl b6;obtain rfl:=oi hg;obtain rfl:=a6 _ am;have hj:=elim_inl a0;obtain rfl:=oi hj;exact AS func41 V V (O (((K.Ad al).Ad aq).Ad cp) V ⟨V,V⟩ ct)
        ·obtain⟨hk,hl,hm⟩:=bs hf;refine C 3 V (Bq hl V V V ?_);refine C 2 V ?_;obtain rfl:=oi hm;exact g3 hk (aq.Ad cp) ct V av
       ·refine JL.exit V ?_;obtain rfl:=oi g6;have hn:b5=(Sum.inr ()):=(ci _ av).symm;exact AB (g0 _ _ ⟨(),g1,hn,V,V,aq,ce⟩) V
    ·refine JL.exit V ?_;obtain rfl:=oi fo;have ho:a9=(Sum.inr ()):=(a6 _ am).symm;exact AB (ff _ _ ⟨(),b2,ho,V,V,al,a5⟩) V
def OQ(fu_:Nat)(p0:AZ)(O:(List Int)×Int):Option (Bn ((List Int)×Int) ((List Int))):= if O.2<(p0.2.length:Int) then((ix p0.2 O.2).bind λK=> (ix O.1 K.2.1).bind λY=> (Au (Y+K.2.2)).bind λU=> (ix O.1 K.2.1).bind λal=> (ix (O.1.set (Int.toNat K.2.1) U) K.1).bind λZ=> (Au (Z - K.2.2)).bind λac=> (ix (O.1.set (Int.toNat K.2.1) U) K.1).bind λam=> (Au (O.2+1)).bind λag=> some (.more (((O.1.set (Int.toNat K.2.1) U).set (Int.toNat K.1) ac),ag))) else(some (.done O.1))
def f84(fu_:Nat)(p0:AZ):Option ((List Int)):= Option.bind (iter (OQ fu_ p0) fu_ ((List.replicate 5 (0:Int)),0)) λK=> some K
theorem M5{a1:An}{c2:Nat}{a8:An}{a9:Nat}{p0:AZ}(e3:Al (rL rI) E a1 c2 p0.1)(ce:Al Aw E a8 a9 p0.2){fu_:Nat}{r:(List Int)}(bw:f84 fu_ p0=some r):AK J 55 [.agg #[sV a1 p0.1 c2,sV a8 p0.2 a9]] E [] (λw E' B'=>∃(bx:Lv_),w= .agg bx.toArray/\B'= []/\(rA 5 rI).r E' bx r):=by
 refine Bi func55 λQ e4 cs H ci co=>?_;unfold f84 at bw;refine C 2 V (Dp ci λe5 a2 bz cp ct=>?_);refine BQ ct HY λa3 cw=>?_;refine C 3 V (BQ cw HY λU cy=>?_);refine C 4 V (JL.fd underlying78 CV V V V ?_);refine B5 1 cp underlying28 Hv Jx ?_;refine JL.ln underlying26 V V V ?_;obtain⟨c0,c1,c3⟩:=bs bw;refine C 2 V (Bt (λL s=>∃(aw:LH) (Y:Lv_),Jn a2 H aw [bX a3 (([]:Lv_)++(List.replicate 5 (iV 0):Lv_)).toArray 82,bX U (([]:Lv_)++Y).toArray 82] [(2,Aj a3 0),(3,Aj U 0)] L s ((rA 5 rI).r aw Y c0)) ?_ ?_)
 ·rintro _ _ ⟨aw,Y,rfl,rfl,c4,b0,ac⟩;refine C 2 V (Am (v:= .agg Y.toArray) V (λρ h=>Gs (kk:=5) (pp:=rI) ac GM G6 (h _ _ V) (GQ (l:= []) 1 b0 V)) ?_);refine Gb (v:= .agg Y.toArray) (l:= []) (ws:=(List.replicate 5 (iV 0):Lv_)) (us:=Y) (o:=0) 0 V V V b0 V V V (by rw [BI (kk:=5) (pp:=rI) ac];exact AM type82) ((rA 5 rI).one ac) V (by rw [BI (kk:=5) (pp:=rI) ac,BI (kk:=5) (pp:=rI) (ES (E:=aw) (pp:=rI) rfl)];omega) λb1=>?_;rw [H4 (by rw [BI (kk:=5) (pp:=rI) ac,BI (kk:=5) (pp:=rI) (ES (E:=aw) (pp:=rI) rfl)])] at b1 ⊢;refine JL.done (JS.drop 1 b1 V λb2=>?_);obtain rfl:=oi c3;refine JL.ret (v:= .agg Y.toArray) V V (BE.list func55 V (vs:= [.agg Y.toArray]) ⟨⟨_,V,Ld.many (vs:=Y) GM (by rw [BI (kk:=5) (pp:=rI) ac];exact AM type82) (GQ (l:= []) 0 b2 V)⟩,trivial⟩) (EF 0 b2 V λc5=>?_);exact co (bz.Ad c4) V ⟨Y,V,V,ac⟩ c5
 ·intro c6;refine JL.block (Cw c1 (λL s al=>∃(a4:LH) (am:Lv_),Jn a2 H a4 [bX a3 (([]:Lv_)++(List.replicate 5 (iV 0):Lv_)).toArray 82,bX U (([]:Lv_)++am).toArray 82] [(2,Aj a3 0),(3,Aj U 0),(8,sV a8 p0.2 a9),(9,iV (p0.2.length:Int)),(10,iV al.2)] L s ((rA 5 rI).r a4 am al.1)) ⟨a2,(List.replicate 5 (iV 0):Lv_),V,V,AE,cy,(ES (E:=a2) (pp:=rI) V)⟩ ?_);rintro _ _ al ⟨a4,am,rfl,rfl,bb,b3,ap⟩ c7 ⟨e6,be⟩ c8;have b4:=be;unfold OQ at b4;refine C 5 V (AU b4 (λc9 dd=>?_) (λc9 dn=>?_))
  ·obtain⟨K,ea,eb⟩:=bs dd;refine C 5 V (JS.ix (ce.Ag (bz.Ad bb)) ea underlying26 Bg ?_);rintro e7 e8 _ ⟨_,_,rfl,rfl,⟨_,_,rfl,rfl,rfl⟩⟩ ec;refine B4 ec DO Bg V V (BQ b3 BP λff ed=>?_);refine BJ 2 ed Bg λee=>?_;refine Cu 2 ee V λbi aq a5 ay=>C 2 V (Fs 6 [U] ⟨⟨1,_,V⟩,trivial⟩ ay λO=>?_);refine JG.fd 0 O underlying42 Ay V V V V (JG.lp 1 O 1 a5 ay ⟨⟨1,_,V⟩,trivial⟩ A3 ?_);obtain⟨ef,b5,eg⟩:=bs eb;obtain⟨_,rfl,_,_,ej⟩:=G8 (kk:=5) (pp:=rI) (Rp.Ag _ aq ap) b5;refine AL (v:= .pointer (some ⟨U,0+Int.toNat (K.2.1)*1,none⟩)) 2 O V V (λρ h s' az=>H6 (kk:=5) (pp:=rI) (Rp.Ag _ aq ap) b5 underlying82 Ay (h _ _ V) (h _ _ V)) (AL (v:=iV ef) 3 O V V (λρ h s' az=>Yl.load A3 (h _ _ V) (My (l:= []) 1 ay V (by simp [AA]) az (ej 0 _ V))) ?_);refine JG.fd 4 O underlying42 Ay V V V V (JG.lp 5 O 2 a5 ay ⟨⟨1,_,V⟩,trivial⟩ A3 ?_);refine Dl [6,7,8] ?_;obtain⟨Z,ek,el⟩:=bs eg;refine Bq ek V V V ?_;obtain⟨fk,bn,em⟩:=bs el;obtain⟨_,rfl,_,_,fl⟩:=G8 (kk:=5) (pp:=rI) (Rp.Ag _ aq ap) bn;refine Am (v:= .pointer (some ⟨U,0+Int.toNat (K.2.1)*1,none⟩)) V (λρ h=>H6 (kk:=5) (pp:=rI) (Rp.Ag _ aq ap) bn underlying82 Ay (h _ _ V) (h _ _ V)) ?_;have a6:=MT (us:= [iV Z]) (y:=Z) (Rp.Ag _ aq ap) bn V;refine Gb (v:=iV Z) (l:= []) (ws:=am) (us:= [iV Z]) (o:=Int.toNat (K.2.1)*1) 1 V V V ay V V V Ay (by simp [Value.cells,CP]) V a6.2 λav=>?_;replace a6:=a6.1;generalize eo:Il am (Int.toNat (K.2.1)*1) [iV Z]=bo at av ⊢;have a0:(rA 5 rI).r bi bo (al.1.set (Int.toNat K.2.1) Z):=by rw [← eo];exact a6
   refine JL.done (Fs 6 [U] ⟨⟨1,_,V⟩,trivial⟩ av λO=>?_);refine JG.fd 0 O underlying42 Ay V V V V (JG.lp 1 O 0 a5 av ⟨⟨1,_,V⟩,trivial⟩ A3 ?_);obtain⟨ep,b6,er⟩:=bs em;obtain⟨_,rfl,_,_,eu⟩:=G8 (kk:=5) (pp:=rI) a0 b6;refine AL (v:= .pointer (some ⟨U,0+Int.toNat (K.1)*1,none⟩)) 2 O V V (λρ h s' az=>H6 (kk:=5) (pp:=rI) a0 b6 underlying82 Ay (h _ _ V) (h _ _ V)) (AL (v:=iV ep) 3 O V V (λρ h s' az=>Yl.load A3 (h _ _ V) (My (l:= []) 1 av V (by simp [AA]) az (eu 0 _ V))) ?_);refine JG.fd 4 O underlying42 Ay V V V V (JG.lp 5 O 2 a5 av ⟨⟨1,_,V⟩,trivial⟩ A3 ?_);refine Dl [6,7,8] ?_;obtain⟨ag,ew,ex⟩:=bs er;refine Ck ew V V V ?_;obtain⟨fm,bv,ey⟩:=bs ex;obtain⟨_,rfl,_,_,fo⟩:=G8 (kk:=5) (pp:=rI) a0 bv;refine Am (v:= .pointer (some ⟨U,0+Int.toNat (K.1)*1,none⟩)) V (λρ h=>H6 (kk:=5) (pp:=rI) a0 bv underlying82 Ay (h _ _ V) (h _ _ V)) ?_;have a7:=MT (us:= [iV ag]) (y:=ag) a0 bv V;refine Gb (v:=iV ag) (l:= []) (ws:=bo) (us:= [iV ag]) (o:=Int.toNat (K.1)*1) 1 V V V av V V V Ay (by simp [Value.cells,CP]) V a7.2 λca=>?_;replace a7:=a7.1;generalize eA:Il bo (Int.toNat (K.1)*1) [iV ag]=cc at ca ⊢;have eC:(rA 5 rI).r bi cc ((al.1.set (Int.toNat K.2.1) Z).set (Int.toNat K.1) ag):=by rw [← eA];exact a7
   obtain⟨eN,e0,e1⟩:=bs ey;refine C 3 V (Bq e0 V V V ?_);refine C 2 V ?_;obtain rfl:=oi e1;exact AB (c8 _ _ (((al.1.set (Int.toNat K.2.1) Z).set (Int.toNat K.1) ag),eN) ⟨bi,cc,V,V,(bb.Ad aq),ca,eC⟩ be) V
  ·refine JL.exit V ?_;obtain rfl:=oi dn;obtain rfl:=c7 _ be;exact AB (c6 _ _ ⟨a4,am,V,V,bb,b3,ap⟩) V
def f204(fu_:Nat)(p0:List Int)(K:Int×Int×Int):Option ((List Int)):= (ix p0 K.1).bind λU=> (Au (U+K.2.2)).bind λO=> (ix p0 K.1).bind λac=> (ix (p0.set (Int.toNat K.1) O) K.2.1).bind λY=> (Au (Y - K.2.2)).bind λZ=> (ix (p0.set (Int.toNat K.1) O) K.2.1).bind λag=> some ((p0.set (Int.toNat K.1) O).set (Int.toNat K.2.1) Z)
theorem Ie{w1:Lv_}{p0:List Int}{K:Int×Int×Int}(am:(rA 5 rI).r E w1 p0){fu_:Nat}{r:(List Int)}(a5:f204 fu_ p0 K=some r):AK J 92 [.agg w1.toArray,.agg #[iV K.1,iV K.2.1,iV K.2.2]] E [] (λw E' B'=>∃(a6:Lv_),w= .agg a6.toArray/\B'= []/\(rA 5 rI).r E' a6 r):=by
 refine Bi func92 λQ co cs H be bi=>?_;unfold f204 at a5;refine C 2 V (JS.box (v:= .agg w1.toArray) V V V be V λr3 bn=>?_);refine Dp bn λcp aw ac ay bo=>?_;refine BQ bo HY λct ap=>?_;refine C 2 V (Fs 6 [r3] ⟨⟨1,_,V⟩,trivial⟩ ap λO=>?_);refine JG.fd 0 O underlying42 Ay V V V V (JG.lp 1 O 0 ay ap ⟨⟨1,_,V⟩,trivial⟩ A3 ?_);obtain⟨bv,a7,bw⟩:=bs a5;obtain⟨_,rfl,_,_,bx⟩:=G8 (kk:=5) (pp:=rI) (Rp.Ag _ ac am) a7;refine AL (v:= .pointer (some ⟨r3,0+Int.toNat (K.1)*1,none⟩)) 2 O V V (λρ h s' aq=>H6 (kk:=5) (pp:=rI) (Rp.Ag _ ac am) a7 underlying82 Ay (h _ _ V) (h _ _ V)) (AL (v:=iV bv) 3 O V V (λρ h s' aq=>Yl.load A3 (h _ _ V) (My (l:= []) 1 ap V (by simp [AA]) aq (bx 0 _ V))) ?_);refine JG.fd 4 O underlying42 Ay V V V V (JG.lp 5 O 2 ay ap ⟨⟨1,_,V⟩,trivial⟩ A3 ?_);refine Dl [6,7,8] ?_;obtain⟨Y,bz,b0⟩:=bs bw;refine Bq bz V V V ?_;obtain⟨cw,a1,b1⟩:=bs b0;obtain⟨_,rfl,_,_,cy⟩:=G8 (kk:=5) (pp:=rI) (Rp.Ag _ ac am) a1;refine Am (v:= .pointer (some ⟨r3,0+Int.toNat (K.1)*1,none⟩)) V (λρ h=>H6 (kk:=5) (pp:=rI) (Rp.Ag _ ac am) a1 underlying82 Ay (h _ _ V) (h _ _ V)) ?_;have az:=MT (us:= [iV Y]) (y:=Y) (Rp.Ag _ ac am) a1 V;refine Gb (v:=iV Y) (l:= []) (ws:=w1) (us:= [iV Y]) (o:=Int.toNat (K.1)*1) 1 V V V ap V V V Ay (by simp [Value.cells,CP]) V az.2 λag=>?_;replace az:=az.1;generalize b2:Il w1 (Int.toNat (K.1)*1) [iV Y]=a2 at ag ⊢;have av:(rA 5 rI).r aw a2 (p0.set (Int.toNat K.1) Y):=by rw [← b2];exact az
 refine C 2 V (Fs 6 [r3] ⟨⟨1,_,V⟩,trivial⟩ ag λO=>?_);refine JG.fd 0 O underlying42 Ay V V V V (JG.lp 1 O 1 ay ag ⟨⟨1,_,V⟩,trivial⟩ A3 ?_);obtain⟨b3,a8,b4⟩:=bs b1;obtain⟨_,rfl,_,_,b5⟩:=G8 (kk:=5) (pp:=rI) av a8;refine AL (v:= .pointer (some ⟨r3,0+Int.toNat (K.2.1)*1,none⟩)) 2 O V V (λρ h s' aq=>H6 (kk:=5) (pp:=rI) av a8 underlying82 Ay (h _ _ V) (h _ _ V)) (AL (v:=iV b3) 3 O V V (λρ h s' aq=>Yl.load A3 (h _ _ V) (My (l:= []) 1 ag V (by simp [AA]) aq (b5 0 _ V))) ?_);refine JG.fd 4 O underlying42 Ay V V V V (JG.lp 5 O 2 ay ag ⟨⟨1,_,V⟩,trivial⟩ A3 ?_);refine Dl [6,7,8] ?_;obtain⟨al,b6,ca⟩:=bs b4;refine Ck b6 V V V ?_;obtain⟨c0,a3,cc⟩:=bs ca;obtain⟨_,rfl,_,_,c1⟩:=G8 (kk:=5) (pp:=rI) av a3;refine Am (v:= .pointer (some ⟨r3,0+Int.toNat (K.2.1)*1,none⟩)) V (λρ h=>H6 (kk:=5) (pp:=rI) av a3 underlying82 Ay (h _ _ V) (h _ _ V)) ?_;have a0:=MT (us:= [iV al]) (y:=al) av a3 V;refine Gb (v:=iV al) (l:= []) (ws:=a2) (us:= [iV al]) (o:=Int.toNat (K.2.1)*1) 1 V V V ag V V V Ay (by simp [Value.cells,CP]) V a0.2 λa4=>?_;replace a0:=a0.1;generalize ce:Il a2 (Int.toNat (K.2.1)*1) [iV al]=U at a4 ⊢;have Z:(rA 5 rI).r aw U ((p0.set (Int.toNat K.1) Y).set (Int.toNat K.2.1) al):=by rw [← ce];exact a0
 refine C 3 V (Am (v:= .agg U.toArray) V (λρ h=>Gs (kk:=5) (pp:=rI) Z GM G6 (h _ _ V) (GQ (l:= []) 1 a4 V)) ?_);refine Gb (v:= .agg U.toArray) (l:= []) (ws:=(List.replicate 5 (iV 0):Lv_)) (us:=U) (o:=0) 3 V V V a4 V V V (by rw [BI (kk:=5) (pp:=rI) Z];exact AM type82) ((rA 5 rI).one Z) V (by rw [BI (kk:=5) (pp:=rI) Z,BI (kk:=5) (pp:=rI) (ES (E:=aw) (pp:=rI) rfl)];omega) λa9=>?_;rw [H4 (by rw [BI (kk:=5) (pp:=rI) Z,BI (kk:=5) (pp:=rI) (ES (E:=aw) (pp:=rI) rfl)])] at a9 ⊢;refine JL.done (JS.drop 1 a9 V λbb=>?_);obtain rfl:=oi cc;refine JL.ret (v:= .agg U.toArray) V V (BE.list func92 V (vs:= [.agg U.toArray]) ⟨⟨_,V,Ld.many (vs:=U) GM (by rw [BI (kk:=5) (pp:=rI) Z];exact AM type82) (GQ (l:= []) 3 bb V)⟩,trivial⟩) (EF 3 bb V λci=>?_);exact bi ac V ⟨U,V,V,Z⟩ ci
def f106(fu_:Nat)(p0:Int)(K:Int):Option Nat:= (Au (max p0 K - 1)).bind λO=> (ix ([1,2,4,8]:List Nat) O).bind λU=> (Au (4*(min p0 K))).bind λY=> (Q7 U Y).bind λZ=> some Z
theorem Ve{p0:Int}{K:Int}{fu_:Nat}{r:Nat}(O:f106 fu_ p0 K=some r):AK J 88 [iV p0,iV K] E [] (λw E' B'=>w= .int .u32 ((r:Nat):Int)/\B'= []):=by
 refine Bi func88 λQ ay cs H U Y=>?_;unfold f106 at O;refine C 8 V (Am (v:=iV (min p0 K)) V (λρ h=>Yl.min2 (h _ _ V) (h _ _ V)) ?_);refine C 2 V (Am (v:=iV (max p0 K)) V (λρ h=>Yl.max2 (h _ _ V) (h _ _ V)) ?_);refine C 5 V (Am (v:= .agg (([1,2,4,8]:List Nat).map λx=>Value.int .u32 ((x:Nat):Int)).toArray) V (λρ h=>aB h underlying173 (C8 type173) (AM type94) V V) ?_);obtain⟨az,Z,ac⟩:=bs O;refine C 1 V (Ck Z V V V ?_);obtain⟨a0,ag,al⟩:=bs ac;refine VA (aV (E:=E) ([1,2,4,8]:List Nat)) ag V V V V V underlying173 (AM type94) (Cm underlying94) ?_ (λ_=>V);rintro _ rfl;obtain⟨a1,am,ap⟩:=bs al;refine C 1 V (Am V (λρ h=>Og (h _ _ V) (h _ _ V) am) ?_);obtain⟨aq,av,aw⟩:=bs ap;refine Am (v:= .int .u32 ((aq:Nat):Int)) V (λρ h=>X0 (h _ _ V) (h _ _ V) av) (C 2 V ?_);obtain rfl:=oi aw;exact AS func88 V V (Y AE V ⟨V,V⟩ U)
def f136(fu_:Nat)(p0:Nat)(K:Int)(p2:Int):Option Bool:= (f106 fu_ K p2).bind λO=> (OT p0 O).bind λU=> some (decide ((((U):Nat):Int)≠(((0):Nat):Int)))
theorem Vf{p0:Nat}{K:Int}{p2:Int}{fu_:Nat}{r:Bool}(O:f136 fu_ p0 K p2=some r):AK J 90 [.int .u32 ((p0:Nat):Int),iV K,iV p2] E [] (λw E' B'=>w= .bool r/\B'= []):=by
 refine Bi func90 λQ av cs H U Y=>?_;unfold f136 at O;obtain⟨aw,Z,ac⟩:=bs O;refine C 9 V (Cs (Ve Z) V V (A1 func88 V) U λay ag al=>?_);obtain⟨am,ap,aq⟩:=bs ac;refine Am (v:= .int .u32 ((am:Nat):Int)) V (λρ h=>XZ (h _ _ V) (h _ _ V) ap) (C 3 V ?_);obtain rfl:=oi aq;exact AS func90 V V (Y ag V ⟨V,V⟩ al)
def Od(fu_:Nat)(O:(AJ)×Int)(K:(AJ)×Int):Option (Bn ((AJ)×Int) ((AJ))):= if K.2<O.2 then((room K.1 (K.2,O.2)).bind λU=> (Au (K.2+1)).bind λY=> some (.more (U,Y))) else(some (.done K.1))
def Ol(fu_:Nat)(p0:AZ)(K:(AJ)×Int):Option (Bn ((AJ)×Int) ((AJ))):= if K.2<(p0.1.length:Int) then(Option.bind (iter (Od fu_ K) fu_ (K.1,0)) λO=> (Au (K.2+1)).bind λU=> some (.more (O,U))) else(some (.done K.1))
def f133(fu_:Nat)(p0:AZ):Option ((AJ)):= Option.bind (iter (Ol fu_ p0) fu_ ([],0)) λK=> some K
theorem de{a1:An}{c2:Nat}{a8:An}{a9:Nat}{p0:AZ}(eN:Al (rL rI) E a1 c2 p0.1)(e0:Al Aw E a8 a9 p0.2){fu_:Nat}{r:(AJ)}(bb:f133 fu_ p0=some r):AK J 143 [.agg #[sV a1 p0.1 c2,sV a8 p0.2 a9]] E [] (λw E' B'=>∃(be:An) (bi:Nat),w= sV be r bi/\B'= []/\Al Ew E' be bi r):=by
 refine Bi func143 λQ e1 cs H b3 b4=>?_;unfold f133 at bb;refine C 2 V (Dp b3 λe3 a2 b5 b6 ca=>?_);refine C 9 V (JL.fd underlying78 CV V V V ?_);refine B5 0 b6 underlying28 Fo Fy ?_;refine JL.ln underlying25 V V V ?_;obtain⟨bn,cc,ce⟩:=bs bb;refine C 2 V (Bt (λL s=>∃(a3:LH) (ap:An) (aq:Nat) (a4:Seg),Jn a2 H a3 [a4] [(3,sV ap bn aq)] L s (OL 122 Ew a3 ap aq a4 bn)) ?_ ?_)
 ·rintro _ _ ⟨a3,ap,aq,a4,rfl,rfl,ci,co,cp⟩;refine C 5 V (Cj 0 cp co V λe4 ct cw cy=>?_);obtain rfl:=oi ce;exact AS func143 V V (b4 ((b5.Ad ci).Ad ct) V ⟨ap,aq,V,V,cw⟩ cy)
 ·intro c0;refine JL.block (Cw cc (λL s K=>∃(O:LH) (Y:An) (Z:Nat) (ac:Seg),Jn a2 H O [ac] [(3,sV Y K.1 Z),(9,iV (p0.1.length:Int)),(10,iV K.2)] L s (OL 122 Ew O Y Z ac K.1)) ⟨a2,none,0,[],V,V,AE,ca,OL.nil⟩ ?_);rintro _ _ K ⟨O,Y,Z,ac,rfl,rfl,bo,bv,bw⟩ c1 ⟨e5,a5⟩ c3;have bx:=a5;unfold Ol at bx;refine C 5 V (AU bx (λc4 c5=>?_) (λc4 c6=>?_))
  ·obtain⟨a6,c7,c8⟩:=bs c5;refine C 13 V (Bt (λL s=>∃(av:LH) (aw:An) (ay:Nat) (az:Seg),Jn O H av [az] [(3,sV aw a6 ay),(9,iV (p0.1.length:Int)),(10,iV K.2)] L s (OL 122 Ew av aw ay az a6)) ?_ ?_)
   ·rintro _ _ ⟨av,aw,ay,az,rfl,rfl,c9,dd,dn⟩;obtain⟨ea,eb,ec⟩:=bs c8;refine C 2 V (Bq eb V V V ?_);refine C 2 V ?_;obtain rfl:=oi ec;exact AB (c3 _ _ (a6,ea) ⟨av,aw,ay,az,V,V,(bo.Ad c9),dd,dn⟩ a5) V
   ·intro ed;refine JL.block (Cw c7 (λL s U=>∃(ag:LH) (al:An) (am:Nat) (a0:Seg),Jn O H ag [a0] [(3,sV al U.1 am),(4,iV K.2),(9,iV (p0.1.length:Int)),(10,iV K.2),(13,iV K.2),(14,iV U.2)] L s (OL 122 Ew ag al am a0 U.1)) ⟨O,Y,Z,ac,V,V,AE,bv,bw⟩ ?_);rintro _ _ U ⟨ag,al,am,a0,rfl,rfl,bz,b0,b1⟩ ee ⟨e6,a7⟩ ef;have b2:=a7;unfold Od at b2;refine C 5 V (AU b2 (λeg ej=>?_) (λeg ek=>?_))
    ·refine C 12 V (Am (v:= .agg #[iV U.2,iV K.2]) V (λρ h=>CZ [(0,1),(1,1)] h Jz underlying122 ⟨V,AM type3,V,AM type3,trivial⟩ V V) ?_);obtain⟨el,em,eo⟩:=bs ej;refine JS.app (pp:=Ew) (v:= .agg #[iV U.2,iV K.2]) (a:=al) (c:=am) 0 em V V V V (λ_=>V) V (λ_=>V) V V V underlying205 underlying205 underlying205 F9 (Dv type122) Jz V (by decide) (by decide) (by decide) (by decide) b1 ⟨_,_,V,V,V⟩ b0 V λe7 ep er eu ew ex=>?_;obtain⟨ey,eA,eC⟩:=bs eo;refine C 4 V (Bq eA V V V ?_);refine C 2 V ?_;obtain rfl:=oi eC;exact AB (ef _ _ (el,ey) ⟨ag,ep,er,eu,V,V,bz,ex,ew⟩ a7) V
    ·refine JL.exit V ?_;obtain rfl:=oi ek;obtain rfl:=ee _ a7;exact AB (ed _ _ ⟨ag,al,am,a0,V,V,bz,b0,b1⟩) V
  ·refine JL.exit V ?_;obtain rfl:=oi c6;obtain rfl:=c1 _ a5;exact AB (c0 _ _ ⟨O,Y,Z,ac,V,V,bo,bv,bw⟩) V
def f113(fu_:Nat)(p0:Int×Int×Int)(K:Int×Int×Int):Option Int:= if p0.1≠K.1 then((Au (p0.1 - K.1)).bind λO=> some O) else(if p0.2.1≠K.2.1 then((Au (p0.2.1 - K.2.1)).bind λU=> some U) else((Au (p0.2.2 - K.2.2)).bind λY=> some Y))
theorem U4{p0:Int×Int×Int}{Y:Int×Int×Int}{fu_:Nat}{r:Int}(al:f113 fu_ p0 Y=some r):AK J 105 [.agg #[iV p0.1,iV p0.2.1,iV p0.2.2],.agg #[iV Y.1,iV Y.2.1,iV Y.2.2]] E [] (λw E' B'=>w=iV r/\B'= []):=by
 refine Bi func105 λQ a7 cs H am Z=>?_;unfold f113 at al;refine C 2 V (Dp am λr2 a8 ac O ap=>?_);refine Dp ap λa9 bb K U ag=>?_;refine C 6 V (B5 0 (O.Ag K) underlying42 Ay A3 ?_);refine B5 0 U underlying42 Ay A3 ?_;refine C 3 V (AU al (λaq av=>?_) (λaq aw=>?_))
 ·refine C 2 V (B5 0 (O.Ag K) underlying42 Ay A3 ?_);refine B5 0 U underlying42 Ay A3 ?_;obtain⟨be,ay,az⟩:=bs av;refine Ck ay V V V (C 2 V ?_);obtain rfl:=oi az;exact AS func105 V V (Z (ac.Ad K) V ⟨V,V⟩ ag)
 ·refine C 2 V (B5 1 (O.Ag K) underlying42 Ay A3 ?_);refine B5 1 U underlying42 Ay A3 ?_;refine C 3 V (AU aw (λa0 a1=>?_) (λa0 a2=>?_))
  ·refine C 2 V (B5 1 (O.Ag K) underlying42 Ay A3 ?_);refine B5 1 U underlying42 Ay A3 ?_;obtain⟨bi,a3,a4⟩:=bs a1;refine Ck a3 V V V (C 2 V ?_);obtain rfl:=oi a4;exact AS func105 V V (Z (ac.Ad K) V ⟨V,V⟩ ag)
  ·refine C 4 V (B5 2 (O.Ag K) underlying42 Ay A3 ?_);refine B5 2 U underlying42 Ay A3 ?_;obtain⟨bn,a5,a6⟩:=bs a2;refine Ck a5 V V V (C 2 V ?_);obtain rfl:=oi a6;exact AS func105 V V (Z (ac.Ad K) V ⟨V,V⟩ ag)
def OP(fu_:Nat)(p0:List Int)(K:Int×Int):Option (Bn (Int×Int) Int):= if K.2<(p0.length:Int) then((ix p0 K.2).bind λO=> (Au (K.1+O)).bind λU=> (Au (K.2+1)).bind λY=> some (.more (U,Y))) else(some (.done K.1))
def f85(fu_:Nat)(p0:List Int):Option Int:= Option.bind (iter (OP fu_ p0) fu_ (0,0)) λK=> some K
theorem Ij{a1:An}{c2:Nat}{p0:List Int}(ag:Al rI E a1 c2 p0){fu_:Nat}{r:Int}(Y:f85 fu_ p0=some r):AK J 60 [sV a1 p0 c2] E [] (λw E' B'=>w=iV r/\B'= []):=by
 refine Bi func60 λQ bv cs H al am=>?_;unfold f85 at Y;refine C 12 V (JL.ln underlying22 V V V ?_);obtain⟨ap,aq,av⟩:=bs Y;refine C 2 V (EU [] [(3,iV ap)] (λbw aw ay=>?_) (λaz=>?_))
 ·refine C 5 V ?_;obtain rfl:=oi av;exact AS func60 V V (am aw V ⟨V,V⟩ ay)
 ·refine JL.block (Ee aq (λK=> []) (λK=> [(3,iV K.1),(6,sV a1 p0 c2),(7,iV (p0.length:Int)),(8,iV K.2)]) AE al ?_);rintro K bx O Z a0 ⟨bz,U⟩ a2;have ac:=U;unfold OP at ac;refine C 5 V (AU ac (λa3 a4=>?_) (λa3 a5=>?_))
  ·obtain⟨b0,a6,a7⟩:=bs a4;refine C 5 V (JS.ix (ag.Ag O) a6 underlying22 Ay ?_);rintro b1 b2 _ rfl a8;refine Cy 0 a8 A3 V V V ?_;obtain⟨a9,bb,be⟩:=bs a7;refine C 5 V (Bq bb V V V ?_);obtain⟨bi,bn,bo⟩:=bs be;refine C 4 V (Bq bn V V V ?_);refine C 2 V ?_;obtain rfl:=oi bo;exact a2 (a9,bi) O Z V U
  ·refine JL.exit V ?_;obtain rfl:=oi a5;obtain rfl:=a0 _ U;exact az O Z V
end Pal
namespace Pal
open Go Go.Conc
variable {P:Program}{Q:Gs_}{n:Nat}{ds:Ld_}{ops:Ao_}{k:Li_}{cs:Lf_}{L:Env}{E H:LH}{S:List Seg}
variable {d:Option Tmp}{w:Operand}{t u ty:TypeId}{p:String}{af:Ae_}{g:On_}{rest:List Nat}{s:St}{ρ:Operand->Value}
section
variable {J:Judge P}{b:Frame}
variable {x y:Operand}{e:TypeId}{i:Nat}
theorem Al.gQ{α:Type}{pp:Rp α}{kk bk o:Nat}{ws:Lv_}{xs ys:List α}{hi:Int}(U:At E bk o ws)(O:(rA kk pp).r E ws xs)(hC:HL xs 0 hi=some ys):Al pp E (some ⟨bk,o,none⟩) kk ys:=by
 have ag:=O.1;unfold HL at hC;split at hC
 ·rename_i hb;cases hC;refine⟨by simp;omega,.inr ⟨bk,o,V,λq z K=>?_⟩⟩;simp only [Int.toNat_zero,List.drop_zero,List.getElem?_take] at K;split at K
  ·have Y:ix xs (q:Int)=some z:=by unfold ix;rw [if_pos (by omega)];simpa using K
   obtain⟨us,Z,ac,_,_⟩:=VX O U Y;exact⟨us,Z,by simpa using ac⟩
  ·cases K
 ·cases hC
theorem ae{α:Type}{pp:Rp α}{kk bk o:Nat}{ws:Lv_}{xs ys:List α}{hi:Int}(U:At E bk o ws)(K:(rA kk pp).r E ws xs)(hC:HL xs 0 hi=some ys)
  (Y:ops[i]? =some ⟨d,.slice t x none (some w) none,ty,p,af,g⟩) (hw:AP L ops ⟨d,.slice t x none (some w) none,ty,p,af,g⟩=some true) (Z:BS b n ⟨d,.slice t x none (some w) none,ty,p,af,g⟩=true)
  (ac:ev L x=some (.pointer (some ⟨bk,o,none⟩))) (ag:ev L w=some (iV hi)) (al:P.underlying t=some (.array kk e)) (am:Bo P e=some pp.n)
  (h:Al pp E (some ⟨bk,o,none⟩) kk ys->JL J Q b n (Av L d (.slice (some ⟨bk,o,none⟩) ys.length kk)) ds (.inRegion ops rest::k) cs s):
  JL J Q b n L ds (.inRegion ops (i::rest)::k) cs s:=by
 have ap:=Al.gQ U K hC;have aw:=K.1;refine A7 Y hw Z (λρ O=>?_) (h ap);refine Fz (sm:=Instr.sliceAt t (ρ x) none (some (ρ w)) none) V ?_;rw [O _ _ ac,O _ _ ag];unfold HL at hC;split at hC
 ·rename_i hb;cases hC;obtain⟨ay,az,a0⟩:=hb;unfold Instr.sliceAt;refine As _ _ (Cq al ?_);simp only [Instr.sureAddr,bind,Sem.bind,pure];have aq:Instr.sliceBounds false kk kk none (some (iV hi)) none=(pure (0,hi.toNat,kk):Sem _):=by
   simp only [Instr.sliceBounds,Instr.sliceBound,asIntOf,bind,Sem.bind,pure];rw [if_pos (by omega)];rfl
  rw [aq];simp only [pure,Sem.bind];refine As (x:=Go.sizeOf e) _ (Fe am ?_);have av:(if kk=0 then(⟨bk,o,none⟩:Addr) else Addr.add ⟨bk,o,none⟩ (0*pp.n))=⟨bk,o,none⟩:=by
   split
   ·rfl
   ·rw [Ed rfl];simp
  rw [av];have e2:((xs.take hi.toNat).drop (0:Int).toNat).length=hi.toNat - 0:=by simp;omega
  rw [e2];exact⟨V,V⟩
 ·cases hC
theorem XY{a:Option Addr}{l c:Nat}(K:P.underlying t=some (.slice e))(O:ρ x= .slice a l c)(U:ρ (.const (.slice none 0 0))= .slice none 0 0):Yl P ⟨d,.binOp .neq t x (.const (.slice none 0 0)) u,ty,p,af,g⟩ ρ s (.bool (!a.isNone)):=by
 have Y:∀o,eqGuard o t x (.const (.slice none 0 0)) (.slice a l c) (.slice none 0 0)=Sem.pure ():=λo=>by cases o <;> rfl
 refine Fz (sm:=do eqGuard .neq t x (.const (.slice none 0 0)) (ρ x) (ρ (.const (.slice none 0 0)));binOp .neq t (ρ x) (ρ (.const (.slice none 0 0)))) V ?_
 rw [O,U,Y];simp only [bind,Sem.bind];have hb:binOp .neq t (.slice a l c) (.slice none 0 0)=(do pure (.bool (!(← Op.equal t (.slice a l c) (.slice none 0 0))))):=V
 rw [hb];refine As (x:=Op.equal t _ _) _ ?_;unfold Op.equal Op.maxDepth Op.equalIn;refine As _ _ (Cq K ?_);cases a with
 | none=>exact⟨rfl,rfl⟩
 | some ad=>exact⟨rfl,rfl⟩
end
open Go.Proofs Go.Proofs.Tryz
variable {J:Judge Tryz.prog}
def Vv(fu_:Nat)(p0:AZ)(O:List Int)(K:Int):Option (Bn Int ((AZ×Int)⊕(Unit))):= if K<(O.length:Int) then((ix O K).bind λU=> (Au ((p0.1.length:Int) - 1)).bind λY=> (f91 fu_ U 0 Y).bind λZ=> if(!Z)=true then(some (.done (Sum.inl (([],[]),3)))) else((Au (K+1)).bind λac=> some (.more ac))) else(some (.done (Sum.inr ())))
def f70(fu_:Nat)(p0:AZ)(K:List Int):Option (AZ×Int):= (f47 fu_ p0).bind λO=> if O≠0 then(some (([],[]),O)) else(Option.bind (iter (Vv fu_ p0 K) fu_ 0) λU=> Sum.elim (λr=>some r) (λag=> Option.bind (if(K.length:Int)=2 then((ix K (0)).bind λY=> (ix K (1)).bind λZ=> some (decide (Y=Z))) else(some false)) λac=> if ac=true then(some (([],[]),8)) else(some (p0,0))) U)
theorem Kx{a1:An}{c2:Nat}{Z:An}{ac:Nat}{am:An}{ap:Nat}{p0:AZ}{Y:List Int}(a5:Al (rL rI) E a1 c2 p0.1)(a6:Al Aw E Z ac p0.2)(ay:Al rI E am ap Y){fu_:Nat}{r:AZ×Int}(a7:f70 fu_ p0 Y=some r):AK J 54 [.agg #[sV a1 p0.1 c2,sV Z p0.2 ac],sV am Y ap] E [] (λw E' B'=>∃(a8:An) (a9:Nat) (bb:An) (be:Nat),w= .tuple #[.agg #[sV a8 r.1.1 a9,sV bb r.1.2 be],iV r.2]/\B'= []/\Al (rL rI) E' a8 a9 r.1.1/\Al Aw E' bb be r.1.2):=by
 refine Bi func54 λQ fo cs H ci av=>?_;unfold f70 at a7;refine C 2 V (Dp ci λaz fs K a0 co=>?_);refine BQ co Hu λal cp=>?_;refine C 5 V (B4 a0 Fc CV V V ?_);obtain⟨bi,ct,cw⟩:=bs a7;refine Cs (fS (a5.Ag K) (a6.Ag K) ct) V V (A1 func41 V) cp λcy O bn=>C 7 V (AU cw (λc0 c1=>?_) (λc0 c3=>?_))
 ·refine C 2 V (Am (v:= .agg #[nS,nS]) V (λρ h=>CZ [(0,2)] h Hu underlying78 ⟨V,AM type28,trivial⟩ V V) ?_);refine C 1 V (BJ 2 bn Du λbo=>?_);refine C 2 V ?_;obtain rfl:=oi c1;refine JL.ret (v:= .tuple #[.agg #[nS,nS],iV bi]) V V (BE.list func54 V (vs:= [.agg #[nS,nS],iV bi]) ⟨⟨_,V,Ld.many (vs:= [nS,nS]) FI Du (Hw (off:=0) 2 bo V V)⟩,V,trivial⟩) (EF 2 bo V λc4=>?_);exact av (K.Ad O) V ⟨none,0,none,0,V,V,Al.nil,Al.nil⟩ c4
 ·refine C 5 V (JL.ln underlying22 V V V ?_);obtain⟨bv,c5,bw⟩:=bs c3;refine C 2 V (Bt (λL s=>∃(bx:Unit) (a2:LH),bv=Sum.inr bx/\Jm cy H a2 [bX al #[nS,nS] 78] [(1,sV am Y ap),(2,Aj az 0),(4,Aj al 0)] L s) ?_ ?_)
  ·rintro _ _ ⟨bx,a2,rfl,rfl,rfl,ag,bz⟩;have c6:=elim_inr bw;refine C 2 V (Ff 12 λU=>?_);refine Di 0 U V V (AL 1 U V V (λρ h s' fv=>Yl.len V underlying22 (h _ _ V)) ?_);refine A6 U V [2,3] V ?_;obtain⟨c7,b0,c8⟩:=bs c6;refine Gr 0 #[true,true,true,true,true,true,true,true,true,true,true,true] (λL s=>L= [(2,Aj az 0),(4,Aj al 0),(41,.bool c7)]/\s=Ak a2 H [bX al #[nS,nS] 78]) ?_ ?_
   ·rintro _ _ ⟨rfl,rfl⟩;refine AQ.fin (by decide+kernel) (Cx c8 (λc9 dd=>?_) (λc9 dn=>?_))
    ·refine C 2 V (Am (v:= .agg #[nS,nS]) V (λρ h=>CZ [(0,2)] h Hu underlying78 ⟨V,AM type28,trivial⟩ V V) ?_);refine BJ 0 bz Du λb1=>?_;refine C 2 V ?_;obtain rfl:=oi dd;refine JL.ret (v:= .tuple #[.agg #[nS,nS],iV 8]) V V (BE.list func54 V (vs:= [.agg #[nS,nS],iV 8]) ⟨⟨_,V,Ld.many (vs:= [nS,nS]) FI Du (Hw (off:=0) 0 b1 V V)⟩,V,trivial⟩) (EF 0 b1 V λea=>?_);exact av ((K.Ad O).Ad ag) V ⟨none,0,none,0,V,V,Al.nil,Al.nil⟩ ea
    ·refine C 3 V (B4 (a0.Ag (O.Ad ag)) Fc CV V V ?_);refine Am (v:= .agg #[sV a1 p0.1 c2,sV Z p0.2 ac]) V (λρ h=>CZ [(0,2)] h Hu underlying78 ⟨V,AM type28,trivial⟩ V V) (BJ 0 bz Du λb2=>?_);refine C 2 V ?_;obtain rfl:=oi dn;refine JL.ret (v:= .tuple #[.agg #[sV a1 p0.1 c2,sV Z p0.2 ac],iV 0]) V V (BE.list func54 V (vs:= [.agg #[sV a1 p0.1 c2,sV Z p0.2 ac],iV 0]) ⟨⟨_,V,Ld.many (vs:= [sV a1 p0.1 c2,sV Z p0.2 ac]) FI Du (Hw (off:=0) 0 b2 V V)⟩,V,trivial⟩) (EF 0 b2 V λeb=>?_);exact av ((K.Ad O).Ad ag) V ⟨a1,c2,Z,ac,V,V,(a5.Ag ((K.Ad O).Ad ag)),(a6.Ag ((K.Ad O).Ad ag))⟩ eb
   ·intro b3;refine GN (q:=(Y.length:Int)=2) (i:=33) V (λa3=>?_) (λa3=>?_)
    ·have ec:=ip b0 a3;refine Di 4 U V V ?_;obtain⟨fw,ed,ee⟩:=bs ec;refine Er 5 (ay.Ag ((K.Ad O).Ad ag)) ed U underlying22 Ay ?_;rintro fN gc _ rfl ef;refine Dw 6 U 0 ef A3 V V V V ?_;refine Di 7 U V V ?_;obtain⟨ge,eg,ej⟩:=bs ee;refine Er 8 (ay.Ag ((K.Ad O).Ad ag)) eg U underlying22 Ay ?_;rintro gg gh _ rfl ek;refine Dw 9 U 0 ek A3 V V V V ?_;refine A6 U V [10,11] V ?_;obtain rfl:=oi ej;refine Ec ?_ (b3 _ _ ⟨V,V⟩);exact⟨V,V,V,trivial⟩
    ·have el:=im b0 a3;refine A6 U V [4,5,6,7,8,9,10,11] V ?_;obtain rfl:=oi el;refine Ec ?_ (b3 _ _ ⟨V,V⟩);exact⟨V,V,V,trivial⟩
  ·intro em;refine JL.block (Ee c5 (λa4=> [bX al #[nS,nS] 78]) (λa4=> [(1,sV am Y ap),(2,Aj az 0),(4,Aj al 0),(15,sV am Y ap),(16,iV (Y.length:Int)),(17,iV a4)]) AE bn ?_);rintro a4 eo aq b4 b5 ⟨gl,aw⟩ ep;have b6:=aw;unfold Vv at b6;refine C 5 V (AU b6 (λer eu=>?_) (λer ew=>?_))
   ·obtain⟨gt,ex,ey⟩:=bs eu;refine C 5 V (JS.ix (ay.Ag ((K.Ad O).Ad aq)) ex underlying22 Ay ?_);rintro gE gO _ rfl eA;refine Cy 0 eA A3 V V V (C 5 V ?_);refine B5 0 (a0.Ag (O.Ad aq)) underlying28 Fo Fy ?_;refine JL.ln underlying25 V V V ?_;obtain⟨gV,eC,eN⟩:=bs ey;refine Ck eC V V V ?_;obtain⟨e0,e1,e3⟩:=bs eN;refine Cs (M3 e1) V V Mj b4 λgW ca cc=>Am (v:= .bool (!e0)) V (λρ h=>Yl.not (h _ _ V)) (JL.done ?_);refine Cx e3 (λe4 e5=>?_) (λe4 e6=>?_)
    ·refine C 2 V (Am (v:= .agg #[nS,nS]) V (λρ h=>CZ [(0,2)] h Hu underlying78 ⟨V,AM type28,trivial⟩ V V) ?_);refine BJ 0 cc Du λce=>?_;refine C 2 V ?_;obtain rfl:=oi e5;obtain rfl:=b5 _ aw;have e7:=elim_inl bw;obtain rfl:=oi e7;refine JL.ret (v:= .tuple #[.agg #[nS,nS],iV 3]) V V (BE.list func54 V (vs:= [.agg #[nS,nS],iV 3]) ⟨⟨_,V,Ld.many (vs:= [nS,nS]) FI Du (Hw (off:=0) 0 ce V V)⟩,V,trivial⟩) (EF 0 ce V λe8=>?_);exact av (((K.Ad O).Ad aq).Ad ca) V ⟨none,0,none,0,V,V,Al.nil,Al.nil⟩ e8
    ·obtain⟨ff,fk,fl⟩:=bs e6;refine C 3 V (Bq fk V V V ?_);refine C 2 V ?_;obtain rfl:=oi fl;exact ep ff (aq.Ad ca) cc V aw
   ·refine JL.exit V ?_;obtain rfl:=oi ew;have fm:bv=(Sum.inr ()):=(b5 _ aw).symm;exact AB (em _ _ ⟨(),eo,fm,V,V,aq,b4⟩) V
def Pn(fu_:Nat)(p0:List Int):Option ((List Int)):= (Ep ([]:List Int) p0).bind λK=> some K
theorem dq{ad:Addr}{c2:Nat}{p0:List Int}(Y:Al rI E (some ad) c2 p0){fu_:Nat}{r:(List Int)}(K:Pn fu_ p0=some r):AK J 56 [.slice (some ad) p0.length c2] E [] (λw E' B'=>∃(O:An) (U:Nat) (g0:Seg),w= sV O r U/\B'=g0/\OL 3 rI E' O U g0 r):=by
 refine Bi func56 λQ a0 cs H Z ac=>?_;unfold Pn at K;refine C 8 V (Am (v:= .bool false) V (λρ h=>N2 (a:=(some ad)) underlying22 (h _ _ V) (h _ _ V)) ?_);refine C 5 V (UI (pp:=rI) V V V underlying22 Ay Z λr1 g2 ag al=>?_);obtain⟨a1,am,ap⟩:=bs K;refine C 1 V (Ko (pp:=rI) 1 am V V V V V V V underlying22 underlying22 Ay (Dv type3) CH V (by decide) (by decide) ag Y al V λaq av aw ay az=>?_);refine C 2 V ?_;obtain rfl:=oi ap;exact AS func56 V V (ac AE V ⟨aq,av,aw,V,(by first | rfl | simp | (simp [Value.cells])),ay⟩ az)
def We(fu_:Nat)(p0:List Int):Option ((List Int)):= some ([])
theorem df{c2:Nat}{p0:List Int}(ac:Al rI E none c2 p0){fu_:Nat}{r:(List Int)}(K:We fu_ p0=some r):AK J 56 [sV none p0 c2] E [] (λw E' B'=>∃(O:An) (U:Nat) (g0:Seg),w= sV O r U/\B'=g0/\OL 3 rI E' O U g0 r):=by
 refine Bi func56 λQ ag cs H Y Z=>?_;unfold We at K;refine C 8 V (Am (v:= .bool true) V (λρ h=>N2 (a:=none) underlying22 (h _ _ V) (h _ _ V)) ?_);refine C 6 V ?_;obtain rfl:=oi K;exact AS func56 V V (Z AE V ⟨none,0,[],V,V,OL.nil⟩ Y)
def f87(fu_:Nat)(p0:List Int):Option (List Int):=Pn fu_ p0
theorem fD{a1:An}{c2:Nat}{p0:List Int}(O:Al rI E a1 c2 p0){fu_:Nat}{r:List Int}(K:f87 fu_ p0=some r):AK J 56 [.slice a1 p0.length c2] E [] (λw E' B'=>∃(U:An) (Y:Nat) (g0:Seg),w= .slice U r.length Y/\B'=g0/\OL 3 rI E' U Y g0 r):=by
 cases a1 with
 | some ad=>exact dq O K
 | none=>
  have Z:p0= []:=by
   rcases O.2 with h | ⟨_,_,h,_⟩
   ·exact h.1
   ·cases h
  subst Z;have ac:r= []:=by
   have ag:Pn fu_ []=some []:=V;unfold f87 at K;rw [ag] at K;exact(Option.some.inj K).symm
  subst ac;exact df (fu_:=fu_) O V
def Nb(fu_:Nat)(p0:Ax):Option (Ax):= (Ep ([]:Ax) p0).bind λK=> some K
theorem bg{ad:Addr}{c2:Nat}{p0:Ax}(Y:Al Aw E (some ad) c2 p0){fu_:Nat}{r:Ax}(K:Nb fu_ p0=some r):AK J 113 [.slice (some ad) p0.length c2] E [] (λw E' B'=>∃(O:An) (U:Nat) (g0:Seg),w= sV O r U/\B'=g0/\OL 42 Aw E' O U g0 r):=by
 refine Bi func113 λQ a0 cs H Z ac=>?_;unfold Nb at K;refine C 8 V (Am (v:= .bool false) V (λρ h=>N2 (a:=(some ad)) underlying96 (h _ _ V) (h _ _ V)) ?_);refine C 5 V (UI (pp:=Aw) V V V underlying96 Bg Z λr1 g2 ag al=>?_);obtain⟨a1,am,ap⟩:=bs K;refine C 1 V (Ko (pp:=Aw) 1 am V V V V V V V underlying96 underlying96 Bg (Dv type42) BP V (by decide) (by decide) ag Y al V λaq av aw ay az=>?_);refine C 2 V ?_;obtain rfl:=oi ap;exact AS func113 V V (ac AE V ⟨aq,av,aw,V,(by first | rfl | simp | (simp [Value.cells])),ay⟩ az)
def VL(fu_:Nat)(p0:Ax):Option (Ax):= some ([])
theorem ZU{c2:Nat}{p0:Ax}(ac:Al Aw E none c2 p0){fu_:Nat}{r:Ax}(K:VL fu_ p0=some r):AK J 113 [sV none p0 c2] E [] (λw E' B'=>∃(O:An) (U:Nat) (g0:Seg),w= sV O r U/\B'=g0/\OL 42 Aw E' O U g0 r):=by
 refine Bi func113 λQ ag cs H Y Z=>?_;unfold VL at K;refine C 8 V (Am (v:= .bool true) V (λρ h=>N2 (a:=none) underlying96 (h _ _ V) (h _ _ V)) ?_);refine C 6 V ?_;obtain rfl:=oi K;exact AS func113 V V (Z AE V ⟨none,0,[],V,V,OL.nil⟩ Y)
def f129(fu_:Nat)(p0:Ax):Option Ax:=Nb fu_ p0
theorem dM{a1:An}{c2:Nat}{p0:Ax}(O:Al Aw E a1 c2 p0){fu_:Nat}{r:Ax}(K:f129 fu_ p0=some r):AK J 113 [.slice a1 p0.length c2] E [] (λw E' B'=>∃(U:An) (Y:Nat) (g0:Seg),w= .slice U r.length Y/\B'=g0/\OL 42 Aw E' U Y g0 r):=by
 cases a1 with
 | some ad=>exact bg O K
 | none=>
  have Z:p0= []:=by
   rcases O.2 with h | ⟨_,_,h,_⟩
   ·exact h.1
   ·cases h
  subst Z;have ac:r= []:=by
   have ag:Nb fu_ []=some []:=V;unfold f129 at K;rw [ag] at K;exact(Option.some.inj K).symm
  subst ac;exact ZU (fu_:=fu_) O V
def f43(fu_:Nat)(p0:AZ):Option ((List Int)×Int):= (f70 fu_ p0 ([])).bind λK=> if K.2≠0 then(some ([],K.2)) else((f84 fu_ K.1).bind λO=> (HL O 0 (p0.1.length:Int)).bind λU=> (f87 fu_ U).bind λY=> some (Y,0))
theorem gn{a1:An}{c2:Nat}{ac:An}{ag:Nat}{p0:AZ}(a3:Al (rL rI) E a1 c2 p0.1)(a4:Al Aw E ac ag p0.2){fu_:Nat}{r:(List Int)×Int}(al:f43 fu_ p0=some r):AK J 12 [.agg #[sV a1 p0.1 c2,sV ac p0.2 ag]] E [] (λw E' B'=>∃(am:An) (ap:Nat),w= .tuple #[sV am r.1 ap,iV r.2]/\B'= []/\Al rI E' am ap r.1):=by
 refine Bi func12 λQ c3 cs H a5 aq=>?_;unfold f43 at al;refine C 2 V (Dp a5 λc4 c5 U av a6=>?_);refine C 5 V (B4 av Fc CV V V ?_);obtain⟨c6,a7,a8⟩:=bs al;refine BY (Kx (a3.Ag U) (a4.Ag U) Al.nil a7) V V J9 a6 ?_;rintro _ c7 _ Y ⟨c8,c9,dd,dn,rfl,rfl,a9,bb⟩ be;refine C 3 V (BQ be Hu λea bi=>?_);refine BJ 3 bi Du λbn=>?_;refine Cu 3 bn V λeb K bo aw=>C 8 V (AU a8 (λbv bw=>?_) (λbv bx=>?_))
 ·refine C 6 V ?_;obtain rfl:=oi bw;exact AS func12 V V (aq ((U.Ad Y).Ad K) V ⟨none,0,V,V,Al.nil⟩ aw)
 ·refine C 3 V (B4 bo FI Du V V ?_);obtain⟨ec,bz,b0⟩:=bs bx;refine BY (M5 (a9.Ag K) (bb.Ag K) bz) V V Mk aw ?_;rintro _ ay _ az ⟨Z,rfl,rfl,O⟩ b1;refine BQ b1 HY λed b2=>?_;refine Gb (v:= .agg Z.toArray) (l:= []) (ws:=(List.replicate 5 (iV 0):Lv_)) (us:=Z) (o:=0) 5 V V V b2 V V V (by rw [BI (kk:=5) (pp:=rI) O];exact AM type82) ((rA 5 rI).one O) V (by rw [BI (kk:=5) (pp:=rI) O,BI (kk:=5) (pp:=rI) (ES (E:=ay) (pp:=rI) rfl)];omega) λa0=>?_;rw [H4 (by rw [BI (kk:=5) (pp:=rI) O,BI (kk:=5) (pp:=rI) (ES (E:=ay) (pp:=rI) rfl)])] at a0 ⊢;refine C 3 V (B5 0 (av.Ag ((Y.Ad K).Ad az)) underlying28 Fo Fy ?_);refine JL.ln underlying25 V V V (Cu 5 a0 V λee a2 b3 b4=>?_);obtain⟨ef,b5,b6⟩:=bs b0;refine ae (ws:=Z) (pp:=rI) b3 (Rp.Ag _ a2 O) b5 V V V V V underlying82 Ay λca=>?_;obtain⟨eg,cc,ce⟩:=bs b6;refine BY (fD ca cc) V V (A1 func56 V) b4 ?_;rintro _ ej ek ci ⟨co,cp,_,rfl,rfl,ct⟩ cw;refine C 3 V (Cj 6 ct cw V λel cy c0 c1=>?_);obtain rfl:=oi ce;exact AS func12 V V (aq ((((((U.Ad Y).Ad K).Ad az).Ad a2).Ad ci).Ad cy) V ⟨co,cp,V,V,c0⟩ c1)
def Oj(fu_:Nat)(p0:Ax)(O:Ax)(K:Int):Option (Bn Int ((Int)⊕(Unit))):= if K<(p0.length:Int) then((ix p0 K).bind λY=> if(O.length:Int)<=K then(some (.done (Sum.inl 1))) else((ix O K).bind λZ=> (f113 fu_ Y Z).bind λU=> if U≠0 then(some (.done (Sum.inl U))) else((Au (K+1)).bind λac=> some (.more ac)))) else(some (.done (Sum.inr ())))
def f112(fu_:Nat)(p0:Ax)(K:Ax):Option Int:= Option.bind (iter (Oj fu_ p0 K) fu_ 0) λO=> Sum.elim (λr=>some r) (λU=> if(p0.length:Int)<(K.length:Int) then(some (-1)) else(some 0)) O
theorem cP{a1:An}{c2:Nat}{Y:An}{Z:Nat}{p0:Ax}{O:Ax}(bb:Al Aw E a1 c2 p0)(be:Al Aw E Y Z O){fu_:Nat}{r:Int}(ay:f112 fu_ p0 O=some r):AK J 104 [sV a1 p0 c2,sV Y O Z,(fV 105)] E [] (λw E' B'=>w=iV r/\B'= []):=by
 refine Bi func104 λQ ef cs H bi ac=>?_;unfold f112 at ay;refine C 8 V (JL.ln underlying96 V V V ?_);obtain⟨az,bn,al⟩:=bs ay;refine C 2 V (Bt (λL s=>∃(a0:Unit) (a2:LH),az=Sum.inr a0/\Jm E H a2 [] [(0,sV a1 p0 c2),(1,sV Y O Z)] L s) ?_ ?_)
 ·rintro _ _ ⟨a0,a2,rfl,rfl,rfl,a3,a4⟩;have bo:=elim_inr al;refine C 4 V (JL.ln underlying96 V V V ?_);refine C 1 V (JL.ln underlying96 V V V ?_);refine C 2 V (AU bo (λbv bw=>?_) (λbv bx=>?_))
  ·refine C 4 V ?_;obtain rfl:=oi bw;exact AS func104 V V (ac a3 V ⟨V,V⟩ a4)
  ·refine C 5 V ?_;obtain rfl:=oi bx;exact AS func104 V V (ac a3 V ⟨V,V⟩ a4)
 ·intro bz;refine JL.block (Ee bn (λam=> []) (λam=> [(0,sV a1 p0 c2),(1,sV Y O Z),(2,(fV 105)),(11,sV a1 p0 c2),(12,iV (p0.length:Int)),(13,iV am)]) AE bi ?_);rintro am b0 K a5 ap ⟨eg,U⟩ b1;have a6:=U;unfold Oj at a6;refine C 5 V (AU a6 (λb2 b3=>?_) (λb2 b4=>?_))
  ·obtain⟨aq,b5,b6⟩:=bs b3;refine C 6 V (JS.ix (bb.Ag K) b5 underlying96 Bg ?_);rintro ej ek _ ⟨_,_,rfl,rfl,⟨_,_,rfl,rfl,rfl⟩⟩ ca;refine B4 ca DO Bg V V (BQ a5 BP λel cc=>?_);refine C 1 V (BJ 0 cc Bg λce=>?_);refine Cu 0 ce V λem ag ci a7=>C 6 V (JL.ln underlying96 V V V ?_);refine C 2 V (AU b6 (λco cp=>?_) (λco ct=>?_))
   ·refine C 4 V ?_;obtain rfl:=oi cp;obtain rfl:=ap _ U;have cw:=elim_inl al;obtain rfl:=oi cw;exact AS func104 V V (ac (K.Ad ag) V ⟨V,V⟩ a7)
   ·obtain⟨av,cy,c0⟩:=bs ct;refine C 5 V (JS.ix (be.Ag (K.Ad ag)) cy underlying96 Bg ?_);rintro eo ep _ ⟨_,_,rfl,rfl,⟨_,_,rfl,rfl,rfl⟩⟩ c1;refine B4 c1 DO Bg V V (BQ a7 BP λer c3=>?_);refine BJ 1 c3 Bg λc4=>?_;refine Cu 1 c4 V λeu aw c5 c6=>C 4 V (B4 (ci.Ag aw) DO Bg V V ?_);refine B4 c5 DO Bg V V ?_;obtain⟨ew,c7,c8⟩:=bs c0;refine K1 (vs:= [.agg #[iV aq.1,iV aq.2.1,iV aq.2.2],.agg #[iV av.1,iV av.2.1,iV av.2.2]]) (U4 c7) V V V V (A1 func105 V) V c6 ?_;rintro _ ex _ a8 ⟨rfl,rfl⟩ a9;refine C 7 V (AU c8 (λc9 dd=>?_) (λc9 dn=>?_))
    ·refine C 5 V ?_;obtain rfl:=oi dd;obtain rfl:=ap _ U;have ea:=elim_inl al;obtain rfl:=oi ea;exact AS func104 V V (ac (((K.Ad ag).Ad aw).Ad a8) V ⟨V,V⟩ a9)
    ·obtain⟨eb,ec,ed⟩:=bs dn;refine C 3 V (Bq ec V V V ?_);refine C 2 V ?_;obtain rfl:=oi ed;exact b1 eb (((K.Ad ag).Ad aw).Ad a8) a9 V U
  ·refine JL.exit V ?_;obtain rfl:=oi b4;have ee:az=(Sum.inr ()):=(ap _ U).symm;exact AB (bz _ _ ⟨(),b0,ee,V,V,K,a5⟩) V
def f74(fu_:Nat)(p0:Ax)(K:Ax):Option Int:= (f112 fu_ p0 K).bind λO=> some O
theorem IQ{a1:An}{c2:Nat}{O:An}{U:Nat}{p0:Ax}{K:Ax}(Z:Al Aw E a1 c2 p0)(ac:Al Aw E O U K){fu_:Nat}{r:Int}(Y:f74 fu_ p0 K=some r):AK J 64 [sV a1 p0 c2,sV O K U] E [] (λw E' B'=>w=iV r/\B'= []):=by
 refine Bi func64 λQ aw cs H ag al=>?_;unfold f74 at Y;obtain⟨ay,am,ap⟩:=bs Y;refine C 8 V (Cs (cP Z ac am) V V (A1 func104 V) ag λaz aq av=>?_);refine C 2 V ?_;obtain rfl:=oi ap;exact AS func64 V V (al aq V ⟨V,V⟩ av)
def f73(fu_:Nat)(p0:Ax)(K:Ax):Option Bool:= (f74 fu_ p0 K).bind λO=> some (decide (O<0))
theorem fz{a1:An}{c2:Nat}{O:An}{U:Nat}{p0:Ax}{K:Ax}(Z:Al Aw E a1 c2 p0)(ac:Al Aw E O U K){fu_:Nat}{r:Bool}(Y:f73 fu_ p0 K=some r):AK J 78 [sV a1 p0 c2,sV O K U] E [] (λw E' B'=>w= .bool r/\B'= []):=by
 refine Bi func78 λQ aw cs H ag al=>?_;unfold f73 at Y;obtain⟨ay,am,ap⟩:=bs Y;refine C 8 V (Cs (IQ Z ac am) V V Ix ag λaz aq av=>?_);refine C 3 V ?_;obtain rfl:=oi ap;exact AS func78 V V (al aq V ⟨V,V⟩ av)
def f72(fu_:Nat)(p0:Ax×Bool)(K:Ax):Option ((Ax×Bool)):= Option.bind (if(!p0.2)=true then(some true) else((f73 fu_ K p0.1).bind λO=> some O)) λU=> Option.bind (if U=true then(some (K,true)) else(some p0)) λY=> some Y
theorem fX{bk:Nat}{a1:An}{c2:Nat}{K:An}{O:Nat}{p0:Ax×Bool}{U:Ax}(aq:Al Aw E a1 c2 p0.1)(av:Al Aw E K O U){fu_:Nat}{r:(Ax×Bool)}(aw:f72 fu_ p0 U=some r):AK J 77 [Aj bk 0,sV K U O,(fV 78)] E [(bk,.cells #[sV a1 p0.1 c2,.bool p0.2] 112 (0,0))] (λw E' B'=>∃(ay:An) (az:Nat),w= .tuple #[]/\B'= [(bk,.cells #[sV ay r.1 az,.bool r.2] 112 (0,0))]/\Al Aw E' ay az r.1):=by
 refine Bi func77 λQ ca cs H Z a4=>?_;unfold f72 at aw;refine C 4 V (JL.fd underlying112 Kd V V V ?_);refine Am (v:= .bool p0.2) V (λρ h=>Yl.load NF (h _ _ V) (BV (j:=0) (off:=1) Z V V)) (Am (v:= .bool (!p0.2)) V (λρ h=>Yl.not (h _ _ V)) ?_);obtain⟨a5,a6,a7⟩:=bs aw;refine C 1 V (Hx [] (λL s=>∃(Y:LH),Jm E H Y [bX bk #[sV a1 p0.1 c2,.bool p0.2] 112] [(0,Aj bk 0),(1,sV K U O),(19,.bool a5)] L s) ?_ ?_)
 ·rintro _ _ ⟨Y,rfl,rfl,al,a0⟩;obtain⟨am,a8,a9⟩:=bs a7;refine JL.done (Bt (λL s=>∃(ap:LH) (ac:An) (ag:Nat),Jn Y H ap [bX bk #[sV ac am.1 ag,.bool am.2] 112] [] L s (Al Aw ap ac ag am.1)) ?_ ?_)
  ·rintro _ _ ⟨ap,ac,ag,rfl,rfl,bb,be,bi⟩;obtain rfl:=oi a9;exact JL.fin (v:= .tuple #[]) V V (BE.list func77 V (vs:= []) trivial) (a4 (al.Ad bb) V ⟨ac,ag,V,V,bi⟩ be)
  ·intro a2;refine Cx a8 (λbn bo=>?_) (λbn bv=>?_)
   ·refine C 5 V (JL.fd underlying112 Bl V V V ?_);refine BJ 0 a0 Bl λbw=>?_;refine C 1 V (JL.fd underlying112 Kd V V V ?_);refine BJ 0 bw Kd λbx=>?_;refine JL.done ?_;obtain rfl:=oi bo;exact AB (a2 _ _ ⟨Y,K,O,V,V,AE,bx,(av.Ag al)⟩) V
   ·refine JL.skip ?_;obtain rfl:=oi bv;exact AB (a2 _ _ ⟨Y,a1,c2,V,V,AE,a0,(aq.Ag al)⟩) V
 ·intro a3;refine EA 11 a6 (λbz b0=>?_) (λbz b1=>?_)
  ·refine C 8 V ?_;obtain rfl:=oi b0;exact AB (a3 _ _ ⟨E,V,V,AE,Z⟩) V
  ·refine C 4 V (JL.fd underlying112 Bl V V V ?_);refine Am (v:= sV a1 p0.1 c2) V (λρ h=>Yl.load BH (h _ _ V) (BV (j:=0) (off:=0) Z V V)) ?_;obtain⟨cc,b2,b3⟩:=bs b1;refine K1 (vs:= [sV K U O,sV a1 p0.1 c2]) (fz av aq b2) V V V V (A1 func78 V) V Z ?_;rintro _ b4 _ b5 ⟨rfl,rfl⟩ b6;refine C 1 V ?_;obtain rfl:=oi b3;exact AB (a3 _ _ ⟨b4,V,V,b5,b6⟩) V
variable {J:Judge Tryz.prog}
def Uw(fu_:Nat)(O:List Int)(K:(AJ)×Int):Option (Bn ((AJ)×Int) ((AJ))):= if K.2<(O.length:Int) then((ix O K.2).bind λU=> (Au (((BL K.1 U).getD 0)+1)).bind λY=> (Au (K.2+1)).bind λZ=> some (.more ((Dz K.1 U Y),Z))) else(some (.done K.1))
def T3(fu_:Nat)(p0:AZ)(K:(List AJ)×Int):Option (Bn ((List AJ)×Int) ((List AJ))):= if K.2<(p0.1.length:Int) then((ix p0.1 K.2).bind λO=> Option.bind (iter (Uw fu_ O) fu_ (([]:AJ),0)) λU=> (room K.1 U).bind λY=> (Au (K.2+1)).bind λZ=> some (.more (Y,Z))) else(some (.done K.1))
def f120(fu_:Nat)(p0:AZ):Option ((List AJ)):= Option.bind (iter (T3 fu_ p0) fu_ ([],0)) λK=> some K
theorem eK{a1:An}{c2:Nat}{bb:An}{be:Nat}{p0:AZ}(ca:Al (rL rI) E a1 c2 p0.1)(gh:Al Aw E bb be p0.2){fu_:Nat}{r:(List AJ)}(bi:f120 fu_ p0=some r):AK J 97 [.agg #[sV a1 p0.1 c2,sV bb p0.2 be]] E [] (λw E' B'=>∃(bn:An) (bo:Nat),w= sV bn r bo/\B'= []/\Al (rM rI false rI false) E' bn bo r):=by
 refine Bi func97 λQ gl cs H cc ce=>?_;unfold f120 at bi;refine C 2 V (Dp cc λgt ay bv ci co=>?_);refine C 9 V (JL.fd underlying78 CV V V V ?_);refine B5 0 ci underlying28 Fo Fy ?_;refine JL.ln underlying25 V V V ?_;obtain⟨bw,cp,ct⟩:=bs bi;refine C 2 V (Bt (λL s=>∃(az:LH) (am:An) (ap:Nat) (a0:Seg),Jn ay H az [a0] [(3,sV am bw ap)] L s (OL 199 (rM rI false rI false) az am ap a0 bw)) ?_ ?_)
 ·rintro _ _ ⟨az,am,ap,a0,rfl,rfl,cw,cy,c0⟩;refine C 5 V (Cj 0 c0 cy V λgE c1 c3 c4=>?_);obtain rfl:=oi ct;exact AS func97 V V (ce ((bv.Ad cw).Ad c1) V ⟨am,ap,V,V,c3⟩ c4)
 ·intro c5;refine JL.block (Cw cp (λL s K=>∃(O:LH) (U:An) (Y:Nat) (ac:Seg),Jn ay H O [ac] [(3,sV U K.1 Y),(11,sV a1 p0.1 c2),(12,iV (p0.1.length:Int)),(13,iV K.2)] L s (OL 199 (rM rI false rI false) O U Y ac K.1)) ⟨ay,none,0,[],V,V,AE,co,OL.nil⟩ ?_);rintro _ _ K ⟨O,U,Y,ac,rfl,rfl,a2,bx,bz⟩ c6 ⟨gO,a3⟩ c7;have b0:=a3;unfold T3 at b0;refine C 5 V (AU b0 (λc8 c9=>?_) (λc8 dd=>?_))
  ·obtain⟨b1,dn,ea⟩:=bs c9;refine C 5 V (JS.ix (ca.Ag (bv.Ad a2)) dn underlying25 FU ?_);rintro gV gW _ ⟨eb,ec,rfl,ed⟩ ee;refine Cy 0 ee Jy V V V (C 4 V ?_);refine JS.makeMap V V V bx λag ef=>C 6 V (JL.ln underlying22 V V V ?_);obtain⟨b2,eg,ej⟩:=bs ea;refine C 2 V (Bt (λL s=>∃(a4:LH) (aq:Obj),Jn O H a4 [ac,[(ag,aq)]] [(3,sV U K.1 Y),(6,.map (some ag)),(11,sV a1 p0.1 c2),(12,iV (p0.1.length:Int)),(13,iV K.2)] L s (BK rI false rI false a4 aq b2)) ?_ ?_)
   ·rintro _ _ ⟨a4,aq,rfl,rfl,b3,ek,el⟩;refine C 3 V (P2 1 ek V λb4 a5 em eo=>?_);have ep:BK rI false rI false b4 aq b2:=(el.Ag a5);obtain⟨er,eu,ew⟩:=bs ej;refine JS.app (pp:=(rM rI false rI false)) (v:= .map (some ag)) (a:=U) (c:=Y) 0 eu V V V V (λ_=>V) V (λ_=>V) V V V underlying152 underlying152 underlying152 HZ (Dv type199) (C8 type199) V (by decide) (by decide) (by decide) (by decide) (bz.Ag (b3.Ad a5)) ⟨_,_,V,em,ep⟩ eo V λgX ex ey eA eC eN=>?_;obtain⟨e0,e1,e3⟩:=bs ew;refine C 4 V (Bq e1 V V V ?_);refine C 2 V ?_;obtain rfl:=oi e3;exact AB (c7 _ _ (er,e0) ⟨b4,ex,ey,eA,V,V,((a2.Ad b3).Ad a5),eN,eC⟩ a3) V
   ·intro e4;refine JL.block (Cw eg (λL s Z=>∃(al:LH) (av:Obj),Jn O H al [ac,[(ag,av)]] [(3,sV U K.1 Y),(6,.map (some ag)),(11,sV a1 p0.1 c2),(12,iV (p0.1.length:Int)),(13,iV K.2),(18,sV eb b1 ec),(19,iV (b1.length:Int)),(20,iV Z.2)] L s (BK rI false rI false al av Z.1)) ⟨O,(.map #[] 0),V,V,AE,ef,BK.nil⟩ ?_);rintro _ _ Z ⟨al,av,rfl,rfl,a6,a7,a8⟩ e5 ⟨gY,a9⟩ e6;have b5:=a9;unfold Uw at b5;refine C 5 V (AU b5 (λe7 e8=>?_) (λe7 ff=>?_))
    ·obtain⟨aw,fk,fl⟩:=bs e8;refine C 5 V (JS.ix (ed.Ag a6) fk underlying22 Ay ?_);rintro gZ g0 _ rfl fm;refine Cy 0 fm A3 V V V (C 5 V ?_);refine Am (v:=iV ((BL Z.1 aw).getD 0)) V (λρ h=>Yl.lookup (ok:=false) (xs:=Z.1) (x0:=aw) (z0:=0) Jl underlying199 CH ⟨_,V,V⟩ a8 ⟨_,V,V⟩ (by rintro _ ⟨_,rfl,rfl⟩;rfl) (h _ _ V) (h _ _ V) (DD (j:=1) (i:=0) a7 V V)) ?_;obtain⟨b6,fo,fs⟩:=bs fl;refine Bq fo V V V (JS.mapUpdate (xs:=Z.1) (x0:=aw) (v0:=b6) 1 Jl underlying199 a8 ⟨_,V,V⟩ ⟨_,V,V⟩ a7 V V V V V V V λfv fw fN=>?_);obtain⟨gc,ge,gg⟩:=bs fs;refine C 3 V (Bq ge V V V ?_);refine C 2 V ?_;obtain rfl:=oi gg;exact AB (e6 _ _ ((Dz Z.1 aw b6),gc) ⟨al,fv,V,V,a6,fN,fw⟩ a9) V
    ·refine JL.exit V ?_;obtain rfl:=oi ff;obtain rfl:=e5 _ a9;exact AB (e4 _ _ ⟨al,av,V,V,a6,a7,a8⟩) V
  ·refine JL.exit V ?_;obtain rfl:=oi dd;obtain rfl:=c6 _ a3;exact AB (c5 _ _ ⟨O,U,Y,ac,V,V,a2,bx,bz⟩) V
def U5(fu_:Nat)(p0:AZ)(O:(List Int))(K:(List Int)×Int):Option (Bn ((List Int)×Int) ((List Int))):= if K.2<5 then((ix O K.2).bind λU=> Option.bind (if K.2<(p0.1.length:Int) then((ix p0.1 K.2).bind λY=> (f85 fu_ Y).bind λZ=> (Au (-(U))).bind λac=> some (decide (Z<ac))) else(some false)) λag=> Option.bind (if ag=true then((room K.1 K.2).bind λal=> some al) else(some K.1)) λam=> (Au (K.2+1)).bind λap=> some (.more (am,ap))) else(some (.done K.1))
def f39(fu_:Nat)(p0:AZ):Option ((List Int)×Int):= (f70 fu_ p0 ([])).bind λK=> if K.2≠0 then(some ([],K.2)) else((f84 fu_ K.1).bind λO=> Option.bind (iter (U5 fu_ p0 O) fu_ ([],0)) λU=> some (U,0))
theorem fL{a1:An}{c2:Nat}{bo:An}{bv:Nat}{p0:AZ}(bw:Al (rL rI) E a1 c2 p0.1)(cc:Al Aw E bo bv p0.2){fu_:Nat}{r:(List Int)×Int}(bx:f39 fu_ p0=some r):AK J 22 [.agg #[sV a1 p0.1 c2,sV bo p0.2 bv]] E [] (λw E' B'=>∃(bz:An) (b0:Nat),w= .tuple #[sV bz r.1 b0,iV r.2]/\B'= []/\Al rI E' bz b0 r.1):=by
 refine Bi func22 λQ g0 cs H ce b1=>?_;unfold f39 at bx;refine C 2 V (Dp ce λa3 g1 al a4 ci=>?_);refine C 5 V (B4 a4 Fc CV V V ?_);obtain⟨g3,co,cp⟩:=bs bx;refine BY (Kx (bw.Ag al) (cc.Ag al) Al.nil co) V V J9 ci ?_;rintro _ g4 _ am ⟨g5,g6,g7,g8,rfl,rfl,ct,cw⟩ cy;refine C 3 V (BQ cy Hu λg9 c0=>?_);refine BJ 3 c0 Du λc1=>?_;refine Cu 3 c1 V λha O c3 b2=>C 8 V (AU cp (λc4 c5=>?_) (λc4 c6=>?_))
 ·refine C 6 V ?_;obtain rfl:=oi c5;exact AS func22 V V (b1 ((al.Ad am).Ad O) V ⟨none,0,V,V,Al.nil⟩ b2)
 ·refine C 8 V (B4 c3 FI Du V V ?_);obtain⟨hb,c7,c8⟩:=bs c6;refine BY (M5 (ct.Ag O) (cw.Ag O) c7) V V Mk b2 ?_;rintro _ a5 _ aq ⟨a6,rfl,rfl,c9⟩ dd;obtain⟨b3,dn,ea⟩:=bs c8;refine C 2 V (Bt (λL s=>∃(a7:LH) (av:An) (aw:Nat) (a8:Seg),Jn a5 H a7 [a8] [(6,sV av b3 aw)] L s (OL 3 rI a7 av aw a8 b3)) ?_ ?_)
  ·rintro _ _ ⟨a7,av,aw,a8,rfl,rfl,eb,ec,ed⟩;refine C 6 V (Cj 0 ed ec V λhc ee ef eg=>?_);obtain rfl:=oi ea;exact AS func22 V V (b1 (((((al.Ad am).Ad O).Ad aq).Ad eb).Ad ee) V ⟨av,aw,V,V,ef⟩ eg)
  ·intro ej;refine JL.block (Cw dn (λL s K=>∃(Z:LH) (U:An) (Y:Nat) (ac:Seg),Jn a5 H Z [ac] [(1,Aj a3 0),(6,sV U K.1 Y),(18,.agg a6.toArray),(19,iV K.2)] L s (OL 3 rI Z U Y ac K.1)) ⟨a5,none,0,[],V,V,AE,dd,OL.nil⟩ ?_);rintro _ _ K ⟨Z,U,Y,ac,rfl,rfl,ag,a9,bb⟩ ek ⟨hd,be⟩ el;have b4:=be;unfold U5 at b4;refine C 5 V (AU b4 (λem eo=>?_) (λem ep=>?_))
   ·obtain⟨he,er,eu⟩:=bs eo;refine C 6 V (VA (Rp.Ag _ ag c9) er V V V V V underlying82 Ay A3 ?_ (λ_=>V));rintro _ rfl;refine C 6 V (B5 0 (a4.Ag (((am.Ad O).Ad aq).Ad ag)) underlying28 Fo Fy ?_);refine JL.ln underlying25 V V V ?_;obtain⟨ew,ex,ey⟩:=bs eu;refine C 2 V (Hx [] (λL s=>∃(ap:LH),Jm Z H ap [ac] [(1,Aj a3 0),(6,sV U K.1 Y),(7,iV K.2),(18,.agg a6.toArray),(19,iV K.2),(38,.bool ew)] L s) ?_ ?_)
    ·rintro _ _ ⟨ap,rfl,rfl,bi,b5⟩;obtain⟨bn,eA,eC⟩:=bs ey;refine JL.done (Bt (λL s=>∃(ay:LH) (az:An) (a0:Nat) (a2:Seg),Jn ap H ay [a2] [(1,Aj a3 0),(6,sV az bn a0),(18,.agg a6.toArray),(19,iV K.2)] L s (OL 3 rI ay az a0 a2 bn)) ?_ ?_)
     ·rintro _ _ ⟨ay,az,a0,a2,rfl,rfl,eN,e0,e1⟩;obtain⟨e3,e4,e5⟩:=bs eC;refine C 2 V (Bq e4 V V V ?_);refine C 2 V ?_;obtain rfl:=oi e5;exact AB (el _ _ (bn,e3) ⟨ay,az,a0,a2,V,V,((ag.Ad bi).Ad eN),e0,e1⟩ be) V
     ·intro b6;refine Cx eA (λe6 e7=>?_) (λe6 e8=>?_)
      ·obtain⟨hf,ff,fk⟩:=bs e7;refine C 3 V (JS.app (pp:=rI) (v:=iV K.2) (a:=U) (c:=Y) 0 ff V V V V (λ_=>V) V (λ_=>V) V V V underlying22 underlying22 underlying22 Ay (Dv type3) CH V (by decide) (by decide) (by decide) (by decide) (bb.Ag bi) V b5 V λhg fl fm fo fs fv=>?_);refine C 2 V ?_;obtain rfl:=oi fk;exact AB (b6 _ _ ⟨ap,fl,fm,fo,V,V,AE,fv,fs⟩) V
      ·refine JL.skip ?_;obtain rfl:=oi e8;exact AB (b6 _ _ ⟨ap,U,Y,ac,V,V,AE,b5,(bb.Ag bi)⟩) V
    ·intro ca;refine Je 28 ex (λfw fN=>?_) (λfw gc=>?_)
     ·refine B5 0 (a4.Ag (((am.Ad O).Ad aq).Ad ag)) underlying28 Fo Fy ?_;obtain⟨hj,ge,gg⟩:=bs fN;refine C 1 V (JS.ix (bw.Ag ((((al.Ad am).Ad O).Ad aq).Ad ag)) ge underlying25 FU ?_);rintro hk hl _ ⟨hm,hn,rfl,gh⟩ gl;refine Cy 0 gl Jy V V V ?_;obtain⟨ho,gt,gE⟩:=bs gg;refine Cs (Ij gh gt) V V HX a9 λgO gV gW=>?_;obtain⟨gX,gY,gZ⟩:=bs gE;refine C 1 V (Am (v:=iV gX) V (λρ h=>Hz (h _ _ V) gY) ?_);refine C 2 V ?_;obtain rfl:=oi gZ;exact AB (ca _ _ ⟨gO,V,V,gV,gW⟩) V
     ·refine C 10 V ?_;obtain rfl:=oi gc;exact AB (ca _ _ ⟨Z,V,V,AE,a9⟩) V
   ·refine JL.exit V ?_;obtain rfl:=oi ep;obtain rfl:=ek _ be;exact AB (ej _ _ ⟨Z,U,Y,ac,V,V,ag,a9,bb⟩) V
def Uy(fu_:Nat)(p0:List Int)(O:Int)(K:Int):Option (Bn Int ((Int)⊕(Unit))):= if K<(p0.length:Int) then((ix p0 K).bind λU=> if O=U then(some (.done (Sum.inl K))) else((Au (K+1)).bind λY=> some (.more Y))) else(some (.done (Sum.inr ())))
def f128(fu_:Nat)(p0:List Int)(K:Int):Option Int:= Option.bind (iter (Uy fu_ p0 K) fu_ 0) λO=> Sum.elim (λr=>some r) (λU=> some (-1)) O
theorem dD{a1:An}{c2:Nat}{p0:List Int}{U:Int}(ay:Al rI E a1 c2 p0){fu_:Nat}{r:Int}(ac:f128 fu_ p0 U=some r):AK J 115 [sV a1 p0 c2,iV U] E [] (λw E' B'=>w=iV r/\B'= []):=by
 refine Bi func115 λQ b3 cs H az ag=>?_;unfold f128 at ac;refine C 8 V (JL.ln underlying22 V V V ?_);obtain⟨al,a0,am⟩:=bs ac;refine C 2 V (Bt (λL s=>∃(ap:Unit) (aq:LH),al=Sum.inr ap/\Jm E H aq [] [] L s) ?_ ?_)
 ·rintro _ _ ⟨ap,aq,rfl,rfl,rfl,a2,a3⟩;have a4:=elim_inr am;refine C 4 V ?_;obtain rfl:=oi a4;exact AS func115 V V (ag a2 V ⟨V,V⟩ a3)
 ·intro a5;refine JL.block (Ee a0 (λY=> []) (λY=> [(0,sV a1 p0 c2),(1,iV U),(7,iV (p0.length:Int)),(8,iV Y)]) AE az ?_);rintro Y a6 K Z av ⟨b4,O⟩ a7;have aw:=O;unfold Uy at aw;refine C 5 V (AU aw (λa8 a9=>?_) (λa8 bb=>?_))
  ·obtain⟨b5,be,bi⟩:=bs a9;refine C 13 V (JS.ix (ay.Ag K) be underlying22 Ay ?_);rintro b6 ca _ rfl bn;refine Cy 0 bn A3 V V V (C 2 V ?_);refine AU bi (λbo bv=>?_) (λbo bw=>?_)
   ·refine C 5 V ?_;obtain rfl:=oi bv;obtain rfl:=av _ O;have bx:=elim_inl am;obtain rfl:=oi bx;exact AS func115 V V (ag K V ⟨V,V⟩ Z)
   ·obtain⟨bz,b0,b1⟩:=bs bw;refine C 3 V (Bq b0 V V V ?_);refine C 2 V ?_;obtain rfl:=oi b1;exact a7 bz K Z V O
  ·refine JL.exit V ?_;obtain rfl:=oi bb;have b2:al=(Sum.inr ()):=(av _ O).symm;exact AB (a5 _ _ ⟨(),a6,b2,V,V,K,Z⟩) V
def f82(fu_:Nat)(p0:List Int)(K:Int):Option Bool:= (f128 fu_ p0 K).bind λO=> some (decide (0<=O))
theorem gv{a1:An}{c2:Nat}{p0:List Int}{K:Int}(U:Al rI E a1 c2 p0){fu_:Nat}{r:Bool}(O:f82 fu_ p0 K=some r):AK J 86 [sV a1 p0 c2,iV K] E [] (λw E' B'=>w= .bool r/\B'= []):=by
 refine Bi func86 λQ ap cs H Y Z=>?_;unfold f82 at O;obtain⟨aq,ac,ag⟩:=bs O;refine C 8 V (Cs (dD U ac) V V (A1 func115 V) Y λav al am=>?_);refine C 3 V ?_;obtain rfl:=oi ag;exact AS func86 V V (Z al V ⟨V,V⟩ am)
def Vt(fu_:Nat)(O:AZ×Int)(K:(List ((Int×Int)×Bool))×Int):Option (Bn ((List ((Int×Int)×Bool))×Int) ((List ((Int×Int)×Bool)))):= if K.2<(O.1.2.length:Int) then((ix O.1.2 K.2).bind λU=> (Au (K.2+1)).bind λY=> some (.more ((Dz K.1 (U.1,U.2.1) true),Y))) else(some (.done K.1))
def UX(fu_:Nat)(U:AZ×Int)(Y:(List ((Int×Int)×Bool)))(O:List Int)(K:Bs×Int):Option (Bn (Bs×Int) (Bs)):= if K.2<(U.1.1.length:Int) then(Option.bind ((f82 fu_ O K.2).bind λZ=> Option.bind (if Z=true then(some true) else(if 0<(O.length:Int) then((Au ((O.length:Int) - 1)).bind λac=> (ix O ac).bind λag=> some (!((BL Y (ag,K.2)).getD false))) else(some false))) λal=> if al=true then(some K.1) else((Ep O ([K.2]:List Int)).bind λam=> (room K.1 am).bind λap=> some ap)) λaq=> (Au (K.2+1)).bind λav=> some (.more (aq,av))) else(some (.done K.1))
def Vm(fu_:Nat)(Z:AZ×Int)(U:(List ((Int×Int)×Bool)))(Y:Bs)(O:Bs×Int):Option (Bn (Bs×Int) (((List Int)×Int)⊕(Bs))):= if O.2<(Y.length:Int) then((ix Y O.2).bind λK=> Option.bind (if 1<(K.length:Int) then((Au ((K.length:Int) - 1)).bind λac=> (ix K ac).bind λag=> (ix K (0)).bind λal=> some ((BL U (ag,al)).getD false)) else(some false)) λam=> if am=true then(some (.done (Sum.inl (K,0)))) else(Option.bind (iter (UX fu_ Z U K) fu_ (O.1,0)) λap=> (Au (O.2+1)).bind λaq=> some (.more (ap,aq)))) else(some (.done (Sum.inr O.1)))
def Vx(fu_:Nat)(U:AZ×Int)(Y:(List ((Int×Int)×Bool)))(K:Bs):Option (Bn (Bs) (((List Int)×Int)⊕(Unit))):= if 0<(K.length:Int) then(Option.bind (iter (Vm fu_ U Y K) fu_ ([],0)) λZ=> Sum.elim (λr=>some (.done (Sum.inl r))) (λO=> if(O.length:Int)=0 then(some (.done (Sum.inr ()))) else(some (.more O))) Z) else(some (.done (Sum.inr ())))
def f33(fu_:Nat)(p0:AZ):Option ((List Int)×Int):= (f70 fu_ p0 ([])).bind λK=> if K.2≠0 then(some ([],K.2)) else(Option.bind (iter (Vt fu_ K) fu_ (([]:List ((Int×Int)×Bool)),0)) λO=> Option.bind (iter (Vx fu_ K O) fu_ ([[]]:Bs)) λU=> Sum.elim (λr=>some r) (λY=> some ([],11)) U)
theorem fG{a1:An}{c2:Nat}{ew:An}{ex:Nat}{p0:AZ}(gX:Al (rL rI) E a1 c2 p0.1)(gY:Al Aw E ew ex p0.2){fu_:Nat}{r:(List Int)×Int}(ey:f33 fu_ p0=some r):AK J 45 [.agg #[sV a1 p0.1 c2,sV ew p0.2 ex]] E [] (λw E' B'=>∃(eA:An) (eC:Nat),w= .tuple #[sV eA r.1 eC,iV r.2]/\B'= []/\Al rI E' eA eC r.1):=by
 refine Bi func45 λQ jH cs H gZ dn=>?_;unfold f33 at ey;refine C 2 V (Dp gZ λjI jJ bx g0 g1=>?_);refine C 6 V (B4 g0 Fc CV V V ?_);obtain⟨bz,g3,g4⟩:=bs ey;refine BY (Kx (gX.Ag bx) (gY.Ag bx) Al.nil g3) V V J9 g1 ?_;rintro _ jK _ ea ⟨jL,jM,g5,g6,rfl,rfl,jN,g7⟩ g8;refine C 3 V (BQ g8 Hu λag g9=>?_);refine BJ 3 g9 Du λha=>?_;refine Cu 3 ha V λeb b6 eN e0=>C 8 V (AU g4 (λhb hc=>?_) (λhb hd=>?_))
 ·refine C 6 V ?_;obtain rfl:=oi hc;exact AS func45 V V (dn ((bx.Ad ea).Ad b6) V ⟨none,0,V,V,Al.nil⟩ e0)
 ·refine C 3 V (JS.makeMap V V V e0 λK he=>?_);refine C 5 V (JL.fd underlying78 CV V V V ?_);refine B5 1 eN underlying28 Hv Jx ?_;refine JL.ln underlying26 V V V ?_;obtain⟨a9,hf,hg⟩:=bs hd;refine C 2 V (Bt (λL s=>∃(bb:LH) (ac:Obj),Jn eb H bb [[(K,ac)]] [(4,Aj ag 0),(6,.map (some K))] L s (BK Ew true rB false bb ac a9)) ?_ ?_)
  ·rintro _ _ ⟨bb,ac,rfl,rfl,ec,hj,e1⟩;refine C 2 V (Ge (pp:=(rL rI)) [nS] [[]] V V V underlying25 FU Ml (by decide) V V V ⟨⟨_,_,V,Al.nil⟩,trivial⟩ hj λhk hl hm hn=>?_);refine C 3 V (JL.label ?_);obtain⟨ed,ho,e3⟩:=bs hg;refine JL.seq (Bt (λL s=>∃(e4:Unit) (e5:LH),ed=Sum.inr e4/\Jm bb H e5 [] [] L s) ?_ ?_)
   ·rintro _ _ ⟨e4,e5,rfl,rfl,rfl,hp,hq⟩;have hr:=elim_inr e3;refine C 5 V ?_;obtain rfl:=oi hr;exact AS func45 V V (dn ((((bx.Ad ea).Ad b6).Ad ec).Ad hp) V ⟨none,0,V,V,Al.nil⟩ hq)
   ·intro e6;refine JL.block (Cw ho (λL s O=>∃(a0:LH) (al:An) (am:Nat) (ap:Seg),Jn bb H a0 [[(K,ac)],ap] [(4,Aj ag 0),(6,.map (some K)),(9,sV al O am)] L s (OL 22 (rL rI) a0 al am ap O)) ⟨bb,(A0 hk),1,hl,V,V,AE,hn,hm⟩ ?_);rintro _ _ O ⟨a0,al,am,ap,rfl,rfl,a2,e7,hs⟩ ee ⟨jO,b0⟩ ht;have e8:=b0;unfold Vx at e8;refine C 4 V (JL.ln underlying25 V V V ?_);refine C 2 V (AU e8 (λhu hv=>?_) (λhu hw=>?_))
    ·refine C 10 V (JL.ln underlying25 V V V ?_);obtain⟨ff,hx,fk⟩:=bs hv;refine C 2 V (Bt (λL s=>∃(b1:Bs) (b2:LH) (ca:An) (cc:Nat) (ce:Seg),ff=Sum.inr b1/\Jn a0 H b2 [[(K,ac)],ce] [(4,Aj ag 0),(6,.map (some K)),(10,sV ca b1 cc)] L s (OL 22 (rL rI) b2 ca cc ce b1)) ?_ ?_)
     ·rintro _ _ ⟨b1,b2,ca,cc,ce,rfl,rfl,rfl,fl,fm,hy⟩;have hz:=elim_inr fk;refine C 8 V (JL.ln underlying25 V V V ?_);refine C 2 V (AU hz (λhA hB=>?_) (λhA hC=>?_))
      ·refine JL.exit V (JS.drop 0 fm V λhD=>?_);refine JS.drop 1 hD V λhE=>?_;obtain rfl:=oi hB;have hF:ed=(Sum.inr ()):=(ee _ b0).symm;exact AB (e6 _ _ ⟨(),b2,hF,V,V,(a2.Ad fl),hE⟩) V
      ·refine C 2 V ?_;obtain rfl:=oi hC;exact AB (ht _ _ b1 ⟨b2,ca,cc,ce,V,V,(a2.Ad fl),fm,hy⟩ b0) V
     ·intro hG;refine JL.block (Cw hx (λL s Y=>∃(av:LH) (be:An) (bi:Nat) (bn:Seg),Jn a0 H av [[(K,ac)],ap,bn] [(4,Aj ag 0),(6,.map (some K)),(10,sV be Y.1 bi),(43,sV al O am),(44,iV (O.length:Int)),(45,iV Y.2)] L s (OL 22 (rL rI) av be bi bn Y.1)) ⟨a0,none,0,[],V,V,AE,e7,OL.nil⟩ ?_);rintro _ _ Y ⟨av,be,bi,bn,rfl,rfl,a3,b3,fo⟩ fs ⟨jP,ci⟩ hH;have fv:=ci;unfold Vm at fv;refine C 5 V (AU fv (λhI hJ=>?_) (λhI hK=>?_))
      ·obtain⟨aw,hL,hM⟩:=bs hJ;refine C 5 V (JN 1 (hs.Ag a3) hL V V V V V V underlying25 FU ?_);rintro jQ jR f155 _ hN ⟨a4,bo,rfl,ay⟩ hO jS jT jU jV;refine Am (v:= sV a4 aw bo) V (λρ h=>Yl.load Jy (h _ _ V) (BV (j:=1) b3 hN (hO 0 _ V))) (C 6 V ?_);refine JL.ln underlying22 V V V (C 3 V ?_);refine Rh 15 λZ=>A6 Z V [0,1,2] V ?_;obtain⟨hP,fw,hQ⟩:=bs hM;refine Gr 0 #[true,true,true,true,true,true,true,true,true,true,true,true,true,true,true] (λL s=>L= [(4,Aj ag 0),(6,.map (some K)),(10,sV be Y.1 bi),(12,sV a4 aw bo),(43,sV al O am),(44,iV (O.length:Int)),(45,iV Y.2),(65,.bool hP)]/\s=Ak av H [[(K,ac)],ap,bn]) ?_ ?_
       ·rintro _ _ ⟨rfl,rfl⟩;refine AQ.fin (by decide+kernel) (Cx hQ (λhR hS=>?_) (λhR hT=>?_))
        ·refine C 6 V (JS.drop 0 b3 V λhU=>?_);refine JS.drop 1 hU V λhV=>JS.drop 2 hV V λhW=>?_;obtain rfl:=oi hS;obtain rfl:=fs _ ci;have hX:=elim_inl fk;obtain rfl:=oi hX;obtain rfl:=ee _ b0;have hY:=elim_inl e3;obtain rfl:=oi hY;exact AS func45 V V (dn (((((bx.Ad ea).Ad b6).Ad ec).Ad a2).Ad a3) V ⟨a4,bo,V,V,ay⟩ hW)
        ·refine C 3 V (JL.fd underlying78 CV V V V ?_);refine B5 0 (eN.Ag ((ec.Ad a2).Ad a3)) underlying28 Fo Fy ?_;refine JL.ln underlying25 V V V ?_;obtain⟨ef,hZ,h0⟩:=bs hT;refine C 2 V (Bt (λL s=>∃(co:LH) (cp:An) (ct:Nat) (cw:Seg),Jn av H co [[(K,ac)],ap,cw] [(4,Aj ag 0),(6,.map (some K)),(10,sV cp ef ct),(43,sV al O am),(44,iV (O.length:Int)),(45,iV Y.2)] L s (OL 22 (rL rI) co cp ct cw ef)) ?_ ?_)
         ·rintro _ _ ⟨co,cp,ct,cw,rfl,rfl,h1,h2,h3⟩;obtain⟨h4,h5,h6⟩:=bs h0;refine C 2 V (Bq h5 V V V ?_);refine C 2 V ?_;obtain rfl:=oi h6;exact AB (hH _ _ (ef,h4) ⟨co,cp,ct,cw,V,V,(a3.Ad h1),h2,h3⟩ ci) V
         ·intro h7;refine JL.block (Cw hZ (λL s U=>∃(b4:LH) (a5:An) (a6:Nat) (bv:Seg),Jn av H b4 [[(K,ac)],ap,bv] [(4,Aj ag 0),(6,.map (some K)),(10,sV a5 U.1 a6),(12,sV a4 aw bo),(43,sV al O am),(44,iV (O.length:Int)),(45,iV Y.2),(70,iV (bz.1.1.length:Int)),(71,iV U.2)] L s (OL 22 (rL rI) b4 a5 a6 bv U.1)) ⟨av,be,bi,bn,V,V,AE,b3,fo⟩ ?_);rintro _ _ U ⟨b4,a5,a6,bv,rfl,rfl,az,fN,eg⟩ h8 ⟨jW,ej⟩ h9;have gc:=ej;unfold UX at gc;refine C 5 V (AU gc (λia ic=>?_) (λia ie=>?_))
          ·obtain⟨ek,ig,ih⟩:=bs ic;refine C 2 V (Bt (λL s=>∃(cy:LH) (c0:An) (c1:Nat) (c3:Seg),Jn b4 H cy [[(K,ac)],ap,c3] [(4,Aj ag 0),(6,.map (some K)),(10,sV c0 ek c1),(12,sV a4 aw bo),(43,sV al O am),(44,iV (O.length:Int)),(45,iV Y.2),(70,iV (bz.1.1.length:Int)),(71,iV U.2)] L s (OL 22 (rL rI) cy c0 c1 c3 ek)) ?_ ?_)
           ·rintro _ _ ⟨cy,c0,c1,c3,rfl,rfl,ii,ij,ik⟩;obtain⟨il,io,iq⟩:=bs ih;refine JL.region (Bq io V V V ?_);refine C 2 V ?_;obtain rfl:=oi iq;exact AB (h9 _ _ (ek,il) ⟨cy,c0,c1,c3,V,V,(az.Ad ii),ij,ik⟩ ej) V
           ·intro ge;obtain⟨jX,ir,iu⟩:=bs ig;refine C 11 V (Cs (gv (ay.Ag az) ir) V V (A1 func86 V) fN λc4 aq c5=>?_);obtain⟨iv,iw,iy⟩:=bs iu;refine C 1 V (Hx [] (λL s=>∃(el:LH),Jm c4 H el [[(K,ac)],ap,bv] [(4,Aj ag 0),(6,.map (some K)),(10,sV a5 U.1 a6),(12,sV a4 aw bo),(14,iV U.2),(43,sV al O am),(44,iV (O.length:Int)),(45,iV Y.2),(70,iV (bz.1.1.length:Int)),(71,iV U.2),(94,.bool iv)] L s) ?_ ?_)
            ·rintro _ _ ⟨el,rfl,rfl,a7,gg⟩;refine JL.done (Cx iy (λiz iA=>?_) (λiz iB=>?_))
             ·refine JL.exit V ?_;obtain rfl:=oi iA;exact AB (ge _ _ ⟨el,a5,a6,bv,V,V,(aq.Ad a7),gg,(eg.Ag (aq.Ad a7))⟩) V
             ·refine C 5 V (JL.ln underlying22 V V V ?_);refine C 1 V (JL.ln underlying22 V V V ?_);refine Am (v:= .slice a4 aw.length aw.length) V (λρ h=>PW (Al.spot (ay.Ag ((az.Ad aq).Ad a7))) (And.left (ay.Ag ((az.Ad aq).Ad a7))) underlying22 Ay (h _ _ V) (h _ _ V) (h _ _ V)) (C 1 V ?_);refine Ge (pp:=rI) [iV U.2] [U.2] V V V underlying22 Ay CH (by decide) V V V ⟨V,trivial⟩ gg λjY jZ iC iD=>Cj 3 iC iD V λj0 em iE iF=>?_;obtain⟨iG,iH,iI⟩:=bs iB;refine Xs (pp:=rI) iH V V V V V V V underlying22 underlying22 Ay (Dv type3) CH V (by decide) (by decide) (ay.Ag (((az.Ad aq).Ad a7).Ad em)) iE iF λiJ iK iL gh iM iN=>?_;obtain⟨j1,iO,iP⟩:=bs iI;refine JS.app (pp:=(rL rI)) (v:= sV iK iG iL) (a:=a5) (c:=a6) 2 iO V V V V (λ_=>V) V (λ_=>V) V V V underlying25 underlying25 underlying25 FU (Dv type22) Ml V (by decide) (by decide) (by decide) (by decide) (eg.Ag (((aq.Ad a7).Ad em).Ad gh)) ⟨_,_,V,iM⟩ iN V λj2 iQ iR iS iT iU=>C 3 V ?_;obtain rfl:=oi iP;exact AB (ge _ _ ⟨iJ,iQ,iR,iS,V,V,(((aq.Ad a7).Ad em).Ad gh),iU,iT⟩) V
            ·intro eo;refine EA 77 iw (λiW iX=>?_) (λiW iY=>?_)
             ·refine C 17 V ?_;obtain rfl:=oi iX;exact AB (eo _ _ ⟨c4,V,V,AE,c5⟩) V
             ·refine C 1 V (JL.ln underlying22 V V V ?_);refine C 2 V (Je 81 iY (λiZ i0=>?_) (λiZ i1=>?_))
              ·refine C 3 V (JL.ln underlying22 V V V ?_);obtain⟨j3,i3,i4⟩:=bs i0;refine Ck i3 V V V ?_;obtain⟨c6,i5,i6⟩:=bs i4;refine JS.ix (ay.Ag (az.Ad aq)) i5 underlying22 Ay ?_;rintro j4 j5 _ rfl i7;refine Cy 0 i7 A3 V V V (C 1 V ?_);refine Am (v:= .agg #[iV c6,iV U.2]) V (λρ h=>CZ [(0,1),(1,1)] h Jz underlying122 ⟨V,AM type3,V,AM type3,trivial⟩ V V) (Am (v:= .bool (((BL a9 (c6,U.2)).getD false))) V (λρ h=>Yl.lookup (ok:=false) (xs:=a9) (x0:=(c6,U.2)) (z0:=false) Q5 underlying124 Mm ⟨_,V,V⟩ (e1.Ag (((a2.Ad a3).Ad az).Ad aq)) ⟨_,⟨_,_,V,V,V⟩,V⟩ (by rintro _ ⟨_,rfl,rfl⟩;rfl) (h _ _ V) (h _ _ V) (DD (j:=0) (i:=0) c5 V V)) ?_);refine Am (v:= .bool ((!((BL a9 (c6,U.2)).getD false)))) V (λρ h=>Yl.not (h _ _ V)) (C 2 V ?_);obtain rfl:=oi i6;exact AB (eo _ _ ⟨c4,V,V,AE,c5⟩) V
              ·refine C 13 V ?_;obtain rfl:=oi i1;exact AB (eo _ _ ⟨c4,V,V,AE,c5⟩) V
          ·refine JL.exit V ?_;obtain rfl:=oi ie;obtain rfl:=h8 _ ej;exact AB (h7 _ _ ⟨b4,a5,a6,bv,V,V,az,fN,eg⟩) V
       ·intro gl;refine GN (q:=1<(aw.length:Int)) (i:=53) V (λep=>?_) (λep=>?_)
        ·have i8:=ip fw ep;refine A6 Z V [3,4,5] V ?_;obtain⟨j6,i9,ja⟩:=bs i8;refine AL 6 Z V V (λρ h s' a8=>DJ (h _ _ V) (h _ _ V) i9) ?_;obtain⟨c7,jb,jc⟩:=bs ja;refine Er 7 ay jb Z underlying22 Ay ?_;rintro j7 j8 _ rfl jd;refine AL (v:=iV c7) 8 Z V V (λρ h s' a8=>Yl.load A3 (h _ _ V) (M8 a8 (At.JV (j:=0) jd V))) ?_;refine Di 9 Z V V ?_;obtain⟨c8,je,jf⟩:=bs jc;refine Er 10 ay je Z underlying22 Ay ?_;rintro j9 kb _ rfl jg;refine AL (v:=iV c8) 11 Z V V (λρ h s' a8=>Yl.load A3 (h _ _ V) (M8 a8 (At.JV (j:=0) jg V))) ?_;refine AL (v:= .agg #[iV c7,iV c8]) 12 Z V V (λρ h s' a8=>CZ [(0,1),(1,1)] h Jz underlying122 ⟨V,AM type3,V,AM type3,trivial⟩ V V) ?_;refine AL (v:= .bool (((BL a9 (c7,c8)).getD false))) 13 Z V V (λρ h s' a8=>Yl.lookup (ok:=false) (xs:=a9) (x0:=(c7,c8)) (z0:=false) Q5 underlying124 Mm ⟨_,V,V⟩ (e1.Ag (a2.Ad a3)) ⟨_,⟨_,_,V,V,V⟩,V⟩ (by rintro _ ⟨_,rfl,rfl⟩;rfl) (h _ _ V) (h _ _ V) (Rv a8 (DD (j:=0) (i:=0) b3 V V))) ?_;refine Di 14 Z V V ?_;obtain rfl:=oi jf;refine Ec ?_ (gl _ _ ⟨V,V⟩);exact⟨V,V,V,V,V,V,V,V,trivial⟩
        ·have jh:=im fw ep;refine A6 Z V [3,4,5,6,7,8,9,10,11,12,13,14] V ?_;obtain rfl:=oi jh;refine Ec ?_ (gl _ _ ⟨V,V⟩);exact⟨V,V,V,V,V,V,V,V,trivial⟩
      ·refine JL.exit V (JS.drop 1 b3 V λji=>?_);obtain rfl:=oi hK;have jj:ff=(Sum.inr Y.1):=(fs _ ci).symm;exact AB (hG _ _ ⟨Y.1,av,be,bi,bn,jj,V,V,a3,ji,fo⟩) V
    ·refine JL.exit V (JS.drop 0 e7 V λjk=>?_);refine JS.drop 1 jk V λjl=>?_;obtain rfl:=oi hw;have jm:ed=(Sum.inr ()):=(ee _ b0).symm;exact AB (e6 _ _ ⟨(),a0,jm,V,V,a2,jl⟩) V
  ·intro jo;refine JL.block (Cw hf (λL s b5=>∃(c9:LH) (dd:Obj),Jn eb H c9 [[(K,dd)]] [(4,Aj ag 0),(6,.map (some K)),(26,sV g5 bz.1.2 g6),(27,iV (bz.1.2.length:Int)),(28,iV b5.2)] L s (BK Ew true rB false c9 dd b5.1)) ⟨eb,(.map #[] 0),V,V,AE,he,BK.nil⟩ ?_);rintro _ _ b5 ⟨c9,dd,rfl,rfl,er,gt,gE⟩ jp ⟨kc,eu⟩ jq;have gO:=eu;unfold Vt at gO;refine C 5 V (AU gO (λjr js=>?_) (λjr jt=>?_))
   ·obtain⟨bw,ju,jv⟩:=bs js;refine C 5 V (JS.ix (g7.Ag (b6.Ad er)) ju underlying26 Bg ?_);rintro ke kf _ ⟨_,_,rfl,rfl,⟨_,_,rfl,rfl,rfl⟩⟩ jw;refine B4 jw DO Bg V V (BQ gt BP λkg jx=>?_);refine BJ 1 jx Bg λjy=>?_;refine Cu 1 jy V λjz gV gW jA=>C 3 V (B5 0 gW underlying42 Ay A3 ?_);refine B5 1 gW underlying42 Ay A3 ?_;refine Am (v:= .agg #[iV bw.1,iV bw.2.1]) V (λρ h=>CZ [(0,1),(1,1)] h Jz underlying122 ⟨V,AM type3,V,AM type3,trivial⟩ V V) (JS.mapUpdate (xs:=b5.1) (x0:=(bw.1,bw.2.1)) (v0:=true) 0 Q5 underlying124 (gE.Ag gV) ⟨_,⟨_,_,V,V,V⟩,V⟩ ⟨_,V,V⟩ jA V V V V V V V λjB jC jD=>?_);obtain⟨jE,jF,jG⟩:=bs jv;refine C 3 V (Bq jF V V V ?_);refine C 2 V ?_;obtain rfl:=oi jG;exact AB (jq _ _ ((Dz b5.1 (bw.1,bw.2.1) true),jE) ⟨jz,jB,V,V,(er.Ad gV),jD,jC⟩ eu) V
   ·refine JL.exit V ?_;obtain rfl:=oi jt;obtain rfl:=jp _ eu;exact AB (jo _ _ ⟨c9,dd,V,V,er,gt,gE⟩) V
variable {J:Judge Tryz.prog}
def U9:List Nat:= [0,1,2,2,3,3,3,3,4,4,4,4,4,4,4,4,5,5,5,5,5,5,5,5,5,5,5,5,5,5,5,5,6,6,6,6,6,6,6,6,6,6,6,6,6,6,6,6,6,6,6,6,6,6,6,6,6,6,6,6,6,6,6,6,7,7,7,7,7,7,7,7,7,7,7,7,7,7,7,7,7,7,7,7,7,7,7,7,7,7,7,7,7,7,7,7,7,7,7,7,7,7,7,7,7,7,7,7,7,7,7,7,7,7,7,7,7,7,7,7,7,7,7,7,7,7,7,7,8,8,8,8,8,8,8,8,8,8,8,8,8,8,8,8,8,8,8,8,8,8,8,8,8,8,8,8,8,8,8,8,8,8,8,8,8,8,8,8,8,8,8,8,8,8,8,8,8,8,8,8,8,8,8,8,8,8,8,8,8,8,8,8,8,8,8,8,8,8,8,8,8,8,8,8,8,8,8,8,8,8,8,8,8,8,8,8,8,8,8,8,8,8,8,8,8,8,8,8,8,8,8,8,8,8,8,8,8,8,8,8,8,8,8,8,8,8,8,8,8,8,8,8,8,8,8,8]
def f146(fu_:Nat)(p0:Nat):Option Int:= Option.bind (if(((4294967296):Nat):Int)<=(((p0):Nat):Int) then(some (p0>>>32,32)) else(some (p0,0))) λK=> Option.bind (if(((65536):Nat):Int)<=(((K.1):Nat):Int) then((Au (K.2+16)).bind λY=> some (K.1>>>16,Y)) else(some K)) λO=> Option.bind (if(((256):Nat):Int)<=(((O.1):Nat):Int) then((Au (O.2+8)).bind λZ=> some (O.1>>>8,Z)) else(some O)) λU=> (Ry U9 (((((U.1) % 256):Nat):Int))).bind λac=> (Au (((ac):Nat):Int)).bind λag=> (Au (U.2+ag)).bind λal=> some al
theorem eU{p0:Nat}{fu_:Nat}{r:Int}(Y:f146 fu_ p0=some r):AK J 155 [.int .u64 ((p0:Nat):Int)] E [] (λw E' B'=>w=iV r/\B'= []):=by
 refine Bi func155 λQ cc cs H Z aq=>?_;unfold f146 at Y;obtain⟨K,av,aw⟩:=bs Y;refine C 10 V (EU [] [(0,.int .u64 ((K.1:Nat):Int)),(2,iV K.2)] (λce ay ac=>?_) (λag=>?_))
 ·obtain⟨O,az,a0⟩:=bs aw;refine C 6 V (EU [] [(0,.int .u64 ((O.1:Nat):Int)),(2,iV O.2)] (λci a1 al=>?_) (λam=>?_))
  ·obtain⟨U,a2,a3⟩:=bs a0;refine C 6 V (EU [] [(0,.int .u64 ((U.1:Nat):Int)),(2,iV U.2)] (λco a4 a5=>?_) (λap=>?_))
   ·refine C 4 V (Am (v:= .int .u8 (((U.1) % 256:Nat):Int)) V (λρ h=>aC underlying72 underlying5 (h _ _ V)) ?_);obtain⟨a6,a7,a8⟩:=bs a3;refine Am (v:= .int .u8 ((a6:Nat):Int)) V (λρ h=>Yo (l:=U9) (by decide+kernel) underlying9 (h _ _ V) (h _ _ V) a7) ?_;obtain⟨a9,bb,be⟩:=bs a8;refine Am (v:=iV a9) V (λρ h=>aZ underlying5 underlying3 (h _ _ V) bb) ?_;obtain⟨cp,bi,bn⟩:=bs be;refine Bq bi V V V (C 2 V ?_);obtain rfl:=oi bn;exact AS func155 V V (aq ((ay.Ad a1).Ad a4) V ⟨V,V⟩ a5)
   ·refine AU a2 (λbo bv=>?_) (λbo bw=>?_)
    ·refine C 3 V (Am (v:= .int .u64 ((O.1>>>8:Nat):Int)) V (λρ h=>LL 8 (h _ _ V) (h _ _ V) (by decide)) ?_);obtain⟨ct,bx,bz⟩:=bs bv;refine C 4 V (Bq bx V V V ?_);refine C 2 V ?_;obtain rfl:=oi bz;exact ap AE al V
    ·refine JL.skip ?_;obtain rfl:=oi bw;exact ap AE al V
  ·refine AU az (λb0 b1=>?_) (λb0 b2=>?_)
   ·refine C 3 V (Am (v:= .int .u64 ((K.1>>>16:Nat):Int)) V (λρ h=>LL 16 (h _ _ V) (h _ _ V) (by decide)) ?_);obtain⟨cw,b3,b4⟩:=bs b1;refine C 4 V (Bq b3 V V V ?_);refine C 2 V ?_;obtain rfl:=oi b4;exact am AE ac V
   ·refine JL.skip ?_;obtain rfl:=oi b2;exact am AE ac V
 ·refine AU av (λb5 b6=>?_) (λb5 ca=>?_)
  ·refine C 3 V (Am (v:= .int .u64 ((p0>>>32:Nat):Int)) V (λρ h=>LL 32 (h _ _ V) (h _ _ V) (by decide)) ?_);refine C 5 V ?_;obtain rfl:=oi b6;exact ag AE Z V
  ·refine JL.skip ?_;obtain rfl:=oi ca;exact ag AE Z V
def f115(fu_:Nat)(p0:Nat):Option Int:= (f146 fu_ p0).bind λK=> some K
theorem OI{p0:Nat}{fu_:Nat}{r:Int}(K:f115 fu_ p0=some r):AK J 103 [.int .u64 ((p0:Nat):Int)] E [] (λw E' B'=>w=iV r/\B'= []):=by
 refine Bi func103 λQ al cs H O U=>?_;unfold f115 at K;obtain⟨am,Y,Z⟩:=bs K;refine C 10 V (Cs (eU Y) V V (A1 func155 V) O λap ac ag=>?_);refine C 2 V ?_;obtain rfl:=oi Z;exact AS func103 V V (U ac V ⟨V,V⟩ ag)
def Ou(fu_:Nat)(Y:Int)(K:Int×Ax):Option (Bn (Int×Ax) (Ax)):= Option.bind (if Y<K.1 then((ix K.2 K.1).bind λZ=> (Au (K.1 - 1)).bind λac=> (ix K.2 ac).bind λag=> (f113 fu_ Z ag).bind λal=> some (decide (al<0))) else(some false)) λam=> if am=true then((Au (K.1 - 1)).bind λO=> (Au (K.1 - 1)).bind λap=> (ix K.2 ap).bind λU=> (ix K.2 K.1).bind λaq=> (ix (K.2.set (Int.toNat K.1) U) O).bind λaw=> (Au (K.1 - 1)).bind λav=> some (.more (av,((K.2.set (Int.toNat K.1) U).set (Int.toNat O) aq)))) else(some (.done K.2))
def Ot(fu_:Nat)(O:Int)(p2:Int)(K:Int×Ax):Option (Bn (Int×Ax) (Ax)):= if K.1<p2 then(Option.bind (iter (Ou fu_ O) fu_ K) λU=> (Au (K.1+1)).bind λY=> some (.more (Y,U))) else(some (.done K.2))
def f193(fu_:Nat)(p0:Ax)(K:Int)(p2:Int):Option (Ax):= (Au (K+1)).bind λO=> Option.bind (iter (Ot fu_ K p2) fu_ (O,p0)) λU=> some U
theorem eE{K:Nat}{U:Nat}{nw:Nat}{a5:Av_}{p0:Ax}{al:Int}{p2:Int}(hW:WL 42 Aw E K U nw a5 p0){fu_:Nat}{r:Ax}(be:f193 fu_ p0 al p2=some r):AK J 179 [.slice (A0 K) nw U,iV al,iV p2,(fV 105)] E [(K,.cells a5 42 (0,0))] (λw E' B'=>∃(bi:Av_),w= .tuple #[]/\B'= [(K,.cells bi 42 (0,0))]/\WL 42 Aw E' K U nw bi r):=by
 refine Bi func179 λQ gg cs H ce ci=>?_;unfold f193 at be;obtain⟨gh,co,cp⟩:=bs be;refine C 3 V (Bq co V V V ?_);obtain⟨ct,cw,cy⟩:=bs cp;refine C 2 V (Bt (λL s=>∃(a6:LH) (f17:Av_),Jn E H a6 [bX K f17 42] [] L s (WL 42 Aw a6 K U nw f17 ct)) ?_ ?_)
 ·rintro _ _ ⟨a6,f17,rfl,rfl,c0,c1,c2⟩;obtain rfl:=oi cy;exact JL.fin (v:= .tuple #[]) V V (BE.list func179 V (vs:= []) trivial) (ci c0 V ⟨f17,V,(by first | rfl | simp | (simp [Value.cells])),c2⟩ c1)
 ·intro c3;refine JL.block (Cw cw (λL s ap=>∃(am:LH) (f25:Av_),Jn E H am [bX K f25 42] [(0,.slice (A0 K) nw U),(1,iV al),(2,iV p2),(3,(fV 105)),(8,iV ap.1)] L s (WL 42 Aw am K U nw f25 ap.2)) ⟨E,a5,V,V,AE,ce,hW⟩ ?_);rintro _ _ ap ⟨am,f25,rfl,rfl,bn,bo,bv⟩ c4 ⟨gl,a7⟩ c5;have bw:=a7;unfold Ot at bw;refine C 7 V (AU bw (λc6 c7=>?_) (λc6 c8=>?_))
  ·obtain⟨bx,c9,dd⟩:=bs c7;refine C 8 V (Bt (λL s=>∃(a1:LH) (f48:Av_),Jn am H a1 [bX K f48 42] [(0,.slice (A0 K) nw U),(1,iV al),(2,iV p2),(3,(fV 105)),(8,iV ap.1)] L s (WL 42 Aw a1 K U nw f48 bx)) ?_ ?_)
   ·rintro _ _ ⟨a1,f48,rfl,rfl,dn,ea,eb⟩;obtain⟨ec,ed,ee⟩:=bs dd;refine C 3 V (Bq ed V V V ?_);refine C 2 V ?_;obtain rfl:=oi ee;exact AB (c5 _ _ (ec,bx) ⟨a1,f48,V,V,(bn.Ad dn),ea,eb⟩ a7) V
   ·intro ef;refine JL.block (Cw c9 (λL s ag=>∃(ay:LH) (f58:Av_),Jn am H ay [bX K f58 42] [(0,.slice (A0 K) nw U),(1,iV al),(2,iV p2),(3,(fV 105)),(8,iV ap.1),(9,iV ag.1)] L s (WL 42 Aw ay K U nw f58 ag.2)) ⟨am,f25,V,V,AE,bo,bv⟩ ?_);rintro _ _ ag ⟨ay,f58,rfl,rfl,bz,az,O⟩ eg ⟨gt,a8⟩ ej;have b0:=a8;unfold Ou at b0;refine C 2 V (Fs 17 [K] ⟨⟨0,_,V⟩,trivial⟩ az λac=>?_);refine A6 ac V [0,1,2,3] V ?_;obtain⟨ek,b1,el⟩:=bs b0;refine Gr 0 #[true,true,true,true,true,true,true,true,true,true,true,true,true,true,true,true,true] (λL s=>∃(a2:LH),Jm ay H a2 [bX K f58 42] [(0,.slice (A0 K) nw U),(1,iV al),(2,iV p2),(3,(fV 105)),(8,iV ap.1),(9,iV ag.1),(34,.bool ek)] L s) ?_ ?_
    ·rintro _ _ ⟨a2,rfl,rfl,aq,a3⟩;refine AQ.fin (by decide+kernel) (Cx el (λem eo=>?_) (λem ep=>?_))
     ·refine C 3 V (H8 [15,17] [K] [] mixed V ?_);refine Bm 0 V V (Bm 1 V V ?_);refine Bm 2 V V (Bm 3 V V ?_);obtain⟨b2,er,eu⟩:=bs eo;refine FC 4 true V V (λρ h s' b3=>DJ (h _ _ V) (h _ _ V) er) (Bm 5 V V ?_);refine Bm 6 V V ?_;obtain⟨gE,ew,ex⟩:=bs eu;refine FC 7 true V V (λρ h s' b3=>DJ (h _ _ V) (h _ _ V) ew) ?_;obtain⟨Y,b4,ey⟩:=bs ex;obtain⟨_,⟨_,_,rfl,rfl,⟨_,_,rfl,rfl,rfl⟩⟩,eA⟩:=WL.at (O.Ag aq) b4;refine JB.ix 8 O.2 b4 underlying26 Bg ?_;refine VK 9 [iV Y.1,iV Y.2.1,iV Y.2.2] 0 a3 eA DO Bg ?_;refine Bm 10 V V (Bm 11 V V ?_);obtain⟨Z,a4,eC⟩:=bs ey;obtain⟨_,⟨_,_,rfl,rfl,⟨_,_,rfl,rfl,rfl⟩⟩,eN⟩:=WL.at (O.Ag aq) a4;refine JB.ix 12 O.2 a4 underlying26 Bg ?_;refine VK 13 [iV Z.1,iV Z.2.1,iV Z.2.2] 0 a3 eN DO Bg ?_;refine JB.ix 14 O.2 a4 underlying26 Bg ?_;have a0:=WL.put (x':=Y) (ws':= [iV Y.1,iV Y.2.1,iV Y.2.2]) (O.Ag aq) O.2 a4 ⟨_,_,V,V,⟨_,_,V,V,V⟩⟩;refine ET 15 0 a3 Bg trivial a0.2 λe0=>?_;obtain⟨gO,a9,e1⟩:=bs eC;obtain⟨_,⟨_,_,rfl,rfl,⟨_,_,rfl,rfl,rfl⟩⟩,gV⟩:=WL.at a0.1 a9;refine JB.ix 16 (a0.1).2 a9 underlying26 Bg ?_;have b5:=WL.put (x':=Z) (ws':= [iV Z.1,iV Z.2.1,iV Z.2.2]) a0.1 (a0.1).2 a9 ⟨_,_,V,V,⟨_,_,V,V,V⟩⟩;refine ET 17 0 e0 Bg trivial b5.2 λe3=>?_;refine JB.fin (by decide+kernel) ?_;obtain⟨e4,e5,e6⟩:=bs e1;refine C 3 V (Ck e5 V V V ?_);refine C 2 V ?_;obtain rfl:=oi e6;exact AB (ej _ _ (e4,((ag.2.set (Int.toNat ag.1) Y).set (Int.toNat b2) Z)) ⟨a2,(Bd (Bd f58 (Int.toNat (ag.1)*3) [iV Y.1,iV Y.2.1,iV Y.2.2]) (Int.toNat (b2)*3) [iV Z.1,iV Z.2.1,iV Z.2.2]),V,V,(bz.Ad aq),e3,b5.1⟩ a8) V
     ·refine JL.exit V ?_;obtain rfl:=oi ep;obtain rfl:=eg _ a8;exact AB (ef _ _ ⟨a2,f58,V,V,(bz.Ad aq),a3,(O.Ag aq)⟩) V
    ·intro b6;refine GN (q:=al<ag.1) (i:=21) V (λbb=>?_) (λbb=>?_)
     ·have e7:=ip b1 bb;refine A6 ac V [4,5,6] V ?_;obtain⟨av,ca,e8⟩:=bs e7;obtain⟨_,⟨_,_,rfl,rfl,⟨_,_,rfl,rfl,rfl⟩⟩,ff⟩:=WL.at O ca;refine JG.ix 7 ac (O).2 ca underlying26 Bg ?_;refine VM 8 ac [iV av.1,iV av.2.1,iV av.2.2] 0 az ff DO Bg ?_;refine A6 ac V [9,10] V ?_;obtain⟨gW,fk,fl⟩:=bs e8;refine AL 11 ac V V (λρ h s' b3=>DJ (h _ _ V) (h _ _ V) fk) ?_;obtain⟨aw,cc,fm⟩:=bs fl;obtain⟨_,⟨_,_,rfl,rfl,⟨_,_,rfl,rfl,rfl⟩⟩,fo⟩:=WL.at O cc;refine JG.ix 12 ac (O).2 cc underlying26 Bg ?_;refine VM 13 ac [iV aw.1,iV aw.2.1,iV aw.2.2] 0 az fo DO Bg ?_;obtain⟨gX,fs,fv⟩:=bs fm;refine Ki (i:=14) ⟨⟨0,_,V⟩,trivial⟩ (vs:= [.agg #[iV av.1,iV av.2.1,iV av.2.2],.agg #[iV aw.1,iV aw.2.1,iV aw.2.2]]) (U4 fs) (by decide+kernel) V V V V (A1 func105 V) V az ?_;rintro _ fw _ fN ⟨rfl,rfl⟩ gc;refine A6 ac V [15,16] V ?_;obtain rfl:=oi fv;refine Ec ?_ (b6 _ _ ⟨fw,V,V,fN,gc⟩);exact⟨V,V,V,V,V,V,V,trivial⟩
     ·have ge:=im b1 bb;refine A6 ac V [4,5,6,7,8,9,10,11,12,13,14,15,16] V ?_;obtain rfl:=oi ge;refine Ec ?_ (b6 _ _ ⟨ay,V,V,AE,az⟩);exact⟨V,V,V,V,V,V,V,trivial⟩
  ·refine JL.exit V ?_;obtain rfl:=oi c8;obtain rfl:=c4 _ a7;exact AB (c3 _ _ ⟨am,f25,V,V,bn,bo,bv⟩) V
def QF(fu_:Nat)(p0:Ax)(K:Int)(p2:Int)(p3:Int)(Y:Unit):Option (Bn Unit ((Ax)⊕(Unit))):= (Au (p2 - K)).bind λO=> if O<=12 then((f193 fu_ p0 K p2).bind λU=> some (.done (Sum.inl U))) else(if p3=0 then(none) else(none))
def f169(fu_:Nat)(p0:Ax)(K:Int)(p2:Int)(p3:Int):Option (Ax):= Option.bind (iter (QF fu_ p0 K p2 p3) fu_ ()) λO=> Sum.elim (λr=>some r) (λU=> none) O
theorem dB{K:Nat}{O:Nat}{nw:Nat}{U:Av_}{p0:Ax}{Y:Int}{p2:Int}{p3:Int}(hW:WL 42 Aw E K O nw U p0){fu_:Nat}{r:Ax}(Z:f169 fu_ p0 Y p2 p3=some r):AK J 156 [.slice (A0 K) nw O,iV Y,iV p2,iV p3,(fV 105)] E [(K,.cells U 42 (0,0))] (λw E' B'=>∃(ac:Av_),w= .tuple #[]/\B'= [(K,.cells ac 42 (0,0))]/\WL 42 Aw E' K O nw ac r):=by
 refine Bi func156 λQ bw cs H aq av=>?_;unfold f169 at Z;obtain⟨bx,aw,ay⟩:=bs Z;refine C 8 V (Bt (λL s=>False) ?_ ?_)
 ·intro _ _ az;exact az.elim
 ·intro bz;refine JL.block (Ee aw (λag=> [bX K U 42]) (λag=> [(0,.slice (A0 K) nw O),(1,iV Y),(2,iV p2),(3,iV p3),(4,(fV 105)),(10,.bool true),(11,.bool true)]) AE aq ?_);rintro ag b0 al a0 a1 ⟨b1,am⟩ b2;have ap:=am;unfold QF at ap;obtain⟨b3,a2,a3⟩:=bs ap;refine C 5 V (Ck a2 V V V ?_);refine C 8 V (AU a3 (λa4 a5=>?_) (λa4 a6=>?_))
  ·obtain⟨b4,a7,a8⟩:=bs a5;refine C 6 V (Ch 0 (eE (hW.Ag al) a7) V V (A1 func179 V) a0 V ?_);rintro _ b5 _ a9 ⟨f32,rfl,rfl,bb⟩ be;refine JL.done ?_;obtain rfl:=oi a8;obtain rfl:=a1 _ am;have bi:=elim_inl ay;obtain rfl:=oi bi;exact AS func156 V V (av (al.Ad a9) V ⟨f32,V,(by first | rfl | simp | (simp [Value.cells])),bb⟩ be)
  ·refine C 7 V (AU a6 (λbn bo=>?_) (λbn bv=>?_))
   ·refine C 6 V ?_;cases bo
   ·refine C 5 V (Am (v:= .bool false) V (λρ h=>Yl.not (c:=true) (h _ _ V)) ?_);refine C 9 V ?_;cases bv
def f130(fu_:Nat)(p0:Ax):Option (Ax):= (f115 fu_ (Dc (p0.length:Int))).bind λK=> (f169 fu_ p0 0 (p0.length:Int) K).bind λO=> some O
theorem fa{K:Nat}{O:Nat}{nw:Nat}{U:Av_}{p0:Ax}(hW:WL 42 Aw E K O nw U p0){fu_:Nat}{r:Ax}(Y:f130 fu_ p0=some r):AK J 114 [.slice (A0 K) nw O,(fV 105)] E [(K,.cells U 42 (0,0))] (λw E' B'=>∃(Z:Av_),w= .tuple #[]/\B'= [(K,.cells Z 42 (0,0))]/\WL 42 Aw E' K O nw Z r):=by
 refine Bi func114 λQ a1 cs H ag al=>?_;unfold f130 at Y;refine C 3 V (Am (v:=iV (p0.length:Int)) V (λρ h=>Ua (hW).2 V underlying96 (h _ _ V)) ?_);refine C 6 V (Am (v:= .int .u64 ((Dc (p0.length:Int):Nat):Int)) V (λρ h=>Yl.Dc underlying3 underlying160 (h _ _ V)) ?_);obtain⟨a2,am,ap⟩:=bs Y;refine Cs (OI am) V V NH ag λa3 ac aq=>?_;obtain⟨a4,av,aw⟩:=bs ap;refine C 1 V (Ch 0 (dB (hW.Ag ac) av) V V (A1 func156 V) aq V ?_);rintro _ a5 _ ay ⟨f12,rfl,rfl,az⟩ a0;refine JL.done ?_;obtain rfl:=oi aw;exact JL.fin (v:= .tuple #[]) V V (BE.list func114 V (vs:= []) trivial) (al (ac.Ad ay) V ⟨f12,V,(by first | rfl | simp | (simp [Value.cells])),az⟩ a0)
def Tp(fu_:Nat)(O:Int)(K:Int)(Y:Unit):Option (Bn Unit Unit):= Option.bind (if O<K then(none) else(some false)) λU=> if U=true then((Au (K - 1)).bind λZ=> (Au (K - 1)).bind λac=> none) else(some (.done ()))
def Td(fu_:Nat)(O:Int)(p2:Int)(K:Int):Option (Bn Int Unit):= if K<p2 then(Option.bind (iter (Tp fu_ O K) fu_ ()) λY=> (Au (K+1)).bind λU=> some (.more U)) else(some (.done ()))
def Rl(fu_:Nat)(K:Int)(p2:Int):Option Unit:= (Au (K+1)).bind λO=> Option.bind (iter (Td fu_ K p2) fu_ O) λU=> some ()
theorem aU{U:Int}{p2:Int}{fu_:Nat}{r:Unit}(ac:Rl fu_ U p2=some r):AK J 179 [nS,iV U,iV p2,(fV 105)] E [] (λw E' B'=>w= .tuple #[]/\B'= []):=by
 refine Bi func179 λQ c5 cs H a0 a1=>?_;unfold Rl at ac;obtain⟨c6,a2,a3⟩:=bs ac;refine C 3 V (Bq a2 V V V ?_);obtain⟨c7,a4,a5⟩:=bs a3;refine C 2 V (EU [] [] (λc8 a6 a7=>?_) (λa8=>?_))
 ·obtain rfl:=oi a5;exact JL.fin (v:= .tuple #[]) V V (BE.list func179 V (vs:= []) trivial) (a1 a6 V ⟨V,V⟩ a7)
 ·refine JL.block (Ee a4 (λK=> []) (λK=> [(0,.slice none 0 0),(1,iV U),(2,iV p2),(3,(fV 105)),(8,iV K)]) AE a0 ?_);rintro K c9 ag al a9 ⟨dd,Y⟩ bb;have am:=Y;unfold Td at am;refine C 7 V (AU am (λbe bi=>?_) (λbe bn=>?_))
  ·obtain⟨dn,bo,bv⟩:=bs bi;refine C 8 V (EU [] [(0,.slice none 0 0),(1,iV U),(2,iV p2),(3,(fV 105)),(8,iV K)] (λea bw bx=>?_) (λbz=>?_))
   ·obtain⟨b0,b1,b2⟩:=bs bv;refine C 3 V (Bq b1 V V V ?_);refine C 2 V ?_;obtain rfl:=oi b2;exact bb b0 (ag.Ad bw) bx V Y
   ·refine JL.block (Ee bo (λap=> []) (λap=> [(0,.slice none 0 0),(1,iV U),(2,iV p2),(3,(fV 105)),(8,iV K),(9,iV K)]) AE al ?_);rintro ap aq b3 b4 b5 ⟨eb,av⟩ ec;have aw:=av;unfold Tp at aw;refine C 2 V (Ff 17 λO=>?_);refine A6 O V [0,1,2,3] V ?_;obtain⟨b6,ay,ca⟩:=bs aw;refine Gr 0 #[true,true,true,true,true,true,true,true,true,true,true,true,true,true,true,true,true] (λL s=>∃(az:LH),Jm aq H az [] [(0,.slice none 0 0),(1,iV U),(2,iV p2),(3,(fV 105)),(8,iV K),(9,iV K),(34,.bool b6)] L s) ?_ ?_
    ·rintro _ _ ⟨az,rfl,rfl,cc,ce⟩;refine AQ.fin (by decide+kernel) (Cx ca (λci co=>?_) (λci cp=>?_))
     ·refine C 3 V (Ff 16 λO=>?_);refine A6 O V [0,1,2,3] V ?_;obtain⟨ed,ct,cw⟩:=bs co;refine AL 4 O V V (λρ h s' cy=>DJ (h _ _ V) (h _ _ V) ct) (A6 O V [5,6] V ?_);obtain⟨ee,c0,c1⟩:=bs cw;refine AL 7 O V V (λρ h s' cy=>DJ (h _ _ V) (h _ _ V) c0) ?_;cases c1
     ·refine JL.exit V ?_;obtain rfl:=oi cp;obtain rfl:=b5 _ av;exact bz (b3.Ad cc) ce V
    ·intro c2;refine GN (q:=U<K) (i:=21) V (λZ=>?_) (λZ=>?_)
     ·have c3:=ip ay Z;refine A6 O V [4,5,6] V ?_;cases c3
     ·have c4:=im ay Z;refine A6 O V [4,5,6,7,8,9,10,11,12,13,14,15,16] V ?_;obtain rfl:=oi c4;refine Ec ?_ (c2 _ _ ⟨aq,V,V,AE,b4⟩);exact⟨V,V,V,V,V,V,V,trivial⟩
  ·refine JL.exit V ?_;obtain rfl:=oi bn;obtain rfl:=a9 _ Y;exact a8 ag al V
def TO(fu_:Nat)(K:Int)(p2:Int)(p3:Int)(U:Unit):Option (Bn Unit ((Unit)⊕(Unit))):= (Au (p2 - K)).bind λO=> if O<=12 then((Rl fu_ K p2).bind λY=> some (.done (Sum.inl ()))) else(if p3=0 then(none) else(none))
def Rs(fu_:Nat)(K:Int)(p2:Int)(p3:Int):Option Unit:= Option.bind (iter (TO fu_ K p2 p3) fu_ ()) λO=> Sum.elim (λr=>some r) (λU=> none) O
theorem aE{K:Int}{p2:Int}{p3:Int}{fu_:Nat}{r:Unit}(O:Rs fu_ K p2 p3=some r):AK J 156 [nS,iV K,iV p2,iV p3,(fV 105)] E [] (λw E' B'=>w= .tuple #[]/\B'= []):=by
 refine Bi func156 λQ be cs H ac ag=>?_;unfold Rs at O;obtain⟨bi,al,am⟩:=bs O;refine C 8 V (Bt (λL s=>False) ?_ ?_)
 ·intro _ _ ap;exact ap.elim
 ·intro bn;refine JL.block (Ee al (λU=> []) (λU=> [(0,.slice none 0 0),(1,iV K),(2,iV p2),(3,iV p3),(4,(fV 105)),(10,.bool true),(11,.bool true)]) AE ac ?_);rintro U bo aq av aw ⟨bv,Y⟩ bw;have Z:=Y;unfold TO at Z;obtain⟨bx,ay,az⟩:=bs Z;refine C 5 V (Ck ay V V V ?_);refine C 8 V (AU az (λa0 a1=>?_) (λa0 a2=>?_))
  ·obtain⟨bz,a3,a4⟩:=bs a1;refine C 6 V (Cs (aU a3) V V (A1 func179 V) av λb0 a5 a6=>?_);refine JL.done ?_;obtain rfl:=oi a4;obtain rfl:=aw _ Y;have a7:=elim_inl am;obtain rfl:=oi a7;exact AS func156 V V (ag (aq.Ad a5) V ⟨V,V⟩ a6)
  ·refine C 7 V (AU a2 (λa8 a9=>?_) (λa8 bb=>?_))
   ·refine C 6 V ?_;cases a9
   ·refine C 5 V (Am (v:= .bool false) V (λρ h=>Yl.not (c:=true) (h _ _ V)) ?_);refine C 9 V ?_;cases bb
def VV(fu_:Nat):Option Unit:= (f115 fu_ (Dc ((0:Nat):Int))).bind λK=> (Rs fu_ 0 ((0:Nat):Int) K).bind λO=> some ()
theorem ai{fu_:Nat}{r:Unit}(K:VV fu_=some r):AK J 114 [nS,(fV 105)] E [] (λw E' B'=>w= .tuple #[]/\B'= []):=by
 refine Bi func114 λQ av cs H O U=>?_;unfold VV at K;refine C 3 V (JL.ln underlying96 V V V ?_);refine C 6 V (Am (v:= .int .u64 ((Dc ((0:Nat):Int):Nat):Int)) V (λρ h=>Yl.Dc underlying3 underlying160 (h _ _ V)) ?_);obtain⟨aw,Y,Z⟩:=bs K;refine Cs (OI Y) V V NH O λay ac ag=>?_;obtain⟨az,al,am⟩:=bs Z;refine C 1 V (Cs (aE al) V V (A1 func156 V) ag λa0 ap aq=>?_);refine JL.done ?_;obtain rfl:=oi am;exact JL.fin (v:= .tuple #[]) V V (BE.list func114 V (vs:= []) trivial) (U (ac.Ad ap) V ⟨V,V⟩ aq)
theorem aL{J:Judge Tryz.prog}{E:LH}{a:An}{c:Nat}{g:Seg}{p0:Ax}(Y:OL 42 Aw E a c g p0){fu_:Nat}{r:Ax}(K:f130 fu_ p0=some r):
  AK J 114 [.slice a p0.length c,.func (.func 105) #[] #[]] E g (λw E' B'=>w= .tuple #[]/\OL 42 Aw E' a c B' r/\r.length=p0.length):=by
 rcases Y.cases with⟨rfl,rfl,rfl,rfl⟩ | ⟨bk,f,rfl,rfl,hW⟩
 ·have Z:r= []:=by
   cases fu_ with
   | zero=>exact absurd K (by simp [f130,f169,f193,iter])
   | succ fu_=>
    cases fu_ with
    | zero=>exact(Option.some.inj (K.symm.trans (by rfl:f130 1 []=some []))).trans rfl
    | succ fu_=>exact(Option.some.inj (K.symm.trans (by rfl:f130 (fu_+2) []=some []))).trans rfl
  subst Z;refine(ai (fu_:=10) (r:=()) V).Ag ?_;rintro w E' B' hle ⟨O,rfl⟩;exact⟨O,OL.nil,V⟩
 ·refine(fa hW K).Ag ?_;rintro w E' B' hle ⟨ac,O,rfl,U⟩;exact⟨O,U.1,U.2⟩
def f90(fu_:Nat)(p0:Ax):Option (Ax):= (f129 fu_ p0).bind λK=> (f130 fu_ K).bind λO=> some O
theorem fh{a1:An}{c2:Nat}{p0:Ax}(al:Al Aw E a1 c2 p0){fu_:Nat}{r:Ax}(Z:f90 fu_ p0=some r):AK J 85 [sV a1 p0 c2] E [] (λw E' B'=>∃(ac:An) (ag:Nat),w= sV ac r ag/\B'= []/\Al Aw E' ac ag r):=by
 refine Bi func85 λQ a9 cs H am ap=>?_;unfold f90 at Z;obtain⟨bb,aq,av⟩:=bs Z;refine C 7 V (BY (dM al aq) V V (A1 func113 V) am ?_);rintro _ be bi aw ⟨K,O,_,rfl,rfl,ay⟩ az;obtain⟨U,a0,a2⟩:=bs av;refine C 5 V (Ch 1 (aL ay a0) V V (A1 func114 V) az V ?_);rintro _ bn bo a3 ⟨rfl,a4,Y⟩ a5;refine EH (L':= [(6,.tuple #[]),(0,.slice K U.length O),(2,.slice none 0 0),(3,.slice a1 p0.length c2),(4,.slice K U.length O),(5,.slice K U.length O)]) ⟨V,by rw [Y];rfl,V,V,by rw [Y];rfl,by rw [Y];rfl,trivial⟩ ?_;refine C 6 V (Cj 1 a4 a5 V λbv a6 a7 a8=>?_);obtain rfl:=oi a2;exact AS func85 V V (ap ((aw.Ad a3).Ad a6) V ⟨K,O,V,V,a7⟩ a8)
end Pal
namespace Pal
open Go Go.Conc
variable {P:Program}{Q:Gs_}{n:Nat}{ds:Ld_}{ops:Ao_}{k:Li_}{cs:Lf_}{m:Nat}{L:Env}{s:St}{E H:LH}{S:List Seg}
variable {d:Option Tmp}{t ty:TypeId}{p:String}{af:Ae_}{g:On_}{v:Value}
section
variable {J:Judge P}{b:Frame}{fuel:Nat}{listed:Array Bool}
variable {x y:Operand}{e:TypeId}{i:Nat}
theorem Take.y0{oi:Oper}(hi:ops[i]? =some oi)(K:(!Eo oi.op&&Bj n oi.dst)=true)(hw:AP L ops oi=some true)(O:∀ρ,EV L ρ->Yl P oi ρ s v)
  (h:AQ J Q b n ds ops k cs m Dy fuel (Bb listed i) (Av L oi.dst v) s):Take J Q b n ds ops k cs m Dy fuel listed L s i:=
 Take.Nn hi K hw λρ U=>by
  have:=O ρ U
  unfold Yl at this
  refine Ej _ this ?_ (λ_ _ h=>h)
  rintro Y s' ⟨rfl,rfl⟩
  exact h
end
def G2{P:Program}(J:Judge P)(f:FuncId)(args:Lv_)(E:LH)(B:Seg)(p:Bool)(pv:Value)(R:Value->LH->Seg->Prop):Prop:=
 ∀(Q:Gs_) (bc:Frame) (Tc:Av_) (dsc:Ld_) (K:Li_) (cs:Lf_) (H:LH),Nd E H B->
  (p=false->∀v E' B',Le E E'->R v E' B'->Nd E' H B'->J.ok Q (G ((fr bc Tc dsc K).finish v) cs) (mk E' H B'))->
  (p=true->∀E' B',Le E E'->Nd E' H B'->J.ok Q (G (Hk bc Tc dsc K (raised pv)) cs) (mk E' H B'))->
  J.ok Q (G (Frame.enter P f args.toArray .normal) (fr bc Tc dsc K::cs)) (mk E H B)
variable {bc:Frame}{dsc:Ld_}{rest:List Nat}{pp:String}{pv:Value}
section
variable {J:Judge P}{b:Frame}{i:Nat}{e:TypeId}
theorem G2.enter{f:FuncId}{fn:Func}{c:Code}{vs:Lv_}{B:Seg}{R:Value->LH->Seg->Prop}{p:Bool}(ac:P.funcs[f]? =some fn)(hb:fn.body=some c)(ay:vs.length<=fn.ntmps)
  (h:∀(Q:Gs_) (bc:Frame) (Tc:Av_) (dsc:Ld_) (O:Li_) (cs:Lf_) (H:LH),Aq E H [B]->
   (p=false->∀v E' S' B',Le E E'->S'.flatten=B'->R v E' B'->Aq E' H S'->J.ok Q (G ((fr bc Tc dsc O).finish v) cs) (Ak E' H S'))->
   (p=true->∀E' S',Le E E'->Aq E' H S'->J.ok Q (G (Hk bc Tc dsc O (raised pv)) cs) (Ak E' H S'))->
   JL J Q (base f) fn.ntmps (Gv 0 vs) [] [.code c] (fr bc Tc dsc O::cs) (Ak E H [B])):G2 J f vs E B p pv R:=λQ bc Tc dsc O cs H ag al K=>by
 have he:Frame.enter P f vs.toArray .normal=fr (base f) (vs.toArray++Array.replicate (fn.ntmps - vs.length) undef) [] [.code c]:=by
  simp [Frame.enter,fr,ac,hb,base];rfl
 have am:mk E H B=Ak E H [B]:=by unfold Ak;simp
 rw [he,am];refine h Q bc Tc dsc O cs H (by unfold Aq;simpa using ag) (λU v E' S' B' hle ap aq Y=>?_) (λU E' S' hle Y=>?_) _ ⟨by simp;omega,λt v av=>?_⟩
 ·subst ap;exact al U v E' S'.flatten hle aq Y
 ·exact K U E' S'.flatten hle Y
 ·obtain⟨_,K⟩:=Ke av;have aw:t<vs.length:=by
   rcases Nat.lt_or_ge t vs.length with Z | Z
   ·exact Z
   ·simp at K;have:=(List.getElem?_eq_some_iff.1 K).1;omega
  rw [Array.getD_eq_getD_getElem?,Array.getElem?_append_left (by simpa using aw)];simp at K;simp [K]
theorem Yd{x:Operand}{f:FuncId}{caps:Lv_}{args:Array Operand}{ats:Array TypeId}{s:St}{vs:Lv_}(hb:DL P f=true)
  (U:ops[i]? =some ⟨d,.call ⟨.value x,args,ats⟩,ty,pp,af,g⟩) (hw:AP L ops ⟨d,.call ⟨.value x,args,ats⟩,ty,pp,af,g⟩=some true) (O:((b.kind != .early)&&Bj n d)=true)
  (Y:ev L x=some (.func (.func f) #[] caps.toArray)) (Z:evs L args.toList=some vs)
  (h:∀T,Has n L T->J.ok Q (G (Frame.enter P f (vs++caps).toArray .normal) (fr b T ds (.inRegion ops (i::rest)::k)::cs)) s):
  JL J Q b n L ds (.inRegion ops (i::rest)::k) cs s:=λT K=>by
 simp only [Bool.and_eq_true] at O
 have ac:args.map (Bx T)=vs.toArray:=by
  rw [← Gc K.Gi Z];apply Array.ext';simp
 refine Judge.oper U (Ca K hw) (by simpa using O.1) (.inr λc ag=>by cases ag) ?_;have hd:lp P (execOp (Bx T) ⟨d,.call ⟨.value x,args,ats⟩,ty,pp,af,g⟩) s (upon J Q b T ds ops i rest k cs d) (L5 J Q b T ds ops i rest k cs):=by
  have al:execOp (Bx T) ⟨d,.call ⟨.value x,args,ats⟩,ty,pp,af,g⟩=(do let d ← Deferred.ofValue (.func (.func f) #[] caps.toArray) vs.toArray;invoke d.target d.args):=by
   simp only [execOp,resolve,ac,K.Gi _ _ Y]
  rw [al];simp only [Deferred.ofValue,bind,Sem.bind,pure,invoke];have e: #[]++vs.toArray++caps.toArray=(vs++caps).toArray:=by simp
  rw [e];exact I5 hb (h T K)
 exact hd
theorem XT{f:FuncId}{args:Array Operand}{ats:Array TypeId}{s:St}{vs:Lv_}(hb:DL P f=true)
  (U:ops[i]? =some ⟨d,.call ⟨.value (.func f),args,ats⟩,ty,pp,af,g⟩) (hw:AP L ops ⟨d,.call ⟨.value (.func f),args,ats⟩,ty,pp,af,g⟩=some true) (O:((b.kind != .early)&&Bj n d)=true)
  (Y:evs L args.toList=some vs)
  (h:∀T,Has n L T->J.ok Q (G (Frame.enter P f vs.toArray .normal) (fr b T ds (.inRegion ops (i::rest)::k)::cs)) s):
  JL J Q b n L ds (.inRegion ops (i::rest)::k) cs s:=λT K=>by
 simp only [Bool.and_eq_true] at O
 have Z:args.map (Bx T)=vs.toArray:=by
  rw [← Gc K.Gi Y];apply Array.ext';simp
 refine Judge.oper U (Ca K hw) (by simpa using O.1) (.inr λc ac=>by cases ac) ?_;have hd:lp P (execOp (Bx T) ⟨d,.call ⟨.value (.func f),args,ats⟩,ty,pp,af,g⟩) s (upon J Q b T ds ops i rest k cs d) (L5 J Q b T ds ops i rest k cs):=by
  simp only [execOp,resolve,bind,Sem.bind,Deferred.ofValue,Bx,pure,invoke];have e: #[]++args.map (Bx T)++ #[]=vs.toArray:=by rw [Z];simp
  rw [e];exact I5 hb (h T K)
 exact hd
theorem bp{g:Frame}{s:St}(O:s.q=false)(h:(∃w,Fits s w)->J.ok Q (G g cs) s):J.ok Q (G g cs) s:=by
 by_cases K:∃w,Fits s w
 ·exact h K
 ·exact J.step ⟨V,λw f=>absurd ⟨w,f⟩ K,λe=>by subst e;cases O⟩
theorem G2.use{f:FuncId}{vs:Lv_}{B:Seg}{R:Value->LH->Seg->Prop}{p:Bool}{Tc:Av_}{Y:Li_}(j:Nat)(ap:G2 J f vs E B p pv R)(ac:Aq E H S)(ag:S[j]? =some B)
  (Z:p=false->∀v E' B',Le E E'->R v E' B'->Aq E' H (S.set j B')->J.ok Q (G ((fr bc Tc dsc Y).finish v) cs) (Ak E' H (S.set j B')))
  (aq:p=true->∀E' B',Le E E'->Aq E' H (S.set j B')->J.ok Q (G (Hk bc Tc dsc Y (raised pv)) cs) (Ak E' H (S.set j B'))):
  J.ok Q (G (Frame.enter P f vs.toArray .normal) (fr bc Tc dsc Y::cs)) (Ak E H S):=by
 have K:S.flatten.Perm (B++(S.set j []).flatten):=(Ey (seg':=B) ag).1.trans List.perm_append_comm;have al:Nd E H (B++(S.set j []).flatten):=Nd.perm ac K;have av:Ak E H S=mk E (Bh (S.set j []).flatten H) B:=by
  rw [show Ak E H S=mk E H S.flatten from rfl,Fp ac K];unfold mk;rw [FV]
 have aw:Nd E H (S.set j []).flatten:=by
  have:=al;rw [Nd.iff] at this ⊢;rw [List.map_append,List.nodup_append] at this;exact⟨this.1.2.1,λq ay=>this.2 q (List.mem_append_right _ ay)⟩
 have back:∀(g:Frame) (E':LH) (B':Seg),Le E E'->Nd E' (Bh (S.set j []).flatten H) B'->(Aq E' H (S.set j B')->J.ok Q (G g cs) (Ak E' H (S.set j B')))->J.ok Q (G g cs) (mk E' (Bh (S.set j []).flatten H) B'):=λg E' B' hle U az=>by
  have e2:mk E' (Bh (S.set j []).flatten H) B'=mk E' H (B'++(S.set j []).flatten):=by unfold mk;rw [FV]
  refine bp V λ⟨w,a0⟩=>?_;have a1:Nd E' H (S.set j []).flatten:=aw.grow λx a2=>by
   have a3:=a0.d x a2;have Z:Bh B' (Bh (S.set j []).flatten H) x=none:=a3;exact(H0 Z).1
  have O:Nd E' H (B'++(S.set j []).flatten):=Nd.glue U a1;rw [e2];have am:(B'++(S.set j []).flatten).Perm (S.set j B').flatten:=List.perm_append_comm.trans (Ey ag).2.symm;rw [Fp O am];exact az (Nd.perm O am)
 rw [av];refine ap Q bc Tc dsc Y cs _ (Nd.front al) (λK v E' B' hle a4 U=>back _ E' B' hle U λO=>Z K v E' B' hle a4 O) (λK E' B' hle U=>back _ E' B' hle U λO=>aq K E' B' hle O)
theorem SI{x:Operand}{f:FuncId}{caps:Lv_}{args:Array Operand}{ats:Array TypeId}{vs:Lv_}{seg:Seg}{R:Value->LH->Seg->Prop}{p:Bool}(j:Nat)(hb:DL P f=true)
  (ac:G2 J f (vs++caps) E seg p pv R) (Y:ops[i]? =some ⟨d,.call ⟨.value x,args,ats⟩,ty,pp,af,g⟩) (hw:AP L ops ⟨d,.call ⟨.value x,args,ats⟩,ty,pp,af,g⟩=some true) (K:((b.kind != .early)&&Bj n d)=true)
  (ag:ev L x=some (.func (.func f) #[] caps.toArray)) (al:evs L args.toList=some vs) (am:Aq E H S) (ap:S[j]? =some seg)
  (aq:p=true->∀E' seg',Le E E'->Aq E' H (S.set j seg')->JP J Q b n L ds cs (raised pv) (Ak E' H (S.set j seg')))
  (av:p=false->∀v E' seg',Le E E'->R v E' seg'->Aq E' H (S.set j seg')->JL J Q b n (Av L d v) ds (.inRegion ops rest::k) cs (Ak E' H (S.set j seg'))):
  JL J Q b n L ds (.inRegion ops (i::rest)::k) cs (Ak E H S):=
 Yd hb Y hw K ag al λT Z=>G2.use j ac am ap
  (λO v E' B' hle aw U=>by
   rw [GO (o:=⟨d,.call ⟨.value x,args,ats⟩,ty,pp,af,g⟩) _ _ _ _ _ Y]
   simp only [Bool.and_eq_true] at K
   exact av O v E' B' hle aw U _ (Z.put K.2 v))
  (λO E' B' hle U=>aq O E' B' hle U T Z _)
theorem XV{f:FuncId}{args:Array Operand}{ats:Array TypeId}{vs:Lv_}{seg:Seg}{R:Value->LH->Seg->Prop}{p:Bool}(j:Nat)(hb:DL P f=true)
  (ac:G2 J f vs E seg p pv R) (Y:ops[i]? =some ⟨d,.call ⟨.value (.func f),args,ats⟩,ty,pp,af,g⟩) (hw:AP L ops ⟨d,.call ⟨.value (.func f),args,ats⟩,ty,pp,af,g⟩=some true) (K:((b.kind != .early)&&Bj n d)=true)
  (ag:evs L args.toList=some vs) (al:Aq E H S) (am:S[j]? =some seg)
  (ap:p=true->∀E' seg',Le E E'->Aq E' H (S.set j seg')->JP J Q b n L ds cs (raised pv) (Ak E' H (S.set j seg')))
  (aq:p=false->∀v E' seg',Le E E'->R v E' seg'->Aq E' H (S.set j seg')->JL J Q b n (Av L d v) ds (.inRegion ops rest::k) cs (Ak E' H (S.set j seg'))):
  JL J Q b n L ds (.inRegion ops (i::rest)::k) cs (Ak E H S):=
 XT hb Y hw K ag λT Z=>G2.use j ac al am
  (λO v E' B' hle av U=>by
   rw [GO (o:=⟨d,.call ⟨.value (.func f),args,ats⟩,ty,pp,af,g⟩) _ _ _ _ _ Y]
   simp only [Bool.and_eq_true] at K
   exact aq O v E' B' hle av U _ (Z.put K.2 v))
  (λO E' B' hle U=>ap O E' B' hle U T Z _)
theorem Za{ρ:Operand->Value}{x y z1:Operand}{s:St}{p:String}{a:Option Addr}{l c K m:Nat}{hi:Int}(O:∀ad,a=some ad->ad.spot=none∨c=0)(U:m<=c)(he:hi=(m:Int))(Y:P.underlying t=some (.slice e))(Z:Bo P e=some K)(ac:ρ x= .slice a l c)(ag:ρ y=iV hi)(al:ρ z1=iV hi):
  Yl P ⟨d,.slice t x none (some y) (some z1),ty,p,af,g⟩ ρ s (.slice a m m):=by
 subst he;have h:=Yl.slice (P:=P) (s:=s) (d:=d) (ty:=ty) (p:=p) (af:=af) (g:=g) (olo:=none) (ohi:=some y) (omx:=some z1) (lo:=0) (hi:=m) (mx:=m) Y Z ac al ag V U (Nat.le_refl _) (Nat.zero_le _);have am:(if m=0 then a else a.map (·.add (0*K)))=a:=by
  split
  ·rfl
  ·cases a with
   | none=>rfl
   | some ad=>
    have:=(O ad rfl).resolve_right (by omega);simp only [Option.map_some,Nat.zero_mul];rw [Ed this];obtain⟨b,o,sp⟩:=ad;simp only at this;subst this;simp
 rw [am] at h;simpa using h
theorem Al.fY{α:Type}{q:Rp α}{a:Option Addr}{c:Nat}{xs ys:List α}{hi:Int}(U:Al q E a c xs)(hC:HL xs 0 hi=some ys):Al q E a c ys/\ys.length<=c/\hi=(ys.length:Int):=by
 unfold HL at hC;split at hC
 rotate_left
 ·cases hC
 rename_i hb;obtain⟨Z,ac,ag⟩:=hb;cases hC;have al:=U.1;have hlen:(((xs.take hi.toNat).drop (0:Int).toNat)).length=hi.toNat:=by simp;omega
 refine⟨⟨by rw [hlen];omega,?_⟩,by rw [hlen];omega,by rw [hlen];omega⟩;rcases U.2 with⟨h,O⟩ | ⟨bk,off,Y,O⟩
 ·exact .inl ⟨by rw [h];simp,O⟩
 ·refine .inr ⟨bk,off,Y,λi x K=>O i x ?_⟩;simp only [Int.toNat_zero,List.drop_zero] at K;rw [List.getElem?_take] at K;split at K
  ·exact K
  ·cases K
theorem Take.Qg{m fuel:Nat}{listed:Array Bool}{x y:Operand}{p:String}{α:Type}{q:Rp α}{t1:TypeId}{Y c cx:Nat}{a ax:Option Addr}{xs ys Z:List α}{ats:Array TypeId}{z:Value}(U:Ep xs ys=some Z)
  (aw:ops[i]? =some ⟨d,.call ⟨.builtin .append,#[x,y],ats⟩,ty,p,af,g⟩) (hw:AP L ops ⟨d,.call ⟨.builtin .append,#[x,y],ats⟩,ty,p,af,g⟩=some true) (ay:Bj n d=true)
  (az:ev L x=some (.slice a xs.length xs.length)) (a0:ev L y=some (.slice ax ys.length cx)) (a1:ats[0]? =some t) (a2:ats[1]? =some t1) (a3:P.underlying t=some (.slice e)) (a4:P.underlying t1=some (.slice e)) (a5:Bo P e=some q.n) (hb:F0 P e=some Y) (a6:zeroOf P e=some z) (a7:z.cells.size=q.n)
  (a8:0<Y) (a9:Y<=64) (ac:Al q E a c xs) (bb:Al q E ax cx ys) (ag:Aq E H S)
  (h:∀E' al K,Le E E'->Al q E' al K Z->Aq E' H (S++ [[]])->AQ J Q b n ds ops k cs m Dy fuel (Bb listed i) (Av L d (.slice al Z.length K)) (Ak E' H (S++ [[]]))):
  Take J Q b n ds ops k cs m Dy fuel listed L (Ak E H S) i:=by
 unfold Ep at U;split at U
 rotate_left
 ·cases U
 rename_i be;cases U;obtain⟨wss,am,bi,bn,ci⟩:=Al.MH (H:=H) (B:=S.flatten) ac.full;obtain⟨bo,bv,bw,bx,bz⟩:=Al.MH (H:=H) (B:=S.flatten) bb;have hlen:(xs++ys).length=xs.length+ys.length:=by simp
 show Take J Q b n ds ops k cs m Dy fuel listed L (mk E H S.flatten) i;refine Take.Nn aw (by simp [Eo,ay]) hw λρ ap=>?_;rw [Mo,ap x _ az,ap y _ a0];refine As _ _ (RY a1 a2 a4 a3 a5 hb a6 a7 ag bn bx bz a8 be a9 ?_ ?_)
 ·intro hm;have b0:ys= []:=List.eq_nil_of_length_eq_zero hm;subst b0;have b1:Aq E H (S++ [[]]):=by unfold Aq at*;rw [G7,List.append_nil];exact ag
  have b2:mk E H S.flatten=Ak E H (S++ [[]]):=by unfold Ak;rw [G7,List.append_nil]
  rw [b2];have:=h E a xs.length (Le.refl _) (by rw [List.append_nil];exact ac.full) b1;rw [hlen] at this;exact this
 ·intro r O K b3 b4 b5 b6;have ca:OL e q E (some ⟨r,0,none⟩) K [(r,.cells O e (0,0))] (xs++ys):=
   ⟨wss++bo,.inr ⟨r,O,rfl,rfl,b4,by rw [hlen];exact b3,by rw [hlen,List.flatten_append];exact b5.symm⟩,by simp [am,bv],NU am bi bw⟩
  have aq:=FJ (S:=S) (seg:= [(r,.cells O e (0,0))]) b6;show AQ J Q b n ds ops k cs m Dy fuel _ _ (mk E H (S.flatten++ [(r,.cells O e (0,0))]));rw [aq.1];refine Ga S.length ca aq.2 (by simp) λE' hle cc av=>?_;have ce:(S++ [[(r,Obj.cells O e (0,0))]]).set S.length []=S++ [[]]:=I7 _ _ _ _;rw [ce] at av ⊢;have:=h E' (some ⟨r,0,none⟩) K hle cc av;rw [hlen] at this;exact this
theorem WN{ρ:Operand->Value}{x:Operand}{s:St}{p:String}{v:Value}{xt t1:TypeId}{f1:Array Field}(K:P.underlying t1=some (.struct f1))(O:ρ x= .iface t1 v):Yl P ⟨d,.typeAssert x xt t1 true,ty,p,af,g⟩ ρ s (.tuple #[v,.bool true]):=by
 refine Fz (sm:=Instr.typeAssert (ρ x) xt t1 true) V ?_;rw [O];unfold Instr.typeAssert;refine As _ _ (Cq K ?_);simp [lp,pure]
theorem WS{ρ:Operand->Value}{x:Operand}{s:St}{p:String}{z:Value}{xt t1:TypeId}{f1:Array Field}(K:P.underlying t1=some (.struct f1))(O:zeroOf P t1=some z)(U:ρ x= .nilIface):Yl P ⟨d,.typeAssert x xt t1 true,ty,p,af,g⟩ ρ s (.tuple #[z,.bool false]):=by
 refine Fz (sm:=Instr.typeAssert (ρ x) xt t1 true) V ?_;rw [U];unfold Instr.typeAssert;refine As _ _ (Cq K ?_);exact As (x:=zeroValue t1) _ (H2 O ⟨V,V⟩)
end
end Pal
