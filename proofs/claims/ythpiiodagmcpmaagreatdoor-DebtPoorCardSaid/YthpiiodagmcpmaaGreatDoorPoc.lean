/- DebtPoor: a part (3 of 9) of the proof of its row. -/
import Derived.Test.YthpiiodagmcpmaaGreatDoorPoa
import Derived.Test.YthpiiodagmcpmaaGreatDoorPob
import Derived.Test.YthpiiodagmcpmaaGreatDoorProg
import Derived.ProofKit
set_option linter.all false
set_option maxRecDepth 100000
namespace Pal
open Go Go.Conc
variable {P:Program}
section
variable (J:Judge P)(Q:Gs_)(b:Frame)(ds:Ld_)(ops:Ao_)(k:Li_)(cs:Lf_)(X D D0:Nat->Bool)
def JB:Nat->Array Bool->Av_->St->Prop
 | 0,listed,T,s=>Region.ready .any ops listed= []/\J.ok Q (G (fr b T ds (.inRegion ops []::k)) cs) s
 | fuel+1,listed,T,s=>
  Region.ready .any ops listed≠ []/\s.q=false/\∀i∈Region.ready .any ops listed,∀o,ops[i]? =some o->(∀c,o.op≠ .defer c)/\
   (Region.wanted o (yielded ops T)=false->JB fuel (Bm listed i) (CU T o.dst undef) s)/\
   (Region.wanted o (yielded ops T)=true->X i=true->lp P (execOp (BJ T) o) s (λK s'=>(∀x u,D0 x=true->s.get x=some u->s'.get x=some u)/\match K with
    | .value v=>JB fuel (Bm listed i) (CU T o.dst v) s'
    | .skip=>JB fuel (Bm listed i) (CU T o.dst undef) s'
    | _=>False) (λ_ _=>False))/\
   (Region.wanted o (yielded ops T)=true->X i=false->lp P (execOp (BJ T) o) (Bz D s) (λK s'=>match K with
    | .value v=>JB fuel (Bm listed i) (CU T o.dst v) (Cy D s s')
    | .skip=>JB fuel (Bm listed i) (CU T o.dst undef) (Cy D s s')
    | _=>False) (λ_ _=>False))
variable {J Q b ds ops k cs X D D0}
theorem aT(Z:b.kind≠ .early):∀(fuel t:Nat) (listed:Array Bool) (T:Av_) (s:St),JB J Q b ds ops k cs X D D0 fuel listed T s->
  J.ok Q (G (fr b T ds (.inRegion ops (Region.linearise.go .any ops fuel t listed [])::k)) cs) s:=by
 intro fuel
 induction fuel with
 | zero=>intro t listed T s h;simpa [Region.linearise.go] using h.2
 | succ fuel O=>
  intro t listed T s h;obtain⟨al,am,h⟩:=h;obtain⟨i,hi⟩:∃i,(Region.ready .any ops listed)[t % (Region.ready .any ops listed).length]? =some i:=by
   have:0<(Region.ready .any ops listed).length:=List.length_pos_iff.2 al;exact⟨_,List.getElem?_eq_getElem (Nat.mod_lt _ this)⟩
  have ac:=List.mem_of_getElem? hi;have hgo:Region.linearise.go .any ops (fuel+1) t listed []=i::Region.linearise.go .any ops fuel (t / (Region.ready .any ops listed).length) (Bm listed i) []:=by
   simp only [Region.linearise.go];change (match(Region.ready .any ops listed)[t % (Region.ready .any ops listed).length]? with
    | some i=>Region.linearise.go .any ops fuel (t / (Region.ready .any ops listed).length) (listed.setIfInBounds i true) [i]
    | none=> [].reverse)=_
   rw [hi];simp only;rw [linearise_go_acc];rfl
  rw [hgo];obtain⟨_,o,U,_⟩:=mem_ready.1 ac;obtain⟨hd,ap,aq,av⟩:=h i ac o U;cases hw:Region.wanted o (yielded ops T) with
  | false=>exact Judge.unwanted U hw (O _ _ _ _ (ap hw))
  | true=>
   cases ag:X i with
   | true=>
    refine Judge.oper U hw Z (.inr hd) (Er _ (aq hw ag) ?_ (λ_ _ h=>h.elim));rintro Y s' ⟨_,K⟩;cases Y with
    | value v=>exact O _ _ _ _ K
    | skip=>exact O _ _ _ _ K
    | _=>exact K.elim
   | false=>
    refine Judge.U0 D U hw Z hd am (Er _ (av hw ag) ?_ (λ_ _ h=>h));intro Y s' K;cases Y with
    | value v=>exact O _ _ _ _ K
    | skip=>exact O _ _ _ _ K
    | _=>exact K.elim
def waitAll(ops:Ao_)(X:Nat->Bool)(i:Nat):Bool:=(List.range ops.size).all λj=> !X j || waits ops ops.size j i
theorem dq{D:Nat->Bool}{s s':St}(K:s'.E=(Bz D s).E){x:Nat}{o:Obj}(h:s.E x=some o):(Cy D s s').E x=some o:=by
 by_cases hd:D x
 .simp [Cy,hd,h]
 .have:=congrFun K x;simp [Bz,hd] at this;simp [Cy,hd,this,h]
theorem dQ{D0 D:Nat->Bool}{s:St}(h:∀x,D0 x=true->D x=true):∀x o,(Bz D0 s).E x=some o->(Bz D s).E x=some o:=λx o K=>by
 simp only [Bz] at K ⊢
 split
 .split at K
  .exact K
  .unfold St.get;rw [K]
 .rename_i hd;rw [if_neg (λe=>hd (h x e))] at K;exact K
theorem iX{D0:Nat->Bool}{s s':St}(h:∀x o,(Bz D0 s).E x=some o->s'.E x=some o):∀x o,s.E x=some o->s'.E x=some o:=λx o K=>h x o (by
 simp only [Bz];split
 .unfold St.get;rw [K]
 .exact K)
theorem ba{D0:Nat->Bool}{s s':St}(h:∀x u,D0 x=true->s.get x=some u->s'.get x=some u)(O:s'.E=s.E):∀x o,(Bz D0 s).E x=some o->(Bz D0 s').E x=some o:=λx o K=>by
 simp only [Bz] at K ⊢
 split
 .rename_i hd;rw [if_pos hd] at K;exact h x o hd K
 .rename_i hd;rw [if_neg hd] at K;rw [O];exact K
theorem SN{D0 D:Nat->Bool}{s s':St}(h:∀x,D0 x=true->D x=true)(O:s'.E=(Bz D s).E):∀x o,(Bz D0 s).E x=some o->(Bz D0 (Cy D s s')).E x=some o:=λx o K=>by
 simp only [Bz] at K ⊢
 split
 .rename_i hd;rw [if_pos hd] at K
  unfold St.get Cy;simp only [h x hd,if_true];exact K
 .rename_i hd;rw [if_neg hd] at K;exact dq O K
theorem T6{i:Nat}{oi:Oper}{w pure:Bool}{v:Value}(bz:∀x,D0 x=true->D x=true)(hi:ops[i]? =some oi)(c3:X i=false)(ce:(pure || waitAll ops X i)=true)(c4:Region.noSelect ops=true)(c5:∀c,oi.op≠ .defer c):
  ∀(fuel:Nat) (listed:Array Bool) (T:Av_) (s:St),Jt ops listed i oi=true->Ik ops listed=true->listed.size=ops.size->i∈Region.ready .any ops listed->s.q=false->Region.wanted oi (yielded ops T)=w->
   (w=true->∀s',s'.q=false->(∀x o,(Bz D0 s).E x=some o->s'.E x=some o)->(pure=false->∀x o,(Bz D s).E x=some o->s'.E x=some o)->Yl P oi (BJ T) s' v)->
   JB J Q b ds ops k cs X D D0 fuel (Bm listed i) (CU T oi.dst (if w then v else undef)) s->JB J Q b ds ops k cs X D D0 (fuel+1) listed T s:=by
 have av:∀(j:Nat) (al:Oper),ops[j]? =some al->∀cs b,al.op≠Op.select cs b:=λj al h cs b=>Region.noSelect_spec c4 j al cs b h;intro fuel
 induction fuel with
 | zero=>?_
 | succ fuel a2=>?_
 all_goals
  intro listed T s ci co a3 bv a4 hw aw h;refine⟨λe=>(by rw [e] at bv;cases bv),a4,λj cp al U=>?_⟩;by_cases a5:j=i
  .subst a5;obtain rfl:al=oi:=by rw [hi] at U;exact(Option.some.inj U).symm
   refine⟨c5,λO=>?_,λay K=>?_,λay K=>?_⟩
   .rw [O] at hw;subst hw;exact h
   .rw [c3] at K;cases K
   .rw [ay] at hw;subst hw;refine Er _ (aw V (Bz D s) a4 (dQ bz) λ_ _ _ h=>h).out ?_ (λ_ _ h=>h);rintro bw s' ⟨rfl,rfl⟩;rw [L3];exact h
  ·
   have ct:j∈Region.ready .any ops (Bm listed i):=ready_mono cp a5;obtain⟨az,Y,cw,b0⟩:=mem_ready.1 cp;obtain rfl:Y=al:=by rw [U] at cw;exact(Option.some.inj cw).symm
   have b1:=(mem_ready.1 bv).1;have c6:(Y.after.any λe=>Region.binds .any e&&e.on==i)=false:=by
    rw [Array.any_eq_false];intro e he K;simp only [Bool.and_eq_true,beq_iff_eq] at K;have:=b0 _ (Array.getElem_mem he) K.1;rw [K.2] at this;have a0:listed.getD i true=listed.getD i false∨listed.size<=i:=by
     rcases Nat.lt_or_ge i listed.size with q | q
     .left;simp [Array.getD_eq_getD_getElem?,q]
     .exact .inr q
    rcases a0 with a0 | a0
    .rw [b1,this] at a0;cases a0
    .rw [Array.getD_eq_getD_getElem?,Array.getElem?_eq_none a0] at this;simp at this
   have c7:oi.apart ops Y=true:=by
    have b2:j<ops.size:=(Array.getElem?_eq_some_iff.1 U).1;have:=List.all_eq_true.1 ci j (List.mem_range.2 b2);simp only [Bool.or_eq_true,beq_iff_eq] at this;rcases this with(q | q) | q
    .exact absurd q a5
    .rw [az] at q;cases q
    .rw [U] at q;simp only [Bool.or_eq_true] at q;rw [c6] at q;exact q.resolve_left (by simp)
   obtain⟨a1,a6,a7⟩:=Oper.apart_spec c7;obtain⟨p1,p2⟩:=IJ (ops:=ops) (T:=T) (v:=if w then v else undef) (av j Y U) a1
   first
    | exact absurd ct (by rw [h.1];simp)
    | (
     obtain⟨eg,_,h⟩:=h
     obtain⟨hd,O,c8,c9⟩:=h j ct Y U
     have a8:Bm (Bm listed i) j=Bm (Bm listed j) i:=by
      unfold Bm;exact Array.setIfInBounds_comm _ _ (Ne.symm a5)
     have a9:i∈Region.ready .any ops (Bm listed j):=ready_mono bv (Ne.symm a5)
     have bb:Jt ops (Bm listed j) i oi=true:=by
      refine List.all_eq_true.2 λx K=>?_
      have:=List.all_eq_true.1 ci x K
      simp only [Bool.or_eq_true,beq_iff_eq] at this ⊢
      rcases this with(q | q) | q
      .exact .inl (.inl q)
      .left;right
       by_cases e:j=x
       .subst e;rw [az] at q;cases q
       .rw [Bm,getD_set_ne true e];exact q
      .exact .inr q
     have be:(Bm listed j).size=ops.size:=by unfold Bm;simpa using a3
     have bi:Ik ops (Bm listed j)=true:=by
      refine List.all_eq_true.2 λx K=>?_
      cases b3:ops[x]? with
      | none=>simp
      | some dd=>
       simp only [Bool.or_eq_true,Bool.not_eq_true']
       by_cases e:j=x
       .subst e
        obtain rfl:dd=Y:=by rw [U] at b3;exact(Option.some.inj b3).symm
        right
        refine Array.all_eq_true'.2 λe he=>?_
        cases hb:Region.binds .any e with
        | false=>simp
        | true=>
         have:=b0 e he hb
         by_cases e2:j=e.on
         .rw [← e2] at this
          have b4:j<listed.size:=by rw [a3];exact(Array.getElem?_eq_some_iff.1 U).1
          simp [Array.getD_eq_getD_getElem?,b4] at this az
          rw [az] at this;cases this
         .rw [Bm,getD_set_ne false e2];simpa using this
       .cases cy:(Bm listed j).getD x false with
        | false=>exact .inl rfl
        | true=>
         right
         have ea:listed.getD x false=true:=by rw [Bm,getD_set_ne false e] at cy;exact cy
         refine Array.all_eq_true'.2 λb5 he=>?_
         cases hb:Region.binds .any b5 with
         | false=>simp
         | true=>
          have:=Qt co b3 ea b5 he hb
          by_cases e2:j=b5.on
          .rw [← e2] at this
           have b4:j<listed.size:=by rw [a3];exact(Array.getElem?_eq_some_iff.1 U).1
           simp [Array.getD_eq_getD_getElem?,b4] at this az
           rw [az] at this;cases this
          .rw [Bm,getD_set_ne false e2];simpa using this
     refine⟨hd,λeb=>?_,λb6 bx=>?_,λb6 bx=>?_⟩
     .have:=O (by rw [p2];exact eb)
      rw [a8,JW a6] at this
      obtain⟨Z,ac⟩:=IJ (ops:=ops) (T:=T) (d:=Y.dst) (v:=undef) (o:=oi) (av i oi hi) a7
      exact a2 _ _ _ bb bi be a9 a4 (by rw [ac];exact hw) (λag s' ec O am=>by unfold Yl;rw [Z];exact(aw ag s' ec O am).out) this
     ·
      have ed:pure=true:=by
       cases ee:pure with
       | true=>rfl
       | false=>
        exfalso
        rw [ee,Bool.false_or] at ce
        have b2:j<ops.size:=(Array.getElem?_eq_some_iff.1 U).1
        have ay:=List.all_eq_true.1 ce j (List.mem_range.2 b2)
        rw [bx] at ay
        simp only [Bool.not_true,Bool.false_or] at ay
        rcases SV co _ j Y U (λe he hb=>b0 e he hb) ay with q | ⟨x,Z,ac⟩
        .have ef:i<listed.size:=by rw [a3];exact(Array.getElem?_eq_some_iff.1 hi).1
         simp [Array.getD_eq_getD_getElem?,ef] at q b1
         rw [b1] at q;cases q
        .have:¬x<listed.size:=by rw [a3];intro K;simp [K] at Z
         simp [Array.getD_eq_getD_getElem?,this] at ac
      have bn:=P7 _ (c8 (by rw [p2];exact b6) bx)
      rw [p1] at bn
      refine Er _ bn ?_ (λ_ _ h=>h)
      rintro bw s' ⟨⟨ca,K⟩,am,cc⟩
      have c0:=ba ca am
      have bo:s'.q=false:=cc.trans a4
      have c1:pure=false->∀{α:Prop},α:=λe=>by rw [ed] at e;cases e
      cases bw with
      | value u=>
       simp only at K ⊢
       rw [a8,JW a6] at K
       obtain⟨Z,ac⟩:=IJ (ops:=ops) (T:=T) (d:=Y.dst) (v:=u) (o:=oi) (av i oi hi) a7
       exact⟨ca,a2 _ _ _ bb bi be a9 bo (by rw [ac];exact hw) (λag s2 ap O aq=>by unfold Yl;rw [Z];exact(aw ag s2 ap (λx o h=>O x o (c0 x o h)) (λe=>c1 e)).out) K⟩
      | skip=>
       simp only at K ⊢
       rw [a8,JW a6] at K
       obtain⟨Z,ac⟩:=IJ (ops:=ops) (T:=T) (d:=Y.dst) (v:=undef) (o:=oi) (av i oi hi) a7
       exact⟨ca,a2 _ _ _ bb bi be a9 bo (by rw [ac];exact hw) (λag s2 ap O aq=>by unfold Yl;rw [Z];exact(aw ag s2 ap (λx o h=>O x o (c0 x o h)) (λe=>c1 e)).out) K⟩
      | _=>exact K.elim
     .have bn:=P7 _ (c9 (by rw [p2];exact b6) bx)
      rw [p1] at bn
      refine Er _ bn ?_ (λ_ _ h=>h)
      rintro bw s' ⟨K,am,cc⟩
      have c2:=S9 (D:=D) am
      have bo:(Cy D s s').q=false:=by show s'.q=false;rw [cc];exact a4
      cases bw with
      | value u=>
       simp only at K ⊢
       rw [a8,JW a6] at K
       obtain⟨Z,ac⟩:=IJ (ops:=ops) (T:=T) (d:=Y.dst) (v:=u) (o:=oi) (av i oi hi) a7
       exact a2 _ _ _ bb bi be a9 bo (by rw [ac];exact hw) (λag s2 ap O aq=>by unfold Yl;rw [Z];exact(aw ag s2 ap (λx o h=>O x o (SN bz am x o h)) (λe=>by rw [c2] at aq;exact aq e)).out) K
      | skip=>
       simp only at K ⊢
       rw [a8,JW a6] at K
       obtain⟨Z,ac⟩:=IJ (ops:=ops) (T:=T) (d:=Y.dst) (v:=undef) (o:=oi) (av i oi hi) a7
       exact a2 _ _ _ bb bi be a9 bo (by rw [ac];exact hw) (λag s2 ap O aq=>by unfold Yl;rw [Z];exact(aw ag s2 ap (λx o h=>O x o (SN bz am x o h)) (λe=>by rw [c2] at aq;exact aq e)).out) K
      | _=>exact K.elim)
end
section
variable (J:Judge P)(Q:Gs_)(b:Frame)(n:Nat)(ds:Ld_)(ops:Ao_)(k:Li_)(cs:Lf_)(X D D0:Nat->Bool)
def FH(fuel:Nat)(listed:Array Bool)(L:Env)(s:St):Prop:=∀T,Has n L T->JB J Q b ds ops k cs X D D0 fuel listed T s
end
theorem JB.take{i:Nat}{oi:Oper}{w pure:Bool}{v:Value}{P:Program}{J:Judge P}{Q:Gs_}{b:Frame}{ds:Ld_}{ops:Ao_}{k:Li_}{cs:Lf_}{X D D0:Nat->Bool}(K:∀x,D0 x=true->D x=true)(hi:ops[i]? =some oi)(O:X i=false)(U:(pure || waitAll ops X i)=true)(Y:Region.noSelect ops=true)(Z:∀c,oi.op≠ .defer c)
  (fuel:Nat) (listed:Array Bool) (T:Av_) (s:St) (ac:Jt ops listed i oi=true) (ag:Ik ops listed=true) (al:listed.size=ops.size) (am:i∈Region.ready .any ops listed) (ap:s.q=false) (aq:Region.wanted oi (yielded ops T)=w)
  (av:w=true->∀s',s'.q=false->(pure=false->∀x o,(Bz D s).E x=some o->s'.E x=some o)->Yl P oi (BJ T) s' v)
  (h:JB J Q b ds ops k cs X D D0 fuel (Bm listed i) (CU T oi.dst (if w then v else undef)) s):JB J Q b ds ops k cs X D D0 (fuel+1) listed T s:=
 T6 K hi O U Y Z fuel listed T s ac ag al am ap aq (λe s' aw _ ay=>av e s' aw ay) h
def Kb(ops:Ao_)(listed:Array Bool)(xs:List Nat)(pure:Bool)(i:Nat):Bool:=match ops[i]? with
 | some oi=> !AD xs i&&(pure || waitAll ops (AD xs) i)&&Region.noSelect ops&& !Ey oi.op&&Jt ops listed i oi&&Ik ops listed&&listed.size==ops.size&&(Region.ready .any ops listed).contains i
 | none=>false
variable {J:Judge P}{Q:Gs_}{n:Nat}{ds:Ld_}{ops:Ao_}{k:Li_}{cs:Lf_}{X D:Nat->Bool}{l0:List Nat}{L:Env}{s:St}{E H:LH}{S:List Seg}{xl bks:List Nat}
variable {d:Option Tmp}{t u ty:TypeId}{p:String}{af:Ae_}{g:On_}{v:Value}{kd:IntKind}
section
variable {b:Frame}{fuel:Nat}{listed:Array Bool}
variable {x y:Operand}{e:TypeId}{i:Nat}
theorem FO(xl bks l0:List Nat){id:Nat}(hm:P.follows .mixedOrders=true)(K:(b.kind != .early)=true)
  (h:FH J Q b n ds ops k cs (AD xl) (AD (l0++bks)) (AD l0) ops.size (Array.replicate ops.size false) L (Ak E H S)):JL J Q b n L ds (.code (.region id ops true)::k) cs (Ak E H S):=
 UX V hm λt T O=>aT (by simpa using K) ops.size t _ T _ (h T O)
theorem VX:∀x,AD l0 x=true->AD (l0++bks) x=true:=λx h=>by
 simp only [AD,List.contains_iff_mem,List.mem_append] at h ⊢;exact .inl h
theorem JB.val{oi:Oper}(i:Nat)(pure:Bool)(hi:ops[i]? =some oi)(K:Kb ops listed xl pure i=true)(Y:s.q=false)
  (hw:AY L ops oi=some true) (Z:Bu n oi.dst=true) (ac:∀ρ,Fa L ρ->∀s':St,(pure=false->∀x o,(Bz (AD (l0++bks)) s).E x=some o->s'.E x=some o)->Yl P oi ρ s' v)
  (h:FH J Q b n ds ops k cs (AD xl) (AD (l0++bks)) (AD l0) fuel (Bm listed i) (AB L oi.dst v) s):FH J Q b n ds ops k cs (AD xl) (AD (l0++bks)) (AD l0) (fuel+1) listed L s:=λT O=>by
 simp only [Kb,hi,Bool.and_eq_true] at K
 obtain⟨⟨⟨⟨⟨⟨⟨ag,al⟩,am⟩,U⟩,ap⟩,aq⟩,av⟩,aw⟩:=K
 refine JB.take (w:=true) (v:=v) (pure:=pure) VX hi (by simpa using ag) al am (λc K=>by rw [K] at U;simp [Ey] at U) fuel listed T s ap aq (by simpa using av) (by simpa using aw) Y (Ci O hw) (λ_ s' az ay=>ac _ O.Gn s' ay) ?_
 exact h _ (O.put Z v)
theorem cP{oi:Oper}(i:Nat)(hi:ops[i]? =some oi)(K:Kb ops listed xl true i=true)(Y:s.q=false)
  (hw:AY L ops oi=some true) (Z:Bu n oi.dst=true) (ac:∀ρ,Fa L ρ->∀s':St,(∀x o,(Bz (AD l0) s).E x=some o->s'.E x=some o)->Yl P oi ρ s' v)
  (h:FH J Q b n ds ops k cs (AD xl) (AD (l0++bks)) (AD l0) fuel (Bm listed i) (AB L oi.dst v) s):FH J Q b n ds ops k cs (AD xl) (AD (l0++bks)) (AD l0) (fuel+1) listed L s:=λT O=>by
 simp only [Kb,hi,Bool.and_eq_true] at K
 obtain⟨⟨⟨⟨⟨⟨⟨ag,al⟩,am⟩,U⟩,ap⟩,aq⟩,av⟩,aw⟩:=K
 refine T6 (w:=true) (v:=v) (pure:=true) VX hi (by simpa using ag) al am (λc K=>by rw [K] at U;simp [Ey] at U) fuel listed T s ap aq (by simpa using av) (by simpa using aw) Y (Ci O hw) (λ_ s' az ay _=>ac _ O.Gn s' ay) ?_
 exact h _ (O.put Z v)
theorem Hf{oi:Oper}(i:Nat)(hi:ops[i]? =some oi)(K:Kb ops listed xl true i=true)(O:s.q=false)
  (hw:AY L ops oi=some true) (U:Bu n oi.dst=true) (Y:∀ρ,Fa L ρ->∀s':St,(∀x o,s.E x=some o->s'.E x=some o)->Yl P oi ρ s' v)
  (h:FH J Q b n ds ops k cs (AD xl) (AD (l0++bks)) (AD l0) fuel (Bm listed i) (AB L oi.dst v) s):FH J Q b n ds ops k cs (AD xl) (AD (l0++bks)) (AD l0) (fuel+1) listed L s:=
 cP i hi K O hw U (λρ Z s' ac=>Y ρ Z s' (iX ac)) h
theorem JB.fin{l0:List Nat}(K:Region.ready .any ops listed= [])(h:JL J Q b n L ds k cs s):FH J Q b n ds ops k cs X D (AD l0) 0 listed L s:=λT O=>⟨K,JL.done h T O⟩
def NP(S:List Seg)(j:Nat):List Nat->Prop
 | []=>True
 | bk::l=>(∃(i:Nat) (o:Obj),(i==j)=false/\S[i]? =some [(bk,o)])/\NP S j l
theorem NP.mem{S:List Seg}{j:Nat}:∀{l:List Nat},NP S j l->∀bk∈l,∃(i:Nat) (o:Obj),i≠j/\S[i]? =some [(bk,o)]
 | [],_,_,h=>by cases h
 | b::l,⟨⟨i,o,hi,h⟩,K⟩,bk,hb=>by
  rcases List.mem_cons.1 hb with rfl | hb
  .exact⟨i,o,by simpa using hi,h⟩
  .exact K.mem bk hb
theorem JB.store{bk off:Nat}{c:Av_}(i j:Nat)(Y:Region.ready .any ops listed= [i])(av:AD xl i=true)(aw:ops[i]? =some ⟨d,.store t x y,ty,p,af,g⟩)(hw:AY L ops ⟨d,.store t x y,ty,p,af,g⟩=some true)(ay:Bu n d=true)(Z:Au E H S)
  (O:ev L x=some (.pointer (some ⟨bk,off,none⟩))) (az:ev L y=some v) (a0:By P t=some v.cells.size) (a1:∀u∈v.cells.toList,C5 u=true) (ac:S[j]? =some [(bk,.cells c e (0,0))]) (a2:NP S j l0) (hle:off+v.cells.size<=c.size)
  (h:Au E H (S.set j [(bk,.cells (A9 c off v.cells.toList) e (0,0))])->FH J Q b n ds ops k cs (AD xl) (AD (l0++bks)) (AD l0) fuel (Bm listed i) (AB L d undef) (Ak E H (S.set j [(bk,.cells (A9 c off v.cells.toList) e (0,0))]))):
  FH J Q b n ds ops k cs (AD xl) (AD (l0++bks)) (AD l0) (fuel+1) listed L (Ak E H S):=λT K=>by
 refine⟨by rw [Y];simp,rfl,λbe U o' ag=>?_⟩
 rw [Y] at U
 simp at U
 subst U
 obtain rfl:o'=⟨d,.store t x y,ty,p,af,g⟩:=by rw [aw] at ag;exact(Option.some.inj ag).symm
 have a3:=Ci K hw;refine⟨λc a4=>(by cases a4),λe=>?_,λ_ _=>?_,λ_ e=>?_⟩
 .rw [a3] at e;cases e
 .obtain⟨al,a5⟩:=Hg Z ac;rw [al];show lp P (do Instr.storeAt t (BJ T x) (BJ T y);pure Next.skip) _ _ _
  rw [K.ev O,K.ev az];refine Ay _ _ ?_;unfold Instr.storeAt;simp only [Instr.sureAddr,bind,Sem.bind,pure];refine Qs (pl:=(S.set j []).flatten.length) a0 a1 a5 (c:=c) (e:=e) (by simp) hle λam=>?_;have a6:((S.set j []).flatten++ [(bk,Obj.cells c e (0,0))]).set (S.set j []).flatten.length (bk,.cells (A9 c off v.cells.toList) e (0,0))=(S.set j []).flatten++ [(bk,.cells (A9 c off v.cells.toList) e (0,0))]:=Jl _ _ _ _;rw [a6] at am ⊢;obtain⟨a7,ap⟩:=Jp ac am;rw [a7];refine⟨λx u O a8=>?_,h ap _ (K.put ay undef)⟩;obtain⟨bi,o',a9,aq⟩:=a2.mem x (by simpa [AD] using O);have bb:(Ak E H S).get x=some o':=DO (i:=0) Z aq rfl;have g2:(Ak E H (S.set j [(bk,.cells (A9 c off v.cells.toList) e (0,0))])).get x=some o':=DO (i:=0) ap (by rw [List.getElem?_set_ne (Ne.symm a9)];exact aq) rfl;have g0:(Ak E H S).get x=some u:=by rw [al];exact a8
  rw [bb] at g0;rw [g2];exact g0
 .rw [av] at e;cases e
end
theorem Oq{E H:LH}{S:List Seg}{bks:List Nat}{bk o:Nat}{l ws:Lv_}{e:TypeId}{f:Nat×Nat}{s':St}{w:Value}(j:Nat)(K:Au E H S)(O:S[j]? =some [(bk,.cells (l++ws).toArray e f)])(U:AD bks bk=true)(Y:∀x o,(Bz (AD bks) (Ak E H S)).E x=some o->s'.E x=some o)(Z:ws[o]? =some w):s'.cell? ⟨bk,l.length+o,none⟩=some w:=by
 have:=Ug j K O U Y o w Z
 rwa [Ek rfl] at this
variable {B:List (Nat×Obj)}
section
variable {e:TypeId}
theorem SO{ats:Array TypeId}{a:Option Addr}{l K O m cx:Nat}{ax:Option Addr}{xs ys:Lv_}{z:Value}{Q:Value->St->Prop}{X:Halt->St->Prop}
  (a0:ats[0]? =some t) {t1 a1:TypeId} (a2:ats[1]? =some t1) (a3:P.underlying t1=some (.slice a1)) (a4:P.underlying t=some (.slice e)) (a5:By P e=some K) (hb:F4 P e=some O) (a6:zeroOf P e=some z) (a7:z.cells.size=K)
  (a8:Nd E H B) (al:Im (mk E H B) (.slice a l l) K xs)
  (Z:Im (mk E H B) (.slice ax m cx) K ys) (bx:∀w∈ys,C5 w=true) (bz:0<O) (b0:l+m<=2 ^ 40) (a9:O<=64)
  (ay:m=0->Q (.slice a (l+m) l) (mk E H B))
  (bb:∀r ac am,l+m<=am->ac.size=am*K->ac.toList.take ((l+m)*K)=xs++ys->Nd E H (B++ [(r,.cells ac e (0,0))])->Q (.slice (some ⟨r,0,none⟩) (l+m) am) (mk E H (B++ [(r,.cells ac e (0,0))]))):
  lp P (Builtin.append_ ats ty #[.slice a l l,.slice ax m cx]) (mk E H B) Q X:=by
 unfold Builtin.append_;simp only [a0,a2,List.getElem?_toArray,List.getElem?_cons_zero,List.getElem?_cons_succ];refine Ay _ _ (Cx a4 ?_);refine Ay _ _ (Fh a5 ?_);refine Ay _ _ (Cx a3 ?_);simp only [IG,Bool.false_eq_true,if_false,Builtin.lenOf,Bool.not_false,if_true];have ag:ys.length=m*K:=by
  cases ax with
  | none=>obtain⟨U,Y⟩:=Z;subst U Y;simp
  | some ad=>exact Z.2.1
 have ap:xs.length=l*K:=by
  cases a with
  | none=>obtain⟨U,Y⟩:=al;subst U Y;simp
  | some ad=>exact al.2.1
 obtain⟨c,b1⟩:∃c,c=l:=⟨_,V⟩;split
 .rename_i b2;have hm:m=0:=by omega
  have be:ys= []:=List.eq_nil_of_length_eq_zero (by rw [ag,hm];simp);refine Ay _ _ (K5 ⟨ax,cx,V⟩ Z ?_);subst be;cases a with
  | none=>exact ay hm
  | some ad=>exact ay hm
 .rename_i b3;have U:¬(((l+m:Nat):Int)>IntKind.i64.max/\(False∨O=0)):=by rintro⟨_,h | h⟩ <;> omega
  have Y:¬(Builtin.nextslicecap (l+m) l*O>2 ^ 48):=by
   have:=Tq (need:=l+m) (old:=l) (by omega);have b4:Builtin.nextslicecap (l+m) l*O<=(2*(l+m)+768)*64:=Nat.mul_le_mul this a9;omega
  obtain⟨inf,aq,av⟩:=QM hb;refine Ay _ _ (K7 aq ?_);rw [av,if_neg U];refine Ay _ _ (K7 aq ?_);rw [av,if_neg Y];refine Ay _ _ ?_;simp only [choose,lp,Question.forced,Bool.false_eq_true,if_false];refine⟨V,λbi=>?_⟩;generalize bn:(Question.appendCap (l+m) l e).cut bi=aw;have bo:l+m<=aw:=by rw [← bn];simp [Question.cut]
  refine Ay _ _ (K7 aq ?_);rw [av];have bv:∀{α:Type} {f:Unit->Sem α} {Q:α->St->Prop},lp P (f ()) (mk E H B) Q X->lp P (askRoom (aw*O)>>=f) (mk E H B) Q X:=by
   intro α f Q az;refine Ay _ _ ?_;unfold askRoom;split
   .exact⟨.inl ⟨V,V⟩,az⟩
   .exact az
  refine bv (Ay _ _ (K5 ⟨a,l,V⟩ al ?_));refine Ay _ _ (K5 ⟨ax,cx,V⟩ Z ?_);refine Ay _ _ (H8 a6 ?_);refine Ay _ _ (JX a8 λr bw=>?_);refine bb r _ aw bo ?_ ?_ bw
  .simp only [Array.size_append,List.size_toArray,SJ,a7,ap,ag];rw [← Nat.add_mul,← Nat.add_mul];congr 1;omega
  .simp only [Array.toList_append];rw [List.take_append_of_le_length (by simp [ap,ag,Nat.add_mul])];rw [List.take_of_length_le (by simp [ap,ag,Nat.add_mul])]
end
theorem Ao.spot{α:Type}{pp:Rp α}{E:LH}{a:Option Addr}{c:Nat}{xs:List α}(h:Ao pp E a c xs):∀ad,a=some ad->ad.spot=none∨c=0:=λad K=>by
 rcases h.2 with⟨_,h⟩ | ⟨bk,off,h,_⟩
 .exact h ad K
 .rw [h] at K;cases K;exact .inl rfl
theorem Ao.full{α:Type}{pp:Rp α}{E:LH}{a:Option Addr}{c:Nat}{xs:List α}(h:Ao pp E a c xs):Ao pp E a xs.length xs:=⟨Nat.le_refl _,h.2.imp (λ⟨h,_⟩=>⟨h,λ_ _=> .inr (by rw [h];rfl)⟩) id⟩
theorem Ao.M3{α:Type}{pp:Rp α}{E H:LH}{B:List (Nat×Obj)}{a:Option Addr}{c:Nat}{ys:List α}(ac:Ao pp E a c ys):
  ∃K:List (Lv_),K.length=ys.length/\(∀(i:Nat) x ws,ys[i]? =some x->K[i]? =some ws->pp.r E ws x)/\Im (mk E H B) (.slice a ys.length c) pp.n K.flatten/\∀w∈K.flatten,C5 w=true:=by
 obtain⟨K,U,Z,Y⟩:=ac.rows;have ag:=IM U Z;refine⟨K,U,Z,?_,λw hw=>?_⟩
 .rcases Y with⟨Y,aw⟩ | ⟨bk,off,rfl,Y⟩
  .subst Y;have:K= []:=List.eq_nil_of_length_eq_zero U;subst this;cases a with
   | none=>exact⟨rfl,rfl⟩
   | some ad=>exact⟨.inr rfl,by simp,Nat.zero_le _,λq w O=>by simp at O⟩
  .refine⟨.inl V,by rw [MQ ag,U],ac.1,λq w O=>?_⟩;obtain⟨al,m,ws,am,e2,ap⟩:=Qv ag O;have:=(Y al ws am).cell (H:=H) (B:=B) e2;subst ap;rw [← Nat.add_assoc];exact this
 .obtain⟨us,aq,hw⟩:=List.mem_flatten.1 hw;obtain⟨q,O⟩:=List.mem_iff_getElem?.1 aq;have av:q<ys.length:=by rw [← U];exact(List.getElem?_eq_some_iff.1 O).1
  exact pp.one (Z q _ us (List.getElem?_eq_getElem av) O) w hw
variable {E':LH}
variable {z1:Operand}{rest:List Nat}{ρ:Operand->Value}
section
variable {b:Frame}
variable {x y:Operand}{e:TypeId}{i:Nat}
theorem Ts{a:Option Addr}{l c K:Nat}(O:∀ad,a=some ad->ad.spot=none∨c=0)(U:l<=c)(Y:P.underlying t=some (.slice e))(Z:By P e=some K)(ac:ρ x= .slice a l c)(ag:ρ y=iV (l:Int))(al:ρ z1=iV (l:Int)):
  Yl P ⟨d,.slice t x none (some y) (some z1),ty,p,af,g⟩ ρ s (.slice a l l):=by
 have h:=Yl.slice (P:=P) (s:=s) (d:=d) (ty:=ty) (p:=p) (af:=af) (g:=g) (olo:=none) (ohi:=some y) (omx:=some z1) (lo:=0) (hi:=l) (mx:=l) Y Z ac al ag V U (Nat.le_refl _) (Nat.zero_le _);have am:(if l=0 then a else a.map (·.add (0*K)))=a:=by
  split
  .rfl
  .cases a with
   | none=>rfl
   | some ad=>
    have:=(O ad rfl).resolve_right (by omega);simp only [Option.map_some,Nat.zero_mul];rw [Ek this];obtain⟨b,o,sp⟩:=ad;simp only at this;subst this;simp
 rw [am] at h;simpa using h
theorem X5{α:Type}{pp:Rp α}{t1:TypeId}{Y c cx:Nat}{a ax:Option Addr}{xs ys Z:List α}{ats:Array TypeId}{z:Value}(U:EK xs ys=some Z)
  (aw:ops[i]? =some ⟨d,.call ⟨.builtin .append,#[x,y],ats⟩,ty,p,af,g⟩) (hw:AY L ops ⟨d,.call ⟨.builtin .append,#[x,y],ats⟩,ty,p,af,g⟩=some true) (ay:BU b n ⟨d,.call ⟨.builtin .append,#[x,y],ats⟩,ty,p,af,g⟩=true)
  (az:ev L x=some (.slice a xs.length xs.length)) (a0:ev L y=some (.slice ax ys.length cx)) (a1:ats[0]? =some t) (a2:ats[1]? =some t1) (a3:P.underlying t=some (.slice e)) (a4:P.underlying t1=some (.slice e)) (a5:By P e=some pp.n) (hb:F4 P e=some Y) (a6:zeroOf P e=some z) (a7:z.cells.size=pp.n)
  (a8:0<Y) (a9:Y<=64) (ac:Ao pp E a c xs) (bb:Ao pp E ax cx ys) (ag:Au E H S)
  (h:∀E' al K,Le E E'->Ao pp E' al K Z->Au E' H (S++ [[]])->JL J Q b n (AB L d (.slice al Z.length K)) ds (.inRegion ops rest::k) cs (Ak E' H (S++ [[]]))):
  JL J Q b n L ds (.inRegion ops (i::rest)::k) cs (Ak E H S):=by
 unfold EK at U;split at U
 rotate_left
 .cases U
 rename_i be;cases U;obtain⟨wss,am,bi,bn,ci⟩:=Ao.M3 (H:=H) (B:=S.flatten) ac.full;obtain⟨bo,bv,bw,bx,bz⟩:=Ao.M3 (H:=H) (B:=S.flatten) bb;have hlen:(xs++ys).length=xs.length+ys.length:=by simp
 show JL J Q b n L ds (.inRegion ops (i::rest)::k) cs (mk E H S.flatten);refine JL.op aw hw ay λρ ap=>?_;rw [MP,ap x _ az,ap y _ a0];refine Ay _ _ (SO a1 a2 a4 a3 a5 hb a6 a7 ag bn bx bz a8 be a9 ?_ ?_)
 .intro hm;have b0:ys= []:=List.eq_nil_of_length_eq_zero hm;subst b0;have b1:Au E H (S++ [[]]):=by unfold Au at*;rw [Hc,List.append_nil];exact ag
  have b2:mk E H S.flatten=Ak E H (S++ [[]]):=by unfold Ak;rw [Hc,List.append_nil]
  rw [b2];have:=h E a xs.length (Le.refl _) (by rw [List.append_nil];exact ac.full) b1;rw [hlen] at this;exact this
 .intro r O K b3 b4 b5 b6;have ca:OL e pp E (some ⟨r,0,none⟩) K [(r,.cells O e (0,0))] (xs++ys):=
   ⟨wss++bo,.inr ⟨r,O,rfl,rfl,b4,by rw [hlen];exact b3,by rw [hlen,List.flatten_append];exact b5.symm⟩,by simp [am,bv],Oi am bi bw⟩
  have aq:=FN (S:=S) (seg:= [(r,.cells O e (0,0))]) b6;show JL J Q b n _ ds _ cs (mk E H (S.flatten++ [(r,.cells O e (0,0))]));rw [aq.1];refine Cp S.length ca aq.2 (by simp) λE' hle cc av=>?_;have ce:(S++ [[(r,Obj.cells O e (0,0))]]).set S.length []=S++ [[]]:=Jl _ _ _ _;rw [ce] at av ⊢;have:=h E' (some ⟨r,0,none⟩) K hle cc av;rw [hlen] at this;exact this
end
open Go.ConcN (sumTo sumTo_upd upd upd_ne upd_same)
def Na(P:Program)(R:Value->St->Prop):GP:=λg s=>
 g.status= .running/\∃v,R v s/\∀w,stepG P true g w= .ended (.done v) w #[]
variable {R:Value->St->Prop}
section
variable {b:Frame}
theorem JO.end{fn:Func}{t:Tmp}{v:Value}(K:b.kind= .normal)(hi:P.inits.idxOf? b.fn=none)(O:P.funcs[b.fn]? =some fn)(U:fn.results= #[.tmp t])(Y:look L t=some v)(Z:R v s):JO J (Na P R) b n L [] [] s:=λT ac todo=>by
 refine J.stop ⟨rfl,v,Z,λw=>?_⟩
 have e:results fn T=Sem.pure v:=by
  have:=ac.at_ t v Y;simp only [results,U,Array.mapM_eq_mapM_toList];show Sem.pure (T.getD t undef)=_;rw [this]
 have ag:(results fn T).run P w= .ok v w:=by rw [e];rfl
 have e2:(results fn T).events P w #[]= #[]:=by rw [e];simp [Sem.events_pure']
 simp [G,stepG,unwind,EJ,O,ag,e2,doReturn,K,GStep.after,hi,seen_none]
end
def After(P:Program)(R:Value->St->Prop)(K:World)(s₀:St)(v:Value)(w':World):Prop:=
 ∃s,R v s/\Fits s w'/\(∀b o,s₀.E b=some o->s.E b=some o)/\w'.tape=K.tape/\GL K.os w'.os/\w'.output=K.output
def Ss(P:Program)(R:Value->St->Prop)(K:World)(s₀:St)(O:Nat)(m:Machine)(t:Trace):Prop:=
 ∃gs w sl q Sh g s,m=crowd gs w sl/\HT P gs w t q Sh g s/\Na P R g s/\O=sumTo gs.size q/\(∀b o,s₀.E b=some o->s.E b=some o)/\w.tape=K.tape/\GL K.os w.os/\w.output=K.output
theorem ZN{ap:World}{s₀:St}(ay:Nat)(m:Machine)(t:Trace)(h:Ss P R ap s₀ ay m t):
  (∃o w ops,stepT P m=(.ended o w,ops)/\Good P (After P R ap s₀) m o w (t++ops))∨(∃m' ops az,stepT P m=(.next m',ops)/\az<ay/\Ss P R ap s₀ az m' (t++ops)):=by
 obtain⟨gs,w,sl,q,Sh,g,s,rfl,hC,bi,rfl,a0,a1,a2,a3⟩:=h;obtain⟨ac,v,a4,a5⟩:=bi;have bn:∀x∈gs,awake x:=by
  intro x Y;obtain⟨i,hi,rfl⟩:=Array.mem_iff_getElem.1 Y;rcases Nat.eq_zero_or_pos i with rfl | aq
  .have:gs[0]=g:=by simpa [Array.getElem?_eq_getElem hi] using hC.main
   rw [this];exact awake_of (.inl ac)
  .exact awake_of ((hC.lv.old i _ aq (Array.getElem?_eq_getElem hi)).status.elim .inl λx=> .inr (.inr x))
 obtain⟨i,x,d,a6,hi,Y,a7⟩:=crowd_pick (P:=P) (w:=w) (sl:=sl) bn ⟨0,g,hC.main,ac⟩;have a8:=hC.at_ d;have bo:0<gs.size:=(Array.getElem?_eq_some_iff.1 hC.main).1;have bv:∀(a:Nat) (fn:FuncId) (pos:String),MemOp.ofEvents a fn pos #[]= #[]:=λa fn pos=>by rw [ofEvents_eq];simp
 rcases Nat.eq_zero_or_pos i with rfl | aq
 .obtain rfl:x=g:=by rw [hC.main] at hi;exact(Option.some.inj hi).symm
  have ag:=runT_many_ended (P:=P) (sl:=a6) (i:=0) hi (show stepG P (0==0) x (w.at d)=_ from a5 (w.at d));rw [bv] at ag;refine .inl ⟨_,_,_,a7.trans ag,v,V,⟨s,a4,a8.Cm.fits 0 bo,a0,a1,a2,a3⟩,?_,?_,⟨λy K=>?_,V⟩,λj y K O=>?_⟩
  .simpa using hC.Cm.clean
  .simpa using hC.over
  .obtain⟨j,O⟩:=List.mem_iff_getElem?.1 K;rw [List.getElem?_drop] at O;exact⟨_,(hC.lv.old (1+j) y (by omega) (by simpa [crowd] using O)).leaves⟩
  .have Z:=hC.lv.old j y (by omega) K;exact⟨q j,by simp only [Array.append_empty];exact Z.hears w⟩
 .have Z:=hC.lv.old i x aq hi;have bw:(i==0)=false:=by simp;omega
  have a9:i<gs.size:=(Array.getElem?_eq_some_iff.1 hi).1;cases av:q i with
  | zero=>rw [av] at Z;rw [Z.1] at Y;cases Y
  | succ k=>
   rw [av] at Z;rcases Z with⟨bx,_⟩ | ⟨_,x',es,hm,bz,b0⟩
   .rw [bx] at Y;cases Y
   have b4:sumTo gs.size (upd q i k)+(k+1)=sumTo gs.size q+k:=by
    have:=sumTo_upd q k id a9;simpa [av] using this
   have ag:=runT_crowd_go (P:=P) (sl:=a6) (i:=i) hi (by rw [bw];exact bz (w.at d));have aw:((gs.map (woken P x x' (w.at d))).setIfInBounds i x').size=gs.size:=by simp
   have al:∀op∈MemOp.ofEvents i x.frame.fn x.frame.place es,op.g=i:=λop U=>by obtain⟨e,_,rfl⟩:=mem_ofEvents U;rfl
   have bb:∀op∈MemOp.ofEvents i x.frame.fn x.frame.place es,op.act.touch? =none:=λop U=>by obtain⟨e,he,rfl⟩:=mem_ofEvents U;exact touch_mute (hm e he)
   have b1:HT P ((gs.map (woken P x x' (w.at d))).setIfInBounds i x') (w.at d) (t++MemOp.ofEvents i x.frame.fn x.frame.place es) (upd q i k) Sh g s:=by
    refine⟨?_,⟨λj y O K=>?_,λj O=>?_⟩,?_,?_,?_⟩
    .have b2:i≠0:=by omega
     rw [Array.getElem?_setIfInBounds_ne b2,Array.getElem?_map,hC.main];simp [woken_run ac]
    .by_cases am:i=j
     .subst am;rw [Array.getElem?_setIfInBounds_self_of_lt (by simpa using a9)] at K;obtain rfl:=Option.some.inj K;rw [upd_same,Deaf_own];exact b0
     .rw [Array.getElem?_setIfInBounds_ne am,Array.getElem?_map] at K;obtain⟨z,b3,rfl⟩:=Option.map_eq_some_iff.1 K;have be:=hC.lv.old j z O b3;rw [woken_quitsD be,upd_ne q k (Ne.symm am),Deaf_other t am _ al];exact be
    .rw [Deaf_other t (g':=i) (by simp at O;omega) _ al];exact hC.lv.above j (by simpa using O)
    .rw [aw];exact a8.Cm.mute al bb (λop U=>by obtain⟨e,he,rfl⟩:=mem_ofEvents U;exact low_mute (hm e he) _) V
    .exact handedOver_app hC.over λop U=> .inr (bb op U)
    .rw [Deaf_other t (by omega) _ al];exact hC.hears
   exact .inr ⟨_,_,_,a7.trans ag,by rw [← aw];rw [aw];omega,_,_,_,_,_,_,_,V,b1,⟨ac,v,a4,a5⟩,V,a0,a1,a2,a3⟩
theorem ends{gs:Array Goroutine}{w:World}{sl:Option (Nat×Nat)}{t:Trace}{q:Nat->Nat}{Sh:Nat->Prop}{g:Goroutine}{s:St}(hC:HT P gs w t q Sh g s)(O:Na P R g s):
  ∃N last o w' K,runNT P (N+1) (crowd gs w sl) t=(.ended o w',K)/\runN P N (crowd gs w sl)= .next last/\step P last= .ended o w'/\Good P (After P R w s) last o w' K:=
 run_of_inv Nat.lt_wfRel.wf (Ss P R w s) (Good P (After P R w s)) ZN _ _ _ ⟨gs,w,sl,q,Sh,g,s,V,hC,O,V,λ_ _ h=>h,V,.refl _,V⟩
theorem Yc{m m':Machine}{t K:Trace}{n:Nat}(h:runNT P n m t=(.next m',K)):runN P n m= .next m':=by rw [← runNT_fst P n m t,h]
def GM(W:World):St:=⟨λb=>W.heap[b]?,λ_=>none,false⟩
theorem ZU{W:World}{g:Goroutine}(h:(GY P).ok (Na P R) g (GM W)):
  ∃M last o w' K,runNT P (M+1) (solo g W) #[]=(.ended o w',K)/\runN P M (solo g W)= .next last/\step P last= .ended o w'/\Good P (After P R W (GM W)) last o w' K:=by
 have hC:HT P #[g] W #[] (λ_=>0) (λ_=>False) g (GM W):=by
  have Y:∀{i:Nat} {a:Touch},touchAt #[] i=some a->False:=λ{i a} h=>by simp [touchAt,Trace.act?] at h
  refine⟨V,leavers_one P g,⟨λi hi=>?_,λi j hi ac bi=>by simp at hi ac;omega,λi hi b hb=>hb.elim,λb hb=>hb.elim,λsaid=>?_,by simp,λi _ b _ x a O=>(Y O).elim,λi _ b _ x a O=>(Y O).elim⟩,λi g ag=>by simp [Trace.g?] at ag,V⟩
  .have:i=0:=by simp at hi;exact hi
   subst this;exact⟨λb o U=>U,λb o U=>(by cases U),λb _=>V⟩
  .rintro⟨i,j,_,⟨a,b,al,_⟩,_⟩;simp [Trace.act?] at al
 obtain⟨n,gs',w',am,K,q',bn,g',s',Z,ap,aq,av,aw,ay,az⟩:=h #[g] W none #[] _ _ hC;obtain⟨N,last,o,a0,a2,k1,a3,a4,a5⟩:=ends (sl:=am) ap aq;refine⟨n+N,last,o,a0,a2,?_,?_,a4,?_⟩
 .rw [solo_eq_crowd,Nat.add_assoc,runNT_add,Z];exact k1
 .have a6:=Yc Z;rw [solo_eq_crowd,runN_add,a6];exact a3
 .obtain⟨v,e,⟨s2,a1,a7,a8,a9,bb,be⟩,r⟩:=a5;exact⟨v,e,⟨s2,a1,a7,λb o hb=>a8 b o (av b o hb),a9.trans aw,ay.trans bb,be.trans az⟩,r⟩
end Pal
namespace Pal
open Go Go.Conc
theorem Ze{P:Program}{Q:Gs_}{E H:LH}{f:FuncId}{fn:Func}{c:Code}{vs:Lv_}(U:P.funcs[f]? =some fn)(hb:fn.body=some c)(ag:fn.ntmps=fn.ntmps)(al:vs.length<=fn.ntmps)
  (h:JL (GY P) Q (base f) fn.ntmps (GB 0 vs) [] [.code c] [] (Ak E H [[]])):(GY P).ok Q (G (Frame.enter P f vs.toArray .normal) []) (mk E H []):=by
 have he:Frame.enter P f vs.toArray .normal=fr (base f) (vs.toArray++Array.replicate (fn.ntmps - vs.length) undef) [] [.code c]:=by
  simp [Frame.enter,fr,U,hb,base];rfl
 rw [he];have Y:mk E H []=Ak E H [[]]:=by unfold Ak;simp
 rw [Y];refine h _ ⟨by simp;omega,λt v Z=>?_⟩;obtain⟨_,K⟩:=Kr Z;have ac:t<vs.length:=by
  rcases Nat.lt_or_ge t vs.length with O | O
  .exact O
  .simp at K;have:=(List.getElem?_eq_some_iff.1 K).1;omega
 rw [Array.getD_eq_getD_getElem?,Array.getElem?_append_left (by simpa using ac)];simp at K;simp [K]
def HW(K:Bool)(ws:Lv_):Value:=if K then .agg ws.toArray else ws.headD undef
def Vr{α:Type}(pp:Rp α)(K:Bool)(E:LH)(v:Value)(x:α):Prop:=∃ws,pp.r E ws x/\v=HW K ws
theorem Vr.M{α:Type}{pp:Rp α}{K:Bool}{E E':LH}{v:Value}{x:α}(h:Vr pp K E v x)(hle:Le E E'):Vr pp K E' v x:=
 let ⟨ws,O,U⟩:=h;⟨ws,pp.M hle O,U⟩
structure G3 (P:Program) (t:TypeId) {κ:Type} [DecidableEq κ] (pk:Rp κ) (ka:Bool):Prop where
 BU:∀{em:Bool} {E:LH} {v:Value} {x:κ} {s:St} {Q:Unit->St->Prop} {X:Halt->St->Prop},Vr pk ka E v x->Q () s->lp P (Instr.checkKey em 10000 t v) s Q X
 kind:∃kd,P.underlying t=some kd/\((∀v w,Instr.sameNow kd v w=none)∨∀{E:LH} {v w:Value} {x y:κ},Vr pk ka E v x->Vr pk ka E w y->Instr.sameNow kd v w=some (decide (x=y)))
 eq:∀{E:LH} {v w:Value} {x y:κ} {s:St} {Q:Bool->St->Prop} {X:Halt->St->Prop},Vr pk ka E v x->Vr pk ka E w y->Q (decide (x=y)) s->lp P (Op.equal t v w) s Q X
 same:∀{E:LH} {v:Value} {x:κ},Vr pk ka E v x->Instr.sameBits 10000 v v=true
 uniq:∀{E:LH} {v w:Value} {x:κ},Vr pk ka E v x->Vr pk ka E w x->v=w
variable {κ ν:Type}{pk:Rp κ}{pv:Rp ν}{ka va:Bool}{E E':LH}
variable {P:Program}{s:St}{t tm te:TypeId}{X:Halt->St->Prop}
section
variable [DecidableEq κ]
def En(pk:Rp κ)(ka:Bool)(pv:Rp ν)(va:Bool)(E:LH):List MapEntry->List (κ×ν)->Prop
 | [],[]=>True
 | e::es,x::xs=>Vr pk ka E e.key x.1/\Vr pv va E e.val x.2/\En pk ka pv va E es xs
 | _,_=>False
theorem En.M(hle:Le E E'):∀{es:List MapEntry} {xs:List (κ×ν)},En pk ka pv va E es xs->En pk ka pv va E' es xs
 | [],[],_=>trivial
 | e::es,x::xs,h=>⟨h.1.M hle,h.2.1.M hle,En.M hle h.2.2⟩
 | [],_::_,h=>h.elim
 | _::_,[],h=>h.elim
theorem En.len:∀{es:List MapEntry} {xs:List (κ×ν)},En pk ka pv va E es xs->es.length=xs.length
 | [],[],_=>rfl
 | e::es,x::xs,h=>by simp [En.len h.2.2]
 | [],_::_,h=>h.elim
 | _::_,[],h=>h.elim
def GN(x:κ):List MapEntry->List (κ×ν)->Nat->Option (Nat×Value)
 | e::es,y::ys,i=>if x=y.1 then some (i,e.val) else GN x es ys (i+1)
 | _,_,_=>none
def Bd(xs:List (κ×ν))(x:κ):Option ν:=(xs.find? λy=>decide (x=y.1)).map (·.2)
def Cg(xs:List (κ×ν))(x:κ)(v:ν):List (κ×ν):=match xs with
 | []=> [(x,v)]
 | y::ys=>if x=y.1 then(x,v)::ys else y::Cg ys x v
theorem Vt{x:κ}:∀{es:List MapEntry} {xs:List (κ×ν)} {i:Nat},En pk ka pv va E es xs->(GN x es xs i=none/\Bd xs x=none)∨∃j w v0,GN x es xs i=some (j,w)/\Bd xs x=some v0/\Vr pv va E w v0
 | [],[],i,_=> .inl ⟨rfl,rfl⟩
 | e::es,y::ys,i,h=>by
  unfold GN Bd
  by_cases K:x=y.1
  .exact .inr ⟨i,e.val,y.2,by rw [if_pos K],by simp [K],h.2.1⟩
  .rcases Vt (x:=x) (i:=i+1) h.2.2 with⟨O,U⟩ | ⟨j,w,v0,O,U,Y⟩
   .exact .inl ⟨by rw [if_neg K];exact O,by simpa [K,Bd] using U⟩
   .exact .inr ⟨j,w,v0,by rw [if_neg K];exact O,by simpa [K,Bd] using U,Y⟩
 | [],_::_,_,h=>h.elim
 | _::_,[],_,h=>h.elim
theorem En.put{x:κ}{v0:ν}{O w:Value}(U:Vr pk ka E O x)(hw:Vr pv va E w v0)(Z:Nat):∀{es:List MapEntry} {xs:List (κ×ν)} {i:Nat},En pk ka pv va E es xs->
  (GN x es xs i=none/\En pk ka pv va E (es++ [{key:=O,val:=w,born:=Z}]) (Cg xs x v0))∨
  ∃j u,GN x es xs i=some (i+j,u)/\j<es.length/\(∀e,es[j]? =some e->Vr pk ka E e.key x)/\En pk ka pv va E (es.modify j λe=>{e with key:=O,val:=w}) (Cg xs x v0)
 | [],[],i,_=> .inl ⟨rfl,U,hw,trivial⟩
 | e::es,y::ys,i,h=>by
  unfold GN Cg
  by_cases K:x=y.1
  .refine .inr ⟨0,e.val,by rw [if_pos K];rfl,by simp,λac he=>?_,?_⟩
   .simp at he;subst he;rw [K];exact h.1
   .rw [if_pos K];exact⟨U,hw,h.2.2⟩
  .rcases En.put U hw Z (i:=i+1) h.2.2 with⟨Y,ag⟩ | ⟨j,u,Y,ag,al,am⟩
   .exact .inl ⟨by rw [if_neg K];exact Y,by rw [if_neg K];exact⟨h.1,h.2.1,ag⟩⟩
   .refine .inr ⟨j+1,u,by rw [if_neg K,Y];congr 2;omega,by simp;omega,λac he=>al ac (by simpa using he),?_⟩;rw [if_neg K];exact⟨h.1,h.2.1,am⟩
 | [],_::_,_,h=>h.elim
 | _::_,[],_,h=>h.elim
def LF(pk:Rp κ)(ka:Bool)(pv:Rp ν)(va:Bool)(E:LH)(o:Obj)(xs:List (κ×ν)):Prop:=
 ∃es clock,o= .map es clock/\En pk ka pv va E es.toList xs/\(es.toList.map (·.born)).Pairwise (·<·)/\∀e∈es.toList,e.born<clock
theorem LF.M{o:Obj}{xs:List (κ×ν)}(h:LF pk ka pv va E o xs)(hle:Le E E'):LF pk ka pv va E' o xs:=
 let ⟨es,c,K,O,U⟩:=h;⟨es,c,K,O.M hle,U⟩
theorem SQ(U:G3 P t pk ka){k:Value}{x:κ}(Y:Vr pk ka E k x){Q:Option (Nat×Value)->St->Prop}:∀{es:List MapEntry} {xs:List (κ×ν)} {i:Nat},En pk ka pv va E es xs->Q (GN x es xs i) s->lp P (Instr.findAsking t k es i) s Q X
 | [],[],i,_,h=>h
 | e::es,y::ys,i,h,K=>by
  unfold Instr.findAsking
  refine Ay _ _ (U.eq Y h.1 ?_)
  unfold GN at K
  by_cases O:x=y.1
  .rw [decide_eq_true O]
   rw [if_pos O] at K;exact K
  .rw [decide_eq_false O];rw [if_neg O] at K;exact SQ U Y h.2.2 K
 | [],_::_,_,h,_=>h.elim
 | _::_,[],_,h,_=>h.elim
theorem Td{kd:TypeDesc}{k:Value}{x:κ}(O:Vr pk ka E k x)(U:∀{E:LH} {v w:Value} {x y:κ},Vr pk ka E v x->Vr pk ka E w y->Instr.sameNow kd v w=some (decide (x=y))):∀{es:List MapEntry} {xs:List (κ×ν)} {i:Nat},En pk ka pv va E es xs->Instr.findNow kd k es i=some (GN x es xs i)
 | [],[],i,_=>rfl
 | e::es,y::ys,i,h=>by
  unfold Instr.findNow GN
  rw [U O h.1]
  by_cases K:x=y.1
  .simp [K]
  .simp only [decide_eq_false K,if_neg K];exact Td O U h.2.2
 | [],_::_,_,h=>h.elim
 | _::_,[],_,h=>h.elim
theorem Qz(O:G3 P t pk ka){k:Value}{x:κ}(U:Vr pk ka E k x){Q:Option (Nat×Value)->St->Prop}{es:List MapEntry}{xs:List (κ×ν)}(h:En pk ka pv va E es xs)(K:Q (GN x es xs 0) s):lp P (Instr.findKey t k es) s Q X:=by
 unfold Instr.findKey;obtain⟨kd,Y,Z | ac⟩:=O.kind
 .refine Ay _ _ (Cx Y ?_);cases es with
  | nil=>
   cases xs with
   | nil=>exact K
   | cons y ys=>exact h.elim
  | cons e es=>
   have ag:Instr.findNow kd k (e::es) 0=none:=by unfold Instr.findNow;rw [Z]
   rw [ag];exact SQ O U h K
 .refine Ay _ _ (Cx Y ?_);rw [Td U ac h];exact K
theorem Zv(O:G3 P t pk ka)(hm:P.underlying tm=some (.map t te)){z:Value}{z0:ν}(Z:zeroOf P te=some z)(ac:Vr pv va E z z0){bk:Nat}{o:Obj}{xs:List (κ×ν)}{k:Value}{x:κ}(ag:s.get bk=some o)(al:LF pk ka pv va E o xs)(U:Vr pk ka E k x)(ok:Bool){Q:Value->St->Prop}
  (h:∀w,Vr pv va E w ((Bd xs x).getD z0)->Q (if ok then .tuple #[w,.bool (Bd xs x).isSome] else w) s):lp P (Instr.lookup tm (.map (some bk)) k ok) s Q X:=by
 obtain⟨es,c,rfl,Y,ap,aq⟩:=al;unfold Instr.lookup;refine Ay _ _ (Cx hm ?_);refine Ay _ _ ?_;unfold getObj;simp only [bind,Sem.bind,lp];refine⟨_,ag,V,?_⟩;refine Ay (x:=Instr.checkKey _ 10000 t k) _ (O.BU U ?_);refine Ay (x:=Instr.findKey t k es.toList) _ (Qz O U Y ?_);rcases Vt (x:=x) (i:=0) Y with⟨K,e2⟩ | ⟨j,w,v0,K,e2,am⟩
 .rw [K];simp only;refine Ay (x:=zeroValue te) _ (H8 Z ?_);have:=h z (by rw [e2];exact ac);rw [e2] at this;exact this
 .rw [K];have:=h w (by rw [e2];exact am);rw [e2] at this;exact this
theorem Xz(O:G3 P t pk ka)(hm:P.underlying tm=some (.map t te)){bk:Nat}{o:Obj}{xs:List (κ×ν)}{k w:Value}{x:κ}{v0:ν}(am:s.get bk=some o)(Z:s.H bk=some o)(ap:LF pk ka pv va E o xs)(K:Vr pk ka E k x)(hw:Vr pv va E w v0){Q:Unit->St->Prop}
  (h:∀o',LF pk ka pv va E o' (Cg xs x v0)->Q () (s.upd bk o')):lp P (Instr.mapUpdate tm (.map (some bk)) k w) s Q X:=by
 obtain⟨es,c,rfl,ac,ag,U⟩:=ap;unfold Instr.mapUpdate;refine Ay _ _ (Cx hm ?_);unfold getObj;simp only [bind,Sem.bind,lp];refine⟨_,am,V,?_⟩;refine Ay (x:=Instr.checkKey false 10000 t k) _ (O.BU K ?_);refine Ay (x:=Instr.findKey t k es.toList) _ (Qz O K ac ?_);rcases En.put K hw c (i:=0) ac with⟨Y,e2⟩ | ⟨j,u,Y,e2,aq,av⟩
 .rw [Y];simp only [setObj,lp];refine⟨⟨_,Z,V⟩,V,h _ ⟨es.push {key:=k,val:=w,born:=c},c+1,V,by simpa using e2,?_,?_⟩⟩
  .rw [Array.toList_push,List.map_append,List.pairwise_append];refine⟨ag,by simp,λa aw b hb=>?_⟩;simp at hb;subst hb;obtain⟨e,he,rfl⟩:=List.mem_map.1 aw;exact U e he
  .intro e he;rw [Array.toList_push] at he;rcases List.mem_append.1 he with he | he
   .have:=U e he;omega
   .simp at he;subst he;simp
 .rw [Y];have al:es[j]? =some (es[j]'(by simpa using e2)):=Array.getElem?_eq_getElem (by simpa using e2);have ay:(es[j]'(by simpa using e2)).key=k:=O.uniq (aq _ (by rw [Array.getElem?_toList];exact al)) K;simp only [Nat.zero_add,al,Option.map_some,Option.getD_some,ay];refine Ay (x:=Instr.keyThatStays k k) _ ?_;unfold Instr.keyThatStays;rw [if_pos (O.same K)];simp only [lp,pure,setObj];refine⟨⟨_,Z,V⟩,V,h _ ⟨_,c,V,by simpa using av,?_,?_⟩⟩
  .have:(es.modify j λe=>{e with key:=k,val:=w}).toList.map (·.born)=es.toList.map (·.born):=by
    rw [Array.toList_modify];apply List.ext_getElem?;intro q;simp only [List.getElem?_map,List.getElem?_modify];split <;> cases es.toList[q]? <;> rfl
   rw [this];exact ag
  .intro e he;rw [Array.toList_modify] at he;obtain⟨q,az,rfl⟩:=List.mem_iff_getElem.1 he;rw [List.getElem_modify];have a0:q<es.toList.length:=by simpa using az
   split
   .show(es.toList[q]'a0).born<c;exact U _ (List.getElem_mem _)
   .exact U _ (List.getElem_mem _)
end
theorem Vg{l us r:Lv_}:∀j w,us[j]? =some w->(l++us++r).toArray[l.length+j]? =some w:=λj w h=>by
 have K:j<us.length:=(List.getElem?_eq_some_iff.1 h).1
 rw [List.getElem?_toArray,List.append_assoc,List.getElem?_append_right (by omega),show l.length+j - l.length=j by omega,List.getElem?_append_left K]
 exact h
section
variable {e:TypeId}
theorem Me{c:Av_}{off:Nat}{us:Lv_}{O:Bool}(Y:DU P e=some O)(Z:By P e=some us.length)(ac:O=false->us.length=1)(hw:∀j w,us[j]? =some w->c[off+j]? =some w)
  {Q:Value->St->Prop} (k:Q (HW O us) s):lp P (Go.part e c off) s Q X:=by
 unfold Go.part;refine Ay (x:=isAgg e) _ (Oz Y ?_);cases O with
 | true=>
  simp only [if_true];refine Ay (x:=Go.sizeOf e) _ (Fh Z ?_);have ag:c.extract off (off+us.length)=us.toArray:=by
   apply Array.ext_getElem?;intro j;by_cases U:j<us.length
   .have K:=hw j us[j] (List.getElem?_eq_getElem U);have al:off+j<c.size:=(Array.getElem?_eq_some_iff.1 K).1;simp only [Array.getElem?_extract];rw [if_pos (by omega),K];simp [U]
   .simp only [Array.getElem?_extract];rw [if_neg (by omega)];simp;omega
  show Q (.agg (c.extract off (off+us.length))) s;rw [ag];exact k
 | false=>
  obtain⟨w,rfl⟩:∃w,us= [w]:=by
   match us,ac rfl with
   | [w],_=>exact⟨w,rfl⟩
  have K:=hw 0 w V;rw [Nat.add_zero] at K;simp only [Bool.false_eq_true,if_false,K];exact k
end
structure Cj (P:Program) (t:TypeId) {α:Type} [DecidableEq α] (pp:Rp α) (K:Bool) (dep:Nat):Prop where
 agg:DU P t=some K
 size:By P t=some pp.n
 one:K=false->pp.n=1
 eq:∀{n:Nat} {E E':LH} {ws ws':Lv_} {x y:α} {s:St} {Q:Bool->St->Prop} {X:Halt->St->Prop},dep<=n->pp.r E ws x->pp.r E' ws' y->Q (decide (x=y)) s->lp P (Op.equalIn n t (HW K ws) (HW K ws')) s Q X
 BU:∀{n:Nat} {em:Bool} {E:LH} {ws:Lv_} {x:α} {s:St} {Q:Unit->St->Prop} {X:Halt->St->Prop},dep<=n->pp.r E ws x->Q () s->lp P (Instr.checkKey em n t (HW K ws)) s Q X
 uniq:∀{E E':LH} {ws ws':Lv_} {x:α},pp.r E ws x->pp.r E' ws' x->ws=ws'
 same:∀{E:LH} {ws:Lv_} {x:α},pp.r E ws x->∀w∈ws,∀m,Instr.sameBits (m+1) w w=true
 now:∃kd,P.underlying t=some kd/\((∀v w,Instr.sameNow kd v w=none)∨∀{E E':LH} {ws ws':Lv_} {x y:α},pp.r E ws x->pp.r E' ws' y->Instr.sameNow kd (HW K ws) (HW K ws')=some (decide (x=y)))
variable {ρ:Operand->Value}{d:Option Tmp}{u ty:TypeId}{p:String}{af:Ae_}{g:On_}{ws ws':Lv_}
section
variable {e:TypeId}
theorem Cj.int{kd:IntKind}(U:P.underlying t=some (.int kd))(Y:By P t=some 1):Cj P t (rK kd) false 1 where
 agg:=by unfold DU;rw [U]
 size:=Y
 one _:=rfl
 eq {n E E' ws ws' x y s Q X} Z K O k:=by
  obtain⟨m,rfl⟩:∃m,n=m+1:=⟨n - 1,by omega⟩;have K:ws= [.int kd x]:=K;have O:ws'= [.int kd y]:=O;subst K O;refine Wi U ?_;have e:(x==y)=decide (x=y):=by by_cases h:x=y <;> simp [h]
  rw [e];exact k
 BU {n em E ws x s Q X} Z K k:=by
  obtain⟨m,rfl⟩:∃m,n=m+1:=⟨n - 1,by omega⟩;have K:ws= [.int kd x]:=K;subst K;unfold Instr.checkKey;refine Ay _ _ (Cx U ?_);exact k
 uniq K O:=by
  have K:_= [Value.int kd _]:=K;have O:_= [Value.int kd _]:=O;rw [K,O]
 same {E ws x} h w hw m:=by
  have h:ws= [Value.int kd x]:=h;subst h;simp at hw;subst hw;simp [Instr.sameBits]
 now:=⟨_,U,.inr λ{E E' ws ws' x y} K O=>by
  have K:ws= [.int kd x]:=K
  have O:ws'= [.int kd y]:=O
  subst K O
  have e:(x==y)=decide (x=y):=by by_cases h:x=y <;> simp [h]
  show(if kd=kd then some (x==y) else none)=_
  rw [if_pos rfl,e]⟩
theorem Cj.nat{kd:IntKind}(U:P.underlying t=some (.int kd))(Z:By P t=some 1):Cj P t (rN kd) false 1 where
 agg:=by unfold DU;rw [U]
 size:=Z
 one _:=rfl
 eq {n E E' ws ws' x y s Q X} ac K O k:=by
  obtain⟨m,rfl⟩:∃m,n=m+1:=⟨n - 1,by omega⟩;have K:ws= [.int kd ((x:Nat):Int)]:=K;have O:ws'= [.int kd ((y:Nat):Int)]:=O;subst K O;refine Wi U ?_;have e:((x:Int)==(y:Int))=decide (x=y):=by
   by_cases h:x=y
   .simp [h]
   .have Y:¬(x:Int)=(y:Int):=by omega
    simp [h,Y]
  rw [e];exact k
 BU {n em E ws x s Q X} ac K k:=by
  obtain⟨m,rfl⟩:∃m,n=m+1:=⟨n - 1,by omega⟩;have K:ws= [.int kd ((x:Nat):Int)]:=K;subst K;unfold Instr.checkKey;refine Ay _ _ (Cx U ?_);exact k
 uniq K O:=by
  have K:_= [Value.int kd _]:=K;have O:_= [Value.int kd _]:=O;rw [K,O]
 same {E ws x} h w hw m:=by
  have h:ws= [Value.int kd ((x:Nat):Int)]:=h;subst h;simp at hw;subst hw;simp [Instr.sameBits]
 now:=⟨_,U,.inr λ{E E' ws ws' x y} K O=>by
  have K:ws= [.int kd ((x:Nat):Int)]:=K
  have O:ws'= [.int kd ((y:Nat):Int)]:=O
  subst K O
  have e:((x:Int)==(y:Int))=decide (x=y):=by
   by_cases h:x=y
   .simp [h]
   .have Y:¬(x:Int)=(y:Int):=by omega
    simp [h,Y]
  show(if kd=kd then some ((x:Int)==(y:Int)) else none)=_
  rw [if_pos rfl,e]⟩
theorem Cj.up{α:Type} [DecidableEq α] {pp:Rp α}{O:Bool}{dep U:Nat}(h:Cj P t pp O dep)(hd:dep<=U):Cj P t pp O U:=
 ⟨h.agg,h.size,h.one,λK=>h.eq (Nat.le_trans hd K),λK=>h.BU (Nat.le_trans hd K),h.uniq,h.same,h.now⟩
theorem Q6{α:Type}{kk:Nat}{pp:Rp α}{E:LH}{ws:Lv_}{xs:List α}(K:(rA kk pp).r E ws xs){i:Nat}(hi:i<kk):∃x us,xs[i]? =some x/\pp.r E us x/\us.length=pp.n/\∀j w,us[j]? =some w->ws.toArray[i*pp.n+j]? =some w:=by
 have O:xs[i]? =some (xs[i]'(by rw [K.1];exact hi)):=List.getElem?_eq_getElem (by rw [K.1];exact hi);have Y:ix xs (i:Int)=some (xs[i]'(by rw [K.1];exact hi)):=by unfold ix;rw [if_pos (by omega)];simpa using O
 obtain⟨us,U,_,_,Z⟩:=Ic (m:=(i:Int)) K Y;exact⟨_,us,O,U,pp.len U,λj w ac=>by have:=Z j w ac;rw [List.getElem?_toArray];simpa using this⟩
theorem Cj.arr{α:Type} [DecidableEq α] {pp:Rp α}{a6:Bool}{dep kk:Nat}(h:Cj P e pp a6 dep)(Z:P.underlying t=some (.array kk e))(a7:By P t=some (kk*pp.n)):Cj P t (rA kk pp) true (dep+1) where
 agg:=by unfold DU;rw [Z]
 size:=a7
 one:=λh=>by cases h
 eq {n E E' ws ws' xs ys s Q X} a8 ac a0 k:=by
  obtain⟨n,rfl⟩:∃m,n=m+1:=⟨n - 1,by omega⟩;have bx:=ac.1;have bz:=a0.1;unfold Op.equalIn;refine Ay _ _ (Cx Z ?_);refine Ay (x:=Go.sizeOf e) _ (Fh h.size ?_);simp only [HW,if_true];simp only [Std.Legacy.Range.forIn_eq_forIn_range',Std.Legacy.Range.size,Nat.sub_zero,Nat.add_one_sub_one,Nat.div_one];let bd:Nat->Option Bool×Unit->Sem (ForInStep (Option Bool×Unit)):=λi _=>do
   if !(← Op.equalIn n e (← Go.part e ws.toArray (i*pp.n)) (← Go.part e ws'.toArray (i*pp.n))) then pure (ForInStep.done (some false,())) else pure (ForInStep.yield (none,()))
  have key:∀(m st:Nat),st+m=kk->(∀i,i<st->xs[i]? =ys[i]?)->∀{K:Option Bool×Unit->St->Prop},K (if xs=ys then(none,()) else(some false,())) s->lp P (forIn (List.range' st m) (none,()) bd:Sem _) s K X:=by
   intro m
   induction m with
   | zero=>
    intro st al am K O;have U:xs=ys:=by
     apply List.ext_getElem?;intro i;rcases Nat.lt_or_ge i st with hi | hi
     .exact am i hi
     .rw [List.getElem?_eq_none (by omega),List.getElem?_eq_none (by omega)]
    rw [if_pos U] at O;simp only [List.range'_zero,List.forIn_nil];exact O
   | succ m ap=>
    intro st al am K O;simp only [List.range'_succ,List.forIn_cons];obtain⟨a,us,ag,aq,Y,av⟩:=Q6 ac (i:=st) (by omega);obtain⟨c,b0,aw,a9,a2,bb⟩:=Q6 a0 (i:=st) (by omega);refine Ay _ _ (Ay _ _ (Me h.agg (by rw [Y];exact h.size) (λq=>by rw [Y];exact h.one q) av ?_));refine Ay _ _ (Me h.agg (by rw [a2];exact h.size) (λq=>by rw [a2];exact h.one q) bb ?_);refine Ay _ _ (h.eq (by omega) aq a9 ?_);by_cases ay:a=c
    .subst ay;simp only [decide_true,Bool.not_true,Bool.false_eq_true,if_false,lp,pure];exact ap (st+1) (by omega) (λi hi=>by
      rcases Nat.lt_or_ge i st with a3 | a3
      .exact am i a3
      .obtain rfl:i=st:=by omega
       rw [ag,aw]) O
    .have be:¬xs=ys:=λq=>ay (by rw [q] at ag;rw [ag] at aw;exact Option.some.inj aw);rw [if_neg be] at O;simp only [ay,decide_false,Bool.not_false,if_true,lp,pure];exact O
  refine Ay _ _ (key kk 0 (by omega) (λi hi=>by omega) ?_);by_cases U:xs=ys
  .rw [if_pos U];simpa [lp,pure,U] using k
  .rw [if_neg U];simpa [lp,pure,U] using k
 BU {n em E ws xs s Q X} a8 ac k:=by
  obtain⟨n,rfl⟩:∃m,n=m+1:=⟨n - 1,by omega⟩;unfold Instr.checkKey;refine Ay _ _ (Cx Z ?_);simp only [HW,if_true];simp only [Std.Legacy.Range.forIn_eq_forIn_range',Std.Legacy.Range.size,Nat.sub_zero,Nat.add_one_sub_one,Nat.div_one];let bd:Nat->Unit->Sem (ForInStep Unit):=λi _=>do
   Instr.checkKey em n e (← Go.part e ws.toArray (i*(← Go.sizeOf e)))
   pure (ForInStep.yield ())
  have key:∀(m st:Nat),st+m=kk->∀{K:Unit->St->Prop},K () s->lp P (forIn (List.range' st m) () bd:Sem _) s K X:=by
   intro m
   induction m with
   | zero=>
    intro st al K O;simp only [List.range'_zero,List.forIn_nil];exact O
   | succ m ap=>
    intro st al K O;simp only [List.range'_succ,List.forIn_cons];obtain⟨a,us,ag,aq,Y,av⟩:=Q6 ac (i:=st) (by omega);refine Ay _ _ (Ay (x:=Go.sizeOf e) _ (Fh h.size ?_));refine Ay _ _ (Me h.agg (by rw [Y];exact h.size) (λq=>by rw [Y];exact h.one q) av ?_);refine Ay _ _ (h.BU (by omega) aq ?_);exact ap (st+1) (by omega) O
  exact Ay _ _ (key kk 0 (by omega) k)
 uniq {E E' ws ws' xs} az bi:=by
  obtain⟨a1,wss,rfl,a4,c1⟩:=az;obtain⟨b1,bn,rfl,b2,c2⟩:=bi;have:wss=bn:=by
   apply List.ext_getElem (by omega);intro i hi bo;have a5:xs[i]? =some (xs[i]'(by omega)):=List.getElem?_eq_getElem (by omega);exact h.uniq (c1 i _ _ a5 (List.getElem?_eq_getElem hi)) (c2 i _ _ a5 (List.getElem?_eq_getElem bo))
  rw [this]
 same {E ws xs} az w hw m:=by
  obtain⟨a1,wss,rfl,a4,c1⟩:=az;obtain⟨us,bv,hw⟩:=List.mem_flatten.1 hw;obtain⟨i,hi⟩:=List.mem_iff_getElem?.1 bv;have bw:i<xs.length:=by rw [a1,← a4];exact(List.getElem?_eq_some_iff.1 hi).1
  exact h.same (c1 i _ us (List.getElem?_eq_getElem bw) hi) w hw m
 now:=⟨_,Z,.inl λv w=>rfl⟩
theorem Cj.field{α:Type} [DecidableEq α] {pp:Rp α}{ac:Bool}{dep n:Nat}{f:Field}{s:St}{X:Halt->St->Prop}(h:Cj P f.type pp ac dep)(hd:dep<=n)(ag:f.name≠ "_"){E E':LH}{us Y:Lv_}{x y:α}(r1:pp.r E us x)(r2:pp.r E' Y y){cx Z:Av_}
  (w1:∀j w,us[j]? =some w->cx[f.offset+j]? =some w) (w2:∀j w,Y[j]? =some w->Z[f.offset+j]? =some w) {K:ForInStep (Option Bool×Unit)->St->Prop} (O:K (if x=y then .yield (none,()) else .done (some false,())) s):
  lp P (if f.name≠ "_" then do
   if !(← Op.equalIn n f.type (← Go.part f.type cx f.offset) (← Go.part f.type Z f.offset)) then pure (ForInStep.done (some false,())) else pure (ForInStep.yield (none,()))
   else pure (ForInStep.yield (none,()))) s K X:=by
 rw [if_pos ag]
 refine Ay _ _ (Me h.agg (by rw [pp.len r1];exact h.size) (λq=>by rw [pp.len r1];exact h.one q) w1 ?_)
 refine Ay _ _ (Me h.agg (by rw [pp.len r2];exact h.size) (λq=>by rw [pp.len r2];exact h.one q) w2 ?_)
 refine Ay _ _ (h.eq hd r1 r2 ?_)
 by_cases U:x=y
 .rw [if_pos U] at O;simpa [lp,pure,U] using O
 .rw [if_neg U] at O;simpa [lp,pure,U] using O
theorem Cj.Nq{α:Type} [DecidableEq α] {pp:Rp α}{O em:Bool}{dep n:Nat}{f:Field}{s:St}{X:Halt->St->Prop}(h:Cj P f.type pp O dep)(hd:dep<=n)(U:f.name≠ "_"){E:LH}{us:Lv_}{x:α}(r1:pp.r E us x){cx:Av_}
  (w1:∀j w,us[j]? =some w->cx[f.offset+j]? =some w) {K:ForInStep Unit->St->Prop} (Y:K (.yield ()) s):
  lp P (if f.name≠ "_" then do
   Instr.checkKey em n f.type (← Go.part f.type cx f.offset)
   pure (ForInStep.yield ())
   else pure (ForInStep.yield ())) s K X:=by
 rw [if_pos U]
 refine Ay _ _ (Me h.agg (by rw [pp.len r1];exact h.size) (λq=>by rw [pp.len r1];exact h.one q) w1 ?_)
 refine Ay _ _ (h.BU hd r1 ?_)
 exact Y
theorem Mp{us r:Lv_}{o:Nat}(K:o=0):∀j w,us[j]? =some w->(us++r).toArray[o+j]? =some w:=λj w h=>by subst K;exact Vg (l:= []) j w h
theorem PT{l us r:Lv_}{o:Nat}(K:o=l.length):∀j w,us[j]? =some w->(l++(us++r)).toArray[o+j]? =some w:=λj w h=>by
 subst K
 have:=Vg (l:=l) (r:=r) j w h
 rwa [List.append_assoc] at this
theorem PY{l us:Lv_}{o:Nat}(K:o=l.length):∀j w,us[j]? =some w->(l++us).toArray[o+j]? =some w:=λj w h=>by
 have:=PT (r:= []) K j w h
 rwa [List.append_nil] at this
theorem RD{l m us:Lv_}{o:Nat}(K:o=l.length+m.length):∀j w,us[j]? =some w->(l++(m++us)).toArray[o+j]? =some w:=λj w h=>by
 have:=PY (l:=l++m) (o:=o) (by simp [K]) j w h
 rwa [List.append_assoc] at this
theorem Cj.two{α β:Type} [DecidableEq α] [DecidableEq β] {p1:Rp α}{p2:Rp β}{a1 av:Bool}{dep:Nat}{f1 f2:Field}(K:P.underlying t=some (.struct #[f1,f2]))(O:Cj P f1.type p1 a1 dep)(U:Cj P f2.type p2 av dep)(aw:P.stoodInHeld t=false)
  (n1:f1.name≠ "_") (n2:f2.name≠ "_") (ac:f1.offset=0) (ag:f2.offset=p1.n) (ay:By P t=some (p1.n+p2.n)):Cj P t (rP p1 p2) true (dep+1) where
 agg:=by unfold DU;rw [K]
 size:=ay
 one:=λh=>by cases h
 eq {n E E' ws ws' x y s Q X} az al a0 k:=by
  obtain⟨n,rfl⟩:∃m,n=m+1:=⟨n - 1,by omega⟩;obtain⟨am,ap,rfl,r1,r2⟩:=al;obtain⟨v1,v2,rfl,Y,aq⟩:=a0;simp only [HW,if_true];unfold Op.equalIn;refine Ay _ _ (Cx K ?_);refine Ay (x:=program) _ ?_;show lp P (if P.stoodInHeld t=true then _ else _) s _ _
  rw [if_neg (by rw [aw];exact Bool.false_ne_true)]
  dsimp only;rw [← Array.forIn_toList];simp only [List.forIn_cons,List.forIn_nil];refine Ay _ _ (Ay _ _ (O.field (by omega) n1 r1 Y (Mp ac) (Mp ac) ?_));by_cases Z:x.1=y.1
  .rw [if_pos Z];refine Ay _ _ (U.field (by omega) n2 r2 aq (PY (ag.trans (p1.len r1).symm)) (PY (ag.trans (p1.len Y).symm)) ?_);by_cases e2:x.2=y.2
   .have e:x=y:=Prod.ext Z e2;rw [if_pos e2];simpa [lp,pure,e] using k
   .have e:¬x=y:=λq=>e2 (by rw [q]);rw [if_neg e2];simpa [lp,pure,e] using k
  .have e:¬x=y:=λq=>Z (by rw [q]);rw [if_neg Z];simpa [lp,pure,e] using k
 BU {n em E ws x s Q X} az al k:=by
  obtain⟨n,rfl⟩:∃m,n=m+1:=⟨n - 1,by omega⟩;obtain⟨am,ap,rfl,r1,r2⟩:=al;simp only [HW,if_true];unfold Instr.checkKey;refine Ay _ _ (Cx K ?_)
  dsimp only;rw [← Array.forIn_toList];simp only [List.forIn_cons,List.forIn_nil];refine Ay _ _ (Ay _ _ (O.Nq (by omega) n1 r1 (Mp ac) ?_));refine Ay _ _ (U.Nq (by omega) n2 r2 (PY (ag.trans (p1.len r1).symm)) ?_);exact k
 uniq {E E' ws ws' x} a b:=by
  obtain⟨am,ap,rfl,r1,r2⟩:=a;obtain⟨v1,v2,rfl,Y,aq⟩:=b;rw [O.uniq r1 Y,U.uniq r2 aq]
 same {E ws x} a w hw m:=by
  obtain⟨am,ap,rfl,r1,r2⟩:=a;rcases List.mem_append.1 hw with hw | hw
  .exact O.same r1 w hw m
  .exact U.same r2 w hw m
 now:=⟨_,K,.inl λv w=>rfl⟩
theorem Cj.three{α β a2:Type} [DecidableEq α] [DecidableEq β] [DecidableEq a2] {p1:Rp α}{p2:Rp β}{p3:Rp a2}{a1 a4 a5:Bool}{dep:Nat}{f1 f2 f3:Field}(O:P.underlying t=some (.struct #[f1,f2,f3]))(U:Cj P f1.type p1 a1 dep)(Y:Cj P f2.type p2 a4 dep)(Z:Cj P f3.type p3 a5 dep)(a6:P.stoodInHeld t=false)
  (n1:f1.name≠ "_") (n2:f2.name≠ "_") (a3:f3.name≠ "_") (am:f1.offset=0) (ap:f2.offset=p1.n) (aq:f3.offset=p1.n+p2.n) (a7:By P t=some (p1.n+(p2.n+p3.n))):Cj P t (rP p1 (rP p2 p3)) true (dep+1) where
 agg:=by unfold DU;rw [O]
 size:=a7
 one:=λh=>by cases h
 eq {n E E' ws ws' x y s Q X} a8 av a9 k:=by
  obtain⟨n,rfl⟩:∃m,n=m+1:=⟨n - 1,by omega⟩;obtain⟨aw,_,rfl,r1,ay,az,rfl,r2,r3⟩:=av;obtain⟨v1,_,rfl,K,v2,bb,rfl,ac,a0⟩:=a9;simp only [HW,if_true];unfold Op.equalIn;refine Ay _ _ (Cx O ?_);refine Ay (x:=program) _ ?_;show lp P (if P.stoodInHeld t=true then _ else _) s _ _
  rw [if_neg (by rw [a6];exact Bool.false_ne_true)]
  dsimp only;rw [← Array.forIn_toList];simp only [List.forIn_cons,List.forIn_nil];refine Ay _ _ (Ay _ _ (U.field (by omega) n1 r1 K (Mp am) (Mp am) ?_));by_cases ag:x.1=y.1
  .rw [if_pos ag];refine Ay _ _ (Y.field (by omega) n2 r2 ac (PT (ap.trans (p1.len r1).symm)) (PT (ap.trans (p1.len K).symm)) ?_);by_cases e2:x.2.1=y.2.1
   .rw [if_pos e2];refine Ay _ _ (Z.field (by omega) a3 r3 a0 (RD (by rw [aq,p1.len r1,p2.len r2])) (RD (by rw [aq,p1.len K,p2.len ac])) ?_);by_cases al:x.2.2=y.2.2
    .have e:x=y:=Prod.ext ag (Prod.ext e2 al);rw [if_pos al];simpa [lp,pure,e] using k
    .have e:¬x=y:=λq=>al (by rw [q]);rw [if_neg al];simpa [lp,pure,e] using k
   .have e:¬x=y:=λq=>e2 (by rw [q]);rw [if_neg e2];simpa [lp,pure,e] using k
  .have e:¬x=y:=λq=>ag (by rw [q]);rw [if_neg ag];simpa [lp,pure,e] using k
 BU {n em E ws x s Q X} a8 av k:=by
  obtain⟨n,rfl⟩:∃m,n=m+1:=⟨n - 1,by omega⟩;obtain⟨aw,_,rfl,r1,ay,az,rfl,r2,r3⟩:=av;simp only [HW,if_true];unfold Instr.checkKey;refine Ay _ _ (Cx O ?_)
  dsimp only;rw [← Array.forIn_toList];simp only [List.forIn_cons,List.forIn_nil];refine Ay _ _ (Ay _ _ (U.Nq (by omega) n1 r1 (Mp am) ?_));refine Ay _ _ (Y.Nq (by omega) n2 r2 (PT (ap.trans (p1.len r1).symm)) ?_);refine Ay _ _ (Z.Nq (by omega) a3 r3 (RD (by rw [aq,p1.len r1,p2.len r2])) ?_);exact k
 uniq {E E' ws ws' x} a b:=by
  obtain⟨aw,_,rfl,r1,ay,az,rfl,r2,r3⟩:=a;obtain⟨v1,_,rfl,K,v2,bb,rfl,ac,a0⟩:=b;rw [U.uniq r1 K,Y.uniq r2 ac,Z.uniq r3 a0]
 same {E ws x} a w hw m:=by
  obtain⟨aw,_,rfl,r1,ay,az,rfl,r2,r3⟩:=a;rcases List.mem_append.1 hw with hw | hw
  .exact U.same r1 w hw m
  .rcases List.mem_append.1 hw with hw | hw
   .exact Y.same r2 w hw m
   .exact Z.same r3 w hw m
 now:=⟨_,O,.inl λv w=>rfl⟩
theorem Cj.key{α:Type} [DecidableEq α] {pp:Rp α}{K:Bool}{dep:Nat}(h:Cj P t pp K dep)(hd:dep<=10000):G3 P t pp K where
 BU:=by
  rintro em E v x s Q X ⟨ws,Y,rfl⟩ k;exact h.BU hd Y k
 kind:=by
  obtain⟨kd,O,Z⟩:=h.now;refine⟨kd,O,Z.imp id λac=>?_⟩;rintro E v w x y ⟨ws,r1,rfl⟩ ⟨ws',r2,rfl⟩;exact ac r1 r2
 eq:=by
  rintro E v w x y s Q X ⟨ws,r1,rfl⟩ ⟨ws',r2,rfl⟩ k;exact h.eq hd r1 r2 k
 same:=by
  rintro E v x ⟨ws,r1,rfl⟩;cases K with
  | false=>
   obtain⟨w,rfl⟩:∃w,ws= [w]:=by
    have:=(pp.len r1).trans (h.one V)
    match ws,this with
    | [w],_=>exact⟨w,rfl⟩
   exact h.same r1 w (by simp) 9999
  | true=>
   show(ws.toArray.size==ws.toArray.size&&(ws.toArray.toList.zip ws.toArray.toList).all λ(x,y)=>Instr.sameBits 9999 x y)=true;rw [Bool.and_eq_true];refine⟨by simp,List.all_eq_true.2 ?_⟩;rintro⟨a,b⟩ ag;have O:∀(l:Lv_) a b,(a,b)∈l.zip l->a=b/\a∈l:=by
    intro l
    induction l with
    | nil=>intro a b h;simp at h
    | cons c l U=>
     intro a b h;simp only [List.zip_cons_cons,List.mem_cons,Prod.mk.injEq] at h;rcases h with⟨rfl,rfl⟩ | h
     .exact⟨V,by simp⟩
     .exact⟨(U a b h).1,List.mem_cons_of_mem _ (U a b h).2⟩
   obtain⟨rfl,hm⟩:=O _ a b ag;exact h.same r1 a (by simpa using hm) 9998
 uniq:=by
  rintro E v w x ⟨ws,r1,rfl⟩ ⟨ws',r2,rfl⟩;rw [h.uniq r1 r2]
section
variable {x y:Operand}
theorem Rx{α:Type} [DecidableEq α] {pp:Rp α}{dep:Nat}{a b:α}(h:Cj P t pp true dep)(hd:dep<=10000)(K:P.eqGuardType P.depth t=false)(r1:pp.r E ws a)(r2:pp.r E' ws' b)(O:ρ x= .agg ws.toArray)(U:ρ y= .agg ws'.toArray):Yl P ⟨d,.binOp .neq t x y u,ty,p,af,g⟩ ρ s (.bool (decide (a≠b))):=by
 refine FM (sm:=do eqGuard .neq t x y (ρ x) (ρ y);binOp .neq t (ρ x) (ρ y)) V ?_
 rw [O,U];refine Ay _ _ (YI (.inr V) K ?_);have hb:binOp .neq t (.agg ws.toArray) (.agg ws'.toArray)=(do pure (.bool (!(← Op.equal t (.agg ws.toArray) (.agg ws'.toArray))))):=V
 rw [hb];exact Ay (x:=Op.equal t _ _) _ (h.eq hd r1 r2 ⟨by simp,V⟩)
end
end
theorem Xy{E H:LH}{B:List (Nat×Obj)}(i:Nat){bk:Nat}{o:Obj}(K:Nd E H B)(h:B[i]? =some (bk,o)):∃E',Le E E'/\E' bk=some o/\Nd E' H (B.eraseIdx i)/\Cs (mk E H B) (mk E' H (B.eraseIdx i)):=by
 have ap:=List.mem_of_getElem? h;have aq:E bk=none/\H bk=none:=by
  have:∀{B:List (Nat×Obj)},Nd E H B->(bk,o)∈B->E bk=none/\H bk=none:=by
   intro B K O
   induction B with
   | nil=>simp at O
   | cons q B Y=>
    rcases List.mem_cons.1 O with rfl | O
    .exact⟨K.1,K.2.1⟩
    .exact Y K.2.2.2 O
  exact this K ap
 let E':LH:=λx=>if x=bk then some o else E x
 have ag:E' bk=some o:=by simp [E']
 have hle:Le E E':=λx u U=>by
  have:x≠bk:=λe=>by subst e;rw [aq.1] at U;cases U
  simp [E',this,U]
 have av:Nd E' H (B.eraseIdx i):=by
  have:∀{B:List (Nat×Obj)} {i:Nat},Nd E H B->B[i]? =some (bk,o)->Nd E' H (B.eraseIdx i)/\∀p∈B.eraseIdx i,p.1≠bk:=by
   intro B
   induction B with
   | nil=>intro i _ h;simp at h
   | cons q B Y=>
    obtain⟨c,v⟩:=q;intro i K h;have up:∀{B:List (Nat×Obj)},Nd E H B->(∀p∈B,p.1≠bk)->Nd E' H B:=by
     intro B K al
     induction B with
     | nil=>trivial
     | cons q B aw=>exact⟨by simpa [E',al q (by simp)] using K.1,K.2.1,K.2.2.1,aw K.2.2.2 λp O=>al p (List.mem_cons_of_mem _ O)⟩
    cases i with
    | zero=>
     simp at h;obtain⟨rfl,rfl⟩:=h;exact⟨up K.2.2.2 K.2.2.1,K.2.2.1⟩
    | succ i=>
     simp at h;obtain⟨Z,ac⟩:=Y K.2.2.2 h;have am:c≠bk:=λe=>K.2.2.1 (bk,o) (List.mem_of_getElem? h) e.symm;refine⟨⟨by simpa [E',am] using K.1,K.2.1,λp O=>K.2.2.1 p (List.mem_of_mem_eraseIdx O),Z⟩,λp O=>?_⟩;rcases List.mem_cons.1 O with rfl | O
     .exact am
     .exact ac p O
  exact(this K h).1
 refine⟨E',hle,ag,av,⟨λx u U=>hle x u U,λx u U=>(MR K h U).2,λx u U=>?_,V⟩⟩;by_cases e:x=bk
 .subst e;right;have:u=o:=by have:E' x=some u:=U;rw [ag] at this;exact(Option.some.inj this).symm
  subst this;refine⟨J0 K h,?_⟩;cases ay:(mk E' H (B.eraseIdx i)).H x with
  | none=>rfl
  | some y=>exact absurd rfl (MR K h ay).1
 .left;have Z:E' x=some u:=U;have ac:E' x=E x:=by simp [E',e]
  show E x=some u;rw [← ac];exact Z
theorem Xh{E H:LH}{B0:List (Nat×Obj)}{e:TypeId}{K l c:Nat}{a:Option Addr}{blk:List (Nat×Obj)}{xs:Lv_}(ag:GS e K a l c blk xs)(U:Nd E H (B0++blk)):∃E',Le E E'/\Qd E' K (.slice a l c) l xs/\Nd E' H B0/\Cs (mk E H (B0++blk)) (mk E' H B0):=by
 rcases ag with⟨rfl,rfl,rfl,rfl,rfl⟩ | ⟨bk,f,rfl,rfl,al,Y,rfl⟩
 .simp only [List.append_nil] at U ⊢;exact⟨E,Le.refl _,.nil,U,.refl _⟩
 .have am:(B0++ [(bk,Obj.cells f e (0,0))])[B0.length]? =some (bk,Obj.cells f e (0,0)):=by simp
  obtain⟨E',hle,ap,Z,ac⟩:=Xy B0.length U am;have aq:(B0++ [(bk,Obj.cells f e (0,0))]).eraseIdx B0.length=B0:=by rw [List.eraseIdx_append_of_length_le (Nat.le_refl _)];simp
  rw [aq] at Z ac;refine⟨E',hle,⟨_,c,V,Y,?_,.inr ⟨bk,0,f,e,(0,0),V,ap,λj w O=>?_⟩⟩,Z,ac⟩
  .have:l*K<=c*K:=Nat.mul_le_mul_right _ Y;simp [al,Nat.min_eq_left this]
  .rw [List.getElem?_take] at O;split at O
   .simpa using O
   .cases O
theorem Xo{α:Type}{pp:Rp α}{E H:LH}{S:List Seg}{e:TypeId}{a:Option Addr}{c:Nat}{seg:Seg}{xs:List α}(j:Nat)(U:OL e pp E a c seg xs)(ap:Au E H S)(aq:S[j]? =some seg):∃E',Le E E'/\Ao pp E' a c xs/\Au E' H (S.set j [])/\Cs (Ak E H S) (Ak E' H (S.set j [])):=by
 obtain⟨wss,U,ac,ag⟩:=U;have av:∀ad:Addr,a=some ad->ad.spot=none:=λad K=>by
  rcases U with⟨O,_⟩ | ⟨bk,f,O,_⟩
  .rw [O] at K;cases K
  .rw [O] at K;cases K;rfl
 obtain⟨O,aw⟩:=Hg ap aq;obtain⟨E',hle,ay,az,al⟩:=Xh U aw;rw [← O] at al;refine⟨E',hle,?_,az,al⟩;obtain⟨a0,a1,Y,a2,a7,Z⟩:=ay;obtain⟨rfl,-,rfl⟩:a=a0/\xs.length=xs.length/\c=a1:=by
  simp only [Value.slice.injEq] at Y;exact⟨Y.1,V,Y.2.2⟩
 refine⟨a2,?_⟩;rcases Z with Z | ⟨bk,off,f,a3,fr,a4,g2,a5⟩
 .exact .inl ⟨List.eq_nil_of_length_eq_zero Z,λad K=> .inl (av ad K)⟩
 .refine .inr ⟨bk,off,a4,λi x am=>?_⟩;have a6:i<wss.length:=by rw [ac];exact(List.getElem?_eq_some_iff.1 am).1
  have hw:=List.getElem?_eq_getElem a6;refine⟨wss[i],pp.M hle (ag i x _ am hw),f,a3,fr,g2,λm w hm=>?_⟩;rw [Nat.add_assoc];exact a5 _ w (K9 (IM ac ag) hw m w hm)
theorem Cs.get{s s₀:St}(h:Cs s s₀){b:Nat}{o:Obj}(K:s₀.get b=some o):s.get b=some o:=by
 unfold St.get at K ⊢;cases O:s₀.E b with
 | some o'=>
  rw [O] at K;simp only at K;cases K;rcases h.Fc _ _ O with U | ⟨U,_⟩
  .rw [U]
  .cases he:s.E b with
   | none=>exact U
   | some Y=>
    have:=h.ext _ _ he;rw [O] at this;cases this;rfl
 | none=>
  rw [O] at K;simp only at K;cases he:s.E b with
  | none=>exact h.own _ _ K
  | some Y=>
   have:=h.ext _ _ he;rw [O] at this;cases this
theorem Cs.upd{s s₀:St}(h:Cs s s₀){b:Nat}(o:Obj)(hb:(∃u,s₀.H b=some u)∨s₀.E b=none):Cs (s.upd b o) (s₀.upd b o):=by
 refine⟨h.ext,λx u K=>?_,λx u K=>?_,h.q⟩
 .simp only [St.upd] at K ⊢;by_cases e:x=b
  .rw [if_pos e] at K ⊢;exact K
  .rw [if_neg e] at K ⊢;exact h.own _ _ K
 .have O:s₀.E x=some u:=K;rcases h.Fc _ _ O with U | ⟨U,Y⟩
  .exact .inl U
  .refine .inr ?_;have e:x≠b:=λe=>by
    subst e;rcases hb with⟨w,hw⟩ | hb
    .rw [hw] at Y;cases Y
    .rw [hb] at O;cases O
   simp only [St.upd,if_neg e];exact⟨U,Y⟩
theorem Cs.none{s s₀:St}(h:Cs s s₀){b:Nat}(U:s.E b=none)(O:s.H b=none):s₀.E b=none/\s₀.H b=none:=by
 constructor
 .cases he:s₀.E b with
  | none=>rfl
  | some o=>
   rcases h.Fc _ _ he with K | ⟨K,_⟩
   .rw [U] at K;cases K
   .rw [O] at K;cases K
 .cases he:s₀.H b with
  | none=>rfl
  | some o=>have:=h.own _ _ he;rw [O] at this;cases this
theorem ah{P:Program}{α:Type}(x:Sem α):∀{s s₀:St} {Q:α->St->Prop} {X:Halt->St->Prop},Cs s s₀->lp P x s₀ Q X->lp P x s (λa s'=>∃Z,Cs s' Z/\Q a Z) (λh s'=>∃Z,Cs s' Z/\X h Z):=by
 induction x with
 | pure a=>intro s s₀ Q X g h;exact⟨s₀,g,h⟩
 | load m a k K=>
  intro s s₀ Q X g h;obtain⟨O,v,U,Y⟩:=h;obtain⟨o,al,am⟩:=Option.bind_eq_some_iff.1 U;exact⟨O,v,by unfold St.cell?;rw [g.get al];exact am,K v g Y⟩
 | store m a v k K=>
  intro s s₀ Q X g h;obtain⟨O,U,o,Y,ap,aq,av⟩:=h;exact⟨O,U,o,g.own _ _ Y,ap,aq,K (g.upd _ (.inl ⟨o,Y⟩)) av⟩
 | new o k K=>
  intro s s₀ Q X g h;refine⟨by rw [← g.q];exact h.1,λr O U=>?_⟩;obtain⟨ag,e2⟩:=g.none O U;exact K r (g.upd _ (.inr ag)) (h.2 r ag e2)
 | shape r k K=>intro s s₀ Q X g h;obtain⟨o,O,U⟩:=h;exact⟨o,g.get O,K _ g U⟩
 | freeze a n k K=>intro s s₀ Q X g h;exact h.elim
 | frozen a k K=>intro s s₀ Q X g h;obtain⟨o,O,U⟩:=h;exact⟨o,g.get O,K _ g U⟩
 | getObj r k K=>intro s s₀ Q X g h;obtain⟨o,O,U,Y⟩:=h;exact⟨o,g.get O,U,K _ g Y⟩
 | setObj r o k K=>
  intro s s₀ Q X g h;obtain⟨⟨o',O,aw⟩,U,Y⟩:=h;exact⟨⟨o',g.own _ _ O,aw⟩,U,K (g.upd _ (.inl ⟨o',O⟩)) Y⟩
 | choose q k K=>
  intro s s₀ Q X g h;simp only [lp] at h ⊢;split
  .rename_i ac;rw [if_pos ac] at h;exact K _ g h
  .rename_i ac;rw [if_neg ac] at h;exact⟨by rw [← g.q];exact h.1,λt=>K _ g (h.2 t)⟩
 | sys c k K=>intro s s₀ Q X g h;exact h.elim
 | program k K=>intro s s₀ Q X g h;exact K _ g h
 | mark m k K=>
  intro s s₀ Q X g h;refine⟨?_,K g h.2⟩;rcases h.1 with⟨O,U⟩ | O
  .exact .inl ⟨by rw [← g.q];exact O,U⟩
  .exact .inr O
 | halt h=>intro s s₀ Q X g ay;exact⟨s₀,g,ay⟩
variable {J:Judge P}{Q:Gs_}{n:Nat}{ds:Ld_}{ops:Ao_}{k:Li_}{cs:Lf_}{m:Nat}{D:Nat->Bool}{L:Env}{H:LH}{S:List Seg}
variable {v:Value}{kd:IntKind}
section
variable {b:Frame}{fuel:Nat}{listed:Array Bool}
variable {x y:Operand}{e:TypeId}{i:Nat}
theorem Om{f:FuncId}{args:Array Operand}{ats:Array TypeId}{vs:Lv_}{seg:Seg}{R:Value->LH->Seg->Prop}(j:Nat)(a0:∀x,D x=true->∃(O:Nat) (o:Obj),(S.set j [])[O]? =some [(x,o)])(a1:AT J f vs E seg R)(a2:Region.ready .any ops listed= [i])
  (a3:ops[i]? =some ⟨d,.call ⟨.value (.func f),args,ats⟩,ty,p,af,g⟩) (a4:Bu n d=true) (hw:AY L ops ⟨d,.call ⟨.value (.func f),args,ats⟩,ty,p,af,g⟩=some true) (hb:Ec P f=true) (a5:evs L args.toList=some vs) (Z:Au E H S) (ac:S[j]? =some seg)
  (a6:∀v E' seg',Le E E'->R v E' seg'->Au E' H (S.set j seg')->AZ J Q b n ds ops k cs m D fuel (Bm listed i) (AB L d v) (Ak E' H (S.set j seg'))):
  AZ J Q b n ds ops k cs m D (fuel+1) listed L (Ak E H S):=by
 have al:S.flatten.Perm (seg++(S.set j []).flatten):=(EG (seg':=seg) ac).1.trans List.perm_append_comm;have am:Nd E H (seg++(S.set j []).flatten):=Nd.perm Z al;have a7:Ak E H S=mk E (Bq (S.set j []).flatten H) seg:=by
  rw [show Ak E H S=mk E H S.flatten from rfl,Fs Z al];unfold mk;rw [F0]
 have ap:=EW.LG (a1 (Bq (S.set j []).flatten H) (Nd.front am)) (by rintro v s' ⟨E',B',_,_,_,rfl⟩;rfl);rw [← a7] at ap;refine AZ.call V a2 a3 a4 hw hb a5 ap ?_;rintro v bw ⟨⟨E',B',hle,a8,a9,rfl⟩,w,bb⟩;have e2:mk E' (Bq (S.set j []).flatten H) B'=mk E' H (B'++(S.set j []).flatten):=by unfold mk;rw [F0]
 have be:Nd E H (S.set j []).flatten:=by
  have:=am;rw [Nd.iff] at this ⊢;rw [List.map_append,List.nodup_append] at this;exact⟨this.1.2.1,λq bi=>this.2 q (List.mem_append_right _ bi)⟩
 have bn:Nd E' H (S.set j []).flatten:=be.grow λx U=>by
  have bo:=bb.d x U;have ag:Bq B' (Bq (S.set j []).flatten H) x=none:=bo;exact(H7 ag).1
 have aq:Nd E' H (B'++(S.set j []).flatten):=Nd.glue a9 bn;have av:(B'++(S.set j []).flatten).Perm (S.set j B').flatten:=List.perm_append_comm.trans (EG ac).2.symm;have aw:Au E' H (S.set j B'):=Nd.perm aq av;rw [e2,Fs aq av];refine⟨V,λx o U=>?_,a6 v E' B' hle a8 aw⟩;by_cases hd:D x=true
 .obtain⟨O,o',Y⟩:=a0 x hd;have ay:j≠O:=λh=>by
   subst h;rw [List.getElem?_set_self (List.getElem?_eq_some_iff.1 ac).1] at Y;cases Y
  have az:S[O]? =some [(x,o')]:=by rw [List.getElem?_set_ne ay] at Y;exact Y
  have ag:(Ak E H S).get x=some o':=DO (i:=0) Z az V;have bv:(Ak E' H (S.set j B')).get x=some o':=DO (i:=0) aw (by rw [List.getElem?_set_ne ay];exact az) rfl;have K:(if D x then(Ak E H S).get x else E x)=some o:=U
  show(if D x then(Ak E' H (S.set j B')).get x else E' x)=some o
  rw [if_pos hd] at K ⊢;rw [bv,← ag];exact K
 .have K:(if D x then(Ak E H S).get x else E x)=some o:=U
  show(if D x then(Ak E' H (S.set j B')).get x else E' x)=some o
  rw [if_neg hd] at K ⊢;exact hle _ _ K
theorem AZ.perm{S':List Seg}(K:S.flatten.Perm S'.flatten)(O:Au E H S)(h:Au E H S'->AZ J Q b n ds ops k cs m D fuel listed L (Ak E H S')):AZ J Q b n ds ops k cs m D fuel listed L (Ak E H S):=by
 have e:Ak E H S=Ak E H S':=Fs O K;rw [e];exact h (Nd.perm O K)
theorem JA.ghost:∀(fuel:Nat) {listed:Array Bool} {T:Av_} {s s₀:St},Cs s s₀->JA J Q b ds ops k cs m DR fuel listed T s₀->JA J Q b ds ops k cs m DR fuel listed T s
 | 0,listed,T,s,s₀,g,h=>⟨h.1,J.ghost g h.2⟩
 | fuel+1,listed,T,s,s₀,g,h=>by
  rcases h with⟨O,U⟩ | ⟨O,U,ac⟩
  .exact .inl ⟨O,λt=>J.ghost g (U t)⟩
  .refine .inr ⟨O,by rw [← g.q];exact U,λi hi o ag=>?_⟩;obtain⟨a1,al,am⟩:=ac i hi o ag;refine⟨a1,λe=>JA.ghost fuel g (al e),λe=>?_⟩;have ap:=ah _ (s:=Bz DR s) (s₀:=Bz DR s₀) g (am e);refine Er _ ap ?_ (λ_ s' ⟨_,_,h⟩=>h);intro aq s' K;obtain⟨Y,Z,K⟩:=K;cases aq with
   | value v=>exact JA.ghost fuel (s:=s') (s₀:=Y) Z K
   | skip=>exact JA.ghost fuel (s:=s') (s₀:=Y) Z K
   | enter f args=>
    obtain⟨R,av,aw⟩:=K;refine⟨R,λQ c cs ay=>J.ghost (s:=s') (s₀:=Y) Z (av Q c cs ay),λv az a0=>?_⟩;obtain⟨a2,a3,a4⟩:=aw v az a0;exact⟨a2,λx o K=>a3 x o (g.ext x o K),a4⟩
   | _=>exact K.elim
theorem Gx{α:Type}{pp:Rp α}{a:Option Addr}{c:Nat}{seg:Seg}{xs:List α}(j:Nat)(K:OL e pp E a c seg xs)(O:Au E H S)(U:S[j]? =some seg)
  (h:∀E',Le E E'->Ao pp E' a c xs->Au E' H (S.set j [])->AZ J Q b n ds ops k cs m DR fuel listed L (Ak E' H (S.set j []))):AZ J Q b n ds ops k cs m DR fuel listed L (Ak E H S):=λT Y=>by
 obtain⟨E',Z,ac,ag,al⟩:=Xo j K O U
 exact JA.ghost _ al (h E' Z ac ag T Y)
end
theorem oi{α:Type}{a b:α}(h:some a=some b):a=b:=Option.some.inj h
theorem bs{α β:Type}{o:Option α}{f:α->Option β}{r:β}(h:o.bind f=some r):∃x,o=some x/\f x=some r:=bind_some h
def IU(L:Env):Env->List (Option Value)
 | []=> []
 | (t,_)::L'=>look L t::IU L L'
def I0:Env->List (Option Value)
 | []=> []
 | (_,v)::L'=>some v::I0 L'
theorem PF{L:Env}:∀{L':Env},IU L L'=I0 L'->Sub L' L
 | [],_=>trivial
 | (t,v)::L',h=>by
  simp only [IU,I0,List.cons.injEq] at h
  exact⟨h.1,PF h.2⟩
variable {L':Env}{k':Li_}{rest:List Nat}
variable {op:Op}
section
variable {b:Frame}{i:Nat}
theorem EU(L':Env)(h:IU L L'=I0 L')(k':JL J Q b n L' ds k cs s):JL J Q b n L ds k cs s:=EH (PF h) k'
theorem AF(k':JL J Q b n L' ds k cs s)(h:IU L L'=I0 L'):JL J Q b n L ds k cs s:=EH (PF h) k'
def FG(b:Frame)(n:Nat)(L:Env)(ops:Ao_)(i:Nat):Option Oper:=
 match J9 ops.toList i with
 | some ⟨d,op,ty,p,af,g⟩=>match AY L ops ⟨d,op,ty,p,af,g⟩ with
  | some true=>match BU b n ⟨d,op,ty,p,af,g⟩ with
   | true=>some ⟨d,op,ty,p,af,g⟩
   | false=>none
  | _=>none
 | none=>none
theorem Lg{o:Oper}(h:FG b n L ops i=some o):ops[i]? =some o/\AY L ops o=some true/\BU b n o=true:=by
 unfold FG at h;split at h
 .rename_i K;rw [Mh,Array.getElem?_toList] at K;split at h
  .rename_i hw;split at h
   .rename_i O;cases h;exact⟨K,hw,O⟩
   .cases h
  .cases h
 .cases h
theorem An(K:FG b n L ops i=some ⟨d,op,ty,p,af,g⟩)(h:∀ρ,Fa L ρ->Yl P ⟨d,op,ty,p,af,g⟩ ρ s v)(O:JL J Q b n (AB L d v) ds (.inRegion ops rest::k) cs s):
  JL J Q b n L ds (.inRegion ops (i::rest)::k) cs s:=
 let ⟨U,Y,Z⟩:=Lg K
 Be U Y Z h O
theorem Mn{f:FuncId}{fn:Func}{c:Code}{E:LH}{vs:Lv_}{B:Seg}{R:Value->LH->Seg->Prop}(O:P.funcs[f]? =some fn)(hb:fn.body=some c)(U:Nat.ble vs.length fn.ntmps=true)
  (h:∀(Q:Gs_) (K:Frame) (cs:Lf_) (H:LH),Au E H [B]->(∀v E' S' B',Le E E'->S'.flatten=B'->R v E' B'->Au E' H S'->J.ok Q (G (K.finish v) cs) (Ak E' H S'))->JL J Q (base f) fn.ntmps (GB 0 vs) [] [.code c] (K::cs) (Ak E H [B])):AT J f vs E B R:=
 AT.enter O hb (Nat.le_of_ble_eq_true U) h
def Qf(n:Nat)(L:Env)(ops:Ao_)(i:Nat):Option Env:=
 match J9 ops.toList i with
 | some ⟨d,op,ty,p,af,g⟩=>match AY L ops ⟨d,op,ty,p,af,g⟩ with
  | some true=>match Bu n d with
   | true=>match LB L op with
    | some v=>match d with
     | some d=>some ((d,v)::L)
     | none=>some L
    | none=>none
   | false=>none
  | some false=>match Bu n d with
   | true=>match d with
    | some d=>some ((d,undef)::L)
    | none=>some L
   | false=>none
  | none=>none
 | none=>none
def Hk(n:Nat)(L:Env)(ops:Ao_)(i:Nat):Option Oper:=
 match J9 ops.toList i with
 | some ⟨d,op,ty,p,af,g⟩=>match AY L ops ⟨d,op,ty,p,af,g⟩ with
  | some true=>match Bu n d with
   | true=>some ⟨d,op,ty,p,af,g⟩
   | false=>none
  | _=>none
 | none=>none
theorem QL{o:Oper}(h:Hk n L ops i=some o):ops[i]? =some o/\AY L ops o=some true/\Bu n o.dst=true:=by
 unfold Hk at h;split at h
 .rename_i K;rw [Mh,Array.getElem?_toList] at K;split at h
  .rename_i hw;split at h
   .rename_i O;cases h;exact⟨K,hw,O⟩
   .cases h
  .cases h
 .cases h
theorem Z9(h:Qf n L ops i=some L'):∃o,ops[i]? =some o/\Bu n o.dst=true/\((∃v,AY L ops o=some true/\LB L o.op=some v/\L'=AB L o.dst v)∨(AY L ops o=some false/\L'=AB L o.dst undef)):=by
 unfold Qf at h;split at h
 .rename_i d op ty p af g O;rw [Mh,Array.getElem?_toList] at O;refine⟨_,O,?_⟩;split at h
  .rename_i hw;split at h
   .rename_i K;refine⟨K,.inl ?_⟩;split at h
    .rename_i v U;refine⟨v,hw,U,?_⟩;cases d with
     | none=>cases h;rfl
     | some d=>cases h;rfl
    .cases h
   .cases h
  .rename_i hw;split at h
   .rename_i K;refine⟨K,.inr ⟨hw,?_⟩⟩;cases d with
    | none=>cases h;rfl
    | some d=>cases h;rfl
   .cases h
  .cases h
 .cases h
variable {fuel:Nat}{listed:Array Bool}
theorem Dj(i:Nat)(K:Es ops m=true)(O:s.q=false)(h:Qf n L ops i=some L')
  (U:AZ J Q b n ds ops k cs m D fuel (Bm listed i) L' s) (Y:GG ops listed m i=true:=by decide+kernel):AZ J Q b n ds ops k cs m D (fuel+1) listed L s:=by
 obtain⟨o,Z,ac,⟨v,hw,ag,rfl⟩ | ⟨hw,rfl⟩⟩:=Z9 h
 .exact JG.val i Z K Y O hw ac (λρ al s' _=>O1 al ag) U
 .exact jq i Z K Y O hw ac U
theorem AQ(i:Nat)(K:Es ops m=true)(O:s.q=false)(U:Hk n L ops i=some ⟨d,op,ty,p,af,g⟩)
  (Y:∀ρ,Fa L ρ->∀s':St,(∀x o,(Bz D s).E x=some o->s'.E x=some o)->Yl P ⟨d,op,ty,p,af,g⟩ ρ s' v)
  (Z:AZ J Q b n ds ops k cs m D fuel (Bm listed i) (AB L d v) s) (ac:GG ops listed m i=true:=by decide+kernel):AZ J Q b n ds ops k cs m D (fuel+1) listed L s:=by
 obtain⟨ag,al,am⟩:=QL U;exact JG.val i ag K ac O al am Y Z
end
abbrev Jn(E H E':LH)(S:List Seg)(K L:Env)(s:St)(R:Prop):Prop:=L=K/\s=Ak E' H S/\Le E E'/\Au E' H S/\R
abbrev Jm(E H E':LH)(S:List Seg)(K L:Env)(s:St):Prop:=L=K/\s=Ak E' H S/\Le E E'/\Au E' H S
def P4(L:Env):List ResultVar->Option (Lv_)
 | []=>some []
 | .tmp t::rs=>match look L t with
  | some v=>match P4 L rs with
   | some vs=>some (v::vs)
   | none=>none
  | none=>none
 | _=>none
theorem Vs{P:Program}{L:Env}{s:St}:∀{rs:List ResultVar} {vs:Lv_},P4 L rs=some vs->RV P L s rs vs
 | [],vs,h=>by cases h;trivial
 | .tmp t::rs,vs,h=>by
  unfold P4 at h
  split at h
  .rename_i v K
   split at h
   .rename_i ws hw;cases h;exact⟨K,Vs hw⟩
   .cases h
  .cases h
 | .cell _ _::_,_,h=>by cases h
variable {ft:TypeId}
section
variable {b:Frame}{i:Nat}
variable {x y:Operand}{e:TypeId}
theorem A2{c:Frame}{fn:Func}{vs:Lv_}(O:P.funcs[b.fn]? =some fn)(K:(b.kind== .normal&&b.roundOf.isNone)=true)(U:P4 L fn.results.toList=some vs)(h:J.ok Q (G (c.finish (Pd vs)) cs) s):JL J Q b n L [] (.code .ret::k) (c::cs) s:=by
 simp only [Bool.and_eq_true,beq_iff_eq,Option.isNone_iff_eq_none] at K;exact JL.ret K.1 K.2 (BK.list O V (Vs U)) h
theorem B7{f:FuncId}{args:Array Operand}{ats:Array TypeId}{vs:Lv_}{R:Value->LH->Seg->Prop}
  (O:AT J f vs E [] R) (U:FG b n L ops i=some ⟨d,.call ⟨.value (.func f),args,ats⟩,ty,p,af,g⟩) (Y:evs L args.toList=some vs) (hb:Ec P f=true)
  (Z:Au E H S) (ac:∀v E' seg',Le E E'->R v E' seg'->Au E' H (S++ [seg'])->JL J Q b n (AB L d v) ds (.inRegion ops rest::k) cs (Ak E' H (S++ [seg']))):
  JL J Q b n L ds (.inRegion ops (i::rest)::k) cs (Ak E H S):=by
 obtain⟨ag,al,K⟩:=Lg U;refine JS.call O ag al ?_ hb Y Z ac;simp only [BU,Bool.and_eq_true] at K ⊢;exact⟨K.1,K.2.1⟩
theorem CC{f:FuncId}{args:Array Operand}{ats:Array TypeId}{vs:Lv_}{v:Value}
  (O:AT J f vs E [] (λw E' B'=>w=v/\B'= [])) (U:FG b n L ops i=some ⟨d,.call ⟨.value (.func f),args,ats⟩,ty,p,af,g⟩) (Y:evs L args.toList=some vs) (hb:Ec P f=true)
  (K:Au E H S) (Z:∀E',Le E E'->Au E' H (S++ [[]])->JL J Q b n (AB L d v) ds (.inRegion ops rest::k) cs (Ak E' H (S++ [[]]))):
  JL J Q b n L ds (.inRegion ops (i::rest)::k) cs (Ak E H S):=B7 O U Y hb K (by rintro _ E' _ hle ⟨rfl,rfl⟩ K;exact Z E' hle K)
theorem Cc{f:FuncId}{args:Array Operand}{ats:Array TypeId}{vs:Lv_}{seg:Seg}{R:Value->LH->Seg->Prop}(j:Nat)
  (O:AT J f vs E seg R) (U:FG b n L ops i=some ⟨d,.call ⟨.value (.func f),args,ats⟩,ty,p,af,g⟩) (Y:evs L args.toList=some vs) (hb:Ec P f=true)
  (Z:Au E H S) (ac:S[j]? =some seg) (ag:∀v E' seg',Le E E'->R v E' seg'->Au E' H (S.set j seg')->JL J Q b n (AB L d v) ds (.inRegion ops rest::k) cs (Ak E' H (S.set j seg'))):
  JL J Q b n L ds (.inRegion ops (i::rest)::k) cs (Ak E H S):=by
 obtain⟨al,am,K⟩:=Lg U;refine T5 j O al am ?_ hb Y Z ac ag;simp only [BU,Bool.and_eq_true] at K ⊢;exact⟨K.1,K.2.1⟩
def Nr(K:Array Field)(i:Nat):Option (Nat×TypeId):=match K[i]? with
 | some f=>some (f.offset,f.type)
 | none=>none
theorem Bv{r m m':Int}{u:TypeId}(h:Av (m+m')=some r)(K:FG b n L ops i=some ⟨d,.binOp .add t x y u,ty,p,af,g⟩)(O:ev L x=some (iV m))(U:ev L y=some (iV m'))
  (Y:JL J Q b n (AB L d (iV r)) ds (.inRegion ops rest::k) cs s):JL J Q b n L ds (.inRegion ops (i::rest)::k) cs s:=An K (λ_ q=>Dy (q _ _ O) (q _ _ U) h) Y
theorem BV{r m m':Int}{u:TypeId}(h:Av (m - m')=some r)(K:FG b n L ops i=some ⟨d,.binOp .sub t x y u,ty,p,af,g⟩)(O:ev L x=some (iV m))(U:ev L y=some (iV m'))
  (Y:JL J Q b n (AB L d (iV r)) ds (.inRegion ops rest::k) cs s):JL J Q b n L ds (.inRegion ops (i::rest)::k) cs s:=An K (λ_ q=>El (q _ _ O) (q _ _ U) h) Y
theorem JL.ln{a:Option Addr}{e:TypeId}{l c:Nat}{ats:Array TypeId}(K:P.underlying t=some (.slice e))(O:FG b n L ops i=some ⟨d,.call ⟨.builtin .len,#[x],ats⟩,ty,p,af,g⟩)(U:ats[0]? =some t)(Y:ev L x=some (.slice a l c))
  (Z:JL J Q b n (AB L d (.int .i64 l)) ds (.inRegion ops rest::k) cs s):JL J Q b n L ds (.inRegion ops (i::rest)::k) cs s:=An O (λ_ q=>Yl.len U K (q _ _ Y)) Z
theorem JL.fd{bk o O off:Nat}{U:Array Field}{Y:Nat}(Z:P.underlying t=some (.struct U))(ac:By P ft=some (O+1))(ag:FG b n L ops i=some ⟨d,.fieldAddr t x Y,ty,p,af,g⟩)(al:ev L x=some (.pointer (some ⟨bk,o,none⟩)))(K:Nr U Y=some (off,ft))
  (am:JL J Q b n (AB L d (.pointer (some ⟨bk,o+off,none⟩))) ds (.inRegion ops rest::k) cs s):
  JL J Q b n L ds (.inRegion ops (i::rest)::k) cs s:=by
 unfold Nr at K;split at K
 .rename_i f ap;cases K;refine An ag (λρ h=>Ft (a:=⟨bk,o,none⟩) O f.offset Z ac ap V V (h _ _ al)) ?_;rw [Ek rfl];exact am
 .cases K
theorem Dh{bk o:Nat}{ws:Lv_}(j:Nat)(K:At E bk o ws)(O:DU P t=some false)(U:FG b n L ops i=some ⟨d,.load t x,ty,p,af,g⟩)(Y:ev L x=some (.pointer (some ⟨bk,o+j,none⟩)))(Z:ws[j]? =some v)
  (ac:JL J Q b n (AB L d v) ds (.inRegion ops rest::k) cs (Ak E H S)):
  JL J Q b n L ds (.inRegion ops (i::rest)::k) cs (Ak E H S):=
 An U (λ_ h=>Yl.load O (h _ _ Y) (At.J6 K Z)) ac
theorem WV{bk off:Nat}{c:Av_}(j:Nat)(K:Au E H S)(O:By P t=some v.cells.size)(U:FG b n L ops i=some ⟨d,.store t x y,ty,p,af,g⟩)
  (Y:ev L x=some (.pointer (some ⟨bk,off,none⟩))) (Z:ev L y=some v) (ac:S[j]? =some [(bk,.cells c e (0,0))])
  (h:Au E H (S.set j [(bk,.cells (A9 c off v.cells.toList) e (0,0))])->JL J Q b n (AB L d undef) ds (.inRegion ops rest::k) cs (Ak E H (S.set j [(bk,.cells (A9 c off v.cells.toList) e (0,0))])))
  (hle:off+v.cells.size<=c.size:=by exact Nat.le_of_ble_eq_true rfl) (ag:∀u∈v.cells.toList,C5 u=true:=by simp [Value.cells,C5]):
  JL J Q b n L ds (.inRegion ops (i::rest)::k) cs (Ak E H S):=by
 obtain⟨al,am,ap⟩:=Lg U;exact JS.store j al am ap K Y Z O ag ac hle h
theorem Cf{bk o:Nat}{ws:Lv_}(K:At E bk o ws)(O:DU P t=some true)(U:By P t=some ws.length)(Y:FG b n L ops i=some ⟨d,.load t x,ty,p,af,g⟩)(Z:ev L x=some (.pointer (some ⟨bk,o,none⟩)))
  (ac:JL J Q b n (AB L d (.agg ws.toArray)) ds (.inRegion ops rest::k) cs (Ak E H S)):
  JL J Q b n L ds (.inRegion ops (i::rest)::k) cs (Ak E H S):=
 An Y (λ_ h=>IN O U (h _ _ Z) (At.RQ K)) ac
variable {fuel:Nat}{listed:Array Bool}
theorem JG.fd{bk o O off:Nat}{U:Array Field}{Y:Nat}(i:Nat)(Z:Es ops m=true)(ac:P.underlying t=some (.struct U))(ag:By P ft=some (O+1))(al:s.q=false)(am:Hk n L ops i=some ⟨d,.fieldAddr t x Y,ty,p,af,g⟩)(ap:ev L x=some (.pointer (some ⟨bk,o,none⟩)))(K:Nr U Y=some (off,ft))
  (aq:AZ J Q b n ds ops k cs m D fuel (Bm listed i) (AB L d (.pointer (some ⟨bk,o+off,none⟩))) s) (av:GG ops listed m i=true:=by decide+kernel):AZ J Q b n ds ops k cs m D (fuel+1) listed L s:=by
 unfold Nr at K;split at K
 .rename_i f aw;cases K;refine AQ i Z al am (λρ h _ _=>Ft (a:=⟨bk,o,none⟩) O f.offset ac ag aw V V (h _ _ ap)) ?_ av;rw [Ek rfl];exact aq
 .cases K
theorem Eu{bk o:Nat}{ws:Lv_}(i:Nat)(K:Es ops m=true)(j:Nat)(O:At (Bz D s).E bk o ws)(U:DU P t=some false)(Y:s.q=false)(Z:Hk n L ops i=some ⟨d,.load t x,ty,p,af,g⟩)(ac:ev L x=some (.pointer (some ⟨bk,o+j,none⟩)))(ag:ws[j]? =some v)
  (al:AZ J Q b n ds ops k cs m D fuel (Bm listed i) (AB L d v) s) (am:GG ops listed m i=true:=by decide+kernel):AZ J Q b n ds ops k cs m D (fuel+1) listed L s:=
 AQ i K Y Z (λ_ h _ ap=>Yl.load U (h _ _ ac) (At.GC O ap ag)) al am
theorem Jq{bk o:Nat}{ws:Lv_}(i:Nat)(K:Es ops m=true)(O:At (Bz D s).E bk o ws)(U:DU P t=some true)(Y:By P t=some ws.length)(Z:s.q=false)(ac:Hk n L ops i=some ⟨d,.load t x,ty,p,af,g⟩)(ag:ev L x=some (.pointer (some ⟨bk,o,none⟩)))
  (al:AZ J Q b n ds ops k cs m D fuel (Bm listed i) (AB L d (.agg ws.toArray)) s) (am:GG ops listed m i=true:=by decide+kernel):AZ J Q b n ds ops k cs m D (fuel+1) listed L s:=
 AQ i K Z ac (λ_ h _ ap=>IN U Y (h _ _ ag) (At.RS O ap)) al am
end
abbrev SC:=Int×List Int×Nat
abbrev AR:=List (Int×Int)
abbrev Cd:=List Int×Int×Nat
abbrev Aq:=Option Addr
abbrev ED:Rp (Int×Int):=rP rI rI
theorem ip{α:Type}{p:Prop} [Decidable p] {A B:Option α}{r:α}(h:(if p then A else B)=some r)(c:p):A=some r:=by rwa [if_pos c] at h
theorem im{α:Type}{p:Prop} [Decidable p] {A B:Option α}{r:α}(h:(if p then A else B)=some r)(c:¬p):B=some r:=by rwa [if_neg c] at h
theorem ib{α:Type}{c:Bool}{A B:Option α}{r:α}(h:(if c=true then A else B)=some r)(K:c=false):B=some r:=by subst K;simpa using h
def Su(n:Nat)(ops:Ao_):List Nat->Nat->Env->Option (Nat×Env)
 | [],f,L=>some (f,L)
 | i::l,f+1,L=>match Qf n L ops i with
  | some L'=>Su n ops l f L'
  | none=>none
 | _::_,0,_=>none
def R9(ops:Ao_)(m:Nat):Array Bool->List Nat->Bool
 | _,[]=>true
 | listed,i::l=>GG ops listed m i&&R9 ops m (Bm listed i) l
def Ws:Array Bool->List Nat->Array Bool
 | listed,[]=>listed
 | listed,i::l=>Ws (Bm listed i) l
theorem A7{P:Program}{J:Judge P}{Q:Gs_}{b:Frame}{n:Nat}{ds:Ld_}{k:Li_}{cs:Lf_}{s:St}{ops:Ao_}{m:Nat}{D:Nat->Bool}{L':Env}{U:Nat}(Y:Es ops m=true)(Z:s.q=false):
  ∀(l:List Nat) {fuel:Nat} {listed:Array Bool} {L:Env},Su n ops l fuel L=some (U,L')->AZ J Q b n ds ops k cs m D U (Ws listed l) L' s->(K:R9 ops m listed l=true:=by decide+kernel)->AZ J Q b n ds ops k cs m D fuel listed L s
 | [],fuel,listed,L,h,O,_=>by cases h;exact O
 | i::l,fuel,listed,L,h,O,K=>by
  cases fuel with
  | zero=>cases h
  | succ fuel=>
   unfold R9 at K;rw [Bool.and_eq_true] at K;unfold Su at h;split at h
   .rename_i ac e;exact Dj i Y Z e (A7 Y Z l h O K.2) K.1
   .cases h
theorem zg{P:Program}{J:Judge P}{Q:Gs_}{b:Frame}{n:Nat}{L L':Env}{ds:Ld_}{k k':Li_}{cs:Lf_}{s:St}(m:Nat)(h:Pr b n m k L=some (k',L'))(K:JL J Q b n L' ds k' cs s):JL J Q b n L ds k cs s:=JL.go m h K
abbrev C:=@zg
abbrev bX(r:Nat)(c:Av_)(t:TypeId):Seg:= [(r,.cells c t (0,0))]
variable {α:Type}{A B:Option α}{r:α}
section
variable {b:Frame}
theorem A1{c:Operand}{x y:Code}{p:Prop} [Decidable p] (K:(if p then A else B)=some r)(O:p->A=some r->JL J Q b n L ds (.code x::k) cs s)(U:¬p->B=some r->JL J Q b n L ds (.code y::k) cs s)
  (Y:ev L c=some (.bool (decide p)):=by exact rfl):JL J Q b n L ds (.code (.cond c x y)::k) cs s:=GA Y (λh=>O h (ip K h)) λh=>U h (im K h)
theorem Ct{c:Operand}{x y:Code}{t:Bool}(K:(if t=true then A else B)=some r)(O:t=true->A=some r->JL J Q b n L ds (.code x::k) cs s)(U:t=false->B=some r->JL J Q b n L ds (.code y::k) cs s)
  (Y:ev L c=some (.bool t):=by exact rfl):JL J Q b n L ds (.code (.cond c x y)::k) cs s:=QX Y (λh=>O h (ip K h)) λh=>U h (ib K h)
theorem IY{q:Prop} [Decidable q] (i:Nat)(K:(if q then A else B)=some r)(O:q->A=some r->JL J Q b n (AB L (some i) (.bool true)) ds k cs s)(U:¬q->B=some r->JL J Q b n (AB L (some i) (.bool false)) ds k cs s)
  (Y:look L i=some (.bool (decide q)):=by exact rfl):JL J Q b n L ds k cs s:=MX Y (λh=>O h (ip K h)) λh=>U h (im K h)
theorem FQ{t:Bool}(i:Nat)(K:(if t=true then A else B)=some r)(O:t=true->A=some r->JL J Q b n (AB L (some i) (.bool true)) ds k cs s)(U:t=false->B=some r->JL J Q b n (AB L (some i) (.bool false)) ds k cs s)
  (Y:look L i=some (.bool t):=by exact rfl):JL J Q b n L ds k cs s:=Lc Y (λh=>O h (ip K h)) λh=>U h (ib K h)
theorem Cn{K O:Type}{c:Code}{body:K->Option (Br K O)}{f:Nat}{U:K}{a:O}(Z:iter body f U=some a)(I:Env->St->K->Prop)(ac:I L' s U)
  (round:∀L s x,I L s x->(∀Y,body x=some (.done Y)->Y=a)->(∃st,body x=some st)->(∀L' s' x',I L' s' x'->body x=some (.more x')->JL J Q b n L' ds (.inLoop c::k) cs s')->JL J Q b n L ds (.code c:: .inLoop c::k) cs s)
  (ag:IU L L'=I0 L':=by exact rfl):JL J Q b n L ds (.code (.loop c)::k) cs s:=EU L' ag (T0 Z I ac round)
variable {fuel:Nat}{listed:Array Bool}
def P1(ops:Ao_):Array Bool->List Nat->Bool
 | _,[]=>true
 | l,i::t=>Region.ready .any ops l== [i]&&P1 ops (Bm l i) t
theorem Vu:∀{t:List Nat} {l:Array Bool},P1 ops l t=true->∀u,Region.linearise.go .any ops t.length u l []=t
 | [],_,_,_=>rfl
 | i::t,l,h,u=>by
  unfold P1 at h
  rw [Bool.and_eq_true,beq_iff_eq] at h
  exact gQ h.1 (Vu h.2) u
theorem CZ(t:List Nat)(O:JL J Q b n L ds (.inRegion ops t::k) cs s)(K:(R4 m listed&&P1 ops listed t&&(fuel+1==t.length))=true:=by decide+kernel):AZ J Q b n ds ops k cs m D (fuel+1) listed L s:=by
 rw [Bool.and_eq_true,Bool.and_eq_true,beq_iff_eq] at K;exact AZ.leaf K.1.1 (by rw [K.2];exact Vu K.1.2) O
theorem Fl(m:Nat){id:Nat}(h:Es ops m=true->AZ J Q b n ds ops k cs m DR ops.size (Array.replicate ops.size false) L (Ak E H S))(hm:P.follows .mixedOrders=true:=by exact rfl)(K:(b.kind != .early)=true:=by exact rfl)(O:Es ops m=true:=by decide+kernel):
  JL J Q b n L ds (.code (.region id ops true)::k) cs (Ak E H S):=ZQ m hm K O h
theorem Et(m:Nat)(bks:List Nat){id:Nat}(K:HH S bks)(O:Au E H S)(h:Es ops m=true->AZ J Q b n ds ops k cs m (AD bks) ops.size (Array.replicate ops.size false) L (Ak E H S))(hm:P.follows .mixedOrders=true:=by exact rfl)(U:(b.kind != .early)=true:=by exact rfl)(Y:Es ops m=true:=by decide+kernel):
  JL J Q b n L ds (.code (.region id ops true)::k) cs (Ak E H S):=bm m bks K O hm U Y h
theorem Fo{α:Type}{pp:Rp α}{a:Option Addr}{c:Nat}{xs:List α}{xv:α}{K:Int}{d:Option Tmp}{x y:Operand}{t ty e:TypeId}{p:String}{af:Ae_}{g:On_}{kd:IntKind}(i:Nat)(O:Ao pp E a c xs)(U:ix xs K=some xv)(Y:Es ops m=true)(Z:P.underlying t=some (.slice e))(ac:By P e=some pp.n)
  (h:∀bk o ws,pp.r E ws xv->At E bk o ws->AZ J Q b n ds ops k cs m D fuel (Bm listed i) (AB L d (.pointer (some ⟨bk,o,none⟩))) s)
  (ag:ops[i]? =some ⟨d,.indexAddr t x y,ty,p,af,g⟩:=by exact rfl) (al:GG ops listed m i=true:=by decide+kernel) (am:s.q=false:=by exact rfl)
  (hw:AY L ops ⟨d,.indexAddr t x y,ty,p,af,g⟩=some true:=by exact rfl) (ap:Bu n d=true:=by exact rfl)
  (aq:ev L x=some (.slice a xs.length c):=by exact rfl) (av:ev L y=some (.int kd K):=by exact rfl):
  AZ J Q b n ds ops k cs m D (fuel+1) listed L s:=et i O U ag Y al am hw ap aq av Z ac h
end
theorem EP{P:Program}{J:Judge P}{Q:Gs_}{b:Frame}{n:Nat}{ds:Ld_}{ops:Ao_}{k:Li_}{cs:Lf_}{m fuel:Nat}{D:Nat->Bool}{listed:Array Bool}{L L':Env}{s:St}(k':AZ J Q b n ds ops k cs m D fuel listed L' s)(h:IU L L'=I0 L'):AZ J Q b n ds ops k cs m D fuel listed L s:=DD (PF h) k'
instance {α:Type} [DecidableEq α] (xs:List α):Decidable (xs= []):=inferInstance
variable {w:Value}
section
variable {b:Frame}{i:Nat}
variable {x y:Operand}{e:TypeId}
end
section
variable {b:Frame}{fuel:Nat}{listed:Array Bool}
variable {x y:Operand}{e:TypeId}{i:Nat}
theorem Ow{s:St}{D:Nat->Bool}{i j l:Nat}(K:s.q=false)(O:Region.ready .any ops listed= [i,j,l])(hi:Take J Q b n ds ops k cs m D fuel listed L s i)(U:Take J Q b n ds ops k cs m D fuel listed L s j)(Y:Take J Q b n ds ops k cs m D fuel listed L s l):AZ J Q b n ds ops k cs m D (fuel+1) listed L s:=
 QE K O (by simp) (by intro q K;simp at K;rcases K with rfl | rfl | rfl <;> assumption)
end
theorem Ao.cut{α:Type}{pp:Rp α}{E:LH}{a:Option Addr}{c:Nat}{xs ys:List α}{lo hi:Int}(Y:Ao pp E a c xs)(hC:HR xs lo hi=some ys):
  ∃Z ac,Ao pp E Z ac ys/\∀{P:Program} {ρ:Operand->Value} {s:St} {d:Option Tmp} {x:Operand} {t ty e:TypeId} {p:String} {af:Ae_} {g:On_} {olo ohi:Option Operand},P.underlying t=some (.slice e)->By P e=some pp.n->ρ x= .slice a xs.length c->
   (match ohi with | some w=>ρ w=iV hi | none=>hi=xs.length)->(match olo with | some w=>ρ w=iV lo | none=>lo=0)->Yl P ⟨d,.slice t x olo ohi none,ty,p,af,g⟩ ρ s (.slice Z ys.length ac):=by
 unfold HR at hC;split at hC
 rotate_left
 .cases hC
 rename_i hb;obtain⟨a1,a2,ap⟩:=hb;cases hC;obtain⟨lo,rfl⟩:∃l:Nat,lo=l:=⟨lo.toNat,by omega⟩;obtain⟨hi,rfl⟩:∃l:Nat,hi=l:=⟨hi.toNat,by omega⟩;simp only [Int.toNat_natCast] at*;have a3:=Y.1;have hlen:((xs.take hi).drop lo).length=hi - lo:=by simp;omega
 have ag:∀ad:Addr,a=some ad->ad.spot=none∨c=0:=λad K=>by
  rcases Y.2 with⟨_,h⟩ | ⟨bk,off,h,_⟩
  .exact h ad K
  .rw [h] at K;cases K;exact .inl V
 refine⟨if c=lo then a else a.map (·.add (lo*pp.n)),c - lo,⟨by rw [hlen];omega,?_⟩,?_⟩
 .by_cases aq:hi - lo=0
  .left;refine⟨List.eq_nil_of_length_eq_zero (by rw [hlen];exact aq),λad K=>?_⟩;split at K
   .exact(ag ad K).imp id λh=>by omega
   .cases a with
    | none=>cases K
    | some av=>
     simp only [Option.map_some,Option.some.injEq] at K;subst K;exact .inl (by rw [Ek ((ag av rfl).resolve_right (by omega))])
  .right;rcases Y.2 with⟨h,_⟩ | ⟨bk,off,rfl,O⟩
   .subst h;simp at ap;omega
   .refine⟨bk,off+lo*pp.n,?_,λq z U=>?_⟩
    .rw [if_neg (by omega),Option.map_some,Ek rfl]
    .rw [List.getElem?_drop,List.getElem?_take] at U;split at U
     .obtain⟨ws,aw,al⟩:=O _ z U;refine⟨ws,aw,?_⟩;rw [Nat.add_mul] at al;rw [Nat.add_assoc];exact al
     .cases U
 .intro P ρ s d x t ty e p af g olo ohi ay az a0 O am;rw [hlen];refine Yl.slice (mx:=c) (hi:=hi) (lo:=lo) ay az a0 V ?_ ?_ (Nat.le_refl _) (by omega) (by omega)
  .cases ohi with
   | none=>exact⟨by simp only at O;omega,rfl⟩
   | some w=>exact O
  .cases olo with
   | none=>simp only at am;show lo=0;omega
   | some w=>exact am
section
variable {b:Frame}{fuel:Nat}{listed:Array Bool}
theorem Ia{S1 S':List Seg}(K:S=S1)(O:S1.Perm S')(U:Au E H S)(h:Au E H S'->AZ J Q b n ds ops k cs m D fuel listed L (Ak E H S')):AZ J Q b n ds ops k cs m D fuel listed L (Ak E H S):=by
 subst K;exact AZ.perm O.flatten U h
end
variable {e2:TypeId}
section
variable {b:Frame}{i:Nat}
variable {x y:Operand}{e:TypeId}
def KR(E:LH):Nat->Bool:=λx=>(E x).isNone
theorem dU(x:Nat):(Bz (KR E) (Ak E H S)).E x=(Ak E H S).get x:=by
 show(if KR E x then(Ak E H S).get x else E x)=_
 unfold KR;cases h:E x with
 | none=>simp
 | some o=>
  rw [if_neg (by simp)];unfold St.get;rw [show(Ak E H S).E x=some o from h]
theorem Sp{s':St}(K:∀x o,(Bz (KR E) (Ak E H S)).E x=some o->s'.E x=some o){x:Nat}{o:Obj}(h:(Ak E H S).get x=some o):s'.get x=some o:=by
 have:=K x o (by rw [dU];exact h);unfold St.get;rw [this]
theorem Ns{s':St}(K:∀x o,(Bz (KR E) (Ak E H S)).E x=some o->s'.E x=some o){a:Addr}{v:Value}(h:(Ak E H S).cell? a=some v):s'.cell? a=some v:=by
 obtain⟨o,O,U⟩:=Option.bind_eq_some_iff.1 h;unfold St.cell?;rw [Sp K O];exact U
theorem V4{s':St}(K:∀x o,(Bz (KR E) (Ak E H S)).E x=some o->s'.E x=some o){a:Addr}{vs:Lv_}(h:∀(i:Nat) v,vs[i]? =some v->(Ak E H S).cell? (Addr.add a i)=some v):∀(i:Nat) v,vs[i]? =some v->s'.cell? (Addr.add a i)=some v:=λi v O=>Ns K (h i v O)
theorem R3(m:Nat){id:Nat}(h:Es ops m=true->AZ J Q b n ds ops k cs m (KR E) ops.size (Array.replicate ops.size false) L (Ak E H S))(hm:P.follows .mixedOrders=true:=by exact rfl)(K:(b.kind != .early)=true:=by exact rfl)(O:Es ops m=true:=by decide+kernel):
  JL J Q b n L ds (.code (.region id ops true)::k) cs (Ak E H S):=QY m (KR E) V hm K (h O)
abbrev rs(q:Nat×Obj)(K:Seg)(p:Nat×Obj)(g2:Seg):Seg:=q::(K++ [p]++g2)
end
variable {o:Obj}{xs:List (κ×ν)}{v0:ν}
variable {kk:Li_}
variable {z:Operand}{x0:κ}
section
variable [DecidableEq κ]
def KN(xs:List (κ×ν)):Prop:=(xs.map (·.1)).Nodup
theorem KN.perm{xs ys:List (κ×ν)}(h:KN xs)(p:ys.Perm xs):KN ys:=((p.map (λq:κ×ν=>q.1)).nodup_iff).2 h
theorem Us{xs:List (κ×ν)}(h:KN xs){x:κ}{v:ν}:Bd xs x=some v↔(x,v)∈xs:=by
 induction xs with
 | nil=>simp [Bd]
 | cons y ys U=>
  have O:y.1 ∉ ys.map (·.1)/\KN ys:=by simpa [KN] using h
  by_cases e:x=y.1
  .subst e;have K:Bd (y::ys) y.1=some y.2:=by simp [Bd]
   rw [K];constructor
   .intro q;cases q;simp
   .intro q;rcases List.mem_cons.1 q with q | q
    .rw [← q]
    .exact absurd (List.mem_map.2 ⟨_,q,V⟩) O.1
  .have K:Bd (y::ys) x=Bd ys x:=by simp [Bd,e]
   rw [K,U O.2];constructor
   .intro q;exact List.mem_cons_of_mem _ q
   .intro q;rcases List.mem_cons.1 q with q | q
    .exact absurd (by rw [← q]) e
    .exact q
theorem TP{xs ys:List (κ×ν)}(h:KN xs)(p:ys.Perm xs)(x:κ):Bd ys x=Bd xs x:=by
 apply Option.ext;intro v;rw [Us h,Us (h.perm p),p.mem_iff]
def DL(xs:List (κ×ν))(x:κ):List (κ×ν):=xs.filter λy=>decide (x≠y.1)
theorem TU{xs:List (κ×ν)}{x:κ}(h:∀y∈xs,x≠y.1):DL xs x=xs:=List.filter_eq_self.2 λy K=>by simpa using h y K
theorem Oo{x:κ}{v:ν}:∀{xs:List (κ×ν)},KN xs->(Cg xs x v).Perm ((x,v)::DL xs x)
 | [],_=> .refl _
 | y::ys,h=>by
  have K:y.1 ∉ ys.map (·.1)/\KN ys:=by simpa [KN] using h
  unfold Cg;by_cases e:x=y.1
  .rw [if_pos e];have e2:DL (y::ys) x=ys:=by
    have:DL (y::ys) x=DL ys x:=by simp [DL,e]
    rw [this];exact TU λz O q=>K.1 (List.mem_map.2 ⟨z,O,by rw [← q,e]⟩)
   rw [e2]
  .rw [if_neg e];have e2:DL (y::ys) x=y::DL ys x:=by simp [DL,e]
   rw [e2];exact((Oo K.2).cons y).trans (List.Perm.swap _ _ _)
theorem QO{xs ys:List (κ×ν)}(p:ys.Perm xs)(x:κ):(DL ys x).Perm (DL xs x):=p.filter _
theorem X7{xs ys:List (κ×ν)}(h:KN xs)(p:ys.Perm xs)(x:κ)(v:ν):(Cg ys x v).Perm (Cg xs x v):=
 (Oo (h.perm p)).trans (((QO p x).cons _).trans (Oo h).symm)
theorem KN.del{xs:List (κ×ν)}(h:KN xs)(x:κ):KN (DL xs x):=by
 unfold KN DL;exact List.Nodup.sublist (List.Sublist.map _ List.filter_sublist) h
theorem KN.put{xs:List (κ×ν)}(h:KN xs)(x:κ)(v:ν):KN (Cg xs x v):=by
 refine KN.perm ?_ (Oo h);unfold KN;simp only [List.map_cons,List.nodup_cons];refine⟨λq=>?_,h.del x⟩;obtain⟨z,K,e⟩:=List.mem_map.1 q;have:=(List.mem_filter.1 K).2;simp at this;exact this e.symm
def BO(pk:Rp κ)(ka:Bool)(pv:Rp ν)(va:Bool)(E:LH)(o:Obj)(xs:List (κ×ν)):Prop:=KN xs/\∃ys,ys.Perm xs/\LF pk ka pv va E o ys
theorem BO.M{o:Obj}{xs:List (κ×ν)}(h:BO pk ka pv va E o xs)(hle:Le E E'):BO pk ka pv va E' o xs:=
 let ⟨K,ys,O,U⟩:=h;⟨K,ys,O,U.M hle⟩
theorem BO.perm{o:Obj}{xs ys:List (κ×ν)}(h:BO pk ka pv va E o xs)(p:ys.Perm xs):BO pk ka pv va E o ys:=
 let ⟨K,O,U,Y⟩:=h;⟨K.perm p,O,U.trans p.symm,Y⟩
theorem BO.nil:BO pk ka pv va E (.map #[] 0) []:=⟨List.nodup_nil,[],.refl _,⟨#[],0,V,trivial,.nil,by simp⟩⟩
def rM(pk:Rp κ)(ka:Bool)(pv:Rp ν)(va:Bool):Rp (List (κ×ν)):=⟨1,λE ws xs=>∃bk o,ws= [.map (some bk)]/\E bk=some o/\BO pk ka pv va E o xs,
 λhle ⟨bk,o,h,K,O⟩=>⟨bk,o,h,hle _ _ K,O.M hle⟩,λ⟨bk,o,h,_,_⟩=>by subst h;rfl,λ⟨bk,o,h,_,_⟩ w hw=>by subst h;simp at hw;subst hw;rfl⟩
section
variable {bk:Nat}{k:Value}{x:κ}
theorem Yd(K:G3 P t pk ka)(hm:P.underlying tm=some (.map t te)){z:Value}{z0:ν}(O:zeroOf P te=some z)(U:Vr pv va E z z0)(Y:s.get bk=some o)(Z:BO pk ka pv va E o xs)(ac:Vr pk ka E k x)(ok:Bool){Q:Value->St->Prop}
  (h:∀w,Vr pv va E w ((Bd xs x).getD z0)->Q (if ok then .tuple #[w,.bool (Bd xs x).isSome] else w) s):lp P (Instr.lookup tm (.map (some bk)) k ok) s Q X:=by
 obtain⟨ag,ys,al,am⟩:=Z;refine Zv K hm O U Y am ac ok ?_;rw [TP ag al];exact h
theorem Xp(O:G3 P t pk ka)(hm:P.underlying tm=some (.map t te))(U:s.get bk=some o)(Y:s.H bk=some o)(Z:BO pk ka pv va E o xs)(ac:Vr pk ka E k x)(hw:Vr pv va E w v0){Q:Unit->St->Prop}
  (h:∀o',BO pk ka pv va E o' (Cg xs x v0)->Q () (s.upd bk o')):lp P (Instr.mapUpdate tm (.map (some bk)) k w) s Q X:=by
 obtain⟨K,ys,ag,al⟩:=Z;exact Xz O hm U Y al ac hw λo' am=>h o' ⟨K.put _ _,_,X7 K ag _ _,am⟩
theorem En.erase(Y:Vr pk ka E k x):∀{es:List MapEntry} {ys:List (κ×ν)} {i:Nat},En pk ka pv va E es ys->KN ys->
  (GN x es ys i=none/\DL ys x=ys)∨∃j u,GN x es ys i=some (i+j,u)/\En pk ka pv va E (es.eraseIdx j) (DL ys x)
 | [],[],i,_,_=> .inl ⟨rfl,rfl⟩
 | e::es,y::ys,i,h,Z=>by
  have U:y.1 ∉ ys.map (·.1)/\KN ys:=by simpa [KN] using Z
  unfold GN;by_cases K:x=y.1
  .refine .inr ⟨0,e.val,by rw [if_pos K];rfl,?_⟩;have e2:DL (y::ys) x=ys:=by
    have:DL (y::ys) x=DL ys x:=by simp [DL,K]
    rw [this];exact TU λz ac q=>U.1 (List.mem_map.2 ⟨z,ac,by rw [← q,K]⟩)
   rw [e2];exact h.2.2
  .have e2:DL (y::ys) x=y::DL ys x:=by simp [DL,K]
   rcases En.erase Y (i:=i+1) h.2.2 U.2 with⟨a1,O⟩ | ⟨j,u,a1,O⟩
   .exact .inl ⟨by rw [if_neg K];exact a1,by rw [e2,O]⟩
   .refine .inr ⟨j+1,u,by rw [if_neg K,a1];congr 2;omega,?_⟩;rw [e2];exact⟨h.1,h.2.1,O⟩
 | [],_::_,_,h,_=>h.elim
 | _::_,[],_,h,_=>h.elim
theorem Yh(ag:G3 P t pk ka)(hm:P.underlying tm=some (.map t te))(av:s.get bk=some o)(al:s.H bk=some o)(aw:BO pk ka pv va E o xs)(K:Vr pk ka E k x){u:TypeId}{Q:Value->St->Prop}
  (h:∀o',BO pk ka pv va E o' (DL xs x)->Q (.tuple #[]) (s.upd bk o')):lp P (Builtin.delete_ #[tm,t] u #[.map (some bk),k]) s Q X:=by
 obtain⟨O,ys,U,es,c,rfl,Y,am,ap⟩:=aw;unfold Builtin.delete_;simp only [List.getElem?_toArray,List.getElem?_cons_zero,List.getElem?_cons_succ];refine Ay _ _ (Cx hm ?_)
 dsimp only;refine Ay _ _ ?_;unfold getObj;simp only [bind,Sem.bind,lp];refine⟨_,av,V,?_⟩;refine Ay (x:=Instr.checkKey _ 10000 t k) _ (ag.BU K ?_);refine Ay (x:=Instr.findKey t k es.toList) _ (Qz ag K Y ?_);rcases En.erase K (i:=0) Y (O.perm U) with⟨Z,e2⟩ | ⟨j,u,Z,e2⟩
 .rw [Z];simp only [setObj,lp,pure];refine⟨⟨_,al,V⟩,V,h _ ⟨O.del _,_,QO U x,es,c,V,by rw [e2];exact Y,am,ap⟩⟩
 .rw [Z];simp only [setObj,lp,pure];have aq:(es.toList.eraseIdx j).Sublist es.toList:=List.eraseIdx_sublist _ _;have ac:(es.eraseIdxIfInBounds (0+j)).toList=es.toList.eraseIdx j:=by rw [Nat.zero_add];simp
  refine⟨⟨_,al,V⟩,V,h _ ⟨O.del _,_,QO U x,_,c,V,by rw [ac];exact e2,?_,?_⟩⟩
  .rw [ac];exact am.sublist (aq.map _)
  .rw [ac];exact λe he=>ap e (aq.subset he)
end
section
variable {b:Frame}
variable {x y:Operand}{e:TypeId}{i:Nat}{bk:Nat}{k:Value}
theorem Yl.lookup{zv v:Value}{z0:ν}{ok:Bool}(K:G3 P t pk ka)(hm:P.underlying tm=some (.map t te))(O:zeroOf P te=some zv)(U:Vr pv va E zv z0)(Y:BO pk ka pv va E o xs)(Z:Vr pk ka E k x0)
  (ac:∀w,Vr pv va E w ((Bd xs x0).getD z0)->(if ok then .tuple #[w,.bool (Bd xs x0).isSome] else w)=v) (ag:ρ x= .map (some bk)) (al:ρ y=k) (am:s.get bk=some o):Yl P ⟨d,.lookup tm x y ok,ty,p,af,g⟩ ρ s v:=by
 refine FM (sm:=Instr.lookup tm (ρ x) (ρ y) ok) V ?_;rw [ag,al];exact Yd K hm O U am Y Z ok λw hw=>⟨ac w hw,V⟩
theorem JS.makeMap(K:ops[i]? =some ⟨d,.makeMap t none,ty,p,af,g⟩)(hw:AY L ops ⟨d,.makeMap t none,ty,p,af,g⟩=some true)(O:BU b n ⟨d,.makeMap t none,ty,p,af,g⟩=true)(U:Au E H S)
  (h:∀r,Au E H (S++ [[(r,.map #[] 0)]])->JL J Q b n (AB L d (.map (some r))) ds (.inRegion ops rest::kk) cs (Ak E H (S++ [[(r,.map #[] 0)]]))):
  JL J Q b n L ds (.inRegion ops (i::rest)::kk) cs (Ak E H S):=
 JL.op K hw O λρ am=>by
  show lp P (do pure (Next.value (← Instr.makeMap t none))) _ _ _
  refine Ay _ _ ?_
  unfold Instr.makeMap
  simp only [newObj,bind,Sem.bind,pure,lp]
  refine⟨rfl,λr Y Z=>?_⟩
  obtain⟨ac,ag⟩:=Kv Y Z (.map #[] 0) U
  obtain⟨p1,p2⟩:=FN ac
  have al:(Ak E H S).upd r (.map #[] 0)=Ak E H (S++ [[(r,.map #[] 0)]]):=by rw [← p1,← ag];rfl
  show JL J Q b n (AB L d (.map (some r))) ds (.inRegion ops rest::kk) cs ((Ak E H S).upd r (.map #[] 0));rw [al];exact h r p2
theorem JS.mapUpdate(j:Nat)(Y:G3 P t pk ka)(hm:P.underlying tm=some (.map t te))(Z:BO pk ka pv va E o xs)(ac:Vr pk ka E k x0)(ag:Vr pv va E w v0)(K:Au E H S)(O:S[j]? =some [(bk,o)])
  (al:ops[i]? =some ⟨d,.mapUpdate tm x y z,ty,p,af,g⟩) (hw:AY L ops ⟨d,.mapUpdate tm x y z,ty,p,af,g⟩=some true) (am:BU b n ⟨d,.mapUpdate tm x y z,ty,p,af,g⟩=true) (ap:ev L x=some (.map (some bk))) (aq:ev L y=some k) (av:ev L z=some w)
  (h:∀o',BO pk ka pv va E o' (Cg xs x0 v0)->Au E H (S.set j [(bk,o')])->JL J Q b n (AB L d undef) ds (.inRegion ops rest::kk) cs (Ak E H (S.set j [(bk,o')]))):
  JL J Q b n L ds (.inRegion ops (i::rest)::kk) cs (Ak E H S):=
 JL.op al hw am λρ U=>by
  show lp P (do Instr.mapUpdate tm (ρ x) (ρ y) (ρ z);pure Next.skip) _ _ _
  rw [U _ _ ap,U _ _ aq,U _ _ av]
  refine Ay _ _ (Xp Y hm (DO (i:=0) K O rfl) (KM K O) Z ac ag λo' aw=>?_)
  obtain⟨ay,az⟩:=Lm K O o'
  rw [ay]
  exact h o' aw az
theorem Xv{at1:TypeId}(j:Nat)(Y:G3 P t pk ka)(hm:P.underlying tm=some (.map t te))(Z:BO pk ka pv va E o xs)(ac:Vr pk ka E k x0)(K:Au E H S)(O:S[j]? =some [(bk,o)])
  (ag:ops[i]? =some ⟨d,.call ⟨.builtin .delete,#[x,y],#[tm,t]⟩,ty,p,af,g⟩) (hw:AY L ops ⟨d,.call ⟨.builtin .delete,#[x,y],#[tm,t]⟩,ty,p,af,g⟩=some true) (al:BU b n ⟨d,.call ⟨.builtin .delete,#[x,y],#[tm,t]⟩,ty,p,af,g⟩=true) (am:ev L x=some (.map (some bk))) (ap:ev L y=some k)
  (h:∀o',BO pk ka pv va E o' (DL xs x0)->Au E H (S.set j [(bk,o')])->JL J Q b n (AB L d (.tuple #[])) ds (.inRegion ops rest::kk) cs (Ak E H (S.set j [(bk,o')]))):
  JL J Q b n L ds (.inRegion ops (i::rest)::kk) cs (Ak E H S):=
 JL.op ag hw al λρ U=>by
  have aq:execOp ρ ⟨d,.call ⟨.builtin .delete,#[x,y],#[tm,t]⟩,ty,p,af,g⟩=(do pure (Next.value (← Builtin.delete_ #[tm,t] ty #[ρ x,ρ y]))):=by
   simp [execOp,resolve,Deferred.ofValue,invoke,bind,Sem.bind,pure,Go.builtin]
  rw [aq,U _ _ am,U _ _ ap];refine Ay _ _ (Yh Y hm (DO (i:=0) K O rfl) (KM K O) Z ac λo' av=>?_);obtain⟨aw,ay⟩:=Lm K O o';rw [aw];exact h o' av ay
theorem Qy{todo:Li_}(j:Nat)(O:Au E H S)(U:S[j]? =some [(bk,o)])
  (h:∀E',Le E E'->E' bk=some o->Au E' H (S.set j [])->JL J Q b n L ds todo cs (Ak E' H (S.set j []))):JL J Q b n L ds todo cs (Ak E H S):=by
 obtain⟨Y,Z⟩:=Hg O U;rw [Y];have ac:((S.set j []).flatten++ [(bk,o)])[(S.set j []).flatten.length]? =some (bk,o):=by simp
 refine JL.freeze (S.set j []).flatten.length Z ac λE' hle ag K=>?_;have al:((S.set j []).flatten++ [(bk,o)]).eraseIdx (S.set j []).flatten.length=(S.set j []).flatten:=by rw [List.eraseIdx_append_of_length_le (Nat.le_refl _)];simp
 rw [al] at K ⊢;exact h E' hle ag K
theorem TJ{α:Type}{m:Nat}{f:Nat->Sem α}{s:St}{Q:α->St->Prop}{X:Halt->St->Prop}(hm:0<m)(K:s.q=false)(h:∀i,i<m->lp P (f i) s Q X):lp P ((choose (.mapNext m)).bind f) s Q X:=by
 simp only [choose,Sem.bind,lp];split
 .exact h 0 hm
 .exact⟨K,λt=>h _ (Nat.mod_lt _ hm)⟩
theorem JS.range{es:Array MapEntry}{c:Nat}(hm:P.underlying tm=some (.map t te))(K:(Ak E H S).get bk=some (.map es c))(O:ops[i]? =some ⟨d,.range tm x,ty,p,af,g⟩)(hw:AY L ops ⟨d,.range tm x,ty,p,af,g⟩=some true)(U:BU b n ⟨d,.range tm x,ty,p,af,g⟩=true)(Y:Au E H S)
  (Z:ev L x=some (.map (some bk)))
  (h:∀r,Au E H (S++ [[(r,.mapIter (some bk) c #[] c)]])->JL J Q b n (AB L d (.pointer (some ⟨r,0,none⟩))) ds (.inRegion ops rest::kk) cs (Ak E H (S++ [[(r,.mapIter (some bk) c #[] c)]]))):
  JL J Q b n L ds (.inRegion ops (i::rest)::kk) cs (Ak E H S):=
 JL.op O hw U λρ ac=>by
  show lp P (do pure (Next.value (← Instr.range tm (ρ x)))) _ _ _
  rw [ac _ _ Z]
  refine Ay _ _ ?_
  unfold Instr.range
  refine Ay _ _ (Cx hm ?_)
  simp only [getObj,newObj,bind,Sem.bind,pure,lp]
  refine⟨_,K,rfl,rfl,λr ag al=>?_⟩
  obtain⟨am,ap⟩:=Kv ag al (.mapIter (some bk) c #[] c) Y
  obtain⟨p1,p2⟩:=FN am
  have aq:(Ak E H S).upd r (.mapIter (some bk) c #[] c)=Ak E H (S++ [[(r,.mapIter (some bk) c #[] c)]]):=by rw [← p1,← ap];rfl
  show JL J Q b n (AB L d (.pointer (some ⟨r,0,none⟩))) ds (.inRegion ops rest::kk) cs ((Ak E H S).upd r (.mapIter (some bk) c #[] c));rw [aq];exact h r p2
theorem JS.next{es:Array MapEntry}{c r:Nat}{seen:Array Nat}(j:Nat)(am:(Ak E H S).get bk=some (.map es c))(hb:∀e∈es.toList,e.born<c)(K:Au E H S)(O:S[j]? =some [(r,.mapIter (some bk) c seen c)])
  (ap:ops[i]? =some ⟨d,.next x false,ty,p,af,g⟩) (hw:AY L ops ⟨d,.next x false,ty,p,af,g⟩=some true) (aq:BU b n ⟨d,.next x false,ty,p,af,g⟩=true) (U:ev L x=some (.pointer (some ⟨r,0,none⟩)))
  (av:∀e∈es.toList,e.born ∉ seen->Au E H (S.set j [(r,.mapIter (some bk) c (seen.push e.born) c)])->JL J Q b n (AB L d (.tuple #[.bool true,e.key,e.val])) ds (.inRegion ops rest::kk) cs (Ak E H (S.set j [(r,.mapIter (some bk) c (seen.push e.born) c)])))
  (aw:(∀e∈es.toList,e.born∈seen)->JL J Q b n (AB L d (.tuple #[.bool false])) ds (.inRegion ops rest::kk) cs (Ak E H S)):
  JL J Q b n L ds (.inRegion ops (i::rest)::kk) cs (Ak E H S):=
 JL.op ap hw aq λρ ay=>by
  show lp P (do pure (Next.value (← Instr.next (ρ x) false ty))) _ _ _
  rw [ay _ _ U]
  refine Ay _ _ ?_
  unfold Instr.next
  simp only [getObj,setObj,bind,Sem.bind,pure,lp]
  refine⟨_,DO (i:=0) K O rfl,rfl,?_⟩
  simp only [lp]
  refine⟨_,am,rfl,?_⟩
  have az:(!seen.isEmpty&& !es.isEmpty&&es.all (λe=>decide (e.born>=c)))=false:=by
   by_cases he:es.toList= []
   .have:es.isEmpty=true:=by simpa [Array.isEmpty_iff] using he
    simp [this]
   .obtain⟨e,ag⟩:=List.exists_mem_of_ne_nil _ he;have bi:=hb e ag;have:es.all (λe=>decide (e.born>=c))=false:=by
     cases U:es.all (λe=>decide (e.born>=c)) with
     | false=>rfl
     | true=>
      have:=Array.all_eq_true'.1 U e (Array.mem_toList_iff.1 ag);simp at this;omega
    simp [this]
  have a0:Array.filter (λx:MapEntry=>decide (x.born<c)) (Array.filter (λe=> !seen.contains e.born) es)=Array.filter (λe=> !seen.contains e.born) es:=by
   apply Array.toList_inj.1;rw [Array.toList_filter,List.filter_eq_self];intro e he;rw [Array.toList_filter] at he;simpa using hb e (List.mem_filter.1 he).1
  have e2:Array.filter (λx:MapEntry=>decide (x.born>=c)) (Array.filter (λe=> !seen.contains e.born) es)= #[]:=by
   apply Array.toList_inj.1;rw [Array.toList_filter,List.filter_eq_nil_iff];intro e he;rw [Array.toList_filter] at he;have:=hb e (List.mem_filter.1 he).1;simp;omega
  dsimp only;rw [if_neg (by rw [az];exact Bool.false_ne_true),a0,e2];have Y:∀e,e∈(Array.filter (λe=> !seen.contains e.born) es).toList↔e∈es.toList/\e.born ∉ seen:=by
   intro e;rw [Array.toList_filter,List.mem_filter];simp
  generalize Array.filter (λe:MapEntry=> !seen.contains e.born) es=left at Y ⊢;by_cases Z:left.toList= []
  .have a1:left= #[]:=Array.toList_inj.1 Z;subst a1;refine TJ (by simp) rfl λi hi=>?_;obtain rfl:i=0:=by simp at hi;exact hi
   have a2:((if(#[]:Array MapEntry).isEmpty=true then #[none] else #[])++Array.map some ((#[]:Array MapEntry)++ #[]))[0]? =some none:=by simp
   rw [a2];refine aw λe he=>?_;by_cases al:e.born∈seen
   .exact al
   .have:=(Y e).2 ⟨he,al⟩;simp at this
  .have a3:left.isEmpty=false:=by
    cases a4:left.isEmpty with
    | false=>rfl
    | true=>exact absurd (by simpa [Array.isEmpty_iff] using a4) Z
   rw [a3];simp only [Bool.false_eq_true,if_false,Array.append_empty,Array.empty_append];have a5:0<left.size:=by
    rcases Nat.eq_zero_or_pos left.size with ac | ac
    .exact absurd (by simpa using Array.eq_empty_of_size_eq_zero ac) Z
    .exact ac
   refine TJ (by simpa using a5) rfl λi hi=>?_;have a6:i<left.size:=by simpa using hi
   have a7:(Array.map some left)[i]? =some (some left[i]):=by simp [a6]
   rw [a7];simp only [lp];obtain⟨a8,a9⟩:=(Y left[i]).1 (Array.getElem_mem_toList _);refine⟨⟨_,KM K O,rfl⟩,rfl,?_⟩;obtain⟨bb,be⟩:=Lm K O (.mapIter (some bk) c (seen.push left[i].born) c);rw [bb];exact av _ a8 a9 be
theorem JS.entry{es:Array MapEntry}{c r:Nat}{seen:Array Nat}{e:MapEntry}(j:Nat)(U:(Ak E H S).get bk=some (.map es c))(he:e∈es.toList)(hb:(es.toList.map (·.born)).Pairwise (·<·))(Y:Au E H S)(Z:S[j]? =some [(r,.mapIter (some bk) c (seen.push e.born) c)])
  (ac:ops[i]? =some ⟨d,.entry x,ty,p,af,g⟩) (hw:AY L ops ⟨d,.entry x,ty,p,af,g⟩=some true) (ag:BU b n ⟨d,.entry x,ty,p,af,g⟩=true) (al:ev L x=some (.pointer (some ⟨r,0,none⟩)))
  (h:JL J Q b n (AB L d (.tuple #[e.key,e.val])) ds (.inRegion ops rest::kk) cs (Ak E H S)):
  JL J Q b n L ds (.inRegion ops (i::rest)::kk) cs (Ak E H S):=
 JL.op ac hw ag λρ am=>by
  show lp P (do pure (Next.value (← Instr.entry (ρ x)))) _ _ _
  rw [am _ _ al]
  refine Ay _ _ ?_
  unfold Instr.entry
  simp only [getObj,bind,Sem.bind,pure,lp]
  refine⟨_,DO (i:=0) Y Z rfl,rfl,?_⟩
  simp only [Array.back?_push,bne_self_eq_false,lp]
  refine⟨_,U,rfl,?_⟩
  have ap:es.find? (λx=>x.born==e.born)=some e:=by
   rw [← Array.find?_toList];have key:∀(l:List MapEntry),e∈l->(l.map (·.born)).Pairwise (·<·)->l.find? (λx=>x.born==e.born)=some e:=by
    intro l
    induction l with
    | nil=>intro h;cases h
    | cons y l aq=>
     intro hm K;rw [List.map_cons,List.pairwise_cons] at K;by_cases O:y.born=e.born
     .rcases List.mem_cons.1 hm with rfl | hm
      .simp
      .have:=K.1 e.born (List.mem_map.2 ⟨e,hm,rfl⟩);omega
     .rw [List.find?_cons_of_neg (by simpa using O)];rcases List.mem_cons.1 hm with rfl | hm
      .exact absurd rfl O
      .exact aq hm K.2
   exact key _ he hb
  simp only [bne_self_eq_false,Bool.false_eq_true,if_false,ap,lp];exact h
end
end
theorem K6{E H:LH}{S:List Seg}{bk:Nat}{o:Obj}(h:E bk=some o):(Ak E H S).get bk=some o:=by
 show(match E bk with | some o=>some o | none=>_)=some o
 rw [h]
theorem SR{α β:Type}(f:α->β){l:List α}(h:(l.map f).Nodup):l.Nodup:=by
 unfold List.Nodup at h ⊢;rw [List.pairwise_map] at h;exact h.imp λh e=>h (by rw [e])
theorem Ut{α:Type}:∀{l l':List α},l.Nodup->(∀x∈l,x∈l')->l.length<=l'.length
 | [],_,_,_=>Nat.zero_le _
 | x::l,l',h,O=>by
  obtain⟨a,b,rfl⟩:=List.append_of_mem (O x (by simp))
  have U:=List.nodup_cons.1 h
  have:=Ut (l:=l) (l':=a++b) U.2 (λy Y=>by
   have K:=O y (List.mem_cons_of_mem _ Y)
   have Z:y≠x:=λe=>U.1 (e▸Y)
   simp at K ⊢
   rcases K with K | K | K
   .exact .inl K
   .exact absurd K Z
   .exact .inr K)
  simp at this ⊢;omega
variable {ys:List (κ×ν)}
section
variable [DecidableEq κ]
def Js(es:Array MapEntry)(ys:List (κ×ν))(seen:Array Nat)(done:List (κ×ν)):Prop:=
 ∃dn:List (MapEntry×(κ×ν)),done=dn.map (·.2)/\seen.toList=dn.map (·.1.born)/\dn.Nodup/\∀q∈dn,q∈es.toList.zip ys
theorem Js.nil{es:Array MapEntry}{ys:List (κ×ν)}:Js es ys #[] []:=⟨[],V,V,.nil,by simp⟩
theorem T1:∀{es:List MapEntry} {ys:List (κ×ν)},(es.map (·.born)).Pairwise (·<·)->∀{p q:MapEntry×(κ×ν)},p∈es.zip ys->q∈es.zip ys->p.1.born=q.1.born->p=q
 | [],_,_,_,_,h,_,_=>by simp at h
 | _::_,[],_,_,_,h,_,_=>by simp at h
 | e::es,y::ys,U,p,q,K,O,hb=>by
  rw [List.map_cons,List.pairwise_cons] at U
  rw [List.zip_cons_cons] at K O
  have Y:∀{z:MapEntry×(κ×ν)},z∈es.zip ys->z.1.born∈es.map (·.born):=λ{z} Z=>by
   have:=(List.of_mem_zip Z).1
   exact List.mem_map.2 ⟨z.1,this,V⟩
  rcases List.mem_cons.1 K with rfl | K <;> rcases List.mem_cons.1 O with rfl | O
  .rfl
  .have:=U.1 _ (Y O);simp at hb;omega
  .have:=U.1 _ (Y K);simp at hb;omega
  .exact T1 U.2 K O hb
theorem En.zip:∀{es:List MapEntry} {ys:List (κ×ν)},En pk ka pv va E es ys->∀{q:MapEntry×(κ×ν)},q∈es.zip ys->Vr pk ka E q.1.key q.2.1/\Vr pv va E q.1.val q.2.2
 | [],[],_,_,h=>by simp at h
 | e::es,y::ys,h,q,K=>by
  rw [List.zip_cons_cons] at K
  rcases List.mem_cons.1 K with rfl | K
  .exact⟨h.1,h.2.1⟩
  .exact En.zip h.2.2 K
 | [],_::_,h,_,_=>h.elim
 | _::_,[],h,_,_=>h.elim
theorem Uh:∀{es:List MapEntry} {ys:List (κ×ν)},KN ys->(es.map (·.born)).Pairwise (·<·)->∀{p q:MapEntry×(κ×ν)},p∈es.zip ys->q∈es.zip ys->p.2.1=q.2.1->p=q
 | [],_,_,_,_,_,h,_,_=>by simp at h
 | _::_,[],_,_,_,_,h,_,_=>by simp at h
 | e::es,y::ys,ac,Y,p,q,K,O,hb=>by
  have U:y.1 ∉ ys.map (·.1)/\KN ys:=by simpa [KN] using ac
  rw [List.map_cons,List.pairwise_cons] at Y;rw [List.zip_cons_cons] at K O;have Z:∀{z:MapEntry×(κ×ν)},z∈es.zip ys->z.2.1∈ys.map (·.1):=λ{z} ag=>List.mem_map.2 ⟨z.2,(List.of_mem_zip ag).2,rfl⟩;rcases List.mem_cons.1 K with rfl | K <;> rcases List.mem_cons.1 O with rfl | O
  .rfl
  .have:=Z O;simp only at hb;rw [← hb] at this;exact absurd this U.1
  .have:=Z K;simp only at hb;rw [hb] at this;exact absurd this U.1
  .exact Uh U.2 Y.2 K O hb
theorem Js.len{es:Array MapEntry}{ys:List (κ×ν)}{seen:Array Nat}{done:List (κ×ν)}(h:Js es ys seen done):done.length<=ys.length:=by
 obtain⟨dn,rfl,Y,K,O⟩:=h;rw [List.length_map];have U:=Ut K O;exact Nat.le_trans U (by rw [List.length_zip];exact Nat.min_le_right _ _)
section
variable {b:Frame}
variable {x y:Operand}{e:TypeId}{i:Nat}{bk:Nat}
theorem T2{es:Array MapEntry}{c r:Nat}{seen:Array Nat}{done:List (κ×ν)}(j:Nat)(ac:En pk ka pv va E es.toList ys)(Z:(es.toList.map (·.born)).Pairwise (·<·))(hb:∀e∈es.toList,e.born<c)(aq:KN ys)(av:Js es ys seen done)(aw:(Ak E' H S).get bk=some (.map es c))(ay:Au E' H S)(az:S[j]? =some [(r,.mapIter (some bk) c seen c)])
  (a0:ops[i]? =some ⟨d,.next x false,ty,p,af,g⟩) (hw:AY L ops ⟨d,.next x false,ty,p,af,g⟩=some true) (a2:BU b n ⟨d,.next x false,ty,p,af,g⟩=true) (a3:ev L x=some (.pointer (some ⟨r,0,none⟩)))
  (a4:∀e O,Vr pk ka E e.key O.1->Vr pv va E e.val O.2->O∈ys->O.1 ∉ done.map (·.1)->e∈es.toList->Js es ys (seen.push e.born) (done++ [O])->Au E' H (S.set j [(r,.mapIter (some bk) c (seen.push e.born) c)])->
   JL J Q b n (AB L d (.tuple #[.bool true,e.key,e.val])) ds (.inRegion ops rest::kk) cs (Ak E' H (S.set j [(r,.mapIter (some bk) c (seen.push e.born) c)])))
  (a5:done.Perm ys->JL J Q b n (AB L d (.tuple #[.bool false])) ds (.inRegion ops rest::kk) cs (Ak E' H S)):
  JL J Q b n L ds (.inRegion ops (i::rest)::kk) cs (Ak E' H S):=by
 obtain⟨dn,rfl,a1,ag,Y⟩:=av;have hlen:=ac.len;refine JS.next j aw hb ay az a0 hw a2 a3 (λe he a6 a7=>?_) (λa8=>?_)
 .obtain⟨m,hm,a9⟩:=List.mem_iff_getElem.1 he;have U:(e,ys[m]'(by omega))∈es.toList.zip ys:=by
   rw [← a9];have:(es.toList.zip ys)[m]'(by rw [List.length_zip];omega)=(es.toList[m],ys[m]'(by omega)):=List.getElem_zip;rw [← this];exact List.getElem_mem _
  obtain⟨k1,bb⟩:=ac.zip U;have al:(e,ys[m]'(by omega)) ∉ dn:=λq=>a6 (by
   rw [← Array.mem_toList_iff,a1]
   exact List.mem_map.2 ⟨_,q,V⟩)
  refine a4 e _ k1 bb (List.getElem_mem _) (λq=>?_) he ⟨dn++ [(e,ys[m]'(by omega))],by simp,by simp [a1],?_,λq K=>?_⟩ a7
  .obtain⟨O,be,bi⟩:=List.mem_map.1 q;obtain⟨z,am,rfl⟩:=List.mem_map.1 be;have:=Uh aq Z (Y z am) U bi;exact al (this▸am)
  .rw [List.nodup_append];exact⟨ag,by simp,by intro q K z ap bn;simp at ap;subst ap bn;exact al K⟩
  .rcases List.mem_append.1 K with K | K
   .exact Y q K
   .simp at K;subst K;exact U
 .refine a5 ?_;have bo:dn.Perm (es.toList.zip ys):=by
   have bv:(es.toList.zip ys).Nodup:=by
    have:((es.toList.zip ys).map (·.1)).Nodup:=by
     rw [List.map_fst_zip (by omega)];exact SR (λe:MapEntry=>e.born) (Z.imp (λh=>Nat.ne_of_lt h))
    exact SR _ this
   refine(List.perm_ext_iff_of_nodup ag bv).2 λq=>⟨λK=>Y q K,λK=>?_⟩;have:=a8 q.1 (List.of_mem_zip K).1;rw [← Array.mem_toList_iff,a1] at this;obtain⟨z,U,bw⟩:=List.mem_map.1 this;have:=T1 Z (Y z U) K bw;exact this▸U
  have:=bo.map (·.2)
  rwa [List.map_snd_zip (by omega)] at this
end
end
variable {l0 bks:List Nat}{xl:List Nat}
section
variable {b:Frame}{fuel:Nat}{listed:Array Bool}
theorem C6(i:Nat)(pure:Bool)(K:s.q=false)(O:Hk n L ops i=some ⟨d,op,ty,p,af,g⟩)
  (U:∀ρ,Fa L ρ->∀s':St,(pure=false->∀x o,(Bz (AD (l0++bks)) s).E x=some o->s'.E x=some o)->Yl P ⟨d,op,ty,p,af,g⟩ ρ s' v)
  (Y:FH J Q b n ds ops k cs (AD xl) (AD (l0++bks)) (AD l0) fuel (Bm listed i) (AB L d v) s) (Z:Kb ops listed xl pure i=true:=by decide+kernel):FH J Q b n ds ops k cs (AD xl) (AD (l0++bks)) (AD l0) (fuel+1) listed L s:=by
 obtain⟨ac,ag,al⟩:=QL O;exact JB.val i pure ac Z K ag al U Y
def SA(n:Nat)(L:Env)(ops:Ao_)(i:Nat):Option Env:=
 match J9 ops.toList i with
 | some ⟨d,op,ty,p,af,g⟩=>match AY L ops ⟨d,op,ty,p,af,g⟩ with
  | some true=>match Bu n d with
   | true=>match LB L op with
    | some v=>match d with
     | some d=>some ((d,v)::L)
     | none=>some L
    | none=>none
   | false=>none
  | _=>none
 | none=>none
theorem Z0{i:Nat}(h:SA n L ops i=some L'):∃o v,ops[i]? =some o/\Bu n o.dst=true/\AY L ops o=some true/\LB L o.op=some v/\L'=AB L o.dst v:=by
 unfold SA at h;split at h
 .rename_i d op ty p af g K;rw [Mh,Array.getElem?_toList] at K;split at h
  .rename_i hw;split at h
   .rename_i O;split at h
    .rename_i v U;refine⟨_,v,K,O,hw,U,?_⟩;cases d with
     | none=>cases h;rfl
     | some d=>cases h;rfl
    .cases h
   .cases h
  .cases h
 .cases h
theorem AO(i:Nat)(K:s.q=false)(h:SA n L ops i=some L')
  (O:FH J Q b n ds ops k cs (AD xl) (AD (l0++bks)) (AD l0) fuel (Bm listed i) L' s) (U:Kb ops listed xl true i=true:=by decide+kernel):FH J Q b n ds ops k cs (AD xl) (AD (l0++bks)) (AD l0) (fuel+1) listed L s:=by
 obtain⟨o,v,Y,Z,hw,ac,rfl⟩:=Z0 h;exact JB.val i true Y U K hw Z (λρ ag s' _=>O1 ag ac) O
end
variable {i2:Nat}
variable {d2:Option Tmp}{x2:Operand}{t2 ty2:TypeId}{p2:String}{af2:Ae_}{g2:On_}
section
variable {b:Frame}{i:Nat}
variable {x y:Operand}{e:TypeId}
theorem DG(O:Au E H S)(h:∀r E',Le E E'->At E' r 0 v.cells.toList->Au E' H (S++ [[]])->JL J Q b n (AB L d (.pointer (some ⟨r,0,none⟩))) ds (.inRegion ops rest::k) cs (Ak E' H (S++ [[]])))
  (U:FG b n L ops i=some ⟨d,.box e x,ty,p,af,g⟩:=by exact rfl) (Y:ev L x=some v:=by exact rfl):JL J Q b n L ds (.inRegion ops (i::rest)::k) cs (Ak E H S):=by
 obtain⟨Z,ac,ag⟩:=Lg U;refine JS.box Z ac ag O Y λr al=>Df (bk:=r) (c:=v.cells) (e:=e) (f:=(0,0)) S.length al (by simp) λE' hle am K=>?_;have ap:(S++ [[(r,Obj.cells v.cells e (0,0))]]).set S.length []=S++ [[]]:=by simp
 rw [ap] at K ⊢;exact h r E' hle am K
theorem B2{z:Value}(K:Au E H S)(O:zeroOf P e=some z)(h:∀r,Au E H (S++ [[(r,.cells z.cells e (0,0))]])->JL J Q b n (AB L d (.pointer (some ⟨r,0,none⟩))) ds (.inRegion ops rest::k) cs (Ak E H (S++ [[(r,.cells z.cells e (0,0))]])))
  (U:FG b n L ops i=some ⟨d,.alloc e,ty,p,af,g⟩:=by exact rfl):JL J Q b n L ds (.inRegion ops (i::rest)::k) cs (Ak E H S):=by
 obtain⟨Y,Z,ac⟩:=Lg U;exact JS.alloc Y Z ac K O h
theorem JS.sx{bk off K:Nat}{c:Av_}(j:Nat)(O:Au E H S)(U:By P t=some K)
  (h:Au E H (S.set j [(bk,.cells (A9 c off v.cells.toList) e (0,0))])->JL J Q b n (AB L d undef) ds (.inRegion ops rest::k) cs (Ak E H (S.set j [(bk,.cells (A9 c off v.cells.toList) e (0,0))])))
  (Y:FG b n L ops i=some ⟨d,.store t x y,ty,p,af,g⟩:=by exact rfl) (Z:ev L x=some (.pointer (some ⟨bk,off,none⟩)):=by exact rfl) (ac:ev L y=some v:=by exact rfl) (ag:S[j]? =some [(bk,.cells c e (0,0))]:=by exact rfl)
  (al:K=v.cells.size:=by exact rfl) (hle:off+v.cells.size<=c.size:=by exact Nat.le_of_ble_eq_true rfl) (am:v.cells.toList.all C5=true:=by first | exact rfl | simp [Value.cells,C5]):
  JL J Q b n L ds (.inRegion ops (i::rest)::k) cs (Ak E H S):=WV j O (by rw [← al];exact U) Y Z ac ag h hle (List.all_eq_true.1 am)
theorem Cb{bk o K Y off:Nat}{O:Array Field}{U:Nat}{ws:Lv_}(j:Nat)(Z:At E bk o ws)(ac:P.underlying t=some (.struct O))(ag:By P ft=some (Y+1))(al:DU P t2=some false)
  (am:JL J Q b n (AB (AB L d (.pointer (some ⟨bk,K+off,none⟩))) d2 v) ds (.inRegion ops rest::k) cs (Ak E H S))
  (ap:FG b n L ops i=some ⟨d,.fieldAddr t x U,ty,p,af,g⟩:=by exact rfl) (aq:ev L x=some (.pointer (some ⟨bk,K,none⟩)):=by exact rfl) (av:Nr O U=some (off,ft):=by exact rfl)
  (aw:FG b n (AB L d (.pointer (some ⟨bk,K+off,none⟩))) ops i2=some ⟨d2,.load t2 x2,ty2,p2,af2,g2⟩:=by exact rfl) (ay:ev (AB L d (.pointer (some ⟨bk,K+off,none⟩))) x2=some (.pointer (some ⟨bk,o+j,none⟩)):=by exact rfl) (az:ws[j]? =some v:=by exact rfl):
  JL J Q b n L ds (.inRegion ops (i::i2::rest)::k) cs (Ak E H S):=JL.fd ac ag ap aq av (Dh j Z al aw ay az am)
theorem JS.ix{α:Type}{pp:Rp α}{a:Option Addr}{c:Nat}{xs:List α}{xv:α}{m:Int}{kd:IntKind}(K:Ao pp E a c xs)(hm:ix xs m=some xv)(O:P.underlying t=some (.slice e))(U:By P e=some pp.n)
  (h:∀bk o ws,pp.r E ws xv->At E bk o ws->JL J Q b n (AB L d (.pointer (some ⟨bk,o,none⟩))) ds (.inRegion ops rest::k) cs (Ak E H S))
  (Y:FG b n L ops i=some ⟨d,.indexAddr t x y,ty,p,af,g⟩:=by exact rfl) (Z:ev L x=some (.slice a xs.length c):=by exact rfl) (ac:ev L y=some (.int kd m):=by exact rfl):
  JL J Q b n L ds (.inRegion ops (i::rest)::k) cs (Ak E H S):=by
 obtain⟨ag,al,am⟩:=Lg Y;exact UO K hm ag al am Z ac O U h
theorem ES(S0:List Seg)(K:Env){todo:Li_}{c:Code}(O:∀E',Le E E'->Au E' H S0->JL J Q b n K ds todo cs (Ak E' H S0))
  (h:(∀{E':LH} {L:Env},Le E E'->Au E' H S0->IU L K=I0 K->JL J Q b n L ds todo cs (Ak E' H S0))->JL J Q b n L ds (.code c::todo) cs (Ak E H S)):JL J Q b n L ds (.code c::todo) cs (Ak E H S):=
 h λU Y Z=>AF (O _ U Y) Z
theorem Gj{O:List Nat}(U Y:Nat)(S0:List Seg)(K:Env){todo:Li_}(Z:∀E',Le E E'->Au E' H S0->JL J Q b n K ds (.inRegion ops (List.range' U Y)::todo) cs (Ak E' H S0))
  (h:(∀{E':LH} {L:Env},Le E E'->Au E' H S0->IU L K=I0 K->JL J Q b n L ds (.inRegion ops (List.range' U Y)::todo) cs (Ak E' H S0))->JL J Q b n L ds (.inRegion ops O::todo) cs (Ak E H S)):JL J Q b n L ds (.inRegion ops O::todo) cs (Ak E H S):=
 h λac ag al=>AF (Z _ ac ag) al
theorem Em{K ac:Type}{c:Code}{body:K->Option (Br K ac)}{f:Nat}{U:K}{a:ac}{Y:LH}{k:Li_}(al:iter body f U=some a)(S0:K->List Seg)(O:K->Env)(hle:Le Y E)(am:Au E H (S0 U))
  (round:∀x E',Le Y E'->Au E' H (S0 x)->(∀ag,body x=some (.done ag)->ag=a)->(∃st,body x=some st)->(∀{L':Env} {Z:LH} (x':K),Le Y Z->Au Z H (S0 x')->IU L' (O x')=I0 (O x')->body x=some (.more x')->JL J Q b n L' ds (.inLoop c::k) cs (Ak Z H (S0 x')))->JL J Q b n (O x) ds (.code c:: .inLoop c::k) cs (Ak E' H (S0 x)))
  (ap:IU L (O U)=I0 (O U):=by exact rfl) (aq:Ak E H S=Ak E H (S0 U):=by exact rfl):JL J Q b n L ds (.code (.loop c)::k) cs (Ak E H S):=by
 rw [aq];refine EU _ ap (T0 al (λL s x=>∃E',Jm Y H E' (S0 x) (O x) L s) ⟨E,V,V,hle,am⟩ ?_);rintro _ _ x ⟨E',rfl,rfl,av,aw⟩ hd hb ay;exact round x E' av aw hd hb λx' az g2 a0 a1=>AF (ay _ _ x' ⟨_,V,V,az,g2⟩ a1) a0
theorem Bp{f:FuncId}{fn:Func}{c:Code}{E:LH}{vs:Lv_}{B:Seg}{R:Value->LH->Seg->Prop}(O:P.funcs[f]? =some fn)
  (h:∀(Q:Gs_) (K:Frame) (cs:Lf_) (H:LH),Au E H [B]->(∀{v:Value} {E':LH} {S':List Seg} {B':Seg},Le E E'->S'.flatten=B'->R v E' B'->Au E' H S'->J.ok Q (G (K.finish v) cs) (Ak E' H S'))->JL J Q (base f) fn.ntmps (GB 0 vs) [] [.code c] (K::cs) (Ak E H [B]))
  (hb:fn.body=some c:=by exact rfl) (U:Nat.ble vs.length fn.ntmps=true:=by exact rfl):AT J f vs E B R:=
 Mn O hb U λQ K cs H Y Z=>h Q K cs H Y λac ag al am=>Z _ _ _ _ ac ag al am
variable {fuel:Nat}{listed:Array Bool}
theorem HL{bk:Nat}{c:Av_}{f:Nat×Nat}(i:Nat)(K:Es ops m=true)(o:Nat)(j:Nat)(O:Au E H S)(U:DU P t=some false)
  (Y:AZ J Q b n ds ops k cs m (AD bks) fuel (Bm listed i) (AB L d w) (Ak E H S)) (Z:Hk n L ops i=some ⟨d,.load t x,ty,p,af,g⟩:=by exact rfl) (ac:ev L x=some (.pointer (some ⟨bk,o,none⟩)):=by exact rfl)
  (ag:S[j]? =some [(bk,.cells c e f)]:=by exact rfl) (hw:c[o]? =some w:=by exact rfl) (al:AD bks bk=true:=by simp [AD]) (am:GG ops listed m i=true:=by decide+kernel):AZ J Q b n ds ops k cs m (AD bks) (fuel+1) listed L (Ak E H S):=
 AQ i K V Z (λρ h s' ap=>Yl.load U (h _ _ ac) (BM (o:=o) j O ag al ap hw)) Y am
theorem JG.lp{bk o:Nat}{ws:Lv_}(i:Nat)(K:Es ops m=true)(j:Nat)(O:At E bk o ws)(U:Au E H S)(Y:HH S bks)(Z:DU P t=some false)
  (ac:AZ J Q b n ds ops k cs m (AD bks) fuel (Bm listed i) (AB L d w) (Ak E H S)) (ag:Hk n L ops i=some ⟨d,.load t x,ty,p,af,g⟩:=by exact rfl) (al:ev L x=some (.pointer (some ⟨bk,o+j,none⟩)):=by exact rfl)
  (hw:ws[j]? =some w:=by exact rfl) (am:GG ops listed m i=true:=by decide+kernel):AZ J Q b n ds ops k cs m (AD bks) (fuel+1) listed L (Ak E H S):=
 AQ i K V ag (λρ h s' ap=>Yl.load Z (h _ _ al) (At.GC (j:=j) O (Wq U ap Y) hw)) ac am
theorem WJ{bk o K:Nat}{c:Av_}{f:Nat×Nat}(i:Nat)(O:Es ops m=true)(vs:Lv_)(j:Nat)(U:Au E H S)(hw:∀(q:Nat) w,vs[q]? =some w->c[o+q]? =some w)(Y:DU P t=some true)(Z:By P t=some K)
  (ac:AZ J Q b n ds ops k cs m (AD bks) fuel (Bm listed i) (AB L d (.agg vs.toArray)) (Ak E H S)) (ag:Hk n L ops i=some ⟨d,.load t x,ty,p,af,g⟩:=by exact rfl) (al:ev L x=some (.pointer (some ⟨bk,o,none⟩)):=by exact rfl)
  (am:S[j]? =some [(bk,.cells c e f)]:=by exact rfl) (ap:K=vs.length:=by exact rfl) (aq:AD bks bk=true:=by simp [AD]) (av:GG ops listed m i=true:=by decide+kernel):AZ J Q b n ds ops k cs m (AD bks) (fuel+1) listed L (Ak E H S):=
 AQ i O V ag (λρ h s' aw=>IN (vs:=vs) Y (by rw [← ap];exact Z) (h _ _ al) (λq w ay=>by rw [Ek rfl];exact BM j U am aq aw (hw q w ay))) ac av
theorem JG.ix{D:Nat->Bool}{α:Type}{xs:List α}{xv:α}{K:Int}{bk c O U:Nat}{kd:IntKind}(i:Nat)(Y:Es ops m=true)(Z:xs.length=U)(hm:ix xs K=some xv)(ac:P.underlying t=some (.slice e))(ag:By P e=some O)
  (al:AZ J Q b n ds ops k cs m D fuel (Bm listed i) (AB L d (.pointer (some ⟨bk,K.toNat*O,none⟩))) s) (am:s.q=false:=by exact rfl) (ap:Hk n L ops i=some ⟨d,.indexAddr t x y,ty,p,af,g⟩:=by exact rfl)
  (aq:ev L x=some (.slice (some ⟨bk,0,none⟩) U c):=by exact rfl) (av:ev L y=some (.int kd K):=by exact rfl) (aw:GG ops listed m i=true:=by decide+kernel):AZ J Q b n ds ops k cs m D (fuel+1) listed L s:=
 AQ i Y am ap (λρ h s' ay=>EI Z hm ac ag (h _ _ aq) (h _ _ av)) al aw
theorem JB.ix{l0 bks:List Nat}{α:Type}{xs:List α}{xv:α}{K:Int}{bk c O U:Nat}{kd:IntKind}(i:Nat)(Y:xs.length=U)(hm:ix xs K=some xv)(Z:P.underlying t=some (.slice e))(ac:By P e=some O)
  (ag:FH J Q b n ds ops k cs (AD xl) (AD (l0++bks)) (AD l0) fuel (Bm listed i) (AB L d (.pointer (some ⟨bk,K.toNat*O,none⟩))) s) (al:s.q=false:=by exact rfl) (am:Hk n L ops i=some ⟨d,.indexAddr t x y,ty,p,af,g⟩:=by exact rfl)
  (ap:ev L x=some (.slice (some ⟨bk,0,none⟩) U c):=by exact rfl) (aq:ev L y=some (.int kd K):=by exact rfl) (av:Kb ops listed xl true i=true:=by decide+kernel):FH J Q b n ds ops k cs (AD xl) (AD (l0++bks)) (AD l0) (fuel+1) listed L s:=
 C6 i true al am (λρ h s' aw=>EI Y hm Z ac (h _ _ ap) (h _ _ aq)) ag av
theorem WI{l0:List Nat}{bk o K:Nat}{c:Av_}{f:Nat×Nat}(i:Nat)(vs:Lv_)(j:Nat)(O:Au E H S)(hw:∀(q:Nat) w,vs[q]? =some w->c[o+q]? =some w)(U:DU P t=some true)(Y:By P t=some K)
  (Z:FH J Q b n ds ops k cs (AD xl) (AD (l0++bks)) (AD l0) fuel (Bm listed i) (AB L d (.agg vs.toArray)) (Ak E H S)) (ac:Hk n L ops i=some ⟨d,.load t x,ty,p,af,g⟩:=by exact rfl) (ag:ev L x=some (.pointer (some ⟨bk,o,none⟩)):=by exact rfl)
  (al:S[j]? =some [(bk,.cells c e f)]:=by exact rfl) (am:K=vs.length:=by exact rfl) (ap:AD (l0++bks) bk=true:=by simp [AD]) (aq:Kb ops listed xl false i=true:=by decide+kernel):FH J Q b n ds ops k cs (AD xl) (AD (l0++bks)) (AD l0) (fuel+1) listed L (Ak E H S):=
 C6 i false V ac (λρ h s' av=>IN (vs:=vs) U (by rw [← am];exact Y) (h _ _ ag) (λq w aw=>by rw [Ek rfl];exact BM j O al ap (av rfl) (hw q w aw))) Z aq
theorem JB.sx{l0 bks:List Nat}{bk off K:Nat}{c:Av_}(i j:Nat)(O:Au E H S)(U:By P t=some K)(Y:NP S j l0)(hle:off+K<=c.size)
  (h:Au E H (S.set j [(bk,.cells (A9 c off v.cells.toList) e (0,0))])->FH J Q b n ds ops k cs (AD xl) (AD (l0++bks)) (AD l0) fuel (Bm listed i) (AB L d undef) (Ak E H (S.set j [(bk,.cells (A9 c off v.cells.toList) e (0,0))])))
  (Z:Hk n L ops i=some ⟨d,.store t x y,ty,p,af,g⟩:=by exact rfl) (ac:ev L x=some (.pointer (some ⟨bk,off,none⟩)):=by exact rfl) (ag:ev L y=some v:=by exact rfl) (al:S[j]? =some [(bk,.cells c e (0,0))]:=by exact rfl)
  (am:K=v.cells.size:=by exact rfl) (ap:v.cells.toList.all C5=true:=by first | exact rfl | simp [Value.cells,C5]) (aq:Region.ready .any ops listed= [i]:=by decide+kernel) (av:AD xl i=true:=by decide+kernel):
  FH J Q b n ds ops k cs (AD xl) (AD (l0++bks)) (AD l0) (fuel+1) listed L (Ak E H S):=by
 obtain⟨aw,ay,az⟩:=QL Z;subst am;exact JB.store i j aq av aw ay az O ac ag U (List.all_eq_true.1 ap) al Y hle h
end
abbrev s8(s:Nat):Value:= .int .u8 (s:Int)
def Mt(a:Nat)(n:Int):Option Nat:=if 0<=n/\n<=8 then some (a>>>n.toNat) else none
def LC(a b:Nat):Option Nat:=if a<256/\b<256 then some (a ||| b) else none
def Mq(a b:Nat):Option Nat:=if a<256/\b<256 then some (a&&& b) else none
variable {a c:Nat}
section
variable {x y:Operand}{b r:Nat}{m:Int}
theorem WQ{m:Nat}(h:m<256):IntKind.u8.wrap (m:Int)=m:=by
 simp only [IntKind.wrap,IntKind.bits,IntKind.signed];simp;omega
theorem Qe{m:Nat}(h:m<256):(BitVec.ofInt IntKind.u8.bits (m:Int)).toNat=m:=by
 simp [IntKind.bits,BitVec.toNat_ofInt];omega
theorem js{k:Nat}(a c:Nat)(K:c<=k):((a:Int).fdiv (2 ^ (min c k)))=((a>>>c:Nat):Int):=by
 rw [Nat.min_eq_left K,Nat.shiftRight_eq_div_pow,Int.fdiv_eq_ediv_of_nonneg _ (Int.pow_nonneg (by decide)),Int.natCast_ediv]
 rfl
theorem Uv(K:ρ x=s8 a)(O:ρ y=iV m)(h:Mt a m=some r):Yl P ⟨d,.binOp .shr t x y u,ty,p,af,g⟩ ρ s (s8 r):=by
 unfold Mt at h;split at h
 .rename_i U;cases h;have h:=Yl.shr (P:=P) (s:=s) (d:=d) (t:=t) (u:=u) (ty:=ty) (p:=p) (af:=af) (g:=g) K O U.1;rw [show IntKind.u8.bits=8 from rfl,js a m.toNat (by omega)] at h;exact h
 .cases h
theorem OU(O:ρ x=s8 a)(U:ρ y=s8 b)(h:LC a b=some r):Yl P ⟨d,.binOp .or t x y u,ty,p,af,g⟩ ρ s (s8 r):=by
 unfold LC at h;split at h
 .rename_i K;cases h;have h:=Yl.or (P:=P) (s:=s) (d:=d) (t:=t) (u:=u) (ty:=ty) (p:=p) (af:=af) (g:=g) O U;rw [BitVec.toNat_or,Qe K.1,Qe K.2,WQ (Nat.or_lt_two_pow (n:=8) K.1 K.2)] at h;exact h
 .cases h
theorem UH(O:ρ x=s8 a)(U:ρ y=s8 b)(h:Mq a b=some r):Yl P ⟨d,.binOp .and t x y u,ty,p,af,g⟩ ρ s (s8 r):=by
 unfold Mq at h;split at h
 .rename_i K;cases h;have h:=Yl.and (P:=P) (s:=s) (d:=d) (t:=t) (u:=u) (ty:=ty) (p:=p) (af:=af) (g:=g) O U;rw [BitVec.toNat_and,Qe K.1,Qe K.2,WQ (Nat.lt_of_le_of_lt Nat.and_le_left K.1)] at h;exact h
 .cases h
end
def Pv(a b:Nat):Option Nat:=if a<4294967296/\b<4294967296 then some (a&&& b) else none
def PW(a b:Nat):Option Nat:=if a<4294967296/\b<4294967296 then some (a ||| b) else none
def RF(a:Nat)(n:Int):Option Nat:=if 0<=n/\n<=32/\a*2 ^ n.toNat<4294967296 then some (a*2 ^ n.toNat) else none
def I9(n:Int):Option Nat:=if 0<=n/\n<=8 then some ((1<<<n.toNat) % 256) else none
section
variable {e:TypeId}{x y:Operand}{b r:Nat}{m:Int}
theorem wrap32{m:Nat}(h:m<4294967296):IntKind.u32.wrap (m:Int)=m:=by
 simp only [IntKind.wrap,IntKind.bits,IntKind.signed];simp;omega
theorem Qa{m:Nat}(h:m<4294967296):(BitVec.ofInt IntKind.u32.bits (m:Int)).toNat=m:=by
 simp [IntKind.bits,BitVec.toNat_ofInt];omega
theorem Y6(O:ρ x= .int .u32 (a:Int))(U:ρ y= .int .u32 (b:Int))(h:Pv a b=some r):Yl P ⟨d,.binOp .and t x y u,ty,p,af,g⟩ ρ s (.int .u32 (r:Int)):=by
 unfold Pv at h;split at h
 .rename_i K;cases h;have h:=Yl.and (P:=P) (s:=s) (d:=d) (t:=t) (u:=u) (ty:=ty) (p:=p) (af:=af) (g:=g) O U;rw [BitVec.toNat_and,Qa K.1,Qa K.2,wrap32 (Nat.lt_of_le_of_lt Nat.and_le_left K.1)] at h;exact h
 .cases h
theorem ZH(O:ρ x= .int .u32 (a:Int))(U:ρ y= .int .u32 (b:Int))(h:PW a b=some r):Yl P ⟨d,.binOp .or t x y u,ty,p,af,g⟩ ρ s (.int .u32 (r:Int)):=by
 unfold PW at h;split at h
 .rename_i K;cases h;have h:=Yl.or (P:=P) (s:=s) (d:=d) (t:=t) (u:=u) (ty:=ty) (p:=p) (af:=af) (g:=g) O U;rw [BitVec.toNat_or,Qa K.1,Qa K.2,wrap32 (Nat.or_lt_two_pow (n:=32) K.1 K.2)] at h;exact h
 .cases h
theorem YL(O:ρ x= .int .u32 (a:Int))(U:ρ y=iV m)(h:RF a m=some r):Yl P ⟨d,.binOp .shl t x y u,ty,p,af,g⟩ ρ s (.int .u32 (r:Int)):=by
 unfold RF at h;split at h
 .rename_i K;cases h;have h:=Yl.shl (P:=P) (s:=s) (d:=d) (t:=t) (u:=u) (ty:=ty) (p:=p) (af:=af) (g:=g) O U K.1;have e:IntKind.u32.wrap ((a:Int)*2 ^ (min m.toNat IntKind.u32.bits))=((a*2 ^ m.toNat:Nat):Int):=by
   have Y:min m.toNat IntKind.u32.bits=m.toNat:=by simp [IntKind.bits];omega
   rw [Y,← wrap32 K.2.2];simp
  rw [e] at h;exact h
 .cases h
theorem MZ(K:ρ x=s8 1)(O:ρ y=iV m)(h:I9 m=some r):Yl P ⟨d,.binOp .shl t x y u,ty,p,af,g⟩ ρ s (s8 r):=by
 unfold I9 at h;split at h
 .rename_i U;cases h;have h:=Yl.shl (P:=P) (s:=s) (d:=d) (t:=t) (u:=u) (ty:=ty) (p:=p) (af:=af) (g:=g) K O U.1;have e:IntKind.u8.wrap (((1:Nat):Int)*2 ^ (min m.toNat IntKind.u8.bits))=(((1<<<m.toNat) % 256:Nat):Int):=
   (by decide:∀k:Fin 9,IntKind.u8.wrap (((1:Nat):Int)*2 ^ (min k.1 IntKind.u8.bits))=(((1<<<k.1) % 256:Nat):Int)) ⟨m.toNat,by omega⟩
  rw [e] at h;exact h
 .cases h
theorem ak(K:ρ x=s8 a)(O:ρ y=s8 b)(hb:b<=256):Yl P ⟨d,.binOp .sub t x y u,ty,p,af,g⟩ ρ s (s8 ((a+(256 - b)) % 256)):=by
 have h:=Yl.sub (P:=P) (s:=s) (d:=d) (t:=t) (u:=u) (ty:=ty) (p:=p) (af:=af) (g:=g) K O;have e:IntKind.u8.wrap ((a:Int) - (b:Int))=(((a+(256 - b)) % 256:Nat):Int):=by
  simp only [IntKind.wrap,IntKind.bits,IntKind.signed];simp;omega
 rw [e] at h;exact h
theorem cR{kd:IntKind}{E:LH}(xs:List Nat):(rA xs.length (rN kd)).r E (xs.map λx=>Value.int kd ((x:Nat):Int)) xs:=by
 refine⟨V,xs.map λx=> [Value.int kd ((x:Nat):Int)],?_,by simp,λi x us K hu=>?_⟩
 .induction xs with
  | nil=>rfl
  | cons x xs O=>simp [← O]
 .rw [List.getElem?_map,K] at hu;exact(Option.some.inj hu).symm
theorem O0{α:Type}{kk:Nat}{pp:Rp α}{E:LH}{us:Lv_}{x:α}(h:pp.r E us x):(rA kk pp).r E (List.replicate kk us).flatten (List.replicate kk x):=
 ⟨by simp,List.replicate kk us,V,by simp,λi y ws K hw=>by
  rw [List.getElem?_replicate] at K hw
  split at K
  .rename_i O
   rw [if_pos O] at hw
   cases K;cases hw
   exact h
  .cases K⟩
theorem Ub{k K:Nat}{z v:Value}(O:P.underlying t=some (.array k e))(U:zeroOf P t=some z)(Y:By P e=some K)(Z: .agg z.cells=v):Yl P ⟨d,.build t #[],ty,p,af,g⟩ ρ s v:=by
 refine FM QI ?_;unfold Instr.build;refine Ay (x:=zeroValue t) _ (H8 U ?_);refine Ay _ _ (Cx O ?_);refine Ay (x:=Go.sizeOf e) _ (Fh Y ?_);subst Z;simp [Instr.fill,lp,pure]
theorem bH{k K:Nat}{z v:Value}{L:Env}{ps:Array (Nat×Operand)}{vs:List (Nat×Value)}(h:Fa L ρ)(Y:P.underlying t=some (.array k e))(Z:zeroOf P t=some z)(ac:By P e=some K)(ag:ps.toList.mapM (λq=>(ev L q.2).map λv=>(q.1,v))=some vs)(O:(Instr.fill (λi=>some (i*K,K)) z.cells vs).map Value.agg=some v):Yl P ⟨d,.build t ps,ty,p,af,g⟩ ρ s v:=by
 refine FM QI ?_;unfold Instr.build;refine Ay (x:=zeroValue t) _ (H8 Z ?_);refine Ay _ _ (Cx Y ?_);refine Ay (x:=Go.sizeOf e) _ (Fh ac ?_);have al:=QQ h ag;have am:(ps.map λ(j,x)=>(j,ρ x)).toList=vs:=by rw [← al,Array.toList_map]
 rw [am];cases U:Instr.fill (λi=>some (i*K,K)) z.cells vs with
 | none=>rw [U] at O;cases O
 | some cells=>rw [U] at O;cases O;exact⟨rfl,rfl⟩
end
section
variable {e:TypeId}
end
section
variable {b:Frame}{fuel:Nat}{listed:Array Bool}
variable {x y:Operand}{e:TypeId}{i:Nat}
end
def Hr(b:Frame)(T:Av_)(ds:Ld_)(todo:Li_)(ch:List PanicEntry):Frame:={b with tmps:=T,todo:=todo,defers:=ds,mode:= .panicking ch}
def raised(v:Value):List PanicEntry:= [{v,recovered:=false}]
def taken(v:Value):List PanicEntry:= [{v,recovered:=true}]
section
variable (J:Judge P)(Q:Gs_)
def JP(b:Frame)(n:Nat)(L:Env)(ds:Ld_)(cs:Lf_)(ch:List PanicEntry)(s:St):Prop:=
 ∀T,Has n L T->∀todo,J.ok Q (G (Hr b T ds todo ch) cs) s
end
variable {bc:Frame}{dsc:Ld_}{ch:List PanicEntry}{T Tc:Av_}{todoc:Li_}
section
variable {b:Frame}
variable {i:Nat}{x:Operand}
theorem JL.panic{t:TypeId}(O:ops[i]? =some ⟨d,.panic x,ty,p,af,g⟩)(U:b.roundOf=none)(hw:AY L ops ⟨d,.panic x,ty,p,af,g⟩=some true)(Y:ev L x=some (.iface t v))
  (h:JP J Q b n L ds cs (raised (.iface t v)) s):JL J Q b n L ds (.inRegion ops (i::rest)::k) cs s:=λT K=>
 Judge.Dz V (λw=>by
  have he:execOp (BJ T) ⟨d,.panic x,ty,p,af,g⟩= .halt (.panic (.iface t v)):=by
   simp [execOp,Instr.panic,K.ev Y,goPanic,bind,Sem.bind]
  rw [stepG_op O (Ci K hw)]
  simp [U,stepG.apply,he,Sem.run,Sem.runT,Sem.events,GStep.after,fr,Hr,Frame.raise,G,raised,seen_none]) (h T K (.inRegion ops (i::rest)::k))
theorem JP.pop{fn:Func}(K:P.funcs[b.fn]? =some fn)(h:J.ok Q (G (Hr bc Tc dsc todoc ch) cs) s):JP J Q b n L [] (fr bc Tc dsc todoc::cs) ch s:=λT O todo=>
 Judge.Dz V (λw=>by simp [G,stepG,unwind,Hr,fr,Frame.raise,Frame.catches,K]) h
theorem JP.RN{f:FuncId}{fn:Func}{c:Code}{vs caps:Lv_}(ap:b.roundOf=none)(O:P.funcs[f]? =some fn)(Y:(fn.name== "runtime.NumGoroutine")=false)(hb:fn.body=some c)(Z:(vs++caps).length<=fn.ntmps)
  (h:∀T,Has n L T->∀todo,JL J Q (baseD f) fn.ntmps (GB 0 (vs++caps)) [] [.code c] (Hr b T ds todo ch::cs) s):JP J Q b n L (Lz f vs.toArray caps.toArray::ds) cs ch s:=λT ac todo=>by
 have ag:¬fn.name= "runtime.NumGoroutine" :=by simpa using Y
 refine Judge.Dz rfl (λw=>?_) (h T ac todo ((vs++caps).toArray++Array.replicate (fn.ntmps - (vs++caps).length) undef) ⟨by simp;simp at Z;omega,λt v al=>?_⟩)
 .rw [BW (b:=baseD f) rfl];have:=enter_atD (P:=P) (vs++caps).toArray O hb;simp only [List.size_toArray] at this;rw [← this];simp [G,stepG,unwind,callDeferred,Hr,Lz,invoke,callFunc,O,ag,hb,GStep.after,seen_none]
 .obtain⟨_,K⟩:=Kr al;have am:t<(vs++caps).length:=by
   rcases Nat.lt_or_ge t (vs++caps).length with U | U
   .exact U
   .simp only [Nat.sub_zero] at K;have:=(List.getElem?_eq_some_iff.1 K).1;omega
  rw [Array.getD_eq_getD_getElem?,Array.getElem?_append_left (by simpa using am)];simp only [Nat.sub_zero] at K;rw [List.getElem?_toArray,K];rfl
theorem XO{ats:Array TypeId}{K:List PanicEntry}(O:ops[i]? =some ⟨d,.call ⟨.builtin .recover,#[],ats⟩,ty,p,af,g⟩)(U:b.roundOf=none)(Y:b.kind= .deferred)(ag:Bu n d=true)(hw:AY L ops ⟨d,.call ⟨.builtin .recover,#[],ats⟩,ty,p,af,g⟩=some true)
  (h:JL J Q b n (AB L d v) ds (.inRegion ops rest::k) (Hr bc Tc dsc todoc ({v,recovered:=true}::K)::cs) s):
  JL J Q b n L ds (.inRegion ops (i::rest)::k) (Hr bc Tc dsc todoc ({v,recovered:=false}::K)::cs) s:=λT Z=>
 Judge.Dz V (λw=>by
  have he:execOp (BJ T) ⟨d,.call ⟨.builtin .recover,#[],ats⟩,ty,p,af,g⟩= .pure .recover:=by
   simp [execOp,resolve,Deferred.ofValue,invoke,bind,Sem.bind,pure,Go.builtin]
  have ac:=GW (b:=b) (ds:=ds) (k:=k) T ops i rest v _ O
  simp only [fr,U,Y] at ac
  rw [stepG_op O (Ci Z hw)]
  simp [U,Y,stepG.apply,he,Sem.run,Sem.runT,Sem.events,GStep.after,fr,Hr,tryRecover,G,seen_none,ac]) (h _ (Z.put ag _))
theorem XK{ats:Array TypeId}(K:ops[i]? =some ⟨d,.call ⟨.builtin .recover,#[],ats⟩,ty,p,af,g⟩)(O:b.roundOf=none)(U:b.kind= .deferred)(ac:Bu n d=true)(hw:AY L ops ⟨d,.call ⟨.builtin .recover,#[],ats⟩,ty,p,af,g⟩=some true)
  (h:JL J Q b n (AB L d .nilIface) ds (.inRegion ops rest::k) (EJ bc Tc dsc todoc::cs) s):
  JL J Q b n L ds (.inRegion ops (i::rest)::k) (EJ bc Tc dsc todoc::cs) s:=λT Y=>
 Judge.Dz V (λw=>by
  have he:execOp (BJ T) ⟨d,.call ⟨.builtin .recover,#[],ats⟩,ty,p,af,g⟩= .pure .recover:=by
   simp [execOp,resolve,Deferred.ofValue,invoke,bind,Sem.bind,pure,Go.builtin]
  have Z:=GW (b:=b) (ds:=ds) (k:=k) T ops i rest .nilIface _ K
  simp only [fr,O,U] at Z
  rw [stepG_op K (Ci Y hw)]
  simp [O,U,stepG.apply,he,Sem.run,Sem.runT,Sem.events,GStep.after,fr,EJ,tryRecover,G,seen_none,Z]) (h _ (Y.put ac _))
theorem JO.gk{fn:Func}(O:b.kind= .deferred)(U:P.funcs[b.fn]? =some fn)(K:fn.results= #[])(h:J.ok Q (G (EJ bc Tc dsc todoc) cs) s):JO J Q b n L [] (Hr bc Tc dsc todoc (taken v)::cs) s:=λT Z todo=>by
 refine Judge.Dz rfl (λw=>?_) h
 have Y:=results_none K T P w
 have e2:=λ(x:Array Event)=>events_results_none (P:=P) (w:=w) K T x
 simp [G,stepG,unwind,EJ,Hr,U,Y,e2,doReturn,O,GStep.after,seen_none,taken]
end
open Go.Proofs
abbrev Dq:=Int×Int×Int
abbrev AG:=List Dq
abbrev AJ:=List AG
abbrev BC:=List (List Int)
abbrev Bh:=BC×AG
abbrev Az:=rP rI ED
open Go.Proofs.Tryz
def AH:=AX Tryz.type3
def Bt:=AX Tryz.type49
def Ge:=AX Tryz.type89
def IF:=AX Tryz.type56
def N9:=AX Tryz.type206
def Ba:=CB Tryz.underlying3
def MK:=A5 Tryz.func41 rfl
def FC:=AX Tryz.type25
def FK:=CB Tryz.underlying25
def GU:=AX Tryz.type26
def IE:=CB Tryz.underlying26
def DX:=CB Tryz.underlying49
def BR:=Dx Tryz.type49
def GV:=AX Tryz.type22
def Kl:=CB Tryz.underlying22
def Ko:=Dx Tryz.type56
def De:=AX Tryz.type28
def H2:=CB Tryz.underlying56
def JM:=Dx Tryz.type89
def H5:=Dx Tryz.type52
def Fq:=CB Tryz.underlying28
def DY:=AX Tryz.type52
def FL:=CB Tryz.underlying52
def CR:=Dx Tryz.type3
def K4:=A5 Tryz.func18 rfl
def N6:=A5 Tryz.func19 rfl
def GR:=A5 Tryz.func38 rfl
def MO:=AX Tryz.type4
def Qi:=CB Tryz.underlying4
def AW:=AX Tryz.type79
def BA:=CB Tryz.underlying79
def H6:=AX Tryz.type160
def H3:=A5 Tryz.func20 rfl
def ML:=Dx Tryz.type22
def MN:=Dx Tryz.type4
def MJ:=A5 Tryz.func62 rfl
def LY:=Dx Tryz.type214
def H4:=A5 Tryz.func51 rfl
def Qp:=Dx Tryz.type79
def NX:=CB Tryz.underlying166
def Qh:=CB Tryz.underlying74
def Ql:=A5 Tryz.func36 rfl
def Qk:=A5 Tryz.func140 rfl
def Qj:=A5 Tryz.func127 rfl
def K3:=CB Tryz.underlying217
def Oa:=AX Tryz.type217
def N3:=A5 Tryz.func61 rfl
def K2:=CB Tryz.underlying160
def Qo:=Dx Tryz.type206
def NZ:=CB Tryz.underlying206
def Kp:=AX Tryz.type122
def N7:=Dx Tryz.type122
def N1:=CB Tryz.underlying122
def Hx:=CB Tryz.underlying21
def Ob:=AX Tryz.type76
def Kn:=Dx Tryz.type28
def N5:=A5 Tryz.func31 rfl
def Qm:=A5 Tryz.func43 rfl
def N8:=A5 Tryz.func22 rfl
def N4:=A5 Tryz.func28 rfl
def Kq:=AX Tryz.type41
def N2:=CB Tryz.underlying41
def Km:=A5 Tryz.func15 rfl
def Qn:=A5 Tryz.func13 rfl
def LZ:=Dx Tryz.type96
def NY:=CB Tryz.underlying138
def MM:=AX Tryz.type138
theorem mixed:Tryz.prog.follows .mixedOrders=true:=rfl
theorem jc:Cj Tryz.prog 49 (rP rI (rP rI rI)) true 2:=Cj.three underlying49 (Cj.int underlying3 AH) (Cj.int underlying3 AH) (Cj.int underlying3 AH) (by decide+kernel) (by decide) (by decide) (by decide) V V V Bt
theorem fB:Cj Tryz.prog 89 (rP rI rI) true 2:=Cj.two underlying89 (Cj.int underlying3 AH) (Cj.int underlying3 AH) (by decide+kernel) (by decide) (by decide) V V Ge
theorem Vz:Cj Tryz.prog 56 (rA 5 rI) true 2:=Cj.arr (kk:=5) (Cj.int underlying3 AH) underlying56 IF
theorem ig:Cj Tryz.prog 204 (rA 10 rI) true 2:=Cj.arr (kk:=10) (Cj.int underlying3 AH) underlying204 (AX type204)
theorem Wh:Cj Tryz.prog 206 (rA 5 (rA 10 rI)) true 3:=Cj.arr (kk:=5) ig underlying206 N9
theorem fL:Cj Tryz.prog 223 (rP (rN .u8) (rA 5 (rA 10 rI))) true 4:=Cj.two underlying223 ((Cj.nat underlying5 (AX type5)).up (by decide)) Wh (by decide+kernel) (by decide) (by decide) V V (AX type223)
theorem Jv:G3 Tryz.prog 3 rI false:=(Cj.int underlying3 AH).key (by decide)
theorem R0:G3 Tryz.prog 89 (rP rI rI) true:=fB.key (by decide)
theorem V5:G3 Tryz.prog 206 (rA 5 (rA 10 rI)) true:=Wh.key (by decide)
theorem V7:G3 Tryz.prog 223 (rP (rN .u8) (rA 5 (rA 10 rI))) true:=fL.key (by decide)
end Pal
namespace Pal
open Go Go.Conc Go.Proofs Go.Extern
abbrev Fy(t:Nat):Value:= .pointer (some ⟨1,t,none⟩)
abbrev Kg(t:Nat):Value:= .iface 182 (.agg #[Fy t])
variable {s:St}{X:Halt->St->Prop}
theorem XC{Q:Value->St->Prop}(t:Addr):lp Tryz.prog (ReflectliteValue.unpack (.iface 98 (.pointer (some t)))) s Q X=(s.q=false/\∀r,s.E r=none->s.H r=none->Q (.agg #[Fy 98,.pointer (some ⟨r,0,none⟩),.int .u64 150]) (s.upd r (.cells #[.pointer (some t)] 98 (0,0)))):=by kernel_rfl
theorem XP{Q:Value->St->Prop}(c:Int):lp Tryz.prog (ReflectliteValue.unpack (.iface 96 (.agg #[iV c]))) s Q X=(s.q=false/\∀r,s.E r=none->s.H r=none->Q (.agg #[Fy 96,.pointer (some ⟨r,0,none⟩),.int .u64 153]) (s.upd r (.cells #[iV c] 96 (0,0)))):=by kernel_rfl
theorem Z8{Q:Value->St->Prop}(a:Addr):lp Tryz.prog (ReflectliteValue.methodAny (ReflectliteValue.valueError "reflectlite.Value.Type" 0) (λt _ _ _=>ReflectliteType.toType t) #[.agg #[Fy 98,.pointer (some a),.int .u64 150]]) s Q X=Q (Kg 98) s:=by kernel_rfl
theorem Yg{Q:Value->St->Prop}(v:Value):lp Tryz.prog (ReflectliteType.typeOf #[.iface 96 v]) s Q X=Q (Kg 96) s:=by kernel_rfl
theorem Wo{Q:FuncId×Value->St->Prop}(h:Value):lp Tryz.prog (Go.method (Tryz.prog.types.size+Made.depth) 182 (.agg #[h]) "Kind") s Q X=Q (170,h) s:=by kernel_rfl
theorem gp{Q:FuncId×Value->St->Prop}(h:Value):lp Tryz.prog (Go.method (Tryz.prog.types.size+Made.depth) 182 (.agg #[h]) "Elem") s Q X=Q (181,.agg #[h]) s:=by kernel_rfl
theorem gq{Q:FuncId×Value->St->Prop}(h:Value):lp Tryz.prog (Go.method (Tryz.prog.types.size+Made.depth) 182 (.agg #[h]) "Implements") s Q X=Q (182,.agg #[h]) s:=by kernel_rfl
theorem jf{Q:FuncId×Value->St->Prop}(h:Value):lp Tryz.prog (Go.method (Tryz.prog.types.size+Made.depth) 182 (.agg #[h]) "AssignableTo") s Q X=Q (179,.agg #[h]) s:=by kernel_rfl
theorem aY{Q:Value->St->Prop}:lp Tryz.prog ((ReflectliteType.abiMethod λt=>(λa:Nat=>Value.int IntKind.u8 (a:Int))<$>Rtype.kind t) #[Fy 98]) s Q X=Q (.int .u8 22) s:=by kernel_rfl
theorem aj{Q:Value->St->Prop}:lp Tryz.prog ((ReflectliteType.abiMethod λt=>(λa:Nat=>Value.int IntKind.u8 (a:Int))<$>Rtype.kind t) #[Fy 96]) s Q X=Q (.int .u8 25) s:=by kernel_rfl
theorem ao{Q:Value->St->Prop}:lp Tryz.prog (ReflectliteType.method ReflectliteType.elem #[.agg #[Fy 98]]) s Q X=Q (Kg 96) s:=by kernel_rfl
theorem ZV{Q:Value->St->Prop}:lp Tryz.prog (ReflectliteType.relation "Implements" ReflectliteType.implements_ #[.agg #[Fy 96],Kg 69]) s Q X=Q (.bool true) s:=by kernel_rfl
theorem cT{Q:Value->St->Prop}:lp Tryz.prog (ReflectliteType.relation "AssignableTo" ReflectliteType.assignableTo #[.agg #[Fy 96],Kg 96]) s Q X=Q (.bool true) s:=by kernel_rfl
theorem TZ{Q:Option (TypeId×Addr×Nat)->St->Prop}(a:Addr):lp Tryz.prog (ReflectliteValue.parts (.agg #[Fy 98,.pointer (some a),.int .u64 150])) s Q X=Q (some (98,a,150)) s:=by kernel_rfl
theorem Zu{Q:Option (TypeId×Addr×Nat)->St->Prop}(a:Addr):lp Tryz.prog (ReflectliteValue.parts (.agg #[Fy 96,.pointer (some a),.int .u64 153])) s Q X=Q (some (96,a,153)) s:=by kernel_rfl
theorem X8{Q:Option (TypeId×Addr×Nat)->St->Prop}(a:Addr):lp Tryz.prog (ReflectliteValue.parts (.agg #[Fy 96,.pointer (some a),.int .u64 409])) s Q X=Q (some (96,a,409)) s:=by kernel_rfl
theorem dt{Q:Option TypeId->St->Prop}:lp Tryz.prog (Rtype.elem? 98) s Q X=Q (some 96) s:=by kernel_rfl
theorem fb{Q:Value->St->Prop}(p:Addr):lp Tryz.prog (ReflectliteValue.mk 96 p ReflectliteValue.flagAddr) s Q X=Q (.agg #[Fy 96,.pointer (some p),.int .u64 409]) s:=by kernel_rfl
theorem dS{Q:Bool->St->Prop}:lp Tryz.prog (Rtype.directlyAssignable 96 96) s Q X=Q true s:=by kernel_rfl
theorem Uu{Q:Value->St->Prop}(a:Addr):lp Tryz.prog (loadVar 98 a) s Q X=(Mode.plain= .plain/\∃v,s.cell? a=some v/\Q v s):=by kernel_rfl
theorem bf{Q:Value->St->Prop}(a:Addr):lp Tryz.prog (loadVar 96 a) s Q X=(Mode.plain= .plain/\∃v,s.cell? (a.add 0)=some v/\Q (.agg #[v]) s):=by kernel_rfl
theorem VH:BS Tryz.prog 66 (λargs=>ReflectliteValue.unpack (args.getD 0 (.tuple #[]))):=⟨⟨_,Tryz.func66,by kernel_rfl,by kernel_rfl,by kernel_rfl,by kernel_rfl⟩⟩
theorem eW:BS Tryz.prog 67 (ReflectliteValue.methodAny (ReflectliteValue.valueError "reflectlite.Value.Type" 0) (λt _ _ _=>ReflectliteType.toType t)):=⟨⟨_,Tryz.func67,by kernel_rfl,by kernel_rfl,by kernel_rfl,by kernel_rfl⟩⟩
theorem fz:BS Tryz.prog 68 (ReflectliteValue.method (ReflectliteValue.valueError "reflectlite.Value.IsNil" 0) ReflectliteValue.isNil):=⟨⟨_,Tryz.func68,by kernel_rfl,by kernel_rfl,by kernel_rfl,by kernel_rfl⟩⟩
theorem fH:BS Tryz.prog 107 ReflectliteType.typeOf:=⟨⟨_,Tryz.func107,by kernel_rfl,by kernel_rfl,by kernel_rfl,by kernel_rfl⟩⟩
theorem fg:BS Tryz.prog 108 (ReflectliteValue.method (ReflectliteValue.valueError "reflectlite.Value.Elem" 0) ReflectliteValue.elem):=⟨⟨_,Tryz.func108,by kernel_rfl,by kernel_rfl,by kernel_rfl,by kernel_rfl⟩⟩
theorem gX:BS Tryz.prog 109 ReflectliteValue.set:=⟨⟨_,Tryz.func109,by kernel_rfl,by kernel_rfl,by kernel_rfl,by kernel_rfl⟩⟩
theorem VU:BS Tryz.prog 170 (ReflectliteType.abiMethod λt=>(λa:Nat=>Value.int IntKind.u8 (a:Int))<$>Rtype.kind t):=⟨⟨_,Tryz.func170,by kernel_rfl,by kernel_rfl,by kernel_rfl,by kernel_rfl⟩⟩
theorem gU:BS Tryz.prog 179 (ReflectliteType.relation "AssignableTo" ReflectliteType.assignableTo):=⟨⟨_,Tryz.func179,by kernel_rfl,by kernel_rfl,by kernel_rfl,by kernel_rfl⟩⟩
theorem gB:BS Tryz.prog 181 (ReflectliteType.method ReflectliteType.elem):=⟨⟨_,Tryz.func181,by kernel_rfl,by kernel_rfl,by kernel_rfl,by kernel_rfl⟩⟩
theorem eV:BS Tryz.prog 182 (ReflectliteType.relation "Implements" ReflectliteType.implements_):=⟨⟨_,Tryz.func182,by kernel_rfl,by kernel_rfl,by kernel_rfl,by kernel_rfl⟩⟩
end Pal
namespace Pal
open Go Go.Conc
variable {P:Program}{J:Judge P}{Q:Gs_}{n:Nat}{L:Env}{ds:Ld_}{k:Li_}{cs:Lf_}{s:St}{ops:Ao_}{rest:List Nat}{v:Value}
variable {d:Option Tmp}{ty:TypeId}{p:String}{af:Ae_}{g:On_}
section
variable {b:Frame}{i:Nat}
variable {x:Operand}
theorem TS{f:FuncId}{e:Av_->Sem Value}{args:Av_}{Q:Next->St->Prop}{X:Halt->St->Prop}(he:BS P f e)(h:lp P (e args) s (λv s'=>Q (.value v) s') X):lp P (callFunc f args) s Q X:=by
 obtain⟨fn,K,O,U,Y,Z⟩:=he.h;unfold callFunc;simp only [bind,Sem.bind,program,lp,K,O,U,Bool.false_eq_true,if_false,if_true,mark,Y,Z];refine⟨.inr ⟨f,V⟩,?_⟩;exact Ay _ _ (Er _ h (λv s' ac=>ac) (λ_ _ ag=>ag))
theorem Lw{f:FuncId}{e:Av_->Sem Value}{args:Array Operand}{ats:Array TypeId}{vs:Lv_}(he:BS P f e)(O:ops[i]? =some ⟨d,.call ⟨.value (.func f),args,ats⟩,ty,p,af,g⟩)(hw:AY L ops ⟨d,.call ⟨.value (.func f),args,ats⟩,ty,p,af,g⟩=some true)(U:BU b n ⟨d,.call ⟨.value (.func f),args,ats⟩,ty,p,af,g⟩=true)(Y:evs L args.toList=some vs)
  (h:lp P (e vs.toArray) s (λv s'=>JL J Q b n (AB L d v) ds (.inRegion ops rest::k) cs s') (λ_ _=>False)):JL J Q b n L ds (.inRegion ops (i::rest)::k) cs s:=by
 refine JL.op O hw U λρ K=>?_;have Z:args.map ρ=vs.toArray:=by
  rw [← Gf K Y];apply Array.ext';simp
 have ac:ρ (.func f)= .func (.func f) #[] #[]:=K _ _ V;simp only [execOp,resolve,bind,Sem.bind,Deferred.ofValue,ac,pure,invoke];have ag: #[]++args.map ρ++ #[]=vs.toArray:=by rw [Z];simp
 rw [ag];exact TS he h
theorem Nu{t:TypeId}{K O:Value}{name:String}{f:FuncId}{e:Av_->Sem Value}{args:Array Operand}{ats:Array TypeId}{vs:Lv_}(he:BS P f e)(hm:∀{s:St} {X:Halt->St->Prop} {Q:FuncId×Value->St->Prop},lp P (Go.method (P.types.size+Made.depth) t K name) s Q X=Q (f,O) s)
  (Y:ops[i]? =some ⟨d,.call ⟨.invoke x name,args,ats⟩,ty,p,af,g⟩) (hw:AY L ops ⟨d,.call ⟨.invoke x name,args,ats⟩,ty,p,af,g⟩=some true) (Z:BU b n ⟨d,.call ⟨.invoke x name,args,ats⟩,ty,p,af,g⟩=true) (ac:ev L x=some (.iface t K)) (ag:evs L args.toList=some vs)
  (h:lp P (e (O::vs).toArray) s (λv s'=>JL J Q b n (AB L d v) ds (.inRegion ops rest::k) cs s') (λ_ _=>False)):JL J Q b n L ds (.inRegion ops (i::rest)::k) cs s:=by
 refine JL.op Y hw Z λρ U=>?_;have al:args.map ρ=vs.toArray:=by
  rw [← Gf U ag];apply Array.ext';simp
 have am:ρ x= .iface t K:=U _ _ ac;simp only [execOp,resolve,bind,Sem.bind,pure,invoke,am,al];have ap:(#[Value.iface t K]++vs.toArray)[0]? =some (.iface t K):=by simp
 have aq:(#[Value.iface t K]++vs.toArray).extract 1 (#[Value.iface t K]++vs.toArray).size=vs.toArray:=by
  apply Array.ext';simp
 simp only [ap,aq,callMethod,bind,Sem.bind,program,lp];refine Ay _ _ ?_;rw [hm];have e2: #[O]++vs.toArray=(O::vs).toArray:=by apply Array.ext';simp
 rw [e2];exact TS he h
end
open Go.Proofs Go.Proofs.Tryz
variable {E:LH}
variable {J:Judge Tryz.prog}
def f91(fu_:Nat)(p0:Int)(p1:Int)(p2:Int):Option Bool:= Option.bind (if p1<=p0 then(some (decide (p0<=p2))) else(some false)) λx1=> some x1
theorem Ny{p0:Int}{p1:Int}{p2:Int}{fu_:Nat}{r:Bool}(K:f91 fu_ p0 p1 p2=some r):AT J 41 [iV p0,iV p1,iV p2] E [] (λw E' B'=>w= .bool r/\B'= []):=by
 refine Bp func41 λQ av cs H O Y=>?_;unfold f91 at K;obtain⟨x1,Z,ac⟩:=bs K;refine C 10 V (Gj 8 1 [] [(14,.bool x1)] (λaw ag al=>?_) (λU=>?_))
 .refine C 2 V ?_;obtain rfl:=oi ac;exact A2 func41 V V (Y ag V ⟨V,V⟩ al)
 .refine IY 10 Z (λam ap=>?_) (λam aq=>?_)
  .refine C 4 V ?_;obtain rfl:=oi ap;exact U AN O V
  .refine C 4 V ?_;obtain rfl:=oi aq;exact U AN O V
def f86(fu_:Nat)(p0:Int×Int×Int)(p1:Int)(p2:Int):Option Int:= (Av (p1 - 1)).bind λK=> (f91 fu_ p0.1 0 K).bind λO=> Option.bind (if(!O)=true then(some true) else((Av (p1 - 1)).bind λU=> (f91 fu_ p0.2.1 0 U).bind λY=> some (!Y))) λZ=> if Z=true then(some 3) else(if p0.1=p0.2.1 then(some 8) else((f91 fu_ p0.2.2 1 p2).bind λac=> if(!ac)=true then(some 1) else(some 0)))
theorem Wt{p0:Int×Int×Int}{p1:Int}{p2:Int}{fu_:Nat}{r:Int}(ag:f86 fu_ p0 p1 p2=some r):AT J 48 [.agg #[iV p0.1,iV p0.2.1,iV p0.2.2],iV p1,iV p2] E [] (λw E' B'=>w=iV r/\B'= []):=by
 refine Bp func48 λQ ce cs H av Y=>?_;unfold f86 at ag;refine C 2 V (DG av λr2 ci Z U aw=>?_);refine C 6 V (Cb 0 U underlying49 AH Ba ?_);obtain⟨co,ay,az⟩:=bs ag;refine C 1 V (BV ay V V V ?_);obtain⟨a0,a1,a2⟩:=bs az;refine CC (Ny a1) V V MK aw λcp K al=>An (v:= .bool (!a0)) V (λρ h=>Yl.not (h _ _ V)) ?_;obtain⟨a3,a4,a5⟩:=bs a2;refine C 1 V (Gj 14 1 [] [(2,iV p2),(3,Al r2 0),(21,.bool a3)] (λct O ac=>?_) (λam=>?_))
 .refine C 2 V (Ct a5 (λa6 a7=>?_) (λa6 a8=>?_))
  .refine C 4 V ?_;obtain rfl:=oi a7;exact A2 func48 V V (Y ((Z.Ad K).Ad O) V ⟨V,V⟩ ac)
  .refine C 2 V (Cb 0 (U.M (K.Ad O)) underlying49 AH Ba ?_);refine Cb 1 (U.M (K.Ad O)) underlying49 AH Ba ?_;refine C 3 V (A1 a8 (λa9 bb=>?_) (λa9 be=>?_))
   .refine C 4 V ?_;obtain rfl:=oi bb;exact A2 func48 V V (Y ((Z.Ad K).Ad O) V ⟨V,V⟩ ac)
   .refine C 2 V (Cb 2 (U.M (K.Ad O)) underlying49 AH Ba ?_);obtain⟨bi,bn,bo⟩:=bs be;refine C 1 V (CC (Ny bn) V V MK ac λcw ap aq=>?_);refine An (v:= .bool (!bi)) V (λρ h=>Yl.not (h _ _ V)) (C 2 V ?_);refine Ct bo (λbv bw=>?_) (λbv bx=>?_)
    .refine C 4 V ?_;obtain rfl:=oi bw;exact A2 func48 V V (Y (((Z.Ad K).Ad O).Ad ap) V ⟨V,V⟩ aq)
    .refine C 6 V ?_;obtain rfl:=oi bx;exact A2 func48 V V (Y (((Z.Ad K).Ad O).Ad ap) V ⟨V,V⟩ aq)
 .refine FQ 14 a4 (λbz b0=>?_) (λbz b1=>?_)
  .refine C 7 V ?_;obtain rfl:=oi b0;exact am AN al V
  .refine Cb 1 (U.M K) underlying49 AH Ba ?_;obtain⟨cy,b2,b3⟩:=bs b1;refine C 1 V (BV b2 V V V ?_);obtain⟨b4,b5,b6⟩:=bs b3;refine CC (Ny b5) V V MK al λc0 ca cc=>An (v:= .bool (!b4)) V (λρ h=>Yl.not (h _ _ V)) (C 1 V ?_);obtain rfl:=oi b6;exact am ca cc V
def Pl(fu_:Nat)(O:List Int)(K:Int):Option (Br Int ((Int)⊕(Unit))):= if K<(O.length:Int) then((ix O K).bind λU=> (f91 fu_ U 1 9).bind λY=> if(!Y)=true then(some (.done (Sum.inl 1))) else((Av (K+1)).bind λZ=> some (.more Z))) else(some (.done (Sum.inr ())))
def Pz(fu_:Nat)(p0:Bh)(K:Int):Option (Br Int ((Int)⊕(Unit))):= if K<(p0.1.length:Int) then((ix p0.1 K).bind λO=> if 3<(O.length:Int) then(some (.done (Sum.inl 6))) else(Option.bind (iter (Pl fu_ O) fu_ 0) λU=> Sum.elim (λr=>some (.done (Sum.inl r))) (λZ=> (Av (K+1)).bind λY=> some (.more Y)) U)) else(some (.done (Sum.inr ())))
def VC(fu_:Nat)(p0:Bh)(K:Int):Option (Br Int ((Int)⊕(Unit))):= if K<(p0.2.length:Int) then((ix p0.2 K).bind λU=> (f86 fu_ U (p0.1.length:Int) 9).bind λO=> if O≠0 then(some (.done (Sum.inl O))) else((Av (K+1)).bind λY=> some (.more Y))) else(some (.done (Sum.inr ())))
def f47(fu_:Nat)(p0:Bh):Option Int:= if(p0.1.length:Int)<2 then(some 7) else(if 5<(p0.1.length:Int) then(some 6) else(Option.bind (iter (Pz fu_ p0) fu_ 0) λK=> Sum.elim (λr=>some r) (λU=> if 8<(p0.2.length:Int) then(some 6) else(Option.bind (iter (VC fu_ p0) fu_ 0) λO=> Sum.elim (λr=>some r) (λY=> some 0) O)) K))
theorem iG{a1:Aq}{c2:Nat}{aw:Aq}{ay:Nat}{p0:Bh}(cw:Ao (rL rI) E a1 c2 p0.1)(cy:Ao Az E aw ay p0.2){fu_:Nat}{r:Int}(a8:f47 fu_ p0=some r):AT J 40 [.agg #[sV a1 p0.1 c2,sV aw p0.2 ay]] E [] (λw E' B'=>w=iV r/\B'= []):=by
 refine Bp func40 λQ hx cs H c0 O=>?_;unfold f47 at a8;refine C 2 V (DG c0 λY c1 K Z az=>?_);refine C 5 V (Cb 0 Z underlying28 FC FK ?_);refine JL.ln underlying25 V V V (C 9 V ?_);refine A1 a8 (λc3 c4=>?_) (λc3 c5=>?_)
 .refine C 4 V ?_;obtain rfl:=oi c4;exact A2 func40 V V (O K V ⟨V,V⟩ az)
 .refine C 6 V (A1 c5 (λc6 c7=>?_) (λc6 c8=>?_))
  .refine C 4 V ?_;obtain rfl:=oi c7;exact A2 func40 V V (O K V ⟨V,V⟩ az)
  .refine C 5 V (Cb 0 Z underlying28 FC FK ?_);refine JL.ln underlying25 V V V ?_;obtain⟨a9,c9,a0⟩:=bs c8;refine C 2 V (Bx (λL s=>∃(bb:Unit) (a2:LH),a9=Sum.inr bb/\Jm c1 H a2 [] [(1,Al Y 0)] L s) ?_ ?_)
   .rintro _ _ ⟨bb,a2,rfl,rfl,rfl,U,be⟩;have dd:=elim_inr a0;refine C 3 V (Cb 1 (Z.M U) underlying28 GU IE ?_);refine JL.ln underlying26 V V V (C 2 V ?_);refine A1 dd (λea eb=>?_) (λea ec=>?_)
    .refine C 4 V ?_;obtain rfl:=oi eb;exact A2 func40 V V (O (K.Ad U) V ⟨V,V⟩ be)
    .refine C 4 V (Cb 1 (Z.M U) underlying28 GU IE ?_);refine JL.ln underlying26 V V V ?_;obtain⟨bi,ed,bn⟩:=bs ec;refine C 2 V (Bx (λL s=>∃(bo:Unit) (bv:LH),bi=Sum.inr bo/\Jm a2 H bv [] [] L s) ?_ ?_)
     .rintro _ _ ⟨bo,bv,rfl,rfl,rfl,ee,ef⟩;have eg:=elim_inr bn;refine C 4 V ?_;obtain rfl:=oi eg;exact A2 func40 V V (O ((K.Ad U).Ad ee) V ⟨V,V⟩ ef)
     .intro ej;refine JL.block (Em ed (λa3=> []) (λa3=> [(1,Al Y 0),(46,sV aw p0.2 ay),(47,iV (p0.2.length:Int)),(48,iV a3)]) AN be ?_);rintro a3 ek ac bw bx ⟨hy,ap⟩ el;have bz:=ap;unfold VC at bz;refine C 5 V (A1 bz (λem eo=>?_) (λem ep=>?_))
      .obtain⟨hz,er,eu⟩:=bs eo;refine C 5 V (JS.ix (cy.M ((K.Ad U).Ad ac)) er underlying26 Bt ?_);rintro hA hB _ ⟨_,_,rfl,rfl,⟨_,_,rfl,rfl,rfl⟩⟩ ew;refine Cf ew DX Bt V V (B2 bw BR λhC ex=>?_);refine JS.sx 0 ex Bt λey=>?_;refine Df 0 ey V λhD a4 eA eC=>C 3 V (Cf eA DX Bt V V ?_);refine Cb 0 (Z.M ((U.Ad ac).Ad a4)) underlying28 FC FK ?_;refine JL.ln underlying25 V V V ?_;obtain⟨hE,eN,e0⟩:=bs eu;refine CC (Wt eN) V V (A5 func48 V) eC λhF b0 b1=>C 7 V (A1 e0 (λe1 e3=>?_) (λe1 e4=>?_))
       .refine C 5 V ?_;obtain rfl:=oi e3;obtain rfl:=bx _ ap;have e5:=elim_inl bn;obtain rfl:=oi e5;exact A2 func40 V V (O ((((K.Ad U).Ad ac).Ad a4).Ad b0) V ⟨V,V⟩ b1)
       .obtain⟨e6,e7,e8⟩:=bs e4;refine C 3 V (Bv e7 V V V ?_);refine C 2 V ?_;obtain rfl:=oi e8;exact el e6 ((ac.Ad a4).Ad b0) b1 V ap
      .refine JL.exit V ?_;obtain rfl:=oi ep;have ff:bi=(Sum.inr ()):=(bx _ ap).symm;exact AF (ej _ _ ⟨(),ek,ff,V,V,ac,bw⟩) V
   .intro fk;refine JL.block (Em c9 (λag=> []) (λag=> [(1,Al Y 0),(21,sV a1 p0.1 c2),(22,iV (p0.1.length:Int)),(23,iV ag)]) AN az ?_);rintro ag b2 al a5 a6 ⟨hG,am⟩ fl;have b3:=am;unfold Pz at b3;refine C 5 V (A1 b3 (λfm fo=>?_) (λfm fs=>?_))
    .obtain⟨b4,fv,fw⟩:=bs fo;refine C 5 V (JS.ix (cw.M (K.Ad al)) fv underlying25 GV ?_);rintro hH hI _ ⟨fN,gc,rfl,ge⟩ gg;refine Dh 0 gg Kl V V V (C 6 V ?_);refine JL.ln underlying22 V V V (C 2 V ?_);refine A1 fw (λgh gt=>?_) (λgh gE=>?_)
     .refine C 4 V ?_;obtain rfl:=oi gt;obtain rfl:=a6 _ am;have gO:=elim_inl a0;obtain rfl:=oi gO;exact A2 func40 V V (O (K.Ad al) V ⟨V,V⟩ a5)
     .refine C 4 V (JL.ln underlying22 V V V ?_);obtain⟨b5,g0,b6⟩:=bs gE;refine C 2 V (Bx (λL s=>∃(ca:Unit) (cc:LH),b5=Sum.inr ca/\Jm b2 H cc [] [(1,Al Y 0),(21,sV a1 p0.1 c2),(22,iV (p0.1.length:Int)),(23,iV ag)] L s) ?_ ?_)
      .rintro _ _ ⟨ca,cc,rfl,rfl,rfl,g1,g3⟩;have g4:=elim_inr b6;obtain⟨g5,g6,g7⟩:=bs g4;refine C 2 V (Bv g6 V V V ?_);refine C 2 V ?_;obtain rfl:=oi g7;exact fl g5 (al.Ad g1) g3 V am
      .intro g8;refine JL.block (Em g0 (λa7=> []) (λa7=> [(1,Al Y 0),(21,sV a1 p0.1 c2),(22,iV (p0.1.length:Int)),(23,iV ag),(30,sV fN b4 gc),(31,iV (b4.length:Int)),(32,iV a7)]) AN a5 ?_);rintro a7 ha aq ce ci ⟨hK,av⟩ hb;have co:=av;unfold Pl at co;refine C 5 V (A1 co (λhc hd=>?_) (λhc he=>?_))
       .obtain⟨hL,hf,hg⟩:=bs hd;refine C 5 V (JS.ix (ge.M aq) hf underlying22 AH ?_);rintro hM hN _ rfl hj;refine Dh 0 hj Ba V V V ?_;obtain⟨hk,hl,hm⟩:=bs hg;refine C 5 V (CC (Ny hl) V V MK ce λhO cp ct=>?_);refine An (v:= .bool (!hk)) V (λρ h=>Yl.not (h _ _ V)) (JL.done ?_);refine Ct hm (λhn ho=>?_) (λhn hp=>?_)
        .refine C 4 V ?_;obtain rfl:=oi ho;obtain rfl:=ci _ av;have hq:=elim_inl b6;obtain rfl:=oi hq;obtain rfl:=a6 _ am;have hr:=elim_inl a0;obtain rfl:=oi hr;exact A2 func40 V V (O (((K.Ad al).Ad aq).Ad cp) V ⟨V,V⟩ ct)
        .obtain⟨hs,ht,hu⟩:=bs hp;refine C 3 V (Bv ht V V V ?_);refine C 2 V ?_;obtain rfl:=oi hu;exact hb hs (aq.Ad cp) ct V av
       .refine JL.exit V ?_;obtain rfl:=oi he;have hv:b5=(Sum.inr ()):=(ci _ av).symm;exact AF (g8 _ _ ⟨(),ha,hv,V,V,aq,ce⟩) V
    .refine JL.exit V ?_;obtain rfl:=oi fs;have hw:a9=(Sum.inr ()):=(a6 _ am).symm;exact AF (fk _ _ ⟨(),b2,hw,V,V,al,a5⟩) V
def Pn(fu_:Nat)(p0:Bh)(O:(List Int)×Int):Option (Br ((List Int)×Int) ((List Int))):= if O.2<(p0.2.length:Int) then((ix p0.2 O.2).bind λK=> (ix O.1 K.2.1).bind λY=> (Av (Y+K.2.2)).bind λU=> (ix O.1 K.2.1).bind λal=> (ix (O.1.set (Int.toNat K.2.1) U) K.1).bind λZ=> (Av (Z - K.2.2)).bind λac=> (ix (O.1.set (Int.toNat K.2.1) U) K.1).bind λam=> (Av (O.2+1)).bind λag=> some (.more (((O.1.set (Int.toNat K.2.1) U).set (Int.toNat K.1) ac),ag))) else(some (.done O.1))
def f84(fu_:Nat)(p0:Bh):Option ((List Int)):= Option.bind (iter (Pn fu_ p0) fu_ ((List.replicate 5 (0:Int)),0)) λK=> some K
theorem PG{a1:Aq}{c2:Nat}{a8:Aq}{a9:Nat}{p0:Bh}(e4:Ao (rL rI) E a1 c2 p0.1)(ce:Ao Az E a8 a9 p0.2){fu_:Nat}{r:(List Int)}(bw:f84 fu_ p0=some r):AT J 19 [.agg #[sV a1 p0.1 c2,sV a8 p0.2 a9]] E [] (λw E' B'=>∃(bx:Lv_),w= .agg bx.toArray/\B'= []/\(rA 5 rI).r E' bx r):=by
 refine Bp func19 λQ e5 cs H ci co=>?_;unfold f84 at bw;refine C 2 V (DG ci λe6 a2 bz cp ct=>?_);refine B2 ct Ko λa3 cw=>?_;refine C 3 V (B2 cw Ko λU cy=>?_);refine C 4 V (JL.fd underlying52 De V V V ?_);refine Cb 1 cp underlying28 GU IE ?_;refine JL.ln underlying26 V V V ?_;obtain⟨c0,c1,c3⟩:=bs bw;refine C 2 V (Bx (λL s=>∃(aw:LH) (Y:Lv_),Jn a2 H aw [bX a3 (([]:Lv_)++(List.replicate 5 (iV 0):Lv_)).toArray 56,bX U (([]:Lv_)++Y).toArray 56] [(2,Al a3 0),(3,Al U 0)] L s ((rA 5 rI).r aw Y c0)) ?_ ?_)
 .rintro _ _ ⟨aw,Y,rfl,rfl,c4,b0,ac⟩;refine C 2 V (An (v:= .agg Y.toArray) V (λρ h=>HA (kk:=5) (pp:=rI) ac H2 IF (h _ _ V) (GX (l:= []) 1 b0 V)) ?_);refine Hb (v:= .agg Y.toArray) (l:= []) (ws:=(List.replicate 5 (iV 0):Lv_)) (us:=Y) (o:=0) 0 V V V b0 V V V (by rw [B6 (kk:=5) (pp:=rI) ac];exact AX type56) ((rA 5 rI).one ac) V (by rw [B6 (kk:=5) (pp:=rI) ac,B6 (kk:=5) (pp:=rI) (Gg (E:=aw) (pp:=rI) rfl)];omega) λb1=>?_;rw [Ji (by rw [B6 (kk:=5) (pp:=rI) ac,B6 (kk:=5) (pp:=rI) (Gg (E:=aw) (pp:=rI) rfl)])] at b1 ⊢;refine JL.done (JS.drop 1 b1 V λb2=>?_);obtain rfl:=oi c3;refine JL.ret (v:= .agg Y.toArray) V V (BK.list func19 V (vs:= [.agg Y.toArray]) ⟨⟨_,V,Ld.many (vs:=Y) H2 (by rw [B6 (kk:=5) (pp:=rI) ac];exact AX type56) (GX (l:= []) 0 b2 V)⟩,trivial⟩) (EO 0 b2 V λc5=>?_);exact co (bz.Ad c4) V ⟨Y,V,V,ac⟩ c5
 .intro c6;refine JL.block (Cn c1 (λL s al=>∃(a4:LH) (am:Lv_),Jn a2 H a4 [bX a3 (([]:Lv_)++(List.replicate 5 (iV 0):Lv_)).toArray 56,bX U (([]:Lv_)++am).toArray 56] [(2,Al a3 0),(3,Al U 0),(8,sV a8 p0.2 a9),(9,iV (p0.2.length:Int)),(10,iV al.2)] L s ((rA 5 rI).r a4 am al.1)) ⟨a2,(List.replicate 5 (iV 0):Lv_),V,V,AN,cy,(Gg (E:=a2) (pp:=rI) V)⟩ ?_);rintro _ _ al ⟨a4,am,rfl,rfl,bb,b3,ap⟩ c7 ⟨e7,be⟩ c8;have b4:=be;unfold Pn at b4;refine C 5 V (A1 b4 (λc9 dd=>?_) (λc9 ea=>?_))
  .obtain⟨K,eb,ec⟩:=bs dd;refine C 5 V (JS.ix (ce.M (bz.Ad bb)) eb underlying26 Bt ?_);rintro e8 ff _ ⟨_,_,rfl,rfl,⟨_,_,rfl,rfl,rfl⟩⟩ ed;refine Cf ed DX Bt V V (B2 b3 BR λfk ee=>?_);refine JS.sx 2 ee Bt λef=>?_;refine Df 2 ef V λbi aq a5 ay=>C 2 V (Et 6 [U] ⟨⟨1,_,V⟩,trivial⟩ ay λO=>?_);refine JG.fd 0 O underlying49 AH V V V V (JG.lp 1 O 1 a5 ay ⟨⟨1,_,V⟩,trivial⟩ Ba ?_);obtain⟨eg,b5,ej⟩:=bs ec;obtain⟨_,rfl,_,_,ek⟩:=Ic (kk:=5) (pp:=rI) (Rp.M _ aq ap) b5;refine AQ (v:= .pointer (some ⟨U,0+Int.toNat (K.2.1)*1,none⟩)) 2 O V V (λρ h s' az=>JY (kk:=5) (pp:=rI) (Rp.M _ aq ap) b5 underlying56 AH (h _ _ V) (h _ _ V)) (AQ (v:=iV eg) 3 O V V (λρ h s' az=>Yl.load Ba (h _ _ V) (Oq (l:= []) 1 ay V (by simp [AD]) az (ek 0 _ V))) ?_);refine JG.fd 4 O underlying49 AH V V V V (JG.lp 5 O 2 a5 ay ⟨⟨1,_,V⟩,trivial⟩ Ba ?_);refine CZ [6,7,8] ?_;obtain⟨Z,el,em⟩:=bs ej;refine Bv el V V V ?_;obtain⟨fl,bn,eo⟩:=bs em;obtain⟨_,rfl,_,_,fm⟩:=Ic (kk:=5) (pp:=rI) (Rp.M _ aq ap) bn;refine An (v:= .pointer (some ⟨U,0+Int.toNat (K.2.1)*1,none⟩)) V (λρ h=>JY (kk:=5) (pp:=rI) (Rp.M _ aq ap) bn underlying56 AH (h _ _ V) (h _ _ V)) ?_;have a6:=Pq (us:= [iV Z]) (y:=Z) (Rp.M _ aq ap) bn V;refine Hb (v:=iV Z) (l:= []) (ws:=am) (us:= [iV Z]) (o:=Int.toNat (K.2.1)*1) 1 V V V ay V V V AH (by simp [Value.cells,C5]) V a6.2 λav=>?_;replace a6:=a6.1;generalize ep:Ja am (Int.toNat (K.2.1)*1) [iV Z]=bo at av ⊢;have a0:(rA 5 rI).r bi bo (al.1.set (Int.toNat K.2.1) Z):=by rw [← ep];exact a6
   refine JL.done (Et 6 [U] ⟨⟨1,_,V⟩,trivial⟩ av λO=>?_);refine JG.fd 0 O underlying49 AH V V V V (JG.lp 1 O 0 a5 av ⟨⟨1,_,V⟩,trivial⟩ Ba ?_);obtain⟨er,b6,eu⟩:=bs eo;obtain⟨_,rfl,_,_,ew⟩:=Ic (kk:=5) (pp:=rI) a0 b6;refine AQ (v:= .pointer (some ⟨U,0+Int.toNat (K.1)*1,none⟩)) 2 O V V (λρ h s' az=>JY (kk:=5) (pp:=rI) a0 b6 underlying56 AH (h _ _ V) (h _ _ V)) (AQ (v:=iV er) 3 O V V (λρ h s' az=>Yl.load Ba (h _ _ V) (Oq (l:= []) 1 av V (by simp [AD]) az (ew 0 _ V))) ?_);refine JG.fd 4 O underlying49 AH V V V V (JG.lp 5 O 2 a5 av ⟨⟨1,_,V⟩,trivial⟩ Ba ?_);refine CZ [6,7,8] ?_;obtain⟨ag,ex,ey⟩:=bs eu;refine BV ex V V V ?_;obtain⟨fo,bv,eA⟩:=bs ey;obtain⟨_,rfl,_,_,fs⟩:=Ic (kk:=5) (pp:=rI) a0 bv;refine An (v:= .pointer (some ⟨U,0+Int.toNat (K.1)*1,none⟩)) V (λρ h=>JY (kk:=5) (pp:=rI) a0 bv underlying56 AH (h _ _ V) (h _ _ V)) ?_;have a7:=Pq (us:= [iV ag]) (y:=ag) a0 bv V;refine Hb (v:=iV ag) (l:= []) (ws:=bo) (us:= [iV ag]) (o:=Int.toNat (K.1)*1) 1 V V V av V V V AH (by simp [Value.cells,C5]) V a7.2 λca=>?_;replace a7:=a7.1;generalize eC:Ja bo (Int.toNat (K.1)*1) [iV ag]=cc at ca ⊢;have eN:(rA 5 rI).r bi cc ((al.1.set (Int.toNat K.2.1) Z).set (Int.toNat K.1) ag):=by rw [← eC];exact a7
   obtain⟨e0,e1,e3⟩:=bs eA;refine C 3 V (Bv e1 V V V ?_);refine C 2 V ?_;obtain rfl:=oi e3;exact AF (c8 _ _ (((al.1.set (Int.toNat K.2.1) Z).set (Int.toNat K.1) ag),e0) ⟨bi,cc,V,V,(bb.Ad aq),ca,eN⟩ be) V
  .refine JL.exit V ?_;obtain rfl:=oi ea;obtain rfl:=c7 _ be;exact AF (c6 _ _ ⟨a4,am,V,V,bb,b3,ap⟩) V
def Mx(fu_:Nat)(p0:List Int)(p1:Int×Int×Int):Option ((List Int)):= (ix p0 p1.1).bind λO=> (Av (O+p1.2.2)).bind λK=> (ix p0 p1.1).bind λZ=> (ix (p0.set (Int.toNat p1.1) K) p1.2.1).bind λU=> (Av (U - p1.2.2)).bind λY=> (ix (p0.set (Int.toNat p1.1) K) p1.2.1).bind λac=> some ((p0.set (Int.toNat p1.1) K).set (Int.toNat p1.2.1) Y)
theorem Ih{w1:Lv_}{p0:List Int}{p1:Int×Int×Int}(al:(rA 5 rI).r E w1 p0){fu_:Nat}{r:(List Int)}(a4:Mx fu_ p0 p1=some r):AT J 51 [.agg w1.toArray,.agg #[iV p1.1,iV p1.2.1,iV p1.2.2]] E [] (λw E' B'=>∃(a5:Lv_),w= .agg a5.toArray/\B'= []/\(rA 5 rI).r E' a5 r):=by
 refine Bp func51 λQ ci cs H bb be=>?_;unfold Mx at a4;refine C 2 V (JS.box (v:= .agg w1.toArray) V V V bb V λr3 bi=>?_);refine DG bi λco av Z aw bn=>?_;refine B2 bn Ko λcp am=>?_;refine C 2 V (Et 6 [r3] ⟨⟨1,_,V⟩,trivial⟩ am λK=>?_);refine JG.fd 0 K underlying49 AH V V V V (JG.lp 1 K 0 aw am ⟨⟨1,_,V⟩,trivial⟩ Ba ?_);obtain⟨bo,a6,bv⟩:=bs a4;obtain⟨_,rfl,_,_,bw⟩:=Ic (kk:=5) (pp:=rI) (Rp.M _ Z al) a6;refine AQ (v:= .pointer (some ⟨r3,0+Int.toNat (p1.1)*1,none⟩)) 2 K V V (λρ h s' ap=>JY (kk:=5) (pp:=rI) (Rp.M _ Z al) a6 underlying56 AH (h _ _ V) (h _ _ V)) (AQ (v:=iV bo) 3 K V V (λρ h s' ap=>Yl.load Ba (h _ _ V) (Oq (l:= []) 1 am V (by simp [AD]) ap (bw 0 _ V))) ?_);refine JG.fd 4 K underlying49 AH V V V V (JG.lp 5 K 2 aw am ⟨⟨1,_,V⟩,trivial⟩ Ba ?_);refine CZ [6,7,8] ?_;obtain⟨U,bx,bz⟩:=bs bv;refine Bv bx V V V ?_;obtain⟨ct,a0,b0⟩:=bs bz;obtain⟨_,rfl,_,_,cw⟩:=Ic (kk:=5) (pp:=rI) (Rp.M _ Z al) a0;refine An (v:= .pointer (some ⟨r3,0+Int.toNat (p1.1)*1,none⟩)) V (λρ h=>JY (kk:=5) (pp:=rI) (Rp.M _ Z al) a0 underlying56 AH (h _ _ V) (h _ _ V)) ?_;have ay:=Pq (us:= [iV U]) (y:=U) (Rp.M _ Z al) a0 V;refine Hb (v:=iV U) (l:= []) (ws:=w1) (us:= [iV U]) (o:=Int.toNat (p1.1)*1) 1 V V V am V V V AH (by simp [Value.cells,C5]) V ay.2 λac=>?_;replace ay:=ay.1;generalize b1:Ja w1 (Int.toNat (p1.1)*1) [iV U]=a1 at ac ⊢;have aq:(rA 5 rI).r av a1 (p0.set (Int.toNat p1.1) U):=by rw [← b1];exact ay
 refine C 2 V (Et 6 [r3] ⟨⟨1,_,V⟩,trivial⟩ ac λK=>?_);refine JG.fd 0 K underlying49 AH V V V V (JG.lp 1 K 1 aw ac ⟨⟨1,_,V⟩,trivial⟩ Ba ?_);obtain⟨b2,a7,b3⟩:=bs b0;obtain⟨_,rfl,_,_,b4⟩:=Ic (kk:=5) (pp:=rI) aq a7;refine AQ (v:= .pointer (some ⟨r3,0+Int.toNat (p1.2.1)*1,none⟩)) 2 K V V (λρ h s' ap=>JY (kk:=5) (pp:=rI) aq a7 underlying56 AH (h _ _ V) (h _ _ V)) (AQ (v:=iV b2) 3 K V V (λρ h s' ap=>Yl.load Ba (h _ _ V) (Oq (l:= []) 1 ac V (by simp [AD]) ap (b4 0 _ V))) ?_);refine JG.fd 4 K underlying49 AH V V V V (JG.lp 5 K 2 aw ac ⟨⟨1,_,V⟩,trivial⟩ Ba ?_);refine CZ [6,7,8] ?_;obtain⟨ag,b5,b6⟩:=bs b3;refine BV b5 V V V ?_;obtain⟨cy,a2,ca⟩:=bs b6;obtain⟨_,rfl,_,_,c0⟩:=Ic (kk:=5) (pp:=rI) aq a2;refine An (v:= .pointer (some ⟨r3,0+Int.toNat (p1.2.1)*1,none⟩)) V (λρ h=>JY (kk:=5) (pp:=rI) aq a2 underlying56 AH (h _ _ V) (h _ _ V)) ?_;have az:=Pq (us:= [iV ag]) (y:=ag) aq a2 V;refine Hb (v:=iV ag) (l:= []) (ws:=a1) (us:= [iV ag]) (o:=Int.toNat (p1.2.1)*1) 1 V V V ac V V V AH (by simp [Value.cells,C5]) V az.2 λa3=>?_;replace az:=az.1;generalize cc:Ja a1 (Int.toNat (p1.2.1)*1) [iV ag]=O at a3 ⊢;have Y:(rA 5 rI).r av O ((p0.set (Int.toNat p1.1) U).set (Int.toNat p1.2.1) ag):=by rw [← cc];exact az
 refine C 3 V (An (v:= .agg O.toArray) V (λρ h=>HA (kk:=5) (pp:=rI) Y H2 IF (h _ _ V) (GX (l:= []) 1 a3 V)) ?_);refine Hb (v:= .agg O.toArray) (l:= []) (ws:=(List.replicate 5 (iV 0):Lv_)) (us:=O) (o:=0) 3 V V V a3 V V V (by rw [B6 (kk:=5) (pp:=rI) Y];exact AX type56) ((rA 5 rI).one Y) V (by rw [B6 (kk:=5) (pp:=rI) Y,B6 (kk:=5) (pp:=rI) (Gg (E:=av) (pp:=rI) rfl)];omega) λa8=>?_;rw [Ji (by rw [B6 (kk:=5) (pp:=rI) Y,B6 (kk:=5) (pp:=rI) (Gg (E:=av) (pp:=rI) rfl)])] at a8 ⊢;refine JL.done (JS.drop 1 a8 V λa9=>?_);obtain rfl:=oi ca;refine JL.ret (v:= .agg O.toArray) V V (BK.list func51 V (vs:= [.agg O.toArray]) ⟨⟨_,V,Ld.many (vs:=O) H2 (by rw [B6 (kk:=5) (pp:=rI) Y];exact AX type56) (GX (l:= []) 3 a9 V)⟩,trivial⟩) (EO 3 a9 V λce=>?_);exact be Z V ⟨O,V,V,Y⟩ ce
def f106(fu_:Nat)(p0:Int)(p1:Int):Option Nat:= (Av (max p0 p1 - 1)).bind λx1=> (ix ([1,2,4,8]:List Nat) x1).bind λK=> (Av (4*(min p0 p1))).bind λO=> (RF K O).bind λU=> some U
theorem VZ{p0:Int}{p1:Int}{fu_:Nat}{r:Nat}(K:f106 fu_ p0 p1=some r):AT J 70 [iV p0,iV p1] E [] (λw E' B'=>w= .int .u32 ((r:Nat):Int)/\B'= []):=by
 refine Bp func70 λQ aw cs H O U=>?_;unfold f106 at K;refine C 8 V (An (v:=iV (min p0 p1)) V (λρ h=>Yl.min2 (h _ _ V) (h _ _ V)) ?_);refine C 2 V (An (v:=iV (max p0 p1)) V (λρ h=>Yl.max2 (h _ _ V) (h _ _ V)) ?_);refine C 5 V (An (v:= .agg (([1,2,4,8]:List Nat).map λx=>Value.int .u32 ((x:Nat):Int)).toArray) V (λρ h=>bH h underlying195 (Dx type195) (AX type77) V V) ?_);obtain⟨x1,Y,Z⟩:=bs K;refine C 1 V (BV Y V V V ?_);obtain⟨ay,ac,ag⟩:=bs Z;refine VJ (cR (E:=E) ([1,2,4,8]:List Nat)) ac V V V V V underlying195 (AX type77) (CB underlying77) ?_ (λ_=>V);rintro _ rfl;obtain⟨az,al,am⟩:=bs ag;refine C 1 V (An V (λρ h=>Lj (h _ _ V) (h _ _ V) al) ?_);obtain⟨ap,aq,av⟩:=bs am;refine An (v:= .int .u32 ((ap:Nat):Int)) V (λρ h=>YL (h _ _ V) (h _ _ V) aq) (C 2 V ?_);obtain rfl:=oi av;exact A2 func70 V V (U AN V ⟨V,V⟩ O)
def f136(fu_:Nat)(p0:Nat)(p1:Int)(p2:Int):Option Bool:= (f106 fu_ p1 p2).bind λx1=> (Pv p0 x1).bind λK=> some (decide ((((K):Nat):Int)≠(((0):Nat):Int)))
theorem Wn{p0:Nat}{p1:Int}{p2:Int}{fu_:Nat}{r:Bool}(K:f136 fu_ p0 p1 p2=some r):AT J 49 [.int .u32 ((p0:Nat):Int),iV p1,iV p2] E [] (λw E' B'=>w= .bool r/\B'= []):=by
 refine Bp func49 λQ aq cs H O U=>?_;unfold f136 at K;obtain⟨x1,Y,Z⟩:=bs K;refine C 9 V (CC (VZ Y) V V (A5 func70 V) O λav ac ag=>?_);obtain⟨al,am,ap⟩:=bs Z;refine An (v:= .int .u32 ((al:Nat):Int)) V (λρ h=>Y6 (h _ _ V) (h _ _ V) am) (C 3 V ?_);obtain rfl:=oi ap;exact A2 func49 V V (U ac V ⟨V,V⟩ ag)
def OV(fu_:Nat)(O:(AR)×Int)(K:(AR)×Int):Option (Br ((AR)×Int) ((AR))):= if K.2<O.2 then((room K.1 (K.2,O.2)).bind λU=> (Av (K.2+1)).bind λY=> some (.more (U,Y))) else(some (.done K.1))
def O7(fu_:Nat)(p0:Bh)(K:(AR)×Int):Option (Br ((AR)×Int) ((AR))):= if K.2<(p0.1.length:Int) then(Option.bind (iter (OV fu_ K) fu_ (K.1,0)) λO=> (Av (K.2+1)).bind λU=> some (.more (O,U))) else(some (.done K.1))
def f133(fu_:Nat)(p0:Bh):Option ((AR)):= Option.bind (iter (O7 fu_ p0) fu_ ([],0)) λK=> some K
theorem eS{a1:Aq}{c2:Nat}{a8:Aq}{a9:Nat}{p0:Bh}(e0:Ao (rL rI) E a1 c2 p0.1)(e1:Ao Az E a8 a9 p0.2){fu_:Nat}{r:(AR)}(bb:f133 fu_ p0=some r):AT J 94 [.agg #[sV a1 p0.1 c2,sV a8 p0.2 a9]] E [] (λw E' B'=>∃(be:Aq) (bi:Nat),w= sV be r bi/\B'= []/\Ao ED E' be bi r):=by
 refine Bp func94 λQ e3 cs H b3 b4=>?_;unfold f133 at bb;refine C 2 V (DG b3 λe4 a2 b5 b6 ca=>?_);refine C 9 V (JL.fd underlying52 De V V V ?_);refine Cb 0 b6 underlying28 FC FK ?_;refine JL.ln underlying25 V V V ?_;obtain⟨bn,cc,ce⟩:=bs bb;refine C 2 V (Bx (λL s=>∃(a3:LH) (ap:Aq) (aq:Nat) (a4:Seg),Jn a2 H a3 [a4] [(3,sV ap bn aq)] L s (OL 89 ED a3 ap aq a4 bn)) ?_ ?_)
 .rintro _ _ ⟨a3,ap,aq,a4,rfl,rfl,ci,co,cp⟩;refine C 5 V (Cp 0 cp co V λe5 ct cw cy=>?_);obtain rfl:=oi ce;exact A2 func94 V V (b4 ((b5.Ad ci).Ad ct) V ⟨ap,aq,V,V,cw⟩ cy)
 .intro c0;refine JL.block (Cn cc (λL s K=>∃(O:LH) (Y:Aq) (Z:Nat) (ac:Seg),Jn a2 H O [ac] [(3,sV Y K.1 Z),(9,iV (p0.1.length:Int)),(10,iV K.2)] L s (OL 89 ED O Y Z ac K.1)) ⟨a2,none,0,[],V,V,AN,ca,OL.nil⟩ ?_);rintro _ _ K ⟨O,Y,Z,ac,rfl,rfl,bo,bv,bw⟩ c1 ⟨e6,a5⟩ c3;have bx:=a5;unfold O7 at bx;refine C 5 V (A1 bx (λc4 c5=>?_) (λc4 c6=>?_))
  .obtain⟨a6,c7,c8⟩:=bs c5;refine C 13 V (Bx (λL s=>∃(av:LH) (aw:Aq) (ay:Nat) (az:Seg),Jn O H av [az] [(3,sV aw a6 ay),(9,iV (p0.1.length:Int)),(10,iV K.2)] L s (OL 89 ED av aw ay az a6)) ?_ ?_)
   .rintro _ _ ⟨av,aw,ay,az,rfl,rfl,c9,dd,ea⟩;obtain⟨eb,ec,ed⟩:=bs c8;refine C 2 V (Bv ec V V V ?_);refine C 2 V ?_;obtain rfl:=oi ed;exact AF (c3 _ _ (a6,eb) ⟨av,aw,ay,az,V,V,(bo.Ad c9),dd,ea⟩ a5) V
   .intro ee;refine JL.block (Cn c7 (λL s U=>∃(ag:LH) (al:Aq) (am:Nat) (a0:Seg),Jn O H ag [a0] [(3,sV al U.1 am),(4,iV K.2),(9,iV (p0.1.length:Int)),(10,iV K.2),(13,iV K.2),(14,iV U.2)] L s (OL 89 ED ag al am a0 U.1)) ⟨O,Y,Z,ac,V,V,AN,bv,bw⟩ ?_);rintro _ _ U ⟨ag,al,am,a0,rfl,rfl,bz,b0,b1⟩ ef ⟨e7,a7⟩ eg;have b2:=a7;unfold OV at b2;refine C 5 V (A1 b2 (λej ek=>?_) (λej el=>?_))
    .refine C 12 V (An (v:= .agg #[iV U.2,iV K.2]) V (λρ h=>C4 [(0,1),(1,1)] h JM underlying89 ⟨V,AX type3,V,AX type3,trivial⟩ V V) ?_);obtain⟨em,eo,ep⟩:=bs ek;refine JS.app (pp:=ED) (v:= .agg #[iV U.2,iV K.2]) (a:=al) (c:=am) 0 eo V V V V (λ_=>V) V (λ_=>V) V V V underlying166 underlying166 underlying166 Ge (DF type89) JM V (by decide) (by decide) (by decide) (by decide) b1 ⟨_,_,V,V,V⟩ b0 V λe8 er eu ew ex ey=>?_;obtain⟨eA,eC,eN⟩:=bs ep;refine C 4 V (Bv eC V V V ?_);refine C 2 V ?_;obtain rfl:=oi eN;exact AF (eg _ _ (em,eA) ⟨ag,er,eu,ew,V,V,bz,ey,ex⟩ a7) V
    .refine JL.exit V ?_;obtain rfl:=oi el;obtain rfl:=ef _ a7;exact AF (ee _ _ ⟨ag,al,am,a0,V,V,bz,b0,b1⟩) V
  .refine JL.exit V ?_;obtain rfl:=oi c6;obtain rfl:=c1 _ a5;exact AF (c0 _ _ ⟨O,Y,Z,ac,V,V,bo,bv,bw⟩) V
def f113(fu_:Nat)(p0:Int×Int×Int)(p1:Int×Int×Int):Option Int:= if p0.1≠p1.1 then((Av (p0.1 - p1.1)).bind λK=> some K) else(if p0.2.1≠p1.2.1 then((Av (p0.2.1 - p1.2.1)).bind λO=> some O) else((Av (p0.2.2 - p1.2.2)).bind λU=> some U))
theorem Vw{p0:Int×Int×Int}{p1:Int×Int×Int}{fu_:Nat}{r:Int}(ag:f113 fu_ p0 p1=some r):AT J 64 [.agg #[iV p0.1,iV p0.2.1,iV p0.2.2],.agg #[iV p1.1,iV p1.2.1,iV p1.2.2]] E [] (λw E' B'=>w=iV r/\B'= []):=by
 refine Bp func64 λQ a6 cs H al Y=>?_;unfold f113 at ag;refine C 2 V (DG al λr2 a7 Z O am=>?_);refine DG am λa8 a9 K U ac=>?_;refine C 6 V (Cb 0 (O.M K) underlying49 AH Ba ?_);refine Cb 0 U underlying49 AH Ba ?_;refine C 3 V (A1 ag (λap aq=>?_) (λap av=>?_))
 .refine C 2 V (Cb 0 (O.M K) underlying49 AH Ba ?_);refine Cb 0 U underlying49 AH Ba ?_;obtain⟨bb,aw,ay⟩:=bs aq;refine BV aw V V V (C 2 V ?_);obtain rfl:=oi ay;exact A2 func64 V V (Y (Z.Ad K) V ⟨V,V⟩ ac)
 .refine C 2 V (Cb 1 (O.M K) underlying49 AH Ba ?_);refine Cb 1 U underlying49 AH Ba ?_;refine C 3 V (A1 av (λaz a0=>?_) (λaz a1=>?_))
  .refine C 2 V (Cb 1 (O.M K) underlying49 AH Ba ?_);refine Cb 1 U underlying49 AH Ba ?_;obtain⟨be,a2,a3⟩:=bs a0;refine BV a2 V V V (C 2 V ?_);obtain rfl:=oi a3;exact A2 func64 V V (Y (Z.Ad K) V ⟨V,V⟩ ac)
  .refine C 4 V (Cb 2 (O.M K) underlying49 AH Ba ?_);refine Cb 2 U underlying49 AH Ba ?_;obtain⟨bi,a4,a5⟩:=bs a1;refine BV a4 V V V (C 2 V ?_);obtain rfl:=oi a5;exact A2 func64 V V (Y (Z.Ad K) V ⟨V,V⟩ ac)
def Ps(fu_:Nat)(p0:List Int)(K:Int×Int):Option (Br (Int×Int) Int):= if K.2<(p0.length:Int) then((ix p0 K.2).bind λO=> (Av (K.1+O)).bind λU=> (Av (K.2+1)).bind λY=> some (.more (U,Y))) else(some (.done K.1))
def f85(fu_:Nat)(p0:List Int):Option Int:= Option.bind (iter (Ps fu_ p0) fu_ (0,0)) λK=> some K
theorem Ir{a1:Aq}{c2:Nat}{p0:List Int}(ag:Ao rI E a1 c2 p0){fu_:Nat}{r:Int}(Y:f85 fu_ p0=some r):AT J 20 [sV a1 p0 c2] E [] (λw E' B'=>w=iV r/\B'= []):=by
 refine Bp func20 λQ bv cs H al am=>?_;unfold f85 at Y;refine C 12 V (JL.ln underlying22 V V V ?_);obtain⟨ap,aq,av⟩:=bs Y;refine C 2 V (ES [] [(3,iV ap)] (λbw aw ay=>?_) (λaz=>?_))
 .refine C 5 V ?_;obtain rfl:=oi av;exact A2 func20 V V (am aw V ⟨V,V⟩ ay)
 .refine JL.block (Em aq (λK=> []) (λK=> [(3,iV K.1),(6,sV a1 p0 c2),(7,iV (p0.length:Int)),(8,iV K.2)]) AN al ?_);rintro K bx O Z a0 ⟨bz,U⟩ a2;have ac:=U;unfold Ps at ac;refine C 5 V (A1 ac (λa3 a4=>?_) (λa3 a5=>?_))
  .obtain⟨b0,a6,a7⟩:=bs a4;refine C 5 V (JS.ix (ag.M O) a6 underlying22 AH ?_);rintro b1 b2 _ rfl a8;refine Dh 0 a8 Ba V V V ?_;obtain⟨a9,bb,be⟩:=bs a7;refine C 5 V (Bv bb V V V ?_);obtain⟨bi,bn,bo⟩:=bs be;refine C 4 V (Bv bn V V V ?_);refine C 2 V ?_;obtain rfl:=oi bo;exact a2 (a9,bi) O Z V U
  .refine JL.exit V ?_;obtain rfl:=oi a5;obtain rfl:=a0 _ U;exact az O Z V
end Pal
namespace Pal
open Go Go.Conc
variable {P:Program}{Q:Gs_}{n:Nat}{ds:Ld_}{ops:Ao_}{k:Li_}{cs:Lf_}{L:Env}{E H:LH}{S:List Seg}
variable {d:Option Tmp}{w:Operand}{t u ty:TypeId}{p:String}{af:Ae_}{g:On_}{rest:List Nat}{s:St}{ρ:Operand->Value}
section
variable {J:Judge P}{b:Frame}
variable {x y:Operand}{e:TypeId}{i:Nat}
theorem Ao.jM{α:Type}{pp:Rp α}{kk bk o:Nat}{ws:Lv_}{xs ys:List α}{hi:Int}(U:At E bk o ws)(O:(rA kk pp).r E ws xs)(hC:HR xs 0 hi=some ys):Ao pp E (some ⟨bk,o,none⟩) kk ys:=by
 have ag:=O.1;unfold HR at hC;split at hC
 .rename_i hb;cases hC;refine⟨by simp;omega,.inr ⟨bk,o,V,λq z K=>?_⟩⟩;simp only [Int.toNat_zero,List.drop_zero,List.getElem?_take] at K;split at K
  .have Y:ix xs (q:Int)=some z:=by unfold ix;rw [if_pos (by omega)];simpa using K
   obtain⟨us,Z,ac,_,_⟩:=iE O U Y;exact⟨us,Z,by simpa using ac⟩
  .cases K
 .cases hC
theorem dG{α:Type}{pp:Rp α}{kk bk o:Nat}{ws:Lv_}{xs ys:List α}{hi:Int}(U:At E bk o ws)(K:(rA kk pp).r E ws xs)(hC:HR xs 0 hi=some ys)
  (Y:ops[i]? =some ⟨d,.slice t x none (some w) none,ty,p,af,g⟩) (hw:AY L ops ⟨d,.slice t x none (some w) none,ty,p,af,g⟩=some true) (Z:BU b n ⟨d,.slice t x none (some w) none,ty,p,af,g⟩=true)
  (ac:ev L x=some (.pointer (some ⟨bk,o,none⟩))) (ag:ev L w=some (iV hi)) (al:P.underlying t=some (.array kk e)) (am:By P e=some pp.n)
  (h:Ao pp E (some ⟨bk,o,none⟩) kk ys->JL J Q b n (AB L d (.slice (some ⟨bk,o,none⟩) ys.length kk)) ds (.inRegion ops rest::k) cs s):
  JL J Q b n L ds (.inRegion ops (i::rest)::k) cs s:=by
 have ap:=Ao.jM U K hC;have aw:=K.1;refine Be Y hw Z (λρ O=>?_) (h ap);refine FM (sm:=Instr.sliceAt t (ρ x) none (some (ρ w)) none) V ?_;rw [O _ _ ac,O _ _ ag];unfold HR at hC;split at hC
 .rename_i hb;cases hC;obtain⟨ay,az,a0⟩:=hb;unfold Instr.sliceAt;refine Ay _ _ (Cx al ?_);simp only [Instr.sureAddr,bind,Sem.bind,pure];have aq:Instr.sliceBounds false kk kk none (some (iV hi)) none=(pure (0,hi.toNat,kk):Sem _):=by
   simp only [Instr.sliceBounds,Instr.sliceBound,asIntOf,bind,Sem.bind,pure];rw [if_pos (by omega)];rfl
  rw [aq];simp only [pure,Sem.bind];refine Ay (x:=Go.sizeOf e) _ (Fh am ?_);have av:(if kk=0 then(⟨bk,o,none⟩:Addr) else Addr.add ⟨bk,o,none⟩ (0*pp.n))=⟨bk,o,none⟩:=by
   split
   .rfl
   .rw [Ek rfl];simp
  rw [av];have e2:((xs.take hi.toNat).drop (0:Int).toNat).length=hi.toNat - 0:=by simp;omega
  rw [e2];exact⟨V,V⟩
 .cases hC
theorem Zt{a:Option Addr}{l c:Nat}(K:P.underlying t=some (.slice e))(O:ρ x= .slice a l c)(U:ρ (.const (.slice none 0 0))= .slice none 0 0):Yl P ⟨d,.binOp .neq t x (.const (.slice none 0 0)) u,ty,p,af,g⟩ ρ s (.bool (!a.isNone)):=by
 have Y:∀o,eqGuard o t x (.const (.slice none 0 0)) (.slice a l c) (.slice none 0 0)=Sem.pure ():=λo=>by cases o <;> rfl
 refine FM (sm:=do eqGuard .neq t x (.const (.slice none 0 0)) (ρ x) (ρ (.const (.slice none 0 0)));binOp .neq t (ρ x) (ρ (.const (.slice none 0 0)))) V ?_
 rw [O,U,Y];simp only [bind,Sem.bind];have hb:binOp .neq t (.slice a l c) (.slice none 0 0)=(do pure (.bool (!(← Op.equal t (.slice a l c) (.slice none 0 0))))):=V
 rw [hb];refine Ay (x:=Op.equal t _ _) _ ?_;unfold Op.equal Op.maxDepth Op.equalIn;refine Ay _ _ (Cx K ?_);cases a with
 | none=>exact⟨rfl,rfl⟩
 | some ad=>exact⟨rfl,rfl⟩
end
open Go.Proofs Go.Proofs.Tryz
variable {J:Judge Tryz.prog}
def Wj(fu_:Nat)(p0:Bh)(p1:List Int)(K:Int):Option (Br Int ((Bh×Int)⊕(Unit))):= if K<(p1.length:Int) then((ix p1 K).bind λO=> (Av ((p0.1.length:Int) - 1)).bind λU=> (f91 fu_ O 0 U).bind λY=> if(!Y)=true then(some (.done (Sum.inl (([],[]),3)))) else((Av (K+1)).bind λZ=> some (.more Z))) else(some (.done (Sum.inr ())))
def f70(fu_:Nat)(p0:Bh)(p1:List Int):Option (Bh×Int):= (f47 fu_ p0).bind λK=> if K≠0 then(some (([],[]),K)) else(Option.bind (iter (Wj fu_ p0 p1) fu_ 0) λO=> Sum.elim (λr=>some r) (λac=> Option.bind (if(p1.length:Int)=2 then((ix p1 (0)).bind λU=> (ix p1 (1)).bind λY=> some (decide (U=Y))) else(some false)) λZ=> if Z=true then(some (([],[]),8)) else(some (p0,0))) O)
theorem Lx{a1:Aq}{c2:Nat}{Y:Aq}{Z:Nat}{al:Aq}{am:Nat}{p0:Bh}{p1:List Int}(a4:Ao (rL rI) E a1 c2 p0.1)(a5:Ao Az E Y Z p0.2)(aw:Ao rI E al am p1){fu_:Nat}{r:Bh×Int}(a6:f70 fu_ p0 p1=some r):AT J 18 [.agg #[sV a1 p0.1 c2,sV Y p0.2 Z],sV al p1 am] E [] (λw E' B'=>∃(a7:Aq) (a8:Nat) (a9:Aq) (bb:Nat),w= .tuple #[.agg #[sV a7 r.1.1 a8,sV a9 r.1.2 bb],iV r.2]/\B'= []/\Ao (rL rI) E' a7 a8 r.1.1/\Ao Az E' a9 bb r.1.2):=by
 refine Bp func18 λQ fo cs H ce aq=>?_;unfold f70 at a6;refine C 2 V (DG ce λay fs K az ci=>?_);refine B2 ci H5 λag co=>?_;refine C 5 V (Cf az Fq De V V ?_);obtain⟨be,cp,ct⟩:=bs a6;refine CC (iG (a4.M K) (a5.M K) cp) V V (A5 func40 V) co λcw O bi=>C 7 V (A1 ct (λcy c0=>?_) (λcy c1=>?_))
 .refine C 2 V (An (v:= .agg #[nS,nS]) V (λρ h=>C4 [(0,2)] h H5 underlying52 ⟨V,AX type28,trivial⟩ V V) ?_);refine C 1 V (JS.sx 2 bi DY λbn=>?_);refine C 2 V ?_;obtain rfl:=oi c0;refine JL.ret (v:= .tuple #[.agg #[nS,nS],iV be]) V V (BK.list func18 V (vs:= [.agg #[nS,nS],iV be]) ⟨⟨_,V,Ld.many (vs:= [nS,nS]) FL DY (Hy (off:=0) 2 bn V V)⟩,V,trivial⟩) (EO 2 bn V λc3=>?_);exact aq (K.Ad O) V ⟨none,0,none,0,V,V,Ao.nil,Ao.nil⟩ c3
 .refine C 5 V (JL.ln underlying22 V V V ?_);obtain⟨bo,c4,bv⟩:=bs c1;refine C 2 V (Bx (λL s=>∃(bw:Unit) (a0:LH),bo=Sum.inr bw/\Jm cw H a0 [bX ag #[nS,nS] 52] [(1,sV al p1 am),(2,Al ay 0),(4,Al ag 0)] L s) ?_ ?_)
  .rintro _ _ ⟨bw,a0,rfl,rfl,rfl,ac,bx⟩;have c5:=elim_inr bv;refine C 2 V (Fl 12 λU=>?_);refine Dj 0 U V V (AQ 1 U V V (λρ h s' fv=>Yl.len V underlying22 (h _ _ V)) ?_);refine A7 U V [2,3] V ?_;obtain⟨c6,bz,c7⟩:=bs c5;refine F1 0 #[true,true,true,true,true,true,true,true,true,true,true,true] (λL s=>L= [(2,Al ay 0),(4,Al ag 0),(41,.bool c6)]/\s=Ak a0 H [bX ag #[nS,nS] 52]) ?_ ?_
   .rintro _ _ ⟨rfl,rfl⟩;refine AZ.fin (by decide+kernel) (Ct c7 (λc8 c9=>?_) (λc8 dd=>?_))
    .refine C 2 V (An (v:= .agg #[nS,nS]) V (λρ h=>C4 [(0,2)] h H5 underlying52 ⟨V,AX type28,trivial⟩ V V) ?_);refine JS.sx 0 bx DY λb0=>?_;refine C 2 V ?_;obtain rfl:=oi c9;refine JL.ret (v:= .tuple #[.agg #[nS,nS],iV 8]) V V (BK.list func18 V (vs:= [.agg #[nS,nS],iV 8]) ⟨⟨_,V,Ld.many (vs:= [nS,nS]) FL DY (Hy (off:=0) 0 b0 V V)⟩,V,trivial⟩) (EO 0 b0 V λea=>?_);exact aq ((K.Ad O).Ad ac) V ⟨none,0,none,0,V,V,Ao.nil,Ao.nil⟩ ea
    .refine C 3 V (Cf (az.M (O.Ad ac)) Fq De V V ?_);refine An (v:= .agg #[sV a1 p0.1 c2,sV Y p0.2 Z]) V (λρ h=>C4 [(0,2)] h H5 underlying52 ⟨V,AX type28,trivial⟩ V V) (JS.sx 0 bx DY λb1=>?_);refine C 2 V ?_;obtain rfl:=oi dd;refine JL.ret (v:= .tuple #[.agg #[sV a1 p0.1 c2,sV Y p0.2 Z],iV 0]) V V (BK.list func18 V (vs:= [.agg #[sV a1 p0.1 c2,sV Y p0.2 Z],iV 0]) ⟨⟨_,V,Ld.many (vs:= [sV a1 p0.1 c2,sV Y p0.2 Z]) FL DY (Hy (off:=0) 0 b1 V V)⟩,V,trivial⟩) (EO 0 b1 V λeb=>?_);exact aq ((K.Ad O).Ad ac) V ⟨a1,c2,Y,Z,V,V,(a4.M ((K.Ad O).Ad ac)),(a5.M ((K.Ad O).Ad ac))⟩ eb
   .intro b2;refine Gy (q:=(p1.length:Int)=2) (i:=33) V (λa2=>?_) (λa2=>?_)
    .have ec:=ip bz a2;refine Dj 4 U V V ?_;obtain⟨fw,ed,ee⟩:=bs ec;refine Fo 5 (aw.M ((K.Ad O).Ad ac)) ed U underlying22 AH ?_;rintro fN gc _ rfl ef;refine Eu 6 U 0 ef Ba V V V V ?_;refine Dj 7 U V V ?_;obtain⟨ge,eg,ej⟩:=bs ee;refine Fo 8 (aw.M ((K.Ad O).Ad ac)) eg U underlying22 AH ?_;rintro gg gh _ rfl ek;refine Eu 9 U 0 ek Ba V V V V ?_;refine A7 U V [10,11] V ?_;obtain rfl:=oi ej;refine DD ?_ (b2 _ _ ⟨V,V⟩);exact⟨V,V,V,trivial⟩
    .have el:=im bz a2;refine A7 U V [4,5,6,7,8,9,10,11] V ?_;obtain rfl:=oi el;refine DD ?_ (b2 _ _ ⟨V,V⟩);exact⟨V,V,V,trivial⟩
  .intro em;refine JL.block (Em c4 (λa3=> [bX ag #[nS,nS] 52]) (λa3=> [(1,sV al p1 am),(2,Al ay 0),(4,Al ag 0),(15,sV al p1 am),(16,iV (p1.length:Int)),(17,iV a3)]) AN bi ?_);rintro a3 eo ap b3 b4 ⟨gt,av⟩ ep;have b5:=av;unfold Wj at b5;refine C 5 V (A1 b5 (λer eu=>?_) (λer ew=>?_))
   .obtain⟨gE,ex,ey⟩:=bs eu;refine C 5 V (JS.ix (aw.M ((K.Ad O).Ad ap)) ex underlying22 AH ?_);rintro gO g0 _ rfl eA;refine Dh 0 eA Ba V V V (C 5 V ?_);refine Cb 0 (az.M (O.Ad ap)) underlying28 FC FK ?_;refine JL.ln underlying25 V V V ?_;obtain⟨g1,eC,eN⟩:=bs ey;refine BV eC V V V ?_;obtain⟨e0,e1,e3⟩:=bs eN;refine CC (Ny e1) V V MK b3 λg3 b6 ca=>An (v:= .bool (!e0)) V (λρ h=>Yl.not (h _ _ V)) (JL.done ?_);refine Ct e3 (λe4 e5=>?_) (λe4 e6=>?_)
    .refine C 2 V (An (v:= .agg #[nS,nS]) V (λρ h=>C4 [(0,2)] h H5 underlying52 ⟨V,AX type28,trivial⟩ V V) ?_);refine JS.sx 0 ca DY λcc=>?_;refine C 2 V ?_;obtain rfl:=oi e5;obtain rfl:=b4 _ av;have e7:=elim_inl bv;obtain rfl:=oi e7;refine JL.ret (v:= .tuple #[.agg #[nS,nS],iV 3]) V V (BK.list func18 V (vs:= [.agg #[nS,nS],iV 3]) ⟨⟨_,V,Ld.many (vs:= [nS,nS]) FL DY (Hy (off:=0) 0 cc V V)⟩,V,trivial⟩) (EO 0 cc V λe8=>?_);exact aq (((K.Ad O).Ad ap).Ad b6) V ⟨none,0,none,0,V,V,Ao.nil,Ao.nil⟩ e8
    .obtain⟨ff,fk,fl⟩:=bs e6;refine C 3 V (Bv fk V V V ?_);refine C 2 V ?_;obtain rfl:=oi fl;exact ep ff (ap.Ad b6) ca V av
   .refine JL.exit V ?_;obtain rfl:=oi ew;have fm:bo=(Sum.inr ()):=(b4 _ av).symm;exact AF (em _ _ ⟨(),eo,fm,V,V,ap,b3⟩) V
def P9(fu_:Nat)(p0:List Int):Option ((List Int)):= (EK ([]:List Int) p0).bind λK=> some K
theorem fj{ad:Addr}{c2:Nat}{p0:List Int}(Y:Ao rI E (some ad) c2 p0){fu_:Nat}{r:(List Int)}(K:P9 fu_ p0=some r):AT J 42 [.slice (some ad) p0.length c2] E [] (λw E' B'=>∃(O:Aq) (U:Nat) (g0:Seg),w= sV O r U/\B'=g0/\OL 3 rI E' O U g0 r):=by
 refine Bp func42 λQ a0 cs H Z ac=>?_;unfold P9 at K;refine C 8 V (An (v:= .bool false) V (λρ h=>On (a:=(some ad)) underlying22 (h _ _ V) (h _ _ V)) ?_);refine C 5 V (Vh (pp:=rI) V V V underlying22 AH Z λr1 g2 ag al=>?_);obtain⟨a1,am,ap⟩:=bs K;refine C 1 V (KA (pp:=rI) 1 am V V V V V V V underlying22 underlying22 AH (DF type3) CR V (by decide) (by decide) ag Y al V λaq av aw ay az=>?_);refine C 2 V ?_;obtain rfl:=oi ap;exact A2 func42 V V (ac AN V ⟨aq,av,aw,V,(by first | rfl | simp | (simp [Value.cells])),ay⟩ az)
def WX(fu_:Nat)(p0:List Int):Option ((List Int)):= some ([])
theorem dY{c2:Nat}{p0:List Int}(ac:Ao rI E none c2 p0){fu_:Nat}{r:(List Int)}(K:WX fu_ p0=some r):AT J 42 [sV none p0 c2] E [] (λw E' B'=>∃(O:Aq) (U:Nat) (g0:Seg),w= sV O r U/\B'=g0/\OL 3 rI E' O U g0 r):=by
 refine Bp func42 λQ ag cs H Y Z=>?_;unfold WX at K;refine C 8 V (An (v:= .bool true) V (λρ h=>On (a:=none) underlying22 (h _ _ V) (h _ _ V)) ?_);refine C 6 V ?_;obtain rfl:=oi K;exact A2 func42 V V (Z AN V ⟨none,0,[],V,V,OL.nil⟩ Y)
def f87(fu_:Nat)(p0:List Int):Option (List Int):=P9 fu_ p0
theorem iZ{a1:Aq}{c2:Nat}{p0:List Int}(O:Ao rI E a1 c2 p0){fu_:Nat}{r:List Int}(K:f87 fu_ p0=some r):AT J 42 [.slice a1 p0.length c2] E [] (λw E' B'=>∃(U:Aq) (Y:Nat) (g0:Seg),w= .slice U r.length Y/\B'=g0/\OL 3 rI E' U Y g0 r):=by
 cases a1 with
 | some ad=>exact fj O K
 | none=>
  have Z:p0= []:=by
   rcases O.2 with h | ⟨_,_,h,_⟩
   .exact h.1
   .cases h
  subst Z;have ac:r= []:=by
   have ag:P9 fu_ []=some []:=V;unfold f87 at K;rw [ag] at K;exact(Option.some.inj K).symm
  subst ac;exact dY (fu_:=fu_) O V
def Nw(fu_:Nat)(p0:AG):Option (AG):= (EK ([]:AG) p0).bind λK=> some K
theorem cv{ad:Addr}{c2:Nat}{p0:AG}(Y:Ao Az E (some ad) c2 p0){fu_:Nat}{r:AG}(K:Nw fu_ p0=some r):AT J 141 [.slice (some ad) p0.length c2] E [] (λw E' B'=>∃(O:Aq) (U:Nat) (g0:Seg),w= sV O r U/\B'=g0/\OL 49 Az E' O U g0 r):=by
 refine Bp func141 λQ a0 cs H Z ac=>?_;unfold Nw at K;refine C 8 V (An (v:= .bool false) V (λρ h=>On (a:=(some ad)) underlying79 (h _ _ V) (h _ _ V)) ?_);refine C 5 V (Vh (pp:=Az) V V V underlying79 Bt Z λr1 g2 ag al=>?_);obtain⟨a1,am,ap⟩:=bs K;refine C 1 V (KA (pp:=Az) 1 am V V V V V V V underlying79 underlying79 Bt (DF type49) BR V (by decide) (by decide) ag Y al V λaq av aw ay az=>?_);refine C 2 V ?_;obtain rfl:=oi ap;exact A2 func141 V V (ac AN V ⟨aq,av,aw,V,(by first | rfl | simp | (simp [Value.cells])),ay⟩ az)
def Wp(fu_:Nat)(p0:AG):Option (AG):= some ([])
theorem bQ{c2:Nat}{p0:AG}(ac:Ao Az E none c2 p0){fu_:Nat}{r:AG}(K:Wp fu_ p0=some r):AT J 141 [sV none p0 c2] E [] (λw E' B'=>∃(O:Aq) (U:Nat) (g0:Seg),w= sV O r U/\B'=g0/\OL 49 Az E' O U g0 r):=by
 refine Bp func141 λQ ag cs H Y Z=>?_;unfold Wp at K;refine C 8 V (An (v:= .bool true) V (λρ h=>On (a:=none) underlying79 (h _ _ V) (h _ _ V)) ?_);refine C 6 V ?_;obtain rfl:=oi K;exact A2 func141 V V (Z AN V ⟨none,0,[],V,V,OL.nil⟩ Y)
def f129(fu_:Nat)(p0:AG):Option AG:=Nw fu_ p0
theorem fM{a1:Aq}{c2:Nat}{p0:AG}(O:Ao Az E a1 c2 p0){fu_:Nat}{r:AG}(K:f129 fu_ p0=some r):AT J 141 [.slice a1 p0.length c2] E [] (λw E' B'=>∃(U:Aq) (Y:Nat) (g0:Seg),w= .slice U r.length Y/\B'=g0/\OL 49 Az E' U Y g0 r):=by
 cases a1 with
 | some ad=>exact cv O K
 | none=>
  have Z:p0= []:=by
   rcases O.2 with h | ⟨_,_,h,_⟩
   .exact h.1
   .cases h
  subst Z;have ac:r= []:=by
   have ag:Nw fu_ []=some []:=V;unfold f129 at K;rw [ag] at K;exact(Option.some.inj K).symm
  subst ac;exact bQ (fu_:=fu_) O V
def f43(fu_:Nat)(p0:Bh):Option ((List Int)×Int):= (f70 fu_ p0 ([])).bind λK=> if K.2≠0 then(some ([],K.2)) else((f84 fu_ K.1).bind λO=> (HR O 0 (p0.1.length:Int)).bind λU=> (f87 fu_ U).bind λY=> some (Y,0))
theorem iB{a1:Aq}{c2:Nat}{ac:Aq}{ag:Nat}{p0:Bh}(a3:Ao (rL rI) E a1 c2 p0.1)(a4:Ao Az E ac ag p0.2){fu_:Nat}{r:(List Int)×Int}(al:f43 fu_ p0=some r):AT J 21 [.agg #[sV a1 p0.1 c2,sV ac p0.2 ag]] E [] (λw E' B'=>∃(am:Aq) (ap:Nat),w= .tuple #[sV am r.1 ap,iV r.2]/\B'= []/\Ao rI E' am ap r.1):=by
 refine Bp func21 λQ c3 cs H a5 aq=>?_;unfold f43 at al;refine C 2 V (DG a5 λc4 c5 U av a6=>?_);refine C 5 V (Cf av Fq De V V ?_);obtain⟨c6,a7,a8⟩:=bs al;refine B7 (Lx (a3.M U) (a4.M U) Ao.nil a7) V V K4 a6 ?_;rintro _ c7 _ Y ⟨c8,c9,dd,ea,rfl,rfl,a9,bb⟩ be;refine C 3 V (B2 be H5 λeb bi=>?_);refine JS.sx 3 bi DY λbn=>?_;refine Df 3 bn V λec K bo aw=>C 8 V (A1 a8 (λbv bw=>?_) (λbv bx=>?_))
 .refine C 6 V ?_;obtain rfl:=oi bw;exact A2 func21 V V (aq ((U.Ad Y).Ad K) V ⟨none,0,V,V,Ao.nil⟩ aw)
 .refine C 3 V (Cf bo FL DY V V ?_);obtain⟨ed,bz,b0⟩:=bs bx;refine B7 (PG (a9.M K) (bb.M K) bz) V V N6 aw ?_;rintro _ ay _ az ⟨Z,rfl,rfl,O⟩ b1;refine B2 b1 Ko λee b2=>?_;refine Hb (v:= .agg Z.toArray) (l:= []) (ws:=(List.replicate 5 (iV 0):Lv_)) (us:=Z) (o:=0) 5 V V V b2 V V V (by rw [B6 (kk:=5) (pp:=rI) O];exact AX type56) ((rA 5 rI).one O) V (by rw [B6 (kk:=5) (pp:=rI) O,B6 (kk:=5) (pp:=rI) (Gg (E:=ay) (pp:=rI) rfl)];omega) λa0=>?_;rw [Ji (by rw [B6 (kk:=5) (pp:=rI) O,B6 (kk:=5) (pp:=rI) (Gg (E:=ay) (pp:=rI) rfl)])] at a0 ⊢;refine C 3 V (Cb 0 (av.M ((Y.Ad K).Ad az)) underlying28 FC FK ?_);refine JL.ln underlying25 V V V (Df 5 a0 V λef a2 b3 b4=>?_);obtain⟨eg,b5,b6⟩:=bs b0;refine dG (ws:=Z) (pp:=rI) b3 (Rp.M _ a2 O) b5 V V V V V underlying56 AH λca=>?_;obtain⟨ej,cc,ce⟩:=bs b6;refine B7 (iZ ca cc) V V (A5 func42 V) b4 ?_;rintro _ ek el ci ⟨co,cp,_,rfl,rfl,ct⟩ cw;refine C 3 V (Cp 6 ct cw V λem cy c0 c1=>?_);obtain rfl:=oi ce;exact A2 func21 V V (aq ((((((U.Ad Y).Ad K).Ad az).Ad a2).Ad ci).Ad cy) V ⟨co,cp,V,V,c0⟩ c1)
def Pj(fu_:Nat)(p0:AG)(p1:AG)(K:Int):Option (Br Int ((Int)⊕(Unit))):= if K<(p0.length:Int) then((ix p0 K).bind λU=> if(p1.length:Int)<=K then(some (.done (Sum.inl 1))) else((ix p1 K).bind λY=> (f113 fu_ U Y).bind λO=> if O≠0 then(some (.done (Sum.inl O))) else((Av (K+1)).bind λZ=> some (.more Z)))) else(some (.done (Sum.inr ())))
def f112(fu_:Nat)(p0:AG)(p1:AG):Option Int:= Option.bind (iter (Pj fu_ p0 p1) fu_ 0) λK=> Sum.elim (λr=>some r) (λO=> if(p0.length:Int)<(p1.length:Int) then(some (-1)) else(some 0)) K
theorem il{a1:Aq}{c2:Nat}{U:Aq}{Y:Nat}{p0:AG}{p1:AG}(a9:Ao Az E a1 c2 p0)(bb:Ao Az E U Y p1){fu_:Nat}{r:Int}(aw:f112 fu_ p0 p1=some r):AT J 63 [sV a1 p0 c2,sV U p1 Y,(fV 64)] E [] (λw E' B'=>w=iV r/\B'= []):=by
 refine Bp func63 λQ ef cs H be Z=>?_;unfold f112 at aw;refine C 8 V (JL.ln underlying79 V V V ?_);obtain⟨ay,bi,ag⟩:=bs aw;refine C 2 V (Bx (λL s=>∃(az:Unit) (a0:LH),ay=Sum.inr az/\Jm E H a0 [] [(0,sV a1 p0 c2),(1,sV U p1 Y)] L s) ?_ ?_)
 .rintro _ _ ⟨az,a0,rfl,rfl,rfl,a2,a3⟩;have bn:=elim_inr ag;refine C 4 V (JL.ln underlying79 V V V ?_);refine C 1 V (JL.ln underlying79 V V V ?_);refine C 2 V (A1 bn (λbo bv=>?_) (λbo bw=>?_))
  .refine C 4 V ?_;obtain rfl:=oi bv;exact A2 func63 V V (Z a2 V ⟨V,V⟩ a3)
  .refine C 5 V ?_;obtain rfl:=oi bw;exact A2 func63 V V (Z a2 V ⟨V,V⟩ a3)
 .intro bx;refine JL.block (Em bi (λal=> []) (λal=> [(0,sV a1 p0 c2),(1,sV U p1 Y),(2,(fV 64)),(11,sV a1 p0 c2),(12,iV (p0.length:Int)),(13,iV al)]) AN be ?_);rintro al bz K a4 am ⟨eg,O⟩ b0;have a5:=O;unfold Pj at a5;refine C 5 V (A1 a5 (λb1 b2=>?_) (λb1 b3=>?_))
  .obtain⟨ap,b4,b5⟩:=bs b2;refine C 6 V (JS.ix (a9.M K) b4 underlying79 Bt ?_);rintro ej ek _ ⟨_,_,rfl,rfl,⟨_,_,rfl,rfl,rfl⟩⟩ b6;refine Cf b6 DX Bt V V (B2 a4 BR λel ca=>?_);refine C 1 V (JS.sx 0 ca Bt λcc=>?_);refine Df 0 cc V λem ac ce a6=>C 6 V (JL.ln underlying79 V V V ?_);refine C 2 V (A1 b5 (λci co=>?_) (λci cp=>?_))
   .refine C 4 V ?_;obtain rfl:=oi co;obtain rfl:=am _ O;have ct:=elim_inl ag;obtain rfl:=oi ct;exact A2 func63 V V (Z (K.Ad ac) V ⟨V,V⟩ a6)
   .obtain⟨aq,cw,cy⟩:=bs cp;refine C 5 V (JS.ix (bb.M (K.Ad ac)) cw underlying79 Bt ?_);rintro eo ep _ ⟨_,_,rfl,rfl,⟨_,_,rfl,rfl,rfl⟩⟩ c0;refine Cf c0 DX Bt V V (B2 a6 BR λer c1=>?_);refine JS.sx 1 c1 Bt λc3=>?_;refine Df 1 c3 V λeu av c4 c5=>C 4 V (Cf (ce.M av) DX Bt V V ?_);refine Cf c4 DX Bt V V ?_;obtain⟨ew,c6,c7⟩:=bs cy;refine Lh (vs:= [.agg #[iV ap.1,iV ap.2.1,iV ap.2.2],.agg #[iV aq.1,iV aq.2.1,iV aq.2.2]]) (Vw c6) V V V V (A5 func64 V) V c5 ?_;rintro _ ex _ a7 ⟨rfl,rfl⟩ a8;refine C 7 V (A1 c7 (λc8 c9=>?_) (λc8 dd=>?_))
    .refine C 5 V ?_;obtain rfl:=oi c9;obtain rfl:=am _ O;have ea:=elim_inl ag;obtain rfl:=oi ea;exact A2 func63 V V (Z (((K.Ad ac).Ad av).Ad a7) V ⟨V,V⟩ a8)
    .obtain⟨eb,ec,ed⟩:=bs dd;refine C 3 V (Bv ec V V V ?_);refine C 2 V ?_;obtain rfl:=oi ed;exact b0 eb (((K.Ad ac).Ad av).Ad a7) a8 V O
  .refine JL.exit V ?_;obtain rfl:=oi b3;have ee:ay=(Sum.inr ()):=(am _ O).symm;exact AF (bx _ _ ⟨(),bz,ee,V,V,K,a4⟩) V
def f74(fu_:Nat)(p0:AG)(p1:AG):Option Int:= (f112 fu_ p0 p1).bind λK=> some K
theorem G1{a1:Aq}{c2:Nat}{K:Aq}{O:Nat}{p0:AG}{p1:AG}(Y:Ao Az E a1 c2 p0)(Z:Ao Az E K O p1){fu_:Nat}{r:Int}(U:f74 fu_ p0 p1=some r):AT J 38 [sV a1 p0 c2,sV K p1 O] E [] (λw E' B'=>w=iV r/\B'= []):=by
 refine Bp func38 λQ av cs H ac ag=>?_;unfold f74 at U;obtain⟨aw,al,am⟩:=bs U;refine C 8 V (CC (il Y Z al) V V (A5 func63 V) ac λay ap aq=>?_);refine C 2 V ?_;obtain rfl:=oi am;exact A2 func38 V V (ag ap V ⟨V,V⟩ aq)
def f73(fu_:Nat)(p0:AG)(p1:AG):Option Bool:= (f74 fu_ p0 p1).bind λK=> some (decide (K<0))
theorem iA{a1:Aq}{c2:Nat}{K:Aq}{O:Nat}{p0:AG}{p1:AG}(Y:Ao Az E a1 c2 p0)(Z:Ao Az E K O p1){fu_:Nat}{r:Bool}(U:f73 fu_ p0 p1=some r):AT J 46 [sV a1 p0 c2,sV K p1 O] E [] (λw E' B'=>w= .bool r/\B'= []):=by
 refine Bp func46 λQ av cs H ac ag=>?_;unfold f73 at U;obtain⟨aw,al,am⟩:=bs U;refine C 8 V (CC (G1 Y Z al) V V GR ac λay ap aq=>?_);refine C 3 V ?_;obtain rfl:=oi am;exact A2 func46 V V (ag ap V ⟨V,V⟩ aq)
def f72(fu_:Nat)(p0:AG×Bool)(p1:AG):Option ((AG×Bool)):= Option.bind (if(!p0.2)=true then(some true) else((f73 fu_ p1 p0.1).bind λK=> some K)) λO=> Option.bind (if O=true then(some (p1,true)) else(some p0)) λU=> some U
theorem ji{bk:Nat}{a1:Aq}{c2:Nat}{K:Aq}{O:Nat}{p0:AG×Bool}{p1:AG}(ap:Ao Az E a1 c2 p0.1)(aq:Ao Az E K O p1){fu_:Nat}{r:(AG×Bool)}(av:f72 fu_ p0 p1=some r):AT J 45 [Al bk 0,sV K p1 O,(fV 46)] E [(bk,.cells #[sV a1 p0.1 c2,.bool p0.2] 92 (0,0))] (λw E' B'=>∃(aw:Aq) (ay:Nat),w= .tuple #[]/\B'= [(bk,.cells #[sV aw r.1 ay,.bool r.2] 92 (0,0))]/\Ao Az E' aw ay r.1):=by
 refine Bp func45 λQ b6 cs H Y a3=>?_;unfold f72 at av;refine C 4 V (JL.fd underlying92 MO V V V ?_);refine An (v:= .bool p0.2) V (λρ h=>Yl.load Qi (h _ _ V) (B5 (j:=0) (off:=1) Y V V)) (An (v:= .bool (!p0.2)) V (λρ h=>Yl.not (h _ _ V)) ?_);obtain⟨a4,a5,a6⟩:=bs av;refine C 1 V (Ib [] (λL s=>∃(U:LH),Jm E H U [bX bk #[sV a1 p0.1 c2,.bool p0.2] 92] [(0,Al bk 0),(1,sV K p1 O),(19,.bool a4)] L s) ?_ ?_)
 .rintro _ _ ⟨U,rfl,rfl,ag,az⟩;obtain⟨al,a7,a8⟩:=bs a6;refine JL.done (Bx (λL s=>∃(am:LH) (Z:Aq) (ac:Nat),Jn U H am [bX bk #[sV Z al.1 ac,.bool al.2] 92] [] L s (Ao Az am Z ac al.1)) ?_ ?_)
  .rintro _ _ ⟨am,Z,ac,rfl,rfl,a9,bb,be⟩;obtain rfl:=oi a8;exact JL.fin (v:= .tuple #[]) V V (BK.list func45 V (vs:= []) trivial) (a3 (ag.Ad a9) V ⟨Z,ac,V,V,be⟩ bb)
  .intro a0;refine Ct a7 (λbi bn=>?_) (λbi bo=>?_)
   .refine C 5 V (JL.fd underlying92 AW V V V ?_);refine JS.sx 0 az AW λbv=>?_;refine C 1 V (JL.fd underlying92 MO V V V ?_);refine JS.sx 0 bv MO λbw=>?_;refine JL.done ?_;obtain rfl:=oi bn;exact AF (a0 _ _ ⟨U,K,O,V,V,AN,bw,(aq.M ag)⟩) V
   .refine JL.skip ?_;obtain rfl:=oi bo;exact AF (a0 _ _ ⟨U,a1,c2,V,V,AN,az,(ap.M ag)⟩) V
 .intro a2;refine FQ 11 a5 (λbx bz=>?_) (λbx b0=>?_)
  .refine C 8 V ?_;obtain rfl:=oi bz;exact AF (a2 _ _ ⟨E,V,V,AN,Y⟩) V
  .refine C 4 V (JL.fd underlying92 AW V V V ?_);refine An (v:= sV a1 p0.1 c2) V (λρ h=>Yl.load BA (h _ _ V) (B5 (j:=0) (off:=0) Y V V)) ?_;obtain⟨ca,b1,b2⟩:=bs b0;refine Lh (vs:= [sV K p1 O,sV a1 p0.1 c2]) (iA aq ap b1) V V V V (A5 func46 V) V Y ?_;rintro _ b3 _ b4 ⟨rfl,rfl⟩ b5;refine C 1 V ?_;obtain rfl:=oi b2;exact AF (a2 _ _ ⟨b3,V,V,b4,b5⟩) V
variable {J:Judge Tryz.prog}
def Pf(fu_:Nat)(O:List Int)(K:(AR)×Int):Option (Br ((AR)×Int) ((AR))):= if K.2<(O.length:Int) then((ix O K.2).bind λU=> (Av (((Bd K.1 U).getD 0)+1)).bind λY=> (Av (K.2+1)).bind λZ=> some (.more ((Cg K.1 U Y),Z))) else(some (.done K.1))
def OO(fu_:Nat)(p0:Bh)(K:(List AR)×Int):Option (Br ((List AR)×Int) ((List AR))):= if K.2<(p0.1.length:Int) then((ix p0.1 K.2).bind λO=> Option.bind (iter (Pf fu_ O) fu_ (([]:AR),0)) λU=> (room K.1 U).bind λY=> (Av (K.2+1)).bind λZ=> some (.more (Y,Z))) else(some (.done K.1))
def f120(fu_:Nat)(p0:Bh):Option ((List AR)):= Option.bind (iter (OO fu_ p0) fu_ ([],0)) λK=> some K
theorem fa{a1:Aq}{c2:Nat}{bb:Aq}{be:Nat}{p0:Bh}(ca:Ao (rL rI) E a1 c2 p0.1)(gt:Ao Az E bb be p0.2){fu_:Nat}{r:(List AR)}(bi:f120 fu_ p0=some r):AT J 56 [.agg #[sV a1 p0.1 c2,sV bb p0.2 be]] E [] (λw E' B'=>∃(bn:Aq) (bo:Nat),w= sV bn r bo/\B'= []/\Ao (rM rI false rI false) E' bn bo r):=by
 refine Bp func56 λQ gE cs H cc ce=>?_;unfold f120 at bi;refine C 2 V (DG cc λgO ay bv ci co=>?_);refine C 9 V (JL.fd underlying52 De V V V ?_);refine Cb 0 ci underlying28 FC FK ?_;refine JL.ln underlying25 V V V ?_;obtain⟨bw,cp,ct⟩:=bs bi;refine C 2 V (Bx (λL s=>∃(az:LH) (am:Aq) (ap:Nat) (a0:Seg),Jn ay H az [a0] [(3,sV am bw ap)] L s (OL 160 (rM rI false rI false) az am ap a0 bw)) ?_ ?_)
 .rintro _ _ ⟨az,am,ap,a0,rfl,rfl,cw,cy,c0⟩;refine C 5 V (Cp 0 c0 cy V λg0 c1 c3 c4=>?_);obtain rfl:=oi ct;exact A2 func56 V V (ce ((bv.Ad cw).Ad c1) V ⟨am,ap,V,V,c3⟩ c4)
 .intro c5;refine JL.block (Cn cp (λL s K=>∃(O:LH) (U:Aq) (Y:Nat) (ac:Seg),Jn ay H O [ac] [(3,sV U K.1 Y),(11,sV a1 p0.1 c2),(12,iV (p0.1.length:Int)),(13,iV K.2)] L s (OL 160 (rM rI false rI false) O U Y ac K.1)) ⟨ay,none,0,[],V,V,AN,co,OL.nil⟩ ?_);rintro _ _ K ⟨O,U,Y,ac,rfl,rfl,a2,bx,bz⟩ c6 ⟨g1,a3⟩ c7;have b0:=a3;unfold OO at b0;refine C 5 V (A1 b0 (λc8 c9=>?_) (λc8 dd=>?_))
  .obtain⟨b1,ea,eb⟩:=bs c9;refine C 5 V (JS.ix (ca.M (bv.Ad a2)) ea underlying25 GV ?_);rintro g3 g4 _ ⟨ec,ed,rfl,ee⟩ ef;refine Dh 0 ef Kl V V V (C 4 V ?_);refine JS.makeMap V V V bx λag eg=>C 6 V (JL.ln underlying22 V V V ?_);obtain⟨b2,ej,ek⟩:=bs eb;refine C 2 V (Bx (λL s=>∃(a4:LH) (aq:Obj),Jn O H a4 [ac,[(ag,aq)]] [(3,sV U K.1 Y),(6,.map (some ag)),(11,sV a1 p0.1 c2),(12,iV (p0.1.length:Int)),(13,iV K.2)] L s (BO rI false rI false a4 aq b2)) ?_ ?_)
   .rintro _ _ ⟨a4,aq,rfl,rfl,b3,el,em⟩;refine C 3 V (Qy 1 el V λb4 a5 eo ep=>?_);have er:BO rI false rI false b4 aq b2:=(em.M a5);obtain⟨eu,ew,ex⟩:=bs ek;refine JS.app (pp:=(rM rI false rI false)) (v:= .map (some ag)) (a:=U) (c:=Y) 0 ew V V V V (λ_=>V) V (λ_=>V) V V V underlying122 underlying122 underlying122 H6 (DF type160) (Dx type160) V (by decide) (by decide) (by decide) (by decide) (bz.M (b3.Ad a5)) ⟨_,_,V,eo,er⟩ ep V λg5 ey eA eC eN e0=>?_;obtain⟨e1,e3,e4⟩:=bs ex;refine C 4 V (Bv e3 V V V ?_);refine C 2 V ?_;obtain rfl:=oi e4;exact AF (c7 _ _ (eu,e1) ⟨b4,ey,eA,eC,V,V,((a2.Ad b3).Ad a5),e0,eN⟩ a3) V
   .intro e5;refine JL.block (Cn ej (λL s Z=>∃(al:LH) (av:Obj),Jn O H al [ac,[(ag,av)]] [(3,sV U K.1 Y),(6,.map (some ag)),(11,sV a1 p0.1 c2),(12,iV (p0.1.length:Int)),(13,iV K.2),(18,sV ec b1 ed),(19,iV (b1.length:Int)),(20,iV Z.2)] L s (BO rI false rI false al av Z.1)) ⟨O,(.map #[] 0),V,V,AN,eg,BO.nil⟩ ?_);rintro _ _ Z ⟨al,av,rfl,rfl,a6,a7,a8⟩ e6 ⟨g6,a9⟩ e7;have b5:=a9;unfold Pf at b5;refine C 5 V (A1 b5 (λe8 ff=>?_) (λe8 fk=>?_))
    .obtain⟨aw,fl,fm⟩:=bs ff;refine C 5 V (JS.ix (ee.M a6) fl underlying22 AH ?_);rintro g7 g8 _ rfl fo;refine Dh 0 fo Ba V V V (C 5 V ?_);refine An (v:=iV ((Bd Z.1 aw).getD 0)) V (λρ h=>Yl.lookup (ok:=false) (xs:=Z.1) (x0:=aw) (z0:=0) Jv underlying160 CR ⟨_,V,V⟩ a8 ⟨_,V,V⟩ (by rintro _ ⟨_,rfl,rfl⟩;rfl) (h _ _ V) (h _ _ V) (DO (j:=1) (i:=0) a7 V V)) ?_;obtain⟨b6,fs,fv⟩:=bs fm;refine Bv fs V V V (JS.mapUpdate (xs:=Z.1) (x0:=aw) (v0:=b6) 1 Jv underlying160 a8 ⟨_,V,V⟩ ⟨_,V,V⟩ a7 V V V V V V V λfw fN gc=>?_);obtain⟨ge,gg,gh⟩:=bs fv;refine C 3 V (Bv gg V V V ?_);refine C 2 V ?_;obtain rfl:=oi gh;exact AF (e7 _ _ ((Cg Z.1 aw b6),ge) ⟨al,fw,V,V,a6,gc,fN⟩ a9) V
    .refine JL.exit V ?_;obtain rfl:=oi fk;obtain rfl:=e6 _ a9;exact AF (e5 _ _ ⟨al,av,V,V,a6,a7,a8⟩) V
  .refine JL.exit V ?_;obtain rfl:=oi dd;obtain rfl:=c6 _ a3;exact AF (c5 _ _ ⟨O,U,Y,ac,V,V,a2,bx,bz⟩) V
def Po(fu_:Nat)(p0:Bh)(O:(List Int))(K:(List Int)×Int):Option (Br ((List Int)×Int) ((List Int))):= if K.2<5 then((ix O K.2).bind λU=> Option.bind (if K.2<(p0.1.length:Int) then((ix p0.1 K.2).bind λY=> (f85 fu_ Y).bind λZ=> (Av (-(U))).bind λac=> some (decide (Z<ac))) else(some false)) λag=> Option.bind (if ag=true then((room K.1 K.2).bind λal=> some al) else(some K.1)) λam=> (Av (K.2+1)).bind λap=> some (.more (am,ap))) else(some (.done K.1))
def f39(fu_:Nat)(p0:Bh):Option ((List Int)×Int):= (f70 fu_ p0 ([])).bind λK=> if K.2≠0 then(some ([],K.2)) else((f84 fu_ K.1).bind λO=> Option.bind (iter (Po fu_ p0 O) fu_ ([],0)) λU=> some (U,0))
theorem WN{a1:Aq}{c2:Nat}{bo:Aq}{bv:Nat}{p0:Bh}(bw:Ao (rL rI) E a1 c2 p0.1)(cc:Ao Az E bo bv p0.2){fu_:Nat}{r:(List Int)×Int}(bx:f39 fu_ p0=some r):AT J 6 [.agg #[sV a1 p0.1 c2,sV bo p0.2 bv]] E [] (λw E' B'=>∃(bz:Aq) (b0:Nat),w= .tuple #[sV bz r.1 b0,iV r.2]/\B'= []/\Ao rI E' bz b0 r.1):=by
 refine Bp func6 λQ g8 cs H ce b1=>?_;unfold f39 at bx;refine C 2 V (DG ce λa3 ha al a4 ci=>?_);refine C 5 V (Cf a4 Fq De V V ?_);obtain⟨hb,co,cp⟩:=bs bx;refine B7 (Lx (bw.M al) (cc.M al) Ao.nil co) V V K4 ci ?_;rintro _ hc _ am ⟨hd,he,hf,hg,rfl,rfl,ct,cw⟩ cy;refine C 3 V (B2 cy H5 λhj c0=>?_);refine JS.sx 3 c0 DY λc1=>?_;refine Df 3 c1 V λhk O c3 b2=>C 8 V (A1 cp (λc4 c5=>?_) (λc4 c6=>?_))
 .refine C 6 V ?_;obtain rfl:=oi c5;exact A2 func6 V V (b1 ((al.Ad am).Ad O) V ⟨none,0,V,V,Ao.nil⟩ b2)
 .refine C 8 V (Cf c3 FL DY V V ?_);obtain⟨hl,c7,c8⟩:=bs c6;refine B7 (PG (ct.M O) (cw.M O) c7) V V N6 b2 ?_;rintro _ a5 _ aq ⟨a6,rfl,rfl,c9⟩ dd;obtain⟨b3,ea,eb⟩:=bs c8;refine C 2 V (Bx (λL s=>∃(a7:LH) (av:Aq) (aw:Nat) (a8:Seg),Jn a5 H a7 [a8] [(6,sV av b3 aw)] L s (OL 3 rI a7 av aw a8 b3)) ?_ ?_)
  .rintro _ _ ⟨a7,av,aw,a8,rfl,rfl,ec,ed,ee⟩;refine C 6 V (Cp 0 ee ed V λhm ef eg ej=>?_);obtain rfl:=oi eb;exact A2 func6 V V (b1 (((((al.Ad am).Ad O).Ad aq).Ad ec).Ad ef) V ⟨av,aw,V,V,eg⟩ ej)
  .intro ek;refine JL.block (Cn ea (λL s K=>∃(Z:LH) (U:Aq) (Y:Nat) (ac:Seg),Jn a5 H Z [ac] [(1,Al a3 0),(6,sV U K.1 Y),(18,.agg a6.toArray),(19,iV K.2)] L s (OL 3 rI Z U Y ac K.1)) ⟨a5,none,0,[],V,V,AN,dd,OL.nil⟩ ?_);rintro _ _ K ⟨Z,U,Y,ac,rfl,rfl,ag,a9,bb⟩ el ⟨hn,be⟩ em;have b4:=be;unfold Po at b4;refine C 5 V (A1 b4 (λeo ep=>?_) (λeo er=>?_))
   .obtain⟨ho,eu,ew⟩:=bs ep;refine C 6 V (VJ (Rp.M _ ag c9) eu V V V V V underlying56 AH Ba ?_ (λ_=>V));rintro _ rfl;refine C 6 V (Cb 0 (a4.M (((am.Ad O).Ad aq).Ad ag)) underlying28 FC FK ?_);refine JL.ln underlying25 V V V ?_;obtain⟨ex,ey,eA⟩:=bs ew;refine C 2 V (Ib [] (λL s=>∃(ap:LH),Jm Z H ap [ac] [(1,Al a3 0),(6,sV U K.1 Y),(7,iV K.2),(18,.agg a6.toArray),(19,iV K.2),(38,.bool ex)] L s) ?_ ?_)
    .rintro _ _ ⟨ap,rfl,rfl,bi,b5⟩;obtain⟨bn,eC,eN⟩:=bs eA;refine JL.done (Bx (λL s=>∃(ay:LH) (az:Aq) (a0:Nat) (a2:Seg),Jn ap H ay [a2] [(1,Al a3 0),(6,sV az bn a0),(18,.agg a6.toArray),(19,iV K.2)] L s (OL 3 rI ay az a0 a2 bn)) ?_ ?_)
     .rintro _ _ ⟨ay,az,a0,a2,rfl,rfl,e0,e1,e3⟩;obtain⟨e4,e5,e6⟩:=bs eN;refine C 2 V (Bv e5 V V V ?_);refine C 2 V ?_;obtain rfl:=oi e6;exact AF (em _ _ (bn,e4) ⟨ay,az,a0,a2,V,V,((ag.Ad bi).Ad e0),e1,e3⟩ be) V
     .intro b6;refine Ct eC (λe7 e8=>?_) (λe7 ff=>?_)
      .obtain⟨hp,fk,fl⟩:=bs e8;refine C 3 V (JS.app (pp:=rI) (v:=iV K.2) (a:=U) (c:=Y) 0 fk V V V V (λ_=>V) V (λ_=>V) V V V underlying22 underlying22 underlying22 AH (DF type3) CR V (by decide) (by decide) (by decide) (by decide) (bb.M bi) V b5 V λhq fm fo fs fv fw=>?_);refine C 2 V ?_;obtain rfl:=oi fl;exact AF (b6 _ _ ⟨ap,fm,fo,fs,V,V,AN,fw,fv⟩) V
      .refine JL.skip ?_;obtain rfl:=oi ff;exact AF (b6 _ _ ⟨ap,U,Y,ac,V,V,AN,b5,(bb.M bi)⟩) V
    .intro ca;refine IY 28 ey (λfN gc=>?_) (λfN ge=>?_)
     .refine Cb 0 (a4.M (((am.Ad O).Ad aq).Ad ag)) underlying28 FC FK ?_;obtain⟨hr,gg,gh⟩:=bs gc;refine C 1 V (JS.ix (bw.M ((((al.Ad am).Ad O).Ad aq).Ad ag)) gg underlying25 GV ?_);rintro hs ht _ ⟨hu,hv,rfl,gt⟩ gE;refine Dh 0 gE Kl V V V ?_;obtain⟨hw,gO,g0⟩:=bs gh;refine CC (Ir gt gO) V V H3 a9 λg1 g3 g4=>?_;obtain⟨g5,g6,g7⟩:=bs g0;refine C 1 V (An (v:=iV g5) V (λρ h=>HC (h _ _ V) g6) ?_);refine C 2 V ?_;obtain rfl:=oi g7;exact AF (ca _ _ ⟨g1,V,V,g3,g4⟩) V
     .refine C 10 V ?_;obtain rfl:=oi ge;exact AF (ca _ _ ⟨Z,V,V,AN,a9⟩) V
   .refine JL.exit V ?_;obtain rfl:=oi er;obtain rfl:=el _ be;exact AF (ek _ _ ⟨Z,U,Y,ac,V,V,ag,a9,bb⟩) V
def Vp(fu_:Nat)(p0:List Int)(p1:Int)(K:Int):Option (Br Int ((Int)⊕(Unit))):= if K<(p0.length:Int) then((ix p0 K).bind λO=> if p1=O then(some (.done (Sum.inl K))) else((Av (K+1)).bind λU=> some (.more U))) else(some (.done (Sum.inr ())))
def f128(fu_:Nat)(p0:List Int)(p1:Int):Option Int:= Option.bind (iter (Vp fu_ p0 p1) fu_ 0) λK=> Sum.elim (λr=>some r) (λO=> some (-1)) K
theorem gT{a1:Aq}{c2:Nat}{p0:List Int}{p1:Int}(aw:Ao rI E a1 c2 p0){fu_:Nat}{r:Int}(Z:f128 fu_ p0 p1=some r):AT J 65 [sV a1 p0 c2,iV p1] E [] (λw E' B'=>w=iV r/\B'= []):=by
 refine Bp func65 λQ b2 cs H ay ac=>?_;unfold f128 at Z;refine C 8 V (JL.ln underlying22 V V V ?_);obtain⟨ag,az,al⟩:=bs Z;refine C 2 V (Bx (λL s=>∃(am:Unit) (ap:LH),ag=Sum.inr am/\Jm E H ap [] [] L s) ?_ ?_)
 .rintro _ _ ⟨am,ap,rfl,rfl,rfl,a0,a2⟩;have a3:=elim_inr al;refine C 4 V ?_;obtain rfl:=oi a3;exact A2 func65 V V (ac a0 V ⟨V,V⟩ a2)
 .intro a4;refine JL.block (Em az (λU=> []) (λU=> [(0,sV a1 p0 c2),(1,iV p1),(7,iV (p0.length:Int)),(8,iV U)]) AN ay ?_);rintro U a5 K Y aq ⟨b3,O⟩ a6;have av:=O;unfold Vp at av;refine C 5 V (A1 av (λa7 a8=>?_) (λa7 a9=>?_))
  .obtain⟨b4,bb,be⟩:=bs a8;refine C 13 V (JS.ix (aw.M K) bb underlying22 AH ?_);rintro b5 b6 _ rfl bi;refine Dh 0 bi Ba V V V (C 2 V ?_);refine A1 be (λbn bo=>?_) (λbn bv=>?_)
   .refine C 5 V ?_;obtain rfl:=oi bo;obtain rfl:=aq _ O;have bw:=elim_inl al;obtain rfl:=oi bw;exact A2 func65 V V (ac K V ⟨V,V⟩ Y)
   .obtain⟨bx,bz,b0⟩:=bs bv;refine C 3 V (Bv bz V V V ?_);refine C 2 V ?_;obtain rfl:=oi b0;exact a6 bx K Y V O
  .refine JL.exit V ?_;obtain rfl:=oi a9;have b1:ag=(Sum.inr ()):=(aq _ O).symm;exact AF (a4 _ _ ⟨(),a5,b1,V,V,K,Y⟩) V
def f82(fu_:Nat)(p0:List Int)(p1:Int):Option Bool:= (f128 fu_ p0 p1).bind λK=> some (decide (0<=K))
theorem iD{a1:Aq}{c2:Nat}{p0:List Int}{p1:Int}(O:Ao rI E a1 c2 p0){fu_:Nat}{r:Bool}(K:f82 fu_ p0 p1=some r):AT J 44 [sV a1 p0 c2,iV p1] E [] (λw E' B'=>w= .bool r/\B'= []):=by
 refine Bp func44 λQ am cs H U Y=>?_;unfold f82 at K;obtain⟨ap,Z,ac⟩:=bs K;refine C 8 V (CC (gT O Z) V V (A5 func65 V) U λaq ag al=>?_);refine C 3 V ?_;obtain rfl:=oi ac;exact A2 func44 V V (Y ag V ⟨V,V⟩ al)
def VN(fu_:Nat)(O:Bh×Int)(K:(List ((Int×Int)×Bool))×Int):Option (Br ((List ((Int×Int)×Bool))×Int) ((List ((Int×Int)×Bool)))):= if K.2<(O.1.2.length:Int) then((ix O.1.2 K.2).bind λU=> (Av (K.2+1)).bind λY=> some (.more ((Cg K.1 (U.1,U.2.1) true),Y))) else(some (.done K.1))
def VB(fu_:Nat)(U:Bh×Int)(Y:(List ((Int×Int)×Bool)))(O:List Int)(K:BC×Int):Option (Br (BC×Int) (BC)):= if K.2<(U.1.1.length:Int) then(Option.bind ((f82 fu_ O K.2).bind λZ=> Option.bind (if Z=true then(some true) else(if 0<(O.length:Int) then((Av ((O.length:Int) - 1)).bind λac=> (ix O ac).bind λag=> some (!((Bd Y (ag,K.2)).getD false))) else(some false))) λal=> if al=true then(some K.1) else((EK O ([K.2]:List Int)).bind λam=> (room K.1 am).bind λap=> some ap)) λaq=> (Av (K.2+1)).bind λav=> some (.more (aq,av))) else(some (.done K.1))
def V9(fu_:Nat)(Z:Bh×Int)(U:(List ((Int×Int)×Bool)))(Y:BC)(O:BC×Int):Option (Br (BC×Int) (((List Int)×Int)⊕(BC))):= if O.2<(Y.length:Int) then((ix Y O.2).bind λK=> Option.bind (if 1<(K.length:Int) then((Av ((K.length:Int) - 1)).bind λac=> (ix K ac).bind λag=> (ix K (0)).bind λal=> some ((Bd U (ag,al)).getD false)) else(some false)) λam=> if am=true then(some (.done (Sum.inl (K,0)))) else(Option.bind (iter (VB fu_ Z U K) fu_ (O.1,0)) λap=> (Av (O.2+1)).bind λaq=> some (.more (ap,aq)))) else(some (.done (Sum.inr O.1)))
def VL(fu_:Nat)(U:Bh×Int)(Y:(List ((Int×Int)×Bool)))(K:BC):Option (Br (BC) (((List Int)×Int)⊕(Unit))):= if 0<(K.length:Int) then(Option.bind (iter (V9 fu_ U Y K) fu_ ([],0)) λZ=> Sum.elim (λr=>some (.done (Sum.inl r))) (λO=> if(O.length:Int)=0 then(some (.done (Sum.inr ()))) else(some (.more O))) Z) else(some (.done (Sum.inr ())))
def f33(fu_:Nat)(p0:Bh):Option ((List Int)×Int):= (f70 fu_ p0 ([])).bind λK=> if K.2≠0 then(some ([],K.2)) else(Option.bind (iter (VN fu_ K) fu_ (([]:List ((Int×Int)×Bool)),0)) λO=> Option.bind (iter (VL fu_ K O) fu_ ([[]]:BC)) λU=> Sum.elim (λr=>some r) (λY=> some ([],11)) U)
theorem iz{a1:Aq}{c2:Nat}{ex:Aq}{ey:Nat}{p0:Bh}(g5:Ao (rL rI) E a1 c2 p0.1)(g6:Ao Az E ex ey p0.2){fu_:Nat}{r:(List Int)×Int}(eA:f33 fu_ p0=some r):AT J 23 [.agg #[sV a1 p0.1 c2,sV ex p0.2 ey]] E [] (λw E' B'=>∃(eC:Aq) (eN:Nat),w= .tuple #[sV eC r.1 eN,iV r.2]/\B'= []/\Ao rI E' eC eN r.1):=by
 refine Bp func23 λQ k7 cs H g7 ea=>?_;unfold f33 at eA;refine C 2 V (DG g7 λk8 k9 bx g8 ha=>?_);refine C 6 V (Cf g8 Fq De V V ?_);obtain⟨bz,hb,hc⟩:=bs eA;refine B7 (Lx (g5.M bx) (g6.M bx) Ao.nil hb) V V K4 ha ?_;rintro _ la _ eb ⟨lb,ld,hd,he,rfl,rfl,lf,hf⟩ hg;refine C 3 V (B2 hg H5 λag hj=>?_);refine JS.sx 3 hj DY λhk=>?_;refine Df 3 hk V λec b6 e0 e1=>C 8 V (A1 hc (λhl hm=>?_) (λhl hn=>?_))
 .refine C 6 V ?_;obtain rfl:=oi hm;exact A2 func23 V V (ea ((bx.Ad eb).Ad b6) V ⟨none,0,V,V,Ao.nil⟩ e1)
 .refine C 3 V (JS.makeMap V V V e1 λK ho=>?_);refine C 5 V (JL.fd underlying52 De V V V ?_);refine Cb 1 e0 underlying28 GU IE ?_;refine JL.ln underlying26 V V V ?_;obtain⟨a9,hp,hq⟩:=bs hn;refine C 2 V (Bx (λL s=>∃(bb:LH) (ac:Obj),Jn ec H bb [[(K,ac)]] [(4,Al ag 0),(6,.map (some K))] L s (BO ED true rB false bb ac a9)) ?_ ?_)
  .rintro _ _ ⟨bb,ac,rfl,rfl,ed,hr,e3⟩;refine C 2 V (Gh (pp:=(rL rI)) [nS] [[]] V V V underlying25 GV ML (by decide) V V V ⟨⟨_,_,V,Ao.nil⟩,trivial⟩ hr λhs ht hu hv=>?_);refine C 3 V (JL.label ?_);obtain⟨ee,hw,e4⟩:=bs hq;refine JL.seq (Bx (λL s=>∃(e5:Unit) (e6:LH),ee=Sum.inr e5/\Jm bb H e6 [] [] L s) ?_ ?_)
   .rintro _ _ ⟨e5,e6,rfl,rfl,rfl,hx,hy⟩;have hz:=elim_inr e4;refine C 5 V ?_;obtain rfl:=oi hz;exact A2 func23 V V (ea ((((bx.Ad eb).Ad b6).Ad ed).Ad hx) V ⟨none,0,V,V,Ao.nil⟩ hy)
   .intro e7;refine JL.block (Cn hw (λL s O=>∃(a0:LH) (al:Aq) (am:Nat) (ap:Seg),Jn bb H a0 [[(K,ac)],ap] [(4,Al ag 0),(6,.map (some K)),(9,sV al O am)] L s (OL 22 (rL rI) a0 al am ap O)) ⟨bb,(A8 hs),1,ht,V,V,AN,hv,hu⟩ ?_);rintro _ _ O ⟨a0,al,am,ap,rfl,rfl,a2,e8,hA⟩ ef ⟨lg,b0⟩ hB;have ff:=b0;unfold VL at ff;refine C 4 V (JL.ln underlying25 V V V ?_);refine C 2 V (A1 ff (λhC hD=>?_) (λhC hE=>?_))
    .refine C 10 V (JL.ln underlying25 V V V ?_);obtain⟨fk,hF,fl⟩:=bs hD;refine C 2 V (Bx (λL s=>∃(b1:BC) (b2:LH) (ca:Aq) (cc:Nat) (ce:Seg),fk=Sum.inr b1/\Jn a0 H b2 [[(K,ac)],ce] [(4,Al ag 0),(6,.map (some K)),(10,sV ca b1 cc)] L s (OL 22 (rL rI) b2 ca cc ce b1)) ?_ ?_)
     .rintro _ _ ⟨b1,b2,ca,cc,ce,rfl,rfl,rfl,fm,fo,hG⟩;have hH:=elim_inr fl;refine C 8 V (JL.ln underlying25 V V V ?_);refine C 2 V (A1 hH (λhI hK=>?_) (λhI hL=>?_))
      .refine JL.exit V (JS.drop 0 fo V λhM=>?_);refine JS.drop 1 hM V λhN=>?_;obtain rfl:=oi hK;have hO:ee=(Sum.inr ()):=(ef _ b0).symm;exact AF (e7 _ _ ⟨(),b2,hO,V,V,(a2.Ad fm),hN⟩) V
      .refine C 2 V ?_;obtain rfl:=oi hL;exact AF (hB _ _ b1 ⟨b2,ca,cc,ce,V,V,(a2.Ad fm),fo,hG⟩ b0) V
     .intro hP;refine JL.block (Cn hF (λL s Y=>∃(av:LH) (be:Aq) (bi:Nat) (bn:Seg),Jn a0 H av [[(K,ac)],ap,bn] [(4,Al ag 0),(6,.map (some K)),(10,sV be Y.1 bi),(43,sV al O am),(44,iV (O.length:Int)),(45,iV Y.2)] L s (OL 22 (rL rI) av be bi bn Y.1)) ⟨a0,none,0,[],V,V,AN,e8,OL.nil⟩ ?_);rintro _ _ Y ⟨av,be,bi,bn,rfl,rfl,a3,b3,fs⟩ fv ⟨lh,ci⟩ hQ;have fw:=ci;unfold V9 at fw;refine C 5 V (A1 fw (λhR hS=>?_) (λhR hT=>?_))
      .obtain⟨aw,hU,hV⟩:=bs hS;refine C 5 V (J2 1 (hA.M a3) hU V V V V V V underlying25 GV ?_);rintro li lj f155 _ hW ⟨a4,bo,rfl,ay⟩ hX ll lm lq lr;refine An (v:= sV a4 aw bo) V (λρ h=>Yl.load Kl (h _ _ V) (B5 (j:=1) b3 hW (hX 0 _ V))) (C 6 V ?_);refine JL.ln underlying22 V V V (C 3 V ?_);refine R3 15 λZ=>A7 Z V [0,1,2] V ?_;obtain⟨hY,fN,h0⟩:=bs hV;refine F1 0 #[true,true,true,true,true,true,true,true,true,true,true,true,true,true,true] (λL s=>L= [(4,Al ag 0),(6,.map (some K)),(10,sV be Y.1 bi),(12,sV a4 aw bo),(43,sV al O am),(44,iV (O.length:Int)),(45,iV Y.2),(65,.bool hY)]/\s=Ak av H [[(K,ac)],ap,bn]) ?_ ?_
       .rintro _ _ ⟨rfl,rfl⟩;refine AZ.fin (by decide+kernel) (Ct h0 (λh1 h2=>?_) (λh1 h3=>?_))
        .refine C 6 V (JS.drop 0 b3 V λh4=>?_);refine JS.drop 1 h4 V λh5=>JS.drop 2 h5 V λh6=>?_;obtain rfl:=oi h2;obtain rfl:=fv _ ci;have h7:=elim_inl fl;obtain rfl:=oi h7;obtain rfl:=ef _ b0;have h8:=elim_inl e4;obtain rfl:=oi h8;exact A2 func23 V V (ea (((((bx.Ad eb).Ad b6).Ad ed).Ad a2).Ad a3) V ⟨a4,bo,V,V,ay⟩ h6)
        .refine C 3 V (JL.fd underlying52 De V V V ?_);refine Cb 0 (e0.M ((ed.Ad a2).Ad a3)) underlying28 FC FK ?_;refine JL.ln underlying25 V V V ?_;obtain⟨eg,h9,ia⟩:=bs h3;refine C 2 V (Bx (λL s=>∃(co:LH) (cp:Aq) (ct:Nat) (cw:Seg),Jn av H co [[(K,ac)],ap,cw] [(4,Al ag 0),(6,.map (some K)),(10,sV cp eg ct),(43,sV al O am),(44,iV (O.length:Int)),(45,iV Y.2)] L s (OL 22 (rL rI) co cp ct cw eg)) ?_ ?_)
         .rintro _ _ ⟨co,cp,ct,cw,rfl,rfl,ih,ii,io⟩;obtain⟨i0,i1,i3⟩:=bs ia;refine C 2 V (Bv i1 V V V ?_);refine C 2 V ?_;obtain rfl:=oi i3;exact AF (hQ _ _ (eg,i0) ⟨co,cp,ct,cw,V,V,(a3.Ad ih),ii,io⟩ ci) V
         .intro i4;refine JL.block (Cn h9 (λL s U=>∃(b4:LH) (a5:Aq) (a6:Nat) (bv:Seg),Jn av H b4 [[(K,ac)],ap,bv] [(4,Al ag 0),(6,.map (some K)),(10,sV a5 U.1 a6),(12,sV a4 aw bo),(43,sV al O am),(44,iV (O.length:Int)),(45,iV Y.2),(70,iV (bz.1.1.length:Int)),(71,iV U.2)] L s (OL 22 (rL rI) b4 a5 a6 bv U.1)) ⟨av,be,bi,bn,V,V,AN,b3,fs⟩ ?_);rintro _ _ U ⟨b4,a5,a6,bv,rfl,rfl,az,gc,ej⟩ i5 ⟨ls,ek⟩ i6;have ge:=ek;unfold VB at ge;refine C 5 V (A1 ge (λi7 i8=>?_) (λi7 i9=>?_))
          .obtain⟨el,jg,jj⟩:=bs i8;refine C 2 V (Bx (λL s=>∃(cy:LH) (c0:Aq) (c1:Nat) (c3:Seg),Jn b4 H cy [[(K,ac)],ap,c3] [(4,Al ag 0),(6,.map (some K)),(10,sV c0 el c1),(12,sV a4 aw bo),(43,sV al O am),(44,iV (O.length:Int)),(45,iV Y.2),(70,iV (bz.1.1.length:Int)),(71,iV U.2)] L s (OL 22 (rL rI) cy c0 c1 c3 el)) ?_ ?_)
           .rintro _ _ ⟨cy,c0,c1,c3,rfl,rfl,jp,jt,jy⟩;obtain⟨jO,jP,jQ⟩:=bs jj;refine JL.region (Bv jP V V V ?_);refine C 2 V ?_;obtain rfl:=oi jQ;exact AF (i6 _ _ (el,jO) ⟨cy,c0,c1,c3,V,V,(az.Ad jp),jt,jy⟩ ek) V
           .intro gg;obtain⟨lu,jR,jS⟩:=bs jg;refine C 11 V (CC (iD (ay.M az) jR) V V (A5 func44 V) gc λc4 aq c5=>?_);obtain⟨jT,jU,jV⟩:=bs jS;refine C 1 V (Ib [] (λL s=>∃(em:LH),Jm c4 H em [[(K,ac)],ap,bv] [(4,Al ag 0),(6,.map (some K)),(10,sV a5 U.1 a6),(12,sV a4 aw bo),(14,iV U.2),(43,sV al O am),(44,iV (O.length:Int)),(45,iV Y.2),(70,iV (bz.1.1.length:Int)),(71,iV U.2),(94,.bool jT)] L s) ?_ ?_)
            .rintro _ _ ⟨em,rfl,rfl,a7,gh⟩;refine JL.done (Ct jV (λjW jX=>?_) (λjW jY=>?_))
             .refine JL.exit V ?_;obtain rfl:=oi jX;exact AF (gg _ _ ⟨em,a5,a6,bv,V,V,(aq.Ad a7),gh,(ej.M (aq.Ad a7))⟩) V
             .refine C 5 V (JL.ln underlying22 V V V ?_);refine C 1 V (JL.ln underlying22 V V V ?_);refine An (v:= .slice a4 aw.length aw.length) V (λρ h=>Ts (Ao.spot (ay.M ((az.Ad aq).Ad a7))) (And.left (ay.M ((az.Ad aq).Ad a7))) underlying22 AH (h _ _ V) (h _ _ V) (h _ _ V)) (C 1 V ?_);refine Gh (pp:=rI) [iV U.2] [U.2] V V V underlying22 AH CR (by decide) V V V ⟨V,trivial⟩ gh λlw lx jZ j0=>Cp 3 jZ j0 V λlz eo j1 j2=>?_;obtain⟨j3,j4,j5⟩:=bs jY;refine X5 (pp:=rI) j4 V V V V V V V underlying22 underlying22 AH (DF type3) CR V (by decide) (by decide) (ay.M (((az.Ad aq).Ad a7).Ad eo)) j1 j2 λj6 j7 j8 gt j9 kb=>?_;obtain⟨lA,kc,ke⟩:=bs j5;refine JS.app (pp:=(rL rI)) (v:= sV j7 j3 j8) (a:=a5) (c:=a6) 2 kc V V V V (λ_=>V) V (λ_=>V) V V V underlying25 underlying25 underlying25 GV (DF type22) ML V (by decide) (by decide) (by decide) (by decide) (ej.M (((aq.Ad a7).Ad eo).Ad gt)) ⟨_,_,V,j9⟩ kb V λlB kf kg kh ki kj=>C 3 V ?_;obtain rfl:=oi ke;exact AF (gg _ _ ⟨j6,kf,kg,kh,V,V,(((aq.Ad a7).Ad eo).Ad gt),kj,ki⟩) V
            .intro ep;refine FQ 77 jU (λkl km=>?_) (λkl kn=>?_)
             .refine C 17 V ?_;obtain rfl:=oi km;exact AF (ep _ _ ⟨c4,V,V,AN,c5⟩) V
             .refine C 1 V (JL.ln underlying22 V V V ?_);refine C 2 V (IY 81 kn (λko kp=>?_) (λko kq=>?_))
              .refine C 3 V (JL.ln underlying22 V V V ?_);obtain⟨lC,kr,ks⟩:=bs kp;refine BV kr V V V ?_;obtain⟨c6,kt,ku⟩:=bs ks;refine JS.ix (ay.M (az.Ad aq)) kt underlying22 AH ?_;rintro lD lE _ rfl kv;refine Dh 0 kv Ba V V V (C 1 V ?_);refine An (v:= .agg #[iV c6,iV U.2]) V (λρ h=>C4 [(0,1),(1,1)] h JM underlying89 ⟨V,AX type3,V,AX type3,trivial⟩ V V) (An (v:= .bool (((Bd a9 (c6,U.2)).getD false))) V (λρ h=>Yl.lookup (ok:=false) (xs:=a9) (x0:=(c6,U.2)) (z0:=false) R0 underlying87 MN ⟨_,V,V⟩ (e3.M (((a2.Ad a3).Ad az).Ad aq)) ⟨_,⟨_,_,V,V,V⟩,V⟩ (by rintro _ ⟨_,rfl,rfl⟩;rfl) (h _ _ V) (h _ _ V) (DO (j:=0) (i:=0) c5 V V)) ?_);refine An (v:= .bool ((!((Bd a9 (c6,U.2)).getD false)))) V (λρ h=>Yl.not (h _ _ V)) (C 2 V ?_);obtain rfl:=oi ku;exact AF (ep _ _ ⟨c4,V,V,AN,c5⟩) V
              .refine C 13 V ?_;obtain rfl:=oi kq;exact AF (ep _ _ ⟨c4,V,V,AN,c5⟩) V
          .refine JL.exit V ?_;obtain rfl:=oi i9;obtain rfl:=i5 _ ek;exact AF (i4 _ _ ⟨b4,a5,a6,bv,V,V,az,gc,ej⟩) V
       .intro gE;refine Gy (q:=1<(aw.length:Int)) (i:=53) V (λer=>?_) (λer=>?_)
        .have kx:=ip fN er;refine A7 Z V [3,4,5] V ?_;obtain⟨lF,ky,kz⟩:=bs kx;refine AQ 6 Z V V (λρ h s' a8=>El (h _ _ V) (h _ _ V) ky) ?_;obtain⟨c7,kA,kB⟩:=bs kz;refine Fo 7 ay kA Z underlying22 AH ?_;rintro lG lH _ rfl kC;refine AQ (v:=iV c7) 8 Z V V (λρ h s' a8=>Yl.load Ba (h _ _ V) (Ns a8 (At.J6 (j:=0) kC V))) ?_;refine Dj 9 Z V V ?_;obtain⟨c8,kD,kF⟩:=bs kB;refine Fo 10 ay kD Z underlying22 AH ?_;rintro lI lJ _ rfl kG;refine AQ (v:=iV c8) 11 Z V V (λρ h s' a8=>Yl.load Ba (h _ _ V) (Ns a8 (At.J6 (j:=0) kG V))) ?_;refine AQ (v:= .agg #[iV c7,iV c8]) 12 Z V V (λρ h s' a8=>C4 [(0,1),(1,1)] h JM underlying89 ⟨V,AX type3,V,AX type3,trivial⟩ V V) ?_;refine AQ (v:= .bool (((Bd a9 (c7,c8)).getD false))) 13 Z V V (λρ h s' a8=>Yl.lookup (ok:=false) (xs:=a9) (x0:=(c7,c8)) (z0:=false) R0 underlying87 MN ⟨_,V,V⟩ (e3.M (a2.Ad a3)) ⟨_,⟨_,_,V,V,V⟩,V⟩ (by rintro _ ⟨_,rfl,rfl⟩;rfl) (h _ _ V) (h _ _ V) (Sp a8 (DO (j:=0) (i:=0) b3 V V))) ?_;refine Dj 14 Z V V ?_;obtain rfl:=oi kF;refine DD ?_ (gE _ _ ⟨V,V⟩);exact⟨V,V,V,V,V,V,V,V,trivial⟩
        .have kI:=im fN er;refine A7 Z V [3,4,5,6,7,8,9,10,11,12,13,14] V ?_;obtain rfl:=oi kI;refine DD ?_ (gE _ _ ⟨V,V⟩);exact⟨V,V,V,V,V,V,V,V,trivial⟩
      .refine JL.exit V (JS.drop 1 b3 V λkJ=>?_);obtain rfl:=oi hT;have kK:fk=(Sum.inr Y.1):=(fv _ ci).symm;exact AF (hP _ _ ⟨Y.1,av,be,bi,bn,kK,V,V,a3,kJ,fs⟩) V
    .refine JL.exit V (JS.drop 0 e8 V λkL=>?_);refine JS.drop 1 kL V λkM=>?_;obtain rfl:=oi hE;have kN:ee=(Sum.inr ()):=(ef _ b0).symm;exact AF (e7 _ _ ⟨(),a0,kN,V,V,a2,kM⟩) V
  .intro kO;refine JL.block (Cn hp (λL s b5=>∃(c9:LH) (dd:Obj),Jn ec H c9 [[(K,dd)]] [(4,Al ag 0),(6,.map (some K)),(26,sV hd bz.1.2 he),(27,iV (bz.1.2.length:Int)),(28,iV b5.2)] L s (BO ED true rB false c9 dd b5.1)) ⟨ec,(.map #[] 0),V,V,AN,ho,BO.nil⟩ ?_);rintro _ _ b5 ⟨c9,dd,rfl,rfl,eu,gO,g0⟩ kP ⟨lK,ew⟩ kQ;have g1:=ew;unfold VN at g1;refine C 5 V (A1 g1 (λkR kS=>?_) (λkR kT=>?_))
   .obtain⟨bw,kU,kV⟩:=bs kS;refine C 5 V (JS.ix (hf.M (b6.Ad eu)) kU underlying26 Bt ?_);rintro lL lM _ ⟨_,_,rfl,rfl,⟨_,_,rfl,rfl,rfl⟩⟩ kW;refine Cf kW DX Bt V V (B2 gO BR λlN kX=>?_);refine JS.sx 1 kX Bt λkY=>?_;refine Df 1 kY V λkZ g3 g4 k0=>C 3 V (Cb 0 g4 underlying49 AH Ba ?_);refine Cb 1 g4 underlying49 AH Ba ?_;refine An (v:= .agg #[iV bw.1,iV bw.2.1]) V (λρ h=>C4 [(0,1),(1,1)] h JM underlying89 ⟨V,AX type3,V,AX type3,trivial⟩ V V) (JS.mapUpdate (xs:=b5.1) (x0:=(bw.1,bw.2.1)) (v0:=true) 0 R0 underlying87 (g0.M g3) ⟨_,⟨_,_,V,V,V⟩,V⟩ ⟨_,V,V⟩ k0 V V V V V V V λk1 k2 k3=>?_);obtain⟨k4,k5,k6⟩:=bs kV;refine C 3 V (Bv k5 V V V ?_);refine C 2 V ?_;obtain rfl:=oi k6;exact AF (kQ _ _ ((Cg b5.1 (bw.1,bw.2.1) true),k4) ⟨kZ,k1,V,V,(eu.Ad g3),k3,k2⟩ ew) V
   .refine JL.exit V ?_;obtain rfl:=oi kT;obtain rfl:=kP _ ew;exact AF (kO _ _ ⟨c9,dd,V,V,eu,gO,g0⟩) V
variable {J:Judge Tryz.prog}
def V2:List Nat:= [0,1,2,2,3,3,3,3,4,4,4,4,4,4,4,4,5,5,5,5,5,5,5,5,5,5,5,5,5,5,5,5,6,6,6,6,6,6,6,6,6,6,6,6,6,6,6,6,6,6,6,6,6,6,6,6,6,6,6,6,6,6,6,6,7,7,7,7,7,7,7,7,7,7,7,7,7,7,7,7,7,7,7,7,7,7,7,7,7,7,7,7,7,7,7,7,7,7,7,7,7,7,7,7,7,7,7,7,7,7,7,7,7,7,7,7,7,7,7,7,7,7,7,7,7,7,7,7,8,8,8,8,8,8,8,8,8,8,8,8,8,8,8,8,8,8,8,8,8,8,8,8,8,8,8,8,8,8,8,8,8,8,8,8,8,8,8,8,8,8,8,8,8,8,8,8,8,8,8,8,8,8,8,8,8,8,8,8,8,8,8,8,8,8,8,8,8,8,8,8,8,8,8,8,8,8,8,8,8,8,8,8,8,8,8,8,8,8,8,8,8,8,8,8,8,8,8,8,8,8,8,8,8,8,8,8,8,8,8,8,8,8,8,8,8,8,8,8,8,8,8,8,8,8,8,8]
def f146(fu_:Nat)(p0:Nat):Option Int:= Option.bind (if(((4294967296):Nat):Int)<=(((p0):Nat):Int) then(some (p0>>>32,32)) else(some (p0,0))) λx1=> Option.bind (if(((65536):Nat):Int)<=(((x1.1):Nat):Int) then((Av (x1.2+16)).bind λU=> some (x1.1>>>16,U)) else(some x1)) λK=> Option.bind (if(((256):Nat):Int)<=(((K.1):Nat):Int) then((Av (K.2+8)).bind λY=> some (K.1>>>8,Y)) else(some K)) λO=> (So V2 (((((O.1) % 256):Nat):Int))).bind λZ=> (Av (((Z):Nat):Int)).bind λac=> (Av (O.2+ac)).bind λag=> some ag
theorem fU{p0:Nat}{fu_:Nat}{r:Int}(U:f146 fu_ p0=some r):AT J 106 [.int .u64 ((p0:Nat):Int)] E [] (λw E' B'=>w=iV r/\B'= []):=by
 refine Bp func106 λQ ca cs H Y ap=>?_;unfold f146 at U;obtain⟨x1,aq,av⟩:=bs U;refine C 10 V (ES [] [(0,.int .u64 ((x1.1:Nat):Int)),(2,iV x1.2)] (λcc aw Z=>?_) (λac=>?_))
 .obtain⟨K,ay,az⟩:=bs av;refine C 6 V (ES [] [(0,.int .u64 ((K.1:Nat):Int)),(2,iV K.2)] (λce a0 ag=>?_) (λal=>?_))
  .obtain⟨O,a1,a2⟩:=bs az;refine C 6 V (ES [] [(0,.int .u64 ((O.1:Nat):Int)),(2,iV O.2)] (λci a3 a4=>?_) (λam=>?_))
   .refine C 4 V (An (v:= .int .u8 (((O.1) % 256:Nat):Int)) V (λρ h=>bJ underlying41 underlying5 (h _ _ V)) ?_);obtain⟨a5,a6,a7⟩:=bs a2;refine An (v:= .int .u8 ((a5:Nat):Int)) V (λρ h=>Ys (l:=V2) (by decide+kernel) underlying9 (h _ _ V) (h _ _ V) a6) ?_;obtain⟨a8,a9,bb⟩:=bs a7;refine An (v:=iV a8) V (λρ h=>cO underlying5 underlying3 (h _ _ V) a9) ?_;obtain⟨co,be,bi⟩:=bs bb;refine Bv be V V V (C 2 V ?_);obtain rfl:=oi bi;exact A2 func106 V V (ap ((aw.Ad a0).Ad a3) V ⟨V,V⟩ a4)
   .refine A1 a1 (λbn bo=>?_) (λbn bv=>?_)
    .refine C 3 V (An (v:= .int .u64 ((K.1>>>8:Nat):Int)) V (λρ h=>Li 8 (h _ _ V) (h _ _ V) (by decide)) ?_);obtain⟨cp,bw,bx⟩:=bs bo;refine C 4 V (Bv bw V V V ?_);refine C 2 V ?_;obtain rfl:=oi bx;exact am AN ag V
    .refine JL.skip ?_;obtain rfl:=oi bv;exact am AN ag V
  .refine A1 ay (λbz b0=>?_) (λbz b1=>?_)
   .refine C 3 V (An (v:= .int .u64 ((x1.1>>>16:Nat):Int)) V (λρ h=>Li 16 (h _ _ V) (h _ _ V) (by decide)) ?_);obtain⟨ct,b2,b3⟩:=bs b0;refine C 4 V (Bv b2 V V V ?_);refine C 2 V ?_;obtain rfl:=oi b3;exact al AN Z V
   .refine JL.skip ?_;obtain rfl:=oi b1;exact al AN Z V
 .refine A1 aq (λb4 b5=>?_) (λb4 b6=>?_)
  .refine C 3 V (An (v:= .int .u64 ((p0>>>32:Nat):Int)) V (λρ h=>Li 32 (h _ _ V) (h _ _ V) (by decide)) ?_);refine C 5 V ?_;obtain rfl:=oi b5;exact ac AN Y V
  .refine JL.skip ?_;obtain rfl:=oi b6;exact ac AN Y V
def f115(fu_:Nat)(p0:Nat):Option Int:= (f146 fu_ p0).bind λx1=> some x1
theorem Np{p0:Nat}{fu_:Nat}{r:Int}(K:f115 fu_ p0=some r):AT J 62 [.int .u64 ((p0:Nat):Int)] E [] (λw E' B'=>w=iV r/\B'= []):=by
 refine Bp func62 λQ al cs H O U=>?_;unfold f115 at K;obtain⟨x1,Y,Z⟩:=bs K;refine C 10 V (CC (fU Y) V V (A5 func106 V) O λam ac ag=>?_);refine C 2 V ?_;obtain rfl:=oi Z;exact A2 func62 V V (U ac V ⟨V,V⟩ ag)
def ON(fu_:Nat)(p1:Int)(K:Int×AG):Option (Br (Int×AG) (AG)):= Option.bind (if p1<K.1 then((ix K.2 K.1).bind λY=> (Av (K.1 - 1)).bind λZ=> (ix K.2 Z).bind λac=> (f113 fu_ Y ac).bind λag=> some (decide (ag<0))) else(some false)) λal=> if al=true then((Av (K.1 - 1)).bind λO=> (Av (K.1 - 1)).bind λam=> (ix K.2 am).bind λU=> (ix K.2 K.1).bind λap=> (ix (K.2.set (Int.toNat K.1) U) O).bind λav=> (Av (K.1 - 1)).bind λaq=> some (.more (aq,((K.2.set (Int.toNat K.1) U).set (Int.toNat O) ap)))) else(some (.done K.2))
def OH(fu_:Nat)(p1:Int)(p2:Int)(K:Int×AG):Option (Br (Int×AG) (AG)):= if K.1<p2 then(Option.bind (iter (ON fu_ p1) fu_ K) λO=> (Av (K.1+1)).bind λU=> some (.more (U,O))) else(some (.done K.2))
def f193(fu_:Nat)(p0:AG)(p1:Int)(p2:Int):Option (AG):= (Av (p1+1)).bind λx1=> Option.bind (iter (OH fu_ p1 p2) fu_ (x1,p0)) λK=> some K
theorem gI{K:Nat}{U:Nat}{nw:Nat}{a4:Av_}{p0:AG}{p1:Int}{p2:Int}(hW:WL 49 Az E K U nw a4 p0){fu_:Nat}{r:AG}(bb:f193 fu_ p0 p1 p2=some r):AT J 144 [.slice (A8 K) nw U,iV p1,iV p2,(fV 64)] E [(K,.cells a4 49 (0,0))] (λw E' B'=>∃(be:Av_),w= .tuple #[]/\B'= [(K,.cells be 49 (0,0))]/\WL 49 Az E' K U nw be r):=by
 refine Bp func144 λQ gg cs H cc ce=>?_;unfold f193 at bb;obtain⟨x1,ci,co⟩:=bs bb;refine C 3 V (Bv ci V V V ?_);obtain⟨cp,ct,cw⟩:=bs co;refine C 2 V (Bx (λL s=>∃(a5:LH) (f17:Av_),Jn E H a5 [bX K f17 49] [] L s (WL 49 Az a5 K U nw f17 cp)) ?_ ?_)
 .rintro _ _ ⟨a5,f17,rfl,rfl,cy,c0,c1⟩;obtain rfl:=oi cw;exact JL.fin (v:= .tuple #[]) V V (BK.list func144 V (vs:= []) trivial) (ce cy V ⟨f17,V,(by first | rfl | simp | (simp [Value.cells])),c1⟩ c0)
 .intro c2;refine JL.block (Cn ct (λL s am=>∃(al:LH) (f25:Av_),Jn E H al [bX K f25 49] [(0,.slice (A8 K) nw U),(1,iV p1),(2,iV p2),(3,(fV 64)),(8,iV am.1)] L s (WL 49 Az al K U nw f25 am.2)) ⟨E,a4,V,V,AN,cc,hW⟩ ?_);rintro _ _ am ⟨al,f25,rfl,rfl,bi,bn,bo⟩ c3 ⟨gh,a6⟩ c4;have bv:=a6;unfold OH at bv;refine C 7 V (A1 bv (λc5 c6=>?_) (λc5 c7=>?_))
  .obtain⟨bw,c8,c9⟩:=bs c6;refine C 8 V (Bx (λL s=>∃(a0:LH) (f48:Av_),Jn al H a0 [bX K f48 49] [(0,.slice (A8 K) nw U),(1,iV p1),(2,iV p2),(3,(fV 64)),(8,iV am.1)] L s (WL 49 Az a0 K U nw f48 bw)) ?_ ?_)
   .rintro _ _ ⟨a0,f48,rfl,rfl,dd,ea,eb⟩;obtain⟨ec,ed,ee⟩:=bs c9;refine C 3 V (Bv ed V V V ?_);refine C 2 V ?_;obtain rfl:=oi ee;exact AF (c4 _ _ (ec,bw) ⟨a0,f48,V,V,(bi.Ad dd),ea,eb⟩ a6) V
   .intro ef;refine JL.block (Cn c8 (λL s ag=>∃(aw:LH) (f58:Av_),Jn al H aw [bX K f58 49] [(0,.slice (A8 K) nw U),(1,iV p1),(2,iV p2),(3,(fV 64)),(8,iV am.1),(9,iV ag.1)] L s (WL 49 Az aw K U nw f58 ag.2)) ⟨al,f25,V,V,AN,bn,bo⟩ ?_);rintro _ _ ag ⟨aw,f58,rfl,rfl,bx,ay,O⟩ eg ⟨gt,a7⟩ ej;have bz:=a7;unfold ON at bz;refine C 2 V (Et 17 [K] ⟨⟨0,_,V⟩,trivial⟩ ay λac=>?_);refine A7 ac V [0,1,2,3] V ?_;obtain⟨ek,b0,el⟩:=bs bz;refine F1 0 #[true,true,true,true,true,true,true,true,true,true,true,true,true,true,true,true,true] (λL s=>∃(a1:LH),Jm aw H a1 [bX K f58 49] [(0,.slice (A8 K) nw U),(1,iV p1),(2,iV p2),(3,(fV 64)),(8,iV am.1),(9,iV ag.1),(34,.bool ek)] L s) ?_ ?_
    .rintro _ _ ⟨a1,rfl,rfl,ap,a2⟩;refine AZ.fin (by decide+kernel) (Ct el (λem eo=>?_) (λem ep=>?_))
     .refine C 3 V (FO [15,17] [K] [] mixed V ?_);refine AO 0 V V (AO 1 V V ?_);refine AO 2 V V (AO 3 V V ?_);obtain⟨b1,er,eu⟩:=bs eo;refine C6 4 true V V (λρ h s' b2=>El (h _ _ V) (h _ _ V) er) (AO 5 V V ?_);refine AO 6 V V ?_;obtain⟨gE,ew,ex⟩:=bs eu;refine C6 7 true V V (λρ h s' b2=>El (h _ _ V) (h _ _ V) ew) ?_;obtain⟨Y,b3,ey⟩:=bs ex;obtain⟨_,⟨_,_,rfl,rfl,⟨_,_,rfl,rfl,rfl⟩⟩,eA⟩:=WL.at (O.M ap) b3;refine JB.ix 8 O.2 b3 underlying26 Bt ?_;refine WI 9 [iV Y.1,iV Y.2.1,iV Y.2.2] 0 a2 eA DX Bt ?_;refine AO 10 V V (AO 11 V V ?_);obtain⟨Z,a3,eC⟩:=bs ey;obtain⟨_,⟨_,_,rfl,rfl,⟨_,_,rfl,rfl,rfl⟩⟩,eN⟩:=WL.at (O.M ap) a3;refine JB.ix 12 O.2 a3 underlying26 Bt ?_;refine WI 13 [iV Z.1,iV Z.2.1,iV Z.2.2] 0 a2 eN DX Bt ?_;refine JB.ix 14 O.2 a3 underlying26 Bt ?_;have az:=WL.put (x':=Y) (ws':= [iV Y.1,iV Y.2.1,iV Y.2.2]) (O.M ap) O.2 a3 ⟨_,_,V,V,⟨_,_,V,V,V⟩⟩;refine JB.sx 15 0 a2 Bt trivial az.2 λe0=>?_;obtain⟨gO,a8,e1⟩:=bs eC;obtain⟨_,⟨_,_,rfl,rfl,⟨_,_,rfl,rfl,rfl⟩⟩,g0⟩:=WL.at az.1 a8;refine JB.ix 16 (az.1).2 a8 underlying26 Bt ?_;have b4:=WL.put (x':=Z) (ws':= [iV Z.1,iV Z.2.1,iV Z.2.2]) az.1 (az.1).2 a8 ⟨_,_,V,V,⟨_,_,V,V,V⟩⟩;refine JB.sx 17 0 e0 Bt trivial b4.2 λe3=>?_;refine JB.fin (by decide+kernel) ?_;obtain⟨e4,e5,e6⟩:=bs e1;refine C 3 V (BV e5 V V V ?_);refine C 2 V ?_;obtain rfl:=oi e6;exact AF (ej _ _ (e4,((ag.2.set (Int.toNat ag.1) Y).set (Int.toNat b1) Z)) ⟨a1,(A9 (A9 f58 (Int.toNat (ag.1)*3) [iV Y.1,iV Y.2.1,iV Y.2.2]) (Int.toNat (b1)*3) [iV Z.1,iV Z.2.1,iV Z.2.2]),V,V,(bx.Ad ap),e3,b4.1⟩ a7) V
     .refine JL.exit V ?_;obtain rfl:=oi ep;obtain rfl:=eg _ a7;exact AF (ef _ _ ⟨a1,f58,V,V,(bx.Ad ap),a2,(O.M ap)⟩) V
    .intro b5;refine Gy (q:=p1<ag.1) (i:=21) V (λa9=>?_) (λa9=>?_)
     .have e7:=ip b0 a9;refine A7 ac V [4,5,6] V ?_;obtain⟨aq,b6,e8⟩:=bs e7;obtain⟨_,⟨_,_,rfl,rfl,⟨_,_,rfl,rfl,rfl⟩⟩,ff⟩:=WL.at O b6;refine JG.ix 7 ac (O).2 b6 underlying26 Bt ?_;refine WJ 8 ac [iV aq.1,iV aq.2.1,iV aq.2.2] 0 ay ff DX Bt ?_;refine A7 ac V [9,10] V ?_;obtain⟨g1,fk,fl⟩:=bs e8;refine AQ 11 ac V V (λρ h s' b2=>El (h _ _ V) (h _ _ V) fk) ?_;obtain⟨av,ca,fm⟩:=bs fl;obtain⟨_,⟨_,_,rfl,rfl,⟨_,_,rfl,rfl,rfl⟩⟩,fo⟩:=WL.at O ca;refine JG.ix 12 ac (O).2 ca underlying26 Bt ?_;refine WJ 13 ac [iV av.1,iV av.2.1,iV av.2.2] 0 ay fo DX Bt ?_;obtain⟨g3,fs,fv⟩:=bs fm;refine IK (i:=14) ⟨⟨0,_,V⟩,trivial⟩ (vs:= [.agg #[iV aq.1,iV aq.2.1,iV aq.2.2],.agg #[iV av.1,iV av.2.1,iV av.2.2]]) (Vw fs) (by decide+kernel) V V V V (A5 func64 V) V ay ?_;rintro _ fw _ fN ⟨rfl,rfl⟩ gc;refine A7 ac V [15,16] V ?_;obtain rfl:=oi fv;refine DD ?_ (b5 _ _ ⟨fw,V,V,fN,gc⟩);exact⟨V,V,V,V,V,V,V,trivial⟩
     .have ge:=im b0 a9;refine A7 ac V [4,5,6,7,8,9,10,11,12,13,14,15,16] V ?_;obtain rfl:=oi ge;refine DD ?_ (b5 _ _ ⟨aw,V,V,AN,ay⟩);exact⟨V,V,V,V,V,V,V,trivial⟩
  .refine JL.exit V ?_;obtain rfl:=oi c7;obtain rfl:=c3 _ a6;exact AF (c2 _ _ ⟨al,f25,V,V,bi,bn,bo⟩) V
def Ru(fu_:Nat)(p0:AG)(p1:Int)(p2:Int)(p3:Int)(U:Unit):Option (Br Unit ((AG)⊕(Unit))):= (Av (p2 - p1)).bind λK=> if K<=12 then((f193 fu_ p0 p1 p2).bind λO=> some (.done (Sum.inl O))) else(if p3=0 then(none) else(none))
def f169(fu_:Nat)(p0:AG)(p1:Int)(p2:Int)(p3:Int):Option (AG):= Option.bind (iter (Ru fu_ p0 p1 p2 p3) fu_ ()) λK=> Sum.elim (λr=>some r) (λO=> none) K
theorem gV{K:Nat}{O:Nat}{nw:Nat}{U:Av_}{p0:AG}{p1:Int}{p2:Int}{p3:Int}(hW:WL 49 Az E K O nw U p0){fu_:Nat}{r:AG}(Y:f169 fu_ p0 p1 p2 p3=some r):AT J 143 [.slice (A8 K) nw O,iV p1,iV p2,iV p3,(fV 64)] E [(K,.cells U 49 (0,0))] (λw E' B'=>∃(Z:Av_),w= .tuple #[]/\B'= [(K,.cells Z 49 (0,0))]/\WL 49 Az E' K O nw Z r):=by
 refine Bp func143 λQ bv cs H ap aq=>?_;unfold f169 at Y;obtain⟨bw,av,aw⟩:=bs Y;refine C 8 V (Bx (λL s=>False) ?_ ?_)
 .intro _ _ ay;exact ay.elim
 .intro bx;refine JL.block (Em av (λac=> [bX K U 49]) (λac=> [(0,.slice (A8 K) nw O),(1,iV p1),(2,iV p2),(3,iV p3),(4,(fV 64)),(10,.bool true),(11,.bool true)]) AN ap ?_);rintro ac bz ag az a0 ⟨b0,al⟩ b1;have am:=al;unfold Ru at am;obtain⟨b2,a1,a2⟩:=bs am;refine C 5 V (BV a1 V V V ?_);refine C 8 V (A1 a2 (λa3 a4=>?_) (λa3 a5=>?_))
  .obtain⟨b3,a6,a7⟩:=bs a4;refine C 6 V (Cc 0 (gI (hW.M ag) a6) V V (A5 func144 V) az V ?_);rintro _ b4 _ a8 ⟨f32,rfl,rfl,a9⟩ bb;refine JL.done ?_;obtain rfl:=oi a7;obtain rfl:=a0 _ al;have be:=elim_inl aw;obtain rfl:=oi be;exact A2 func143 V V (aq (ag.Ad a8) V ⟨f32,V,(by first | rfl | simp | (simp [Value.cells])),a9⟩ bb)
  .refine C 7 V (A1 a5 (λbi bn=>?_) (λbi bo=>?_))
   .refine C 6 V ?_;cases bn
   .refine C 5 V (An (v:= .bool false) V (λρ h=>Yl.not (c:=true) (h _ _ V)) ?_);refine C 9 V ?_;cases bo
def f130(fu_:Nat)(p0:AG):Option (AG):= (f115 fu_ (Cv (p0.length:Int))).bind λx1=> (f169 fu_ p0 0 (p0.length:Int) x1).bind λK=> some K
theorem eI{K:Nat}{O:Nat}{nw:Nat}{U:Av_}{p0:AG}(hW:WL 49 Az E K O nw U p0){fu_:Nat}{r:AG}(Y:f130 fu_ p0=some r):AT J 142 [.slice (A8 K) nw O,(fV 64)] E [(K,.cells U 49 (0,0))] (λw E' B'=>∃(Z:Av_),w= .tuple #[]/\B'= [(K,.cells Z 49 (0,0))]/\WL 49 Az E' K O nw Z r):=by
 refine Bp func142 λQ a1 cs H ag al=>?_;unfold f130 at Y;refine C 3 V (An (v:=iV (p0.length:Int)) V (λρ h=>UW (hW).2 V underlying79 (h _ _ V)) ?_);refine C 6 V (An (v:= .int .u64 ((Cv (p0.length:Int):Nat):Int)) V (λρ h=>Yl.Cv underlying3 underlying130 (h _ _ V)) ?_);obtain⟨x1,am,ap⟩:=bs Y;refine CC (Np am) V V MJ ag λa2 ac aq=>?_;obtain⟨a3,av,aw⟩:=bs ap;refine C 1 V (Cc 0 (gV (hW.M ac) av) V V (A5 func143 V) aq V ?_);rintro _ a4 _ ay ⟨f12,rfl,rfl,az⟩ a0;refine JL.done ?_;obtain rfl:=oi aw;exact JL.fin (v:= .tuple #[]) V V (BK.list func142 V (vs:= []) trivial) (al (ac.Ad ay) V ⟨f12,V,(by first | rfl | simp | (simp [Value.cells])),az⟩ a0)
def UD(fu_:Nat)(p1:Int)(K:Int)(U:Unit):Option (Br Unit Unit):= Option.bind (if p1<K then(none) else(some false)) λO=> if O=true then((Av (K - 1)).bind λY=> (Av (K - 1)).bind λZ=> none) else(some (.done ()))
def Ue(fu_:Nat)(p1:Int)(p2:Int)(K:Int):Option (Br Int Unit):= if K<p2 then(Option.bind (iter (UD fu_ p1 K) fu_ ()) λU=> (Av (K+1)).bind λO=> some (.more O)) else(some (.done ()))
def R5(fu_:Nat)(p1:Int)(p2:Int):Option Unit:= (Av (p1+1)).bind λx1=> Option.bind (iter (Ue fu_ p1 p2) fu_ x1) λK=> some ()
theorem dI{p1:Int}{p2:Int}{fu_:Nat}{r:Unit}(Z:R5 fu_ p1 p2=some r):AT J 144 [nS,iV p1,iV p2,(fV 64)] E [] (λw E' B'=>w= .tuple #[]/\B'= []):=by
 refine Bp func144 λQ c4 cs H az a0=>?_;unfold R5 at Z;obtain⟨x1,a1,a2⟩:=bs Z;refine C 3 V (Bv a1 V V V ?_);obtain⟨c5,a3,a4⟩:=bs a2;refine C 2 V (ES [] [] (λc6 a5 a6=>?_) (λa7=>?_))
 .obtain rfl:=oi a4;exact JL.fin (v:= .tuple #[]) V V (BK.list func144 V (vs:= []) trivial) (a0 a5 V ⟨V,V⟩ a6)
 .refine JL.block (Em a3 (λK=> []) (λK=> [(0,.slice none 0 0),(1,iV p1),(2,iV p2),(3,(fV 64)),(8,iV K)]) AN az ?_);rintro K c7 ac ag a8 ⟨c8,U⟩ a9;have al:=U;unfold Ue at al;refine C 7 V (A1 al (λbb be=>?_) (λbb bi=>?_))
  .obtain⟨c9,bn,bo⟩:=bs be;refine C 8 V (ES [] [(0,.slice none 0 0),(1,iV p1),(2,iV p2),(3,(fV 64)),(8,iV K)] (λdd bv bw=>?_) (λbx=>?_))
   .obtain⟨bz,b0,b1⟩:=bs bo;refine C 3 V (Bv b0 V V V ?_);refine C 2 V ?_;obtain rfl:=oi b1;exact a9 bz (ac.Ad bv) bw V U
   .refine JL.block (Em bn (λam=> []) (λam=> [(0,.slice none 0 0),(1,iV p1),(2,iV p2),(3,(fV 64)),(8,iV K),(9,iV K)]) AN ag ?_);rintro am ap b2 b3 b4 ⟨ea,aq⟩ eb;have av:=aq;unfold UD at av;refine C 2 V (Fl 17 λO=>?_);refine A7 O V [0,1,2,3] V ?_;obtain⟨b5,aw,b6⟩:=bs av;refine F1 0 #[true,true,true,true,true,true,true,true,true,true,true,true,true,true,true,true,true] (λL s=>∃(ay:LH),Jm ap H ay [] [(0,.slice none 0 0),(1,iV p1),(2,iV p2),(3,(fV 64)),(8,iV K),(9,iV K),(34,.bool b5)] L s) ?_ ?_
    .rintro _ _ ⟨ay,rfl,rfl,ca,cc⟩;refine AZ.fin (by decide+kernel) (Ct b6 (λce ci=>?_) (λce co=>?_))
     .refine C 3 V (Fl 16 λO=>?_);refine A7 O V [0,1,2,3] V ?_;obtain⟨ec,cp,ct⟩:=bs ci;refine AQ 4 O V V (λρ h s' cw=>El (h _ _ V) (h _ _ V) cp) (A7 O V [5,6] V ?_);obtain⟨ed,cy,c0⟩:=bs ct;refine AQ 7 O V V (λρ h s' cw=>El (h _ _ V) (h _ _ V) cy) ?_;cases c0
     .refine JL.exit V ?_;obtain rfl:=oi co;obtain rfl:=b4 _ aq;exact bx (b2.Ad ca) cc V
    .intro c1;refine Gy (q:=p1<K) (i:=21) V (λY=>?_) (λY=>?_)
     .have c2:=ip aw Y;refine A7 O V [4,5,6] V ?_;cases c2
     .have c3:=im aw Y;refine A7 O V [4,5,6,7,8,9,10,11,12,13,14,15,16] V ?_;obtain rfl:=oi c3;refine DD ?_ (c1 _ _ ⟨ap,V,V,AN,b3⟩);exact⟨V,V,V,V,V,V,V,trivial⟩
  .refine JL.exit V ?_;obtain rfl:=oi bi;obtain rfl:=a8 _ U;exact a7 ac ag V
def Uj(fu_:Nat)(p1:Int)(p2:Int)(p3:Int)(O:Unit):Option (Br Unit ((Unit)⊕(Unit))):= (Av (p2 - p1)).bind λK=> if K<=12 then((R5 fu_ p1 p2).bind λU=> some (.done (Sum.inl ()))) else(if p3=0 then(none) else(none))
def R8(fu_:Nat)(p1:Int)(p2:Int)(p3:Int):Option Unit:= Option.bind (iter (Uj fu_ p1 p2 p3) fu_ ()) λK=> Sum.elim (λr=>some r) (λO=> none) K
theorem bL{p1:Int}{p2:Int}{p3:Int}{fu_:Nat}{r:Unit}(K:R8 fu_ p1 p2 p3=some r):AT J 143 [nS,iV p1,iV p2,iV p3,(fV 64)] E [] (λw E' B'=>w= .tuple #[]/\B'= []):=by
 refine Bp func143 λQ bb cs H Z ac=>?_;unfold R8 at K;obtain⟨be,ag,al⟩:=bs K;refine C 8 V (Bx (λL s=>False) ?_ ?_)
 .intro _ _ am;exact am.elim
 .intro bi;refine JL.block (Em ag (λO=> []) (λO=> [(0,.slice none 0 0),(1,iV p1),(2,iV p2),(3,iV p3),(4,(fV 64)),(10,.bool true),(11,.bool true)]) AN Z ?_);rintro O bn ap aq av ⟨bo,U⟩ bv;have Y:=U;unfold Uj at Y;obtain⟨bw,aw,ay⟩:=bs Y;refine C 5 V (BV aw V V V ?_);refine C 8 V (A1 ay (λaz a0=>?_) (λaz a1=>?_))
  .obtain⟨bx,a2,a3⟩:=bs a0;refine C 6 V (CC (dI a2) V V (A5 func144 V) aq λbz a4 a5=>?_);refine JL.done ?_;obtain rfl:=oi a3;obtain rfl:=av _ U;have a6:=elim_inl al;obtain rfl:=oi a6;exact A2 func143 V V (ac (ap.Ad a4) V ⟨V,V⟩ a5)
  .refine C 7 V (A1 a1 (λa7 a8=>?_) (λa7 a9=>?_))
   .refine C 6 V ?_;cases a8
   .refine C 5 V (An (v:= .bool false) V (λρ h=>Yl.not (c:=true) (h _ _ V)) ?_);refine C 9 V ?_;cases a9
def Wx(fu_:Nat):Option Unit:= (f115 fu_ (Cv ((0:Nat):Int))).bind λx1=> (R8 fu_ 0 ((0:Nat):Int) x1).bind λK=> some ()
theorem cY{fu_:Nat}{r:Unit}(K:Wx fu_=some r):AT J 142 [nS,(fV 64)] E [] (λw E' B'=>w= .tuple #[]/\B'= []):=by
 refine Bp func142 λQ av cs H O U=>?_;unfold Wx at K;refine C 3 V (JL.ln underlying79 V V V ?_);refine C 6 V (An (v:= .int .u64 ((Cv ((0:Nat):Int):Nat):Int)) V (λρ h=>Yl.Cv underlying3 underlying130 (h _ _ V)) ?_);obtain⟨x1,Y,Z⟩:=bs K;refine CC (Np Y) V V MJ O λaw ac ag=>?_;obtain⟨ay,al,am⟩:=bs Z;refine C 1 V (CC (bL al) V V (A5 func143 V) ag λaz ap aq=>?_);refine JL.done ?_;obtain rfl:=oi am;exact JL.fin (v:= .tuple #[]) V V (BK.list func142 V (vs:= []) trivial) (U (ac.Ad ap) V ⟨V,V⟩ aq)
theorem bG{J:Judge Tryz.prog}{E:LH}{a:Aq}{c:Nat}{g:Seg}{p0:AG}(Y:OL 49 Az E a c g p0){fu_:Nat}{r:AG}(K:f130 fu_ p0=some r):
  AT J 142 [.slice a p0.length c,.func (.func 64) #[] #[]] E g (λw E' B'=>w= .tuple #[]/\OL 49 Az E' a c B' r/\r.length=p0.length):=by
 rcases Y.cases with⟨rfl,rfl,rfl,rfl⟩ | ⟨bk,f,rfl,rfl,hW⟩
 .have Z:r= []:=by
   cases fu_ with
   | zero=>exact absurd K (by simp [f130,f169,f193,iter])
   | succ fu_=>
    cases fu_ with
    | zero=>exact(Option.some.inj (K.symm.trans (by rfl:f130 1 []=some []))).trans rfl
    | succ fu_=>exact(Option.some.inj (K.symm.trans (by rfl:f130 (fu_+2) []=some []))).trans rfl
  subst Z;refine(cY (fu_:=10) (r:=()) V).M ?_;rintro w E' B' hle ⟨O,rfl⟩;exact⟨O,OL.nil,V⟩
 .refine(eI hW K).M ?_;rintro w E' B' hle ⟨ac,O,rfl,U⟩;exact⟨O,U.1,U.2⟩
def f90(fu_:Nat)(p0:AG):Option (AG):= (f129 fu_ p0).bind λK=> (f130 fu_ K).bind λO=> some O
theorem iP{a1:Aq}{c2:Nat}{p0:AG}(al:Ao Az E a1 c2 p0){fu_:Nat}{r:AG}(Z:f90 fu_ p0=some r):AT J 139 [sV a1 p0 c2] E [] (λw E' B'=>∃(ac:Aq) (ag:Nat),w= sV ac r ag/\B'= []/\Ao Az E' ac ag r):=by
 refine Bp func139 λQ a9 cs H am ap=>?_;unfold f90 at Z;obtain⟨bb,aq,av⟩:=bs Z;refine C 7 V (B7 (fM al aq) V V (A5 func141 V) am ?_);rintro _ be bi aw ⟨K,O,_,rfl,rfl,ay⟩ az;obtain⟨U,a0,a2⟩:=bs av;refine C 5 V (Cc 1 (bG ay a0) V V (A5 func142 V) az V ?_);rintro _ bn bo a3 ⟨rfl,a4,Y⟩ a5;refine EH (L':= [(6,.tuple #[]),(0,.slice K U.length O),(2,.slice none 0 0),(3,.slice a1 p0.length c2),(4,.slice K U.length O),(5,.slice K U.length O)]) ⟨V,by rw [Y];rfl,V,V,by rw [Y];rfl,by rw [Y];rfl,trivial⟩ ?_;refine C 6 V (Cp 1 a4 a5 V λbv a6 a7 a8=>?_);obtain rfl:=oi a2;exact A2 func139 V V (ap ((aw.Ad a3).Ad a6) V ⟨K,O,V,V,a7⟩ a8)
end Pal
namespace Pal
open Go Go.Conc
variable {P:Program}{Q:Gs_}{n:Nat}{ds:Ld_}{ops:Ao_}{k:Li_}{cs:Lf_}{m:Nat}{L:Env}{s:St}{E H:LH}{S:List Seg}
variable {d:Option Tmp}{t ty:TypeId}{p:String}{af:Ae_}{g:On_}{v:Value}
section
variable {J:Judge P}{b:Frame}{fuel:Nat}{listed:Array Bool}
variable {x y:Operand}{e:TypeId}{i:Nat}
theorem Take.y0{oi:Oper}(hi:ops[i]? =some oi)(K:(!Ey oi.op&&Bu n oi.dst)=true)(hw:AY L ops oi=some true)(O:∀ρ,Fa L ρ->Yl P oi ρ s v)
  (h:AZ J Q b n ds ops k cs m DR fuel (Bm listed i) (AB L oi.dst v) s):Take J Q b n ds ops k cs m DR fuel listed L s i:=
 Take.NO hi K hw λρ U=>by
  have:=O ρ U
  unfold Yl at this
  refine Er _ this ?_ (λ_ _ h=>h)
  rintro Y s' ⟨rfl,rfl⟩
  exact h
end
def G7{P:Program}(J:Judge P)(f:FuncId)(args:Lv_)(E:LH)(B:Seg)(p:Bool)(pv:Value)(R:Value->LH->Seg->Prop):Prop:=
 ∀(Q:Gs_) (bc:Frame) (Tc:Av_) (dsc:Ld_) (K:Li_) (cs:Lf_) (H:LH),Nd E H B->
  (p=false->∀v E' B',Le E E'->R v E' B'->Nd E' H B'->J.ok Q (G ((fr bc Tc dsc K).finish v) cs) (mk E' H B'))->
  (p=true->∀E' B',Le E E'->Nd E' H B'->J.ok Q (G (Hr bc Tc dsc K (raised pv)) cs) (mk E' H B'))->
  J.ok Q (G (Frame.enter P f args.toArray .normal) (fr bc Tc dsc K::cs)) (mk E H B)
variable {bc:Frame}{dsc:Ld_}{rest:List Nat}{pp:String}{pv:Value}
section
variable {J:Judge P}{b:Frame}{i:Nat}{e:TypeId}
theorem G7.enter{f:FuncId}{fn:Func}{c:Code}{vs:Lv_}{B:Seg}{R:Value->LH->Seg->Prop}{p:Bool}(ac:P.funcs[f]? =some fn)(hb:fn.body=some c)(ay:vs.length<=fn.ntmps)
  (h:∀(Q:Gs_) (bc:Frame) (Tc:Av_) (dsc:Ld_) (O:Li_) (cs:Lf_) (H:LH),Au E H [B]->
   (p=false->∀v E' S' B',Le E E'->S'.flatten=B'->R v E' B'->Au E' H S'->J.ok Q (G ((fr bc Tc dsc O).finish v) cs) (Ak E' H S'))->
   (p=true->∀E' S',Le E E'->Au E' H S'->J.ok Q (G (Hr bc Tc dsc O (raised pv)) cs) (Ak E' H S'))->
   JL J Q (base f) fn.ntmps (GB 0 vs) [] [.code c] (fr bc Tc dsc O::cs) (Ak E H [B])):G7 J f vs E B p pv R:=λQ bc Tc dsc O cs H ag al K=>by
 have he:Frame.enter P f vs.toArray .normal=fr (base f) (vs.toArray++Array.replicate (fn.ntmps - vs.length) undef) [] [.code c]:=by
  simp [Frame.enter,fr,ac,hb,base];rfl
 have am:mk E H B=Ak E H [B]:=by unfold Ak;simp
 rw [he,am];refine h Q bc Tc dsc O cs H (by unfold Au;simpa using ag) (λU v E' S' B' hle ap aq Y=>?_) (λU E' S' hle Y=>?_) _ ⟨by simp;omega,λt v av=>?_⟩
 .subst ap;exact al U v E' S'.flatten hle aq Y
 .exact K U E' S'.flatten hle Y
 .obtain⟨_,K⟩:=Kr av;have aw:t<vs.length:=by
   rcases Nat.lt_or_ge t vs.length with Z | Z
   .exact Z
   .simp at K;have:=(List.getElem?_eq_some_iff.1 K).1;omega
  rw [Array.getD_eq_getD_getElem?,Array.getElem?_append_left (by simpa using aw)];simp at K;simp [K]
theorem Zs{x:Operand}{f:FuncId}{caps:Lv_}{args:Array Operand}{ats:Array TypeId}{s:St}{vs:Lv_}(hb:Ec P f=true)
  (U:ops[i]? =some ⟨d,.call ⟨.value x,args,ats⟩,ty,pp,af,g⟩) (hw:AY L ops ⟨d,.call ⟨.value x,args,ats⟩,ty,pp,af,g⟩=some true) (O:((b.kind != .early)&&Bu n d)=true)
  (Y:ev L x=some (.func (.func f) #[] caps.toArray)) (Z:evs L args.toList=some vs)
  (h:∀T,Has n L T->J.ok Q (G (Frame.enter P f (vs++caps).toArray .normal) (fr b T ds (.inRegion ops (i::rest)::k)::cs)) s):
  JL J Q b n L ds (.inRegion ops (i::rest)::k) cs s:=λT K=>by
 simp only [Bool.and_eq_true] at O
 have ac:args.map (BJ T)=vs.toArray:=by
  rw [← Gf K.Gn Z];apply Array.ext';simp
 refine Judge.oper U (Ci K hw) (by simpa using O.1) (.inr λc ag=>by cases ag) ?_;have hd:lp P (execOp (BJ T) ⟨d,.call ⟨.value x,args,ats⟩,ty,pp,af,g⟩) s (upon J Q b T ds ops i rest k cs d) (Mo J Q b T ds ops i rest k cs):=by
  have al:execOp (BJ T) ⟨d,.call ⟨.value x,args,ats⟩,ty,pp,af,g⟩=(do let d ← Deferred.ofValue (.func (.func f) #[] caps.toArray) vs.toArray;invoke d.target d.args):=by
   simp only [execOp,resolve,ac,K.Gn _ _ Y]
  rw [al];simp only [Deferred.ofValue,bind,Sem.bind,pure,invoke];have e: #[]++vs.toArray++caps.toArray=(vs++caps).toArray:=by simp
  rw [e];exact JN hb (h T K)
 exact hd
theorem YO{f:FuncId}{args:Array Operand}{ats:Array TypeId}{s:St}{vs:Lv_}(hb:Ec P f=true)
  (U:ops[i]? =some ⟨d,.call ⟨.value (.func f),args,ats⟩,ty,pp,af,g⟩) (hw:AY L ops ⟨d,.call ⟨.value (.func f),args,ats⟩,ty,pp,af,g⟩=some true) (O:((b.kind != .early)&&Bu n d)=true)
  (Y:evs L args.toList=some vs)
  (h:∀T,Has n L T->J.ok Q (G (Frame.enter P f vs.toArray .normal) (fr b T ds (.inRegion ops (i::rest)::k)::cs)) s):
  JL J Q b n L ds (.inRegion ops (i::rest)::k) cs s:=λT K=>by
 simp only [Bool.and_eq_true] at O
 have Z:args.map (BJ T)=vs.toArray:=by
  rw [← Gf K.Gn Y];apply Array.ext';simp
 refine Judge.oper U (Ci K hw) (by simpa using O.1) (.inr λc ac=>by cases ac) ?_;have hd:lp P (execOp (BJ T) ⟨d,.call ⟨.value (.func f),args,ats⟩,ty,pp,af,g⟩) s (upon J Q b T ds ops i rest k cs d) (Mo J Q b T ds ops i rest k cs):=by
  simp only [execOp,resolve,bind,Sem.bind,Deferred.ofValue,BJ,pure,invoke];have e: #[]++args.map (BJ T)++ #[]=vs.toArray:=by rw [Z];simp
  rw [e];exact JN hb (h T K)
 exact hd
theorem dT{g:Frame}{s:St}(O:s.q=false)(h:(∃w,Fits s w)->J.ok Q (G g cs) s):J.ok Q (G g cs) s:=by
 by_cases K:∃w,Fits s w
 .exact h K
 .exact J.step ⟨V,λw f=>absurd ⟨w,f⟩ K,λe=>by subst e;cases O⟩
theorem G7.use{f:FuncId}{vs:Lv_}{B:Seg}{R:Value->LH->Seg->Prop}{p:Bool}{Tc:Av_}{Y:Li_}(j:Nat)(ap:G7 J f vs E B p pv R)(ac:Au E H S)(ag:S[j]? =some B)
  (Z:p=false->∀v E' B',Le E E'->R v E' B'->Au E' H (S.set j B')->J.ok Q (G ((fr bc Tc dsc Y).finish v) cs) (Ak E' H (S.set j B')))
  (aq:p=true->∀E' B',Le E E'->Au E' H (S.set j B')->J.ok Q (G (Hr bc Tc dsc Y (raised pv)) cs) (Ak E' H (S.set j B'))):
  J.ok Q (G (Frame.enter P f vs.toArray .normal) (fr bc Tc dsc Y::cs)) (Ak E H S):=by
 have K:S.flatten.Perm (B++(S.set j []).flatten):=(EG (seg':=B) ag).1.trans List.perm_append_comm;have al:Nd E H (B++(S.set j []).flatten):=Nd.perm ac K;have av:Ak E H S=mk E (Bq (S.set j []).flatten H) B:=by
  rw [show Ak E H S=mk E H S.flatten from rfl,Fs ac K];unfold mk;rw [F0]
 have aw:Nd E H (S.set j []).flatten:=by
  have:=al;rw [Nd.iff] at this ⊢;rw [List.map_append,List.nodup_append] at this;exact⟨this.1.2.1,λq ay=>this.2 q (List.mem_append_right _ ay)⟩
 have back:∀(g:Frame) (E':LH) (B':Seg),Le E E'->Nd E' (Bq (S.set j []).flatten H) B'->(Au E' H (S.set j B')->J.ok Q (G g cs) (Ak E' H (S.set j B')))->J.ok Q (G g cs) (mk E' (Bq (S.set j []).flatten H) B'):=λg E' B' hle U az=>by
  have e2:mk E' (Bq (S.set j []).flatten H) B'=mk E' H (B'++(S.set j []).flatten):=by unfold mk;rw [F0]
  refine dT V λ⟨w,a0⟩=>?_;have a1:Nd E' H (S.set j []).flatten:=aw.grow λx a2=>by
   have a3:=a0.d x a2;have Z:Bq B' (Bq (S.set j []).flatten H) x=none:=a3;exact(H7 Z).1
  have O:Nd E' H (B'++(S.set j []).flatten):=Nd.glue U a1;rw [e2];have am:(B'++(S.set j []).flatten).Perm (S.set j B').flatten:=List.perm_append_comm.trans (EG ag).2.symm;rw [Fs O am];exact az (Nd.perm O am)
 rw [av];refine ap Q bc Tc dsc Y cs _ (Nd.front al) (λK v E' B' hle a4 U=>back _ E' B' hle U λO=>Z K v E' B' hle a4 O) (λK E' B' hle U=>back _ E' B' hle U λO=>aq K E' B' hle O)
theorem Tx{x:Operand}{f:FuncId}{caps:Lv_}{args:Array Operand}{ats:Array TypeId}{vs:Lv_}{seg:Seg}{R:Value->LH->Seg->Prop}{p:Bool}(j:Nat)(hb:Ec P f=true)
  (ac:G7 J f (vs++caps) E seg p pv R) (Y:ops[i]? =some ⟨d,.call ⟨.value x,args,ats⟩,ty,pp,af,g⟩) (hw:AY L ops ⟨d,.call ⟨.value x,args,ats⟩,ty,pp,af,g⟩=some true) (K:((b.kind != .early)&&Bu n d)=true)
  (ag:ev L x=some (.func (.func f) #[] caps.toArray)) (al:evs L args.toList=some vs) (am:Au E H S) (ap:S[j]? =some seg)
  (aq:p=true->∀E' seg',Le E E'->Au E' H (S.set j seg')->JP J Q b n L ds cs (raised pv) (Ak E' H (S.set j seg')))
  (av:p=false->∀v E' seg',Le E E'->R v E' seg'->Au E' H (S.set j seg')->JL J Q b n (AB L d v) ds (.inRegion ops rest::k) cs (Ak E' H (S.set j seg'))):
  JL J Q b n L ds (.inRegion ops (i::rest)::k) cs (Ak E H S):=
 Zs hb Y hw K ag al λT Z=>G7.use j ac am ap
  (λO v E' B' hle aw U=>by
   rw [GW (o:=⟨d,.call ⟨.value x,args,ats⟩,ty,pp,af,g⟩) _ _ _ _ _ Y]
   simp only [Bool.and_eq_true] at K
   exact av O v E' B' hle aw U _ (Z.put K.2 v))
  (λO E' B' hle U=>aq O E' B' hle U T Z _)
theorem Zi{f:FuncId}{args:Array Operand}{ats:Array TypeId}{vs:Lv_}{seg:Seg}{R:Value->LH->Seg->Prop}{p:Bool}(j:Nat)(hb:Ec P f=true)
  (ac:G7 J f vs E seg p pv R) (Y:ops[i]? =some ⟨d,.call ⟨.value (.func f),args,ats⟩,ty,pp,af,g⟩) (hw:AY L ops ⟨d,.call ⟨.value (.func f),args,ats⟩,ty,pp,af,g⟩=some true) (K:((b.kind != .early)&&Bu n d)=true)
  (ag:evs L args.toList=some vs) (al:Au E H S) (am:S[j]? =some seg)
  (ap:p=true->∀E' seg',Le E E'->Au E' H (S.set j seg')->JP J Q b n L ds cs (raised pv) (Ak E' H (S.set j seg')))
  (aq:p=false->∀v E' seg',Le E E'->R v E' seg'->Au E' H (S.set j seg')->JL J Q b n (AB L d v) ds (.inRegion ops rest::k) cs (Ak E' H (S.set j seg'))):
  JL J Q b n L ds (.inRegion ops (i::rest)::k) cs (Ak E H S):=
 YO hb Y hw K ag λT Z=>G7.use j ac al am
  (λO v E' B' hle av U=>by
   rw [GW (o:=⟨d,.call ⟨.value (.func f),args,ats⟩,ty,pp,af,g⟩) _ _ _ _ _ Y]
   simp only [Bool.and_eq_true] at K
   exact aq O v E' B' hle av U _ (Z.put K.2 v))
  (λO E' B' hle U=>ap O E' B' hle U T Z _)
theorem aZ{ρ:Operand->Value}{x y z1:Operand}{s:St}{p:String}{a:Option Addr}{l c K m:Nat}{hi:Int}(O:∀ad,a=some ad->ad.spot=none∨c=0)(U:m<=c)(he:hi=(m:Int))(Y:P.underlying t=some (.slice e))(Z:By P e=some K)(ac:ρ x= .slice a l c)(ag:ρ y=iV hi)(al:ρ z1=iV hi):
  Yl P ⟨d,.slice t x none (some y) (some z1),ty,p,af,g⟩ ρ s (.slice a m m):=by
 subst he;have h:=Yl.slice (P:=P) (s:=s) (d:=d) (ty:=ty) (p:=p) (af:=af) (g:=g) (olo:=none) (ohi:=some y) (omx:=some z1) (lo:=0) (hi:=m) (mx:=m) Y Z ac al ag V U (Nat.le_refl _) (Nat.zero_le _);have am:(if m=0 then a else a.map (·.add (0*K)))=a:=by
  split
  .rfl
  .cases a with
   | none=>rfl
   | some ad=>
    have:=(O ad rfl).resolve_right (by omega);simp only [Option.map_some,Nat.zero_mul];rw [Ek this];obtain⟨b,o,sp⟩:=ad;simp only at this;subst this;simp
 rw [am] at h;simpa using h
theorem Ao.iR{α:Type}{q:Rp α}{a:Option Addr}{c:Nat}{xs ys:List α}{hi:Int}(U:Ao q E a c xs)(hC:HR xs 0 hi=some ys):Ao q E a c ys/\ys.length<=c/\hi=(ys.length:Int):=by
 unfold HR at hC;split at hC
 rotate_left
 .cases hC
 rename_i hb;obtain⟨Z,ac,ag⟩:=hb;cases hC;have al:=U.1;have hlen:(((xs.take hi.toNat).drop (0:Int).toNat)).length=hi.toNat:=by simp;omega
 refine⟨⟨by rw [hlen];omega,?_⟩,by rw [hlen];omega,by rw [hlen];omega⟩;rcases U.2 with⟨h,O⟩ | ⟨bk,off,Y,O⟩
 .exact .inl ⟨by rw [h];simp,O⟩
 .refine .inr ⟨bk,off,Y,λi x K=>O i x ?_⟩;simp only [Int.toNat_zero,List.drop_zero] at K;rw [List.getElem?_take] at K;split at K
  .exact K
  .cases K
theorem Take.Uo{m fuel:Nat}{listed:Array Bool}{x y:Operand}{p:String}{α:Type}{q:Rp α}{t1:TypeId}{Y c cx:Nat}{a ax:Option Addr}{xs ys Z:List α}{ats:Array TypeId}{z:Value}(U:EK xs ys=some Z)
  (aw:ops[i]? =some ⟨d,.call ⟨.builtin .append,#[x,y],ats⟩,ty,p,af,g⟩) (hw:AY L ops ⟨d,.call ⟨.builtin .append,#[x,y],ats⟩,ty,p,af,g⟩=some true) (ay:Bu n d=true)
  (az:ev L x=some (.slice a xs.length xs.length)) (a0:ev L y=some (.slice ax ys.length cx)) (a1:ats[0]? =some t) (a2:ats[1]? =some t1) (a3:P.underlying t=some (.slice e)) (a4:P.underlying t1=some (.slice e)) (a5:By P e=some q.n) (hb:F4 P e=some Y) (a6:zeroOf P e=some z) (a7:z.cells.size=q.n)
  (a8:0<Y) (a9:Y<=64) (ac:Ao q E a c xs) (bb:Ao q E ax cx ys) (ag:Au E H S)
  (h:∀E' al K,Le E E'->Ao q E' al K Z->Au E' H (S++ [[]])->AZ J Q b n ds ops k cs m DR fuel (Bm listed i) (AB L d (.slice al Z.length K)) (Ak E' H (S++ [[]]))):
  Take J Q b n ds ops k cs m DR fuel listed L (Ak E H S) i:=by
 unfold EK at U;split at U
 rotate_left
 .cases U
 rename_i be;cases U;obtain⟨wss,am,bi,bn,ci⟩:=Ao.M3 (H:=H) (B:=S.flatten) ac.full;obtain⟨bo,bv,bw,bx,bz⟩:=Ao.M3 (H:=H) (B:=S.flatten) bb;have hlen:(xs++ys).length=xs.length+ys.length:=by simp
 show Take J Q b n ds ops k cs m DR fuel listed L (mk E H S.flatten) i;refine Take.NO aw (by simp [Ey,ay]) hw λρ ap=>?_;rw [MP,ap x _ az,ap y _ a0];refine Ay _ _ (SO a1 a2 a4 a3 a5 hb a6 a7 ag bn bx bz a8 be a9 ?_ ?_)
 .intro hm;have b0:ys= []:=List.eq_nil_of_length_eq_zero hm;subst b0;have b1:Au E H (S++ [[]]):=by unfold Au at*;rw [Hc,List.append_nil];exact ag
  have b2:mk E H S.flatten=Ak E H (S++ [[]]):=by unfold Ak;rw [Hc,List.append_nil]
  rw [b2];have:=h E a xs.length (Le.refl _) (by rw [List.append_nil];exact ac.full) b1;rw [hlen] at this;exact this
 .intro r O K b3 b4 b5 b6;have ca:OL e q E (some ⟨r,0,none⟩) K [(r,.cells O e (0,0))] (xs++ys):=
   ⟨wss++bo,.inr ⟨r,O,rfl,rfl,b4,by rw [hlen];exact b3,by rw [hlen,List.flatten_append];exact b5.symm⟩,by simp [am,bv],Oi am bi bw⟩
  have aq:=FN (S:=S) (seg:= [(r,.cells O e (0,0))]) b6;show AZ J Q b n ds ops k cs m DR fuel _ _ (mk E H (S.flatten++ [(r,.cells O e (0,0))]));rw [aq.1];refine Gx S.length ca aq.2 (by simp) λE' hle cc av=>?_;have ce:(S++ [[(r,Obj.cells O e (0,0))]]).set S.length []=S++ [[]]:=Jl _ _ _ _;rw [ce] at av ⊢;have:=h E' (some ⟨r,0,none⟩) K hle cc av;rw [hlen] at this;exact this
theorem Xx{ρ:Operand->Value}{x:Operand}{s:St}{p:String}{v:Value}{xt t1:TypeId}{f1:Array Field}(K:P.underlying t1=some (.struct f1))(O:ρ x= .iface t1 v):Yl P ⟨d,.typeAssert x xt t1 true,ty,p,af,g⟩ ρ s (.tuple #[v,.bool true]):=by
 refine FM (sm:=Instr.typeAssert (ρ x) xt t1 true) V ?_;rw [O];unfold Instr.typeAssert;refine Ay _ _ (Cx K ?_);simp [lp,pure]
theorem Xt{ρ:Operand->Value}{x:Operand}{s:St}{p:String}{z:Value}{xt t1:TypeId}{f1:Array Field}(K:P.underlying t1=some (.struct f1))(O:zeroOf P t1=some z)(U:ρ x= .nilIface):Yl P ⟨d,.typeAssert x xt t1 true,ty,p,af,g⟩ ρ s (.tuple #[z,.bool false]):=by
 refine FM (sm:=Instr.typeAssert (ρ x) xt t1 true) V ?_;rw [U];unfold Instr.typeAssert;refine Ay _ _ (Cx K ?_);exact Ay (x:=zeroValue t1) _ (H8 O ⟨V,V⟩)
end
end Pal
