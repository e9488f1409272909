/- DebtOrder: a part (3 of 9) of the proof of its row. -/
import Derived.Test.YtmbgkhhhldcpcaaGreatDoorOra
import Derived.Test.YtmbgkhhhldcpcaaGreatDoorOrb
import Derived.Test.YtmbgkhhhldcpcaaGreatDoorProg
import Derived.ProofKit
set_option linter.all false
set_option maxRecDepth 100000
namespace Pal
open Go Go.Conc
variable {P:Program}
variable{s':St}{pure w:Bool}
section
variable (J:Judge P)(Q:Gs_)(b:Frame)(ds:Ld_)(ops:Ao_)(k:Li_)(cs:Lf_)(X D D0:Nat->Bool)
def JB:Nat->Array Bool->Av_->St->Prop
 | 0,listed,T,s=>Region.ready .any ops listed=[]/\J.ok Q (G (fr b T ds (.inRegion ops []::k)) cs) s
 | fuel+1,listed,T,s=>
  Region.ready .any ops listed≠ []/\s.q=false/\∀i∈Region.ready .any ops listed,∀o,ops[i]?=some o->(∀c,o.op≠ .defer c)/\
   (Region.wanted o (yielded ops T)=false->JB fuel (Bp listed i) (C6 T o.dst undef) s)/\
   (Region.wanted o (yielded ops T)=true->X i=true->lp P (execOp (BK T) o) s (λK s'=>(∀x u,D0 x=true->s.get x=some u->s'.get x=some u)/\match K with
    | .value v=>JB fuel (Bp listed i) (C6 T o.dst v) s'
    | .skip=>JB fuel (Bp listed i) (C6 T o.dst undef) s'
    | _=>False) (λ_ _=>False))/\
   (Region.wanted o (yielded ops T)=true->X i=false->lp P (execOp (BK T) o) (BC D s) (λK s'=>match K with
    | .value v=>JB fuel (Bp listed i) (C6 T o.dst v) (CG D s s')
    | .skip=>JB fuel (Bp listed i) (C6 T o.dst undef) (CG D s s')
    | _=>False) (λ_ _=>False))
variable {J Q b ds ops k cs X D D0}
theorem dq(Z:b.kind≠ .early):∀(fuel t:Nat) (listed:Array Bool) (T:Av_) (s:St),JB J Q b ds ops k cs X D D0 fuel listed T s->
  J.ok Q (G (fr b T ds (.inRegion ops (Region.linearise.go .any ops fuel t listed [])::k)) cs) s:=by
 intro fuel
 induction fuel with
 | zero=>intro t listed T s h;simpa [Region.linearise.go] using h.2
 | succ fuel O=>
  intro t listed T s h;obtain⟨al,am,h⟩:=h;obtain⟨i,hi⟩:∃i,(Region.ready .any ops listed)[t%(Region.ready .any ops listed).length]?=some i:=by
   have:0<(Region.ready .any ops listed).length:=vk.2 al;exact⟨_,cT (uU _ this)⟩
  have ac:=r7 hi;have hgo:Region.linearise.go .any ops (fuel+1) t listed []=i::Region.linearise.go .any ops fuel (t/(Region.ready .any ops listed).length) (Bp listed i) []:=by
   simp only[Region.linearise.go];change (match(Region.ready .any ops listed)[t%(Region.ready .any ops listed).length]? with
    | some i=>Region.linearise.go .any ops fuel (t/(Region.ready .any ops listed).length) (listed.setIfInBounds i true) [i]
    | none=>[].reverse)=_
   rw[hi];simp only;rw[linearise_go_acc];rfl
  rw[hgo];let⟨_,o,U,_⟩:=mem_ready.1 ac;let⟨hd,ap,aq,av⟩:=h i ac o U;cases hw:Region.wanted o (yielded ops T) with
  | false=>exact Judge.unwanted U hw (O _ _ _ _ (ap hw))
  | true=>
   cases ag:X i with
   | true=>
    refine Judge.oper U hw Z (.inr hd) (Es _ (aq hw ag) ?_ (λ_ _ h=>h.elim));rintro Y s' ⟨_,K⟩;cases Y with
    | value v=>exact O _ _ _ _ K
    | skip=>exact O _ _ _ _ K
    | _=>exact K.elim
   | false=>
    refine Judge.Wk D U hw Z hd am (Es _ (av hw ag) ?_ (λ_ _ h=>h));intro Y s' K;cases Y with
    | value v=>exact O _ _ _ _ K
    | skip=>exact O _ _ _ _ K
    | _=>exact K.elim
def waitAll(ops:Ao_)(X:Nat->Bool)(i:Nat):Bool:=(List.range ops.size).all λj=> !X j || waits ops ops.size j i
theorem eK{D:Nat->Bool}{s:St}(K:s'.E=(BC D s).E){x:Nat}{o:Obj}(h:s.E x=some o):(CG D s s').E x=some o:=by
 by_cases hd:D x;simp[CG,hd,h];have:=we K x;simp[BC,hd] at this;simp[CG,hd,this,h]
theorem gi{D0 D:Nat->Bool}{s:St}(h:∀x,D0 x=true->D x=true):∀x o,(BC D0 s).E x=some o->(BC D s).E x=some o:=λx o K=>by
 simp only[BC] at K ⊢
 split;split at K;exact K;unfold St.get;rw[K];rename_i hd;rw[d0 (λe=>hd (h x e))] at K;exact K
theorem lz{D0:Nat->Bool}{s:St}(h:∀x o,(BC D0 s).E x=some o->s'.E x=some o):∀x o,s.E x=some o->s'.E x=some o:=λx o K=>h x o (by
 simp only[BC];split;unfold St.get;rw[K]
 .exact K)
theorem cX{D0:Nat->Bool}{s:St}(h:∀x u,D0 x=true->s.get x=some u->s'.get x=some u)(O:s'.E=s.E):∀x o,(BC D0 s).E x=some o->(BC D0 s').E x=some o:=λx o K=>by
 simp only[BC] at K ⊢
 split;rename_i hd;rw[d6 hd] at K;exact h x o hd K;rename_i hd;rw[d0 hd] at K;rw[O];exact K
theorem T5{D0 D:Nat->Bool}{s:St}(h:∀x,D0 x=true->D x=true)(O:s'.E=(BC D s).E):∀x o,(BC D0 s).E x=some o->(BC D0 (CG D s s')).E x=some o:=λx o K=>by
 simp only[BC] at K ⊢
 split
 .rename_i hd;rw[d6 hd] at K
  unfold St.get CG;simp only[h x hd,sO];exact K
 .rename_i hd;rw[d0 hd] at K;exact eK O K
theorem VY{i:Nat}{oi:Oper}{v:Value}(bz:∀x,D0 x=true->D x=true)(hi:ops[i]?=some oi)(c3:X i=false)(ce:(pure || waitAll ops X i)=true)(c4:Region.noSelect ops=true)(c5:∀c,oi.op≠ .defer c):
  ∀(fuel:Nat) (listed:Array Bool) (T:Av_) (s:St),J1 ops listed i oi=true->IG ops listed=true->listed.size=ops.size->i∈Region.ready .any ops listed->s.q=false->Region.wanted oi (yielded ops T)=w->
   (w=true->∀s',s'.q=false->(∀x o,(BC D0 s).E x=some o->s'.E x=some o)->(pure=false->∀x o,(BC D s).E x=some o->s'.E x=some o)->Yl P oi (BK T) s' v)->
   JB J Q b ds ops k cs X D D0 fuel (Bp listed i) (C6 T oi.dst (if w then v else undef)) s->JB J Q b ds ops k cs X D D0 (fuel+1) listed T s:=by
 have av:∀(j:Nat) (al:Oper),ops[j]?=some al->∀cs b,al.op≠Op.select cs b:=λj al h cs b=>Region.noSelect_spec c4 j al cs b h;intro fuel
 induction fuel with
 | zero=>?_
 | succ fuel a2=>?_
 all_goals
  intro listed T s ci co a3 bv a4 hw aw h;refine⟨λe=>(by rw[e] at bv;cases bv),a4,λj cp al U=>?_⟩;by_cases a5:j=i
  .subst a5;obtain rfl:al=oi:=by rw[hi] at U;exact(f6 U).symm
   refine⟨c5,λO=>?_,λay K=>?_,λay K=>?_⟩;rw[O] at hw;subst hw;exact h;rw[c3] at K;cases K;rw[ay] at hw;subst hw;refine Es _ (aw V (BC D s) a4 (gi bz) λ_ _ _ h=>h).out ?_ (λ_ _ h=>h);rintro bw s' ⟨rfl,rfl⟩;rw[MI];exact h
  ·
   have ct:j∈Region.ready .any ops (Bp listed i):=ready_mono cp a5;let⟨az,Y,cw,b0⟩:=mem_ready.1 cp;obtain rfl:Y=al:=by rw[U] at cw;exact(f6 cw).symm
   have b1:=(mem_ready.1 bv).1;have c6:(Y.after.any λe=>Region.binds .any e&&e.on==i)=false:=by
    rw[Array.any_eq_false];intro e he K;simp only[f5,tr] at K;have:=b0 _ (Array.getElem_mem he) K.1;rw[K.2] at this;have a0:listed.getD i true=listed.getD i false∨listed.size<=i:=by
     rcases jH i listed.size with q | q;left;simp[j8,q];exact .inr q
    rcases a0 with a0 | a0;rw[b1,this] at a0;cases a0;rw[j8,rZ a0] at this;simp at this
   have c7:oi.apart ops Y=true:=by
    have b2:j<ops.size:=(f8.1 U).1;have:=lH.1 ci j (rH.2 b2);simp only[sW,tr] at this;rcases this with(q | q) | q;exact absurd q a5;rw[az] at q;cases q;rw[U] at q;simp only[sW] at q;rw[c6] at q;exact q.resolve_left (by simp)
   let⟨a1,a6,a7⟩:=Oper.apart_spec c7;let⟨p1,p2⟩:=I9 (ops:=ops) (T:=T) (v:=if w then v else undef) (av j Y U) a1
   first
    | exact absurd ct (by rw[h.1];simp)
    | (
     obtain⟨ef,_,h⟩:=h
     let⟨hd,O,c8,c9⟩:=h j ct Y U
     have a8:Bp (Bp listed i) j=Bp (Bp listed j) i:=by
      unfold Bp;exact uL _ _ (sy a5)
     have a9:i∈Region.ready .any ops (Bp listed j):=ready_mono bv (sy a5)
     have bb:J1 ops (Bp listed j) i oi=true:=by
      refine lH.2 λx K=>?_
      have:=lH.1 ci x K
      simp only[sW,tr] at this ⊢
      rcases this with(q | q) | q;exact .inl (.inl q)
      .left;right
       by_cases e:j=x;subst e;rw[az] at q;cases q;rw[Bp,getD_set_ne true e];exact q
      .exact .inr q
     have be:(Bp listed j).size=ops.size:=by unfold Bp;simpa using a3
     have bi:IG ops (Bp listed j)=true:=by
      refine lH.2 λx K=>?_
      cases b3:ops[x]? with
      | none=>simp
      | some dd=>
       simp only[sW,ua]
       by_cases e:j=x
       .subst e
        obtain rfl:dd=Y:=by rw[U] at b3;exact(f6 b3).symm
        right
        refine tZ.2 λe he=>?_
        cases hb:Region.binds .any e with
        | false=>simp
        | true=>
         have:=b0 e he hb
         by_cases e2:j=e.on
         .rw [← e2] at this
          have b4:j<listed.size:=by rw[a3];exact(f8.1 U).1
          simp[j8,b4] at this az
          rw[az] at this;cases this
         .rw [Bp,getD_set_ne false e2];simpa using this
       .cases cy:(Bp listed j).getD x false with
        | false=>exact .inl rfl
        | true=>
         right
         have dj:listed.getD x false=true:=by rw[Bp,getD_set_ne false e] at cy;exact cy
         refine tZ.2 λb5 he=>?_
         cases hb:Region.binds .any b5 with
         | false=>simp
         | true=>
          have:=Rx co b3 dj b5 he hb
          by_cases e2:j=b5.on
          .rw [← e2] at this
           have b4:j<listed.size:=by rw[a3];exact(f8.1 U).1
           simp[j8,b4] at this az
           rw[az] at this;cases this
          .rw [Bp,getD_set_ne false e2];simpa using this
     refine⟨hd,λea=>?_,λb6 bx=>?_,λb6 bx=>?_⟩
     .have:=O (by rw[p2];exact ea)
      rw[a8,Ko a6] at this
      let⟨Z,ac⟩:=I9 (ops:=ops) (T:=T) (d:=Y.dst) (v:=undef) (o:=oi) (av i oi hi) a7
      exact a2 _ _ _ bb bi be a9 a4 (by rw[ac];exact hw) (λag s' eb O am=>by unfold Yl;rw[Z];exact(aw ag s' eb O am).out) this
     ·
      have ec:pure=true:=by
       cases ed:pure with
       | true=>rfl
       | false=>
        exfalso
        rw[ed,uZ] at ce
        have b2:j<ops.size:=(f8.1 U).1
        have ay:=lH.1 ce j (rH.2 b2)
        rw[bx] at ay
        simp only[v8,uZ] at ay
        rcases Ua co _ j Y U (λe he hb=>b0 e he hb) ay with q | ⟨x,Z,ac⟩
        .have ee:i<listed.size:=by rw[a3];exact(f8.1 hi).1
         simp[j8,ee] at q b1
         rw[b1] at q;cases q
        .have:¬x<listed.size:=by rw[a3];intro K;simp[K] at Z
         simp[j8,this] at ac
      have bn:=QZ _ (c8 (by rw[p2];exact b6) bx)
      rw[p1] at bn
      refine Es _ bn ?_ (λ_ _ h=>h)
      rintro bw s' ⟨⟨ca,K⟩,am,cc⟩
      have c0:=cX ca am
      have bo:s'.q=false:=cc.trans a4
      have c1:pure=false->∀{α:Prop},α:=λe=>by rw[ec] at e;cases e
      cases bw with
      | value u=>
       simp only at K ⊢
       rw[a8,Ko a6] at K
       let⟨Z,ac⟩:=I9 (ops:=ops) (T:=T) (d:=Y.dst) (v:=u) (o:=oi) (av i oi hi) a7
       exact⟨ca,a2 _ _ _ bb bi be a9 bo (by rw[ac];exact hw) (λag s2 ap O aq=>by unfold Yl;rw[Z];exact(aw ag s2 ap (λx o h=>O x o (c0 x o h)) (λe=>c1 e)).out) K⟩
      | skip=>
       simp only at K ⊢
       rw[a8,Ko a6] at K
       let⟨Z,ac⟩:=I9 (ops:=ops) (T:=T) (d:=Y.dst) (v:=undef) (o:=oi) (av i oi hi) a7
       exact⟨ca,a2 _ _ _ bb bi be a9 bo (by rw[ac];exact hw) (λag s2 ap O aq=>by unfold Yl;rw[Z];exact(aw ag s2 ap (λx o h=>O x o (c0 x o h)) (λe=>c1 e)).out) K⟩
      | _=>exact K.elim
     .have bn:=QZ _ (c9 (by rw[p2];exact b6) bx)
      rw[p1] at bn
      refine Es _ bn ?_ (λ_ _ h=>h)
      rintro bw s' ⟨K,am,cc⟩
      have c2:=Ul (D:=D) am
      have bo:(CG D s s').q=false:=by show s'.q=false;rw[cc];exact a4
      cases bw with
      | value u=>
       simp only at K ⊢
       rw[a8,Ko a6] at K
       let⟨Z,ac⟩:=I9 (ops:=ops) (T:=T) (d:=Y.dst) (v:=u) (o:=oi) (av i oi hi) a7
       exact a2 _ _ _ bb bi be a9 bo (by rw[ac];exact hw) (λag s2 ap O aq=>by unfold Yl;rw[Z];exact(aw ag s2 ap (λx o h=>O x o (T5 bz am x o h)) (λe=>by rw[c2] at aq;exact aq e)).out) K
      | skip=>
       simp only at K ⊢
       rw[a8,Ko a6] at K
       let⟨Z,ac⟩:=I9 (ops:=ops) (T:=T) (d:=Y.dst) (v:=undef) (o:=oi) (av i oi hi) a7
       exact a2 _ _ _ bb bi be a9 bo (by rw[ac];exact hw) (λag s2 ap O aq=>by unfold Yl;rw[Z];exact(aw ag s2 ap (λx o h=>O x o (T5 bz am x o h)) (λe=>by rw[c2] at aq;exact aq e)).out) K
      | _=>exact K.elim)
end
section
variable (J:Judge P)(Q:Gs_)(b:Frame)(n:Nat)(ds:Ld_)(ops:Ao_)(k:Li_)(cs:Lf_)(X D D0:Nat->Bool)
def F1(fuel:Nat)(listed:Array Bool)(L:Env)(s:St):Prop:=∀T,Has n L T->JB J Q b ds ops k cs X D D0 fuel listed T s
end
theorem JB.take{i:Nat}{oi:Oper}{v:Value}{P:Program}{J:Judge P}{Q:Gs_}{b:Frame}{ds:Ld_}{ops:Ao_}{k:Li_}{cs:Lf_}{X D D0:Nat->Bool}(K:∀x,D0 x=true->D x=true)(hi:ops[i]?=some oi)(O:X i=false)(U:(pure || waitAll ops X i)=true)(Y:Region.noSelect ops=true)(Z:∀c,oi.op≠ .defer c)
  (fuel:Nat) (listed:Array Bool) (T:Av_) (s:St) (ac:J1 ops listed i oi=true) (ag:IG ops listed=true) (al:listed.size=ops.size) (am:i∈Region.ready .any ops listed) (ap:s.q=false) (aq:Region.wanted oi (yielded ops T)=w)
  (av:w=true->∀s',s'.q=false->(pure=false->∀x o,(BC D s).E x=some o->s'.E x=some o)->Yl P oi (BK T) s' v)
  (h:JB J Q b ds ops k cs X D D0 fuel (Bp listed i) (C6 T oi.dst (if w then v else undef)) s):JB J Q b ds ops k cs X D D0 (fuel+1) listed T s:=
 VY K hi O U Y Z fuel listed T s ac ag al am ap aq (λe s' aw _ ay=>av e s' aw ay) h
def KB(ops:Ao_)(listed:Array Bool)(xs:List Nat)(pure:Bool)(i:Nat):Bool:=match ops[i]? with
 | some oi=> !AG xs i&&(pure || waitAll ops (AG xs) i)&&Region.noSelect ops&& !EN oi.op&&J1 ops listed i oi&&IG ops listed&&listed.size==ops.size&&(Region.ready .any ops listed).contains i
 | none=>false
variable {J:Judge P}{Q:Gs_}{n:Nat}{ds:Ld_}{ops:Ao_}{k:Li_}{cs:Lf_}{X D:Nat->Bool}{l0:List Nat}{L:Env}{s:St}{E H:LH}{S:List Seg}{xl bks:List Nat}
variable {d:Option Tmp}{t u ty:TypeId}{p:String}{af:Ae_}{g:On_}{v:Value}{kd:IntKind}
section
variable {b:Frame}{fuel:Nat}{listed:Array Bool}
variable {x y:Operand}{e:TypeId}{i:Nat}
theorem Gp(xl bks l0:List Nat){id:Nat}(hm:P.follows .mixedOrders=true)(K:(b.kind != .early)=true)
  (h:F1 J Q b n ds ops k cs (AG xl) (AG (l0++bks)) (AG l0) ops.size (Array.replicate ops.size false) L (Ak E H S)):JL J Q b n L ds (.code (.region id ops true)::k) cs (Ak E H S):=
 We V hm λt T O=>dq (by simpa using K) ops.size t _ T _ (h T O)
theorem Xp:∀x,AG l0 x=true->AG (l0++bks) x=true:=λx h=>by
 simp only[AG,vY,kO] at h ⊢;exact .inl h
theorem JB.val{oi:Oper}(i:Nat)(pure:Bool)(hi:ops[i]?=some oi)(K:KB ops listed xl pure i=true)(Y:s.q=false)
  (hw:A2 L ops oi=some true) (Z:Bz n oi.dst=true) (ac:∀ρ,Ft L ρ->∀s':St,(pure=false->∀x o,(BC (AG (l0++bks)) s).E x=some o->s'.E x=some o)->Yl P oi ρ s' v)
  (h:F1 J Q b n ds ops k cs (AG xl) (AG (l0++bks)) (AG l0) fuel (Bp listed i) (AA L oi.dst v) s):F1 J Q b n ds ops k cs (AG xl) (AG (l0++bks)) (AG l0) (fuel+1) listed L s:=λT O=>by
 simp only[KB,hi,f5] at K
 obtain⟨⟨⟨⟨⟨⟨⟨ag,al⟩,am⟩,U⟩,ap⟩,aq⟩,av⟩,aw⟩:=K
 refine JB.take (w:=true) (v:=v) (pure:=pure) Xp hi (by simpa using ag) al am (λc K=>by rw[K] at U;simp[EN] at U) fuel listed T s ap aq (by simpa using av) (by simpa using aw) Y (Cn O hw) (λ_ s' az ay=>ac _ O.GJ s' ay) ?_
 exact h _ (O.put Z v)
theorem eB{oi:Oper}(i:Nat)(hi:ops[i]?=some oi)(K:KB ops listed xl true i=true)(Y:s.q=false)
  (hw:A2 L ops oi=some true) (Z:Bz n oi.dst=true) (ac:∀ρ,Ft L ρ->∀s':St,(∀x o,(BC (AG l0) s).E x=some o->s'.E x=some o)->Yl P oi ρ s' v)
  (h:F1 J Q b n ds ops k cs (AG xl) (AG (l0++bks)) (AG l0) fuel (Bp listed i) (AA L oi.dst v) s):F1 J Q b n ds ops k cs (AG xl) (AG (l0++bks)) (AG l0) (fuel+1) listed L s:=λT O=>by
 simp only[KB,hi,f5] at K
 obtain⟨⟨⟨⟨⟨⟨⟨ag,al⟩,am⟩,U⟩,ap⟩,aq⟩,av⟩,aw⟩:=K
 refine VY (w:=true) (v:=v) (pure:=true) Xp hi (by simpa using ag) al am (λc K=>by rw[K] at U;simp[EN] at U) fuel listed T s ap aq (by simpa using av) (by simpa using aw) Y (Cn O hw) (λ_ s' az ay _=>ac _ O.GJ s' ay) ?_
 exact h _ (O.put Z v)
theorem K4{oi:Oper}(i:Nat)(hi:ops[i]?=some oi)(K:KB ops listed xl true i=true)(O:s.q=false)
  (hw:A2 L ops oi=some true) (U:Bz n oi.dst=true) (Y:∀ρ,Ft L ρ->∀s':St,(∀x o,s.E x=some o->s'.E x=some o)->Yl P oi ρ s' v)
  (h:F1 J Q b n ds ops k cs (AG xl) (AG (l0++bks)) (AG l0) fuel (Bp listed i) (AA L oi.dst v) s):F1 J Q b n ds ops k cs (AG xl) (AG (l0++bks)) (AG l0) (fuel+1) listed L s:=
 eB i hi K O hw U (λρ Z s' ac=>Y ρ Z s' (lz ac)) h
theorem JB.fin{l0:List Nat}(K:Region.ready .any ops listed=[])(h:JL J Q b n L ds k cs s):F1 J Q b n ds ops k cs X D (AG l0) 0 listed L s:=λT O=>⟨K,JL.done h T O⟩
def Oy(S:List Seg)(j:Nat):List Nat->Prop
 | []=>True
 | bk::l=>(∃(i:Nat) (o:Obj),(i==j)=false/\S[i]?=some [(bk,o)])/\Oy S j l
theorem Oy.mem{S:List Seg}{j:Nat}:∀{l:List Nat},Oy S j l->∀bk∈l,∃(i:Nat) (o:Obj),i≠j/\S[i]?=some [(bk,o)]
 | [],_,_,h=>by cases h
 | b::l,⟨⟨i,o,hi,h⟩,K⟩,bk,hb=>by
  rcases iC.1 hb with rfl | hb;exact⟨i,o,by simpa using hi,h⟩;exact K.mem bk hb
theorem JB.store{bk off:Nat}{c:Av_}(i j:Nat)(Y:Region.ready .any ops listed=[i])(av:AG xl i=true)(aw:ops[i]?=some ⟨d,.store t x y,ty,p,af,g⟩)(hw:A2 L ops ⟨d,.store t x y,ty,p,af,g⟩=some true)(ay:Bz n d=true)(Z:Av E H S)
  (O:ev L x=some (.pointer (some ⟨bk,off,none⟩))) (az:ev L y=some v) (a0:BB P t=some v.cells.size) (a1:∀u∈v.cells.toList,C5 u=true) (ac:S[j]?=some [(bk,.cells c e (0,0))]) (a2:Oy S j l0) (hle:off+v.cells.size<=c.size)
  (h:Av E H (S.set j [(bk,.cells (Bc c off v.cells.toList) e (0,0))])->F1 J Q b n ds ops k cs (AG xl) (AG (l0++bks)) (AG l0) fuel (Bp listed i) (AA L d undef) (Ak E H (S.set j [(bk,.cells (Bc c off v.cells.toList) e (0,0))]))):
  F1 J Q b n ds ops k cs (AG xl) (AG (l0++bks)) (AG l0) (fuel+1) listed L (Ak E H S):=λT K=>by
 refine⟨by rw[Y];simp,rfl,λbe U o' ag=>?_⟩
 rw[Y] at U
 simp at U
 subst U
 obtain rfl:o'=⟨d,.store t x y,ty,p,af,g⟩:=by rw[aw] at ag;exact(f6 ag).symm
 have a3:=Cn K hw;refine⟨λc a4=>(by cases a4),λe=>?_,λ_ _=>?_,λ_ e=>?_⟩;rw[a3] at e;cases e
 .let⟨al,a5⟩:=HB Z ac;rw[al];show lp P (do Instr.storeAt t (BK T x) (BK T y);pure Next.skip) _ _ _
  rw[K.ev O,K.ev az];refine Ay _ _ ?_;unfold Instr.storeAt;simp only[Instr.sureAddr,bind,Sem.bind,pure];refine RA (pl:=(S.set j []).flatten.length) a0 a1 a5 (c:=c) (e:=e) (by simp) hle λam=>?_;have a6:((S.set j []).flatten++ [(bk,Obj.cells c e (0,0))]).set (S.set j []).flatten.length (bk,.cells (Bc c off v.cells.toList) e (0,0))=(S.set j []).flatten++ [(bk,.cells (Bc c off v.cells.toList) e (0,0))]:=JW _ _ _ _;rw[a6] at am ⊢;let⟨a7,ap⟩:=J3 ac am;rw[a7];refine⟨λx u O a8=>?_,h ap _ (K.put ay undef)⟩;obtain⟨bi,o',a9,aq⟩:=a2.mem x (by simpa [AG] using O);have bb:(Ak E H S).get x=some o':=Ed (i:=0) Z aq rfl;have g2:(Ak E H (S.set j [(bk,.cells (Bc c off v.cells.toList) e (0,0))])).get x=some o':=Ed (i:=0) ap (by rw[tb (sy a9)];exact aq) rfl;have g0:(Ak E H S).get x=some u:=by rw[al];exact a8
  rw[bb] at g0;rw[g2];exact g0
 .rw [av] at e;cases e
end
theorem O7{E H:LH}{S:List Seg}{bks:List Nat}{bk o:Nat}{l ws:Lv_}{e:TypeId}{f:Nat×Nat}{w:Value}(j:Nat)(K:Av E H S)(O:S[j]?=some [(bk,.cells (l++ws).toArray e f)])(U:AG bks bk=true)(Y:∀x o,(BC (AG bks) (Ak E H S)).E x=some o->s'.E x=some o)(Z:ws[o]?=some w):s'.cell? ⟨bk,l.length+o,none⟩=some w:=by
 have:=Vi j K O U Y o w Z
 rwa[Et rfl] at this
variable {B:List (Nat×Obj)}
variable{ats:Array TypeId}{a ax:Option Addr}{K cx l:Nat}{z:Value}
section
variable {e:TypeId}
theorem T6{O m:Nat}{xs ys:Lv_}{Q:Value->St->Prop}{X:Halt->St->Prop}
  (a0:ats[0]?=some t) {t1 a1:TypeId}(a2:ats[1]?=some t1) (a3:P.underlying t1=some (.slice a1)) (a4:P.underlying t=some (.slice e)) (a5:BB P e=some K) (hb:Gs P e=some O) (a6:zeroOf P e=some z) (a7:z.cells.size=K)
  (a8:Nd E H B) (al:IK (mk E H B) (.slice a l l) K xs)
  (Z:IK (mk E H B) (.slice ax m cx) K ys) (bx:∀w∈ys,C5 w=true) (bz:0<O) (b0:l+m<=2^40) (a9:O<=64)
  (ay:m=0->Q (.slice a (l+m) l) (mk E H B))
  (bb:∀r ac am,l+m<=am->ac.size=am*K->ac.toList.take ((l+m)*K)=xs++ys->Nd E H (B++ [(r,.cells ac e (0,0))])->Q (.slice (some ⟨r,0,none⟩) (l+m) am) (mk E H (B++ [(r,.cells ac e (0,0))]))):
  lp P (Builtin.append_ ats ty #[.slice a l l,.slice ax m cx]) (mk E H B) Q X:=by
 unfold Builtin.append_;simp only[a0,a2,si,s3,tA];refine Ay _ _ (Cy a4 ?_);refine Ay _ _ (FC a5 ?_);refine Ay _ _ (Cy a3 ?_);simp only[I6,rY,sI,Builtin.lenOf,vX,sO];have ag:ys.length=m*K:=by
  cases ax with
  | none=>obtain⟨U,Y⟩:=Z;subst U Y;simp
  | some ad=>exact Z.2.1
 have ap:xs.length=l*K:=by
  cases a with
  | none=>obtain⟨U,Y⟩:=al;subst U Y;simp
  | some ad=>exact al.2.1
 obtain⟨c,b1⟩:∃c,c=l:=⟨_,V⟩;split
 .rename_i b2;have hm:m=0:=by omega
  have be:ys=[]:=sa (by rw[ag,hm];simp);refine Ay _ _ (LD ⟨ax,cx,V⟩ Z ?_);subst be;cases a with
  | none=>exact ay hm
  | some ad=>exact ay hm
 .rename_i b3;have U:¬(((l+m:Nat):Int)>IntKind.i64.max/\(False∨O=0)):=by rintro⟨_,h | h⟩<;>omega
  have Y:¬(Builtin.nextslicecap (l+m) l*O>2^48):=by
   have:=UB (need:=l+m) (old:=l) (by omega);have b4:Builtin.nextslicecap (l+m) l*O<=(2*(l+m)+768)*64:=Nat.mul_le_mul this a9;omega
  let⟨inf,aq,av⟩:=RY hb;refine Ay _ _ (LF aq ?_);rw[av,d0 U];refine Ay _ _ (LF aq ?_);rw[av,d0 Y];refine Ay _ _ ?_;simp only[choose,lp,Question.forced,rY,sI];refine⟨V,λbi=>?_⟩;generalize bn:(Question.appendCap (l+m) l e).cut bi=aw;have bo:l+m<=aw:=by rw[← bn];simp[Question.cut]
  refine Ay _ _ (LF aq ?_);rw[av];have bv:∀{α:Type}{f:Unit->Sem α}{Q:α->St->Prop},lp P (f ()) (mk E H B) Q X->lp P (askRoom (aw*O)>>=f) (mk E H B) Q X:=by
   intro α f Q az;refine Ay _ _ ?_;unfold askRoom;split;exact⟨.inl ⟨V,V⟩,az⟩;exact az
  refine bv (Ay _ _ (LD ⟨a,l,V⟩ al ?_));refine Ay _ _ (LD ⟨ax,cx,V⟩ Z ?_);refine Ay _ _ (IB a6 ?_);refine Ay _ _ (Kp a8 λr bw=>?_);refine bb r _ aw bo ?_ ?_ bw;simp only[Array.size_append,tS,T2,a7,ap,ag];rw[← tM,← tM];congr 1;omega;simp only[Array.toList_append];rw[vg (by simp[ap,ag,tM])];rw[s4 (by simp[ap,ag,tM])]
end
variable{α:Type}{c:Nat}
theorem Ao.spot{pp:Rp α}{E:LH}{xs:List α}(h:Ao pp E a c xs):∀ad,a=some ad->ad.spot=none∨c=0:=λad K=>by
 rcases h.2 with⟨_,h⟩ | ⟨bk,off,h,_⟩;exact h ad K;rw[h] at K;cases K;exact .inl rfl
theorem Ao.full{pp:Rp α}{E:LH}{xs:List α}(h:Ao pp E a c xs):Ao pp E a xs.length xs:=⟨rJ _,h.2.imp (λ⟨h,_⟩=>⟨h,λ_ _=>.inr (by rw[h];rfl)⟩) id⟩
theorem Ao.NS{pp:Rp α}{E H:LH}{B:List (Nat×Obj)}{ys:List α}(ac:Ao pp E a c ys):
  ∃K:List (Lv_),K.length=ys.length/\(∀(i:Nat) x ws,ys[i]?=some x->K[i]?=some ws->pp.r E ws x)/\IK (mk E H B) (.slice a ys.length c) pp.n K.flatten/\∀w∈K.flatten,C5 w=true:=by
 obtain⟨K,U,Z,Y⟩:=ac.rows;have ag:=Je U Z;refine⟨K,U,Z,?_,λw hw=>?_⟩
 .rcases Y with⟨Y,aw⟩ | ⟨bk,off,rfl,Y⟩
  .subst Y;have:K=[]:=sa U;subst this;cases a with
   | none=>exact⟨rfl,rfl⟩
   | some ad=>exact⟨.inr rfl,by simp,sC _,λq w O=>by simp at O⟩
  .refine⟨.inl V,by rw[NG ag,U],ac.1,λq w O=>?_⟩;let⟨al,m,ws,am,e2,ap⟩:=Rz ag O;have:=(Y al ws am).cell (H:=H) (B:=B) e2;subst ap;rw[← t9];exact this
 .let⟨us,aq,hw⟩:=tV.1 hw;let⟨q,O⟩:=so.1 aq;have av:q<ys.length:=by rw[← U];exact(d7.1 O).1
  exact pp.one (Z q _ us (cT av) O) w hw
theorem jk{P:Program}{s:St}{t:TypeId}{a b:Bool}(K:P.underlying t=some .bool){Q:Bool->St->Prop}{X:Halt->St->Prop}(h:Q (a==b) s):lp P (Op.equal t (.bool a) (.bool b)) s Q X:=by
 unfold Op.equal Op.maxDepth Op.equalIn;exact Ay _ _ (Cy K h)
theorem gj{P:Program}{s:St}{ρ:Operand->Value}{x y:Operand}{d:Option Tmp}{t u ty:TypeId}{p:String}{af:Ae_}{g:On_}{a b:Bool}(K:P.underlying t=some .bool)(O:ρ x=.bool a)(U:ρ y=.bool b):Yl P ⟨d,.binOp .neq t x y u,ty,p,af,g⟩ ρ s (.bool (a != b)):=by
 refine FY (sm:=do eqGuard .neq t x y (ρ x) (ρ y);binOp .neq t (ρ x) (ρ y)) V ?_
 rw[O,U];have Y:lp P (eqGuard .neq t x y (.bool a) (.bool b)) s (λ_ s'=>s'=s) (λ_ _=>False):=by simp[eqGuard,lp,pure]
 refine Ay _ _ (Es _ Y ?_ (λ_ _ h=>h));rintro _ _ rfl;have hb:binOp .neq t (.bool a) (.bool b)=(do pure (.bool (!(← Op.equal t (.bool a) (.bool b))))):=V
 rw[hb];exact Ay (x:=Op.equal t (.bool a) (.bool b)) _ (jk K ⟨V,V⟩)
variable {E':LH}
variable {z1:Operand}{rest:List Nat}{ρ:Operand->Value}
section
variable {b:Frame}
variable {x y:Operand}{e:TypeId}{i:Nat}
theorem UE(O:∀ad,a=some ad->ad.spot=none∨c=0)(U:l<=c)(Y:P.underlying t=some (.slice e))(Z:BB P e=some K)(ac:ρ x=.slice a l c)(ag:ρ y=iV (l:Int))(al:ρ z1=iV (l:Int)):
  Yl P ⟨d,.slice t x none (some y) (some z1),ty,p,af,g⟩ ρ s (.slice a l l):=by
 have h:=Yl.slice (P:=P) (s:=s) (d:=d) (ty:=ty) (p:=p) (af:=af) (g:=g) (olo:=none) (ohi:=some y) (omx:=some z1) (lo:=0) (hi:=l) (mx:=l) Y Z ac al ag V U (rJ _) (sC _);have am:(if l=0 then a else a.map (·.add (0*K)))=a:=by
  split;rfl
  .cases a with
   | none=>rfl
   | some ad=>
    have:=(O ad rfl).resolve_right (by omega);simp only[sU,tY];rw[Et this];obtain⟨b,o,sp⟩:=ad;simp only at this;subst this;simp
 rw[am] at h;simpa using h
theorem Zw{pp:Rp α}{t1:TypeId}{Y:Nat}{xs ys Z:List α}(U:Ex xs ys=some Z)
  (aw:ops[i]?=some ⟨d,.call ⟨.builtin .append,#[x,y],ats⟩,ty,p,af,g⟩) (hw:A2 L ops ⟨d,.call ⟨.builtin .append,#[x,y],ats⟩,ty,p,af,g⟩=some true) (ay:BZ b n ⟨d,.call ⟨.builtin .append,#[x,y],ats⟩,ty,p,af,g⟩=true)
  (az:ev L x=some (.slice a xs.length xs.length)) (a0:ev L y=some (.slice ax ys.length cx)) (a1:ats[0]?=some t) (a2:ats[1]?=some t1) (a3:P.underlying t=some (.slice e)) (a4:P.underlying t1=some (.slice e)) (a5:BB P e=some pp.n) (hb:Gs P e=some Y) (a6:zeroOf P e=some z) (a7:z.cells.size=pp.n)
  (a8:0<Y) (a9:Y<=64) (ac:Ao pp E a c xs) (bb:Ao pp E ax cx ys) (ag:Av E H S)
  (h:∀E' al K,Le E E'->Ao pp E' al K Z->Av E' H (S++ [[]])->JL J Q b n (AA L d (.slice al Z.length K)) ds (.inRegion ops rest::k) cs (Ak E' H (S++ [[]]))):
  JL J Q b n L ds (.inRegion ops (i::rest)::k) cs (Ak E H S):=by
 unfold Ex at U;split at U
 rotate_left
 .cases U
 rename_i be;cases U;let⟨wss,am,bi,bn,ci⟩:=Ao.NS (H:=H) (B:=S.flatten) ac.full;let⟨bo,bv,bw,bx,bz⟩:=Ao.NS (H:=H) (B:=S.flatten) bb;have hlen:(xs++ys).length=xs.length+ys.length:=by simp
 show JL J Q b n L ds (.inRegion ops (i::rest)::k) cs (mk E H S.flatten);refine JL.op aw hw ay λρ ap=>?_;rw[ND,ap x _ az,ap y _ a0];refine Ay _ _ (T6 a1 a2 a4 a3 a5 hb a6 a7 ag bn bx bz a8 be a9 ?_ ?_)
 .intro hm;have b0:ys=[]:=sa hm;subst b0;have b1:Av E H (S++ [[]]):=by unfold Av at*;rw[Hz,r9];exact ag
  have b2:mk E H S.flatten=Ak E H (S++ [[]]):=by unfold Ak;rw[Hz,r9]
  rw[b2];have:=h E a xs.length (Le.refl _) (by rw[r9];exact ac.full) b1;rw[hlen] at this;exact this
 .intro r O K b3 b4 b5 b6;have ca:OL e pp E (some ⟨r,0,none⟩) K [(r,.cells O e (0,0))] (xs++ys):=
   ⟨wss++bo,.inr ⟨r,O,rfl,rfl,b4,by rw[hlen];exact b3,by rw[hlen,tC];exact b5.symm⟩,by simp[am,bv],O4 am bi bw⟩
  have aq:=F6 (S:=S) (seg:=[(r,.cells O e (0,0))]) b6;show JL J Q b n _ ds _ cs (mk E H (S.flatten++ [(r,.cells O e (0,0))]));rw[aq.1];refine Ck S.length ca aq.2 (by simp) λE' hle cc av=>?_;have ce:(S++ [[(r,Obj.cells O e (0,0))]]).set S.length []=S++ [[]]:=JW _ _ _ _;rw[ce] at av ⊢;have:=h E' (some ⟨r,0,none⟩) K hle cc av;rw[hlen] at this;exact this
end
open Go.ConcN (sumTo sumTo_upd upd upd_ne upd_same)
def NR(P:Program)(R:Value->St->Prop):GP:=λg s=>
 g.status=.running/\∃v,R v s/\∀w,stepG P true g w=.ended (.done v) w #[]
variable {R:Value->St->Prop}
section
variable {b:Frame}
theorem JO.end{fn:Func}{t:Tmp}{v:Value}(K:b.kind=.normal)(hi:P.inits.idxOf? b.fn=none)(O:P.funcs[b.fn]?=some fn)(U:fn.results=#[.tmp t])(Y:look L t=some v)(Z:R v s):JO J (NR P R) b n L [] [] s:=λT ac todo=>by
 refine J.stop ⟨rfl,v,Z,λw=>?_⟩
 have e:results fn T=Sem.pure v:=by
  have:=ac.at_ t v Y;simp only[results,U,tL];show Sem.pure (T.getD t undef)=_;rw[this]
 have ag:(results fn T).run P w=.ok v w:=by rw[e];rfl
 have e2:(results fn T).events P w #[]=#[]:=by rw[e];simp[Sem.events_pure']
 simp[G,stepG,unwind,EZ,O,ag,e2,doReturn,K,GStep.after,hi,seen_none]
end
def After(P:Program)(R:Value->St->Prop)(K:World)(s₀:St)(v:Value)(w':World):Prop:=
 ∃s,R v s/\Fits s w'/\(∀b o,s₀.E b=some o->s.E b=some o)/\w'.tape=K.tape/\G6 K.os w'.os/\w'.output=K.output
def TN(P:Program)(R:Value->St->Prop)(K:World)(s₀:St)(O:Nat)(m:Machine)(t:Trace):Prop:=
 ∃gs w sl q Sh g s,m=crowd gs w sl/\It P gs w t q Sh g s/\NR P R g s/\O=sumTo gs.size q/\(∀b o,s₀.E b=some o->s.E b=some o)/\w.tape=K.tape/\G6 K.os w.os/\w.output=K.output
theorem dR{ap:World}{s₀:St}(ay:Nat)(m:Machine)(t:Trace)(h:TN P R ap s₀ ay m t):
  (∃o w ops,stepT P m=(.ended o w,ops)/\Good P (After P R ap s₀) m o w (t++ops))∨(∃m' ops az,stepT P m=(.next m',ops)/\az<ay/\TN P R ap s₀ az m' (t++ops)):=by
 obtain⟨gs,w,sl,q,Sh,g,s,rfl,hC,bi,rfl,a0,a1,a2,a3⟩:=h;obtain⟨ac,v,a4,a5⟩:=bi;have bn:∀x∈gs,awake x:=by
  intro x Y;obtain⟨i,hi,rfl⟩:=u3.1 Y;rcases sF i with rfl | aq
  .have:gs[0]=g:=by simpa [sf hi] using hC.main
   rw[this];exact awake_of (.inl ac)
  .exact awake_of ((hC.lv.old i _ aq (sf hi)).status.elim .inl λx=>.inr (.inr x))
 let⟨i,x,d,a6,hi,Y,a7⟩:=crowd_pick (P:=P) (w:=w) (sl:=sl) bn ⟨0,g,hC.main,ac⟩;have a8:=hC.at_ d;have bo:0<gs.size:=(f8.1 hC.main).1;have bv:∀(a:Nat) (fn:FuncId) (pos:String),MemOp.ofEvents a fn pos #[]=#[]:=λa fn pos=>by rw[ofEvents_eq];simp
 rcases sF i with rfl | aq
 .obtain rfl:x=g:=by rw[hC.main] at hi;exact(f6 hi).symm
  have ag:=runT_many_ended (P:=P) (sl:=a6) (i:=0) hi (show stepG P (0==0) x (w.at d)=_ from a5 (w.at d));rw[bv] at ag;refine .inl ⟨_,_,_,a7.trans ag,v,V,⟨s,a4,a8.Ct.fits 0 bo,a0,a1,a2,a3⟩,?_,?_,⟨λy K=>?_,V⟩,λj y K O=>?_⟩;simpa using hC.Ct.clean;simpa using hC.over;let⟨j,O⟩:=so.1 K;rw[uO] at O;exact⟨_,(hC.lv.old (1+j) y (by omega) (by simpa [crowd] using O)).leaves⟩;have Z:=hC.lv.old j y (by omega) K;exact⟨q j,by simp only[uJ];exact Z.hears w⟩
 .have Z:=hC.lv.old i x aq hi;have bw:(i==0)=false:=by simp;omega
  have a9:i<gs.size:=(f8.1 hi).1;cases av:q i with
  | zero=>rw[av] at Z;rw[Z.1] at Y;cases Y
  | succ k=>
   rw[av] at Z;rcases Z with⟨bx,_⟩ | ⟨_,x',es,hm,bz,b0⟩;rw[bx] at Y;cases Y
   have b4:sumTo gs.size (upd q i k)+(k+1)=sumTo gs.size q+k:=by
    have:=sumTo_upd q k id a9;simpa [av] using this
   have ag:=runT_crowd_go (P:=P) (sl:=a6) (i:=i) hi (by rw[bw];exact bz (w.at d));have aw:((gs.map (woken P x x' (w.at d))).setIfInBounds i x').size=gs.size:=by simp
   have al:∀op∈MemOp.ofEvents i x.frame.fn x.frame.place es,op.g=i:=λop U=>by obtain⟨e,_,rfl⟩:=mem_ofEvents U;rfl
   have bb:∀op∈MemOp.ofEvents i x.frame.fn x.frame.place es,op.act.touch?=none:=λop U=>by obtain⟨e,he,rfl⟩:=mem_ofEvents U;exact touch_mute (hm e he)
   have b1:It P ((gs.map (woken P x x' (w.at d))).setIfInBounds i x') (w.at d) (t++MemOp.ofEvents i x.frame.fn x.frame.place es) (upd q i k) Sh g s:=by
    refine⟨?_,⟨λj y O K=>?_,λj O=>?_⟩,?_,?_,?_⟩
    .have b2:i≠0:=by omega
     rw[mt b2,tH,hC.main];simp[woken_run ac]
    by_cases am:i=j;subst am;rw[rR (by simpa using a9)] at K;obtain rfl:=f6 K;rw[upd_same,Deaf_own];exact b0;rw[mt am,tH] at K;obtain⟨z,b3,rfl⟩:=sr.1 K;have be:=hC.lv.old j z O b3;rw[woken_quitsD be,upd_ne q k (sy am),Deaf_other t am _ al];exact be;rw[Deaf_other t (g':=i) (by simp at O;omega) _ al];exact hC.lv.above j (by simpa using O);rw[aw];exact a8.Ct.mute al bb (λop U=>by obtain⟨e,he,rfl⟩:=mem_ofEvents U;exact low_mute (hm e he) _) V;exact handedOver_app hC.over λop U=>.inr (bb op U);rw[Deaf_other t (by omega) _ al];exact hC.hears
   exact .inr ⟨_,_,_,a7.trans ag,by rw[← aw];rw[aw];omega,_,_,_,_,_,_,_,V,b1,⟨ac,v,a4,a5⟩,V,a0,a1,a2,a3⟩
theorem ends{gs:Array Goroutine}{w:World}{sl:Option (Nat×Nat)}{t:Trace}{q:Nat->Nat}{Sh:Nat->Prop}{g:Goroutine}{s:St}(hC:It P gs w t q Sh g s)(O:NR P R g s):
  ∃N last o w' K,runNT P (N+1) (crowd gs w sl) t=(.ended o w',K)/\runN P N (crowd gs w sl)=.next last/\step P last=.ended o w'/\Good P (After P R w s) last o w' K:=
 run_of_inv Nat.lt_wfRel.wf (TN P R w s) (Good P (After P R w s)) dR _ _ _ ⟨gs,w,sl,q,Sh,g,s,V,hC,O,V,λ_ _ h=>h,V,.refl _,V⟩
theorem Zy{m m':Machine}{t K:Trace}{n:Nat}(h:runNT P n m t=(.next m',K)):runN P n m=.next m':=by rw[← runNT_fst P n m t,h]
def G9(W:World):St:=⟨λb=>W.heap[b]?,λ_=>none,false⟩
theorem cg{W:World}{g:Goroutine}(h:(Hi P).ok (NR P R) g (G9 W)):
  ∃M last o w' K,runNT P (M+1) (solo g W) #[]=(.ended o w',K)/\runN P M (solo g W)=.next last/\step P last=.ended o w'/\Good P (After P R W (G9 W)) last o w' K:=by
 have hC:It P #[g] W #[] (λ_=>0) (λ_=>False) g (G9 W):=by
  have Y:∀{i:Nat}{a:Touch},touchAt #[] i=some a->False:=λ{i a} h=>by simp[touchAt,Trace.act?] at h
  refine⟨V,leavers_one P g,⟨λi hi=>?_,λi j hi ac bi=>by simp at hi ac;omega,λi hi b hb=>hb.elim,λb hb=>hb.elim,λsaid=>?_,by simp,λi _ b _ x a O=>(Y O).elim,λi _ b _ x a O=>(Y O).elim⟩,λi g ag=>by simp[Trace.g?] at ag,V⟩
  .have:i=0:=by simp at hi;exact hi
   subst this;exact⟨λb o U=>U,λb o U=>(by cases U),λb _=>V⟩
  .rintro⟨i,j,_,⟨a,b,al,_⟩,_⟩;simp[Trace.act?] at al
 let⟨n,gs',w',am,K,q',bn,g',s',Z,ap,aq,av,aw,ay,az⟩:=h #[g] W none #[] _ _ hC;let⟨N,last,o,a0,a2,k1,a3,a4,a5⟩:=ends (sl:=am) ap aq;refine⟨n+N,last,o,a0,a2,?_,?_,a4,?_⟩;rw[solo_eq_crowd,t9,runNT_add,Z];exact k1;have a6:=Zy Z;rw[solo_eq_crowd,runN_add,a6];exact a3;obtain⟨v,e,⟨s2,a1,a7,a8,a9,bb,be⟩,r⟩:=a5;exact⟨v,e,⟨s2,a1,a7,λb o hb=>a8 b o (av b o hb),a9.trans aw,ay.trans bb,be.trans az⟩,r⟩
end Pal
namespace Pal
open Go Go.Conc
variable{f:FuncId}{fn:Func}{vs:Lv_}
theorem ba{P:Program}{Q:Gs_}{E H:LH}{c:Code}(U:P.funcs[f]?=some fn)(hb:fn.body=some c)(ag:fn.ntmps=fn.ntmps)(al:vs.length<=fn.ntmps)
  (h:JL (Hi P) Q (base f) fn.ntmps (GY 0 vs) [] [.code c] [] (Ak E H [[]])):(Hi P).ok Q (G (Frame.enter P f vs.toArray .normal) []) (mk E H []):=by
 have he:Frame.enter P f vs.toArray .normal=fr (base f) (vs.toArray++Array.replicate (fn.ntmps - vs.length) undef) [] [.code c]:=by
  simp[Frame.enter,fr,U,hb,base];rfl
 rw[he];have Y:mk E H []=Ak E H [[]]:=by unfold Ak;simp
 rw[Y];refine h _ ⟨by simp;omega,λt v Z=>?_⟩;let⟨_,K⟩:=KY Z;have ac:t<vs.length:=by
  rcases jH t vs.length with O | O;exact O;simp at K;have:=(d7.1 K).1;omega
 rw[j8,s0 (by simpa using ac)];simp at K;simp[K]
def Im(K:Bool)(ws:Lv_):Value:=if K then .agg ws.toArray else ws.headD undef
def Vr{α:Type}(pp:Rp α)(K:Bool)(E:LH)(v:Value)(x:α):Prop:=∃ws,pp.r E ws x/\v=Im K ws
theorem Vr.M{α:Type}{pp:Rp α}{K:Bool}{E E':LH}{v:Value}{x:α}(h:Vr pp K E v x)(hle:Le E E'):Vr pp K E' v x:=
 let ⟨ws,O,U⟩:=h;⟨ws,pp.M hle O,U⟩
structure Hq (P:Program) (t:TypeId) {κ:Type} [DecidableEq κ] (pk:Rp κ) (ka:Bool):Prop where
 BZ:∀{em:Bool}{E:LH}{v:Value}{x:κ}{s:St}{Q:Unit->St->Prop}{X:Halt->St->Prop},Vr pk ka E v x->Q () s->lp P (Instr.checkKey em 10000 t v) s Q X
 kind:∃kd,P.underlying t=some kd/\((∀v w,Instr.sameNow kd v w=none)∨∀{E:LH}{v w:Value}{x y:κ},Vr pk ka E v x->Vr pk ka E w y->Instr.sameNow kd v w=some (decide (x=y)))
 eq:∀{E:LH}{v w:Value}{x y:κ}{s:St}{Q:Bool->St->Prop}{X:Halt->St->Prop},Vr pk ka E v x->Vr pk ka E w y->Q (decide (x=y)) s->lp P (Op.equal t v w) s Q X
 same:∀{E:LH}{v:Value}{x:κ},Vr pk ka E v x->Instr.sameBits 10000 v v=true
 uniq:∀{E:LH}{v w:Value}{x:κ},Vr pk ka E v x->Vr pk ka E w x->v=w
variable {κ ν:Type}{pk:Rp κ}{pv:Rp ν}{ka va:Bool}{E E':LH}
variable {P:Program}{s:St}{t tm te:TypeId}{X:Halt->St->Prop}
section
variable [DecidableEq κ]
def Ez(pk:Rp κ)(ka:Bool)(pv:Rp ν)(va:Bool)(E:LH):List MapEntry->List (κ×ν)->Prop
 | [],[]=>True
 | e::es,x::xs=>Vr pk ka E e.key x.1/\Vr pv va E e.val x.2/\Ez pk ka pv va E es xs
 | _,_=>False
theorem Ez.M(hle:Le E E'):∀{es:List MapEntry}{xs:List (κ×ν)},Ez pk ka pv va E es xs->Ez pk ka pv va E' es xs
 | [],[],_=>trivial
 | e::es,x::xs,h=>⟨h.1.M hle,h.2.1.M hle,Ez.M hle h.2.2⟩
 | [],_::_,h=>h.elim
 | _::_,[],h=>h.elim
theorem Ez.len:∀{es:List MapEntry}{xs:List (κ×ν)},Ez pk ka pv va E es xs->es.length=xs.length
 | [],[],_=>rfl
 | e::es,x::xs,h=>by simp[Ez.len h.2.2]
 | [],_::_,h=>h.elim
 | _::_,[],h=>h.elim
def G7(x:κ):List MapEntry->List (κ×ν)->Nat->Option (Nat×Value)
 | e::es,y::ys,i=>if x=y.1 then some (i,e.val) else G7 x es ys (i+1)
 | _,_,_=>none
def Bg(xs:List (κ×ν))(x:κ):Option ν:=(xs.find? λy=>decide (x=y.1)).map (·.2)
def Cm(xs:List (κ×ν))(x:κ)(v:ν):List (κ×ν):=match xs with
 | []=>[(x,v)]
 | y::ys=>if x=y.1 then(x,v)::ys else y::Cm ys x v
theorem WN{x:κ}:∀{es:List MapEntry}{xs:List (κ×ν)}{i:Nat},Ez pk ka pv va E es xs->(G7 x es xs i=none/\Bg xs x=none)∨∃j w v0,G7 x es xs i=some (j,w)/\Bg xs x=some v0/\Vr pv va E w v0
 | [],[],i,_=>.inl ⟨rfl,rfl⟩
 | e::es,y::ys,i,h=>by
  unfold G7 Bg
  by_cases K:x=y.1;exact .inr ⟨i,e.val,y.2,by rw[d6 K],by simp[K],h.2.1⟩;rcases WN (x:=x) (i:=i+1) h.2.2 with⟨O,U⟩ | ⟨j,w,v0,O,U,Y⟩;exact .inl ⟨by rw[d0 K];exact O,by simpa [K,Bg] using U⟩;exact .inr ⟨j,w,v0,by rw[d0 K];exact O,by simpa [K,Bg] using U,Y⟩
 | [],_::_,_,h=>h.elim
 | _::_,[],_,h=>h.elim
theorem Ez.put{x:κ}{v0:ν}{O w:Value}(U:Vr pk ka E O x)(hw:Vr pv va E w v0)(Z:Nat):∀{es:List MapEntry}{xs:List (κ×ν)}{i:Nat},Ez pk ka pv va E es xs->
  (G7 x es xs i=none/\Ez pk ka pv va E (es++ [{key:=O,val:=w,born:=Z}]) (Cm xs x v0))∨
  ∃j u,G7 x es xs i=some (i+j,u)/\j<es.length/\(∀e,es[j]?=some e->Vr pk ka E e.key x)/\Ez pk ka pv va E (es.modify j λe=>{e with key:=O,val:=w}) (Cm xs x v0)
 | [],[],i,_=>.inl ⟨rfl,U,hw,trivial⟩
 | e::es,y::ys,i,h=>by
  unfold G7 Cm
  by_cases K:x=y.1;refine .inr ⟨0,e.val,by rw[d6 K];rfl,by simp,λac he=>?_,?_⟩;simp at he;subst he;rw[K];exact h.1;rw[d6 K];exact⟨U,hw,h.2.2⟩;rcases Ez.put U hw Z (i:=i+1) h.2.2 with⟨Y,ag⟩ | ⟨j,u,Y,ag,al,am⟩;exact .inl ⟨by rw[d0 K];exact Y,by rw[d0 K];exact⟨h.1,h.2.1,ag⟩⟩;refine .inr ⟨j+1,u,by rw[d0 K,Y];congr 2;omega,by simp;omega,λac he=>al ac (by simpa using he),?_⟩;rw[d0 K];exact⟨h.1,h.2.1,am⟩
 | [],_::_,_,h=>h.elim
 | _::_,[],_,h=>h.elim
def Mm(pk:Rp κ)(ka:Bool)(pv:Rp ν)(va:Bool)(E:LH)(o:Obj)(xs:List (κ×ν)):Prop:=
 ∃es clock,o=.map es clock/\Ez pk ka pv va E es.toList xs/\(es.toList.map (·.born)).Pairwise (·<·)/\∀e∈es.toList,e.born<clock
theorem Mm.M{o:Obj}{xs:List (κ×ν)}(h:Mm pk ka pv va E o xs)(hle:Le E E'):Mm pk ka pv va E' o xs:=
 let ⟨es,c,K,O,U⟩:=h;⟨es,c,K,O.M hle,U⟩
theorem T7(U:Hq P t pk ka){k:Value}{x:κ}(Y:Vr pk ka E k x){Q:Option (Nat×Value)->St->Prop}:∀{es:List MapEntry}{xs:List (κ×ν)}{i:Nat},Ez pk ka pv va E es xs->Q (G7 x es xs i) s->lp P (Instr.findAsking t k es i) s Q X
 | [],[],i,_,h=>h
 | e::es,y::ys,i,h,K=>by
  unfold Instr.findAsking
  refine Ay _ _ (U.eq Y h.1 ?_)
  unfold G7 at K
  by_cases O:x=y.1
  .rw [sL O]
   rw[d6 O] at K;exact K
  .rw [sz O];rw[d0 O] at K;exact T7 U Y h.2.2 K
 | [],_::_,_,h,_=>h.elim
 | _::_,[],_,h,_=>h.elim
theorem Uk{kd:TypeDesc}{k:Value}{x:κ}(O:Vr pk ka E k x)(U:∀{E:LH}{v w:Value}{x y:κ},Vr pk ka E v x->Vr pk ka E w y->Instr.sameNow kd v w=some (decide (x=y))):∀{es:List MapEntry}{xs:List (κ×ν)}{i:Nat},Ez pk ka pv va E es xs->Instr.findNow kd k es i=some (G7 x es xs i)
 | [],[],i,_=>rfl
 | e::es,y::ys,i,h=>by
  unfold Instr.findNow G7
  rw[U O h.1]
  by_cases K:x=y.1;simp[K];simp only[sz K,d0 K];exact Uk O U h.2.2
 | [],_::_,_,h=>h.elim
 | _::_,[],_,h=>h.elim
theorem RD(O:Hq P t pk ka){k:Value}{x:κ}(U:Vr pk ka E k x){Q:Option (Nat×Value)->St->Prop}{es:List MapEntry}{xs:List (κ×ν)}(h:Ez pk ka pv va E es xs)(K:Q (G7 x es xs 0) s):lp P (Instr.findKey t k es) s Q X:=by
 unfold Instr.findKey;obtain⟨kd,Y,Z | ac⟩:=O.kind
 .refine Ay _ _ (Cy Y ?_);cases es with
  | nil=>
   cases xs with
   | nil=>exact K
   | cons y ys=>exact h.elim
  | cons e es=>
   have ag:Instr.findNow kd k (e::es) 0=none:=by unfold Instr.findNow;rw[Z]
   rw[ag];exact T7 O U h K
 .refine Ay _ _ (Cy Y ?_);rw[Uk U ac h];exact K
theorem bj(O:Hq P t pk ka)(hm:P.underlying tm=some (.map t te)){z:Value}{z0:ν}(Z:zeroOf P te=some z)(ac:Vr pv va E z z0){bk:Nat}{o:Obj}{xs:List (κ×ν)}{k:Value}{x:κ}(ag:s.get bk=some o)(al:Mm pk ka pv va E o xs)(U:Vr pk ka E k x)(ok:Bool){Q:Value->St->Prop}
  (h:∀w,Vr pv va E w ((Bg xs x).getD z0)->Q (if ok then .tuple #[w,.bool (Bg xs x).isSome] else w) s):lp P (Instr.lookup tm (.map (some bk)) k ok) s Q X:=by
 obtain⟨es,c,rfl,Y,ap,aq⟩:=al;unfold Instr.lookup;refine Ay _ _ (Cy hm ?_);refine Ay _ _ ?_;unfold getObj;simp only[bind,Sem.bind,lp];refine⟨_,ag,V,?_⟩;refine Ay (x:=Instr.checkKey _ 10000 t k) _ (O.BZ U ?_);refine Ay (x:=Instr.findKey t k es.toList) _ (RD O U Y ?_);rcases WN (x:=x) (i:=0) Y with⟨K,e2⟩ | ⟨j,w,v0,K,e2,am⟩;rw[K];simp only;refine Ay (x:=zeroValue te) _ (IB Z ?_);have:=h z (by rw[e2];exact ac);rw[e2] at this;exact this;rw[K];have:=h w (by rw[e2];exact am);rw[e2] at this;exact this
theorem Zf(O:Hq P t pk ka)(hm:P.underlying tm=some (.map t te)){bk:Nat}{o:Obj}{xs:List (κ×ν)}{k w:Value}{x:κ}{v0:ν}(am:s.get bk=some o)(Z:s.H bk=some o)(ap:Mm pk ka pv va E o xs)(K:Vr pk ka E k x)(hw:Vr pv va E w v0){Q:Unit->St->Prop}
  (h:∀o',Mm pk ka pv va E o' (Cm xs x v0)->Q () (s.upd bk o')):lp P (Instr.mapUpdate tm (.map (some bk)) k w) s Q X:=by
 obtain⟨es,c,rfl,ac,ag,U⟩:=ap;unfold Instr.mapUpdate;refine Ay _ _ (Cy hm ?_);unfold getObj;simp only[bind,Sem.bind,lp];refine⟨_,am,V,?_⟩;refine Ay (x:=Instr.checkKey false 10000 t k) _ (O.BZ K ?_);refine Ay (x:=Instr.findKey t k es.toList) _ (RD O K ac ?_);rcases Ez.put K hw c (i:=0) ac with⟨Y,e2⟩ | ⟨j,u,Y,e2,aq,av⟩;rw[Y];simp only[setObj,lp];refine⟨⟨_,Z,V⟩,V,h _ ⟨es.push {key:=k,val:=w,born:=c},c+1,V,by simpa using e2,?_,?_⟩⟩;rw[Array.toList_push,sB,v7];refine⟨ag,by simp,λa aw b hb=>?_⟩;simp at hb;subst hb;obtain⟨e,he,rfl⟩:=sj.1 aw;exact U e he;intro e he;rw[Array.toList_push] at he;rcases kO.1 he with he | he;have:=U e he;omega;simp at he;subst he;simp
 .rw [Y];have al:es[j]?=some (es[j]'(by simpa using e2)):=sf (by simpa using e2);have ay:(es[j]'(by simpa using e2)).key=k:=O.uniq (aq _ (by rw[sM];exact al)) K;simp only[tx,al,sU,Option.getD_some,ay];refine Ay (x:=Instr.keyThatStays k k) _ ?_;unfold Instr.keyThatStays;rw[d6 (O.same K)];simp only[lp,pure,setObj];refine⟨⟨_,Z,V⟩,V,h _ ⟨_,c,V,by simpa using av,?_,?_⟩⟩
  .have:(es.modify j λe=>{e with key:=k,val:=w}).toList.map (·.born)=es.toList.map (·.born):=by
    rw[Array.toList_modify];apply s9;intro q;simp only[sk,List.getElem?_modify];split<;>cases es.toList[q]?<;>rfl
   rw[this];exact ag
  .intro e he;rw[Array.toList_modify] at he;obtain⟨q,az,rfl⟩:=u9.1 he;rw[List.getElem_modify];have a0:q<es.toList.length:=by simpa using az
   split;show(es.toList[q]'a0).born<c;exact U _ (jK _);exact U _ (jK _)
end
variable{us:Lv_}
theorem WJ{l r:Lv_}:∀j w,us[j]?=some w->(l++us++r).toArray[l.length+j]?=some w:=λj w h=>by
 have K:j<us.length:=(d7.1 h).1
 rw[si,sb,no (by omega),show l.length+j - l.length=j by omega,rQ K]
 exact h
variable{off:Nat}
section
variable {e:TypeId}
theorem MT{c:Av_}{O:Bool}(Y:DY P e=some O)(Z:BB P e=some us.length)(ac:O=false->us.length=1)(hw:∀j w,us[j]?=some w->c[off+j]?=some w)
  {Q:Value->St->Prop}(k:Q (Im O us) s):lp P (Go.part e c off) s Q X:=by
 unfold Go.part;refine Ay (x:=isAgg e) _ (Pe Y ?_);cases O with
 | true=>
  simp only[sO];refine Ay (x:=Go.sizeOf e) _ (FC Z ?_);have ag:c.extract off (off+us.length)=us.toArray:=by
   apply sK;intro j;by_cases U:j<us.length;have K:=hw j us[j] (cT U);have al:off+j<c.size:=(f8.1 K).1;simp only[uX];rw[d6 (by omega),K];simp[U];simp only[uX];rw[d0 (by omega)];simp;omega
  show Q (.agg (c.extract off (off+us.length))) s;rw[ag];exact k
 | false=>
  obtain⟨w,rfl⟩:∃w,us=[w]:=by
   match us,ac rfl with
   | [w],_=>exact⟨w,rfl⟩
  have K:=hw 0 w V;rw[sY] at K;simp only[rY,sI,K];exact k
end
structure Cq (P:Program) (t:TypeId) {α:Type} [DecidableEq α] (pp:Rp α) (K:Bool) (dep:Nat):Prop where
 agg:DY P t=some K
 size:BB P t=some pp.n
 one:K=false->pp.n=1
 eq:∀{n:Nat}{E E':LH}{ws ws':Lv_}{x y:α}{s:St}{Q:Bool->St->Prop}{X:Halt->St->Prop},dep<=n->pp.r E ws x->pp.r E' ws' y->Q (decide (x=y)) s->lp P (Op.equalIn n t (Im K ws) (Im K ws')) s Q X
 BZ:∀{n:Nat}{em:Bool}{E:LH}{ws:Lv_}{x:α}{s:St}{Q:Unit->St->Prop}{X:Halt->St->Prop},dep<=n->pp.r E ws x->Q () s->lp P (Instr.checkKey em n t (Im K ws)) s Q X
 uniq:∀{E E':LH}{ws ws':Lv_}{x:α},pp.r E ws x->pp.r E' ws' x->ws=ws'
 same:∀{E:LH}{ws:Lv_}{x:α},pp.r E ws x->∀w∈ws,∀m,Instr.sameBits (m+1) w w=true
 now:∃kd,P.underlying t=some kd/\((∀v w,Instr.sameNow kd v w=none)∨∀{E E':LH}{ws ws':Lv_}{x y:α},pp.r E ws x->pp.r E' ws' y->Instr.sameNow kd (Im K ws) (Im K ws')=some (decide (x=y)))
variable {ρ:Operand->Value}{d:Option Tmp}{u ty:TypeId}{p:String}{af:Ae_}{g:On_}{ws ws':Lv_}
variable{c2 dep:Nat}{cx:Av_}{β:Type}{a1:Bool}{f1 f2:Field}
section
variable {e:TypeId}
theorem Cq.int{kd:IntKind}(U:P.underlying t=some (.int kd))(Y:BB P t=some 1):Cq P t (rK kd) false 1 where
 agg:=by unfold DY;rw[U]
 size:=Y
 one _:=rfl
 eq {n E E' ws ws' x y s Q X} Z K O k:=by
  obtain⟨m,rfl⟩:∃m,n=m+1:=⟨n - 1,by omega⟩;have K:ws=[.int kd x]:=K;have O:ws'=[.int kd y]:=O;subst K O;refine Xn U ?_;have e:(x==y)=decide (x=y):=by by_cases h:x=y<;>simp[h]
  rw[e];exact k
 BZ {n em E ws x s Q X} Z K k:=by
  obtain⟨m,rfl⟩:∃m,n=m+1:=⟨n - 1,by omega⟩;have K:ws=[.int kd x]:=K;subst K;unfold Instr.checkKey;refine Ay _ _ (Cy U ?_);exact k
 uniq K O:=by
  have K:_=[Value.int kd _]:=K;have O:_=[Value.int kd _]:=O;rw[K,O]
 same {E ws x} h w hw m:=by
  have h:ws=[Value.int kd x]:=h;subst h;simp at hw;subst hw;simp[Instr.sameBits]
 now:=⟨_,U,.inr λ{E E' ws ws' x y} K O=>by
  have K:ws=[.int kd x]:=K
  have O:ws'=[.int kd y]:=O
  subst K O
  have e:(x==y)=decide (x=y):=by by_cases h:x=y<;>simp[h]
  show(if kd=kd then some (x==y) else none)=_
  rw[d6 rfl,e]⟩
theorem Cq.nat{kd:IntKind}(U:P.underlying t=some (.int kd))(Z:BB P t=some 1):Cq P t (rN kd) false 1 where
 agg:=by unfold DY;rw[U]
 size:=Z
 one _:=rfl
 eq {n E E' ws ws' x y s Q X} ac K O k:=by
  obtain⟨m,rfl⟩:∃m,n=m+1:=⟨n - 1,by omega⟩;have K:ws=[.int kd ((x:Nat):Int)]:=K;have O:ws'=[.int kd ((y:Nat):Int)]:=O;subst K O;refine Xn U ?_;have e:((x:Int)==(y:Int))=decide (x=y):=by
   by_cases h:x=y;simp[h]
   .have Y:¬(x:Int)=(y:Int):=by omega
    simp[h,Y]
  rw[e];exact k
 BZ {n em E ws x s Q X} ac K k:=by
  obtain⟨m,rfl⟩:∃m,n=m+1:=⟨n - 1,by omega⟩;have K:ws=[.int kd ((x:Nat):Int)]:=K;subst K;unfold Instr.checkKey;refine Ay _ _ (Cy U ?_);exact k
 uniq K O:=by
  have K:_=[Value.int kd _]:=K;have O:_=[Value.int kd _]:=O;rw[K,O]
 same {E ws x} h w hw m:=by
  have h:ws=[Value.int kd ((x:Nat):Int)]:=h;subst h;simp at hw;subst hw;simp[Instr.sameBits]
 now:=⟨_,U,.inr λ{E E' ws ws' x y} K O=>by
  have K:ws=[.int kd ((x:Nat):Int)]:=K
  have O:ws'=[.int kd ((y:Nat):Int)]:=O
  subst K O
  have e:((x:Int)==(y:Int))=decide (x=y):=by
   by_cases h:x=y;simp[h]
   .have Y:¬(x:Int)=(y:Int):=by omega
    simp[h,Y]
  show(if kd=kd then some ((x:Int)==(y:Int)) else none)=_
  rw[d6 rfl,e]⟩
theorem Cq.up{α:Type} [DecidableEq α] {pp:Rp α}{O:Bool}(h:Cq P t pp O dep)(hd:dep<=c2):Cq P t pp O c2:=
 ⟨h.agg,h.size,h.one,λK=>h.eq (sG hd K),λK=>h.BZ (sG hd K),h.uniq,h.same,h.now⟩
theorem SM{α:Type}{kk:Nat}{pp:Rp α}{E:LH}{ws:Lv_}{xs:List α}(K:(rA kk pp).r E ws xs){i:Nat}(hi:i<kk):∃x us,xs[i]?=some x/\pp.r E us x/\us.length=pp.n/\∀j w,us[j]?=some w->ws.toArray[i*pp.n+j]?=some w:=by
 have O:xs[i]?=some (xs[i]'(by rw[K.1];exact hi)):=cT (by rw[K.1];exact hi);have Y:ix xs (i:Int)=some (xs[i]'(by rw[K.1];exact hi)):=by unfold ix;rw[d6 (by omega)];simpa using O
 let⟨us,U,_,_,Z⟩:=ID (m:=(i:Int)) K Y;exact⟨_,us,O,U,pp.len U,λj w ac=>by have:=Z j w ac;rw[si];simpa using this⟩
theorem Cq.arr{α:Type} [DecidableEq α] {pp:Rp α}{a6:Bool}{kk:Nat}(h:Cq P e pp a6 dep)(Z:P.underlying t=some (.array kk e))(a7:BB P t=some (kk*pp.n)):Cq P t (rA kk pp) true (dep+1) where
 agg:=by unfold DY;rw[Z]
 size:=a7
 one:=λh=>by cases h
 eq {n E E' ws ws' xs ys s Q X} a8 ac a0 k:=by
  obtain⟨n,rfl⟩:∃m,n=m+1:=⟨n - 1,by omega⟩;have bx:=ac.1;have bz:=a0.1;unfold Op.equalIn;refine Ay _ _ (Cy Z ?_);refine Ay (x:=Go.sizeOf e) _ (FC h.size ?_);simp only[Im,sO];simp only[uE,Std.Legacy.Range.size,tO,Nat.add_one_sub_one,Nat.div_one];let bd:Nat->Option Bool×Unit->Sem (ForInStep (Option Bool×Unit)):=λi _=>do
   if !(← Op.equalIn n e (← Go.part e ws.toArray (i*pp.n)) (← Go.part e ws'.toArray (i*pp.n))) then pure (ForInStep.done (some false,())) else pure (ForInStep.yield (none,()))
  have key:∀(m st:Nat),st+m=kk->(∀i,i<st->xs[i]?=ys[i]?)->∀{K:Option Bool×Unit->St->Prop},K (if xs=ys then(none,()) else(some false,())) s->lp P (forIn (List.range' st m) (none,()) bd:Sem _) s K X:=by
   intro m
   induction m with
   | zero=>
    intro st al am K O;have U:xs=ys:=by
     apply s9;intro i;rcases jH i st with hi | hi;exact am i hi;rw[sd (by omega),sd (by omega)]
    rw[d6 U] at O;simp only[List.range'_zero,uw];exact O
   | succ m ap=>
    intro st al am K O;simp only[List.range'_succ,uo];obtain⟨a,us,ag,aq,Y,av⟩:=SM ac (i:=st) (by omega);obtain⟨c,b0,aw,a9,a2,bb⟩:=SM a0 (i:=st) (by omega);refine Ay _ _ (Ay _ _ (MT h.agg (by rw[Y];exact h.size) (λq=>by rw[Y];exact h.one q) av ?_));refine Ay _ _ (MT h.agg (by rw[a2];exact h.size) (λq=>by rw[a2];exact h.one q) bb ?_);refine Ay _ _ (h.eq (by omega) aq a9 ?_);by_cases ay:a=c
    .subst ay;simp only[decide_true,v8,rY,sI,lp,pure];exact ap (st+1) (by omega) (λi hi=>by
      rcases jH i st with a3 | a3;exact am i a3
      .obtain rfl:i=st:=by omega
       rw[ag,aw]) O
    .have be:¬xs=ys:=λq=>ay (by rw[q] at ag;rw[ag] at aw;exact f6 aw);rw[d0 be] at O;simp only[ay,decide_false,vX,sO,lp,pure];exact O
  refine Ay _ _ (key kk 0 (by omega) (λi hi=>by omega) ?_);by_cases U:xs=ys;rw[d6 U];simpa [lp,pure,U] using k;rw[d0 U];simpa [lp,pure,U] using k
 BZ {n em E ws xs s Q X} a8 ac k:=by
  obtain⟨n,rfl⟩:∃m,n=m+1:=⟨n - 1,by omega⟩;unfold Instr.checkKey;refine Ay _ _ (Cy Z ?_);simp only[Im,sO];simp only[uE,Std.Legacy.Range.size,tO,Nat.add_one_sub_one,Nat.div_one];let bd:Nat->Unit->Sem (ForInStep Unit):=λi _=>do
   Instr.checkKey em n e (← Go.part e ws.toArray (i*(← Go.sizeOf e)))
   pure (ForInStep.yield ())
  have key:∀(m st:Nat),st+m=kk->∀{K:Unit->St->Prop},K () s->lp P (forIn (List.range' st m) () bd:Sem _) s K X:=by
   intro m
   induction m with
   | zero=>
    intro st al K O;simp only[List.range'_zero,uw];exact O
   | succ m ap=>
    intro st al K O;simp only[List.range'_succ,uo];obtain⟨a,us,ag,aq,Y,av⟩:=SM ac (i:=st) (by omega);refine Ay _ _ (Ay (x:=Go.sizeOf e) _ (FC h.size ?_));refine Ay _ _ (MT h.agg (by rw[Y];exact h.size) (λq=>by rw[Y];exact h.one q) av ?_);refine Ay _ _ (h.BZ (by omega) aq ?_);exact ap (st+1) (by omega) O
  exact Ay _ _ (key kk 0 (by omega) k)
 uniq {E E' ws ws' xs} az bi:=by
  obtain⟨a1,wss,rfl,a4,c1⟩:=az;obtain⟨b1,bn,rfl,b2,c2⟩:=bi;have:wss=bn:=by
   apply List.ext_getElem (by omega);intro i hi bo;have a5:xs[i]?=some (xs[i]'(by omega)):=cT (by omega);exact h.uniq (c1 i _ _ a5 (cT hi)) (c2 i _ _ a5 (cT bo))
  rw[this]
 same {E ws xs} az w hw m:=by
  obtain⟨a1,wss,rfl,a4,c1⟩:=az;let⟨us,bv,hw⟩:=tV.1 hw;let⟨i,hi⟩:=so.1 bv;have bw:i<xs.length:=by rw[a1,← a4];exact(d7.1 hi).1
  exact h.same (c1 i _ us (cT bw) hi) w hw m
 now:=⟨_,Z,.inl λv w=>rfl⟩
theorem Cq.field{α:Type} [DecidableEq α] {pp:Rp α}{ac:Bool}{n:Nat}{f:Field}{s:St}{X:Halt->St->Prop}(h:Cq P f.type pp ac dep)(hd:dep<=n)(ag:f.name≠ "_"){E E':LH}{Y:Lv_}{x y:α}(r1:pp.r E us x)(r2:pp.r E' Y y){Z:Av_}
  (w1:∀j w,us[j]?=some w->cx[f.offset+j]?=some w) (w2:∀j w,Y[j]?=some w->Z[f.offset+j]?=some w) {K:ForInStep (Option Bool×Unit)->St->Prop}(O:K (if x=y then .yield (none,()) else .done (some false,())) s):
  lp P (if f.name≠ "_" then do
   if !(← Op.equalIn n f.type (← Go.part f.type cx f.offset) (← Go.part f.type Z f.offset)) then pure (ForInStep.done (some false,())) else pure (ForInStep.yield (none,()))
   else pure (ForInStep.yield (none,()))) s K X:=by
 rw[d6 ag]
 refine Ay _ _ (MT h.agg (by rw[pp.len r1];exact h.size) (λq=>by rw[pp.len r1];exact h.one q) w1 ?_)
 refine Ay _ _ (MT h.agg (by rw[pp.len r2];exact h.size) (λq=>by rw[pp.len r2];exact h.one q) w2 ?_)
 refine Ay _ _ (h.eq hd r1 r2 ?_)
 by_cases U:x=y;rw[d6 U] at O;simpa [lp,pure,U] using O;rw[d0 U] at O;simpa [lp,pure,U] using O
theorem Cq.N7{α:Type} [DecidableEq α] {pp:Rp α}{O em:Bool}{n:Nat}{f:Field}{s:St}{X:Halt->St->Prop}(h:Cq P f.type pp O dep)(hd:dep<=n)(U:f.name≠ "_"){E:LH}{x:α}(r1:pp.r E us x)
  (w1:∀j w,us[j]?=some w->cx[f.offset+j]?=some w) {K:ForInStep Unit->St->Prop}(Y:K (.yield ()) s):
  lp P (if f.name≠ "_" then do
   Instr.checkKey em n f.type (← Go.part f.type cx f.offset)
   pure (ForInStep.yield ())
   else pure (ForInStep.yield ())) s K X:=by
 rw[d6 U]
 refine Ay _ _ (MT h.agg (by rw[pp.len r1];exact h.size) (λq=>by rw[pp.len r1];exact h.one q) w1 ?_)
 refine Ay _ _ (h.BZ hd r1 ?_)
 exact Y
theorem Nf{r:Lv_}{o:Nat}(K:o=0):∀j w,us[j]?=some w->(us++r).toArray[o+j]?=some w:=λj w h=>by subst K;exact WJ (l:=[]) j w h
theorem QO{l r:Lv_}{o:Nat}(K:o=l.length):∀j w,us[j]?=some w->(l++(us++r)).toArray[o+j]?=some w:=λj w h=>by
 subst K
 have:=WJ (l:=l) (r:=r) j w h
 rwa[sb] at this
theorem QI{l:Lv_}{o:Nat}(K:o=l.length):∀j w,us[j]?=some w->(l++us).toArray[o+j]?=some w:=λj w h=>by
 have:=QO (r:=[]) K j w h
 rwa[r9] at this
theorem SZ{l m:Lv_}{o:Nat}(K:o=l.length+m.length):∀j w,us[j]?=some w->(l++(m++us)).toArray[o+j]?=some w:=λj w h=>by
 have:=QI (l:=l++m) (o:=o) (by simp[K]) j w h
 rwa[sb] at this
theorem Cq.two{α:Type} [DecidableEq α] [DecidableEq β] {p1:Rp α}{p2:Rp β}{av:Bool}(K:P.underlying t=some (.struct #[f1,f2]))(O:Cq P f1.type p1 a1 dep)(U:Cq P f2.type p2 av dep)(aw:P.stoodInHeld t=false)
  (n1:f1.name≠ "_") (n2:f2.name≠ "_") (ac:f1.offset=0) (ag:f2.offset=p1.n) (ay:BB P t=some (p1.n+p2.n)):Cq P t (rP p1 p2) true (dep+1) where
 agg:=by unfold DY;rw[K]
 size:=ay
 one:=λh=>by cases h
 eq {n E E' ws ws' x y s Q X} az al a0 k:=by
  obtain⟨n,rfl⟩:∃m,n=m+1:=⟨n - 1,by omega⟩;obtain⟨am,ap,rfl,r1,r2⟩:=al;obtain⟨v1,v2,rfl,Y,aq⟩:=a0;simp only[Im,sO];unfold Op.equalIn;refine Ay _ _ (Cy K ?_);refine Ay (x:=program) _ ?_;show lp P (if P.stoodInHeld t=true then _ else _) s _ _
  rw[d0 (by rw[aw];exact tI)]
  dsimp only;rw[← uP];simp only[uo,uw];refine Ay _ _ (Ay _ _ (O.field (by omega) n1 r1 Y (Nf ac) (Nf ac) ?_));by_cases Z:x.1=y.1;rw[d6 Z];refine Ay _ _ (U.field (by omega) n2 r2 aq (QI (ag.trans (p1.len r1).symm)) (QI (ag.trans (p1.len Y).symm)) ?_);by_cases e2:x.2=y.2;have e:x=y:=vJ Z e2;rw[d6 e2];simpa [lp,pure,e] using k;have e:¬x=y:=λq=>e2 (by rw[q]);rw[d0 e2];simpa [lp,pure,e] using k;have e:¬x=y:=λq=>Z (by rw[q]);rw[d0 Z];simpa [lp,pure,e] using k
 BZ {n em E ws x s Q X} az al k:=by
  obtain⟨n,rfl⟩:∃m,n=m+1:=⟨n - 1,by omega⟩;obtain⟨am,ap,rfl,r1,r2⟩:=al;simp only[Im,sO];unfold Instr.checkKey;refine Ay _ _ (Cy K ?_)
  dsimp only;rw[← uP];simp only[uo,uw];refine Ay _ _ (Ay _ _ (O.N7 (by omega) n1 r1 (Nf ac) ?_));refine Ay _ _ (U.N7 (by omega) n2 r2 (QI (ag.trans (p1.len r1).symm)) ?_);exact k
 uniq {E E' ws ws' x} a b:=by
  obtain⟨am,ap,rfl,r1,r2⟩:=a;obtain⟨v1,v2,rfl,Y,aq⟩:=b;rw[O.uniq r1 Y,U.uniq r2 aq]
 same {E ws x} a w hw m:=by
  obtain⟨am,ap,rfl,r1,r2⟩:=a;rcases kO.1 hw with hw | hw;exact O.same r1 w hw m;exact U.same r2 w hw m
 now:=⟨_,K,.inl λv w=>rfl⟩
theorem Cq.three{α a2:Type} [DecidableEq α] [DecidableEq β] [DecidableEq a2] {p1:Rp α}{p2:Rp β}{p3:Rp a2}{a4 a5:Bool}{f3:Field}(O:P.underlying t=some (.struct #[f1,f2,f3]))(U:Cq P f1.type p1 a1 dep)(Y:Cq P f2.type p2 a4 dep)(Z:Cq P f3.type p3 a5 dep)(a6:P.stoodInHeld t=false)
  (n1:f1.name≠ "_") (n2:f2.name≠ "_") (a3:f3.name≠ "_") (am:f1.offset=0) (ap:f2.offset=p1.n) (aq:f3.offset=p1.n+p2.n) (a7:BB P t=some (p1.n+(p2.n+p3.n))):Cq P t (rP p1 (rP p2 p3)) true (dep+1) where
 agg:=by unfold DY;rw[O]
 size:=a7
 one:=λh=>by cases h
 eq {n E E' ws ws' x y s Q X} a8 av a9 k:=by
  obtain⟨n,rfl⟩:∃m,n=m+1:=⟨n - 1,by omega⟩;obtain⟨aw,_,rfl,r1,ay,az,rfl,r2,r3⟩:=av;obtain⟨v1,_,rfl,K,v2,bb,rfl,ac,a0⟩:=a9;simp only[Im,sO];unfold Op.equalIn;refine Ay _ _ (Cy O ?_);refine Ay (x:=program) _ ?_;show lp P (if P.stoodInHeld t=true then _ else _) s _ _
  rw[d0 (by rw[a6];exact tI)]
  dsimp only;rw[← uP];simp only[uo,uw];refine Ay _ _ (Ay _ _ (U.field (by omega) n1 r1 K (Nf am) (Nf am) ?_));by_cases ag:x.1=y.1;rw[d6 ag];refine Ay _ _ (Y.field (by omega) n2 r2 ac (QO (ap.trans (p1.len r1).symm)) (QO (ap.trans (p1.len K).symm)) ?_);by_cases e2:x.2.1=y.2.1;rw[d6 e2];refine Ay _ _ (Z.field (by omega) a3 r3 a0 (SZ (by rw[aq,p1.len r1,p2.len r2])) (SZ (by rw[aq,p1.len K,p2.len ac])) ?_);by_cases al:x.2.2=y.2.2;have e:x=y:=vJ ag (vJ e2 al);rw[d6 al];simpa [lp,pure,e] using k;have e:¬x=y:=λq=>al (by rw[q]);rw[d0 al];simpa [lp,pure,e] using k;have e:¬x=y:=λq=>e2 (by rw[q]);rw[d0 e2];simpa [lp,pure,e] using k;have e:¬x=y:=λq=>ag (by rw[q]);rw[d0 ag];simpa [lp,pure,e] using k
 BZ {n em E ws x s Q X} a8 av k:=by
  obtain⟨n,rfl⟩:∃m,n=m+1:=⟨n - 1,by omega⟩;obtain⟨aw,_,rfl,r1,ay,az,rfl,r2,r3⟩:=av;simp only[Im,sO];unfold Instr.checkKey;refine Ay _ _ (Cy O ?_)
  dsimp only;rw[← uP];simp only[uo,uw];refine Ay _ _ (Ay _ _ (U.N7 (by omega) n1 r1 (Nf am) ?_));refine Ay _ _ (Y.N7 (by omega) n2 r2 (QO (ap.trans (p1.len r1).symm)) ?_);refine Ay _ _ (Z.N7 (by omega) a3 r3 (SZ (by rw[aq,p1.len r1,p2.len r2])) ?_);exact k
 uniq {E E' ws ws' x} a b:=by
  obtain⟨aw,_,rfl,r1,ay,az,rfl,r2,r3⟩:=a;obtain⟨v1,_,rfl,K,v2,bb,rfl,ac,a0⟩:=b;rw[U.uniq r1 K,Y.uniq r2 ac,Z.uniq r3 a0]
 same {E ws x} a w hw m:=by
  obtain⟨aw,_,rfl,r1,ay,az,rfl,r2,r3⟩:=a;rcases kO.1 hw with hw | hw;exact U.same r1 w hw m;rcases kO.1 hw with hw | hw;exact Y.same r2 w hw m;exact Z.same r3 w hw m
 now:=⟨_,O,.inl λv w=>rfl⟩
theorem Cq.key{α:Type} [DecidableEq α] {pp:Rp α}{K:Bool}(h:Cq P t pp K dep)(hd:dep<=10000):Hq P t pp K where
 BZ:=by
  rintro em E v x s Q X ⟨ws,Y,rfl⟩ k;exact h.BZ hd Y k
 kind:=by
  obtain⟨kd,O,Z⟩:=h.now;refine⟨kd,O,Z.imp id λac=>?_⟩;rintro E v w x y ⟨ws,r1,rfl⟩ ⟨ws',r2,rfl⟩;exact ac r1 r2
 eq:=by
  rintro E v w x y s Q X ⟨ws,r1,rfl⟩ ⟨ws',r2,rfl⟩ k;exact h.eq hd r1 r2 k
 same:=by
  rintro E v x ⟨ws,r1,rfl⟩;cases K with
  | false=>
   obtain⟨w,rfl⟩:∃w,ws=[w]:=by
    have:=(pp.len r1).trans (h.one V)
    match ws,this with
    | [w],_=>exact⟨w,rfl⟩
   exact h.same r1 w (by simp) 9999
  | true=>
   show(ws.toArray.size==ws.toArray.size&&(ws.toArray.toList.zip ws.toArray.toList).all λ(x,y)=>Instr.sameBits 9999 x y)=true;rw[f5];refine⟨by simp,lH.2 ?_⟩;rintro⟨a,b⟩ ag;have O:∀(l:Lv_) a b,(a,b)∈l.zip l->a=b/\a∈l:=by
    intro l
    induction l with
    | nil=>intro a b h;simp at h
    | cons c l U=>
     intro a b h;simp only[uQ,iC,d9] at h;rcases h with⟨rfl,rfl⟩ | h;exact⟨V,by simp⟩;exact⟨(U a b h).1,f4 _ (U a b h).2⟩
   obtain⟨rfl,hm⟩:=O _ a b ag;exact h.same r1 a (by simpa using hm) 9998
 uniq:=by
  rintro E v w x ⟨ws,r1,rfl⟩ ⟨ws',r2,rfl⟩;rw[h.uniq r1 r2]
section
variable {x y:Operand}
theorem Ss{α:Type} [DecidableEq α] {pp:Rp α}{a b:α}(h:Cq P t pp true dep)(hd:dep<=10000)(K:P.eqGuardType P.depth t=false)(r1:pp.r E ws a)(r2:pp.r E' ws' b)(O:ρ x=.agg ws.toArray)(U:ρ y=.agg ws'.toArray):Yl P ⟨d,.binOp .neq t x y u,ty,p,af,g⟩ ρ s (.bool (decide (a≠b))):=by
 refine FY (sm:=do eqGuard .neq t x y (ρ x) (ρ y);binOp .neq t (ρ x) (ρ y)) V ?_
 rw[O,U];refine Ay _ _ (bH (.inr V) K ?_);have hb:binOp .neq t (.agg ws.toArray) (.agg ws'.toArray)=(do pure (.bool (!(← Op.equal t (.agg ws.toArray) (.agg ws'.toArray))))):=V
 rw[hb];exact Ay (x:=Op.equal t _ _) _ (h.eq hd r1 r2 ⟨by simp,V⟩)
end
end
theorem Y9{E H:LH}{B:List (Nat×Obj)}(i:Nat){bk:Nat}{o:Obj}(K:Nd E H B)(h:B[i]?=some (bk,o)):∃E',Le E E'/\E' bk=some o/\Nd E' H (B.eraseIdx i)/\Cx (mk E H B) (mk E' H (B.eraseIdx i)):=by
 have ap:=r7 h;have aq:E bk=none/\H bk=none:=by
  have:∀{B:List (Nat×Obj)},Nd E H B->(bk,o)∈B->E bk=none/\H bk=none:=by
   intro B K O
   induction B with
   | nil=>simp at O
   | cons q B Y=>
    rcases iC.1 O with rfl | O;exact⟨K.1,K.2.1⟩;exact Y K.2.2.2 O
  exact this K ap
 let E':LH:=λx=>if x=bk then some o else E x
 have ag:E' bk=some o:=by simp[E']
 have hle:Le E E':=λx u U=>by
  have:x≠bk:=λe=>by subst e;rw[aq.1] at U;cases U
  simp[E',this,U]
 have av:Nd E' H (B.eraseIdx i):=by
  have:∀{B:List (Nat×Obj)}{i:Nat},Nd E H B->B[i]?=some (bk,o)->Nd E' H (B.eraseIdx i)/\∀p∈B.eraseIdx i,p.1≠bk:=by
   intro B
   induction B with
   | nil=>intro i _ h;simp at h
   | cons q B Y=>
    obtain⟨c,v⟩:=q;intro i K h;have up:∀{B:List (Nat×Obj)},Nd E H B->(∀p∈B,p.1≠bk)->Nd E' H B:=by
     intro B K al
     induction B with
     | nil=>trivial
     | cons q B aw=>exact⟨by simpa [E',al q (by simp)] using K.1,K.2.1,K.2.2.1,aw K.2.2.2 λp O=>al p (f4 _ O)⟩
    cases i with
    | zero=>
     simp at h;obtain⟨rfl,rfl⟩:=h;exact⟨up K.2.2.2 K.2.2.1,K.2.2.1⟩
    | succ i=>
     simp at h;let⟨Z,ac⟩:=Y K.2.2.2 h;have am:c≠bk:=λe=>K.2.2.1 (bk,o) (r7 h) e.symm;refine⟨⟨by simpa [E',am] using K.1,K.2.1,λp O=>K.2.2.1 p (ti O),Z⟩,λp O=>?_⟩;rcases iC.1 O with rfl | O;exact am;exact ac p O
  exact(this K h).1
 refine⟨E',hle,ag,av,⟨λx u U=>hle x u U,λx u U=>(NF K h U).2,λx u U=>?_,V⟩⟩;by_cases e:x=bk
 .subst e;right;have:u=o:=by have:E' x=some u:=U;rw[ag] at this;exact(f6 this).symm
  subst this;refine⟨Ks K h,?_⟩;cases ay:(mk E' H (B.eraseIdx i)).H x with
  | none=>rfl
  | some y=>exact absurd rfl (NF K h ay).1
 .left;have Z:E' x=some u:=U;have ac:E' x=E x:=by simp[E',e]
  show E x=some u;rw[← ac];exact Z
variable{K:Nat}
theorem YV{E H:LH}{B0:List (Nat×Obj)}{e:TypeId}{l c:Nat}{a:Option Addr}{blk:List (Nat×Obj)}{xs:Lv_}(ag:GS e K a l c blk xs)(U:Nd E H (B0++blk)):∃E',Le E E'/\Rb E' K (.slice a l c) l xs/\Nd E' H B0/\Cx (mk E H (B0++blk)) (mk E' H B0):=by
 rcases ag with⟨rfl,rfl,rfl,rfl,rfl⟩ | ⟨bk,f,rfl,rfl,al,Y,rfl⟩;simp only[r9] at U ⊢;exact⟨E,Le.refl _,.nil,U,.refl _⟩
 .have am:(B0++ [(bk,Obj.cells f e (0,0))])[B0.length]?=some (bk,Obj.cells f e (0,0)):=by simp
  let⟨E',hle,ap,Z,ac⟩:=Y9 B0.length U am;have aq:(B0++ [(bk,Obj.cells f e (0,0))]).eraseIdx B0.length=B0:=by rw[tD (rJ _)];simp
  rw[aq] at Z ac;refine⟨E',hle,⟨_,c,V,Y,?_,.inr ⟨bk,0,f,e,(0,0),V,ap,λj w O=>?_⟩⟩,Z,ac⟩;have:l*K<=c*K:=sH _ Y;simp[al,tN this];rw[ta] at O;split at O;simpa using O;cases O
variable{seg:Seg}
theorem Y6{α:Type}{pp:Rp α}{E H:LH}{S:List Seg}{e:TypeId}{a:Option Addr}{c:Nat}{xs:List α}(j:Nat)(U:OL e pp E a c seg xs)(ap:Av E H S)(aq:S[j]?=some seg):∃E',Le E E'/\Ao pp E' a c xs/\Av E' H (S.set j [])/\Cx (Ak E H S) (Ak E' H (S.set j [])):=by
 obtain⟨wss,U,ac,ag⟩:=U;have av:∀ad:Addr,a=some ad->ad.spot=none:=λad K=>by
  rcases U with⟨O,_⟩ | ⟨bk,f,O,_⟩;rw[O] at K;cases K;rw[O] at K;cases K;rfl
 let⟨O,aw⟩:=HB ap aq;let⟨E',hle,ay,az,al⟩:=YV U aw;rw[← O] at al;refine⟨E',hle,?_,az,al⟩;obtain⟨a0,a1,Y,a2,a7,Z⟩:=ay;obtain⟨rfl,-,rfl⟩:a=a0/\xs.length=xs.length/\c=a1:=by
  simp only[Value.slice.injEq] at Y;exact⟨Y.1,V,Y.2.2⟩
 refine⟨a2,?_⟩;rcases Z with Z | ⟨bk,off,f,a3,fr,a4,g2,a5⟩;exact .inl ⟨sa Z,λad K=>.inl (av ad K)⟩
 .refine .inr ⟨bk,off,a4,λi x am=>?_⟩;have a6:i<wss.length:=by rw[ac];exact(d7.1 am).1
  have hw:=cT a6;refine⟨wss[i],pp.M hle (ag i x _ am hw),f,a3,fr,g2,λm w hm=>?_⟩;rw[t9];exact a5 _ w (LK (Je ac ag) hw m w hm)
variable{s₀:St}
theorem Cx.get{s:St}(h:Cx s s₀){b:Nat}{o:Obj}(K:s₀.get b=some o):s.get b=some o:=by
 unfold St.get at K ⊢;cases O:s₀.E b with
 | some o'=>
  rw[O] at K;simp only at K;cases K;rcases h.Fy _ _ O with U | ⟨U,_⟩;rw[U]
  .cases he:s.E b with
   | none=>exact U
   | some Y=>
    have:=h.ext _ _ he;rw[O] at this;cases this;rfl
 | none=>
  rw[O] at K;simp only at K;cases he:s.E b with
  | none=>exact h.own _ _ K
  | some Y=>
   have:=h.ext _ _ he;rw[O] at this;cases this
theorem Cx.upd{s:St}(h:Cx s s₀){b:Nat}(o:Obj)(hb:(∃u,s₀.H b=some u)∨s₀.E b=none):Cx (s.upd b o) (s₀.upd b o):=by
 refine⟨h.ext,λx u K=>?_,λx u K=>?_,h.q⟩;simp only[St.upd] at K ⊢;by_cases e:x=b;rw[d6 e] at K ⊢;exact K;rw[d0 e] at K ⊢;exact h.own _ _ K
 .have O:s₀.E x=some u:=K;rcases h.Fy _ _ O with U | ⟨U,Y⟩;exact .inl U
  .refine .inr ?_;have e:x≠b:=λe=>by
    subst e;rcases hb with⟨w,hw⟩ | hb;rw[hw] at Y;cases Y;rw[hb] at O;cases O
   simp only[St.upd,d0 e];exact⟨U,Y⟩
theorem Cx.none{s:St}(h:Cx s s₀){b:Nat}(U:s.E b=none)(O:s.H b=none):s₀.E b=none/\s₀.H b=none:=by
 constructor
 .cases he:s₀.E b with
  | none=>rfl
  | some o=>
   rcases h.Fy _ _ he with K | ⟨K,_⟩;rw[U] at K;cases K;rw[O] at K;cases K
 .cases he:s₀.H b with
  | none=>rfl
  | some o=>have:=h.own _ _ he;rw[O] at this;cases this
theorem dp{P:Program}{α:Type}(x:Sem α):∀{s s₀:St}{Q:α->St->Prop}{X:Halt->St->Prop},Cx s s₀->lp P x s₀ Q X->lp P x s (λa s'=>∃Z,Cx s' Z/\Q a Z) (λh s'=>∃Z,Cx s' Z/\X h Z):=by
 induction x with
 | pure a=>intro s s₀ Q X g h;exact⟨s₀,g,h⟩
 | load m a k K=>
  intro s s₀ Q X g h;obtain⟨O,v,U,Y⟩:=h;let⟨o,al,am⟩:=tT.1 U;exact⟨O,v,by unfold St.cell?;rw[g.get al];exact am,K v g Y⟩
 | store m a v k K=>
  intro s s₀ Q X g h;obtain⟨O,U,o,Y,ap,aq,av⟩:=h;exact⟨O,U,o,g.own _ _ Y,ap,aq,K (g.upd _ (.inl ⟨o,Y⟩)) av⟩
 | new o k K=>
  intro s s₀ Q X g h;refine⟨by rw[← g.q];exact h.1,λr O U=>?_⟩;let⟨ag,e2⟩:=g.none O U;exact K r (g.upd _ (.inr ag)) (h.2 r ag e2)
 | shape r k K=>intro s s₀ Q X g h;obtain⟨o,O,U⟩:=h;exact⟨o,g.get O,K _ g U⟩
 | freeze a n k K=>intro s s₀ Q X g h;exact h.elim
 | frozen a k K=>intro s s₀ Q X g h;obtain⟨o,O,U⟩:=h;exact⟨o,g.get O,K _ g U⟩
 | getObj r k K=>intro s s₀ Q X g h;obtain⟨o,O,U,Y⟩:=h;exact⟨o,g.get O,U,K _ g Y⟩
 | setObj r o k K=>
  intro s s₀ Q X g h;obtain⟨⟨o',O,aw⟩,U,Y⟩:=h;exact⟨⟨o',g.own _ _ O,aw⟩,U,K (g.upd _ (.inl ⟨o',O⟩)) Y⟩
 | choose q k K=>
  intro s s₀ Q X g h;simp only[lp] at h ⊢;split;rename_i ac;rw[d6 ac] at h;exact K _ g h;rename_i ac;rw[d0 ac] at h;exact⟨by rw[← g.q];exact h.1,λt=>K _ g (h.2 t)⟩
 | sys c k K=>intro s s₀ Q X g h;exact h.elim
 | program k K=>intro s s₀ Q X g h;exact K _ g h
 | mark m k K=>
  intro s s₀ Q X g h;refine⟨?_,K g h.2⟩;rcases h.1 with⟨O,U⟩ | O;exact .inl ⟨by rw[← g.q];exact O,U⟩;exact .inr O
 | halt h=>intro s s₀ Q X g ay;exact⟨s₀,g,ay⟩
variable {J:Judge P}{Q:Gs_}{n:Nat}{ds:Ld_}{ops:Ao_}{k:Li_}{cs:Lf_}{m:Nat}{D:Nat->Bool}{L:Env}{H:LH}{S:List Seg}
variable {v:Value}{kd:IntKind}
variable{args:Array Operand}{ats:Array TypeId}{R:Value->LH->Seg->Prop}{S':List Seg}
section
variable {b:Frame}{fuel:Nat}{listed:Array Bool}
variable {x y:Operand}{e:TypeId}{i:Nat}
theorem R4(j:Nat)(a0:∀x,D x=true->∃(O:Nat) (o:Obj),(S.set j [])[O]?=some [(x,o)])(a1:AZ J f vs E seg R)(a2:Region.ready .any ops listed=[i])
  (a3:ops[i]?=some ⟨d,.call ⟨.value (.func f),args,ats⟩,ty,p,af,g⟩) (a4:Bz n d=true) (hw:A2 L ops ⟨d,.call ⟨.value (.func f),args,ats⟩,ty,p,af,g⟩=some true) (hb:El P f=true) (a5:evs L args.toList=some vs) (Z:Av E H S) (ac:S[j]?=some seg)
  (a6:∀v E' seg',Le E E'->R v E' seg'->Av E' H (S.set j seg')->A3 J Q b n ds ops k cs m D fuel (Bp listed i) (AA L d v) (Ak E' H (S.set j seg'))):
  A3 J Q b n ds ops k cs m D (fuel+1) listed L (Ak E H S):=by
 have al:S.flatten.Perm (seg++(S.set j []).flatten):=(EU (seg':=seg) ac).1.trans r0;have am:Nd E H (seg++(S.set j []).flatten):=Nd.perm Z al;have a7:Ak E H S=mk E (By (S.set j []).flatten H) seg:=by
  rw[show Ak E H S=mk E H S.flatten from rfl,FK Z al];unfold mk;rw[Gm]
 have ap:=Fj.Mk (a1 (By (S.set j []).flatten H) (Nd.front am)) (by rintro v s' ⟨E',B',_,_,_,rfl⟩;rfl);rw[← a7] at ap;refine A3.call V a2 a3 a4 hw hb a5 ap ?_;rintro v bw ⟨⟨E',B',hle,a8,a9,rfl⟩,w,bb⟩;have e2:mk E' (By (S.set j []).flatten H) B'=mk E' H (B'++(S.set j []).flatten):=by unfold mk;rw[Gm]
 have be:Nd E H (S.set j []).flatten:=by
  have:=am;rw[Nd.iff] at this ⊢;rw[sB,sR] at this;exact⟨this.1.2.1,λq bi=>this.2 q (sc _ bi)⟩
 have bn:Nd E' H (S.set j []).flatten:=be.grow λx U=>by
  have bo:=bb.d x U;have ag:By B' (By (S.set j []).flatten H) x=none:=bo;exact(IA ag).1
 have aq:Nd E' H (B'++(S.set j []).flatten):=Nd.glue a9 bn;have av:(B'++(S.set j []).flatten).Perm (S.set j B').flatten:=r0.trans (EU ac).2.symm;have aw:Av E' H (S.set j B'):=Nd.perm aq av;rw[e2,FK aq av];refine⟨V,λx o U=>?_,a6 v E' B' hle a8 aw⟩;by_cases hd:D x=true
 .let⟨O,o',Y⟩:=a0 x hd;have ay:j≠O:=λh=>by
   subst h;rw[tE (d7.1 ac).1] at Y;cases Y
  have az:S[O]?=some [(x,o')]:=by rw[tb ay] at Y;exact Y
  have ag:(Ak E H S).get x=some o':=Ed (i:=0) Z az V;have bv:(Ak E' H (S.set j B')).get x=some o':=Ed (i:=0) aw (by rw[tb ay];exact az) rfl;have K:(if D x then(Ak E H S).get x else E x)=some o:=U
  show(if D x then(Ak E' H (S.set j B')).get x else E' x)=some o
  rw[d6 hd] at K ⊢;rw[bv,← ag];exact K
 .have K:(if D x then(Ak E H S).get x else E x)=some o:=U
  show(if D x then(Ak E' H (S.set j B')).get x else E' x)=some o
  rw[d0 hd] at K ⊢;exact hle _ _ K
theorem A3.perm(K:S.flatten.Perm S'.flatten)(O:Av E H S)(h:Av E H S'->A3 J Q b n ds ops k cs m D fuel listed L (Ak E H S')):A3 J Q b n ds ops k cs m D fuel listed L (Ak E H S):=by
 have e:Ak E H S=Ak E H S':=FK O K;rw[e];exact h (Nd.perm O K)
theorem JA.ghost:∀(fuel:Nat) {listed:Array Bool}{T:Av_}{s s₀:St},Cx s s₀->JA J Q b ds ops k cs m Ec fuel listed T s₀->JA J Q b ds ops k cs m Ec fuel listed T s
 | 0,listed,T,s,s₀,g,h=>⟨h.1,J.ghost g h.2⟩
 | fuel+1,listed,T,s,s₀,g,h=>by
  rcases h with⟨O,U⟩ | ⟨O,U,ac⟩;exact .inl ⟨O,λt=>J.ghost g (U t)⟩
  .refine .inr ⟨O,by rw[← g.q];exact U,λi hi o ag=>?_⟩;let⟨a1,al,am⟩:=ac i hi o ag;refine⟨a1,λe=>JA.ghost fuel g (al e),λe=>?_⟩;have ap:=dp _ (s:=BC Ec s) (s₀:=BC Ec s₀) g (am e);refine Es _ ap ?_ (λ_ s' ⟨_,_,h⟩=>h);intro aq s' K;obtain⟨Y,Z,K⟩:=K;cases aq with
   | value v=>exact JA.ghost fuel (s:=s') (s₀:=Y) Z K
   | skip=>exact JA.ghost fuel (s:=s') (s₀:=Y) Z K
   | enter f args=>
    obtain⟨R,av,aw⟩:=K;refine⟨R,λQ c cs ay=>J.ghost (s:=s') (s₀:=Y) Z (av Q c cs ay),λv az a0=>?_⟩;let⟨a2,a3,a4⟩:=aw v az a0;exact⟨a2,λx o K=>a3 x o (g.ext x o K),a4⟩
   | _=>exact K.elim
theorem GR{α:Type}{pp:Rp α}{a:Option Addr}{c:Nat}{xs:List α}(j:Nat)(K:OL e pp E a c seg xs)(O:Av E H S)(U:S[j]?=some seg)
  (h:∀E',Le E E'->Ao pp E' a c xs->Av E' H (S.set j [])->A3 J Q b n ds ops k cs m Ec fuel listed L (Ak E' H (S.set j []))):A3 J Q b n ds ops k cs m Ec fuel listed L (Ak E H S):=λT Y=>by
 let⟨E',Z,ac,ag,al⟩:=Y6 j K O U
 exact JA.ghost _ al (h E' Z ac ag T Y)
end
theorem oi{α:Type}{a b:α}(h:some a=some b):a=b:=f6 h
theorem bs{α:Type}{o:Option α}{f:α->Option β}{r:β}(h:o.bind f=some r):∃x,o=some x/\f x=some r:=bind_some h
def Jj(L:Env):Env->List (Option Value)
 | []=>[]
 | (t,_)::L'=>look L t::Jj L L'
def Jp:Env->List (Option Value)
 | []=>[]
 | (_,v)::L'=>some v::Jp L'
theorem Qu{L:Env}:∀{L':Env},Jj L L'=Jp L'->Sub L' L
 | [],_=>trivial
 | (t,v)::L',h=>by
  simp only[Jj,Jp,u7] at h
  exact⟨h.1,Qu h.2⟩
variable {L':Env}{k':Li_}{rest:List Nat}
variable {op:Op}
section
variable {b:Frame}{i:Nat}
theorem Fh(L':Env)(h:Jj L L'=Jp L')(k':JL J Q b n L' ds k cs s):JL J Q b n L ds k cs s:=EV (Qu h) k'
theorem Az(k':JL J Q b n L' ds k cs s)(h:Jj L L'=Jp L'):JL J Q b n L ds k cs s:=EV (Qu h) k'
def F2(b:Frame)(n:Nat)(L:Env)(ops:Ao_)(i:Nat):Option Oper:=
 match KF ops.toList i with
 | some ⟨d,op,ty,p,af,g⟩=>match A2 L ops ⟨d,op,ty,p,af,g⟩ with
  | some true=>match BZ b n ⟨d,op,ty,p,af,g⟩ with
   | true=>some ⟨d,op,ty,p,af,g⟩
   | false=>none
  | _=>none
 | none=>none
theorem LW{o:Oper}(h:F2 b n L ops i=some o):ops[i]?=some o/\A2 L ops o=some true/\BZ b n o=true:=by
 unfold F2 at h;split at h;rename_i K;rw[MX,sM] at K;split at h;rename_i hw;split at h;rename_i O;cases h;exact⟨K,hw,O⟩;cases h;cases h;cases h
theorem An(K:F2 b n L ops i=some ⟨d,op,ty,p,af,g⟩)(h:∀ρ,Ft L ρ->Yl P ⟨d,op,ty,p,af,g⟩ ρ s v)(O:JL J Q b n (AA L d v) ds (.inRegion ops rest::k) cs s):
  JL J Q b n L ds (.inRegion ops (i::rest)::k) cs s:=
 let ⟨U,Y,Z⟩:=LW K
 Bi U Y Z h O
theorem MZ{c:Code}{E:LH}{B:Seg}(O:P.funcs[f]?=some fn)(hb:fn.body=some c)(U:Nat.ble vs.length fn.ntmps=true)
  (h:∀(Q:Gs_) (K:Frame) (cs:Lf_) (H:LH),Av E H [B]->(∀v E' S' B',Le E E'->S'.flatten=B'->R v E' B'->Av E' H S'->J.ok Q (G (K.finish v) cs) (Ak E' H S'))->JL J Q (base f) fn.ntmps (GY 0 vs) [] [.code c] (K::cs) (Ak E H [B])):AZ J f vs E B R:=
 AZ.enter O hb (rT U) h
def Rd(n:Nat)(L:Env)(ops:Ao_)(i:Nat):Option Env:=
 match KF ops.toList i with
 | some ⟨d,op,ty,p,af,g⟩=>match A2 L ops ⟨d,op,ty,p,af,g⟩ with
  | some true=>match Bz n d with
   | true=>match Ms L op with
    | some v=>match d with
     | some d=>some ((d,v)::L)
     | none=>some L
    | none=>none
   | false=>none
  | some false=>match Bz n d with
   | true=>match d with
    | some d=>some ((d,undef)::L)
    | none=>some L
   | false=>none
  | none=>none
 | none=>none
def HI(n:Nat)(L:Env)(ops:Ao_)(i:Nat):Option Oper:=
 match KF ops.toList i with
 | some ⟨d,op,ty,p,af,g⟩=>match A2 L ops ⟨d,op,ty,p,af,g⟩ with
  | some true=>match Bz n d with
   | true=>some ⟨d,op,ty,p,af,g⟩
   | false=>none
  | _=>none
 | none=>none
theorem RL{o:Oper}(h:HI n L ops i=some o):ops[i]?=some o/\A2 L ops o=some true/\Bz n o.dst=true:=by
 unfold HI at h;split at h;rename_i K;rw[MX,sM] at K;split at h;rename_i hw;split at h;rename_i O;cases h;exact⟨K,hw,O⟩;cases h;cases h;cases h
theorem cZ(h:Rd n L ops i=some L'):∃o,ops[i]?=some o/\Bz n o.dst=true/\((∃v,A2 L ops o=some true/\Ms L o.op=some v/\L'=AA L o.dst v)∨(A2 L ops o=some false/\L'=AA L o.dst undef)):=by
 unfold Rd at h;split at h
 .rename_i d op ty p af g O;rw[MX,sM] at O;refine⟨_,O,?_⟩;split at h
  .rename_i hw;split at h
   .rename_i K;refine⟨K,.inl ?_⟩;split at h
    .rename_i v U;refine⟨v,hw,U,?_⟩;cases d with
     | none=>cases h;rfl
     | some d=>cases h;rfl
    .cases h
   .cases h
  .rename_i hw;split at h
   .rename_i K;refine⟨K,.inr ⟨hw,?_⟩⟩;cases d with
    | none=>cases h;rfl
    | some d=>cases h;rfl
   .cases h
  .cases h
 .cases h
variable {fuel:Nat}{listed:Array Bool}
theorem DW(i:Nat)(K:EC ops m=true)(O:s.q=false)(h:Rd n L ops i=some L')
  (U:A3 J Q b n ds ops k cs m D fuel (Bp listed i) L' s) (Y:G1 ops listed m i=true:=by decide+kernel):A3 J Q b n ds ops k cs m D (fuel+1) listed L s:=by
 obtain⟨o,Z,ac,⟨v,hw,ag,rfl⟩ | ⟨hw,rfl⟩⟩:=cZ h;exact JG.val i Z K Y O hw ac (λρ al s' _=>P8 al ag) U;exact kW i Z K Y O hw ac U
theorem AU(i:Nat)(K:EC ops m=true)(O:s.q=false)(U:HI n L ops i=some ⟨d,op,ty,p,af,g⟩)
  (Y:∀ρ,Ft L ρ->∀s':St,(∀x o,(BC D s).E x=some o->s'.E x=some o)->Yl P ⟨d,op,ty,p,af,g⟩ ρ s' v)
  (Z:A3 J Q b n ds ops k cs m D fuel (Bp listed i) (AA L d v) s) (ac:G1 ops listed m i=true:=by decide+kernel):A3 J Q b n ds ops k cs m D (fuel+1) listed L s:=by
 let⟨ag,al,am⟩:=RL U;exact JG.val i ag K ac O al am Y Z
end
abbrev Jn(E H E':LH)(S:List Seg)(K L:Env)(s:St)(R:Prop):Prop:=L=K/\s=Ak E' H S/\Le E E'/\Av E' H S/\R
abbrev Jm(E H E':LH)(S:List Seg)(K L:Env)(s:St):Prop:=L=K/\s=Ak E' H S/\Le E E'/\Av E' H S
def Q0(L:Env):List ResultVar->Option (Lv_)
 | []=>some []
 | .tmp t::rs=>match look L t with
  | some v=>match Q0 L rs with
   | some vs=>some (v::vs)
   | none=>none
  | none=>none
 | _=>none
theorem Wn{P:Program}{L:Env}{s:St}:∀{rs:List ResultVar}{vs:Lv_},Q0 L rs=some vs->RV P L s rs vs
 | [],vs,h=>by cases h;trivial
 | .tmp t::rs,vs,h=>by
  unfold Q0 at h
  split at h
  .rename_i v K
   split at h;rename_i ws hw;cases h;exact⟨K,Wn hw⟩;cases h
  .cases h
 | .cell _ _::_,_,h=>by cases h
variable {ft:TypeId}
variable{m':Int}{O Y:Nat}{U:Array Field}
section
variable {b:Frame}{i:Nat}
variable {x y:Operand}{e:TypeId}
theorem AW{c:Frame}(O:P.funcs[b.fn]?=some fn)(K:(b.kind== .normal&&b.roundOf.isNone)=true)(U:Q0 L fn.results.toList=some vs)(h:J.ok Q (G (c.finish (P1 vs)) cs) s):JL J Q b n L [] (.code .ret::k) (c::cs) s:=by
 simp only[f5,tr,Option.isNone_iff_eq_none] at K;exact JL.ret K.1 K.2 (BL.list O V (Wn U)) h
theorem BW
  (O:AZ J f vs E [] R) (U:F2 b n L ops i=some ⟨d,.call ⟨.value (.func f),args,ats⟩,ty,p,af,g⟩) (Y:evs L args.toList=some vs) (hb:El P f=true)
  (Z:Av E H S) (ac:∀v E' seg',Le E E'->R v E' seg'->Av E' H (S++ [seg'])->JL J Q b n (AA L d v) ds (.inRegion ops rest::k) cs (Ak E' H (S++ [seg']))):
  JL J Q b n L ds (.inRegion ops (i::rest)::k) cs (Ak E H S):=by
 let⟨ag,al,K⟩:=LW U;refine JS.call O ag al ?_ hb Y Z ac;simp only[BZ,f5] at K ⊢;exact⟨K.1,K.2.1⟩
theorem Co{v:Value}
  (O:AZ J f vs E [] (λw E' B'=>w=v/\B'=[])) (U:F2 b n L ops i=some ⟨d,.call ⟨.value (.func f),args,ats⟩,ty,p,af,g⟩) (Y:evs L args.toList=some vs) (hb:El P f=true)
  (K:Av E H S) (Z:∀E',Le E E'->Av E' H (S++ [[]])->JL J Q b n (AA L d v) ds (.inRegion ops rest::k) cs (Ak E' H (S++ [[]]))):
  JL J Q b n L ds (.inRegion ops (i::rest)::k) cs (Ak E H S):=BW O U Y hb K (by rintro _ E' _ hle ⟨rfl,rfl⟩ K;exact Z E' hle K)
theorem Cg(j:Nat)
  (O:AZ J f vs E seg R) (U:F2 b n L ops i=some ⟨d,.call ⟨.value (.func f),args,ats⟩,ty,p,af,g⟩) (Y:evs L args.toList=some vs) (hb:El P f=true)
  (Z:Av E H S) (ac:S[j]?=some seg) (ag:∀v E' seg',Le E E'->R v E' seg'->Av E' H (S.set j seg')->JL J Q b n (AA L d v) ds (.inRegion ops rest::k) cs (Ak E' H (S.set j seg'))):
  JL J Q b n L ds (.inRegion ops (i::rest)::k) cs (Ak E H S):=by
 let⟨al,am,K⟩:=LW U;refine VU j O al am ?_ hb Y Z ac ag;simp only[BZ,f5] at K ⊢;exact⟨K.1,K.2.1⟩
def Od(K:Array Field)(i:Nat):Option (Nat×TypeId):=match K[i]? with
 | some f=>some (f.offset,f.type)
 | none=>none
theorem Bt{r m:Int}{u:TypeId}(h:Au (m+m')=some r)(K:F2 b n L ops i=some ⟨d,.binOp .add t x y u,ty,p,af,g⟩)(O:ev L x=some (iV m))(U:ev L y=some (iV m'))
  (Y:JL J Q b n (AA L d (iV r)) ds (.inRegion ops rest::k) cs s):JL J Q b n L ds (.inRegion ops (i::rest)::k) cs s:=An K (λ_ q=>DX (q _ _ O) (q _ _ U) h) Y
theorem BY{r m:Int}{u:TypeId}(h:Au (m - m')=some r)(K:F2 b n L ops i=some ⟨d,.binOp .sub t x y u,ty,p,af,g⟩)(O:ev L x=some (iV m))(U:ev L y=some (iV m'))
  (Y:JL J Q b n (AA L d (iV r)) ds (.inRegion ops rest::k) cs s):JL J Q b n L ds (.inRegion ops (i::rest)::k) cs s:=An K (λ_ q=>EB (q _ _ O) (q _ _ U) h) Y
theorem JL.ln{a:Option Addr}{e:TypeId}{l c:Nat}(K:P.underlying t=some (.slice e))(O:F2 b n L ops i=some ⟨d,.call ⟨.builtin .len,#[x],ats⟩,ty,p,af,g⟩)(U:ats[0]?=some t)(Y:ev L x=some (.slice a l c))
  (Z:JL J Q b n (AA L d (.int .i64 l)) ds (.inRegion ops rest::k) cs s):JL J Q b n L ds (.inRegion ops (i::rest)::k) cs s:=An O (λ_ q=>Yl.len U K (q _ _ Y)) Z
theorem JL.fd{bk o:Nat}(Z:P.underlying t=some (.struct U))(ac:BB P ft=some (O+1))(ag:F2 b n L ops i=some ⟨d,.fieldAddr t x Y,ty,p,af,g⟩)(al:ev L x=some (.pointer (some ⟨bk,o,none⟩)))(K:Od U Y=some (off,ft))
  (am:JL J Q b n (AA L d (.pointer (some ⟨bk,o+off,none⟩))) ds (.inRegion ops rest::k) cs s):
  JL J Q b n L ds (.inRegion ops (i::rest)::k) cs s:=by
 unfold Od at K;split at K;rename_i f ap;cases K;refine An ag (λρ h=>Hk (a:=⟨bk,o,none⟩) O f.offset Z ac ap V V (h _ _ al)) ?_;rw[Et rfl];exact am;cases K
theorem CH{bk o:Nat}{ws:Lv_}(j:Nat)(K:At E bk o ws)(O:DY P t=some false)(U:F2 b n L ops i=some ⟨d,.load t x,ty,p,af,g⟩)(Y:ev L x=some (.pointer (some ⟨bk,o+j,none⟩)))(Z:ws[j]?=some v)
  (ac:JL J Q b n (AA L d v) ds (.inRegion ops rest::k) cs (Ak E H S)):
  JL J Q b n L ds (.inRegion ops (i::rest)::k) cs (Ak E H S):=
 An U (λ_ h=>Yl.load O (h _ _ Y) (At.Ky K Z)) ac
theorem X8{bk:Nat}{c:Av_}(j:Nat)(K:Av E H S)(O:BB P t=some v.cells.size)(U:F2 b n L ops i=some ⟨d,.store t x y,ty,p,af,g⟩)
  (Y:ev L x=some (.pointer (some ⟨bk,off,none⟩))) (Z:ev L y=some v) (ac:S[j]?=some [(bk,.cells c e (0,0))])
  (h:Av E H (S.set j [(bk,.cells (Bc c off v.cells.toList) e (0,0))])->JL J Q b n (AA L d undef) ds (.inRegion ops rest::k) cs (Ak E H (S.set j [(bk,.cells (Bc c off v.cells.toList) e (0,0))])))
  (hle:off+v.cells.size<=c.size:=by exact rT rfl) (ag:∀u∈v.cells.toList,C5 u=true:=by simp[Value.cells,C5]):
  JL J Q b n L ds (.inRegion ops (i::rest)::k) cs (Ak E H S):=by
 let⟨al,am,ap⟩:=LW U;exact JS.store j al am ap K Y Z O ag ac hle h
theorem B6{bk o:Nat}{ws:Lv_}(K:At E bk o ws)(O:DY P t=some true)(U:BB P t=some ws.length)(Y:F2 b n L ops i=some ⟨d,.load t x,ty,p,af,g⟩)(Z:ev L x=some (.pointer (some ⟨bk,o,none⟩)))
  (ac:JL J Q b n (AA L d (.agg ws.toArray)) ds (.inRegion ops rest::k) cs (Ak E H S)):
  JL J Q b n L ds (.inRegion ops (i::rest)::k) cs (Ak E H S):=
 An Y (λ_ h=>Jc O U (h _ _ Z) (At.Tk K)) ac
variable {fuel:Nat}{listed:Array Bool}
theorem JG.fd{bk o:Nat}(i:Nat)(Z:EC ops m=true)(ac:P.underlying t=some (.struct U))(ag:BB P ft=some (O+1))(al:s.q=false)(am:HI n L ops i=some ⟨d,.fieldAddr t x Y,ty,p,af,g⟩)(ap:ev L x=some (.pointer (some ⟨bk,o,none⟩)))(K:Od U Y=some (off,ft))
  (aq:A3 J Q b n ds ops k cs m D fuel (Bp listed i) (AA L d (.pointer (some ⟨bk,o+off,none⟩))) s) (av:G1 ops listed m i=true:=by decide+kernel):A3 J Q b n ds ops k cs m D (fuel+1) listed L s:=by
 unfold Od at K;split at K;rename_i f aw;cases K;refine AU i Z al am (λρ h _ _=>Hk (a:=⟨bk,o,none⟩) O f.offset ac ag aw V V (h _ _ ap)) ?_ av;rw[Et rfl];exact aq;cases K
theorem DC{bk o:Nat}{ws:Lv_}(i:Nat)(K:EC ops m=true)(j:Nat)(O:At (BC D s).E bk o ws)(U:DY P t=some false)(Y:s.q=false)(Z:HI n L ops i=some ⟨d,.load t x,ty,p,af,g⟩)(ac:ev L x=some (.pointer (some ⟨bk,o+j,none⟩)))(ag:ws[j]?=some v)
  (al:A3 J Q b n ds ops k cs m D fuel (Bp listed i) (AA L d v) s) (am:G1 ops listed m i=true:=by decide+kernel):A3 J Q b n ds ops k cs m D (fuel+1) listed L s:=
 AU i K Y Z (λ_ h _ ap=>Yl.load U (h _ _ ac) (At.J5 O ap ag)) al am
theorem Kv{bk o:Nat}{ws:Lv_}(i:Nat)(K:EC ops m=true)(O:At (BC D s).E bk o ws)(U:DY P t=some true)(Y:BB P t=some ws.length)(Z:s.q=false)(ac:HI n L ops i=some ⟨d,.load t x,ty,p,af,g⟩)(ag:ev L x=some (.pointer (some ⟨bk,o,none⟩)))
  (al:A3 J Q b n ds ops k cs m D fuel (Bp listed i) (AA L d (.agg ws.toArray)) s) (am:G1 ops listed m i=true:=by decide+kernel):A3 J Q b n ds ops k cs m D (fuel+1) listed L s:=
 AU i K Z ac (λ_ h _ ap=>Jc U Y (h _ _ ag) (At.Tg O ap)) al am
end
abbrev TX:=Int×List Int×Nat
abbrev AT:=List (Int×Int)
abbrev Cl:=List Int×Int×Nat
abbrev As:=Option Addr
abbrev EP:Rp (Int×Int):=rP rI rI
theorem ip{α:Type}{p:Prop} [Decidable p] {A B:Option α}{r:α}(h:(if p then A else B)=some r)(c:p):A=some r:=by rwa[d6 c] at h
theorem im{α:Type}{p:Prop} [Decidable p] {A B:Option α}{r:α}(h:(if p then A else B)=some r)(c:¬p):B=some r:=by rwa[d0 c] at h
theorem ib{α:Type}{c:Bool}{A B:Option α}{r:α}(h:(if c=true then A else B)=some r)(K:c=false):B=some r:=by subst K;simpa using h
def TK(n:Nat)(ops:Ao_):List Nat->Nat->Env->Option (Nat×Env)
 | [],f,L=>some (f,L)
 | i::l,f+1,L=>match Rd n L ops i with
  | some L'=>TK n ops l f L'
  | none=>none
 | _::_,0,_=>none
def Tx(ops:Ao_)(m:Nat):Array Bool->List Nat->Bool
 | _,[]=>true
 | listed,i::l=>G1 ops listed m i&&Tx ops m (Bp listed i) l
def Yv:Array Bool->List Nat->Array Bool
 | listed,[]=>listed
 | listed,i::l=>Yv (Bp listed i) l
theorem A5{P:Program}{J:Judge P}{Q:Gs_}{b:Frame}{n:Nat}{ds:Ld_}{k:Li_}{cs:Lf_}{s:St}{ops:Ao_}{m:Nat}{D:Nat->Bool}{L':Env}{c2:Nat}(Y:EC ops m=true)(Z:s.q=false):
  ∀(l:List Nat) {fuel:Nat}{listed:Array Bool}{L:Env},TK n ops l fuel L=some (c2,L')->A3 J Q b n ds ops k cs m D c2 (Yv listed l) L' s->(K:Tx ops m listed l=true:=by decide+kernel)->A3 J Q b n ds ops k cs m D fuel listed L s
 | [],fuel,listed,L,h,O,_=>by cases h;exact O
 | i::l,fuel,listed,L,h,O,K=>by
  cases fuel with
  | zero=>cases h
  | succ fuel=>
   unfold Tx at K;rw[f5] at K;unfold TK at h;split at h;rename_i ac e;exact DW i Y Z e (A5 Y Z l h O K.2) K.1;cases h
theorem zg{P:Program}{J:Judge P}{Q:Gs_}{b:Frame}{n:Nat}{L L':Env}{ds:Ld_}{k k':Li_}{cs:Lf_}{s:St}(m:Nat)(h:Qi b n m k L=some (k',L'))(K:JL J Q b n L' ds k' cs s):JL J Q b n L ds k cs s:=JL.go m h K
abbrev C:=@zg
abbrev bX(r:Nat)(c:Av_)(t:TypeId):Seg:=[(r,.cells c t (0,0))]
variable {α:Type}{A B:Option α}{r:α}
variable{p1:Int}
section
variable {b:Frame}
theorem AX{c:Operand}{x y:Code}{p:Prop} [Decidable p] (K:(if p then A else B)=some r)(O:p->A=some r->JL J Q b n L ds (.code x::k) cs s)(U:¬p->B=some r->JL J Q b n L ds (.code y::k) cs s)
  (Y:ev L c=some (.bool (decide p)):=by exact rfl):JL J Q b n L ds (.code (.cond c x y)::k) cs s:=GX Y (λh=>O h (ip K h)) λh=>U h (im K h)
theorem Cp{c:Operand}{x y:Code}{t:Bool}(K:(if t=true then A else B)=some r)(O:t=true->A=some r->JL J Q b n L ds (.code x::k) cs s)(U:t=false->B=some r->JL J Q b n L ds (.code y::k) cs s)
  (Y:ev L c=some (.bool t):=by exact rfl):JL J Q b n L ds (.code (.cond c x y)::k) cs s:=Sc Y (λh=>O h (ip K h)) λh=>U h (ib K h)
theorem Jq{q:Prop} [Decidable q] (i:Nat)(K:(if q then A else B)=some r)(O:q->A=some r->JL J Q b n (AA L (some i) (.bool true)) ds k cs s)(U:¬q->B=some r->JL J Q b n (AA L (some i) (.bool false)) ds k cs s)
  (Y:look L i=some (.bool (decide q)):=by exact rfl):JL J Q b n L ds k cs s:=NJ Y (λh=>O h (ip K h)) λh=>U h (im K h)
theorem EM{t:Bool}(i:Nat)(K:(if t=true then A else B)=some r)(O:t=true->A=some r->JL J Q b n (AA L (some i) (.bool true)) ds k cs s)(U:t=false->B=some r->JL J Q b n (AA L (some i) (.bool false)) ds k cs s)
  (Y:look L i=some (.bool t):=by exact rfl):JL J Q b n L ds k cs s:=LR Y (λh=>O h (ip K h)) λh=>U h (ib K h)
theorem Ch{O:Type}{c:Code}{body:β->Option (Bm β O)}{f:Nat}{U:β}{a:O}(Z:iter body f U=some a)(I:Env->St->β->Prop)(ac:I L' s U)
  (round:∀L s x,I L s x->(∀Y,body x=some (.done Y)->Y=a)->(∃st,body x=some st)->(∀L' s' x',I L' s' x'->body x=some (.more x')->JL J Q b n L' ds (.inLoop c::k) cs s')->JL J Q b n L ds (.code c:: .inLoop c::k) cs s)
  (ag:Jj L L'=Jp L':=by exact rfl):JL J Q b n L ds (.code (.loop c)::k) cs s:=Fh L' ag (VS Z I ac round)
variable {fuel:Nat}{listed:Array Bool}
def QP(ops:Ao_):Array Bool->List Nat->Bool
 | _,[]=>true
 | l,i::t=>Region.ready .any ops l== [i]&&QP ops (Bp l i) t
theorem V9:∀{t:List Nat}{l:Array Bool},QP ops l t=true->∀u,Region.linearise.go .any ops t.length u l []=t
 | [],_,_,_=>rfl
 | i::t,l,h,u=>by
  unfold QP at h
  rw[f5,tr] at h
  exact iq h.1 (V9 h.2) u
theorem De(t:List Nat)(O:JL J Q b n L ds (.inRegion ops t::k) cs s)(K:(Tl m listed&&QP ops listed t&&(fuel+1==t.length))=true:=by decide+kernel):A3 J Q b n ds ops k cs m D (fuel+1) listed L s:=by
 rw[f5,f5,tr] at K;exact A3.leaf K.1.1 (by rw[K.2];exact V9 K.1.2) O
theorem Fu(m:Nat){id:Nat}(h:EC ops m=true->A3 J Q b n ds ops k cs m Ec ops.size (Array.replicate ops.size false) L (Ak E H S))(hm:P.follows .mixedOrders=true:=by exact rfl)(K:(b.kind != .early)=true:=by exact rfl)(O:EC ops m=true:=by decide+kernel):
  JL J Q b n L ds (.code (.region id ops true)::k) cs (Ak E H S):=cn m hm K O h
theorem EF(m:Nat)(bks:List Nat){id:Nat}(K:H7 S bks)(O:Av E H S)(h:EC ops m=true->A3 J Q b n ds ops k cs m (AG bks) ops.size (Array.replicate ops.size false) L (Ak E H S))(hm:P.follows .mixedOrders=true:=by exact rfl)(U:(b.kind != .early)=true:=by exact rfl)(Y:EC ops m=true:=by decide+kernel):
  JL J Q b n L ds (.code (.region id ops true)::k) cs (Ak E H S):=cO m bks K O hm U Y h
theorem Ew{α:Type}{pp:Rp α}{a:Option Addr}{c:Nat}{xs:List α}{xv:α}{d:Option Tmp}{x y:Operand}{t ty e:TypeId}{p:String}{af:Ae_}{g:On_}{kd:IntKind}(i:Nat)(O:Ao pp E a c xs)(U:ix xs p1=some xv)(Y:EC ops m=true)(Z:P.underlying t=some (.slice e))(ac:BB P e=some pp.n)
  (h:∀bk o ws,pp.r E ws xv->At E bk o ws->A3 J Q b n ds ops k cs m D fuel (Bp listed i) (AA L d (.pointer (some ⟨bk,o,none⟩))) s)
  (ag:ops[i]?=some ⟨d,.indexAddr t x y,ty,p,af,g⟩:=by exact rfl) (al:G1 ops listed m i=true:=by decide+kernel) (am:s.q=false:=by exact rfl)
  (hw:A2 L ops ⟨d,.indexAddr t x y,ty,p,af,g⟩=some true:=by exact rfl) (ap:Bz n d=true:=by exact rfl)
  (aq:ev L x=some (.slice a xs.length c):=by exact rfl) (av:ev L y=some (.int kd p1):=by exact rfl):
  A3 J Q b n ds ops k cs m D (fuel+1) listed L s:=il i O U ag Y al am hw ap aq av Z ac h
end
theorem Ff{P:Program}{J:Judge P}{Q:Gs_}{b:Frame}{n:Nat}{ds:Ld_}{ops:Ao_}{k:Li_}{cs:Lf_}{m:Nat}{D:Nat->Bool}{listed:Array Bool}{L L':Env}{s:St}(k':A3 J Q b n ds ops k cs m D c2 listed L' s)(h:Jj L L'=Jp L'):A3 J Q b n ds ops k cs m D c2 listed L s:=Dy (Qu h) k'
instance {α:Type} [DecidableEq α] (xs:List α):Decidable (xs=[]):=inferInstance
variable {w:Value}
section
variable {b:Frame}{i:Nat}
variable {x y:Operand}{e:TypeId}
end
section
variable {b:Frame}{fuel:Nat}{listed:Array Bool}
variable {x y:Operand}{e:TypeId}{i:Nat}
theorem Pf{s:St}{D:Nat->Bool}{i j l:Nat}(K:s.q=false)(O:Region.ready .any ops listed=[i,j,l])(hi:Take J Q b n ds ops k cs m D fuel listed L s i)(U:Take J Q b n ds ops k cs m D fuel listed L s j)(Y:Take J Q b n ds ops k cs m D fuel listed L s l):A3 J Q b n ds ops k cs m D (fuel+1) listed L s:=
 RI K O (by simp) (by intro q K;simp at K;rcases K with rfl | rfl | rfl<;>assumption)
end
theorem Ao.cut{α:Type}{pp:Rp α}{E:LH}{a:Option Addr}{c:Nat}{xs ys:List α}{lo hi:Int}(Y:Ao pp E a c xs)(hC:Ho xs lo hi=some ys):
  ∃Z ac,Ao pp E Z ac ys/\∀{P:Program}{ρ:Operand->Value}{s:St}{d:Option Tmp}{x:Operand}{t ty e:TypeId}{p:String}{af:Ae_}{g:On_}{olo ohi:Option Operand},P.underlying t=some (.slice e)->BB P e=some pp.n->ρ x=.slice a xs.length c->
   (match ohi with | some w=>ρ w=iV hi | none=>hi=xs.length)->(match olo with | some w=>ρ w=iV lo | none=>lo=0)->Yl P ⟨d,.slice t x olo ohi none,ty,p,af,g⟩ ρ s (.slice Z ys.length ac):=by
 unfold Ho at hC;split at hC
 rotate_left
 .cases hC
 rename_i hb;obtain⟨a1,a2,ap⟩:=hb;cases hC;obtain⟨lo,rfl⟩:∃l:Nat,lo=l:=⟨lo.toNat,by omega⟩;obtain⟨hi,rfl⟩:∃l:Nat,hi=l:=⟨hi.toNat,by omega⟩;simp only[sJ] at*;have a3:=Y.1;have hlen:((xs.take hi).drop lo).length=hi - lo:=by simp;omega
 have ag:∀ad:Addr,a=some ad->ad.spot=none∨c=0:=λad K=>by
  rcases Y.2 with⟨_,h⟩ | ⟨bk,off,h,_⟩;exact h ad K;rw[h] at K;cases K;exact .inl V
 refine⟨if c=lo then a else a.map (·.add (lo*pp.n)),c - lo,⟨by rw[hlen];omega,?_⟩,?_⟩
 .by_cases aq:hi - lo=0
  .left;refine⟨sa (by rw[hlen];exact aq),λad K=>?_⟩;split at K;(exact(ag ad K).imp id λh=>by omega)
   .cases a with
    | none=>cases K
    | some av=>
     simp only[sU,sQ] at K;subst K;exact .inl (by rw[Et ((ag av rfl).resolve_right (by omega))])
  .right;rcases Y.2 with⟨h,_⟩ | ⟨bk,off,rfl,O⟩;subst h;simp at ap;omega;refine⟨bk,off+lo*pp.n,?_,λq z U=>?_⟩;rw[d0 (by omega),sU,Et rfl];rw[uO,ta] at U;split at U;let⟨ws,aw,al⟩:=O _ z U;refine⟨ws,aw,?_⟩;rw[tM] at al;rw[t9];exact al;cases U
 .intro P ρ s d x t ty e p af g olo ohi ay az a0 O am;rw[hlen];refine Yl.slice (mx:=c) (hi:=hi) (lo:=lo) ay az a0 V ?_ ?_ (rJ _) (by omega) (by omega)
  .cases ohi with
   | none=>exact⟨by simp only at O;omega,rfl⟩
   | some w=>exact O
  .cases olo with
   | none=>simp only at am;show lo=0;omega
   | some w=>exact am
section
variable {b:Frame}{fuel:Nat}{listed:Array Bool}
theorem IC{S1:List Seg}(K:S=S1)(O:S1.Perm S')(U:Av E H S)(h:Av E H S'->A3 J Q b n ds ops k cs m D fuel listed L (Ak E H S')):A3 J Q b n ds ops k cs m D fuel listed L (Ak E H S):=by
 subst K;exact A3.perm O.flatten U h
end
variable {e2:TypeId}
variable{s':St}
section
variable {b:Frame}{i:Nat}
variable {x y:Operand}{e:TypeId}
def Ln(E:LH):Nat->Bool:=λx=>(E x).isNone
theorem kM(x:Nat):(BC (Ln E) (Ak E H S)).E x=(Ak E H S).get x:=by
 show(if Ln E x then(Ak E H S).get x else E x)=_
 unfold Ln;cases h:E x with
 | none=>simp
 | some o=>
  rw[d0 (by simp)];unfold St.get;rw[show(Ak E H S).E x=some o from h]
theorem TF(K:∀x o,(BC (Ln E) (Ak E H S)).E x=some o->s'.E x=some o){x:Nat}{o:Obj}(h:(Ak E H S).get x=some o):s'.get x=some o:=by
 have:=K x o (by rw[kM];exact h);unfold St.get;rw[this]
theorem Oh(K:∀x o,(BC (Ln E) (Ak E H S)).E x=some o->s'.E x=some o){a:Addr}{v:Value}(h:(Ak E H S).cell? a=some v):s'.cell? a=some v:=by
 let⟨o,O,U⟩:=tT.1 h;unfold St.cell?;rw[TF K O];exact U
theorem Xa(K:∀x o,(BC (Ln E) (Ak E H S)).E x=some o->s'.E x=some o){a:Addr}(h:∀(i:Nat) v,vs[i]?=some v->(Ak E H S).cell? (Addr.add a i)=some v):∀(i:Nat) v,vs[i]?=some v->s'.cell? (Addr.add a i)=some v:=λi v O=>Oh K (h i v O)
theorem Tt(m:Nat){id:Nat}(h:EC ops m=true->A3 J Q b n ds ops k cs m (Ln E) ops.size (Array.replicate ops.size false) L (Ak E H S))(hm:P.follows .mixedOrders=true:=by exact rfl)(K:(b.kind != .early)=true:=by exact rfl)(O:EC ops m=true:=by decide+kernel):
  JL J Q b n L ds (.code (.region id ops true)::k) cs (Ak E H S):=R6 m (Ln E) V hm K (h O)
abbrev rs(q:Nat×Obj)(K:Seg)(p:Nat×Obj)(g2:Seg):Seg:=q::(K++ [p]++g2)
end
variable {o:Obj}{xs:List (κ×ν)}{v0:ν}
variable {kk:Li_}
variable {z:Operand}{x0:κ}
variable{todo:Li_}{es:Array MapEntry}{seen:Array Nat}
section
variable [DecidableEq κ]
def KN(xs:List (κ×ν)):Prop:=(xs.map (·.1)).Nodup
theorem KN.perm{xs ys:List (κ×ν)}(h:KN xs)(p:ys.Perm xs):KN ys:=((p.map (λq:κ×ν=>q.1)).nodup_iff).2 h
theorem Vg{xs:List (κ×ν)}(h:KN xs){x:κ}{v:ν}:Bg xs x=some v↔(x,v)∈xs:=by
 induction xs with
 | nil=>simp[Bg]
 | cons y ys U=>
  have O:y.1 ∉ ys.map (·.1)/\KN ys:=by simpa [KN] using h
  by_cases e:x=y.1
  .subst e;have K:Bg (y::ys) y.1=some y.2:=by simp[Bg]
   rw[K];constructor;intro q;cases q;simp;intro q;rcases iC.1 q with q | q;rw[← q];exact absurd (sj.2 ⟨_,q,V⟩) O.1
  .have K:Bg (y::ys) x=Bg ys x:=by simp[Bg,e]
   rw[K,U O.2];constructor;intro q;exact f4 _ q;intro q;rcases iC.1 q with q | q;exact absurd (by rw[← q]) e;exact q
theorem UH{xs ys:List (κ×ν)}(h:KN xs)(p:ys.Perm xs)(x:κ):Bg ys x=Bg xs x:=by
 apply Option.ext;intro v;rw[Vg h,Vg (h.perm p),p.mem_iff]
def Ee(xs:List (κ×ν))(x:κ):List (κ×ν):=xs.filter λy=>decide (x≠y.1)
theorem UM{xs:List (κ×ν)}{x:κ}(h:∀y∈xs,x≠y.1):Ee xs x=xs:=vm.2 λy K=>by simpa using h y K
theorem Pa{x:κ}{v:ν}:∀{xs:List (κ×ν)},KN xs->(Cm xs x v).Perm ((x,v)::Ee xs x)
 | [],_=>.refl _
 | y::ys,h=>by
  have K:y.1 ∉ ys.map (·.1)/\KN ys:=by simpa [KN] using h
  unfold Cm;by_cases e:x=y.1
  .rw [d6 e];have e2:Ee (y::ys) x=ys:=by
    have:Ee (y::ys) x=Ee ys x:=by simp[Ee,e]
    rw[this];exact UM λz O q=>K.1 (sj.2 ⟨z,O,by rw[← q,e]⟩)
   rw[e2]
  .rw [d0 e];have e2:Ee (y::ys) x=y::Ee ys x:=by simp[Ee,e]
   rw[e2];exact((Pa K.2).cons y).trans (List.Perm.swap _ _ _)
theorem RX{xs ys:List (κ×ν)}(p:ys.Perm xs)(x:κ):(Ee ys x).Perm (Ee xs x):=p.filter _
theorem ZQ{xs ys:List (κ×ν)}(h:KN xs)(p:ys.Perm xs)(x:κ)(v:ν):(Cm ys x v).Perm (Cm xs x v):=
 (Pa (h.perm p)).trans (((RX p x).cons _).trans (Pa h).symm)
theorem KN.del{xs:List (κ×ν)}(h:KN xs)(x:κ):KN (Ee xs x):=by
 unfold KN Ee;exact List.Nodup.sublist (List.Sublist.map _ List.filter_sublist) h
theorem KN.put{xs:List (κ×ν)}(h:KN xs)(x:κ)(v:ν):KN (Cm xs x v):=by
 refine KN.perm ?_ (Pa h);unfold KN;simp only[sN,un];refine⟨λq=>?_,h.del x⟩;let⟨z,K,e⟩:=sj.1 q;have:=(tQ.1 K).2;simp at this;exact this e.symm
def B3(pk:Rp κ)(ka:Bool)(pv:Rp ν)(va:Bool)(E:LH)(o:Obj)(xs:List (κ×ν)):Prop:=KN xs/\∃ys,ys.Perm xs/\Mm pk ka pv va E o ys
theorem B3.M{o:Obj}{xs:List (κ×ν)}(h:B3 pk ka pv va E o xs)(hle:Le E E'):B3 pk ka pv va E' o xs:=
 let ⟨K,ys,O,U⟩:=h;⟨K,ys,O,U.M hle⟩
theorem B3.perm{o:Obj}{xs ys:List (κ×ν)}(h:B3 pk ka pv va E o xs)(p:ys.Perm xs):B3 pk ka pv va E o ys:=
 let ⟨K,O,U,Y⟩:=h;⟨K.perm p,O,U.trans p.symm,Y⟩
theorem B3.nil:B3 pk ka pv va E (.map #[] 0) []:=⟨vr,[],.refl _,⟨#[],0,V,trivial,.nil,by simp⟩⟩
def rM(pk:Rp κ)(ka:Bool)(pv:Rp ν)(va:Bool):Rp (List (κ×ν)):=⟨1,λE ws xs=>∃bk o,ws=[.map (some bk)]/\E bk=some o/\B3 pk ka pv va E o xs,
 λhle ⟨bk,o,h,K,O⟩=>⟨bk,o,h,hle _ _ K,O.M hle⟩,λ⟨bk,o,h,_,_⟩=>by subst h;rfl,λ⟨bk,o,h,_,_⟩ w hw=>by subst h;simp at hw;subst hw;rfl⟩
section
variable {bk:Nat}{k:Value}{x:κ}
theorem ZJ(K:Hq P t pk ka)(hm:P.underlying tm=some (.map t te)){z:Value}{z0:ν}(O:zeroOf P te=some z)(U:Vr pv va E z z0)(Y:s.get bk=some o)(Z:B3 pk ka pv va E o xs)(ac:Vr pk ka E k x)(ok:Bool){Q:Value->St->Prop}
  (h:∀w,Vr pv va E w ((Bg xs x).getD z0)->Q (if ok then .tuple #[w,.bool (Bg xs x).isSome] else w) s):lp P (Instr.lookup tm (.map (some bk)) k ok) s Q X:=by
 obtain⟨ag,ys,al,am⟩:=Z;refine bj K hm O U Y am ac ok ?_;rw[UH ag al];exact h
theorem Y3(O:Hq P t pk ka)(hm:P.underlying tm=some (.map t te))(U:s.get bk=some o)(Y:s.H bk=some o)(Z:B3 pk ka pv va E o xs)(ac:Vr pk ka E k x)(hw:Vr pv va E w v0){Q:Unit->St->Prop}
  (h:∀o',B3 pk ka pv va E o' (Cm xs x v0)->Q () (s.upd bk o')):lp P (Instr.mapUpdate tm (.map (some bk)) k w) s Q X:=by
 obtain⟨K,ys,ag,al⟩:=Z;exact Zf O hm U Y al ac hw λo' am=>h o' ⟨K.put _ _,_,ZQ K ag _ _,am⟩
theorem Ez.erase(Y:Vr pk ka E k x):∀{es:List MapEntry}{ys:List (κ×ν)}{i:Nat},Ez pk ka pv va E es ys->KN ys->
  (G7 x es ys i=none/\Ee ys x=ys)∨∃j u,G7 x es ys i=some (i+j,u)/\Ez pk ka pv va E (es.eraseIdx j) (Ee ys x)
 | [],[],i,_,_=>.inl ⟨rfl,rfl⟩
 | e::es,y::ys,i,h,Z=>by
  have U:y.1 ∉ ys.map (·.1)/\KN ys:=by simpa [KN] using Z
  unfold G7;by_cases K:x=y.1
  .refine .inr ⟨0,e.val,by rw[d6 K];rfl,?_⟩;have e2:Ee (y::ys) x=ys:=by
    have:Ee (y::ys) x=Ee ys x:=by simp[Ee,K]
    rw[this];exact UM λz ac q=>U.1 (sj.2 ⟨z,ac,by rw[← q,K]⟩)
   rw[e2];exact h.2.2
  .have e2:Ee (y::ys) x=y::Ee ys x:=by simp[Ee,K]
   rcases Ez.erase Y (i:=i+1) h.2.2 U.2 with⟨a1,O⟩ | ⟨j,u,a1,O⟩;exact .inl ⟨by rw[d0 K];exact a1,by rw[e2,O]⟩;refine .inr ⟨j+1,u,by rw[d0 K,a1];congr 2;omega,?_⟩;rw[e2];exact⟨h.1,h.2.1,O⟩
 | [],_::_,_,h,_=>h.elim
 | _::_,[],_,h,_=>h.elim
theorem ZV(ag:Hq P t pk ka)(hm:P.underlying tm=some (.map t te))(av:s.get bk=some o)(al:s.H bk=some o)(aw:B3 pk ka pv va E o xs)(K:Vr pk ka E k x){u:TypeId}{Q:Value->St->Prop}
  (h:∀o',B3 pk ka pv va E o' (Ee xs x)->Q (.tuple #[]) (s.upd bk o')):lp P (Builtin.delete_ #[tm,t] u #[.map (some bk),k]) s Q X:=by
 obtain⟨O,ys,U,es,c,rfl,Y,am,ap⟩:=aw;unfold Builtin.delete_;simp only[si,s3,tA];refine Ay _ _ (Cy hm ?_)
 dsimp only;refine Ay _ _ ?_;unfold getObj;simp only[bind,Sem.bind,lp];refine⟨_,av,V,?_⟩;refine Ay (x:=Instr.checkKey _ 10000 t k) _ (ag.BZ K ?_);refine Ay (x:=Instr.findKey t k es.toList) _ (RD ag K Y ?_);rcases Ez.erase K (i:=0) Y (O.perm U) with⟨Z,e2⟩ | ⟨j,u,Z,e2⟩;rw[Z];simp only[setObj,lp,pure];refine⟨⟨_,al,V⟩,V,h _ ⟨O.del _,_,RX U x,es,c,V,by rw[e2];exact Y,am,ap⟩⟩
 .rw [Z];simp only[setObj,lp,pure];have aq:(es.toList.eraseIdx j).Sublist es.toList:=List.eraseIdx_sublist _ _;have ac:(es.eraseIdxIfInBounds (0+j)).toList=es.toList.eraseIdx j:=by rw[tx];simp
  refine⟨⟨_,al,V⟩,V,h _ ⟨O.del _,_,RX U x,_,c,V,by rw[ac];exact e2,?_,?_⟩⟩;rw[ac];exact am.sublist (aq.map _);rw[ac];exact λe he=>ap e (aq.subset he)
end
section
variable {b:Frame}
variable {x y:Operand}{e:TypeId}{i bk:Nat}{k:Value}
theorem Yl.lookup{zv v:Value}{z0:ν}{ok:Bool}(K:Hq P t pk ka)(hm:P.underlying tm=some (.map t te))(O:zeroOf P te=some zv)(U:Vr pv va E zv z0)(Y:B3 pk ka pv va E o xs)(Z:Vr pk ka E k x0)
  (ac:∀w,Vr pv va E w ((Bg xs x0).getD z0)->(if ok then .tuple #[w,.bool (Bg xs x0).isSome] else w)=v) (ag:ρ x=.map (some bk)) (al:ρ y=k) (am:s.get bk=some o):Yl P ⟨d,.lookup tm x y ok,ty,p,af,g⟩ ρ s v:=by
 refine FY (sm:=Instr.lookup tm (ρ x) (ρ y) ok) V ?_;rw[ag,al];exact ZJ K hm O U am Y Z ok λw hw=>⟨ac w hw,V⟩
theorem JS.makeMap(K:ops[i]?=some ⟨d,.makeMap t none,ty,p,af,g⟩)(hw:A2 L ops ⟨d,.makeMap t none,ty,p,af,g⟩=some true)(O:BZ b n ⟨d,.makeMap t none,ty,p,af,g⟩=true)(U:Av E H S)
  (h:∀r,Av E H (S++ [[(r,.map #[] 0)]])->JL J Q b n (AA L d (.map (some r))) ds (.inRegion ops rest::kk) cs (Ak E H (S++ [[(r,.map #[] 0)]]))):
  JL J Q b n L ds (.inRegion ops (i::rest)::kk) cs (Ak E H S):=
 JL.op K hw O λρ am=>by
  show lp P (do pure (Next.value (← Instr.makeMap t none))) _ _ _
  refine Ay _ _ ?_
  unfold Instr.makeMap
  simp only[newObj,bind,Sem.bind,pure,lp]
  refine⟨rfl,λr Y Z=>?_⟩
  let⟨ac,ag⟩:=K1 Y Z (.map #[] 0) U
  let⟨p1,p2⟩:=F6 ac
  have al:(Ak E H S).upd r (.map #[] 0)=Ak E H (S++ [[(r,.map #[] 0)]]):=by rw[← p1,← ag];rfl
  show JL J Q b n (AA L d (.map (some r))) ds (.inRegion ops rest::kk) cs ((Ak E H S).upd r (.map #[] 0));rw[al];exact h r p2
theorem JS.mapUpdate(j:Nat)(Y:Hq P t pk ka)(hm:P.underlying tm=some (.map t te))(Z:B3 pk ka pv va E o xs)(ac:Vr pk ka E k x0)(ag:Vr pv va E w v0)(K:Av E H S)(O:S[j]?=some [(bk,o)])
  (al:ops[i]?=some ⟨d,.mapUpdate tm x y z,ty,p,af,g⟩) (hw:A2 L ops ⟨d,.mapUpdate tm x y z,ty,p,af,g⟩=some true) (am:BZ b n ⟨d,.mapUpdate tm x y z,ty,p,af,g⟩=true) (ap:ev L x=some (.map (some bk))) (aq:ev L y=some k) (av:ev L z=some w)
  (h:∀o',B3 pk ka pv va E o' (Cm xs x0 v0)->Av E H (S.set j [(bk,o')])->JL J Q b n (AA L d undef) ds (.inRegion ops rest::kk) cs (Ak E H (S.set j [(bk,o')]))):
  JL J Q b n L ds (.inRegion ops (i::rest)::kk) cs (Ak E H S):=
 JL.op al hw am λρ U=>by
  show lp P (do Instr.mapUpdate tm (ρ x) (ρ y) (ρ z);pure Next.skip) _ _ _
  rw[U _ _ ap,U _ _ aq,U _ _ av]
  refine Ay _ _ (Y3 Y hm (Ed (i:=0) K O rfl) (Lj K O) Z ac ag λo' aw=>?_)
  let⟨ay,az⟩:=LZ K O o'
  rw[ay]
  exact h o' aw az
theorem Zd{at1:TypeId}(j:Nat)(Y:Hq P t pk ka)(hm:P.underlying tm=some (.map t te))(Z:B3 pk ka pv va E o xs)(ac:Vr pk ka E k x0)(K:Av E H S)(O:S[j]?=some [(bk,o)])
  (ag:ops[i]?=some ⟨d,.call ⟨.builtin .delete,#[x,y],#[tm,t]⟩,ty,p,af,g⟩) (hw:A2 L ops ⟨d,.call ⟨.builtin .delete,#[x,y],#[tm,t]⟩,ty,p,af,g⟩=some true) (al:BZ b n ⟨d,.call ⟨.builtin .delete,#[x,y],#[tm,t]⟩,ty,p,af,g⟩=true) (am:ev L x=some (.map (some bk))) (ap:ev L y=some k)
  (h:∀o',B3 pk ka pv va E o' (Ee xs x0)->Av E H (S.set j [(bk,o')])->JL J Q b n (AA L d (.tuple #[])) ds (.inRegion ops rest::kk) cs (Ak E H (S.set j [(bk,o')]))):
  JL J Q b n L ds (.inRegion ops (i::rest)::kk) cs (Ak E H S):=
 JL.op ag hw al λρ U=>by
  have aq:execOp ρ ⟨d,.call ⟨.builtin .delete,#[x,y],#[tm,t]⟩,ty,p,af,g⟩=(do pure (Next.value (← Builtin.delete_ #[tm,t] ty #[ρ x,ρ y]))):=by
   simp[execOp,resolve,Deferred.ofValue,invoke,bind,Sem.bind,pure,Go.builtin]
  rw[aq,U _ _ am,U _ _ ap];refine Ay _ _ (ZV Y hm (Ed (i:=0) K O rfl) (Lj K O) Z ac λo' av=>?_);let⟨aw,ay⟩:=LZ K O o';rw[aw];exact h o' av ay
theorem RB(j:Nat)(O:Av E H S)(U:S[j]?=some [(bk,o)])
  (h:∀E',Le E E'->E' bk=some o->Av E' H (S.set j [])->JL J Q b n L ds todo cs (Ak E' H (S.set j []))):JL J Q b n L ds todo cs (Ak E H S):=by
 let⟨Y,Z⟩:=HB O U;rw[Y];have ac:((S.set j []).flatten++ [(bk,o)])[(S.set j []).flatten.length]?=some (bk,o):=by simp
 refine JL.freeze (S.set j []).flatten.length Z ac λE' hle ag K=>?_;have al:((S.set j []).flatten++ [(bk,o)]).eraseIdx (S.set j []).flatten.length=(S.set j []).flatten:=by rw[tD (rJ _)];simp
 rw[al] at K ⊢;exact h E' hle ag K
theorem UN{α:Type}{m:Nat}{f:Nat->Sem α}{s:St}{Q:α->St->Prop}{X:Halt->St->Prop}(hm:0<m)(K:s.q=false)(h:∀i,i<m->lp P (f i) s Q X):lp P ((choose (.mapNext m)).bind f) s Q X:=by
 simp only[choose,Sem.bind,lp];split;exact h 0 hm;exact⟨K,λt=>h _ (uU _ hm)⟩
theorem JS.range{c:Nat}(hm:P.underlying tm=some (.map t te))(K:(Ak E H S).get bk=some (.map es c))(O:ops[i]?=some ⟨d,.range tm x,ty,p,af,g⟩)(hw:A2 L ops ⟨d,.range tm x,ty,p,af,g⟩=some true)(U:BZ b n ⟨d,.range tm x,ty,p,af,g⟩=true)(Y:Av E H S)
  (Z:ev L x=some (.map (some bk)))
  (h:∀r,Av E H (S++ [[(r,.mapIter (some bk) c #[] c)]])->JL J Q b n (AA L d (.pointer (some ⟨r,0,none⟩))) ds (.inRegion ops rest::kk) cs (Ak E H (S++ [[(r,.mapIter (some bk) c #[] c)]]))):
  JL J Q b n L ds (.inRegion ops (i::rest)::kk) cs (Ak E H S):=
 JL.op O hw U λρ ac=>by
  show lp P (do pure (Next.value (← Instr.range tm (ρ x)))) _ _ _
  rw[ac _ _ Z]
  refine Ay _ _ ?_
  unfold Instr.range
  refine Ay _ _ (Cy hm ?_)
  simp only[getObj,newObj,bind,Sem.bind,pure,lp]
  refine⟨_,K,rfl,rfl,λr ag al=>?_⟩
  let⟨am,ap⟩:=K1 ag al (.mapIter (some bk) c #[] c) Y
  let⟨p1,p2⟩:=F6 am
  have aq:(Ak E H S).upd r (.mapIter (some bk) c #[] c)=Ak E H (S++ [[(r,.mapIter (some bk) c #[] c)]]):=by rw[← p1,← ap];rfl
  show JL J Q b n (AA L d (.pointer (some ⟨r,0,none⟩))) ds (.inRegion ops rest::kk) cs ((Ak E H S).upd r (.mapIter (some bk) c #[] c));rw[aq];exact h r p2
theorem JS.next{c r:Nat}(j:Nat)(am:(Ak E H S).get bk=some (.map es c))(hb:∀e∈es.toList,e.born<c)(K:Av E H S)(O:S[j]?=some [(r,.mapIter (some bk) c seen c)])
  (ap:ops[i]?=some ⟨d,.next x false,ty,p,af,g⟩) (hw:A2 L ops ⟨d,.next x false,ty,p,af,g⟩=some true) (aq:BZ b n ⟨d,.next x false,ty,p,af,g⟩=true) (U:ev L x=some (.pointer (some ⟨r,0,none⟩)))
  (av:∀e∈es.toList,e.born ∉ seen->Av E H (S.set j [(r,.mapIter (some bk) c (seen.push e.born) c)])->JL J Q b n (AA L d (.tuple #[.bool true,e.key,e.val])) ds (.inRegion ops rest::kk) cs (Ak E H (S.set j [(r,.mapIter (some bk) c (seen.push e.born) c)])))
  (aw:(∀e∈es.toList,e.born∈seen)->JL J Q b n (AA L d (.tuple #[.bool false])) ds (.inRegion ops rest::kk) cs (Ak E H S)):
  JL J Q b n L ds (.inRegion ops (i::rest)::kk) cs (Ak E H S):=
 JL.op ap hw aq λρ ay=>by
  show lp P (do pure (Next.value (← Instr.next (ρ x) false ty))) _ _ _
  rw[ay _ _ U]
  refine Ay _ _ ?_
  unfold Instr.next
  simp only[getObj,setObj,bind,Sem.bind,pure,lp]
  refine⟨_,Ed (i:=0) K O rfl,rfl,?_⟩
  simp only[lp]
  refine⟨_,am,rfl,?_⟩
  have az:(!seen.isEmpty&& !es.isEmpty&&es.all (λe=>decide (e.born>=c)))=false:=by
   by_cases he:es.toList=[]
   .have:es.isEmpty=true:=by simpa [Array.isEmpty_iff] using he
    simp[this]
   .let⟨e,ag⟩:=vD _ he;have bi:=hb e ag;have:es.all (λe=>decide (e.born>=c))=false:=by
     cases U:es.all (λe=>decide (e.born>=c)) with
     | false=>rfl
     | true=>
      have:=tZ.1 U e (ux.1 ag);simp at this;omega
    simp[this]
  have a0:Array.filter (λx:MapEntry=>decide (x.born<c)) (Array.filter (λe=> !seen.contains e.born) es)=Array.filter (λe=> !seen.contains e.born) es:=by
   apply vK.1;rw[uh,vm];intro e he;rw[uh] at he;simpa using hb e (tQ.1 he).1
  have e2:Array.filter (λx:MapEntry=>decide (x.born>=c)) (Array.filter (λe=> !seen.contains e.born) es)=#[]:=by
   apply vK.1;rw[uh,List.filter_eq_nil_iff];intro e he;rw[uh] at he;have:=hb e (tQ.1 he).1;simp;omega
  dsimp only;rw[d0 (by rw[az];exact tI),a0,e2];have Y:∀e,e∈(Array.filter (λe=> !seen.contains e.born) es).toList↔e∈es.toList/\e.born ∉ seen:=by
   intro e;rw[uh,tQ];simp
  generalize Array.filter (λe:MapEntry=> !seen.contains e.born) es=left at Y ⊢;by_cases Z:left.toList=[]
  .have a1:left=#[]:=vK.1 Z;subst a1;refine UN (by simp) rfl λi hi=>?_;obtain rfl:i=0:=by simp at hi;exact hi
   have a2:((if(#[]:Array MapEntry).isEmpty=true then #[none] else #[])++Array.map some ((#[]:Array MapEntry)++ #[]))[0]?=some none:=by simp
   rw[a2];refine aw λe he=>?_;by_cases al:e.born∈seen;exact al;have:=(Y e).2 ⟨he,al⟩;simp at this
  .have a3:left.isEmpty=false:=by
    cases a4:left.isEmpty with
    | false=>rfl
    | true=>exact absurd (by simpa [Array.isEmpty_iff] using a4) Z
   rw[a3];simp only[rY,sI,uJ,Array.empty_append];have a5:0<left.size:=by
    rcases sF left.size with ac | ac;exact absurd (by simpa using Array.eq_empty_of_size_eq_zero ac) Z;exact ac
   refine UN (by simpa using a5) rfl λi hi=>?_;have a6:i<left.size:=by simpa using hi
   have a7:(Array.map some left)[i]?=some (some left[i]):=by simp[a6]
   rw[a7];simp only[lp];let⟨a8,a9⟩:=(Y left[i]).1 (Array.getElem_mem_toList _);refine⟨⟨_,Lj K O,rfl⟩,rfl,?_⟩;let⟨bb,be⟩:=LZ K O (.mapIter (some bk) c (seen.push left[i].born) c);rw[bb];exact av _ a8 a9 be
theorem JS.entry{c r:Nat}{e:MapEntry}(j:Nat)(U:(Ak E H S).get bk=some (.map es c))(he:e∈es.toList)(hb:(es.toList.map (·.born)).Pairwise (·<·))(Y:Av E H S)(Z:S[j]?=some [(r,.mapIter (some bk) c (seen.push e.born) c)])
  (ac:ops[i]?=some ⟨d,.entry x,ty,p,af,g⟩) (hw:A2 L ops ⟨d,.entry x,ty,p,af,g⟩=some true) (ag:BZ b n ⟨d,.entry x,ty,p,af,g⟩=true) (al:ev L x=some (.pointer (some ⟨r,0,none⟩)))
  (h:JL J Q b n (AA L d (.tuple #[e.key,e.val])) ds (.inRegion ops rest::kk) cs (Ak E H S)):
  JL J Q b n L ds (.inRegion ops (i::rest)::kk) cs (Ak E H S):=
 JL.op ac hw ag λρ am=>by
  show lp P (do pure (Next.value (← Instr.entry (ρ x)))) _ _ _
  rw[am _ _ al]
  refine Ay _ _ ?_
  unfold Instr.entry
  simp only[getObj,bind,Sem.bind,pure,lp]
  refine⟨_,Ed (i:=0) Y Z rfl,rfl,?_⟩
  simp only[Array.back?_push,bne_self_eq_false,lp]
  refine⟨_,U,rfl,?_⟩
  have ap:es.find? (λx=>x.born==e.born)=some e:=by
   rw[← Array.find?_toList];have key:∀(l:List MapEntry),e∈l->(l.map (·.born)).Pairwise (·<·)->l.find? (λx=>x.born==e.born)=some e:=by
    intro l
    induction l with
    | nil=>intro h;cases h
    | cons y l aq=>
     intro hm K;rw[sN,t6] at K;by_cases O:y.born=e.born;rcases iC.1 hm with rfl | hm;simp;have:=K.1 e.born (sj.2 ⟨e,hm,rfl⟩);omega;rw[tW (by simpa using O)];rcases iC.1 hm with rfl | hm;exact absurd rfl O;exact aq hm K.2
   exact key _ he hb
  simp only[bne_self_eq_false,rY,sI,ap,lp];exact h
end
end
theorem LG{E H:LH}{S:List Seg}{bk:Nat}{o:Obj}(h:E bk=some o):(Ak E H S).get bk=some o:=by
 show(match E bk with | some o=>some o | none=>_)=some o
 rw[h]
theorem Uf{α:Type}(f:α->β){l:List α}(h:(l.map f).Nodup):l.Nodup:=by
 unfold List.Nodup at h ⊢;rw[vC] at h;exact h.imp λh e=>h (by rw[e])
theorem Vt{α:Type}:∀{l l':List α},l.Nodup->(∀x∈l,x∈l')->l.length<=l'.length
 | [],_,_,_=>sC _
 | x::l,l',h,O=>by
  obtain⟨a,b,rfl⟩:=List.append_of_mem (O x (by simp))
  have U:=un.1 h
  have:=Vt (l:=l) (l':=a++b) U.2 (λy Y=>by
   have K:=O y (f4 _ Y)
   have Z:y≠x:=λe=>U.1 (e▸Y)
   simp at K ⊢
   rcases K with K | K | K;exact .inl K;exact absurd K Z
   .exact .inr K)
  simp at this ⊢;omega
variable {ys:List (κ×ν)}
section
variable [DecidableEq κ]
def J0(es:Array MapEntry)(ys:List (κ×ν))(seen:Array Nat)(done:List (κ×ν)):Prop:=
 ∃dn:List (MapEntry×(κ×ν)),done=dn.map (·.2)/\seen.toList=dn.map (·.1.born)/\dn.Nodup/\∀q∈dn,q∈es.toList.zip ys
theorem J0.nil{ys:List (κ×ν)}:J0 es ys #[] []:=⟨[],V,V,.nil,by simp⟩
theorem VC:∀{es:List MapEntry}{ys:List (κ×ν)},(es.map (·.born)).Pairwise (·<·)->∀{p q:MapEntry×(κ×ν)},p∈es.zip ys->q∈es.zip ys->p.1.born=q.1.born->p=q
 | [],_,_,_,_,h,_,_=>by simp at h
 | _::_,[],_,_,_,h,_,_=>by simp at h
 | e::es,y::ys,U,p,q,K,O,hb=>by
  rw[sN,t6] at U
  rw[uQ] at K O
  have Y:∀{z:MapEntry×(κ×ν)},z∈es.zip ys->z.1.born∈es.map (·.born):=λ{z} Z=>by
   have:=(vS Z).1
   exact sj.2 ⟨z.1,this,V⟩
  rcases iC.1 K with rfl | K<;>rcases iC.1 O with rfl | O;rfl;have:=U.1 _ (Y O);simp at hb;omega;have:=U.1 _ (Y K);simp at hb;omega;exact VC U.2 K O hb
theorem Ez.zip:∀{es:List MapEntry}{ys:List (κ×ν)},Ez pk ka pv va E es ys->∀{q:MapEntry×(κ×ν)},q∈es.zip ys->Vr pk ka E q.1.key q.2.1/\Vr pv va E q.1.val q.2.2
 | [],[],_,_,h=>by simp at h
 | e::es,y::ys,h,q,K=>by
  rw[uQ] at K
  rcases iC.1 K with rfl | K;exact⟨h.1,h.2.1⟩;exact Ez.zip h.2.2 K
 | [],_::_,h,_,_=>h.elim
 | _::_,[],h,_,_=>h.elim
theorem VM:∀{es:List MapEntry}{ys:List (κ×ν)},KN ys->(es.map (·.born)).Pairwise (·<·)->∀{p q:MapEntry×(κ×ν)},p∈es.zip ys->q∈es.zip ys->p.2.1=q.2.1->p=q
 | [],_,_,_,_,_,h,_,_=>by simp at h
 | _::_,[],_,_,_,_,h,_,_=>by simp at h
 | e::es,y::ys,ac,Y,p,q,K,O,hb=>by
  have U:y.1 ∉ ys.map (·.1)/\KN ys:=by simpa [KN] using ac
  rw[sN,t6] at Y;rw[uQ] at K O;have Z:∀{z:MapEntry×(κ×ν)},z∈es.zip ys->z.2.1∈ys.map (·.1):=λ{z} ag=>sj.2 ⟨z.2,(vS ag).2,rfl⟩;rcases iC.1 K with rfl | K<;>rcases iC.1 O with rfl | O;rfl;have:=Z O;simp only at hb;rw[← hb] at this;exact absurd this U.1;have:=Z K;simp only at hb;rw[hb] at this;exact absurd this U.1;exact VM U.2 Y.2 K O hb
theorem J0.len{ys:List (κ×ν)}{done:List (κ×ν)}(h:J0 es ys seen done):done.length<=ys.length:=by
 obtain⟨dn,rfl,Y,K,O⟩:=h;rw[ts];have U:=Vt K O;exact sG U (by rw[List.length_zip];exact Nat.min_le_right _ _)
section
variable {b:Frame}
variable {x y:Operand}{e:TypeId}{i bk:Nat}
theorem VQ{c r:Nat}{done:List (κ×ν)}(j:Nat)(ac:Ez pk ka pv va E es.toList ys)(Z:(es.toList.map (·.born)).Pairwise (·<·))(hb:∀e∈es.toList,e.born<c)(aq:KN ys)(av:J0 es ys seen done)(aw:(Ak E' H S).get bk=some (.map es c))(ay:Av E' H S)(az:S[j]?=some [(r,.mapIter (some bk) c seen c)])
  (a0:ops[i]?=some ⟨d,.next x false,ty,p,af,g⟩) (hw:A2 L ops ⟨d,.next x false,ty,p,af,g⟩=some true) (a2:BZ b n ⟨d,.next x false,ty,p,af,g⟩=true) (a3:ev L x=some (.pointer (some ⟨r,0,none⟩)))
  (a4:∀e O,Vr pk ka E e.key O.1->Vr pv va E e.val O.2->O∈ys->O.1 ∉ done.map (·.1)->e∈es.toList->J0 es ys (seen.push e.born) (done++ [O])->Av E' H (S.set j [(r,.mapIter (some bk) c (seen.push e.born) c)])->
   JL J Q b n (AA L d (.tuple #[.bool true,e.key,e.val])) ds (.inRegion ops rest::kk) cs (Ak E' H (S.set j [(r,.mapIter (some bk) c (seen.push e.born) c)])))
  (a5:done.Perm ys->JL J Q b n (AA L d (.tuple #[.bool false])) ds (.inRegion ops rest::kk) cs (Ak E' H S)):
  JL J Q b n L ds (.inRegion ops (i::rest)::kk) cs (Ak E' H S):=by
 obtain⟨dn,rfl,a1,ag,Y⟩:=av;have hlen:=ac.len;refine JS.next j aw hb ay az a0 hw a2 a3 (λe he a6 a7=>?_) (λa8=>?_)
 .let⟨m,hm,a9⟩:=u9.1 he;have U:(e,ys[m]'(by omega))∈es.toList.zip ys:=by
   rw[← a9];have:(es.toList.zip ys)[m]'(by rw[List.length_zip];omega)=(es.toList[m],ys[m]'(by omega)):=List.getElem_zip;rw[← this];exact jK _
  let⟨k1,bb⟩:=ac.zip U;have al:(e,ys[m]'(by omega)) ∉ dn:=λq=>a6 (by
   rw[← ux,a1]
   exact sj.2 ⟨_,q,V⟩)
  refine a4 e _ k1 bb (jK _) (λq=>?_) he ⟨dn++ [(e,ys[m]'(by omega))],by simp,by simp[a1],?_,λq K=>?_⟩ a7;let⟨O,be,bi⟩:=sj.1 q;obtain⟨z,am,rfl⟩:=sj.1 be;have:=VM aq Z (Y z am) U bi;exact al (this▸am);rw[sR];exact⟨ag,by simp,by intro q K z ap bn;simp at ap;subst ap bn;exact al K⟩;rcases kO.1 K with K | K;exact Y q K;simp at K;subst K;exact U
 .refine a5 ?_;have bo:dn.Perm (es.toList.zip ys):=by
   have bv:(es.toList.zip ys).Nodup:=by
    have:((es.toList.zip ys).map (·.1)).Nodup:=by
     rw[List.map_fst_zip (by omega)];exact Uf (λe:MapEntry=>e.born) (Z.imp (λh=>v9 h))
    exact Uf _ this
   refine(List.perm_ext_iff_of_nodup ag bv).2 λq=>⟨λK=>Y q K,λK=>?_⟩;have:=a8 q.1 (vS K).1;rw[← ux,a1] at this;let⟨z,U,bw⟩:=sj.1 this;have:=VC Z (Y z U) K bw;exact this▸U
  have:=bo.map (·.2)
  rwa[List.map_snd_zip (by omega)] at this
end
end
variable {l0 bks xl:List Nat}
section
variable {b:Frame}{fuel:Nat}{listed:Array Bool}
theorem Ey(i:Nat)(pure:Bool)(K:s.q=false)(O:HI n L ops i=some ⟨d,op,ty,p,af,g⟩)
  (U:∀ρ,Ft L ρ->∀s':St,(pure=false->∀x o,(BC (AG (l0++bks)) s).E x=some o->s'.E x=some o)->Yl P ⟨d,op,ty,p,af,g⟩ ρ s' v)
  (Y:F1 J Q b n ds ops k cs (AG xl) (AG (l0++bks)) (AG l0) fuel (Bp listed i) (AA L d v) s) (Z:KB ops listed xl pure i=true:=by decide+kernel):F1 J Q b n ds ops k cs (AG xl) (AG (l0++bks)) (AG l0) (fuel+1) listed L s:=by
 let⟨ac,ag,al⟩:=RL O;exact JB.val i pure ac Z K ag al U Y
def TS(n:Nat)(L:Env)(ops:Ao_)(i:Nat):Option Env:=
 match KF ops.toList i with
 | some ⟨d,op,ty,p,af,g⟩=>match A2 L ops ⟨d,op,ty,p,af,g⟩ with
  | some true=>match Bz n d with
   | true=>match Ms L op with
    | some v=>match d with
     | some d=>some ((d,v)::L)
     | none=>some L
    | none=>none
   | false=>none
  | _=>none
 | none=>none
theorem dE{i:Nat}(h:TS n L ops i=some L'):∃o v,ops[i]?=some o/\Bz n o.dst=true/\A2 L ops o=some true/\Ms L o.op=some v/\L'=AA L o.dst v:=by
 unfold TS at h;split at h
 .rename_i d op ty p af g K;rw[MX,sM] at K;split at h
  .rename_i hw;split at h
   .rename_i O;split at h
    .rename_i v U;refine⟨_,v,K,O,hw,U,?_⟩;cases d with
     | none=>cases h;rfl
     | some d=>cases h;rfl
    .cases h
   .cases h
  .cases h
 .cases h
theorem AV(i:Nat)(K:s.q=false)(h:TS n L ops i=some L')
  (O:F1 J Q b n ds ops k cs (AG xl) (AG (l0++bks)) (AG l0) fuel (Bp listed i) L' s) (U:KB ops listed xl true i=true:=by decide+kernel):F1 J Q b n ds ops k cs (AG xl) (AG (l0++bks)) (AG l0) (fuel+1) listed L s:=by
 obtain⟨o,v,Y,Z,hw,ac,rfl⟩:=dE h;exact JB.val i true Y U K hw Z (λρ ag s' _=>P8 ag ac) O
end
variable {i2:Nat}
variable {d2:Option Tmp}{x2:Operand}{t2 ty2:TypeId}{p2:String}{af2:Ae_}{g2:On_}
section
variable {b:Frame}{i:Nat}
variable {x y:Operand}{e:TypeId}
theorem DD(O:Av E H S)(h:∀r E',Le E E'->At E' r 0 v.cells.toList->Av E' H (S++ [[]])->JL J Q b n (AA L d (.pointer (some ⟨r,0,none⟩))) ds (.inRegion ops rest::k) cs (Ak E' H (S++ [[]])))
  (U:F2 b n L ops i=some ⟨d,.box e x,ty,p,af,g⟩:=by exact rfl) (Y:ev L x=some v:=by exact rfl):JL J Q b n L ds (.inRegion ops (i::rest)::k) cs (Ak E H S):=by
 let⟨Z,ac,ag⟩:=LW U;refine JS.box Z ac ag O Y λr al=>Db (bk:=r) (c:=v.cells) (e:=e) (f:=(0,0)) S.length al (by simp) λE' hle am K=>?_;have ap:(S++ [[(r,Obj.cells v.cells e (0,0))]]).set S.length []=S++ [[]]:=by simp
 rw[ap] at K ⊢;exact h r E' hle am K
theorem B5{z:Value}(K:Av E H S)(O:zeroOf P e=some z)(h:∀r,Av E H (S++ [[(r,.cells z.cells e (0,0))]])->JL J Q b n (AA L d (.pointer (some ⟨r,0,none⟩))) ds (.inRegion ops rest::k) cs (Ak E H (S++ [[(r,.cells z.cells e (0,0))]])))
  (U:F2 b n L ops i=some ⟨d,.alloc e,ty,p,af,g⟩:=by exact rfl):JL J Q b n L ds (.inRegion ops (i::rest)::k) cs (Ak E H S):=by
 let⟨Y,Z,ac⟩:=LW U;exact JS.alloc Y Z ac K O h
theorem JS.sx{bk:Nat}{c:Av_}(j:Nat)(O:Av E H S)(U:BB P t=some K)
  (h:Av E H (S.set j [(bk,.cells (Bc c off v.cells.toList) e (0,0))])->JL J Q b n (AA L d undef) ds (.inRegion ops rest::k) cs (Ak E H (S.set j [(bk,.cells (Bc c off v.cells.toList) e (0,0))])))
  (Y:F2 b n L ops i=some ⟨d,.store t x y,ty,p,af,g⟩:=by exact rfl) (Z:ev L x=some (.pointer (some ⟨bk,off,none⟩)):=by exact rfl) (ac:ev L y=some v:=by exact rfl) (ag:S[j]?=some [(bk,.cells c e (0,0))]:=by exact rfl)
  (al:K=v.cells.size:=by exact rfl) (hle:off+v.cells.size<=c.size:=by exact rT rfl) (am:v.cells.toList.all C5=true:=by first | exact rfl | simp[Value.cells,C5]):
  JL J Q b n L ds (.inRegion ops (i::rest)::k) cs (Ak E H S):=X8 j O (by rw[← al];exact U) Y Z ac ag h hle (lH.1 am)
theorem Cc{bk o:Nat}{f1:Array Field}{ws:Lv_}(j:Nat)(Z:At E bk o ws)(ac:P.underlying t=some (.struct f1))(ag:BB P ft=some (Y+1))(al:DY P t2=some false)
  (am:JL J Q b n (AA (AA L d (.pointer (some ⟨bk,K+off,none⟩))) d2 v) ds (.inRegion ops rest::k) cs (Ak E H S))
  (ap:F2 b n L ops i=some ⟨d,.fieldAddr t x c2,ty,p,af,g⟩:=by exact rfl) (aq:ev L x=some (.pointer (some ⟨bk,K,none⟩)):=by exact rfl) (av:Od f1 c2=some (off,ft):=by exact rfl)
  (aw:F2 b n (AA L d (.pointer (some ⟨bk,K+off,none⟩))) ops i2=some ⟨d2,.load t2 x2,ty2,p2,af2,g2⟩:=by exact rfl) (ay:ev (AA L d (.pointer (some ⟨bk,K+off,none⟩))) x2=some (.pointer (some ⟨bk,o+j,none⟩)):=by exact rfl) (az:ws[j]?=some v:=by exact rfl):
  JL J Q b n L ds (.inRegion ops (i::i2::rest)::k) cs (Ak E H S):=JL.fd ac ag ap aq av (CH j Z al aw ay az am)
theorem JS.ix{α:Type}{pp:Rp α}{a:Option Addr}{c:Nat}{xs:List α}{xv:α}{m:Int}{kd:IntKind}(K:Ao pp E a c xs)(hm:ix xs m=some xv)(O:P.underlying t=some (.slice e))(U:BB P e=some pp.n)
  (h:∀bk o ws,pp.r E ws xv->At E bk o ws->JL J Q b n (AA L d (.pointer (some ⟨bk,o,none⟩))) ds (.inRegion ops rest::k) cs (Ak E H S))
  (Y:F2 b n L ops i=some ⟨d,.indexAddr t x y,ty,p,af,g⟩:=by exact rfl) (Z:ev L x=some (.slice a xs.length c):=by exact rfl) (ac:ev L y=some (.int kd m):=by exact rfl):
  JL J Q b n L ds (.inRegion ops (i::rest)::k) cs (Ak E H S):=by
 let⟨ag,al,am⟩:=LW Y;exact WC K hm ag al am Z ac O U h
theorem Fg(S0:List Seg)(K:Env){c:Code}(O:∀E',Le E E'->Av E' H S0->JL J Q b n K ds todo cs (Ak E' H S0))
  (h:(∀{E':LH}{L:Env},Le E E'->Av E' H S0->Jj L K=Jp K->JL J Q b n L ds todo cs (Ak E' H S0))->JL J Q b n L ds (.code c::todo) cs (Ak E H S)):JL J Q b n L ds (.code c::todo) cs (Ak E H S):=
 h λU Y Z=>Az (O _ U Y) Z
theorem FL{O:List Nat}(U Y:Nat)(S0:List Seg)(K:Env)(Z:∀E',Le E E'->Av E' H S0->JL J Q b n K ds (.inRegion ops (List.range' U Y)::todo) cs (Ak E' H S0))
  (h:(∀{E':LH}{L:Env},Le E E'->Av E' H S0->Jj L K=Jp K->JL J Q b n L ds (.inRegion ops (List.range' U Y)::todo) cs (Ak E' H S0))->JL J Q b n L ds (.inRegion ops O::todo) cs (Ak E H S)):JL J Q b n L ds (.inRegion ops O::todo) cs (Ak E H S):=
 h λac ag al=>Az (Z _ ac ag) al
theorem Ej{ac:Type}{c:Code}{body:β->Option (Bm β ac)}{f:Nat}{U:β}{a:ac}{Y:LH}{k:Li_}(al:iter body f U=some a)(S0:β->List Seg)(O:β->Env)(hle:Le Y E)(am:Av E H (S0 U))
  (round:∀x E',Le Y E'->Av E' H (S0 x)->(∀ag,body x=some (.done ag)->ag=a)->(∃st,body x=some st)->(∀{L':Env}{Z:LH}(x':β),Le Y Z->Av Z H (S0 x')->Jj L' (O x')=Jp (O x')->body x=some (.more x')->JL J Q b n L' ds (.inLoop c::k) cs (Ak Z H (S0 x')))->JL J Q b n (O x) ds (.code c:: .inLoop c::k) cs (Ak E' H (S0 x)))
  (ap:Jj L (O U)=Jp (O U):=by exact rfl) (aq:Ak E H S=Ak E H (S0 U):=by exact rfl):JL J Q b n L ds (.code (.loop c)::k) cs (Ak E H S):=by
 rw[aq];refine Fh _ ap (VS al (λL s x=>∃E',Jm Y H E' (S0 x) (O x) L s) ⟨E,V,V,hle,am⟩ ?_);rintro _ _ x ⟨E',rfl,rfl,av,aw⟩ hd hb ay;exact round x E' av aw hd hb λx' az g2 a0 a1=>Az (ay _ _ x' ⟨_,V,V,az,g2⟩ a1) a0
theorem Bq{c:Code}{E:LH}{B:Seg}(O:P.funcs[f]?=some fn)
  (h:∀(Q:Gs_) (K:Frame) (cs:Lf_) (H:LH),Av E H [B]->(∀{v:Value}{E':LH}{S':List Seg}{B':Seg},Le E E'->S'.flatten=B'->R v E' B'->Av E' H S'->J.ok Q (G (K.finish v) cs) (Ak E' H S'))->JL J Q (base f) fn.ntmps (GY 0 vs) [] [.code c] (K::cs) (Ak E H [B]))
  (hb:fn.body=some c:=by exact rfl) (U:Nat.ble vs.length fn.ntmps=true:=by exact rfl):AZ J f vs E B R:=
 MZ O hb U λQ K cs H Y Z=>h Q K cs H Y λac ag al am=>Z _ _ _ _ ac ag al am
variable {fuel:Nat}{listed:Array Bool}
theorem Ib{bk:Nat}{c:Av_}{f:Nat×Nat}(i:Nat)(K:EC ops m=true)(o:Nat)(j:Nat)(O:Av E H S)(U:DY P t=some false)
  (Y:A3 J Q b n ds ops k cs m (AG bks) fuel (Bp listed i) (AA L d w) (Ak E H S)) (Z:HI n L ops i=some ⟨d,.load t x,ty,p,af,g⟩:=by exact rfl) (ac:ev L x=some (.pointer (some ⟨bk,o,none⟩)):=by exact rfl)
  (ag:S[j]?=some [(bk,.cells c e f)]:=by exact rfl) (hw:c[o]?=some w:=by exact rfl) (al:AG bks bk=true:=by simp[AG]) (am:G1 ops listed m i=true:=by decide+kernel):A3 J Q b n ds ops k cs m (AG bks) (fuel+1) listed L (Ak E H S):=
 AU i K V Z (λρ h s' ap=>Yl.load U (h _ _ ac) (BQ (o:=o) j O ag al ap hw)) Y am
theorem JG.lp{bk o:Nat}{ws:Lv_}(i:Nat)(K:EC ops m=true)(j:Nat)(O:At E bk o ws)(U:Av E H S)(Y:H7 S bks)(Z:DY P t=some false)
  (ac:A3 J Q b n ds ops k cs m (AG bks) fuel (Bp listed i) (AA L d w) (Ak E H S)) (ag:HI n L ops i=some ⟨d,.load t x,ty,p,af,g⟩:=by exact rfl) (al:ev L x=some (.pointer (some ⟨bk,o+j,none⟩)):=by exact rfl)
  (hw:ws[j]?=some w:=by exact rfl) (am:G1 ops listed m i=true:=by decide+kernel):A3 J Q b n ds ops k cs m (AG bks) (fuel+1) listed L (Ak E H S):=
 AU i K V ag (λρ h s' ap=>Yl.load Z (h _ _ al) (At.J5 (j:=j) O (Yf U ap Y) hw)) ac am
theorem Yb{bk o:Nat}{c:Av_}{f:Nat×Nat}(i:Nat)(O:EC ops m=true)(vs:Lv_)(j:Nat)(U:Av E H S)(hw:∀(q:Nat) w,vs[q]?=some w->c[o+q]?=some w)(Y:DY P t=some true)(Z:BB P t=some K)
  (ac:A3 J Q b n ds ops k cs m (AG bks) fuel (Bp listed i) (AA L d (.agg vs.toArray)) (Ak E H S)) (ag:HI n L ops i=some ⟨d,.load t x,ty,p,af,g⟩:=by exact rfl) (al:ev L x=some (.pointer (some ⟨bk,o,none⟩)):=by exact rfl)
  (am:S[j]?=some [(bk,.cells c e f)]:=by exact rfl) (ap:K=vs.length:=by exact rfl) (aq:AG bks bk=true:=by simp[AG]) (av:G1 ops listed m i=true:=by decide+kernel):A3 J Q b n ds ops k cs m (AG bks) (fuel+1) listed L (Ak E H S):=
 AU i O V ag (λρ h s' aw=>Jc (vs:=vs) Y (by rw[← ap];exact Z) (h _ _ al) (λq w ay=>by rw[Et rfl];exact BQ j U am aq aw (hw q w ay))) ac av
theorem JG.ix{D:Nat->Bool}{α:Type}{xs:List α}{xv:α}{bk c:Nat}{kd:IntKind}(i:Nat)(Y:EC ops m=true)(Z:xs.length=c2)(hm:ix xs p1=some xv)(ac:P.underlying t=some (.slice e))(ag:BB P e=some O)
  (al:A3 J Q b n ds ops k cs m D fuel (Bp listed i) (AA L d (.pointer (some ⟨bk,p1.toNat*O,none⟩))) s) (am:s.q=false:=by exact rfl) (ap:HI n L ops i=some ⟨d,.indexAddr t x y,ty,p,af,g⟩:=by exact rfl)
  (aq:ev L x=some (.slice (some ⟨bk,0,none⟩) c2 c):=by exact rfl) (av:ev L y=some (.int kd p1):=by exact rfl) (aw:G1 ops listed m i=true:=by decide+kernel):A3 J Q b n ds ops k cs m D (fuel+1) listed L s:=
 AU i Y am ap (λρ h s' ay=>EW Z hm ac ag (h _ _ aq) (h _ _ av)) al aw
theorem JB.ix{l0 bks:List Nat}{α:Type}{xs:List α}{xv:α}{bk c:Nat}{kd:IntKind}(i:Nat)(Y:xs.length=c2)(hm:ix xs p1=some xv)(Z:P.underlying t=some (.slice e))(ac:BB P e=some O)
  (ag:F1 J Q b n ds ops k cs (AG xl) (AG (l0++bks)) (AG l0) fuel (Bp listed i) (AA L d (.pointer (some ⟨bk,p1.toNat*O,none⟩))) s) (al:s.q=false:=by exact rfl) (am:HI n L ops i=some ⟨d,.indexAddr t x y,ty,p,af,g⟩:=by exact rfl)
  (ap:ev L x=some (.slice (some ⟨bk,0,none⟩) c2 c):=by exact rfl) (aq:ev L y=some (.int kd p1):=by exact rfl) (av:KB ops listed xl true i=true:=by decide+kernel):F1 J Q b n ds ops k cs (AG xl) (AG (l0++bks)) (AG l0) (fuel+1) listed L s:=
 Ey i true al am (λρ h s' aw=>EW Y hm Z ac (h _ _ ap) (h _ _ aq)) ag av
theorem X5{l0:List Nat}{bk o:Nat}{c:Av_}{f:Nat×Nat}(i:Nat)(vs:Lv_)(j:Nat)(O:Av E H S)(hw:∀(q:Nat) w,vs[q]?=some w->c[o+q]?=some w)(U:DY P t=some true)(Y:BB P t=some K)
  (Z:F1 J Q b n ds ops k cs (AG xl) (AG (l0++bks)) (AG l0) fuel (Bp listed i) (AA L d (.agg vs.toArray)) (Ak E H S)) (ac:HI n L ops i=some ⟨d,.load t x,ty,p,af,g⟩:=by exact rfl) (ag:ev L x=some (.pointer (some ⟨bk,o,none⟩)):=by exact rfl)
  (al:S[j]?=some [(bk,.cells c e f)]:=by exact rfl) (am:K=vs.length:=by exact rfl) (ap:AG (l0++bks) bk=true:=by simp[AG]) (aq:KB ops listed xl false i=true:=by decide+kernel):F1 J Q b n ds ops k cs (AG xl) (AG (l0++bks)) (AG l0) (fuel+1) listed L (Ak E H S):=
 Ey i false V ac (λρ h s' av=>Jc (vs:=vs) U (by rw[← am];exact Y) (h _ _ ag) (λq w aw=>by rw[Et rfl];exact BQ j O al ap (av rfl) (hw q w aw))) Z aq
theorem JB.sx{l0 bks:List Nat}{bk:Nat}{c:Av_}(i j:Nat)(O:Av E H S)(U:BB P t=some K)(Y:Oy S j l0)(hle:off+K<=c.size)
  (h:Av E H (S.set j [(bk,.cells (Bc c off v.cells.toList) e (0,0))])->F1 J Q b n ds ops k cs (AG xl) (AG (l0++bks)) (AG l0) fuel (Bp listed i) (AA L d undef) (Ak E H (S.set j [(bk,.cells (Bc c off v.cells.toList) e (0,0))])))
  (Z:HI n L ops i=some ⟨d,.store t x y,ty,p,af,g⟩:=by exact rfl) (ac:ev L x=some (.pointer (some ⟨bk,off,none⟩)):=by exact rfl) (ag:ev L y=some v:=by exact rfl) (al:S[j]?=some [(bk,.cells c e (0,0))]:=by exact rfl)
  (am:K=v.cells.size:=by exact rfl) (ap:v.cells.toList.all C5=true:=by first | exact rfl | simp[Value.cells,C5]) (aq:Region.ready .any ops listed=[i]:=by decide+kernel) (av:AG xl i=true:=by decide+kernel):
  F1 J Q b n ds ops k cs (AG xl) (AG (l0++bks)) (AG l0) (fuel+1) listed L (Ak E H S):=by
 let⟨aw,ay,az⟩:=RL Z;subst am;exact JB.store i j aq av aw ay az O ac ag U (lH.1 ap) al Y hle h
end
abbrev s8(s:Nat):Value:=.int .u8 (s:Int)
def Nb(a:Nat)(n:Int):Option Nat:=if 0<=n/\n<=8 then some (a>>>n.toNat) else none
def Mn(a b:Nat):Option Nat:=if a<256/\b<256 then some (a|||b) else none
def Ng(a b:Nat):Option Nat:=if a<256/\b<256 then some (a&&& b) else none
variable {a c:Nat}
section
variable {x y:Operand}{b r:Nat}{m:Int}
theorem Yu{m:Nat}(h:m<256):IntKind.u8.wrap (m:Int)=m:=by
 simp only[IntKind.wrap,IntKind.bits,IntKind.signed];simp;omega
theorem Ra{m:Nat}(h:m<256):(BitVec.ofInt IntKind.u8.bits (m:Int)).toNat=m:=by
 simp[IntKind.bits,vw];omega
theorem lW{k:Nat}(a c:Nat)(K:c<=k):((a:Int).fdiv (2^(min c k)))=((a>>>c:Nat):Int):=by
 rw[tN K,uc,t8 _ (Int.pow_nonneg (by decide)),Int.natCast_ediv]
 rfl
theorem VL(K:ρ x=s8 a)(O:ρ y=iV m)(h:Nb a m=some r):Yl P ⟨d,.binOp .shr t x y u,ty,p,af,g⟩ ρ s (s8 r):=by
 unfold Nb at h;split at h;rename_i U;cases h;have h:=Yl.shr (P:=P) (s:=s) (d:=d) (t:=t) (u:=u) (ty:=ty) (p:=p) (af:=af) (g:=g) K O U.1;rw[show IntKind.u8.bits=8 from rfl,lW a m.toNat (by omega)] at h;exact h;cases h
theorem P9(O:ρ x=s8 a)(U:ρ y=s8 b)(h:Mn a b=some r):Yl P ⟨d,.binOp .or t x y u,ty,p,af,g⟩ ρ s (s8 r):=by
 unfold Mn at h;split at h;rename_i K;cases h;have h:=Yl.or (P:=P) (s:=s) (d:=d) (t:=t) (u:=u) (ty:=ty) (p:=p) (af:=af) (g:=g) O U;rw[vT,Ra K.1,Ra K.2,Yu (ub (n:=8) K.1 K.2)] at h;exact h;cases h
theorem V3(O:ρ x=s8 a)(U:ρ y=s8 b)(h:Ng a b=some r):Yl P ⟨d,.binOp .and t x y u,ty,p,af,g⟩ ρ s (s8 r):=by
 unfold Ng at h;split at h;rename_i K;cases h;have h:=Yl.and (P:=P) (s:=s) (d:=d) (t:=t) (u:=u) (ty:=ty) (p:=p) (af:=af) (g:=g) O U;rw[uz,Ra K.1,Ra K.2,Yu (tJ vU K.1)] at h;exact h;cases h
end
def Ql(a b:Nat):Option Nat:=if a<4294967296/\b<4294967296 then some (a&&& b) else none
def QR(a b:Nat):Option Nat:=if a<4294967296/\b<4294967296 then some (a|||b) else none
def Td(a:Nat)(n:Int):Option Nat:=if 0<=n/\n<=32/\a*2^n.toNat<4294967296 then some (a*2^n.toNat) else none
def Jz(n:Int):Option Nat:=if 0<=n/\n<=8 then some ((1<<<n.toNat)%256) else none
section
variable {e:TypeId}{x y:Operand}{b r:Nat}{m:Int}
theorem wrap32{m:Nat}(h:m<4294967296):IntKind.u32.wrap (m:Int)=m:=by
 simp only[IntKind.wrap,IntKind.bits,IntKind.signed];simp;omega
theorem Q8{m:Nat}(h:m<4294967296):(BitVec.ofInt IntKind.u32.bits (m:Int)).toNat=m:=by
 simp[IntKind.bits,vw];omega
theorem bV(O:ρ x=.int .u32 (a:Int))(U:ρ y=.int .u32 (b:Int))(h:Ql a b=some r):Yl P ⟨d,.binOp .and t x y u,ty,p,af,g⟩ ρ s (.int .u32 (r:Int)):=by
 unfold Ql at h;split at h;rename_i K;cases h;have h:=Yl.and (P:=P) (s:=s) (d:=d) (t:=t) (u:=u) (ty:=ty) (p:=p) (af:=af) (g:=g) O U;rw[uz,Q8 K.1,Q8 K.2,wrap32 (tJ vU K.1)] at h;exact h;cases h
theorem cG(O:ρ x=.int .u32 (a:Int))(U:ρ y=.int .u32 (b:Int))(h:QR a b=some r):Yl P ⟨d,.binOp .or t x y u,ty,p,af,g⟩ ρ s (.int .u32 (r:Int)):=by
 unfold QR at h;split at h;rename_i K;cases h;have h:=Yl.or (P:=P) (s:=s) (d:=d) (t:=t) (u:=u) (ty:=ty) (p:=p) (af:=af) (g:=g) O U;rw[vT,Q8 K.1,Q8 K.2,wrap32 (ub (n:=32) K.1 K.2)] at h;exact h;cases h
theorem aH(O:ρ x=.int .u32 (a:Int))(U:ρ y=iV m)(h:Td a m=some r):Yl P ⟨d,.binOp .shl t x y u,ty,p,af,g⟩ ρ s (.int .u32 (r:Int)):=by
 unfold Td at h;split at h
 .rename_i K;cases h;have h:=Yl.shl (P:=P) (s:=s) (d:=d) (t:=t) (u:=u) (ty:=ty) (p:=p) (af:=af) (g:=g) O U K.1;have e:IntKind.u32.wrap ((a:Int)*2^(min m.toNat IntKind.u32.bits))=((a*2^m.toNat:Nat):Int):=by
   have Y:min m.toNat IntKind.u32.bits=m.toNat:=by simp[IntKind.bits];omega
   rw[Y,← wrap32 K.2.2];simp
  rw[e] at h;exact h
 .cases h
theorem NN(K:ρ x=s8 1)(O:ρ y=iV m)(h:Jz m=some r):Yl P ⟨d,.binOp .shl t x y u,ty,p,af,g⟩ ρ s (s8 r):=by
 unfold Jz at h;split at h
 .rename_i U;cases h;have h:=Yl.shl (P:=P) (s:=s) (d:=d) (t:=t) (u:=u) (ty:=ty) (p:=p) (af:=af) (g:=g) K O U.1;have e:IntKind.u8.wrap (((1:Nat):Int)*2^(min m.toNat IntKind.u8.bits))=(((1<<<m.toNat)%256:Nat):Int):=
   (by decide:∀k:Fin 9,IntKind.u8.wrap (((1:Nat):Int)*2^(min k.1 IntKind.u8.bits))=(((1<<<k.1)%256:Nat):Int)) ⟨m.toNat,by omega⟩
  rw[e] at h;exact h
 .cases h
theorem cq(K:ρ x=s8 a)(O:ρ y=s8 b)(hb:b<=256):Yl P ⟨d,.binOp .sub t x y u,ty,p,af,g⟩ ρ s (s8 ((a+(256 - b))%256)):=by
 have h:=Yl.sub (P:=P) (s:=s) (d:=d) (t:=t) (u:=u) (ty:=ty) (p:=p) (af:=af) (g:=g) K O;have e:IntKind.u8.wrap ((a:Int) - (b:Int))=(((a+(256 - b))%256:Nat):Int):=by
  simp only[IntKind.wrap,IntKind.bits,IntKind.signed];simp;omega
 rw[e] at h;exact h
theorem fA{kd:IntKind}{E:LH}(xs:List Nat):(rA xs.length (rN kd)).r E (xs.map λx=>Value.int kd ((x:Nat):Int)) xs:=by
 refine⟨V,xs.map λx=>[Value.int kd ((x:Nat):Int)],?_,by simp,λi x us K hu=>?_⟩
 .induction xs with
  | nil=>rfl
  | cons x xs O=>simp[← O]
 .rw [sk,K] at hu;exact(f6 hu).symm
theorem Pr{α:Type}{kk:Nat}{pp:Rp α}{E:LH}{x:α}(h:pp.r E us x):(rA kk pp).r E (List.replicate kk us).flatten (List.replicate kk x):=
 ⟨by simp,List.replicate kk us,V,by simp,λi y ws K hw=>by
  rw[tU] at K hw
  split at K
  .rename_i O
   rw[d6 O] at hw
   cases K;cases hw
   exact h
  .cases K⟩
theorem VB{k:Nat}{z v:Value}(O:P.underlying t=some (.array k e))(U:zeroOf P t=some z)(Y:BB P e=some K)(Z: .agg z.cells=v):Yl P ⟨d,.build t #[],ty,p,af,g⟩ ρ s v:=by
 refine FY RO ?_;unfold Instr.build;refine Ay (x:=zeroValue t) _ (IB U ?_);refine Ay _ _ (Cy O ?_);refine Ay (x:=Go.sizeOf e) _ (FC Y ?_);subst Z;simp[Instr.fill,lp,pure]
theorem gf{k:Nat}{z v:Value}{L:Env}{ps:Array (Nat×Operand)}{vs:List (Nat×Value)}(h:Ft L ρ)(Y:P.underlying t=some (.array k e))(Z:zeroOf P t=some z)(ac:BB P e=some K)(ag:ps.toList.mapM (λq=>(ev L q.2).map λv=>(q.1,v))=some vs)(O:(Instr.fill (λi=>some (i*K,K)) z.cells vs).map Value.agg=some v):Yl P ⟨d,.build t ps,ty,p,af,g⟩ ρ s v:=by
 refine FY RO ?_;unfold Instr.build;refine Ay (x:=zeroValue t) _ (IB Z ?_);refine Ay _ _ (Cy Y ?_);refine Ay (x:=Go.sizeOf e) _ (FC ac ?_);have al:=R2 h ag;have am:(ps.map λ(j,x)=>(j,ρ x)).toList=vs:=by rw[← al,u0]
 rw[am];cases U:Instr.fill (λi=>some (i*K,K)) z.cells vs with
 | none=>rw[U] at O;cases O
 | some cells=>rw[U] at O;cases O;exact⟨rfl,rfl⟩
end
section
variable {e:TypeId}
end
section
variable {b:Frame}{fuel:Nat}{listed:Array Bool}
variable {x y:Operand}{e:TypeId}{i:Nat}
end
def HJ(b:Frame)(T:Av_)(ds:Ld_)(todo:Li_)(ch:List PanicEntry):Frame:={b with tmps:=T,todo:=todo,defers:=ds,mode:=.panicking ch}
def raised(v:Value):List PanicEntry:=[{v,recovered:=false}]
def taken(v:Value):List PanicEntry:=[{v,recovered:=true}]
section
variable (J:Judge P)(Q:Gs_)
def JP(b:Frame)(n:Nat)(L:Env)(ds:Ld_)(cs:Lf_)(ch:List PanicEntry)(s:St):Prop:=
 ∀T,Has n L T->∀todo,J.ok Q (G (HJ b T ds todo ch) cs) s
end
variable {bc:Frame}{dsc:Ld_}{ch:List PanicEntry}{T Tc:Av_}{todoc:Li_}
section
variable {b:Frame}
variable {i:Nat}{x:Operand}
theorem JL.panic{t:TypeId}(O:ops[i]?=some ⟨d,.panic x,ty,p,af,g⟩)(U:b.roundOf=none)(hw:A2 L ops ⟨d,.panic x,ty,p,af,g⟩=some true)(Y:ev L x=some (.iface t v))
  (h:JP J Q b n L ds cs (raised (.iface t v)) s):JL J Q b n L ds (.inRegion ops (i::rest)::k) cs s:=λT K=>
 Judge.DU V (λw=>by
  have he:execOp (BK T) ⟨d,.panic x,ty,p,af,g⟩=.halt (.panic (.iface t v)):=by
   simp[execOp,Instr.panic,K.ev Y,goPanic,bind,Sem.bind]
  rw[stepG_op O (Cn K hw)]
  simp[U,stepG.apply,he,Sem.run,Sem.runT,Sem.events,GStep.after,fr,HJ,Frame.raise,G,raised,seen_none]) (h T K (.inRegion ops (i::rest)::k))
theorem JP.pop(K:P.funcs[b.fn]?=some fn)(h:J.ok Q (G (HJ bc Tc dsc todoc ch) cs) s):JP J Q b n L [] (fr bc Tc dsc todoc::cs) ch s:=λT O todo=>
 Judge.DU V (λw=>by simp[G,stepG,unwind,HJ,fr,Frame.raise,Frame.catches,K]) h
theorem JP.S9{c:Code}{caps:Lv_}(ap:b.roundOf=none)(O:P.funcs[f]?=some fn)(Y:(fn.name== "runtime.NumGoroutine")=false)(hb:fn.body=some c)(Z:(vs++caps).length<=fn.ntmps)
  (h:∀T,Has n L T->∀todo,JL J Q (baseD f) fn.ntmps (GY 0 (vs++caps)) [] [.code c] (HJ b T ds todo ch::cs) s):JP J Q b n L (Mr f vs.toArray caps.toArray::ds) cs ch s:=λT ac todo=>by
 have ag:¬fn.name= "runtime.NumGoroutine" :=by simpa using Y
 refine Judge.DU rfl (λw=>?_) (h T ac todo ((vs++caps).toArray++Array.replicate (fn.ntmps - (vs++caps).length) undef) ⟨by simp;simp at Z;omega,λt v al=>?_⟩);rw[B2 (b:=baseD f) rfl];have:=enter_atD (P:=P) (vs++caps).toArray O hb;simp only[tS] at this;rw[← this];simp[G,stepG,unwind,callDeferred,HJ,Mr,invoke,callFunc,O,ag,hb,GStep.after,seen_none]
 .let⟨_,K⟩:=KY al;have am:t<(vs++caps).length:=by
   rcases jH t (vs++caps).length with U | U;exact U;simp only[tO] at K;have:=(d7.1 K).1;omega
  rw[j8,s0 (by simpa using am)];simp only[tO] at K;rw[si,K];rfl
theorem Zo{K:List PanicEntry}(O:ops[i]?=some ⟨d,.call ⟨.builtin .recover,#[],ats⟩,ty,p,af,g⟩)(U:b.roundOf=none)(Y:b.kind=.deferred)(ag:Bz n d=true)(hw:A2 L ops ⟨d,.call ⟨.builtin .recover,#[],ats⟩,ty,p,af,g⟩=some true)
  (h:JL J Q b n (AA L d v) ds (.inRegion ops rest::k) (HJ bc Tc dsc todoc ({v,recovered:=true}::K)::cs) s):
  JL J Q b n L ds (.inRegion ops (i::rest)::k) (HJ bc Tc dsc todoc ({v,recovered:=false}::K)::cs) s:=λT Z=>
 Judge.DU V (λw=>by
  have he:execOp (BK T) ⟨d,.call ⟨.builtin .recover,#[],ats⟩,ty,p,af,g⟩=.pure .recover:=by
   simp[execOp,resolve,Deferred.ofValue,invoke,bind,Sem.bind,pure,Go.builtin]
  have ac:=Hg (b:=b) (ds:=ds) (k:=k) T ops i rest v _ O
  simp only[fr,U,Y] at ac
  rw[stepG_op O (Cn Z hw)]
  simp[U,Y,stepG.apply,he,Sem.run,Sem.runT,Sem.events,GStep.after,fr,HJ,tryRecover,G,seen_none,ac]) (h _ (Z.put ag _))
theorem Zs(K:ops[i]?=some ⟨d,.call ⟨.builtin .recover,#[],ats⟩,ty,p,af,g⟩)(O:b.roundOf=none)(U:b.kind=.deferred)(ac:Bz n d=true)(hw:A2 L ops ⟨d,.call ⟨.builtin .recover,#[],ats⟩,ty,p,af,g⟩=some true)
  (h:JL J Q b n (AA L d .nilIface) ds (.inRegion ops rest::k) (EZ bc Tc dsc todoc::cs) s):
  JL J Q b n L ds (.inRegion ops (i::rest)::k) (EZ bc Tc dsc todoc::cs) s:=λT Y=>
 Judge.DU V (λw=>by
  have he:execOp (BK T) ⟨d,.call ⟨.builtin .recover,#[],ats⟩,ty,p,af,g⟩=.pure .recover:=by
   simp[execOp,resolve,Deferred.ofValue,invoke,bind,Sem.bind,pure,Go.builtin]
  have Z:=Hg (b:=b) (ds:=ds) (k:=k) T ops i rest .nilIface _ K
  simp only[fr,O,U] at Z
  rw[stepG_op K (Cn Y hw)]
  simp[O,U,stepG.apply,he,Sem.run,Sem.runT,Sem.events,GStep.after,fr,EZ,tryRecover,G,seen_none,Z]) (h _ (Y.put ac _))
theorem JO.jq(O:b.kind=.deferred)(U:P.funcs[b.fn]?=some fn)(K:fn.results=#[])(h:J.ok Q (G (EZ bc Tc dsc todoc) cs) s):JO J Q b n L [] (HJ bc Tc dsc todoc (taken v)::cs) s:=λT Z todo=>by
 refine Judge.DU rfl (λw=>?_) h
 have Y:=results_none K T P w
 have e2:=λ(x:Array Event)=>events_results_none (P:=P) (w:=w) K T x
 simp[G,stepG,unwind,EZ,HJ,U,Y,e2,doReturn,O,GStep.after,seen_none,taken]
end
open Go.Proofs
abbrev Dq:=Int×Int×Int
abbrev AH:=List Dq
abbrev AQ:=List AH
abbrev Bs:=List (List Int)
abbrev Bh:=Bs×AH
abbrev AF:=rP rI EP
open Go.Proofs.Tryz
def AK:=A0 Tryz.type3
def Bv:=A0 Tryz.type52
def GB:=A0 Tryz.type141
def I5:=A0 Tryz.type96
def OV:=A0 Tryz.type214
def Bb:=CK Tryz.underlying3
def Ny:=A4 Tryz.func45 rfl
def FI:=A0 Tryz.type25
def FX:=CK Tryz.underlying25
def HU:=A0 Tryz.type26
def Kj:=CK Tryz.underlying26
def Ei:=CK Tryz.underlying52
def BU:=Dw Tryz.type52
def ET:=A0 Tryz.type22
def He:=CK Tryz.underlying22
def KU:=Dw Tryz.type96
def CJ:=A0 Tryz.type28
def Iw:=CK Tryz.underlying96
def Kk:=Dw Tryz.type141
def HT:=Dw Tryz.type57
def EK:=CK Tryz.underlying28
def DR:=A0 Tryz.type57
def FV:=CK Tryz.underlying57
def CR:=Dw Tryz.type3
def KR:=A4 Tryz.func21 rfl
def OR:=A4 Tryz.func47 rfl
def Hf:=A4 Tryz.func30 rfl
def NC:=A0 Tryz.type4
def Rh:=CK Tryz.underlying4
def A1:=A0 Tryz.type74
def BE:=CK Tryz.underlying74
def Iz:=A0 Tryz.type168
def Iy:=A4 Tryz.func70 rfl
def KV:=Dw Tryz.type22
def NB:=Dw Tryz.type4
def Nz:=A4 Tryz.func64 rfl
def MD:=Dw Tryz.type222
def Ix:=A4 Tryz.func51 rfl
def Rt:=Dw Tryz.type74
def OM:=CK Tryz.underlying174
def Rg:=CK Tryz.underlying69
def Rr:=A4 Tryz.func28 rfl
def Rj:=A4 Tryz.func147 rfl
def Ri:=A4 Tryz.func134 rfl
def LA:=CK Tryz.underlying225
def OU:=A0 Tryz.type225
def OT:=A4 Tryz.func63 rfl
def LB:=CK Tryz.underlying168
def Rm:=Dw Tryz.type214
def OI:=CK Tryz.underlying214
def KW:=A0 Tryz.type121
def OP:=Dw Tryz.type121
def OK:=CK Tryz.underlying121
def HS:=CK Tryz.underlying21
def OX:=A0 Tryz.type71
def KT:=Dw Tryz.type28
def OO:=A4 Tryz.func42 rfl
def Rn:=A4 Tryz.func68 rfl
def OQ:=A4 Tryz.func34 rfl
def MF:=A4 Tryz.func9 rfl
def KX:=A0 Tryz.type44
def ON:=CK Tryz.underlying44
def KS:=A4 Tryz.func16 rfl
def Ro:=A4 Tryz.func14 rfl
def ME:=Dw Tryz.type92
def OJ:=CK Tryz.underlying146
def NA:=A0 Tryz.type146
def Rl:=Dw Tryz.type127
def LC:=A0 Tryz.type127
def Rq:=A4 Tryz.func26 rfl
def Rs:=A4 Tryz.func8 rfl
theorem mixed:Tryz.prog.follows .mixedOrders=true:=rfl
theorem k8:Cq Tryz.prog 52 (rP rI (rP rI rI)) true 2:=Cq.three underlying52 (Cq.int underlying3 AK) (Cq.int underlying3 AK) (Cq.int underlying3 AK) (by decide+kernel) (by decide) (by decide) (by decide) V V V Bv
theorem ij:Cq Tryz.prog 141 (rP rI rI) true 2:=Cq.two underlying141 (Cq.int underlying3 AK) (Cq.int underlying3 AK) (by decide+kernel) (by decide) (by decide) V V GB
theorem Xe:Cq Tryz.prog 96 (rA 5 rI) true 2:=Cq.arr (kk:=5) (Cq.int underlying3 AK) underlying96 I5
theorem iT:Cq Tryz.prog 212 (rA 10 rI) true 2:=Cq.arr (kk:=10) (Cq.int underlying3 AK) underlying212 (A0 type212)
theorem Xr:Cq Tryz.prog 214 (rA 5 (rA 10 rI)) true 3:=Cq.arr (kk:=5) iT underlying214 OV
theorem kt:Cq Tryz.prog 231 (rP (rN .u8) (rA 5 (rA 10 rI))) true 4:=Cq.two underlying231 ((Cq.nat underlying5 (A0 type5)).up (by decide)) Xr (by decide+kernel) (by decide) (by decide) V V (A0 type231)
theorem J9:Hq Tryz.prog 3 rI false:=(Cq.int underlying3 AK).key (by decide)
theorem Ta:Hq Tryz.prog 141 (rP rI rI) true:=ij.key (by decide)
theorem XG:Hq Tryz.prog 214 (rA 5 (rA 10 rI)) true:=Xr.key (by decide)
theorem XC:Hq Tryz.prog 231 (rP (rN .u8) (rA 5 (rA 10 rI))) true:=kt.key (by decide)
end Pal
namespace Pal
open Go Go.Conc Go.Proofs Go.Extern
abbrev FT(t:Nat):Value:=.pointer (some ⟨1,t,none⟩)
abbrev KI(t:Nat):Value:=.iface 190 (.agg #[FT t])
variable {s:St}{X:Halt->St->Prop}
variable{Q:Value->St->Prop}
theorem Zj(t:Addr):lp Tryz.prog (ReflectliteValue.unpack (.iface 94 (.pointer (some t)))) s Q X=(s.q=false/\∀r,s.E r=none->s.H r=none->Q (.agg #[FT 94,.pointer (some ⟨r,0,none⟩),.int .u64 150]) (s.upd r (.cells #[.pointer (some t)] 94 (0,0)))):=by kernel_rfl
theorem Zh(c:Int):lp Tryz.prog (ReflectliteValue.unpack (.iface 92 (.agg #[iV c]))) s Q X=(s.q=false/\∀r,s.E r=none->s.H r=none->Q (.agg #[FT 92,.pointer (some ⟨r,0,none⟩),.int .u64 153]) (s.upd r (.cells #[iV c] 92 (0,0)))):=by kernel_rfl
theorem dI(a:Addr):lp Tryz.prog (ReflectliteValue.methodAny (ReflectliteValue.valueError "reflectlite.Value.Type" 0) (λt _ _ _=>ReflectliteType.toType t) #[.agg #[FT 94,.pointer (some a),.int .u64 150]]) s Q X=Q (KI 94) s:=by kernel_rfl
theorem ZM(v:Value):lp Tryz.prog (ReflectliteType.typeOf #[.iface 92 v]) s Q X=Q (KI 92) s:=by kernel_rfl
theorem XW{Q:FuncId×Value->St->Prop}(h:Value):lp Tryz.prog (Go.method (Tryz.prog.types.size+Made.depth) 190 (.agg #[h]) "Kind") s Q X=Q (177,h) s:=by kernel_rfl
theorem je{Q:FuncId×Value->St->Prop}(h:Value):lp Tryz.prog (Go.method (Tryz.prog.types.size+Made.depth) 190 (.agg #[h]) "Elem") s Q X=Q (188,.agg #[h]) s:=by kernel_rfl
theorem gU{Q:FuncId×Value->St->Prop}(h:Value):lp Tryz.prog (Go.method (Tryz.prog.types.size+Made.depth) 190 (.agg #[h]) "Implements") s Q X=Q (189,.agg #[h]) s:=by kernel_rfl
theorem lT{Q:FuncId×Value->St->Prop}(h:Value):lp Tryz.prog (Go.method (Tryz.prog.types.size+Made.depth) 190 (.agg #[h]) "AssignableTo") s Q X=Q (186,.agg #[h]) s:=by kernel_rfl
theorem dr:lp Tryz.prog ((ReflectliteType.abiMethod λt=>(λa:Nat=>Value.int IntKind.u8 (a:Int))<$>Rtype.kind t) #[FT 94]) s Q X=Q (.int .u8 22) s:=by kernel_rfl
theorem dJ:lp Tryz.prog ((ReflectliteType.abiMethod λt=>(λa:Nat=>Value.int IntKind.u8 (a:Int))<$>Rtype.kind t) #[FT 92]) s Q X=Q (.int .u8 25) s:=by kernel_rfl
theorem cE:lp Tryz.prog (ReflectliteType.method ReflectliteType.elem #[.agg #[FT 94]]) s Q X=Q (KI 92) s:=by kernel_rfl
theorem ck:lp Tryz.prog (ReflectliteType.relation "Implements" ReflectliteType.implements_ #[.agg #[FT 92],KI 62]) s Q X=Q (.bool true) s:=by kernel_rfl
theorem fp:lp Tryz.prog (ReflectliteType.relation "AssignableTo" ReflectliteType.assignableTo #[.agg #[FT 92],KI 92]) s Q X=Q (.bool true) s:=by kernel_rfl
theorem U3{Q:Option (TypeId×Addr×Nat)->St->Prop}(a:Addr):lp Tryz.prog (ReflectliteValue.parts (.agg #[FT 94,.pointer (some a),.int .u64 150])) s Q X=Q (some (94,a,150)) s:=by kernel_rfl
theorem ab{Q:Option (TypeId×Addr×Nat)->St->Prop}(a:Addr):lp Tryz.prog (ReflectliteValue.parts (.agg #[FT 92,.pointer (some a),.int .u64 153])) s Q X=Q (some (92,a,153)) s:=by kernel_rfl
theorem ZO{Q:Option (TypeId×Addr×Nat)->St->Prop}(a:Addr):lp Tryz.prog (ReflectliteValue.parts (.agg #[FT 92,.pointer (some a),.int .u64 409])) s Q X=Q (some (92,a,409)) s:=by kernel_rfl
theorem fX{Q:Option TypeId->St->Prop}:lp Tryz.prog (Rtype.elem? 94) s Q X=Q (some 92) s:=by kernel_rfl
theorem jS(p:Addr):lp Tryz.prog (ReflectliteValue.mk 92 p ReflectliteValue.flagAddr) s Q X=Q (.agg #[FT 92,.pointer (some p),.int .u64 409]) s:=by kernel_rfl
theorem fZ{Q:Bool->St->Prop}:lp Tryz.prog (Rtype.directlyAssignable 92 92) s Q X=Q true s:=by kernel_rfl
theorem V0(a:Addr):lp Tryz.prog (loadVar 94 a) s Q X=(Mode.plain=.plain/\∃v,s.cell? a=some v/\Q v s):=by kernel_rfl
theorem dQ(a:Addr):lp Tryz.prog (loadVar 92 a) s Q X=(Mode.plain=.plain/\∃v,s.cell? (a.add 0)=some v/\Q (.agg #[v]) s):=by kernel_rfl
theorem Xu:BV Tryz.prog 71 (λargs=>ReflectliteValue.unpack (args.getD 0 (.tuple #[]))):=⟨⟨_,Tryz.func71,by kernel_rfl,by kernel_rfl,by kernel_rfl,by kernel_rfl⟩⟩
theorem jJ:BV Tryz.prog 72 (ReflectliteValue.methodAny (ReflectliteValue.valueError "reflectlite.Value.Type" 0) (λt _ _ _=>ReflectliteType.toType t)):=⟨⟨_,Tryz.func72,by kernel_rfl,by kernel_rfl,by kernel_rfl,by kernel_rfl⟩⟩
theorem jm:BV Tryz.prog 73 (ReflectliteValue.method (ReflectliteValue.valueError "reflectlite.Value.IsNil" 0) ReflectliteValue.isNil):=⟨⟨_,Tryz.func73,by kernel_rfl,by kernel_rfl,by kernel_rfl,by kernel_rfl⟩⟩
theorem kQ:BV Tryz.prog 114 ReflectliteType.typeOf:=⟨⟨_,Tryz.func114,by kernel_rfl,by kernel_rfl,by kernel_rfl,by kernel_rfl⟩⟩
theorem jU:BV Tryz.prog 115 (ReflectliteValue.method (ReflectliteValue.valueError "reflectlite.Value.Elem" 0) ReflectliteValue.elem):=⟨⟨_,Tryz.func115,by kernel_rfl,by kernel_rfl,by kernel_rfl,by kernel_rfl⟩⟩
theorem jN:BV Tryz.prog 116 ReflectliteValue.set:=⟨⟨_,Tryz.func116,by kernel_rfl,by kernel_rfl,by kernel_rfl,by kernel_rfl⟩⟩
theorem XF:BV Tryz.prog 177 (ReflectliteType.abiMethod λt=>(λa:Nat=>Value.int IntKind.u8 (a:Int))<$>Rtype.kind t):=⟨⟨_,Tryz.func177,by kernel_rfl,by kernel_rfl,by kernel_rfl,by kernel_rfl⟩⟩
theorem kj:BV Tryz.prog 186 (ReflectliteType.relation "AssignableTo" ReflectliteType.assignableTo):=⟨⟨_,Tryz.func186,by kernel_rfl,by kernel_rfl,by kernel_rfl,by kernel_rfl⟩⟩
theorem iG:BV Tryz.prog 188 (ReflectliteType.method ReflectliteType.elem):=⟨⟨_,Tryz.func188,by kernel_rfl,by kernel_rfl,by kernel_rfl,by kernel_rfl⟩⟩
theorem kG:BV Tryz.prog 189 (ReflectliteType.relation "Implements" ReflectliteType.implements_):=⟨⟨_,Tryz.func189,by kernel_rfl,by kernel_rfl,by kernel_rfl,by kernel_rfl⟩⟩
end Pal
namespace Pal
open Go Go.Conc
variable {P:Program}{J:Judge P}{Q:Gs_}{n:Nat}{L:Env}{ds:Ld_}{k:Li_}{cs:Lf_}{s:St}{ops:Ao_}{rest:List Nat}{v:Value}
variable {d:Option Tmp}{ty:TypeId}{p:String}{af:Ae_}{g:On_}
variable{f:FuncId}{e:Av_->Sem Value}{args:Array Operand}{ats:Array TypeId}{vs:Lv_}
section
variable {b:Frame}{i:Nat}
variable {x:Operand}
theorem U9{args:Av_}{Q:Next->St->Prop}{X:Halt->St->Prop}(he:BV P f e)(h:lp P (e args) s (λv s'=>Q (.value v) s') X):lp P (callFunc f args) s Q X:=by
 obtain⟨fn,K,O,U,Y,Z⟩:=he.h;unfold callFunc;simp only[bind,Sem.bind,program,lp,K,O,U,rY,sI,sO,mark,Y,Z];refine⟨.inr ⟨f,V⟩,?_⟩;exact Ay _ _ (Es _ h (λv s' ac=>ac) (λ_ _ ag=>ag))
theorem Me(he:BV P f e)(O:ops[i]?=some ⟨d,.call ⟨.value (.func f),args,ats⟩,ty,p,af,g⟩)(hw:A2 L ops ⟨d,.call ⟨.value (.func f),args,ats⟩,ty,p,af,g⟩=some true)(U:BZ b n ⟨d,.call ⟨.value (.func f),args,ats⟩,ty,p,af,g⟩=true)(Y:evs L args.toList=some vs)
  (h:lp P (e vs.toArray) s (λv s'=>JL J Q b n (AA L d v) ds (.inRegion ops rest::k) cs s') (λ_ _=>False)):JL J Q b n L ds (.inRegion ops (i::rest)::k) cs s:=by
 refine JL.op O hw U λρ K=>?_;have Z:args.map ρ=vs.toArray:=by
  rw[← GF K Y];apply s5;simp
 have ac:ρ (.func f)=.func (.func f) #[] #[]:=K _ _ V;simp only[execOp,resolve,bind,Sem.bind,Deferred.ofValue,ac,pure,invoke];have ag: #[]++args.map ρ++ #[]=vs.toArray:=by rw[Z];simp
 rw[ag];exact U9 he h
theorem Og{t:TypeId}{K O:Value}{name:String}(he:BV P f e)(hm:∀{s:St}{X:Halt->St->Prop}{Q:FuncId×Value->St->Prop},lp P (Go.method (P.types.size+Made.depth) t K name) s Q X=Q (f,O) s)
  (Y:ops[i]?=some ⟨d,.call ⟨.invoke x name,args,ats⟩,ty,p,af,g⟩) (hw:A2 L ops ⟨d,.call ⟨.invoke x name,args,ats⟩,ty,p,af,g⟩=some true) (Z:BZ b n ⟨d,.call ⟨.invoke x name,args,ats⟩,ty,p,af,g⟩=true) (ac:ev L x=some (.iface t K)) (ag:evs L args.toList=some vs)
  (h:lp P (e (O::vs).toArray) s (λv s'=>JL J Q b n (AA L d v) ds (.inRegion ops rest::k) cs s') (λ_ _=>False)):JL J Q b n L ds (.inRegion ops (i::rest)::k) cs s:=by
 refine JL.op Y hw Z λρ U=>?_;have al:args.map ρ=vs.toArray:=by
  rw[← GF U ag];apply s5;simp
 have am:ρ x=.iface t K:=U _ _ ac;simp only[execOp,resolve,bind,Sem.bind,pure,invoke,am,al];have ap:(#[Value.iface t K]++vs.toArray)[0]?=some (.iface t K):=by simp
 have aq:(#[Value.iface t K]++vs.toArray).extract 1 (#[Value.iface t K]++vs.toArray).size=vs.toArray:=by
  apply s5;simp
 simp only[ap,aq,callMethod,bind,Sem.bind,program,lp];refine Ay _ _ ?_;rw[hm];have e2: #[O]++vs.toArray=(O::vs).toArray:=by apply s5;simp
 rw[e2];exact U9 he h
end
open Go.Proofs Go.Proofs.Tryz
variable {E:LH}
variable {J:Judge Tryz.prog}
def f91(fu_:Nat)(p0:Int)(p1:Int)(p2:Int):Option Bool:=Option.bind (if p1<=p0 then(some (decide (p0<=p2))) else(some false)) λx1=>some x1
variable{p1 p3:Int}{fu_:Nat}
theorem Oe{p0:Int}{r:Bool}(K:f91 fu_ p0 p1 p3=some r):AZ J 45 [iV p0,iV p1,iV p3] E [] (λw E' B'=>w=.bool r/\B'=[]):=by
 refine Bq func45 λQ av cs H O Y=>?_;unfold f91 at K;let⟨x1,Z,ac⟩:=bs K;refine C 10 V (FL 8 1 [] [(14,.bool x1)] (λaw ag al=>?_) (λU=>?_));refine C 2 V ?_;cases ac;exact AW func45 V V (Y ag V ⟨V,V⟩ al);refine Jq 10 Z (λam ap=>?_) (λam aq=>?_);refine C 4 V ?_;cases ap;exact U AS O V;refine C 4 V ?_;cases aq;exact U AS O V
def f86(fu_:Nat)(p0:Int×Int×Int)(p1:Int)(p2:Int):Option Int:=(Au (p1 - 1)).bind λK=>(f91 fu_ p0.1 0 K).bind λO=>Option.bind (if(!O)=true then(some true) else((Au (p1 - 1)).bind λU=>(f91 fu_ p0.2.1 0 U).bind λY=>some (!Y))) λZ=>if Z=true then(some 3) else(if p0.1=p0.2.1 then(some 8) else((f91 fu_ p0.2.2 1 p2).bind λac=>if(!ac)=true then(some 1) else(some 0)))
variable{r:Int}
theorem Yt{p0:Int×Int×Int}(ag:f86 fu_ p0 p1 p3=some r):AZ J 48 [.agg #[iV p0.1,iV p0.2.1,iV p0.2.2],iV p1,iV p3] E [] (λw E' B'=>w=iV r/\B'=[]):=by
 refine Bq func48 λQ ce cs H av Y=>?_;unfold f86 at ag;refine C 2 V (DD av λr2 ci Z U aw=>?_);refine C 6 V (Cc 0 U underlying52 AK Bb ?_);let⟨co,ay,az⟩:=bs ag;refine C 1 V (BY ay V V V ?_);let⟨a0,a1,a2⟩:=bs az;refine Co (Oe a1) V V Ny aw λcp K al=>An (v:=.bool (!a0)) V (λρ h=>Yl.not (h _ _ V)) ?_;let⟨a3,a4,a5⟩:=bs a2;refine C 1 V (FL 14 1 [] [(2,iV p3),(3,Ar r2 0),(21,.bool a3)] (λct O ac=>?_) (λam=>?_));refine C 2 V (Cp a5 (λa6 a7=>?_) (λa6 a8=>?_));refine C 4 V ?_;cases a7;exact AW func48 V V (Y ((Z.Ad K).Ad O) V ⟨V,V⟩ ac);refine C 2 V (Cc 0 (U.M (K.Ad O)) underlying52 AK Bb ?_);refine Cc 1 (U.M (K.Ad O)) underlying52 AK Bb ?_;refine C 3 V (AX a8 (λa9 bb=>?_) (λa9 be=>?_));refine C 4 V ?_;cases bb;exact AW func48 V V (Y ((Z.Ad K).Ad O) V ⟨V,V⟩ ac);refine C 2 V (Cc 2 (U.M (K.Ad O)) underlying52 AK Bb ?_);let⟨bi,bn,bo⟩:=bs be;refine C 1 V (Co (Oe bn) V V Ny ac λcw ap aq=>?_);refine An (v:=.bool (!bi)) V (λρ h=>Yl.not (h _ _ V)) (C 2 V ?_);refine Cp bo (λbv bw=>?_) (λbv bx=>?_);refine C 4 V ?_;cases bw;exact AW func48 V V (Y (((Z.Ad K).Ad O).Ad ap) V ⟨V,V⟩ aq);refine C 6 V ?_;cases bx;exact AW func48 V V (Y (((Z.Ad K).Ad O).Ad ap) V ⟨V,V⟩ aq);refine EM 14 a4 (λbz b0=>?_) (λbz b1=>?_);refine C 7 V ?_;cases b0;exact am AS al V;refine Cc 1 (U.M K) underlying52 AK Bb ?_;let⟨cy,b2,b3⟩:=bs b1;refine C 1 V (BY b2 V V V ?_);let⟨b4,b5,b6⟩:=bs b3;refine Co (Oe b5) V V Ny al λc0 ca cc=>An (v:=.bool (!b4)) V (λρ h=>Yl.not (h _ _ V)) (C 1 V ?_);cases b6;exact am ca cc V
def Qg(fu_:Nat)(O:List Int)(K:Int):Option (Bm Int ((Int)⊕(Unit))):=if K<(O.length:Int) then((ix O K).bind λU=>(f91 fu_ U 1 9).bind λY=>if(!Y)=true then(some (.done (Sum.inl 1))) else((Au (K+1)).bind λZ=>some (.more Z))) else(some (.done (Sum.inr ())))
def Qv(fu_:Nat)(p0:Bh)(K:Int):Option (Bm Int ((Int)⊕(Unit))):=if K<(p0.1.length:Int) then((ix p0.1 K).bind λO=>if 3<(O.length:Int) then(some (.done (Sum.inl 6))) else(Option.bind (iter (Qg fu_ O) fu_ 0) λU=>Sum.elim (λr=>some (.done (Sum.inl r))) (λZ=>(Au (K+1)).bind λY=>some (.more Y)) U)) else(some (.done (Sum.inr ())))
def XK(fu_:Nat)(p0:Bh)(K:Int):Option (Bm Int ((Int)⊕(Unit))):=if K<(p0.2.length:Int) then((ix p0.2 K).bind λU=>(f86 fu_ U (p0.1.length:Int) 9).bind λO=>if O≠0 then(some (.done (Sum.inl O))) else((Au (K+1)).bind λY=>some (.more Y))) else(some (.done (Sum.inr ())))
def f47(fu_:Nat)(p0:Bh):Option Int:=if(p0.1.length:Int)<2 then(some 7) else(if 5<(p0.1.length:Int) then(some 6) else(Option.bind (iter (Qv fu_ p0) fu_ 0) λK=>Sum.elim (λr=>some r) (λU=>if 8<(p0.2.length:Int) then(some 6) else(Option.bind (iter (XK fu_ p0) fu_ 0) λO=>Sum.elim (λr=>some r) (λY=>some 0) O)) K))
variable{a1:As}{c2:Nat}{p0:Bh}
theorem lE{aw:As}{ay:Nat}(cw:Ao (rL rI) E a1 c2 p0.1)(cy:Ao AF E aw ay p0.2)(a8:f47 fu_ p0=some r):AZ J 44 [.agg #[sV a1 p0.1 c2,sV aw p0.2 ay]] E [] (λw E' B'=>w=iV r/\B'=[]):=by
 refine Bq func44 λQ hv cs H c0 O=>?_;unfold f47 at a8;refine C 2 V (DD c0 λY c1 K Z az=>?_);refine C 5 V (Cc 0 Z underlying28 FI FX ?_);refine JL.ln underlying25 V V V (C 9 V ?_);refine AX a8 (λc3 c4=>?_) (λc3 c5=>?_);refine C 4 V ?_;cases c4;exact AW func44 V V (O K V ⟨V,V⟩ az);refine C 6 V (AX c5 (λc6 c7=>?_) (λc6 c8=>?_));refine C 4 V ?_;cases c7;exact AW func44 V V (O K V ⟨V,V⟩ az);refine C 5 V (Cc 0 Z underlying28 FI FX ?_);refine JL.ln underlying25 V V V ?_;let⟨a9,c9,a0⟩:=bs c8;refine C 2 V (Bx (λL s=>∃(bb:Unit) (a2:LH),a9=Sum.inr bb/\Jm c1 H a2 [] [(1,Ar Y 0)] L s) ?_ ?_);rintro _ _ ⟨bb,a2,rfl,rfl,rfl,U,be⟩;have dd:=elim_inr a0;refine C 3 V (Cc 1 (Z.M U) underlying28 HU Kj ?_);refine JL.ln underlying26 V V V (C 2 V ?_);refine AX dd (λdj ea=>?_) (λdj eb=>?_);refine C 4 V ?_;cases ea;exact AW func44 V V (O (K.Ad U) V ⟨V,V⟩ be);refine C 4 V (Cc 1 (Z.M U) underlying28 HU Kj ?_);refine JL.ln underlying26 V V V ?_;let⟨bi,ec,bn⟩:=bs eb;refine C 2 V (Bx (λL s=>∃(bo:Unit) (bv:LH),bi=Sum.inr bo/\Jm a2 H bv [] [] L s) ?_ ?_);rintro _ _ ⟨bo,bv,rfl,rfl,rfl,ed,ee⟩;have ef:=elim_inr bn;refine C 4 V ?_;cases ef;exact AW func44 V V (O ((K.Ad U).Ad ed) V ⟨V,V⟩ ee);intro eg;refine JL.block (Ej ec (λa3=>[]) (λa3=>[(1,Ar Y 0),(46,sV aw p0.2 ay),(47,iV (p0.2.length:Int)),(48,iV a3)]) AS be ?_);rintro a3 ej ac bw bx ⟨hw,ap⟩ ek;have bz:=ap;unfold XK at bz;refine C 5 V (AX bz (λel em=>?_) (λel eo=>?_));let⟨hx,ep,er⟩:=bs em;refine C 5 V (JS.ix (cy.M ((K.Ad U).Ad ac)) ep underlying26 Bv ?_);rintro hy hz _ ⟨_,_,rfl,rfl,⟨_,_,rfl,rfl,rfl⟩⟩ eu;refine B6 eu Ei Bv V V (B5 bw BU λhA ew=>?_);refine JS.sx 0 ew Bv λex=>?_;refine Db 0 ex V λhB a4 ey eA=>C 3 V (B6 ey Ei Bv V V ?_);refine Cc 0 (Z.M ((U.Ad ac).Ad a4)) underlying28 FI FX ?_;refine JL.ln underlying25 V V V ?_;let⟨hC,eC,eN⟩:=bs er;refine Co (Yt eC) V V (A4 func48 V) eA λhD b0 b1=>C 7 V (AX eN (λe0 e1=>?_) (λe0 e3=>?_));refine C 5 V ?_;cases e1;obtain rfl:=bx _ ap;have e4:=elim_inl bn;cases e4;exact AW func44 V V (O ((((K.Ad U).Ad ac).Ad a4).Ad b0) V ⟨V,V⟩ b1);let⟨e5,e6,e7⟩:=bs e3;refine C 3 V (Bt e6 V V V ?_);refine C 2 V ?_;cases e7;exact ek e5 ((ac.Ad a4).Ad b0) b1 V ap;refine JL.exit V ?_;cases eo;have e8:bi=(Sum.inr ()):=(bx _ ap).symm;exact Az (eg _ _ ⟨(),ej,e8,V,V,ac,bw⟩) V;intro ff;refine JL.block (Ej c9 (λag=>[]) (λag=>[(1,Ar Y 0),(21,sV a1 p0.1 c2),(22,iV (p0.1.length:Int)),(23,iV ag)]) AS az ?_);rintro ag b2 al a5 a6 ⟨hE,am⟩ fk;have b3:=am;unfold Qv at b3;refine C 5 V (AX b3 (λfl fm=>?_) (λfl fo=>?_));let⟨b4,fs,fv⟩:=bs fm;refine C 5 V (JS.ix (cw.M (K.Ad al)) fs underlying25 ET ?_);rintro hF hG _ ⟨fw,fN,rfl,gc⟩ ge;refine CH 0 ge He V V V (C 6 V ?_);refine JL.ln underlying22 V V V (C 2 V ?_);refine AX fv (λgg gh=>?_) (λgg gt=>?_);refine C 4 V ?_;cases gh;obtain rfl:=a6 _ am;have gE:=elim_inl a0;cases gE;exact AW func44 V V (O (K.Ad al) V ⟨V,V⟩ a5);refine C 4 V (JL.ln underlying22 V V V ?_);let⟨b5,gO,b6⟩:=bs gt;refine C 2 V (Bx (λL s=>∃(ca:Unit) (cc:LH),b5=Sum.inr ca/\Jm b2 H cc [] [(1,Ar Y 0),(21,sV a1 p0.1 c2),(22,iV (p0.1.length:Int)),(23,iV ag)] L s) ?_ ?_);rintro _ _ ⟨ca,cc,rfl,rfl,rfl,g0,g1⟩;have g3:=elim_inr b6;let⟨g4,g5,g6⟩:=bs g3;refine C 2 V (Bt g5 V V V ?_);refine C 2 V ?_;cases g6;exact fk g4 (al.Ad g0) g1 V am;intro g7;refine JL.block (Ej gO (λa7=>[]) (λa7=>[(1,Ar Y 0),(21,sV a1 p0.1 c2),(22,iV (p0.1.length:Int)),(23,iV ag),(30,sV fw b4 fN),(31,iV (b4.length:Int)),(32,iV a7)]) AS a5 ?_);rintro a7 g8 aq ce ci ⟨hH,av⟩ g9;have co:=av;unfold Qg at co;refine C 5 V (AX co (λha hb=>?_) (λha hc=>?_));let⟨hI,hd,he⟩:=bs hb;refine C 5 V (JS.ix (gc.M aq) hd underlying22 AK ?_);rintro hK hL _ rfl hf;refine CH 0 hf Bb V V V ?_;let⟨hg,hj,hk⟩:=bs he;refine C 5 V (Co (Oe hj) V V Ny ce λhM cp ct=>?_);refine An (v:=.bool (!hg)) V (λρ h=>Yl.not (h _ _ V)) (JL.done ?_);refine Cp hk (λhl hm=>?_) (λhl hn=>?_);refine C 4 V ?_;cases hm;obtain rfl:=ci _ av;have ho:=elim_inl b6;cases ho;obtain rfl:=a6 _ am;have hp:=elim_inl a0;cases hp;exact AW func44 V V (O (((K.Ad al).Ad aq).Ad cp) V ⟨V,V⟩ ct);let⟨hq,hr,hs⟩:=bs hn;refine C 3 V (Bt hr V V V ?_);refine C 2 V ?_;cases hs;exact g9 hq (aq.Ad cp) ct V av;refine JL.exit V ?_;cases hc;have ht:b5=(Sum.inr ()):=(ci _ av).symm;exact Az (g7 _ _ ⟨(),g8,ht,V,V,aq,ce⟩) V;refine JL.exit V ?_;cases fo;have hu:a9=(Sum.inr ()):=(a6 _ am).symm;exact Az (ff _ _ ⟨(),b2,hu,V,V,al,a5⟩) V
def Qq(fu_:Nat)(p0:Bh)(O:(List Int)×Int):Option (Bm ((List Int)×Int) ((List Int))):=if O.2<(p0.2.length:Int) then((ix p0.2 O.2).bind λK=>(ix O.1 K.2.1).bind λY=>(Au (Y+K.2.2)).bind λU=>(ix O.1 K.2.1).bind λal=>(ix (O.1.set (Int.toNat K.2.1) U) K.1).bind λZ=>(Au (Z - K.2.2)).bind λac=>(ix (O.1.set (Int.toNat K.2.1) U) K.1).bind λam=>(Au (O.2+1)).bind λag=>some (.more (((O.1.set (Int.toNat K.2.1) U).set (Int.toNat K.1) ac),ag))) else(some (.done O.1))
def f84(fu_:Nat)(p0:Bh):Option ((List Int)):=Option.bind (iter (Qq fu_ p0) fu_ ((List.replicate 5 (0:Int)),0)) λK=>some K
variable{a8:As}{a9:Nat}
theorem QK(e3:Ao (rL rI) E a1 c2 p0.1)(ce:Ao AF E a8 a9 p0.2){r:(List Int)}(bw:f84 fu_ p0=some r):AZ J 47 [.agg #[sV a1 p0.1 c2,sV a8 p0.2 a9]] E [] (λw E' B'=>∃(bx:Lv_),w=.agg bx.toArray/\B'=[]/\(rA 5 rI).r E' bx r):=by
 refine Bq func47 λQ e4 cs H ci co=>?_;unfold f84 at bw;refine C 2 V (DD ci λe5 a2 bz cp ct=>?_);refine B5 ct KU λa3 cw=>?_;refine C 3 V (B5 cw KU λU cy=>?_);refine C 4 V (JL.fd underlying57 CJ V V V ?_);refine Cc 1 cp underlying28 HU Kj ?_;refine JL.ln underlying26 V V V ?_;let⟨c0,c1,c3⟩:=bs bw;refine C 2 V (Bx (λL s=>∃(aw:LH) (Y:Lv_),Jn a2 H aw [bX a3 (([]:Lv_)++(List.replicate 5 (iV 0):Lv_)).toArray 96,bX U (([]:Lv_)++Y).toArray 96] [(2,Ar a3 0),(3,Ar U 0)] L s ((rA 5 rI).r aw Y c0)) ?_ ?_);rintro _ _ ⟨aw,Y,rfl,rfl,c4,b0,ac⟩;refine C 2 V (An (v:=.agg Y.toArray) V (λρ h=>H0 (kk:=5) (pp:=rI) ac Iw I5 (h _ _ V) (Hh (l:=[]) 1 b0 V)) ?_);refine Hx (v:=.agg Y.toArray) (l:=[]) (ws:=(List.replicate 5 (iV 0):Lv_)) (us:=Y) (o:=0) 0 V V V b0 V V V (by rw[Cb (kk:=5) (pp:=rI) ac];exact A0 type96) ((rA 5 rI).one ac) V (by rw[Cb (kk:=5) (pp:=rI) ac,Cb (kk:=5) (pp:=rI) (GG (E:=aw) (pp:=rI) rfl)];omega) λb1=>?_;rw[JU (by rw[Cb (kk:=5) (pp:=rI) ac,Cb (kk:=5) (pp:=rI) (GG (E:=aw) (pp:=rI) rfl)])] at b1 ⊢;refine JL.done (JS.drop 1 b1 V λb2=>?_);cases c3;refine JL.ret (v:=.agg Y.toArray) V V (BL.list func47 V (vs:=[.agg Y.toArray]) ⟨⟨_,V,Ld.many (vs:=Y) Iw (by rw[Cb (kk:=5) (pp:=rI) ac];exact A0 type96) (Hh (l:=[]) 0 b2 V)⟩,trivial⟩) (Fe 0 b2 V λc5=>?_);exact co (bz.Ad c4) V ⟨Y,V,V,ac⟩ c5
 .intro c6;refine JL.block (Ch c1 (λL s al=>∃(a4:LH) (am:Lv_),Jn a2 H a4 [bX a3 (([]:Lv_)++(List.replicate 5 (iV 0):Lv_)).toArray 96,bX U (([]:Lv_)++am).toArray 96] [(2,Ar a3 0),(3,Ar U 0),(8,sV a8 p0.2 a9),(9,iV (p0.2.length:Int)),(10,iV al.2)] L s ((rA 5 rI).r a4 am al.1)) ⟨a2,(List.replicate 5 (iV 0):Lv_),V,V,AS,cy,(GG (E:=a2) (pp:=rI) V)⟩ ?_);rintro _ _ al ⟨a4,am,rfl,rfl,bb,b3,ap⟩ c7 ⟨e6,be⟩ c8;have b4:=be;unfold Qq at b4;refine C 5 V (AX b4 (λc9 dd=>?_) (λc9 dj=>?_))
  .let⟨K,ea,eb⟩:=bs dd;refine C 5 V (JS.ix (ce.M (bz.Ad bb)) ea underlying26 Bv ?_);rintro e7 e8 _ ⟨_,_,rfl,rfl,⟨_,_,rfl,rfl,rfl⟩⟩ ec;refine B6 ec Ei Bv V V (B5 b3 BU λff ed=>?_);refine JS.sx 2 ed Bv λee=>?_;refine Db 2 ee V λbi aq a5 ay=>C 2 V (EF 6 [U] ⟨⟨1,_,V⟩,trivial⟩ ay λO=>?_);refine JG.fd 0 O underlying52 AK V V V V (JG.lp 1 O 1 a5 ay ⟨⟨1,_,V⟩,trivial⟩ Bb ?_);let⟨ef,b5,eg⟩:=bs eb;obtain⟨_,rfl,_,_,ej⟩:=ID (kk:=5) (pp:=rI) (Rp.M _ aq ap) b5;refine AU (v:=.pointer (some ⟨U,0+Int.toNat (K.2.1)*1,none⟩)) 2 O V V (λρ h s' az=>Kr (kk:=5) (pp:=rI) (Rp.M _ aq ap) b5 underlying96 AK (h _ _ V) (h _ _ V)) (AU (v:=iV ef) 3 O V V (λρ h s' az=>Yl.load Bb (h _ _ V) (O7 (l:=[]) 1 ay V (by simp[AG]) az (ej 0 _ V))) ?_);refine JG.fd 4 O underlying52 AK V V V V (JG.lp 5 O 2 a5 ay ⟨⟨1,_,V⟩,trivial⟩ Bb ?_);refine De [6,7,8] ?_;let⟨Z,ek,el⟩:=bs eg;refine Bt ek V V V ?_;let⟨fk,bn,em⟩:=bs el;obtain⟨_,rfl,_,_,fl⟩:=ID (kk:=5) (pp:=rI) (Rp.M _ aq ap) bn;refine An (v:=.pointer (some ⟨U,0+Int.toNat (K.2.1)*1,none⟩)) V (λρ h=>Kr (kk:=5) (pp:=rI) (Rp.M _ aq ap) bn underlying96 AK (h _ _ V) (h _ _ V)) ?_;have a6:=QB (us:=[iV Z]) (y:=Z) (Rp.M _ aq ap) bn V;refine Hx (v:=iV Z) (l:=[]) (ws:=am) (us:=[iV Z]) (o:=Int.toNat (K.2.1)*1) 1 V V V ay V V V AK (by simp[Value.cells,C5]) V a6.2 λav=>?_;replace a6:=a6.1;generalize eo:Jx am (Int.toNat (K.2.1)*1) [iV Z]=bo at av ⊢;have a0:(rA 5 rI).r bi bo (al.1.set (Int.toNat K.2.1) Z):=by rw[← eo];exact a6
   refine JL.done (EF 6 [U] ⟨⟨1,_,V⟩,trivial⟩ av λO=>?_);refine JG.fd 0 O underlying52 AK V V V V (JG.lp 1 O 0 a5 av ⟨⟨1,_,V⟩,trivial⟩ Bb ?_);let⟨ep,b6,er⟩:=bs em;obtain⟨_,rfl,_,_,eu⟩:=ID (kk:=5) (pp:=rI) a0 b6;refine AU (v:=.pointer (some ⟨U,0+Int.toNat (K.1)*1,none⟩)) 2 O V V (λρ h s' az=>Kr (kk:=5) (pp:=rI) a0 b6 underlying96 AK (h _ _ V) (h _ _ V)) (AU (v:=iV ep) 3 O V V (λρ h s' az=>Yl.load Bb (h _ _ V) (O7 (l:=[]) 1 av V (by simp[AG]) az (eu 0 _ V))) ?_);refine JG.fd 4 O underlying52 AK V V V V (JG.lp 5 O 2 a5 av ⟨⟨1,_,V⟩,trivial⟩ Bb ?_);refine De [6,7,8] ?_;let⟨ag,ew,ex⟩:=bs er;refine BY ew V V V ?_;let⟨fm,bv,ey⟩:=bs ex;obtain⟨_,rfl,_,_,fo⟩:=ID (kk:=5) (pp:=rI) a0 bv;refine An (v:=.pointer (some ⟨U,0+Int.toNat (K.1)*1,none⟩)) V (λρ h=>Kr (kk:=5) (pp:=rI) a0 bv underlying96 AK (h _ _ V) (h _ _ V)) ?_;have a7:=QB (us:=[iV ag]) (y:=ag) a0 bv V;refine Hx (v:=iV ag) (l:=[]) (ws:=bo) (us:=[iV ag]) (o:=Int.toNat (K.1)*1) 1 V V V av V V V AK (by simp[Value.cells,C5]) V a7.2 λca=>?_;replace a7:=a7.1;generalize eA:Jx bo (Int.toNat (K.1)*1) [iV ag]=cc at ca ⊢;have eC:(rA 5 rI).r bi cc ((al.1.set (Int.toNat K.2.1) Z).set (Int.toNat K.1) ag):=by rw[← eA];exact a7
   let⟨eN,e0,e1⟩:=bs ey;refine C 3 V (Bt e0 V V V ?_);refine C 2 V ?_;cases e1;exact Az (c8 _ _ (((al.1.set (Int.toNat K.2.1) Z).set (Int.toNat K.1) ag),eN) ⟨bi,cc,V,V,(bb.Ad aq),ca,eC⟩ be) V
  .refine JL.exit V ?_;cases dj;obtain rfl:=c7 _ be;exact Az (c6 _ _ ⟨a4,am,V,V,bb,b3,ap⟩) V
def Nl(fu_:Nat)(p0:List Int)(p1:Int×Int×Int):Option ((List Int)):=(ix p0 p1.1).bind λO=>(Au (O+p1.2.2)).bind λK=>(ix p0 p1.1).bind λZ=>(ix (p0.set (Int.toNat p1.1) K) p1.2.1).bind λU=>(Au (U - p1.2.2)).bind λY=>(ix (p0.set (Int.toNat p1.1) K) p1.2.1).bind λac=>some ((p0.set (Int.toNat p1.1) K).set (Int.toNat p1.2.1) Y)
theorem IH{w1:Lv_}{p0:List Int}{p1:Int×Int×Int}(al:(rA 5 rI).r E w1 p0){r:(List Int)}(a4:Nl fu_ p0 p1=some r):AZ J 51 [.agg w1.toArray,.agg #[iV p1.1,iV p1.2.1,iV p1.2.2]] E [] (λw E' B'=>∃(a5:Lv_),w=.agg a5.toArray/\B'=[]/\(rA 5 rI).r E' a5 r):=by
 refine Bq func51 λQ ci cs H bb be=>?_;unfold Nl at a4;refine C 2 V (JS.box (v:=.agg w1.toArray) V V V bb V λr3 bi=>?_);refine DD bi λco av Z aw bn=>?_;refine B5 bn KU λcp am=>?_;refine C 2 V (EF 6 [r3] ⟨⟨1,_,V⟩,trivial⟩ am λK=>?_);refine JG.fd 0 K underlying52 AK V V V V (JG.lp 1 K 0 aw am ⟨⟨1,_,V⟩,trivial⟩ Bb ?_);let⟨bo,a6,bv⟩:=bs a4;obtain⟨_,rfl,_,_,bw⟩:=ID (kk:=5) (pp:=rI) (Rp.M _ Z al) a6;refine AU (v:=.pointer (some ⟨r3,0+Int.toNat (p1.1)*1,none⟩)) 2 K V V (λρ h s' ap=>Kr (kk:=5) (pp:=rI) (Rp.M _ Z al) a6 underlying96 AK (h _ _ V) (h _ _ V)) (AU (v:=iV bo) 3 K V V (λρ h s' ap=>Yl.load Bb (h _ _ V) (O7 (l:=[]) 1 am V (by simp[AG]) ap (bw 0 _ V))) ?_);refine JG.fd 4 K underlying52 AK V V V V (JG.lp 5 K 2 aw am ⟨⟨1,_,V⟩,trivial⟩ Bb ?_);refine De [6,7,8] ?_;let⟨U,bx,bz⟩:=bs bv;refine Bt bx V V V ?_;let⟨ct,a0,b0⟩:=bs bz;obtain⟨_,rfl,_,_,cw⟩:=ID (kk:=5) (pp:=rI) (Rp.M _ Z al) a0;refine An (v:=.pointer (some ⟨r3,0+Int.toNat (p1.1)*1,none⟩)) V (λρ h=>Kr (kk:=5) (pp:=rI) (Rp.M _ Z al) a0 underlying96 AK (h _ _ V) (h _ _ V)) ?_;have ay:=QB (us:=[iV U]) (y:=U) (Rp.M _ Z al) a0 V;refine Hx (v:=iV U) (l:=[]) (ws:=w1) (us:=[iV U]) (o:=Int.toNat (p1.1)*1) 1 V V V am V V V AK (by simp[Value.cells,C5]) V ay.2 λac=>?_;replace ay:=ay.1;generalize b1:Jx w1 (Int.toNat (p1.1)*1) [iV U]=a1 at ac ⊢;have aq:(rA 5 rI).r av a1 (p0.set (Int.toNat p1.1) U):=by rw[← b1];exact ay
 refine C 2 V (EF 6 [r3] ⟨⟨1,_,V⟩,trivial⟩ ac λK=>?_);refine JG.fd 0 K underlying52 AK V V V V (JG.lp 1 K 1 aw ac ⟨⟨1,_,V⟩,trivial⟩ Bb ?_);let⟨b2,a7,b3⟩:=bs b0;obtain⟨_,rfl,_,_,b4⟩:=ID (kk:=5) (pp:=rI) aq a7;refine AU (v:=.pointer (some ⟨r3,0+Int.toNat (p1.2.1)*1,none⟩)) 2 K V V (λρ h s' ap=>Kr (kk:=5) (pp:=rI) aq a7 underlying96 AK (h _ _ V) (h _ _ V)) (AU (v:=iV b2) 3 K V V (λρ h s' ap=>Yl.load Bb (h _ _ V) (O7 (l:=[]) 1 ac V (by simp[AG]) ap (b4 0 _ V))) ?_);refine JG.fd 4 K underlying52 AK V V V V (JG.lp 5 K 2 aw ac ⟨⟨1,_,V⟩,trivial⟩ Bb ?_);refine De [6,7,8] ?_;let⟨ag,b5,b6⟩:=bs b3;refine BY b5 V V V ?_;let⟨cy,a2,ca⟩:=bs b6;obtain⟨_,rfl,_,_,c0⟩:=ID (kk:=5) (pp:=rI) aq a2;refine An (v:=.pointer (some ⟨r3,0+Int.toNat (p1.2.1)*1,none⟩)) V (λρ h=>Kr (kk:=5) (pp:=rI) aq a2 underlying96 AK (h _ _ V) (h _ _ V)) ?_;have az:=QB (us:=[iV ag]) (y:=ag) aq a2 V;refine Hx (v:=iV ag) (l:=[]) (ws:=a1) (us:=[iV ag]) (o:=Int.toNat (p1.2.1)*1) 1 V V V ac V V V AK (by simp[Value.cells,C5]) V az.2 λa3=>?_;replace az:=az.1;generalize cc:Jx a1 (Int.toNat (p1.2.1)*1) [iV ag]=O at a3 ⊢;have Y:(rA 5 rI).r av O ((p0.set (Int.toNat p1.1) U).set (Int.toNat p1.2.1) ag):=by rw[← cc];exact az
 refine C 3 V (An (v:=.agg O.toArray) V (λρ h=>H0 (kk:=5) (pp:=rI) Y Iw I5 (h _ _ V) (Hh (l:=[]) 1 a3 V)) ?_);refine Hx (v:=.agg O.toArray) (l:=[]) (ws:=(List.replicate 5 (iV 0):Lv_)) (us:=O) (o:=0) 3 V V V a3 V V V (by rw[Cb (kk:=5) (pp:=rI) Y];exact A0 type96) ((rA 5 rI).one Y) V (by rw[Cb (kk:=5) (pp:=rI) Y,Cb (kk:=5) (pp:=rI) (GG (E:=av) (pp:=rI) rfl)];omega) λa8=>?_;rw[JU (by rw[Cb (kk:=5) (pp:=rI) Y,Cb (kk:=5) (pp:=rI) (GG (E:=av) (pp:=rI) rfl)])] at a8 ⊢;refine JL.done (JS.drop 1 a8 V λa9=>?_);cases ca;refine JL.ret (v:=.agg O.toArray) V V (BL.list func51 V (vs:=[.agg O.toArray]) ⟨⟨_,V,Ld.many (vs:=O) Iw (by rw[Cb (kk:=5) (pp:=rI) Y];exact A0 type96) (Hh (l:=[]) 3 a9 V)⟩,trivial⟩) (Fe 3 a9 V λce=>?_);exact be Z V ⟨O,V,V,Y⟩ ce
def f106(fu_:Nat)(p0:Int)(p1:Int):Option Nat:=(Au (max p0 p1 - 1)).bind λx1=>(ix ([1,2,4,8]:List Nat) x1).bind λK=>(Au (4*(min p0 p1))).bind λO=>(Td K O).bind λU=>some U
theorem Xx{p0:Int}{r:Nat}(K:f106 fu_ p0 p1=some r):AZ J 75 [iV p0,iV p1] E [] (λw E' B'=>w=.int .u32 ((r:Nat):Int)/\B'=[]):=by
 refine Bq func75 λQ aw cs H O U=>?_;unfold f106 at K;refine C 8 V (An (v:=iV (min p0 p1)) V (λρ h=>Yl.min2 (h _ _ V) (h _ _ V)) ?_);refine C 2 V (An (v:=iV (max p0 p1)) V (λρ h=>Yl.max2 (h _ _ V) (h _ _ V)) ?_);refine C 5 V (An (v:=.agg (([1,2,4,8]:List Nat).map λx=>Value.int .u32 ((x:Nat):Int)).toArray) V (λρ h=>gf h underlying203 (Dw type203) (A0 type72) V V) ?_);let⟨x1,Y,Z⟩:=bs K;refine C 1 V (BY Y V V V ?_);let⟨ay,ac,ag⟩:=bs Z;refine XJ (fA (E:=E) ([1,2,4,8]:List Nat)) ac V V V V V underlying203 (A0 type72) (CK underlying72) ?_ (λ_=>V);rintro _ rfl;let⟨az,al,am⟩:=bs ag;refine C 1 V (An V (λρ h=>L6 (h _ _ V) (h _ _ V) al) ?_);let⟨ap,aq,av⟩:=bs am;refine An (v:=.int .u32 ((ap:Nat):Int)) V (λρ h=>aH (h _ _ V) (h _ _ V) aq) (C 2 V ?_);cases av;exact AW func75 V V (U AS V ⟨V,V⟩ O)
def f136(fu_:Nat)(p0:Nat)(p1:Int)(p2:Int):Option Bool:=(f106 fu_ p1 p2).bind λx1=>(Ql p0 x1).bind λK=>some (decide ((((K):Nat):Int)≠(((0):Nat):Int)))
theorem Xd{p0:Nat}{r:Bool}(K:f136 fu_ p0 p1 p3=some r):AZ J 49 [.int .u32 ((p0:Nat):Int),iV p1,iV p3] E [] (λw E' B'=>w=.bool r/\B'=[]):=by
 refine Bq func49 λQ aq cs H O U=>?_;unfold f136 at K;let⟨x1,Y,Z⟩:=bs K;refine C 9 V (Co (Xx Y) V V (A4 func75 V) O λav ac ag=>?_);let⟨al,am,ap⟩:=bs Z;refine An (v:=.int .u32 ((al:Nat):Int)) V (λρ h=>bV (h _ _ V) (h _ _ V) am) (C 3 V ?_);cases ap;exact AW func49 V V (U ac V ⟨V,V⟩ ag)
def PH(fu_:Nat)(O:(AT)×Int)(K:(AT)×Int):Option (Bm ((AT)×Int) ((AT))):=if K.2<O.2 then((room K.1 (K.2,O.2)).bind λU=>(Au (K.2+1)).bind λY=>some (.more (U,Y))) else(some (.done K.1))
def PW(fu_:Nat)(p0:Bh)(K:(AT)×Int):Option (Bm ((AT)×Int) ((AT))):=if K.2<(p0.1.length:Int) then(Option.bind (iter (PH fu_ K) fu_ (K.1,0)) λO=>(Au (K.2+1)).bind λU=>some (.more (O,U))) else(some (.done K.1))
def f133(fu_:Nat)(p0:Bh):Option ((AT)):=Option.bind (iter (PW fu_ p0) fu_ ([],0)) λK=>some K
theorem ji(eN:Ao (rL rI) E a1 c2 p0.1)(e0:Ao AF E a8 a9 p0.2){r:(AT)}(bb:f133 fu_ p0=some r):AZ J 100 [.agg #[sV a1 p0.1 c2,sV a8 p0.2 a9]] E [] (λw E' B'=>∃(be:As) (bi:Nat),w= sV be r bi/\B'=[]/\Ao EP E' be bi r):=by
 refine Bq func100 λQ e1 cs H b3 b4=>?_;unfold f133 at bb;refine C 2 V (DD b3 λe3 a2 b5 b6 ca=>?_);refine C 9 V (JL.fd underlying57 CJ V V V ?_);refine Cc 0 b6 underlying28 FI FX ?_;refine JL.ln underlying25 V V V ?_;let⟨bn,cc,ce⟩:=bs bb;refine C 2 V (Bx (λL s=>∃(a3:LH) (ap:As) (aq:Nat) (a4:Seg),Jn a2 H a3 [a4] [(3,sV ap bn aq)] L s (OL 141 EP a3 ap aq a4 bn)) ?_ ?_);rintro _ _ ⟨a3,ap,aq,a4,rfl,rfl,ci,co,cp⟩;refine C 5 V (Ck 0 cp co V λe4 ct cw cy=>?_);cases ce;exact AW func100 V V (b4 ((b5.Ad ci).Ad ct) V ⟨ap,aq,V,V,cw⟩ cy);intro c0;refine JL.block (Ch cc (λL s K=>∃(O:LH) (Y:As) (Z:Nat) (ac:Seg),Jn a2 H O [ac] [(3,sV Y K.1 Z),(9,iV (p0.1.length:Int)),(10,iV K.2)] L s (OL 141 EP O Y Z ac K.1)) ⟨a2,none,0,[],V,V,AS,ca,OL.nil⟩ ?_);rintro _ _ K ⟨O,Y,Z,ac,rfl,rfl,bo,bv,bw⟩ c1 ⟨e5,a5⟩ c3;have bx:=a5;unfold PW at bx;refine C 5 V (AX bx (λc4 c5=>?_) (λc4 c6=>?_));let⟨a6,c7,c8⟩:=bs c5;refine C 13 V (Bx (λL s=>∃(av:LH) (aw:As) (ay:Nat) (az:Seg),Jn O H av [az] [(3,sV aw a6 ay),(9,iV (p0.1.length:Int)),(10,iV K.2)] L s (OL 141 EP av aw ay az a6)) ?_ ?_);rintro _ _ ⟨av,aw,ay,az,rfl,rfl,c9,dd,dj⟩;let⟨ea,eb,ec⟩:=bs c8;refine C 2 V (Bt eb V V V ?_);refine C 2 V ?_;cases ec;exact Az (c3 _ _ (a6,ea) ⟨av,aw,ay,az,V,V,(bo.Ad c9),dd,dj⟩ a5) V;intro ed;refine JL.block (Ch c7 (λL s U=>∃(ag:LH) (al:As) (am:Nat) (a0:Seg),Jn O H ag [a0] [(3,sV al U.1 am),(4,iV K.2),(9,iV (p0.1.length:Int)),(10,iV K.2),(13,iV K.2),(14,iV U.2)] L s (OL 141 EP ag al am a0 U.1)) ⟨O,Y,Z,ac,V,V,AS,bv,bw⟩ ?_);rintro _ _ U ⟨ag,al,am,a0,rfl,rfl,bz,b0,b1⟩ ee ⟨e6,a7⟩ ef;have b2:=a7;unfold PH at b2;refine C 5 V (AX b2 (λeg ej=>?_) (λeg ek=>?_));refine C 12 V (An (v:=.agg #[iV U.2,iV K.2]) V (λρ h=>C4 [(0,1),(1,1)] h Kk underlying141 ⟨V,A0 type3,V,A0 type3,trivial⟩ V V) ?_);let⟨el,em,eo⟩:=bs ej;refine JS.app (pp:=EP) (v:=.agg #[iV U.2,iV K.2]) (a:=al) (c:=am) 0 em V V V V (λ_=>V) V (λ_=>V) V V V underlying174 underlying174 underlying174 GB (Dc type141) Kk V (by decide) (by decide) (by decide) (by decide) b1 ⟨_,_,V,V,V⟩ b0 V λe7 ep er eu ew ex=>?_;let⟨ey,eA,eC⟩:=bs eo;refine C 4 V (Bt eA V V V ?_);refine C 2 V ?_;cases eC;exact Az (ef _ _ (el,ey) ⟨ag,ep,er,eu,V,V,bz,ex,ew⟩ a7) V;refine JL.exit V ?_;cases ek;obtain rfl:=ee _ a7;exact Az (ed _ _ ⟨ag,al,am,a0,V,V,bz,b0,b1⟩) V;refine JL.exit V ?_;cases c6;obtain rfl:=c1 _ a5;exact Az (c0 _ _ ⟨O,Y,Z,ac,V,V,bo,bv,bw⟩) V
def f113(fu_:Nat)(p0:Int×Int×Int)(p1:Int×Int×Int):Option Int:=if p0.1≠p1.1 then((Au (p0.1 - p1.1)).bind λK=>some K) else(if p0.2.1≠p1.2.1 then((Au (p0.2.1 - p1.2.1)).bind λO=>some O) else((Au (p0.2.2 - p1.2.2)).bind λU=>some U))
theorem XA{p0 p1:Int×Int×Int}(ag:f113 fu_ p0 p1=some r):AZ J 66 [.agg #[iV p0.1,iV p0.2.1,iV p0.2.2],.agg #[iV p1.1,iV p1.2.1,iV p1.2.2]] E [] (λw E' B'=>w=iV r/\B'=[]):=by
 refine Bq func66 λQ a6 cs H al Y=>?_;unfold f113 at ag;refine C 2 V (DD al λr2 a7 Z O am=>?_);refine DD am λa8 a9 K U ac=>?_;refine C 6 V (Cc 0 (O.M K) underlying52 AK Bb ?_);refine Cc 0 U underlying52 AK Bb ?_;refine C 3 V (AX ag (λap aq=>?_) (λap av=>?_));refine C 2 V (Cc 0 (O.M K) underlying52 AK Bb ?_);refine Cc 0 U underlying52 AK Bb ?_;let⟨bb,aw,ay⟩:=bs aq;refine BY aw V V V (C 2 V ?_);cases ay;exact AW func66 V V (Y (Z.Ad K) V ⟨V,V⟩ ac);refine C 2 V (Cc 1 (O.M K) underlying52 AK Bb ?_);refine Cc 1 U underlying52 AK Bb ?_;refine C 3 V (AX av (λaz a0=>?_) (λaz a1=>?_));refine C 2 V (Cc 1 (O.M K) underlying52 AK Bb ?_);refine Cc 1 U underlying52 AK Bb ?_;let⟨be,a2,a3⟩:=bs a0;refine BY a2 V V V (C 2 V ?_);cases a3;exact AW func66 V V (Y (Z.Ad K) V ⟨V,V⟩ ac);refine C 4 V (Cc 2 (O.M K) underlying52 AK Bb ?_);refine Cc 2 U underlying52 AK Bb ?_;let⟨bi,a4,a5⟩:=bs a1;refine BY a4 V V V (C 2 V ?_);cases a5;exact AW func66 V V (Y (Z.Ad K) V ⟨V,V⟩ ac)
def Qo(fu_:Nat)(p0:List Int)(K:Int×Int):Option (Bm (Int×Int) Int):=if K.2<(p0.length:Int) then((ix p0 K.2).bind λO=>(Au (K.1+O)).bind λU=>(Au (K.2+1)).bind λY=>some (.more (U,Y))) else(some (.done K.1))
def f85(fu_:Nat)(p0:List Int):Option Int:=Option.bind (iter (Qo fu_ p0) fu_ (0,0)) λK=>some K
theorem IL{p0:List Int}(ag:Ao rI E a1 c2 p0)(Y:f85 fu_ p0=some r):AZ J 70 [sV a1 p0 c2] E [] (λw E' B'=>w=iV r/\B'=[]):=by
 refine Bq func70 λQ bv cs H al am=>?_;unfold f85 at Y;refine C 12 V (JL.ln underlying22 V V V ?_);let⟨ap,aq,av⟩:=bs Y;refine C 2 V (Fg [] [(3,iV ap)] (λbw aw ay=>?_) (λaz=>?_));refine C 5 V ?_;cases av;exact AW func70 V V (am aw V ⟨V,V⟩ ay);refine JL.block (Ej aq (λK=>[]) (λK=>[(3,iV K.1),(6,sV a1 p0 c2),(7,iV (p0.length:Int)),(8,iV K.2)]) AS al ?_);rintro K bx O Z a0 ⟨bz,U⟩ a2;have ac:=U;unfold Qo at ac;refine C 5 V (AX ac (λa3 a4=>?_) (λa3 a5=>?_));let⟨b0,a6,a7⟩:=bs a4;refine C 5 V (JS.ix (ag.M O) a6 underlying22 AK ?_);rintro b1 b2 _ rfl a8;refine CH 0 a8 Bb V V V ?_;let⟨a9,bb,be⟩:=bs a7;refine C 5 V (Bt bb V V V ?_);let⟨bi,bn,bo⟩:=bs be;refine C 4 V (Bt bn V V V ?_);refine C 2 V ?_;cases bo;exact a2 (a9,bi) O Z V U;refine JL.exit V ?_;cases a5;obtain rfl:=a0 _ U;exact az O Z V
end Pal
namespace Pal
open Go Go.Conc
variable {P:Program}{Q:Gs_}{n:Nat}{ds:Ld_}{ops:Ao_}{k:Li_}{cs:Lf_}{L:Env}{E H:LH}{S:List Seg}
variable {d:Option Tmp}{w:Operand}{t u ty:TypeId}{p:String}{af:Ae_}{g:On_}{rest:List Nat}{s:St}{ρ:Operand->Value}
variable{α:Type}{bk c kk o:Nat}{ws:Lv_}{hi:Int}
section
variable {J:Judge P}{b:Frame}
variable {x y:Operand}{e:TypeId}{i:Nat}
theorem Ao.mz{pp:Rp α}{xs ys:List α}(U:At E bk o ws)(O:(rA kk pp).r E ws xs)(hC:Ho xs 0 hi=some ys):Ao pp E (some ⟨bk,o,none⟩) kk ys:=by
 have ag:=O.1;unfold Ho at hC;split at hC
 .rename_i hb;cases hC;refine⟨by simp;omega,.inr ⟨bk,o,V,λq z K=>?_⟩⟩;simp only[Int.toNat_zero,uV,ta] at K;split at K
  .have Y:ix xs (q:Int)=some z:=by unfold ix;rw[d6 (by omega)];simpa using K
   let⟨us,Z,ac,_,_⟩:=lV O U Y;exact⟨us,Z,by simpa using ac⟩
  .cases K
 .cases hC
theorem fa{pp:Rp α}{xs ys:List α}(U:At E bk o ws)(K:(rA kk pp).r E ws xs)(hC:Ho xs 0 hi=some ys)
  (Y:ops[i]?=some ⟨d,.slice t x none (some w) none,ty,p,af,g⟩) (hw:A2 L ops ⟨d,.slice t x none (some w) none,ty,p,af,g⟩=some true) (Z:BZ b n ⟨d,.slice t x none (some w) none,ty,p,af,g⟩=true)
  (ac:ev L x=some (.pointer (some ⟨bk,o,none⟩))) (ag:ev L w=some (iV hi)) (al:P.underlying t=some (.array kk e)) (am:BB P e=some pp.n)
  (h:Ao pp E (some ⟨bk,o,none⟩) kk ys->JL J Q b n (AA L d (.slice (some ⟨bk,o,none⟩) ys.length kk)) ds (.inRegion ops rest::k) cs s):
  JL J Q b n L ds (.inRegion ops (i::rest)::k) cs s:=by
 have ap:=Ao.mz U K hC;have aw:=K.1;refine Bi Y hw Z (λρ O=>?_) (h ap);refine FY (sm:=Instr.sliceAt t (ρ x) none (some (ρ w)) none) V ?_;rw[O _ _ ac,O _ _ ag];unfold Ho at hC;split at hC
 .rename_i hb;cases hC;obtain⟨ay,az,a0⟩:=hb;unfold Instr.sliceAt;refine Ay _ _ (Cy al ?_);simp only[Instr.sureAddr,bind,Sem.bind,pure];have aq:Instr.sliceBounds false kk kk none (some (iV hi)) none=(pure (0,hi.toNat,kk):Sem _):=by
   simp only[Instr.sliceBounds,Instr.sliceBound,asIntOf,bind,Sem.bind,pure];rw[d6 (by omega)];rfl
  rw[aq];simp only[pure,Sem.bind];refine Ay (x:=Go.sizeOf e) _ (FC am ?_);have av:(if kk=0 then(⟨bk,o,none⟩:Addr) else Addr.add ⟨bk,o,none⟩ (0*pp.n))=⟨bk,o,none⟩:=by
   split;rfl;rw[Et rfl];simp
  rw[av];have e2:((xs.take hi.toNat).drop (0:Int).toNat).length=hi.toNat - 0:=by simp;omega
  rw[e2];exact⟨V,V⟩
 .cases hC
theorem bf{a:Option Addr}{l:Nat}(K:P.underlying t=some (.slice e))(O:ρ x=.slice a l c)(U:ρ (.const (.slice none 0 0))=.slice none 0 0):Yl P ⟨d,.binOp .neq t x (.const (.slice none 0 0)) u,ty,p,af,g⟩ ρ s (.bool (!a.isNone)):=by
 have Y:∀o,eqGuard o t x (.const (.slice none 0 0)) (.slice a l c) (.slice none 0 0)=Sem.pure ():=λo=>by cases o<;>rfl
 refine FY (sm:=do eqGuard .neq t x (.const (.slice none 0 0)) (ρ x) (ρ (.const (.slice none 0 0)));binOp .neq t (ρ x) (ρ (.const (.slice none 0 0)))) V ?_
 rw[O,U,Y];simp only[bind,Sem.bind];have hb:binOp .neq t (.slice a l c) (.slice none 0 0)=(do pure (.bool (!(← Op.equal t (.slice a l c) (.slice none 0 0))))):=V
 rw[hb];refine Ay (x:=Op.equal t _ _) _ ?_;unfold Op.equal Op.maxDepth Op.equalIn;refine Ay _ _ (Cy K ?_);cases a with
 | none=>exact⟨rfl,rfl⟩
 | some ad=>exact⟨rfl,rfl⟩
end
open Go.Proofs Go.Proofs.Tryz
variable {J:Judge Tryz.prog}
def W9(fu_:Nat)(p0:Bh)(p1:List Int)(K:Int):Option (Bm Int ((Bh×Int)⊕(Unit))):=if K<(p1.length:Int) then((ix p1 K).bind λO=>(Au ((p0.1.length:Int) - 1)).bind λU=>(f91 fu_ O 0 U).bind λY=>if(!Y)=true then(some (.done (Sum.inl (([],[]),3)))) else((Au (K+1)).bind λZ=>some (.more Z))) else(some (.done (Sum.inr ())))
def f70(fu_:Nat)(p0:Bh)(p1:List Int):Option (Bh×Int):=(f47 fu_ p0).bind λK=>if K≠0 then(some (([],[]),K)) else(Option.bind (iter (W9 fu_ p0 p1) fu_ 0) λO=>Sum.elim (λr=>some r) (λac=>Option.bind (if(p1.length:Int)=2 then((ix p1 (0)).bind λU=>(ix p1 (1)).bind λY=>some (decide (U=Y))) else(some false)) λZ=>if Z=true then(some (([],[]),8)) else(some (p0,0))) O)
variable{a1:As}{c2 fu_:Nat}
theorem Lc{Y:As}{Z:Nat}{al:As}{am:Nat}{p0:Bh}{p1:List Int}(a4:Ao (rL rI) E a1 c2 p0.1)(a5:Ao AF E Y Z p0.2)(aw:Ao rI E al am p1){r:Bh×Int}(a6:f70 fu_ p0 p1=some r):AZ J 21 [.agg #[sV a1 p0.1 c2,sV Y p0.2 Z],sV al p1 am] E [] (λw E' B'=>∃(a7:As) (a8:Nat) (a9:As) (bb:Nat),w=.tuple #[.agg #[sV a7 r.1.1 a8,sV a9 r.1.2 bb],iV r.2]/\B'=[]/\Ao (rL rI) E' a7 a8 r.1.1/\Ao AF E' a9 bb r.1.2):=by
 refine Bq func21 λQ fm cs H ce aq=>?_;unfold f70 at a6;refine C 2 V (DD ce λay fo K az ci=>?_);refine B5 ci HT λag co=>?_;refine C 5 V (B6 az EK CJ V V ?_);let⟨be,cp,ct⟩:=bs a6;refine Co (lE (a4.M K) (a5.M K) cp) V V (A4 func44 V) co λcw O bi=>C 7 V (AX ct (λcy c0=>?_) (λcy c1=>?_));refine C 2 V (An (v:=.agg #[nS,nS]) V (λρ h=>C4 [(0,2)] h HT underlying57 ⟨V,A0 type28,trivial⟩ V V) ?_);refine C 1 V (JS.sx 2 bi DR λbn=>?_);refine C 2 V ?_;cases c0;refine JL.ret (v:=.tuple #[.agg #[nS,nS],iV be]) V V (BL.list func21 V (vs:=[.agg #[nS,nS],iV be]) ⟨⟨_,V,Ld.many (vs:=[nS,nS]) FV DR (HV (off:=0) 2 bn V V)⟩,V,trivial⟩) (Fe 2 bn V λc3=>?_);exact aq (K.Ad O) V ⟨none,0,none,0,V,V,Ao.nil,Ao.nil⟩ c3;refine C 5 V (JL.ln underlying22 V V V ?_);let⟨bo,c4,bv⟩:=bs c1;refine C 2 V (Bx (λL s=>∃(bw:Unit) (a0:LH),bo=Sum.inr bw/\Jm cw H a0 [bX ag #[nS,nS] 57] [(1,sV al p1 am),(2,Ar ay 0),(4,Ar ag 0)] L s) ?_ ?_);rintro _ _ ⟨bw,a0,rfl,rfl,rfl,ac,bx⟩;have c5:=elim_inr bv;refine C 2 V (Fu 12 λU=>?_);refine DW 0 U V V (AU 1 U V V (λρ h s' fs=>Yl.len V underlying22 (h _ _ V)) ?_);refine A5 U V [2,3] V ?_;let⟨c6,bz,c7⟩:=bs c5;refine F5 0 (tR_ 12 0) (λL s=>L=[(2,Ar ay 0),(4,Ar ag 0),(41,.bool c6)]/\s=Ak a0 H [bX ag #[nS,nS] 57]) ?_ ?_;rintro _ _ ⟨rfl,rfl⟩;refine A3.fin (by decide+kernel) (Cp c7 (λc8 c9=>?_) (λc8 dd=>?_));refine C 2 V (An (v:=.agg #[nS,nS]) V (λρ h=>C4 [(0,2)] h HT underlying57 ⟨V,A0 type28,trivial⟩ V V) ?_);refine JS.sx 0 bx DR λb0=>?_;refine C 2 V ?_;cases c9;refine JL.ret (v:=.tuple #[.agg #[nS,nS],iV 8]) V V (BL.list func21 V (vs:=[.agg #[nS,nS],iV 8]) ⟨⟨_,V,Ld.many (vs:=[nS,nS]) FV DR (HV (off:=0) 0 b0 V V)⟩,V,trivial⟩) (Fe 0 b0 V λdj=>?_);exact aq ((K.Ad O).Ad ac) V ⟨none,0,none,0,V,V,Ao.nil,Ao.nil⟩ dj;refine C 3 V (B6 (az.M (O.Ad ac)) EK CJ V V ?_);refine An (v:=.agg #[sV a1 p0.1 c2,sV Y p0.2 Z]) V (λρ h=>C4 [(0,2)] h HT underlying57 ⟨V,A0 type28,trivial⟩ V V) (JS.sx 0 bx DR λb1=>?_);refine C 2 V ?_;cases dd;refine JL.ret (v:=.tuple #[.agg #[sV a1 p0.1 c2,sV Y p0.2 Z],iV 0]) V V (BL.list func21 V (vs:=[.agg #[sV a1 p0.1 c2,sV Y p0.2 Z],iV 0]) ⟨⟨_,V,Ld.many (vs:=[sV a1 p0.1 c2,sV Y p0.2 Z]) FV DR (HV (off:=0) 0 b1 V V)⟩,V,trivial⟩) (Fe 0 b1 V λea=>?_);exact aq ((K.Ad O).Ad ac) V ⟨a1,c2,Y,Z,V,V,(a4.M ((K.Ad O).Ad ac)),(a5.M ((K.Ad O).Ad ac))⟩ ea;intro b2;refine GC (q:=(p1.length:Int)=2) (i:=33) V (λa2=>?_) (λa2=>?_);have eb:=ip bz a2;refine DW 4 U V V ?_;let⟨fv,ec,ed⟩:=bs eb;refine Ew 5 (aw.M ((K.Ad O).Ad ac)) ec U underlying22 AK ?_;rintro fw fN _ rfl ee;refine DC 6 U 0 ee Bb V V V V ?_;refine DW 7 U V V ?_;let⟨gc,ef,eg⟩:=bs ed;refine Ew 8 (aw.M ((K.Ad O).Ad ac)) ef U underlying22 AK ?_;rintro ge gg _ rfl ej;refine DC 9 U 0 ej Bb V V V V ?_;refine A5 U V [10,11] V ?_;cases eg;refine Dy ?_ (b2 _ _ ⟨V,V⟩);exact⟨V,V,V,trivial⟩;have ek:=im bz a2;refine A5 U V [4,5,6,7,8,9,10,11] V ?_;cases ek;refine Dy ?_ (b2 _ _ ⟨V,V⟩);exact⟨V,V,V,trivial⟩;intro el;refine JL.block (Ej c4 (λa3=>[bX ag #[nS,nS] 57]) (λa3=>[(1,sV al p1 am),(2,Ar ay 0),(4,Ar ag 0),(15,sV al p1 am),(16,iV (p1.length:Int)),(17,iV a3)]) AS bi ?_);rintro a3 em ap b3 b4 ⟨gh,av⟩ eo;have b5:=av;unfold W9 at b5;refine C 5 V (AX b5 (λep er=>?_) (λep eu=>?_));let⟨gt,ew,ex⟩:=bs er;refine C 5 V (JS.ix (aw.M ((K.Ad O).Ad ap)) ew underlying22 AK ?_);rintro gE gO _ rfl ey;refine CH 0 ey Bb V V V (C 5 V ?_);refine Cc 0 (az.M (O.Ad ap)) underlying28 FI FX ?_;refine JL.ln underlying25 V V V ?_;let⟨g0,eA,eC⟩:=bs ex;refine BY eA V V V ?_;let⟨eN,e0,e1⟩:=bs eC;refine Co (Oe e0) V V Ny b3 λg1 b6 ca=>An (v:=.bool (!eN)) V (λρ h=>Yl.not (h _ _ V)) (JL.done ?_);refine Cp e1 (λe3 e4=>?_) (λe3 e5=>?_);refine C 2 V (An (v:=.agg #[nS,nS]) V (λρ h=>C4 [(0,2)] h HT underlying57 ⟨V,A0 type28,trivial⟩ V V) ?_);refine JS.sx 0 ca DR λcc=>?_;refine C 2 V ?_;cases e4;obtain rfl:=b4 _ av;have e6:=elim_inl bv;cases e6;refine JL.ret (v:=.tuple #[.agg #[nS,nS],iV 3]) V V (BL.list func21 V (vs:=[.agg #[nS,nS],iV 3]) ⟨⟨_,V,Ld.many (vs:=[nS,nS]) FV DR (HV (off:=0) 0 cc V V)⟩,V,trivial⟩) (Fe 0 cc V λe7=>?_);exact aq (((K.Ad O).Ad ap).Ad b6) V ⟨none,0,none,0,V,V,Ao.nil,Ao.nil⟩ e7;let⟨e8,ff,fk⟩:=bs e5;refine C 3 V (Bt ff V V V ?_);refine C 2 V ?_;cases fk;exact eo e8 (ap.Ad b6) ca V av;refine JL.exit V ?_;cases eu;have fl:bo=(Sum.inr ()):=(b4 _ av).symm;exact Az (el _ _ ⟨(),em,fl,V,V,ap,b3⟩) V
def Q7(fu_:Nat)(p0:List Int):Option ((List Int)):=(Ex ([]:List Int) p0).bind λK=>some K
variable{ad:Addr}
theorem jR{p0:List Int}(Y:Ao rI E (some ad) c2 p0){r:(List Int)}(K:Q7 fu_ p0=some r):AZ J 67 [.slice (some ad) p0.length c2] E [] (λw E' B'=>∃(O:As) (U:Nat) (g0:Seg),w= sV O r U/\B'=g0/\OL 3 rI E' O U g0 r):=by
 refine Bq func67 λQ a0 cs H Z ac=>?_;unfold Q7 at K;refine C 8 V (An (v:=.bool false) V (λρ h=>O9 (a:=(some ad)) underlying22 (h _ _ V) (h _ _ V)) ?_);refine C 5 V (PT (pp:=rI) V V V underlying22 AK Z λr1 g2 ag al=>?_);let⟨a1,am,ap⟩:=bs K;refine C 1 V (JX (pp:=rI) 1 am V V V V V V V underlying22 underlying22 AK (Dc type3) CR V (by decide) (by decide) ag Y al V λaq av aw ay az=>?_);refine C 2 V ?_;cases ap;exact AW func67 V V (ac AS V ⟨aq,av,aw,V,(by first | rfl | simp | (simp[Value.cells])),ay⟩ az)
def YD(fu_:Nat)(p0:List Int):Option ((List Int)):=some ([])
theorem jF{p0:List Int}(ac:Ao rI E none c2 p0){r:(List Int)}(K:YD fu_ p0=some r):AZ J 67 [sV none p0 c2] E [] (λw E' B'=>∃(O:As) (U:Nat) (g0:Seg),w= sV O r U/\B'=g0/\OL 3 rI E' O U g0 r):=by
 refine Bq func67 λQ ag cs H Y Z=>?_;unfold YD at K;refine C 8 V (An (v:=.bool true) V (λρ h=>O9 (a:=none) underlying22 (h _ _ V) (h _ _ V)) ?_);refine C 6 V ?_;cases K;exact AW func67 V V (Z AS V ⟨none,0,[],V,V,OL.nil⟩ Y)
def f87(fu_:Nat)(p0:List Int):Option (List Int):=Q7 fu_ p0
theorem lq{p0:List Int}(O:Ao rI E a1 c2 p0){r:List Int}(K:f87 fu_ p0=some r):AZ J 67 [.slice a1 p0.length c2] E [] (λw E' B'=>∃(U:As) (Y:Nat) (g0:Seg),w=.slice U r.length Y/\B'=g0/\OL 3 rI E' U Y g0 r):=by
 cases a1 with
 | some ad=>exact jR O K
 | none=>
  have Z:p0=[]:=by
   rcases O.2 with h | ⟨_,_,h,_⟩;exact h.1;cases h
  subst Z;have ac:r=[]:=by
   have ag:Q7 fu_ []=some []:=V;unfold f87 at K;rw[ag] at K;exact(f6 K).symm
  subst ac;exact jF (fu_:=fu_) O V
def Ok(fu_:Nat)(p0:AH):Option (AH):=(Ex ([]:AH) p0).bind λK=>some K
variable{p0 r:AH}
theorem fD(Y:Ao AF E (some ad) c2 p0)(K:Ok fu_ p0=some r):AZ J 148 [.slice (some ad) p0.length c2] E [] (λw E' B'=>∃(O:As) (U:Nat) (g0:Seg),w= sV O r U/\B'=g0/\OL 52 AF E' O U g0 r):=by
 refine Bq func148 λQ a0 cs H Z ac=>?_;unfold Ok at K;refine C 8 V (An (v:=.bool false) V (λρ h=>O9 (a:=(some ad)) underlying74 (h _ _ V) (h _ _ V)) ?_);refine C 5 V (PT (pp:=AF) V V V underlying74 Bv Z λr1 g2 ag al=>?_);let⟨a1,am,ap⟩:=bs K;refine C 1 V (JX (pp:=AF) 1 am V V V V V V V underlying74 underlying74 Bv (Dc type52) BU V (by decide) (by decide) ag Y al V λaq av aw ay az=>?_);refine C 2 V ?_;cases ap;exact AW func148 V V (ac AS V ⟨aq,av,aw,V,(by first | rfl | simp | (simp[Value.cells])),ay⟩ az)
def Yg(fu_:Nat)(p0:AH):Option (AH):=some ([])
theorem en(ac:Ao AF E none c2 p0)(K:Yg fu_ p0=some r):AZ J 148 [sV none p0 c2] E [] (λw E' B'=>∃(O:As) (U:Nat) (g0:Seg),w= sV O r U/\B'=g0/\OL 52 AF E' O U g0 r):=by
 refine Bq func148 λQ ag cs H Y Z=>?_;unfold Yg at K;refine C 8 V (An (v:=.bool true) V (λρ h=>O9 (a:=none) underlying74 (h _ _ V) (h _ _ V)) ?_);refine C 6 V ?_;cases K;exact AW func148 V V (Z AS V ⟨none,0,[],V,V,OL.nil⟩ Y)
def f129(fu_:Nat)(p0:AH):Option AH:=Ok fu_ p0
theorem jf(O:Ao AF E a1 c2 p0)(K:f129 fu_ p0=some r):AZ J 148 [.slice a1 p0.length c2] E [] (λw E' B'=>∃(U:As) (Y:Nat) (g0:Seg),w=.slice U r.length Y/\B'=g0/\OL 52 AF E' U Y g0 r):=by
 cases a1 with
 | some ad=>exact fD O K
 | none=>
  have Z:p0=[]:=by
   rcases O.2 with h | ⟨_,_,h,_⟩;exact h.1;cases h
  subst Z;have ac:r=[]:=by
   have ag:Ok fu_ []=some []:=V;unfold f129 at K;rw[ag] at K;exact(f6 K).symm
  subst ac;exact en (fu_:=fu_) O V
def f43(fu_:Nat)(p0:Bh):Option ((List Int)×Int):=(f70 fu_ p0 ([])).bind λK=>if K.2≠0 then(some ([],K.2)) else((f84 fu_ K.1).bind λO=>(Ho O 0 (p0.1.length:Int)).bind λU=>(f87 fu_ U).bind λY=>some (Y,0))
theorem lP{ac:As}{ag:Nat}{p0:Bh}(a3:Ao (rL rI) E a1 c2 p0.1)(a4:Ao AF E ac ag p0.2){r:(List Int)×Int}(al:f43 fu_ p0=some r):AZ J 33 [.agg #[sV a1 p0.1 c2,sV ac p0.2 ag]] E [] (λw E' B'=>∃(am:As) (ap:Nat),w=.tuple #[sV am r.1 ap,iV r.2]/\B'=[]/\Ao rI E' am ap r.1):=by
 refine Bq func33 λQ c3 cs H a5 aq=>?_;unfold f43 at al;refine C 2 V (DD a5 λc4 c5 U av a6=>?_);refine C 5 V (B6 av EK CJ V V ?_);let⟨c6,a7,a8⟩:=bs al;refine BW (Lc (a3.M U) (a4.M U) Ao.nil a7) V V KR a6 ?_;rintro _ c7 _ Y ⟨c8,c9,dd,dj,rfl,rfl,a9,bb⟩ be;refine C 3 V (B5 be HT λea bi=>?_);refine JS.sx 3 bi DR λbn=>?_;refine Db 3 bn V λeb K bo aw=>C 8 V (AX a8 (λbv bw=>?_) (λbv bx=>?_));refine C 6 V ?_;cases bw;exact AW func33 V V (aq ((U.Ad Y).Ad K) V ⟨none,0,V,V,Ao.nil⟩ aw);refine C 3 V (B6 bo FV DR V V ?_);let⟨ec,bz,b0⟩:=bs bx;refine BW (QK (a9.M K) (bb.M K) bz) V V OR aw ?_;rintro _ ay _ az ⟨Z,rfl,rfl,O⟩ b1;refine B5 b1 KU λed b2=>?_;refine Hx (v:=.agg Z.toArray) (l:=[]) (ws:=(List.replicate 5 (iV 0):Lv_)) (us:=Z) (o:=0) 5 V V V b2 V V V (by rw[Cb (kk:=5) (pp:=rI) O];exact A0 type96) ((rA 5 rI).one O) V (by rw[Cb (kk:=5) (pp:=rI) O,Cb (kk:=5) (pp:=rI) (GG (E:=ay) (pp:=rI) rfl)];omega) λa0=>?_;rw[JU (by rw[Cb (kk:=5) (pp:=rI) O,Cb (kk:=5) (pp:=rI) (GG (E:=ay) (pp:=rI) rfl)])] at a0 ⊢;refine C 3 V (Cc 0 (av.M ((Y.Ad K).Ad az)) underlying28 FI FX ?_);refine JL.ln underlying25 V V V (Db 5 a0 V λee a2 b3 b4=>?_);let⟨ef,b5,b6⟩:=bs b0;refine fa (ws:=Z) (pp:=rI) b3 (Rp.M _ a2 O) b5 V V V V V underlying96 AK λca=>?_;let⟨eg,cc,ce⟩:=bs b6;refine BW (lq ca cc) V V (A4 func67 V) b4 ?_;rintro _ ej ek ci ⟨co,cp,_,rfl,rfl,ct⟩ cw;refine C 3 V (Ck 6 ct cw V λel cy c0 c1=>?_);cases ce;exact AW func33 V V (aq ((((((U.Ad Y).Ad K).Ad az).Ad a2).Ad ci).Ad cy) V ⟨co,cp,V,V,c0⟩ c1)
def Qf(fu_:Nat)(p0:AH)(p1:AH)(K:Int):Option (Bm Int ((Int)⊕(Unit))):=if K<(p0.length:Int) then((ix p0 K).bind λU=>if(p1.length:Int)<=K then(some (.done (Sum.inl 1))) else((ix p1 K).bind λY=>(f113 fu_ U Y).bind λO=>if O≠0 then(some (.done (Sum.inl O))) else((Au (K+1)).bind λZ=>some (.more Z)))) else(some (.done (Sum.inr ())))
def f112(fu_:Nat)(p0:AH)(p1:AH):Option Int:=Option.bind (iter (Qf fu_ p0 p1) fu_ 0) λK=>Sum.elim (λr=>some r) (λO=>if(p0.length:Int)<(p1.length:Int) then(some (-1)) else(some 0)) K
theorem iE{U:As}{Y:Nat}{p1:AH}(a9:Ao AF E a1 c2 p0)(bb:Ao AF E U Y p1){r:Int}(aw:f112 fu_ p0 p1=some r):AZ J 65 [sV a1 p0 c2,sV U p1 Y,(fV 66)] E [] (λw E' B'=>w=iV r/\B'=[]):=by
 refine Bq func65 λQ ee cs H be Z=>?_;unfold f112 at aw;refine C 8 V (JL.ln underlying74 V V V ?_);let⟨ay,bi,ag⟩:=bs aw;refine C 2 V (Bx (λL s=>∃(az:Unit) (a0:LH),ay=Sum.inr az/\Jm E H a0 [] [(0,sV a1 p0 c2),(1,sV U p1 Y)] L s) ?_ ?_);rintro _ _ ⟨az,a0,rfl,rfl,rfl,a2,a3⟩;have bn:=elim_inr ag;refine C 4 V (JL.ln underlying74 V V V ?_);refine C 1 V (JL.ln underlying74 V V V ?_);refine C 2 V (AX bn (λbo bv=>?_) (λbo bw=>?_));refine C 4 V ?_;cases bv;exact AW func65 V V (Z a2 V ⟨V,V⟩ a3);refine C 5 V ?_;cases bw;exact AW func65 V V (Z a2 V ⟨V,V⟩ a3);intro bx;refine JL.block (Ej bi (λal=>[]) (λal=>[(0,sV a1 p0 c2),(1,sV U p1 Y),(2,(fV 66)),(11,sV a1 p0 c2),(12,iV (p0.length:Int)),(13,iV al)]) AS be ?_);rintro al bz K a4 am ⟨ef,O⟩ b0;have a5:=O;unfold Qf at a5;refine C 5 V (AX a5 (λb1 b2=>?_) (λb1 b3=>?_));let⟨ap,b4,b5⟩:=bs b2;refine C 6 V (JS.ix (a9.M K) b4 underlying74 Bv ?_);rintro eg ej _ ⟨_,_,rfl,rfl,⟨_,_,rfl,rfl,rfl⟩⟩ b6;refine B6 b6 Ei Bv V V (B5 a4 BU λek ca=>?_);refine C 1 V (JS.sx 0 ca Bv λcc=>?_);refine Db 0 cc V λel ac ce a6=>C 6 V (JL.ln underlying74 V V V ?_);refine C 2 V (AX b5 (λci co=>?_) (λci cp=>?_));refine C 4 V ?_;cases co;obtain rfl:=am _ O;have ct:=elim_inl ag;cases ct;exact AW func65 V V (Z (K.Ad ac) V ⟨V,V⟩ a6);let⟨aq,cw,cy⟩:=bs cp;refine C 5 V (JS.ix (bb.M (K.Ad ac)) cw underlying74 Bv ?_);rintro em eo _ ⟨_,_,rfl,rfl,⟨_,_,rfl,rfl,rfl⟩⟩ c0;refine B6 c0 Ei Bv V V (B5 a6 BU λep c1=>?_);refine JS.sx 1 c1 Bv λc3=>?_;refine Db 1 c3 V λer av c4 c5=>C 4 V (B6 (ce.M av) Ei Bv V V ?_);refine B6 c4 Ei Bv V V ?_;let⟨eu,c6,c7⟩:=bs cy;refine LV (vs:=[.agg #[iV ap.1,iV ap.2.1,iV ap.2.2],.agg #[iV aq.1,iV aq.2.1,iV aq.2.2]]) (XA c6) V V V V (A4 func66 V) V c5 ?_;rintro _ ew _ a7 ⟨rfl,rfl⟩ a8;refine C 7 V (AX c7 (λc8 c9=>?_) (λc8 dd=>?_));refine C 5 V ?_;cases c9;obtain rfl:=am _ O;have dj:=elim_inl ag;cases dj;exact AW func65 V V (Z (((K.Ad ac).Ad av).Ad a7) V ⟨V,V⟩ a8);let⟨ea,eb,ec⟩:=bs dd;refine C 3 V (Bt eb V V V ?_);refine C 2 V ?_;cases ec;exact b0 ea (((K.Ad ac).Ad av).Ad a7) a8 V O;refine JL.exit V ?_;cases b3;have ed:ay=(Sum.inr ()):=(am _ O).symm;exact Az (bx _ _ ⟨(),bz,ed,V,V,K,a4⟩) V
def f74(fu_:Nat)(p0:AH)(p1:AH):Option Int:=(f112 fu_ p0 p1).bind λK=>some K
variable{a8:As}{O:Nat}
theorem Hl{p1:AH}(Y:Ao AF E a1 c2 p0)(Z:Ao AF E a8 O p1){r:Int}(U:f74 fu_ p0 p1=some r):AZ J 30 [sV a1 p0 c2,sV a8 p1 O] E [] (λw E' B'=>w=iV r/\B'=[]):=by
 refine Bq func30 λQ av cs H ac ag=>?_;unfold f74 at U;let⟨aw,al,am⟩:=bs U;refine C 8 V (Co (iE Y Z al) V V (A4 func65 V) ac λay ap aq=>?_);refine C 2 V ?_;cases am;exact AW func30 V V (ag ap V ⟨V,V⟩ aq)
def f73(fu_:Nat)(p0:AH)(p1:AH):Option Bool:=(f74 fu_ p0 p1).bind λK=>some (decide (K<0))
theorem lK{p1:AH}(Y:Ao AF E a1 c2 p0)(Z:Ao AF E a8 O p1){r:Bool}(U:f73 fu_ p0 p1=some r):AZ J 32 [sV a1 p0 c2,sV a8 p1 O] E [] (λw E' B'=>w=.bool r/\B'=[]):=by
 refine Bq func32 λQ av cs H ac ag=>?_;unfold f73 at U;let⟨aw,al,am⟩:=bs U;refine C 8 V (Co (Hl Y Z al) V V Hf ac λay ap aq=>?_);refine C 3 V ?_;cases am;exact AW func32 V V (ag ap V ⟨V,V⟩ aq)
def f72(fu_:Nat)(p0:AH×Bool)(p1:AH):Option ((AH×Bool)):=Option.bind (if(!p0.2)=true then(some true) else((f73 fu_ p1 p0.1).bind λK=>some K)) λO=>Option.bind (if O=true then(some (p1,true)) else(some p0)) λU=>some U
theorem lr{K:As}{p0:AH×Bool}{p1:AH}(ap:Ao AF E a1 c2 p0.1)(aq:Ao AF E K O p1){r:(AH×Bool)}(av:f72 fu_ p0 p1=some r):AZ J 31 [Ar bk 0,sV K p1 O,(fV 32)] E [(bk,.cells #[sV a1 p0.1 c2,.bool p0.2] 78 (0,0))] (λw E' B'=>∃(aw:As) (ay:Nat),w=.tuple #[]/\B'=[(bk,.cells #[sV aw r.1 ay,.bool r.2] 78 (0,0))]/\Ao AF E' aw ay r.1):=by
 refine Bq func31 λQ b6 cs H Y a3=>?_;unfold f72 at av;refine C 4 V (JL.fd underlying78 NC V V V ?_);refine An (v:=.bool p0.2) V (λρ h=>Yl.load Rh (h _ _ V) (B8 (j:=0) (off:=1) Y V V)) (An (v:=.bool (!p0.2)) V (λρ h=>Yl.not (h _ _ V)) ?_);let⟨a4,a5,a6⟩:=bs av;refine C 1 V (HY [] (λL s=>∃(U:LH),Jm E H U [bX bk #[sV a1 p0.1 c2,.bool p0.2] 78] [(0,Ar bk 0),(1,sV K p1 O),(19,.bool a4)] L s) ?_ ?_);rintro _ _ ⟨U,rfl,rfl,ag,az⟩;let⟨al,a7,a8⟩:=bs a6;refine JL.done (Bx (λL s=>∃(am:LH) (Z:As) (ac:Nat),Jn U H am [bX bk #[sV Z al.1 ac,.bool al.2] 78] [] L s (Ao AF am Z ac al.1)) ?_ ?_);rintro _ _ ⟨am,Z,ac,rfl,rfl,a9,bb,be⟩;cases a8;exact JL.fin (v:=.tuple #[]) V V (BL.list func31 V (vs:=[]) trivial) (a3 (ag.Ad a9) V ⟨Z,ac,V,V,be⟩ bb);intro a0;refine Cp a7 (λbi bn=>?_) (λbi bo=>?_);refine C 5 V (JL.fd underlying78 A1 V V V ?_);refine JS.sx 0 az A1 λbv=>?_;refine C 1 V (JL.fd underlying78 NC V V V ?_);refine JS.sx 0 bv NC λbw=>?_;refine JL.done ?_;cases bn;exact Az (a0 _ _ ⟨U,K,O,V,V,AS,bw,(aq.M ag)⟩) V;refine JL.skip ?_;cases bo;exact Az (a0 _ _ ⟨U,a1,c2,V,V,AS,az,(ap.M ag)⟩) V;intro a2;refine EM 11 a5 (λbx bz=>?_) (λbx b0=>?_);refine C 8 V ?_;cases bz;exact Az (a2 _ _ ⟨E,V,V,AS,Y⟩) V;refine C 4 V (JL.fd underlying78 A1 V V V ?_);refine An (v:=sV a1 p0.1 c2) V (λρ h=>Yl.load BE (h _ _ V) (B8 (j:=0) (off:=0) Y V V)) ?_;let⟨ca,b1,b2⟩:=bs b0;refine LV (vs:=[sV K p1 O,sV a1 p0.1 c2]) (lK aq ap b1) V V V V (A4 func32 V) V Y ?_;rintro _ b3 _ b4 ⟨rfl,rfl⟩ b5;refine C 1 V ?_;cases b2;exact Az (a2 _ _ ⟨b3,V,V,b4,b5⟩) V
variable {J:Judge Tryz.prog}
def PV(fu_:Nat)(O:List Int)(K:(AT)×Int):Option (Bm ((AT)×Int) ((AT))):=if K.2<(O.length:Int) then((ix O K.2).bind λU=>(Au (((Bg K.1 U).getD 0)+1)).bind λY=>(Au (K.2+1)).bind λZ=>some (.more ((Cm K.1 U Y),Z))) else(some (.done K.1))
def PC(fu_:Nat)(p0:Bh)(K:(List AT)×Int):Option (Bm ((List AT)×Int) ((List AT))):=if K.2<(p0.1.length:Int) then((ix p0.1 K.2).bind λO=>Option.bind (iter (PV fu_ O) fu_ (([]:AT),0)) λU=>(room K.1 U).bind λY=>(Au (K.2+1)).bind λZ=>some (.more (Y,Z))) else(some (.done K.1))
def f120(fu_:Nat)(p0:Bh):Option ((List AT)):=Option.bind (iter (PC fu_ p0) fu_ ([],0)) λK=>some K
theorem jY{bb:As}{be:Nat}{p0:Bh}(ca:Ao (rL rI) E a1 c2 p0.1)(gh:Ao AF E bb be p0.2){r:(List AT)}(bi:f120 fu_ p0=some r):AZ J 56 [.agg #[sV a1 p0.1 c2,sV bb p0.2 be]] E [] (λw E' B'=>∃(bn:As) (bo:Nat),w= sV bn r bo/\B'=[]/\Ao (rM rI false rI false) E' bn bo r):=by
 refine Bq func56 λQ gt cs H cc ce=>?_;unfold f120 at bi;refine C 2 V (DD cc λgE ay bv ci co=>?_);refine C 9 V (JL.fd underlying57 CJ V V V ?_);refine Cc 0 ci underlying28 FI FX ?_;refine JL.ln underlying25 V V V ?_;let⟨bw,cp,ct⟩:=bs bi;refine C 2 V (Bx (λL s=>∃(az:LH) (am:As) (ap:Nat) (a0:Seg),Jn ay H az [a0] [(3,sV am bw ap)] L s (OL 168 (rM rI false rI false) az am ap a0 bw)) ?_ ?_);rintro _ _ ⟨az,am,ap,a0,rfl,rfl,cw,cy,c0⟩;refine C 5 V (Ck 0 c0 cy V λgO c1 c3 c4=>?_);cases ct;exact AW func56 V V (ce ((bv.Ad cw).Ad c1) V ⟨am,ap,V,V,c3⟩ c4);intro c5;refine JL.block (Ch cp (λL s K=>∃(O:LH) (U:As) (Y:Nat) (ac:Seg),Jn ay H O [ac] [(3,sV U K.1 Y),(11,sV a1 p0.1 c2),(12,iV (p0.1.length:Int)),(13,iV K.2)] L s (OL 168 (rM rI false rI false) O U Y ac K.1)) ⟨ay,none,0,[],V,V,AS,co,OL.nil⟩ ?_);rintro _ _ K ⟨O,U,Y,ac,rfl,rfl,a2,bx,bz⟩ c6 ⟨g0,a3⟩ c7;have b0:=a3;unfold PC at b0;refine C 5 V (AX b0 (λc8 c9=>?_) (λc8 dd=>?_));let⟨b1,dj,ea⟩:=bs c9;refine C 5 V (JS.ix (ca.M (bv.Ad a2)) dj underlying25 ET ?_);rintro g1 g3 _ ⟨eb,ec,rfl,ed⟩ ee;refine CH 0 ee He V V V (C 4 V ?_);refine JS.makeMap V V V bx λag ef=>C 6 V (JL.ln underlying22 V V V ?_);let⟨b2,eg,ej⟩:=bs ea;refine C 2 V (Bx (λL s=>∃(a4:LH) (aq:Obj),Jn O H a4 [ac,[(ag,aq)]] [(3,sV U K.1 Y),(6,.map (some ag)),(11,sV a1 p0.1 c2),(12,iV (p0.1.length:Int)),(13,iV K.2)] L s (B3 rI false rI false a4 aq b2)) ?_ ?_);rintro _ _ ⟨a4,aq,rfl,rfl,b3,ek,el⟩;refine C 3 V (RB 1 ek V λb4 a5 em eo=>?_);have ep:B3 rI false rI false b4 aq b2:=(el.M a5);let⟨er,eu,ew⟩:=bs ej;refine JS.app (pp:=(rM rI false rI false)) (v:=.map (some ag)) (a:=U) (c:=Y) 0 eu V V V V (λ_=>V) V (λ_=>V) V V V underlying121 underlying121 underlying121 Iz (Dc type168) (Dw type168) V (by decide) (by decide) (by decide) (by decide) (bz.M (b3.Ad a5)) ⟨_,_,V,em,ep⟩ eo V λg4 ex ey eA eC eN=>?_;let⟨e0,e1,e3⟩:=bs ew;refine C 4 V (Bt e1 V V V ?_);refine C 2 V ?_;cases e3;exact Az (c7 _ _ (er,e0) ⟨b4,ex,ey,eA,V,V,((a2.Ad b3).Ad a5),eN,eC⟩ a3) V;intro e4;refine JL.block (Ch eg (λL s Z=>∃(al:LH) (av:Obj),Jn O H al [ac,[(ag,av)]] [(3,sV U K.1 Y),(6,.map (some ag)),(11,sV a1 p0.1 c2),(12,iV (p0.1.length:Int)),(13,iV K.2),(18,sV eb b1 ec),(19,iV (b1.length:Int)),(20,iV Z.2)] L s (B3 rI false rI false al av Z.1)) ⟨O,(.map #[] 0),V,V,AS,ef,B3.nil⟩ ?_);rintro _ _ Z ⟨al,av,rfl,rfl,a6,a7,a8⟩ e5 ⟨g5,a9⟩ e6;have b5:=a9;unfold PV at b5;refine C 5 V (AX b5 (λe7 e8=>?_) (λe7 ff=>?_));let⟨aw,fk,fl⟩:=bs e8;refine C 5 V (JS.ix (ed.M a6) fk underlying22 AK ?_);rintro g6 g7 _ rfl fm;refine CH 0 fm Bb V V V (C 5 V ?_);refine An (v:=iV ((Bg Z.1 aw).getD 0)) V (λρ h=>Yl.lookup (ok:=false) (xs:=Z.1) (x0:=aw) (z0:=0) J9 underlying168 CR ⟨_,V,V⟩ a8 ⟨_,V,V⟩ (by rintro _ ⟨_,rfl,rfl⟩;rfl) (h _ _ V) (h _ _ V) (Ed (j:=1) (i:=0) a7 V V)) ?_;let⟨b6,fo,fs⟩:=bs fl;refine Bt fo V V V (JS.mapUpdate (xs:=Z.1) (x0:=aw) (v0:=b6) 1 J9 underlying168 a8 ⟨_,V,V⟩ ⟨_,V,V⟩ a7 V V V V V V V λfv fw fN=>?_);let⟨gc,ge,gg⟩:=bs fs;refine C 3 V (Bt ge V V V ?_);refine C 2 V ?_;cases gg;exact Az (e6 _ _ ((Cm Z.1 aw b6),gc) ⟨al,fv,V,V,a6,fN,fw⟩ a9) V;refine JL.exit V ?_;cases ff;obtain rfl:=e5 _ a9;exact Az (e4 _ _ ⟨al,av,V,V,a6,a7,a8⟩) V;refine JL.exit V ?_;cases dd;obtain rfl:=c6 _ a3;exact Az (c5 _ _ ⟨O,U,Y,ac,V,V,a2,bx,bz⟩) V
def Xb(fu_:Nat)(p0:Bh)(O:(List Int))(K:(List Int)×Int):Option (Bm ((List Int)×Int) ((List Int))):=if K.2<5 then((ix O K.2).bind λU=>Option.bind (if K.2<(p0.1.length:Int) then((ix p0.1 K.2).bind λY=>(f85 fu_ Y).bind λZ=>(Au (-(U))).bind λac=>some (decide (Z<ac))) else(some false)) λag=>Option.bind (if ag=true then((room K.1 K.2).bind λal=>some al) else(some K.1)) λam=>(Au (K.2+1)).bind λap=>some (.more (am,ap))) else(some (.done K.1))
def f39(fu_:Nat)(p0:Bh):Option ((List Int)×Int):=(f70 fu_ p0 ([])).bind λK=>if K.2≠0 then(some ([],K.2)) else((f84 fu_ K.1).bind λO=>Option.bind (iter (Xb fu_ p0 O) fu_ ([],0)) λU=>some (U,0))
theorem lR{bo:As}{bv:Nat}{p0:Bh}(bw:Ao (rL rI) E a1 c2 p0.1)(cc:Ao AF E bo bv p0.2){r:(List Int)×Int}(bx:f39 fu_ p0=some r):AZ J 37 [.agg #[sV a1 p0.1 c2,sV bo p0.2 bv]] E [] (λw E' B'=>∃(bz:As) (b0:Nat),w=.tuple #[sV bz r.1 b0,iV r.2]/\B'=[]/\Ao rI E' bz b0 r.1):=by
 refine Bq func37 λQ g7 cs H ce b1=>?_;unfold f39 at bx;refine C 2 V (DD ce λa3 g8 al a4 ci=>?_);refine C 5 V (B6 a4 EK CJ V V ?_);let⟨g9,co,cp⟩:=bs bx;refine BW (Lc (bw.M al) (cc.M al) Ao.nil co) V V KR ci ?_;rintro _ ha _ am ⟨hb,hc,hd,he,rfl,rfl,ct,cw⟩ cy;refine C 3 V (B5 cy HT λhf c0=>?_);refine JS.sx 3 c0 DR λc1=>?_;refine Db 3 c1 V λhg O c3 b2=>C 8 V (AX cp (λc4 c5=>?_) (λc4 c6=>?_));refine C 6 V ?_;cases c5;exact AW func37 V V (b1 ((al.Ad am).Ad O) V ⟨none,0,V,V,Ao.nil⟩ b2);refine C 8 V (B6 c3 FV DR V V ?_);let⟨hj,c7,c8⟩:=bs c6;refine BW (QK (ct.M O) (cw.M O) c7) V V OR b2 ?_;rintro _ a5 _ aq ⟨a6,rfl,rfl,c9⟩ dd;let⟨b3,dj,ea⟩:=bs c8;refine C 2 V (Bx (λL s=>∃(a7:LH) (av:As) (aw:Nat) (a8:Seg),Jn a5 H a7 [a8] [(6,sV av b3 aw)] L s (OL 3 rI a7 av aw a8 b3)) ?_ ?_);rintro _ _ ⟨a7,av,aw,a8,rfl,rfl,eb,ec,ed⟩;refine C 6 V (Ck 0 ed ec V λhk ee ef eg=>?_);cases ea;exact AW func37 V V (b1 (((((al.Ad am).Ad O).Ad aq).Ad eb).Ad ee) V ⟨av,aw,V,V,ef⟩ eg);intro ej;refine JL.block (Ch dj (λL s K=>∃(Z:LH) (U:As) (Y:Nat) (ac:Seg),Jn a5 H Z [ac] [(1,Ar a3 0),(6,sV U K.1 Y),(18,.agg a6.toArray),(19,iV K.2)] L s (OL 3 rI Z U Y ac K.1)) ⟨a5,none,0,[],V,V,AS,dd,OL.nil⟩ ?_);rintro _ _ K ⟨Z,U,Y,ac,rfl,rfl,ag,a9,bb⟩ ek ⟨hl,be⟩ el;have b4:=be;unfold Xb at b4;refine C 5 V (AX b4 (λem eo=>?_) (λem ep=>?_));let⟨hm,er,eu⟩:=bs eo;refine C 6 V (XJ (Rp.M _ ag c9) er V V V V V underlying96 AK Bb ?_ (λ_=>V));rintro _ rfl;refine C 6 V (Cc 0 (a4.M (((am.Ad O).Ad aq).Ad ag)) underlying28 FI FX ?_);refine JL.ln underlying25 V V V ?_;let⟨ew,ex,ey⟩:=bs eu;refine C 2 V (HY [] (λL s=>∃(ap:LH),Jm Z H ap [ac] [(1,Ar a3 0),(6,sV U K.1 Y),(7,iV K.2),(18,.agg a6.toArray),(19,iV K.2),(38,.bool ew)] L s) ?_ ?_);rintro _ _ ⟨ap,rfl,rfl,bi,b5⟩;let⟨bn,eA,eC⟩:=bs ey;refine JL.done (Bx (λL s=>∃(ay:LH) (az:As) (a0:Nat) (a2:Seg),Jn ap H ay [a2] [(1,Ar a3 0),(6,sV az bn a0),(18,.agg a6.toArray),(19,iV K.2)] L s (OL 3 rI ay az a0 a2 bn)) ?_ ?_);rintro _ _ ⟨ay,az,a0,a2,rfl,rfl,eN,e0,e1⟩;let⟨e3,e4,e5⟩:=bs eC;refine C 2 V (Bt e4 V V V ?_);refine C 2 V ?_;cases e5;exact Az (el _ _ (bn,e3) ⟨ay,az,a0,a2,V,V,((ag.Ad bi).Ad eN),e0,e1⟩ be) V;intro b6;refine Cp eA (λe6 e7=>?_) (λe6 e8=>?_);let⟨hn,ff,fk⟩:=bs e7;refine C 3 V (JS.app (pp:=rI) (v:=iV K.2) (a:=U) (c:=Y) 0 ff V V V V (λ_=>V) V (λ_=>V) V V V underlying22 underlying22 underlying22 AK (Dc type3) CR V (by decide) (by decide) (by decide) (by decide) (bb.M bi) V b5 V λho fl fm fo fs fv=>?_);refine C 2 V ?_;cases fk;exact Az (b6 _ _ ⟨ap,fl,fm,fo,V,V,AS,fv,fs⟩) V;refine JL.skip ?_;cases e8;exact Az (b6 _ _ ⟨ap,U,Y,ac,V,V,AS,b5,(bb.M bi)⟩) V;intro ca;refine Jq 28 ex (λfw fN=>?_) (λfw gc=>?_);refine Cc 0 (a4.M (((am.Ad O).Ad aq).Ad ag)) underlying28 FI FX ?_;let⟨hp,ge,gg⟩:=bs fN;refine C 1 V (JS.ix (bw.M ((((al.Ad am).Ad O).Ad aq).Ad ag)) ge underlying25 ET ?_);rintro hq hr _ ⟨hs,ht,rfl,gh⟩ gt;refine CH 0 gt He V V V ?_;let⟨hu,gE,gO⟩:=bs gg;refine Co (IL gh gE) V V Iy a9 λg0 g1 g3=>?_;let⟨g4,g5,g6⟩:=bs gO;refine C 1 V (An (v:=iV g4) V (λρ h=>H4 (h _ _ V) g5) ?_);refine C 2 V ?_;cases g6;exact Az (ca _ _ ⟨g0,V,V,g1,g3⟩) V;refine C 10 V ?_;cases gc;exact Az (ca _ _ ⟨Z,V,V,AS,a9⟩) V;refine JL.exit V ?_;cases ep;obtain rfl:=ek _ be;exact Az (ej _ _ ⟨Z,U,Y,ac,V,V,ag,a9,bb⟩) V
def Wh(fu_:Nat)(p0:List Int)(p1:Int)(K:Int):Option (Bm Int ((Int)⊕(Unit))):=if K<(p0.length:Int) then((ix p0 K).bind λO=>if p1=O then(some (.done (Sum.inl K))) else((Au (K+1)).bind λU=>some (.more U))) else(some (.done (Sum.inr ())))
def f128(fu_:Nat)(p0:List Int)(p1:Int):Option Int:=Option.bind (iter (Wh fu_ p0 p1) fu_ 0) λK=>Sum.elim (λr=>some r) (λO=>some (-1)) K
variable{p1:Int}
theorem jx{p0:List Int}(aw:Ao rI E a1 c2 p0){r:Int}(Z:f128 fu_ p0 p1=some r):AZ J 113 [sV a1 p0 c2,iV p1] E [] (λw E' B'=>w=iV r/\B'=[]):=by
 refine Bq func113 λQ b2 cs H ay ac=>?_;unfold f128 at Z;refine C 8 V (JL.ln underlying22 V V V ?_);let⟨ag,az,al⟩:=bs Z;refine C 2 V (Bx (λL s=>∃(am:Unit) (ap:LH),ag=Sum.inr am/\Jm E H ap [] [] L s) ?_ ?_);rintro _ _ ⟨am,ap,rfl,rfl,rfl,a0,a2⟩;have a3:=elim_inr al;refine C 4 V ?_;cases a3;exact AW func113 V V (ac a0 V ⟨V,V⟩ a2);intro a4;refine JL.block (Ej az (λU=>[]) (λU=>[(0,sV a1 p0 c2),(1,iV p1),(7,iV (p0.length:Int)),(8,iV U)]) AS ay ?_);rintro U a5 K Y aq ⟨b3,O⟩ a6;have av:=O;unfold Wh at av;refine C 5 V (AX av (λa7 a8=>?_) (λa7 a9=>?_));let⟨b4,bb,be⟩:=bs a8;refine C 13 V (JS.ix (aw.M K) bb underlying22 AK ?_);rintro b5 b6 _ rfl bi;refine CH 0 bi Bb V V V (C 2 V ?_);refine AX be (λbn bo=>?_) (λbn bv=>?_);refine C 5 V ?_;cases bo;obtain rfl:=aq _ O;have bw:=elim_inl al;cases bw;exact AW func113 V V (ac K V ⟨V,V⟩ Y);let⟨bx,bz,b0⟩:=bs bv;refine C 3 V (Bt bz V V V ?_);refine C 2 V ?_;cases b0;exact a6 bx K Y V O;refine JL.exit V ?_;cases a9;have b1:ag=(Sum.inr ()):=(aq _ O).symm;exact Az (a4 _ _ ⟨(),a5,b1,V,V,K,Y⟩) V
def f82(fu_:Nat)(p0:List Int)(p1:Int):Option Bool:=(f128 fu_ p0 p1).bind λK=>some (decide (0<=K))
theorem lM{p0:List Int}(O:Ao rI E a1 c2 p0){r:Bool}(K:f82 fu_ p0 p1=some r):AZ J 69 [sV a1 p0 c2,iV p1] E [] (λw E' B'=>w=.bool r/\B'=[]):=by
 refine Bq func69 λQ am cs H U Y=>?_;unfold f82 at K;let⟨ap,Z,ac⟩:=bs K;refine C 8 V (Co (jx O Z) V V (A4 func113 V) U λaq ag al=>?_);refine C 3 V ?_;cases ac;exact AW func69 V V (Y ag V ⟨V,V⟩ al)
def XE(fu_:Nat)(O:Bh×Int)(K:(List ((Int×Int)×Bool))×Int):Option (Bm ((List ((Int×Int)×Bool))×Int) ((List ((Int×Int)×Bool)))):=if K.2<(O.1.2.length:Int) then((ix O.1.2 K.2).bind λU=>(Au (K.2+1)).bind λY=>some (.more ((Cm K.1 (U.1,U.2.1) true),Y))) else(some (.done K.1))
def XS(fu_:Nat)(U:Bh×Int)(Y:(List ((Int×Int)×Bool)))(O:List Int)(K:Bs×Int):Option (Bm (Bs×Int) (Bs)):=if K.2<(U.1.1.length:Int) then(Option.bind ((f82 fu_ O K.2).bind λZ=>Option.bind (if Z=true then(some true) else(if 0<(O.length:Int) then((Au ((O.length:Int) - 1)).bind λac=>(ix O ac).bind λag=>some (!((Bg Y (ag,K.2)).getD false))) else(some false))) λal=>if al=true then(some K.1) else((Ex O ([K.2]:List Int)).bind λam=>(room K.1 am).bind λap=>some ap)) λaq=>(Au (K.2+1)).bind λav=>some (.more (aq,av))) else(some (.done K.1))
def XM(fu_:Nat)(Z:Bh×Int)(U:(List ((Int×Int)×Bool)))(Y:Bs)(O:Bs×Int):Option (Bm (Bs×Int) (((List Int)×Int)⊕(Bs))):=if O.2<(Y.length:Int) then((ix Y O.2).bind λK=>Option.bind (if 1<(K.length:Int) then((Au ((K.length:Int) - 1)).bind λac=>(ix K ac).bind λag=>(ix K (0)).bind λal=>some ((Bg U (ag,al)).getD false)) else(some false)) λam=>if am=true then(some (.done (Sum.inl (K,0)))) else(Option.bind (iter (XS fu_ Z U K) fu_ (O.1,0)) λap=>(Au (O.2+1)).bind λaq=>some (.more (ap,aq)))) else(some (.done (Sum.inr O.1)))
def XT(fu_:Nat)(U:Bh×Int)(Y:(List ((Int×Int)×Bool)))(K:Bs):Option (Bm (Bs) (((List Int)×Int)⊕(Unit))):=if 0<(K.length:Int) then(Option.bind (iter (XM fu_ U Y K) fu_ ([],0)) λZ=>Sum.elim (λr=>some (.done (Sum.inl r))) (λO=>if(O.length:Int)=0 then(some (.done (Sum.inr ()))) else(some (.more O))) Z) else(some (.done (Sum.inr ())))
def f33(fu_:Nat)(p0:Bh):Option ((List Int)×Int):=(f70 fu_ p0 ([])).bind λK=>if K.2≠0 then(some ([],K.2)) else(Option.bind (iter (XE fu_ K) fu_ (([]:List ((Int×Int)×Bool)),0)) λO=>Option.bind (iter (XT fu_ K O) fu_ ([[]]:Bs)) λU=>Sum.elim (λr=>some r) (λY=>some ([],11)) U)
theorem lf{ew:As}{ex:Nat}{p0:Bh}(g4:Ao (rL rI) E a1 c2 p0.1)(g5:Ao AF E ew ex p0.2){r:(List Int)×Int}(ey:f33 fu_ p0=some r):AZ J 35 [.agg #[sV a1 p0.1 c2,sV ew p0.2 ex]] E [] (λw E' B'=>∃(eA:As) (eC:Nat),w=.tuple #[sV eA r.1 eC,iV r.2]/\B'=[]/\Ao rI E' eA eC r.1):=by
 refine Bq func35 λQ nk cs H g6 dj=>?_;unfold f33 at ey;refine C 2 V (DD g6 λnl nm bx g7 g8=>?_);refine C 6 V (B6 g7 EK CJ V V ?_);let⟨bz,g9,ha⟩:=bs ey;refine BW (Lc (g4.M bx) (g5.M bx) Ao.nil g9) V V KR g8 ?_;rintro _ np _ ea ⟨nq,nr,hb,hc,rfl,rfl,ns,hd⟩ he;refine C 3 V (B5 he HT λag hf=>?_);refine JS.sx 3 hf DR λhg=>?_;refine Db 3 hg V λeb b6 eN e0=>C 8 V (AX ha (λhj hk=>?_) (λhj hl=>?_));refine C 6 V ?_;cases hk;exact AW func35 V V (dj ((bx.Ad ea).Ad b6) V ⟨none,0,V,V,Ao.nil⟩ e0);refine C 3 V (JS.makeMap V V V e0 λK hm=>?_);refine C 5 V (JL.fd underlying57 CJ V V V ?_);refine Cc 1 eN underlying28 HU Kj ?_;refine JL.ln underlying26 V V V ?_;let⟨a9,hn,ho⟩:=bs hl;refine C 2 V (Bx (λL s=>∃(bb:LH) (ac:Obj),Jn eb H bb [[(K,ac)]] [(4,Ar ag 0),(6,.map (some K))] L s (B3 EP true rB false bb ac a9)) ?_ ?_);rintro _ _ ⟨bb,ac,rfl,rfl,ec,hp,e1⟩;refine C 2 V (Gq (pp:=(rL rI)) [nS] [[]] V V V underlying25 ET KV (by decide) V V V ⟨⟨_,_,V,Ao.nil⟩,trivial⟩ hp λhq hr hs ht=>?_);refine C 3 V (JL.label ?_);let⟨ed,hu,e3⟩:=bs ho;refine JL.seq (Bx (λL s=>∃(e4:Unit) (e5:LH),ed=Sum.inr e4/\Jm bb H e5 [] [] L s) ?_ ?_);rintro _ _ ⟨e4,e5,rfl,rfl,rfl,hv,hw⟩;have hx:=elim_inr e3;refine C 5 V ?_;cases hx;exact AW func35 V V (dj ((((bx.Ad ea).Ad b6).Ad ec).Ad hv) V ⟨none,0,V,V,Ao.nil⟩ hw);intro e6;refine JL.block (Ch hu (λL s O=>∃(a0:LH) (al:As) (am:Nat) (ap:Seg),Jn bb H a0 [[(K,ac)],ap] [(4,Ar ag 0),(6,.map (some K)),(9,sV al O am)] L s (OL 22 (rL rI) a0 al am ap O)) ⟨bb,(Bd hq),1,hr,V,V,AS,ht,hs⟩ ?_);rintro _ _ O ⟨a0,al,am,ap,rfl,rfl,a2,e7,hy⟩ ee ⟨nt,b0⟩ hz;have e8:=b0;unfold XT at e8;refine C 4 V (JL.ln underlying25 V V V ?_);refine C 2 V (AX e8 (λhA hB=>?_) (λhA hC=>?_));refine C 10 V (JL.ln underlying25 V V V ?_);let⟨ff,hD,fk⟩:=bs hB;refine C 2 V (Bx (λL s=>∃(b1:Bs) (b2:LH) (ca:As) (cc:Nat) (ce:Seg),ff=Sum.inr b1/\Jn a0 H b2 [[(K,ac)],ce] [(4,Ar ag 0),(6,.map (some K)),(10,sV ca b1 cc)] L s (OL 22 (rL rI) b2 ca cc ce b1)) ?_ ?_);rintro _ _ ⟨b1,b2,ca,cc,ce,rfl,rfl,rfl,fl,fm,hE⟩;have hF:=elim_inr fk;refine C 8 V (JL.ln underlying25 V V V ?_);refine C 2 V (AX hF (λhG hH=>?_) (λhG hI=>?_));refine JL.exit V (JS.drop 0 fm V λhK=>?_);refine JS.drop 1 hK V λhL=>?_;cases hH;have hM:ed=(Sum.inr ()):=(ee _ b0).symm;exact Az (e6 _ _ ⟨(),b2,hM,V,V,(a2.Ad fl),hL⟩) V;refine C 2 V ?_;cases hI;exact Az (hz _ _ b1 ⟨b2,ca,cc,ce,V,V,(a2.Ad fl),fm,hE⟩ b0) V;intro hN;refine JL.block (Ch hD (λL s Y=>∃(av:LH) (be:As) (bi:Nat) (bn:Seg),Jn a0 H av [[(K,ac)],ap,bn] [(4,Ar ag 0),(6,.map (some K)),(10,sV be Y.1 bi),(43,sV al O am),(44,iV (O.length:Int)),(45,iV Y.2)] L s (OL 22 (rL rI) av be bi bn Y.1)) ⟨a0,none,0,[],V,V,AS,e7,OL.nil⟩ ?_);rintro _ _ Y ⟨av,be,bi,bn,rfl,rfl,a3,b3,fo⟩ fs ⟨nu,ci⟩ hO;have fv:=ci;unfold XM at fv;refine C 5 V (AX fv (λhP hQ=>?_) (λhP hR=>?_));let⟨aw,hS,hT⟩:=bs hQ;refine C 5 V (Ji 1 (hy.M a3) hS V V V V V V underlying25 ET ?_);rintro nx ny f155 _ hU ⟨a4,bo,rfl,ay⟩ hV nz nA nB nC;refine An (v:=sV a4 aw bo) V (λρ h=>Yl.load He (h _ _ V) (B8 (j:=1) b3 hU (hV 0 _ V))) (C 6 V ?_);refine JL.ln underlying22 V V V (C 3 V ?_);refine Tt 15 λZ=>A5 Z V [0,1,2] V ?_;let⟨hW,fw,hX⟩:=bs hT;refine F5 0 (tR_ 15 0) (λL s=>L=[(4,Ar ag 0),(6,.map (some K)),(10,sV be Y.1 bi),(12,sV a4 aw bo),(43,sV al O am),(44,iV (O.length:Int)),(45,iV Y.2),(65,.bool hW)]/\s=Ak av H [[(K,ac)],ap,bn]) ?_ ?_;rintro _ _ ⟨rfl,rfl⟩;refine A3.fin (by decide+kernel) (Cp hX (λhY h0=>?_) (λhY h1=>?_));refine C 6 V (JS.drop 0 b3 V λh2=>?_);refine JS.drop 1 h2 V λh3=>JS.drop 2 h3 V λh4=>?_;cases h0;obtain rfl:=fs _ ci;have h5:=elim_inl fk;cases h5;obtain rfl:=ee _ b0;have h6:=elim_inl e3;cases h6;exact AW func35 V V (dj (((((bx.Ad ea).Ad b6).Ad ec).Ad a2).Ad a3) V ⟨a4,bo,V,V,ay⟩ h4);refine C 3 V (JL.fd underlying57 CJ V V V ?_);refine Cc 0 (eN.M ((ec.Ad a2).Ad a3)) underlying28 FI FX ?_;refine JL.ln underlying25 V V V ?_;let⟨ef,h7,h8⟩:=bs h1;refine C 2 V (Bx (λL s=>∃(co:LH) (cp:As) (ct:Nat) (cw:Seg),Jn av H co [[(K,ac)],ap,cw] [(4,Ar ag 0),(6,.map (some K)),(10,sV cp ef ct),(43,sV al O am),(44,iV (O.length:Int)),(45,iV Y.2)] L s (OL 22 (rL rI) co cp ct cw ef)) ?_ ?_);rintro _ _ ⟨co,cp,ct,cw,rfl,rfl,h9,ia,ih⟩;let⟨ii,io,i0⟩:=bs h8;refine C 2 V (Bt io V V V ?_);refine C 2 V ?_;cases i0;exact Az (hO _ _ (ef,ii) ⟨co,cp,ct,cw,V,V,(a3.Ad h9),ia,ih⟩ ci) V;intro i1;refine JL.block (Ch h7 (λL s U=>∃(b4:LH) (a5:As) (a6:Nat) (bv:Seg),Jn av H b4 [[(K,ac)],ap,bv] [(4,Ar ag 0),(6,.map (some K)),(10,sV a5 U.1 a6),(12,sV a4 aw bo),(43,sV al O am),(44,iV (O.length:Int)),(45,iV Y.2),(70,iV (bz.1.1.length:Int)),(71,iV U.2)] L s (OL 22 (rL rI) b4 a5 a6 bv U.1)) ⟨av,be,bi,bn,V,V,AS,b3,fo⟩ ?_);rintro _ _ U ⟨b4,a5,a6,bv,rfl,rfl,az,fN,eg⟩ i3 ⟨nD,ej⟩ i4;have gc:=ej;unfold XS at gc;refine C 5 V (AX gc (λi5 i6=>?_) (λi5 i7=>?_));let⟨ek,i8,i9⟩:=bs i6;refine C 2 V (Bx (λL s=>∃(cy:LH) (c0:As) (c1:Nat) (c3:Seg),Jn b4 H cy [[(K,ac)],ap,c3] [(4,Ar ag 0),(6,.map (some K)),(10,sV c0 ek c1),(12,sV a4 aw bo),(43,sV al O am),(44,iV (O.length:Int)),(45,iV Y.2),(70,iV (bz.1.1.length:Int)),(71,iV U.2)] L s (OL 22 (rL rI) cy c0 c1 c3 ek)) ?_ ?_);rintro _ _ ⟨cy,c0,c1,c3,rfl,rfl,jg,jj,jp⟩;let⟨jt,jy,j0⟩:=bs i9;refine JL.region (Bt jy V V V ?_);refine C 2 V ?_;cases j0;exact Az (i4 _ _ (ek,jt) ⟨cy,c0,c1,c3,V,V,(az.Ad jg),jj,jp⟩ ej) V;intro ge;let⟨nE,j1,kb⟩:=bs i8;refine C 11 V (Co (lM (ay.M az) j1) V V (A4 func69 V) fN λc4 aq c5=>?_);let⟨kc,ke,kf⟩:=bs kb;refine C 1 V (HY [] (λL s=>∃(el:LH),Jm c4 H el [[(K,ac)],ap,bv] [(4,Ar ag 0),(6,.map (some K)),(10,sV a5 U.1 a6),(12,sV a4 aw bo),(14,iV U.2),(43,sV al O am),(44,iV (O.length:Int)),(45,iV Y.2),(70,iV (bz.1.1.length:Int)),(71,iV U.2),(94,.bool kc)] L s) ?_ ?_);rintro _ _ ⟨el,rfl,rfl,a7,gg⟩;refine JL.done (Cp kf (λki km=>?_) (λki kn=>?_));refine JL.exit V ?_;cases km;exact Az (ge _ _ ⟨el,a5,a6,bv,V,V,(aq.Ad a7),gg,(eg.M (aq.Ad a7))⟩) V;refine C 5 V (JL.ln underlying22 V V V ?_);refine C 1 V (JL.ln underlying22 V V V ?_);refine An (v:=.slice a4 aw.length aw.length) V (λρ h=>UE (Ao.spot (ay.M ((az.Ad aq).Ad a7))) (And.left (ay.M ((az.Ad aq).Ad a7))) underlying22 AK (h _ _ V) (h _ _ V) (h _ _ V)) (C 1 V ?_);refine Gq (pp:=rI) [iV U.2] [U.2] V V V underlying22 AK CR (by decide) V V V ⟨V,trivial⟩ gg λnF nG ko kp=>Ck 3 ko kp V λnH em ks kv=>?_;let⟨k0,k1,k2⟩:=bs kn;refine Zw (pp:=rI) k1 V V V V V V V underlying22 underlying22 AK (Dc type3) CR V (by decide) (by decide) (ay.M (((az.Ad aq).Ad a7).Ad em)) ks kv λk3 k4 k5 gh k6 k7=>?_;let⟨nI,k9,la⟩:=bs k2;refine JS.app (pp:=(rL rI)) (v:=sV k4 k0 k5) (a:=a5) (c:=a6) 2 k9 V V V V (λ_=>V) V (λ_=>V) V V V underlying25 underlying25 underlying25 ET (Dc type22) KV V (by decide) (by decide) (by decide) (by decide) (eg.M (((aq.Ad a7).Ad em).Ad gh)) ⟨_,_,V,k6⟩ k7 V λnJ ld li lm ls lw=>C 3 V ?_;cases la;exact Az (ge _ _ ⟨k3,ld,li,lm,V,V,(((aq.Ad a7).Ad em).Ad gh),lw,ls⟩) V;intro eo;refine EM 77 ke (λl3 l4=>?_) (λl3 l5=>?_);refine C 17 V ?_;cases l4;exact Az (eo _ _ ⟨c4,V,V,AS,c5⟩) V;refine C 1 V (JL.ln underlying22 V V V ?_);refine C 2 V (Jq 81 l5 (λl6 ma=>?_) (λl6 mb=>?_));refine C 3 V (JL.ln underlying22 V V V ?_);let⟨nK,mm,mp⟩:=bs ma;refine BY mm V V V ?_;let⟨c6,ms,mv⟩:=bs mp;refine JS.ix (ay.M (az.Ad aq)) ms underlying22 AK ?_;rintro nL nM _ rfl mH;refine CH 0 mH Bb V V V (C 1 V ?_);refine An (v:=.agg #[iV c6,iV U.2]) V (λρ h=>C4 [(0,1),(1,1)] h Kk underlying141 ⟨V,A0 type3,V,A0 type3,trivial⟩ V V) (An (v:=.bool (((Bg a9 (c6,U.2)).getD false))) V (λρ h=>Yl.lookup (ok:=false) (xs:=a9) (x0:=(c6,U.2)) (z0:=false) Ta underlying139 NB ⟨_,V,V⟩ (e1.M (((a2.Ad a3).Ad az).Ad aq)) ⟨_,⟨_,_,V,V,V⟩,V⟩ (by rintro _ ⟨_,rfl,rfl⟩;rfl) (h _ _ V) (h _ _ V) (Ed (j:=0) (i:=0) c5 V V)) ?_);refine An (v:=.bool ((!((Bg a9 (c6,U.2)).getD false)))) V (λρ h=>Yl.not (h _ _ V)) (C 2 V ?_);cases mv;exact Az (eo _ _ ⟨c4,V,V,AS,c5⟩) V;refine C 13 V ?_;cases mb;exact Az (eo _ _ ⟨c4,V,V,AS,c5⟩) V;refine JL.exit V ?_;cases i7;obtain rfl:=i3 _ ej;exact Az (i1 _ _ ⟨b4,a5,a6,bv,V,V,az,fN,eg⟩) V;intro gt;refine GC (q:=1<(aw.length:Int)) (i:=53) V (λep=>?_) (λep=>?_);have mI:=ip fw ep;refine A5 Z V [3,4,5] V ?_;let⟨nN,mJ,mK⟩:=bs mI;refine AU 6 Z V V (λρ h s' a8=>EB (h _ _ V) (h _ _ V) mJ) ?_;let⟨c7,mL,mM⟩:=bs mK;refine Ew 7 ay mL Z underlying22 AK ?_;rintro nO nP _ rfl mO;refine AU (v:=iV c7) 8 Z V V (λρ h s' a8=>Yl.load Bb (h _ _ V) (Oh a8 (At.Ky (j:=0) mO V))) ?_;refine DW 9 Z V V ?_;let⟨c8,mP,mQ⟩:=bs mM;refine Ew 10 ay mP Z underlying22 AK ?_;rintro nQ nR _ rfl mR;refine AU (v:=iV c8) 11 Z V V (λρ h s' a8=>Yl.load Bb (h _ _ V) (Oh a8 (At.Ky (j:=0) mR V))) ?_;refine AU (v:=.agg #[iV c7,iV c8]) 12 Z V V (λρ h s' a8=>C4 [(0,1),(1,1)] h Kk underlying141 ⟨V,A0 type3,V,A0 type3,trivial⟩ V V) ?_;refine AU (v:=.bool (((Bg a9 (c7,c8)).getD false))) 13 Z V V (λρ h s' a8=>Yl.lookup (ok:=false) (xs:=a9) (x0:=(c7,c8)) (z0:=false) Ta underlying139 NB ⟨_,V,V⟩ (e1.M (a2.Ad a3)) ⟨_,⟨_,_,V,V,V⟩,V⟩ (by rintro _ ⟨_,rfl,rfl⟩;rfl) (h _ _ V) (h _ _ V) (TF a8 (Ed (j:=0) (i:=0) b3 V V))) ?_;refine DW 14 Z V V ?_;cases mQ;refine Dy ?_ (gt _ _ ⟨V,V⟩);exact⟨V,V,V,V,V,V,V,V,trivial⟩;have mS:=im fw ep;refine A5 Z V [3,4,5,6,7,8,9,10,11,12,13,14] V ?_;cases mS;refine Dy ?_ (gt _ _ ⟨V,V⟩);exact⟨V,V,V,V,V,V,V,V,trivial⟩;refine JL.exit V (JS.drop 1 b3 V λmT=>?_);cases hR;have mU:ff=(Sum.inr Y.1):=(fs _ ci).symm;exact Az (hN _ _ ⟨Y.1,av,be,bi,bn,mU,V,V,a3,mT,fo⟩) V;refine JL.exit V (JS.drop 0 e7 V λmV=>?_);refine JS.drop 1 mV V λmW=>?_;cases hC;have mX:ed=(Sum.inr ()):=(ee _ b0).symm;exact Az (e6 _ _ ⟨(),a0,mX,V,V,a2,mW⟩) V;intro mY;refine JL.block (Ch hn (λL s b5=>∃(c9:LH) (dd:Obj),Jn eb H c9 [[(K,dd)]] [(4,Ar ag 0),(6,.map (some K)),(26,sV hb bz.1.2 hc),(27,iV (bz.1.2.length:Int)),(28,iV b5.2)] L s (B3 EP true rB false c9 dd b5.1)) ⟨eb,(.map #[] 0),V,V,AS,hm,B3.nil⟩ ?_);rintro _ _ b5 ⟨c9,dd,rfl,rfl,er,gE,gO⟩ mZ ⟨nT,eu⟩ m0;have g0:=eu;unfold XE at g0;refine C 5 V (AX g0 (λm1 m2=>?_) (λm1 m3=>?_));let⟨bw,m4,m5⟩:=bs m2;refine C 5 V (JS.ix (hd.M (b6.Ad er)) m4 underlying26 Bv ?_);rintro nU nV _ ⟨_,_,rfl,rfl,⟨_,_,rfl,rfl,rfl⟩⟩ m6;refine B6 m6 Ei Bv V V (B5 gE BU λnW m7=>?_);refine JS.sx 1 m7 Bv λm9=>?_;refine Db 1 m9 V λna g1 g3 nb=>C 3 V (Cc 0 g3 underlying52 AK Bb ?_);refine Cc 1 g3 underlying52 AK Bb ?_;refine An (v:=.agg #[iV bw.1,iV bw.2.1]) V (λρ h=>C4 [(0,1),(1,1)] h Kk underlying141 ⟨V,A0 type3,V,A0 type3,trivial⟩ V V) (JS.mapUpdate (xs:=b5.1) (x0:=(bw.1,bw.2.1)) (v0:=true) 0 Ta underlying139 (gO.M g1) ⟨_,⟨_,_,V,V,V⟩,V⟩ ⟨_,V,V⟩ nb V V V V V V V λnc nf ng=>?_);let⟨nh,ni,nj⟩:=bs m5;refine C 3 V (Bt ni V V V ?_);refine C 2 V ?_;cases nj;exact Az (m0 _ _ ((Cm b5.1 (bw.1,bw.2.1) true),nh) ⟨na,nc,V,V,(er.Ad g1),ng,nf⟩ eu) V;refine JL.exit V ?_;cases m3;obtain rfl:=mZ _ eu;exact Az (mY _ _ ⟨c9,dd,V,V,er,gE,gO⟩) V
variable {J:Judge Tryz.prog}
def Xi:List Nat:=[0,1,2,2,3,3,3,3,4,4,4,4,4,4,4,4,5,5,5,5,5,5,5,5,5,5,5,5,5,5,5,5,6,6,6,6,6,6,6,6,6,6,6,6,6,6,6,6,6,6,6,6,6,6,6,6,6,6,6,6,6,6,6,6,7,7,7,7,7,7,7,7,7,7,7,7,7,7,7,7,7,7,7,7,7,7,7,7,7,7,7,7,7,7,7,7,7,7,7,7,7,7,7,7,7,7,7,7,7,7,7,7,7,7,7,7,7,7,7,7,7,7,7,7,7,7,7,7,8,8,8,8,8,8,8,8,8,8,8,8,8,8,8,8,8,8,8,8,8,8,8,8,8,8,8,8,8,8,8,8,8,8,8,8,8,8,8,8,8,8,8,8,8,8,8,8,8,8,8,8,8,8,8,8,8,8,8,8,8,8,8,8,8,8,8,8,8,8,8,8,8,8,8,8,8,8,8,8,8,8,8,8,8,8,8,8,8,8,8,8,8,8,8,8,8,8,8,8,8,8,8,8,8,8,8,8,8,8,8,8,8,8,8,8,8,8,8,8,8,8,8,8,8,8,8,8]
def f146(fu_:Nat)(p0:Nat):Option Int:=Option.bind (if(((4294967296):Nat):Int)<=(((p0):Nat):Int) then(some (p0>>>32,32)) else(some (p0,0))) λx1=>Option.bind (if(((65536):Nat):Int)<=(((x1.1):Nat):Int) then((Au (x1.2+16)).bind λU=>some (x1.1>>>16,U)) else(some x1)) λK=>Option.bind (if(((256):Nat):Int)<=(((K.1):Nat):Int) then((Au (K.2+8)).bind λY=>some (K.1>>>8,Y)) else(some K)) λO=>(TL Xi (((((O.1)%256):Nat):Int))).bind λZ=>(Au (((Z):Nat):Int)).bind λac=>(Au (O.2+ac)).bind λag=>some ag
theorem kx{p0:Nat}{r:Int}(U:f146 fu_ p0=some r):AZ J 112 [.int .u64 ((p0:Nat):Int)] E [] (λw E' B'=>w=iV r/\B'=[]):=by
 refine Bq func112 λQ ca cs H Y ap=>?_;unfold f146 at U;let⟨x1,aq,av⟩:=bs U;refine C 10 V (Fg [] [(0,.int .u64 ((x1.1:Nat):Int)),(2,iV x1.2)] (λcc aw Z=>?_) (λac=>?_));let⟨K,ay,az⟩:=bs av;refine C 6 V (Fg [] [(0,.int .u64 ((K.1:Nat):Int)),(2,iV K.2)] (λce a0 ag=>?_) (λal=>?_));let⟨O,a1,a2⟩:=bs az;refine C 6 V (Fg [] [(0,.int .u64 ((O.1:Nat):Int)),(2,iV O.2)] (λci a3 a4=>?_) (λam=>?_));refine C 4 V (An (v:=.int .u8 (((O.1)%256:Nat):Int)) V (λρ h=>gI underlying44 underlying5 (h _ _ V)) ?_);let⟨a5,a6,a7⟩:=bs a2;refine An (v:=.int .u8 ((a5:Nat):Int)) V (λρ h=>bP (l:=Xi) (by decide+kernel) underlying9 (h _ _ V) (h _ _ V) a6) ?_;let⟨a8,a9,bb⟩:=bs a7;refine An (v:=iV a8) V (λρ h=>fQ underlying5 underlying3 (h _ _ V) a9) ?_;let⟨co,be,bi⟩:=bs bb;refine Bt be V V V (C 2 V ?_);cases bi;exact AW func112 V V (ap ((aw.Ad a0).Ad a3) V ⟨V,V⟩ a4);refine AX a1 (λbn bo=>?_) (λbn bv=>?_);refine C 3 V (An (v:=.int .u64 ((K.1>>>8:Nat):Int)) V (λρ h=>LX 8 (h _ _ V) (h _ _ V) (by decide)) ?_);let⟨cp,bw,bx⟩:=bs bo;refine C 4 V (Bt bw V V V ?_);refine C 2 V ?_;cases bx;exact am AS ag V;refine JL.skip ?_;cases bv;exact am AS ag V;refine AX ay (λbz b0=>?_) (λbz b1=>?_);refine C 3 V (An (v:=.int .u64 ((x1.1>>>16:Nat):Int)) V (λρ h=>LX 16 (h _ _ V) (h _ _ V) (by decide)) ?_);let⟨ct,b2,b3⟩:=bs b0;refine C 4 V (Bt b2 V V V ?_);refine C 2 V ?_;cases b3;exact al AS Z V;refine JL.skip ?_;cases b1;exact al AS Z V;refine AX aq (λb4 b5=>?_) (λb4 b6=>?_);refine C 3 V (An (v:=.int .u64 ((p0>>>32:Nat):Int)) V (λρ h=>LX 32 (h _ _ V) (h _ _ V) (by decide)) ?_);refine C 5 V ?_;cases b5;exact ac AS Y V;refine JL.skip ?_;cases b6;exact ac AS Y V
def f115(fu_:Nat)(p0:Nat):Option Int:=(f146 fu_ p0).bind λx1=>some x1
theorem N8{p0:Nat}{r:Int}(K:f115 fu_ p0=some r):AZ J 64 [.int .u64 ((p0:Nat):Int)] E [] (λw E' B'=>w=iV r/\B'=[]):=by
 refine Bq func64 λQ al cs H O U=>?_;unfold f115 at K;let⟨x1,Y,Z⟩:=bs K;refine C 10 V (Co (kx Y) V V (A4 func112 V) O λam ac ag=>?_);refine C 2 V ?_;cases Z;exact AW func64 V V (U ac V ⟨V,V⟩ ag)
def Pw(fu_:Nat)(p1:Int)(K:Int×AH):Option (Bm (Int×AH) (AH)):=Option.bind (if p1<K.1 then((ix K.2 K.1).bind λY=>(Au (K.1 - 1)).bind λZ=>(ix K.2 Z).bind λac=>(f113 fu_ Y ac).bind λag=>some (decide (ag<0))) else(some false)) λal=>if al=true then((Au (K.1 - 1)).bind λO=>(Au (K.1 - 1)).bind λam=>(ix K.2 am).bind λU=>(ix K.2 K.1).bind λap=>(ix (K.2.set (Int.toNat K.1) U) O).bind λav=>(Au (K.1 - 1)).bind λaq=>some (.more (aq,((K.2.set (Int.toNat K.1) U).set (Int.toNat O) ap)))) else(some (.done K.2))
def PG(fu_:Nat)(p1:Int)(p2:Int)(K:Int×AH):Option (Bm (Int×AH) (AH)):=if K.1<p2 then(Option.bind (iter (Pw fu_ p1) fu_ K) λO=>(Au (K.1+1)).bind λU=>some (.more (U,O))) else(some (.done K.2))
def f193(fu_:Nat)(p0:AH)(p1:Int)(p2:Int):Option (AH):=(Au (p1+1)).bind λx1=>Option.bind (iter (PG fu_ p1 p2) fu_ (x1,p0)) λK=>some K
variable{K nw:Nat}{p3:Int}
theorem iK{U:Nat}{a4:Av_}(hW:WL 52 AF E K U nw a4 p0)(bb:f193 fu_ p0 p1 p3=some r):AZ J 151 [.slice (Bd K) nw U,iV p1,iV p3,(fV 66)] E [(K,.cells a4 52 (0,0))] (λw E' B'=>∃(be:Av_),w=.tuple #[]/\B'=[(K,.cells be 52 (0,0))]/\WL 52 AF E' K U nw be r):=by
 refine Bq func151 λQ ge cs H cc ce=>?_;unfold f193 at bb;let⟨x1,ci,co⟩:=bs bb;refine C 3 V (Bt ci V V V ?_);let⟨cp,ct,cw⟩:=bs co;refine C 2 V (Bx (λL s=>∃(a5:LH) (f17:Av_),Jn E H a5 [bX K f17 52] [] L s (WL 52 AF a5 K U nw f17 cp)) ?_ ?_);rintro _ _ ⟨a5,f17,rfl,rfl,cy,c0,c1⟩;cases cw;exact JL.fin (v:=.tuple #[]) V V (BL.list func151 V (vs:=[]) trivial) (ce cy V ⟨f17,V,(by first | rfl | simp | (simp[Value.cells])),c1⟩ c0);intro c2;refine JL.block (Ch ct (λL s am=>∃(al:LH) (f25:Av_),Jn E H al [bX K f25 52] [(0,.slice (Bd K) nw U),(1,iV p1),(2,iV p3),(3,(fV 66)),(8,iV am.1)] L s (WL 52 AF al K U nw f25 am.2)) ⟨E,a4,V,V,AS,cc,hW⟩ ?_);rintro _ _ am ⟨al,f25,rfl,rfl,bi,bn,bo⟩ c3 ⟨gg,a6⟩ c4;have bv:=a6;unfold PG at bv;refine C 7 V (AX bv (λc5 c6=>?_) (λc5 c7=>?_));let⟨bw,c8,c9⟩:=bs c6;refine C 8 V (Bx (λL s=>∃(a0:LH) (f48:Av_),Jn al H a0 [bX K f48 52] [(0,.slice (Bd K) nw U),(1,iV p1),(2,iV p3),(3,(fV 66)),(8,iV am.1)] L s (WL 52 AF a0 K U nw f48 bw)) ?_ ?_);rintro _ _ ⟨a0,f48,rfl,rfl,dd,dj,ea⟩;let⟨eb,ec,ed⟩:=bs c9;refine C 3 V (Bt ec V V V ?_);refine C 2 V ?_;cases ed;exact Az (c4 _ _ (eb,bw) ⟨a0,f48,V,V,(bi.Ad dd),dj,ea⟩ a6) V;intro ee;refine JL.block (Ch c8 (λL s ag=>∃(aw:LH) (f58:Av_),Jn al H aw [bX K f58 52] [(0,.slice (Bd K) nw U),(1,iV p1),(2,iV p3),(3,(fV 66)),(8,iV am.1),(9,iV ag.1)] L s (WL 52 AF aw K U nw f58 ag.2)) ⟨al,f25,V,V,AS,bn,bo⟩ ?_);rintro _ _ ag ⟨aw,f58,rfl,rfl,bx,ay,O⟩ ef ⟨gh,a7⟩ eg;have bz:=a7;unfold Pw at bz;refine C 2 V (EF 17 [K] ⟨⟨0,_,V⟩,trivial⟩ ay λac=>?_);refine A5 ac V [0,1,2,3] V ?_;let⟨ej,b0,ek⟩:=bs bz;refine F5 0 (tR_ 17 0) (λL s=>∃(a1:LH),Jm aw H a1 [bX K f58 52] [(0,.slice (Bd K) nw U),(1,iV p1),(2,iV p3),(3,(fV 66)),(8,iV am.1),(9,iV ag.1),(34,.bool ej)] L s) ?_ ?_;rintro _ _ ⟨a1,rfl,rfl,ap,a2⟩;refine A3.fin (by decide+kernel) (Cp ek (λel em=>?_) (λel eo=>?_));refine C 3 V (Gp [15,17] [K] [] mixed V ?_);refine AV 0 V V (AV 1 V V ?_);refine AV 2 V V (AV 3 V V ?_);let⟨b1,ep,er⟩:=bs em;refine Ey 4 true V V (λρ h s' b2=>EB (h _ _ V) (h _ _ V) ep) (AV 5 V V ?_);refine AV 6 V V ?_;let⟨gt,eu,ew⟩:=bs er;refine Ey 7 true V V (λρ h s' b2=>EB (h _ _ V) (h _ _ V) eu) ?_;let⟨Y,b3,ex⟩:=bs ew;obtain⟨_,⟨_,_,rfl,rfl,⟨_,_,rfl,rfl,rfl⟩⟩,ey⟩:=WL.at (O.M ap) b3;refine JB.ix 8 O.2 b3 underlying26 Bv ?_;refine X5 9 [iV Y.1,iV Y.2.1,iV Y.2.2] 0 a2 ey Ei Bv ?_;refine AV 10 V V (AV 11 V V ?_);let⟨Z,a3,eA⟩:=bs ex;obtain⟨_,⟨_,_,rfl,rfl,⟨_,_,rfl,rfl,rfl⟩⟩,eC⟩:=WL.at (O.M ap) a3;refine JB.ix 12 O.2 a3 underlying26 Bv ?_;refine X5 13 [iV Z.1,iV Z.2.1,iV Z.2.2] 0 a2 eC Ei Bv ?_;refine JB.ix 14 O.2 a3 underlying26 Bv ?_;have az:=WL.put (x':=Y) (ws':=[iV Y.1,iV Y.2.1,iV Y.2.2]) (O.M ap) O.2 a3 ⟨_,_,V,V,⟨_,_,V,V,V⟩⟩;refine JB.sx 15 0 a2 Bv trivial az.2 λeN=>?_;let⟨gE,a8,e0⟩:=bs eA;obtain⟨_,⟨_,_,rfl,rfl,⟨_,_,rfl,rfl,rfl⟩⟩,gO⟩:=WL.at az.1 a8;refine JB.ix 16 (az.1).2 a8 underlying26 Bv ?_;have b4:=WL.put (x':=Z) (ws':=[iV Z.1,iV Z.2.1,iV Z.2.2]) az.1 (az.1).2 a8 ⟨_,_,V,V,⟨_,_,V,V,V⟩⟩;refine JB.sx 17 0 eN Bv trivial b4.2 λe1=>?_;refine JB.fin (by decide+kernel) ?_;let⟨e3,e4,e5⟩:=bs e0;refine C 3 V (BY e4 V V V ?_);refine C 2 V ?_;cases e5;exact Az (eg _ _ (e3,((ag.2.set (Int.toNat ag.1) Y).set (Int.toNat b1) Z)) ⟨a1,(Bc (Bc f58 (Int.toNat (ag.1)*3) [iV Y.1,iV Y.2.1,iV Y.2.2]) (Int.toNat (b1)*3) [iV Z.1,iV Z.2.1,iV Z.2.2]),V,V,(bx.Ad ap),e1,b4.1⟩ a7) V;refine JL.exit V ?_;cases eo;obtain rfl:=ef _ a7;exact Az (ee _ _ ⟨a1,f58,V,V,(bx.Ad ap),a2,(O.M ap)⟩) V;intro b5;refine GC (q:=p1<ag.1) (i:=21) V (λa9=>?_) (λa9=>?_);have e6:=ip b0 a9;refine A5 ac V [4,5,6] V ?_;let⟨aq,b6,e7⟩:=bs e6;obtain⟨_,⟨_,_,rfl,rfl,⟨_,_,rfl,rfl,rfl⟩⟩,e8⟩:=WL.at O b6;refine JG.ix 7 ac (O).2 b6 underlying26 Bv ?_;refine Yb 8 ac [iV aq.1,iV aq.2.1,iV aq.2.2] 0 ay e8 Ei Bv ?_;refine A5 ac V [9,10] V ?_;let⟨g0,ff,fk⟩:=bs e7;refine AU 11 ac V V (λρ h s' b2=>EB (h _ _ V) (h _ _ V) ff) ?_;let⟨av,ca,fl⟩:=bs fk;obtain⟨_,⟨_,_,rfl,rfl,⟨_,_,rfl,rfl,rfl⟩⟩,fm⟩:=WL.at O ca;refine JG.ix 12 ac (O).2 ca underlying26 Bv ?_;refine Yb 13 ac [iV av.1,iV av.2.1,iV av.2.2] 0 ay fm Ei Bv ?_;let⟨g1,fo,fs⟩:=bs fl;refine I8 (i:=14) ⟨⟨0,_,V⟩,trivial⟩ (vs:=[.agg #[iV aq.1,iV aq.2.1,iV aq.2.2],.agg #[iV av.1,iV av.2.1,iV av.2.2]]) (XA fo) (by decide+kernel) V V V V (A4 func66 V) V ay ?_;rintro _ fv _ fw ⟨rfl,rfl⟩ fN;refine A5 ac V [15,16] V ?_;cases fs;refine Dy ?_ (b5 _ _ ⟨fv,V,V,fw,fN⟩);exact⟨V,V,V,V,V,V,V,trivial⟩;have gc:=im b0 a9;refine A5 ac V [4,5,6,7,8,9,10,11,12,13,14,15,16] V ?_;cases gc;refine Dy ?_ (b5 _ _ ⟨aw,V,V,AS,ay⟩);exact⟨V,V,V,V,V,V,V,trivial⟩;refine JL.exit V ?_;cases c7;obtain rfl:=c3 _ a6;exact Az (c2 _ _ ⟨al,f25,V,V,bi,bn,bo⟩) V
def Sy(fu_:Nat)(p0:AH)(p1:Int)(p2:Int)(p3:Int)(U:Unit):Option (Bm Unit ((AH)⊕(Unit))):=(Au (p2 - p1)).bind λK=>if K<=12 then((f193 fu_ p0 p1 p2).bind λO=>some (.done (Sum.inl O))) else(if p3=0 then(none) else(none))
def f169(fu_:Nat)(p0:AH)(p1:Int)(p2:Int)(p3:Int):Option (AH):=Option.bind (iter (Sy fu_ p0 p1 p2 p3) fu_ ()) λK=>Sum.elim (λr=>some r) (λO=>none) K
variable{U:Av_}{p2:Int}
theorem iw(hW:WL 52 AF E K O nw U p0)(Y:f169 fu_ p0 p1 p2 p3=some r):AZ J 150 [.slice (Bd K) nw O,iV p1,iV p2,iV p3,(fV 66)] E [(K,.cells U 52 (0,0))] (λw E' B'=>∃(Z:Av_),w=.tuple #[]/\B'=[(K,.cells Z 52 (0,0))]/\WL 52 AF E' K O nw Z r):=by
 refine Bq func150 λQ bv cs H ap aq=>?_;unfold f169 at Y;let⟨bw,av,aw⟩:=bs Y;refine C 8 V (Bx (λL s=>False) ?_ ?_);intro _ _ ay;exact ay.elim;intro bx;refine JL.block (Ej av (λac=>[bX K U 52]) (λac=>[(0,.slice (Bd K) nw O),(1,iV p1),(2,iV p2),(3,iV p3),(4,(fV 66)),(10,.bool true),(11,.bool true)]) AS ap ?_);rintro ac bz ag az a0 ⟨b0,al⟩ b1;have am:=al;unfold Sy at am;let⟨b2,a1,a2⟩:=bs am;refine C 5 V (BY a1 V V V ?_);refine C 8 V (AX a2 (λa3 a4=>?_) (λa3 a5=>?_));let⟨b3,a6,a7⟩:=bs a4;refine C 6 V (Cg 0 (iK (hW.M ag) a6) V V (A4 func151 V) az V ?_);rintro _ b4 _ a8 ⟨f32,rfl,rfl,a9⟩ bb;refine JL.done ?_;cases a7;obtain rfl:=a0 _ al;have be:=elim_inl aw;cases be;exact AW func150 V V (aq (ag.Ad a8) V ⟨f32,V,(by first | rfl | simp | (simp[Value.cells])),a9⟩ bb);refine C 7 V (AX a5 (λbi bn=>?_) (λbi bo=>?_));refine C 6 V ?_;cases bn;refine C 5 V (An (v:=.bool false) V (λρ h=>Yl.not (c:=true) (h _ _ V)) ?_);refine C 9 V ?_;cases bo
def f130(fu_:Nat)(p0:AH):Option (AH):=(f115 fu_ (CC (p0.length:Int))).bind λx1=>(f169 fu_ p0 0 (p0.length:Int) x1).bind λK=>some K
theorem j2(hW:WL 52 AF E K O nw U p0)(Y:f130 fu_ p0=some r):AZ J 149 [.slice (Bd K) nw O,(fV 66)] E [(K,.cells U 52 (0,0))] (λw E' B'=>∃(Z:Av_),w=.tuple #[]/\B'=[(K,.cells Z 52 (0,0))]/\WL 52 AF E' K O nw Z r):=by
 refine Bq func149 λQ a1 cs H ag al=>?_;unfold f130 at Y;refine C 3 V (An (v:=iV (p0.length:Int)) V (λρ h=>W1 (hW).2 V underlying74 (h _ _ V)) ?_);refine C 6 V (An (v:=.int .u64 ((CC (p0.length:Int):Nat):Int)) V (λρ h=>Yl.CC underlying3 underlying133 (h _ _ V)) ?_);let⟨x1,am,ap⟩:=bs Y;refine Co (N8 am) V V Nz ag λa2 ac aq=>?_;let⟨a3,av,aw⟩:=bs ap;refine C 1 V (Cg 0 (iw (hW.M ac) av) V V (A4 func150 V) aq V ?_);rintro _ a4 _ ay ⟨f12,rfl,rfl,az⟩ a0;refine JL.done ?_;cases aw;exact JL.fin (v:=.tuple #[]) V V (BL.list func149 V (vs:=[]) trivial) (al (ac.Ad ay) V ⟨f12,V,(by first | rfl | simp | (simp[Value.cells])),az⟩ a0)
def Vs(fu_:Nat)(p1:Int)(K:Int)(U:Unit):Option (Bm Unit Unit):=Option.bind (if p1<K then(none) else(some false)) λO=>if O=true then((Au (K - 1)).bind λY=>(Au (K - 1)).bind λZ=>none) else(some (.done ()))
def V5(fu_:Nat)(p1:Int)(p2:Int)(K:Int):Option (Bm Int Unit):=if K<p2 then(Option.bind (iter (Vs fu_ p1 K) fu_ ()) λU=>(Au (K+1)).bind λO=>some (.more O)) else(some (.done ()))
def TC(fu_:Nat)(p1:Int)(p2:Int):Option Unit:=(Au (p1+1)).bind λx1=>Option.bind (iter (V5 fu_ p1 p2) fu_ x1) λK=>some ()
theorem eT{r:Unit}(Z:TC fu_ p1 p3=some r):AZ J 151 [nS,iV p1,iV p3,(fV 66)] E [] (λw E' B'=>w=.tuple #[]/\B'=[]):=by
 refine Bq func151 λQ c4 cs H az a0=>?_;unfold TC at Z;let⟨x1,a1,a2⟩:=bs Z;refine C 3 V (Bt a1 V V V ?_);let⟨c5,a3,a4⟩:=bs a2;refine C 2 V (Fg [] [] (λc6 a5 a6=>?_) (λa7=>?_));cases a4;exact JL.fin (v:=.tuple #[]) V V (BL.list func151 V (vs:=[]) trivial) (a0 a5 V ⟨V,V⟩ a6);refine JL.block (Ej a3 (λK=>[]) (λK=>[(0,.slice none 0 0),(1,iV p1),(2,iV p3),(3,(fV 66)),(8,iV K)]) AS az ?_);rintro K c7 ac ag a8 ⟨c8,U⟩ a9;have al:=U;unfold V5 at al;refine C 7 V (AX al (λbb be=>?_) (λbb bi=>?_));let⟨c9,bn,bo⟩:=bs be;refine C 8 V (Fg [] [(0,.slice none 0 0),(1,iV p1),(2,iV p3),(3,(fV 66)),(8,iV K)] (λdd bv bw=>?_) (λbx=>?_));let⟨bz,b0,b1⟩:=bs bo;refine C 3 V (Bt b0 V V V ?_);refine C 2 V ?_;cases b1;exact a9 bz (ac.Ad bv) bw V U;refine JL.block (Ej bn (λam=>[]) (λam=>[(0,.slice none 0 0),(1,iV p1),(2,iV p3),(3,(fV 66)),(8,iV K),(9,iV K)]) AS ag ?_);rintro am ap b2 b3 b4 ⟨dj,aq⟩ ea;have av:=aq;unfold Vs at av;refine C 2 V (Fu 17 λO=>?_);refine A5 O V [0,1,2,3] V ?_;let⟨b5,aw,b6⟩:=bs av;refine F5 0 (tR_ 17 0) (λL s=>∃(ay:LH),Jm ap H ay [] [(0,.slice none 0 0),(1,iV p1),(2,iV p3),(3,(fV 66)),(8,iV K),(9,iV K),(34,.bool b5)] L s) ?_ ?_;rintro _ _ ⟨ay,rfl,rfl,ca,cc⟩;refine A3.fin (by decide+kernel) (Cp b6 (λce ci=>?_) (λce co=>?_));refine C 3 V (Fu 16 λO=>?_);refine A5 O V [0,1,2,3] V ?_;let⟨eb,cp,ct⟩:=bs ci;refine AU 4 O V V (λρ h s' cw=>EB (h _ _ V) (h _ _ V) cp) (A5 O V [5,6] V ?_);let⟨ec,cy,c0⟩:=bs ct;refine AU 7 O V V (λρ h s' cw=>EB (h _ _ V) (h _ _ V) cy) ?_;cases c0;refine JL.exit V ?_;cases co;obtain rfl:=b4 _ aq;exact bx (b2.Ad ca) cc V;intro c1;refine GC (q:=p1<K) (i:=21) V (λY=>?_) (λY=>?_);have c2:=ip aw Y;refine A5 O V [4,5,6] V ?_;cases c2;have c3:=im aw Y;refine A5 O V [4,5,6,7,8,9,10,11,12,13,14,15,16] V ?_;cases c3;refine Dy ?_ (c1 _ _ ⟨ap,V,V,AS,b3⟩);exact⟨V,V,V,V,V,V,V,trivial⟩;refine JL.exit V ?_;cases bi;obtain rfl:=a8 _ U;exact a7 ac ag V
def VR(fu_:Nat)(p1:Int)(p2:Int)(p3:Int)(O:Unit):Option (Bm Unit ((Unit)⊕(Unit))):=(Au (p2 - p1)).bind λK=>if K<=12 then((TC fu_ p1 p2).bind λU=>some (.done (Sum.inl ()))) else(if p3=0 then(none) else(none))
def Tw(fu_:Nat)(p1:Int)(p2:Int)(p3:Int):Option Unit:=Option.bind (iter (VR fu_ p1 p2 p3) fu_ ()) λK=>Sum.elim (λr=>some r) (λO=>none) K
theorem fh{r:Unit}(K:Tw fu_ p1 p2 p3=some r):AZ J 150 [nS,iV p1,iV p2,iV p3,(fV 66)] E [] (λw E' B'=>w=.tuple #[]/\B'=[]):=by
 refine Bq func150 λQ bb cs H Z ac=>?_;unfold Tw at K;let⟨be,ag,al⟩:=bs K;refine C 8 V (Bx (λL s=>False) ?_ ?_);intro _ _ am;exact am.elim;intro bi;refine JL.block (Ej ag (λO=>[]) (λO=>[(0,.slice none 0 0),(1,iV p1),(2,iV p2),(3,iV p3),(4,(fV 66)),(10,.bool true),(11,.bool true)]) AS Z ?_);rintro O bn ap aq av ⟨bo,U⟩ bv;have Y:=U;unfold VR at Y;let⟨bw,aw,ay⟩:=bs Y;refine C 5 V (BY aw V V V ?_);refine C 8 V (AX ay (λaz a0=>?_) (λaz a1=>?_));let⟨bx,a2,a3⟩:=bs a0;refine C 6 V (Co (eT a2) V V (A4 func151 V) aq λbz a4 a5=>?_);refine JL.done ?_;cases a3;obtain rfl:=av _ U;have a6:=elim_inl al;cases a6;exact AW func150 V V (ac (ap.Ad a4) V ⟨V,V⟩ a5);refine C 7 V (AX a1 (λa7 a8=>?_) (λa7 a9=>?_));refine C 6 V ?_;cases a8;refine C 5 V (An (v:=.bool false) V (λρ h=>Yl.not (c:=true) (h _ _ V)) ?_);refine C 9 V ?_;cases a9
def X2(fu_:Nat):Option Unit:=(f115 fu_ (CC ((0:Nat):Int))).bind λx1=>(Tw fu_ 0 ((0:Nat):Int) x1).bind λK=>some ()
theorem fb{r:Unit}(K:X2 fu_=some r):AZ J 149 [nS,(fV 66)] E [] (λw E' B'=>w=.tuple #[]/\B'=[]):=by
 refine Bq func149 λQ av cs H O U=>?_;unfold X2 at K;refine C 3 V (JL.ln underlying74 V V V ?_);refine C 6 V (An (v:=.int .u64 ((CC ((0:Nat):Int):Nat):Int)) V (λρ h=>Yl.CC underlying3 underlying133 (h _ _ V)) ?_);let⟨x1,Y,Z⟩:=bs K;refine Co (N8 Y) V V Nz O λaw ac ag=>?_;let⟨ay,al,am⟩:=bs Z;refine C 1 V (Co (fh al) V V (A4 func150 V) ag λaz ap aq=>?_);refine JL.done ?_;cases am;exact JL.fin (v:=.tuple #[]) V V (BL.list func149 V (vs:=[]) trivial) (U (ac.Ad ap) V ⟨V,V⟩ aq)
theorem fO{J:Judge Tryz.prog}{E:LH}{a:As}{g:Seg}(Y:OL 52 AF E a c g p0)(K:f130 fu_ p0=some r):
  AZ J 149 [.slice a p0.length c,.func (.func 66) #[] #[]] E g (λw E' B'=>w=.tuple #[]/\OL 52 AF E' a c B' r/\r.length=p0.length):=by
 rcases Y.cases with⟨rfl,rfl,rfl,rfl⟩ | ⟨bk,f,rfl,rfl,hW⟩
 .have Z:r=[]:=by
   cases fu_ with
   | zero=>exact absurd K (by simp[f130,f169,f193,iter])
   | succ fu_=>
    cases fu_ with
    | zero=>exact(f6 (K.symm.trans (by rfl:f130 1 []=some []))).trans rfl
    | succ fu_=>exact(f6 (K.symm.trans (by rfl:f130 (fu_+2) []=some []))).trans rfl
  subst Z;refine(fb (fu_:=10) (r:=()) V).M ?_;rintro w E' B' hle ⟨O,rfl⟩;exact⟨O,OL.nil,V⟩
 .refine(j2 hW K).M ?_;rintro w E' B' hle ⟨ac,O,rfl,U⟩;exact⟨O,U.1,U.2⟩
def f90(fu_:Nat)(p0:AH):Option (AH):=(f129 fu_ p0).bind λK=>(f130 fu_ K).bind λO=>some O
theorem lN(al:Ao AF E a1 c2 p0)(Z:f90 fu_ p0=some r):AZ J 146 [sV a1 p0 c2] E [] (λw E' B'=>∃(ac:As) (ag:Nat),w= sV ac r ag/\B'=[]/\Ao AF E' ac ag r):=by
 refine Bq func146 λQ a9 cs H am ap=>?_;unfold f90 at Z;let⟨bb,aq,av⟩:=bs Z;refine C 7 V (BW (jf al aq) V V (A4 func148 V) am ?_);rintro _ be bi aw ⟨K,O,_,rfl,rfl,ay⟩ az;let⟨U,a0,a2⟩:=bs av;refine C 5 V (Cg 1 (fO ay a0) V V (A4 func149 V) az V ?_);rintro _ bn bo a3 ⟨rfl,a4,Y⟩ a5;refine EV (L':=[(6,.tuple #[]),(0,.slice K U.length O),(2,.slice none 0 0),(3,.slice a1 p0.length c2),(4,.slice K U.length O),(5,.slice K U.length O)]) ⟨V,by rw[Y];rfl,V,V,by rw[Y];rfl,by rw[Y];rfl,trivial⟩ ?_;refine C 6 V (Ck 1 a4 a5 V λbv a6 a7 a8=>?_);cases a2;exact AW func146 V V (ap ((aw.Ad a3).Ad a6) V ⟨K,O,V,V,a7⟩ a8)
end Pal
namespace Pal
open Go Go.Conc
variable {P:Program}{Q:Gs_}{n:Nat}{ds:Ld_}{ops:Ao_}{k:Li_}{cs:Lf_}{m:Nat}{L:Env}{s:St}{E H:LH}{S:List Seg}
variable {d:Option Tmp}{t ty:TypeId}{p:String}{af:Ae_}{g:On_}{v:Value}
section
variable {J:Judge P}{b:Frame}{fuel:Nat}{listed:Array Bool}
variable {x y:Operand}{e:TypeId}{i:Nat}
theorem Take.y0{oi:Oper}(hi:ops[i]?=some oi)(K:(!EN oi.op&&Bz n oi.dst)=true)(hw:A2 L ops oi=some true)(O:∀ρ,Ft L ρ->Yl P oi ρ s v)
  (h:A3 J Q b n ds ops k cs m Ec fuel (Bp listed i) (AA L oi.dst v) s):Take J Q b n ds ops k cs m Ec fuel listed L s i:=
 Take.OD hi K hw λρ U=>by
  have:=O ρ U
  unfold Yl at this
  refine Es _ this ?_ (λ_ _ h=>h)
  rintro Y s' ⟨rfl,rfl⟩
  exact h
end
def I0{P:Program}(J:Judge P)(f:FuncId)(args:Lv_)(E:LH)(B:Seg)(p:Bool)(pv:Value)(R:Value->LH->Seg->Prop):Prop:=
 ∀(Q:Gs_) (bc:Frame) (Tc:Av_) (dsc:Ld_) (K:Li_) (cs:Lf_) (H:LH),Nd E H B->
  (p=false->∀v E' B',Le E E'->R v E' B'->Nd E' H B'->J.ok Q (G ((fr bc Tc dsc K).finish v) cs) (mk E' H B'))->
  (p=true->∀E' B',Le E E'->Nd E' H B'->J.ok Q (G (HJ bc Tc dsc K (raised pv)) cs) (mk E' H B'))->
  J.ok Q (G (Frame.enter P f args.toArray .normal) (fr bc Tc dsc K::cs)) (mk E H B)
variable {bc:Frame}{dsc:Ld_}{rest:List Nat}{pp:String}{pv:Value}
variable{f:FuncId}{caps vs:Lv_}{B seg:Seg}{R:Value->LH->Seg->Prop}{args:Array Operand}{ats:Array TypeId}{ρ:Operand->Value}{a:Option Addr}{c:Nat}{hi:Int}{α:Type}{t1 xt:TypeId}{z:Value}{f1:Array Field}
section
variable {J:Judge P}{b:Frame}{i:Nat}{e:TypeId}
theorem I0.enter{fn:Func}{c:Code}{p:Bool}(ac:P.funcs[f]?=some fn)(hb:fn.body=some c)(ay:vs.length<=fn.ntmps)
  (h:∀(Q:Gs_) (bc:Frame) (Tc:Av_) (dsc:Ld_) (O:Li_) (cs:Lf_) (H:LH),Av E H [B]->
   (p=false->∀v E' S' B',Le E E'->S'.flatten=B'->R v E' B'->Av E' H S'->J.ok Q (G ((fr bc Tc dsc O).finish v) cs) (Ak E' H S'))->
   (p=true->∀E' S',Le E E'->Av E' H S'->J.ok Q (G (HJ bc Tc dsc O (raised pv)) cs) (Ak E' H S'))->
   JL J Q (base f) fn.ntmps (GY 0 vs) [] [.code c] (fr bc Tc dsc O::cs) (Ak E H [B])):I0 J f vs E B p pv R:=λQ bc Tc dsc O cs H ag al K=>by
 have he:Frame.enter P f vs.toArray .normal=fr (base f) (vs.toArray++Array.replicate (fn.ntmps - vs.length) undef) [] [.code c]:=by
  simp[Frame.enter,fr,ac,hb,base];rfl
 have am:mk E H B=Ak E H [B]:=by unfold Ak;simp
 rw[he,am];refine h Q bc Tc dsc O cs H (by unfold Av;simpa using ag) (λU v E' S' B' hle ap aq Y=>?_) (λU E' S' hle Y=>?_) _ ⟨by simp;omega,λt v av=>?_⟩;subst ap;exact al U v E' S'.flatten hle aq Y;exact K U E' S'.flatten hle Y
 .let⟨_,K⟩:=KY av;have aw:t<vs.length:=by
   rcases jH t vs.length with Z | Z;exact Z;simp at K;have:=(d7.1 K).1;omega
  rw[j8,s0 (by simpa using aw)];simp at K;simp[K]
theorem bA{x:Operand}{s:St}(hb:El P f=true)
  (U:ops[i]?=some ⟨d,.call ⟨.value x,args,ats⟩,ty,pp,af,g⟩) (hw:A2 L ops ⟨d,.call ⟨.value x,args,ats⟩,ty,pp,af,g⟩=some true) (O:((b.kind != .early)&&Bz n d)=true)
  (Y:ev L x=some (.func (.func f) #[] caps.toArray)) (Z:evs L args.toList=some vs)
  (h:∀T,Has n L T->J.ok Q (G (Frame.enter P f (vs++caps).toArray .normal) (fr b T ds (.inRegion ops (i::rest)::k)::cs)) s):
  JL J Q b n L ds (.inRegion ops (i::rest)::k) cs s:=λT K=>by
 simp only[f5] at O
 have ac:args.map (BK T)=vs.toArray:=by
  rw[← GF K.GJ Z];apply s5;simp
 refine Judge.oper U (Cn K hw) (by simpa using O.1) (.inr λc ag=>by cases ag) ?_;have hd:lp P (execOp (BK T) ⟨d,.call ⟨.value x,args,ats⟩,ty,pp,af,g⟩) s (upon J Q b T ds ops i rest k cs d) (M7 J Q b T ds ops i rest k cs):=by
  have al:execOp (BK T) ⟨d,.call ⟨.value x,args,ats⟩,ty,pp,af,g⟩=(do let d ← Deferred.ofValue (.func (.func f) #[] caps.toArray) vs.toArray;invoke d.target d.args):=by
   simp only[execOp,resolve,ac,K.GJ _ _ Y]
  rw[al];simp only[Deferred.ofValue,bind,Sem.bind,pure,invoke];have e: #[]++vs.toArray++caps.toArray=(vs++caps).toArray:=by simp
  rw[e];exact Kl hb (h T K)
 exact hd
theorem ao{s:St}(hb:El P f=true)
  (U:ops[i]?=some ⟨d,.call ⟨.value (.func f),args,ats⟩,ty,pp,af,g⟩) (hw:A2 L ops ⟨d,.call ⟨.value (.func f),args,ats⟩,ty,pp,af,g⟩=some true) (O:((b.kind != .early)&&Bz n d)=true)
  (Y:evs L args.toList=some vs)
  (h:∀T,Has n L T->J.ok Q (G (Frame.enter P f vs.toArray .normal) (fr b T ds (.inRegion ops (i::rest)::k)::cs)) s):
  JL J Q b n L ds (.inRegion ops (i::rest)::k) cs s:=λT K=>by
 simp only[f5] at O
 have Z:args.map (BK T)=vs.toArray:=by
  rw[← GF K.GJ Y];apply s5;simp
 refine Judge.oper U (Cn K hw) (by simpa using O.1) (.inr λc ac=>by cases ac) ?_;have hd:lp P (execOp (BK T) ⟨d,.call ⟨.value (.func f),args,ats⟩,ty,pp,af,g⟩) s (upon J Q b T ds ops i rest k cs d) (M7 J Q b T ds ops i rest k cs):=by
  simp only[execOp,resolve,bind,Sem.bind,Deferred.ofValue,BK,pure,invoke];have e: #[]++args.map (BK T)++ #[]=vs.toArray:=by rw[Z];simp
  rw[e];exact Kl hb (h T K)
 exact hd
theorem fE{g:Frame}{s:St}(O:s.q=false)(h:(∃w,Fits s w)->J.ok Q (G g cs) s):J.ok Q (G g cs) s:=by
 by_cases K:∃w,Fits s w;exact h K;exact J.step ⟨V,λw f=>absurd ⟨w,f⟩ K,λe=>by subst e;cases O⟩
theorem I0.use{p:Bool}{Tc:Av_}{Y:Li_}(j:Nat)(ap:I0 J f vs E B p pv R)(ac:Av E H S)(ag:S[j]?=some B)
  (Z:p=false->∀v E' B',Le E E'->R v E' B'->Av E' H (S.set j B')->J.ok Q (G ((fr bc Tc dsc Y).finish v) cs) (Ak E' H (S.set j B')))
  (aq:p=true->∀E' B',Le E E'->Av E' H (S.set j B')->J.ok Q (G (HJ bc Tc dsc Y (raised pv)) cs) (Ak E' H (S.set j B'))):
  J.ok Q (G (Frame.enter P f vs.toArray .normal) (fr bc Tc dsc Y::cs)) (Ak E H S):=by
 have K:S.flatten.Perm (B++(S.set j []).flatten):=(EU (seg':=B) ag).1.trans r0;have al:Nd E H (B++(S.set j []).flatten):=Nd.perm ac K;have av:Ak E H S=mk E (By (S.set j []).flatten H) B:=by
  rw[show Ak E H S=mk E H S.flatten from rfl,FK ac K];unfold mk;rw[Gm]
 have aw:Nd E H (S.set j []).flatten:=by
  have:=al;rw[Nd.iff] at this ⊢;rw[sB,sR] at this;exact⟨this.1.2.1,λq ay=>this.2 q (sc _ ay)⟩
 have back:∀(g:Frame) (E':LH) (B':Seg),Le E E'->Nd E' (By (S.set j []).flatten H) B'->(Av E' H (S.set j B')->J.ok Q (G g cs) (Ak E' H (S.set j B')))->J.ok Q (G g cs) (mk E' (By (S.set j []).flatten H) B'):=λg E' B' hle U az=>by
  have e2:mk E' (By (S.set j []).flatten H) B'=mk E' H (B'++(S.set j []).flatten):=by unfold mk;rw[Gm]
  refine fE V λ⟨w,a0⟩=>?_;have a1:Nd E' H (S.set j []).flatten:=aw.grow λx a2=>by
   have a3:=a0.d x a2;have Z:By B' (By (S.set j []).flatten H) x=none:=a3;exact(IA Z).1
  have O:Nd E' H (B'++(S.set j []).flatten):=Nd.glue U a1;rw[e2];have am:(B'++(S.set j []).flatten).Perm (S.set j B').flatten:=r0.trans (EU ag).2.symm;rw[FK O am];exact az (Nd.perm O am)
 rw[av];refine ap Q bc Tc dsc Y cs _ (Nd.front al) (λK v E' B' hle a4 U=>back _ E' B' hle U λO=>Z K v E' B' hle a4 O) (λK E' B' hle U=>back _ E' B' hle U λO=>aq K E' B' hle O)
theorem US{x:Operand}{p:Bool}(j:Nat)(hb:El P f=true)
  (ac:I0 J f (vs++caps) E seg p pv R) (Y:ops[i]?=some ⟨d,.call ⟨.value x,args,ats⟩,ty,pp,af,g⟩) (hw:A2 L ops ⟨d,.call ⟨.value x,args,ats⟩,ty,pp,af,g⟩=some true) (K:((b.kind != .early)&&Bz n d)=true)
  (ag:ev L x=some (.func (.func f) #[] caps.toArray)) (al:evs L args.toList=some vs) (am:Av E H S) (ap:S[j]?=some seg)
  (aq:p=true->∀E' seg',Le E E'->Av E' H (S.set j seg')->JP J Q b n L ds cs (raised pv) (Ak E' H (S.set j seg')))
  (av:p=false->∀v E' seg',Le E E'->R v E' seg'->Av E' H (S.set j seg')->JL J Q b n (AA L d v) ds (.inRegion ops rest::k) cs (Ak E' H (S.set j seg'))):
  JL J Q b n L ds (.inRegion ops (i::rest)::k) cs (Ak E H S):=
 bA hb Y hw K ag al λT Z=>I0.use j ac am ap
  (λO v E' B' hle aw U=>by
   rw[Hg (o:=⟨d,.call ⟨.value x,args,ats⟩,ty,pp,af,g⟩) _ _ _ _ _ Y]
   simp only[f5] at K
   exact av O v E' B' hle aw U _ (Z.put K.2 v))
  (λO E' B' hle U=>aq O E' B' hle U T Z _)
theorem aI{p:Bool}(j:Nat)(hb:El P f=true)
  (ac:I0 J f vs E seg p pv R) (Y:ops[i]?=some ⟨d,.call ⟨.value (.func f),args,ats⟩,ty,pp,af,g⟩) (hw:A2 L ops ⟨d,.call ⟨.value (.func f),args,ats⟩,ty,pp,af,g⟩=some true) (K:((b.kind != .early)&&Bz n d)=true)
  (ag:evs L args.toList=some vs) (al:Av E H S) (am:S[j]?=some seg)
  (ap:p=true->∀E' seg',Le E E'->Av E' H (S.set j seg')->JP J Q b n L ds cs (raised pv) (Ak E' H (S.set j seg')))
  (aq:p=false->∀v E' seg',Le E E'->R v E' seg'->Av E' H (S.set j seg')->JL J Q b n (AA L d v) ds (.inRegion ops rest::k) cs (Ak E' H (S.set j seg'))):
  JL J Q b n L ds (.inRegion ops (i::rest)::k) cs (Ak E H S):=
 ao hb Y hw K ag λT Z=>I0.use j ac al am
  (λO v E' B' hle av U=>by
   rw[Hg (o:=⟨d,.call ⟨.value (.func f),args,ats⟩,ty,pp,af,g⟩) _ _ _ _ _ Y]
   simp only[f5] at K
   exact aq O v E' B' hle av U _ (Z.put K.2 v))
  (λO E' B' hle U=>ap O E' B' hle U T Z _)
theorem dx{x y z1:Operand}{s:St}{p:String}{l K m:Nat}(O:∀ad,a=some ad->ad.spot=none∨c=0)(U:m<=c)(he:hi=(m:Int))(Y:P.underlying t=some (.slice e))(Z:BB P e=some K)(ac:ρ x=.slice a l c)(ag:ρ y=iV hi)(al:ρ z1=iV hi):
  Yl P ⟨d,.slice t x none (some y) (some z1),ty,p,af,g⟩ ρ s (.slice a m m):=by
 subst he;have h:=Yl.slice (P:=P) (s:=s) (d:=d) (ty:=ty) (p:=p) (af:=af) (g:=g) (olo:=none) (ohi:=some y) (omx:=some z1) (lo:=0) (hi:=m) (mx:=m) Y Z ac al ag V U (rJ _) (sC _);have am:(if m=0 then a else a.map (·.add (0*K)))=a:=by
  split;rfl
  .cases a with
   | none=>rfl
   | some ad=>
    have:=(O ad rfl).resolve_right (by omega);simp only[sU,tY];rw[Et this];obtain⟨b,o,sp⟩:=ad;simp only at this;subst this;simp
 rw[am] at h;simpa using h
theorem Ao.lJ{q:Rp α}{xs ys:List α}(U:Ao q E a c xs)(hC:Ho xs 0 hi=some ys):Ao q E a c ys/\ys.length<=c/\hi=(ys.length:Int):=by
 unfold Ho at hC;split at hC
 rotate_left
 .cases hC
 rename_i hb;obtain⟨Z,ac,ag⟩:=hb;cases hC;have al:=U.1;have hlen:(((xs.take hi.toNat).drop (0:Int).toNat)).length=hi.toNat:=by simp;omega
 refine⟨⟨by rw[hlen];omega,?_⟩,by rw[hlen];omega,by rw[hlen];omega⟩;rcases U.2 with⟨h,O⟩ | ⟨bk,off,Y,O⟩;exact .inl ⟨by rw[h];simp,O⟩;refine .inr ⟨bk,off,Y,λi x K=>O i x ?_⟩;simp only[Int.toNat_zero,uV] at K;rw[ta] at K;split at K;exact K;cases K
theorem Take.Vq{m c2:Nat}{listed:Array Bool}{x y:Operand}{p:String}{q:Rp α}{Y cx:Nat}{ax:Option Addr}{xs ys Z:List α}(U:Ex xs ys=some Z)
  (aw:ops[i]?=some ⟨d,.call ⟨.builtin .append,#[x,y],ats⟩,ty,p,af,g⟩) (hw:A2 L ops ⟨d,.call ⟨.builtin .append,#[x,y],ats⟩,ty,p,af,g⟩=some true) (ay:Bz n d=true)
  (az:ev L x=some (.slice a xs.length xs.length)) (a0:ev L y=some (.slice ax ys.length cx)) (a1:ats[0]?=some t) (a2:ats[1]?=some t1) (a3:P.underlying t=some (.slice e)) (a4:P.underlying t1=some (.slice e)) (a5:BB P e=some q.n) (hb:Gs P e=some Y) (a6:zeroOf P e=some z) (a7:z.cells.size=q.n)
  (a8:0<Y) (a9:Y<=64) (ac:Ao q E a c xs) (bb:Ao q E ax cx ys) (ag:Av E H S)
  (h:∀E' al K,Le E E'->Ao q E' al K Z->Av E' H (S++ [[]])->A3 J Q b n ds ops k cs m Ec c2 (Bp listed i) (AA L d (.slice al Z.length K)) (Ak E' H (S++ [[]]))):
  Take J Q b n ds ops k cs m Ec c2 listed L (Ak E H S) i:=by
 unfold Ex at U;split at U
 rotate_left
 .cases U
 rename_i be;cases U;let⟨wss,am,bi,bn,ci⟩:=Ao.NS (H:=H) (B:=S.flatten) ac.full;let⟨bo,bv,bw,bx,bz⟩:=Ao.NS (H:=H) (B:=S.flatten) bb;have hlen:(xs++ys).length=xs.length+ys.length:=by simp
 show Take J Q b n ds ops k cs m Ec c2 listed L (mk E H S.flatten) i;refine Take.OD aw (by simp[EN,ay]) hw λρ ap=>?_;rw[ND,ap x _ az,ap y _ a0];refine Ay _ _ (T6 a1 a2 a4 a3 a5 hb a6 a7 ag bn bx bz a8 be a9 ?_ ?_)
 .intro hm;have b0:ys=[]:=sa hm;subst b0;have b1:Av E H (S++ [[]]):=by unfold Av at*;rw[Hz,r9];exact ag
  have b2:mk E H S.flatten=Ak E H (S++ [[]]):=by unfold Ak;rw[Hz,r9]
  rw[b2];have:=h E a xs.length (Le.refl _) (by rw[r9];exact ac.full) b1;rw[hlen] at this;exact this
 .intro r O K b3 b4 b5 b6;have ca:OL e q E (some ⟨r,0,none⟩) K [(r,.cells O e (0,0))] (xs++ys):=
   ⟨wss++bo,.inr ⟨r,O,rfl,rfl,b4,by rw[hlen];exact b3,by rw[hlen,tC];exact b5.symm⟩,by simp[am,bv],O4 am bi bw⟩
  have aq:=F6 (S:=S) (seg:=[(r,.cells O e (0,0))]) b6;show A3 J Q b n ds ops k cs m Ec c2 _ _ (mk E H (S.flatten++ [(r,.cells O e (0,0))]));rw[aq.1];refine GR S.length ca aq.2 (by simp) λE' hle cc av=>?_;have ce:(S++ [[(r,Obj.cells O e (0,0))]]).set S.length []=S++ [[]]:=JW _ _ _ _;rw[ce] at av ⊢;have:=h E' (some ⟨r,0,none⟩) K hle cc av;rw[hlen] at this;exact this
theorem Zc{x:Operand}{s:St}{p:String}{v:Value}(K:P.underlying t1=some (.struct f1))(O:ρ x=.iface t1 v):Yl P ⟨d,.typeAssert x xt t1 true,ty,p,af,g⟩ ρ s (.tuple #[v,.bool true]):=by
 refine FY (sm:=Instr.typeAssert (ρ x) xt t1 true) V ?_;rw[O];unfold Instr.typeAssert;refine Ay _ _ (Cy K ?_);simp[lp,pure]
theorem Y8{x:Operand}{s:St}{p:String}(K:P.underlying t1=some (.struct f1))(O:zeroOf P t1=some z)(U:ρ x=.nilIface):Yl P ⟨d,.typeAssert x xt t1 true,ty,p,af,g⟩ ρ s (.tuple #[z,.bool false]):=by
 refine FY (sm:=Instr.typeAssert (ρ x) xt t1 true) V ?_;rw[U];unfold Instr.typeAssert;refine Ay _ _ (Cy K ?_);exact Ay (x:=zeroValue t1) _ (IB O ⟨V,V⟩)
end
end Pal
