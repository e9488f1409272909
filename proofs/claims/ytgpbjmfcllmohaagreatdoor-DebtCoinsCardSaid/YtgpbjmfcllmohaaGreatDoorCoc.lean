/- DebtCoins: a part (3 of 9) of the proof of its row. -/
import Derived.Test.YtgpbjmfcllmohaaGreatDoorCoa
import Derived.Test.YtgpbjmfcllmohaaGreatDoorCob
import Derived.Test.YtgpbjmfcllmohaaGreatDoorProg
import Derived.ProofKit
set_option linter.all false
set_option maxRecDepth 100000
namespace Pal
open Go Go.Conc
variable {P:Program}
variable{s':St}{pure w:Bool}
section
variable (J:Judge P)(Q:Gs_)(b:Frame)(ds:Ld_)(ops:Ao_)(k:Li_)(cs:Lf_)(X D D0:Nat->Bool)
def JB:Nat->Array Bool->Av_->St->Prop
 | 0,listed,T,s=>Region.ready .any ops listed=[]/\J.ok Q (G (fr b T ds (.inRegion ops []::k)) cs) s
 | fuel+1,listed,T,s=>
  Region.ready .any ops listed≠ []/\s.q=false/\∀i∈Region.ready .any ops listed,∀o,ops[i]?=some o->(∀c,o.op≠ .defer c)/\
   (Region.wanted o (yielded ops T)=false->JB fuel (Bm listed i) (C6 T o.dst undef) s)/\
   (Region.wanted o (yielded ops T)=true->X i=true->lp P (execOp (BK T) o) s (λK s'=>(∀x u,D0 x=true->s.get x=some u->s'.get x=some u)/\match K with
    | .value v=>JB fuel (Bm listed i) (C6 T o.dst v) s'
    | .skip=>JB fuel (Bm listed i) (C6 T o.dst undef) s'
    | _=>False) (λ_ _=>False))/\
   (Region.wanted o (yielded ops T)=true->X i=false->lp P (execOp (BK T) o) (BA D s) (λK s'=>match K with
    | .value v=>JB fuel (Bm listed i) (C6 T o.dst v) (Ct D s s')
    | .skip=>JB fuel (Bm listed i) (C6 T o.dst undef) (Ct D s s')
    | _=>False) (λ_ _=>False))
variable {J Q b ds ops k cs X D D0}
theorem aL(Z:b.kind≠ .early):∀(fuel t:Nat) (listed:Array Bool) (T:Av_) (s:St),JB J Q b ds ops k cs X D D0 fuel listed T s->
  J.ok Q (G (fr b T ds (.inRegion ops (Region.linearise.go .any ops fuel t listed [])::k)) cs) s:=by
 intro fuel
 induction fuel with
 | zero=>intro t listed T s h;simpa [Region.linearise.go] using h.2
 | succ fuel O=>
  intro t listed T s h;obtain⟨ai,al,h⟩:=h;obtain⟨i,hi⟩:∃i,(Region.ready .any ops listed)[t%(Region.ready .any ops listed).length]?=some i:=by
   have:0<(Region.ready .any ops listed).length:=tH.2 ai;exact⟨_,d6 (tl _ this)⟩
  have ac:=qi hi;have hgo:Region.linearise.go .any ops (fuel+1) t listed []=i::Region.linearise.go .any ops fuel (t/(Region.ready .any ops listed).length) (Bm listed i) []:=by
   simp only[Region.linearise.go];change (match(Region.ready .any ops listed)[t%(Region.ready .any ops listed).length]? with
    | some i=>Region.linearise.go .any ops fuel (t/(Region.ready .any ops listed).length) (listed.setIfInBounds i true) [i]
    | none=>[].reverse)=_
   rw[hi];simp only;rw[linearise_go_acc];rfl
  rw[hgo];let⟨_,o,U,_⟩:=mem_ready.1 ac;let⟨hd,am,ap,aq⟩:=h i ac o U;cases hw:Region.wanted o (yielded ops T) with
  | false=>exact Judge.unwanted U hw (O _ _ _ _ (am hw))
  | true=>
   cases ag:X i with
   | true=>
    refine Judge.oper U hw Z (.inr hd) (Es _ (ap hw ag) ?_ (λ_ _ h=>h.elim));rintro Y s' ⟨_,K⟩;cases Y with
    | value v=>exact O _ _ _ _ K
    | skip=>exact O _ _ _ _ K
    | _=>exact K.elim
   | false=>
    refine Judge.Vu D U hw Z hd al (Es _ (aq hw ag) ?_ (λ_ _ h=>h));intro Y s' K;cases Y with
    | value v=>exact O _ _ _ _ K
    | skip=>exact O _ _ _ _ K
    | _=>exact K.elim
def waitAll(ops:Ao_)(X:Nat->Bool)(i:Nat):Bool:=(List.range ops.size).all λj=> !X j || waits ops ops.size j i
theorem dk{D:Nat->Bool}{s:St}(K:s'.E=(BA D s).E){x:Nat}{o:Obj}(h:s.E x=some o):(Ct D s s').E x=some o:=by
 by_cases hd:D x;simp[Ct,hd,h];have:=uy K x;simp[BA,hd] at this;simp[Ct,hd,this,h]
theorem eO{D0 D:Nat->Bool}{s:St}(h:∀x,D0 x=true->D x=true):∀x o,(BA D0 s).E x=some o->(BA D s).E x=some o:=λx o K=>by
 simp only[BA] at K ⊢
 split;split at K;exact K;unfold St.get;rw[K];rename_i hd;rw[d9 (λe=>hd (h x e))] at K;exact K
theorem jN{D0:Nat->Bool}{s:St}(h:∀x o,(BA D0 s).E x=some o->s'.E x=some o):∀x o,s.E x=some o->s'.E x=some o:=λx o K=>h x o (by
 simp only[BA];split;unfold St.get;rw[K]
 .exact K)
theorem aN{D0:Nat->Bool}{s:St}(h:∀x u,D0 x=true->s.get x=some u->s'.get x=some u)(O:s'.E=s.E):∀x o,(BA D0 s).E x=some o->(BA D0 s').E x=some o:=λx o K=>by
 simp only[BA] at K ⊢
 split;rename_i hd;rw[d7 hd] at K;exact h x o hd K;rename_i hd;rw[d9 hd] at K;rw[O];exact K
theorem Ta{D0 D:Nat->Bool}{s:St}(h:∀x,D0 x=true->D x=true)(O:s'.E=(BA D s).E):∀x o,(BA D0 s).E x=some o->(BA D0 (Ct D s s')).E x=some o:=λx o K=>by
 simp only[BA] at K ⊢
 split
 .rename_i hd;rw[d7 hd] at K
  unfold St.get Ct;simp only[h x hd,q1];exact K
 .rename_i hd;rw[d9 hd] at K;exact dk O K
theorem Ut{i:Nat}{oi:Oper}{v:Value}(bx:∀x,D0 x=true->D x=true)(hi:ops[i]?=some oi)(c2:X i=false)(cc:(pure || waitAll ops X i)=true)(c3:Region.noSelect ops=true)(c4:∀c,oi.op≠ .defer c):
  ∀(fuel:Nat) (listed:Array Bool) (T:Av_) (s:St),JD ops listed i oi=true->Iv ops listed=true->listed.size=ops.size->i∈Region.ready .any ops listed->s.q=false->Region.wanted oi (yielded ops T)=w->
   (w=true->∀s',s'.q=false->(∀x o,(BA D0 s).E x=some o->s'.E x=some o)->(pure=false->∀x o,(BA D s).E x=some o->s'.E x=some o)->Yl P oi (BK T) s' v)->
   JB J Q b ds ops k cs X D D0 fuel (Bm listed i) (C6 T oi.dst (if w then v else undef)) s->JB J Q b ds ops k cs X D D0 (fuel+1) listed T s:=by
 have aq:∀(j:Nat) (ai:Oper),ops[j]?=some ai->∀cs b,ai.op≠Op.select cs b:=λj ai h cs b=>Region.noSelect_spec c3 j ai cs b h;intro fuel
 induction fuel with
 | zero=>?_
 | succ fuel a0=>?_
 all_goals
  intro listed T s ce ci a2 bo a3 hw av h;refine⟨λe=>(by rw[e] at bo;cases bo),a3,λj co ai U=>?_⟩;by_cases a4:j=i
  .subst a4;obtain rfl:ai=oi:=by rw[hi] at U;exact(f6 U).symm
   refine⟨c4,λO=>?_,λaw K=>?_,λaw K=>?_⟩;rw[O] at hw;subst hw;exact h;rw[c2] at K;cases K;rw[aw] at hw;subst hw;refine Es _ (av V (BA D s) a3 (eO bx) λ_ _ _ h=>h).out ?_ (λ_ _ h=>h);rintro bv s' ⟨rfl,rfl⟩;rw[Mm];exact h
  ·
   have cp:j∈Region.ready .any ops (Bm listed i):=ready_mono co a4;let⟨ay,Y,ct,bz⟩:=mem_ready.1 co;obtain rfl:Y=ai:=by rw[U] at ct;exact(f6 ct).symm
   have b0:=(mem_ready.1 bo).1;have c5:(Y.after.any λe=>Region.binds .any e&&e.on==i)=false:=by
    rw[Array.any_eq_false];intro e he K;simp only[f5,rR] at K;have:=bz _ (Array.getElem_mem he) K.1;rw[K.2] at this;have az:listed.getD i true=listed.getD i false∨listed.size<=i:=by
     rcases gD i listed.size with q | q;left;simp[gR,q];exact .inr q
    rcases az with az | az;rw[b0,this] at az;cases az;rw[gR,qg az] at this;simp at this
   have c6:oi.apart ops Y=true:=by
    have b1:j<ops.size:=(f4.1 U).1;have:=qs.1 ce j (qc.2 b1);simp only[rb,rR] at this;rcases this with(q | q) | q;exact absurd q a4;rw[ay] at q;cases q;rw[U] at q;simp only[rb] at q;rw[c5] at q;exact q.resolve_left (by simp)
   let⟨a1,a5,a6⟩:=Oper.apart_spec c6;let⟨p1,p2⟩:=IQ (ops:=ops) (T:=T) (v:=if w then v else undef) (aq j Y U) a1
   first
    | exact absurd cp (by rw[h.1];simp)
    | (
     obtain⟨ee,_,h⟩:=h
     let⟨hd,O,c7,c8⟩:=h j cp Y U
     have a7:Bm (Bm listed i) j=Bm (Bm listed j) i:=by
      unfold Bm;exact td _ _ (qH a4)
     have a8:i∈Region.ready .any ops (Bm listed j):=ready_mono bo (qH a4)
     have a9:JD ops (Bm listed j) i oi=true:=by
      refine qs.2 λx K=>?_
      have:=qs.1 ce x K
      simp only[rb,rR] at this ⊢
      rcases this with(q | q) | q;exact .inl (.inl q)
      .left;right
       by_cases e:j=x;subst e;rw[ay] at q;cases q;rw[Bm,getD_set_ne true e];exact q
      .exact .inr q
     have bb:(Bm listed j).size=ops.size:=by unfold Bm;simpa using a2
     have be:Iv ops (Bm listed j)=true:=by
      refine qs.2 λx K=>?_
      cases b2:ops[x]? with
      | none=>simp
      | some c9=>
       simp only[rb,sR]
       by_cases e:j=x
       .subst e
        obtain rfl:c9=Y:=by rw[U] at b2;exact(f6 b2).symm
        right
        refine sf.2 λe he=>?_
        cases hb:Region.binds .any e with
        | false=>simp
        | true=>
         have:=bz e he hb
         by_cases e2:j=e.on
         .rw [← e2] at this
          have b3:j<listed.size:=by rw[a2];exact(f4.1 U).1
          simp[gR,b3] at this ay
          rw[ay] at this;cases this
         .rw [Bm,getD_set_ne false e2];simpa using this
       .cases cw:(Bm listed j).getD x false with
        | false=>exact .inl rfl
        | true=>
         right
         have dd:listed.getD x false=true:=by rw[Bm,getD_set_ne false e] at cw;exact cw
         refine sf.2 λb4 he=>?_
         cases hb:Region.binds .any b4 with
         | false=>simp
         | true=>
          have:=QP ci b2 dd b4 he hb
          by_cases e2:j=b4.on
          .rw [← e2] at this
           have b3:j<listed.size:=by rw[a2];exact(f4.1 U).1
           simp[gR,b3] at this ay
           rw[ay] at this;cases this
          .rw [Bm,getD_set_ne false e2];simpa using this
     refine⟨hd,λdj=>?_,λb5 bw=>?_,λb5 bw=>?_⟩
     .have:=O (by rw[p2];exact dj)
      rw[a7,Kb a5] at this
      let⟨Z,ac⟩:=IQ (ops:=ops) (T:=T) (d:=Y.dst) (v:=undef) (o:=oi) (aq i oi hi) a6
      exact a0 _ _ _ a9 be bb a8 a3 (by rw[ac];exact hw) (λag s' ea O al=>by unfold Yl;rw[Z];exact(av ag s' ea O al).out) this
     ·
      have eb:pure=true:=by
       cases ec:pure with
       | true=>rfl
       | false=>
        exfalso
        rw[ec,uu] at cc
        have b1:j<ops.size:=(f4.1 U).1
        have aw:=qs.1 cc j (qc.2 b1)
        rw[bw] at aw
        simp only[ut,uu] at aw
        rcases Tk ci _ j Y U (λe he hb=>bz e he hb) aw with q | ⟨x,Z,ac⟩
        .have ed:i<listed.size:=by rw[a2];exact(f4.1 hi).1
         simp[gR,ed] at q b0
         rw[b0] at q;cases q
        .have:¬x<listed.size:=by rw[a2];intro K;simp[K] at Z
         simp[gR,this] at ac
      have bi:=Qt _ (c7 (by rw[p2];exact b5) bw)
      rw[p1] at bi
      refine Es _ bi ?_ (λ_ _ h=>h)
      rintro bv s' ⟨⟨b6,K⟩,al,ca⟩
      have cy:=aN b6 al
      have bn:s'.q=false:=ca.trans a3
      have c0:pure=false->∀{α:Prop},α:=λe=>by rw[eb] at e;cases e
      cases bv with
      | value u=>
       simp only at K ⊢
       rw[a7,Kb a5] at K
       let⟨Z,ac⟩:=IQ (ops:=ops) (T:=T) (d:=Y.dst) (v:=u) (o:=oi) (aq i oi hi) a6
       exact⟨b6,a0 _ _ _ a9 be bb a8 bn (by rw[ac];exact hw) (λag s2 am O ap=>by unfold Yl;rw[Z];exact(av ag s2 am (λx o h=>O x o (cy x o h)) (λe=>c0 e)).out) K⟩
      | skip=>
       simp only at K ⊢
       rw[a7,Kb a5] at K
       let⟨Z,ac⟩:=IQ (ops:=ops) (T:=T) (d:=Y.dst) (v:=undef) (o:=oi) (aq i oi hi) a6
       exact⟨b6,a0 _ _ _ a9 be bb a8 bn (by rw[ac];exact hw) (λag s2 am O ap=>by unfold Yl;rw[Z];exact(av ag s2 am (λx o h=>O x o (cy x o h)) (λe=>c0 e)).out) K⟩
      | _=>exact K.elim
     .have bi:=Qt _ (c8 (by rw[p2];exact b5) bw)
      rw[p1] at bi
      refine Es _ bi ?_ (λ_ _ h=>h)
      rintro bv s' ⟨K,al,ca⟩
      have c1:=Ty (D:=D) al
      have bn:(Ct D s s').q=false:=by show s'.q=false;rw[ca];exact a3
      cases bv with
      | value u=>
       simp only at K ⊢
       rw[a7,Kb a5] at K
       let⟨Z,ac⟩:=IQ (ops:=ops) (T:=T) (d:=Y.dst) (v:=u) (o:=oi) (aq i oi hi) a6
       exact a0 _ _ _ a9 be bb a8 bn (by rw[ac];exact hw) (λag s2 am O ap=>by unfold Yl;rw[Z];exact(av ag s2 am (λx o h=>O x o (Ta bx al x o h)) (λe=>by rw[c1] at ap;exact ap e)).out) K
      | skip=>
       simp only at K ⊢
       rw[a7,Kb a5] at K
       let⟨Z,ac⟩:=IQ (ops:=ops) (T:=T) (d:=Y.dst) (v:=undef) (o:=oi) (aq i oi hi) a6
       exact a0 _ _ _ a9 be bb a8 bn (by rw[ac];exact hw) (λag s2 am O ap=>by unfold Yl;rw[Z];exact(av ag s2 am (λx o h=>O x o (Ta bx al x o h)) (λe=>by rw[c1] at ap;exact ap e)).out) K
      | _=>exact K.elim)
end
section
variable (J:Judge P)(Q:Gs_)(b:Frame)(n:Nat)(ds:Ld_)(ops:Ao_)(k:Li_)(cs:Lf_)(X D D0:Nat->Bool)
def FU(fuel:Nat)(listed:Array Bool)(L:Env)(s:St):Prop:=∀T,Has n L T->JB J Q b ds ops k cs X D D0 fuel listed T s
end
theorem JB.take{i:Nat}{oi:Oper}{v:Value}{P:Program}{J:Judge P}{Q:Gs_}{b:Frame}{ds:Ld_}{ops:Ao_}{k:Li_}{cs:Lf_}{X D D0:Nat->Bool}(K:∀x,D0 x=true->D x=true)(hi:ops[i]?=some oi)(O:X i=false)(U:(pure || waitAll ops X i)=true)(Y:Region.noSelect ops=true)(Z:∀c,oi.op≠ .defer c)
  (fuel:Nat) (listed:Array Bool) (T:Av_) (s:St) (ac:JD ops listed i oi=true) (ag:Iv ops listed=true) (ai:listed.size=ops.size) (al:i∈Region.ready .any ops listed) (am:s.q=false) (ap:Region.wanted oi (yielded ops T)=w)
  (aq:w=true->∀s',s'.q=false->(pure=false->∀x o,(BA D s).E x=some o->s'.E x=some o)->Yl P oi (BK T) s' v)
  (h:JB J Q b ds ops k cs X D D0 fuel (Bm listed i) (C6 T oi.dst (if w then v else undef)) s):JB J Q b ds ops k cs X D D0 (fuel+1) listed T s:=
 Ut K hi O U Y Z fuel listed T s ac ag ai al am ap (λe s' av _ aw=>aq e s' av aw) h
def Ks(ops:Ao_)(listed:Array Bool)(xs:List Nat)(pure:Bool)(i:Nat):Bool:=match ops[i]? with
 | some oi=> !Az xs i&&(pure || waitAll ops (Az xs) i)&&Region.noSelect ops&& !Ek oi.op&&JD ops listed i oi&&Iv ops listed&&listed.size==ops.size&&(Region.ready .any ops listed).contains i
 | none=>false
variable {J:Judge P}{Q:Gs_}{n:Nat}{ds:Ld_}{ops:Ao_}{k:Li_}{cs:Lf_}{X D:Nat->Bool}{l0:List Nat}{L:Env}{s:St}{E H:LH}{S:List Seg}{xl bks:List Nat}
variable {d:Option Tmp}{t u ty:TypeId}{p:String}{af:Ae_}{g:On_}{v:Value}{kd:IntKind}
section
variable {b:Frame}{fuel:Nat}{listed:Array Bool}
variable {x y:Operand}{e:TypeId}{i:Nat}
theorem Gi(xl bks l0:List Nat){id:Nat}(hm:P.follows .mixedOrders=true)(K:(b.kind != .early)=true)
  (h:FU J Q b n ds ops k cs (Az xl) (Az (l0++bks)) (Az l0) ops.size (Array.replicate ops.size false) L (Ak E H S)):JL J Q b n L ds (.code (.region id ops true)::k) cs (Ak E H S):=
 VB V hm λt T O=>aL (by simpa using K) ops.size t _ T _ (h T O)
theorem V0:∀x,Az l0 x=true->Az (l0++bks) x=true:=λx h=>by
 simp only[Az,List.contains_iff_mem,gM] at h ⊢;exact .inl h
theorem JB.val{oi:Oper}(i:Nat)(pure:Bool)(hi:ops[i]?=some oi)(K:Ks ops listed xl pure i=true)(Y:s.q=false)
  (hw:AY L ops oi=some true) (Z:Bu n oi.dst=true) (ac:∀ρ,Fa L ρ->∀s':St,(pure=false->∀x o,(BA (Az (l0++bks)) s).E x=some o->s'.E x=some o)->Yl P oi ρ s' v)
  (h:FU J Q b n ds ops k cs (Az xl) (Az (l0++bks)) (Az l0) fuel (Bm listed i) (AB L oi.dst v) s):FU J Q b n ds ops k cs (Az xl) (Az (l0++bks)) (Az l0) (fuel+1) listed L s:=λT O=>by
 simp only[Ks,hi,f5] at K
 obtain⟨⟨⟨⟨⟨⟨⟨ag,ai⟩,al⟩,U⟩,am⟩,ap⟩,aq⟩,av⟩:=K
 refine JB.take (w:=true) (v:=v) (pure:=pure) V0 hi (by simpa using ag) ai al (λc K=>by rw[K] at U;simp[Ek] at U) fuel listed T s am ap (by simpa using aq) (by simpa using av) Y (Cl O hw) (λ_ s' ay aw=>ac _ O.Gz s' aw) ?_
 exact h _ (O.put Z v)
theorem dI{oi:Oper}(i:Nat)(hi:ops[i]?=some oi)(K:Ks ops listed xl true i=true)(Y:s.q=false)
  (hw:AY L ops oi=some true) (Z:Bu n oi.dst=true) (ac:∀ρ,Fa L ρ->∀s':St,(∀x o,(BA (Az l0) s).E x=some o->s'.E x=some o)->Yl P oi ρ s' v)
  (h:FU J Q b n ds ops k cs (Az xl) (Az (l0++bks)) (Az l0) fuel (Bm listed i) (AB L oi.dst v) s):FU J Q b n ds ops k cs (Az xl) (Az (l0++bks)) (Az l0) (fuel+1) listed L s:=λT O=>by
 simp only[Ks,hi,f5] at K
 obtain⟨⟨⟨⟨⟨⟨⟨ag,ai⟩,al⟩,U⟩,am⟩,ap⟩,aq⟩,av⟩:=K
 refine Ut (w:=true) (v:=v) (pure:=true) V0 hi (by simpa using ag) ai al (λc K=>by rw[K] at U;simp[Ek] at U) fuel listed T s am ap (by simpa using aq) (by simpa using av) Y (Cl O hw) (λ_ s' ay aw _=>ac _ O.Gz s' aw) ?_
 exact h _ (O.put Z v)
theorem KP{oi:Oper}(i:Nat)(hi:ops[i]?=some oi)(K:Ks ops listed xl true i=true)(O:s.q=false)
  (hw:AY L ops oi=some true) (U:Bu n oi.dst=true) (Y:∀ρ,Fa L ρ->∀s':St,(∀x o,s.E x=some o->s'.E x=some o)->Yl P oi ρ s' v)
  (h:FU J Q b n ds ops k cs (Az xl) (Az (l0++bks)) (Az l0) fuel (Bm listed i) (AB L oi.dst v) s):FU J Q b n ds ops k cs (Az xl) (Az (l0++bks)) (Az l0) (fuel+1) listed L s:=
 dI i hi K O hw U (λρ Z s' ac=>Y ρ Z s' (jN ac)) h
theorem JB.fin{l0:List Nat}(K:Region.ready .any ops listed=[])(h:JL J Q b n L ds k cs s):FU J Q b n ds ops k cs X D (Az l0) 0 listed L s:=λT O=>⟨K,JL.done h T O⟩
def N5(S:List Seg)(j:Nat):List Nat->Prop
 | []=>True
 | bk::l=>(∃(i:Nat) (o:Obj),(i==j)=false/\S[i]?=some [(bk,o)])/\N5 S j l
theorem N5.mem{S:List Seg}{j:Nat}:∀{l:List Nat},N5 S j l->∀bk∈l,∃(i:Nat) (o:Obj),i≠j/\S[i]?=some [(bk,o)]
 | [],_,_,h=>by cases h
 | b::l,⟨⟨i,o,hi,h⟩,K⟩,bk,hb=>by
  rcases gv.1 hb with rfl | hb;exact⟨i,o,by simpa using hi,h⟩;exact K.mem bk hb
theorem JB.store{bk off:Nat}{c:Av_}(i j:Nat)(Y:Region.ready .any ops listed=[i])(aq:Az xl i=true)(av:ops[i]?=some ⟨d,.store t x y,ty,p,af,g⟩)(hw:AY L ops ⟨d,.store t x y,ty,p,af,g⟩=some true)(aw:Bu n d=true)(Z:Au E H S)
  (O:ev L x=some (.pointer (some ⟨bk,off,none⟩))) (ay:ev L y=some v) (az:Bz P t=some v.cells.size) (a0:∀u∈v.cells.toList,CM u=true) (ac:S[j]?=some [(bk,.cells c e (0,0))]) (a1:N5 S j l0) (hle:off+v.cells.size<=c.size)
  (h:Au E H (S.set j [(bk,.cells (A9 c off v.cells.toList) e (0,0))])->FU J Q b n ds ops k cs (Az xl) (Az (l0++bks)) (Az l0) fuel (Bm listed i) (AB L d undef) (Ak E H (S.set j [(bk,.cells (A9 c off v.cells.toList) e (0,0))]))):
  FU J Q b n ds ops k cs (Az xl) (Az (l0++bks)) (Az l0) (fuel+1) listed L (Ak E H S):=λT K=>by
 refine⟨by rw[Y];simp,rfl,λa9 U o' ag=>?_⟩
 rw[Y] at U
 simp at U
 subst U
 obtain rfl:o'=⟨d,.store t x y,ty,p,af,g⟩:=by rw[av] at ag;exact(f6 ag).symm
 have a2:=Cl K hw;refine⟨λc a3=>(by cases a3),λe=>?_,λ_ _=>?_,λ_ e=>?_⟩;rw[a2] at e;cases e
 .let⟨ai,a4⟩:=GM Z ac;rw[ai];show lp P (do Instr.storeAt t (BK T x) (BK T y);pure Next.skip) _ _ _
  rw[K.ev O,K.ev ay];refine AA _ _ ?_;unfold Instr.storeAt;simp only[Instr.sureAddr,bind,Sem.bind,pure];refine QK (pl:=(S.set j []).flatten.length) az a0 a4 (c:=c) (e:=e) (by simp) hle λal=>?_;have a5:((S.set j []).flatten++ [(bk,Obj.cells c e (0,0))]).set (S.set j []).flatten.length (bk,.cells (A9 c off v.cells.toList) e (0,0))=(S.set j []).flatten++ [(bk,.cells (A9 c off v.cells.toList) e (0,0))]:=HO _ _ _ _;rw[a5] at al ⊢;let⟨a6,am⟩:=IY ac al;rw[a6];refine⟨λx u O a7=>?_,h am _ (K.put aw undef)⟩;obtain⟨bb,o',a8,ap⟩:=a1.mem x (by simpa [Az] using O);have g1:(Ak E H S).get x=some o':=Dz (i:=0) Z ap rfl;have g2:(Ak E H (S.set j [(bk,.cells (A9 c off v.cells.toList) e (0,0))])).get x=some o':=Dz (i:=0) am (by rw[qD (qH a8)];exact ap) rfl;have g0:(Ak E H S).get x=some u:=by rw[ai];exact a7
  rw[g1] at g0;rw[g2];exact g0
 .rw [aq] at e;cases e
end
theorem OF{E H:LH}{S:List Seg}{bks:List Nat}{bk o:Nat}{l ws:Lv_}{e:TypeId}{f:Nat×Nat}{w:Value}(j:Nat)(K:Au E H S)(O:S[j]?=some [(bk,.cells (l++ws).toArray e f)])(U:Az bks bk=true)(Y:∀x o,(BA (Az bks) (Ak E H S)).E x=some o->s'.E x=some o)(Z:ws[o]?=some w):s'.cell? ⟨bk,l.length+o,none⟩=some w:=by
 have:=UI j K O U Y o w Z
 rwa[Et rfl] at this
variable {B:List (Nat×Obj)}
variable{ats:Array TypeId}{a ax:Option Addr}{cx l sz:Nat}{z:Value}
section
variable {e:TypeId}
theorem Tf{c2 m:Nat}{xs ys:Lv_}{Q:Value->St->Prop}{X:Halt->St->Prop}
  (ay:ats[0]?=some t) {t1 az:TypeId}(a0:ats[1]?=some t1) (a1:P.underlying t1=some (.slice az)) (a2:P.underlying t=some (.slice e)) (a3:Bz P e=some sz) (hb:F6 P e=some c2) (a4:zeroOf P e=some z) (a5:z.cells.size=sz)
  (a6:Nd E H B) (ag:IA (mk E H B) (.slice a l l) sz xs)
  (Y:IA (mk E H B) (.slice ax m cx) sz ys) (bv:∀w∈ys,CM w=true) (bw:0<c2) (bx:l+m<=2^40) (a7:c2<=64)
  (av:m=0->Q (.slice a (l+m) l) (mk E H B))
  (a8:∀r Z ai,l+m<=ai->Z.size=ai*sz->Z.toList.take ((l+m)*sz)=xs++ys->Nd E H (B++ [(r,.cells Z e (0,0))])->Q (.slice (some ⟨r,0,none⟩) (l+m) ai) (mk E H (B++ [(r,.cells Z e (0,0))]))):
  lp P (Builtin.append_ ats ty #[.slice a l l,.slice ax m cx]) (mk E H B) Q X:=by
 unfold Builtin.append_;simp only[ay,a0,qE,ri,rF];refine AA _ _ (CE a2 ?_);refine AA _ _ (FA a3 ?_);refine AA _ _ (CE a1 ?_);simp only[IN,qe,qY,Builtin.lenOf,uh,q1];have ac:ys.length=m*sz:=by
  cases ax with
  | none=>obtain⟨O,U⟩:=Y;subst O U;simp
  | some ad=>exact Y.2.1
 have al:xs.length=l*sz:=by
  cases a with
  | none=>obtain⟨O,U⟩:=ag;subst O U;simp
  | some ad=>exact ag.2.1
 obtain⟨c,bz⟩:∃c,c=l:=⟨_,V⟩;split
 .rename_i b0;have hm:m=0:=by omega
  have a9:ys=[]:=qx (by rw[ac,hm];simp);refine AA _ _ (Lm ⟨ax,cx,V⟩ Y ?_);subst a9;cases a with
  | none=>exact av hm
  | some ad=>exact av hm
 .rename_i b1;have O:¬(((l+m:Nat):Int)>IntKind.i64.max/\(False∨c2=0)):=by rintro⟨_,h | h⟩<;>omega
  have U:¬(Builtin.nextslicecap (l+m) l*c2>2^48):=by
   have:=TN (need:=l+m) (old:=l) (by omega);have b2:Builtin.nextslicecap (l+m) l*c2<=(2*(l+m)+768)*64:=Nat.mul_le_mul this a7;omega
  let⟨inf,am,ap⟩:=QY hb;refine AA _ _ (Lo am ?_);rw[ap,d9 O];refine AA _ _ (Lo am ?_);rw[ap,d9 U];refine AA _ _ ?_;simp only[choose,lp,Question.forced,qe,qY];refine⟨V,λbb=>?_⟩;generalize be:(Question.appendCap (l+m) l e).cut bb=aq;have bi:l+m<=aq:=by rw[← be];simp[Question.cut]
  refine AA _ _ (Lo am ?_);rw[ap];have bn:∀{α:Type}{f:Unit->Sem α}{Q:α->St->Prop},lp P (f ()) (mk E H B) Q X->lp P (askRoom (aq*c2)>>=f) (mk E H B) Q X:=by
   intro α f Q aw;refine AA _ _ ?_;unfold askRoom;split;exact⟨.inl ⟨V,V⟩,aw⟩;exact aw
  refine bn (AA _ _ (Lm ⟨a,l,V⟩ ag ?_));refine AA _ _ (Lm ⟨ax,cx,V⟩ Y ?_);refine AA _ _ (Ik a4 ?_);refine AA _ _ (Ka a6 λr bo=>?_);refine a8 r _ aq bi ?_ ?_ bo;simp only[Array.size_append,r7,S7,a5,al,ac];rw[← r4,← r4];congr 1;omega;simp only[Array.toList_append];rw[tD (by simp[al,ac,r4])];rw[rj (by simp[al,ac,r4])]
end
variable{α:Type}{c:Nat}
theorem Ao.spot{pp:Rp α}{E:LH}{xs:List α}(h:Ao pp E a c xs):∀ad,a=some ad->ad.spot=none∨c=0:=λad K=>by
 rcases h.2 with⟨_,h⟩ | ⟨bk,off,h,_⟩;exact h ad K;rw[h] at K;cases K;exact .inl rfl
theorem Ao.full{pp:Rp α}{E:LH}{xs:List α}(h:Ao pp E a c xs):Ao pp E a xs.length xs:=⟨oU _,h.2.imp (λ⟨h,_⟩=>⟨h,λ_ _=>.inr (by rw[h];rfl)⟩) id⟩
theorem Ao.Ny{pp:Rp α}{E H:LH}{B:List (Nat×Obj)}{ys:List α}(ac:Ao pp E a c ys):
  ∃K:List (Lv_),K.length=ys.length/\(∀(i:Nat) x ws,ys[i]?=some x->K[i]?=some ws->pp.r E ws x)/\IA (mk E H B) (.slice a ys.length c) pp.n K.flatten/\∀w∈K.flatten,CM w=true:=by
 obtain⟨K,U,Z,Y⟩:=ac.rows;have ag:=IW U Z;refine⟨K,U,Z,?_,λw hw=>?_⟩
 .rcases Y with⟨Y,av⟩ | ⟨bk,off,rfl,Y⟩
  .subst Y;have:K=[]:=qx U;subst this;cases a with
   | none=>exact⟨rfl,rfl⟩
   | some ad=>exact⟨.inr rfl,by simp,qV _,λq w O=>by simp at O⟩
  .refine⟨.inl V,by rw[M8 ag,U],ac.1,λq w O=>?_⟩;let⟨ai,m,ws,al,e2,am⟩:=QL ag O;have:=(Y ai ws al).cell (H:=H) (B:=B) e2;subst am;rw[← sr];exact this
 .let⟨us,ap,hw⟩:=sa.1 hw;let⟨q,O⟩:=qF.1 ap;have aq:q<ys.length:=by rw[← U];exact(d0.1 O).1
  exact pp.one (Z q _ us (d6 aq) O) w hw
variable {E':LH}
variable {z1:Operand}{rest:List Nat}{ρ:Operand->Value}
section
variable {b:Frame}
variable {x y:Operand}{e:TypeId}{i:Nat}
theorem TJ(K:∀ad,a=some ad->ad.spot=none∨c=0)(O:l<=c)(U:P.underlying t=some (.slice e))(Y:Bz P e=some sz)(Z:ρ x=.slice a l c)(ac:ρ y=iV (l:Int))(ag:ρ z1=iV (l:Int)):
  Yl P ⟨d,.slice t x none (some y) (some z1),ty,p,af,g⟩ ρ s (.slice a l l):=by
 have h:=Yl.slice (P:=P) (s:=s) (d:=d) (ty:=ty) (p:=p) (af:=af) (g:=g) (olo:=none) (ohi:=some y) (omx:=some z1) (lo:=0) (hi:=l) (mx:=l) U Y Z ag ac V O (oU _) (qV _);have ai:(if l=0 then a else a.map (·.add (0*sz)))=a:=by
  split;rfl
  .cases a with
   | none=>rfl
   | some ad=>
    have:=(K ad rfl).resolve_right (by omega);simp only[ra,se];rw[Et this];obtain⟨b,o,sp⟩:=ad;simp only at this;subst this;simp
 rw[ai] at h;simpa using h
theorem Yq{pp:Rp α}{t1:TypeId}{Y:Nat}{xs ys Z:List α}(U:Ds xs ys=some Z)
  (av:ops[i]?=some ⟨d,.call ⟨.builtin .append,#[x,y],ats⟩,ty,p,af,g⟩) (hw:AY L ops ⟨d,.call ⟨.builtin .append,#[x,y],ats⟩,ty,p,af,g⟩=some true) (aw:BX b n ⟨d,.call ⟨.builtin .append,#[x,y],ats⟩,ty,p,af,g⟩=true)
  (ay:ev L x=some (.slice a xs.length xs.length)) (az:ev L y=some (.slice ax ys.length cx)) (a0:ats[0]?=some t) (a1:ats[1]?=some t1) (a2:P.underlying t=some (.slice e)) (a3:P.underlying t1=some (.slice e)) (a4:Bz P e=some pp.n) (hb:F6 P e=some Y) (a5:zeroOf P e=some z) (a6:z.cells.size=pp.n)
  (a7:0<Y) (a8:Y<=64) (ac:Ao pp E a c xs) (a9:Ao pp E ax cx ys) (ag:Au E H S)
  (h:∀E' ai K,Le E E'->Ao pp E' ai K Z->Au E' H (S++ [[]])->JL J Q b n (AB L d (.slice ai Z.length K)) ds (.inRegion ops rest::k) cs (Ak E' H (S++ [[]]))):
  JL J Q b n L ds (.inRegion ops (i::rest)::k) cs (Ak E H S):=by
 unfold Ds at U;split at U
 rotate_left
 .cases U
 rename_i bb;cases U;let⟨wss,al,be,bi,ce⟩:=Ao.Ny (H:=H) (B:=S.flatten) ac.full;let⟨bn,bo,bv,bw,bx⟩:=Ao.Ny (H:=H) (B:=S.flatten) a9;have hlen:(xs++ys).length=xs.length+ys.length:=by simp
 show JL J Q b n L ds (.inRegion ops (i::rest)::k) cs (mk E H S.flatten);refine JL.op av hw aw λρ am=>?_;rw[M7,am x _ ay,am y _ az];refine AA _ _ (Tf a0 a1 a3 a2 a4 hb a5 a6 ag bi bw bx a7 bb a8 ?_ ?_)
 .intro hm;have bz:ys=[]:=qx hm;subst bz;have b0:Au E H (S++ [[]]):=by unfold Au at*;rw[Gh,qk];exact ag
  have b1:mk E H S.flatten=Ak E H (S++ [[]]):=by unfold Ak;rw[Gh,qk]
  rw[b1];have:=h E a xs.length (Le.refl _) (by rw[qk];exact ac.full) b0;rw[hlen] at this;exact this
 .intro r O K b2 b3 b4 b5;have b6:OL e pp E (some ⟨r,0,none⟩) K [(r,.cells O e (0,0))] (xs++ys):=
   ⟨wss++bn,.inr ⟨r,O,rfl,rfl,b3,by rw[hlen];exact b2,by rw[hlen,ru];exact b4.symm⟩,by simp[al,bo],Oz al be bv⟩
  have ap:=F2 (S:=S) (seg:=[(r,.cells O e (0,0))]) b5;show JL J Q b n _ ds _ cs (mk E H (S.flatten++ [(r,.cells O e (0,0))]));rw[ap.1];refine Cp S.length b6 ap.2 (by simp) λE' hle ca aq=>?_;have cc:(S++ [[(r,Obj.cells O e (0,0))]]).set S.length []=S++ [[]]:=HO _ _ _ _;rw[cc] at aq ⊢;have:=h E' (some ⟨r,0,none⟩) K hle ca aq;rw[hlen] at this;exact this
end
open Go.ConcN (sumTo sumTo_upd upd upd_ne upd_same)
def Nr(P:Program)(R:Value->St->Prop):GP:=λg s=>
 g.status=.running/\∃v,R v s/\∀w,stepG P true g w=.ended (.done v) w #[]
variable {R:Value->St->Prop}
section
variable {b:Frame}
theorem JO.end{fn:Func}{t:Tmp}{v:Value}(K:b.kind=.normal)(hi:P.inits.idxOf? b.fn=none)(O:P.funcs[b.fn]?=some fn)(U:fn.results=#[.tmp t])(Y:look L t=some v)(Z:R v s):JO J (Nr P R) b n L [] [] s:=λT ac todo=>by
 refine J.stop ⟨rfl,v,Z,λw=>?_⟩
 have e:results fn T=Sem.pure v:=by
  have:=ac.at_ t v Y;simp only[results,U,rY];show Sem.pure (T.getD t undef)=_;rw[this]
 have ag:(results fn T).run P w=.ok v w:=by rw[e];rfl
 have e2:(results fn T).events P w #[]=#[]:=by rw[e];simp[Sem.events_pure']
 simp[G,stepG,unwind,EP,O,ag,e2,doReturn,K,GStep.after,hi,seen_none]
end
def After(P:Program)(R:Value->St->Prop)(K:World)(s₀:St)(v:Value)(w':World):Prop:=
 ∃s,R v s/\Fits s w'/\(∀b o,s₀.E b=some o->s.E b=some o)/\w'.tape=K.tape/\G2 K.os w'.os/\w'.output=K.output
def SD(P:Program)(R:Value->St->Prop)(K:World)(s₀:St)(O:Nat)(m:Machine)(t:Trace):Prop:=
 ∃gs w sl q Sh g s,m=crowd gs w sl/\H6 P gs w t q Sh g s/\Nr P R g s/\O=sumTo gs.size q/\(∀b o,s₀.E b=some o->s.E b=some o)/\w.tape=K.tape/\G2 K.os w.os/\w.output=K.output
theorem bM{am:World}{s₀:St}(aw:Nat)(m:Machine)(t:Trace)(h:SD P R am s₀ aw m t):
  (∃o w ops,stepT P m=(.ended o w,ops)/\Good P (After P R am s₀) m o w (t++ops))∨(∃m' ops ay,stepT P m=(.next m',ops)/\ay<aw/\SD P R am s₀ ay m' (t++ops)):=by
 obtain⟨gs,w,sl,q,Sh,g,s,rfl,hC,be,rfl,az,a0,a1,a2⟩:=h;obtain⟨ac,v,a3,a4⟩:=be;have bi:∀x∈gs,awake x:=by
  intro x Y;obtain⟨i,hi,rfl⟩:=tv.1 Y;rcases q9 i with rfl | ap
  .have:gs[0]=g:=by simpa [qB hi] using hC.main
   rw[this];exact awake_of (.inl ac)
  .exact awake_of ((hC.lv.old i _ ap (qB hi)).status.elim .inl λx=>.inr (.inr x))
 let⟨i,x,d,a5,hi,Y,a6⟩:=crowd_pick (P:=P) (w:=w) (sl:=sl) bi ⟨0,g,hC.main,ac⟩;have a7:=hC.at_ d;have bn:0<gs.size:=(f4.1 hC.main).1;have bo:∀(a:Nat) (fn:FuncId) (pos:String),MemOp.ofEvents a fn pos #[]=#[]:=λa fn pos=>by rw[ofEvents_eq];simp
 rcases q9 i with rfl | ap
 .obtain rfl:x=g:=by rw[hC.main] at hi;exact(f6 hi).symm
  have ag:=runT_many_ended (P:=P) (sl:=a5) (i:=0) hi (show stepG P (0==0) x (w.at d)=_ from a4 (w.at d));rw[bo] at ag;refine .inl ⟨_,_,_,a6.trans ag,v,V,⟨s,a3,a7.Cq.fits 0 bn,az,a0,a1,a2⟩,?_,?_,⟨λy K=>?_,V⟩,λj y K O=>?_⟩;simpa using hC.Cq.clean;simpa using hC.over;let⟨j,O⟩:=qF.1 K;rw[tM] at O;exact⟨_,(hC.lv.old (1+j) y (by omega) (by simpa [crowd] using O)).leaves⟩;have Z:=hC.lv.old j y (by omega) K;exact⟨q j,by simp only[tb];exact Z.hears w⟩
 .have Z:=hC.lv.old i x ap hi;have bv:(i==0)=false:=by simp;omega
  have a8:i<gs.size:=(f4.1 hi).1;cases aq:q i with
  | zero=>rw[aq] at Z;rw[Z.1] at Y;cases Y
  | succ k=>
   rw[aq] at Z;rcases Z with⟨bw,_⟩ | ⟨_,x',es,hm,bx,bz⟩;rw[bw] at Y;cases Y
   have b3:sumTo gs.size (upd q i k)+(k+1)=sumTo gs.size q+k:=by
    have:=sumTo_upd q k id a8;simpa [aq] using this
   have ag:=runT_crowd_go (P:=P) (sl:=a5) (i:=i) hi (by rw[bv];exact bx (w.at d));have av:((gs.map (woken P x x' (w.at d))).setIfInBounds i x').size=gs.size:=by simp
   have ai:∀op∈MemOp.ofEvents i x.frame.fn x.frame.place es,op.g=i:=λop U=>by obtain⟨e,_,rfl⟩:=mem_ofEvents U;rfl
   have a9:∀op∈MemOp.ofEvents i x.frame.fn x.frame.place es,op.act.touch?=none:=λop U=>by obtain⟨e,he,rfl⟩:=mem_ofEvents U;exact touch_mute (hm e he)
   have b0:H6 P ((gs.map (woken P x x' (w.at d))).setIfInBounds i x') (w.at d) (t++MemOp.ofEvents i x.frame.fn x.frame.place es) (upd q i k) Sh g s:=by
    refine⟨?_,⟨λj y O K=>?_,λj O=>?_⟩,?_,?_,?_⟩
    .have b1:i≠0:=by omega
     rw[mt b1,rT,hC.main];simp[woken_run ac]
    by_cases al:i=j;subst al;rw[pn (by simpa using a8)] at K;obtain rfl:=f6 K;rw[upd_same,Deaf_own];exact bz;rw[mt al,rT] at K;obtain⟨z,b2,rfl⟩:=qL.1 K;have bb:=hC.lv.old j z O b2;rw[woken_quitsD bb,upd_ne q k (qH al),Deaf_other t al _ ai];exact bb;rw[Deaf_other t (g':=i) (by simp at O;omega) _ ai];exact hC.lv.above j (by simpa using O);rw[av];exact a7.Cq.mute ai a9 (λop U=>by obtain⟨e,he,rfl⟩:=mem_ofEvents U;exact low_mute (hm e he) _) V;exact handedOver_app hC.over λop U=>.inr (a9 op U);rw[Deaf_other t (by omega) _ ai];exact hC.hears
   exact .inr ⟨_,_,_,a6.trans ag,by rw[← av];rw[av];omega,_,_,_,_,_,_,_,V,b0,⟨ac,v,a3,a4⟩,V,az,a0,a1,a2⟩
theorem ends{gs:Array Goroutine}{w:World}{sl:Option (Nat×Nat)}{t:Trace}{q:Nat->Nat}{Sh:Nat->Prop}{g:Goroutine}{s:St}(hC:H6 P gs w t q Sh g s)(O:Nr P R g s):
  ∃N last o w' K,runNT P (N+1) (crowd gs w sl) t=(.ended o w',K)/\runN P N (crowd gs w sl)=.next last/\step P last=.ended o w'/\Good P (After P R w s) last o w' K:=
 run_of_inv Nat.lt_wfRel.wf (SD P R w s) (Good P (After P R w s)) bM _ _ _ ⟨gs,w,sl,q,Sh,g,s,V,hC,O,V,λ_ _ h=>h,V,.refl _,V⟩
theorem Yv{m m':Machine}{t K:Trace}{n:Nat}(h:runNT P n m t=(.next m',K)):runN P n m=.next m':=by rw[← runNT_fst P n m t,h]
def GZ(W:World):St:=⟨λb=>W.heap[b]?,λ_=>none,false⟩
theorem bI{W:World}{g:Goroutine}(h:(Hb P).ok (Nr P R) g (GZ W)):
  ∃M last o w' K,runNT P (M+1) (solo g W) #[]=(.ended o w',K)/\runN P M (solo g W)=.next last/\step P last=.ended o w'/\Good P (After P R W (GZ W)) last o w' K:=by
 have hC:H6 P #[g] W #[] (λ_=>0) (λ_=>False) g (GZ W):=by
  have Y:∀{i:Nat}{a:Touch},touchAt #[] i=some a->False:=λ{i a} h=>by simp[touchAt,Trace.act?] at h
  refine⟨V,leavers_one P g,⟨λi hi=>?_,λi j hi ac be=>by simp at hi ac;omega,λi hi b hb=>hb.elim,λb hb=>hb.elim,λsaid=>?_,by simp,λi _ b _ x a O=>(Y O).elim,λi _ b _ x a O=>(Y O).elim⟩,λi g ag=>by simp[Trace.g?] at ag,V⟩
  .have:i=0:=by simp at hi;exact hi
   subst this;exact⟨λb o U=>U,λb o U=>(by cases U),λb _=>V⟩
  .rintro⟨i,j,_,⟨a,b,ai,_⟩,_⟩;simp[Trace.act?] at ai
 let⟨n,gs',w',al,K,q',bi,g',s',Z,am,ap,aq,av,aw,ay⟩:=h #[g] W none #[] _ _ hC;let⟨N,last,o,az,a0,k1,a2,a3,a4⟩:=ends (sl:=al) am ap;refine⟨n+N,last,o,az,a0,?_,?_,a3,?_⟩;rw[solo_eq_crowd,sr,runNT_add,Z];exact k1;have a5:=Yv Z;rw[solo_eq_crowd,runN_add,a5];exact a2;obtain⟨v,e,⟨s2,a1,a6,a7,a8,a9,bb⟩,r⟩:=a4;exact⟨v,e,⟨s2,a1,a6,λb o hb=>a7 b o (aq b o hb),a8.trans av,aw.trans a9,bb.trans ay⟩,r⟩
end Pal
namespace Pal
open Go Go.Conc
variable{f:FuncId}{fn:Func}{vs:Lv_}
theorem ZC{P:Program}{Q:Gs_}{E H:LH}{c:Code}(U:P.funcs[f]?=some fn)(hb:fn.body=some c)(ag:fn.ntmps=fn.ntmps)(ai:vs.length<=fn.ntmps)
  (h:JL (Hb P) Q (base f) fn.ntmps (GR 0 vs) [] [.code c] [] (Ak E H [[]])):(Hb P).ok Q (G (Frame.enter P f vs.toArray .normal) []) (mk E H []):=by
 have he:Frame.enter P f vs.toArray .normal=fr (base f) (vs.toArray++Array.replicate (fn.ntmps - vs.length) undef) [] [.code c]:=by
  simp[Frame.enter,fr,U,hb,base];rfl
 rw[he];have Y:mk E H []=Ak E H [[]]:=by unfold Ak;simp
 rw[Y];refine h _ ⟨by simp;omega,λt v Z=>?_⟩;let⟨_,K⟩:=KI Z;have ac:t<vs.length:=by
  rcases gD t vs.length with O | O;exact O;simp at K;have:=(d0.1 K).1;omega
 rw[gR,rh (by simpa using ac)];simp at K;simp[K]
def H5(K:Bool)(ws:Lv_):Value:=if K then .agg ws.toArray else ws.headD undef
def Vr{α:Type}(pp:Rp α)(K:Bool)(E:LH)(v:Value)(x:α):Prop:=∃ws,pp.r E ws x/\v=H5 K ws
variable{K:Bool}
theorem Vr.Ah{α:Type}{pp:Rp α}{E E':LH}{v:Value}{x:α}(h:Vr pp K E v x)(hle:Le E E'):Vr pp K E' v x:=
 let ⟨ws,O,U⟩:=h;⟨ws,pp.Ah hle O,U⟩
structure Hg (P:Program) (t:TypeId) {κ:Type} [DecidableEq κ] (pk:Rp κ) (ka:Bool):Prop where
 BX:∀{em:Bool}{E:LH}{v:Value}{x:κ}{s:St}{Q:Unit->St->Prop}{X:Halt->St->Prop},Vr pk ka E v x->Q () s->lp P (Instr.checkKey em 10000 t v) s Q X
 kind:∃kd,P.underlying t=some kd/\((∀v w,Instr.sameNow kd v w=none)∨∀{E:LH}{v w:Value}{x y:κ},Vr pk ka E v x->Vr pk ka E w y->Instr.sameNow kd v w=some (decide (x=y)))
 eq:∀{E:LH}{v w:Value}{x y:κ}{s:St}{Q:Bool->St->Prop}{X:Halt->St->Prop},Vr pk ka E v x->Vr pk ka E w y->Q (decide (x=y)) s->lp P (Op.equal t v w) s Q X
 same:∀{E:LH}{v:Value}{x:κ},Vr pk ka E v x->Instr.sameBits 10000 v v=true
 uniq:∀{E:LH}{v w:Value}{x:κ},Vr pk ka E v x->Vr pk ka E w x->v=w
variable {κ ν:Type}{pk:Rp κ}{pv:Rp ν}{ka va:Bool}{E E':LH}
variable {P:Program}{s:St}{t tm te:TypeId}{X:Halt->St->Prop}
section
variable [DecidableEq κ]
def Ey(pk:Rp κ)(ka:Bool)(pv:Rp ν)(va:Bool)(E:LH):List MapEntry->List (κ×ν)->Prop
 | [],[]=>True
 | e::es,x::xs=>Vr pk ka E e.key x.1/\Vr pv va E e.val x.2/\Ey pk ka pv va E es xs
 | _,_=>False
theorem Ey.Ah(hle:Le E E'):∀{es:List MapEntry}{xs:List (κ×ν)},Ey pk ka pv va E es xs->Ey pk ka pv va E' es xs
 | [],[],_=>trivial
 | e::es,x::xs,h=>⟨h.1.Ah hle,h.2.1.Ah hle,Ey.Ah hle h.2.2⟩
 | [],_::_,h=>h.elim
 | _::_,[],h=>h.elim
theorem Ey.len:∀{es:List MapEntry}{xs:List (κ×ν)},Ey pk ka pv va E es xs->es.length=xs.length
 | [],[],_=>rfl
 | e::es,x::xs,h=>by simp[Ey.len h.2.2]
 | [],_::_,h=>h.elim
 | _::_,[],h=>h.elim
def G1(x:κ):List MapEntry->List (κ×ν)->Nat->Option (Nat×Value)
 | e::es,y::ys,i=>if x=y.1 then some (i,e.val) else G1 x es ys (i+1)
 | _,_,_=>none
def Bh(xs:List (κ×ν))(x:κ):Option ν:=(xs.find? λy=>decide (x=y.1)).map (·.2)
def Ck(xs:List (κ×ν))(x:κ)(v:ν):List (κ×ν):=match xs with
 | []=>[(x,v)]
 | y::ys=>if x=y.1 then(x,v)::ys else y::Ck ys x v
theorem Vt{x:κ}:∀{es:List MapEntry}{xs:List (κ×ν)}{i:Nat},Ey pk ka pv va E es xs->(G1 x es xs i=none/\Bh xs x=none)∨∃j w v0,G1 x es xs i=some (j,w)/\Bh xs x=some v0/\Vr pv va E w v0
 | [],[],i,_=>.inl ⟨rfl,rfl⟩
 | e::es,y::ys,i,h=>by
  unfold G1 Bh
  by_cases K:x=y.1;exact .inr ⟨i,e.val,y.2,by rw[d7 K],by simp[K],h.2.1⟩;rcases Vt (x:=x) (i:=i+1) h.2.2 with⟨O,U⟩ | ⟨j,w,v0,O,U,Y⟩;exact .inl ⟨by rw[d9 K];exact O,by simpa [K,Bh] using U⟩;exact .inr ⟨j,w,v0,by rw[d9 K];exact O,by simpa [K,Bh] using U,Y⟩
 | [],_::_,_,h=>h.elim
 | _::_,[],_,h=>h.elim
theorem Ey.put{x:κ}{v0:ν}{O w:Value}(U:Vr pk ka E O x)(hw:Vr pv va E w v0)(Z:Nat):∀{es:List MapEntry}{xs:List (κ×ν)}{i:Nat},Ey pk ka pv va E es xs->
  (G1 x es xs i=none/\Ey pk ka pv va E (es++ [{key:=O,val:=w,born:=Z}]) (Ck xs x v0))∨
  ∃j u,G1 x es xs i=some (i+j,u)/\j<es.length/\(∀e,es[j]?=some e->Vr pk ka E e.key x)/\Ey pk ka pv va E (es.modify j λe=>{e with key:=O,val:=w}) (Ck xs x v0)
 | [],[],i,_=>.inl ⟨rfl,U,hw,trivial⟩
 | e::es,y::ys,i,h=>by
  unfold G1 Ck
  by_cases K:x=y.1;refine .inr ⟨0,e.val,by rw[d7 K];rfl,by simp,λac he=>?_,?_⟩;simp at he;subst he;rw[K];exact h.1;rw[d7 K];exact⟨U,hw,h.2.2⟩;rcases Ey.put U hw Z (i:=i+1) h.2.2 with⟨Y,ag⟩ | ⟨j,u,Y,ag,ai,al⟩;exact .inl ⟨by rw[d9 K];exact Y,by rw[d9 K];exact⟨h.1,h.2.1,ag⟩⟩;refine .inr ⟨j+1,u,by rw[d9 K,Y];congr 2;omega,by simp;omega,λac he=>ai ac (by simpa using he),?_⟩;rw[d9 K];exact⟨h.1,h.2.1,al⟩
 | [],_::_,_,h=>h.elim
 | _::_,[],_,h=>h.elim
def LW(pk:Rp κ)(ka:Bool)(pv:Rp ν)(va:Bool)(E:LH)(o:Obj)(xs:List (κ×ν)):Prop:=
 ∃es clock,o=.map es clock/\Ey pk ka pv va E es.toList xs/\(es.toList.map (·.born)).Pairwise (·<·)/\∀e∈es.toList,e.born<clock
theorem LW.Ah{o:Obj}{xs:List (κ×ν)}(h:LW pk ka pv va E o xs)(hle:Le E E'):LW pk ka pv va E' o xs:=
 let ⟨es,c,K,O,U⟩:=h;⟨es,c,K,O.Ah hle,U⟩
theorem Td(U:Hg P t pk ka){k:Value}{x:κ}(Y:Vr pk ka E k x){Q:Option (Nat×Value)->St->Prop}:∀{es:List MapEntry}{xs:List (κ×ν)}{i:Nat},Ey pk ka pv va E es xs->Q (G1 x es xs i) s->lp P (Instr.findAsking t k es i) s Q X
 | [],[],i,_,h=>h
 | e::es,y::ys,i,h,K=>by
  unfold Instr.findAsking
  refine AA _ _ (U.eq Y h.1 ?_)
  unfold G1 at K
  by_cases O:x=y.1
  .rw [rg O]
   rw[d7 O] at K;exact K
  .rw [qQ O];rw[d9 O] at K;exact Td U Y h.2.2 K
 | [],_::_,_,h,_=>h.elim
 | _::_,[],_,h,_=>h.elim
theorem Tw{kd:TypeDesc}{k:Value}{x:κ}(O:Vr pk ka E k x)(U:∀{E:LH}{v w:Value}{x y:κ},Vr pk ka E v x->Vr pk ka E w y->Instr.sameNow kd v w=some (decide (x=y))):∀{es:List MapEntry}{xs:List (κ×ν)}{i:Nat},Ey pk ka pv va E es xs->Instr.findNow kd k es i=some (G1 x es xs i)
 | [],[],i,_=>rfl
 | e::es,y::ys,i,h=>by
  unfold Instr.findNow G1
  rw[U O h.1]
  by_cases K:x=y.1;simp[K];simp only[qQ K,d9 K];exact Tw O U h.2.2
 | [],_::_,_,h=>h.elim
 | _::_,[],_,h=>h.elim
theorem QR(O:Hg P t pk ka){k:Value}{x:κ}(U:Vr pk ka E k x){Q:Option (Nat×Value)->St->Prop}{es:List MapEntry}{xs:List (κ×ν)}(h:Ey pk ka pv va E es xs)(K:Q (G1 x es xs 0) s):lp P (Instr.findKey t k es) s Q X:=by
 unfold Instr.findKey;obtain⟨kd,Y,Z | ac⟩:=O.kind
 .refine AA _ _ (CE Y ?_);cases es with
  | nil=>
   cases xs with
   | nil=>exact K
   | cons y ys=>exact h.elim
  | cons e es=>
   have ag:Instr.findNow kd k (e::es) 0=none:=by unfold Instr.findNow;rw[Z]
   rw[ag];exact Td O U h K
 .refine AA _ _ (CE Y ?_);rw[Tw U ac h];exact K
theorem Y4(O:Hg P t pk ka)(hm:P.underlying tm=some (.map t te)){z:Value}{z0:ν}(Z:zeroOf P te=some z)(ac:Vr pv va E z z0){bk:Nat}{o:Obj}{xs:List (κ×ν)}{k:Value}{x:κ}(ag:s.get bk=some o)(ai:LW pk ka pv va E o xs)(U:Vr pk ka E k x)(ok:Bool){Q:Value->St->Prop}
  (h:∀w,Vr pv va E w ((Bh xs x).getD z0)->Q (if ok then .tuple #[w,.bool (Bh xs x).isSome] else w) s):lp P (Instr.lookup tm (.map (some bk)) k ok) s Q X:=by
 obtain⟨es,c,rfl,Y,am,ap⟩:=ai;unfold Instr.lookup;refine AA _ _ (CE hm ?_);refine AA _ _ ?_;unfold getObj;simp only[bind,Sem.bind,lp];refine⟨_,ag,V,?_⟩;refine AA (x:=Instr.checkKey _ 10000 t k) _ (O.BX U ?_);refine AA (x:=Instr.findKey t k es.toList) _ (QR O U Y ?_);rcases Vt (x:=x) (i:=0) Y with⟨K,e2⟩ | ⟨j,w,v0,K,e2,al⟩;rw[K];simp only;refine AA (x:=zeroValue te) _ (Ik Z ?_);have:=h z (by rw[e2];exact ac);rw[e2] at this;exact this;rw[K];have:=h w (by rw[e2];exact al);rw[e2] at this;exact this
theorem XV(O:Hg P t pk ka)(hm:P.underlying tm=some (.map t te)){bk:Nat}{o:Obj}{xs:List (κ×ν)}{k w:Value}{x:κ}{v0:ν}(al:s.get bk=some o)(Z:s.H bk=some o)(am:LW pk ka pv va E o xs)(K:Vr pk ka E k x)(hw:Vr pv va E w v0){Q:Unit->St->Prop}
  (h:∀o',LW pk ka pv va E o' (Ck xs x v0)->Q () (s.upd bk o')):lp P (Instr.mapUpdate tm (.map (some bk)) k w) s Q X:=by
 obtain⟨es,c,rfl,ac,ag,U⟩:=am;unfold Instr.mapUpdate;refine AA _ _ (CE hm ?_);unfold getObj;simp only[bind,Sem.bind,lp];refine⟨_,al,V,?_⟩;refine AA (x:=Instr.checkKey false 10000 t k) _ (O.BX K ?_);refine AA (x:=Instr.findKey t k es.toList) _ (QR O K ac ?_);rcases Ey.put K hw c (i:=0) ac with⟨Y,e2⟩ | ⟨j,u,Y,e2,ap,aq⟩;rw[Y];simp only[setObj,lp];refine⟨⟨_,Z,V⟩,V,h _ ⟨es.push {key:=k,val:=w,born:=c},c+1,V,by simpa using e2,?_,?_⟩⟩;rw[Array.toList_push,qN,uo];refine⟨ag,by simp,λa av b hb=>?_⟩;simp at hb;subst hb;obtain⟨e,he,rfl⟩:=qK.1 av;exact U e he;intro e he;rw[Array.toList_push] at he;rcases gM.1 he with he | he;have:=U e he;omega;simp at he;subst he;simp
 .rw [Y];have ai:es[j]?=some (es[j]'(by simpa using e2)):=qB (by simpa using e2);have aw:(es[j]'(by simpa using e2)).key=k:=O.uniq (ap _ (by rw[qU];exact ai)) K;simp only[rO,ai,ra,Option.getD_some,aw];refine AA (x:=Instr.keyThatStays k k) _ ?_;unfold Instr.keyThatStays;rw[d7 (O.same K)];simp only[lp,pure,setObj];refine⟨⟨_,Z,V⟩,V,h _ ⟨_,c,V,by simpa using aq,?_,?_⟩⟩
  .have:(es.modify j λe=>{e with key:=k,val:=w}).toList.map (·.born)=es.toList.map (·.born):=by
    rw[Array.toList_modify];apply q3;intro q;simp only[qI,List.getElem?_modify];split<;>cases es.toList[q]?<;>rfl
   rw[this];exact ag
  .intro e he;rw[Array.toList_modify] at he;obtain⟨q,ay,rfl⟩:=uq.1 he;rw[List.getElem_modify];have az:q<es.toList.length:=by simpa using ay
   split;show(es.toList[q]'az).born<c;exact U _ (j9 _);exact U _ (j9 _)
end
variable{us:Lv_}
theorem Vz{l r:Lv_}:∀j w,us[j]?=some w->(l++us++r).toArray[l.length+j]?=some w:=λj w h=>by
 have K:j<us.length:=(d0.1 h).1
 rw[qE,pE,nL (by omega),show l.length+j - l.length=j by omega,p8 K]
 exact h
variable{off:Nat}{O:Bool}
section
variable {e:TypeId}
theorem Mn{c:Av_}(Y:DY P e=some O)(Z:Bz P e=some us.length)(ac:O=false->us.length=1)(hw:∀j w,us[j]?=some w->c[off+j]?=some w)
  {Q:Value->St->Prop}(k:Q (H5 O us) s):lp P (Go.part e c off) s Q X:=by
 unfold Go.part;refine AA (x:=isAgg e) _ (OI Y ?_);cases O with
 | true=>
  simp only[q1];refine AA (x:=Go.sizeOf e) _ (FA Z ?_);have ag:c.extract off (off+us.length)=us.toArray:=by
   apply q8;intro j;by_cases U:j<us.length;have K:=hw j us[j] (d6 U);have ai:off+j<c.size:=(f4.1 K).1;simp only[tq];rw[d7 (by omega),K];simp[U];simp only[tq];rw[d9 (by omega)];simp;omega
  show Q (.agg (c.extract off (off+us.length))) s;rw[ag];exact k
 | false=>
  obtain⟨w,rfl⟩:∃w,us=[w]:=by
   match us,ac rfl with
   | [w],_=>exact⟨w,rfl⟩
  have K:=hw 0 w V;rw[re] at K;simp only[qe,qY,K];exact k
end
structure Cm (P:Program) (t:TypeId) {α:Type} [DecidableEq α] (pp:Rp α) (K:Bool) (dep:Nat):Prop where
 agg:DY P t=some K
 size:Bz P t=some pp.n
 one:K=false->pp.n=1
 eq:∀{n:Nat}{E E':LH}{ws ws':Lv_}{x y:α}{s:St}{Q:Bool->St->Prop}{X:Halt->St->Prop},dep<=n->pp.r E ws x->pp.r E' ws' y->Q (decide (x=y)) s->lp P (Op.equalIn n t (H5 K ws) (H5 K ws')) s Q X
 BX:∀{n:Nat}{em:Bool}{E:LH}{ws:Lv_}{x:α}{s:St}{Q:Unit->St->Prop}{X:Halt->St->Prop},dep<=n->pp.r E ws x->Q () s->lp P (Instr.checkKey em n t (H5 K ws)) s Q X
 uniq:∀{E E':LH}{ws ws':Lv_}{x:α},pp.r E ws x->pp.r E' ws' x->ws=ws'
 same:∀{E:LH}{ws:Lv_}{x:α},pp.r E ws x->∀w∈ws,∀m,Instr.sameBits (m+1) w w=true
 now:∃kd,P.underlying t=some kd/\((∀v w,Instr.sameNow kd v w=none)∨∀{E E':LH}{ws ws':Lv_}{x y:α},pp.r E ws x->pp.r E' ws' y->Instr.sameNow kd (H5 K ws) (H5 K ws')=some (decide (x=y)))
variable {ρ:Operand->Value}{d:Option Tmp}{u ty:TypeId}{p:String}{af:Ae_}{g:On_}{ws ws':Lv_}
variable{U dep:Nat}{cx:Av_}{β:Type}{a1:Bool}{f1 f2:Field}
section
variable {e:TypeId}
theorem Cm.int{kd:IntKind}(U:P.underlying t=some (.int kd))(Y:Bz P t=some 1):Cm P t (rK kd) false 1 where
 agg:=by unfold DY;rw[U]
 size:=Y
 one _:=rfl
 eq {n E E' ws ws' x y s Q X} Z K O k:=by
  obtain⟨m,rfl⟩:∃m,n=m+1:=⟨n - 1,by omega⟩;have K:ws=[.int kd x]:=K;have O:ws'=[.int kd y]:=O;subst K O;refine Wq U ?_;have e:(x==y)=decide (x=y):=by by_cases h:x=y<;>simp[h]
  rw[e];exact k
 BX {n em E ws x s Q X} Z K k:=by
  obtain⟨m,rfl⟩:∃m,n=m+1:=⟨n - 1,by omega⟩;have K:ws=[.int kd x]:=K;subst K;unfold Instr.checkKey;refine AA _ _ (CE U ?_);exact k
 uniq K O:=by
  have K:_=[Value.int kd _]:=K;have O:_=[Value.int kd _]:=O;rw[K,O]
 same {E ws x} h w hw m:=by
  have h:ws=[Value.int kd x]:=h;subst h;simp at hw;subst hw;simp[Instr.sameBits]
 now:=⟨_,U,.inr λ{E E' ws ws' x y} K O=>by
  have K:ws=[.int kd x]:=K
  have O:ws'=[.int kd y]:=O
  subst K O
  have e:(x==y)=decide (x=y):=by by_cases h:x=y<;>simp[h]
  show(if kd=kd then some (x==y) else none)=_
  rw[d7 rfl,e]⟩
theorem Cm.nat{kd:IntKind}(U:P.underlying t=some (.int kd))(Z:Bz P t=some 1):Cm P t (rN kd) false 1 where
 agg:=by unfold DY;rw[U]
 size:=Z
 one _:=rfl
 eq {n E E' ws ws' x y s Q X} ac K O k:=by
  obtain⟨m,rfl⟩:∃m,n=m+1:=⟨n - 1,by omega⟩;have K:ws=[.int kd ((x:Nat):Int)]:=K;have O:ws'=[.int kd ((y:Nat):Int)]:=O;subst K O;refine Wq U ?_;have e:((x:Int)==(y:Int))=decide (x=y):=by
   by_cases h:x=y;simp[h]
   .have Y:¬(x:Int)=(y:Int):=by omega
    simp[h,Y]
  rw[e];exact k
 BX {n em E ws x s Q X} ac K k:=by
  obtain⟨m,rfl⟩:∃m,n=m+1:=⟨n - 1,by omega⟩;have K:ws=[.int kd ((x:Nat):Int)]:=K;subst K;unfold Instr.checkKey;refine AA _ _ (CE U ?_);exact k
 uniq K O:=by
  have K:_=[Value.int kd _]:=K;have O:_=[Value.int kd _]:=O;rw[K,O]
 same {E ws x} h w hw m:=by
  have h:ws=[Value.int kd ((x:Nat):Int)]:=h;subst h;simp at hw;subst hw;simp[Instr.sameBits]
 now:=⟨_,U,.inr λ{E E' ws ws' x y} K O=>by
  have K:ws=[.int kd ((x:Nat):Int)]:=K
  have O:ws'=[.int kd ((y:Nat):Int)]:=O
  subst K O
  have e:((x:Int)==(y:Int))=decide (x=y):=by
   by_cases h:x=y;simp[h]
   .have Y:¬(x:Int)=(y:Int):=by omega
    simp[h,Y]
  show(if kd=kd then some ((x:Int)==(y:Int)) else none)=_
  rw[d7 rfl,e]⟩
theorem Cm.up{α:Type} [DecidableEq α] {pp:Rp α}(h:Cm P t pp O dep)(hd:dep<=U):Cm P t pp O U:=
 ⟨h.agg,h.size,h.one,λK=>h.eq (qW hd K),λK=>h.BX (qW hd K),h.uniq,h.same,h.now⟩
theorem RE{α:Type}{kk:Nat}{pp:Rp α}{E:LH}{ws:Lv_}{xs:List α}(K:(rA kk pp).r E ws xs){i:Nat}(hi:i<kk):∃x us,xs[i]?=some x/\pp.r E us x/\us.length=pp.n/\∀j w,us[j]?=some w->ws.toArray[i*pp.n+j]?=some w:=by
 have O:xs[i]?=some (xs[i]'(by rw[K.1];exact hi)):=d6 (by rw[K.1];exact hi);have Y:ix xs (i:Int)=some (xs[i]'(by rw[K.1];exact hi)):=by unfold ix;rw[d7 (by omega)];simpa using O
 let⟨us,U,_,_,Z⟩:=Ip (m:=(i:Int)) K Y;exact⟨_,us,O,U,pp.len U,λj w ac=>by have:=Z j w ac;rw[qE];simpa using this⟩
theorem Cm.arr{α:Type} [DecidableEq α] {pp:Rp α}{a5:Bool}{kk:Nat}(h:Cm P e pp a5 dep)(Z:P.underlying t=some (.array kk e))(a6:Bz P t=some (kk*pp.n)):Cm P t (rA kk pp) true (dep+1) where
 agg:=by unfold DY;rw[Z]
 size:=a6
 one:=λh=>by cases h
 eq {n E E' ws ws' xs ys s Q X} a7 ac az k:=by
  obtain⟨n,rfl⟩:∃m,n=m+1:=⟨n - 1,by omega⟩;have bw:=ac.1;have bx:=az.1;unfold Op.equalIn;refine AA _ _ (CE Z ?_);refine AA (x:=Go.sizeOf e) _ (FA h.size ?_);simp only[H5,q1];simp only[s4,Std.Legacy.Range.size,sg,Nat.add_one_sub_one,Nat.div_one];let bd:Nat->Option Bool×Unit->Sem (ForInStep (Option Bool×Unit)):=λi _=>do
   if !(← Op.equalIn n e (← Go.part e ws.toArray (i*pp.n)) (← Go.part e ws'.toArray (i*pp.n))) then pure (ForInStep.done (some false,())) else pure (ForInStep.yield (none,()))
  have key:∀(m st:Nat),st+m=kk->(∀i,i<st->xs[i]?=ys[i]?)->∀{K:Option Bool×Unit->St->Prop},K (if xs=ys then(none,()) else(some false,())) s->lp P (forIn (List.range' st m) (none,()) bd:Sem _) s K X:=by
   intro m
   induction m with
   | zero=>
    intro st ai al K O;have U:xs=ys:=by
     apply q3;intro i;rcases gD i st with hi | hi;exact al i hi;rw[qy (by omega),qy (by omega)]
    rw[d7 U] at O;simp only[List.range'_zero,sU];exact O
   | succ m am=>
    intro st ai al K O;simp only[List.range'_succ,sN];obtain⟨a,us,ag,ap,Y,aq⟩:=RE ac (i:=st) (by omega);obtain⟨c,bz,av,a8,a0,a9⟩:=RE az (i:=st) (by omega);refine AA _ _ (AA _ _ (Mn h.agg (by rw[Y];exact h.size) (λq=>by rw[Y];exact h.one q) aq ?_));refine AA _ _ (Mn h.agg (by rw[a0];exact h.size) (λq=>by rw[a0];exact h.one q) a9 ?_);refine AA _ _ (h.eq (by omega) ap a8 ?_);by_cases aw:a=c
    .subst aw;simp only[decide_true,ut,qe,qY,lp,pure];exact am (st+1) (by omega) (λi hi=>by
      rcases gD i st with a2 | a2;exact al i a2
      .obtain rfl:i=st:=by omega
       rw[ag,av]) O
    .have bb:¬xs=ys:=λq=>aw (by rw[q] at ag;rw[ag] at av;exact f6 av);rw[d9 bb] at O;simp only[aw,decide_false,uh,q1,lp,pure];exact O
  refine AA _ _ (key kk 0 (by omega) (λi hi=>by omega) ?_);by_cases U:xs=ys;rw[d7 U];simpa [lp,pure,U] using k;rw[d9 U];simpa [lp,pure,U] using k
 BX {n em E ws xs s Q X} a7 ac k:=by
  obtain⟨n,rfl⟩:∃m,n=m+1:=⟨n - 1,by omega⟩;unfold Instr.checkKey;refine AA _ _ (CE Z ?_);simp only[H5,q1];simp only[s4,Std.Legacy.Range.size,sg,Nat.add_one_sub_one,Nat.div_one];let bd:Nat->Unit->Sem (ForInStep Unit):=λi _=>do
   Instr.checkKey em n e (← Go.part e ws.toArray (i*(← Go.sizeOf e)))
   pure (ForInStep.yield ())
  have key:∀(m st:Nat),st+m=kk->∀{K:Unit->St->Prop},K () s->lp P (forIn (List.range' st m) () bd:Sem _) s K X:=by
   intro m
   induction m with
   | zero=>
    intro st ai K O;simp only[List.range'_zero,sU];exact O
   | succ m am=>
    intro st ai K O;simp only[List.range'_succ,sN];obtain⟨a,us,ag,ap,Y,aq⟩:=RE ac (i:=st) (by omega);refine AA _ _ (AA (x:=Go.sizeOf e) _ (FA h.size ?_));refine AA _ _ (Mn h.agg (by rw[Y];exact h.size) (λq=>by rw[Y];exact h.one q) aq ?_);refine AA _ _ (h.BX (by omega) ap ?_);exact am (st+1) (by omega) O
  exact AA _ _ (key kk 0 (by omega) k)
 uniq {E E' ws ws' xs} ay be:=by
  obtain⟨a1,wss,rfl,a3,c1⟩:=ay;obtain⟨b0,bi,rfl,b1,c2⟩:=be;have:wss=bi:=by
   apply List.ext_getElem (by omega);intro i hi bn;have a4:xs[i]?=some (xs[i]'(by omega)):=d6 (by omega);exact h.uniq (c1 i _ _ a4 (d6 hi)) (c2 i _ _ a4 (d6 bn))
  rw[this]
 same {E ws xs} ay w hw m:=by
  obtain⟨a1,wss,rfl,a3,c1⟩:=ay;let⟨us,bo,hw⟩:=sa.1 hw;let⟨i,hi⟩:=qF.1 bo;have bv:i<xs.length:=by rw[a1,← a3];exact(d0.1 hi).1
  exact h.same (c1 i _ us (d6 bv) hi) w hw m
 now:=⟨_,Z,.inl λv w=>rfl⟩
theorem Cm.field{α:Type} [DecidableEq α] {pp:Rp α}{ac:Bool}{n:Nat}{f:Field}{s:St}{X:Halt->St->Prop}(h:Cm P f.type pp ac dep)(hd:dep<=n)(ag:f.name≠ "_"){E E':LH}{Y:Lv_}{x y:α}(r1:pp.r E us x)(r2:pp.r E' Y y){Z:Av_}
  (w1:∀j w,us[j]?=some w->cx[f.offset+j]?=some w) (w2:∀j w,Y[j]?=some w->Z[f.offset+j]?=some w) {K:ForInStep (Option Bool×Unit)->St->Prop}(O:K (if x=y then .yield (none,()) else .done (some false,())) s):
  lp P (if f.name≠ "_" then do
   if !(← Op.equalIn n f.type (← Go.part f.type cx f.offset) (← Go.part f.type Z f.offset)) then pure (ForInStep.done (some false,())) else pure (ForInStep.yield (none,()))
   else pure (ForInStep.yield (none,()))) s K X:=by
 rw[d7 ag]
 refine AA _ _ (Mn h.agg (by rw[pp.len r1];exact h.size) (λq=>by rw[pp.len r1];exact h.one q) w1 ?_)
 refine AA _ _ (Mn h.agg (by rw[pp.len r2];exact h.size) (λq=>by rw[pp.len r2];exact h.one q) w2 ?_)
 refine AA _ _ (h.eq hd r1 r2 ?_)
 by_cases U:x=y;rw[d7 U] at O;simpa [lp,pure,U] using O;rw[d9 U] at O;simpa [lp,pure,U] using O
theorem Cm.NH{α:Type} [DecidableEq α] {pp:Rp α}{em:Bool}{n:Nat}{f:Field}{s:St}{X:Halt->St->Prop}(h:Cm P f.type pp O dep)(hd:dep<=n)(U:f.name≠ "_"){E:LH}{x:α}(r1:pp.r E us x)
  (w1:∀j w,us[j]?=some w->cx[f.offset+j]?=some w) {K:ForInStep Unit->St->Prop}(Y:K (.yield ()) s):
  lp P (if f.name≠ "_" then do
   Instr.checkKey em n f.type (← Go.part f.type cx f.offset)
   pure (ForInStep.yield ())
   else pure (ForInStep.yield ())) s K X:=by
 rw[d7 U]
 refine AA _ _ (Mn h.agg (by rw[pp.len r1];exact h.size) (λq=>by rw[pp.len r1];exact h.one q) w1 ?_)
 refine AA _ _ (h.BX hd r1 ?_)
 exact Y
theorem ME{r:Lv_}{o:Nat}(K:o=0):∀j w,us[j]?=some w->(us++r).toArray[o+j]?=some w:=λj w h=>by subst K;exact Vz (l:=[]) j w h
theorem Qk{l r:Lv_}{o:Nat}(K:o=l.length):∀j w,us[j]?=some w->(l++(us++r)).toArray[o+j]?=some w:=λj w h=>by
 subst K
 have:=Vz (l:=l) (r:=r) j w h
 rwa[pE] at this
theorem Qd{l:Lv_}{o:Nat}(K:o=l.length):∀j w,us[j]?=some w->(l++us).toArray[o+j]?=some w:=λj w h=>by
 have:=Qk (r:=[]) K j w h
 rwa[qk] at this
theorem Se{l m:Lv_}{o:Nat}(K:o=l.length+m.length):∀j w,us[j]?=some w->(l++(m++us)).toArray[o+j]?=some w:=λj w h=>by
 have:=Qd (l:=l++m) (o:=o) (by simp[K]) j w h
 rwa[pE] at this
theorem Cm.two{α:Type} [DecidableEq α] [DecidableEq β] {p1:Rp α}{p2:Rp β}{aq:Bool}(K:P.underlying t=some (.struct #[f1,f2]))(O:Cm P f1.type p1 a1 dep)(U:Cm P f2.type p2 aq dep)(av:P.stoodInHeld t=false)
  (n1:f1.name≠ "_") (n2:f2.name≠ "_") (ac:f1.offset=0) (ag:f2.offset=p1.n) (aw:Bz P t=some (p1.n+p2.n)):Cm P t (rP p1 p2) true (dep+1) where
 agg:=by unfold DY;rw[K]
 size:=aw
 one:=λh=>by cases h
 eq {n E E' ws ws' x y s Q X} ay ai az k:=by
  obtain⟨n,rfl⟩:∃m,n=m+1:=⟨n - 1,by omega⟩;obtain⟨al,am,rfl,r1,r2⟩:=ai;obtain⟨v1,v2,rfl,Y,ap⟩:=az;simp only[H5,q1];unfold Op.equalIn;refine AA _ _ (CE K ?_);refine AA (x:=program) _ ?_;show lp P (if P.stoodInHeld t=true then _ else _) s _ _
  rw[d9 (by rw[av];exact rU)]
  dsimp only;rw[← th];simp only[sN,sU];refine AA _ _ (AA _ _ (O.field (by omega) n1 r1 Y (ME ac) (ME ac) ?_));by_cases Z:x.1=y.1;rw[d7 Z];refine AA _ _ (U.field (by omega) n2 r2 ap (Qd (ag.trans (p1.len r1).symm)) (Qd (ag.trans (p1.len Y).symm)) ?_);by_cases e2:x.2=y.2;have e:x=y:=tW Z e2;rw[d7 e2];simpa [lp,pure,e] using k;have e:¬x=y:=λq=>e2 (by rw[q]);rw[d9 e2];simpa [lp,pure,e] using k;have e:¬x=y:=λq=>Z (by rw[q]);rw[d9 Z];simpa [lp,pure,e] using k
 BX {n em E ws x s Q X} ay ai k:=by
  obtain⟨n,rfl⟩:∃m,n=m+1:=⟨n - 1,by omega⟩;obtain⟨al,am,rfl,r1,r2⟩:=ai;simp only[H5,q1];unfold Instr.checkKey;refine AA _ _ (CE K ?_)
  dsimp only;rw[← th];simp only[sN,sU];refine AA _ _ (AA _ _ (O.NH (by omega) n1 r1 (ME ac) ?_));refine AA _ _ (U.NH (by omega) n2 r2 (Qd (ag.trans (p1.len r1).symm)) ?_);exact k
 uniq {E E' ws ws' x} a b:=by
  obtain⟨al,am,rfl,r1,r2⟩:=a;obtain⟨v1,v2,rfl,Y,ap⟩:=b;rw[O.uniq r1 Y,U.uniq r2 ap]
 same {E ws x} a w hw m:=by
  obtain⟨al,am,rfl,r1,r2⟩:=a;rcases gM.1 hw with hw | hw;exact O.same r1 w hw m;exact U.same r2 w hw m
 now:=⟨_,K,.inl λv w=>rfl⟩
theorem Cm.three{α a0:Type} [DecidableEq α] [DecidableEq β] [DecidableEq a0] {p1:Rp α}{p2:Rp β}{p3:Rp a0}{a3 a4:Bool}{f3:Field}(O:P.underlying t=some (.struct #[f1,f2,f3]))(U:Cm P f1.type p1 a1 dep)(Y:Cm P f2.type p2 a3 dep)(Z:Cm P f3.type p3 a4 dep)(a5:P.stoodInHeld t=false)
  (n1:f1.name≠ "_") (n2:f2.name≠ "_") (a2:f3.name≠ "_") (al:f1.offset=0) (am:f2.offset=p1.n) (ap:f3.offset=p1.n+p2.n) (a6:Bz P t=some (p1.n+(p2.n+p3.n))):Cm P t (rP p1 (rP p2 p3)) true (dep+1) where
 agg:=by unfold DY;rw[O]
 size:=a6
 one:=λh=>by cases h
 eq {n E E' ws ws' x y s Q X} a7 aq a8 k:=by
  obtain⟨n,rfl⟩:∃m,n=m+1:=⟨n - 1,by omega⟩;obtain⟨av,_,rfl,r1,aw,ay,rfl,r2,r3⟩:=aq;obtain⟨v1,_,rfl,K,v2,a9,rfl,ac,az⟩:=a8;simp only[H5,q1];unfold Op.equalIn;refine AA _ _ (CE O ?_);refine AA (x:=program) _ ?_;show lp P (if P.stoodInHeld t=true then _ else _) s _ _
  rw[d9 (by rw[a5];exact rU)]
  dsimp only;rw[← th];simp only[sN,sU];refine AA _ _ (AA _ _ (U.field (by omega) n1 r1 K (ME al) (ME al) ?_));by_cases ag:x.1=y.1;rw[d7 ag];refine AA _ _ (Y.field (by omega) n2 r2 ac (Qk (am.trans (p1.len r1).symm)) (Qk (am.trans (p1.len K).symm)) ?_);by_cases e2:x.2.1=y.2.1;rw[d7 e2];refine AA _ _ (Z.field (by omega) a2 r3 az (Se (by rw[ap,p1.len r1,p2.len r2])) (Se (by rw[ap,p1.len K,p2.len ac])) ?_);by_cases ai:x.2.2=y.2.2;have e:x=y:=tW ag (tW e2 ai);rw[d7 ai];simpa [lp,pure,e] using k;have e:¬x=y:=λq=>ai (by rw[q]);rw[d9 ai];simpa [lp,pure,e] using k;have e:¬x=y:=λq=>e2 (by rw[q]);rw[d9 e2];simpa [lp,pure,e] using k;have e:¬x=y:=λq=>ag (by rw[q]);rw[d9 ag];simpa [lp,pure,e] using k
 BX {n em E ws x s Q X} a7 aq k:=by
  obtain⟨n,rfl⟩:∃m,n=m+1:=⟨n - 1,by omega⟩;obtain⟨av,_,rfl,r1,aw,ay,rfl,r2,r3⟩:=aq;simp only[H5,q1];unfold Instr.checkKey;refine AA _ _ (CE O ?_)
  dsimp only;rw[← th];simp only[sN,sU];refine AA _ _ (AA _ _ (U.NH (by omega) n1 r1 (ME al) ?_));refine AA _ _ (Y.NH (by omega) n2 r2 (Qk (am.trans (p1.len r1).symm)) ?_);refine AA _ _ (Z.NH (by omega) a2 r3 (Se (by rw[ap,p1.len r1,p2.len r2])) ?_);exact k
 uniq {E E' ws ws' x} a b:=by
  obtain⟨av,_,rfl,r1,aw,ay,rfl,r2,r3⟩:=a;obtain⟨v1,_,rfl,K,v2,a9,rfl,ac,az⟩:=b;rw[U.uniq r1 K,Y.uniq r2 ac,Z.uniq r3 az]
 same {E ws x} a w hw m:=by
  obtain⟨av,_,rfl,r1,aw,ay,rfl,r2,r3⟩:=a;rcases gM.1 hw with hw | hw;exact U.same r1 w hw m;rcases gM.1 hw with hw | hw;exact Y.same r2 w hw m;exact Z.same r3 w hw m
 now:=⟨_,O,.inl λv w=>rfl⟩
theorem Cm.key{α:Type} [DecidableEq α] {pp:Rp α}(h:Cm P t pp K dep)(hd:dep<=10000):Hg P t pp K where
 BX:=by
  rintro em E v x s Q X ⟨ws,Y,rfl⟩ k;exact h.BX hd Y k
 kind:=by
  obtain⟨kd,O,Z⟩:=h.now;refine⟨kd,O,Z.imp id λac=>?_⟩;rintro E v w x y ⟨ws,r1,rfl⟩ ⟨ws',r2,rfl⟩;exact ac r1 r2
 eq:=by
  rintro E v w x y s Q X ⟨ws,r1,rfl⟩ ⟨ws',r2,rfl⟩ k;exact h.eq hd r1 r2 k
 same:=by
  rintro E v x ⟨ws,r1,rfl⟩;cases K with
  | false=>
   obtain⟨w,rfl⟩:∃w,ws=[w]:=by
    have:=(pp.len r1).trans (h.one V)
    match ws,this with
    | [w],_=>exact⟨w,rfl⟩
   exact h.same r1 w (by simp) 9999
  | true=>
   show(ws.toArray.size==ws.toArray.size&&(ws.toArray.toList.zip ws.toArray.toList).all λ(x,y)=>Instr.sameBits 9999 x y)=true;rw[f5];refine⟨by simp,qs.2 ?_⟩;rintro⟨a,b⟩ ag;have O:∀(l:Lv_) a b,(a,b)∈l.zip l->a=b/\a∈l:=by
    intro l
    induction l with
    | nil=>intro a b h;simp at h
    | cons c l U=>
     intro a b h;simp only[ti,gv,fZ] at h;rcases h with⟨rfl,rfl⟩ | h;exact⟨V,by simp⟩;exact⟨(U a b h).1,f8 _ (U a b h).2⟩
   obtain⟨rfl,hm⟩:=O _ a b ag;exact h.same r1 a (by simpa using hm) 9998
 uniq:=by
  rintro E v w x ⟨ws,r1,rfl⟩ ⟨ws',r2,rfl⟩;rw[h.uniq r1 r2]
section
variable {x y:Operand}
theorem RO{α:Type} [DecidableEq α] {pp:Rp α}{a b:α}(h:Cm P t pp true dep)(hd:dep<=10000)(K:P.eqGuardType P.depth t=false)(r1:pp.r E ws a)(r2:pp.r E' ws' b)(O:ρ x=.agg ws.toArray)(U:ρ y=.agg ws'.toArray):Yl P ⟨d,.binOp .neq t x y u,ty,p,af,g⟩ ρ s (.bool (decide (a≠b))):=by
 refine F1 (sm:=do eqGuard .neq t x y (ρ x) (ρ y);binOp .neq t (ρ x) (ρ y)) V ?_
 rw[O,U];refine AA _ _ (Z8 (.inr V) K ?_);have hb:binOp .neq t (.agg ws.toArray) (.agg ws'.toArray)=(do pure (.bool (!(← Op.equal t (.agg ws.toArray) (.agg ws'.toArray))))):=V
 rw[hb];exact AA (x:=Op.equal t _ _) _ (h.eq hd r1 r2 ⟨by simp,V⟩)
end
end
theorem XT{E H:LH}{B:List (Nat×Obj)}(i:Nat){bk:Nat}{o:Obj}(K:Nd E H B)(h:B[i]?=some (bk,o)):∃E',Le E E'/\E' bk=some o/\Nd E' H (B.eraseIdx i)/\Cx (mk E H B) (mk E' H (B.eraseIdx i)):=by
 have am:=qi h;have ap:E bk=none/\H bk=none:=by
  have:∀{B:List (Nat×Obj)},Nd E H B->(bk,o)∈B->E bk=none/\H bk=none:=by
   intro B K O
   induction B with
   | nil=>simp at O
   | cons q B Y=>
    rcases gv.1 O with rfl | O;exact⟨K.1,K.2.1⟩;exact Y K.2.2.2 O
  exact this K am
 let E':LH:=λx=>if x=bk then some o else E x
 have ag:E' bk=some o:=by simp[E']
 have hle:Le E E':=λx u U=>by
  have:x≠bk:=λe=>by subst e;rw[ap.1] at U;cases U
  simp[E',this,U]
 have aq:Nd E' H (B.eraseIdx i):=by
  have:∀{B:List (Nat×Obj)}{i:Nat},Nd E H B->B[i]?=some (bk,o)->Nd E' H (B.eraseIdx i)/\∀p∈B.eraseIdx i,p.1≠bk:=by
   intro B
   induction B with
   | nil=>intro i _ h;simp at h
   | cons q B Y=>
    obtain⟨c,v⟩:=q;intro i K h;have up:∀{B:List (Nat×Obj)},Nd E H B->(∀p∈B,p.1≠bk)->Nd E' H B:=by
     intro B K ai
     induction B with
     | nil=>trivial
     | cons q B av=>exact⟨by simpa [E',ai q (by simp)] using K.1,K.2.1,K.2.2.1,av K.2.2.2 λp O=>ai p (f8 _ O)⟩
    cases i with
    | zero=>
     simp at h;obtain⟨rfl,rfl⟩:=h;exact⟨up K.2.2.2 K.2.2.1,K.2.2.1⟩
    | succ i=>
     simp at h;let⟨Z,ac⟩:=Y K.2.2.2 h;have al:c≠bk:=λe=>K.2.2.1 (bk,o) (qi h) e.symm;refine⟨⟨by simpa [E',al] using K.1,K.2.1,λp O=>K.2.2.1 p (rC O),Z⟩,λp O=>?_⟩;rcases gv.1 O with rfl | O;exact al;exact ac p O
  exact(this K h).1
 refine⟨E',hle,ag,aq,⟨λx u U=>hle x u U,λx u U=>(M9 K h U).2,λx u U=>?_,V⟩⟩;by_cases e:x=bk
 .subst e;right;have:u=o:=by have:E' x=some u:=U;rw[ag] at this;exact(f6 this).symm
  subst this;refine⟨Kd K h,?_⟩;cases aw:(mk E' H (B.eraseIdx i)).H x with
  | none=>rfl
  | some y=>exact absurd rfl (M9 K h aw).1
 .left;have Z:E' x=some u:=U;have ac:E' x=E x:=by simp[E',e]
  show E x=some u;rw[← ac];exact Z
variable{sz:Nat}
theorem XL{E H:LH}{B0:List (Nat×Obj)}{e:TypeId}{l c:Nat}{a:Option Addr}{blk:List (Nat×Obj)}{xs:Lv_}(ac:GS e sz a l c blk xs)(O:Nd E H (B0++blk)):∃E',Le E E'/\Qw E' sz (.slice a l c) l xs/\Nd E' H B0/\Cx (mk E H (B0++blk)) (mk E' H B0):=by
 rcases ac with⟨rfl,rfl,rfl,rfl,rfl⟩ | ⟨bk,f,rfl,rfl,ag,U,rfl⟩;simp only[qk] at O ⊢;exact⟨E,Le.refl _,.nil,O,.refl _⟩
 .have ai:(B0++ [(bk,Obj.cells f e (0,0))])[B0.length]?=some (bk,Obj.cells f e (0,0)):=by simp
  let⟨E',hle,al,Y,Z⟩:=XT B0.length O ai;have am:(B0++ [(bk,Obj.cells f e (0,0))]).eraseIdx B0.length=B0:=by rw[rQ (oU _)];simp
  rw[am] at Y Z;refine⟨E',hle,⟨_,c,V,U,?_,.inr ⟨bk,0,f,e,(0,0),V,al,λj w K=>?_⟩⟩,Y,Z⟩;have:l*sz<=c*sz:=qR _ U;simp[ag,sk this];rw[rq] at K;split at K;simpa using K;cases K
variable{seg:Seg}
theorem XO{α:Type}{pp:Rp α}{E H:LH}{S:List Seg}{e:TypeId}{a:Option Addr}{c:Nat}{xs:List α}(j:Nat)(U:OL e pp E a c seg xs)(am:Au E H S)(ap:S[j]?=some seg):∃E',Le E E'/\Ao pp E' a c xs/\Au E' H (S.set j [])/\Cx (Ak E H S) (Ak E' H (S.set j [])):=by
 obtain⟨wss,U,ac,ag⟩:=U;have aq:∀ad:Addr,a=some ad->ad.spot=none:=λad K=>by
  rcases U with⟨O,_⟩ | ⟨bk,f,O,_⟩;rw[O] at K;cases K;rw[O] at K;cases K;rfl
 let⟨O,av⟩:=GM am ap;let⟨E',hle,aw,ay,ai⟩:=XL U av;rw[← O] at ai;refine⟨E',hle,?_,ay,ai⟩;obtain⟨az,a0,Y,a1,a5,Z⟩:=aw;obtain⟨rfl,-,rfl⟩:a=az/\xs.length=xs.length/\c=a0:=by
  simp only[Value.slice.injEq] at Y;exact⟨Y.1,V,Y.2.2⟩
 refine⟨a1,?_⟩;rcases Z with Z | ⟨bk,off,f,a2,fr,g1,g2,a3⟩;exact .inl ⟨qx Z,λad K=>.inl (aq ad K)⟩
 .refine .inr ⟨bk,off,g1,λi x al=>?_⟩;have a4:i<wss.length:=by rw[ac];exact(d0.1 al).1
  have hw:=d6 a4;refine⟨wss[i],pp.Ah hle (ag i x _ al hw),f,a2,fr,g2,λm w hm=>?_⟩;rw[sr];exact a3 _ w (Lq (IW ac ag) hw m w hm)
variable{s₀:St}
theorem Cx.get{s:St}(h:Cx s s₀){b:Nat}{o:Obj}(K:s₀.get b=some o):s.get b=some o:=by
 unfold St.get at K ⊢;cases O:s₀.E b with
 | some o'=>
  rw[O] at K;simp only at K;cases K;rcases h.Fp _ _ O with U | ⟨U,_⟩;rw[U]
  .cases he:s.E b with
   | none=>exact U
   | some Y=>
    have:=h.ext _ _ he;rw[O] at this;cases this;rfl
 | none=>
  rw[O] at K;simp only at K;cases he:s.E b with
  | none=>exact h.own _ _ K
  | some Y=>
   have:=h.ext _ _ he;rw[O] at this;cases this
theorem Cx.upd{s:St}(h:Cx s s₀){b:Nat}(o:Obj)(hb:(∃u,s₀.H b=some u)∨s₀.E b=none):Cx (s.upd b o) (s₀.upd b o):=by
 refine⟨h.ext,λx u K=>?_,λx u K=>?_,h.q⟩;simp only[St.upd] at K ⊢;by_cases e:x=b;rw[d7 e] at K ⊢;exact K;rw[d9 e] at K ⊢;exact h.own _ _ K
 .have O:s₀.E x=some u:=K;rcases h.Fp _ _ O with U | ⟨U,Y⟩;exact .inl U
  .refine .inr ?_;have e:x≠b:=λe=>by
    subst e;rcases hb with⟨w,hw⟩ | hb;rw[hw] at Y;cases Y;rw[hb] at O;cases O
   simp only[St.upd,d9 e];exact⟨U,Y⟩
theorem Cx.none{s:St}(h:Cx s s₀){b:Nat}(U:s.E b=none)(O:s.H b=none):s₀.E b=none/\s₀.H b=none:=by
 constructor
 .cases he:s₀.E b with
  | none=>rfl
  | some o=>
   rcases h.Fp _ _ he with K | ⟨K,_⟩;rw[U] at K;cases K;rw[O] at K;cases K
 .cases he:s₀.H b with
  | none=>rfl
  | some o=>have:=h.own _ _ he;rw[O] at this;cases this
theorem aQ{P:Program}{α:Type}(x:Sem α):∀{s s₀:St}{Q:α->St->Prop}{X:Halt->St->Prop},Cx s s₀->lp P x s₀ Q X->lp P x s (λa s'=>∃Z,Cx s' Z/\Q a Z) (λh s'=>∃Z,Cx s' Z/\X h Z):=by
 induction x with
 | pure a=>intro s s₀ Q X g h;exact⟨s₀,g,h⟩
 | load m a k K=>
  intro s s₀ Q X g h;obtain⟨O,v,U,Y⟩:=h;let⟨o,ai,al⟩:=r8.1 U;exact⟨O,v,by unfold St.cell?;rw[g.get ai];exact al,K v g Y⟩
 | store m a v k K=>
  intro s s₀ Q X g h;obtain⟨O,U,o,Y,am,ap,aq⟩:=h;exact⟨O,U,o,g.own _ _ Y,am,ap,K (g.upd _ (.inl ⟨o,Y⟩)) aq⟩
 | new o k K=>
  intro s s₀ Q X g h;refine⟨by rw[← g.q];exact h.1,λr O U=>?_⟩;let⟨ag,e2⟩:=g.none O U;exact K r (g.upd _ (.inr ag)) (h.2 r ag e2)
 | shape r k K=>intro s s₀ Q X g h;obtain⟨o,O,U⟩:=h;exact⟨o,g.get O,K _ g U⟩
 | freeze a n k K=>intro s s₀ Q X g h;exact h.elim
 | frozen a k K=>intro s s₀ Q X g h;obtain⟨o,O,U⟩:=h;exact⟨o,g.get O,K _ g U⟩
 | getObj r k K=>intro s s₀ Q X g h;obtain⟨o,O,U,Y⟩:=h;exact⟨o,g.get O,U,K _ g Y⟩
 | setObj r o k K=>
  intro s s₀ Q X g h;obtain⟨⟨o',O,av⟩,U,Y⟩:=h;exact⟨⟨o',g.own _ _ O,av⟩,U,K (g.upd _ (.inl ⟨o',O⟩)) Y⟩
 | choose q k K=>
  intro s s₀ Q X g h;simp only[lp] at h ⊢;split;rename_i ac;rw[d7 ac] at h;exact K _ g h;rename_i ac;rw[d9 ac] at h;exact⟨by rw[← g.q];exact h.1,λt=>K _ g (h.2 t)⟩
 | sys c k K=>intro s s₀ Q X g h;exact h.elim
 | program k K=>intro s s₀ Q X g h;exact K _ g h
 | mark m k K=>
  intro s s₀ Q X g h;refine⟨?_,K g h.2⟩;rcases h.1 with⟨O,U⟩ | O;exact .inl ⟨by rw[← g.q];exact O,U⟩;exact .inr O
 | halt h=>intro s s₀ Q X g aw;exact⟨s₀,g,aw⟩
variable {J:Judge P}{Q:Gs_}{n:Nat}{ds:Ld_}{ops:Ao_}{k:Li_}{cs:Lf_}{m:Nat}{D:Nat->Bool}{L:Env}{H:LH}{S:List Seg}
variable {v:Value}{kd:IntKind}
variable{args:Array Operand}{ats:Array TypeId}{R:Value->LH->Seg->Prop}{S':List Seg}
section
variable {b:Frame}{fuel:Nat}{listed:Array Bool}
variable {x y:Operand}{e:TypeId}{i:Nat}
theorem OC(j:Nat)(az:∀x,D x=true->∃(O:Nat) (o:Obj),(S.set j [])[O]?=some [(x,o)])(a0:AW J f vs E seg R)(a1:Region.ready .any ops listed=[i])
  (a2:ops[i]?=some ⟨d,.call ⟨.value (.func f),args,ats⟩,ty,p,af,g⟩) (a3:Bu n d=true) (hw:AY L ops ⟨d,.call ⟨.value (.func f),args,ats⟩,ty,p,af,g⟩=some true) (hb:Ei P f=true) (a4:evs L args.toList=some vs) (Z:Au E H S) (ac:S[j]?=some seg)
  (a5:∀v E' seg',Le E E'->R v E' seg'->Au E' H (S.set j seg')->AZ J Q b n ds ops k cs m D fuel (Bm listed i) (AB L d v) (Ak E' H (S.set j seg'))):
  AZ J Q b n ds ops k cs m D (fuel+1) listed L (Ak E H S):=by
 have ai:S.flatten.Perm (seg++(S.set j []).flatten):=(Dm (seg':=seg) ac).1.trans no;have al:Nd E H (seg++(S.set j []).flatten):=Nd.perm Z ai;have a6:Ak E H S=mk E (Bg (S.set j []).flatten H) seg:=by
  rw[show Ak E H S=mk E H S.flatten from rfl,FG Z ai];unfold mk;rw[Ge]
 have am:=Fc.LX (a0 (Bg (S.set j []).flatten H) (Nd.front al)) (by rintro v s' ⟨E',B',_,_,_,rfl⟩;rfl);rw[← a6] at am;refine AZ.call V a1 a2 a3 hw hb a4 am ?_;rintro v bv ⟨⟨E',B',hle,a7,a8,rfl⟩,w,a9⟩;have e2:mk E' (Bg (S.set j []).flatten H) B'=mk E' H (B'++(S.set j []).flatten):=by unfold mk;rw[Ge]
 have bb:Nd E H (S.set j []).flatten:=by
  have:=al;rw[Nd.iff] at this ⊢;rw[qN,qO] at this;exact⟨this.1.2.1,λq be=>this.2 q (qG _ be)⟩
 have bi:Nd E' H (S.set j []).flatten:=bb.grow λx U=>by
  have bn:=a9.d x U;have ag:Bg B' (Bg (S.set j []).flatten H) x=none:=bn;exact(Ij ag).1
 have ap:Nd E' H (B'++(S.set j []).flatten):=Nd.glue a8 bi;have aq:(B'++(S.set j []).flatten).Perm (S.set j B').flatten:=no.trans (Dm ac).2.symm;have av:Au E' H (S.set j B'):=Nd.perm ap aq;rw[e2,FG ap aq];refine⟨V,λx o U=>?_,a5 v E' B' hle a7 av⟩;by_cases hd:D x=true
 .let⟨O,o',Y⟩:=az x hd;have aw:j≠O:=λh=>by
   subst h;rw[qM (d0.1 ac).1] at Y;cases Y
  have ay:S[O]?=some [(x,o')]:=by rw[qD aw] at Y;exact Y
  have ag:(Ak E H S).get x=some o':=Dz (i:=0) Z ay V;have bo:(Ak E' H (S.set j B')).get x=some o':=Dz (i:=0) av (by rw[qD aw];exact ay) rfl;have K:(if D x then(Ak E H S).get x else E x)=some o:=U
  show(if D x then(Ak E' H (S.set j B')).get x else E' x)=some o
  rw[d7 hd] at K ⊢;rw[bo,← ag];exact K
 .have K:(if D x then(Ak E H S).get x else E x)=some o:=U
  show(if D x then(Ak E' H (S.set j B')).get x else E' x)=some o
  rw[d9 hd] at K ⊢;exact hle _ _ K
theorem AZ.perm(K:S.flatten.Perm S'.flatten)(O:Au E H S)(h:Au E H S'->AZ J Q b n ds ops k cs m D fuel listed L (Ak E H S')):AZ J Q b n ds ops k cs m D fuel listed L (Ak E H S):=by
 have e:Ak E H S=Ak E H S':=FG O K;rw[e];exact h (Nd.perm O K)
theorem JA.ghost:∀(fuel:Nat) {listed:Array Bool}{T:Av_}{s s₀:St},Cx s s₀->JA J Q b ds ops k cs m Ec fuel listed T s₀->JA J Q b ds ops k cs m Ec fuel listed T s
 | 0,listed,T,s,s₀,g,h=>⟨h.1,J.ghost g h.2⟩
 | fuel+1,listed,T,s,s₀,g,h=>by
  rcases h with⟨O,U⟩ | ⟨O,U,Z⟩;exact .inl ⟨O,λt=>J.ghost g (U t)⟩
  .refine .inr ⟨O,by rw[← g.q];exact U,λi hi o ac=>?_⟩;let⟨a1,ag,ai⟩:=Z i hi o ac;refine⟨a1,λe=>JA.ghost fuel g (ag e),λe=>?_⟩;have al:=aQ _ (s:=BA Ec s) (s₀:=BA Ec s₀) g (ai e);refine Es _ al ?_ (λ_ s' ⟨_,_,h⟩=>h);intro am s' K;obtain⟨Y,g1,K⟩:=K;cases am with
   | value v=>exact JA.ghost fuel (s:=s') (s₀:=Y) g1 K
   | skip=>exact JA.ghost fuel (s:=s') (s₀:=Y) g1 K
   | enter f args=>
    obtain⟨R,ap,aq⟩:=K;refine⟨R,λQ c cs av=>J.ghost (s:=s') (s₀:=Y) g1 (ap Q c cs av),λv aw ay=>?_⟩;let⟨az,a0,a2⟩:=aq v aw ay;exact⟨az,λx o K=>a0 x o (g.ext x o K),a2⟩
   | _=>exact K.elim
theorem GK{α:Type}{pp:Rp α}{a:Option Addr}{c:Nat}{xs:List α}(j:Nat)(K:OL e pp E a c seg xs)(O:Au E H S)(U:S[j]?=some seg)
  (h:∀E',Le E E'->Ao pp E' a c xs->Au E' H (S.set j [])->AZ J Q b n ds ops k cs m Ec fuel listed L (Ak E' H (S.set j []))):AZ J Q b n ds ops k cs m Ec fuel listed L (Ak E H S):=λT Y=>by
 let⟨E',Z,ac,ag,ai⟩:=XO j K O U
 exact JA.ghost _ ai (h E' Z ac ag T Y)
end
theorem oi{α:Type}{a b:α}(h:some a=some b):a=b:=f6 h
theorem bs{α:Type}{o:Option α}{f:α->Option β}{r:β}(h:o.bind f=some r):∃x,o=some x/\f x=some r:=bind_some h
def IZ(L:Env):Env->List (Option Value)
 | []=>[]
 | (t,_)::L'=>look L t::IZ L L'
def I5:Env->List (Option Value)
 | []=>[]
 | (_,v)::L'=>some v::I5 L'
theorem PZ{L:Env}:∀{L':Env},IZ L L'=I5 L'->Sub L' L
 | [],_=>trivial
 | (t,v)::L',h=>by
  simp only[IZ,I5,tz] at h
  exact⟨h.1,PZ h.2⟩
variable {L':Env}{k':Li_}{rest:List Nat}
variable {op:Op}
section
variable {b:Frame}{i:Nat}
theorem EZ(L':Env)(h:IZ L L'=I5 L')(k':JL J Q b n L' ds k cs s):JL J Q b n L ds k cs s:=EF (PZ h) k'
theorem AH(k':JL J Q b n L' ds k cs s)(h:IZ L L'=I5 L'):JL J Q b n L ds k cs s:=EF (PZ h) k'
def Fu(b:Frame)(n:Nat)(L:Env)(ops:Ao_)(i:Nat):Option Oper:=
 match Kr ops.toList i with
 | some ⟨d,op,ty,p,af,g⟩=>match AY L ops ⟨d,op,ty,p,af,g⟩ with
  | some true=>match BX b n ⟨d,op,ty,p,af,g⟩ with
   | true=>some ⟨d,op,ty,p,af,g⟩
   | false=>none
  | _=>none
 | none=>none
theorem Lw{o:Oper}(h:Fu b n L ops i=some o):ops[i]?=some o/\AY L ops o=some true/\BX b n o=true:=by
 unfold Fu at h;split at h;rename_i K;rw[Mt,qU] at K;split at h;rename_i hw;split at h;rename_i O;cases h;exact⟨K,hw,O⟩;cases h;cases h;cases h
theorem An(K:Fu b n L ops i=some ⟨d,op,ty,p,af,g⟩)(h:∀ρ,Fa L ρ->Yl P ⟨d,op,ty,p,af,g⟩ ρ s v)(O:JL J Q b n (AB L d v) ds (.inRegion ops rest::k) cs s):
  JL J Q b n L ds (.inRegion ops (i::rest)::k) cs s:=
 let ⟨U,Y,Z⟩:=Lw K
 Bl U Y Z h O
theorem MA{c:Code}{E:LH}{B:Seg}(O:P.funcs[f]?=some fn)(hb:fn.body=some c)(U:Nat.ble vs.length fn.ntmps=true)
  (h:∀(Q:Gs_) (K:Frame) (cs:Lf_) (H:LH),Au E H [B]->(∀v E' S' B',Le E E'->S'.flatten=B'->R v E' B'->Au E' H S'->J.ok Q (G (K.finish v) cs) (Ak E' H S'))->JL J Q (base f) fn.ntmps (GR 0 vs) [] [.code c] (K::cs) (Ak E H [B])):AW J f vs E B R:=
 AW.enter O hb (pY U) h
def Qx(n:Nat)(L:Env)(ops:Ao_)(i:Nat):Option Env:=
 match Kr ops.toList i with
 | some ⟨d,op,ty,p,af,g⟩=>match AY L ops ⟨d,op,ty,p,af,g⟩ with
  | some true=>match Bu n d with
   | true=>match L3 L op with
    | some v=>match d with
     | some d=>some ((d,v)::L)
     | none=>some L
    | none=>none
   | false=>none
  | some false=>match Bu n d with
   | true=>match d with
    | some d=>some ((d,undef)::L)
    | none=>some L
   | false=>none
  | none=>none
 | none=>none
def Hy(n:Nat)(L:Env)(ops:Ao_)(i:Nat):Option Oper:=
 match Kr ops.toList i with
 | some ⟨d,op,ty,p,af,g⟩=>match AY L ops ⟨d,op,ty,p,af,g⟩ with
  | some true=>match Bu n d with
   | true=>some ⟨d,op,ty,p,af,g⟩
   | false=>none
  | _=>none
 | none=>none
theorem Q3{o:Oper}(h:Hy n L ops i=some o):ops[i]?=some o/\AY L ops o=some true/\Bu n o.dst=true:=by
 unfold Hy at h;split at h;rename_i K;rw[Mt,qU] at K;split at h;rename_i hw;split at h;rename_i O;cases h;exact⟨K,hw,O⟩;cases h;cases h;cases h
theorem au(h:Qx n L ops i=some L'):∃o,ops[i]?=some o/\Bu n o.dst=true/\((∃v,AY L ops o=some true/\L3 L o.op=some v/\L'=AB L o.dst v)∨(AY L ops o=some false/\L'=AB L o.dst undef)):=by
 unfold Qx at h;split at h
 .rename_i d op ty p af g O;rw[Mt,qU] at O;refine⟨_,O,?_⟩;split at h
  .rename_i hw;split at h
   .rename_i K;refine⟨K,.inl ?_⟩;split at h
    .rename_i v U;refine⟨v,hw,U,?_⟩;cases d with
     | none=>cases h;rfl
     | some d=>cases h;rfl
    .cases h
   .cases h
  .rename_i hw;split at h
   .rename_i K;refine⟨K,.inr ⟨hw,?_⟩⟩;cases d with
    | none=>cases h;rfl
    | some d=>cases h;rfl
   .cases h
  .cases h
 .cases h
variable {fuel:Nat}{listed:Array Bool}
theorem Dr(i:Nat)(K:EB ops m=true)(O:s.q=false)(h:Qx n L ops i=some L')
  (U:AZ J Q b n ds ops k cs m D fuel (Bm listed i) L' s) (Y:GY ops listed m i=true:=by decide+kernel):AZ J Q b n ds ops k cs m D (fuel+1) listed L s:=by
 obtain⟨o,Z,ac,⟨v,hw,ag,rfl⟩ | ⟨hw,rfl⟩⟩:=au h;exact JG.val i Z K Y O hw ac (λρ ai s' _=>O0 ai ag) U;exact kj i Z K Y O hw ac U
theorem AS(i:Nat)(K:EB ops m=true)(O:s.q=false)(U:Hy n L ops i=some ⟨d,op,ty,p,af,g⟩)
  (Y:∀ρ,Fa L ρ->∀s':St,(∀x o,(BA D s).E x=some o->s'.E x=some o)->Yl P ⟨d,op,ty,p,af,g⟩ ρ s' v)
  (Z:AZ J Q b n ds ops k cs m D fuel (Bm listed i) (AB L d v) s) (ac:GY ops listed m i=true:=by decide+kernel):AZ J Q b n ds ops k cs m D (fuel+1) listed L s:=by
 let⟨ag,ai,al⟩:=Q3 U;exact JG.val i ag K ac O ai al Y Z
end
abbrev Jn(E H E':LH)(S:List Seg)(K L:Env)(s:St)(R:Prop):Prop:=L=K/\s=Ak E' H S/\Le E E'/\Au E' H S/\R
abbrev Jm(E H E':LH)(S:List Seg)(K L:Env)(s:St):Prop:=L=K/\s=Ak E' H S/\Le E E'/\Au E' H S
def Qq(L:Env):List ResultVar->Option (Lv_)
 | []=>some []
 | .tmp t::rs=>match look L t with
  | some v=>match Qq L rs with
   | some vs=>some (v::vs)
   | none=>none
  | none=>none
 | _=>none
theorem VG{P:Program}{L:Env}{s:St}:∀{rs:List ResultVar}{vs:Lv_},Qq L rs=some vs->RV P L s rs vs
 | [],vs,h=>by cases h;trivial
 | .tmp t::rs,vs,h=>by
  unfold Qq at h
  split at h
  .rename_i v K
   split at h;rename_i ws hw;cases h;exact⟨K,VG hw⟩;cases h
  .cases h
 | .cell _ _::_,_,h=>by cases h
variable {ft:TypeId}
variable{m':Int}
section
variable {b:Frame}{i:Nat}
variable {x y:Operand}{e:TypeId}
theorem A4{c:Frame}(O:P.funcs[b.fn]?=some fn)(K:(b.kind== .normal&&b.roundOf.isNone)=true)(U:Qq L fn.results.toList=some vs)(h:J.ok Q (G (c.finish (O8 vs)) cs) s):JL J Q b n L [] (.code .ret::k) (c::cs) s:=by
 simp only[f5,rR,Option.isNone_iff_eq_none] at K;exact JL.ret K.1 K.2 (BL.list O V (VG U)) h
theorem B4
  (O:AW J f vs E [] R) (U:Fu b n L ops i=some ⟨d,.call ⟨.value (.func f),args,ats⟩,ty,p,af,g⟩) (Y:evs L args.toList=some vs) (hb:Ei P f=true)
  (Z:Au E H S) (ac:∀v E' seg',Le E E'->R v E' seg'->Au E' H (S++ [seg'])->JL J Q b n (AB L d v) ds (.inRegion ops rest::k) cs (Ak E' H (S++ [seg']))):
  JL J Q b n L ds (.inRegion ops (i::rest)::k) cs (Ak E H S):=by
 let⟨ag,ai,K⟩:=Lw U;refine JS.call O ag ai ?_ hb Y Z ac;simp only[BX,f5] at K ⊢;exact⟨K.1,K.2.1⟩
theorem CW{v:Value}
  (O:AW J f vs E [] (λw E' B'=>w=v/\B'=[])) (U:Fu b n L ops i=some ⟨d,.call ⟨.value (.func f),args,ats⟩,ty,p,af,g⟩) (Y:evs L args.toList=some vs) (hb:Ei P f=true)
  (K:Au E H S) (Z:∀E',Le E E'->Au E' H (S++ [[]])->JL J Q b n (AB L d v) ds (.inRegion ops rest::k) cs (Ak E' H (S++ [[]]))):
  JL J Q b n L ds (.inRegion ops (i::rest)::k) cs (Ak E H S):=B4 O U Y hb K (by rintro _ E' _ hle ⟨rfl,rfl⟩ K;exact Z E' hle K)
theorem Cc(j:Nat)
  (O:AW J f vs E seg R) (U:Fu b n L ops i=some ⟨d,.call ⟨.value (.func f),args,ats⟩,ty,p,af,g⟩) (Y:evs L args.toList=some vs) (hb:Ei P f=true)
  (Z:Au E H S) (ac:S[j]?=some seg) (ag:∀v E' seg',Le E E'->R v E' seg'->Au E' H (S.set j seg')->JL J Q b n (AB L d v) ds (.inRegion ops rest::k) cs (Ak E' H (S.set j seg'))):
  JL J Q b n L ds (.inRegion ops (i::rest)::k) cs (Ak E H S):=by
 let⟨ai,al,K⟩:=Lw U;refine UH j O ai al ?_ hb Y Z ac ag;simp only[BX,f5] at K ⊢;exact⟨K.1,K.2.1⟩
def ND(K:Array Field)(i:Nat):Option (Nat×TypeId):=match K[i]? with
 | some f=>some (f.offset,f.type)
 | none=>none
theorem BE{r m:Int}{u:TypeId}(h:Av (m+m')=some r)(K:Fu b n L ops i=some ⟨d,.binOp .add t x y u,ty,p,af,g⟩)(O:ev L x=some (iV m))(U:ev L y=some (iV m'))
  (Y:JL J Q b n (AB L d (iV r)) ds (.inRegion ops rest::k) cs s):JL J Q b n L ds (.inRegion ops (i::rest)::k) cs s:=An K (λ_ q=>DW (q _ _ O) (q _ _ U) h) Y
theorem BW{r m:Int}{u:TypeId}(h:Av (m - m')=some r)(K:Fu b n L ops i=some ⟨d,.binOp .sub t x y u,ty,p,af,g⟩)(O:ev L x=some (iV m))(U:ev L y=some (iV m'))
  (Y:JL J Q b n (AB L d (iV r)) ds (.inRegion ops rest::k) cs s):JL J Q b n L ds (.inRegion ops (i::rest)::k) cs s:=An K (λ_ q=>EA (q _ _ O) (q _ _ U) h) Y
theorem JL.ln{a:Option Addr}{e:TypeId}{l c:Nat}(K:P.underlying t=some (.slice e))(O:Fu b n L ops i=some ⟨d,.call ⟨.builtin .len,#[x],ats⟩,ty,p,af,g⟩)(U:ats[0]?=some t)(Y:ev L x=some (.slice a l c))
  (Z:JL J Q b n (AB L d (.int .i64 l)) ds (.inRegion ops rest::k) cs s):JL J Q b n L ds (.inRegion ops (i::rest)::k) cs s:=An O (λ_ q=>Yl.len U K (q _ _ Y)) Z
theorem JL.fd{bk o:Nat}{O:Array Field}(Y:P.underlying t=some (.struct O))(Z:Bz P ft=some (sz+1))(ac:Fu b n L ops i=some ⟨d,.fieldAddr t x U,ty,p,af,g⟩)(ag:ev L x=some (.pointer (some ⟨bk,o,none⟩)))(K:ND O U=some (off,ft))
  (ai:JL J Q b n (AB L d (.pointer (some ⟨bk,o+off,none⟩))) ds (.inRegion ops rest::k) cs s):
  JL J Q b n L ds (.inRegion ops (i::rest)::k) cs s:=by
 unfold ND at K;split at K;rename_i f al;cases K;refine An ac (λρ h=>Hc (a:=⟨bk,o,none⟩) sz f.offset Y Z al V V (h _ _ ag)) ?_;rw[Et rfl];exact ai;cases K
theorem Dw{bk o:Nat}{ws:Lv_}(j:Nat)(K:At E bk o ws)(O:DY P t=some false)(U:Fu b n L ops i=some ⟨d,.load t x,ty,p,af,g⟩)(Y:ev L x=some (.pointer (some ⟨bk,o+j,none⟩)))(Z:ws[j]?=some v)
  (ac:JL J Q b n (AB L d v) ds (.inRegion ops rest::k) cs (Ak E H S)):
  JL J Q b n L ds (.inRegion ops (i::rest)::k) cs (Ak E H S):=
 An U (λ_ h=>Yl.load O (h _ _ Y) (At.Kn K Z)) ac
theorem Sm{bk:Nat}{c:Av_}(j:Nat)(K:Au E H S)(O:Bz P t=some v.cells.size)(U:Fu b n L ops i=some ⟨d,.store t x y,ty,p,af,g⟩)
  (Y:ev L x=some (.pointer (some ⟨bk,off,none⟩))) (Z:ev L y=some v) (ac:S[j]?=some [(bk,.cells c e (0,0))])
  (h:Au E H (S.set j [(bk,.cells (A9 c off v.cells.toList) e (0,0))])->JL J Q b n (AB L d undef) ds (.inRegion ops rest::k) cs (Ak E H (S.set j [(bk,.cells (A9 c off v.cells.toList) e (0,0))])))
  (hle:off+v.cells.size<=c.size:=by exact pY rfl) (ag:∀u∈v.cells.toList,CM u=true:=by simp[Value.cells,CM]):
  JL J Q b n L ds (.inRegion ops (i::rest)::k) cs (Ak E H S):=by
 let⟨ai,al,am⟩:=Lw U;exact JS.store j ai al am K Y Z O ag ac hle h
theorem Cf{bk o:Nat}{ws:Lv_}(K:At E bk o ws)(O:DY P t=some true)(U:Bz P t=some ws.length)(Y:Fu b n L ops i=some ⟨d,.load t x,ty,p,af,g⟩)(Z:ev L x=some (.pointer (some ⟨bk,o,none⟩)))
  (ac:JL J Q b n (AB L d (.agg ws.toArray)) ds (.inRegion ops rest::k) cs (Ak E H S)):
  JL J Q b n L ds (.inRegion ops (i::rest)::k) cs (Ak E H S):=
 An Y (λ_ h=>IV O U (h _ _ Z) (At.Sc K)) ac
variable {fuel:Nat}{listed:Array Bool}
theorem JG.fd{bk o:Nat}{O:Array Field}(i:Nat)(Y:EB ops m=true)(Z:P.underlying t=some (.struct O))(ac:Bz P ft=some (sz+1))(ag:s.q=false)(ai:Hy n L ops i=some ⟨d,.fieldAddr t x U,ty,p,af,g⟩)(al:ev L x=some (.pointer (some ⟨bk,o,none⟩)))(K:ND O U=some (off,ft))
  (am:AZ J Q b n ds ops k cs m D fuel (Bm listed i) (AB L d (.pointer (some ⟨bk,o+off,none⟩))) s) (ap:GY ops listed m i=true:=by decide+kernel):AZ J Q b n ds ops k cs m D (fuel+1) listed L s:=by
 unfold ND at K;split at K;rename_i f aq;cases K;refine AS i Y ag ai (λρ h _ _=>Hc (a:=⟨bk,o,none⟩) sz f.offset Z ac aq V V (h _ _ al)) ?_ ap;rw[Et rfl];exact am;cases K
theorem EI{bk o:Nat}{ws:Lv_}(i:Nat)(K:EB ops m=true)(j:Nat)(O:At (BA D s).E bk o ws)(U:DY P t=some false)(Y:s.q=false)(Z:Hy n L ops i=some ⟨d,.load t x,ty,p,af,g⟩)(ac:ev L x=some (.pointer (some ⟨bk,o+j,none⟩)))(ag:ws[j]?=some v)
  (ai:AZ J Q b n ds ops k cs m D fuel (Bm listed i) (AB L d v) s) (al:GY ops listed m i=true:=by decide+kernel):AZ J Q b n ds ops k cs m D (fuel+1) listed L s:=
 AS i K Y Z (λ_ h _ am=>Yl.load U (h _ _ ac) (At.JF O am ag)) ai al
theorem KU{bk o:Nat}{ws:Lv_}(i:Nat)(K:EB ops m=true)(O:At (BA D s).E bk o ws)(U:DY P t=some true)(Y:Bz P t=some ws.length)(Z:s.q=false)(ac:Hy n L ops i=some ⟨d,.load t x,ty,p,af,g⟩)(ag:ev L x=some (.pointer (some ⟨bk,o,none⟩)))
  (ai:AZ J Q b n ds ops k cs m D fuel (Bm listed i) (AB L d (.agg ws.toArray)) s) (al:GY ops listed m i=true:=by decide+kernel):AZ J Q b n ds ops k cs m D (fuel+1) listed L s:=
 AS i K Z ac (λ_ h _ am=>IV U Y (h _ _ ag) (At.R2 O am)) ai al
end
abbrev SU:=Int×List Int×Nat
abbrev AU:=List (Int×Int)
abbrev Ci:=List Int×Int×Nat
abbrev Aq:=Option Addr
abbrev EL:Rp (Int×Int):=rP rI rI
theorem ip{α:Type}{p:Prop} [Decidable p] {A B:Option α}{r:α}(h:(if p then A else B)=some r)(c:p):A=some r:=by rwa[d7 c] at h
theorem im{α:Type}{p:Prop} [Decidable p] {A B:Option α}{r:α}(h:(if p then A else B)=some r)(c:¬p):B=some r:=by rwa[d9 c] at h
theorem ib{α:Type}{c:Bool}{A B:Option α}{r:α}(h:(if c=true then A else B)=some r)(K:c=false):B=some r:=by subst K;simpa using h
def SI(n:Nat)(ops:Ao_):List Nat->Nat->Env->Option (Nat×Env)
 | [],f,L=>some (f,L)
 | i::l,f+1,L=>match Qx n L ops i with
  | some L'=>SI n ops l f L'
  | none=>none
 | _::_,0,_=>none
def Sj(ops:Ao_)(m:Nat):Array Bool->List Nat->Bool
 | _,[]=>true
 | listed,i::l=>GY ops listed m i&&Sj ops m (Bm listed i) l
def Xh:Array Bool->List Nat->Array Bool
 | listed,[]=>listed
 | listed,i::l=>Xh (Bm listed i) l
theorem Bb{P:Program}{J:Judge P}{Q:Gs_}{b:Frame}{n:Nat}{ds:Ld_}{k:Li_}{cs:Lf_}{s:St}{ops:Ao_}{m:Nat}{D:Nat->Bool}{L':Env}{U:Nat}(Y:EB ops m=true)(Z:s.q=false):
  ∀(l:List Nat) {fuel:Nat}{listed:Array Bool}{L:Env},SI n ops l fuel L=some (U,L')->AZ J Q b n ds ops k cs m D U (Xh listed l) L' s->(K:Sj ops m listed l=true:=by decide+kernel)->AZ J Q b n ds ops k cs m D fuel listed L s
 | [],fuel,listed,L,h,O,_=>by cases h;exact O
 | i::l,fuel,listed,L,h,O,K=>by
  cases fuel with
  | zero=>cases h
  | succ fuel=>
   unfold Sj at K;rw[f5] at K;unfold SI at h;split at h;rename_i ac e;exact Dr i Y Z e (Bb Y Z l h O K.2) K.1;cases h
theorem zg{P:Program}{J:Judge P}{Q:Gs_}{b:Frame}{n:Nat}{L L':Env}{ds:Ld_}{k k':Li_}{cs:Lf_}{s:St}(m:Nat)(h:PY b n m k L=some (k',L'))(K:JL J Q b n L' ds k' cs s):JL J Q b n L ds k cs s:=JL.go m h K
abbrev C:=@zg
abbrev bX(r:Nat)(c:Av_)(t:TypeId):Seg:=[(r,.cells c t (0,0))]
variable {α:Type}{A B:Option α}{r:α}
variable{p1:Int}
section
variable {b:Frame}
theorem A5{c:Operand}{x y:Code}{p:Prop} [Decidable p] (K:(if p then A else B)=some r)(O:p->A=some r->JL J Q b n L ds (.code x::k) cs s)(U:¬p->B=some r->JL J Q b n L ds (.code y::k) cs s)
  (Y:ev L c=some (.bool (decide p)):=by exact rfl):JL J Q b n L ds (.code (.cond c x y)::k) cs s:=GO Y (λh=>O h (ip K h)) λh=>U h (im K h)
theorem CH{c:Operand}{x y:Code}{t:Bool}(K:(if t=true then A else B)=some r)(O:t=true->A=some r->JL J Q b n L ds (.code x::k) cs s)(U:t=false->B=some r->JL J Q b n L ds (.code y::k) cs s)
  (Y:ev L c=some (.bool t):=by exact rfl):JL J Q b n L ds (.code (.cond c x y)::k) cs s:=Rb Y (λh=>O h (ip K h)) λh=>U h (ib K h)
theorem Iz{q:Prop} [Decidable q] (i:Nat)(K:(if q then A else B)=some r)(O:q->A=some r->JL J Q b n (AB L (some i) (.bool true)) ds k cs s)(U:¬q->B=some r->JL J Q b n (AB L (some i) (.bool false)) ds k cs s)
  (Y:look L i=some (.bool (decide q)):=by exact rfl):JL J Q b n L ds k cs s:=Nh Y (λh=>O h (ip K h)) λh=>U h (im K h)
theorem FB{t:Bool}(i:Nat)(K:(if t=true then A else B)=some r)(O:t=true->A=some r->JL J Q b n (AB L (some i) (.bool true)) ds k cs s)(U:t=false->B=some r->JL J Q b n (AB L (some i) (.bool false)) ds k cs s)
  (Y:look L i=some (.bool t):=by exact rfl):JL J Q b n L ds k cs s:=Ls Y (λh=>O h (ip K h)) λh=>U h (ib K h)
theorem Cr{O:Type}{c:Code}{body:β->Option (Bt β O)}{f:Nat}{U:β}{a:O}(Z:iter body f U=some a)(I:Env->St->β->Prop)(ac:I L' s U)
  (round:∀L s x,I L s x->(∀Y,body x=some (.done Y)->Y=a)->(∃st,body x=some st)->(∀L' s' x',I L' s' x'->body x=some (.more x')->JL J Q b n L' ds (.inLoop c::k) cs s')->JL J Q b n L ds (.code c:: .inLoop c::k) cs s)
  (ag:IZ L L'=I5 L':=by exact rfl):JL J Q b n L ds (.code (.loop c)::k) cs s:=EZ L' ag (U6 Z I ac round)
variable {fuel:Nat}{listed:Array Bool}
def Qc(ops:Ao_):Array Bool->List Nat->Bool
 | _,[]=>true
 | l,i::t=>Region.ready .any ops l== [i]&&Qc ops (Bm l i) t
theorem VS:∀{t:List Nat}{l:Array Bool},Qc ops l t=true->∀u,Region.linearise.go .any ops t.length u l []=t
 | [],_,_,_=>rfl
 | i::t,l,h,u=>by
  unfold Qc at h
  rw[f5,rR] at h
  exact iQ h.1 (VS h.2) u
theorem Dc(t:List Nat)(O:JL J Q b n L ds (.inRegion ops t::k) cs s)(K:(Sp m listed&&Qc ops listed t&&(fuel+1==t.length))=true:=by decide+kernel):AZ J Q b n ds ops k cs m D (fuel+1) listed L s:=by
 rw[f5,f5,rR] at K;exact AZ.leaf K.1.1 (by rw[K.2];exact VS K.1.2) O
theorem FH(m:Nat){id:Nat}(h:EB ops m=true->AZ J Q b n ds ops k cs m Ec ops.size (Array.replicate ops.size false) L (Ak E H S))(hm:P.follows .mixedOrders=true:=by exact rfl)(K:(b.kind != .early)=true:=by exact rfl)(O:EB ops m=true:=by decide+kernel):
  JL J Q b n L ds (.code (.region id ops true)::k) cs (Ak E H S):=bl m hm K O h
theorem Eu(m:Nat)(bks:List Nat){id:Nat}(K:Hv S bks)(O:Au E H S)(h:EB ops m=true->AZ J Q b n ds ops k cs m (Az bks) ops.size (Array.replicate ops.size false) L (Ak E H S))(hm:P.follows .mixedOrders=true:=by exact rfl)(U:(b.kind != .early)=true:=by exact rfl)(Y:EB ops m=true:=by decide+kernel):
  JL J Q b n L ds (.code (.region id ops true)::k) cs (Ak E H S):=bG m bks K O hm U Y h
theorem FQ{α:Type}{pp:Rp α}{a:Option Addr}{c:Nat}{xs:List α}{xv:α}{d:Option Tmp}{x y:Operand}{t ty e:TypeId}{p:String}{af:Ae_}{g:On_}{kd:IntKind}(i:Nat)(O:Ao pp E a c xs)(U:ix xs p1=some xv)(Y:EB ops m=true)(Z:P.underlying t=some (.slice e))(ac:Bz P e=some pp.n)
  (h:∀bk o ws,pp.r E ws xv->At E bk o ws->AZ J Q b n ds ops k cs m D fuel (Bm listed i) (AB L d (.pointer (some ⟨bk,o,none⟩))) s)
  (ag:ops[i]?=some ⟨d,.indexAddr t x y,ty,p,af,g⟩:=by exact rfl) (ai:GY ops listed m i=true:=by decide+kernel) (al:s.q=false:=by exact rfl)
  (hw:AY L ops ⟨d,.indexAddr t x y,ty,p,af,g⟩=some true:=by exact rfl) (am:Bu n d=true:=by exact rfl)
  (ap:ev L x=some (.slice a xs.length c):=by exact rfl) (aq:ev L y=some (.int kd p1):=by exact rfl):
  AZ J Q b n ds ops k cs m D (fuel+1) listed L s:=je i O U ag Y ai al hw am ap aq Z ac h
end
variable{c2:Nat}
theorem EX{P:Program}{J:Judge P}{Q:Gs_}{b:Frame}{n:Nat}{ds:Ld_}{ops:Ao_}{k:Li_}{cs:Lf_}{m:Nat}{D:Nat->Bool}{listed:Array Bool}{L L':Env}{s:St}(k':AZ J Q b n ds ops k cs m D c2 listed L' s)(h:IZ L L'=I5 L'):AZ J Q b n ds ops k cs m D c2 listed L s:=DU (PZ h) k'
def Xv{α:Type}(p:Rp α):Rp (List α):=⟨1,λE ws xs=>(xs=[]/\ws=[.slice none 0 0])∨(xs≠ []/\(rL p).r E ws xs),
 λhle h=>h.imp id λh=>⟨h.1,(rL p).Ah hle h.2⟩,λh=>by
  rcases h with⟨_,rfl⟩ | ⟨_,h⟩
  .rfl
  .exact(rL p).len h,λh w hw=>by
  rcases h with⟨_,rfl⟩ | ⟨_,h⟩
  .simp at hw;subst hw;rfl
  .exact(rL p).one h w hw⟩
instance {α:Type} [DecidableEq α] (xs:List α):Decidable (xs=[]):=inferInstance
variable {w:Value}
section
variable {b:Frame}{i:Nat}
variable {x y:Operand}{e:TypeId}
end
variable{j:Nat}
section
variable {b:Frame}{fuel:Nat}{listed:Array Bool}
variable {x y:Operand}{e:TypeId}{i:Nat}
theorem ON{s:St}{D:Nat->Bool}{i l:Nat}(K:s.q=false)(O:Region.ready .any ops listed=[i,j,l])(hi:Take J Q b n ds ops k cs m D fuel listed L s i)(U:Take J Q b n ds ops k cs m D fuel listed L s j)(Y:Take J Q b n ds ops k cs m D fuel listed L s l):AZ J Q b n ds ops k cs m D (fuel+1) listed L s:=
 QS K O (by simp) (by intro q K;simp at K;rcases K with rfl | rfl | rfl<;>assumption)
end
theorem Ao.cut{α:Type}{pp:Rp α}{E:LH}{a:Option Addr}{c:Nat}{xs ys:List α}{lo hi:Int}(Y:Ao pp E a c xs)(hC:H0 xs lo hi=some ys):
  ∃Z ac,Ao pp E Z ac ys/\∀{P:Program}{ρ:Operand->Value}{s:St}{d:Option Tmp}{x:Operand}{t ty e:TypeId}{p:String}{af:Ae_}{g:On_}{olo ohi:Option Operand},P.underlying t=some (.slice e)->Bz P e=some pp.n->ρ x=.slice a xs.length c->
   (match ohi with | some w=>ρ w=iV hi | none=>hi=xs.length)->(match olo with | some w=>ρ w=iV lo | none=>lo=0)->Yl P ⟨d,.slice t x olo ohi none,ty,p,af,g⟩ ρ s (.slice Z ys.length ac):=by
 unfold H0 at hC;split at hC
 rotate_left
 .cases hC
 rename_i hb;obtain⟨a0,a1,am⟩:=hb;cases hC;obtain⟨lo,rfl⟩:∃l:Nat,lo=l:=⟨lo.toNat,by omega⟩;obtain⟨hi,rfl⟩:∃l:Nat,hi=l:=⟨hi.toNat,by omega⟩;simp only[q5] at*;have a2:=Y.1;have hlen:((xs.take hi).drop lo).length=hi - lo:=by simp;omega
 have ag:∀ad:Addr,a=some ad->ad.spot=none∨c=0:=λad K=>by
  rcases Y.2 with⟨_,h⟩ | ⟨bk,off,h,_⟩;exact h ad K;rw[h] at K;cases K;exact .inl V
 refine⟨if c=lo then a else a.map (·.add (lo*pp.n)),c - lo,⟨by rw[hlen];omega,?_⟩,?_⟩
 .by_cases ap:hi - lo=0
  .left;refine⟨qx (by rw[hlen];exact ap),λad K=>?_⟩;split at K;(exact(ag ad K).imp id λh=>by omega)
   .cases a with
    | none=>cases K
    | some aq=>
     simp only[ra,q2] at K;subst K;exact .inl (by rw[Et ((ag aq rfl).resolve_right (by omega))])
  .right;rcases Y.2 with⟨h,_⟩ | ⟨bk,off,rfl,O⟩;subst h;simp at am;omega;refine⟨bk,off+lo*pp.n,?_,λq z U=>?_⟩;rw[d9 (by omega),ra,Et rfl];rw[tM,rq] at U;split at U;let⟨ws,av,ai⟩:=O _ z U;refine⟨ws,av,?_⟩;rw[r4] at ai;rw[sr];exact ai;cases U
 .intro P ρ s d x t ty e p af g olo ohi aw ay az O al;rw[hlen];refine Yl.slice (mx:=c) (hi:=hi) (lo:=lo) aw ay az V ?_ ?_ (oU _) (by omega) (by omega)
  .cases ohi with
   | none=>exact⟨by simp only at O;omega,rfl⟩
   | some w=>exact O
  .cases olo with
   | none=>simp only at al;show lo=0;omega
   | some w=>exact al
section
variable {b:Frame}{fuel:Nat}{listed:Array Bool}
theorem Il{S1:List Seg}(K:S=S1)(O:S1.Perm S')(U:Au E H S)(h:Au E H S'->AZ J Q b n ds ops k cs m D fuel listed L (Ak E H S')):AZ J Q b n ds ops k cs m D fuel listed L (Ak E H S):=by
 subst K;exact AZ.perm O.flatten U h
end
def ER{α:Type}(e e2:TypeId)(p:Rp α)(E:LH)(a:Option Addr)(c:Nat)(seg:Seg)(K:List (List α)):Prop:=
 ∃(g0:Seg) (O:Lv_) (rows:List Seg),seg=g0++rows.flatten/\OL e rV E a c g0 O/\O.length=K.length/\rows.length=K.length/\
  ∀(i:Nat) xs r h,K[i]?=some xs->rows[i]?=some r->O[i]?=some h->∃U ci,h=.slice U xs.length ci/\OL e2 p E U ci r xs
theorem ER.Ah{α:Type}{e e2:TypeId}{p:Rp α}{E E':LH}{a:Option Addr}{c:Nat}{K:List (List α)}(h:ER e e2 p E a c seg K)(hle:Le E E'):ER e e2 p E' a c seg K:=
 let ⟨g0,O,rows,U,Y,Z,ac,ag⟩:=h
 ⟨g0,O,rows,U,Y.Ah hle,Z,ac,λi xs r q a b c=>let ⟨ai,ci,k1,al⟩:=ag i xs r q a b c;⟨ai,ci,k1,al.Ah hle⟩⟩
theorem ER.make{α:Type}{e e2:TypeId}{p:Rp α}{E:LH}{a:Option Addr}{c:Nat}{m:Int}{K:List (List α)}(O:Gy m ([]:List α)=some K)(h:OL e (Xv p) E a c seg K):ER e e2 p E a c seg K:=by
 have U:∀xs∈K,xs=[]:=by
  unfold Gy at O;split at O;cases O;intro xs ac;exact(sO.1 ac).2;cases O
 obtain⟨wss,ag,Y,ai⟩:=h;have key:∀(i:Nat) ws,wss[i]?=some ws->ws=[.slice none 0 0]:=λi ws hw=>by
  have Z:i<K.length:=by rw[← Y];exact(d0.1 hw).1
  have al:=d6 Z;rcases ai i _ ws al hw with⟨_,h⟩ | ⟨h,_⟩;exact h;exact absurd (U _ (j9 Z)) h
 refine⟨seg,List.replicate K.length (.slice none 0 0),List.replicate K.length [],by simp,⟨wss,?_,by simpa using Y,λi x ws am hw=>?_⟩,by simp,by simp,λi xs r q a b c=>?_⟩;rw[sn];exact ag;rw[key i ws hw];obtain rfl:=(sO.1 (qi am)).2;exact⟨V,V⟩;obtain rfl:=(sO.1 (qi b)).2;obtain rfl:=(sO.1 (qi c)).2;obtain rfl:=U xs (qi a);exact⟨none,0,V,OL.nil⟩
variable{rows:List Seg}
theorem Vq{m:Nat}{r:Seg}(h:rows[m]?=some r):rows.flatten=(rows.take m).flatten++r++(rows.drop (m+1)).flatten:=by
 have K:=(d0.1 h).1;have e:rows=rows.take m++r::rows.drop (m+1):=by
  rw[(d0.1 h).2.symm];rw[← rx K,ui]
 conv=>lhs;rw[e]
 simp
theorem TZ{m:Nat}{r:Seg}(h:m<rows.length):(rows.set m r).flatten=(rows.take m).flatten++r++(rows.drop (m+1)).flatten:=by
 rw[Vq (rows:=rows.set m r) (m:=m) (r:=r) (by rw[qM h]),List.take_set_of_le (oU _),List.drop_set_of_lt (by omega)]
theorem ER.row{α:Type}{e e2:TypeId}{p:Rp α}{E:LH}{a:Option Addr}{c:Nat}{ac:List (List α)}{m:Int}{xs:List α}(h:ER e e2 p E a c seg ac)(hm:ix ac m=some xs):
  ∃(bk:Nat) (f:Av_) (U:Option Addr) (ci:Nat) (g1 r g2:Seg),a=some ⟨bk,0,none⟩/\seg=(bk,.cells f e (0,0))::(g1++r++g2)/\f[m.toNat*1]?=some (.slice U xs.length ci)/\m.toNat*1+1<=f.size/\OL e2 p E U ci r xs/\
   (∀E' r' O,Le E E'->O.length=xs.length->OL e2 p E' U ci r' O->ER e e2 p E' a c ((bk,.cells f e (0,0))::(g1++r'++g2)) (ac.set m.toNat O))/\
   (∀E' Y Z r' O,Le E E'->OL e2 p E' Y Z r' O->ER e e2 p E' a c ((bk,.cells (A9 f (m.toNat*1) [.slice Y O.length Z]) e (0,0))::(g1++r'++g2)) (ac.set m.toNat O)):=by
 obtain⟨g0,ag,rows,rfl,aq,av,aw,ai⟩:=h;obtain⟨K,rfl,ay⟩:=Gj hm;have a8:=(d0.1 ay).1;have az:rows[K]?=some rows[K]:=d6 (by omega);have hh:ag[K]?=some ag[K]:=d6 (by omega);let⟨U,ci,a2,a3⟩:=ai K xs _ _ ay az hh;rw[a2] at hh;obtain⟨bk,f,ws,rfl,rfl,a4,a0,a5,a1⟩:=OL.get aq hh;obtain⟨rfl,-⟩:=a4;have a6:(rV).n=1:=V;rw[a6] at a0 a5 a1;simp only[q5];refine⟨bk,f,U,ci,(rows.take K).flatten,rows[K],(rows.drop (K+1)).flatten,V,by rw[Vq az];rfl,by have:=a0 0 _ rfl;simpa using this,by omega,a3,λE' r' O hle a7 al=>?_,λE' Y Z r' O hle al=>?_⟩;refine⟨_,ag,rows.set K r',by rw[TZ (by omega)];rfl,aq.Ah hle,by simpa using av,by simpa using aw,λi ys q v a b c=>?_⟩;rw[qT] at a b;by_cases e:K=i;subst e;rw[d7 rfl,d7 (by omega)] at a b;cases a;cases b;rw[hh] at c;cases c;exact⟨U,ci,by rw[a7],al⟩;rw[d9 e] at a b;let⟨am,ap,l1,l2⟩:=ai i ys q v a b c;exact⟨am,ap,l1,l2.Ah hle⟩;refine⟨_,ag.set K (.slice Y O.length Z),rows.set K r',by rw[TZ (by omega)];rfl,(a1 _ _ ⟨V,V⟩).Ah hle,by simpa using av,by simpa using aw,λi ys q v a b c=>?_⟩;rw[qT] at a b c;by_cases e:K=i;subst e;rw[d7 rfl,d7 (by omega)] at a b c;cases a;cases b;cases c;exact⟨Y,Z,V,al⟩;rw[d9 e] at a b c;let⟨am,ap,l1,l2⟩:=ai i ys q v a b c;exact⟨am,ap,l1,l2.Ah hle⟩
theorem bE{E H:LH}{S:List Seg}{bk:Nat}{o:Obj}(K:Au E H S)(O:S[j]?=some seg)(h:(bk,o)∈seg):(Ak E H S).get bk=some o:=by
 let⟨i,hi⟩:=qF.1 h;exact Dz K O hi
theorem YA{E H:LH}{S:List Seg}{bk:Nat}{c:Av_}{e:TypeId}{f:Nat×Nat}{v:Value}(K:Au E H S)(O:S[j]?=some seg)(h:(bk,.cells c e f)∈seg)(U:c[off]?=some v):(Ak E H S).cell? ⟨bk,off,none⟩=some v:=by
 unfold St.cell?;rw[bE K O h];exact U
variable {e2:TypeId}
variable{q:Nat×Obj}{A1 g' g1 r0 seg':Seg}{jr:Nat}{s':St}
section
variable {b:Frame}{i:Nat}
variable {x y:Operand}{e:TypeId}
theorem Te{S:List Seg}{A B seg':Seg}(K:S[j]?=some seg)(h:seg.Perm (q::A)):S.flatten.Perm (S.set j A++ [[q]]).flatten:=by
 have O:=(Dm (seg':=A) K).1;have U:=(Dm (seg':=A) K).2;rw[Gh];refine O.trans ?_;refine(h.append_left _).trans ?_;refine List.Perm.trans ?_ (U.symm.append_right [q]);rw[pE];exact(no (l₁:=[q]) (l₂:=A)).append_left _
theorem WC{bk:Nat}{c:Av_}{A:Seg}(j:Nat)(U:Au E H S)(K:S[j]?=some seg)(Y:seg.Perm ((bk,.cells c e (0,0))::A))(Z:seg'.Perm ((bk,.cells (A9 c off v.cells.toList) e (0,0))::A))(ac:Bz P t=some v.cells.size)(ag:Fu b n L ops i=some ⟨d,.store t x y,ty,p,af,g⟩)
  (ai:ev L x=some (.pointer (some ⟨bk,off,none⟩))) (al:ev L y=some v)
  (hle:off+v.cells.size<=c.size) (am:∀u∈v.cells.toList,CM u=true)
  (h:Au E H (S.set j seg')->JL J Q b n (AB L d undef) ds (.inRegion ops rest::k) cs (Ak E H (S.set j seg'))):
  JL J Q b n L ds (.inRegion ops (i::rest)::k) cs (Ak E H S):=by
 have ap:=(d0.1 K).1;have key:∀q:Nat×Obj,∀g',g'.Perm (q::A)->(S.set j A++ [[q]]).flatten.Perm (S.set j g').flatten:=λq g' aq=>by
  have:=Te (B:=[]) (seg':=[]) (S:=S.set j g') (j:=j) (seg:=g') (A:=A) (q:=q) (by rw[qM ap]) aq;rw[rJ] at this;exact this.symm
 refine JS.perm (S':=S.set j A++ [[(bk,.cells c e (0,0))]]) (Te (B:=[]) (seg':=[]) K Y) U λav=>?_;have hlen:(S.set j A++ [[(bk,Obj.cells c e (0,0))]])[(S.set j A).length]?=some [(bk,.cells c e (0,0))]:=by simp
 refine Sm (S.set j A).length av ac ag ai al hlen (λO=>?_) hle am;rw[HO] at O ⊢;exact JS.perm (key _ _ Z) O h
theorem bp{r g2:Seg}:(q::(g1++r0++g2)++r).Perm (q::(g1++r++g2)++r0):=by
 simp only[qX,pE];refine List.Perm.cons _ (rp _ ?_);refine(no (l₁:=r0) (l₂:=g2++r)).trans ?_;rw[← pE];exact(no (l₁:=g2) (l₂:=r)).append_right r0
theorem Vl{r:Seg}{S:List Seg}(Y:j<S.length)(K:j≠jr)(Z:S[jr]?=some r)(ac:(A1++r).Perm (g'++r0)):(S.set j A1).flatten.Perm (((S.set j g').set jr [])++ [r0]).flatten:=by
 have ag:(S.set j A1)[jr]?=some r:=by rw[qD K];exact Z
 have ai:=(Dm (seg':=([]:Seg)) ag).1;have O:((S.set j A1).set jr [])[j]?=some A1:=by rw[qD (qH K),qM Y]
 have al:=(Dm (seg':=g') O).1;have U:=(Dm (seg':=g') O).2;have e:((S.set j A1).set jr []).set j g'=(S.set j g').set jr []:=by rw[sJ _ _ (qH K),rJ]
 rw[e] at U;rw[Gh];refine ai.trans ((al.append_right r).trans ?_);refine List.Perm.trans ?_ (U.symm.append_right r0);rw[pE,pE];exact ac.append_left _
structure Sq {α:Type}(e e2:TypeId) (pp:Rp α) (E:LH) (a:Aq) (c bk:Nat) (f:Av_) (O:Aq) (ci:Nat) (g1 r g2:Seg) (U:List (List α)) (m:Int) (xs:List α):Prop where
 ad:a=some ⟨bk,0,none⟩
 hd:f[m.toNat*1]?=some (.slice O xs.length ci)
 sz:m.toNat*1+1<=f.size
 ol:OL e2 pp E O ci r xs
 set:∀E' r' K,Le E E'->K.length=xs.length->OL e2 pp E' O ci r' K->ER e e2 pp E' a c ((bk,.cells f e (0,0))::(g1++r'++g2)) (U.set m.toNat K)
 put:∀E' Y Z r' K,Le E E'->OL e2 pp E' Y Z r' K->ER e e2 pp E' a c ((bk,.cells (A9 f (m.toNat*1) [.slice Y K.length Z]) e (0,0))::(g1++r'++g2)) (U.set m.toNat K)
theorem ER.rowOf{α:Type}{pp:Rp α}{a:Aq}{c:Nat}{K:List (List α)}{m:Int}{xs:List α}(h:ER e e2 pp E a c seg K)(hm:ix K m=some xs):
  ∃(bk:Nat) (f:Av_) (O:Aq) (ci:Nat) (g1 r g2:Seg),seg=(bk,.cells f e (0,0))::(g1++r++g2)/\Sq e e2 pp E a c bk f O ci g1 r g2 K m xs:=by
 let⟨bk,f,O,ci,g1,r,g2,Y,Z,ac,ag,ai,U⟩:=h.row hm;exact⟨bk,f,O,ci,g1,r,g2,Z,Y,ac,ag,ai,U.1,U.2⟩
theorem b9{α:Type}{pp:Rp α}{c bk ci:Nat}{a a7 ag:Aq}{f:Av_}{g2 r:Seg}{U:List (List α)}{m:Int}{xs ys:List α}(j jr:Nat)(Y:Sq e e2 pp E a c bk f ag ci g1 r0 g2 U m xs)(ai:OL e2 pp E a7 c2 r ys)(al:Au E H S)(Z:S[j]?=some ((bk,.cells f e (0,0))::(g1++r0++g2)))(am:j≠jr)(ap:S[jr]?=some r)
  (aq:Bz P t=some 1) (av:Fu b n L ops i=some ⟨d,.store t x y,ty,p,af,g⟩) (aw:ev L x=some (.pointer (some ⟨bk,m.toNat*1,none⟩))) (ay:ev L y=some (.slice a7 ys.length c2))
  (h:∀g',ER e e2 pp E a c g' (U.set m.toNat ys)->Au E H ((S.set j g').set jr [])->JL J Q b n (AB L d undef) ds (.inRegion ops rest::k) cs (Ak E H ((S.set j g').set jr []))):
  JL J Q b n L ds (.inRegion ops (i::rest)::k) cs (Ak E H S):=by
 have az:=(d0.1 Z).1;refine WC (v:=.slice a7 ys.length c2) (c:=f) (e:=e) (off:=m.toNat*1) (A:=g1++r0++g2) (seg':=(bk,.cells (A9 f (m.toNat*1) [.slice a7 ys.length c2]) e (0,0))::(g1++r0++g2)) j al Z (qJ _) (qJ _) aq av aw ay Y.sz (by simp[Value.cells,CM]) λa0=>?_;refine JS.perm (Vl (g':=(bk,.cells (A9 f (m.toNat*1) [.slice a7 ys.length c2]) e (0,0))::(g1++r++g2)) (r:=r) (r0:=r0) az am ap bp) a0 λa1=>?_;refine JS.drop _ a1 (tN) λac=>?_;rw[show ∀(T:List Seg),(T++ [r0]).set T.length []=T++ [[]] from λT=>HO _ _ _ _] at ac ⊢;refine Io (S':=(S.set j ((bk,.cells (A9 f (m.toNat*1) [.slice a7 ys.length c2]) e (0,0))::(g1++r++g2))).set jr []) (by simp) ac λa2=>?_;exact h _ (Y.put _ _ _ _ _ (Le.refl _) ai) a2
theorem OP{α:Type}{s:St}{ρ:Operand->Value}{x y:Operand}{d:Option Tmp}{t ty e:TypeId}{p:String}{af:Ae_}{g:On_}{kd:IntKind}{xs:List α}{xv:α}{m:Int}{a:Aq}{bk c:Nat}(K:a=some ⟨bk,0,none⟩)(hm:ix xs m=some xv)(O:P.underlying t=some (.slice e))(U:Bz P e=some sz)(Y:ρ x=.slice a xs.length c)(Z:ρ y=.int kd m):
  Yl P ⟨d,.indexAddr t x y,ty,p,af,g⟩ ρ s (.pointer (some ⟨bk,m.toNat*sz,none⟩)):=by
 subst K;exact UW hm O U Y Z
def K1(E:LH):Nat->Bool:=λx=>(E x).isNone
theorem fE(x:Nat):(BA (K1 E) (Ak E H S)).E x=(Ak E H S).get x:=by
 show(if K1 E x then(Ak E H S).get x else E x)=_
 unfold K1;cases h:E x with
 | none=>simp
 | some o=>
  rw[d9 (by simp)];unfold St.get;rw[show(Ak E H S).E x=some o from h]
theorem SN(K:∀x o,(BA (K1 E) (Ak E H S)).E x=some o->s'.E x=some o){x:Nat}{o:Obj}(h:(Ak E H S).get x=some o):s'.get x=some o:=by
 have:=K x o (by rw[fE];exact h);unfold St.get;rw[this]
theorem NM(K:∀x o,(BA (K1 E) (Ak E H S)).E x=some o->s'.E x=some o){a:Addr}{v:Value}(h:(Ak E H S).cell? a=some v):s'.cell? a=some v:=by
 let⟨o,O,U⟩:=r8.1 h;unfold St.cell?;rw[SN K O];exact U
theorem V5(K:∀x o,(BA (K1 E) (Ak E H S)).E x=some o->s'.E x=some o){a:Addr}(h:∀(i:Nat) v,vs[i]?=some v->(Ak E H S).cell? (Addr.add a i)=some v):∀(i:Nat) v,vs[i]?=some v->s'.cell? (Addr.add a i)=some v:=λi v O=>NM K (h i v O)
theorem Sl(m:Nat){id:Nat}(h:EB ops m=true->AZ J Q b n ds ops k cs m (K1 E) ops.size (Array.replicate ops.size false) L (Ak E H S))(hm:P.follows .mixedOrders=true:=by exact rfl)(K:(b.kind != .early)=true:=by exact rfl)(O:EB ops m=true:=by decide+kernel):
  JL J Q b n L ds (.code (.region id ops true)::k) cs (Ak E H S):=Rg m (K1 E) V hm K (h O)
abbrev rs(q:Nat×Obj)(g1:Seg)(p:Nat×Obj)(g2:Seg):Seg:=q::(g1++ [p]++g2)
end
variable {o:Obj}{xs:List (κ×ν)}{v0:ν}
variable {kk:Li_}
variable {z:Operand}{x0:κ}
variable{todo:Li_}{es:Array MapEntry}{seen:Array Nat}
section
variable [DecidableEq κ]
def KN(xs:List (κ×ν)):Prop:=(xs.map (·.1)).Nodup
theorem KN.perm{xs ys:List (κ×ν)}(h:KN xs)(p:ys.Perm xs):KN ys:=((p.map (λq:κ×ν=>q.1)).nodup_iff).2 h
theorem Um{xs:List (κ×ν)}(h:KN xs){x:κ}{v:ν}:Bh xs x=some v↔(x,v)∈xs:=by
 induction xs with
 | nil=>simp[Bh]
 | cons y ys U=>
  have O:y.1 ∉ ys.map (·.1)/\KN ys:=by simpa [KN] using h
  by_cases e:x=y.1
  .subst e;have K:Bh (y::ys) y.1=some y.2:=by simp[Bh]
   rw[K];constructor;intro q;cases q;simp;intro q;rcases gv.1 q with q | q;rw[← q];exact absurd (qK.2 ⟨_,q,V⟩) O.1
  .have K:Bh (y::ys) x=Bh ys x:=by simp[Bh,e]
   rw[K,U O.2];constructor;intro q;exact f8 _ q;intro q;rcases gv.1 q with q | q;exact absurd (by rw[← q]) e;exact q
theorem Ub{xs ys:List (κ×ν)}(h:KN xs)(p:ys.Perm xs)(x:κ):Bh ys x=Bh xs x:=by
 apply Option.ext;intro v;rw[Um h,Um (h.perm p),p.mem_iff]
def Ed(xs:List (κ×ν))(x:κ):List (κ×ν):=xs.filter λy=>decide (x≠y.1)
theorem Ug{xs:List (κ×ν)}{x:κ}(h:∀y∈xs,x≠y.1):Ed xs x=xs:=tI.2 λy K=>by simpa using h y K
theorem OD{x:κ}{v:ν}:∀{xs:List (κ×ν)},KN xs->(Ck xs x v).Perm ((x,v)::Ed xs x)
 | [],_=>.refl _
 | y::ys,h=>by
  have K:y.1 ∉ ys.map (·.1)/\KN ys:=by simpa [KN] using h
  unfold Ck;by_cases e:x=y.1
  .rw [d7 e];have e2:Ed (y::ys) x=ys:=by
    have:Ed (y::ys) x=Ed ys x:=by simp[Ed,e]
    rw[this];exact Ug λz O q=>K.1 (qK.2 ⟨z,O,by rw[← q,e]⟩)
   rw[e2]
  .rw [d9 e];have e2:Ed (y::ys) x=y::Ed ys x:=by simp[Ed,e]
   rw[e2];exact((OD K.2).cons y).trans (List.Perm.swap _ _ _)
theorem Q0{xs ys:List (κ×ν)}(p:ys.Perm xs)(x:κ):(Ed ys x).Perm (Ed xs x):=p.filter _
theorem YI{xs ys:List (κ×ν)}(h:KN xs)(p:ys.Perm xs)(x:κ)(v:ν):(Ck ys x v).Perm (Ck xs x v):=
 (OD (h.perm p)).trans (((Q0 p x).cons _).trans (OD h).symm)
theorem KN.del{xs:List (κ×ν)}(h:KN xs)(x:κ):KN (Ed xs x):=by
 unfold KN Ed;exact List.Nodup.sublist (List.Sublist.map _ List.filter_sublist) h
theorem KN.put{xs:List (κ×ν)}(h:KN xs)(x:κ)(v:ν):KN (Ck xs x v):=by
 refine KN.perm ?_ (OD h);unfold KN;simp only[q7,sM];refine⟨λq=>?_,h.del x⟩;let⟨z,K,e⟩:=qK.1 q;have:=(sP.1 K).2;simp at this;exact this e.symm
def BQ(pk:Rp κ)(ka:Bool)(pv:Rp ν)(va:Bool)(E:LH)(o:Obj)(xs:List (κ×ν)):Prop:=KN xs/\∃ys,ys.Perm xs/\LW pk ka pv va E o ys
theorem BQ.Ah{o:Obj}{xs:List (κ×ν)}(h:BQ pk ka pv va E o xs)(hle:Le E E'):BQ pk ka pv va E' o xs:=
 let ⟨K,ys,O,U⟩:=h;⟨K,ys,O,U.Ah hle⟩
theorem BQ.perm{o:Obj}{xs ys:List (κ×ν)}(h:BQ pk ka pv va E o xs)(p:ys.Perm xs):BQ pk ka pv va E o ys:=
 let ⟨K,O,U,Y⟩:=h;⟨K.perm p,O,U.trans p.symm,Y⟩
theorem BQ.nil:BQ pk ka pv va E (.map #[] 0) []:=⟨tL,[],.refl _,⟨#[],0,V,trivial,.nil,by simp⟩⟩
def rM(pk:Rp κ)(ka:Bool)(pv:Rp ν)(va:Bool):Rp (List (κ×ν)):=⟨1,λE ws xs=>∃bk o,ws=[.map (some bk)]/\E bk=some o/\BQ pk ka pv va E o xs,
 λhle ⟨bk,o,h,K,O⟩=>⟨bk,o,h,hle _ _ K,O.Ah hle⟩,λ⟨bk,o,h,_,_⟩=>by subst h;rfl,λ⟨bk,o,h,_,_⟩ w hw=>by subst h;simp at hw;subst hw;rfl⟩
section
variable {bk:Nat}{k:Value}{x:κ}
theorem Yy(K:Hg P t pk ka)(hm:P.underlying tm=some (.map t te)){z:Value}{z0:ν}(O:zeroOf P te=some z)(U:Vr pv va E z z0)(Y:s.get bk=some o)(Z:BQ pk ka pv va E o xs)(ac:Vr pk ka E k x)(ok:Bool){Q:Value->St->Prop}
  (h:∀w,Vr pv va E w ((Bh xs x).getD z0)->Q (if ok then .tuple #[w,.bool (Bh xs x).isSome] else w) s):lp P (Instr.lookup tm (.map (some bk)) k ok) s Q X:=by
 obtain⟨ag,ys,ai,al⟩:=Z;refine Y4 K hm O U Y al ac ok ?_;rw[Ub ag ai];exact h
theorem XR(O:Hg P t pk ka)(hm:P.underlying tm=some (.map t te))(U:s.get bk=some o)(Y:s.H bk=some o)(Z:BQ pk ka pv va E o xs)(ac:Vr pk ka E k x)(hw:Vr pv va E w v0){Q:Unit->St->Prop}
  (h:∀o',BQ pk ka pv va E o' (Ck xs x v0)->Q () (s.upd bk o')):lp P (Instr.mapUpdate tm (.map (some bk)) k w) s Q X:=by
 obtain⟨K,ys,ag,ai⟩:=Z;exact XV O hm U Y ai ac hw λo' al=>h o' ⟨K.put _ _,_,YI K ag _ _,al⟩
theorem Ey.erase(Y:Vr pk ka E k x):∀{es:List MapEntry}{ys:List (κ×ν)}{i:Nat},Ey pk ka pv va E es ys->KN ys->
  (G1 x es ys i=none/\Ed ys x=ys)∨∃j u,G1 x es ys i=some (i+j,u)/\Ey pk ka pv va E (es.eraseIdx j) (Ed ys x)
 | [],[],i,_,_=>.inl ⟨rfl,rfl⟩
 | e::es,y::ys,i,h,Z=>by
  have U:y.1 ∉ ys.map (·.1)/\KN ys:=by simpa [KN] using Z
  unfold G1;by_cases K:x=y.1
  .refine .inr ⟨0,e.val,by rw[d7 K];rfl,?_⟩;have e2:Ed (y::ys) x=ys:=by
    have:Ed (y::ys) x=Ed ys x:=by simp[Ed,K]
    rw[this];exact Ug λz ac q=>U.1 (qK.2 ⟨z,ac,by rw[← q,K]⟩)
   rw[e2];exact h.2.2
  .have e2:Ed (y::ys) x=y::Ed ys x:=by simp[Ed,K]
   rcases Ey.erase Y (i:=i+1) h.2.2 U.2 with⟨a1,O⟩ | ⟨j,u,a1,O⟩;exact .inl ⟨by rw[d9 K];exact a1,by rw[e2,O]⟩;refine .inr ⟨j+1,u,by rw[d9 K,a1];congr 2;omega,?_⟩;rw[e2];exact⟨h.1,h.2.1,O⟩
 | [],_::_,_,h,_=>h.elim
 | _::_,[],_,h,_=>h.elim
theorem Yn(ag:Hg P t pk ka)(hm:P.underlying tm=some (.map t te))(aq:s.get bk=some o)(ai:s.H bk=some o)(av:BQ pk ka pv va E o xs)(K:Vr pk ka E k x){u:TypeId}{Q:Value->St->Prop}
  (h:∀o',BQ pk ka pv va E o' (Ed xs x)->Q (.tuple #[]) (s.upd bk o')):lp P (Builtin.delete_ #[tm,t] u #[.map (some bk),k]) s Q X:=by
 obtain⟨O,ys,U,es,c,rfl,Y,al,am⟩:=av;unfold Builtin.delete_;simp only[qE,ri,rF];refine AA _ _ (CE hm ?_)
 dsimp only;refine AA _ _ ?_;unfold getObj;simp only[bind,Sem.bind,lp];refine⟨_,aq,V,?_⟩;refine AA (x:=Instr.checkKey _ 10000 t k) _ (ag.BX K ?_);refine AA (x:=Instr.findKey t k es.toList) _ (QR ag K Y ?_);rcases Ey.erase K (i:=0) Y (O.perm U) with⟨Z,e2⟩ | ⟨j,u,Z,e2⟩;rw[Z];simp only[setObj,lp,pure];refine⟨⟨_,ai,V⟩,V,h _ ⟨O.del _,_,Q0 U x,es,c,V,by rw[e2];exact Y,al,am⟩⟩
 .rw [Z];simp only[setObj,lp,pure];have ap:(es.toList.eraseIdx j).Sublist es.toList:=List.eraseIdx_sublist _ _;have ac:(es.eraseIdxIfInBounds (0+j)).toList=es.toList.eraseIdx j:=by rw[rO];simp
  refine⟨⟨_,ai,V⟩,V,h _ ⟨O.del _,_,Q0 U x,_,c,V,by rw[ac];exact e2,?_,?_⟩⟩;rw[ac];exact al.sublist (ap.map _);rw[ac];exact λe he=>am e (ap.subset he)
end
section
variable {b:Frame}
variable {x y:Operand}{e:TypeId}{i bk:Nat}{k:Value}
theorem Yl.lookup{zv v:Value}{z0:ν}{ok:Bool}(K:Hg P t pk ka)(hm:P.underlying tm=some (.map t te))(O:zeroOf P te=some zv)(U:Vr pv va E zv z0)(Y:BQ pk ka pv va E o xs)(Z:Vr pk ka E k x0)
  (ac:∀w,Vr pv va E w ((Bh xs x0).getD z0)->(if ok then .tuple #[w,.bool (Bh xs x0).isSome] else w)=v) (ag:ρ x=.map (some bk)) (ai:ρ y=k) (al:s.get bk=some o):Yl P ⟨d,.lookup tm x y ok,ty,p,af,g⟩ ρ s v:=by
 refine F1 (sm:=Instr.lookup tm (ρ x) (ρ y) ok) V ?_;rw[ag,ai];exact Yy K hm O U al Y Z ok λw hw=>⟨ac w hw,V⟩
theorem JS.makeMap(K:ops[i]?=some ⟨d,.makeMap t none,ty,p,af,g⟩)(hw:AY L ops ⟨d,.makeMap t none,ty,p,af,g⟩=some true)(O:BX b n ⟨d,.makeMap t none,ty,p,af,g⟩=true)(U:Au E H S)
  (h:∀r,Au E H (S++ [[(r,.map #[] 0)]])->JL J Q b n (AB L d (.map (some r))) ds (.inRegion ops rest::kk) cs (Ak E H (S++ [[(r,.map #[] 0)]]))):
  JL J Q b n L ds (.inRegion ops (i::rest)::kk) cs (Ak E H S):=
 JL.op K hw O λρ al=>by
  show lp P (do pure (Next.value (← Instr.makeMap t none))) _ _ _
  refine AA _ _ ?_
  unfold Instr.makeMap
  simp only[newObj,bind,Sem.bind,pure,lp]
  refine⟨rfl,λr Y Z=>?_⟩
  let⟨ac,ag⟩:=KM Y Z (.map #[] 0) U
  let⟨p1,p2⟩:=F2 ac
  have ai:(Ak E H S).upd r (.map #[] 0)=Ak E H (S++ [[(r,.map #[] 0)]]):=by rw[← p1,← ag];rfl
  show JL J Q b n (AB L d (.map (some r))) ds (.inRegion ops rest::kk) cs ((Ak E H S).upd r (.map #[] 0));rw[ai];exact h r p2
theorem JS.mapUpdate(j:Nat)(Y:Hg P t pk ka)(hm:P.underlying tm=some (.map t te))(Z:BQ pk ka pv va E o xs)(ac:Vr pk ka E k x0)(ag:Vr pv va E w v0)(K:Au E H S)(O:S[j]?=some [(bk,o)])
  (ai:ops[i]?=some ⟨d,.mapUpdate tm x y z,ty,p,af,g⟩) (hw:AY L ops ⟨d,.mapUpdate tm x y z,ty,p,af,g⟩=some true) (al:BX b n ⟨d,.mapUpdate tm x y z,ty,p,af,g⟩=true) (am:ev L x=some (.map (some bk))) (ap:ev L y=some k) (aq:ev L z=some w)
  (h:∀o',BQ pk ka pv va E o' (Ck xs x0 v0)->Au E H (S.set j [(bk,o')])->JL J Q b n (AB L d undef) ds (.inRegion ops rest::kk) cs (Ak E H (S.set j [(bk,o')]))):
  JL J Q b n L ds (.inRegion ops (i::rest)::kk) cs (Ak E H S):=
 JL.op ai hw al λρ U=>by
  show lp P (do Instr.mapUpdate tm (ρ x) (ρ y) (ρ z);pure Next.skip) _ _ _
  rw[U _ _ am,U _ _ ap,U _ _ aq]
  refine AA _ _ (XR Y hm (Dz (i:=0) K O rfl) (K5 K O) Z ac ag λo' av=>?_)
  let⟨aw,ay⟩:=LC K O o'
  rw[aw]
  exact h o' av ay
theorem XW{at1:TypeId}(j:Nat)(Y:Hg P t pk ka)(hm:P.underlying tm=some (.map t te))(Z:BQ pk ka pv va E o xs)(ac:Vr pk ka E k x0)(K:Au E H S)(O:S[j]?=some [(bk,o)])
  (ag:ops[i]?=some ⟨d,.call ⟨.builtin .delete,#[x,y],#[tm,t]⟩,ty,p,af,g⟩) (hw:AY L ops ⟨d,.call ⟨.builtin .delete,#[x,y],#[tm,t]⟩,ty,p,af,g⟩=some true) (ai:BX b n ⟨d,.call ⟨.builtin .delete,#[x,y],#[tm,t]⟩,ty,p,af,g⟩=true) (al:ev L x=some (.map (some bk))) (am:ev L y=some k)
  (h:∀o',BQ pk ka pv va E o' (Ed xs x0)->Au E H (S.set j [(bk,o')])->JL J Q b n (AB L d (.tuple #[])) ds (.inRegion ops rest::kk) cs (Ak E H (S.set j [(bk,o')]))):
  JL J Q b n L ds (.inRegion ops (i::rest)::kk) cs (Ak E H S):=
 JL.op ag hw ai λρ U=>by
  have ap:execOp ρ ⟨d,.call ⟨.builtin .delete,#[x,y],#[tm,t]⟩,ty,p,af,g⟩=(do pure (Next.value (← Builtin.delete_ #[tm,t] ty #[ρ x,ρ y]))):=by
   simp[execOp,resolve,Deferred.ofValue,invoke,bind,Sem.bind,pure,Go.builtin]
  rw[ap,U _ _ al,U _ _ am];refine AA _ _ (Yn Y hm (Dz (i:=0) K O rfl) (K5 K O) Z ac λo' aq=>?_);let⟨av,aw⟩:=LC K O o';rw[av];exact h o' aq aw
theorem QQ(j:Nat)(O:Au E H S)(U:S[j]?=some [(bk,o)])
  (h:∀E',Le E E'->E' bk=some o->Au E' H (S.set j [])->JL J Q b n L ds todo cs (Ak E' H (S.set j []))):JL J Q b n L ds todo cs (Ak E H S):=by
 let⟨Y,Z⟩:=GM O U;rw[Y];have ac:((S.set j []).flatten++ [(bk,o)])[(S.set j []).flatten.length]?=some (bk,o):=by simp
 refine JL.freeze (S.set j []).flatten.length Z ac λE' hle ag K=>?_;have ai:((S.set j []).flatten++ [(bk,o)]).eraseIdx (S.set j []).flatten.length=(S.set j []).flatten:=by rw[rQ (oU _)];simp
 rw[ai] at K ⊢;exact h E' hle ag K
theorem T6{α:Type}{m:Nat}{f:Nat->Sem α}{s:St}{Q:α->St->Prop}{X:Halt->St->Prop}(hm:0<m)(K:s.q=false)(h:∀i,i<m->lp P (f i) s Q X):lp P ((choose (.mapNext m)).bind f) s Q X:=by
 simp only[choose,Sem.bind,lp];split;exact h 0 hm;exact⟨K,λt=>h _ (tl _ hm)⟩
theorem JS.range{c:Nat}(hm:P.underlying tm=some (.map t te))(K:(Ak E H S).get bk=some (.map es c))(O:ops[i]?=some ⟨d,.range tm x,ty,p,af,g⟩)(hw:AY L ops ⟨d,.range tm x,ty,p,af,g⟩=some true)(U:BX b n ⟨d,.range tm x,ty,p,af,g⟩=true)(Y:Au E H S)
  (Z:ev L x=some (.map (some bk)))
  (h:∀r,Au E H (S++ [[(r,.mapIter (some bk) c #[] c)]])->JL J Q b n (AB L d (.pointer (some ⟨r,0,none⟩))) ds (.inRegion ops rest::kk) cs (Ak E H (S++ [[(r,.mapIter (some bk) c #[] c)]]))):
  JL J Q b n L ds (.inRegion ops (i::rest)::kk) cs (Ak E H S):=
 JL.op O hw U λρ ac=>by
  show lp P (do pure (Next.value (← Instr.range tm (ρ x)))) _ _ _
  rw[ac _ _ Z]
  refine AA _ _ ?_
  unfold Instr.range
  refine AA _ _ (CE hm ?_)
  simp only[getObj,newObj,bind,Sem.bind,pure,lp]
  refine⟨_,K,rfl,rfl,λr ag ai=>?_⟩
  let⟨al,am⟩:=KM ag ai (.mapIter (some bk) c #[] c) Y
  let⟨p1,p2⟩:=F2 al
  have ap:(Ak E H S).upd r (.mapIter (some bk) c #[] c)=Ak E H (S++ [[(r,.mapIter (some bk) c #[] c)]]):=by rw[← p1,← am];rfl
  show JL J Q b n (AB L d (.pointer (some ⟨r,0,none⟩))) ds (.inRegion ops rest::kk) cs ((Ak E H S).upd r (.mapIter (some bk) c #[] c));rw[ap];exact h r p2
theorem JS.next{c r:Nat}(j:Nat)(al:(Ak E H S).get bk=some (.map es c))(hb:∀e∈es.toList,e.born<c)(K:Au E H S)(O:S[j]?=some [(r,.mapIter (some bk) c seen c)])
  (am:ops[i]?=some ⟨d,.next x false,ty,p,af,g⟩) (hw:AY L ops ⟨d,.next x false,ty,p,af,g⟩=some true) (ap:BX b n ⟨d,.next x false,ty,p,af,g⟩=true) (U:ev L x=some (.pointer (some ⟨r,0,none⟩)))
  (aq:∀e∈es.toList,e.born ∉ seen->Au E H (S.set j [(r,.mapIter (some bk) c (seen.push e.born) c)])->JL J Q b n (AB L d (.tuple #[.bool true,e.key,e.val])) ds (.inRegion ops rest::kk) cs (Ak E H (S.set j [(r,.mapIter (some bk) c (seen.push e.born) c)])))
  (av:(∀e∈es.toList,e.born∈seen)->JL J Q b n (AB L d (.tuple #[.bool false])) ds (.inRegion ops rest::kk) cs (Ak E H S)):
  JL J Q b n L ds (.inRegion ops (i::rest)::kk) cs (Ak E H S):=
 JL.op am hw ap λρ aw=>by
  show lp P (do pure (Next.value (← Instr.next (ρ x) false ty))) _ _ _
  rw[aw _ _ U]
  refine AA _ _ ?_
  unfold Instr.next
  simp only[getObj,setObj,bind,Sem.bind,pure,lp]
  refine⟨_,Dz (i:=0) K O rfl,rfl,?_⟩
  simp only[lp]
  refine⟨_,al,rfl,?_⟩
  have ay:(!seen.isEmpty&& !es.isEmpty&&es.all (λe=>decide (e.born>=c)))=false:=by
   by_cases he:es.toList=[]
   .have:es.isEmpty=true:=by simpa [Array.isEmpty_iff] using he
    simp[this]
   .let⟨e,ag⟩:=tT _ he;have be:=hb e ag;have:es.all (λe=>decide (e.born>=c))=false:=by
     cases U:es.all (λe=>decide (e.born>=c)) with
     | false=>rfl
     | true=>
      have:=sf.1 U e (sW.1 ag);simp at this;omega
    simp[this]
  have az:Array.filter (λx:MapEntry=>decide (x.born<c)) (Array.filter (λe=> !seen.contains e.born) es)=Array.filter (λe=> !seen.contains e.born) es:=by
   apply tX.1;rw[sI,tI];intro e he;rw[sI] at he;simpa using hb e (sP.1 he).1
  have e2:Array.filter (λx:MapEntry=>decide (x.born>=c)) (Array.filter (λe=> !seen.contains e.born) es)=#[]:=by
   apply tX.1;rw[sI,List.filter_eq_nil_iff];intro e he;rw[sI] at he;have:=hb e (sP.1 he).1;simp;omega
  dsimp only;rw[d9 (by rw[ay];exact rU),az,e2];have Y:∀e,e∈(Array.filter (λe=> !seen.contains e.born) es).toList↔e∈es.toList/\e.born ∉ seen:=by
   intro e;rw[sI,sP];simp
  generalize Array.filter (λe:MapEntry=> !seen.contains e.born) es=left at Y ⊢;by_cases Z:left.toList=[]
  .have a0:left=#[]:=tX.1 Z;subst a0;refine T6 (by simp) rfl λi hi=>?_;obtain rfl:i=0:=by simp at hi;exact hi
   have a1:((if(#[]:Array MapEntry).isEmpty=true then #[none] else #[])++Array.map some ((#[]:Array MapEntry)++ #[]))[0]?=some none:=by simp
   rw[a1];refine av λe he=>?_;by_cases ai:e.born∈seen;exact ai;have:=(Y e).2 ⟨he,ai⟩;simp at this
  .have a2:left.isEmpty=false:=by
    cases a3:left.isEmpty with
    | false=>rfl
    | true=>exact absurd (by simpa [Array.isEmpty_iff] using a3) Z
   rw[a2];simp only[qe,qY,tb,Array.empty_append];have a4:0<left.size:=by
    rcases q9 left.size with ac | ac;exact absurd (by simpa using Array.eq_empty_of_size_eq_zero ac) Z;exact ac
   refine T6 (by simpa using a4) rfl λi hi=>?_;have a5:i<left.size:=by simpa using hi
   have a6:(Array.map some left)[i]?=some (some left[i]):=by simp[a5]
   rw[a6];simp only[lp];let⟨a7,a8⟩:=(Y left[i]).1 (Array.getElem_mem_toList _);refine⟨⟨_,K5 K O,rfl⟩,rfl,?_⟩;let⟨a9,bb⟩:=LC K O (.mapIter (some bk) c (seen.push left[i].born) c);rw[a9];exact aq _ a7 a8 bb
theorem JS.entry{c r:Nat}{e:MapEntry}(j:Nat)(U:(Ak E H S).get bk=some (.map es c))(he:e∈es.toList)(hb:(es.toList.map (·.born)).Pairwise (·<·))(Y:Au E H S)(Z:S[j]?=some [(r,.mapIter (some bk) c (seen.push e.born) c)])
  (ac:ops[i]?=some ⟨d,.entry x,ty,p,af,g⟩) (hw:AY L ops ⟨d,.entry x,ty,p,af,g⟩=some true) (ag:BX b n ⟨d,.entry x,ty,p,af,g⟩=true) (ai:ev L x=some (.pointer (some ⟨r,0,none⟩)))
  (h:JL J Q b n (AB L d (.tuple #[e.key,e.val])) ds (.inRegion ops rest::kk) cs (Ak E H S)):
  JL J Q b n L ds (.inRegion ops (i::rest)::kk) cs (Ak E H S):=
 JL.op ac hw ag λρ al=>by
  show lp P (do pure (Next.value (← Instr.entry (ρ x)))) _ _ _
  rw[al _ _ ai]
  refine AA _ _ ?_
  unfold Instr.entry
  simp only[getObj,bind,Sem.bind,pure,lp]
  refine⟨_,Dz (i:=0) Y Z rfl,rfl,?_⟩
  simp only[Array.back?_push,bne_self_eq_false,lp]
  refine⟨_,U,rfl,?_⟩
  have am:es.find? (λx=>x.born==e.born)=some e:=by
   rw[← Array.find?_toList];have key:∀(l:List MapEntry),e∈l->(l.map (·.born)).Pairwise (·<·)->l.find? (λx=>x.born==e.born)=some e:=by
    intro l
    induction l with
    | nil=>intro h;cases h
    | cons y l ap=>
     intro hm K;rw[q7,si] at K;by_cases O:y.born=e.born;rcases gv.1 hm with rfl | hm;simp;have:=K.1 e.born (qK.2 ⟨e,hm,rfl⟩);omega;rw[sb (by simpa using O)];rcases gv.1 hm with rfl | hm;exact absurd rfl O;exact ap hm K.2
   exact key _ he hb
  simp only[bne_self_eq_false,qe,qY,am,lp];exact h
end
end
theorem Ln{E H:LH}{S:List Seg}{bk:Nat}{o:Obj}(h:E bk=some o):(Ak E H S).get bk=some o:=by
 show(match E bk with | some o=>some o | none=>_)=some o
 rw[h]
theorem Tq{α:Type}(f:α->β){l:List α}(h:(l.map f).Nodup):l.Nodup:=by
 unfold List.Nodup at h ⊢;rw[tS] at h;exact h.imp λh e=>h (by rw[e])
theorem U8{α:Type}:∀{l l':List α},l.Nodup->(∀x∈l,x∈l')->l.length<=l'.length
 | [],_,_,_=>qV _
 | x::l,l',h,O=>by
  obtain⟨a,b,rfl⟩:=List.append_of_mem (O x (by simp))
  have U:=sM.1 h
  have:=U8 (l:=l) (l':=a++b) U.2 (λy Y=>by
   have K:=O y (f8 _ Y)
   have Z:y≠x:=λe=>U.1 (e▸Y)
   simp at K ⊢
   rcases K with K | K | K;exact .inl K;exact absurd K Z
   .exact .inr K)
  simp at this ⊢;omega
variable {ys:List (κ×ν)}
section
variable [DecidableEq κ]
def JE(es:Array MapEntry)(ys:List (κ×ν))(seen:Array Nat)(done:List (κ×ν)):Prop:=
 ∃dn:List (MapEntry×(κ×ν)),done=dn.map (·.2)/\seen.toList=dn.map (·.1.born)/\dn.Nodup/\∀q∈dn,q∈es.toList.zip ys
theorem JE.nil{ys:List (κ×ν)}:JE es ys #[] []:=⟨[],V,V,.nil,by simp⟩
theorem UY:∀{es:List MapEntry}{ys:List (κ×ν)},(es.map (·.born)).Pairwise (·<·)->∀{p q:MapEntry×(κ×ν)},p∈es.zip ys->q∈es.zip ys->p.1.born=q.1.born->p=q
 | [],_,_,_,_,h,_,_=>by simp at h
 | _::_,[],_,_,_,h,_,_=>by simp at h
 | e::es,y::ys,U,p,q,K,O,hb=>by
  rw[q7,si] at U
  rw[ti] at K O
  have Y:∀{z:MapEntry×(κ×ν)},z∈es.zip ys->z.1.born∈es.map (·.born):=λ{z} Z=>by
   have:=(ub Z).1
   exact qK.2 ⟨z.1,this,V⟩
  rcases gv.1 K with rfl | K<;>rcases gv.1 O with rfl | O;rfl;have:=U.1 _ (Y O);simp at hb;omega;have:=U.1 _ (Y K);simp at hb;omega;exact UY U.2 K O hb
theorem Ey.zip:∀{es:List MapEntry}{ys:List (κ×ν)},Ey pk ka pv va E es ys->∀{q:MapEntry×(κ×ν)},q∈es.zip ys->Vr pk ka E q.1.key q.2.1/\Vr pv va E q.1.val q.2.2
 | [],[],_,_,h=>by simp at h
 | e::es,y::ys,h,q,K=>by
  rw[ti] at K
  rcases gv.1 K with rfl | K;exact⟨h.1,h.2.1⟩;exact Ey.zip h.2.2 K
 | [],_::_,h,_,_=>h.elim
 | _::_,[],h,_,_=>h.elim
theorem Us:∀{es:List MapEntry}{ys:List (κ×ν)},KN ys->(es.map (·.born)).Pairwise (·<·)->∀{p q:MapEntry×(κ×ν)},p∈es.zip ys->q∈es.zip ys->p.2.1=q.2.1->p=q
 | [],_,_,_,_,_,h,_,_=>by simp at h
 | _::_,[],_,_,_,_,h,_,_=>by simp at h
 | e::es,y::ys,ac,Y,p,q,K,O,hb=>by
  have U:y.1 ∉ ys.map (·.1)/\KN ys:=by simpa [KN] using ac
  rw[q7,si] at Y;rw[ti] at K O;have Z:∀{z:MapEntry×(κ×ν)},z∈es.zip ys->z.2.1∈ys.map (·.1):=λ{z} ag=>qK.2 ⟨z.2,(ub ag).2,rfl⟩;rcases gv.1 K with rfl | K<;>rcases gv.1 O with rfl | O;rfl;have:=Z O;simp only at hb;rw[← hb] at this;exact absurd this U.1;have:=Z K;simp only at hb;rw[hb] at this;exact absurd this U.1;exact Us U.2 Y.2 K O hb
theorem JE.len{ys:List (κ×ν)}{done:List (κ×ν)}(h:JE es ys seen done):done.length<=ys.length:=by
 obtain⟨dn,rfl,Y,K,O⟩:=h;rw[r6];have U:=U8 K O;exact qW U (by rw[List.length_zip];exact Nat.min_le_right _ _)
section
variable {b:Frame}
variable {x y:Operand}{e:TypeId}{i bk:Nat}
theorem Ur{c r:Nat}{done:List (κ×ν)}(j:Nat)(ac:Ey pk ka pv va E es.toList ys)(Z:(es.toList.map (·.born)).Pairwise (·<·))(hb:∀e∈es.toList,e.born<c)(ap:KN ys)(aq:JE es ys seen done)(av:(Ak E' H S).get bk=some (.map es c))(aw:Au E' H S)(ay:S[j]?=some [(r,.mapIter (some bk) c seen c)])
  (az:ops[i]?=some ⟨d,.next x false,ty,p,af,g⟩) (hw:AY L ops ⟨d,.next x false,ty,p,af,g⟩=some true) (a0:BX b n ⟨d,.next x false,ty,p,af,g⟩=true) (a2:ev L x=some (.pointer (some ⟨r,0,none⟩)))
  (a3:∀e O,Vr pk ka E e.key O.1->Vr pv va E e.val O.2->O∈ys->O.1 ∉ done.map (·.1)->e∈es.toList->JE es ys (seen.push e.born) (done++ [O])->Au E' H (S.set j [(r,.mapIter (some bk) c (seen.push e.born) c)])->
   JL J Q b n (AB L d (.tuple #[.bool true,e.key,e.val])) ds (.inRegion ops rest::kk) cs (Ak E' H (S.set j [(r,.mapIter (some bk) c (seen.push e.born) c)])))
  (a4:done.Perm ys->JL J Q b n (AB L d (.tuple #[.bool false])) ds (.inRegion ops rest::kk) cs (Ak E' H S)):
  JL J Q b n L ds (.inRegion ops (i::rest)::kk) cs (Ak E' H S):=by
 obtain⟨dn,rfl,a1,ag,Y⟩:=aq;have hlen:=ac.len;refine JS.next j av hb aw ay az hw a0 a2 (λe he a5 a6=>?_) (λa7=>?_)
 .let⟨m,hm,a8⟩:=uq.1 he;have U:(e,ys[m]'(by omega))∈es.toList.zip ys:=by
   rw[← a8];have:(es.toList.zip ys)[m]'(by rw[List.length_zip];omega)=(es.toList[m],ys[m]'(by omega)):=List.getElem_zip;rw[← this];exact j9 _
  let⟨k1,a9⟩:=ac.zip U;have ai:(e,ys[m]'(by omega)) ∉ dn:=λq=>a5 (by
   rw[← sW,a1]
   exact qK.2 ⟨_,q,V⟩)
  refine a3 e _ k1 a9 (j9 _) (λq=>?_) he ⟨dn++ [(e,ys[m]'(by omega))],by simp,by simp[a1],?_,λq K=>?_⟩ a6;let⟨O,bb,be⟩:=qK.1 q;obtain⟨z,al,rfl⟩:=qK.1 bb;have:=Us ap Z (Y z al) U be;exact ai (this▸al);rw[qO];exact⟨ag,by simp,by intro q K z am bi;simp at am;subst am bi;exact ai K⟩;rcases gM.1 K with K | K;exact Y q K;simp at K;subst K;exact U
 .refine a4 ?_;have bn:dn.Perm (es.toList.zip ys):=by
   have bo:(es.toList.zip ys).Nodup:=by
    have:((es.toList.zip ys).map (·.1)).Nodup:=by
     rw[List.map_fst_zip (by omega)];exact Tq (λe:MapEntry=>e.born) (Z.imp (λh=>uv h))
    exact Tq _ this
   refine(List.perm_ext_iff_of_nodup ag bo).2 λq=>⟨λK=>Y q K,λK=>?_⟩;have:=a7 q.1 (ub K).1;rw[← sW,a1] at this;let⟨z,U,bv⟩:=qK.1 this;have:=UY Z (Y z U) K bv;exact this▸U
  have:=bn.map (·.2)
  rwa[List.map_snd_zip (by omega)] at this
end
end
variable {l0 bks xl:List Nat}
section
variable {b:Frame}{fuel:Nat}{listed:Array Bool}
theorem Ew(i:Nat)(pure:Bool)(K:s.q=false)(O:Hy n L ops i=some ⟨d,op,ty,p,af,g⟩)
  (U:∀ρ,Fa L ρ->∀s':St,(pure=false->∀x o,(BA (Az (l0++bks)) s).E x=some o->s'.E x=some o)->Yl P ⟨d,op,ty,p,af,g⟩ ρ s' v)
  (Y:FU J Q b n ds ops k cs (Az xl) (Az (l0++bks)) (Az l0) fuel (Bm listed i) (AB L d v) s) (Z:Ks ops listed xl pure i=true:=by decide+kernel):FU J Q b n ds ops k cs (Az xl) (Az (l0++bks)) (Az l0) (fuel+1) listed L s:=by
 let⟨ac,ag,ai⟩:=Q3 O;exact JB.val i pure ac Z K ag ai U Y
def S2(n:Nat)(L:Env)(ops:Ao_)(i:Nat):Option Env:=
 match Kr ops.toList i with
 | some ⟨d,op,ty,p,af,g⟩=>match AY L ops ⟨d,op,ty,p,af,g⟩ with
  | some true=>match Bu n d with
   | true=>match L3 L op with
    | some v=>match d with
     | some d=>some ((d,v)::L)
     | none=>some L
    | none=>none
   | false=>none
  | _=>none
 | none=>none
theorem cd{i:Nat}(h:S2 n L ops i=some L'):∃o v,ops[i]?=some o/\Bu n o.dst=true/\AY L ops o=some true/\L3 L o.op=some v/\L'=AB L o.dst v:=by
 unfold S2 at h;split at h
 .rename_i d op ty p af g K;rw[Mt,qU] at K;split at h
  .rename_i hw;split at h
   .rename_i O;split at h
    .rename_i v U;refine⟨_,v,K,O,hw,U,?_⟩;cases d with
     | none=>cases h;rfl
     | some d=>cases h;rfl
    .cases h
   .cases h
  .cases h
 .cases h
theorem AV(i:Nat)(K:s.q=false)(h:S2 n L ops i=some L')
  (O:FU J Q b n ds ops k cs (Az xl) (Az (l0++bks)) (Az l0) fuel (Bm listed i) L' s) (U:Ks ops listed xl true i=true:=by decide+kernel):FU J Q b n ds ops k cs (Az xl) (Az (l0++bks)) (Az l0) (fuel+1) listed L s:=by
 obtain⟨o,v,Y,Z,hw,ac,rfl⟩:=cd h;exact JB.val i true Y U K hw Z (λρ ag s' _=>O0 ag ac) O
end
variable {i2:Nat}
variable {d2:Option Tmp}{x2:Operand}{t2 ty2:TypeId}{p2:String}{af2:Ae_}{g2:On_}
section
variable {b:Frame}{i:Nat}
variable {x y:Operand}{e:TypeId}
theorem DX(O:Au E H S)(h:∀r E',Le E E'->At E' r 0 v.cells.toList->Au E' H (S++ [[]])->JL J Q b n (AB L d (.pointer (some ⟨r,0,none⟩))) ds (.inRegion ops rest::k) cs (Ak E' H (S++ [[]])))
  (U:Fu b n L ops i=some ⟨d,.box e x,ty,p,af,g⟩:=by exact rfl) (Y:ev L x=some v:=by exact rfl):JL J Q b n L ds (.inRegion ops (i::rest)::k) cs (Ak E H S):=by
 let⟨Z,ac,ag⟩:=Lw U;refine JS.box Z ac ag O Y λr ai=>Dl (bk:=r) (c:=v.cells) (e:=e) (f:=(0,0)) S.length ai (by simp) λE' hle al K=>?_;have am:(S++ [[(r,Obj.cells v.cells e (0,0))]]).set S.length []=S++ [[]]:=by simp
 rw[am] at K ⊢;exact h r E' hle al K
theorem B3{z:Value}(K:Au E H S)(O:zeroOf P e=some z)(h:∀r,Au E H (S++ [[(r,.cells z.cells e (0,0))]])->JL J Q b n (AB L d (.pointer (some ⟨r,0,none⟩))) ds (.inRegion ops rest::k) cs (Ak E H (S++ [[(r,.cells z.cells e (0,0))]])))
  (U:Fu b n L ops i=some ⟨d,.alloc e,ty,p,af,g⟩:=by exact rfl):JL J Q b n L ds (.inRegion ops (i::rest)::k) cs (Ak E H S):=by
 let⟨Y,Z,ac⟩:=Lw U;exact JS.alloc Y Z ac K O h
theorem JS.sx{bk:Nat}{c:Av_}(j:Nat)(K:Au E H S)(O:Bz P t=some sz)
  (h:Au E H (S.set j [(bk,.cells (A9 c off v.cells.toList) e (0,0))])->JL J Q b n (AB L d undef) ds (.inRegion ops rest::k) cs (Ak E H (S.set j [(bk,.cells (A9 c off v.cells.toList) e (0,0))])))
  (U:Fu b n L ops i=some ⟨d,.store t x y,ty,p,af,g⟩:=by exact rfl) (Y:ev L x=some (.pointer (some ⟨bk,off,none⟩)):=by exact rfl) (Z:ev L y=some v:=by exact rfl) (ac:S[j]?=some [(bk,.cells c e (0,0))]:=by exact rfl)
  (ag:sz=v.cells.size:=by exact rfl) (hle:off+v.cells.size<=c.size:=by exact pY rfl) (ai:v.cells.toList.all CM=true:=by first | exact rfl | simp[Value.cells,CM]):
  JL J Q b n L ds (.inRegion ops (i::rest)::k) cs (Ak E H S):=Sm j K (by rw[← ag];exact O) U Y Z ac h hle (qs.1 ai)
theorem Cg{bk o:Nat}{O:Array Field}{ws:Lv_}(j:Nat)(Y:At E bk o ws)(Z:P.underlying t=some (.struct O))(ac:Bz P ft=some (sz+1))(ag:DY P t2=some false)
  (ai:JL J Q b n (AB (AB L d (.pointer (some ⟨bk,c2+off,none⟩))) d2 v) ds (.inRegion ops rest::k) cs (Ak E H S))
  (al:Fu b n L ops i=some ⟨d,.fieldAddr t x U,ty,p,af,g⟩:=by exact rfl) (am:ev L x=some (.pointer (some ⟨bk,c2,none⟩)):=by exact rfl) (ap:ND O U=some (off,ft):=by exact rfl)
  (aq:Fu b n (AB L d (.pointer (some ⟨bk,c2+off,none⟩))) ops i2=some ⟨d2,.load t2 x2,ty2,p2,af2,g2⟩:=by exact rfl) (av:ev (AB L d (.pointer (some ⟨bk,c2+off,none⟩))) x2=some (.pointer (some ⟨bk,o+j,none⟩)):=by exact rfl) (aw:ws[j]?=some v:=by exact rfl):
  JL J Q b n L ds (.inRegion ops (i::i2::rest)::k) cs (Ak E H S):=JL.fd Z ac al am ap (Dw j Y ag aq av aw ai)
theorem JS.ix{α:Type}{pp:Rp α}{a:Option Addr}{c:Nat}{xs:List α}{xv:α}{m:Int}{kd:IntKind}(K:Ao pp E a c xs)(hm:ix xs m=some xv)(O:P.underlying t=some (.slice e))(U:Bz P e=some pp.n)
  (h:∀bk o ws,pp.r E ws xv->At E bk o ws->JL J Q b n (AB L d (.pointer (some ⟨bk,o,none⟩))) ds (.inRegion ops rest::k) cs (Ak E H S))
  (Y:Fu b n L ops i=some ⟨d,.indexAddr t x y,ty,p,af,g⟩:=by exact rfl) (Z:ev L x=some (.slice a xs.length c):=by exact rfl) (ac:ev L y=some (.int kd m):=by exact rfl):
  JL J Q b n L ds (.inRegion ops (i::rest)::k) cs (Ak E H S):=by
 let⟨ag,ai,al⟩:=Lw Y;exact VW K hm ag ai al Z ac O U h
theorem Fo(S0:List Seg)(K:Env){c:Code}(O:∀E',Le E E'->Au E' H S0->JL J Q b n K ds todo cs (Ak E' H S0))
  (h:(∀{E':LH}{L:Env},Le E E'->Au E' H S0->IZ L K=I5 K->JL J Q b n L ds todo cs (Ak E' H S0))->JL J Q b n L ds (.code c::todo) cs (Ak E H S)):JL J Q b n L ds (.code c::todo) cs (Ak E H S):=
 h λU Y Z=>AH (O _ U Y) Z
theorem FR{O:List Nat}(U Y:Nat)(S0:List Seg)(K:Env)(Z:∀E',Le E E'->Au E' H S0->JL J Q b n K ds (.inRegion ops (List.range' U Y)::todo) cs (Ak E' H S0))
  (h:(∀{E':LH}{L:Env},Le E E'->Au E' H S0->IZ L K=I5 K->JL J Q b n L ds (.inRegion ops (List.range' U Y)::todo) cs (Ak E' H S0))->JL J Q b n L ds (.inRegion ops O::todo) cs (Ak E H S)):JL J Q b n L ds (.inRegion ops O::todo) cs (Ak E H S):=
 h λac ag ai=>AH (Z _ ac ag) ai
theorem EH{ac:Type}{c:Code}{body:β->Option (Bt β ac)}{f:Nat}{U:β}{a:ac}{Y:LH}{k:Li_}(ai:iter body f U=some a)(S0:β->List Seg)(O:β->Env)(hle:Le Y E)(al:Au E H (S0 U))
  (round:∀x E',Le Y E'->Au E' H (S0 x)->(∀ag,body x=some (.done ag)->ag=a)->(∃st,body x=some st)->(∀{L':Env}{Z:LH}(x':β),Le Y Z->Au Z H (S0 x')->IZ L' (O x')=I5 (O x')->body x=some (.more x')->JL J Q b n L' ds (.inLoop c::k) cs (Ak Z H (S0 x')))->JL J Q b n (O x) ds (.code c:: .inLoop c::k) cs (Ak E' H (S0 x)))
  (am:IZ L (O U)=I5 (O U):=by exact rfl) (ap:Ak E H S=Ak E H (S0 U):=by exact rfl):JL J Q b n L ds (.code (.loop c)::k) cs (Ak E H S):=by
 rw[ap];refine EZ _ am (U6 ai (λL s x=>∃E',Jm Y H E' (S0 x) (O x) L s) ⟨E,V,V,hle,al⟩ ?_);rintro _ _ x ⟨E',rfl,rfl,aq,av⟩ hd hb aw;exact round x E' aq av hd hb λx' g1 g2 ay az=>AH (aw _ _ x' ⟨_,V,V,g1,g2⟩ az) ay
theorem Bs{c:Code}{E:LH}{B:Seg}(O:P.funcs[f]?=some fn)
  (h:∀(Q:Gs_) (K:Frame) (cs:Lf_) (H:LH),Au E H [B]->(∀{v:Value}{E':LH}{S':List Seg}{B':Seg},Le E E'->S'.flatten=B'->R v E' B'->Au E' H S'->J.ok Q (G (K.finish v) cs) (Ak E' H S'))->JL J Q (base f) fn.ntmps (GR 0 vs) [] [.code c] (K::cs) (Ak E H [B]))
  (hb:fn.body=some c:=by exact rfl) (U:Nat.ble vs.length fn.ntmps=true:=by exact rfl):AW J f vs E B R:=
 MA O hb U λQ K cs H Y Z=>h Q K cs H Y λac ag ai al=>Z _ _ _ _ ac ag ai al
variable {fuel:Nat}{listed:Array Bool}
theorem HV{bk:Nat}{c:Av_}{f:Nat×Nat}(i:Nat)(K:EB ops m=true)(o:Nat)(j:Nat)(O:Au E H S)(U:DY P t=some false)
  (Y:AZ J Q b n ds ops k cs m (Az bks) fuel (Bm listed i) (AB L d w) (Ak E H S)) (Z:Hy n L ops i=some ⟨d,.load t x,ty,p,af,g⟩:=by exact rfl) (ac:ev L x=some (.pointer (some ⟨bk,o,none⟩)):=by exact rfl)
  (ag:S[j]?=some [(bk,.cells c e f)]:=by exact rfl) (hw:c[o]?=some w:=by exact rfl) (ai:Az bks bk=true:=by simp[Az]) (al:GY ops listed m i=true:=by decide+kernel):AZ J Q b n ds ops k cs m (Az bks) (fuel+1) listed L (Ak E H S):=
 AS i K V Z (λρ h s' am=>Yl.load U (h _ _ ac) (BP (o:=o) j O ag ai am hw)) Y al
theorem JG.lp{bk o:Nat}{ws:Lv_}(i:Nat)(K:EB ops m=true)(j:Nat)(O:At E bk o ws)(U:Au E H S)(Y:Hv S bks)(Z:DY P t=some false)
  (ac:AZ J Q b n ds ops k cs m (Az bks) fuel (Bm listed i) (AB L d w) (Ak E H S)) (ag:Hy n L ops i=some ⟨d,.load t x,ty,p,af,g⟩:=by exact rfl) (ai:ev L x=some (.pointer (some ⟨bk,o+j,none⟩)):=by exact rfl)
  (hw:ws[j]?=some w:=by exact rfl) (al:GY ops listed m i=true:=by decide+kernel):AZ J Q b n ds ops k cs m (Az bks) (fuel+1) listed L (Ak E H S):=
 AS i K V ag (λρ h s' am=>Yl.load Z (h _ _ ai) (At.JF (j:=j) O (W0 U am Y) hw)) ac al
theorem W2{bk o:Nat}{c:Av_}{f:Nat×Nat}(i:Nat)(K:EB ops m=true)(vs:Lv_)(j:Nat)(O:Au E H S)(hw:∀(q:Nat) w,vs[q]?=some w->c[o+q]?=some w)(U:DY P t=some true)(Y:Bz P t=some sz)
  (Z:AZ J Q b n ds ops k cs m (Az bks) fuel (Bm listed i) (AB L d (.agg vs.toArray)) (Ak E H S)) (ac:Hy n L ops i=some ⟨d,.load t x,ty,p,af,g⟩:=by exact rfl) (ag:ev L x=some (.pointer (some ⟨bk,o,none⟩)):=by exact rfl)
  (ai:S[j]?=some [(bk,.cells c e f)]:=by exact rfl) (al:sz=vs.length:=by exact rfl) (am:Az bks bk=true:=by simp[Az]) (ap:GY ops listed m i=true:=by decide+kernel):AZ J Q b n ds ops k cs m (Az bks) (fuel+1) listed L (Ak E H S):=
 AS i K V ac (λρ h s' aq=>IV (vs:=vs) U (by rw[← al];exact Y) (h _ _ ag) (λq w av=>by rw[Et rfl];exact BP j O ai am aq (hw q w av))) Z ap
theorem JG.ix{D:Nat->Bool}{α:Type}{xs:List α}{xv:α}{bk c:Nat}{kd:IntKind}(i:Nat)(U:EB ops m=true)(Y:xs.length=c2)(hm:ix xs p1=some xv)(Z:P.underlying t=some (.slice e))(ac:Bz P e=some sz)
  (ag:AZ J Q b n ds ops k cs m D fuel (Bm listed i) (AB L d (.pointer (some ⟨bk,p1.toNat*sz,none⟩))) s) (ai:s.q=false:=by exact rfl) (al:Hy n L ops i=some ⟨d,.indexAddr t x y,ty,p,af,g⟩:=by exact rfl)
  (am:ev L x=some (.slice (some ⟨bk,0,none⟩) c2 c):=by exact rfl) (ap:ev L y=some (.int kd p1):=by exact rfl) (aq:GY ops listed m i=true:=by decide+kernel):AZ J Q b n ds ops k cs m D (fuel+1) listed L s:=
 AS i U ai al (λρ h s' av=>EN Y hm Z ac (h _ _ am) (h _ _ ap)) ag aq
theorem JB.ix{l0 bks:List Nat}{α:Type}{xs:List α}{xv:α}{bk c:Nat}{kd:IntKind}(i:Nat)(U:xs.length=c2)(hm:ix xs p1=some xv)(Y:P.underlying t=some (.slice e))(Z:Bz P e=some sz)
  (ac:FU J Q b n ds ops k cs (Az xl) (Az (l0++bks)) (Az l0) fuel (Bm listed i) (AB L d (.pointer (some ⟨bk,p1.toNat*sz,none⟩))) s) (ag:s.q=false:=by exact rfl) (ai:Hy n L ops i=some ⟨d,.indexAddr t x y,ty,p,af,g⟩:=by exact rfl)
  (al:ev L x=some (.slice (some ⟨bk,0,none⟩) c2 c):=by exact rfl) (am:ev L y=some (.int kd p1):=by exact rfl) (ap:Ks ops listed xl true i=true:=by decide+kernel):FU J Q b n ds ops k cs (Az xl) (Az (l0++bks)) (Az l0) (fuel+1) listed L s:=
 Ew i true ag ai (λρ h s' aq=>EN U hm Y Z (h _ _ al) (h _ _ am)) ac ap
theorem Xd{l0:List Nat}{bk o:Nat}{c:Av_}{f:Nat×Nat}(i:Nat)(vs:Lv_)(j:Nat)(K:Au E H S)(hw:∀(q:Nat) w,vs[q]?=some w->c[o+q]?=some w)(O:DY P t=some true)(U:Bz P t=some sz)
  (Y:FU J Q b n ds ops k cs (Az xl) (Az (l0++bks)) (Az l0) fuel (Bm listed i) (AB L d (.agg vs.toArray)) (Ak E H S)) (Z:Hy n L ops i=some ⟨d,.load t x,ty,p,af,g⟩:=by exact rfl) (ac:ev L x=some (.pointer (some ⟨bk,o,none⟩)):=by exact rfl)
  (ag:S[j]?=some [(bk,.cells c e f)]:=by exact rfl) (ai:sz=vs.length:=by exact rfl) (al:Az (l0++bks) bk=true:=by simp[Az]) (am:Ks ops listed xl false i=true:=by decide+kernel):FU J Q b n ds ops k cs (Az xl) (Az (l0++bks)) (Az l0) (fuel+1) listed L (Ak E H S):=
 Ew i false V Z (λρ h s' ap=>IV (vs:=vs) O (by rw[← ai];exact U) (h _ _ ac) (λq w aq=>by rw[Et rfl];exact BP j K ag al (ap rfl) (hw q w aq))) Y am
theorem JB.sx{l0 bks:List Nat}{bk:Nat}{c:Av_}(i j:Nat)(K:Au E H S)(O:Bz P t=some sz)(U:N5 S j l0)(hle:off+sz<=c.size)
  (h:Au E H (S.set j [(bk,.cells (A9 c off v.cells.toList) e (0,0))])->FU J Q b n ds ops k cs (Az xl) (Az (l0++bks)) (Az l0) fuel (Bm listed i) (AB L d undef) (Ak E H (S.set j [(bk,.cells (A9 c off v.cells.toList) e (0,0))])))
  (Y:Hy n L ops i=some ⟨d,.store t x y,ty,p,af,g⟩:=by exact rfl) (Z:ev L x=some (.pointer (some ⟨bk,off,none⟩)):=by exact rfl) (ac:ev L y=some v:=by exact rfl) (ag:S[j]?=some [(bk,.cells c e (0,0))]:=by exact rfl)
  (ai:sz=v.cells.size:=by exact rfl) (al:v.cells.toList.all CM=true:=by first | exact rfl | simp[Value.cells,CM]) (am:Region.ready .any ops listed=[i]:=by decide+kernel) (ap:Az xl i=true:=by decide+kernel):
  FU J Q b n ds ops k cs (Az xl) (Az (l0++bks)) (Az l0) (fuel+1) listed L (Ak E H S):=by
 let⟨aq,av,aw⟩:=Q3 Y;subst ai;exact JB.store i j am ap aq av aw K Z ac O (qs.1 al) ag U hle h
end
abbrev s8(s:Nat):Value:=.int .u8 (s:Int)
def MG(a:Nat)(n:Int):Option Nat:=if 0<=n/\n<=8 then some (a>>>n.toNat) else none
def L4(a b:Nat):Option Nat:=if a<256/\b<256 then some (a|||b) else none
def MJ(a b:Nat):Option Nat:=if a<256/\b<256 then some (a&&& b) else none
variable {a c:Nat}
section
variable {x y:Operand}{b r:Nat}{m:Int}
theorem WW{m:Nat}(h:m<256):IntKind.u8.wrap (m:Int)=m:=by
 simp only[IntKind.wrap,IntKind.bits,IntKind.signed];simp;omega
theorem Qv{m:Nat}(h:m<256):(BitVec.ofInt IntKind.u8.bits (m:Int)).toNat=m:=by
 simp[IntKind.bits,tO];omega
theorem jD{k:Nat}(a c:Nat)(K:c<=k):((a:Int).fdiv (2^(min c k)))=((a>>>c:Nat):Int):=by
 rw[sk K,sy,so _ (Int.pow_nonneg (by decide)),Int.natCast_ediv]
 rfl
theorem UL(K:ρ x=s8 a)(O:ρ y=iV m)(h:MG a m=some r):Yl P ⟨d,.binOp .shr t x y u,ty,p,af,g⟩ ρ s (s8 r):=by
 unfold MG at h;split at h;rename_i U;cases h;have h:=Yl.shr (P:=P) (s:=s) (d:=d) (t:=t) (u:=u) (ty:=ty) (p:=p) (af:=af) (g:=g) K O U.1;rw[show IntKind.u8.bits=8 from rfl,jD a m.toNat (by omega)] at h;exact h;cases h
theorem OU(O:ρ x=s8 a)(U:ρ y=s8 b)(h:L4 a b=some r):Yl P ⟨d,.binOp .or t x y u,ty,p,af,g⟩ ρ s (s8 r):=by
 unfold L4 at h;split at h;rename_i K;cases h;have h:=Yl.or (P:=P) (s:=s) (d:=d) (t:=t) (u:=u) (ty:=ty) (p:=p) (af:=af) (g:=g) O U;rw[uc,Qv K.1,Qv K.2,WW (sS (n:=8) K.1 K.2)] at h;exact h;cases h
theorem UC(O:ρ x=s8 a)(U:ρ y=s8 b)(h:MJ a b=some r):Yl P ⟨d,.binOp .and t x y u,ty,p,af,g⟩ ρ s (s8 r):=by
 unfold MJ at h;split at h;rename_i K;cases h;have h:=Yl.and (P:=P) (s:=s) (d:=d) (t:=t) (u:=u) (ty:=ty) (p:=p) (af:=af) (g:=g) O U;rw[sZ,Qv K.1,Qv K.2,WW (rW ud K.1)] at h;exact h;cases h
end
def PS(a b:Nat):Option Nat:=if a<4294967296/\b<4294967296 then some (a&&& b) else none
def P5(a b:Nat):Option Nat:=if a<4294967296/\b<4294967296 then some (a|||b) else none
def RZ(a:Nat)(n:Int):Option Nat:=if 0<=n/\n<=32/\a*2^n.toNat<4294967296 then some (a*2^n.toNat) else none
def Jb(n:Int):Option Nat:=if 0<=n/\n<=8 then some ((1<<<n.toNat)%256) else none
section
variable {e:TypeId}{x y:Operand}{b r:Nat}{m:Int}
theorem wrap32{m:Nat}(h:m<4294967296):IntKind.u32.wrap (m:Int)=m:=by
 simp only[IntKind.wrap,IntKind.bits,IntKind.signed];simp;omega
theorem Qo{m:Nat}(h:m<4294967296):(BitVec.ofInt IntKind.u32.bits (m:Int)).toNat=m:=by
 simp[IntKind.bits,tO];omega
theorem Zr(O:ρ x=.int .u32 (a:Int))(U:ρ y=.int .u32 (b:Int))(h:PS a b=some r):Yl P ⟨d,.binOp .and t x y u,ty,p,af,g⟩ ρ s (.int .u32 (r:Int)):=by
 unfold PS at h;split at h;rename_i K;cases h;have h:=Yl.and (P:=P) (s:=s) (d:=d) (t:=t) (u:=u) (ty:=ty) (p:=p) (af:=af) (g:=g) O U;rw[sZ,Qo K.1,Qo K.2,wrap32 (rW ud K.1)] at h;exact h;cases h
theorem bh(O:ρ x=.int .u32 (a:Int))(U:ρ y=.int .u32 (b:Int))(h:P5 a b=some r):Yl P ⟨d,.binOp .or t x y u,ty,p,af,g⟩ ρ s (.int .u32 (r:Int)):=by
 unfold P5 at h;split at h;rename_i K;cases h;have h:=Yl.or (P:=P) (s:=s) (d:=d) (t:=t) (u:=u) (ty:=ty) (p:=p) (af:=af) (g:=g) O U;rw[uc,Qo K.1,Qo K.2,wrap32 (sS (n:=32) K.1 K.2)] at h;exact h;cases h
theorem Zv(O:ρ x=.int .u32 (a:Int))(U:ρ y=iV m)(h:RZ a m=some r):Yl P ⟨d,.binOp .shl t x y u,ty,p,af,g⟩ ρ s (.int .u32 (r:Int)):=by
 unfold RZ at h;split at h
 .rename_i K;cases h;have h:=Yl.shl (P:=P) (s:=s) (d:=d) (t:=t) (u:=u) (ty:=ty) (p:=p) (af:=af) (g:=g) O U K.1;have e:IntKind.u32.wrap ((a:Int)*2^(min m.toNat IntKind.u32.bits))=((a*2^m.toNat:Nat):Int):=by
   have Y:min m.toNat IntKind.u32.bits=m.toNat:=by simp[IntKind.bits];omega
   rw[Y,← wrap32 K.2.2];simp
  rw[e] at h;exact h
 .cases h
theorem Nn(K:ρ x=s8 1)(O:ρ y=iV m)(h:Jb m=some r):Yl P ⟨d,.binOp .shl t x y u,ty,p,af,g⟩ ρ s (s8 r):=by
 unfold Jb at h;split at h
 .rename_i U;cases h;have h:=Yl.shl (P:=P) (s:=s) (d:=d) (t:=t) (u:=u) (ty:=ty) (p:=p) (af:=af) (g:=g) K O U.1;have e:IntKind.u8.wrap (((1:Nat):Int)*2^(min m.toNat IntKind.u8.bits))=(((1<<<m.toNat)%256:Nat):Int):=
   (by decide:∀k:Fin 9,IntKind.u8.wrap (((1:Nat):Int)*2^(min k.1 IntKind.u8.bits))=(((1<<<k.1)%256:Nat):Int)) ⟨m.toNat,by omega⟩
  rw[e] at h;exact h
 .cases h
theorem aK(K:ρ x=s8 a)(O:ρ y=s8 b)(hb:b<=256):Yl P ⟨d,.binOp .sub t x y u,ty,p,af,g⟩ ρ s (s8 ((a+(256 - b))%256)):=by
 have h:=Yl.sub (P:=P) (s:=s) (d:=d) (t:=t) (u:=u) (ty:=ty) (p:=p) (af:=af) (g:=g) K O;have e:IntKind.u8.wrap ((a:Int) - (b:Int))=(((a+(256 - b))%256:Nat):Int):=by
  simp only[IntKind.wrap,IntKind.bits,IntKind.signed];simp;omega
 rw[e] at h;exact h
theorem cD{kd:IntKind}{E:LH}(xs:List Nat):(rA xs.length (rN kd)).r E (xs.map λx=>Value.int kd ((x:Nat):Int)) xs:=by
 refine⟨V,xs.map λx=>[Value.int kd ((x:Nat):Int)],?_,by simp,λi x us K hu=>?_⟩
 .induction xs with
  | nil=>rfl
  | cons x xs O=>simp[← O]
 .rw [qI,K] at hu;exact(f6 hu).symm
theorem O9{α:Type}{kk:Nat}{pp:Rp α}{E:LH}{x:α}(h:pp.r E us x):(rA kk pp).r E (List.replicate kk us).flatten (List.replicate kk x):=
 ⟨by simp,List.replicate kk us,V,by simp,λi y ws K hw=>by
  rw[tn] at K hw
  split at K
  .rename_i O
   rw[d7 O] at hw
   cases K;cases hw
   exact h
  .cases K⟩
theorem US{k:Nat}{z v:Value}(K:P.underlying t=some (.array k e))(O:zeroOf P t=some z)(U:Bz P e=some sz)(Y: .agg z.cells=v):Yl P ⟨d,.build t #[],ty,p,af,g⟩ ρ s v:=by
 refine F1 Q9 ?_;unfold Instr.build;refine AA (x:=zeroValue t) _ (Ik O ?_);refine AA _ _ (CE K ?_);refine AA (x:=Go.sizeOf e) _ (FA U ?_);subst Y;simp[Instr.fill,lp,pure]
theorem cI{k:Nat}{z v:Value}{L:Env}{ps:Array (Nat×Operand)}{vs:List (Nat×Value)}(h:Fa L ρ)(U:P.underlying t=some (.array k e))(Y:zeroOf P t=some z)(Z:Bz P e=some sz)(ac:ps.toList.mapM (λq=>(ev L q.2).map λv=>(q.1,v))=some vs)(K:(Instr.fill (λi=>some (i*sz,sz)) z.cells vs).map Value.agg=some v):Yl P ⟨d,.build t ps,ty,p,af,g⟩ ρ s v:=by
 refine F1 Q9 ?_;unfold Instr.build;refine AA (x:=zeroValue t) _ (Ik Y ?_);refine AA _ _ (CE U ?_);refine AA (x:=Go.sizeOf e) _ (FA Z ?_);have ag:=Q7 h ac;have ai:(ps.map λ(j,x)=>(j,ρ x)).toList=vs:=by rw[← ag,ts]
 rw[ai];cases O:Instr.fill (λi=>some (i*sz,sz)) z.cells vs with
 | none=>rw[O] at K;cases K
 | some cells=>rw[O] at K;cases K;exact⟨rfl,rfl⟩
end
section
variable {e:TypeId}
end
theorem UA{r:Seg}{S:List Seg}(U:j<S.length)(Y:j≠jr)(K:S[jr]?=some r)(Z:(A1++r).Perm (g'++r0)):(S.set j A1).flatten.Perm (((S.set j g').set jr r0)).flatten:=by
 have h:=Vl (g':=g') (r0:=r0) U Y K Z;refine h.trans ?_;have ac:((S.set j g').set jr r0)[jr]?=some r0:=by
  rw[qM];rw[qa];exact(d0.1 K).1
 have O:=(Dm (seg':=([]:Seg)) ac).1;rw[rJ] at O;rw[Gh];exact O.symm
section
variable {b:Frame}{fuel:Nat}{listed:Array Bool}
variable {x y:Operand}{e:TypeId}{i:Nat}
end
def HD(b:Frame)(T:Av_)(ds:Ld_)(todo:Li_)(ch:List PanicEntry):Frame:={b with tmps:=T,todo:=todo,defers:=ds,mode:=.panicking ch}
def raised(v:Value):List PanicEntry:=[{v,recovered:=false}]
def taken(v:Value):List PanicEntry:=[{v,recovered:=true}]
section
variable (J:Judge P)(Q:Gs_)
def JP(b:Frame)(n:Nat)(L:Env)(ds:Ld_)(cs:Lf_)(ch:List PanicEntry)(s:St):Prop:=
 ∀T,Has n L T->∀todo,J.ok Q (G (HD b T ds todo ch) cs) s
end
variable {bc:Frame}{dsc:Ld_}{ch:List PanicEntry}{T Tc:Av_}{todoc:Li_}
section
variable {b:Frame}
variable {i:Nat}{x:Operand}
theorem JL.panic{t:TypeId}(O:ops[i]?=some ⟨d,.panic x,ty,p,af,g⟩)(U:b.roundOf=none)(hw:AY L ops ⟨d,.panic x,ty,p,af,g⟩=some true)(Y:ev L x=some (.iface t v))
  (h:JP J Q b n L ds cs (raised (.iface t v)) s):JL J Q b n L ds (.inRegion ops (i::rest)::k) cs s:=λT K=>
 Judge.DO V (λw=>by
  have he:execOp (BK T) ⟨d,.panic x,ty,p,af,g⟩=.halt (.panic (.iface t v)):=by
   simp[execOp,Instr.panic,K.ev Y,goPanic,bind,Sem.bind]
  rw[stepG_op O (Cl K hw)]
  simp[U,stepG.apply,he,Sem.run,Sem.runT,Sem.events,GStep.after,fr,HD,Frame.raise,G,raised,seen_none]) (h T K (.inRegion ops (i::rest)::k))
theorem JP.pop(K:P.funcs[b.fn]?=some fn)(h:J.ok Q (G (HD bc Tc dsc todoc ch) cs) s):JP J Q b n L [] (fr bc Tc dsc todoc::cs) ch s:=λT O todo=>
 Judge.DO V (λw=>by simp[G,stepG,unwind,HD,fr,Frame.raise,Frame.catches,K]) h
theorem JP.Sf{c:Code}{caps:Lv_}(am:b.roundOf=none)(O:P.funcs[f]?=some fn)(Y:(fn.name== "runtime.NumGoroutine")=false)(hb:fn.body=some c)(Z:(vs++caps).length<=fn.ntmps)
  (h:∀T,Has n L T->∀todo,JL J Q (baseD f) fn.ntmps (GR 0 (vs++caps)) [] [.code c] (HD b T ds todo ch::cs) s):JP J Q b n L (L5 f vs.toArray caps.toArray::ds) cs ch s:=λT ac todo=>by
 have ag:¬fn.name= "runtime.NumGoroutine" :=by simpa using Y
 refine Judge.DO rfl (λw=>?_) (h T ac todo ((vs++caps).toArray++Array.replicate (fn.ntmps - (vs++caps).length) undef) ⟨by simp;simp at Z;omega,λt v ai=>?_⟩);rw[BY (b:=baseD f) rfl];have:=enter_atD (P:=P) (vs++caps).toArray O hb;simp only[r7] at this;rw[← this];simp[G,stepG,unwind,callDeferred,HD,L5,invoke,callFunc,O,ag,hb,GStep.after,seen_none]
 .let⟨_,K⟩:=KI ai;have al:t<(vs++caps).length:=by
   rcases gD t (vs++caps).length with U | U;exact U;simp only[sg] at K;have:=(d0.1 K).1;omega
  rw[gR,rh (by simpa using al)];simp only[sg] at K;rw[qE,K];rfl
theorem X1{K:List PanicEntry}(O:ops[i]?=some ⟨d,.call ⟨.builtin .recover,#[],ats⟩,ty,p,af,g⟩)(U:b.roundOf=none)(Y:b.kind=.deferred)(ag:Bu n d=true)(hw:AY L ops ⟨d,.call ⟨.builtin .recover,#[],ats⟩,ty,p,af,g⟩=some true)
  (h:JL J Q b n (AB L d v) ds (.inRegion ops rest::k) (HD bc Tc dsc todoc ({v,recovered:=true}::K)::cs) s):
  JL J Q b n L ds (.inRegion ops (i::rest)::k) (HD bc Tc dsc todoc ({v,recovered:=false}::K)::cs) s:=λT Z=>
 Judge.DO V (λw=>by
  have he:execOp (BK T) ⟨d,.call ⟨.builtin .recover,#[],ats⟩,ty,p,af,g⟩=.pure .recover:=by
   simp[execOp,resolve,Deferred.ofValue,invoke,bind,Sem.bind,pure,Go.builtin]
  have ac:=G9 (b:=b) (ds:=ds) (k:=k) T ops i rest v _ O
  simp only[fr,U,Y] at ac
  rw[stepG_op O (Cl Z hw)]
  simp[U,Y,stepG.apply,he,Sem.run,Sem.runT,Sem.events,GStep.after,fr,HD,tryRecover,G,seen_none,ac]) (h _ (Z.put ag _))
theorem X9(K:ops[i]?=some ⟨d,.call ⟨.builtin .recover,#[],ats⟩,ty,p,af,g⟩)(O:b.roundOf=none)(U:b.kind=.deferred)(ac:Bu n d=true)(hw:AY L ops ⟨d,.call ⟨.builtin .recover,#[],ats⟩,ty,p,af,g⟩=some true)
  (h:JL J Q b n (AB L d .nilIface) ds (.inRegion ops rest::k) (EP bc Tc dsc todoc::cs) s):
  JL J Q b n L ds (.inRegion ops (i::rest)::k) (EP bc Tc dsc todoc::cs) s:=λT Y=>
 Judge.DO V (λw=>by
  have he:execOp (BK T) ⟨d,.call ⟨.builtin .recover,#[],ats⟩,ty,p,af,g⟩=.pure .recover:=by
   simp[execOp,resolve,Deferred.ofValue,invoke,bind,Sem.bind,pure,Go.builtin]
  have Z:=G9 (b:=b) (ds:=ds) (k:=k) T ops i rest .nilIface _ K
  simp only[fr,O,U] at Z
  rw[stepG_op K (Cl Y hw)]
  simp[O,U,stepG.apply,he,Sem.run,Sem.runT,Sem.events,GStep.after,fr,EP,tryRecover,G,seen_none,Z]) (h _ (Y.put ac _))
theorem JO.gf(O:b.kind=.deferred)(U:P.funcs[b.fn]?=some fn)(K:fn.results=#[])(h:J.ok Q (G (EP bc Tc dsc todoc) cs) s):JO J Q b n L [] (HD bc Tc dsc todoc (taken v)::cs) s:=λT Z todo=>by
 refine Judge.DO rfl (λw=>?_) h
 have Y:=results_none K T P w
 have e2:=λ(x:Array Event)=>events_results_none (P:=P) (w:=w) K T x
 simp[G,stepG,unwind,EP,HD,U,Y,e2,doReturn,O,GStep.after,seen_none,taken]
end
open Go.Proofs
abbrev Dq:=Int×Int×Int
abbrev AE:=List Dq
abbrev AL:=List AE
abbrev Bv:=List (List Int)
abbrev Bi:=Bv×AE
abbrev Ay:=rP rI EL
open Go.Proofs.Tryz
def AO:=A2 Tryz.type3
def Bx:=A2 Tryz.type47
def Gu:=A2 Tryz.type129
def IM:=A2 Tryz.type91
def Oo:=A2 Tryz.type208
def Br:=CL Tryz.underlying3
def M1:=A8 Tryz.func42 rfl
def Fj:=A2 Tryz.type25
def Fy:=CL Tryz.underlying25
def Hp:=A2 Tryz.type26
def Jp:=CL Tryz.underlying26
def Eh:=CL Tryz.underlying47
def BT:=DJ Tryz.type47
def Fz:=A2 Tryz.type22
def Jq:=CL Tryz.underlying22
def KD:=DJ Tryz.type91
def CK:=A2 Tryz.type28
def Ic:=CL Tryz.underlying91
def J3:=DJ Tryz.type129
def Ih:=DJ Tryz.type55
def Fi:=CL Tryz.underlying28
def Ef:=A2 Tryz.type55
def F0:=CL Tryz.underlying55
def CJ:=DJ Tryz.type3
def Ll:=A8 Tryz.func21 rfl
def Oh:=A8 Tryz.func44 rfl
def G8:=A8 Tryz.func27 rfl
def M6:=A2 Tryz.type4
def QB:=CL Tryz.underlying4
def A0:=A2 Tryz.type69
def BH:=CL Tryz.underlying69
def Ii:=A2 Tryz.type160
def Ie:=A8 Tryz.func67 rfl
def Mh:=DJ Tryz.type22
def M3:=DJ Tryz.type4
def M0:=A8 Tryz.func59 rfl
def Mf:=DJ Tryz.type216
def Ig:=A8 Tryz.func48 rfl
def QI:=DJ Tryz.type69
def Oc:=CL Tryz.underlying166
def QA:=CL Tryz.underlying64
def QH:=A8 Tryz.func25 rfl
def QD:=A8 Tryz.func143 rfl
def QC:=A8 Tryz.func130 rfl
def Lj:=CL Tryz.underlying219
def On:=A2 Tryz.type219
def Og:=A8 Tryz.func58 rfl
def Li:=CL Tryz.underlying160
def QG:=DJ Tryz.type208
def Oe:=CL Tryz.underlying208
def KF:=A2 Tryz.type116
def Ol:=DJ Tryz.type116
def Ob:=CL Tryz.underlying116
def HJ:=CL Tryz.underlying21
def Ot:=A2 Tryz.type66
def IL:=DJ Tryz.type28
def Ok:=A8 Tryz.func39 rfl
def QE:=A8 Tryz.func63 rfl
def Oi:=A8 Tryz.func29 rfl
def QF:=A8 Tryz.func11 rfl
def Oj:=A8 Tryz.func36 rfl
def KG:=A2 Tryz.type41
def Of:=CL Tryz.underlying41
def J4:=A8 Tryz.func8 rfl
def Om:=A8 Tryz.func9 rfl
def Mg:=DJ Tryz.type87
def Od:=CL Tryz.underlying138
def M5:=A2 Tryz.type138
theorem mixed:Tryz.prog.follows .mixedOrders=true:=rfl
theorem jX:Cm Tryz.prog 47 (rP rI (rP rI rI)) true 2:=Cm.three underlying47 (Cm.int underlying3 AO) (Cm.int underlying3 AO) (Cm.int underlying3 AO) (by decide+kernel) (by decide) (by decide) (by decide) V V V Bx
theorem gk:Cm Tryz.prog 129 (rP rI rI) true 2:=Cm.two underlying129 (Cm.int underlying3 AO) (Cm.int underlying3 AO) (by decide+kernel) (by decide) (by decide) V V Gu
theorem V7:Cm Tryz.prog 91 (rA 5 rI) true 2:=Cm.arr (kk:=5) (Cm.int underlying3 AO) underlying91 IM
theorem ie:Cm Tryz.prog 206 (rA 10 rI) true 2:=Cm.arr (kk:=10) (Cm.int underlying3 AO) underlying206 (A2 type206)
theorem Wc:Cm Tryz.prog 208 (rA 5 (rA 10 rI)) true 3:=Cm.arr (kk:=5) ie underlying208 Oo
theorem gm:Cm Tryz.prog 225 (rP (rN .u8) (rA 5 (rA 10 rI))) true 4:=Cm.two underlying225 ((Cm.nat underlying5 (A2 type5)).up (by decide)) Wc (by decide+kernel) (by decide) (by decide) V V (A2 type225)
theorem JM:Hg Tryz.prog 3 rI false:=(Cm.int underlying3 AO).key (by decide)
theorem R6:Hg Tryz.prog 129 (rP rI rI) true:=gk.key (by decide)
theorem WS:Hg Tryz.prog 208 (rA 5 (rA 10 rI)) true:=Wc.key (by decide)
theorem WT:Hg Tryz.prog 225 (rP (rN .u8) (rA 5 (rA 10 rI))) true:=gm.key (by decide)
end Pal
namespace Pal
open Go Go.Conc Go.Proofs Go.Extern
abbrev FO(t:Nat):Value:=.pointer (some ⟨1,t,none⟩)
abbrev Kt(t:Nat):Value:=.iface 184 (.agg #[FO t])
variable {s:St}{X:Halt->St->Prop}
variable{Q:Value->St->Prop}
theorem X8(t:Addr):lp Tryz.prog (ReflectliteValue.unpack (.iface 89 (.pointer (some t)))) s Q X=(s.q=false/\∀r,s.E r=none->s.H r=none->Q (.agg #[FO 89,.pointer (some ⟨r,0,none⟩),.int .u64 150]) (s.upd r (.cells #[.pointer (some t)] 89 (0,0)))):=by kernel_rfl
theorem Ya(c:Int):lp Tryz.prog (ReflectliteValue.unpack (.iface 87 (.agg #[iV c]))) s Q X=(s.q=false/\∀r,s.E r=none->s.H r=none->Q (.agg #[FO 87,.pointer (some ⟨r,0,none⟩),.int .u64 153]) (s.upd r (.cells #[iV c] 87 (0,0)))):=by kernel_rfl
theorem bY(a:Addr):lp Tryz.prog (ReflectliteValue.methodAny (ReflectliteValue.valueError "reflectlite.Value.Type" 0) (λt _ _ _=>ReflectliteType.toType t) #[.agg #[FO 89,.pointer (some a),.int .u64 150]]) s Q X=Q (Kt 89) s:=by kernel_rfl
theorem YN(v:Value):lp Tryz.prog (ReflectliteType.typeOf #[.iface 87 v]) s Q X=Q (Kt 87) s:=by kernel_rfl
theorem Wl{Q:FuncId×Value->St->Prop}(h:Value):lp Tryz.prog (Go.method (Tryz.prog.types.size+Made.depth) 184 (.agg #[h]) "Kind") s Q X=Q (173,h) s:=by kernel_rfl
theorem gZ{Q:FuncId×Value->St->Prop}(h:Value):lp Tryz.prog (Go.method (Tryz.prog.types.size+Made.depth) 184 (.agg #[h]) "Elem") s Q X=Q (184,.agg #[h]) s:=by kernel_rfl
theorem fC{Q:FuncId×Value->St->Prop}(h:Value):lp Tryz.prog (Go.method (Tryz.prog.types.size+Made.depth) 184 (.agg #[h]) "Implements") s Q X=Q (185,.agg #[h]) s:=by kernel_rfl
theorem j5{Q:FuncId×Value->St->Prop}(h:Value):lp Tryz.prog (Go.method (Tryz.prog.types.size+Made.depth) 184 (.agg #[h]) "AssignableTo") s Q X=Q (182,.agg #[h]) s:=by kernel_rfl
theorem bC:lp Tryz.prog ((ReflectliteType.abiMethod λt=>(λa:Nat=>Value.int IntKind.u8 (a:Int))<$>Rtype.kind t) #[FO 89]) s Q X=Q (.int .u8 22) s:=by kernel_rfl
theorem bu:lp Tryz.prog ((ReflectliteType.abiMethod λt=>(λa:Nat=>Value.int IntKind.u8 (a:Int))<$>Rtype.kind t) #[FO 87]) s Q X=Q (.int .u8 25) s:=by kernel_rfl
theorem aI:lp Tryz.prog (ReflectliteType.method ReflectliteType.elem #[.agg #[FO 89]]) s Q X=Q (Kt 87) s:=by kernel_rfl
theorem ah:lp Tryz.prog (ReflectliteType.relation "Implements" ReflectliteType.implements_ #[.agg #[FO 87],Kt 60]) s Q X=Q (.bool true) s:=by kernel_rfl
theorem dO:lp Tryz.prog (ReflectliteType.relation "AssignableTo" ReflectliteType.assignableTo #[.agg #[FO 87],Kt 87]) s Q X=Q (.bool true) s:=by kernel_rfl
theorem TP{Q:Option (TypeId×Addr×Nat)->St->Prop}(a:Addr):lp Tryz.prog (ReflectliteValue.parts (.agg #[FO 89,.pointer (some a),.int .u64 150])) s Q X=Q (some (89,a,150)) s:=by kernel_rfl
theorem Zx{Q:Option (TypeId×Addr×Nat)->St->Prop}(a:Addr):lp Tryz.prog (ReflectliteValue.parts (.agg #[FO 87,.pointer (some a),.int .u64 153])) s Q X=Q (some (87,a,153)) s:=by kernel_rfl
theorem Yj{Q:Option (TypeId×Addr×Nat)->St->Prop}(a:Addr):lp Tryz.prog (ReflectliteValue.parts (.agg #[FO 87,.pointer (some a),.int .u64 409])) s Q X=Q (some (87,a,409)) s:=by kernel_rfl
theorem db{Q:Option TypeId->St->Prop}:lp Tryz.prog (Rtype.elem? 89) s Q X=Q (some 87) s:=by kernel_rfl
theorem iy(p:Addr):lp Tryz.prog (ReflectliteValue.mk 87 p ReflectliteValue.flagAddr) s Q X=Q (.agg #[FO 87,.pointer (some p),.int .u64 409]) s:=by kernel_rfl
theorem dB{Q:Bool->St->Prop}:lp Tryz.prog (Rtype.directlyAssignable 87 87) s Q X=Q true s:=by kernel_rfl
theorem Uj(a:Addr):lp Tryz.prog (loadVar 89 a) s Q X=(Mode.plain=.plain/\∃v,s.cell? a=some v/\Q v s):=by kernel_rfl
theorem aP(a:Addr):lp Tryz.prog (loadVar 87 a) s Q X=(Mode.plain=.plain/\∃v,s.cell? (a.add 0)=some v/\Q (.agg #[v]) s):=by kernel_rfl
theorem WI:BU Tryz.prog 68 (λargs=>ReflectliteValue.unpack (args.getD 0 (.tuple #[]))):=⟨⟨_,Tryz.func68,by kernel_rfl,by kernel_rfl,by kernel_rfl,by kernel_rfl⟩⟩
theorem gl:BU Tryz.prog 69 (ReflectliteValue.methodAny (ReflectliteValue.valueError "reflectlite.Value.Type" 0) (λt _ _ _=>ReflectliteType.toType t)):=⟨⟨_,Tryz.func69,by kernel_rfl,by kernel_rfl,by kernel_rfl,by kernel_rfl⟩⟩
theorem gB:BU Tryz.prog 70 (ReflectliteValue.method (ReflectliteValue.valueError "reflectlite.Value.IsNil" 0) ReflectliteValue.isNil):=⟨⟨_,Tryz.func70,by kernel_rfl,by kernel_rfl,by kernel_rfl,by kernel_rfl⟩⟩
theorem iP:BU Tryz.prog 110 ReflectliteType.typeOf:=⟨⟨_,Tryz.func110,by kernel_rfl,by kernel_rfl,by kernel_rfl,by kernel_rfl⟩⟩
theorem gj:BU Tryz.prog 111 (ReflectliteValue.method (ReflectliteValue.valueError "reflectlite.Value.Elem" 0) ReflectliteValue.elem):=⟨⟨_,Tryz.func111,by kernel_rfl,by kernel_rfl,by kernel_rfl,by kernel_rfl⟩⟩
theorem fb:BU Tryz.prog 112 ReflectliteValue.set:=⟨⟨_,Tryz.func112,by kernel_rfl,by kernel_rfl,by kernel_rfl,by kernel_rfl⟩⟩
theorem Wj:BU Tryz.prog 173 (ReflectliteType.abiMethod λt=>(λa:Nat=>Value.int IntKind.u8 (a:Int))<$>Rtype.kind t):=⟨⟨_,Tryz.func173,by kernel_rfl,by kernel_rfl,by kernel_rfl,by kernel_rfl⟩⟩
theorem ji:BU Tryz.prog 182 (ReflectliteType.relation "AssignableTo" ReflectliteType.assignableTo):=⟨⟨_,Tryz.func182,by kernel_rfl,by kernel_rfl,by kernel_rfl,by kernel_rfl⟩⟩
theorem iY:BU Tryz.prog 184 (ReflectliteType.method ReflectliteType.elem):=⟨⟨_,Tryz.func184,by kernel_rfl,by kernel_rfl,by kernel_rfl,by kernel_rfl⟩⟩
theorem iX:BU Tryz.prog 185 (ReflectliteType.relation "Implements" ReflectliteType.implements_):=⟨⟨_,Tryz.func185,by kernel_rfl,by kernel_rfl,by kernel_rfl,by kernel_rfl⟩⟩
end Pal
namespace Pal
open Go Go.Conc
variable {P:Program}{J:Judge P}{Q:Gs_}{n:Nat}{L:Env}{ds:Ld_}{k:Li_}{cs:Lf_}{s:St}{ops:Ao_}{rest:List Nat}{v:Value}
variable {d:Option Tmp}{ty:TypeId}{p:String}{af:Ae_}{g:On_}
variable{f:FuncId}{e:Av_->Sem Value}{args:Array Operand}{ats:Array TypeId}{vs:Lv_}
section
variable {b:Frame}{i:Nat}
variable {x:Operand}
theorem TX{args:Av_}{Q:Next->St->Prop}{X:Halt->St->Prop}(he:BU P f e)(h:lp P (e args) s (λv s'=>Q (.value v) s') X):lp P (callFunc f args) s Q X:=by
 obtain⟨fn,K,O,U,Y,Z⟩:=he.h;unfold callFunc;simp only[bind,Sem.bind,program,lp,K,O,U,qe,qY,q1,mark,Y,Z];refine⟨.inr ⟨f,V⟩,?_⟩;exact AA _ _ (Es _ h (λv s' ac=>ac) (λ_ _ ag=>ag))
theorem LS(he:BU P f e)(O:ops[i]?=some ⟨d,.call ⟨.value (.func f),args,ats⟩,ty,p,af,g⟩)(hw:AY L ops ⟨d,.call ⟨.value (.func f),args,ats⟩,ty,p,af,g⟩=some true)(U:BX b n ⟨d,.call ⟨.value (.func f),args,ats⟩,ty,p,af,g⟩=true)(Y:evs L args.toList=some vs)
  (h:lp P (e vs.toArray) s (λv s'=>JL J Q b n (AB L d v) ds (.inRegion ops rest::k) cs s') (λ_ _=>False)):JL J Q b n L ds (.inRegion ops (i::rest)::k) cs s:=by
 refine JL.op O hw U λρ K=>?_;have Z:args.map ρ=vs.toArray:=by
  rw[← Gv K Y];apply rl;simp
 have ac:ρ (.func f)=.func (.func f) #[] #[]:=K _ _ V;simp only[execOp,resolve,bind,Sem.bind,Deferred.ofValue,ac,pure,invoke];have ag: #[]++args.map ρ++ #[]=vs.toArray:=by rw[Z];simp
 rw[ag];exact TX he h
theorem NL{t:TypeId}{K O:Value}{name:String}(he:BU P f e)(hm:∀{s:St}{X:Halt->St->Prop}{Q:FuncId×Value->St->Prop},lp P (Go.method (P.types.size+Made.depth) t K name) s Q X=Q (f,O) s)
  (Y:ops[i]?=some ⟨d,.call ⟨.invoke x name,args,ats⟩,ty,p,af,g⟩) (hw:AY L ops ⟨d,.call ⟨.invoke x name,args,ats⟩,ty,p,af,g⟩=some true) (Z:BX b n ⟨d,.call ⟨.invoke x name,args,ats⟩,ty,p,af,g⟩=true) (ac:ev L x=some (.iface t K)) (ag:evs L args.toList=some vs)
  (h:lp P (e (O::vs).toArray) s (λv s'=>JL J Q b n (AB L d v) ds (.inRegion ops rest::k) cs s') (λ_ _=>False)):JL J Q b n L ds (.inRegion ops (i::rest)::k) cs s:=by
 refine JL.op Y hw Z λρ U=>?_;have ai:args.map ρ=vs.toArray:=by
  rw[← Gv U ag];apply rl;simp
 have al:ρ x=.iface t K:=U _ _ ac;simp only[execOp,resolve,bind,Sem.bind,pure,invoke,al,ai];have am:(#[Value.iface t K]++vs.toArray)[0]?=some (.iface t K):=by simp
 have ap:(#[Value.iface t K]++vs.toArray).extract 1 (#[Value.iface t K]++vs.toArray).size=vs.toArray:=by
  apply rl;simp
 simp only[am,ap,callMethod,bind,Sem.bind,program,lp];refine AA _ _ ?_;rw[hm];have e2: #[O]++vs.toArray=(O::vs).toArray:=by apply rl;simp
 rw[e2];exact TX he h
end
open Go.Proofs Go.Proofs.Tryz
variable {E:LH}
variable {J:Judge Tryz.prog}
def f91(fu_:Nat)(p0:Int)(p1:Int)(p2:Int):Option Bool:=Option.bind (if p1<=p0 then(some (decide (p0<=p2))) else(some false)) λx1=>some x1
variable{p1 p3:Int}{fu_:Nat}
theorem NN{p0:Int}{r:Bool}(K:f91 fu_ p0 p1 p3=some r):AW J 42 [iV p0,iV p1,iV p3] E [] (λw E' B'=>w=.bool r/\B'=[]):=by
 refine Bs func42 λQ aq cs H O Y=>?_;unfold f91 at K;let⟨x1,Z,ac⟩:=bs K;refine C 10 V (FR 8 1 [] [(14,.bool x1)] (λav ag ai=>?_) (λU=>?_));refine C 2 V ?_;cases ac;exact A4 func42 V V (Y ag V ⟨V,V⟩ ai);refine Iz 10 Z (λal am=>?_) (λal ap=>?_);refine C 4 V ?_;cases am;exact U AR O V;refine C 4 V ?_;cases ap;exact U AR O V
def f86(fu_:Nat)(p0:Int×Int×Int)(p1:Int)(p2:Int):Option Int:=(Av (p1 - 1)).bind λK=>(f91 fu_ p0.1 0 K).bind λO=>Option.bind (if(!O)=true then(some true) else((Av (p1 - 1)).bind λU=>(f91 fu_ p0.2.1 0 U).bind λY=>some (!Y))) λZ=>if Z=true then(some 3) else(if p0.1=p0.2.1 then(some 8) else((f91 fu_ p0.2.2 1 p2).bind λac=>if(!ac)=true then(some 1) else(some 0)))
variable{r:Int}
theorem Xi{p0:Int×Int×Int}(ag:f86 fu_ p0 p1 p3=some r):AW J 45 [.agg #[iV p0.1,iV p0.2.1,iV p0.2.2],iV p1,iV p3] E [] (λw E' B'=>w=iV r/\B'=[]):=by
 refine Bs func45 λQ cc cs H aq Y=>?_;unfold f86 at ag;refine C 2 V (DX aq λr2 ce Z U av=>?_);refine C 6 V (Cg 0 U underlying47 AO Br ?_);let⟨ci,aw,ay⟩:=bs ag;refine C 1 V (BW aw V V V ?_);let⟨az,a0,a1⟩:=bs ay;refine CW (NN a0) V V M1 av λco K ai=>An (v:=.bool (!az)) V (λρ h=>Yl.not (h _ _ V)) ?_;let⟨a2,a3,a4⟩:=bs a1;refine C 1 V (FR 14 1 [] [(2,iV p3),(3,Al r2 0),(21,.bool a2)] (λcp O ac=>?_) (λal=>?_));refine C 2 V (CH a4 (λa5 a6=>?_) (λa5 a7=>?_));refine C 4 V ?_;cases a6;exact A4 func45 V V (Y ((Z.Ad K).Ad O) V ⟨V,V⟩ ac);refine C 2 V (Cg 0 (U.Ah (K.Ad O)) underlying47 AO Br ?_);refine Cg 1 (U.Ah (K.Ad O)) underlying47 AO Br ?_;refine C 3 V (A5 a7 (λa8 a9=>?_) (λa8 bb=>?_));refine C 4 V ?_;cases a9;exact A4 func45 V V (Y ((Z.Ad K).Ad O) V ⟨V,V⟩ ac);refine C 2 V (Cg 2 (U.Ah (K.Ad O)) underlying47 AO Br ?_);let⟨be,bi,bn⟩:=bs bb;refine C 1 V (CW (NN bi) V V M1 ac λct am ap=>?_);refine An (v:=.bool (!be)) V (λρ h=>Yl.not (h _ _ V)) (C 2 V ?_);refine CH bn (λbo bv=>?_) (λbo bw=>?_);refine C 4 V ?_;cases bv;exact A4 func45 V V (Y (((Z.Ad K).Ad O).Ad am) V ⟨V,V⟩ ap);refine C 6 V ?_;cases bw;exact A4 func45 V V (Y (((Z.Ad K).Ad O).Ad am) V ⟨V,V⟩ ap);refine FB 14 a3 (λbx bz=>?_) (λbx b0=>?_);refine C 7 V ?_;cases bz;exact al AR ai V;refine Cg 1 (U.Ah K) underlying47 AO Br ?_;let⟨cw,b1,b2⟩:=bs b0;refine C 1 V (BW b1 V V V ?_);let⟨b3,b4,b5⟩:=bs b2;refine CW (NN b4) V V M1 ai λcy b6 ca=>An (v:=.bool (!b3)) V (λρ h=>Yl.not (h _ _ V)) (C 1 V ?_);cases b5;exact al b6 ca V
def PQ(fu_:Nat)(O:List Int)(K:Int):Option (Bt Int ((Int)⊕(Unit))):=if K<(O.length:Int) then((ix O K).bind λU=>(f91 fu_ U 1 9).bind λY=>if(!Y)=true then(some (.done (Sum.inl 1))) else((Av (K+1)).bind λZ=>some (.more Z))) else(some (.done (Sum.inr ())))
def PT(fu_:Nat)(p0:Bi)(K:Int):Option (Bt Int ((Int)⊕(Unit))):=if K<(p0.1.length:Int) then((ix p0.1 K).bind λO=>if 3<(O.length:Int) then(some (.done (Sum.inl 6))) else(Option.bind (iter (PQ fu_ O) fu_ 0) λU=>Sum.elim (λr=>some (.done (Sum.inl r))) (λZ=>(Av (K+1)).bind λY=>some (.more Y)) U)) else(some (.done (Sum.inr ())))
def WQ(fu_:Nat)(p0:Bi)(K:Int):Option (Bt Int ((Int)⊕(Unit))):=if K<(p0.2.length:Int) then((ix p0.2 K).bind λU=>(f86 fu_ U (p0.1.length:Int) 9).bind λO=>if O≠0 then(some (.done (Sum.inl O))) else((Av (K+1)).bind λY=>some (.more Y))) else(some (.done (Sum.inr ())))
def f47(fu_:Nat)(p0:Bi):Option Int:=if(p0.1.length:Int)<2 then(some 7) else(if 5<(p0.1.length:Int) then(some 6) else(Option.bind (iter (PT fu_ p0) fu_ 0) λK=>Sum.elim (λr=>some r) (λU=>if 8<(p0.2.length:Int) then(some 6) else(Option.bind (iter (WQ fu_ p0) fu_ 0) λO=>Sum.elim (λr=>some r) (λY=>some 0) O)) K))
variable{a1:Aq}{c2:Nat}{p0:Bi}
theorem jE{av:Aq}{aw:Nat}(ct:Ao (rL rI) E a1 c2 p0.1)(cw:Ao Ay E av aw p0.2)(a7:f47 fu_ p0=some r):AW J 41 [.agg #[sV a1 p0.1 c2,sV av p0.2 aw]] E [] (λw E' B'=>w=iV r/\B'=[]):=by
 refine Bs func41 λQ hy cs H cy O=>?_;unfold f47 at a7;refine C 2 V (DX cy λY c0 K Z ay=>?_);refine C 5 V (Cg 0 Z underlying28 Fj Fy ?_);refine JL.ln underlying25 V V V (C 9 V ?_);refine A5 a7 (λc1 c3=>?_) (λc1 c4=>?_);refine C 4 V ?_;cases c3;exact A4 func41 V V (O K V ⟨V,V⟩ ay);refine C 6 V (A5 c4 (λc5 c6=>?_) (λc5 c7=>?_));refine C 4 V ?_;cases c6;exact A4 func41 V V (O K V ⟨V,V⟩ ay);refine C 5 V (Cg 0 Z underlying28 Fj Fy ?_);refine JL.ln underlying25 V V V ?_;let⟨a8,c8,az⟩:=bs c7;refine C 2 V (BF (λL s=>∃(a9:Unit) (a0:LH),a8=Sum.inr a9/\Jm c0 H a0 [] [(1,Al Y 0)] L s) ?_ ?_);rintro _ _ ⟨a9,a0,rfl,rfl,rfl,U,bb⟩;have c9:=elim_inr az;refine C 3 V (Cg 1 (Z.Ah U) underlying28 Hp Jp ?_);refine JL.ln underlying26 V V V (C 2 V ?_);refine A5 c9 (λdd dj=>?_) (λdd ea=>?_);refine C 4 V ?_;cases dj;exact A4 func41 V V (O (K.Ad U) V ⟨V,V⟩ bb);refine C 4 V (Cg 1 (Z.Ah U) underlying28 Hp Jp ?_);refine JL.ln underlying26 V V V ?_;let⟨be,eb,bi⟩:=bs ea;refine C 2 V (BF (λL s=>∃(bn:Unit) (bo:LH),be=Sum.inr bn/\Jm a0 H bo [] [] L s) ?_ ?_);rintro _ _ ⟨bn,bo,rfl,rfl,rfl,ec,ed⟩;have ee:=elim_inr bi;refine C 4 V ?_;cases ee;exact A4 func41 V V (O ((K.Ad U).Ad ec) V ⟨V,V⟩ ed);intro ef;refine JL.block (EH eb (λa2=>[]) (λa2=>[(1,Al Y 0),(46,sV av p0.2 aw),(47,iV (p0.2.length:Int)),(48,iV a2)]) AR bb ?_);rintro a2 eg ac bv bw ⟨hz,am⟩ ej;have bx:=am;unfold WQ at bx;refine C 5 V (A5 bx (λek el=>?_) (λek em=>?_));let⟨hA,eo,ep⟩:=bs el;refine C 5 V (JS.ix (cw.Ah ((K.Ad U).Ad ac)) eo underlying26 Bx ?_);rintro hB hC _ ⟨_,_,rfl,rfl,⟨_,_,rfl,rfl,rfl⟩⟩ er;refine Cf er Eh Bx V V (B3 bv BT λhD eu=>?_);refine JS.sx 0 eu Bx λew=>?_;refine Dl 0 ew V λhE a3 ex ey=>C 3 V (Cf ex Eh Bx V V ?_);refine Cg 0 (Z.Ah ((U.Ad ac).Ad a3)) underlying28 Fj Fy ?_;refine JL.ln underlying25 V V V ?_;let⟨hF,eA,eC⟩:=bs ep;refine CW (Xi eA) V V (A8 func45 V) ey λhG bz b0=>C 7 V (A5 eC (λeN e0=>?_) (λeN e1=>?_));refine C 5 V ?_;cases e0;obtain rfl:=bw _ am;have e3:=elim_inl bi;cases e3;exact A4 func41 V V (O ((((K.Ad U).Ad ac).Ad a3).Ad bz) V ⟨V,V⟩ b0);let⟨e4,e5,e6⟩:=bs e1;refine C 3 V (BE e5 V V V ?_);refine C 2 V ?_;cases e6;exact ej e4 ((ac.Ad a3).Ad bz) b0 V am;refine JL.exit V ?_;cases em;have e7:be=(Sum.inr ()):=(bw _ am).symm;exact AH (ef _ _ ⟨(),eg,e7,V,V,ac,bv⟩) V;intro e8;refine JL.block (EH c8 (λag=>[]) (λag=>[(1,Al Y 0),(21,sV a1 p0.1 c2),(22,iV (p0.1.length:Int)),(23,iV ag)]) AR ay ?_);rintro ag b1 ai a4 a5 ⟨hH,al⟩ ff;have b2:=al;unfold PT at b2;refine C 5 V (A5 b2 (λfk fl=>?_) (λfk fm=>?_));let⟨b3,fo,fs⟩:=bs fl;refine C 5 V (JS.ix (ct.Ah (K.Ad ai)) fo underlying25 Fz ?_);rintro hI hJ _ ⟨fv,fw,rfl,fN⟩ gc;refine Dw 0 gc Jq V V V (C 6 V ?_);refine JL.ln underlying22 V V V (C 2 V ?_);refine A5 fs (λge gg=>?_) (λge gh=>?_);refine C 4 V ?_;cases gg;obtain rfl:=a5 _ al;have gt:=elim_inl az;cases gt;exact A4 func41 V V (O (K.Ad ai) V ⟨V,V⟩ a4);refine C 4 V (JL.ln underlying22 V V V ?_);let⟨b4,gE,b5⟩:=bs gh;refine C 2 V (BF (λL s=>∃(b6:Unit) (ca:LH),b4=Sum.inr b6/\Jm b1 H ca [] [(1,Al Y 0),(21,sV a1 p0.1 c2),(22,iV (p0.1.length:Int)),(23,iV ag)] L s) ?_ ?_);rintro _ _ ⟨b6,ca,rfl,rfl,rfl,gO,g3⟩;have g4:=elim_inr b5;let⟨g5,g6,g7⟩:=bs g4;refine C 2 V (BE g6 V V V ?_);refine C 2 V ?_;cases g7;exact ff g5 (ai.Ad gO) g3 V al;intro g8;refine JL.block (EH gE (λa6=>[]) (λa6=>[(1,Al Y 0),(21,sV a1 p0.1 c2),(22,iV (p0.1.length:Int)),(23,iV ag),(30,sV fv b3 fw),(31,iV (b3.length:Int)),(32,iV a6)]) AR a4 ?_);rintro a6 ha ap cc ce ⟨hK,aq⟩ hb;have ci:=aq;unfold PQ at ci;refine C 5 V (A5 ci (λhc he=>?_) (λhc hf=>?_));let⟨hL,hg,hj⟩:=bs he;refine C 5 V (JS.ix (fN.Ah ap) hg underlying22 AO ?_);rintro hM hN _ rfl hk;refine Dw 0 hk Br V V V ?_;let⟨hl,hm,hn⟩:=bs hj;refine C 5 V (CW (NN hm) V V M1 cc λhO co cp=>?_);refine An (v:=.bool (!hl)) V (λρ h=>Yl.not (h _ _ V)) (JL.done ?_);refine CH hn (λho hp=>?_) (λho hq=>?_);refine C 4 V ?_;cases hp;obtain rfl:=ce _ aq;have hr:=elim_inl b5;cases hr;obtain rfl:=a5 _ al;have hs:=elim_inl az;cases hs;exact A4 func41 V V (O (((K.Ad ai).Ad ap).Ad co) V ⟨V,V⟩ cp);let⟨ht,hu,hv⟩:=bs hq;refine C 3 V (BE hu V V V ?_);refine C 2 V ?_;cases hv;exact hb ht (ap.Ad co) cp V aq;refine JL.exit V ?_;cases hf;have hw:b4=(Sum.inr ()):=(ce _ aq).symm;exact AH (g8 _ _ ⟨(),ha,hw,V,V,ap,cc⟩) V;refine JL.exit V ?_;cases fm;have hx:a8=(Sum.inr ()):=(a5 _ al).symm;exact AH (e8 _ _ ⟨(),b1,hx,V,V,ai,a4⟩) V
def PX(fu_:Nat)(p0:Bi)(O:(List Int)×Int):Option (Bt ((List Int)×Int) ((List Int))):=if O.2<(p0.2.length:Int) then((ix p0.2 O.2).bind λK=>(ix O.1 K.2.1).bind λY=>(Av (Y+K.2.2)).bind λU=>(ix O.1 K.2.1).bind λai=>(ix (O.1.set (Int.toNat K.2.1) U) K.1).bind λZ=>(Av (Z - K.2.2)).bind λac=>(ix (O.1.set (Int.toNat K.2.1) U) K.1).bind λal=>(Av (O.2+1)).bind λag=>some (.more (((O.1.set (Int.toNat K.2.1) U).set (Int.toNat K.1) ac),ag))) else(some (.done O.1))
def f84(fu_:Nat)(p0:Bi):Option ((List Int)):=Option.bind (iter (PX fu_ p0) fu_ ((List.replicate 5 (0:Int)),0)) λK=>some K
variable{a7:Aq}{a8:Nat}
theorem Qf(e1:Ao (rL rI) E a1 c2 p0.1)(cc:Ao Ay E a7 a8 p0.2){r:(List Int)}(bv:f84 fu_ p0=some r):AW J 44 [.agg #[sV a1 p0.1 c2,sV a7 p0.2 a8]] E [] (λw E' B'=>∃(bw:Lv_),w=.agg bw.toArray/\B'=[]/\(rA 5 rI).r E' bw r):=by
 refine Bs func44 λQ e3 cs H ce ci=>?_;unfold f84 at bv;refine C 2 V (DX ce λe4 a0 bx co cp=>?_);refine B3 cp KD λa2 ct=>?_;refine C 3 V (B3 ct KD λU cw=>?_);refine C 4 V (JL.fd underlying55 CK V V V ?_);refine Cg 1 co underlying28 Hp Jp ?_;refine JL.ln underlying26 V V V ?_;let⟨cy,c0,c1⟩:=bs bv;refine C 2 V (BF (λL s=>∃(av:LH) (Y:Lv_),Jn a0 H av [bX a2 (([]:Lv_)++(List.replicate 5 (iV 0):Lv_)).toArray 91,bX U (([]:Lv_)++Y).toArray 91] [(2,Al a2 0),(3,Al U 0)] L s ((rA 5 rI).r av Y cy)) ?_ ?_);rintro _ _ ⟨av,Y,rfl,rfl,c3,bz,ac⟩;refine C 2 V (An (v:=.agg Y.toArray) V (λρ h=>HL (kk:=5) (pp:=rI) ac Ic IM (h _ _ V) (Ha (l:=[]) 1 bz V)) ?_);refine Hr (v:=.agg Y.toArray) (l:=[]) (ws:=(List.replicate 5 (iV 0):Lv_)) (us:=Y) (o:=0) 0 V V V bz V V V (by rw[B9 (kk:=5) (pp:=rI) ac];exact A2 type91) ((rA 5 rI).one ac) V (by rw[B9 (kk:=5) (pp:=rI) ac,B9 (kk:=5) (pp:=rI) (Gw (E:=av) (pp:=rI) rfl)];omega) λb0=>?_;rw[Jt (by rw[B9 (kk:=5) (pp:=rI) ac,B9 (kk:=5) (pp:=rI) (Gw (E:=av) (pp:=rI) rfl)])] at b0 ⊢;refine JL.done (JS.drop 1 b0 V λb1=>?_);cases c1;refine JL.ret (v:=.agg Y.toArray) V V (BL.list func44 V (vs:=[.agg Y.toArray]) ⟨⟨_,V,Ld.many (vs:=Y) Ic (by rw[B9 (kk:=5) (pp:=rI) ac];exact A2 type91) (Ha (l:=[]) 0 b1 V)⟩,trivial⟩) (EO 0 b1 V λc4=>?_);exact ci (bx.Ad c3) V ⟨Y,V,V,ac⟩ c4
 .intro c5;refine JL.block (Cr c0 (λL s ai=>∃(a3:LH) (al:Lv_),Jn a0 H a3 [bX a2 (([]:Lv_)++(List.replicate 5 (iV 0):Lv_)).toArray 91,bX U (([]:Lv_)++al).toArray 91] [(2,Al a2 0),(3,Al U 0),(8,sV a7 p0.2 a8),(9,iV (p0.2.length:Int)),(10,iV ai.2)] L s ((rA 5 rI).r a3 al ai.1)) ⟨a0,(List.replicate 5 (iV 0):Lv_),V,V,AR,cw,(Gw (E:=a0) (pp:=rI) V)⟩ ?_);rintro _ _ ai ⟨a3,al,rfl,rfl,a9,b2,am⟩ c6 ⟨e5,bb⟩ c7;have b3:=bb;unfold PX at b3;refine C 5 V (A5 b3 (λc8 c9=>?_) (λc8 dd=>?_))
  .let⟨K,dj,ea⟩:=bs c9;refine C 5 V (JS.ix (cc.Ah (bx.Ad a9)) dj underlying26 Bx ?_);rintro e6 e7 _ ⟨_,_,rfl,rfl,⟨_,_,rfl,rfl,rfl⟩⟩ eb;refine Cf eb Eh Bx V V (B3 b2 BT λe8 ec=>?_);refine JS.sx 2 ec Bx λed=>?_;refine Dl 2 ed V λbe ap a4 aw=>C 2 V (Eu 6 [U] ⟨⟨1,_,V⟩,trivial⟩ aw λO=>?_);refine JG.fd 0 O underlying47 AO V V V V (JG.lp 1 O 1 a4 aw ⟨⟨1,_,V⟩,trivial⟩ Br ?_);let⟨ee,b4,ef⟩:=bs ea;obtain⟨_,rfl,_,_,eg⟩:=Ip (kk:=5) (pp:=rI) (Rp.Ah _ ap am) b4;refine AS (v:=.pointer (some ⟨U,0+Int.toNat (K.2.1)*1,none⟩)) 2 O V V (λρ h s' ay=>Kc (kk:=5) (pp:=rI) (Rp.Ah _ ap am) b4 underlying91 AO (h _ _ V) (h _ _ V)) (AS (v:=iV ee) 3 O V V (λρ h s' ay=>Yl.load Br (h _ _ V) (OF (l:=[]) 1 aw V (by simp[Az]) ay (eg 0 _ V))) ?_);refine JG.fd 4 O underlying47 AO V V V V (JG.lp 5 O 2 a4 aw ⟨⟨1,_,V⟩,trivial⟩ Br ?_);refine Dc [6,7,8] ?_;let⟨Z,ej,ek⟩:=bs ef;refine BE ej V V V ?_;let⟨ff,bi,el⟩:=bs ek;obtain⟨_,rfl,_,_,fk⟩:=Ip (kk:=5) (pp:=rI) (Rp.Ah _ ap am) bi;refine An (v:=.pointer (some ⟨U,0+Int.toNat (K.2.1)*1,none⟩)) V (λρ h=>Kc (kk:=5) (pp:=rI) (Rp.Ah _ ap am) bi underlying91 AO (h _ _ V) (h _ _ V)) ?_;have a5:=PD (us:=[iV Z]) (y:=Z) (Rp.Ah _ ap am) bi V;refine Hr (v:=iV Z) (l:=[]) (ws:=al) (us:=[iV Z]) (o:=Int.toNat (K.2.1)*1) 1 V V V aw V V V AO (by simp[Value.cells,CM]) V a5.2 λaq=>?_;replace a5:=a5.1;generalize em:I9 al (Int.toNat (K.2.1)*1) [iV Z]=bn at aq ⊢;have az:(rA 5 rI).r be bn (ai.1.set (Int.toNat K.2.1) Z):=by rw[← em];exact a5
   refine JL.done (Eu 6 [U] ⟨⟨1,_,V⟩,trivial⟩ aq λO=>?_);refine JG.fd 0 O underlying47 AO V V V V (JG.lp 1 O 0 a4 aq ⟨⟨1,_,V⟩,trivial⟩ Br ?_);let⟨eo,b5,ep⟩:=bs el;obtain⟨_,rfl,_,_,er⟩:=Ip (kk:=5) (pp:=rI) az b5;refine AS (v:=.pointer (some ⟨U,0+Int.toNat (K.1)*1,none⟩)) 2 O V V (λρ h s' ay=>Kc (kk:=5) (pp:=rI) az b5 underlying91 AO (h _ _ V) (h _ _ V)) (AS (v:=iV eo) 3 O V V (λρ h s' ay=>Yl.load Br (h _ _ V) (OF (l:=[]) 1 aq V (by simp[Az]) ay (er 0 _ V))) ?_);refine JG.fd 4 O underlying47 AO V V V V (JG.lp 5 O 2 a4 aq ⟨⟨1,_,V⟩,trivial⟩ Br ?_);refine Dc [6,7,8] ?_;let⟨ag,eu,ew⟩:=bs ep;refine BW eu V V V ?_;let⟨fl,bo,ex⟩:=bs ew;obtain⟨_,rfl,_,_,fm⟩:=Ip (kk:=5) (pp:=rI) az bo;refine An (v:=.pointer (some ⟨U,0+Int.toNat (K.1)*1,none⟩)) V (λρ h=>Kc (kk:=5) (pp:=rI) az bo underlying91 AO (h _ _ V) (h _ _ V)) ?_;have a6:=PD (us:=[iV ag]) (y:=ag) az bo V;refine Hr (v:=iV ag) (l:=[]) (ws:=bn) (us:=[iV ag]) (o:=Int.toNat (K.1)*1) 1 V V V aq V V V AO (by simp[Value.cells,CM]) V a6.2 λb6=>?_;replace a6:=a6.1;generalize ey:I9 bn (Int.toNat (K.1)*1) [iV ag]=ca at b6 ⊢;have eA:(rA 5 rI).r be ca ((ai.1.set (Int.toNat K.2.1) Z).set (Int.toNat K.1) ag):=by rw[← ey];exact a6
   let⟨eC,eN,e0⟩:=bs ex;refine C 3 V (BE eN V V V ?_);refine C 2 V ?_;cases e0;exact AH (c7 _ _ (((ai.1.set (Int.toNat K.2.1) Z).set (Int.toNat K.1) ag),eC) ⟨be,ca,V,V,(a9.Ad ap),b6,eA⟩ bb) V
  .refine JL.exit V ?_;cases dd;obtain rfl:=c6 _ bb;exact AH (c5 _ _ ⟨a3,al,V,V,a9,b2,am⟩) V
def ML(fu_:Nat)(p0:List Int)(p1:Int×Int×Int):Option ((List Int)):=(ix p0 p1.1).bind λO=>(Av (O+p1.2.2)).bind λK=>(ix p0 p1.1).bind λZ=>(ix (p0.set (Int.toNat p1.1) K) p1.2.1).bind λU=>(Av (U - p1.2.2)).bind λY=>(ix (p0.set (Int.toNat p1.1) K) p1.2.1).bind λac=>some ((p0.set (Int.toNat p1.1) K).set (Int.toNat p1.2.1) Y)
theorem Iu{w1:Lv_}{p0:List Int}{p1:Int×Int×Int}(ai:(rA 5 rI).r E w1 p0){r:(List Int)}(a3:ML fu_ p0 p1=some r):AW J 48 [.agg w1.toArray,.agg #[iV p1.1,iV p1.2.1,iV p1.2.2]] E [] (λw E' B'=>∃(a4:Lv_),w=.agg a4.toArray/\B'=[]/\(rA 5 rI).r E' a4 r):=by
 refine Bs func48 λQ ce cs H a9 bb=>?_;unfold ML at a3;refine C 2 V (JS.box (v:=.agg w1.toArray) V V V a9 V λr3 be=>?_);refine DX be λci aq Z av bi=>?_;refine B3 bi KD λco al=>?_;refine C 2 V (Eu 6 [r3] ⟨⟨1,_,V⟩,trivial⟩ al λK=>?_);refine JG.fd 0 K underlying47 AO V V V V (JG.lp 1 K 0 av al ⟨⟨1,_,V⟩,trivial⟩ Br ?_);let⟨bn,a5,bo⟩:=bs a3;obtain⟨_,rfl,_,_,bv⟩:=Ip (kk:=5) (pp:=rI) (Rp.Ah _ Z ai) a5;refine AS (v:=.pointer (some ⟨r3,0+Int.toNat (p1.1)*1,none⟩)) 2 K V V (λρ h s' am=>Kc (kk:=5) (pp:=rI) (Rp.Ah _ Z ai) a5 underlying91 AO (h _ _ V) (h _ _ V)) (AS (v:=iV bn) 3 K V V (λρ h s' am=>Yl.load Br (h _ _ V) (OF (l:=[]) 1 al V (by simp[Az]) am (bv 0 _ V))) ?_);refine JG.fd 4 K underlying47 AO V V V V (JG.lp 5 K 2 av al ⟨⟨1,_,V⟩,trivial⟩ Br ?_);refine Dc [6,7,8] ?_;let⟨U,bw,bx⟩:=bs bo;refine BE bw V V V ?_;let⟨cp,az,bz⟩:=bs bx;obtain⟨_,rfl,_,_,ct⟩:=Ip (kk:=5) (pp:=rI) (Rp.Ah _ Z ai) az;refine An (v:=.pointer (some ⟨r3,0+Int.toNat (p1.1)*1,none⟩)) V (λρ h=>Kc (kk:=5) (pp:=rI) (Rp.Ah _ Z ai) az underlying91 AO (h _ _ V) (h _ _ V)) ?_;have aw:=PD (us:=[iV U]) (y:=U) (Rp.Ah _ Z ai) az V;refine Hr (v:=iV U) (l:=[]) (ws:=w1) (us:=[iV U]) (o:=Int.toNat (p1.1)*1) 1 V V V al V V V AO (by simp[Value.cells,CM]) V aw.2 λac=>?_;replace aw:=aw.1;generalize b0:I9 w1 (Int.toNat (p1.1)*1) [iV U]=a0 at ac ⊢;have ap:(rA 5 rI).r aq a0 (p0.set (Int.toNat p1.1) U):=by rw[← b0];exact aw
 refine C 2 V (Eu 6 [r3] ⟨⟨1,_,V⟩,trivial⟩ ac λK=>?_);refine JG.fd 0 K underlying47 AO V V V V (JG.lp 1 K 1 av ac ⟨⟨1,_,V⟩,trivial⟩ Br ?_);let⟨b1,a6,b2⟩:=bs bz;obtain⟨_,rfl,_,_,b3⟩:=Ip (kk:=5) (pp:=rI) ap a6;refine AS (v:=.pointer (some ⟨r3,0+Int.toNat (p1.2.1)*1,none⟩)) 2 K V V (λρ h s' am=>Kc (kk:=5) (pp:=rI) ap a6 underlying91 AO (h _ _ V) (h _ _ V)) (AS (v:=iV b1) 3 K V V (λρ h s' am=>Yl.load Br (h _ _ V) (OF (l:=[]) 1 ac V (by simp[Az]) am (b3 0 _ V))) ?_);refine JG.fd 4 K underlying47 AO V V V V (JG.lp 5 K 2 av ac ⟨⟨1,_,V⟩,trivial⟩ Br ?_);refine Dc [6,7,8] ?_;let⟨ag,b4,b5⟩:=bs b2;refine BW b4 V V V ?_;let⟨cw,a1,b6⟩:=bs b5;obtain⟨_,rfl,_,_,cy⟩:=Ip (kk:=5) (pp:=rI) ap a1;refine An (v:=.pointer (some ⟨r3,0+Int.toNat (p1.2.1)*1,none⟩)) V (λρ h=>Kc (kk:=5) (pp:=rI) ap a1 underlying91 AO (h _ _ V) (h _ _ V)) ?_;have ay:=PD (us:=[iV ag]) (y:=ag) ap a1 V;refine Hr (v:=iV ag) (l:=[]) (ws:=a0) (us:=[iV ag]) (o:=Int.toNat (p1.2.1)*1) 1 V V V ac V V V AO (by simp[Value.cells,CM]) V ay.2 λa2=>?_;replace ay:=ay.1;generalize ca:I9 a0 (Int.toNat (p1.2.1)*1) [iV ag]=O at a2 ⊢;have Y:(rA 5 rI).r aq O ((p0.set (Int.toNat p1.1) U).set (Int.toNat p1.2.1) ag):=by rw[← ca];exact ay
 refine C 3 V (An (v:=.agg O.toArray) V (λρ h=>HL (kk:=5) (pp:=rI) Y Ic IM (h _ _ V) (Ha (l:=[]) 1 a2 V)) ?_);refine Hr (v:=.agg O.toArray) (l:=[]) (ws:=(List.replicate 5 (iV 0):Lv_)) (us:=O) (o:=0) 3 V V V a2 V V V (by rw[B9 (kk:=5) (pp:=rI) Y];exact A2 type91) ((rA 5 rI).one Y) V (by rw[B9 (kk:=5) (pp:=rI) Y,B9 (kk:=5) (pp:=rI) (Gw (E:=aq) (pp:=rI) rfl)];omega) λa7=>?_;rw[Jt (by rw[B9 (kk:=5) (pp:=rI) Y,B9 (kk:=5) (pp:=rI) (Gw (E:=aq) (pp:=rI) rfl)])] at a7 ⊢;refine JL.done (JS.drop 1 a7 V λa8=>?_);cases b6;refine JL.ret (v:=.agg O.toArray) V V (BL.list func48 V (vs:=[.agg O.toArray]) ⟨⟨_,V,Ld.many (vs:=O) Ic (by rw[B9 (kk:=5) (pp:=rI) Y];exact A2 type91) (Ha (l:=[]) 3 a8 V)⟩,trivial⟩) (EO 3 a8 V λcc=>?_);exact bb Z V ⟨O,V,V,Y⟩ cc
def f106(fu_:Nat)(p0:Int)(p1:Int):Option Nat:=(Av (max p0 p1 - 1)).bind λx1=>(ix ([1,2,4,8]:List Nat) x1).bind λK=>(Av (4*(min p0 p1))).bind λO=>(RZ K O).bind λU=>some U
theorem Wm{p0:Int}{r:Nat}(K:f106 fu_ p0 p1=some r):AW J 72 [iV p0,iV p1] E [] (λw E' B'=>w=.int .u32 ((r:Nat):Int)/\B'=[]):=by
 refine Bs func72 λQ av cs H O U=>?_;unfold f106 at K;refine C 8 V (An (v:=iV (min p0 p1)) V (λρ h=>Yl.min2 (h _ _ V) (h _ _ V)) ?_);refine C 2 V (An (v:=iV (max p0 p1)) V (λρ h=>Yl.max2 (h _ _ V) (h _ _ V)) ?_);refine C 5 V (An (v:=.agg (([1,2,4,8]:List Nat).map λx=>Value.int .u32 ((x:Nat):Int)).toArray) V (λρ h=>cI h underlying197 (DJ type197) (A2 type67) V V) ?_);let⟨x1,Y,Z⟩:=bs K;refine C 1 V (BW Y V V V ?_);let⟨aw,ac,ag⟩:=bs Z;refine V4 (cD (E:=E) ([1,2,4,8]:List Nat)) ac V V V V V underlying197 (A2 type67) (CL underlying67) ?_ (λ_=>V);rintro _ rfl;let⟨ay,ai,al⟩:=bs ag;refine C 1 V (An V (λρ h=>Lz (h _ _ V) (h _ _ V) ai) ?_);let⟨am,ap,aq⟩:=bs al;refine An (v:=.int .u32 ((am:Nat):Int)) V (λρ h=>Zv (h _ _ V) (h _ _ V) ap) (C 2 V ?_);cases aq;exact A4 func72 V V (U AR V ⟨V,V⟩ O)
def f136(fu_:Nat)(p0:Nat)(p1:Int)(p2:Int):Option Bool:=(f106 fu_ p1 p2).bind λx1=>(PS p0 x1).bind λK=>some (decide ((((K):Nat):Int)≠(((0):Nat):Int)))
theorem Ws{p0:Nat}{r:Bool}(K:f136 fu_ p0 p1 p3=some r):AW J 46 [.int .u32 ((p0:Nat):Int),iV p1,iV p3] E [] (λw E' B'=>w=.bool r/\B'=[]):=by
 refine Bs func46 λQ ap cs H O U=>?_;unfold f136 at K;let⟨x1,Y,Z⟩:=bs K;refine C 9 V (CW (Wm Y) V V (A8 func72 V) O λaq ac ag=>?_);let⟨ai,al,am⟩:=bs Z;refine An (v:=.int .u32 ((ai:Nat):Int)) V (λρ h=>Zr (h _ _ V) (h _ _ V) al) (C 3 V ?_);cases am;exact A4 func46 V V (U ac V ⟨V,V⟩ ag)
def Pk(fu_:Nat)(O:(AU)×Int)(K:(AU)×Int):Option (Bt ((AU)×Int) ((AU))):=if K.2<O.2 then((room K.1 (K.2,O.2)).bind λU=>(Av (K.2+1)).bind λY=>some (.more (U,Y))) else(some (.done K.1))
def O5(fu_:Nat)(p0:Bi)(K:(AU)×Int):Option (Bt ((AU)×Int) ((AU))):=if K.2<(p0.1.length:Int) then(Option.bind (iter (Pk fu_ K) fu_ (K.1,0)) λO=>(Av (K.2+1)).bind λU=>some (.more (O,U))) else(some (.done K.1))
def f133(fu_:Nat)(p0:Bi):Option ((AU)):=Option.bind (iter (O5 fu_ p0) fu_ ([],0)) λK=>some K
theorem fc(eC:Ao (rL rI) E a1 c2 p0.1)(eN:Ao Ay E a7 a8 p0.2){r:(AU)}(a9:f133 fu_ p0=some r):AW J 96 [.agg #[sV a1 p0.1 c2,sV a7 p0.2 a8]] E [] (λw E' B'=>∃(bb:Aq) (be:Nat),w= sV bb r be/\B'=[]/\Ao EL E' bb be r):=by
 refine Bs func96 λQ e0 cs H b2 b3=>?_;unfold f133 at a9;refine C 2 V (DX b2 λe1 a0 b4 b5 b6=>?_);refine C 9 V (JL.fd underlying55 CK V V V ?_);refine Cg 0 b5 underlying28 Fj Fy ?_;refine JL.ln underlying25 V V V ?_;let⟨bi,ca,cc⟩:=bs a9;refine C 2 V (BF (λL s=>∃(a2:LH) (am:Aq) (ap:Nat) (a3:Seg),Jn a0 H a2 [a3] [(3,sV am bi ap)] L s (OL 129 EL a2 am ap a3 bi)) ?_ ?_);rintro _ _ ⟨a2,am,ap,a3,rfl,rfl,ce,ci,co⟩;refine C 5 V (Cp 0 co ci V λe3 cp ct cw=>?_);cases cc;exact A4 func96 V V (b3 ((b4.Ad ce).Ad cp) V ⟨am,ap,V,V,ct⟩ cw);intro cy;refine JL.block (Cr ca (λL s K=>∃(O:LH) (Y:Aq) (Z:Nat) (ac:Seg),Jn a0 H O [ac] [(3,sV Y K.1 Z),(9,iV (p0.1.length:Int)),(10,iV K.2)] L s (OL 129 EL O Y Z ac K.1)) ⟨a0,none,0,[],V,V,AR,b6,OL.nil⟩ ?_);rintro _ _ K ⟨O,Y,Z,ac,rfl,rfl,bn,bo,bv⟩ c0 ⟨e4,a4⟩ c1;have bw:=a4;unfold O5 at bw;refine C 5 V (A5 bw (λc3 c4=>?_) (λc3 c5=>?_));let⟨a5,c6,c7⟩:=bs c4;refine C 13 V (BF (λL s=>∃(aq:LH) (av:Aq) (aw:Nat) (ay:Seg),Jn O H aq [ay] [(3,sV av a5 aw),(9,iV (p0.1.length:Int)),(10,iV K.2)] L s (OL 129 EL aq av aw ay a5)) ?_ ?_);rintro _ _ ⟨aq,av,aw,ay,rfl,rfl,c8,c9,dd⟩;let⟨dj,ea,eb⟩:=bs c7;refine C 2 V (BE ea V V V ?_);refine C 2 V ?_;cases eb;exact AH (c1 _ _ (a5,dj) ⟨aq,av,aw,ay,V,V,(bn.Ad c8),c9,dd⟩ a4) V;intro ec;refine JL.block (Cr c6 (λL s U=>∃(ag:LH) (ai:Aq) (al:Nat) (az:Seg),Jn O H ag [az] [(3,sV ai U.1 al),(4,iV K.2),(9,iV (p0.1.length:Int)),(10,iV K.2),(13,iV K.2),(14,iV U.2)] L s (OL 129 EL ag ai al az U.1)) ⟨O,Y,Z,ac,V,V,AR,bo,bv⟩ ?_);rintro _ _ U ⟨ag,ai,al,az,rfl,rfl,bx,bz,b0⟩ ed ⟨e5,a6⟩ ee;have b1:=a6;unfold Pk at b1;refine C 5 V (A5 b1 (λef eg=>?_) (λef ej=>?_));refine C 12 V (An (v:=.agg #[iV U.2,iV K.2]) V (λρ h=>C5 [(0,1),(1,1)] h J3 underlying129 ⟨V,A2 type3,V,A2 type3,trivial⟩ V V) ?_);let⟨ek,el,em⟩:=bs eg;refine JS.app (pp:=EL) (v:=.agg #[iV U.2,iV K.2]) (a:=ai) (c:=al) 0 el V V V V (λ_=>V) V (λ_=>V) V V V underlying166 underlying166 underlying166 Gu (Dv type129) J3 V (by decide) (by decide) (by decide) (by decide) b0 ⟨_,_,V,V,V⟩ bz V λe6 eo ep er eu ew=>?_;let⟨ex,ey,eA⟩:=bs em;refine C 4 V (BE ey V V V ?_);refine C 2 V ?_;cases eA;exact AH (ee _ _ (ek,ex) ⟨ag,eo,ep,er,V,V,bx,ew,eu⟩ a6) V;refine JL.exit V ?_;cases ej;obtain rfl:=ed _ a6;exact AH (ec _ _ ⟨ag,ai,al,az,V,V,bx,bz,b0⟩) V;refine JL.exit V ?_;cases c5;obtain rfl:=c0 _ a4;exact AH (cy _ _ ⟨O,Y,Z,ac,V,V,bn,bo,bv⟩) V
def f113(fu_:Nat)(p0:Int×Int×Int)(p1:Int×Int×Int):Option Int:=if p0.1≠p1.1 then((Av (p0.1 - p1.1)).bind λK=>some K) else(if p0.2.1≠p1.2.1 then((Av (p0.2.1 - p1.2.1)).bind λO=>some O) else((Av (p0.2.2 - p1.2.2)).bind λU=>some U))
theorem WB{p0 p1:Int×Int×Int}(ag:f113 fu_ p0 p1=some r):AW J 61 [.agg #[iV p0.1,iV p0.2.1,iV p0.2.2],.agg #[iV p1.1,iV p1.2.1,iV p1.2.2]] E [] (λw E' B'=>w=iV r/\B'=[]):=by
 refine Bs func61 λQ a5 cs H ai Y=>?_;unfold f113 at ag;refine C 2 V (DX ai λr2 a6 Z O al=>?_);refine DX al λa7 a8 K U ac=>?_;refine C 6 V (Cg 0 (O.Ah K) underlying47 AO Br ?_);refine Cg 0 U underlying47 AO Br ?_;refine C 3 V (A5 ag (λam ap=>?_) (λam aq=>?_));refine C 2 V (Cg 0 (O.Ah K) underlying47 AO Br ?_);refine Cg 0 U underlying47 AO Br ?_;let⟨a9,av,aw⟩:=bs ap;refine BW av V V V (C 2 V ?_);cases aw;exact A4 func61 V V (Y (Z.Ad K) V ⟨V,V⟩ ac);refine C 2 V (Cg 1 (O.Ah K) underlying47 AO Br ?_);refine Cg 1 U underlying47 AO Br ?_;refine C 3 V (A5 aq (λay az=>?_) (λay a0=>?_));refine C 2 V (Cg 1 (O.Ah K) underlying47 AO Br ?_);refine Cg 1 U underlying47 AO Br ?_;let⟨bb,a1,a2⟩:=bs az;refine BW a1 V V V (C 2 V ?_);cases a2;exact A4 func61 V V (Y (Z.Ad K) V ⟨V,V⟩ ac);refine C 4 V (Cg 2 (O.Ah K) underlying47 AO Br ?_);refine Cg 2 U underlying47 AO Br ?_;let⟨be,a3,a4⟩:=bs a0;refine BW a3 V V V (C 2 V ?_);cases a4;exact A4 func61 V V (Y (Z.Ad K) V ⟨V,V⟩ ac)
def P0(fu_:Nat)(p0:List Int)(K:Int×Int):Option (Bt (Int×Int) Int):=if K.2<(p0.length:Int) then((ix p0 K.2).bind λO=>(Av (K.1+O)).bind λU=>(Av (K.2+1)).bind λY=>some (.more (U,Y))) else(some (.done K.1))
def f85(fu_:Nat)(p0:List Int):Option Int:=Option.bind (iter (P0 fu_ p0) fu_ (0,0)) λK=>some K
theorem Ix{p0:List Int}(ag:Ao rI E a1 c2 p0)(Y:f85 fu_ p0=some r):AW J 67 [sV a1 p0 c2] E [] (λw E' B'=>w=iV r/\B'=[]):=by
 refine Bs func67 λQ bo cs H ai al=>?_;unfold f85 at Y;refine C 12 V (JL.ln underlying22 V V V ?_);let⟨am,ap,aq⟩:=bs Y;refine C 2 V (Fo [] [(3,iV am)] (λbv av aw=>?_) (λay=>?_));refine C 5 V ?_;cases aq;exact A4 func67 V V (al av V ⟨V,V⟩ aw);refine JL.block (EH ap (λK=>[]) (λK=>[(3,iV K.1),(6,sV a1 p0 c2),(7,iV (p0.length:Int)),(8,iV K.2)]) AR ai ?_);rintro K bw O Z az ⟨bx,U⟩ a0;have ac:=U;unfold P0 at ac;refine C 5 V (A5 ac (λa2 a3=>?_) (λa2 a4=>?_));let⟨bz,a5,a6⟩:=bs a3;refine C 5 V (JS.ix (ag.Ah O) a5 underlying22 AO ?_);rintro b0 b1 _ rfl a7;refine Dw 0 a7 Br V V V ?_;let⟨a8,a9,bb⟩:=bs a6;refine C 5 V (BE a9 V V V ?_);let⟨be,bi,bn⟩:=bs bb;refine C 4 V (BE bi V V V ?_);refine C 2 V ?_;cases bn;exact a0 (a8,be) O Z V U;refine JL.exit V ?_;cases a4;obtain rfl:=az _ U;exact ay O Z V
end Pal
namespace Pal
open Go Go.Conc
variable {P:Program}{Q:Gs_}{n:Nat}{ds:Ld_}{ops:Ao_}{k:Li_}{cs:Lf_}{L:Env}{E H:LH}{S:List Seg}
variable {d:Option Tmp}{w:Operand}{t u ty:TypeId}{p:String}{af:Ae_}{g:On_}{rest:List Nat}{s:St}{ρ:Operand->Value}
variable{α:Type}{bk c kk o:Nat}{ws:Lv_}{hi:Int}
section
variable {J:Judge P}{b:Frame}
variable {x y:Operand}{e:TypeId}{i:Nat}
theorem Ao.ky{pp:Rp α}{xs ys:List α}(U:At E bk o ws)(O:(rA kk pp).r E ws xs)(hC:H0 xs 0 hi=some ys):Ao pp E (some ⟨bk,o,none⟩) kk ys:=by
 have ag:=O.1;unfold H0 at hC;split at hC
 .rename_i hb;cases hC;refine⟨by simp;omega,.inr ⟨bk,o,V,λq z K=>?_⟩⟩;simp only[Int.toNat_zero,uj,rq] at K;split at K
  .have Y:ix xs (q:Int)=some z:=by unfold ix;rw[d7 (by omega)];simpa using K
   let⟨us,Z,ac,_,_⟩:=jw O U Y;exact⟨us,Z,by simpa using ac⟩
  .cases K
 .cases hC
theorem dM{pp:Rp α}{xs ys:List α}(U:At E bk o ws)(K:(rA kk pp).r E ws xs)(hC:H0 xs 0 hi=some ys)
  (Y:ops[i]?=some ⟨d,.slice t x none (some w) none,ty,p,af,g⟩) (hw:AY L ops ⟨d,.slice t x none (some w) none,ty,p,af,g⟩=some true) (Z:BX b n ⟨d,.slice t x none (some w) none,ty,p,af,g⟩=true)
  (ac:ev L x=some (.pointer (some ⟨bk,o,none⟩))) (ag:ev L w=some (iV hi)) (ai:P.underlying t=some (.array kk e)) (al:Bz P e=some pp.n)
  (h:Ao pp E (some ⟨bk,o,none⟩) kk ys->JL J Q b n (AB L d (.slice (some ⟨bk,o,none⟩) ys.length kk)) ds (.inRegion ops rest::k) cs s):
  JL J Q b n L ds (.inRegion ops (i::rest)::k) cs s:=by
 have am:=Ao.ky U K hC;have av:=K.1;refine Bl Y hw Z (λρ O=>?_) (h am);refine F1 (sm:=Instr.sliceAt t (ρ x) none (some (ρ w)) none) V ?_;rw[O _ _ ac,O _ _ ag];unfold H0 at hC;split at hC
 .rename_i hb;cases hC;obtain⟨aw,ay,az⟩:=hb;unfold Instr.sliceAt;refine AA _ _ (CE ai ?_);simp only[Instr.sureAddr,bind,Sem.bind,pure];have ap:Instr.sliceBounds false kk kk none (some (iV hi)) none=(pure (0,hi.toNat,kk):Sem _):=by
   simp only[Instr.sliceBounds,Instr.sliceBound,asIntOf,bind,Sem.bind,pure];rw[d7 (by omega)];rfl
  rw[ap];simp only[pure,Sem.bind];refine AA (x:=Go.sizeOf e) _ (FA al ?_);have aq:(if kk=0 then(⟨bk,o,none⟩:Addr) else Addr.add ⟨bk,o,none⟩ (0*pp.n))=⟨bk,o,none⟩:=by
   split;rfl;rw[Et rfl];simp
  rw[aq];have e2:((xs.take hi.toNat).drop (0:Int).toNat).length=hi.toNat - 0:=by simp;omega
  rw[e2];exact⟨V,V⟩
 .cases hC
theorem Ze{a:Option Addr}{l:Nat}(K:P.underlying t=some (.slice e))(O:ρ x=.slice a l c)(U:ρ (.const (.slice none 0 0))=.slice none 0 0):Yl P ⟨d,.binOp .neq t x (.const (.slice none 0 0)) u,ty,p,af,g⟩ ρ s (.bool (!a.isNone)):=by
 have Y:∀o,eqGuard o t x (.const (.slice none 0 0)) (.slice a l c) (.slice none 0 0)=Sem.pure ():=λo=>by cases o<;>rfl
 refine F1 (sm:=do eqGuard .neq t x (.const (.slice none 0 0)) (ρ x) (ρ (.const (.slice none 0 0)));binOp .neq t (ρ x) (ρ (.const (.slice none 0 0)))) V ?_
 rw[O,U,Y];simp only[bind,Sem.bind];have hb:binOp .neq t (.slice a l c) (.slice none 0 0)=(do pure (.bool (!(← Op.equal t (.slice a l c) (.slice none 0 0))))):=V
 rw[hb];refine AA (x:=Op.equal t _ _) _ ?_;unfold Op.equal Op.maxDepth Op.equalIn;refine AA _ _ (CE K ?_);cases a with
 | none=>exact⟨rfl,rfl⟩
 | some ad=>exact⟨rfl,rfl⟩
end
open Go.Proofs Go.Proofs.Tryz
variable {J:Judge Tryz.prog}
def Wi(fu_:Nat)(p0:Bi)(p1:List Int)(K:Int):Option (Bt Int ((Bi×Int)⊕(Unit))):=if K<(p1.length:Int) then((ix p1 K).bind λO=>(Av ((p0.1.length:Int) - 1)).bind λU=>(f91 fu_ O 0 U).bind λY=>if(!Y)=true then(some (.done (Sum.inl (([],[]),3)))) else((Av (K+1)).bind λZ=>some (.more Z))) else(some (.done (Sum.inr ())))
def f70(fu_:Nat)(p0:Bi)(p1:List Int):Option (Bi×Int):=(f47 fu_ p0).bind λK=>if K≠0 then(some (([],[]),K)) else(Option.bind (iter (Wi fu_ p0 p1) fu_ 0) λO=>Sum.elim (λr=>some r) (λac=>Option.bind (if(p1.length:Int)=2 then((ix p1 (0)).bind λU=>(ix p1 (1)).bind λY=>some (decide (U=Y))) else(some false)) λZ=>if Z=true then(some (([],[]),8)) else(some (p0,0))) O)
variable{a1:Aq}{c2 fu_ sz:Nat}
theorem LM{Y ai:Aq}{al:Nat}{p0:Bi}{p1:List Int}(a3:Ao (rL rI) E a1 c2 p0.1)(a4:Ao Ay E Y sz p0.2)(av:Ao rI E ai al p1){r:Bi×Int}(a5:f70 fu_ p0 p1=some r):AW J 21 [.agg #[sV a1 p0.1 c2,sV Y p0.2 sz],sV ai p1 al] E [] (λw E' B'=>∃(a6:Aq) (a7:Nat) (a8:Aq) (a9:Nat),w=.tuple #[.agg #[sV a6 r.1.1 a7,sV a8 r.1.2 a9],iV r.2]/\B'=[]/\Ao (rL rI) E' a6 a7 r.1.1/\Ao Ay E' a8 a9 r.1.2):=by
 refine Bs func21 λQ fl cs H cc ap=>?_;unfold f70 at a5;refine C 2 V (DX cc λaw fm K ay ce=>?_);refine B3 ce Ih λag ci=>?_;refine C 5 V (Cf ay Fi CK V V ?_);let⟨bb,co,cp⟩:=bs a5;refine CW (jE (a3.Ah K) (a4.Ah K) co) V V (A8 func41 V) ci λct O be=>C 7 V (A5 cp (λcw cy=>?_) (λcw c0=>?_));refine C 2 V (An (v:=.agg #[nS,nS]) V (λρ h=>C5 [(0,2)] h Ih underlying55 ⟨V,A2 type28,trivial⟩ V V) ?_);refine C 1 V (JS.sx 2 be Ef λbi=>?_);refine C 2 V ?_;cases cy;refine JL.ret (v:=.tuple #[.agg #[nS,nS],iV bb]) V V (BL.list func21 V (vs:=[.agg #[nS,nS],iV bb]) ⟨⟨_,V,Ld.many (vs:=[nS,nS]) F0 Ef (Hq (off:=0) 2 bi V V)⟩,V,trivial⟩) (EO 2 bi V λc1=>?_);exact ap (K.Ad O) V ⟨none,0,none,0,V,V,Ao.nil,Ao.nil⟩ c1;refine C 5 V (JL.ln underlying22 V V V ?_);let⟨bn,c3,bo⟩:=bs c0;refine C 2 V (BF (λL s=>∃(bv:Unit) (az:LH),bn=Sum.inr bv/\Jm ct H az [bX ag #[nS,nS] 55] [(1,sV ai p1 al),(2,Al aw 0),(4,Al ag 0)] L s) ?_ ?_);rintro _ _ ⟨bv,az,rfl,rfl,rfl,ac,bw⟩;have c4:=elim_inr bo;refine C 2 V (FH 12 λU=>?_);refine Dr 0 U V V (AS 1 U V V (λρ h s' fo=>Yl.len V underlying22 (h _ _ V)) ?_);refine Bb U V [2,3] V ?_;let⟨c5,bx,c6⟩:=bs c4;refine Gg 0 (tR_ 12 0) (λL s=>L=[(2,Al aw 0),(4,Al ag 0),(41,.bool c5)]/\s=Ak az H [bX ag #[nS,nS] 55]) ?_ ?_;rintro _ _ ⟨rfl,rfl⟩;refine AZ.fin (by decide+kernel) (CH c6 (λc7 c8=>?_) (λc7 c9=>?_));refine C 2 V (An (v:=.agg #[nS,nS]) V (λρ h=>C5 [(0,2)] h Ih underlying55 ⟨V,A2 type28,trivial⟩ V V) ?_);refine JS.sx 0 bw Ef λbz=>?_;refine C 2 V ?_;cases c8;refine JL.ret (v:=.tuple #[.agg #[nS,nS],iV 8]) V V (BL.list func21 V (vs:=[.agg #[nS,nS],iV 8]) ⟨⟨_,V,Ld.many (vs:=[nS,nS]) F0 Ef (Hq (off:=0) 0 bz V V)⟩,V,trivial⟩) (EO 0 bz V λdd=>?_);exact ap ((K.Ad O).Ad ac) V ⟨none,0,none,0,V,V,Ao.nil,Ao.nil⟩ dd;refine C 3 V (Cf (ay.Ah (O.Ad ac)) Fi CK V V ?_);refine An (v:=.agg #[sV a1 p0.1 c2,sV Y p0.2 sz]) V (λρ h=>C5 [(0,2)] h Ih underlying55 ⟨V,A2 type28,trivial⟩ V V) (JS.sx 0 bw Ef λb0=>?_);refine C 2 V ?_;cases c9;refine JL.ret (v:=.tuple #[.agg #[sV a1 p0.1 c2,sV Y p0.2 sz],iV 0]) V V (BL.list func21 V (vs:=[.agg #[sV a1 p0.1 c2,sV Y p0.2 sz],iV 0]) ⟨⟨_,V,Ld.many (vs:=[sV a1 p0.1 c2,sV Y p0.2 sz]) F0 Ef (Hq (off:=0) 0 b0 V V)⟩,V,trivial⟩) (EO 0 b0 V λdj=>?_);exact ap ((K.Ad O).Ad ac) V ⟨a1,c2,Y,sz,V,V,(a3.Ah ((K.Ad O).Ad ac)),(a4.Ah ((K.Ad O).Ad ac))⟩ dj;intro b1;refine GL (q:=(p1.length:Int)=2) (i:=33) V (λa0=>?_) (λa0=>?_);have ea:=ip bx a0;refine Dr 4 U V V ?_;let⟨fs,eb,ec⟩:=bs ea;refine FQ 5 (av.Ah ((K.Ad O).Ad ac)) eb U underlying22 AO ?_;rintro fv fw _ rfl ed;refine EI 6 U 0 ed Br V V V V ?_;refine Dr 7 U V V ?_;let⟨fN,ee,ef⟩:=bs ec;refine FQ 8 (av.Ah ((K.Ad O).Ad ac)) ee U underlying22 AO ?_;rintro gc ge _ rfl eg;refine EI 9 U 0 eg Br V V V V ?_;refine Bb U V [10,11] V ?_;cases ef;refine DU ?_ (b1 _ _ ⟨V,V⟩);exact⟨V,V,V,trivial⟩;have ej:=im bx a0;refine Bb U V [4,5,6,7,8,9,10,11] V ?_;cases ej;refine DU ?_ (b1 _ _ ⟨V,V⟩);exact⟨V,V,V,trivial⟩;intro ek;refine JL.block (EH c3 (λa2=>[bX ag #[nS,nS] 55]) (λa2=>[(1,sV ai p1 al),(2,Al aw 0),(4,Al ag 0),(15,sV ai p1 al),(16,iV (p1.length:Int)),(17,iV a2)]) AR be ?_);rintro a2 el am b2 b3 ⟨gg,aq⟩ em;have b4:=aq;unfold Wi at b4;refine C 5 V (A5 b4 (λeo ep=>?_) (λeo er=>?_));let⟨gh,eu,ew⟩:=bs ep;refine C 5 V (JS.ix (av.Ah ((K.Ad O).Ad am)) eu underlying22 AO ?_);rintro gt gE _ rfl ex;refine Dw 0 ex Br V V V (C 5 V ?_);refine Cg 0 (ay.Ah (O.Ad am)) underlying28 Fj Fy ?_;refine JL.ln underlying25 V V V ?_;let⟨gO,ey,eA⟩:=bs ew;refine BW ey V V V ?_;let⟨eC,eN,e0⟩:=bs eA;refine CW (NN eN) V V M1 b2 λg3 b5 b6=>An (v:=.bool (!eC)) V (λρ h=>Yl.not (h _ _ V)) (JL.done ?_);refine CH e0 (λe1 e3=>?_) (λe1 e4=>?_);refine C 2 V (An (v:=.agg #[nS,nS]) V (λρ h=>C5 [(0,2)] h Ih underlying55 ⟨V,A2 type28,trivial⟩ V V) ?_);refine JS.sx 0 b6 Ef λca=>?_;refine C 2 V ?_;cases e3;obtain rfl:=b3 _ aq;have e5:=elim_inl bo;cases e5;refine JL.ret (v:=.tuple #[.agg #[nS,nS],iV 3]) V V (BL.list func21 V (vs:=[.agg #[nS,nS],iV 3]) ⟨⟨_,V,Ld.many (vs:=[nS,nS]) F0 Ef (Hq (off:=0) 0 ca V V)⟩,V,trivial⟩) (EO 0 ca V λe6=>?_);exact ap (((K.Ad O).Ad am).Ad b5) V ⟨none,0,none,0,V,V,Ao.nil,Ao.nil⟩ e6;let⟨e7,e8,ff⟩:=bs e4;refine C 3 V (BE e8 V V V ?_);refine C 2 V ?_;cases ff;exact em e7 (am.Ad b5) b6 V aq;refine JL.exit V ?_;cases er;have fk:bn=(Sum.inr ()):=(b3 _ aq).symm;exact AH (ek _ _ ⟨(),el,fk,V,V,am,b2⟩) V
def Qm(fu_:Nat)(p0:List Int):Option ((List Int)):=(Ds ([]:List Int) p0).bind λK=>some K
variable{ad:Addr}
theorem fK{p0:List Int}(Y:Ao rI E (some ad) c2 p0){r:(List Int)}(K:Qm fu_ p0=some r):AW J 62 [.slice (some ad) p0.length c2] E [] (λw E' B'=>∃(O:Aq) (U:Nat) (g0:Seg),w= sV O r U/\B'=g0/\OL 3 rI E' O U g0 r):=by
 refine Bs func62 λQ az cs H Z ac=>?_;unfold Qm at K;refine C 8 V (An (v:=.bool false) V (λρ h=>OE (a:=(some ad)) underlying22 (h _ _ V) (h _ _ V)) ?_);refine C 5 V (OX (pp:=rI) V V V underlying22 AO Z λr1 g2 ag ai=>?_);let⟨a0,al,am⟩:=bs K;refine C 1 V (Jy (pp:=rI) 1 al V V V V V V V underlying22 underlying22 AO (Dv type3) CJ V (by decide) (by decide) ag Y ai V λap aq av aw ay=>?_);refine C 2 V ?_;cases am;exact A4 func62 V V (ac AR V ⟨ap,aq,av,V,(by first | rfl | simp | (simp[Value.cells])),aw⟩ ay)
def Xp(fu_:Nat)(p0:List Int):Option ((List Int)):=some ([])
theorem ik{p0:List Int}(ac:Ao rI E none c2 p0){r:(List Int)}(K:Xp fu_ p0=some r):AW J 62 [sV none p0 c2] E [] (λw E' B'=>∃(O:Aq) (U:Nat) (g0:Seg),w= sV O r U/\B'=g0/\OL 3 rI E' O U g0 r):=by
 refine Bs func62 λQ ag cs H Y Z=>?_;unfold Xp at K;refine C 8 V (An (v:=.bool true) V (λρ h=>OE (a:=none) underlying22 (h _ _ V) (h _ _ V)) ?_);refine C 6 V ?_;cases K;exact A4 func62 V V (Z AR V ⟨none,0,[],V,V,OL.nil⟩ Y)
def f87(fu_:Nat)(p0:List Int):Option (List Int):=Qm fu_ p0
theorem ju{p0:List Int}(O:Ao rI E a1 c2 p0){r:List Int}(K:f87 fu_ p0=some r):AW J 62 [.slice a1 p0.length c2] E [] (λw E' B'=>∃(U:Aq) (Y:Nat) (g0:Seg),w=.slice U r.length Y/\B'=g0/\OL 3 rI E' U Y g0 r):=by
 cases a1 with
 | some ad=>exact fK O K
 | none=>
  have Z:p0=[]:=by
   rcases O.2 with h | ⟨_,_,h,_⟩;exact h.1;cases h
  subst Z;have ac:r=[]:=by
   have ag:Qm fu_ []=some []:=V;unfold f87 at K;rw[ag] at K;exact(f6 K).symm
  subst ac;exact ik (fu_:=fu_) O V
def NQ(fu_:Nat)(p0:AE):Option (AE):=(Ds ([]:AE) p0).bind λK=>some K
variable{p0 r:AE}
theorem cY(Y:Ao Ay E (some ad) c2 p0)(K:NQ fu_ p0=some r):AW J 144 [.slice (some ad) p0.length c2] E [] (λw E' B'=>∃(O:Aq) (U:Nat) (g0:Seg),w= sV O r U/\B'=g0/\OL 47 Ay E' O U g0 r):=by
 refine Bs func144 λQ az cs H Z ac=>?_;unfold NQ at K;refine C 8 V (An (v:=.bool false) V (λρ h=>OE (a:=(some ad)) underlying69 (h _ _ V) (h _ _ V)) ?_);refine C 5 V (OX (pp:=Ay) V V V underlying69 Bx Z λr1 g2 ag ai=>?_);let⟨a0,al,am⟩:=bs K;refine C 1 V (Jy (pp:=Ay) 1 al V V V V V V V underlying69 underlying69 Bx (Dv type47) BT V (by decide) (by decide) ag Y ai V λap aq av aw ay=>?_);refine C 2 V ?_;cases am;exact A4 func144 V V (ac AR V ⟨ap,aq,av,V,(by first | rfl | simp | (simp[Value.cells])),aw⟩ ay)
def WX(fu_:Nat)(p0:AE):Option (AE):=some ([])
theorem en(ac:Ao Ay E none c2 p0)(K:WX fu_ p0=some r):AW J 144 [sV none p0 c2] E [] (λw E' B'=>∃(O:Aq) (U:Nat) (g0:Seg),w= sV O r U/\B'=g0/\OL 47 Ay E' O U g0 r):=by
 refine Bs func144 λQ ag cs H Y Z=>?_;unfold WX at K;refine C 8 V (An (v:=.bool true) V (λρ h=>OE (a:=none) underlying69 (h _ _ V) (h _ _ V)) ?_);refine C 6 V ?_;cases K;exact A4 func144 V V (Z AR V ⟨none,0,[],V,V,OL.nil⟩ Y)
def f129(fu_:Nat)(p0:AE):Option AE:=NQ fu_ p0
theorem gq(O:Ao Ay E a1 c2 p0)(K:f129 fu_ p0=some r):AW J 144 [.slice a1 p0.length c2] E [] (λw E' B'=>∃(U:Aq) (Y:Nat) (g0:Seg),w=.slice U r.length Y/\B'=g0/\OL 47 Ay E' U Y g0 r):=by
 cases a1 with
 | some ad=>exact cY O K
 | none=>
  have Z:p0=[]:=by
   rcases O.2 with h | ⟨_,_,h,_⟩;exact h.1;cases h
  subst Z;have ac:r=[]:=by
   have ag:NQ fu_ []=some []:=V;unfold f129 at K;rw[ag] at K;exact(f6 K).symm
  subst ac;exact en (fu_:=fu_) O V
def f43(fu_:Nat)(p0:Bi):Option ((List Int)×Int):=(f70 fu_ p0 ([])).bind λK=>if K.2≠0 then(some ([],K.2)) else((f84 fu_ K.1).bind λO=>(H0 O 0 (p0.1.length:Int)).bind λU=>(f87 fu_ U).bind λY=>some (Y,0))
theorem jG{ac:Aq}{ag:Nat}{p0:Bi}(a2:Ao (rL rI) E a1 c2 p0.1)(a3:Ao Ay E ac ag p0.2){r:(List Int)×Int}(ai:f43 fu_ p0=some r):AW J 28 [.agg #[sV a1 p0.1 c2,sV ac p0.2 ag]] E [] (λw E' B'=>∃(al:Aq) (am:Nat),w=.tuple #[sV al r.1 am,iV r.2]/\B'=[]/\Ao rI E' al am r.1):=by
 refine Bs func28 λQ c1 cs H a4 ap=>?_;unfold f43 at ai;refine C 2 V (DX a4 λc3 c4 U aq a5=>?_);refine C 5 V (Cf aq Fi CK V V ?_);let⟨c5,a6,a7⟩:=bs ai;refine B4 (LM (a2.Ah U) (a3.Ah U) Ao.nil a6) V V Ll a5 ?_;rintro _ c6 _ Y ⟨c7,c8,c9,dd,rfl,rfl,a8,a9⟩ bb;refine C 3 V (B3 bb Ih λdj be=>?_);refine JS.sx 3 be Ef λbi=>?_;refine Dl 3 bi V λea K bn av=>C 8 V (A5 a7 (λbo bv=>?_) (λbo bw=>?_));refine C 6 V ?_;cases bv;exact A4 func28 V V (ap ((U.Ad Y).Ad K) V ⟨none,0,V,V,Ao.nil⟩ av);refine C 3 V (Cf bn F0 Ef V V ?_);let⟨eb,bx,bz⟩:=bs bw;refine B4 (Qf (a8.Ah K) (a9.Ah K) bx) V V Oh av ?_;rintro _ aw _ ay ⟨Z,rfl,rfl,O⟩ b0;refine B3 b0 KD λec b1=>?_;refine Hr (v:=.agg Z.toArray) (l:=[]) (ws:=(List.replicate 5 (iV 0):Lv_)) (us:=Z) (o:=0) 5 V V V b1 V V V (by rw[B9 (kk:=5) (pp:=rI) O];exact A2 type91) ((rA 5 rI).one O) V (by rw[B9 (kk:=5) (pp:=rI) O,B9 (kk:=5) (pp:=rI) (Gw (E:=aw) (pp:=rI) rfl)];omega) λaz=>?_;rw[Jt (by rw[B9 (kk:=5) (pp:=rI) O,B9 (kk:=5) (pp:=rI) (Gw (E:=aw) (pp:=rI) rfl)])] at az ⊢;refine C 3 V (Cg 0 (aq.Ah ((Y.Ad K).Ad ay)) underlying28 Fj Fy ?_);refine JL.ln underlying25 V V V (Dl 5 az V λed a0 b2 b3=>?_);let⟨ee,b4,b5⟩:=bs bz;refine dM (ws:=Z) (pp:=rI) b2 (Rp.Ah _ a0 O) b4 V V V V V underlying91 AO λb6=>?_;let⟨ef,ca,cc⟩:=bs b5;refine B4 (ju b6 ca) V V (A8 func62 V) b3 ?_;rintro _ eg ej ce ⟨ci,co,_,rfl,rfl,cp⟩ ct;refine C 3 V (Cp 6 cp ct V λek cw cy c0=>?_);cases cc;exact A4 func28 V V (ap ((((((U.Ad Y).Ad K).Ad ay).Ad a0).Ad ce).Ad cw) V ⟨ci,co,V,V,cy⟩ c0)
def O2(fu_:Nat)(p0:AE)(p1:AE)(K:Int):Option (Bt Int ((Int)⊕(Unit))):=if K<(p0.length:Int) then((ix p0 K).bind λU=>if(p1.length:Int)<=K then(some (.done (Sum.inl 1))) else((ix p1 K).bind λY=>(f113 fu_ U Y).bind λO=>if O≠0 then(some (.done (Sum.inl O))) else((Av (K+1)).bind λZ=>some (.more Z)))) else(some (.done (Sum.inr ())))
def f112(fu_:Nat)(p0:AE)(p1:AE):Option Int:=Option.bind (iter (O2 fu_ p0 p1) fu_ 0) λK=>Sum.elim (λr=>some r) (λO=>if(p0.length:Int)<(p1.length:Int) then(some (-1)) else(some 0)) K
theorem fS{U:Aq}{Y:Nat}{p1:AE}(a8:Ao Ay E a1 c2 p0)(a9:Ao Ay E U Y p1){r:Int}(av:f112 fu_ p0 p1=some r):AW J 60 [sV a1 p0 c2,sV U p1 Y,(fV 61)] E [] (λw E' B'=>w=iV r/\B'=[]):=by
 refine Bs func60 λQ ed cs H bb Z=>?_;unfold f112 at av;refine C 8 V (JL.ln underlying69 V V V ?_);let⟨aw,be,ag⟩:=bs av;refine C 2 V (BF (λL s=>∃(ay:Unit) (az:LH),aw=Sum.inr ay/\Jm E H az [] [(0,sV a1 p0 c2),(1,sV U p1 Y)] L s) ?_ ?_);rintro _ _ ⟨ay,az,rfl,rfl,rfl,a0,a2⟩;have bi:=elim_inr ag;refine C 4 V (JL.ln underlying69 V V V ?_);refine C 1 V (JL.ln underlying69 V V V ?_);refine C 2 V (A5 bi (λbn bo=>?_) (λbn bv=>?_));refine C 4 V ?_;cases bo;exact A4 func60 V V (Z a0 V ⟨V,V⟩ a2);refine C 5 V ?_;cases bv;exact A4 func60 V V (Z a0 V ⟨V,V⟩ a2);intro bw;refine JL.block (EH be (λai=>[]) (λai=>[(0,sV a1 p0 c2),(1,sV U p1 Y),(2,(fV 61)),(11,sV a1 p0 c2),(12,iV (p0.length:Int)),(13,iV ai)]) AR bb ?_);rintro ai bx K a3 al ⟨ee,O⟩ bz;have a4:=O;unfold O2 at a4;refine C 5 V (A5 a4 (λb0 b1=>?_) (λb0 b2=>?_));let⟨am,b3,b4⟩:=bs b1;refine C 6 V (JS.ix (a8.Ah K) b3 underlying69 Bx ?_);rintro ef eg _ ⟨_,_,rfl,rfl,⟨_,_,rfl,rfl,rfl⟩⟩ b5;refine Cf b5 Eh Bx V V (B3 a3 BT λej b6=>?_);refine C 1 V (JS.sx 0 b6 Bx λca=>?_);refine Dl 0 ca V λek ac cc a5=>C 6 V (JL.ln underlying69 V V V ?_);refine C 2 V (A5 b4 (λce ci=>?_) (λce co=>?_));refine C 4 V ?_;cases ci;obtain rfl:=al _ O;have cp:=elim_inl ag;cases cp;exact A4 func60 V V (Z (K.Ad ac) V ⟨V,V⟩ a5);let⟨ap,ct,cw⟩:=bs co;refine C 5 V (JS.ix (a9.Ah (K.Ad ac)) ct underlying69 Bx ?_);rintro el em _ ⟨_,_,rfl,rfl,⟨_,_,rfl,rfl,rfl⟩⟩ cy;refine Cf cy Eh Bx V V (B3 a5 BT λeo c0=>?_);refine JS.sx 1 c0 Bx λc1=>?_;refine Dl 1 c1 V λep aq c3 c4=>C 4 V (Cf (cc.Ah aq) Eh Bx V V ?_);refine Cf c3 Eh Bx V V ?_;let⟨er,c5,c6⟩:=bs cw;refine Lu (vs:=[.agg #[iV am.1,iV am.2.1,iV am.2.2],.agg #[iV ap.1,iV ap.2.1,iV ap.2.2]]) (WB c5) V V V V (A8 func61 V) V c4 ?_;rintro _ eu _ a6 ⟨rfl,rfl⟩ a7;refine C 7 V (A5 c6 (λc7 c8=>?_) (λc7 c9=>?_));refine C 5 V ?_;cases c8;obtain rfl:=al _ O;have dd:=elim_inl ag;cases dd;exact A4 func60 V V (Z (((K.Ad ac).Ad aq).Ad a6) V ⟨V,V⟩ a7);let⟨dj,ea,eb⟩:=bs c9;refine C 3 V (BE ea V V V ?_);refine C 2 V ?_;cases eb;exact bz dj (((K.Ad ac).Ad aq).Ad a6) a7 V O;refine JL.exit V ?_;cases b2;have ec:aw=(Sum.inr ()):=(al _ O).symm;exact AH (bw _ _ ⟨(),bx,ec,V,V,K,a3⟩) V
def f74(fu_:Nat)(p0:AE)(p1:AE):Option Int:=(f112 fu_ p0 p1).bind λK=>some K
variable{a7:Aq}
theorem He{p1:AE}(Y:Ao Ay E a1 c2 p0)(Z:Ao Ay E a7 sz p1){r:Int}(U:f74 fu_ p0 p1=some r):AW J 27 [sV a1 p0 c2,sV a7 p1 sz] E [] (λw E' B'=>w=iV r/\B'=[]):=by
 refine Bs func27 λQ aq cs H ac ag=>?_;unfold f74 at U;let⟨av,ai,al⟩:=bs U;refine C 8 V (CW (fS Y Z ai) V V (A8 func60 V) ac λaw am ap=>?_);refine C 2 V ?_;cases al;exact A4 func27 V V (ag am V ⟨V,V⟩ ap)
def f73(fu_:Nat)(p0:AE)(p1:AE):Option Bool:=(f74 fu_ p0 p1).bind λK=>some (decide (K<0))
theorem jC{p1:AE}(Y:Ao Ay E a1 c2 p0)(Z:Ao Ay E a7 sz p1){r:Bool}(U:f73 fu_ p0 p1=some r):AW J 66 [sV a1 p0 c2,sV a7 p1 sz] E [] (λw E' B'=>w=.bool r/\B'=[]):=by
 refine Bs func66 λQ aq cs H ac ag=>?_;unfold f73 at U;let⟨av,ai,al⟩:=bs U;refine C 8 V (CW (He Y Z ai) V V G8 ac λaw am ap=>?_);refine C 3 V ?_;cases al;exact A4 func66 V V (ag am V ⟨V,V⟩ ap)
def f72(fu_:Nat)(p0:AE×Bool)(p1:AE):Option ((AE×Bool)):=Option.bind (if(!p0.2)=true then(some true) else((f73 fu_ p1 p0.1).bind λK=>some K)) λO=>Option.bind (if O=true then(some (p1,true)) else(some p0)) λU=>some U
theorem jO{K:Aq}{p0:AE×Bool}{p1:AE}(am:Ao Ay E a1 c2 p0.1)(ap:Ao Ay E K sz p1){r:(AE×Bool)}(aq:f72 fu_ p0 p1=some r):AW J 65 [Al bk 0,sV K p1 sz,(fV 66)] E [(bk,.cells #[sV a1 p0.1 c2,.bool p0.2] 132 (0,0))] (λw E' B'=>∃(av:Aq) (aw:Nat),w=.tuple #[]/\B'=[(bk,.cells #[sV av r.1 aw,.bool r.2] 132 (0,0))]/\Ao Ay E' av aw r.1):=by
 refine Bs func65 λQ b5 cs H Y a2=>?_;unfold f72 at aq;refine C 4 V (JL.fd underlying132 M6 V V V ?_);refine An (v:=.bool p0.2) V (λρ h=>Yl.load QB (h _ _ V) (B8 (j:=0) (off:=1) Y V V)) (An (v:=.bool (!p0.2)) V (λρ h=>Yl.not (h _ _ V)) ?_);let⟨a3,a4,a5⟩:=bs aq;refine C 1 V (Ju [] (λL s=>∃(U:LH),Jm E H U [bX bk #[sV a1 p0.1 c2,.bool p0.2] 132] [(0,Al bk 0),(1,sV K p1 sz),(19,.bool a3)] L s) ?_ ?_);rintro _ _ ⟨U,rfl,rfl,ag,ay⟩;let⟨ai,a6,a7⟩:=bs a5;refine JL.done (BF (λL s=>∃(al:LH) (Z:Aq) (ac:Nat),Jn U H al [bX bk #[sV Z ai.1 ac,.bool ai.2] 132] [] L s (Ao Ay al Z ac ai.1)) ?_ ?_);rintro _ _ ⟨al,Z,ac,rfl,rfl,a8,a9,bb⟩;cases a7;exact JL.fin (v:=.tuple #[]) V V (BL.list func65 V (vs:=[]) trivial) (a2 (ag.Ad a8) V ⟨Z,ac,V,V,bb⟩ a9);intro az;refine CH a6 (λbe bi=>?_) (λbe bn=>?_);refine C 5 V (JL.fd underlying132 A0 V V V ?_);refine JS.sx 0 ay A0 λbo=>?_;refine C 1 V (JL.fd underlying132 M6 V V V ?_);refine JS.sx 0 bo M6 λbv=>?_;refine JL.done ?_;cases bi;exact AH (az _ _ ⟨U,K,sz,V,V,AR,bv,(ap.Ah ag)⟩) V;refine JL.skip ?_;cases bn;exact AH (az _ _ ⟨U,a1,c2,V,V,AR,ay,(am.Ah ag)⟩) V;intro a0;refine FB 11 a4 (λbw bx=>?_) (λbw bz=>?_);refine C 8 V ?_;cases bx;exact AH (a0 _ _ ⟨E,V,V,AR,Y⟩) V;refine C 4 V (JL.fd underlying132 A0 V V V ?_);refine An (v:=sV a1 p0.1 c2) V (λρ h=>Yl.load BH (h _ _ V) (B8 (j:=0) (off:=0) Y V V)) ?_;let⟨b6,b0,b1⟩:=bs bz;refine Lu (vs:=[sV K p1 sz,sV a1 p0.1 c2]) (jC ap am b0) V V V V (A8 func66 V) V Y ?_;rintro _ b2 _ b3 ⟨rfl,rfl⟩ b4;refine C 1 V ?_;cases b1;exact AH (a0 _ _ ⟨b2,V,V,b3,b4⟩) V
variable {J:Judge Tryz.prog}
def Pt(fu_:Nat)(O:List Int)(K:(AU)×Int):Option (Bt ((AU)×Int) ((AU))):=if K.2<(O.length:Int) then((ix O K.2).bind λU=>(Av (((Bh K.1 U).getD 0)+1)).bind λY=>(Av (K.2+1)).bind λZ=>some (.more ((Ck K.1 U Y),Z))) else(some (.done K.1))
def Pa(fu_:Nat)(p0:Bi)(K:(List AU)×Int):Option (Bt ((List AU)×Int) ((List AU))):=if K.2<(p0.1.length:Int) then((ix p0.1 K.2).bind λO=>Option.bind (iter (Pt fu_ O) fu_ (([]:AU),0)) λU=>(room K.1 U).bind λY=>(Av (K.2+1)).bind λZ=>some (.more (Y,Z))) else(some (.done K.1))
def f120(fu_:Nat)(p0:Bi):Option ((List AU)):=Option.bind (iter (Pa fu_ p0) fu_ ([],0)) λK=>some K
theorem ic{a9:Aq}{bb:Nat}{p0:Bi}(b6:Ao (rL rI) E a1 c2 p0.1)(gg:Ao Ay E a9 bb p0.2){r:(List AU)}(be:f120 fu_ p0=some r):AW J 53 [.agg #[sV a1 p0.1 c2,sV a9 p0.2 bb]] E [] (λw E' B'=>∃(bi:Aq) (bn:Nat),w= sV bi r bn/\B'=[]/\Ao (rM rI false rI false) E' bi bn r):=by
 refine Bs func53 λQ gh cs H ca cc=>?_;unfold f120 at be;refine C 2 V (DX ca λgt aw bo ce ci=>?_);refine C 9 V (JL.fd underlying55 CK V V V ?_);refine Cg 0 ce underlying28 Fj Fy ?_;refine JL.ln underlying25 V V V ?_;let⟨bv,co,cp⟩:=bs be;refine C 2 V (BF (λL s=>∃(ay:LH) (al:Aq) (am:Nat) (az:Seg),Jn aw H ay [az] [(3,sV al bv am)] L s (OL 160 (rM rI false rI false) ay al am az bv)) ?_ ?_);rintro _ _ ⟨ay,al,am,az,rfl,rfl,ct,cw,cy⟩;refine C 5 V (Cp 0 cy cw V λgE c0 c1 c3=>?_);cases cp;exact A4 func53 V V (cc ((bo.Ad ct).Ad c0) V ⟨al,am,V,V,c1⟩ c3);intro c4;refine JL.block (Cr co (λL s K=>∃(O:LH) (U:Aq) (Y:Nat) (ac:Seg),Jn aw H O [ac] [(3,sV U K.1 Y),(11,sV a1 p0.1 c2),(12,iV (p0.1.length:Int)),(13,iV K.2)] L s (OL 160 (rM rI false rI false) O U Y ac K.1)) ⟨aw,none,0,[],V,V,AR,ci,OL.nil⟩ ?_);rintro _ _ K ⟨O,U,Y,ac,rfl,rfl,a0,bw,bx⟩ c5 ⟨gO,a2⟩ c6;have bz:=a2;unfold Pa at bz;refine C 5 V (A5 bz (λc7 c8=>?_) (λc7 c9=>?_));let⟨b0,dd,dj⟩:=bs c8;refine C 5 V (JS.ix (b6.Ah (bo.Ad a0)) dd underlying25 Fz ?_);rintro g3 g4 _ ⟨ea,eb,rfl,ec⟩ ed;refine Dw 0 ed Jq V V V (C 4 V ?_);refine JS.makeMap V V V bw λag ee=>C 6 V (JL.ln underlying22 V V V ?_);let⟨b1,ef,eg⟩:=bs dj;refine C 2 V (BF (λL s=>∃(a3:LH) (ap:Obj),Jn O H a3 [ac,[(ag,ap)]] [(3,sV U K.1 Y),(6,.map (some ag)),(11,sV a1 p0.1 c2),(12,iV (p0.1.length:Int)),(13,iV K.2)] L s (BQ rI false rI false a3 ap b1)) ?_ ?_);rintro _ _ ⟨a3,ap,rfl,rfl,b2,ej,ek⟩;refine C 3 V (QQ 1 ej V λb3 a4 el em=>?_);have eo:BQ rI false rI false b3 ap b1:=(ek.Ah a4);let⟨ep,er,eu⟩:=bs eg;refine JS.app (pp:=(rM rI false rI false)) (v:=.map (some ag)) (a:=U) (c:=Y) 0 er V V V V (λ_=>V) V (λ_=>V) V V V underlying116 underlying116 underlying116 Ii (Dv type160) (DJ type160) V (by decide) (by decide) (by decide) (by decide) (bx.Ah (b2.Ad a4)) ⟨_,_,V,el,eo⟩ em V λg5 ew ex ey eA eC=>?_;let⟨eN,e0,e1⟩:=bs eu;refine C 4 V (BE e0 V V V ?_);refine C 2 V ?_;cases e1;exact AH (c6 _ _ (ep,eN) ⟨b3,ew,ex,ey,V,V,((a0.Ad b2).Ad a4),eC,eA⟩ a2) V;intro e3;refine JL.block (Cr ef (λL s Z=>∃(ai:LH) (aq:Obj),Jn O H ai [ac,[(ag,aq)]] [(3,sV U K.1 Y),(6,.map (some ag)),(11,sV a1 p0.1 c2),(12,iV (p0.1.length:Int)),(13,iV K.2),(18,sV ea b0 eb),(19,iV (b0.length:Int)),(20,iV Z.2)] L s (BQ rI false rI false ai aq Z.1)) ⟨O,(.map #[] 0),V,V,AR,ee,BQ.nil⟩ ?_);rintro _ _ Z ⟨ai,aq,rfl,rfl,a5,a6,a7⟩ e4 ⟨g6,a8⟩ e5;have b4:=a8;unfold Pt at b4;refine C 5 V (A5 b4 (λe6 e7=>?_) (λe6 e8=>?_));let⟨av,ff,fk⟩:=bs e7;refine C 5 V (JS.ix (ec.Ah a5) ff underlying22 AO ?_);rintro g7 g8 _ rfl fl;refine Dw 0 fl Br V V V (C 5 V ?_);refine An (v:=iV ((Bh Z.1 av).getD 0)) V (λρ h=>Yl.lookup (ok:=false) (xs:=Z.1) (x0:=av) (z0:=0) JM underlying160 CJ ⟨_,V,V⟩ a7 ⟨_,V,V⟩ (by rintro _ ⟨_,rfl,rfl⟩;rfl) (h _ _ V) (h _ _ V) (Dz (j:=1) (i:=0) a6 V V)) ?_;let⟨b5,fm,fo⟩:=bs fk;refine BE fm V V V (JS.mapUpdate (xs:=Z.1) (x0:=av) (v0:=b5) 1 JM underlying160 a7 ⟨_,V,V⟩ ⟨_,V,V⟩ a6 V V V V V V V λfs fv fw=>?_);let⟨fN,gc,ge⟩:=bs fo;refine C 3 V (BE gc V V V ?_);refine C 2 V ?_;cases ge;exact AH (e5 _ _ ((Ck Z.1 av b5),fN) ⟨ai,fs,V,V,a5,fw,fv⟩ a8) V;refine JL.exit V ?_;cases e8;obtain rfl:=e4 _ a8;exact AH (e3 _ _ ⟨ai,aq,V,V,a5,a6,a7⟩) V;refine JL.exit V ?_;cases c9;obtain rfl:=c5 _ a2;exact AH (c4 _ _ ⟨O,U,Y,ac,V,V,a0,bw,bx⟩) V
def V9(fu_:Nat)(p0:Bi)(O:(List Int))(K:(List Int)×Int):Option (Bt ((List Int)×Int) ((List Int))):=if K.2<5 then((ix O K.2).bind λU=>Option.bind (if K.2<(p0.1.length:Int) then((ix p0.1 K.2).bind λY=>(f85 fu_ Y).bind λZ=>(Av (-(U))).bind λac=>some (decide (Z<ac))) else(some false)) λag=>Option.bind (if ag=true then((room K.1 K.2).bind λai=>some ai) else(some K.1)) λal=>(Av (K.2+1)).bind λam=>some (.more (al,am))) else(some (.done K.1))
def f39(fu_:Nat)(p0:Bi):Option ((List Int)×Int):=(f70 fu_ p0 ([])).bind λK=>if K.2≠0 then(some ([],K.2)) else((f84 fu_ K.1).bind λO=>Option.bind (iter (V9 fu_ p0 O) fu_ ([],0)) λU=>some (U,0))
theorem jq{bn:Aq}{bo:Nat}{p0:Bi}(bv:Ao (rL rI) E a1 c2 p0.1)(ca:Ao Ay E bn bo p0.2){r:(List Int)×Int}(bw:f39 fu_ p0=some r):AW J 33 [.agg #[sV a1 p0.1 c2,sV bn p0.2 bo]] E [] (λw E' B'=>∃(bx:Aq) (bz:Nat),w=.tuple #[sV bx r.1 bz,iV r.2]/\B'=[]/\Ao rI E' bx bz r.1):=by
 refine Bs func33 λQ g8 cs H cc b0=>?_;unfold f39 at bw;refine C 2 V (DX cc λa2 ha ai a3 ce=>?_);refine C 5 V (Cf a3 Fi CK V V ?_);let⟨hb,ci,co⟩:=bs bw;refine B4 (LM (bv.Ah ai) (ca.Ah ai) Ao.nil ci) V V Ll ce ?_;rintro _ hc _ al ⟨he,hf,hg,hj,rfl,rfl,cp,ct⟩ cw;refine C 3 V (B3 cw Ih λhk cy=>?_);refine JS.sx 3 cy Ef λc0=>?_;refine Dl 3 c0 V λhl O c1 b1=>C 8 V (A5 co (λc3 c4=>?_) (λc3 c5=>?_));refine C 6 V ?_;cases c4;exact A4 func33 V V (b0 ((ai.Ad al).Ad O) V ⟨none,0,V,V,Ao.nil⟩ b1);refine C 8 V (Cf c1 F0 Ef V V ?_);let⟨hm,c6,c7⟩:=bs c5;refine B4 (Qf (cp.Ah O) (ct.Ah O) c6) V V Oh b1 ?_;rintro _ a4 _ ap ⟨a5,rfl,rfl,c8⟩ c9;let⟨b2,dd,dj⟩:=bs c7;refine C 2 V (BF (λL s=>∃(a6:LH) (aq:Aq) (av:Nat) (a7:Seg),Jn a4 H a6 [a7] [(6,sV aq b2 av)] L s (OL 3 rI a6 aq av a7 b2)) ?_ ?_);rintro _ _ ⟨a6,aq,av,a7,rfl,rfl,ea,eb,ec⟩;refine C 6 V (Cp 0 ec eb V λhn ed ee ef=>?_);cases dj;exact A4 func33 V V (b0 (((((ai.Ad al).Ad O).Ad ap).Ad ea).Ad ed) V ⟨aq,av,V,V,ee⟩ ef);intro eg;refine JL.block (Cr dd (λL s K=>∃(Z:LH) (U:Aq) (Y:Nat) (ac:Seg),Jn a4 H Z [ac] [(1,Al a2 0),(6,sV U K.1 Y),(18,.agg a5.toArray),(19,iV K.2)] L s (OL 3 rI Z U Y ac K.1)) ⟨a4,none,0,[],V,V,AR,c9,OL.nil⟩ ?_);rintro _ _ K ⟨Z,U,Y,ac,rfl,rfl,ag,a8,a9⟩ ej ⟨ho,bb⟩ ek;have b3:=bb;unfold V9 at b3;refine C 5 V (A5 b3 (λel em=>?_) (λel eo=>?_));let⟨hp,ep,er⟩:=bs em;refine C 6 V (V4 (Rp.Ah _ ag c8) ep V V V V V underlying91 AO Br ?_ (λ_=>V));rintro _ rfl;refine C 6 V (Cg 0 (a3.Ah (((al.Ad O).Ad ap).Ad ag)) underlying28 Fj Fy ?_);refine JL.ln underlying25 V V V ?_;let⟨eu,ew,ex⟩:=bs er;refine C 2 V (Ju [] (λL s=>∃(am:LH),Jm Z H am [ac] [(1,Al a2 0),(6,sV U K.1 Y),(7,iV K.2),(18,.agg a5.toArray),(19,iV K.2),(38,.bool eu)] L s) ?_ ?_);rintro _ _ ⟨am,rfl,rfl,be,b4⟩;let⟨bi,ey,eA⟩:=bs ex;refine JL.done (BF (λL s=>∃(aw:LH) (ay:Aq) (az:Nat) (a0:Seg),Jn am H aw [a0] [(1,Al a2 0),(6,sV ay bi az),(18,.agg a5.toArray),(19,iV K.2)] L s (OL 3 rI aw ay az a0 bi)) ?_ ?_);rintro _ _ ⟨aw,ay,az,a0,rfl,rfl,eC,eN,e0⟩;let⟨e1,e3,e4⟩:=bs eA;refine C 2 V (BE e3 V V V ?_);refine C 2 V ?_;cases e4;exact AH (ek _ _ (bi,e1) ⟨aw,ay,az,a0,V,V,((ag.Ad be).Ad eC),eN,e0⟩ bb) V;intro b5;refine CH ey (λe5 e6=>?_) (λe5 e7=>?_);let⟨hq,e8,ff⟩:=bs e6;refine C 3 V (JS.app (pp:=rI) (v:=iV K.2) (a:=U) (c:=Y) 0 e8 V V V V (λ_=>V) V (λ_=>V) V V V underlying22 underlying22 underlying22 AO (Dv type3) CJ V (by decide) (by decide) (by decide) (by decide) (a9.Ah be) V b4 V λhr fk fl fm fo fs=>?_);refine C 2 V ?_;cases ff;exact AH (b5 _ _ ⟨am,fk,fl,fm,V,V,AR,fs,fo⟩) V;refine JL.skip ?_;cases e7;exact AH (b5 _ _ ⟨am,U,Y,ac,V,V,AR,b4,(a9.Ah be)⟩) V;intro b6;refine Iz 28 ew (λfv fw=>?_) (λfv fN=>?_);refine Cg 0 (a3.Ah (((al.Ad O).Ad ap).Ad ag)) underlying28 Fj Fy ?_;let⟨hs,gc,ge⟩:=bs fw;refine C 1 V (JS.ix (bv.Ah ((((ai.Ad al).Ad O).Ad ap).Ad ag)) gc underlying25 Fz ?_);rintro ht hu _ ⟨hv,hw,rfl,gg⟩ gh;refine Dw 0 gh Jq V V V ?_;let⟨hx,gt,gE⟩:=bs ge;refine CW (Ix gg gt) V V Ie a8 λgO g3 g4=>?_;let⟨g5,g6,g7⟩:=bs gE;refine C 1 V (An (v:=iV g5) V (λρ h=>HN (h _ _ V) g6) ?_);refine C 2 V ?_;cases g7;exact AH (b6 _ _ ⟨gO,V,V,g3,g4⟩) V;refine C 10 V ?_;cases fN;exact AH (b6 _ _ ⟨Z,V,V,AR,a8⟩) V;refine JL.exit V ?_;cases eo;obtain rfl:=ej _ bb;exact AH (eg _ _ ⟨Z,U,Y,ac,V,V,ag,a8,a9⟩) V
def Vk(fu_:Nat)(p0:List Int)(p1:Int)(K:Int):Option (Bt Int ((Int)⊕(Unit))):=if K<(p0.length:Int) then((ix p0 K).bind λO=>if p1=O then(some (.done (Sum.inl K))) else((Av (K+1)).bind λU=>some (.more U))) else(some (.done (Sum.inr ())))
def f128(fu_:Nat)(p0:List Int)(p1:Int):Option Int:=Option.bind (iter (Vk fu_ p0 p1) fu_ 0) λK=>Sum.elim (λr=>some r) (λO=>some (-1)) K
variable{p1:Int}
theorem fA{p0:List Int}(av:Ao rI E a1 c2 p0){r:Int}(Z:f128 fu_ p0 p1=some r):AW J 109 [sV a1 p0 c2,iV p1] E [] (λw E' B'=>w=iV r/\B'=[]):=by
 refine Bs func109 λQ b1 cs H aw ac=>?_;unfold f128 at Z;refine C 8 V (JL.ln underlying22 V V V ?_);let⟨ag,ay,ai⟩:=bs Z;refine C 2 V (BF (λL s=>∃(al:Unit) (am:LH),ag=Sum.inr al/\Jm E H am [] [] L s) ?_ ?_);rintro _ _ ⟨al,am,rfl,rfl,rfl,az,a0⟩;have a2:=elim_inr ai;refine C 4 V ?_;cases a2;exact A4 func109 V V (ac az V ⟨V,V⟩ a0);intro a3;refine JL.block (EH ay (λU=>[]) (λU=>[(0,sV a1 p0 c2),(1,iV p1),(7,iV (p0.length:Int)),(8,iV U)]) AR aw ?_);rintro U a4 K Y ap ⟨b2,O⟩ a5;have aq:=O;unfold Vk at aq;refine C 5 V (A5 aq (λa6 a7=>?_) (λa6 a8=>?_));let⟨b3,a9,bb⟩:=bs a7;refine C 13 V (JS.ix (av.Ah K) a9 underlying22 AO ?_);rintro b4 b5 _ rfl be;refine Dw 0 be Br V V V (C 2 V ?_);refine A5 bb (λbi bn=>?_) (λbi bo=>?_);refine C 5 V ?_;cases bn;obtain rfl:=ap _ O;have bv:=elim_inl ai;cases bv;exact A4 func109 V V (ac K V ⟨V,V⟩ Y);let⟨bw,bx,bz⟩:=bs bo;refine C 3 V (BE bx V V V ?_);refine C 2 V ?_;cases bz;exact a5 bw K Y V O;refine JL.exit V ?_;cases a8;have b0:ag=(Sum.inr ()):=(ap _ O).symm;exact AH (a3 _ _ ⟨(),a4,b0,V,V,K,Y⟩) V
def f82(fu_:Nat)(p0:List Int)(p1:Int):Option Bool:=(f128 fu_ p0 p1).bind λK=>some (decide (0<=K))
theorem jR{p0:List Int}(O:Ao rI E a1 c2 p0){r:Bool}(K:f82 fu_ p0 p1=some r):AW J 64 [sV a1 p0 c2,iV p1] E [] (λw E' B'=>w=.bool r/\B'=[]):=by
 refine Bs func64 λQ al cs H U Y=>?_;unfold f82 at K;let⟨am,Z,ac⟩:=bs K;refine C 8 V (CW (fA O Z) V V (A8 func109 V) U λap ag ai=>?_);refine C 3 V ?_;cases ac;exact A4 func64 V V (Y ag V ⟨V,V⟩ ai)
def VY(fu_:Nat)(O:Bi×Int)(K:(List ((Int×Int)×Bool))×Int):Option (Bt ((List ((Int×Int)×Bool))×Int) ((List ((Int×Int)×Bool)))):=if K.2<(O.1.2.length:Int) then((ix O.1.2 K.2).bind λU=>(Av (K.2+1)).bind λY=>some (.more ((Ck K.1 (U.1,U.2.1) true),Y))) else(some (.done K.1))
def Wn(fu_:Nat)(U:Bi×Int)(Y:(List ((Int×Int)×Bool)))(O:List Int)(K:Bv×Int):Option (Bt (Bv×Int) (Bv)):=if K.2<(U.1.1.length:Int) then(Option.bind ((f82 fu_ O K.2).bind λZ=>Option.bind (if Z=true then(some true) else(if 0<(O.length:Int) then((Av ((O.length:Int) - 1)).bind λac=>(ix O ac).bind λag=>some (!((Bh Y (ag,K.2)).getD false))) else(some false))) λai=>if ai=true then(some K.1) else((Ds O ([K.2]:List Int)).bind λal=>(room K.1 al).bind λam=>some am)) λap=>(Av (K.2+1)).bind λaq=>some (.more (ap,aq))) else(some (.done K.1))
def V6(fu_:Nat)(Z:Bi×Int)(U:(List ((Int×Int)×Bool)))(Y:Bv)(O:Bv×Int):Option (Bt (Bv×Int) (((List Int)×Int)⊕(Bv))):=if O.2<(Y.length:Int) then((ix Y O.2).bind λK=>Option.bind (if 1<(K.length:Int) then((Av ((K.length:Int) - 1)).bind λac=>(ix K ac).bind λag=>(ix K (0)).bind λai=>some ((Bh U (ag,ai)).getD false)) else(some false)) λal=>if al=true then(some (.done (Sum.inl (K,0)))) else(Option.bind (iter (Wn fu_ Z U K) fu_ (O.1,0)) λam=>(Av (O.2+1)).bind λap=>some (.more (am,ap)))) else(some (.done (Sum.inr O.1)))
def VX(fu_:Nat)(U:Bi×Int)(Y:(List ((Int×Int)×Bool)))(K:Bv):Option (Bt (Bv) (((List Int)×Int)⊕(Unit))):=if 0<(K.length:Int) then(Option.bind (iter (V6 fu_ U Y K) fu_ ([],0)) λZ=>Sum.elim (λr=>some (.done (Sum.inl r))) (λO=>if(O.length:Int)=0 then(some (.done (Sum.inr ()))) else(some (.more O))) Z) else(some (.done (Sum.inr ())))
def f33(fu_:Nat)(p0:Bi):Option ((List Int)×Int):=(f70 fu_ p0 ([])).bind λK=>if K.2≠0 then(some ([],K.2)) else(Option.bind (iter (VY fu_ K) fu_ (([]:List ((Int×Int)×Bool)),0)) λO=>Option.bind (iter (VX fu_ K O) fu_ ([[]]:Bv)) λU=>Sum.elim (λr=>some r) (λY=>some ([],11)) U)
theorem j2{eu:Aq}{ew:Nat}{p0:Bi}(g5:Ao (rL rI) E a1 c2 p0.1)(g6:Ao Ay E eu ew p0.2){r:(List Int)×Int}(ex:f33 fu_ p0=some r):AW J 30 [.agg #[sV a1 p0.1 c2,sV eu p0.2 ew]] E [] (λw E' B'=>∃(ey:Aq) (eA:Nat),w=.tuple #[sV ey r.1 eA,iV r.2]/\B'=[]/\Ao rI E' ey eA r.1):=by
 refine Bs func30 λQ lW cs H g7 dd=>?_;unfold f33 at ex;refine C 2 V (DX g7 λlX lY bw g8 ha=>?_);refine C 6 V (Cf g8 Fi CK V V ?_);let⟨bx,hb,hc⟩:=bs ex;refine B4 (LM (g5.Ah bw) (g6.Ah bw) Ao.nil hb) V V Ll ha ?_;rintro _ lZ _ dj ⟨l3,l4,he,hf,rfl,rfl,l5,hg⟩ hj;refine C 3 V (B3 hj Ih λag hk=>?_);refine JS.sx 3 hk Ef λhl=>?_;refine Dl 3 hl V λea b5 eC eN=>C 8 V (A5 hc (λhm hn=>?_) (λhm ho=>?_));refine C 6 V ?_;cases hn;exact A4 func30 V V (dd ((bw.Ad dj).Ad b5) V ⟨none,0,V,V,Ao.nil⟩ eN);refine C 3 V (JS.makeMap V V V eN λK hp=>?_);refine C 5 V (JL.fd underlying55 CK V V V ?_);refine Cg 1 eC underlying28 Hp Jp ?_;refine JL.ln underlying26 V V V ?_;let⟨a8,hq,hr⟩:=bs ho;refine C 2 V (BF (λL s=>∃(a9:LH) (ac:Obj),Jn ea H a9 [[(K,ac)]] [(4,Al ag 0),(6,.map (some K))] L s (BQ EL true rB false a9 ac a8)) ?_ ?_);rintro _ _ ⟨a9,ac,rfl,rfl,eb,hs,e0⟩;refine C 2 V (Gx (pp:=(rL rI)) [nS] [[]] V V V underlying25 Fz Mh (by decide) V V V ⟨⟨_,_,V,Ao.nil⟩,trivial⟩ hs λht hu hv hw=>?_);refine C 3 V (JL.label ?_);let⟨ec,hx,e1⟩:=bs hr;refine JL.seq (BF (λL s=>∃(e3:Unit) (e4:LH),ec=Sum.inr e3/\Jm a9 H e4 [] [] L s) ?_ ?_);rintro _ _ ⟨e3,e4,rfl,rfl,rfl,hy,hz⟩;have hA:=elim_inr e1;refine C 5 V ?_;cases hA;exact A4 func30 V V (dd ((((bw.Ad dj).Ad b5).Ad eb).Ad hy) V ⟨none,0,V,V,Ao.nil⟩ hz);intro e5;refine JL.block (Cr hx (λL s O=>∃(az:LH) (ai:Aq) (al:Nat) (am:Seg),Jn a9 H az [[(K,ac)],am] [(4,Al ag 0),(6,.map (some K)),(9,sV ai O al)] L s (OL 22 (rL rI) az ai al am O)) ⟨a9,(Bc ht),1,hu,V,V,AR,hw,hv⟩ ?_);rintro _ _ O ⟨az,ai,al,am,rfl,rfl,a0,e6,hB⟩ ed ⟨l6,bz⟩ hC;have e7:=bz;unfold VX at e7;refine C 4 V (JL.ln underlying25 V V V ?_);refine C 2 V (A5 e7 (λhD hE=>?_) (λhD hF=>?_));refine C 10 V (JL.ln underlying25 V V V ?_);let⟨e8,hG,ff⟩:=bs hE;refine C 2 V (BF (λL s=>∃(b0:Bv) (b1:LH) (b6:Aq) (ca:Nat) (cc:Seg),e8=Sum.inr b0/\Jn az H b1 [[(K,ac)],cc] [(4,Al ag 0),(6,.map (some K)),(10,sV b6 b0 ca)] L s (OL 22 (rL rI) b1 b6 ca cc b0)) ?_ ?_);rintro _ _ ⟨b0,b1,b6,ca,cc,rfl,rfl,rfl,fk,fl,hH⟩;have hI:=elim_inr ff;refine C 8 V (JL.ln underlying25 V V V ?_);refine C 2 V (A5 hI (λhJ hK=>?_) (λhJ hL=>?_));refine JL.exit V (JS.drop 0 fl V λhM=>?_);refine JS.drop 1 hM V λhN=>?_;cases hK;have hO:ec=(Sum.inr ()):=(ed _ bz).symm;exact AH (e5 _ _ ⟨(),b1,hO,V,V,(a0.Ad fk),hN⟩) V;refine C 2 V ?_;cases hL;exact AH (hC _ _ b0 ⟨b1,b6,ca,cc,V,V,(a0.Ad fk),fl,hH⟩ bz) V;intro hP;refine JL.block (Cr hG (λL s Y=>∃(aq:LH) (bb:Aq) (be:Nat) (bi:Seg),Jn az H aq [[(K,ac)],am,bi] [(4,Al ag 0),(6,.map (some K)),(10,sV bb Y.1 be),(43,sV ai O al),(44,iV (O.length:Int)),(45,iV Y.2)] L s (OL 22 (rL rI) aq bb be bi Y.1)) ⟨az,none,0,[],V,V,AR,e6,OL.nil⟩ ?_);rintro _ _ Y ⟨aq,bb,be,bi,rfl,rfl,a2,b2,fm⟩ fo ⟨l7,ce⟩ hQ;have fs:=ce;unfold V6 at fs;refine C 5 V (A5 fs (λhR hS=>?_) (λhR hT=>?_));obtain⟨av,hU,hV⟩:=bs hS;refine C 5 V (Kf 1 (hB.Ah a2) hU V V V V V V underlying25 Fz ?_);rintro l8 l9 f155 _ hW ⟨a3,bn,rfl,aw⟩ hX ma mb mc md;refine An (v:=sV a3 av bn) V (λρ h=>Yl.load Jq (h _ _ V) (B8 (j:=1) b2 hW (hX 0 _ V))) (C 6 V ?_);refine JL.ln underlying22 V V V (C 3 V ?_);refine Sl 15 λZ=>Bb Z V [0,1,2] V ?_;let⟨hY,fv,h0⟩:=bs hV;refine Gg 0 (tR_ 15 0) (λL s=>L=[(4,Al ag 0),(6,.map (some K)),(10,sV bb Y.1 be),(12,sV a3 av bn),(43,sV ai O al),(44,iV (O.length:Int)),(45,iV Y.2),(65,.bool hY)]/\s=Ak aq H [[(K,ac)],am,bi]) ?_ ?_;rintro _ _ ⟨rfl,rfl⟩;refine AZ.fin (by decide+kernel) (CH h0 (λh1 h2=>?_) (λh1 h3=>?_));refine C 6 V (JS.drop 0 b2 V λh4=>?_);refine JS.drop 1 h4 V λh5=>JS.drop 2 h5 V λh6=>?_;cases h2;obtain rfl:=fo _ ce;have h7:=elim_inl ff;cases h7;obtain rfl:=ed _ bz;have h8:=elim_inl e1;cases h8;exact A4 func30 V V (dd (((((bw.Ad dj).Ad b5).Ad eb).Ad a0).Ad a2) V ⟨a3,bn,V,V,aw⟩ h6);refine C 3 V (JL.fd underlying55 CK V V V ?_);refine Cg 0 (eC.Ah ((eb.Ad a0).Ad a2)) underlying28 Fj Fy ?_;refine JL.ln underlying25 V V V ?_;let⟨ee,h9,ia⟩:=bs h3;refine C 2 V (BF (λL s=>∃(ci:LH) (co:Aq) (cp:Nat) (ct:Seg),Jn aq H ci [[(K,ac)],am,ct] [(4,Al ag 0),(6,.map (some K)),(10,sV co ee cp),(43,sV ai O al),(44,iV (O.length:Int)),(45,iV Y.2)] L s (OL 22 (rL rI) ci co cp ct ee)) ?_ ?_);rintro _ _ ⟨ci,co,cp,ct,rfl,rfl,ih,ii,io⟩;let⟨i0,i1,i3⟩:=bs ia;refine C 2 V (BE i1 V V V ?_);refine C 2 V ?_;cases i3;exact AH (hQ _ _ (ee,i0) ⟨ci,co,cp,ct,V,V,(a2.Ad ih),ii,io⟩ ce) V;intro i4;refine JL.block (Cr h9 (λL s U=>∃(b3:LH) (a4:Aq) (a5:Nat) (bo:Seg),Jn aq H b3 [[(K,ac)],am,bo] [(4,Al ag 0),(6,.map (some K)),(10,sV a4 U.1 a5),(12,sV a3 av bn),(43,sV ai O al),(44,iV (O.length:Int)),(45,iV Y.2),(70,iV (bx.1.1.length:Int)),(71,iV U.2)] L s (OL 22 (rL rI) b3 a4 a5 bo U.1)) ⟨aq,bb,be,bi,V,V,AR,b2,fm⟩ ?_);rintro _ _ U ⟨b3,a4,a5,bo,rfl,rfl,ay,fw,ef⟩ i5 ⟨me,eg⟩ i6;have fN:=eg;unfold Wn at fN;refine C 5 V (A5 fN (λi7 i8=>?_) (λi7 i9=>?_));let⟨ej,jj,jt⟩:=bs i8;refine C 2 V (BF (λL s=>∃(cw:LH) (cy:Aq) (c0:Nat) (c1:Seg),Jn b3 H cw [[(K,ac)],am,c1] [(4,Al ag 0),(6,.map (some K)),(10,sV cy ej c0),(12,sV a3 av bn),(43,sV ai O al),(44,iV (O.length:Int)),(45,iV Y.2),(70,iV (bx.1.1.length:Int)),(71,iV U.2)] L s (OL 22 (rL rI) cw cy c0 c1 ej)) ?_ ?_);rintro _ _ ⟨cw,cy,c0,c1,rfl,rfl,jy,j0,j1⟩;let⟨kb,kc,ke⟩:=bs jt;refine JL.region (BE kc V V V ?_);refine C 2 V ?_;cases ke;exact AH (i6 _ _ (ej,kb) ⟨cw,cy,c0,c1,V,V,(ay.Ad jy),j0,j1⟩ eg) V;intro gc;let⟨mf,kf,ki⟩:=bs jj;refine C 11 V (CW (jR (aw.Ah ay) kf) V V (A8 func64 V) fw λc3 ap c4=>?_);let⟨kn,ko,kp⟩:=bs ki;refine C 1 V (Ju [] (λL s=>∃(ek:LH),Jm c3 H ek [[(K,ac)],am,bo] [(4,Al ag 0),(6,.map (some K)),(10,sV a4 U.1 a5),(12,sV a3 av bn),(14,iV U.2),(43,sV ai O al),(44,iV (O.length:Int)),(45,iV Y.2),(70,iV (bx.1.1.length:Int)),(71,iV U.2),(94,.bool kn)] L s) ?_ ?_);rintro _ _ ⟨ek,rfl,rfl,a6,ge⟩;refine JL.done (CH kp (λks kv=>?_) (λks kK=>?_));refine JL.exit V ?_;cases kv;exact AH (gc _ _ ⟨ek,a4,a5,bo,V,V,(ap.Ad a6),ge,(ef.Ah (ap.Ad a6))⟩) V;refine C 5 V (JL.ln underlying22 V V V ?_);refine C 1 V (JL.ln underlying22 V V V ?_);refine An (v:=.slice a3 av.length av.length) V (λρ h=>TJ (Ao.spot (aw.Ah ((ay.Ad ap).Ad a6))) (tY (aw.Ah ((ay.Ad ap).Ad a6))) underlying22 AO (h _ _ V) (h _ _ V) (h _ _ V)) (C 1 V ?_);refine Gx (pp:=rI) [iV U.2] [U.2] V V V underlying22 AO CJ (by decide) V V V ⟨V,trivial⟩ ge λmg mh kL kM=>Cp 3 kL kM V λmi el kN kO=>?_;let⟨kP,kQ,kR⟩:=bs kK;refine Yq (pp:=rI) kQ V V V V V V V underlying22 underlying22 AO (Dv type3) CJ V (by decide) (by decide) (aw.Ah (((ay.Ad ap).Ad a6).Ad el)) kN kO λkS kT kU gg kV kW=>?_;let⟨mj,kX,kY⟩:=bs kR;refine JS.app (pp:=(rL rI)) (v:=sV kT kP kU) (a:=a4) (c:=a5) 2 kX V V V V (λ_=>V) V (λ_=>V) V V V underlying25 underlying25 underlying25 Fz (Dv type22) Mh V (by decide) (by decide) (by decide) (by decide) (ef.Ah (((ap.Ad a6).Ad el).Ad gg)) ⟨_,_,V,kV⟩ kW V λmm kZ k0 k1 k2 k3=>C 3 V ?_;cases kY;exact AH (gc _ _ ⟨kS,kZ,k0,k1,V,V,(((ap.Ad a6).Ad el).Ad gg),k3,k2⟩) V;intro em;refine FB 77 ko (λk4 k5=>?_) (λk4 k6=>?_);refine C 17 V ?_;cases k5;exact AH (em _ _ ⟨c3,V,V,AR,c4⟩) V;refine C 1 V (JL.ln underlying22 V V V ?_);refine C 2 V (Iz 81 k6 (λk7 k8=>?_) (λk7 k9=>?_));refine C 3 V (JL.ln underlying22 V V V ?_);let⟨mo,la,lb⟩:=bs k8;refine BW la V V V ?_;let⟨c5,ld,lf⟩:=bs lb;refine JS.ix (aw.Ah (ay.Ad ap)) ld underlying22 AO ?_;rintro mp mq _ rfl lg;refine Dw 0 lg Br V V V (C 1 V ?_);refine An (v:=.agg #[iV c5,iV U.2]) V (λρ h=>C5 [(0,1),(1,1)] h J3 underlying129 ⟨V,A2 type3,V,A2 type3,trivial⟩ V V) (An (v:=.bool (((Bh a8 (c5,U.2)).getD false))) V (λρ h=>Yl.lookup (ok:=false) (xs:=a8) (x0:=(c5,U.2)) (z0:=false) R6 underlying127 M3 ⟨_,V,V⟩ (e0.Ah (((a0.Ad a2).Ad ay).Ad ap)) ⟨_,⟨_,_,V,V,V⟩,V⟩ (by rintro _ ⟨_,rfl,rfl⟩;rfl) (h _ _ V) (h _ _ V) (Dz (j:=0) (i:=0) c4 V V)) ?_);refine An (v:=.bool ((!((Bh a8 (c5,U.2)).getD false)))) V (λρ h=>Yl.not (h _ _ V)) (C 2 V ?_);cases lf;exact AH (em _ _ ⟨c3,V,V,AR,c4⟩) V;refine C 13 V ?_;cases k9;exact AH (em _ _ ⟨c3,V,V,AR,c4⟩) V;refine JL.exit V ?_;cases i9;obtain rfl:=i5 _ eg;exact AH (i4 _ _ ⟨b3,a4,a5,bo,V,V,ay,fw,ef⟩) V;intro gh;refine GL (q:=1<(av.length:Int)) (i:=53) V (λeo=>?_) (λeo=>?_);have lh:=ip fv eo;refine Bb Z V [3,4,5] V ?_;let⟨mr,li,lj⟩:=bs lh;refine AS 6 Z V V (λρ h s' a7=>EA (h _ _ V) (h _ _ V) li) ?_;let⟨c6,ll,lm⟩:=bs lj;refine FQ 7 aw ll Z underlying22 AO ?_;rintro ms mv _ rfl lq;refine AS (v:=iV c6) 8 Z V V (λρ h s' a7=>Yl.load Br (h _ _ V) (NM a7 (At.Kn (j:=0) lq V))) ?_;refine Dr 9 Z V V ?_;let⟨c7,lr,ls⟩:=bs lm;refine FQ 10 aw lr Z underlying22 AO ?_;rintro mw my _ rfl lu;refine AS (v:=iV c7) 11 Z V V (λρ h s' a7=>Yl.load Br (h _ _ V) (NM a7 (At.Kn (j:=0) lu V))) ?_;refine AS (v:=.agg #[iV c6,iV c7]) 12 Z V V (λρ h s' a7=>C5 [(0,1),(1,1)] h J3 underlying129 ⟨V,A2 type3,V,A2 type3,trivial⟩ V V) ?_;refine AS (v:=.bool (((Bh a8 (c6,c7)).getD false))) 13 Z V V (λρ h s' a7=>Yl.lookup (ok:=false) (xs:=a8) (x0:=(c6,c7)) (z0:=false) R6 underlying127 M3 ⟨_,V,V⟩ (e0.Ah (a0.Ad a2)) ⟨_,⟨_,_,V,V,V⟩,V⟩ (by rintro _ ⟨_,rfl,rfl⟩;rfl) (h _ _ V) (h _ _ V) (SN a7 (Dz (j:=0) (i:=0) b2 V V))) ?_;refine Dr 14 Z V V ?_;cases ls;refine DU ?_ (gh _ _ ⟨V,V⟩);exact⟨V,V,V,V,V,V,V,V,trivial⟩;have lw:=im fv eo;refine Bb Z V [3,4,5,6,7,8,9,10,11,12,13,14] V ?_;cases lw;refine DU ?_ (gh _ _ ⟨V,V⟩);exact⟨V,V,V,V,V,V,V,V,trivial⟩;refine JL.exit V (JS.drop 1 b2 V λlx=>?_);cases hT;have lz:e8=(Sum.inr Y.1):=(fo _ ce).symm;exact AH (hP _ _ ⟨Y.1,aq,bb,be,bi,lz,V,V,a2,lx,fm⟩) V;refine JL.exit V (JS.drop 0 e6 V λlA=>?_);refine JS.drop 1 lA V λlB=>?_;cases hF;have lC:ec=(Sum.inr ()):=(ed _ bz).symm;exact AH (e5 _ _ ⟨(),az,lC,V,V,a0,lB⟩) V;intro lD;refine JL.block (Cr hq (λL s b4=>∃(c8:LH) (c9:Obj),Jn ea H c8 [[(K,c9)]] [(4,Al ag 0),(6,.map (some K)),(26,sV he bx.1.2 hf),(27,iV (bx.1.2.length:Int)),(28,iV b4.2)] L s (BQ EL true rB false c8 c9 b4.1)) ⟨ea,(.map #[] 0),V,V,AR,hp,BQ.nil⟩ ?_);rintro _ _ b4 ⟨c8,c9,rfl,rfl,ep,gt,gE⟩ lE ⟨mz,er⟩ lF;have gO:=er;unfold VY at gO;refine C 5 V (A5 gO (λlG lH=>?_) (λlG lI=>?_));let⟨bv,lJ,lK⟩:=bs lH;refine C 5 V (JS.ix (hg.Ah (b5.Ad ep)) lJ underlying26 Bx ?_);rintro mB mC _ ⟨_,_,rfl,rfl,⟨_,_,rfl,rfl,rfl⟩⟩ lL;refine Cf lL Eh Bx V V (B3 gt BT λmD lM=>?_);refine JS.sx 1 lM Bx λlN=>?_;refine Dl 1 lN V λlO g3 g4 lP=>C 3 V (Cg 0 g4 underlying47 AO Br ?_);refine Cg 1 g4 underlying47 AO Br ?_;refine An (v:=.agg #[iV bv.1,iV bv.2.1]) V (λρ h=>C5 [(0,1),(1,1)] h J3 underlying129 ⟨V,A2 type3,V,A2 type3,trivial⟩ V V) (JS.mapUpdate (xs:=b4.1) (x0:=(bv.1,bv.2.1)) (v0:=true) 0 R6 underlying127 (gE.Ah g3) ⟨_,⟨_,_,V,V,V⟩,V⟩ ⟨_,V,V⟩ lP V V V V V V V λlQ lR lS=>?_);obtain⟨lT,lU,lV⟩:=bs lK;refine C 3 V (BE lU V V V ?_);refine C 2 V ?_;cases lV;exact AH (lF _ _ ((Ck b4.1 (bv.1,bv.2.1) true),lT) ⟨lO,lQ,V,V,(ep.Ad g3),lS,lR⟩ er) V;refine JL.exit V ?_;cases lI;obtain rfl:=lE _ er;exact AH (lD _ _ ⟨c8,c9,V,V,ep,gt,gE⟩) V
variable {J:Judge Tryz.prog}
def Wv:List Nat:=[0,1,2,2,3,3,3,3,4,4,4,4,4,4,4,4,5,5,5,5,5,5,5,5,5,5,5,5,5,5,5,5,6,6,6,6,6,6,6,6,6,6,6,6,6,6,6,6,6,6,6,6,6,6,6,6,6,6,6,6,6,6,6,6,7,7,7,7,7,7,7,7,7,7,7,7,7,7,7,7,7,7,7,7,7,7,7,7,7,7,7,7,7,7,7,7,7,7,7,7,7,7,7,7,7,7,7,7,7,7,7,7,7,7,7,7,7,7,7,7,7,7,7,7,7,7,7,7,8,8,8,8,8,8,8,8,8,8,8,8,8,8,8,8,8,8,8,8,8,8,8,8,8,8,8,8,8,8,8,8,8,8,8,8,8,8,8,8,8,8,8,8,8,8,8,8,8,8,8,8,8,8,8,8,8,8,8,8,8,8,8,8,8,8,8,8,8,8,8,8,8,8,8,8,8,8,8,8,8,8,8,8,8,8,8,8,8,8,8,8,8,8,8,8,8,8,8,8,8,8,8,8,8,8,8,8,8,8,8,8,8,8,8,8,8,8,8,8,8,8,8,8,8,8,8,8]
def f146(fu_:Nat)(p0:Nat):Option Int:=Option.bind (if(((4294967296):Nat):Int)<=(((p0):Nat):Int) then(some (p0>>>32,32)) else(some (p0,0))) λx1=>Option.bind (if(((65536):Nat):Int)<=(((x1.1):Nat):Int) then((Av (x1.2+16)).bind λU=>some (x1.1>>>16,U)) else(some x1)) λK=>Option.bind (if(((256):Nat):Int)<=(((K.1):Nat):Int) then((Av (K.2+8)).bind λY=>some (K.1>>>8,Y)) else(some K)) λO=>(SE Wv (((((O.1)%256):Nat):Int))).bind λZ=>(Av (((Z):Nat):Int)).bind λac=>(Av (O.2+ac)).bind λag=>some ag
theorem jh{p0:Nat}{r:Int}(U:f146 fu_ p0=some r):AW J 108 [.int .u64 ((p0:Nat):Int)] E [] (λw E' B'=>w=iV r/\B'=[]):=by
 refine Bs func108 λQ b6 cs H Y am=>?_;unfold f146 at U;let⟨x1,ap,aq⟩:=bs U;refine C 10 V (Fo [] [(0,.int .u64 ((x1.1:Nat):Int)),(2,iV x1.2)] (λca av Z=>?_) (λac=>?_));let⟨K,aw,ay⟩:=bs aq;refine C 6 V (Fo [] [(0,.int .u64 ((K.1:Nat):Int)),(2,iV K.2)] (λcc az ag=>?_) (λai=>?_));let⟨O,a0,a1⟩:=bs ay;refine C 6 V (Fo [] [(0,.int .u64 ((O.1:Nat):Int)),(2,iV O.2)] (λce a2 a3=>?_) (λal=>?_));refine C 4 V (An (v:=.int .u8 (((O.1)%256:Nat):Int)) V (λρ h=>eH underlying41 underlying5 (h _ _ V)) ?_);let⟨a4,a5,a6⟩:=bs a1;refine An (v:=.int .u8 ((a4:Nat):Int)) V (λρ h=>Z6 (l:=Wv) (by decide+kernel) underlying9 (h _ _ V) (h _ _ V) a5) ?_;let⟨a7,a8,a9⟩:=bs a6;refine An (v:=iV a7) V (λρ h=>de underlying5 underlying3 (h _ _ V) a8) ?_;let⟨ci,bb,be⟩:=bs a9;refine BE bb V V V (C 2 V ?_);cases be;exact A4 func108 V V (am ((av.Ad az).Ad a2) V ⟨V,V⟩ a3);refine A5 a0 (λbi bn=>?_) (λbi bo=>?_);refine C 3 V (An (v:=.int .u64 ((K.1>>>8:Nat):Int)) V (λρ h=>LD 8 (h _ _ V) (h _ _ V) (by decide)) ?_);let⟨co,bv,bw⟩:=bs bn;refine C 4 V (BE bv V V V ?_);refine C 2 V ?_;cases bw;exact al AR ag V;refine JL.skip ?_;cases bo;exact al AR ag V;refine A5 aw (λbx bz=>?_) (λbx b0=>?_);refine C 3 V (An (v:=.int .u64 ((x1.1>>>16:Nat):Int)) V (λρ h=>LD 16 (h _ _ V) (h _ _ V) (by decide)) ?_);let⟨cp,b1,b2⟩:=bs bz;refine C 4 V (BE b1 V V V ?_);refine C 2 V ?_;cases b2;exact ai AR Z V;refine JL.skip ?_;cases b0;exact ai AR Z V;refine A5 ap (λb3 b4=>?_) (λb3 b5=>?_);refine C 3 V (An (v:=.int .u64 ((p0>>>32:Nat):Int)) V (λρ h=>LD 32 (h _ _ V) (h _ _ V) (by decide)) ?_);refine C 5 V ?_;cases b4;exact ac AR Y V;refine JL.skip ?_;cases b5;exact ac AR Y V
def f115(fu_:Nat)(p0:Nat):Option Int:=(f146 fu_ p0).bind λx1=>some x1
theorem NC{p0:Nat}{r:Int}(K:f115 fu_ p0=some r):AW J 59 [.int .u64 ((p0:Nat):Int)] E [] (λw E' B'=>w=iV r/\B'=[]):=by
 refine Bs func59 λQ ai cs H O U=>?_;unfold f115 at K;let⟨x1,Y,Z⟩:=bs K;refine C 10 V (CW (jh Y) V V (A8 func108 V) O λal ac ag=>?_);refine C 2 V ?_;cases Z;exact A4 func59 V V (U ac V ⟨V,V⟩ ag)
def Px(fu_:Nat)(p1:Int)(K:Int×AE):Option (Bt (Int×AE) (AE)):=Option.bind (if p1<K.1 then((ix K.2 K.1).bind λY=>(Av (K.1 - 1)).bind λZ=>(ix K.2 Z).bind λac=>(f113 fu_ Y ac).bind λag=>some (decide (ag<0))) else(some false)) λai=>if ai=true then((Av (K.1 - 1)).bind λO=>(Av (K.1 - 1)).bind λal=>(ix K.2 al).bind λU=>(ix K.2 K.1).bind λam=>(ix (K.2.set (Int.toNat K.1) U) O).bind λaq=>(Av (K.1 - 1)).bind λap=>some (.more (ap,((K.2.set (Int.toNat K.1) U).set (Int.toNat O) am)))) else(some (.done K.2))
def O6(fu_:Nat)(p1:Int)(p2:Int)(K:Int×AE):Option (Bt (Int×AE) (AE)):=if K.1<p2 then(Option.bind (iter (Px fu_ p1) fu_ K) λO=>(Av (K.1+1)).bind λU=>some (.more (U,O))) else(some (.done K.2))
def f193(fu_:Nat)(p0:AE)(p1:Int)(p2:Int):Option (AE):=(Av (p1+1)).bind λx1=>Option.bind (iter (O6 fu_ p1 p2) fu_ (x1,p0)) λK=>some K
variable{nw:Nat}{p3:Int}
theorem iT{U:Nat}{a3:Av_}(hW:WL 47 Ay E sz U nw a3 p0)(a9:f193 fu_ p0 p1 p3=some r):AW J 147 [.slice (Bc sz) nw U,iV p1,iV p3,(fV 61)] E [(sz,.cells a3 47 (0,0))] (λw E' B'=>∃(bb:Av_),w=.tuple #[]/\B'=[(sz,.cells bb 47 (0,0))]/\WL 47 Ay E' sz U nw bb r):=by
 refine Bs func147 λQ gc cs H ca cc=>?_;unfold f193 at a9;let⟨x1,ce,ci⟩:=bs a9;refine C 3 V (BE ce V V V ?_);let⟨co,cp,ct⟩:=bs ci;refine C 2 V (BF (λL s=>∃(a4:LH) (f17:Av_),Jn E H a4 [bX sz f17 47] [] L s (WL 47 Ay a4 sz U nw f17 co)) ?_ ?_);rintro _ _ ⟨a4,f17,rfl,rfl,cw,cy,c0⟩;cases ct;exact JL.fin (v:=.tuple #[]) V V (BL.list func147 V (vs:=[]) trivial) (cc cw V ⟨f17,V,(by first | rfl | simp | (simp[Value.cells])),c0⟩ cy);intro c1;refine JL.block (Cr cp (λL s al=>∃(ai:LH) (f25:Av_),Jn E H ai [bX sz f25 47] [(0,.slice (Bc sz) nw U),(1,iV p1),(2,iV p3),(3,(fV 61)),(8,iV al.1)] L s (WL 47 Ay ai sz U nw f25 al.2)) ⟨E,a3,V,V,AR,ca,hW⟩ ?_);rintro _ _ al ⟨ai,f25,rfl,rfl,be,bi,bn⟩ c2 ⟨ge,a5⟩ c3;have bo:=a5;unfold O6 at bo;refine C 7 V (A5 bo (λc4 c5=>?_) (λc4 c6=>?_));let⟨bv,c7,c8⟩:=bs c5;refine C 8 V (BF (λL s=>∃(az:LH) (f48:Av_),Jn ai H az [bX sz f48 47] [(0,.slice (Bc sz) nw U),(1,iV p1),(2,iV p3),(3,(fV 61)),(8,iV al.1)] L s (WL 47 Ay az sz U nw f48 bv)) ?_ ?_);rintro _ _ ⟨az,f48,rfl,rfl,c9,dd,dj⟩;let⟨ea,eb,ec⟩:=bs c8;refine C 3 V (BE eb V V V ?_);refine C 2 V ?_;cases ec;exact AH (c3 _ _ (ea,bv) ⟨az,f48,V,V,(be.Ad c9),dd,dj⟩ a5) V;intro ed;refine JL.block (Cr c7 (λL s ag=>∃(av:LH) (f58:Av_),Jn ai H av [bX sz f58 47] [(0,.slice (Bc sz) nw U),(1,iV p1),(2,iV p3),(3,(fV 61)),(8,iV al.1),(9,iV ag.1)] L s (WL 47 Ay av sz U nw f58 ag.2)) ⟨ai,f25,V,V,AR,bi,bn⟩ ?_);rintro _ _ ag ⟨av,f58,rfl,rfl,bw,aw,O⟩ ee ⟨gg,a6⟩ ef;have bx:=a6;unfold Px at bx;refine C 2 V (Eu 17 [sz] ⟨⟨0,_,V⟩,trivial⟩ aw λac=>?_);refine Bb ac V [0,1,2,3] V ?_;let⟨eg,bz,ej⟩:=bs bx;refine Gg 0 (tR_ 17 0) (λL s=>∃(a0:LH),Jm av H a0 [bX sz f58 47] [(0,.slice (Bc sz) nw U),(1,iV p1),(2,iV p3),(3,(fV 61)),(8,iV al.1),(9,iV ag.1),(34,.bool eg)] L s) ?_ ?_;rintro _ _ ⟨a0,rfl,rfl,am,a1⟩;refine AZ.fin (by decide+kernel) (CH ej (λek el=>?_) (λek em=>?_));refine C 3 V (Gi [15,17] [sz] [] mixed V ?_);refine AV 0 V V (AV 1 V V ?_);refine AV 2 V V (AV 3 V V ?_);let⟨b0,eo,ep⟩:=bs el;refine Ew 4 true V V (λρ h s' b1=>EA (h _ _ V) (h _ _ V) eo) (AV 5 V V ?_);refine AV 6 V V ?_;let⟨gh,er,eu⟩:=bs ep;refine Ew 7 true V V (λρ h s' b1=>EA (h _ _ V) (h _ _ V) er) ?_;let⟨Y,b2,ew⟩:=bs eu;obtain⟨_,⟨_,_,rfl,rfl,⟨_,_,rfl,rfl,rfl⟩⟩,ex⟩:=WL.at (O.Ah am) b2;refine JB.ix 8 O.2 b2 underlying26 Bx ?_;refine Xd 9 [iV Y.1,iV Y.2.1,iV Y.2.2] 0 a1 ex Eh Bx ?_;refine AV 10 V V (AV 11 V V ?_);let⟨Z,a2,ey⟩:=bs ew;obtain⟨_,⟨_,_,rfl,rfl,⟨_,_,rfl,rfl,rfl⟩⟩,eA⟩:=WL.at (O.Ah am) a2;refine JB.ix 12 O.2 a2 underlying26 Bx ?_;refine Xd 13 [iV Z.1,iV Z.2.1,iV Z.2.2] 0 a1 eA Eh Bx ?_;refine JB.ix 14 O.2 a2 underlying26 Bx ?_;have ay:=WL.put (x':=Y) (ws':=[iV Y.1,iV Y.2.1,iV Y.2.2]) (O.Ah am) O.2 a2 ⟨_,_,V,V,⟨_,_,V,V,V⟩⟩;refine JB.sx 15 0 a1 Bx trivial ay.2 λeC=>?_;let⟨gt,a7,eN⟩:=bs ey;obtain⟨_,⟨_,_,rfl,rfl,⟨_,_,rfl,rfl,rfl⟩⟩,gE⟩:=WL.at ay.1 a7;refine JB.ix 16 (ay.1).2 a7 underlying26 Bx ?_;have b3:=WL.put (x':=Z) (ws':=[iV Z.1,iV Z.2.1,iV Z.2.2]) ay.1 (ay.1).2 a7 ⟨_,_,V,V,⟨_,_,V,V,V⟩⟩;refine JB.sx 17 0 eC Bx trivial b3.2 λe0=>?_;refine JB.fin (by decide+kernel) ?_;let⟨e1,e3,e4⟩:=bs eN;refine C 3 V (BW e3 V V V ?_);refine C 2 V ?_;cases e4;exact AH (ef _ _ (e1,((ag.2.set (Int.toNat ag.1) Y).set (Int.toNat b0) Z)) ⟨a0,(A9 (A9 f58 (Int.toNat (ag.1)*3) [iV Y.1,iV Y.2.1,iV Y.2.2]) (Int.toNat (b0)*3) [iV Z.1,iV Z.2.1,iV Z.2.2]),V,V,(bw.Ad am),e0,b3.1⟩ a6) V;refine JL.exit V ?_;cases em;obtain rfl:=ee _ a6;exact AH (ed _ _ ⟨a0,f58,V,V,(bw.Ad am),a1,(O.Ah am)⟩) V;intro b4;refine GL (q:=p1<ag.1) (i:=21) V (λa8=>?_) (λa8=>?_);have e5:=ip bz a8;refine Bb ac V [4,5,6] V ?_;let⟨ap,b5,e6⟩:=bs e5;obtain⟨_,⟨_,_,rfl,rfl,⟨_,_,rfl,rfl,rfl⟩⟩,e7⟩:=WL.at O b5;refine JG.ix 7 ac (O).2 b5 underlying26 Bx ?_;refine W2 8 ac [iV ap.1,iV ap.2.1,iV ap.2.2] 0 aw e7 Eh Bx ?_;refine Bb ac V [9,10] V ?_;let⟨gO,e8,ff⟩:=bs e6;refine AS 11 ac V V (λρ h s' b1=>EA (h _ _ V) (h _ _ V) e8) ?_;let⟨aq,b6,fk⟩:=bs ff;obtain⟨_,⟨_,_,rfl,rfl,⟨_,_,rfl,rfl,rfl⟩⟩,fl⟩:=WL.at O b6;refine JG.ix 12 ac (O).2 b6 underlying26 Bx ?_;refine W2 13 ac [iV aq.1,iV aq.2.1,iV aq.2.2] 0 aw fl Eh Bx ?_;let⟨g3,fm,fo⟩:=bs fk;refine IS (i:=14) ⟨⟨0,_,V⟩,trivial⟩ (vs:=[.agg #[iV ap.1,iV ap.2.1,iV ap.2.2],.agg #[iV aq.1,iV aq.2.1,iV aq.2.2]]) (WB fm) (by decide+kernel) V V V V (A8 func61 V) V aw ?_;rintro _ fs _ fv ⟨rfl,rfl⟩ fw;refine Bb ac V [15,16] V ?_;cases fo;refine DU ?_ (b4 _ _ ⟨fs,V,V,fv,fw⟩);exact⟨V,V,V,V,V,V,V,trivial⟩;have fN:=im bz a8;refine Bb ac V [4,5,6,7,8,9,10,11,12,13,14,15,16] V ?_;cases fN;refine DU ?_ (b4 _ _ ⟨av,V,V,AR,aw⟩);exact⟨V,V,V,V,V,V,V,trivial⟩;refine JL.exit V ?_;cases c6;obtain rfl:=c2 _ a5;exact AH (c1 _ _ ⟨ai,f25,V,V,be,bi,bn⟩) V
def RS(fu_:Nat)(p0:AE)(p1:Int)(p2:Int)(p3:Int)(U:Unit):Option (Bt Unit ((AE)⊕(Unit))):=(Av (p2 - p1)).bind λK=>if K<=12 then((f193 fu_ p0 p1 p2).bind λO=>some (.done (Sum.inl O))) else(if p3=0 then(none) else(none))
def f169(fu_:Nat)(p0:AE)(p1:Int)(p2:Int)(p3:Int):Option (AE):=Option.bind (iter (RS fu_ p0 p1 p2 p3) fu_ ()) λK=>Sum.elim (λr=>some r) (λO=>none) K
variable{U:Av_}{p2:Int}
theorem gw(hW:WL 47 Ay E c2 sz nw U p0)(Y:f169 fu_ p0 p1 p2 p3=some r):AW J 146 [.slice (Bc c2) nw sz,iV p1,iV p2,iV p3,(fV 61)] E [(c2,.cells U 47 (0,0))] (λw E' B'=>∃(Z:Av_),w=.tuple #[]/\B'=[(c2,.cells Z 47 (0,0))]/\WL 47 Ay E' c2 sz nw Z r):=by
 refine Bs func146 λQ bo cs H am ap=>?_;unfold f169 at Y;let⟨bv,aq,av⟩:=bs Y;refine C 8 V (BF (λL s=>False) ?_ ?_);intro _ _ aw;exact aw.elim;intro bw;refine JL.block (EH aq (λac=>[bX c2 U 47]) (λac=>[(0,.slice (Bc c2) nw sz),(1,iV p1),(2,iV p2),(3,iV p3),(4,(fV 61)),(10,.bool true),(11,.bool true)]) AR am ?_);rintro ac bx ag ay az ⟨bz,ai⟩ b0;have al:=ai;unfold RS at al;let⟨b1,a0,a1⟩:=bs al;refine C 5 V (BW a0 V V V ?_);refine C 8 V (A5 a1 (λa2 a3=>?_) (λa2 a4=>?_));let⟨b2,a5,a6⟩:=bs a3;refine C 6 V (Cc 0 (iT (hW.Ah ag) a5) V V (A8 func147 V) ay V ?_);rintro _ b3 _ a7 ⟨f32,rfl,rfl,a8⟩ a9;refine JL.done ?_;cases a6;obtain rfl:=az _ ai;have bb:=elim_inl av;cases bb;exact A4 func146 V V (ap (ag.Ad a7) V ⟨f32,V,(by first | rfl | simp | (simp[Value.cells])),a8⟩ a9);refine C 7 V (A5 a4 (λbe bi=>?_) (λbe bn=>?_));refine C 6 V ?_;cases bi;refine C 5 V (An (v:=.bool false) V (λρ h=>Yl.not (c:=true) (h _ _ V)) ?_);refine C 9 V ?_;cases bn
def f130(fu_:Nat)(p0:AE):Option (AE):=(f115 fu_ (CC (p0.length:Int))).bind λx1=>(f169 fu_ p0 0 (p0.length:Int) x1).bind λK=>some K
theorem jd(hW:WL 47 Ay E c2 sz nw U p0)(Y:f130 fu_ p0=some r):AW J 145 [.slice (Bc c2) nw sz,(fV 61)] E [(c2,.cells U 47 (0,0))] (λw E' B'=>∃(Z:Av_),w=.tuple #[]/\B'=[(c2,.cells Z 47 (0,0))]/\WL 47 Ay E' c2 sz nw Z r):=by
 refine Bs func145 λQ a0 cs H ag ai=>?_;unfold f130 at Y;refine C 3 V (An (v:=iV (p0.length:Int)) V (λρ h=>VH (hW).2 V underlying69 (h _ _ V)) ?_);refine C 6 V (An (v:=.int .u64 ((CC (p0.length:Int):Nat):Int)) V (λρ h=>Yl.CC underlying3 underlying83 (h _ _ V)) ?_);let⟨x1,al,am⟩:=bs Y;refine CW (NC al) V V M0 ag λa1 ac ap=>?_;let⟨a2,aq,av⟩:=bs am;refine C 1 V (Cc 0 (gw (hW.Ah ac) aq) V V (A8 func146 V) ap V ?_);rintro _ a3 _ aw ⟨f12,rfl,rfl,ay⟩ az;refine JL.done ?_;cases av;exact JL.fin (v:=.tuple #[]) V V (BL.list func145 V (vs:=[]) trivial) (ai (ac.Ad aw) V ⟨f12,V,(by first | rfl | simp | (simp[Value.cells])),ay⟩ az)
def UR(fu_:Nat)(p1:Int)(K:Int)(U:Unit):Option (Bt Unit Unit):=Option.bind (if p1<K then(none) else(some false)) λO=>if O=true then((Av (K - 1)).bind λY=>(Av (K - 1)).bind λZ=>none) else(some (.done ()))
def U9(fu_:Nat)(p1:Int)(p2:Int)(K:Int):Option (Bt Int Unit):=if K<p2 then(Option.bind (iter (UR fu_ p1 K) fu_ ()) λU=>(Av (K+1)).bind λO=>some (.more O)) else(some (.done ()))
def Sk(fu_:Nat)(p1:Int)(p2:Int):Option Unit:=(Av (p1+1)).bind λx1=>Option.bind (iter (U9 fu_ p1 p2) fu_ x1) λK=>some ()
theorem eB{r:Unit}(Z:Sk fu_ p1 p3=some r):AW J 147 [nS,iV p1,iV p3,(fV 61)] E [] (λw E' B'=>w=.tuple #[]/\B'=[]):=by
 refine Bs func147 λQ c3 cs H ay az=>?_;unfold Sk at Z;let⟨x1,a0,a1⟩:=bs Z;refine C 3 V (BE a0 V V V ?_);let⟨c4,a2,a3⟩:=bs a1;refine C 2 V (Fo [] [] (λc5 a4 a5=>?_) (λa6=>?_));cases a3;exact JL.fin (v:=.tuple #[]) V V (BL.list func147 V (vs:=[]) trivial) (az a4 V ⟨V,V⟩ a5);refine JL.block (EH a2 (λK=>[]) (λK=>[(0,.slice none 0 0),(1,iV p1),(2,iV p3),(3,(fV 61)),(8,iV K)]) AR ay ?_);rintro K c6 ac ag a7 ⟨c7,U⟩ a8;have ai:=U;unfold U9 at ai;refine C 7 V (A5 ai (λa9 bb=>?_) (λa9 be=>?_));let⟨c8,bi,bn⟩:=bs bb;refine C 8 V (Fo [] [(0,.slice none 0 0),(1,iV p1),(2,iV p3),(3,(fV 61)),(8,iV K)] (λc9 bo bv=>?_) (λbw=>?_));let⟨bx,bz,b0⟩:=bs bn;refine C 3 V (BE bz V V V ?_);refine C 2 V ?_;cases b0;exact a8 bx (ac.Ad bo) bv V U;refine JL.block (EH bi (λal=>[]) (λal=>[(0,.slice none 0 0),(1,iV p1),(2,iV p3),(3,(fV 61)),(8,iV K),(9,iV K)]) AR ag ?_);rintro al am b1 b2 b3 ⟨dd,ap⟩ dj;have aq:=ap;unfold UR at aq;refine C 2 V (FH 17 λO=>?_);refine Bb O V [0,1,2,3] V ?_;let⟨b4,av,b5⟩:=bs aq;refine Gg 0 (tR_ 17 0) (λL s=>∃(aw:LH),Jm am H aw [] [(0,.slice none 0 0),(1,iV p1),(2,iV p3),(3,(fV 61)),(8,iV K),(9,iV K),(34,.bool b4)] L s) ?_ ?_;rintro _ _ ⟨aw,rfl,rfl,b6,ca⟩;refine AZ.fin (by decide+kernel) (CH b5 (λcc ce=>?_) (λcc ci=>?_));refine C 3 V (FH 16 λO=>?_);refine Bb O V [0,1,2,3] V ?_;let⟨ea,co,cp⟩:=bs ce;refine AS 4 O V V (λρ h s' ct=>EA (h _ _ V) (h _ _ V) co) (Bb O V [5,6] V ?_);let⟨eb,cw,cy⟩:=bs cp;refine AS 7 O V V (λρ h s' ct=>EA (h _ _ V) (h _ _ V) cw) ?_;cases cy;refine JL.exit V ?_;cases ci;obtain rfl:=b3 _ ap;exact bw (b1.Ad b6) ca V;intro c0;refine GL (q:=p1<K) (i:=21) V (λY=>?_) (λY=>?_);have c1:=ip av Y;refine Bb O V [4,5,6] V ?_;cases c1;have c2:=im av Y;refine Bb O V [4,5,6,7,8,9,10,11,12,13,14,15,16] V ?_;cases c2;refine DU ?_ (c0 _ _ ⟨am,V,V,AR,b2⟩);exact⟨V,V,V,V,V,V,V,trivial⟩;refine JL.exit V ?_;cases be;obtain rfl:=a7 _ U;exact a6 ac ag V
def Uq(fu_:Nat)(p1:Int)(p2:Int)(p3:Int)(O:Unit):Option (Bt Unit ((Unit)⊕(Unit))):=(Av (p2 - p1)).bind λK=>if K<=12 then((Sk fu_ p1 p2).bind λU=>some (.done (Sum.inl ()))) else(if p3=0 then(none) else(none))
def So(fu_:Nat)(p1:Int)(p2:Int)(p3:Int):Option Unit:=Option.bind (iter (Uq fu_ p1 p2 p3) fu_ ()) λK=>Sum.elim (λr=>some r) (λO=>none) K
theorem dX{r:Unit}(K:So fu_ p1 p2 p3=some r):AW J 146 [nS,iV p1,iV p2,iV p3,(fV 61)] E [] (λw E' B'=>w=.tuple #[]/\B'=[]):=by
 refine Bs func146 λQ a9 cs H Z ac=>?_;unfold So at K;let⟨bb,ag,ai⟩:=bs K;refine C 8 V (BF (λL s=>False) ?_ ?_);intro _ _ al;exact al.elim;intro be;refine JL.block (EH ag (λO=>[]) (λO=>[(0,.slice none 0 0),(1,iV p1),(2,iV p2),(3,iV p3),(4,(fV 61)),(10,.bool true),(11,.bool true)]) AR Z ?_);rintro O bi am ap aq ⟨bn,U⟩ bo;have Y:=U;unfold Uq at Y;let⟨bv,av,aw⟩:=bs Y;refine C 5 V (BW av V V V ?_);refine C 8 V (A5 aw (λay az=>?_) (λay a0=>?_));let⟨bw,a1,a2⟩:=bs az;refine C 6 V (CW (eB a1) V V (A8 func147 V) ap λbx a3 a4=>?_);refine JL.done ?_;cases a2;obtain rfl:=aq _ U;have a5:=elim_inl ai;cases a5;exact A4 func146 V V (ac (am.Ad a3) V ⟨V,V⟩ a4);refine C 7 V (A5 a0 (λa6 a7=>?_) (λa6 a8=>?_));refine C 6 V ?_;cases a7;refine C 5 V (An (v:=.bool false) V (λρ h=>Yl.not (c:=true) (h _ _ V)) ?_);refine C 9 V ?_;cases a8
def WU(fu_:Nat):Option Unit:=(f115 fu_ (CC ((0:Nat):Int))).bind λx1=>(So fu_ 0 ((0:Nat):Int) x1).bind λK=>some ()
theorem cA{r:Unit}(K:WU fu_=some r):AW J 145 [nS,(fV 61)] E [] (λw E' B'=>w=.tuple #[]/\B'=[]):=by
 refine Bs func145 λQ aq cs H O U=>?_;unfold WU at K;refine C 3 V (JL.ln underlying69 V V V ?_);refine C 6 V (An (v:=.int .u64 ((CC ((0:Nat):Int):Nat):Int)) V (λρ h=>Yl.CC underlying3 underlying83 (h _ _ V)) ?_);let⟨x1,Y,Z⟩:=bs K;refine CW (NC Y) V V M0 O λav ac ag=>?_;let⟨aw,ai,al⟩:=bs Z;refine C 1 V (CW (dX ai) V V (A8 func146 V) ag λay am ap=>?_);refine JL.done ?_;cases al;exact JL.fin (v:=.tuple #[]) V V (BL.list func145 V (vs:=[]) trivial) (U (ac.Ad am) V ⟨V,V⟩ ap)
theorem eX{J:Judge Tryz.prog}{E:LH}{a:Aq}{g:Seg}(Y:OL 47 Ay E a c g p0)(K:f130 fu_ p0=some r):
  AW J 145 [.slice a p0.length c,.func (.func 61) #[] #[]] E g (λw E' B'=>w=.tuple #[]/\OL 47 Ay E' a c B' r/\r.length=p0.length):=by
 rcases Y.cases with⟨rfl,rfl,rfl,rfl⟩ | ⟨bk,f,rfl,rfl,hW⟩
 .have Z:r=[]:=by
   cases fu_ with
   | zero=>exact absurd K (by simp[f130,f169,f193,iter])
   | succ fu_=>
    cases fu_ with
    | zero=>exact(f6 (K.symm.trans (by rfl:f130 1 []=some []))).trans rfl
    | succ fu_=>exact(f6 (K.symm.trans (by rfl:f130 (fu_+2) []=some []))).trans rfl
  subst Z;refine(cA (fu_:=10) (r:=()) V).Ah ?_;rintro w E' B' hle ⟨O,rfl⟩;exact⟨O,OL.nil,V⟩
 .refine(jd hW K).Ah ?_;rintro w E' B' hle ⟨ac,O,rfl,U⟩;exact⟨O,U.1,U.2⟩
def f90(fu_:Nat)(p0:AE):Option (AE):=(f129 fu_ p0).bind λK=>(f130 fu_ K).bind λO=>some O
theorem jP(ai:Ao Ay E a1 c2 p0)(Z:f90 fu_ p0=some r):AW J 142 [sV a1 p0 c2] E [] (λw E' B'=>∃(ac:Aq) (ag:Nat),w= sV ac r ag/\B'=[]/\Ao Ay E' ac ag r):=by
 refine Bs func142 λQ a8 cs H al am=>?_;unfold f90 at Z;let⟨a9,ap,aq⟩:=bs Z;refine C 7 V (B4 (gq ai ap) V V (A8 func144 V) al ?_);rintro _ bb be av ⟨K,O,_,rfl,rfl,aw⟩ ay;let⟨U,az,a0⟩:=bs aq;refine C 5 V (Cc 1 (eX aw az) V V (A8 func145 V) ay V ?_);rintro _ bi bn a2 ⟨rfl,a3,Y⟩ a4;refine EF (L':=[(6,.tuple #[]),(0,.slice K U.length O),(2,.slice none 0 0),(3,.slice a1 p0.length c2),(4,.slice K U.length O),(5,.slice K U.length O)]) ⟨V,by rw[Y];rfl,V,V,by rw[Y];rfl,by rw[Y];rfl,trivial⟩ ?_;refine C 6 V (Cp 1 a3 a4 V λbo a5 a6 a7=>?_);cases a0;exact A4 func142 V V (am ((av.Ad a2).Ad a5) V ⟨K,O,V,V,a6⟩ a7)
end Pal
namespace Pal
open Go Go.Conc
variable {P:Program}{Q:Gs_}{n:Nat}{ds:Ld_}{ops:Ao_}{k:Li_}{cs:Lf_}{m:Nat}{L:Env}{s:St}{E H:LH}{S:List Seg}
variable {d:Option Tmp}{t ty:TypeId}{p:String}{af:Ae_}{g:On_}{v:Value}
section
variable {J:Judge P}{b:Frame}{fuel:Nat}{listed:Array Bool}
variable {x y:Operand}{e:TypeId}{i:Nat}
theorem Take.y0{oi:Oper}(hi:ops[i]?=some oi)(K:(!Ek oi.op&&Bu n oi.dst)=true)(hw:AY L ops oi=some true)(O:∀ρ,Fa L ρ->Yl P oi ρ s v)
  (h:AZ J Q b n ds ops k cs m Ec fuel (Bm listed i) (AB L oi.dst v) s):Take J Q b n ds ops k cs m Ec fuel listed L s i:=
 Take.N6 hi K hw λρ U=>by
  have:=O ρ U
  unfold Yl at this
  refine Es _ this ?_ (λ_ _ h=>h)
  rintro Y s' ⟨rfl,rfl⟩
  exact h
end
end Pal
