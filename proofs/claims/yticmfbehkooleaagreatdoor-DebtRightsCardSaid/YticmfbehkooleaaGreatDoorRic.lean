/- DebtRights: a part (3 of 9) of the proof of its row. -/
import Derived.Test.YticmfbehkooleaaGreatDoorRia
import Derived.Test.YticmfbehkooleaaGreatDoorRib
import Derived.Test.YticmfbehkooleaaGreatDoorProg
import Derived.ProofKit
set_option linter.all false
set_option maxRecDepth 100000
namespace Pal
open Go Go.Conc
variable {P:Program}
variable{s':St}{pure w:Bool}
section
variable (J:Judge P)(Q:Gs_)(b:Frame)(ds:Ld_)(ops:Ao_)(k:Li_)(cs:Lf_)(X D D0:Nat->Bool)
def JB:Nat->Array Bool->Av_->St->Prop
 | 0,listed,T,s=>Region.ready .any ops listed=[]/\J.ok Q (G (fr b T ds (.inRegion ops []::k)) cs) s
 | fuel+1,listed,T,s=>
  Region.ready .any ops listed≠ []/\s.q=false/\∀i∈Region.ready .any ops listed,∀o,ops[i]?=some o->(∀c,o.op≠ .defer c)/\
   (Region.wanted o (yielded ops T)=false->JB fuel (Bs listed i) (Dl T o.dst undef) s)/\
   (Region.wanted o (yielded ops T)=true->X i=true->lp P (execOp (BM T) o) s (λK s'=>(∀x u,D0 x=true->s.get x=some u->s'.get x=some u)/\match K with
    | .value v=>JB fuel (Bs listed i) (Dl T o.dst v) s'
    | .skip=>JB fuel (Bs listed i) (Dl T o.dst undef) s'
    | _=>False) (λ_ _=>False))/\
   (Region.wanted o (yielded ops T)=true->X i=false->lp P (execOp (BM T) o) (BE D s) (λK s'=>match K with
    | .value v=>JB fuel (Bs listed i) (Dl T o.dst v) (CR D s s')
    | .skip=>JB fuel (Bs listed i) (Dl T o.dst undef) (CR D s s')
    | _=>False) (λ_ _=>False))
variable {J Q b ds ops k cs X D D0}
theorem Z7(Z:b.kind≠ .early):∀(fuel t:Nat) (listed:Array Bool) (T:Av_) (s:St),JB J Q b ds ops k cs X D D0 fuel listed T s->
  J.ok Q (G (fr b T ds (.inRegion ops (Region.linearise.go .any ops fuel t listed [])::k)) cs) s:=by
 intro fuel
 induction fuel with
 | zero=>intro t listed T s h;simpa [Region.linearise.go] using h.2
 | succ fuel O=>
  intro t listed T s h;obtain⟨ai,aj,h⟩:=h;obtain⟨i,hi⟩:∃i,(Region.ready .any ops listed)[t%(Region.ready .any ops listed).length]?=some i:=by
   have:0<(Region.ready .any ops listed).length:=tX.2 ai;exact⟨_,bI (tJ _ this)⟩
  have ac:=qL hi;have hgo:Region.linearise.go .any ops (fuel+1) t listed []=i::Region.linearise.go .any ops fuel (t/(Region.ready .any ops listed).length) (Bs listed i) []:=by
   simp only[Region.linearise.go];change (match(Region.ready .any ops listed)[t%(Region.ready .any ops listed).length]? with
    | some i=>Region.linearise.go .any ops fuel (t/(Region.ready .any ops listed).length) (listed.setIfInBounds i true) [i]
    | none=>[].reverse)=_
   rw[hi];simp only;rw[linearise_go_acc];rfl
  rw[hgo];let⟨_,o,U,_⟩:=mem_ready.1 ac;let⟨hd,al,am,ap⟩:=h i ac o U;cases hw:Region.wanted o (yielded ops T) with
  | false=>exact Judge.unwanted U hw (O _ _ _ _ (al hw))
  | true=>
   cases ag:X i with
   | true=>
    refine Judge.oper U hw Z (.inr hd) (EP _ (am hw ag) ?_ (λ_ _ h=>h.elim));rintro Y s' ⟨_,K⟩;cases Y with
    | value v=>exact O _ _ _ _ K
    | skip=>exact O _ _ _ _ K
    | _=>exact K.elim
   | false=>
    refine Judge.Vg D U hw Z hd aj (EP _ (ap hw ag) ?_ (λ_ _ h=>h));intro Y s' K;cases Y with
    | value v=>exact O _ _ _ _ K
    | skip=>exact O _ _ _ _ K
    | _=>exact K.elim
def waitAll(ops:Ao_)(X:Nat->Bool)(i:Nat):Bool:=(List.range ops.size).all λj=> !X j || waits ops ops.size j i
theorem dz{D:Nat->Bool}{s:St}(K:s'.E=(BE D s).E){x:Nat}{o:Obj}(h:s.E x=some o):(CR D s s').E x=some o:=by
 by_cases hd:D x;simp[CR,hd,h];have:=uM K x;simp[BE,hd] at this;simp[CR,hd,this,h]
theorem cV{D0 D:Nat->Bool}{s:St}(h:∀x,D0 x=true->D x=true):∀x o,(BE D0 s).E x=some o->(BE D s).E x=some o:=λx o K=>by
 simp only[BE] at K ⊢
 split;split at K;exact K;unfold St.get;rw[K];rename_i hd;rw[d7 (λe=>hd (h x e))] at K;exact K
theorem iq{D0:Nat->Bool}{s:St}(h:∀x o,(BE D0 s).E x=some o->s'.E x=some o):∀x o,s.E x=some o->s'.E x=some o:=λx o K=>h x o (by
 simp only[BE];split;unfold St.get;rw[K]
 .exact K)
theorem bl{D0:Nat->Bool}{s:St}(h:∀x u,D0 x=true->s.get x=some u->s'.get x=some u)(O:s'.E=s.E):∀x o,(BE D0 s).E x=some o->(BE D0 s').E x=some o:=λx o K=>by
 simp only[BE] at K ⊢
 split;rename_i hd;rw[d0 hd] at K;exact h x o hd K;rename_i hd;rw[d7 hd] at K;rw[O];exact K
theorem SO{D0 D:Nat->Bool}{s:St}(h:∀x,D0 x=true->D x=true)(O:s'.E=(BE D s).E):∀x o,(BE D0 s).E x=some o->(BE D0 (CR D s s')).E x=some o:=λx o K=>by
 simp only[BE] at K ⊢
 split
 .rename_i hd;rw[d0 hd] at K
  unfold St.get CR;simp only[h x hd,rH];exact K
 .rename_i hd;rw[d7 hd] at K;exact dz O K
theorem Ua{i:Nat}{oi:Oper}{v:Value}(b0:∀x,D0 x=true->D x=true)(hi:ops[i]?=some oi)(c2:X i=false)(ci:(pure || waitAll ops X i)=true)(c3:Region.noSelect ops=true)(c4:∀c,oi.op≠ .defer c):
  ∀(fuel:Nat) (listed:Array Bool) (T:Av_) (s:St),Jv ops listed i oi=true->Is ops listed=true->listed.size=ops.size->i∈Region.ready .any ops listed->s.q=false->Region.wanted oi (yielded ops T)=w->
   (w=true->∀s',s'.q=false->(∀x o,(BE D0 s).E x=some o->s'.E x=some o)->(pure=false->∀x o,(BE D s).E x=some o->s'.E x=some o)->Yl P oi (BM T) s' v)->
   JB J Q b ds ops k cs X D D0 fuel (Bs listed i) (Dl T oi.dst (if w then v else undef)) s->JB J Q b ds ops k cs X D D0 (fuel+1) listed T s:=by
 have am:∀(j:Nat) (oj:Oper),ops[j]?=some oj->∀cs b,oj.op≠Op.select cs b:=λj oj h cs b=>Region.noSelect_spec c3 j oj cs b h;intro fuel
 induction fuel with
 | zero=>?_
 | succ fuel a2=>?_
 all_goals
  intro listed T s ck co a3 bv a4 hw ap h;refine⟨λe=>(by rw[e] at bv;cases bv),a4,λj hj oj U=>?_⟩;by_cases a5:j=i
  .subst a5;obtain rfl:oj=oi:=by rw[hi] at U;exact(ep U).symm
   refine⟨c4,λO=>?_,λaq K=>?_,λaq K=>?_⟩;rw[O] at hw;subst hw;exact h;rw[c2] at K;cases K;rw[aq] at hw;subst hw;refine EP _ (ap V (BE D s) a4 (cV b0) λ_ _ _ h=>h).out ?_ (λ_ _ h=>h);rintro bw s' ⟨rfl,rfl⟩;rw[LZ];exact h
  ·
   have cp:j∈Region.ready .any ops (Bs listed i):=ready_mono hj a5;let⟨aw,Y,ct,b1⟩:=mem_ready.1 hj;obtain rfl:Y=oj:=by rw[U] at ct;exact(ep ct).symm
   have b2:=(mem_ready.1 bv).1;have c5:(Y.after.any λe=>Region.binds .any e&&e.on==i)=false:=by
    rw[Array.any_eq_false];intro e he K;simp only[eM,sB] at K;have:=b1 _ (Array.getElem_mem he) K.1;rw[K.2] at this;have a0:listed.getD i true=listed.getD i false∨listed.size<=i:=by
     rcases f7 i listed.size with q | q;left;simp[f5,q];exact .inr q
    rcases a0 with a0 | a0;rw[b2,this] at a0;cases a0;rw[f5,qQ a0] at this;simp at this
   have c6:oi.apart ops Y=true:=by
    have b3:j<ops.size:=(eF.1 U).1;have:=q3.1 ck j (q7.2 b3);simp only[rO,sB] at this;rcases this with(q | q) | q;exact absurd q a5;rw[aw] at q;cases q;rw[U] at q;simp only[rO] at q;rw[c5] at q;exact q.resolve_left (by simp)
   let⟨a1,a6,a7⟩:=Oper.apart_spec c6;let⟨p1,p2⟩:=IU (ops:=ops) (T:=T) (v:=if w then v else undef) (am j Y U) a1
   first
    | exact absurd cp (by rw[h.1];simp)
    | (
     obtain⟨ee,_,h⟩:=h
     let⟨hd,O,c7,c8⟩:=h j cp Y U
     have a8:Bs (Bs listed i) j=Bs (Bs listed j) i:=by
      unfold Bs;exact tE _ _ (q2 a5)
     have a9:i∈Region.ready .any ops (Bs listed j):=ready_mono bv (q2 a5)
     have bb:Jv ops (Bs listed j) i oi=true:=by
      refine q3.2 λx K=>?_
      have:=q3.1 ck x K
      simp only[rO,sB] at this ⊢
      rcases this with(q | q) | q;exact .inl (.inl q)
      .left;right
       by_cases e:j=x;subst e;rw[aw] at q;cases q;rw[Bs,getD_set_ne true e];exact q
      .exact .inr q
     have be:(Bs listed j).size=ops.size:=by unfold Bs;simpa using a3
     have bg:Is ops (Bs listed j)=true:=by
      refine q3.2 λx K=>?_
      cases b4:ops[x]? with
      | none=>simp
      | some c9=>
       simp only[rO,tf]
       by_cases e:j=x
       .subst e
        obtain rfl:c9=Y:=by rw[U] at b4;exact(ep b4).symm
        right
        refine sQ.2 λe he=>?_
        cases hb:Region.binds .any e with
        | false=>simp
        | true=>
         have:=b1 e he hb
         by_cases e2:j=e.on
         .rw [← e2] at this
          have b5:j<listed.size:=by rw[a3];exact(eF.1 U).1
          simp[f5,b5] at this aw
          rw[aw] at this;cases this
         .rw [Bs,getD_set_ne false e2];simpa using this
       .cases cw:(Bs listed j).getD x false with
        | false=>exact .inl rfl
        | true=>
         right
         have dd:listed.getD x false=true:=by rw[Bs,getD_set_ne false e] at cw;exact cw
         refine sQ.2 λb6 he=>?_
         cases hb:Region.binds .any b6 with
         | false=>simp
         | true=>
          have:=QL co b4 dd b6 he hb
          by_cases e2:j=b6.on
          .rw [← e2] at this
           have b5:j<listed.size:=by rw[a3];exact(eF.1 U).1
           simp[f5,b5] at this aw
           rw[aw] at this;cases this
          .rw [Bs,getD_set_ne false e2];simpa using this
     refine⟨hd,λdj=>?_,λca bx=>?_,λca bx=>?_⟩
     .have:=O (by rw[p2];exact dj)
      rw[a8,J4 a6] at this
      let⟨Z,ac⟩:=IU (ops:=ops) (T:=T) (d:=Y.dst) (v:=undef) (o:=oi) (am i oi hi) a7
      exact a2 _ _ _ bb bg be a9 a4 (by rw[ac];exact hw) (λag s' ea O ai=>by unfold Yl;rw[Z];exact(ap ag s' ea O ai).out) this
     ·
      have eb:pure=true:=by
       cases ec:pure with
       | true=>rfl
       | false=>
        exfalso
        rw[ec,uH] at ci
        have b3:j<ops.size:=(eF.1 U).1
        have aq:=q3.1 ci j (q7.2 b3)
        rw[bx] at aq
        simp only[uG,uH] at aq
        rcases SW co _ j Y U (λe he hb=>b1 e he hb) aq with q | ⟨x,Z,ac⟩
        .have ed:i<listed.size:=by rw[a3];exact(eF.1 hi).1
         simp[f5,ed] at q b2
         rw[b2] at q;cases q
        .have:¬x<listed.size:=by rw[a3];intro K;simp[K] at Z
         simp[f5,this] at ac
      have bi:=Qf _ (c7 (by rw[p2];exact ca) bx)
      rw[p1] at bi
      refine EP _ bi ?_ (λ_ _ h=>h)
      rintro bw s' ⟨⟨cc,K⟩,ai,ce⟩
      have cy:=bl cc ai
      have bo:s'.q=false:=ce.trans a4
      have c0:pure=false->∀{α:Prop},α:=λe=>by rw[eb] at e;cases e
      cases bw with
      | value u=>
       simp only at K ⊢
       rw[a8,J4 a6] at K
       let⟨Z,ac⟩:=IU (ops:=ops) (T:=T) (d:=Y.dst) (v:=u) (o:=oi) (am i oi hi) a7
       exact⟨cc,a2 _ _ _ bb bg be a9 bo (by rw[ac];exact hw) (λag s2 aj O al=>by unfold Yl;rw[Z];exact(ap ag s2 aj (λx o h=>O x o (cy x o h)) (λe=>c0 e)).out) K⟩
      | skip=>
       simp only at K ⊢
       rw[a8,J4 a6] at K
       let⟨Z,ac⟩:=IU (ops:=ops) (T:=T) (d:=Y.dst) (v:=undef) (o:=oi) (am i oi hi) a7
       exact⟨cc,a2 _ _ _ bb bg be a9 bo (by rw[ac];exact hw) (λag s2 aj O al=>by unfold Yl;rw[Z];exact(ap ag s2 aj (λx o h=>O x o (cy x o h)) (λe=>c0 e)).out) K⟩
      | _=>exact K.elim
     .have bi:=Qf _ (c8 (by rw[p2];exact ca) bx)
      rw[p1] at bi
      refine EP _ bi ?_ (λ_ _ h=>h)
      rintro bw s' ⟨K,ai,ce⟩
      have c1:=S9 (D:=D) ai
      have bo:(CR D s s').q=false:=by show s'.q=false;rw[ce];exact a4
      cases bw with
      | value u=>
       simp only at K ⊢
       rw[a8,J4 a6] at K
       let⟨Z,ac⟩:=IU (ops:=ops) (T:=T) (d:=Y.dst) (v:=u) (o:=oi) (am i oi hi) a7
       exact a2 _ _ _ bb bg be a9 bo (by rw[ac];exact hw) (λag s2 aj O al=>by unfold Yl;rw[Z];exact(ap ag s2 aj (λx o h=>O x o (SO b0 ai x o h)) (λe=>by rw[c1] at al;exact al e)).out) K
      | skip=>
       simp only at K ⊢
       rw[a8,J4 a6] at K
       let⟨Z,ac⟩:=IU (ops:=ops) (T:=T) (d:=Y.dst) (v:=undef) (o:=oi) (am i oi hi) a7
       exact a2 _ _ _ bb bg be a9 bo (by rw[ac];exact hw) (λag s2 aj O al=>by unfold Yl;rw[Z];exact(ap ag s2 aj (λx o h=>O x o (SO b0 ai x o h)) (λe=>by rw[c1] at al;exact al e)).out) K
      | _=>exact K.elim)
end
section
variable (J:Judge P)(Q:Gs_)(b:Frame)(n:Nat)(ds:Ld_)(ops:Ao_)(k:Li_)(cs:Lf_)(X D D0:Nat->Bool)
def Gd(fuel:Nat)(listed:Array Bool)(L:Env)(s:St):Prop:=∀T,Has n L T->JB J Q b ds ops k cs X D D0 fuel listed T s
end
theorem JB.take{i:Nat}{oi:Oper}{v:Value}{P:Program}{J:Judge P}{Q:Gs_}{b:Frame}{ds:Ld_}{ops:Ao_}{k:Li_}{cs:Lf_}{X D D0:Nat->Bool}(K:∀x,D0 x=true->D x=true)(hi:ops[i]?=some oi)(O:X i=false)(U:(pure || waitAll ops X i)=true)(Y:Region.noSelect ops=true)(Z:∀c,oi.op≠ .defer c)
  (fuel:Nat) (listed:Array Bool) (T:Av_) (s:St) (ac:Jv ops listed i oi=true) (ag:Is ops listed=true) (ai:listed.size=ops.size) (aj:i∈Region.ready .any ops listed) (al:s.q=false) (am:Region.wanted oi (yielded ops T)=w)
  (ap:w=true->∀s',s'.q=false->(pure=false->∀x o,(BE D s).E x=some o->s'.E x=some o)->Yl P oi (BM T) s' v)
  (h:JB J Q b ds ops k cs X D D0 fuel (Bs listed i) (Dl T oi.dst (if w then v else undef)) s):JB J Q b ds ops k cs X D D0 (fuel+1) listed T s:=
 Ua K hi O U Y Z fuel listed T s ac ag ai aj al am (λe s' aq _ aw=>ap e s' aq aw) h
def Kj(ops:Ao_)(listed:Array Bool)(xs:List Nat)(pure:Bool)(i:Nat):Bool:=match ops[i]? with
 | some oi=> !AH xs i&&(pure || waitAll ops (AH xs) i)&&Region.noSelect ops&& !EJ oi.op&&Jv ops listed i oi&&Is ops listed&&listed.size==ops.size&&(Region.ready .any ops listed).contains i
 | none=>false
variable {J:Judge P}{Q:Gs_}{n:Nat}{ds:Ld_}{ops:Ao_}{k:Li_}{cs:Lf_}{X D:Nat->Bool}{l0:List Nat}{L:Env}{s:St}{E H:LH}{S:List Seg}{xl bks:List Nat}
variable {d:Option Tmp}{t u ty:TypeId}{p:String}{af:Ae_}{g:On_}{v:Value}{kd:IntKind}
section
variable {b:Frame}{fuel:Nat}{listed:Array Bool}
variable {x y:Operand}{e:TypeId}{i:Nat}
theorem Hi(xl bks l0:List Nat){id:Nat}(hm:P.follows .mixedOrders=true)(K:(b.kind != .early)=true)
  (h:Gd J Q b n ds ops k cs (AH xl) (AH (l0++bks)) (AH l0) ops.size (Array.replicate ops.size false) L (Ak E H S)):JL J Q b n L ds (.code (.region id ops true)::k) cs (Ak E H S):=
 UW V hm λt T O=>Z7 (by simpa using K) ops.size t _ T _ (h T O)
theorem Wq:∀x,AH l0 x=true->AH (l0++bks) x=true:=λx h=>by
 simp only[AH,List.contains_iff_mem,ik] at h ⊢;exact .inl h
theorem JB.val{oi:Oper}(i:Nat)(pure:Bool)(hi:ops[i]?=some oi)(K:Kj ops listed xl pure i=true)(Y:s.q=false)
  (hw:A3 L ops oi=some true) (Z:BA n oi.dst=true) (ac:∀ρ,Fz L ρ->∀s':St,(pure=false->∀x o,(BE (AH (l0++bks)) s).E x=some o->s'.E x=some o)->Yl P oi ρ s' v)
  (h:Gd J Q b n ds ops k cs (AH xl) (AH (l0++bks)) (AH l0) fuel (Bs listed i) (AE L oi.dst v) s):Gd J Q b n ds ops k cs (AH xl) (AH (l0++bks)) (AH l0) (fuel+1) listed L s:=λT O=>by
 simp only[Kj,hi,eM] at K
 obtain⟨⟨⟨⟨⟨⟨⟨ag,ai⟩,aj⟩,U⟩,al⟩,am⟩,ap⟩,aq⟩:=K
 refine JB.take (w:=true) (v:=v) (pure:=pure) Wq hi (by simpa using ag) ai aj (λc K=>by rw[K] at U;simp[EJ] at U) fuel listed T s al am (by simpa using ap) (by simpa using aq) Y (Cr O hw) (λ_ s' a0 aw=>ac _ O.GL s' aw) ?_
 exact h _ (O.put Z v)
theorem Nc{oi:Oper}(i:Nat)(hi:ops[i]?=some oi)(K:Kj ops listed xl true i=true)(Y:s.q=false)
  (hw:A3 L ops oi=some true) (Z:BA n oi.dst=true) (ac:∀ρ,Fz L ρ->∀s':St,(∀x o,(BE (AH l0) s).E x=some o->s'.E x=some o)->Yl P oi ρ s' v)
  (h:Gd J Q b n ds ops k cs (AH xl) (AH (l0++bks)) (AH l0) fuel (Bs listed i) (AE L oi.dst v) s):Gd J Q b n ds ops k cs (AH xl) (AH (l0++bks)) (AH l0) (fuel+1) listed L s:=λT O=>by
 simp only[Kj,hi,eM] at K
 obtain⟨⟨⟨⟨⟨⟨⟨ag,ai⟩,aj⟩,U⟩,al⟩,am⟩,ap⟩,aq⟩:=K
 refine Ua (w:=true) (v:=v) (pure:=true) Wq hi (by simpa using ag) ai aj (λc K=>by rw[K] at U;simp[EJ] at U) fuel listed T s al am (by simpa using ap) (by simpa using aq) Y (Cr O hw) (λ_ s' a0 aw _=>ac _ O.GL s' aw) ?_
 exact h _ (O.put Z v)
theorem EV{oi:Oper}(i:Nat)(hi:ops[i]?=some oi)(K:Kj ops listed xl true i=true)(O:s.q=false)
  (hw:A3 L ops oi=some true) (U:BA n oi.dst=true) (Y:∀ρ,Fz L ρ->∀s':St,(∀x o,s.E x=some o->s'.E x=some o)->Yl P oi ρ s' v)
  (h:Gd J Q b n ds ops k cs (AH xl) (AH (l0++bks)) (AH l0) fuel (Bs listed i) (AE L oi.dst v) s):Gd J Q b n ds ops k cs (AH xl) (AH (l0++bks)) (AH l0) (fuel+1) listed L s:=
 Nc i hi K O hw U (λρ Z s' ac=>Y ρ Z s' (iq ac)) h
theorem JB.fin{l0:List Nat}(K:Region.ready .any ops listed=[])(h:JL J Q b n L ds k cs s):Gd J Q b n ds ops k cs X D (AH l0) 0 listed L s:=λT O=>⟨K,JL.done h T O⟩
def NL(S:List Seg)(j:Nat):List Nat->Prop
 | []=>True
 | bk::l=>(∃(i:Nat) (o:Obj),(i==j)=false/\S[i]?=some [(bk,o)])/\NL S j l
theorem NL.mem{S:List Seg}{j:Nat}:∀{l:List Nat},NL S j l->∀bk∈l,∃(i:Nat) (o:Obj),i≠j/\S[i]?=some [(bk,o)]
 | [],_,_,h=>by cases h
 | b::l,⟨⟨i,o,hi,h⟩,K⟩,bk,hb=>by
  rcases fP.1 hb with rfl | hb;exact⟨i,o,by simpa using hi,h⟩;exact K.mem bk hb
theorem JB.store{bk off:Nat}{c:Av_}(i j:Nat)(Y:Region.ready .any ops listed=[i])(ap:AH xl i=true)(aq:ops[i]?=some ⟨d,.store t x y,ty,p,af,g⟩)(hw:A3 L ops ⟨d,.store t x y,ty,p,af,g⟩=some true)(aw:BA n d=true)(Z:Au E H S)
  (O:ev L x=some (.pointer (some ⟨bk,off,none⟩))) (a0:ev L y=some v) (a1:Bz P t=some v.cells.size) (a2:∀u∈v.cells.toList,CL u=true) (ac:S[j]?=some [(bk,.cells c e (0,0))]) (a3:NL S j l0) (hle:off+v.cells.size<=c.size)
  (h:Au E H (S.set j [(bk,.cells (Bf c off v.cells.toList) e (0,0))])->Gd J Q b n ds ops k cs (AH xl) (AH (l0++bks)) (AH l0) fuel (Bs listed i) (AE L d undef) (Ak E H (S.set j [(bk,.cells (Bf c off v.cells.toList) e (0,0))]))):
  Gd J Q b n ds ops k cs (AH xl) (AH (l0++bks)) (AH l0) (fuel+1) listed L (Ak E H S):=λT K=>by
 refine⟨by rw[Y];simp,rfl,λbb U o' ag=>?_⟩
 rw[Y] at U
 simp at U
 subst U
 obtain rfl:o'=⟨d,.store t x y,ty,p,af,g⟩:=by rw[aq] at ag;exact(ep ag).symm
 have a4:=Cr K hw;refine⟨λc a5=>(by cases a5),λe=>?_,λ_ _=>?_,λ_ e=>?_⟩;rw[a4] at e;cases e
 .let⟨ai,a6⟩:=Hu Z ac;rw[ai];show lp P (do Instr.storeAt t (BM T x) (BM T y);pure Next.skip) _ _ _
  rw[K.ev O,K.ev a0];refine AA _ _ ?_;unfold Instr.storeAt;simp only[Instr.sureAddr,bind,Sem.bind,pure];refine QK (pl:=(S.set j []).flatten.length) a1 a2 a6 (c:=c) (e:=e) (by simp) hle λaj=>?_;have a7:((S.set j []).flatten++ [(bk,Obj.cells c e (0,0))]).set (S.set j []).flatten.length (bk,.cells (Bf c off v.cells.toList) e (0,0))=(S.set j []).flatten++ [(bk,.cells (Bf c off v.cells.toList) e (0,0))]:=HT _ _ _ _;rw[a7] at aj ⊢;let⟨a8,al⟩:=Jw ac aj;rw[a8];refine⟨λx u O a9=>?_,h al _ (K.put aw undef)⟩;obtain⟨be,o',hj,am⟩:=a3.mem x (by simpa [AH] using O);have g1:(Ak E H S).get x=some o':=Ej (i:=0) Z am rfl;have g2:(Ak E H (S.set j [(bk,.cells (Bf c off v.cells.toList) e (0,0))])).get x=some o':=Ej (i:=0) al (by rw[qU (q2 hj)];exact am) rfl;have g0:(Ak E H S).get x=some u:=by rw[ai];exact a9
  rw[g1] at g0;rw[g2];exact g0
 .rw [ap] at e;cases e
end
theorem Oq{E H:LH}{S:List Seg}{bks:List Nat}{bk o:Nat}{l ws:Lv_}{e:TypeId}{f:Nat×Nat}{w:Value}(j:Nat)(K:Au E H S)(O:S[j]?=some [(bk,.cells (l++ws).toArray e f)])(U:AH bks bk=true)(Y:∀x o,(BE (AH bks) (Ak E H S)).E x=some o->s'.E x=some o)(Z:ws[o]?=some w):s'.cell? ⟨bk,l.length+o,none⟩=some w:=by
 have:=Ut j K O U Y o w Z
 rwa[EG rfl] at this
variable {B:List (Nat×Obj)}
variable{ats:Array TypeId}{a ax:Option Addr}{c2 cx l sz:Nat}{z:Value}
section
variable {e:TypeId}
theorem SR{m:Nat}{xs ys:Lv_}{Q:Value->St->Prop}{X:Halt->St->Prop}
  (a0:ats[0]?=some t) {t1 a1:TypeId}(a2:ats[1]?=some t1) (a3:P.underlying t1=some (.slice a1)) (a4:P.underlying t=some (.slice e)) (a5:Bz P e=some sz) (hb:Ga P e=some c2) (a6:zeroOf P e=some z) (a7:z.cells.size=sz)
  (a8:Nd E H B) (ag:Ix (mk E H B) (.slice a l l) sz xs)
  (Y:Ix (mk E H B) (.slice ax m cx) sz ys) (bx:∀w∈ys,CL w=true) (b0:0<c2) (b1:l+m<=2^40) (a9:c2<=64)
  (aq:m=0->Q (.slice a (l+m) l) (mk E H B))
  (bb:∀r Z ai,l+m<=ai->Z.size=ai*sz->Z.toList.take ((l+m)*sz)=xs++ys->Nd E H (B++ [(r,.cells Z e (0,0))])->Q (.slice (some ⟨r,0,none⟩) (l+m) ai) (mk E H (B++ [(r,.cells Z e (0,0))]))):
  lp P (Builtin.append_ ats ty #[.slice a l l,.slice ax m cx]) (mk E H B) Q X:=by
 unfold Builtin.append_;simp only[a0,a2,q6,rR,si];refine AA _ _ (CM a4 ?_);refine AA _ _ (Fv a5 ?_);refine AA _ _ (CM a3 ?_);simp only[IS,qP,rr,Builtin.lenOf,uz,rH];have ac:ys.length=m*sz:=by
  cases ax with
  | none=>obtain⟨O,U⟩:=Y;subst O U;simp
  | some ad=>exact Y.2.1
 have aj:xs.length=l*sz:=by
  cases a with
  | none=>obtain⟨O,U⟩:=ag;subst O U;simp
  | some ad=>exact ag.2.1
 obtain⟨c,b2⟩:∃c,c=l:=⟨_,V⟩;split
 .rename_i b3;have hm:m=0:=by omega
  have be:ys=[]:=q0 (by rw[ac,hm];simp);refine AA _ _ (K8 ⟨ax,cx,V⟩ Y ?_);subst be;cases a with
  | none=>exact aq hm
  | some ad=>exact aq hm
 .rename_i b4;have O:¬(((l+m:Nat):Int)>IntKind.i64.max/\(False∨c2=0)):=by rintro⟨_,h | h⟩<;>omega
  have U:¬(Builtin.nextslicecap (l+m) l*c2>2^48):=by
   have:=Tv (need:=l+m) (old:=l) (by omega);have b5:Builtin.nextslicecap (l+m) l*c2<=(2*(l+m)+768)*64:=Nat.mul_le_mul this a9;omega
  let⟨inf,al,am⟩:=Q3 hb;refine AA _ _ (K9 al ?_);rw[am,d7 O];refine AA _ _ (K9 al ?_);rw[am,d7 U];refine AA _ _ ?_;simp only[choose,lp,Question.forced,qP,rr];refine⟨V,λbg=>?_⟩;generalize bi:(Question.appendCap (l+m) l e).cut bg=ap;have bo:l+m<=ap:=by rw[← bi];simp[Question.cut]
  refine AA _ _ (K9 al ?_);rw[am];have bv:∀{α:Type}{f:Unit->Sem α}{Q:α->St->Prop},lp P (f ()) (mk E H B) Q X->lp P (askRoom (ap*c2)>>=f) (mk E H B) Q X:=by
   intro α f Q aw;refine AA _ _ ?_;unfold askRoom;split;exact⟨.inl ⟨V,V⟩,aw⟩;exact aw
  refine bv (AA _ _ (K8 ⟨a,l,V⟩ ag ?_));refine AA _ _ (K8 ⟨ax,cx,V⟩ Y ?_);refine AA _ _ (Ij a6 ?_);refine AA _ _ (Jo a8 λr bw=>?_);refine bb r _ ap bo ?_ ?_ bw;simp only[Array.size_append,sE,SL,a7,aj,ac];rw[← su,← su];congr 1;omega;simp only[Array.toList_append];rw[tU (by simp[aj,ac,su])];rw[sa (by simp[aj,ac,su])]
end
variable{α:Type}{c:Nat}
theorem Am.spot{pp:Rp α}{E:LH}{xs:List α}(h:Am pp E a c xs):∀ad,a=some ad->ad.spot=none∨c=0:=λad K=>by
 rcases h.2 with⟨_,h⟩ | ⟨bk,off,h,_⟩;exact h ad K;rw[h] at K;cases K;exact .inl rfl
theorem Am.full{pp:Rp α}{E:LH}{xs:List α}(h:Am pp E a c xs):Am pp E a xs.length xs:=⟨qH _,h.2.imp (λ⟨h,_⟩=>⟨h,λ_ _=>.inr (by rw[h];rfl)⟩) id⟩
theorem Am.Ml{pp:Rp α}{E H:LH}{B:List (Nat×Obj)}{ys:List α}(ac:Am pp E a c ys):
  ∃K:List (Lv_),K.length=ys.length/\(∀(i:Nat) x ws,ys[i]?=some x->K[i]?=some ws->pp.r E ws x)/\Ix (mk E H B) (.slice a ys.length c) pp.n K.flatten/\∀w∈K.flatten,CL w=true:=by
 obtain⟨K,U,Z,Y⟩:=ac.rows;have ag:=IX U Z;refine⟨K,U,Z,?_,λw hw=>?_⟩
 .rcases Y with⟨Y,aq⟩ | ⟨bk,off,rfl,Y⟩
  .subst Y;have:K=[]:=q0 U;subst this;cases a with
   | none=>exact⟨rfl,rfl⟩
   | some ad=>exact⟨.inr rfl,by simp,rl _,λq w O=>by simp at O⟩
  .refine⟨.inl V,by rw[MV ag,U],ac.1,λq w O=>?_⟩;let⟨ai,m,ws,aj,e2,al⟩:=QO ag O;have:=(Y ai ws aj).cell (H:=H) (B:=B) e2;subst al;rw[← sU];exact this
 .let⟨us,am,hw⟩:=sJ.1 hw;let⟨q,O⟩:=qZ.1 am;have ap:q<ys.length:=by rw[← U];exact(dY.1 O).1
  exact pp.one (Z q _ us (bI ap) O) w hw
variable {E':LH}
variable {z1:Operand}{rest:List Nat}{ρ:Operand->Value}
section
variable {b:Frame}
variable {x y:Operand}{e:TypeId}{i:Nat}
theorem Tf(K:∀ad,a=some ad->ad.spot=none∨c=0)(O:l<=c)(U:P.underlying t=some (.slice e))(Y:Bz P e=some sz)(Z:ρ x=.slice a l c)(ac:ρ y=iV (l:Int))(ag:ρ z1=iV (l:Int)):
  Yl P ⟨d,.slice t x none (some y) (some z1),ty,p,af,g⟩ ρ s (.slice a l l):=by
 have h:=Yl.slice (P:=P) (s:=s) (d:=d) (ty:=ty) (p:=p) (af:=af) (g:=g) (olo:=none) (ohi:=some y) (omx:=some z1) (lo:=0) (hi:=l) (mx:=l) U Y Z ag ac V O (qH _) (rl _);have ai:(if l=0 then a else a.map (·.add (0*sz)))=a:=by
  split;rfl
  .cases a with
   | none=>rfl
   | some ad=>
    have:=(K ad rfl).resolve_right (by omega);simp only[rZ,sP];rw[EG this];obtain⟨b,o,sp⟩:=ad;simp only at this;subst this;simp
 rw[ai] at h;simpa using h
theorem Yn{pp:Rp α}{t1:TypeId}{xs ys Z:List α}(U:CZ xs ys=some Z)
  (aq:ops[i]?=some ⟨d,.call ⟨.builtin .append,#[x,y],ats⟩,ty,p,af,g⟩) (hw:A3 L ops ⟨d,.call ⟨.builtin .append,#[x,y],ats⟩,ty,p,af,g⟩=some true) (aw:BV b n ⟨d,.call ⟨.builtin .append,#[x,y],ats⟩,ty,p,af,g⟩=true)
  (a0:ev L x=some (.slice a xs.length xs.length)) (a1:ev L y=some (.slice ax ys.length cx)) (a2:ats[0]?=some t) (a3:ats[1]?=some t1) (a4:P.underlying t=some (.slice e)) (a5:P.underlying t1=some (.slice e)) (a6:Bz P e=some pp.n) (hb:Ga P e=some c2) (a7:zeroOf P e=some z) (a8:z.cells.size=pp.n)
  (a9:0<c2) (bb:c2<=64) (ac:Am pp E a c xs) (be:Am pp E ax cx ys) (ag:Au E H S)
  (h:∀E' ai K,Le E E'->Am pp E' ai K Z->Au E' H (S++ [[]])->JL J Q b n (AE L d (.slice ai Z.length K)) ds (.inRegion ops rest::k) cs (Ak E' H (S++ [[]]))):
  JL J Q b n L ds (.inRegion ops (i::rest)::k) cs (Ak E H S):=by
 unfold CZ at U;split at U
 rotate_left
 .cases U
 rename_i bg;cases U;let⟨wss,aj,bi,bo,co⟩:=Am.Ml (H:=H) (B:=S.flatten) ac.full;let⟨bv,bw,bx,b0,b1⟩:=Am.Ml (H:=H) (B:=S.flatten) be;have hlen:(xs++ys).length=xs.length+ys.length:=by simp
 show JL J Q b n L ds (.inRegion ops (i::rest)::k) cs (mk E H S.flatten);refine JL.op aq hw aw λρ al=>?_;rw[MT,al x _ a0,al y _ a1];refine AA _ _ (SR a2 a3 a5 a4 a6 hb a7 a8 ag bo b0 b1 a9 bg bb ?_ ?_)
 .intro hm;have b2:ys=[]:=q0 hm;subst b2;have b3:Au E H (S++ [[]]):=by unfold Au at*;rw[F2,qW];exact ag
  have b4:mk E H S.flatten=Ak E H (S++ [[]]):=by unfold Ak;rw[F2,qW]
  rw[b4];have:=h E a xs.length (Le.refl _) (by rw[qW];exact ac.full) b3;rw[hlen] at this;exact this
 .intro r O K b5 b6 ca cc;have ce:OL e pp E (some ⟨r,0,none⟩) K [(r,.cells O e (0,0))] (xs++ys):=
   ⟨wss++bv,.inr ⟨r,O,rfl,rfl,b6,by rw[hlen];exact b5,by rw[hlen,rX];exact ca.symm⟩,by simp[aj,bw],Oi aj bi bx⟩
  have am:=FL (S:=S) (seg:=[(r,.cells O e (0,0))]) cc;show JL J Q b n _ ds _ cs (mk E H (S.flatten++ [(r,.cells O e (0,0))]));rw[am.1];refine BO S.length ce am.2 (by simp) λE' hle ci ap=>?_;have ck:(S++ [[(r,Obj.cells O e (0,0))]]).set S.length []=S++ [[]]:=HT _ _ _ _;rw[ck] at ap ⊢;have:=h E' (some ⟨r,0,none⟩) K hle ci ap;rw[hlen] at this;exact this
end
open Go.ConcN (sumTo sumTo_upd upd upd_ne upd_same)
def Ng(P:Program)(R:Value->St->Prop):GP:=λg s=>
 g.status=.running/\∃v,R v s/\∀w,stepG P true g w=.ended (.done v) w #[]
variable {R:Value->St->Prop}
section
variable {b:Frame}
theorem JO.end{fn:Func}{t:Tmp}{v:Value}(K:b.kind=.normal)(hi:P.inits.idxOf? b.fn=none)(O:P.funcs[b.fn]?=some fn)(U:fn.results=#[.tmp t])(Y:look L t=some v)(Z:R v s):JO J (Ng P R) b n L [] [] s:=λT ac todo=>by
 refine J.stop ⟨rfl,v,Z,λw=>?_⟩
 have e:results fn T=Sem.pure v:=by
  have:=ac.at_ t v Y;simp only[results,U,ss];show Sem.pure (T.getD t undef)=_;rw[this]
 have ag:(results fn T).run P w=.ok v w:=by rw[e];rfl
 have e2:(results fn T).events P w #[]=#[]:=by rw[e];simp[Sem.events_pure']
 simp[G,stepG,unwind,Fa,O,ag,e2,doReturn,K,GStep.after,hi,seen_none]
end
def After(P:Program)(R:Value->St->Prop)(K:World)(s₀:St)(v:Value)(w':World):Prop:=
 ∃s,R v s/\Fits s w'/\(∀b o,s₀.E b=some o->s.E b=some o)/\w'.tape=K.tape/\G6 K.os w'.os/\w'.output=K.output
def Ss(P:Program)(R:Value->St->Prop)(K:World)(s₀:St)(O:Nat)(m:Machine)(t:Trace):Prop:=
 ∃gs w sl q Sh g s,m=crowd gs w sl/\H6 P gs w t q Sh g s/\Ng P R g s/\O=sumTo gs.size q/\(∀b o,s₀.E b=some o->s.E b=some o)/\w.tape=K.tape/\G6 K.os w.os/\w.output=K.output
theorem ak{aj:World}{s₀:St}(aq:Nat)(m:Machine)(t:Trace)(h:Ss P R aj s₀ aq m t):
  (∃o w ops,stepT P m=(.ended o w,ops)/\Good P (After P R aj s₀) m o w (t++ops))∨(∃m' ops aw,stepT P m=(.next m',ops)/\aw<aq/\Ss P R aj s₀ aw m' (t++ops)):=by
 obtain⟨gs,w,sl,q,Sh,g,s,rfl,hC,bg,rfl,a0,a1,a2,a3⟩:=h;obtain⟨Z,v,a4,a5⟩:=bg;have bi:∀x∈gs,awake x:=by
  intro x U;obtain⟨i,hi,rfl⟩:=tQ.1 U;rcases rD i with rfl | al
  .have:gs[0]=g:=by simpa [q5 hi] using hC.main
   rw[this];exact awake_of (.inl Z)
  .exact awake_of ((hC.lv.old i _ al (q5 hi)).status.elim .inl λx=>.inr (.inr x))
 let⟨i,x,d,a6,hi,U,a7⟩:=crowd_pick (P:=P) (w:=w) (sl:=sl) bi ⟨0,g,hC.main,Z⟩;have a8:=hC.at_ d;have bo:0<gs.size:=(eF.1 hC.main).1;have bv:∀(a:Nat) (fn:FuncId) (pos:String),MemOp.ofEvents a fn pos #[]=#[]:=λa fn pos=>by rw[ofEvents_eq];simp
 rcases rD i with rfl | al
 .obtain rfl:x=g:=by rw[hC.main] at hi;exact(ep hi).symm
  have ac:=runT_many_ended (P:=P) (sl:=a6) (i:=0) hi (show stepG P (0==0) x (w.at d)=_ from a5 (w.at d));rw[bv] at ac;refine .inl ⟨_,_,_,a7.trans ac,v,V,⟨s,a4,a8.Cz.fits 0 bo,a0,a1,a2,a3⟩,?_,?_,⟨λy K=>?_,V⟩,λj y K hj=>?_⟩;simpa using hC.Cz.clean;simpa using hC.over;let⟨j,hj⟩:=qZ.1 K;rw[t8] at hj;exact⟨_,(hC.lv.old (1+j) y (by omega) (by simpa [crowd] using hj)).leaves⟩;have Y:=hC.lv.old j y (by omega) K;exact⟨q j,by simp only[tC];exact Y.hears w⟩
 .have Y:=hC.lv.old i x al hi;have bw:(i==0)=false:=by simp;omega
  have a9:i<gs.size:=(eF.1 hi).1;cases am:q i with
  | zero=>rw[am] at Y;rw[Y.1] at U;cases U
  | succ k=>
   rw[am] at Y;rcases Y with⟨bx,_⟩ | ⟨_,x',es,hm,b0,b1⟩;rw[bx] at U;cases U
   have b5:sumTo gs.size (upd q i k)+(k+1)=sumTo gs.size q+k:=by
    have:=sumTo_upd q k id a9;simpa [am] using this
   have ac:=runT_crowd_go (P:=P) (sl:=a6) (i:=i) hi (by rw[bw];exact b0 (w.at d));have ap:((gs.map (woken P x x' (w.at d))).setIfInBounds i x').size=gs.size:=by simp
   have ag:∀op∈MemOp.ofEvents i x.frame.fn x.frame.place es,op.g=i:=λop O=>by obtain⟨e,_,rfl⟩:=mem_ofEvents O;rfl
   have bb:∀op∈MemOp.ofEvents i x.frame.fn x.frame.place es,op.act.touch?=none:=λop O=>by obtain⟨e,he,rfl⟩:=mem_ofEvents O;exact touch_mute (hm e he)
   have b2:H6 P ((gs.map (woken P x x' (w.at d))).setIfInBounds i x') (w.at d) (t++MemOp.ofEvents i x.frame.fn x.frame.place es) (upd q i k) Sh g s:=by
    refine⟨?_,⟨λj y hj K=>?_,λj hj=>?_⟩,?_,?_,?_⟩
    .have b3:i≠0:=by omega
     rw[f6 b3,sn,hC.main];simp[woken_run Z]
    by_cases ai:i=j;subst ai;rw[qJ (by simpa using a9)] at K;obtain rfl:=ep K;rw[upd_same,Deaf_own];exact b1;rw[f6 ai,sn] at K;obtain⟨z,b4,rfl⟩:=rg.1 K;have be:=hC.lv.old j z hj b4;rw[woken_quitsD be,upd_ne q k (q2 ai),Deaf_other t ai _ ag];exact be;rw[Deaf_other t (g':=i) (by simp at hj;omega) _ ag];exact hC.lv.above j (by simpa using hj);rw[ap];exact a8.Cz.mute ag bb (λop O=>by obtain⟨e,he,rfl⟩:=mem_ofEvents O;exact low_mute (hm e he) _) V;exact handedOver_app hC.over λop O=>.inr (bb op O);rw[Deaf_other t (by omega) _ ag];exact hC.hears
   exact .inr ⟨_,_,_,a7.trans ac,by rw[← ap];rw[ap];omega,_,_,_,_,_,_,_,V,b2,⟨Z,v,a4,a5⟩,V,a0,a1,a2,a3⟩
theorem ends{gs:Array Goroutine}{w:World}{sl:Option (Nat×Nat)}{t:Trace}{q:Nat->Nat}{Sh:Nat->Prop}{g:Goroutine}{s:St}(hC:H6 P gs w t q Sh g s)(O:Ng P R g s):
  ∃N last o w' K,runNT P (N+1) (crowd gs w sl) t=(.ended o w',K)/\runN P N (crowd gs w sl)=.next last/\step P last=.ended o w'/\Good P (After P R w s) last o w' K:=
 run_of_inv Nat.lt_wfRel.wf (Ss P R w s) (Good P (After P R w s)) ak _ _ _ ⟨gs,w,sl,q,Sh,g,s,V,hC,O,V,λ_ _ h=>h,V,.refl _,V⟩
theorem Yo{m m':Machine}{t K:Trace}{n:Nat}(h:runNT P n m t=(.next m',K)):runN P n m=.next m':=by rw[← runNT_fst P n m t,h]
def FV(W:World):St:=⟨λb=>W.heap[b]?,λ_=>none,false⟩
theorem ZJ{W:World}{g:Goroutine}(h:(Hj P).ok (Ng P R) g (FV W)):
  ∃M last o w' K,runNT P (M+1) (solo g W) #[]=(.ended o w',K)/\runN P M (solo g W)=.next last/\step P last=.ended o w'/\Good P (After P R W (FV W)) last o w' K:=by
 have hC:H6 P #[g] W #[] (λ_=>0) (λ_=>False) g (FV W):=by
  have Y:∀{i:Nat}{a:Touch},touchAt #[] i=some a->False:=λ{i a} h=>by simp[touchAt,Trace.act?] at h
  refine⟨V,leavers_one P g,⟨λi hi=>?_,λi j hi hj bg=>by simp at hi hj;omega,λi hi b hb=>hb.elim,λb hb=>hb.elim,λsaid=>?_,by simp,λi _ b _ x a O=>(Y O).elim,λi _ b _ x a O=>(Y O).elim⟩,λi g ac=>by simp[Trace.g?] at ac,V⟩
  .have:i=0:=by simp at hi;exact hi
   subst this;exact⟨λb o U=>U,λb o U=>(by cases U),λb _=>V⟩
  .rintro⟨i,j,_,⟨a,b,ag,_⟩,_⟩;simp[Trace.act?] at ag
 let⟨n,gs',w',ai,K,q',bi,g',s',Z,aj,al,am,ap,aq,aw⟩:=h #[g] W none #[] _ _ hC;let⟨N,last,o,a0,a2,k1,a3,a4,a5⟩:=ends (sl:=ai) aj al;refine⟨n+N,last,o,a0,a2,?_,?_,a4,?_⟩;rw[solo_eq_crowd,sU,runNT_add,Z];exact k1;have a6:=Yo Z;rw[solo_eq_crowd,runN_add,a6];exact a3;obtain⟨v,e,⟨s2,a1,a7,a8,a9,bb,be⟩,r⟩:=a5;exact⟨v,e,⟨s2,a1,a7,λb o hb=>a8 b o (am b o hb),a9.trans ap,aq.trans bb,be.trans aw⟩,r⟩
end Pal
namespace Pal
open Go Go.Conc
variable{f:FuncId}{fn:Func}{vs:Lv_}
theorem Zu{P:Program}{Q:Gs_}{E H:LH}{c:Code}(U:P.funcs[f]?=some fn)(hb:fn.body=some c)(ag:fn.ntmps=fn.ntmps)(ai:vs.length<=fn.ntmps)
  (h:JL (Hj P) Q (base f) fn.ntmps (G0 0 vs) [] [.code c] [] (Ak E H [[]])):(Hj P).ok Q (G (Frame.enter P f vs.toArray .normal) []) (mk E H []):=by
 have he:Frame.enter P f vs.toArray .normal=fr (base f) (vs.toArray++Array.replicate (fn.ntmps - vs.length) undef) [] [.code c]:=by
  simp[Frame.enter,fr,U,hb,base];rfl
 rw[he];have Y:mk E H []=Ak E H [[]]:=by unfold Ak;simp
 rw[Y];refine h _ ⟨by simp;omega,λt v Z=>?_⟩;let⟨_,K⟩:=Kx Z;have ac:t<vs.length:=by
  rcases f7 t vs.length with O | O;exact O;simp at K;have:=(dY.1 K).1;omega
 rw[f5,rQ (by simpa using ac)];simp at K;simp[K]
def H5(K:Bool)(ws:Lv_):Value:=if K then .agg ws.toArray else ws.headD undef
def Vr{α:Type}(pp:Rp α)(K:Bool)(E:LH)(v:Value)(x:α):Prop:=∃ws,pp.r E ws x/\v=H5 K ws
variable{K:Bool}
theorem Vr.Ag{α:Type}{pp:Rp α}{E E':LH}{v:Value}{x:α}(h:Vr pp K E v x)(hle:Le E E'):Vr pp K E' v x:=
 let ⟨ws,O,U⟩:=h;⟨ws,pp.Ag hle O,U⟩
structure Hm (P:Program) (t:TypeId) {κ:Type} [DecidableEq κ] (pk:Rp κ) (ka:Bool):Prop where
 BV:∀{em:Bool}{E:LH}{v:Value}{x:κ}{s:St}{Q:Unit->St->Prop}{X:Halt->St->Prop},Vr pk ka E v x->Q () s->lp P (Instr.checkKey em 10000 t v) s Q X
 kind:∃kd,P.underlying t=some kd/\((∀v w,Instr.sameNow kd v w=none)∨∀{E:LH}{v w:Value}{x y:κ},Vr pk ka E v x->Vr pk ka E w y->Instr.sameNow kd v w=some (decide (x=y)))
 eq:∀{E:LH}{v w:Value}{x y:κ}{s:St}{Q:Bool->St->Prop}{X:Halt->St->Prop},Vr pk ka E v x->Vr pk ka E w y->Q (decide (x=y)) s->lp P (Op.equal t v w) s Q X
 same:∀{E:LH}{v:Value}{x:κ},Vr pk ka E v x->Instr.sameBits 10000 v v=true
 uniq:∀{E:LH}{v w:Value}{x:κ},Vr pk ka E v x->Vr pk ka E w x->v=w
variable {κ ν:Type}{pk:Rp κ}{pv:Rp ν}{ka va:Bool}{E E':LH}
variable {P:Program}{s:St}{t tm te:TypeId}{X:Halt->St->Prop}
section
variable [DecidableEq κ]
def EL(pk:Rp κ)(ka:Bool)(pv:Rp ν)(va:Bool)(E:LH):List MapEntry->List (κ×ν)->Prop
 | [],[]=>True
 | e::es,x::xs=>Vr pk ka E e.key x.1/\Vr pv va E e.val x.2/\EL pk ka pv va E es xs
 | _,_=>False
theorem EL.Ag(hle:Le E E'):∀{es:List MapEntry}{xs:List (κ×ν)},EL pk ka pv va E es xs->EL pk ka pv va E' es xs
 | [],[],_=>trivial
 | e::es,x::xs,h=>⟨h.1.Ag hle,h.2.1.Ag hle,EL.Ag hle h.2.2⟩
 | [],_::_,h=>h.elim
 | _::_,[],h=>h.elim
theorem EL.len:∀{es:List MapEntry}{xs:List (κ×ν)},EL pk ka pv va E es xs->es.length=xs.length
 | [],[],_=>rfl
 | e::es,x::xs,h=>by simp[EL.len h.2.2]
 | [],_::_,h=>h.elim
 | _::_,[],h=>h.elim
def G7(x:κ):List MapEntry->List (κ×ν)->Nat->Option (Nat×Value)
 | e::es,y::ys,i=>if x=y.1 then some (i,e.val) else G7 x es ys (i+1)
 | _,_,_=>none
def Bn(xs:List (κ×ν))(x:κ):Option ν:=(xs.find? λy=>decide (x=y.1)).map (·.2)
def Cq(xs:List (κ×ν))(x:κ)(v:ν):List (κ×ν):=match xs with
 | []=>[(x,v)]
 | y::ys=>if x=y.1 then(x,v)::ys else y::Cq ys x v
theorem Vp{x:κ}:∀{es:List MapEntry}{xs:List (κ×ν)}{i:Nat},EL pk ka pv va E es xs->(G7 x es xs i=none/\Bn xs x=none)∨∃j w v0,G7 x es xs i=some (j,w)/\Bn xs x=some v0/\Vr pv va E w v0
 | [],[],i,_=>.inl ⟨rfl,rfl⟩
 | e::es,y::ys,i,h=>by
  unfold G7 Bn
  by_cases K:x=y.1;exact .inr ⟨i,e.val,y.2,by rw[d0 K],by simp[K],h.2.1⟩;rcases Vp (x:=x) (i:=i+1) h.2.2 with⟨O,U⟩ | ⟨j,w,v0,O,U,Y⟩;exact .inl ⟨by rw[d7 K];exact O,by simpa [K,Bn] using U⟩;exact .inr ⟨j,w,v0,by rw[d7 K];exact O,by simpa [K,Bn] using U,Y⟩
 | [],_::_,_,h=>h.elim
 | _::_,[],_,h=>h.elim
theorem EL.put{x:κ}{v0:ν}{O w:Value}(U:Vr pk ka E O x)(hw:Vr pv va E w v0)(Z:Nat):∀{es:List MapEntry}{xs:List (κ×ν)}{i:Nat},EL pk ka pv va E es xs->
  (G7 x es xs i=none/\EL pk ka pv va E (es++ [{key:=O,val:=w,born:=Z}]) (Cq xs x v0))∨
  ∃j u,G7 x es xs i=some (i+j,u)/\j<es.length/\(∀e,es[j]?=some e->Vr pk ka E e.key x)/\EL pk ka pv va E (es.modify j λe=>{e with key:=O,val:=w}) (Cq xs x v0)
 | [],[],i,_=>.inl ⟨rfl,U,hw,trivial⟩
 | e::es,y::ys,i,h=>by
  unfold G7 Cq
  by_cases K:x=y.1;refine .inr ⟨0,e.val,by rw[d0 K];rfl,by simp,λac he=>?_,?_⟩;simp at he;subst he;rw[K];exact h.1;rw[d0 K];exact⟨U,hw,h.2.2⟩;rcases EL.put U hw Z (i:=i+1) h.2.2 with⟨Y,ag⟩ | ⟨j,u,Y,ag,ai,aj⟩;exact .inl ⟨by rw[d7 K];exact Y,by rw[d7 K];exact⟨h.1,h.2.1,ag⟩⟩;refine .inr ⟨j+1,u,by rw[d7 K,Y];congr 2;omega,by simp;omega,λac he=>ai ac (by simpa using he),?_⟩;rw[d7 K];exact⟨h.1,h.2.1,aj⟩
 | [],_::_,_,h=>h.elim
 | _::_,[],_,h=>h.elim
def LF(pk:Rp κ)(ka:Bool)(pv:Rp ν)(va:Bool)(E:LH)(o:Obj)(xs:List (κ×ν)):Prop:=
 ∃es clock,o=.map es clock/\EL pk ka pv va E es.toList xs/\(es.toList.map (·.born)).Pairwise (·<·)/\∀e∈es.toList,e.born<clock
theorem LF.Ag{o:Obj}{xs:List (κ×ν)}(h:LF pk ka pv va E o xs)(hle:Le E E'):LF pk ka pv va E' o xs:=
 let ⟨es,c,K,O,U⟩:=h;⟨es,c,K,O.Ag hle,U⟩
theorem SU(U:Hm P t pk ka){k:Value}{x:κ}(Y:Vr pk ka E k x){Q:Option (Nat×Value)->St->Prop}:∀{es:List MapEntry}{xs:List (κ×ν)}{i:Nat},EL pk ka pv va E es xs->Q (G7 x es xs i) s->lp P (Instr.findAsking t k es i) s Q X
 | [],[],i,_,h=>h
 | e::es,y::ys,i,h,K=>by
  unfold Instr.findAsking
  refine AA _ _ (U.eq Y h.1 ?_)
  unfold G7 at K
  by_cases O:x=y.1
  .rw [qR O]
   rw[d0 O] at K;exact K
  .rw [qX O];rw[d7 O] at K;exact SU U Y h.2.2 K
 | [],_::_,_,h,_=>h.elim
 | _::_,[],_,h,_=>h.elim
theorem Te{kd:TypeDesc}{k:Value}{x:κ}(O:Vr pk ka E k x)(U:∀{E:LH}{v w:Value}{x y:κ},Vr pk ka E v x->Vr pk ka E w y->Instr.sameNow kd v w=some (decide (x=y))):∀{es:List MapEntry}{xs:List (κ×ν)}{i:Nat},EL pk ka pv va E es xs->Instr.findNow kd k es i=some (G7 x es xs i)
 | [],[],i,_=>rfl
 | e::es,y::ys,i,h=>by
  unfold Instr.findNow G7
  rw[U O h.1]
  by_cases K:x=y.1;simp[K];simp only[qX K,d7 K];exact Te O U h.2.2
 | [],_::_,_,h=>h.elim
 | _::_,[],_,h=>h.elim
theorem QS(O:Hm P t pk ka){k:Value}{x:κ}(U:Vr pk ka E k x){Q:Option (Nat×Value)->St->Prop}{es:List MapEntry}{xs:List (κ×ν)}(h:EL pk ka pv va E es xs)(K:Q (G7 x es xs 0) s):lp P (Instr.findKey t k es) s Q X:=by
 unfold Instr.findKey;obtain⟨kd,Y,Z | ac⟩:=O.kind
 .refine AA _ _ (CM Y ?_);cases es with
  | nil=>
   cases xs with
   | nil=>exact K
   | cons y ys=>exact h.elim
  | cons e es=>
   have ag:Instr.findNow kd k (e::es) 0=none:=by unfold Instr.findNow;rw[Z]
   rw[ag];exact SU O U h K
 .refine AA _ _ (CM Y ?_);rw[Te U ac h];exact K
theorem ZB(O:Hm P t pk ka)(hm:P.underlying tm=some (.map t te)){z:Value}{z0:ν}(Z:zeroOf P te=some z)(ac:Vr pv va E z z0){bk:Nat}{o:Obj}{xs:List (κ×ν)}{k:Value}{x:κ}(ag:s.get bk=some o)(ai:LF pk ka pv va E o xs)(U:Vr pk ka E k x)(ok:Bool){Q:Value->St->Prop}
  (h:∀w,Vr pv va E w ((Bn xs x).getD z0)->Q (if ok then .tuple #[w,.bool (Bn xs x).isSome] else w) s):lp P (Instr.lookup tm (.map (some bk)) k ok) s Q X:=by
 obtain⟨es,c,rfl,Y,al,am⟩:=ai;unfold Instr.lookup;refine AA _ _ (CM hm ?_);refine AA _ _ ?_;unfold getObj;simp only[bind,Sem.bind,lp];refine⟨_,ag,V,?_⟩;refine AA (x:=Instr.checkKey _ 10000 t k) _ (O.BV U ?_);refine AA (x:=Instr.findKey t k es.toList) _ (QS O U Y ?_);rcases Vp (x:=x) (i:=0) Y with⟨K,e2⟩ | ⟨j,w,v0,K,e2,aj⟩;rw[K];simp only;refine AA (x:=zeroValue te) _ (Ij Z ?_);have:=h z (by rw[e2];exact ac);rw[e2] at this;exact this;rw[K];have:=h w (by rw[e2];exact aj);rw[e2] at this;exact this
theorem XS(O:Hm P t pk ka)(hm:P.underlying tm=some (.map t te)){bk:Nat}{o:Obj}{xs:List (κ×ν)}{k w:Value}{x:κ}{v0:ν}(aj:s.get bk=some o)(Z:s.H bk=some o)(al:LF pk ka pv va E o xs)(K:Vr pk ka E k x)(hw:Vr pv va E w v0){Q:Unit->St->Prop}
  (h:∀o',LF pk ka pv va E o' (Cq xs x v0)->Q () (s.upd bk o')):lp P (Instr.mapUpdate tm (.map (some bk)) k w) s Q X:=by
 obtain⟨es,c,rfl,ac,ag,U⟩:=al;unfold Instr.mapUpdate;refine AA _ _ (CM hm ?_);unfold getObj;simp only[bind,Sem.bind,lp];refine⟨_,aj,V,?_⟩;refine AA (x:=Instr.checkKey false 10000 t k) _ (O.BV K ?_);refine AA (x:=Instr.findKey t k es.toList) _ (QS O K ac ?_);rcases EL.put K hw c (i:=0) ac with⟨Y,e2⟩ | ⟨j,u,Y,e2,am,ap⟩;rw[Y];simp only[setObj,lp];refine⟨⟨_,Z,V⟩,V,h _ ⟨es.push {key:=k,val:=w,born:=c},c+1,V,by simpa using e2,?_,?_⟩⟩;rw[Array.toList_push,ru,List.pairwise_append];refine⟨ag,by simp,λa aq b hb=>?_⟩;simp at hb;subst hb;obtain⟨e,he,rfl⟩:=q9.1 aq;exact U e he;intro e he;rw[Array.toList_push] at he;rcases ik.1 he with he | he;have:=U e he;omega;simp at he;subst he;simp
 .rw [Y];have ai:es[j]?=some (es[j]'(by simpa using e2)):=q5 (by simpa using e2);have aw:(es[j]'(by simpa using e2)).key=k:=O.uniq (am _ (by rw[ro];exact ai)) K;simp only[sj,ai,rZ,Option.getD_some,aw];refine AA (x:=Instr.keyThatStays k k) _ ?_;unfold Instr.keyThatStays;rw[d0 (O.same K)];simp only[lp,pure,setObj];refine⟨⟨_,Z,V⟩,V,h _ ⟨_,c,V,by simpa using ap,?_,?_⟩⟩
  .have:(es.modify j λe=>{e with key:=k,val:=w}).toList.map (·.born)=es.toList.map (·.born):=by
    rw[Array.toList_modify];apply r7;intro q;simp only[rf,List.getElem?_modify];split<;>cases es.toList[q]?<;>rfl
   rw[this];exact ag
  .intro e he;rw[Array.toList_modify] at he;obtain⟨q,a0,rfl⟩:=uD.1 he;rw[List.getElem_modify];have a1:q<es.toList.length:=by simpa using a0
   split;show(es.toList[q]'a1).born<c;exact U _ (no _);exact U _ (no _)
end
variable{us:Lv_}
theorem Vb{l r:Lv_}:∀j w,us[j]?=some w->(l++us++r).toArray[l.length+j]?=some w:=λj w h=>by
 have K:j<us.length:=(dY.1 h).1
 rw[q6,qI,qK (by omega),show l.length+j - l.length=j by omega,qO K]
 exact h
variable{off:Nat}{O:Bool}
section
variable {e:TypeId}
theorem L8{c:Av_}(U:Es P e=some O)(Y:Bz P e=some us.length)(Z:O=false->us.length=1)(hw:∀j w,us[j]?=some w->c[off+j]?=some w)
  {Q:Value->St->Prop}(k:Q (H5 O us) s):lp P (Go.part e c off) s Q X:=by
 unfold Go.part;refine AA (x:=isAgg e) _ (Ox U ?_);cases O with
 | true=>
  simp only[rH];refine AA (x:=Go.sizeOf e) _ (Fv Y ?_);have ac:c.extract off (off+us.length)=us.toArray:=by
   apply rC;intro j;by_cases hj:j<us.length;have K:=hw j us[j] (bI hj);have ag:off+j<c.size:=(eF.1 K).1;simp only[tK];rw[d0 (by omega),K];simp[hj];simp only[tK];rw[d7 (by omega)];simp;omega
  show Q (.agg (c.extract off (off+us.length))) s;rw[ac];exact k
 | false=>
  obtain⟨w,rfl⟩:∃w,us=[w]:=by
   match us,Z rfl with
   | [w],_=>exact⟨w,rfl⟩
  have K:=hw 0 w V;rw[rE] at K;simp only[qP,rr,K];exact k
end
structure Ct (P:Program) (t:TypeId) {α:Type} [DecidableEq α] (pp:Rp α) (K:Bool) (dep:Nat):Prop where
 agg:Es P t=some K
 size:Bz P t=some pp.n
 one:K=false->pp.n=1
 eq:∀{n:Nat}{E E':LH}{ws ws':Lv_}{x y:α}{s:St}{Q:Bool->St->Prop}{X:Halt->St->Prop},dep<=n->pp.r E ws x->pp.r E' ws' y->Q (decide (x=y)) s->lp P (Op.equalIn n t (H5 K ws) (H5 K ws')) s Q X
 BV:∀{n:Nat}{em:Bool}{E:LH}{ws:Lv_}{x:α}{s:St}{Q:Unit->St->Prop}{X:Halt->St->Prop},dep<=n->pp.r E ws x->Q () s->lp P (Instr.checkKey em n t (H5 K ws)) s Q X
 uniq:∀{E E':LH}{ws ws':Lv_}{x:α},pp.r E ws x->pp.r E' ws' x->ws=ws'
 same:∀{E:LH}{ws:Lv_}{x:α},pp.r E ws x->∀w∈ws,∀m,Instr.sameBits (m+1) w w=true
 now:∃kd,P.underlying t=some kd/\((∀v w,Instr.sameNow kd v w=none)∨∀{E E':LH}{ws ws':Lv_}{x y:α},pp.r E ws x->pp.r E' ws' y->Instr.sameNow kd (H5 K ws) (H5 K ws')=some (decide (x=y)))
variable {ρ:Operand->Value}{d:Option Tmp}{u ty:TypeId}{p:String}{af:Ae_}{g:On_}{ws ws':Lv_}
variable{U dep:Nat}{cx:Av_}{β:Type}{a1:Bool}{f1 f2:Field}
section
variable {e:TypeId}
theorem Ct.int{kd:IntKind}(U:P.underlying t=some (.int kd))(Y:Bz P t=some 1):Ct P t (rK kd) false 1 where
 agg:=by unfold Es;rw[U]
 size:=Y
 one _:=rfl
 eq {n E E' ws ws' x y s Q X} Z K O k:=by
  obtain⟨m,rfl⟩:∃m,n=m+1:=⟨n - 1,by omega⟩;have K:ws=[.int kd x]:=K;have O:ws'=[.int kd y]:=O;subst K O;refine WN U ?_;have e:(x==y)=decide (x=y):=by by_cases h:x=y<;>simp[h]
  rw[e];exact k
 BV {n em E ws x s Q X} Z K k:=by
  obtain⟨m,rfl⟩:∃m,n=m+1:=⟨n - 1,by omega⟩;have K:ws=[.int kd x]:=K;subst K;unfold Instr.checkKey;refine AA _ _ (CM U ?_);exact k
 uniq K O:=by
  have K:_=[Value.int kd _]:=K;have O:_=[Value.int kd _]:=O;rw[K,O]
 same {E ws x} h w hw m:=by
  have h:ws=[Value.int kd x]:=h;subst h;simp at hw;subst hw;simp[Instr.sameBits]
 now:=⟨_,U,.inr λ{E E' ws ws' x y} K O=>by
  have K:ws=[.int kd x]:=K
  have O:ws'=[.int kd y]:=O
  subst K O
  have e:(x==y)=decide (x=y):=by by_cases h:x=y<;>simp[h]
  show(if kd=kd then some (x==y) else none)=_
  rw[d0 rfl,e]⟩
theorem Ct.nat{kd:IntKind}(U:P.underlying t=some (.int kd))(Z:Bz P t=some 1):Ct P t (rN kd) false 1 where
 agg:=by unfold Es;rw[U]
 size:=Z
 one _:=rfl
 eq {n E E' ws ws' x y s Q X} ac K O k:=by
  obtain⟨m,rfl⟩:∃m,n=m+1:=⟨n - 1,by omega⟩;have K:ws=[.int kd ((x:Nat):Int)]:=K;have O:ws'=[.int kd ((y:Nat):Int)]:=O;subst K O;refine WN U ?_;have e:((x:Int)==(y:Int))=decide (x=y):=by
   by_cases h:x=y;simp[h]
   .have Y:¬(x:Int)=(y:Int):=by omega
    simp[h,Y]
  rw[e];exact k
 BV {n em E ws x s Q X} ac K k:=by
  obtain⟨m,rfl⟩:∃m,n=m+1:=⟨n - 1,by omega⟩;have K:ws=[.int kd ((x:Nat):Int)]:=K;subst K;unfold Instr.checkKey;refine AA _ _ (CM U ?_);exact k
 uniq K O:=by
  have K:_=[Value.int kd _]:=K;have O:_=[Value.int kd _]:=O;rw[K,O]
 same {E ws x} h w hw m:=by
  have h:ws=[Value.int kd ((x:Nat):Int)]:=h;subst h;simp at hw;subst hw;simp[Instr.sameBits]
 now:=⟨_,U,.inr λ{E E' ws ws' x y} K O=>by
  have K:ws=[.int kd ((x:Nat):Int)]:=K
  have O:ws'=[.int kd ((y:Nat):Int)]:=O
  subst K O
  have e:((x:Int)==(y:Int))=decide (x=y):=by
   by_cases h:x=y;simp[h]
   .have Y:¬(x:Int)=(y:Int):=by omega
    simp[h,Y]
  show(if kd=kd then some ((x:Int)==(y:Int)) else none)=_
  rw[d0 rfl,e]⟩
theorem Ct.up{α:Type} [DecidableEq α] {pp:Rp α}(h:Ct P t pp O dep)(hd:dep<=U):Ct P t pp O U:=
 ⟨h.agg,h.size,h.one,λK=>h.eq (q8 hd K),λK=>h.BV (q8 hd K),h.uniq,h.same,h.now⟩
theorem RA{α:Type}{kk:Nat}{pp:Rp α}{E:LH}{ws:Lv_}{xs:List α}(K:(rA kk pp).r E ws xs){i:Nat}(hi:i<kk):∃x us,xs[i]?=some x/\pp.r E us x/\us.length=pp.n/\∀j w,us[j]?=some w->ws.toArray[i*pp.n+j]?=some w:=by
 have O:xs[i]?=some (xs[i]'(by rw[K.1];exact hi)):=bI (by rw[K.1];exact hi);have Y:ix xs (i:Int)=some (xs[i]'(by rw[K.1];exact hi)):=by unfold ix;rw[d0 (by omega)];simpa using O
 let⟨us,U,_,_,Z⟩:=Im (m:=(i:Int)) K Y;exact⟨_,us,O,U,pp.len U,λj w hj=>by have:=Z j w hj;rw[q6];simpa using this⟩
theorem Ct.arr{α:Type} [DecidableEq α] {pp:Rp α}{a7:Bool}{kk:Nat}(h:Ct P e pp a7 dep)(Z:P.underlying t=some (.array kk e))(a8:Bz P t=some (kk*pp.n)):Ct P t (rA kk pp) true (dep+1) where
 agg:=by unfold Es;rw[Z]
 size:=a8
 one:=λh=>by cases h
 eq {n E E' ws ws' xs ys s Q X} a9 ac a2 k:=by
  obtain⟨n,rfl⟩:∃m,n=m+1:=⟨n - 1,by omega⟩;have b0:=ac.1;have b1:=a2.1;unfold Op.equalIn;refine AA _ _ (CM Z ?_);refine AA (x:=Go.sizeOf e) _ (Fv h.size ?_);simp only[H5,rH];simp only[tr,Std.Legacy.Range.size,sC,Nat.add_one_sub_one,Nat.div_one];let bd:Nat->Option Bool×Unit->Sem (ForInStep (Option Bool×Unit)):=λi _=>do
   if !(← Op.equalIn n e (← Go.part e ws.toArray (i*pp.n)) (← Go.part e ws'.toArray (i*pp.n))) then pure (ForInStep.done (some false,())) else pure (ForInStep.yield (none,()))
  have key:∀(m st:Nat),st+m=kk->(∀i,i<st->xs[i]?=ys[i]?)->∀{K:Option Bool×Unit->St->Prop},K (if xs=ys then(none,()) else(some false,())) s->lp P (forIn (List.range' st m) (none,()) bd:Sem _) s K X:=by
   intro m
   induction m with
   | zero=>
    intro st ai aj K O;have U:xs=ys:=by
     apply r7;intro i;rcases f7 i st with hi | hi;exact aj i hi;rw[rb (by omega),rb (by omega)]
    rw[d0 U] at O;simp only[List.range'_zero,tj];exact O
   | succ m al=>
    intro st ai aj K O;simp only[List.range'_succ,td];obtain⟨a,us,ag,am,Y,ap⟩:=RA ac (i:=st) (by omega);obtain⟨c,b2,aq,bb,a3,be⟩:=RA a2 (i:=st) (by omega);refine AA _ _ (AA _ _ (L8 h.agg (by rw[Y];exact h.size) (λq=>by rw[Y];exact h.one q) ap ?_));refine AA _ _ (L8 h.agg (by rw[a3];exact h.size) (λq=>by rw[a3];exact h.one q) be ?_);refine AA _ _ (h.eq (by omega) am bb ?_);by_cases aw:a=c
    .subst aw;simp only[decide_true,uG,qP,rr,lp,pure];exact al (st+1) (by omega) (λi hi=>by
      rcases f7 i st with a4 | a4;exact aj i a4
      .obtain rfl:i=st:=by omega
       rw[ag,aq]) O
    .have bg:¬xs=ys:=λq=>aw (by rw[q] at ag;rw[ag] at aq;exact ep aq);rw[d7 bg] at O;simp only[aw,decide_false,uz,rH,lp,pure];exact O
  refine AA _ _ (key kk 0 (by omega) (λi hi=>by omega) ?_);by_cases U:xs=ys;rw[d0 U];simpa [lp,pure,U] using k;rw[d7 U];simpa [lp,pure,U] using k
 BV {n em E ws xs s Q X} a9 ac k:=by
  obtain⟨n,rfl⟩:∃m,n=m+1:=⟨n - 1,by omega⟩;unfold Instr.checkKey;refine AA _ _ (CM Z ?_);simp only[H5,rH];simp only[tr,Std.Legacy.Range.size,sC,Nat.add_one_sub_one,Nat.div_one];let bd:Nat->Unit->Sem (ForInStep Unit):=λi _=>do
   Instr.checkKey em n e (← Go.part e ws.toArray (i*(← Go.sizeOf e)))
   pure (ForInStep.yield ())
  have key:∀(m st:Nat),st+m=kk->∀{K:Unit->St->Prop},K () s->lp P (forIn (List.range' st m) () bd:Sem _) s K X:=by
   intro m
   induction m with
   | zero=>
    intro st ai K O;simp only[List.range'_zero,tj];exact O
   | succ m al=>
    intro st ai K O;simp only[List.range'_succ,td];obtain⟨a,us,ag,am,Y,ap⟩:=RA ac (i:=st) (by omega);refine AA _ _ (AA (x:=Go.sizeOf e) _ (Fv h.size ?_));refine AA _ _ (L8 h.agg (by rw[Y];exact h.size) (λq=>by rw[Y];exact h.one q) ap ?_);refine AA _ _ (h.BV (by omega) am ?_);exact al (st+1) (by omega) O
  exact AA _ _ (key kk 0 (by omega) k)
 uniq {E E' ws ws' xs} a0 bi:=by
  obtain⟨a1,wss,rfl,a5,c1⟩:=a0;obtain⟨b3,bo,rfl,b4,c2⟩:=bi;have:wss=bo:=by
   apply List.ext_getElem (by omega);intro i hi bv;have a6:xs[i]?=some (xs[i]'(by omega)):=bI (by omega);exact h.uniq (c1 i _ _ a6 (bI hi)) (c2 i _ _ a6 (bI bv))
  rw[this]
 same {E ws xs} a0 w hw m:=by
  obtain⟨a1,wss,rfl,a5,c1⟩:=a0;let⟨us,bw,hw⟩:=sJ.1 hw;let⟨i,hi⟩:=qZ.1 bw;have bx:i<xs.length:=by rw[a1,← a5];exact(dY.1 hi).1
  exact h.same (c1 i _ us (bI bx) hi) w hw m
 now:=⟨_,Z,.inl λv w=>rfl⟩
theorem Ct.field{α:Type} [DecidableEq α] {pp:Rp α}{ac:Bool}{n:Nat}{f:Field}{s:St}{X:Halt->St->Prop}(h:Ct P f.type pp ac dep)(hd:dep<=n)(ag:f.name≠ "_"){E E':LH}{Y:Lv_}{x y:α}(r1:pp.r E us x)(r2:pp.r E' Y y){Z:Av_}
  (w1:∀j w,us[j]?=some w->cx[f.offset+j]?=some w) (w2:∀j w,Y[j]?=some w->Z[f.offset+j]?=some w) {K:ForInStep (Option Bool×Unit)->St->Prop}(O:K (if x=y then .yield (none,()) else .done (some false,())) s):
  lp P (if f.name≠ "_" then do
   if !(← Op.equalIn n f.type (← Go.part f.type cx f.offset) (← Go.part f.type Z f.offset)) then pure (ForInStep.done (some false,())) else pure (ForInStep.yield (none,()))
   else pure (ForInStep.yield (none,()))) s K X:=by
 rw[d0 ag]
 refine AA _ _ (L8 h.agg (by rw[pp.len r1];exact h.size) (λq=>by rw[pp.len r1];exact h.one q) w1 ?_)
 refine AA _ _ (L8 h.agg (by rw[pp.len r2];exact h.size) (λq=>by rw[pp.len r2];exact h.one q) w2 ?_)
 refine AA _ _ (h.eq hd r1 r2 ?_)
 by_cases U:x=y;rw[d0 U] at O;simpa [lp,pure,U] using O;rw[d7 U] at O;simpa [lp,pure,U] using O
theorem Ct.Ns{α:Type} [DecidableEq α] {pp:Rp α}{em:Bool}{n:Nat}{f:Field}{s:St}{X:Halt->St->Prop}(h:Ct P f.type pp O dep)(hd:dep<=n)(U:f.name≠ "_"){E:LH}{x:α}(r1:pp.r E us x)
  (w1:∀j w,us[j]?=some w->cx[f.offset+j]?=some w) {K:ForInStep Unit->St->Prop}(Y:K (.yield ()) s):
  lp P (if f.name≠ "_" then do
   Instr.checkKey em n f.type (← Go.part f.type cx f.offset)
   pure (ForInStep.yield ())
   else pure (ForInStep.yield ())) s K X:=by
 rw[d0 U]
 refine AA _ _ (L8 h.agg (by rw[pp.len r1];exact h.size) (λq=>by rw[pp.len r1];exact h.one q) w1 ?_)
 refine AA _ _ (h.BV hd r1 ?_)
 exact Y
theorem Mw{r:Lv_}{o:Nat}(K:o=0):∀j w,us[j]?=some w->(us++r).toArray[o+j]?=some w:=λj w h=>by subst K;exact Vb (l:=[]) j w h
theorem PL{l r:Lv_}{o:Nat}(K:o=l.length):∀j w,us[j]?=some w->(l++(us++r)).toArray[o+j]?=some w:=λj w h=>by
 subst K
 have:=Vb (l:=l) (r:=r) j w h
 rwa[qI] at this
theorem P3{l:Lv_}{o:Nat}(K:o=l.length):∀j w,us[j]?=some w->(l++us).toArray[o+j]?=some w:=λj w h=>by
 have:=PL (r:=[]) K j w h
 rwa[qW] at this
theorem R7{l m:Lv_}{o:Nat}(K:o=l.length+m.length):∀j w,us[j]?=some w->(l++(m++us)).toArray[o+j]?=some w:=λj w h=>by
 have:=P3 (l:=l++m) (o:=o) (by simp[K]) j w h
 rwa[qI] at this
theorem Ct.two{α:Type} [DecidableEq α] [DecidableEq β] {p1:Rp α}{p2:Rp β}{ap:Bool}(K:P.underlying t=some (.struct #[f1,f2]))(O:Ct P f1.type p1 a1 dep)(U:Ct P f2.type p2 ap dep)(aq:P.stoodInHeld t=false)
  (n1:f1.name≠ "_") (n2:f2.name≠ "_") (ac:f1.offset=0) (ag:f2.offset=p1.n) (aw:Bz P t=some (p1.n+p2.n)):Ct P t (rP p1 p2) true (dep+1) where
 agg:=by unfold Es;rw[K]
 size:=aw
 one:=λh=>by cases h
 eq {n E E' ws ws' x y s Q X} a0 ai a2 k:=by
  obtain⟨n,rfl⟩:∃m,n=m+1:=⟨n - 1,by omega⟩;obtain⟨aj,al,rfl,r1,r2⟩:=ai;obtain⟨v1,v2,rfl,Y,am⟩:=a2;simp only[H5,rH];unfold Op.equalIn;refine AA _ _ (CM K ?_);refine AA (x:=program) _ ?_;show lp P (if P.stoodInHeld t=true then _ else _) s _ _
  rw[d7 (by rw[aq];exact so)]
  dsimp only;rw[← tF];simp only[td,tj];refine AA _ _ (AA _ _ (O.field (by omega) n1 r1 Y (Mw ac) (Mw ac) ?_));by_cases Z:x.1=y.1;rw[d0 Z];refine AA _ _ (U.field (by omega) n2 r2 am (P3 (ag.trans (p1.len r1).symm)) (P3 (ag.trans (p1.len Y).symm)) ?_);by_cases e2:x.2=y.2;have e:x=y:=Prod.ext Z e2;rw[d0 e2];simpa [lp,pure,e] using k;have e:¬x=y:=λq=>e2 (by rw[q]);rw[d7 e2];simpa [lp,pure,e] using k;have e:¬x=y:=λq=>Z (by rw[q]);rw[d7 Z];simpa [lp,pure,e] using k
 BV {n em E ws x s Q X} a0 ai k:=by
  obtain⟨n,rfl⟩:∃m,n=m+1:=⟨n - 1,by omega⟩;obtain⟨aj,al,rfl,r1,r2⟩:=ai;simp only[H5,rH];unfold Instr.checkKey;refine AA _ _ (CM K ?_)
  dsimp only;rw[← tF];simp only[td,tj];refine AA _ _ (AA _ _ (O.Ns (by omega) n1 r1 (Mw ac) ?_));refine AA _ _ (U.Ns (by omega) n2 r2 (P3 (ag.trans (p1.len r1).symm)) ?_);exact k
 uniq {E E' ws ws' x} a b:=by
  obtain⟨aj,al,rfl,r1,r2⟩:=a;obtain⟨v1,v2,rfl,Y,am⟩:=b;rw[O.uniq r1 Y,U.uniq r2 am]
 same {E ws x} a w hw m:=by
  obtain⟨aj,al,rfl,r1,r2⟩:=a;rcases ik.1 hw with hw | hw;exact O.same r1 w hw m;exact U.same r2 w hw m
 now:=⟨_,K,.inl λv w=>rfl⟩
theorem Ct.three{α a3:Type} [DecidableEq α] [DecidableEq β] [DecidableEq a3] {p1:Rp α}{p2:Rp β}{p3:Rp a3}{a5 a6:Bool}{f3:Field}(O:P.underlying t=some (.struct #[f1,f2,f3]))(U:Ct P f1.type p1 a1 dep)(Y:Ct P f2.type p2 a5 dep)(Z:Ct P f3.type p3 a6 dep)(a7:P.stoodInHeld t=false)
  (n1:f1.name≠ "_") (n2:f2.name≠ "_") (a4:f3.name≠ "_") (aj:f1.offset=0) (al:f2.offset=p1.n) (am:f3.offset=p1.n+p2.n) (a8:Bz P t=some (p1.n+(p2.n+p3.n))):Ct P t (rP p1 (rP p2 p3)) true (dep+1) where
 agg:=by unfold Es;rw[O]
 size:=a8
 one:=λh=>by cases h
 eq {n E E' ws ws' x y s Q X} a9 ap bb k:=by
  obtain⟨n,rfl⟩:∃m,n=m+1:=⟨n - 1,by omega⟩;obtain⟨aq,_,rfl,r1,aw,a0,rfl,r2,r3⟩:=ap;obtain⟨v1,_,rfl,K,v2,be,rfl,ac,a2⟩:=bb;simp only[H5,rH];unfold Op.equalIn;refine AA _ _ (CM O ?_);refine AA (x:=program) _ ?_;show lp P (if P.stoodInHeld t=true then _ else _) s _ _
  rw[d7 (by rw[a7];exact so)]
  dsimp only;rw[← tF];simp only[td,tj];refine AA _ _ (AA _ _ (U.field (by omega) n1 r1 K (Mw aj) (Mw aj) ?_));by_cases ag:x.1=y.1;rw[d0 ag];refine AA _ _ (Y.field (by omega) n2 r2 ac (PL (al.trans (p1.len r1).symm)) (PL (al.trans (p1.len K).symm)) ?_);by_cases e2:x.2.1=y.2.1;rw[d0 e2];refine AA _ _ (Z.field (by omega) a4 r3 a2 (R7 (by rw[am,p1.len r1,p2.len r2])) (R7 (by rw[am,p1.len K,p2.len ac])) ?_);by_cases ai:x.2.2=y.2.2;have e:x=y:=Prod.ext ag (Prod.ext e2 ai);rw[d0 ai];simpa [lp,pure,e] using k;have e:¬x=y:=λq=>ai (by rw[q]);rw[d7 ai];simpa [lp,pure,e] using k;have e:¬x=y:=λq=>e2 (by rw[q]);rw[d7 e2];simpa [lp,pure,e] using k;have e:¬x=y:=λq=>ag (by rw[q]);rw[d7 ag];simpa [lp,pure,e] using k
 BV {n em E ws x s Q X} a9 ap k:=by
  obtain⟨n,rfl⟩:∃m,n=m+1:=⟨n - 1,by omega⟩;obtain⟨aq,_,rfl,r1,aw,a0,rfl,r2,r3⟩:=ap;simp only[H5,rH];unfold Instr.checkKey;refine AA _ _ (CM O ?_)
  dsimp only;rw[← tF];simp only[td,tj];refine AA _ _ (AA _ _ (U.Ns (by omega) n1 r1 (Mw aj) ?_));refine AA _ _ (Y.Ns (by omega) n2 r2 (PL (al.trans (p1.len r1).symm)) ?_);refine AA _ _ (Z.Ns (by omega) a4 r3 (R7 (by rw[am,p1.len r1,p2.len r2])) ?_);exact k
 uniq {E E' ws ws' x} a b:=by
  obtain⟨aq,_,rfl,r1,aw,a0,rfl,r2,r3⟩:=a;obtain⟨v1,_,rfl,K,v2,be,rfl,ac,a2⟩:=b;rw[U.uniq r1 K,Y.uniq r2 ac,Z.uniq r3 a2]
 same {E ws x} a w hw m:=by
  obtain⟨aq,_,rfl,r1,aw,a0,rfl,r2,r3⟩:=a;rcases ik.1 hw with hw | hw;exact U.same r1 w hw m;rcases ik.1 hw with hw | hw;exact Y.same r2 w hw m;exact Z.same r3 w hw m
 now:=⟨_,O,.inl λv w=>rfl⟩
theorem Ct.key{α:Type} [DecidableEq α] {pp:Rp α}(h:Ct P t pp K dep)(hd:dep<=10000):Hm P t pp K where
 BV:=by
  rintro em E v x s Q X ⟨ws,Y,rfl⟩ k;exact h.BV hd Y k
 kind:=by
  obtain⟨kd,O,Z⟩:=h.now;refine⟨kd,O,Z.imp id λac=>?_⟩;rintro E v w x y ⟨ws,r1,rfl⟩ ⟨ws',r2,rfl⟩;exact ac r1 r2
 eq:=by
  rintro E v w x y s Q X ⟨ws,r1,rfl⟩ ⟨ws',r2,rfl⟩ k;exact h.eq hd r1 r2 k
 same:=by
  rintro E v x ⟨ws,r1,rfl⟩;cases K with
  | false=>
   obtain⟨w,rfl⟩:∃w,ws=[w]:=by
    have:=(pp.len r1).trans (h.one V)
    match ws,this with
    | [w],_=>exact⟨w,rfl⟩
   exact h.same r1 w (by simp) 9999
  | true=>
   show(ws.toArray.size==ws.toArray.size&&(ws.toArray.toList.zip ws.toArray.toList).all λ(x,y)=>Instr.sameBits 9999 x y)=true;rw[eM];refine⟨by simp,q3.2 ?_⟩;rintro⟨a,b⟩ ag;have O:∀(l:Lv_) a b,(a,b)∈l.zip l->a=b/\a∈l:=by
    intro l
    induction l with
    | nil=>intro a b h;simp at h
    | cons c l U=>
     intro a b h;simp only[tG,fP,d9] at h;rcases h with⟨rfl,rfl⟩ | h;exact⟨V,by simp⟩;exact⟨(U a b h).1,f9 _ (U a b h).2⟩
   obtain⟨rfl,hm⟩:=O _ a b ag;exact h.same r1 a (by simpa using hm) 9998
 uniq:=by
  rintro E v w x ⟨ws,r1,rfl⟩ ⟨ws',r2,rfl⟩;rw[h.uniq r1 r2]
section
variable {x y:Operand}
theorem Rv{α:Type} [DecidableEq α] {pp:Rp α}{a b:α}(h:Ct P t pp true dep)(hd:dep<=10000)(K:P.eqGuardType P.depth t=false)(r1:pp.r E ws a)(r2:pp.r E' ws' b)(O:ρ x=.agg ws.toArray)(U:ρ y=.agg ws'.toArray):Yl P ⟨d,.binOp .neq t x y u,ty,p,af,g⟩ ρ s (.bool (decide (a≠b))):=by
 refine Gi (sm:=do eqGuard .neq t x y (ρ x) (ρ y);binOp .neq t (ρ x) (ρ y)) V ?_
 rw[O,U];refine AA _ _ (Zp (.inr V) K ?_);have hb:binOp .neq t (.agg ws.toArray) (.agg ws'.toArray)=(do pure (.bool (!(← Op.equal t (.agg ws.toArray) (.agg ws'.toArray))))):=V
 rw[hb];exact AA (x:=Op.equal t _ _) _ (h.eq hd r1 r2 ⟨by simp,V⟩)
end
end
theorem XX{E H:LH}{B:List (Nat×Obj)}(i:Nat){bk:Nat}{o:Obj}(K:Nd E H B)(h:B[i]?=some (bk,o)):∃E',Le E E'/\E' bk=some o/\Nd E' H (B.eraseIdx i)/\CK (mk E H B) (mk E' H (B.eraseIdx i)):=by
 have al:=qL h;have am:E bk=none/\H bk=none:=by
  have:∀{B:List (Nat×Obj)},Nd E H B->(bk,o)∈B->E bk=none/\H bk=none:=by
   intro B K O
   induction B with
   | nil=>simp at O
   | cons q B Y=>
    rcases fP.1 O with rfl | O;exact⟨K.1,K.2.1⟩;exact Y K.2.2.2 O
  exact this K al
 let E':LH:=λx=>if x=bk then some o else E x
 have ag:E' bk=some o:=by simp[E']
 have hle:Le E E':=λx u U=>by
  have:x≠bk:=λe=>by subst e;rw[am.1] at U;cases U
  simp[E',this,U]
 have ap:Nd E' H (B.eraseIdx i):=by
  have:∀{B:List (Nat×Obj)}{i:Nat},Nd E H B->B[i]?=some (bk,o)->Nd E' H (B.eraseIdx i)/\∀p∈B.eraseIdx i,p.1≠bk:=by
   intro B
   induction B with
   | nil=>intro i _ h;simp at h
   | cons q B Y=>
    obtain⟨c,v⟩:=q;intro i K h;have up:∀{B:List (Nat×Obj)},Nd E H B->(∀p∈B,p.1≠bk)->Nd E' H B:=by
     intro B K ai
     induction B with
     | nil=>trivial
     | cons q B aq=>exact⟨by simpa [E',ai q (by simp)] using K.1,K.2.1,K.2.2.1,aq K.2.2.2 λp O=>ai p (f9 _ O)⟩
    cases i with
    | zero=>
     simp at h;obtain⟨rfl,rfl⟩:=h;exact⟨up K.2.2.2 K.2.2.1,K.2.2.1⟩
    | succ i=>
     simp at h;let⟨Z,ac⟩:=Y K.2.2.2 h;have aj:c≠bk:=λe=>K.2.2.1 (bk,o) (qL h) e.symm;refine⟨⟨by simpa [E',aj] using K.1,K.2.1,λp O=>K.2.2.1 p (uh O),Z⟩,λp O=>?_⟩;rcases fP.1 O with rfl | O;exact aj;exact ac p O
  exact(this K h).1
 refine⟨E',hle,ag,ap,⟨λx u U=>hle x u U,λx u U=>(MW K h U).2,λx u U=>?_,V⟩⟩;by_cases e:x=bk
 .subst e;right;have:u=o:=by have:E' x=some u:=U;rw[ag] at this;exact(ep this).symm
  subst this;refine⟨J6 K h,?_⟩;cases aw:(mk E' H (B.eraseIdx i)).H x with
  | none=>rfl
  | some y=>exact absurd rfl (MW K h aw).1
 .left;have Z:E' x=some u:=U;have ac:E' x=E x:=by simp[E',e]
  show E x=some u;rw[← ac];exact Z
variable{sz:Nat}
theorem XK{E H:LH}{B0:List (Nat×Obj)}{e:TypeId}{l c:Nat}{a:Option Addr}{blk:List (Nat×Obj)}{xs:Lv_}(Z:GS e sz a l c blk xs)(K:Nd E H (B0++blk)):∃E',Le E E'/\Qr E' sz (.slice a l c) l xs/\Nd E' H B0/\CK (mk E H (B0++blk)) (mk E' H B0):=by
 rcases Z with⟨rfl,rfl,rfl,rfl,rfl⟩ | ⟨bk,f,rfl,rfl,ac,O,rfl⟩;simp only[qW] at K ⊢;exact⟨E,Le.refl _,.nil,K,.refl _⟩
 .have ag:(B0++ [(bk,Obj.cells f e (0,0))])[B0.length]?=some (bk,Obj.cells f e (0,0)):=by simp
  let⟨E',hle,ai,U,Y⟩:=XX B0.length K ag;have aj:(B0++ [(bk,Obj.cells f e (0,0))]).eraseIdx B0.length=B0:=by rw[sk (qH _)];simp
  rw[aj] at U Y;refine⟨E',hle,⟨_,c,V,O,?_,.inr ⟨bk,0,f,e,(0,0),V,ai,λj w hj=>?_⟩⟩,U,Y⟩;have:l*sz<=c*sz:=re _ O;simp[ac,sy this];rw[r4] at hj;split at hj;simpa using hj;cases hj
variable{seg:Seg}
theorem XL{α:Type}{pp:Rp α}{E H:LH}{S:List Seg}{e:TypeId}{a:Option Addr}{c:Nat}{xs:List α}(j:Nat)(U:OL e pp E a c seg xs)(al:Au E H S)(am:S[j]?=some seg):∃E',Le E E'/\Am pp E' a c xs/\Au E' H (S.set j [])/\CK (Ak E H S) (Ak E' H (S.set j [])):=by
 obtain⟨wss,U,ac,ag⟩:=U;have ap:∀ad:Addr,a=some ad->ad.spot=none:=λad K=>by
  rcases U with⟨O,_⟩ | ⟨bk,f,O,_⟩;rw[O] at K;cases K;rw[O] at K;cases K;rfl
 let⟨O,aq⟩:=Hu al am;let⟨E',hle,aw,a0,ai⟩:=XK U aq;rw[← O] at ai;refine⟨E',hle,?_,a0,ai⟩;obtain⟨a1,a2,Y,a3,a7,Z⟩:=aw;obtain⟨rfl,-,rfl⟩:a=a1/\xs.length=xs.length/\c=a2:=by
  simp only[Value.slice.injEq] at Y;exact⟨Y.1,V,Y.2.2⟩
 refine⟨a3,?_⟩;rcases Z with Z | ⟨bk,off,f,a4,fr,g1,g2,a5⟩;exact .inl ⟨q0 Z,λad K=>.inl (ap ad K)⟩
 .refine .inr ⟨bk,off,g1,λi x aj=>?_⟩;have a6:i<wss.length:=by rw[ac];exact(dY.1 aj).1
  have hw:=bI a6;refine⟨wss[i],pp.Ag hle (ag i x _ aj hw),f,a4,fr,g2,λm w hm=>?_⟩;rw[sU];exact a5 _ w (Lb (IX ac ag) hw m w hm)
variable{s₀:St}
theorem CK.get{s:St}(h:CK s s₀){b:Nat}{o:Obj}(K:s₀.get b=some o):s.get b=some o:=by
 unfold St.get at K ⊢;cases O:s₀.E b with
 | some o'=>
  rw[O] at K;simp only at K;cases K;rcases h.FB _ _ O with U | ⟨U,_⟩;rw[U]
  .cases he:s.E b with
   | none=>exact U
   | some Y=>
    have:=h.ext _ _ he;rw[O] at this;cases this;rfl
 | none=>
  rw[O] at K;simp only at K;cases he:s.E b with
  | none=>exact h.own _ _ K
  | some Y=>
   have:=h.ext _ _ he;rw[O] at this;cases this
theorem CK.upd{s:St}(h:CK s s₀){b:Nat}(o:Obj)(hb:(∃u,s₀.H b=some u)∨s₀.E b=none):CK (s.upd b o) (s₀.upd b o):=by
 refine⟨h.ext,λx u K=>?_,λx u K=>?_,h.q⟩;simp only[St.upd] at K ⊢;by_cases e:x=b;rw[d0 e] at K ⊢;exact K;rw[d7 e] at K ⊢;exact h.own _ _ K
 .have O:s₀.E x=some u:=K;rcases h.FB _ _ O with U | ⟨U,Y⟩;exact .inl U
  .refine .inr ?_;have e:x≠b:=λe=>by
    subst e;rcases hb with⟨w,hw⟩ | hb;rw[hw] at Y;cases Y;rw[hb] at O;cases O
   simp only[St.upd,d7 e];exact⟨U,Y⟩
theorem CK.none{s:St}(h:CK s s₀){b:Nat}(U:s.E b=none)(O:s.H b=none):s₀.E b=none/\s₀.H b=none:=by
 constructor
 .cases he:s₀.E b with
  | none=>rfl
  | some o=>
   rcases h.FB _ _ he with K | ⟨K,_⟩;rw[U] at K;cases K;rw[O] at K;cases K
 .cases he:s₀.H b with
  | none=>rfl
  | some o=>have:=h.own _ _ he;rw[O] at this;cases this
theorem aC{P:Program}{α:Type}(x:Sem α):∀{s s₀:St}{Q:α->St->Prop}{X:Halt->St->Prop},CK s s₀->lp P x s₀ Q X->lp P x s (λa s'=>∃Z,CK s' Z/\Q a Z) (λh s'=>∃Z,CK s' Z/\X h Z):=by
 induction x with
 | pure a=>intro s s₀ Q X g h;exact⟨s₀,g,h⟩
 | load m a k K=>
  intro s s₀ Q X g h;obtain⟨O,v,U,Y⟩:=h;let⟨o,ai,aj⟩:=sG.1 U;exact⟨O,v,by unfold St.cell?;rw[g.get ai];exact aj,K v g Y⟩
 | store m a v k K=>
  intro s s₀ Q X g h;obtain⟨O,U,o,Y,al,am,ap⟩:=h;exact⟨O,U,o,g.own _ _ Y,al,am,K (g.upd _ (.inl ⟨o,Y⟩)) ap⟩
 | new o k K=>
  intro s s₀ Q X g h;refine⟨by rw[← g.q];exact h.1,λr O U=>?_⟩;let⟨ag,e2⟩:=g.none O U;exact K r (g.upd _ (.inr ag)) (h.2 r ag e2)
 | shape r k K=>intro s s₀ Q X g h;obtain⟨o,O,U⟩:=h;exact⟨o,g.get O,K _ g U⟩
 | freeze a n k K=>intro s s₀ Q X g h;exact h.elim
 | frozen a k K=>intro s s₀ Q X g h;obtain⟨o,O,U⟩:=h;exact⟨o,g.get O,K _ g U⟩
 | getObj r k K=>intro s s₀ Q X g h;obtain⟨o,O,U,Y⟩:=h;exact⟨o,g.get O,U,K _ g Y⟩
 | setObj r o k K=>
  intro s s₀ Q X g h;obtain⟨⟨o',O,aq⟩,U,Y⟩:=h;exact⟨⟨o',g.own _ _ O,aq⟩,U,K (g.upd _ (.inl ⟨o',O⟩)) Y⟩
 | choose q k K=>
  intro s s₀ Q X g h;simp only[lp] at h ⊢;split;rename_i ac;rw[d0 ac] at h;exact K _ g h;rename_i ac;rw[d7 ac] at h;exact⟨by rw[← g.q];exact h.1,λt=>K _ g (h.2 t)⟩
 | sys c k K=>intro s s₀ Q X g h;exact h.elim
 | program k K=>intro s s₀ Q X g h;exact K _ g h
 | mark m k K=>
  intro s s₀ Q X g h;refine⟨?_,K g h.2⟩;rcases h.1 with⟨O,U⟩ | O;exact .inl ⟨by rw[← g.q];exact O,U⟩;exact .inr O
 | halt h=>intro s s₀ Q X g aw;exact⟨s₀,g,aw⟩
variable {J:Judge P}{Q:Gs_}{n:Nat}{ds:Ld_}{ops:Ao_}{k:Li_}{cs:Lf_}{m:Nat}{D:Nat->Bool}{L:Env}{H:LH}{S:List Seg}
variable {v:Value}{kd:IntKind}
variable{args:Array Operand}{ats:Array TypeId}{R:Value->LH->Seg->Prop}{S':List Seg}
section
variable {b:Frame}{fuel:Nat}{listed:Array Bool}
variable {x y:Operand}{e:TypeId}{i:Nat}
theorem Ol(j:Nat)(a0:∀x,D x=true->∃(O:Nat) (o:Obj),(S.set j [])[O]?=some [(x,o)])(a1:AY J f vs E seg R)(a2:Region.ready .any ops listed=[i])
  (a3:ops[i]?=some ⟨d,.call ⟨.value (.func f),args,ats⟩,ty,p,af,g⟩) (a4:BA n d=true) (hw:A3 L ops ⟨d,.call ⟨.value (.func f),args,ats⟩,ty,p,af,g⟩=some true) (hb:Ez P f=true) (a5:evs L args.toList=some vs) (Y:Au E H S) (Z:S[j]?=some seg)
  (a6:∀v E' seg',Le E E'->R v E' seg'->Au E' H (S.set j seg')->AQ J Q b n ds ops k cs m D fuel (Bs listed i) (AE L d v) (Ak E' H (S.set j seg'))):
  AQ J Q b n ds ops k cs m D (fuel+1) listed L (Ak E H S):=by
 have ag:S.flatten.Perm (seg++(S.set j []).flatten):=(Cl (seg':=seg) Z).1.trans f8;have ai:Nd E H (seg++(S.set j []).flatten):=Nd.perm Y ag;have a7:Ak E H S=mk E (By (S.set j []).flatten H) seg:=by
  rw[show Ak E H S=mk E H S.flatten from rfl,FN Y ag];unfold mk;rw[Gu]
 have aj:=Fo.Ly (a1 (By (S.set j []).flatten H) (Nd.front ai)) (by rintro v s' ⟨E',B',_,_,_,rfl⟩;rfl);rw[← a7] at aj;refine AQ.call V a2 a3 a4 hw hb a5 aj ?_;rintro v bw ⟨⟨E',B',hle,a8,a9,rfl⟩,w,bb⟩;have e2:mk E' (By (S.set j []).flatten H) B'=mk E' H (B'++(S.set j []).flatten):=by unfold mk;rw[Gu]
 have be:Nd E H (S.set j []).flatten:=by
  have:=ai;rw[Nd.iff] at this ⊢;rw[ru,rS] at this;exact⟨this.1.2.1,λq bg=>this.2 q (rm _ bg)⟩
 have bi:Nd E' H (S.set j []).flatten:=be.grow λx U=>by
  have bo:=bb.d x U;have ac:By B' (By (S.set j []).flatten H) x=none:=bo;exact(Ii ac).1
 have al:Nd E' H (B'++(S.set j []).flatten):=Nd.glue a9 bi;have am:(B'++(S.set j []).flatten).Perm (S.set j B').flatten:=f8.trans (Cl Z).2.symm;have ap:Au E' H (S.set j B'):=Nd.perm al am;rw[e2,FN al am];refine⟨V,λx o U=>?_,a6 v E' B' hle a8 ap⟩;by_cases hd:D x=true
 .let⟨O,o',hj⟩:=a0 x hd;have aq:j≠O:=λh=>by
   subst h;rw[rc (dY.1 Z).1] at hj;cases hj
  have aw:S[O]?=some [(x,o')]:=by rw[qU aq] at hj;exact hj
  have ac:(Ak E H S).get x=some o':=Ej (i:=0) Y aw V;have bv:(Ak E' H (S.set j B')).get x=some o':=Ej (i:=0) ap (by rw[qU aq];exact aw) rfl;have K:(if D x then(Ak E H S).get x else E x)=some o:=U
  show(if D x then(Ak E' H (S.set j B')).get x else E' x)=some o
  rw[d0 hd] at K ⊢;rw[bv,← ac];exact K
 .have K:(if D x then(Ak E H S).get x else E x)=some o:=U
  show(if D x then(Ak E' H (S.set j B')).get x else E' x)=some o
  rw[d7 hd] at K ⊢;exact hle _ _ K
theorem AQ.perm(K:S.flatten.Perm S'.flatten)(O:Au E H S)(h:Au E H S'->AQ J Q b n ds ops k cs m D fuel listed L (Ak E H S')):AQ J Q b n ds ops k cs m D fuel listed L (Ak E H S):=by
 have e:Ak E H S=Ak E H S':=FN O K;rw[e];exact h (Nd.perm O K)
theorem GX{A B:Seg}(j:Nat)(K:S[j]?=some (A++B))(O:Au E H S)(h:Au E H (S.set j A++ [B])->AQ J Q b n ds ops k cs m D fuel listed L (Ak E H (S.set j A++ [B]))):AQ J Q b n ds ops k cs m D fuel listed L (Ak E H S):=by
 refine AQ.perm ?_ O h;have U:=(Cl (seg':=A) K).1;have Y:=(Cl (seg':=A) K).2;rw[F2];refine U.trans ?_;have Z:=Y.symm.append_right B
 rwa[qI] at Z
theorem JA.ghost:∀(fuel:Nat) {listed:Array Bool}{T:Av_}{s s₀:St},CK s s₀->JA J Q b ds ops k cs m DJ fuel listed T s₀->JA J Q b ds ops k cs m DJ fuel listed T s
 | 0,listed,T,s,s₀,g,h=>⟨h.1,J.ghost g h.2⟩
 | fuel+1,listed,T,s,s₀,g,h=>by
  rcases h with⟨O,U⟩ | ⟨O,U,Z⟩;exact .inl ⟨O,λt=>J.ghost g (U t)⟩
  .refine .inr ⟨O,by rw[← g.q];exact U,λi hi o ac=>?_⟩;let⟨a1,ag,ai⟩:=Z i hi o ac;refine⟨a1,λe=>JA.ghost fuel g (ag e),λe=>?_⟩;have aj:=aC _ (s:=BE DJ s) (s₀:=BE DJ s₀) g (ai e);refine EP _ aj ?_ (λ_ s' ⟨_,_,h⟩=>h);intro al s' K;obtain⟨Y,g1,K⟩:=K;cases al with
   | value v=>exact JA.ghost fuel (s:=s') (s₀:=Y) g1 K
   | skip=>exact JA.ghost fuel (s:=s') (s₀:=Y) g1 K
   | enter f args=>
    obtain⟨R,am,ap⟩:=K;refine⟨R,λQ c cs aq=>J.ghost (s:=s') (s₀:=Y) g1 (am Q c cs aq),λv aw a0=>?_⟩;let⟨a2,a3,a4⟩:=ap v aw a0;exact⟨a2,λx o K=>a3 x o (g.ext x o K),a4⟩
   | _=>exact K.elim
theorem Fg{α:Type}{pp:Rp α}{a:Option Addr}{c:Nat}{xs:List α}(j:Nat)(K:OL e pp E a c seg xs)(O:Au E H S)(U:S[j]?=some seg)
  (h:∀E',Le E E'->Am pp E' a c xs->Au E' H (S.set j [])->AQ J Q b n ds ops k cs m DJ fuel listed L (Ak E' H (S.set j []))):AQ J Q b n ds ops k cs m DJ fuel listed L (Ak E H S):=λT Y=>by
 let⟨E',Z,ac,ag,ai⟩:=XL j K O U
 exact JA.ghost _ ai (h E' Z ac ag T Y)
end
theorem oi{α:Type}{a b:α}(h:some a=some b):a=b:=ep h
theorem bs{α:Type}{o:Option α}{f:α->Option β}{r:β}(h:o.bind f=some r):∃x,o=some x/\f x=some r:=bind_some h
def I1(L:Env):Env->List (Option Value)
 | []=>[]
 | (t,_)::L'=>look L t::I1 L L'
def I7:Env->List (Option Value)
 | []=>[]
 | (_,v)::L'=>some v::I7 L'
theorem PE{L:Env}:∀{L':Env},I1 L L'=I7 L'->Sub L' L
 | [],_=>trivial
 | (t,v)::L',h=>by
  simp only[I1,I7,tu] at h
  exact⟨h.1,PE h.2⟩
variable {L':Env}{k':Li_}{rest:List Nat}
variable {op:Op}
section
variable {b:Frame}{i:Nat}
theorem EW(L':Env)(h:I1 L L'=I7 L')(k':JL J Q b n L' ds k cs s):JL J Q b n L ds k cs s:=DR (PE h) k'
theorem AD(k':JL J Q b n L' ds k cs s)(h:I1 L L'=I7 L'):JL J Q b n L ds k cs s:=DR (PE h) k'
def FF(b:Frame)(n:Nat)(L:Env)(ops:Ao_)(i:Nat):Option Oper:=
 match Kh ops.toList i with
 | some ⟨d,op,ty,p,af,g⟩=>match A3 L ops ⟨d,op,ty,p,af,g⟩ with
  | some true=>match BV b n ⟨d,op,ty,p,af,g⟩ with
   | true=>some ⟨d,op,ty,p,af,g⟩
   | false=>none
  | _=>none
 | none=>none
theorem Lj{o:Oper}(h:FF b n L ops i=some o):ops[i]?=some o/\A3 L ops o=some true/\BV b n o=true:=by
 unfold FF at h;split at h;rename_i K;rw[Mj,ro] at K;split at h;rename_i hw;split at h;rename_i O;cases h;exact⟨K,hw,O⟩;cases h;cases h;cases h
theorem Ao(K:FF b n L ops i=some ⟨d,op,ty,p,af,g⟩)(h:∀ρ,Fz L ρ->Yl P ⟨d,op,ty,p,af,g⟩ ρ s v)(O:JL J Q b n (AE L d v) ds (.inRegion ops rest::k) cs s):
  JL J Q b n L ds (.inRegion ops (i::rest)::k) cs s:=
 let ⟨U,Y,Z⟩:=Lj K
 Bp U Y Z h O
theorem Mo{c:Code}{E:LH}{B:Seg}(O:P.funcs[f]?=some fn)(hb:fn.body=some c)(U:Nat.ble vs.length fn.ntmps=true)
  (h:∀(Q:Gs_) (K:Frame) (cs:Lf_) (H:LH),Au E H [B]->(∀v E' S' B',Le E E'->S'.flatten=B'->R v E' B'->Au E' H S'->J.ok Q (G (K.finish v) cs) (Ak E' H S'))->JL J Q (base f) fn.ntmps (G0 0 vs) [] [.code c] (K::cs) (Ak E H [B])):AY J f vs E B R:=
 AY.enter O hb (qN U) h
def Qw(n:Nat)(L:Env)(ops:Ao_)(i:Nat):Option Env:=
 match Kh ops.toList i with
 | some ⟨d,op,ty,p,af,g⟩=>match A3 L ops ⟨d,op,ty,p,af,g⟩ with
  | some true=>match BA n d with
   | true=>match LG L op with
    | some v=>match d with
     | some d=>some ((d,v)::L)
     | none=>some L
    | none=>none
   | false=>none
  | some false=>match BA n d with
   | true=>match d with
    | some d=>some ((d,undef)::L)
    | none=>some L
   | false=>none
  | none=>none
 | none=>none
def HC(n:Nat)(L:Env)(ops:Ao_)(i:Nat):Option Oper:=
 match Kh ops.toList i with
 | some ⟨d,op,ty,p,af,g⟩=>match A3 L ops ⟨d,op,ty,p,af,g⟩ with
  | some true=>match BA n d with
   | true=>some ⟨d,op,ty,p,af,g⟩
   | false=>none
  | _=>none
 | none=>none
theorem QX{o:Oper}(h:HC n L ops i=some o):ops[i]?=some o/\A3 L ops o=some true/\BA n o.dst=true:=by
 unfold HC at h;split at h;rename_i K;rw[Mj,ro] at K;split at h;rename_i hw;split at h;rename_i O;cases h;exact⟨K,hw,O⟩;cases h;cases h;cases h
theorem ZT(h:Qw n L ops i=some L'):∃o,ops[i]?=some o/\BA n o.dst=true/\((∃v,A3 L ops o=some true/\LG L o.op=some v/\L'=AE L o.dst v)∨(A3 L ops o=some false/\L'=AE L o.dst undef)):=by
 unfold Qw at h;split at h
 .rename_i d op ty p af g O;rw[Mj,ro] at O;refine⟨_,O,?_⟩;split at h
  .rename_i hw;split at h
   .rename_i K;refine⟨K,.inl ?_⟩;split at h
    .rename_i v U;refine⟨v,hw,U,?_⟩;cases d with
     | none=>cases h;rfl
     | some d=>cases h;rfl
    .cases h
   .cases h
  .rename_i hw;split at h
   .rename_i K;refine⟨K,.inr ⟨hw,?_⟩⟩;cases d with
    | none=>cases h;rfl
    | some d=>cases h;rfl
   .cases h
  .cases h
 .cases h
variable {fuel:Nat}{listed:Array Bool}
theorem Dt(i:Nat)(K:ER ops m=true)(O:s.q=false)(h:Qw n L ops i=some L')
  (U:AQ J Q b n ds ops k cs m D fuel (Bs listed i) L' s) (Y:G1 ops listed m i=true:=by decide+kernel):AQ J Q b n ds ops k cs m D (fuel+1) listed L s:=by
 obtain⟨o,Z,ac,⟨v,hw,ag,rfl⟩ | ⟨hw,rfl⟩⟩:=ZT h;exact JG.val i Z K Y O hw ac (λρ ai s' _=>OV ai ag) U;exact jb i Z K Y O hw ac U
theorem A6(i:Nat)(K:ER ops m=true)(O:s.q=false)(U:HC n L ops i=some ⟨d,op,ty,p,af,g⟩)
  (Y:∀ρ,Fz L ρ->∀s':St,(∀x o,(BE D s).E x=some o->s'.E x=some o)->Yl P ⟨d,op,ty,p,af,g⟩ ρ s' v)
  (Z:AQ J Q b n ds ops k cs m D fuel (Bs listed i) (AE L d v) s) (ac:G1 ops listed m i=true:=by decide+kernel):AQ J Q b n ds ops k cs m D (fuel+1) listed L s:=by
 let⟨ag,ai,aj⟩:=QX U;exact JG.val i ag K ac O ai aj Y Z
end
abbrev Jn(E H E':LH)(S:List Seg)(K L:Env)(s:St)(R:Prop):Prop:=L=K/\s=Ak E' H S/\Le E E'/\Au E' H S/\R
abbrev Jm(E H E':LH)(S:List Seg)(K L:Env)(s:St):Prop:=L=K/\s=Ak E' H S/\Le E E'/\Au E' H S
def Qd(L:Env):List ResultVar->Option (Lv_)
 | []=>some []
 | .tmp t::rs=>match look L t with
  | some v=>match Qd L rs with
   | some vs=>some (v::vs)
   | none=>none
  | none=>none
 | _=>none
theorem Vu{P:Program}{L:Env}{s:St}:∀{rs:List ResultVar}{vs:Lv_},Qd L rs=some vs->RV P L s rs vs
 | [],vs,h=>by cases h;trivial
 | .tmp t::rs,vs,h=>by
  unfold Qd at h
  split at h
  .rename_i v K
   split at h;rename_i ws hw;cases h;exact⟨K,Vu hw⟩;cases h
  .cases h
 | .cell _ _::_,_,h=>by cases h
variable {ft:TypeId}
variable{m':Int}
section
variable {b:Frame}{i:Nat}
variable {x y:Operand}{e:TypeId}
theorem AK{c:Frame}(O:P.funcs[b.fn]?=some fn)(K:(b.kind== .normal&&b.roundOf.isNone)=true)(U:Qd L fn.results.toList=some vs)(h:J.ok Q (G (c.finish (OI vs)) cs) s):JL J Q b n L [] (.code .ret::k) (c::cs) s:=by
 simp only[eM,sB,Option.isNone_iff_eq_none] at K;exact JL.ret K.1 K.2 (BK.list O V (Vu U)) h
theorem BU
  (O:AY J f vs E [] R) (U:FF b n L ops i=some ⟨d,.call ⟨.value (.func f),args,ats⟩,ty,p,af,g⟩) (Y:evs L args.toList=some vs) (hb:Ez P f=true)
  (Z:Au E H S) (ac:∀v E' seg',Le E E'->R v E' seg'->Au E' H (S++ [seg'])->JL J Q b n (AE L d v) ds (.inRegion ops rest::k) cs (Ak E' H (S++ [seg']))):
  JL J Q b n L ds (.inRegion ops (i::rest)::k) cs (Ak E H S):=by
 let⟨ag,ai,K⟩:=Lj U;refine JS.call O ag ai ?_ hb Y Z ac;simp only[BV,eM] at K ⊢;exact⟨K.1,K.2.1⟩
theorem B9{v:Value}
  (O:AY J f vs E [] (λw E' B'=>w=v/\B'=[])) (U:FF b n L ops i=some ⟨d,.call ⟨.value (.func f),args,ats⟩,ty,p,af,g⟩) (Y:evs L args.toList=some vs) (hb:Ez P f=true)
  (K:Au E H S) (Z:∀E',Le E E'->Au E' H (S++ [[]])->JL J Q b n (AE L d v) ds (.inRegion ops rest::k) cs (Ak E' H (S++ [[]]))):
  JL J Q b n L ds (.inRegion ops (i::rest)::k) cs (Ak E H S):=BU O U Y hb K (by rintro _ E' _ hle ⟨rfl,rfl⟩ K;exact Z E' hle K)
theorem Cw(j:Nat)
  (O:AY J f vs E seg R) (U:FF b n L ops i=some ⟨d,.call ⟨.value (.func f),args,ats⟩,ty,p,af,g⟩) (Y:evs L args.toList=some vs) (hb:Ez P f=true)
  (Z:Au E H S) (ac:S[j]?=some seg) (ag:∀v E' seg',Le E E'->R v E' seg'->Au E' H (S.set j seg')->JL J Q b n (AE L d v) ds (.inRegion ops rest::k) cs (Ak E' H (S.set j seg'))):
  JL J Q b n L ds (.inRegion ops (i::rest)::k) cs (Ak E H S):=by
 let⟨ai,aj,K⟩:=Lj U;refine T8 j O ai aj ?_ hb Y Z ac ag;simp only[BV,eM] at K ⊢;exact⟨K.1,K.2.1⟩
def Np(K:Array Field)(i:Nat):Option (Nat×TypeId):=match K[i]? with
 | some f=>some (f.offset,f.type)
 | none=>none
theorem Bw{r m:Int}{u:TypeId}(h:Az (m+m')=some r)(K:FF b n L ops i=some ⟨d,.binOp .add t x y u,ty,p,af,g⟩)(O:ev L x=some (iV m))(U:ev L y=some (iV m'))
  (Y:JL J Q b n (AE L d (iV r)) ds (.inRegion ops rest::k) cs s):JL J Q b n L ds (.inRegion ops (i::rest)::k) cs s:=Ao K (λ_ q=>F5 (q _ _ O) (q _ _ U) h) Y
theorem Cx{r m:Int}{u:TypeId}(h:Az (m - m')=some r)(K:FF b n L ops i=some ⟨d,.binOp .sub t x y u,ty,p,af,g⟩)(O:ev L x=some (iV m))(U:ev L y=some (iV m'))
  (Y:JL J Q b n (AE L d (iV r)) ds (.inRegion ops rest::k) cs s):JL J Q b n L ds (.inRegion ops (i::rest)::k) cs s:=Ao K (λ_ q=>Eo (q _ _ O) (q _ _ U) h) Y
theorem JL.ln{a:Option Addr}{e:TypeId}{l c:Nat}(K:P.underlying t=some (.slice e))(O:FF b n L ops i=some ⟨d,.call ⟨.builtin .len,#[x],ats⟩,ty,p,af,g⟩)(U:ats[0]?=some t)(Y:ev L x=some (.slice a l c))
  (Z:JL J Q b n (AE L d (.int .i64 l)) ds (.inRegion ops rest::k) cs s):JL J Q b n L ds (.inRegion ops (i::rest)::k) cs s:=Ao O (λ_ q=>Yl.len U K (q _ _ Y)) Z
theorem JL.fd{bk o:Nat}{O:Array Field}(Y:P.underlying t=some (.struct O))(Z:Bz P ft=some (sz+1))(ac:FF b n L ops i=some ⟨d,.fieldAddr t x U,ty,p,af,g⟩)(ag:ev L x=some (.pointer (some ⟨bk,o,none⟩)))(K:Np O U=some (off,ft))
  (ai:JL J Q b n (AE L d (.pointer (some ⟨bk,o+off,none⟩))) ds (.inRegion ops rest::k) cs s):
  JL J Q b n L ds (.inRegion ops (i::rest)::k) cs s:=by
 unfold Np at K;split at K;rename_i f aj;cases K;refine Ao ac (λρ h=>Ep (a:=⟨bk,o,none⟩) sz f.offset Y Z aj V V (h _ _ ag)) ?_;rw[EG rfl];exact ai;cases K
theorem CJ{bk o:Nat}{ws:Lv_}(j:Nat)(K:At E bk o ws)(O:Es P t=some false)(U:FF b n L ops i=some ⟨d,.load t x,ty,p,af,g⟩)(Y:ev L x=some (.pointer (some ⟨bk,o+j,none⟩)))(Z:ws[j]?=some v)
  (ac:JL J Q b n (AE L d v) ds (.inRegion ops rest::k) cs (Ak E H S)):
  JL J Q b n L ds (.inRegion ops (i::rest)::k) cs (Ak E H S):=
 Ao U (λ_ h=>Yl.load O (h _ _ Y) (At.Iy K Z)) ac
theorem Sf{bk:Nat}{c:Av_}(j:Nat)(K:Au E H S)(O:Bz P t=some v.cells.size)(U:FF b n L ops i=some ⟨d,.store t x y,ty,p,af,g⟩)
  (Y:ev L x=some (.pointer (some ⟨bk,off,none⟩))) (Z:ev L y=some v) (ac:S[j]?=some [(bk,.cells c e (0,0))])
  (h:Au E H (S.set j [(bk,.cells (Bf c off v.cells.toList) e (0,0))])->JL J Q b n (AE L d undef) ds (.inRegion ops rest::k) cs (Ak E H (S.set j [(bk,.cells (Bf c off v.cells.toList) e (0,0))])))
  (hle:off+v.cells.size<=c.size:=by exact qN rfl) (ag:∀u∈v.cells.toList,CL u=true:=by simp[Value.cells,CL]):
  JL J Q b n L ds (.inRegion ops (i::rest)::k) cs (Ak E H S):=by
 let⟨ai,aj,al⟩:=Lj U;exact JS.store j ai aj al K Y Z O ag ac hle h
theorem BQ{bk o:Nat}{ws:Lv_}(K:At E bk o ws)(O:Es P t=some true)(U:Bz P t=some ws.length)(Y:FF b n L ops i=some ⟨d,.load t x,ty,p,af,g⟩)(Z:ev L x=some (.pointer (some ⟨bk,o,none⟩)))
  (ac:JL J Q b n (AE L d (.agg ws.toArray)) ds (.inRegion ops rest::k) cs (Ak E H S)):
  JL J Q b n L ds (.inRegion ops (i::rest)::k) cs (Ak E H S):=
 Ao Y (λ_ h=>F4 O U (h _ _ Z) (At.R9 K)) ac
variable {fuel:Nat}{listed:Array Bool}
theorem JG.fd{bk o:Nat}{O:Array Field}(i:Nat)(Y:ER ops m=true)(Z:P.underlying t=some (.struct O))(ac:Bz P ft=some (sz+1))(ag:s.q=false)(ai:HC n L ops i=some ⟨d,.fieldAddr t x U,ty,p,af,g⟩)(aj:ev L x=some (.pointer (some ⟨bk,o,none⟩)))(K:Np O U=some (off,ft))
  (al:AQ J Q b n ds ops k cs m D fuel (Bs listed i) (AE L d (.pointer (some ⟨bk,o+off,none⟩))) s) (am:G1 ops listed m i=true:=by decide+kernel):AQ J Q b n ds ops k cs m D (fuel+1) listed L s:=by
 unfold Np at K;split at K;rename_i f ap;cases K;refine A6 i Y ag ai (λρ h _ _=>Ep (a:=⟨bk,o,none⟩) sz f.offset Z ac ap V V (h _ _ aj)) ?_ am;rw[EG rfl];exact al;cases K
theorem CY{bk o:Nat}{ws:Lv_}(i:Nat)(K:ER ops m=true)(j:Nat)(O:At (BE D s).E bk o ws)(U:Es P t=some false)(Y:s.q=false)(Z:HC n L ops i=some ⟨d,.load t x,ty,p,af,g⟩)(ac:ev L x=some (.pointer (some ⟨bk,o+j,none⟩)))(ag:ws[j]?=some v)
  (ai:AQ J Q b n ds ops k cs m D fuel (Bs listed i) (AE L d v) s) (aj:G1 ops listed m i=true:=by decide+kernel):AQ J Q b n ds ops k cs m D (fuel+1) listed L s:=
 A6 i K Y Z (λ_ h _ al=>Yl.load U (h _ _ ac) (At.EI O al ag)) ai aj
theorem GK{bk o:Nat}{ws:Lv_}(i:Nat)(K:ER ops m=true)(O:At (BE D s).E bk o ws)(U:Es P t=some true)(Y:Bz P t=some ws.length)(Z:s.q=false)(ac:HC n L ops i=some ⟨d,.load t x,ty,p,af,g⟩)(ag:ev L x=some (.pointer (some ⟨bk,o,none⟩)))
  (ai:AQ J Q b n ds ops k cs m D fuel (Bs listed i) (AE L d (.agg ws.toArray)) s) (aj:G1 ops listed m i=true:=by decide+kernel):AQ J Q b n ds ops k cs m D (fuel+1) listed L s:=
 A6 i K Z ac (λ_ h _ al=>F4 U Y (h _ _ ag) (At.R3 O al)) ai aj
end
abbrev SF:=Int×List Int×Nat
abbrev A7:=List (Int×Int)
abbrev B4:=List Int×Int×Nat
abbrev Ap:=Option Addr
abbrev GR:Rp (Int×Int):=rP rI rI
theorem ip{α:Type}{p:Prop} [Decidable p] {A B:Option α}{r:α}(h:(if p then A else B)=some r)(c:p):A=some r:=by rwa[d0 c] at h
theorem im{α:Type}{p:Prop} [Decidable p] {A B:Option α}{r:α}(h:(if p then A else B)=some r)(c:¬p):B=some r:=by rwa[d7 c] at h
theorem ib{α:Type}{c:Bool}{A B:Option α}{r:α}(h:(if c=true then A else B)=some r)(K:c=false):B=some r:=by subst K;simpa using h
def SC(n:Nat)(ops:Ao_):List Nat->Nat->Env->Option (Nat×Env)
 | [],f,L=>some (f,L)
 | i::l,f+1,L=>match Qw n L ops i with
  | some L'=>SC n ops l f L'
  | none=>none
 | _::_,0,_=>none
def Se(ops:Ao_)(m:Nat):Array Bool->List Nat->Bool
 | _,[]=>true
 | listed,i::l=>G1 ops listed m i&&Se ops m (Bs listed i) l
def Xc:Array Bool->List Nat->Array Bool
 | listed,[]=>listed
 | listed,i::l=>Xc (Bs listed i) l
theorem A9{P:Program}{J:Judge P}{Q:Gs_}{b:Frame}{n:Nat}{ds:Ld_}{k:Li_}{cs:Lf_}{s:St}{ops:Ao_}{m:Nat}{D:Nat->Bool}{L':Env}{U:Nat}(Y:ER ops m=true)(Z:s.q=false):
  ∀(l:List Nat) {fuel:Nat}{listed:Array Bool}{L:Env},SC n ops l fuel L=some (U,L')->AQ J Q b n ds ops k cs m D U (Xc listed l) L' s->(K:Se ops m listed l=true:=by decide+kernel)->AQ J Q b n ds ops k cs m D fuel listed L s
 | [],fuel,listed,L,h,O,_=>by cases h;exact O
 | i::l,fuel,listed,L,h,O,K=>by
  cases fuel with
  | zero=>cases h
  | succ fuel=>
   unfold Se at K;rw[eM] at K;unfold SC at h;split at h;rename_i ac e;exact Dt i Y Z e (A9 Y Z l h O K.2) K.1;cases h
theorem zg{P:Program}{J:Judge P}{Q:Gs_}{b:Frame}{n:Nat}{L L':Env}{ds:Ld_}{k k':Li_}{cs:Lf_}{s:St}(m:Nat)(h:Pk b n m k L=some (k',L'))(K:JL J Q b n L' ds k' cs s):JL J Q b n L ds k cs s:=JL.go m h K
abbrev C:=@zg
abbrev bX(r:Nat)(c:Av_)(t:TypeId):Seg:=[(r,.cells c t (0,0))]
variable {α:Type}{A B:Option α}{r:α}
variable{p1:Int}
section
variable {b:Frame}
theorem AP{c:Operand}{x y:Code}{p:Prop} [Decidable p] (K:(if p then A else B)=some r)(O:p->A=some r->JL J Q b n L ds (.code x::k) cs s)(U:¬p->B=some r->JL J Q b n L ds (.code y::k) cs s)
  (Y:ev L c=some (.bool (decide p)):=by exact rfl):JL J Q b n L ds (.code (.cond c x y)::k) cs s:=GY Y (λh=>O h (ip K h)) λh=>U h (im K h)
theorem Cm{c:Operand}{x y:Code}{t:Bool}(K:(if t=true then A else B)=some r)(O:t=true->A=some r->JL J Q b n L ds (.code x::k) cs s)(U:t=false->B=some r->JL J Q b n L ds (.code y::k) cs s)
  (Y:ev L c=some (.bool t):=by exact rfl):JL J Q b n L ds (.code (.cond c x y)::k) cs s:=Ri Y (λh=>O h (ip K h)) λh=>U h (ib K h)
theorem Hy{q:Prop} [Decidable q] (i:Nat)(K:(if q then A else B)=some r)(O:q->A=some r->JL J Q b n (AE L (some i) (.bool true)) ds k cs s)(U:¬q->B=some r->JL J Q b n (AE L (some i) (.bool false)) ds k cs s)
  (Y:look L i=some (.bool (decide q)):=by exact rfl):JL J Q b n L ds k cs s:=MZ Y (λh=>O h (ip K h)) λh=>U h (im K h)
theorem Fy{t:Bool}(i:Nat)(K:(if t=true then A else B)=some r)(O:t=true->A=some r->JL J Q b n (AE L (some i) (.bool true)) ds k cs s)(U:t=false->B=some r->JL J Q b n (AE L (some i) (.bool false)) ds k cs s)
  (Y:look L i=some (.bool t):=by exact rfl):JL J Q b n L ds k cs s:=Li Y (λh=>O h (ip K h)) λh=>U h (ib K h)
theorem Co{O:Type}{c:Code}{body:β->Option (Bq β O)}{f:Nat}{U:β}{a:O}(Z:iter body f U=some a)(I:Env->St->β->Prop)(ac:I L' s U)
  (round:∀L s x,I L s x->(∀Y,body x=some (.done Y)->Y=a)->(∃st,body x=some st)->(∀L' s' x',I L' s' x'->body x=some (.more x')->JL J Q b n L' ds (.inLoop c::k) cs s')->JL J Q b n L ds (.code c:: .inLoop c::k) cs s)
  (ag:I1 L L'=I7 L':=by exact rfl):JL J Q b n L ds (.code (.loop c)::k) cs s:=EW L' ag (Ub Z I ac round)
variable {fuel:Nat}{listed:Array Bool}
def P2(ops:Ao_):Array Bool->List Nat->Bool
 | _,[]=>true
 | l,i::t=>Region.ready .any ops l== [i]&&P2 ops (Bs l i) t
theorem VJ:∀{t:List Nat}{l:Array Bool},P2 ops l t=true->∀u,Region.linearise.go .any ops t.length u l []=t
 | [],_,_,_=>rfl
 | i::t,l,h,u=>by
  unfold P2 at h
  rw[eM,sB] at h
  exact gb h.1 (VJ h.2) u
theorem Cn(t:List Nat)(O:JL J Q b n L ds (.inRegion ops t::k) cs s)(K:(Sm m listed&&P2 ops listed t&&(fuel+1==t.length))=true:=by decide+kernel):AQ J Q b n ds ops k cs m D (fuel+1) listed L s:=by
 rw[eM,eM,sB] at K;exact AQ.leaf K.1.1 (by rw[K.2];exact VJ K.1.2) O
theorem Ei(m:Nat){id:Nat}(h:ER ops m=true->AQ J Q b n ds ops k cs m DJ ops.size (Array.replicate ops.size false) L (Ak E H S))(hm:P.follows .mixedOrders=true:=by exact rfl)(K:(b.kind != .early)=true:=by exact rfl)(O:ER ops m=true:=by decide+kernel):
  JL J Q b n L ds (.code (.region id ops true)::k) cs (Ak E H S):=au m hm K O h
theorem F7(m:Nat)(bks:List Nat){id:Nat}(K:HW S bks)(O:Au E H S)(h:ER ops m=true->AQ J Q b n ds ops k cs m (AH bks) ops.size (Array.replicate ops.size false) L (Ak E H S))(hm:P.follows .mixedOrders=true:=by exact rfl)(U:(b.kind != .early)=true:=by exact rfl)(Y:ER ops m=true:=by decide+kernel):
  JL J Q b n L ds (.code (.region id ops true)::k) cs (Ak E H S):=Z0 m bks K O hm U Y h
theorem CU{α:Type}{pp:Rp α}{a:Option Addr}{c:Nat}{xs:List α}{xv:α}{d:Option Tmp}{x y:Operand}{t ty e:TypeId}{p:String}{af:Ae_}{g:On_}{kd:IntKind}(i:Nat)(O:Am pp E a c xs)(U:ix xs p1=some xv)(Y:ER ops m=true)(Z:P.underlying t=some (.slice e))(ac:Bz P e=some pp.n)
  (h:∀bk o ws,pp.r E ws xv->At E bk o ws->AQ J Q b n ds ops k cs m D fuel (Bs listed i) (AE L d (.pointer (some ⟨bk,o,none⟩))) s)
  (ag:ops[i]?=some ⟨d,.indexAddr t x y,ty,p,af,g⟩:=by exact rfl) (ai:G1 ops listed m i=true:=by decide+kernel) (aj:s.q=false:=by exact rfl)
  (hw:A3 L ops ⟨d,.indexAddr t x y,ty,p,af,g⟩=some true:=by exact rfl) (al:BA n d=true:=by exact rfl)
  (am:ev L x=some (.slice a xs.length c):=by exact rfl) (ap:ev L y=some (.int kd p1):=by exact rfl):
  AQ J Q b n ds ops k cs m D (fuel+1) listed L s:=gd i O U ag Y ai aj hw al am ap Z ac h
end
variable{c2:Nat}
theorem DG{P:Program}{J:Judge P}{Q:Gs_}{b:Frame}{n:Nat}{ds:Ld_}{ops:Ao_}{k:Li_}{cs:Lf_}{m:Nat}{D:Nat->Bool}{listed:Array Bool}{L L':Env}{s:St}(k':AQ J Q b n ds ops k cs m D c2 listed L' s)(h:I1 L L'=I7 L'):AQ J Q b n ds ops k cs m D c2 listed L s:=En (PE h) k'
def SH{α:Type}(p:Rp α):Rp (List α):=⟨1,λE ws xs=>(xs=[]/\ws=[.slice none 0 0])∨(xs≠ []/\(rL p).r E ws xs),
 λhle h=>h.imp id λh=>⟨h.1,(rL p).Ag hle h.2⟩,λh=>by
  rcases h with⟨_,rfl⟩ | ⟨_,h⟩
  .rfl
  .exact(rL p).len h,λh w hw=>by
  rcases h with⟨_,rfl⟩ | ⟨_,h⟩
  .simp at hw;subst hw;rfl
  .exact(rL p).one h w hw⟩
instance {α:Type} [DecidableEq α] (xs:List α):Decidable (xs=[]):=inferInstance
variable {w:Value}
section
variable {b:Frame}{i:Nat}
variable {x y:Operand}{e:TypeId}
end
variable{j:Nat}
section
variable {b:Frame}{fuel:Nat}{listed:Array Bool}
variable {x y:Operand}{e:TypeId}{i:Nat}
theorem Take.JC{α:Type}{pp:Rp α}(O:Au E H S)(U:ops[i]?=some ⟨d,.buildSlice t 0 #[],ty,p,af,g⟩)(hw:A3 L ops ⟨d,.buildSlice t 0 #[],ty,p,af,g⟩=some true)(Y:BA n d=true)
  (Z:P.underlying t=some (.slice e)) (ac:Bz P e=some pp.n)
  (h:∀r seg,OL e pp E (some ⟨r,0,none⟩) 0 seg ([]:List α)->Au E H (S++ [seg])->AQ J Q b n ds ops k cs m DJ fuel (Bs listed i) (AE L d (.slice (some ⟨r,0,none⟩) 0 0)) (Ak E H (S++ [seg]))):
  Take J Q b n ds ops k cs m DJ fuel listed L (Ak E H S) i:=
 Take.LU U (by simp[EJ,Y]) hw λρ ai=>by
  rw[Q4]
  refine AA _ _ ?_
  unfold Instr.buildSlice
  refine AA _ _ (CM Z ?_)
  refine AA _ _ (Fv ac ?_)
  rw[d7 (by omega),d0 (by omega)]
  refine AA (x:=pure #[]) _ ?_
  simp only[lp,pure,List.map_toArray,uK,Instr.fill]
  refine AA _ _ (Jo O λr K=>?_)
  rw[(FL K).1]
  exact h r _ ⟨[],.inr ⟨r,_,rfl,rfl,by simp,qH _,by simp⟩,rfl,λi x ws ag=>by simp at ag⟩ (FL K).2
theorem Take.GZ{α:Type}{pp:Rp α}{t1:TypeId}{c cx:Nat}{a ax:Option Addr}{xs ys Y:List α}{z:Value}(j:Nat)(ac:Au E H S)(ag:CZ xs ys=some Y)
  (ai:ops[i]?=some ⟨d,.call ⟨.builtin .append,#[x,y],ats⟩,ty,p,af,g⟩) (hw:A3 L ops ⟨d,.call ⟨.builtin .append,#[x,y],ats⟩,ty,p,af,g⟩=some true) (aj:BA n d=true)
  (al:ev L x=some (.slice a xs.length c)) (am:ev L y=some (.slice ax ys.length cx)) (ap:ats[0]?=some t) (aq:ats[1]?=some t1) (aw:P.underlying t=some (.slice e)) (a0:P.underlying t1=some (.slice e)) (a1:Bz P e=some pp.n) (hb:Ga P e=some U) (a2:zeroOf P e=some z) (a3:z.cells.size=pp.n)
  (a4:0<U) (a5:U<=64) (a6:OL e pp E a c seg xs) (a7:Am pp E ax cx ys) (a8:S[j]?=some seg)
  (h:∀K O g seg',OL e pp E K O seg' Y->Au E H (S.set j (g++seg'))->AQ J Q b n ds ops k cs m DJ fuel (Bs listed i) (AE L d (.slice K Y.length O)) (Ak E H (S.set j (g++seg')))):
  Take J Q b n ds ops k cs m DJ fuel listed L (Ak E H S) i:=
 Take.LU ai (by simp[EJ,aj]) hw λρ Z=>U2 j ag (Z _ _ al) (Z _ _ am) ap aq aw a0 a1 hb a2 a3 a4 a5 a6 (by
  let⟨a9,bb,be,bg,_⟩:=a7.Ml (H:=H) (B:=S.flatten)
  exact⟨a9,bg,bb,be⟩) ac a8 λK O bi seg' bo bv=>h K O bi seg' bo bv
theorem Ma{s:St}{D:Nat->Bool}{i l:Nat}(K:s.q=false)(O:Region.ready .any ops listed=[i,j,l])(hi:Take J Q b n ds ops k cs m D fuel listed L s i)(hj:Take J Q b n ds ops k cs m D fuel listed L s j)(U:Take J Q b n ds ops k cs m D fuel listed L s l):AQ J Q b n ds ops k cs m D (fuel+1) listed L s:=
 QR K O (by simp) (by intro q K;simp at K;rcases K with rfl | rfl | rfl<;>assumption)
end
theorem Am.cut{α:Type}{pp:Rp α}{E:LH}{a:Option Addr}{c:Nat}{xs ys:List α}{lo hi:Int}(Y:Am pp E a c xs)(hC:Jc xs lo hi=some ys):
  ∃Z ac,Am pp E Z ac ys/\∀{P:Program}{ρ:Operand->Value}{s:St}{d:Option Tmp}{x:Operand}{t ty e:TypeId}{p:String}{af:Ae_}{g:On_}{olo ohi:Option Operand},P.underlying t=some (.slice e)->Bz P e=some pp.n->ρ x=.slice a xs.length c->
   (match ohi with | some w=>ρ w=iV hi | none=>hi=xs.length)->(match olo with | some w=>ρ w=iV lo | none=>lo=0)->Yl P ⟨d,.slice t x olo ohi none,ty,p,af,g⟩ ρ s (.slice Z ys.length ac):=by
 unfold Jc at hC;split at hC
 rotate_left
 .cases hC
 rename_i hb;obtain⟨a2,a3,al⟩:=hb;cases hC;obtain⟨lo,rfl⟩:∃l:Nat,lo=l:=⟨lo.toNat,by omega⟩;obtain⟨hi,rfl⟩:∃l:Nat,hi=l:=⟨hi.toNat,by omega⟩;simp only[rk] at*;have a4:=Y.1;have hlen:((xs.take hi).drop lo).length=hi - lo:=by simp;omega
 have ag:∀ad:Addr,a=some ad->ad.spot=none∨c=0:=λad K=>by
  rcases Y.2 with⟨_,h⟩ | ⟨bk,off,h,_⟩;exact h ad K;rw[h] at K;cases K;exact .inl V
 refine⟨if c=lo then a else a.map (·.add (lo*pp.n)),c - lo,⟨by rw[hlen];omega,?_⟩,?_⟩
 .by_cases am:hi - lo=0
  .left;refine⟨q0 (by rw[hlen];exact am),λad K=>?_⟩;split at K;(exact(ag ad K).imp id λh=>by omega)
   .cases a with
    | none=>cases K
    | some ap=>
     simp only[rZ,ry] at K;subst K;exact .inl (by rw[EG ((ag ap rfl).resolve_right (by omega))])
  .right;rcases Y.2 with⟨h,_⟩ | ⟨bk,off,rfl,O⟩;subst h;simp at al;omega;refine⟨bk,off+lo*pp.n,?_,λq z U=>?_⟩;rw[d7 (by omega),rZ,EG rfl];rw[t8,r4] at U;split at U;let⟨ws,aq,ai⟩:=O _ z U;refine⟨ws,aq,?_⟩;rw[su] at ai;rw[sU];exact ai;cases U
 .intro P ρ s d x t ty e p af g olo ohi aw a0 a1 O aj;rw[hlen];refine Yl.slice (mx:=c) (hi:=hi) (lo:=lo) aw a0 a1 V ?_ ?_ (qH _) (by omega) (by omega)
  .cases ohi with
   | none=>exact⟨by simp only at O;omega,rfl⟩
   | some w=>exact O
  .cases olo with
   | none=>simp only at aj;show lo=0;omega
   | some w=>exact aj
section
variable {b:Frame}{fuel:Nat}{listed:Array Bool}
theorem Ty{S1:List Seg}(K:S=S1)(O:S1.Perm S')(U:Au E H S)(h:Au E H S'->AQ J Q b n ds ops k cs m D fuel listed L (Ak E H S')):AQ J Q b n ds ops k cs m D fuel listed L (Ak E H S):=by
 subst K;exact AQ.perm O.flatten U h
end
def Cd{α:Type}(e e2:TypeId)(p:Rp α)(E:LH)(a:Option Addr)(c:Nat)(seg:Seg)(K:List (List α)):Prop:=
 ∃(g0:Seg) (O:Lv_) (rows:List Seg),seg=g0++rows.flatten/\OL e rV E a c g0 O/\O.length=K.length/\rows.length=K.length/\
  ∀(i:Nat) xs r h,K[i]?=some xs->rows[i]?=some r->O[i]?=some h->∃U ci,h=.slice U xs.length ci/\OL e2 p E U ci r xs
theorem Cd.Ag{α:Type}{e e2:TypeId}{p:Rp α}{E E':LH}{a:Option Addr}{c:Nat}{K:List (List α)}(h:Cd e e2 p E a c seg K)(hle:Le E E'):Cd e e2 p E' a c seg K:=
 let ⟨g0,O,rows,U,Y,Z,ac,ag⟩:=h
 ⟨g0,O,rows,U,Y.Ag hle,Z,ac,λi xs r q a b c=>let ⟨ai,ci,k1,aj⟩:=ag i xs r q a b c;⟨ai,ci,k1,aj.Ag hle⟩⟩
theorem Cd.make{α:Type}{e e2:TypeId}{p:Rp α}{E:LH}{a:Option Addr}{c:Nat}{m:Int}{K:List (List α)}(O:Fx m ([]:List α)=some K)(h:OL e (SH p) E a c seg K):Cd e e2 p E a c seg K:=by
 have U:∀xs∈K,xs=[]:=by
  unfold Fx at O;split at O;cases O;intro xs ac;exact(sR.1 ac).2;cases O
 obtain⟨wss,ag,Y,ai⟩:=h;have key:∀(i:Nat) ws,wss[i]?=some ws->ws=[.slice none 0 0]:=λi ws hw=>by
  have Z:i<K.length:=by rw[← Y];exact(dY.1 hw).1
  have aj:=bI Z;rcases ai i _ ws aj hw with⟨_,h⟩ | ⟨h,_⟩;exact h;exact absurd (U _ (no Z)) h
 refine⟨seg,List.replicate K.length (.slice none 0 0),List.replicate K.length [],by simp,⟨wss,?_,by simpa using Y,λi x ws al hw=>?_⟩,by simp,by simp,λi xs r q a b c=>?_⟩;rw[sf];exact ag;rw[key i ws hw];obtain rfl:=(sR.1 (qL al)).2;exact⟨V,V⟩;obtain rfl:=(sR.1 (qL b)).2;obtain rfl:=(sR.1 (qL c)).2;obtain rfl:=U xs (qL a);exact⟨none,0,V,OL.nil⟩
variable{rows:List Seg}
theorem UU{m:Nat}{r:Seg}(h:rows[m]?=some r):rows.flatten=(rows.take m).flatten++r++(rows.drop (m+1)).flatten:=by
 have K:=(dY.1 h).1;have e:rows=rows.take m++r::rows.drop (m+1):=by
  rw[(dY.1 h).2.symm];rw[← sc K,List.take_append_drop]
 conv=>lhs;rw[e]
 simp
theorem TB{m:Nat}{r:Seg}(h:m<rows.length):(rows.set m r).flatten=(rows.take m).flatten++r++(rows.drop (m+1)).flatten:=by
 rw[UU (rows:=rows.set m r) (m:=m) (r:=r) (by rw[rc h]),List.take_set_of_le (qH _),List.drop_set_of_lt (by omega)]
theorem Cd.row{α:Type}{e e2:TypeId}{p:Rp α}{E:LH}{a:Option Addr}{c:Nat}{ac:List (List α)}{m:Int}{xs:List α}(h:Cd e e2 p E a c seg ac)(hm:ix ac m=some xs):
  ∃(bk:Nat) (f:Av_) (U:Option Addr) (ci:Nat) (g1 r g2:Seg),a=some ⟨bk,0,none⟩/\seg=(bk,.cells f e (0,0))::(g1++r++g2)/\f[m.toNat*1]?=some (.slice U xs.length ci)/\m.toNat*1+1<=f.size/\OL e2 p E U ci r xs/\
   (∀E' r' O,Le E E'->O.length=xs.length->OL e2 p E' U ci r' O->Cd e e2 p E' a c ((bk,.cells f e (0,0))::(g1++r'++g2)) (ac.set m.toNat O))/\
   (∀E' Y Z r' O,Le E E'->OL e2 p E' Y Z r' O->Cd e e2 p E' a c ((bk,.cells (Bf f (m.toNat*1) [.slice Y O.length Z]) e (0,0))::(g1++r'++g2)) (ac.set m.toNat O)):=by
 obtain⟨g0,ag,rows,rfl,ap,aq,aw,ai⟩:=h;obtain⟨K,rfl,a0⟩:=FP hm;have bb:=(dY.1 a0).1;have a1:rows[K]?=some rows[K]:=bI (by omega);have hh:ag[K]?=some ag[K]:=bI (by omega);let⟨U,ci,a4,a5⟩:=ai K xs _ _ a0 a1 hh;rw[a4] at hh;obtain⟨bk,f,ws,rfl,rfl,a6,a2,a7,a3⟩:=OL.get ap hh;obtain⟨rfl,-⟩:=a6;have a8:(rV).n=1:=V;rw[a8] at a2 a7 a3;simp only[rk];refine⟨bk,f,U,ci,(rows.take K).flatten,rows[K],(rows.drop (K+1)).flatten,V,by rw[UU a1];rfl,by have:=a2 0 _ rfl;simpa using this,by omega,a5,λE' r' O hle a9 aj=>?_,λE' Y Z r' O hle aj=>?_⟩;refine⟨_,ag,rows.set K r',by rw[TB (by omega)];rfl,ap.Ag hle,by simpa using aq,by simpa using aw,λi ys q v a b c=>?_⟩;rw[rj] at a b;by_cases e:K=i;subst e;rw[d0 rfl,d0 (by omega)] at a b;cases a;cases b;rw[hh] at c;cases c;exact⟨U,ci,by rw[a9],aj⟩;rw[d7 e] at a b;let⟨al,am,l1,l2⟩:=ai i ys q v a b c;exact⟨al,am,l1,l2.Ag hle⟩;refine⟨_,ag.set K (.slice Y O.length Z),rows.set K r',by rw[TB (by omega)];rfl,(a3 _ _ ⟨V,V⟩).Ag hle,by simpa using aq,by simpa using aw,λi ys q v a b c=>?_⟩;rw[rj] at a b c;by_cases e:K=i;subst e;rw[d0 rfl,d0 (by omega)] at a b c;cases a;cases b;cases c;exact⟨Y,Z,V,aj⟩;rw[d7 e] at a b c;let⟨al,am,l1,l2⟩:=ai i ys q v a b c;exact⟨al,am,l1,l2.Ag hle⟩
theorem bD{E H:LH}{S:List Seg}{bk:Nat}{o:Obj}(K:Au E H S)(hj:S[j]?=some seg)(h:(bk,o)∈seg):(Ak E H S).get bk=some o:=by
 let⟨i,hi⟩:=qZ.1 h;exact Ej K hj hi
theorem Tg{E H:LH}{S:List Seg}{bk:Nat}{c:Av_}{e:TypeId}{f:Nat×Nat}{v:Value}(K:Au E H S)(hj:S[j]?=some seg)(h:(bk,.cells c e f)∈seg)(O:c[off]?=some v):(Ak E H S).cell? ⟨bk,off,none⟩=some v:=by
 unfold St.cell?;rw[bD K hj h];exact O
variable {e2:TypeId}
variable{q:Nat×Obj}{g1 r0 seg':Seg}{ci:Nat}{s':St}
section
variable {b:Frame}{i:Nat}
variable {x y:Operand}{e:TypeId}
theorem SS{S:List Seg}{A B seg':Seg}(hj:S[j]?=some seg)(h:seg.Perm (q::A)):S.flatten.Perm (S.set j A++ [[q]]).flatten:=by
 have K:=(Cl (seg':=A) hj).1;have O:=(Cl (seg':=A) hj).2;rw[F2];refine K.trans ?_;refine(h.append_left _).trans ?_;refine List.Perm.trans ?_ (O.symm.append_right [q]);rw[qI];exact(f8 (l₁:=[q]) (l₂:=A)).append_left _
theorem WB{bk:Nat}{c:Av_}{A:Seg}(j:Nat)(U:Au E H S)(K:S[j]?=some seg)(Y:seg.Perm ((bk,.cells c e (0,0))::A))(Z:seg'.Perm ((bk,.cells (Bf c off v.cells.toList) e (0,0))::A))(ac:Bz P t=some v.cells.size)(ag:FF b n L ops i=some ⟨d,.store t x y,ty,p,af,g⟩)
  (ai:ev L x=some (.pointer (some ⟨bk,off,none⟩))) (aj:ev L y=some v)
  (hle:off+v.cells.size<=c.size) (al:∀u∈v.cells.toList,CL u=true)
  (h:Au E H (S.set j seg')->JL J Q b n (AE L d undef) ds (.inRegion ops rest::k) cs (Ak E H (S.set j seg'))):
  JL J Q b n L ds (.inRegion ops (i::rest)::k) cs (Ak E H S):=by
 have am:=(dY.1 K).1;have key:∀q:Nat×Obj,∀g',g'.Perm (q::A)->(S.set j A++ [[q]]).flatten.Perm (S.set j g').flatten:=λq g' ap=>by
  have:=SS (B:=[]) (seg':=[]) (S:=S.set j g') (j:=j) (seg:=g') (A:=A) (q:=q) (by rw[rc am]) ap;rw[sw] at this;exact this.symm
 refine JS.perm (S':=S.set j A++ [[(bk,.cells c e (0,0))]]) (SS (B:=[]) (seg':=[]) K Y) U λaq=>?_;have hlen:(S.set j A++ [[(bk,Obj.cells c e (0,0))]])[(S.set j A).length]?=some [(bk,.cells c e (0,0))]:=by simp
 refine Sf (S.set j A).length aq ac ag ai aj hlen (λO=>?_) hle al;rw[HT] at O ⊢;exact JS.perm (key _ _ Z) O h
theorem bC{r g2:Seg}:(q::(g1++r0++g2)++r).Perm (q::(g1++r++g2)++r0):=by
 simp only[rh,qI];refine List.Perm.cons _ (rp _ ?_);refine(f8 (l₁:=r0) (l₂:=g2++r)).trans ?_;rw[← qI];exact(f8 (l₁:=g2) (l₂:=r)).append_right r0
theorem UB{p:Nat×Obj}{g2:Seg}:(q::(g1++ [p]++g2)).Perm (p::q::(g1++g2)):=by
 refine List.Perm.trans ?_ (List.Perm.swap p q _);rw[qI];exact List.Perm.cons _ sK
theorem dG{O g' r:Seg}{S:List Seg}(hj:j<S.length)(U:j≠c2)(ac:S[c2]?=some r)(ag:(O++r).Perm (g'++r0)):(S.set j O).flatten.Perm (((S.set j g').set c2 [])++ [r0]).flatten:=by
 have ai:(S.set j O)[c2]?=some r:=by rw[qU U];exact ac
 have aj:=(Cl (seg':=([]:Seg)) ai).1;have Y:((S.set j O).set c2 [])[j]?=some O:=by rw[qU (q2 U),rc hj]
 have al:=(Cl (seg':=g') Y).1;have Z:=(Cl (seg':=g') Y).2;have e:((S.set j O).set c2 []).set j g'=(S.set j g').set c2 []:=by rw[sW _ _ (q2 U),sw]
 rw[e] at Z;rw[F2];refine aj.trans ((al.append_right r).trans ?_);refine List.Perm.trans ?_ (Z.symm.append_right r0);rw[qI,qI];exact ag.append_left _
structure Nw {α:Type}(e e2:TypeId) (pp:Rp α) (E:LH) (a:Ap) (c bk:Nat) (f:Av_) (O:Ap) (ci:Nat) (g1 r g2:Seg) (U:List (List α)) (m:Int) (xs:List α):Prop where
 ad:a=some ⟨bk,0,none⟩
 hd:f[m.toNat*1]?=some (.slice O xs.length ci)
 sz:m.toNat*1+1<=f.size
 ol:OL e2 pp E O ci r xs
 set:∀E' r' K,Le E E'->K.length=xs.length->OL e2 pp E' O ci r' K->Cd e e2 pp E' a c ((bk,.cells f e (0,0))::(g1++r'++g2)) (U.set m.toNat K)
 put:∀E' Y Z r' K,Le E E'->OL e2 pp E' Y Z r' K->Cd e e2 pp E' a c ((bk,.cells (Bf f (m.toNat*1) [.slice Y K.length Z]) e (0,0))::(g1++r'++g2)) (U.set m.toNat K)
theorem Cd.rowOf{α:Type}{pp:Rp α}{a:Ap}{c:Nat}{K:List (List α)}{m:Int}{xs:List α}(h:Cd e e2 pp E a c seg K)(hm:ix K m=some xs):
  ∃(bk:Nat) (f:Av_) (O:Ap) (ci:Nat) (g1 r g2:Seg),seg=(bk,.cells f e (0,0))::(g1++r++g2)/\Nw e e2 pp E a c bk f O ci g1 r g2 K m xs:=by
 let⟨bk,f,O,ci,g1,r,g2,Y,Z,ac,ag,ai,U⟩:=h.row hm;exact⟨bk,f,O,ci,g1,r,g2,Z,Y,ac,ag,ai,U.1,U.2⟩
theorem UN{α:Type}{pp:Rp α}{c bk:Nat}{a a9 ai:Ap}{f:Av_}{g2 r:Seg}{Y:List (List α)}{m:Int}{xs ys:List α}(j U:Nat)(Z:Nw e e2 pp E a c bk f ai ci g1 r0 g2 Y m xs)(aj:OL e2 pp E a9 c2 r ys)(al:Au E H S)(ac:S[j]?=some ((bk,.cells f e (0,0))::(g1++r0++g2)))(am:j≠U)(ap:S[U]?=some r)
  (aq:Bz P t=some 1) (aw:FF b n L ops i=some ⟨d,.store t x y,ty,p,af,g⟩) (a0:ev L x=some (.pointer (some ⟨bk,m.toNat*1,none⟩))) (a1:ev L y=some (.slice a9 ys.length c2))
  (h:∀g',Cd e e2 pp E a c g' (Y.set m.toNat ys)->Au E H ((S.set j g').set U [])->JL J Q b n (AE L d undef) ds (.inRegion ops rest::k) cs (Ak E H ((S.set j g').set U []))):
  JL J Q b n L ds (.inRegion ops (i::rest)::k) cs (Ak E H S):=by
 have a2:=(dY.1 ac).1;refine WB (v:=.slice a9 ys.length c2) (c:=f) (e:=e) (off:=m.toNat*1) (A:=g1++r0++g2) (seg':=(bk,.cells (Bf f (m.toNat*1) [.slice a9 ys.length c2]) e (0,0))::(g1++r0++g2)) j al ac (s6 _) (s6 _) aq aw a0 a1 Z.sz (by simp[Value.cells,CL]) λa3=>?_;refine JS.perm (dG (g':=(bk,.cells (Bf f (m.toNat*1) [.slice a9 ys.length c2]) e (0,0))::(g1++r++g2)) (r:=r) (r0:=r0) a2 am ap bC) a3 λa4=>?_;refine JS.drop _ a4 (t9) λag=>?_;rw[show ∀(T:List Seg),(T++ [r0]).set T.length []=T++ [[]] from λT=>HT _ _ _ _] at ag ⊢;refine Il (S':=(S.set j ((bk,.cells (Bf f (m.toNat*1) [.slice a9 ys.length c2]) e (0,0))::(g1++r++g2))).set U []) (by simp) ag λa5=>?_;exact h _ (Z.put _ _ _ _ _ (Le.refl _) aj) a5
theorem Nw.elem{α:Type}{pp:Rp α}{a a1:Ap}{c bk:Nat}{f:Av_}{r g2:Seg}{U:List (List α)}{m q:Int}{xs:List α}{x0:α}(h:Nw e e2 pp E a c bk f a1 ci g1 r g2 U m xs)(ac:ix xs q=some x0):
  ∃(bk2:Nat) (f2:Av_) (ws:Lv_),a1=some ⟨bk2,0,none⟩/\r=[(bk2,.cells f2 e2 (0,0))]/\pp.r E ws x0/\(∀(j:Nat) w,ws[j]?=some w->f2[q.toNat*pp.n+j]?=some w)/\(q.toNat+1)*pp.n<=f2.size/\
   ∀E' x' ws',Le E E'->pp.r E' ws' x'->Cd e e2 pp E' a c ((bk,.cells f e (0,0))::(g1++ [(bk2,.cells (Bf f2 (q.toNat*pp.n) ws') e2 (0,0))]++g2)) (U.set m.toNat (xs.set q.toNat x')):=by
 obtain⟨aq,rfl,Y⟩:=FP ac;let⟨bk2,f2,ws,ag,Z,ai,aj,al,_⟩:=OL.get h.ol Y;refine⟨bk2,f2,ws,ag,Z,ai,aj,al,λE' x' ws' hle am=>?_⟩;let⟨aw,f3,_,_,K,_,_,_,ap⟩:=OL.get (h.ol.Ag hle) Y;rw[Z] at K;simp only[tu,d9,Obj.cells.injEq,uk] at K;obtain⟨rfl,rfl⟩:=K;exact h.set E' _ _ hle (by simp) (ap x' ws' am)
theorem Jp{α:Type}{s:St}{ρ:Operand->Value}{x y:Operand}{d:Option Tmp}{t ty e:TypeId}{p:String}{af:Ae_}{g:On_}{kd:IntKind}{xs:List α}{xv:α}{m:Int}{a:Ap}{bk c:Nat}(K:a=some ⟨bk,0,none⟩)(hm:ix xs m=some xv)(O:P.underlying t=some (.slice e))(U:Bz P e=some sz)(Y:ρ x=.slice a xs.length c)(Z:ρ y=.int kd m):
  Yl P ⟨d,.indexAddr t x y,ty,p,af,g⟩ ρ s (.pointer (some ⟨bk,m.toNat*sz,none⟩)):=by
 subst K;exact UG hm O U Y Z
def KQ(E:LH):Nat->Bool:=λx=>(E x).isNone
theorem eW(x:Nat):(BE (KQ E) (Ak E H S)).E x=(Ak E H S).get x:=by
 show(if KQ E x then(Ak E H S).get x else E x)=_
 unfold KQ;cases h:E x with
 | none=>simp
 | some o=>
  rw[d7 (by simp)];unfold St.get;rw[show(Ak E H S).E x=some o from h]
theorem SB(K:∀x o,(BE (KQ E) (Ak E H S)).E x=some o->s'.E x=some o){x:Nat}{o:Obj}(h:(Ak E H S).get x=some o):s'.get x=some o:=by
 have:=K x o (by rw[eW];exact h);unfold St.get;rw[this]
theorem Kf(K:∀x o,(BE (KQ E) (Ak E H S)).E x=some o->s'.E x=some o){a:Addr}{v:Value}(h:(Ak E H S).cell? a=some v):s'.cell? a=some v:=by
 let⟨o,O,U⟩:=sG.1 h;unfold St.cell?;rw[SB K O];exact U
theorem Wk(K:∀x o,(BE (KQ E) (Ak E H S)).E x=some o->s'.E x=some o){a:Addr}(h:∀(i:Nat) v,vs[i]?=some v->(Ak E H S).cell? (Addr.add a i)=some v):∀(i:Nat) v,vs[i]?=some v->s'.cell? (Addr.add a i)=some v:=λi v O=>Kf K (h i v O)
theorem P6(m:Nat){id:Nat}(h:ER ops m=true->AQ J Q b n ds ops k cs m (KQ E) ops.size (Array.replicate ops.size false) L (Ak E H S))(hm:P.follows .mixedOrders=true:=by exact rfl)(K:(b.kind != .early)=true:=by exact rfl)(O:ER ops m=true:=by decide+kernel):
  JL J Q b n L ds (.code (.region id ops true)::k) cs (Ak E H S):=Rf m (KQ E) V hm K (h O)
abbrev rs(q:Nat×Obj)(g1:Seg)(p:Nat×Obj)(g2:Seg):Seg:=q::(g1++ [p]++g2)
theorem cg{p:Nat×Obj}{g2:Seg}:p∈q::(g1++ [p]++g2):=by simp
theorem bT{bk bk2:Nat}{f f2:Av_}{g2:Seg}(j:Nat)(K:Au E H S)(O:S[j]?=some ((bk,.cells f e (0,0))::(g1++ [(bk2,.cells f2 e2 (0,0))]++g2)))
  (U:Bz P t=some v.cells.size) (Y:FF b n L ops i=some ⟨d,.store t x y,ty,p,af,g⟩) (Z:ev L x=some (.pointer (some ⟨bk2,off,none⟩))) (ac:ev L y=some v)
  (hle:off+v.cells.size<=f2.size) (ag:∀u∈v.cells.toList,CL u=true)
  (h:Au E H (S.set j ((bk,.cells f e (0,0))::(g1++ [(bk2,.cells (Bf f2 off v.cells.toList) e2 (0,0))]++g2)))->JL J Q b n (AE L d undef) ds (.inRegion ops rest::k) cs (Ak E H (S.set j ((bk,.cells f e (0,0))::(g1++ [(bk2,.cells (Bf f2 off v.cells.toList) e2 (0,0))]++g2))))):
  JL J Q b n L ds (.inRegion ops (i::rest)::k) cs (Ak E H S):=
 WB j K O UB UB U Y Z ac hle ag h
end
variable {o:Obj}{xs:List (κ×ν)}{v0:ν}
variable {kk:Li_}
variable {z:Operand}{x0:κ}
variable{todo:Li_}{es:Array MapEntry}{seen:Array Nat}
section
variable [DecidableEq κ]
def KN(xs:List (κ×ν)):Prop:=(xs.map (·.1)).Nodup
theorem KN.perm{xs ys:List (κ×ν)}(h:KN xs)(p:ys.Perm xs):KN ys:=((p.map (λq:κ×ν=>q.1)).nodup_iff).2 h
theorem T7{xs:List (κ×ν)}(h:KN xs){x:κ}{v:ν}:Bn xs x=some v↔(x,v)∈xs:=by
 induction xs with
 | nil=>simp[Bn]
 | cons y ys U=>
  have O:y.1 ∉ ys.map (·.1)/\KN ys:=by simpa [KN] using h
  by_cases e:x=y.1
  .subst e;have K:Bn (y::ys) y.1=some y.2:=by simp[Bn]
   rw[K];constructor;intro q;cases q;simp;intro q;rcases fP.1 q with q | q;rw[← q];exact absurd (q9.2 ⟨_,q,V⟩) O.1
  .have K:Bn (y::ys) x=Bn ys x:=by simp[Bn,e]
   rw[K,U O.2];constructor;intro q;exact f9 _ q;intro q;rcases fP.1 q with q | q;exact absurd (by rw[← q]) e;exact q
theorem TI{xs ys:List (κ×ν)}(h:KN xs)(p:ys.Perm xs)(x:κ):Bn ys x=Bn xs x:=by
 apply Option.ext;intro v;rw[T7 h,T7 (h.perm p),p.mem_iff]
def Eu(xs:List (κ×ν))(x:κ):List (κ×ν):=xs.filter λy=>decide (x≠y.1)
theorem T0{xs:List (κ×ν)}{x:κ}(h:∀y∈xs,x≠y.1):Eu xs x=xs:=List.filter_eq_self.2 λy K=>by simpa using h y K
theorem On{x:κ}{v:ν}:∀{xs:List (κ×ν)},KN xs->(Cq xs x v).Perm ((x,v)::Eu xs x)
 | [],_=>.refl _
 | y::ys,h=>by
  have K:y.1 ∉ ys.map (·.1)/\KN ys:=by simpa [KN] using h
  unfold Cq;by_cases e:x=y.1
  .rw [d0 e];have e2:Eu (y::ys) x=ys:=by
    have:Eu (y::ys) x=Eu ys x:=by simp[Eu,e]
    rw[this];exact T0 λz O q=>K.1 (q9.2 ⟨z,O,by rw[← q,e]⟩)
   rw[e2]
  .rw [d7 e];have e2:Eu (y::ys) x=y::Eu ys x:=by simp[Eu,e]
   rw[e2];exact((On K.2).cons y).trans (List.Perm.swap _ _ _)
theorem Q5{xs ys:List (κ×ν)}(p:ys.Perm xs)(x:κ):(Eu ys x).Perm (Eu xs x):=p.filter _
theorem Yr{xs ys:List (κ×ν)}(h:KN xs)(p:ys.Perm xs)(x:κ)(v:ν):(Cq ys x v).Perm (Cq xs x v):=
 (On (h.perm p)).trans (((Q5 p x).cons _).trans (On h).symm)
theorem KN.del{xs:List (κ×ν)}(h:KN xs)(x:κ):KN (Eu xs x):=by
 unfold KN Eu;exact List.Nodup.sublist (List.Sublist.map _ List.filter_sublist) h
theorem KN.put{xs:List (κ×ν)}(h:KN xs)(x:κ)(v:ν):KN (Cq xs x v):=by
 refine KN.perm ?_ (On h);unfold KN;simp only[r8,tc];refine⟨λq=>?_,h.del x⟩;let⟨z,K,e⟩:=q9.1 q;have:=(tv.1 K).2;simp at this;exact this e.symm
def B5(pk:Rp κ)(ka:Bool)(pv:Rp ν)(va:Bool)(E:LH)(o:Obj)(xs:List (κ×ν)):Prop:=KN xs/\∃ys,ys.Perm xs/\LF pk ka pv va E o ys
theorem B5.Ag{o:Obj}{xs:List (κ×ν)}(h:B5 pk ka pv va E o xs)(hle:Le E E'):B5 pk ka pv va E' o xs:=
 let ⟨K,ys,O,U⟩:=h;⟨K,ys,O,U.Ag hle⟩
theorem B5.perm{o:Obj}{xs ys:List (κ×ν)}(h:B5 pk ka pv va E o xs)(p:ys.Perm xs):B5 pk ka pv va E o ys:=
 let ⟨K,O,U,Y⟩:=h;⟨K.perm p,O,U.trans p.symm,Y⟩
theorem B5.nil:B5 pk ka pv va E (.map #[] 0) []:=⟨t6,[],.refl _,⟨#[],0,V,trivial,.nil,by simp⟩⟩
def rM(pk:Rp κ)(ka:Bool)(pv:Rp ν)(va:Bool):Rp (List (κ×ν)):=⟨1,λE ws xs=>∃bk o,ws=[.map (some bk)]/\E bk=some o/\B5 pk ka pv va E o xs,
 λhle ⟨bk,o,h,K,O⟩=>⟨bk,o,h,hle _ _ K,O.Ag hle⟩,λ⟨bk,o,h,_,_⟩=>by subst h;rfl,λ⟨bk,o,h,_,_⟩ w hw=>by subst h;simp at hw;subst hw;rfl⟩
section
variable {bk:Nat}{k:Value}{x:κ}
theorem Ye(K:Hm P t pk ka)(hm:P.underlying tm=some (.map t te)){z:Value}{z0:ν}(O:zeroOf P te=some z)(U:Vr pv va E z z0)(Y:s.get bk=some o)(Z:B5 pk ka pv va E o xs)(ac:Vr pk ka E k x)(ok:Bool){Q:Value->St->Prop}
  (h:∀w,Vr pv va E w ((Bn xs x).getD z0)->Q (if ok then .tuple #[w,.bool (Bn xs x).isSome] else w) s):lp P (Instr.lookup tm (.map (some bk)) k ok) s Q X:=by
 obtain⟨ag,ys,ai,aj⟩:=Z;refine ZB K hm O U Y aj ac ok ?_;rw[TI ag ai];exact h
theorem XN(O:Hm P t pk ka)(hm:P.underlying tm=some (.map t te))(U:s.get bk=some o)(Y:s.H bk=some o)(Z:B5 pk ka pv va E o xs)(ac:Vr pk ka E k x)(hw:Vr pv va E w v0){Q:Unit->St->Prop}
  (h:∀o',B5 pk ka pv va E o' (Cq xs x v0)->Q () (s.upd bk o')):lp P (Instr.mapUpdate tm (.map (some bk)) k w) s Q X:=by
 obtain⟨K,ys,ag,ai⟩:=Z;exact XS O hm U Y ai ac hw λo' aj=>h o' ⟨K.put _ _,_,Yr K ag _ _,aj⟩
theorem EL.erase(Y:Vr pk ka E k x):∀{es:List MapEntry}{ys:List (κ×ν)}{i:Nat},EL pk ka pv va E es ys->KN ys->
  (G7 x es ys i=none/\Eu ys x=ys)∨∃j u,G7 x es ys i=some (i+j,u)/\EL pk ka pv va E (es.eraseIdx j) (Eu ys x)
 | [],[],i,_,_=>.inl ⟨rfl,rfl⟩
 | e::es,y::ys,i,h,Z=>by
  have U:y.1 ∉ ys.map (·.1)/\KN ys:=by simpa [KN] using Z
  unfold G7;by_cases K:x=y.1
  .refine .inr ⟨0,e.val,by rw[d0 K];rfl,?_⟩;have e2:Eu (y::ys) x=ys:=by
    have:Eu (y::ys) x=Eu ys x:=by simp[Eu,K]
    rw[this];exact T0 λz ac q=>U.1 (q9.2 ⟨z,ac,by rw[← q,K]⟩)
   rw[e2];exact h.2.2
  .have e2:Eu (y::ys) x=y::Eu ys x:=by simp[Eu,K]
   rcases EL.erase Y (i:=i+1) h.2.2 U.2 with⟨a1,O⟩ | ⟨j,u,a1,O⟩;exact .inl ⟨by rw[d7 K];exact a1,by rw[e2,O]⟩;refine .inr ⟨j+1,u,by rw[d7 K,a1];congr 2;omega,?_⟩;rw[e2];exact⟨h.1,h.2.1,O⟩
 | [],_::_,_,h,_=>h.elim
 | _::_,[],_,h,_=>h.elim
theorem YD(ag:Hm P t pk ka)(hm:P.underlying tm=some (.map t te))(ap:s.get bk=some o)(ai:s.H bk=some o)(aq:B5 pk ka pv va E o xs)(K:Vr pk ka E k x){u:TypeId}{Q:Value->St->Prop}
  (h:∀o',B5 pk ka pv va E o' (Eu xs x)->Q (.tuple #[]) (s.upd bk o')):lp P (Builtin.delete_ #[tm,t] u #[.map (some bk),k]) s Q X:=by
 obtain⟨O,ys,U,es,c,rfl,Y,aj,al⟩:=aq;unfold Builtin.delete_;simp only[q6,rR,si];refine AA _ _ (CM hm ?_)
 dsimp only;refine AA _ _ ?_;unfold getObj;simp only[bind,Sem.bind,lp];refine⟨_,ap,V,?_⟩;refine AA (x:=Instr.checkKey _ 10000 t k) _ (ag.BV K ?_);refine AA (x:=Instr.findKey t k es.toList) _ (QS ag K Y ?_);rcases EL.erase K (i:=0) Y (O.perm U) with⟨Z,e2⟩ | ⟨j,u,Z,e2⟩;rw[Z];simp only[setObj,lp,pure];refine⟨⟨_,ai,V⟩,V,h _ ⟨O.del _,_,Q5 U x,es,c,V,by rw[e2];exact Y,aj,al⟩⟩
 .rw [Z];simp only[setObj,lp,pure];have am:(es.toList.eraseIdx j).Sublist es.toList:=List.eraseIdx_sublist _ _;have ac:(es.eraseIdxIfInBounds (0+j)).toList=es.toList.eraseIdx j:=by rw[sj];simp
  refine⟨⟨_,ai,V⟩,V,h _ ⟨O.del _,_,Q5 U x,_,c,V,by rw[ac];exact e2,?_,?_⟩⟩;rw[ac];exact aj.sublist (am.map _);rw[ac];exact λe he=>al e (am.subset he)
end
section
variable {b:Frame}
variable {x y:Operand}{e:TypeId}{i bk:Nat}{k:Value}
theorem Yl.lookup{zv v:Value}{z0:ν}{ok:Bool}(K:Hm P t pk ka)(hm:P.underlying tm=some (.map t te))(O:zeroOf P te=some zv)(U:Vr pv va E zv z0)(Y:B5 pk ka pv va E o xs)(Z:Vr pk ka E k x0)
  (ac:∀w,Vr pv va E w ((Bn xs x0).getD z0)->(if ok then .tuple #[w,.bool (Bn xs x0).isSome] else w)=v) (ag:ρ x=.map (some bk)) (ai:ρ y=k) (aj:s.get bk=some o):Yl P ⟨d,.lookup tm x y ok,ty,p,af,g⟩ ρ s v:=by
 refine Gi (sm:=Instr.lookup tm (ρ x) (ρ y) ok) V ?_;rw[ag,ai];exact Ye K hm O U aj Y Z ok λw hw=>⟨ac w hw,V⟩
theorem JS.makeMap(K:ops[i]?=some ⟨d,.makeMap t none,ty,p,af,g⟩)(hw:A3 L ops ⟨d,.makeMap t none,ty,p,af,g⟩=some true)(O:BV b n ⟨d,.makeMap t none,ty,p,af,g⟩=true)(U:Au E H S)
  (h:∀r,Au E H (S++ [[(r,.map #[] 0)]])->JL J Q b n (AE L d (.map (some r))) ds (.inRegion ops rest::kk) cs (Ak E H (S++ [[(r,.map #[] 0)]]))):
  JL J Q b n L ds (.inRegion ops (i::rest)::kk) cs (Ak E H S):=
 JL.op K hw O λρ aj=>by
  show lp P (do pure (Next.value (← Instr.makeMap t none))) _ _ _
  refine AA _ _ ?_
  unfold Instr.makeMap
  simp only[newObj,bind,Sem.bind,pure,lp]
  refine⟨rfl,λr Y Z=>?_⟩
  let⟨ac,ag⟩:=KD Y Z (.map #[] 0) U
  let⟨p1,p2⟩:=FL ac
  have ai:(Ak E H S).upd r (.map #[] 0)=Ak E H (S++ [[(r,.map #[] 0)]]):=by rw[← p1,← ag];rfl
  show JL J Q b n (AE L d (.map (some r))) ds (.inRegion ops rest::kk) cs ((Ak E H S).upd r (.map #[] 0));rw[ai];exact h r p2
theorem JS.mapUpdate(j:Nat)(Y:Hm P t pk ka)(hm:P.underlying tm=some (.map t te))(Z:B5 pk ka pv va E o xs)(ac:Vr pk ka E k x0)(ag:Vr pv va E w v0)(K:Au E H S)(O:S[j]?=some [(bk,o)])
  (ai:ops[i]?=some ⟨d,.mapUpdate tm x y z,ty,p,af,g⟩) (hw:A3 L ops ⟨d,.mapUpdate tm x y z,ty,p,af,g⟩=some true) (aj:BV b n ⟨d,.mapUpdate tm x y z,ty,p,af,g⟩=true) (al:ev L x=some (.map (some bk))) (am:ev L y=some k) (ap:ev L z=some w)
  (h:∀o',B5 pk ka pv va E o' (Cq xs x0 v0)->Au E H (S.set j [(bk,o')])->JL J Q b n (AE L d undef) ds (.inRegion ops rest::kk) cs (Ak E H (S.set j [(bk,o')]))):
  JL J Q b n L ds (.inRegion ops (i::rest)::kk) cs (Ak E H S):=
 JL.op ai hw aj λρ U=>by
  show lp P (do Instr.mapUpdate tm (ρ x) (ρ y) (ρ z);pure Next.skip) _ _ _
  rw[U _ _ al,U _ _ am,U _ _ ap]
  refine AA _ _ (XN Y hm (Ej (i:=0) K O rfl) (KS K O) Z ac ag λo' aq=>?_)
  let⟨aw,a0⟩:=Ll K O o'
  rw[aw]
  exact h o' aq a0
theorem XW{at1:TypeId}(j:Nat)(Y:Hm P t pk ka)(hm:P.underlying tm=some (.map t te))(Z:B5 pk ka pv va E o xs)(ac:Vr pk ka E k x0)(K:Au E H S)(O:S[j]?=some [(bk,o)])
  (ag:ops[i]?=some ⟨d,.call ⟨.builtin .delete,#[x,y],#[tm,t]⟩,ty,p,af,g⟩) (hw:A3 L ops ⟨d,.call ⟨.builtin .delete,#[x,y],#[tm,t]⟩,ty,p,af,g⟩=some true) (ai:BV b n ⟨d,.call ⟨.builtin .delete,#[x,y],#[tm,t]⟩,ty,p,af,g⟩=true) (aj:ev L x=some (.map (some bk))) (al:ev L y=some k)
  (h:∀o',B5 pk ka pv va E o' (Eu xs x0)->Au E H (S.set j [(bk,o')])->JL J Q b n (AE L d (.tuple #[])) ds (.inRegion ops rest::kk) cs (Ak E H (S.set j [(bk,o')]))):
  JL J Q b n L ds (.inRegion ops (i::rest)::kk) cs (Ak E H S):=
 JL.op ag hw ai λρ U=>by
  have am:execOp ρ ⟨d,.call ⟨.builtin .delete,#[x,y],#[tm,t]⟩,ty,p,af,g⟩=(do pure (Next.value (← Builtin.delete_ #[tm,t] ty #[ρ x,ρ y]))):=by
   simp[execOp,resolve,Deferred.ofValue,invoke,bind,Sem.bind,pure,Go.builtin]
  rw[am,U _ _ aj,U _ _ al];refine AA _ _ (YD Y hm (Ej (i:=0) K O rfl) (KS K O) Z ac λo' ap=>?_);let⟨aq,aw⟩:=Ll K O o';rw[aq];exact h o' ap aw
theorem QU(j:Nat)(O:Au E H S)(U:S[j]?=some [(bk,o)])
  (h:∀E',Le E E'->E' bk=some o->Au E' H (S.set j [])->JL J Q b n L ds todo cs (Ak E' H (S.set j []))):JL J Q b n L ds todo cs (Ak E H S):=by
 let⟨Y,Z⟩:=Hu O U;rw[Y];have ac:((S.set j []).flatten++ [(bk,o)])[(S.set j []).flatten.length]?=some (bk,o):=by simp
 refine JL.freeze (S.set j []).flatten.length Z ac λE' hle ag K=>?_;have ai:((S.set j []).flatten++ [(bk,o)]).eraseIdx (S.set j []).flatten.length=(S.set j []).flatten:=by rw[sk (qH _)];simp
 rw[ai] at K ⊢;exact h E' hle ag K
theorem Tz{α:Type}{m:Nat}{f:Nat->Sem α}{s:St}{Q:α->St->Prop}{X:Halt->St->Prop}(hm:0<m)(K:s.q=false)(h:∀i,i<m->lp P (f i) s Q X):lp P ((choose (.mapNext m)).bind f) s Q X:=by
 simp only[choose,Sem.bind,lp];split;exact h 0 hm;exact⟨K,λt=>h _ (tJ _ hm)⟩
theorem JS.range{c:Nat}(hm:P.underlying tm=some (.map t te))(K:(Ak E H S).get bk=some (.map es c))(O:ops[i]?=some ⟨d,.range tm x,ty,p,af,g⟩)(hw:A3 L ops ⟨d,.range tm x,ty,p,af,g⟩=some true)(U:BV b n ⟨d,.range tm x,ty,p,af,g⟩=true)(Y:Au E H S)
  (Z:ev L x=some (.map (some bk)))
  (h:∀r,Au E H (S++ [[(r,.mapIter (some bk) c #[] c)]])->JL J Q b n (AE L d (.pointer (some ⟨r,0,none⟩))) ds (.inRegion ops rest::kk) cs (Ak E H (S++ [[(r,.mapIter (some bk) c #[] c)]]))):
  JL J Q b n L ds (.inRegion ops (i::rest)::kk) cs (Ak E H S):=
 JL.op O hw U λρ ac=>by
  show lp P (do pure (Next.value (← Instr.range tm (ρ x)))) _ _ _
  rw[ac _ _ Z]
  refine AA _ _ ?_
  unfold Instr.range
  refine AA _ _ (CM hm ?_)
  simp only[getObj,newObj,bind,Sem.bind,pure,lp]
  refine⟨_,K,rfl,rfl,λr ag ai=>?_⟩
  let⟨aj,al⟩:=KD ag ai (.mapIter (some bk) c #[] c) Y
  let⟨p1,p2⟩:=FL aj
  have am:(Ak E H S).upd r (.mapIter (some bk) c #[] c)=Ak E H (S++ [[(r,.mapIter (some bk) c #[] c)]]):=by rw[← p1,← al];rfl
  show JL J Q b n (AE L d (.pointer (some ⟨r,0,none⟩))) ds (.inRegion ops rest::kk) cs ((Ak E H S).upd r (.mapIter (some bk) c #[] c));rw[am];exact h r p2
theorem JS.next{c r:Nat}(j:Nat)(aj:(Ak E H S).get bk=some (.map es c))(hb:∀e∈es.toList,e.born<c)(K:Au E H S)(O:S[j]?=some [(r,.mapIter (some bk) c seen c)])
  (al:ops[i]?=some ⟨d,.next x false,ty,p,af,g⟩) (hw:A3 L ops ⟨d,.next x false,ty,p,af,g⟩=some true) (am:BV b n ⟨d,.next x false,ty,p,af,g⟩=true) (U:ev L x=some (.pointer (some ⟨r,0,none⟩)))
  (ap:∀e∈es.toList,e.born ∉ seen->Au E H (S.set j [(r,.mapIter (some bk) c (seen.push e.born) c)])->JL J Q b n (AE L d (.tuple #[.bool true,e.key,e.val])) ds (.inRegion ops rest::kk) cs (Ak E H (S.set j [(r,.mapIter (some bk) c (seen.push e.born) c)])))
  (aq:(∀e∈es.toList,e.born∈seen)->JL J Q b n (AE L d (.tuple #[.bool false])) ds (.inRegion ops rest::kk) cs (Ak E H S)):
  JL J Q b n L ds (.inRegion ops (i::rest)::kk) cs (Ak E H S):=
 JL.op al hw am λρ aw=>by
  show lp P (do pure (Next.value (← Instr.next (ρ x) false ty))) _ _ _
  rw[aw _ _ U]
  refine AA _ _ ?_
  unfold Instr.next
  simp only[getObj,setObj,bind,Sem.bind,pure,lp]
  refine⟨_,Ej (i:=0) K O rfl,rfl,?_⟩
  simp only[lp]
  refine⟨_,aj,rfl,?_⟩
  have a0:(!seen.isEmpty&& !es.isEmpty&&es.all (λe=>decide (e.born>=c)))=false:=by
   by_cases he:es.toList=[]
   .have:es.isEmpty=true:=by simpa [Array.isEmpty_iff] using he
    simp[this]
   .let⟨e,ag⟩:=ug _ he;have bi:=hb e ag;have:es.all (λe=>decide (e.born>=c))=false:=by
     cases U:es.all (λe=>decide (e.born>=c)) with
     | false=>rfl
     | true=>
      have:=sQ.1 U e (tl.1 ag);simp at this;omega
    simp[this]
  have a1:Array.filter (λx:MapEntry=>decide (x.born<c)) (Array.filter (λe=> !seen.contains e.born) es)=Array.filter (λe=> !seen.contains e.born) es:=by
   apply ul.1;rw[s9,List.filter_eq_self];intro e he;rw[s9] at he;simpa using hb e (tv.1 he).1
  have e2:Array.filter (λx:MapEntry=>decide (x.born>=c)) (Array.filter (λe=> !seen.contains e.born) es)=#[]:=by
   apply ul.1;rw[s9,List.filter_eq_nil_iff];intro e he;rw[s9] at he;have:=hb e (tv.1 he).1;simp;omega
  dsimp only;rw[d7 (by rw[a0];exact so),a1,e2];have Y:∀e,e∈(Array.filter (λe=> !seen.contains e.born) es).toList↔e∈es.toList/\e.born ∉ seen:=by
   intro e;rw[s9,tv];simp
  generalize Array.filter (λe:MapEntry=> !seen.contains e.born) es=left at Y ⊢;by_cases Z:left.toList=[]
  .have a2:left=#[]:=ul.1 Z;subst a2;refine Tz (by simp) rfl λi hi=>?_;obtain rfl:i=0:=by simp at hi;exact hi
   have a3:((if(#[]:Array MapEntry).isEmpty=true then #[none] else #[])++Array.map some ((#[]:Array MapEntry)++ #[]))[0]?=some none:=by simp
   rw[a3];refine aq λe he=>?_;by_cases ai:e.born∈seen;exact ai;have:=(Y e).2 ⟨he,ai⟩;simp at this
  .have a4:left.isEmpty=false:=by
    cases a5:left.isEmpty with
    | false=>rfl
    | true=>exact absurd (by simpa [Array.isEmpty_iff] using a5) Z
   rw[a4];simp only[qP,rr,tC,Array.empty_append];have a6:0<left.size:=by
    rcases rD left.size with ac | ac;exact absurd (by simpa using Array.eq_empty_of_size_eq_zero ac) Z;exact ac
   refine Tz (by simpa using a6) rfl λi hi=>?_;have a7:i<left.size:=by simpa using hi
   have a8:(Array.map some left)[i]?=some (some left[i]):=by simp[a7]
   rw[a8];simp only[lp];let⟨a9,bb⟩:=(Y left[i]).1 (Array.getElem_mem_toList _);refine⟨⟨_,KS K O,rfl⟩,rfl,?_⟩;let⟨be,bg⟩:=Ll K O (.mapIter (some bk) c (seen.push left[i].born) c);rw[be];exact ap _ a9 bb bg
theorem JS.entry{c r:Nat}{e:MapEntry}(j:Nat)(U:(Ak E H S).get bk=some (.map es c))(he:e∈es.toList)(hb:(es.toList.map (·.born)).Pairwise (·<·))(Y:Au E H S)(Z:S[j]?=some [(r,.mapIter (some bk) c (seen.push e.born) c)])
  (ac:ops[i]?=some ⟨d,.entry x,ty,p,af,g⟩) (hw:A3 L ops ⟨d,.entry x,ty,p,af,g⟩=some true) (ag:BV b n ⟨d,.entry x,ty,p,af,g⟩=true) (ai:ev L x=some (.pointer (some ⟨r,0,none⟩)))
  (h:JL J Q b n (AE L d (.tuple #[e.key,e.val])) ds (.inRegion ops rest::kk) cs (Ak E H S)):
  JL J Q b n L ds (.inRegion ops (i::rest)::kk) cs (Ak E H S):=
 JL.op ac hw ag λρ aj=>by
  show lp P (do pure (Next.value (← Instr.entry (ρ x)))) _ _ _
  rw[aj _ _ ai]
  refine AA _ _ ?_
  unfold Instr.entry
  simp only[getObj,bind,Sem.bind,pure,lp]
  refine⟨_,Ej (i:=0) Y Z rfl,rfl,?_⟩
  simp only[Array.back?_push,bne_self_eq_false,lp]
  refine⟨_,U,rfl,?_⟩
  have al:es.find? (λx=>x.born==e.born)=some e:=by
   rw[← Array.find?_toList];have key:∀(l:List MapEntry),e∈l->(l.map (·.born)).Pairwise (·<·)->l.find? (λx=>x.born==e.born)=some e:=by
    intro l
    induction l with
    | nil=>intro h;cases h
    | cons y l am=>
     intro hm K;rw[r8,ua] at K;by_cases O:y.born=e.born;rcases fP.1 hm with rfl | hm;simp;have:=K.1 e.born (q9.2 ⟨e,hm,rfl⟩);omega;rw[sL (by simpa using O)];rcases fP.1 hm with rfl | hm;exact absurd rfl O;exact am hm K.2
   exact key _ he hb
  simp only[bne_self_eq_false,qP,rr,al,lp];exact h
end
end
theorem La{E H:LH}{S:List Seg}{bk:Nat}{o:Obj}(h:E bk=some o):(Ak E H S).get bk=some o:=by
 show(match E bk with | some o=>some o | none=>_)=some o
 rw[h]
theorem SZ{α:Type}(f:α->β){l:List α}(h:(l.map f).Nodup):l.Nodup:=by
 unfold List.Nodup at h ⊢;rw[List.pairwise_map] at h;exact h.imp λh e=>h (by rw[e])
theorem Uf{α:Type}:∀{l l':List α},l.Nodup->(∀x∈l,x∈l')->l.length<=l'.length
 | [],_,_,_=>rl _
 | x::l,l',h,O=>by
  obtain⟨a,b,rfl⟩:=List.append_of_mem (O x (by simp))
  have U:=tc.1 h
  have:=Uf (l:=l) (l':=a++b) U.2 (λy Y=>by
   have K:=O y (f9 _ Y)
   have Z:y≠x:=λe=>U.1 (e▸Y)
   simp at K ⊢
   rcases K with K | K | K;exact .inl K;exact absurd K Z
   .exact .inr K)
  simp at this ⊢;omega
variable {ys:List (κ×ν)}
section
variable [DecidableEq κ]
def Jy(es:Array MapEntry)(ys:List (κ×ν))(seen:Array Nat)(done:List (κ×ν)):Prop:=
 ∃dn:List (MapEntry×(κ×ν)),done=dn.map (·.2)/\seen.toList=dn.map (·.1.born)/\dn.Nodup/\∀q∈dn,q∈es.toList.zip ys
theorem Jy.nil{ys:List (κ×ν)}:Jy es ys #[] []:=⟨[],V,V,.nil,by simp⟩
theorem Uw:∀{es:List MapEntry}{ys:List (κ×ν)},(es.map (·.born)).Pairwise (·<·)->∀{p q:MapEntry×(κ×ν)},p∈es.zip ys->q∈es.zip ys->p.1.born=q.1.born->p=q
 | [],_,_,_,_,h,_,_=>by simp at h
 | _::_,[],_,_,_,h,_,_=>by simp at h
 | e::es,y::ys,U,p,q,K,O,hb=>by
  rw[r8,ua] at U
  rw[tG] at K O
  have Y:∀{z:MapEntry×(κ×ν)},z∈es.zip ys->z.1.born∈es.map (·.born):=λ{z} Z=>by
   have:=(uu Z).1
   exact q9.2 ⟨z.1,this,V⟩
  rcases fP.1 K with rfl | K<;>rcases fP.1 O with rfl | O;rfl;have:=U.1 _ (Y O);simp at hb;omega;have:=U.1 _ (Y K);simp at hb;omega;exact Uw U.2 K O hb
theorem EL.zip:∀{es:List MapEntry}{ys:List (κ×ν)},EL pk ka pv va E es ys->∀{q:MapEntry×(κ×ν)},q∈es.zip ys->Vr pk ka E q.1.key q.2.1/\Vr pv va E q.1.val q.2.2
 | [],[],_,_,h=>by simp at h
 | e::es,y::ys,h,q,K=>by
  rw[tG] at K
  rcases fP.1 K with rfl | K;exact⟨h.1,h.2.1⟩;exact EL.zip h.2.2 K
 | [],_::_,h,_,_=>h.elim
 | _::_,[],h,_,_=>h.elim
theorem Ur:∀{es:List MapEntry}{ys:List (κ×ν)},KN ys->(es.map (·.born)).Pairwise (·<·)->∀{p q:MapEntry×(κ×ν)},p∈es.zip ys->q∈es.zip ys->p.2.1=q.2.1->p=q
 | [],_,_,_,_,_,h,_,_=>by simp at h
 | _::_,[],_,_,_,_,h,_,_=>by simp at h
 | e::es,y::ys,ac,Y,p,q,K,O,hb=>by
  have U:y.1 ∉ ys.map (·.1)/\KN ys:=by simpa [KN] using ac
  rw[r8,ua] at Y;rw[tG] at K O;have Z:∀{z:MapEntry×(κ×ν)},z∈es.zip ys->z.2.1∈ys.map (·.1):=λ{z} ag=>q9.2 ⟨z.2,(uu ag).2,rfl⟩;rcases fP.1 K with rfl | K<;>rcases fP.1 O with rfl | O;rfl;have:=Z O;simp only at hb;rw[← hb] at this;exact absurd this U.1;have:=Z K;simp only at hb;rw[hb] at this;exact absurd this U.1;exact Ur U.2 Y.2 K O hb
theorem Jy.len{ys:List (κ×ν)}{done:List (κ×ν)}(h:Jy es ys seen done):done.length<=ys.length:=by
 obtain⟨dn,rfl,Y,K,O⟩:=h;rw[r5];have U:=Uf K O;exact q8 U (by rw[List.length_zip];exact Nat.min_le_right _ _)
section
variable {b:Frame}
variable {x y:Operand}{e:TypeId}{i bk:Nat}
theorem T9{c r:Nat}{done:List (κ×ν)}(j:Nat)(ac:EL pk ka pv va E es.toList ys)(Z:(es.toList.map (·.born)).Pairwise (·<·))(hb:∀e∈es.toList,e.born<c)(am:KN ys)(ap:Jy es ys seen done)(aq:(Ak E' H S).get bk=some (.map es c))(aw:Au E' H S)(a0:S[j]?=some [(r,.mapIter (some bk) c seen c)])
  (a2:ops[i]?=some ⟨d,.next x false,ty,p,af,g⟩) (hw:A3 L ops ⟨d,.next x false,ty,p,af,g⟩=some true) (a3:BV b n ⟨d,.next x false,ty,p,af,g⟩=true) (a4:ev L x=some (.pointer (some ⟨r,0,none⟩)))
  (a5:∀e O,Vr pk ka E e.key O.1->Vr pv va E e.val O.2->O∈ys->O.1 ∉ done.map (·.1)->e∈es.toList->Jy es ys (seen.push e.born) (done++ [O])->Au E' H (S.set j [(r,.mapIter (some bk) c (seen.push e.born) c)])->
   JL J Q b n (AE L d (.tuple #[.bool true,e.key,e.val])) ds (.inRegion ops rest::kk) cs (Ak E' H (S.set j [(r,.mapIter (some bk) c (seen.push e.born) c)])))
  (a6:done.Perm ys->JL J Q b n (AE L d (.tuple #[.bool false])) ds (.inRegion ops rest::kk) cs (Ak E' H S)):
  JL J Q b n L ds (.inRegion ops (i::rest)::kk) cs (Ak E' H S):=by
 obtain⟨dn,rfl,a1,ag,Y⟩:=ap;have hlen:=ac.len;refine JS.next j aq hb aw a0 a2 hw a3 a4 (λe he a7 a8=>?_) (λa9=>?_)
 .let⟨m,hm,bb⟩:=uD.1 he;have U:(e,ys[m]'(by omega))∈es.toList.zip ys:=by
   rw[← bb];have:(es.toList.zip ys)[m]'(by rw[List.length_zip];omega)=(es.toList[m],ys[m]'(by omega)):=List.getElem_zip;rw[← this];exact no _
  let⟨k1,be⟩:=ac.zip U;have ai:(e,ys[m]'(by omega)) ∉ dn:=λq=>a7 (by
   rw[← tl,a1]
   exact q9.2 ⟨_,q,V⟩)
  refine a5 e _ k1 be (no _) (λq=>?_) he ⟨dn++ [(e,ys[m]'(by omega))],by simp,by simp[a1],?_,λq K=>?_⟩ a8;let⟨O,bg,bi⟩:=q9.1 q;obtain⟨z,aj,rfl⟩:=q9.1 bg;have:=Ur am Z (Y z aj) U bi;exact ai (this▸aj);rw[rS];exact⟨ag,by simp,by intro q K z al bo;simp at al;subst al bo;exact ai K⟩;rcases ik.1 K with K | K;exact Y q K;simp at K;subst K;exact U
 .refine a6 ?_;have bv:dn.Perm (es.toList.zip ys):=by
   have bw:(es.toList.zip ys).Nodup:=by
    have:((es.toList.zip ys).map (·.1)).Nodup:=by
     rw[List.map_fst_zip (by omega)];exact SZ (λe:MapEntry=>e.born) (Z.imp (λh=>uI h))
    exact SZ _ this
   refine(List.perm_ext_iff_of_nodup ag bw).2 λq=>⟨λK=>Y q K,λK=>?_⟩;have:=a9 q.1 (uu K).1;rw[← tl,a1] at this;let⟨z,U,bx⟩:=q9.1 this;have:=Uw Z (Y z U) K bx;exact this▸U
  have:=bv.map (·.2)
  rwa[List.map_snd_zip (by omega)] at this
end
end
variable {l0 bks xl:List Nat}
section
variable {b:Frame}{fuel:Nat}{listed:Array Bool}
theorem Cy(i:Nat)(pure:Bool)(K:s.q=false)(O:HC n L ops i=some ⟨d,op,ty,p,af,g⟩)
  (U:∀ρ,Fz L ρ->∀s':St,(pure=false->∀x o,(BE (AH (l0++bks)) s).E x=some o->s'.E x=some o)->Yl P ⟨d,op,ty,p,af,g⟩ ρ s' v)
  (Y:Gd J Q b n ds ops k cs (AH xl) (AH (l0++bks)) (AH l0) fuel (Bs listed i) (AE L d v) s) (Z:Kj ops listed xl pure i=true:=by decide+kernel):Gd J Q b n ds ops k cs (AH xl) (AH (l0++bks)) (AH l0) (fuel+1) listed L s:=by
 let⟨ac,ag,ai⟩:=QX O;exact JB.val i pure ac Z K ag ai U Y
def SI(n:Nat)(L:Env)(ops:Ao_)(i:Nat):Option Env:=
 match Kh ops.toList i with
 | some ⟨d,op,ty,p,af,g⟩=>match A3 L ops ⟨d,op,ty,p,af,g⟩ with
  | some true=>match BA n d with
   | true=>match LG L op with
    | some v=>match d with
     | some d=>some ((d,v)::L)
     | none=>some L
    | none=>none
   | false=>none
  | _=>none
 | none=>none
theorem br{i:Nat}(h:SI n L ops i=some L'):∃o v,ops[i]?=some o/\BA n o.dst=true/\A3 L ops o=some true/\LG L o.op=some v/\L'=AE L o.dst v:=by
 unfold SI at h;split at h
 .rename_i d op ty p af g K;rw[Mj,ro] at K;split at h
  .rename_i hw;split at h
   .rename_i O;split at h
    .rename_i v U;refine⟨_,v,K,O,hw,U,?_⟩;cases d with
     | none=>cases h;rfl
     | some d=>cases h;rfl
    .cases h
   .cases h
  .cases h
 .cases h
theorem Bo(i:Nat)(K:s.q=false)(h:SI n L ops i=some L')
  (O:Gd J Q b n ds ops k cs (AH xl) (AH (l0++bks)) (AH l0) fuel (Bs listed i) L' s) (U:Kj ops listed xl true i=true:=by decide+kernel):Gd J Q b n ds ops k cs (AH xl) (AH (l0++bks)) (AH l0) (fuel+1) listed L s:=by
 obtain⟨o,v,Y,Z,hw,ac,rfl⟩:=br h;exact JB.val i true Y U K hw Z (λρ ag s' _=>OV ag ac) O
end
variable {i2:Nat}
variable {d2:Option Tmp}{x2:Operand}{t2 ty2:TypeId}{p2:String}{af2:Ae_}{g2:On_}
section
variable {b:Frame}{i:Nat}
variable {x y:Operand}{e:TypeId}
theorem Cs(O:Au E H S)(h:∀r E',Le E E'->At E' r 0 v.cells.toList->Au E' H (S++ [[]])->JL J Q b n (AE L d (.pointer (some ⟨r,0,none⟩))) ds (.inRegion ops rest::k) cs (Ak E' H (S++ [[]])))
  (U:FF b n L ops i=some ⟨d,.box e x,ty,p,af,g⟩:=by exact rfl) (Y:ev L x=some v:=by exact rfl):JL J Q b n L ds (.inRegion ops (i::rest)::k) cs (Ak E H S):=by
 let⟨Z,ac,ag⟩:=Lj U;refine JS.box Z ac ag O Y λr ai=>C8 (bk:=r) (c:=v.cells) (e:=e) (f:=(0,0)) S.length ai (by simp) λE' hle aj K=>?_;have al:(S++ [[(r,Obj.cells v.cells e (0,0))]]).set S.length []=S++ [[]]:=by simp
 rw[al] at K ⊢;exact h r E' hle aj K
theorem BZ{z:Value}(K:Au E H S)(O:zeroOf P e=some z)(h:∀r,Au E H (S++ [[(r,.cells z.cells e (0,0))]])->JL J Q b n (AE L d (.pointer (some ⟨r,0,none⟩))) ds (.inRegion ops rest::k) cs (Ak E H (S++ [[(r,.cells z.cells e (0,0))]])))
  (U:FF b n L ops i=some ⟨d,.alloc e,ty,p,af,g⟩:=by exact rfl):JL J Q b n L ds (.inRegion ops (i::rest)::k) cs (Ak E H S):=by
 let⟨Y,Z,ac⟩:=Lj U;exact JS.alloc Y Z ac K O h
theorem JS.sx{bk:Nat}{c:Av_}(j:Nat)(K:Au E H S)(O:Bz P t=some sz)
  (h:Au E H (S.set j [(bk,.cells (Bf c off v.cells.toList) e (0,0))])->JL J Q b n (AE L d undef) ds (.inRegion ops rest::k) cs (Ak E H (S.set j [(bk,.cells (Bf c off v.cells.toList) e (0,0))])))
  (U:FF b n L ops i=some ⟨d,.store t x y,ty,p,af,g⟩:=by exact rfl) (Y:ev L x=some (.pointer (some ⟨bk,off,none⟩)):=by exact rfl) (Z:ev L y=some v:=by exact rfl) (ac:S[j]?=some [(bk,.cells c e (0,0))]:=by exact rfl)
  (ag:sz=v.cells.size:=by exact rfl) (hle:off+v.cells.size<=c.size:=by exact qN rfl) (ai:v.cells.toList.all CL=true:=by first | exact rfl | simp[Value.cells,CL]):
  JL J Q b n L ds (.inRegion ops (i::rest)::k) cs (Ak E H S):=Sf j K (by rw[← ag];exact O) U Y Z ac h hle (q3.1 ai)
theorem BH{bk o:Nat}{O:Array Field}{ws:Lv_}(j:Nat)(Y:At E bk o ws)(Z:P.underlying t=some (.struct O))(ac:Bz P ft=some (sz+1))(ag:Es P t2=some false)
  (ai:JL J Q b n (AE (AE L d (.pointer (some ⟨bk,c2+off,none⟩))) d2 v) ds (.inRegion ops rest::k) cs (Ak E H S))
  (aj:FF b n L ops i=some ⟨d,.fieldAddr t x U,ty,p,af,g⟩:=by exact rfl) (al:ev L x=some (.pointer (some ⟨bk,c2,none⟩)):=by exact rfl) (am:Np O U=some (off,ft):=by exact rfl)
  (ap:FF b n (AE L d (.pointer (some ⟨bk,c2+off,none⟩))) ops i2=some ⟨d2,.load t2 x2,ty2,p2,af2,g2⟩:=by exact rfl) (aq:ev (AE L d (.pointer (some ⟨bk,c2+off,none⟩))) x2=some (.pointer (some ⟨bk,o+j,none⟩)):=by exact rfl) (aw:ws[j]?=some v:=by exact rfl):
  JL J Q b n L ds (.inRegion ops (i::i2::rest)::k) cs (Ak E H S):=JL.fd Z ac aj al am (CJ j Y ag ap aq aw ai)
theorem JS.ix{α:Type}{pp:Rp α}{a:Option Addr}{c:Nat}{xs:List α}{xv:α}{m:Int}{kd:IntKind}(K:Am pp E a c xs)(hm:ix xs m=some xv)(O:P.underlying t=some (.slice e))(U:Bz P e=some pp.n)
  (h:∀bk o ws,pp.r E ws xv->At E bk o ws->JL J Q b n (AE L d (.pointer (some ⟨bk,o,none⟩))) ds (.inRegion ops rest::k) cs (Ak E H S))
  (Y:FF b n L ops i=some ⟨d,.indexAddr t x y,ty,p,af,g⟩:=by exact rfl) (Z:ev L x=some (.slice a xs.length c):=by exact rfl) (ac:ev L y=some (.int kd m):=by exact rfl):
  JL J Q b n L ds (.inRegion ops (i::rest)::k) cs (Ak E H S):=by
 let⟨ag,ai,aj⟩:=Lj Y;exact UX K hm ag ai aj Z ac O U h
theorem FQ(S0:List Seg)(K:Env){c:Code}(O:∀E',Le E E'->Au E' H S0->JL J Q b n K ds todo cs (Ak E' H S0))
  (h:(∀{E':LH}{L:Env},Le E E'->Au E' H S0->I1 L K=I7 K->JL J Q b n L ds todo cs (Ak E' H S0))->JL J Q b n L ds (.code c::todo) cs (Ak E H S)):JL J Q b n L ds (.code c::todo) cs (Ak E H S):=
 h λU Y Z=>AD (O _ U Y) Z
theorem Gm{O:List Nat}(U Y:Nat)(S0:List Seg)(K:Env)(Z:∀E',Le E E'->Au E' H S0->JL J Q b n K ds (.inRegion ops (List.range' U Y)::todo) cs (Ak E' H S0))
  (h:(∀{E':LH}{L:Env},Le E E'->Au E' H S0->I1 L K=I7 K->JL J Q b n L ds (.inRegion ops (List.range' U Y)::todo) cs (Ak E' H S0))->JL J Q b n L ds (.inRegion ops O::todo) cs (Ak E H S)):JL J Q b n L ds (.inRegion ops O::todo) cs (Ak E H S):=
 h λac ag ai=>AD (Z _ ac ag) ai
theorem Du{ac:Type}{c:Code}{body:β->Option (Bq β ac)}{f:Nat}{U:β}{a:ac}{Y:LH}{k:Li_}(ai:iter body f U=some a)(S0:β->List Seg)(O:β->Env)(hle:Le Y E)(aj:Au E H (S0 U))
  (round:∀x E',Le Y E'->Au E' H (S0 x)->(∀ag,body x=some (.done ag)->ag=a)->(∃st,body x=some st)->(∀{L':Env}{Z:LH}(x':β),Le Y Z->Au Z H (S0 x')->I1 L' (O x')=I7 (O x')->body x=some (.more x')->JL J Q b n L' ds (.inLoop c::k) cs (Ak Z H (S0 x')))->JL J Q b n (O x) ds (.code c:: .inLoop c::k) cs (Ak E' H (S0 x)))
  (al:I1 L (O U)=I7 (O U):=by exact rfl) (am:Ak E H S=Ak E H (S0 U):=by exact rfl):JL J Q b n L ds (.code (.loop c)::k) cs (Ak E H S):=by
 rw[am];refine EW _ al (Ub ai (λL s x=>∃E',Jm Y H E' (S0 x) (O x) L s) ⟨E,V,V,hle,aj⟩ ?_);rintro _ _ x ⟨E',rfl,rfl,ap,aq⟩ hd hb aw;exact round x E' ap aq hd hb λx' g1 g2 a0 a1=>AD (aw _ _ x' ⟨_,V,V,g1,g2⟩ a1) a0
theorem Bm{c:Code}{E:LH}{B:Seg}(O:P.funcs[f]?=some fn)
  (h:∀(Q:Gs_) (K:Frame) (cs:Lf_) (H:LH),Au E H [B]->(∀{v:Value}{E':LH}{S':List Seg}{B':Seg},Le E E'->S'.flatten=B'->R v E' B'->Au E' H S'->J.ok Q (G (K.finish v) cs) (Ak E' H S'))->JL J Q (base f) fn.ntmps (G0 0 vs) [] [.code c] (K::cs) (Ak E H [B]))
  (hb:fn.body=some c:=by exact rfl) (U:Nat.ble vs.length fn.ntmps=true:=by exact rfl):AY J f vs E B R:=
 Mo O hb U λQ K cs H Y Z=>h Q K cs H Y λac ag ai aj=>Z _ _ _ _ ac ag ai aj
variable {fuel:Nat}{listed:Array Bool}
theorem Ls{bk:Nat}{c:Av_}{f:Nat×Nat}(i:Nat)(K:ER ops m=true)(o:Nat)(j:Nat)(O:Au E H S)(U:Es P t=some false)
  (Y:AQ J Q b n ds ops k cs m (AH bks) fuel (Bs listed i) (AE L d w) (Ak E H S)) (Z:HC n L ops i=some ⟨d,.load t x,ty,p,af,g⟩:=by exact rfl) (ac:ev L x=some (.pointer (some ⟨bk,o,none⟩)):=by exact rfl)
  (ag:S[j]?=some [(bk,.cells c e f)]:=by exact rfl) (hw:c[o]?=some w:=by exact rfl) (ai:AH bks bk=true:=by simp[AH]) (aj:G1 ops listed m i=true:=by decide+kernel):AQ J Q b n ds ops k cs m (AH bks) (fuel+1) listed L (Ak E H S):=
 A6 i K V Z (λρ h s' al=>Yl.load U (h _ _ ac) (B8 (o:=o) j O ag ai al hw)) Y aj
theorem JG.lp{bk o:Nat}{ws:Lv_}(i:Nat)(K:ER ops m=true)(j:Nat)(O:At E bk o ws)(U:Au E H S)(Y:HW S bks)(Z:Es P t=some false)
  (ac:AQ J Q b n ds ops k cs m (AH bks) fuel (Bs listed i) (AE L d w) (Ak E H S)) (ag:HC n L ops i=some ⟨d,.load t x,ty,p,af,g⟩:=by exact rfl) (ai:ev L x=some (.pointer (some ⟨bk,o+j,none⟩)):=by exact rfl)
  (hw:ws[j]?=some w:=by exact rfl) (aj:G1 ops listed m i=true:=by decide+kernel):AQ J Q b n ds ops k cs m (AH bks) (fuel+1) listed L (Ak E H S):=
 A6 i K V ag (λρ h s' al=>Yl.load Z (h _ _ ai) (At.EI (j:=j) O (Xl U al Y) hw)) ac aj
theorem W7{bk o:Nat}{c:Av_}{f:Nat×Nat}(i:Nat)(K:ER ops m=true)(vs:Lv_)(j:Nat)(O:Au E H S)(hw:∀(q:Nat) w,vs[q]?=some w->c[o+q]?=some w)(U:Es P t=some true)(Y:Bz P t=some sz)
  (Z:AQ J Q b n ds ops k cs m (AH bks) fuel (Bs listed i) (AE L d (.agg vs.toArray)) (Ak E H S)) (ac:HC n L ops i=some ⟨d,.load t x,ty,p,af,g⟩:=by exact rfl) (ag:ev L x=some (.pointer (some ⟨bk,o,none⟩)):=by exact rfl)
  (ai:S[j]?=some [(bk,.cells c e f)]:=by exact rfl) (aj:sz=vs.length:=by exact rfl) (al:AH bks bk=true:=by simp[AH]) (am:G1 ops listed m i=true:=by decide+kernel):AQ J Q b n ds ops k cs m (AH bks) (fuel+1) listed L (Ak E H S):=
 A6 i K V ac (λρ h s' ap=>F4 (vs:=vs) U (by rw[← aj];exact Y) (h _ _ ag) (λq w aq=>by rw[EG rfl];exact B8 j O ai al ap (hw q w aq))) Z am
theorem JG.ix{D:Nat->Bool}{α:Type}{xs:List α}{xv:α}{bk c:Nat}{kd:IntKind}(i:Nat)(U:ER ops m=true)(Y:xs.length=c2)(hm:ix xs p1=some xv)(Z:P.underlying t=some (.slice e))(ac:Bz P e=some sz)
  (ag:AQ J Q b n ds ops k cs m D fuel (Bs listed i) (AE L d (.pointer (some ⟨bk,p1.toNat*sz,none⟩))) s) (ai:s.q=false:=by exact rfl) (aj:HC n L ops i=some ⟨d,.indexAddr t x y,ty,p,af,g⟩:=by exact rfl)
  (al:ev L x=some (.slice (some ⟨bk,0,none⟩) c2 c):=by exact rfl) (am:ev L y=some (.int kd p1):=by exact rfl) (ap:G1 ops listed m i=true:=by decide+kernel):AQ J Q b n ds ops k cs m D (fuel+1) listed L s:=
 A6 i U ai aj (λρ h s' aq=>Gj Y hm Z ac (h _ _ al) (h _ _ am)) ag ap
theorem JB.ix{l0 bks:List Nat}{α:Type}{xs:List α}{xv:α}{bk c:Nat}{kd:IntKind}(i:Nat)(U:xs.length=c2)(hm:ix xs p1=some xv)(Y:P.underlying t=some (.slice e))(Z:Bz P e=some sz)
  (ac:Gd J Q b n ds ops k cs (AH xl) (AH (l0++bks)) (AH l0) fuel (Bs listed i) (AE L d (.pointer (some ⟨bk,p1.toNat*sz,none⟩))) s) (ag:s.q=false:=by exact rfl) (ai:HC n L ops i=some ⟨d,.indexAddr t x y,ty,p,af,g⟩:=by exact rfl)
  (aj:ev L x=some (.slice (some ⟨bk,0,none⟩) c2 c):=by exact rfl) (al:ev L y=some (.int kd p1):=by exact rfl) (am:Kj ops listed xl true i=true:=by decide+kernel):Gd J Q b n ds ops k cs (AH xl) (AH (l0++bks)) (AH l0) (fuel+1) listed L s:=
 Cy i true ag ai (λρ h s' ap=>Gj U hm Y Z (h _ _ aj) (h _ _ al)) ac am
theorem WX{l0:List Nat}{bk o:Nat}{c:Av_}{f:Nat×Nat}(i:Nat)(vs:Lv_)(j:Nat)(K:Au E H S)(hw:∀(q:Nat) w,vs[q]?=some w->c[o+q]?=some w)(O:Es P t=some true)(U:Bz P t=some sz)
  (Y:Gd J Q b n ds ops k cs (AH xl) (AH (l0++bks)) (AH l0) fuel (Bs listed i) (AE L d (.agg vs.toArray)) (Ak E H S)) (Z:HC n L ops i=some ⟨d,.load t x,ty,p,af,g⟩:=by exact rfl) (ac:ev L x=some (.pointer (some ⟨bk,o,none⟩)):=by exact rfl)
  (ag:S[j]?=some [(bk,.cells c e f)]:=by exact rfl) (ai:sz=vs.length:=by exact rfl) (aj:AH (l0++bks) bk=true:=by simp[AH]) (al:Kj ops listed xl false i=true:=by decide+kernel):Gd J Q b n ds ops k cs (AH xl) (AH (l0++bks)) (AH l0) (fuel+1) listed L (Ak E H S):=
 Cy i false V Z (λρ h s' am=>F4 (vs:=vs) O (by rw[← ai];exact U) (h _ _ ac) (λq w ap=>by rw[EG rfl];exact B8 j K ag aj (am rfl) (hw q w ap))) Y al
theorem JB.sx{l0 bks:List Nat}{bk:Nat}{c:Av_}(i j:Nat)(K:Au E H S)(O:Bz P t=some sz)(U:NL S j l0)(hle:off+sz<=c.size)
  (h:Au E H (S.set j [(bk,.cells (Bf c off v.cells.toList) e (0,0))])->Gd J Q b n ds ops k cs (AH xl) (AH (l0++bks)) (AH l0) fuel (Bs listed i) (AE L d undef) (Ak E H (S.set j [(bk,.cells (Bf c off v.cells.toList) e (0,0))])))
  (Y:HC n L ops i=some ⟨d,.store t x y,ty,p,af,g⟩:=by exact rfl) (Z:ev L x=some (.pointer (some ⟨bk,off,none⟩)):=by exact rfl) (ac:ev L y=some v:=by exact rfl) (ag:S[j]?=some [(bk,.cells c e (0,0))]:=by exact rfl)
  (ai:sz=v.cells.size:=by exact rfl) (aj:v.cells.toList.all CL=true:=by first | exact rfl | simp[Value.cells,CL]) (al:Region.ready .any ops listed=[i]:=by decide+kernel) (am:AH xl i=true:=by decide+kernel):
  Gd J Q b n ds ops k cs (AH xl) (AH (l0++bks)) (AH l0) (fuel+1) listed L (Ak E H S):=by
 let⟨ap,aq,aw⟩:=QX Y;subst ai;exact JB.store i j al am ap aq aw K Z ac O (q3.1 aj) ag U hle h
end
abbrev s8(s:Nat):Value:=.int .u8 (s:Int)
def Mz(a:Nat)(n:Int):Option Nat:=if 0<=n/\n<=8 then some (a>>>n.toNat) else none
def LA(a b:Nat):Option Nat:=if a<256/\b<256 then some (a|||b) else none
def MC(a b:Nat):Option Nat:=if a<256/\b<256 then some (a&&& b) else none
variable {a c:Nat}
section
variable {x y:Operand}{b r:Nat}{m:Int}
theorem W4{m:Nat}(h:m<256):IntKind.u8.wrap (m:Int)=m:=by
 simp only[IntKind.wrap,IntKind.bits,IntKind.signed];simp;omega
theorem Qu{m:Nat}(h:m<256):(BitVec.ofInt IntKind.u8.bits (m:Int)).toNat=m:=by
 simp[IntKind.bits,ub];omega
theorem jo{k:Nat}(a c:Nat)(K:c<=k):((a:Int).fdiv (2^(min c k)))=((a>>>c:Nat):Int):=by
 rw[sy K,s0,sT _ (Int.pow_nonneg (by decide)),Int.natCast_ediv]
 rfl
theorem UM(K:ρ x=s8 a)(O:ρ y=iV m)(h:Mz a m=some r):Yl P ⟨d,.binOp .shr t x y u,ty,p,af,g⟩ ρ s (s8 r):=by
 unfold Mz at h;split at h;rename_i U;cases h;have h:=Yl.shr (P:=P) (s:=s) (d:=d) (t:=t) (u:=u) (ty:=ty) (p:=p) (af:=af) (g:=g) K O U.1;rw[show IntKind.u8.bits=8 from rfl,jo a m.toNat (by omega)] at h;exact h;cases h
theorem Pa(O:ρ x=s8 a)(U:ρ y=s8 b)(h:LA a b=some r):Yl P ⟨d,.binOp .or t x y u,ty,p,af,g⟩ ρ s (s8 r):=by
 unfold LA at h;split at h;rename_i K;cases h;have h:=Yl.or (P:=P) (s:=s) (d:=d) (t:=t) (u:=u) (ty:=ty) (p:=p) (af:=af) (g:=g) O U;rw[uv,Qu K.1,Qu K.2,W4 (tg (n:=8) K.1 K.2)] at h;exact h;cases h
theorem Ug(O:ρ x=s8 a)(U:ρ y=s8 b)(h:MC a b=some r):Yl P ⟨d,.binOp .and t x y u,ty,p,af,g⟩ ρ s (s8 r):=by
 unfold MC at h;split at h;rename_i K;cases h;have h:=Yl.and (P:=P) (s:=s) (d:=d) (t:=t) (u:=u) (ty:=ty) (p:=p) (af:=af) (g:=g) O U;rw[tM,Qu K.1,Qu K.2,W4 (sS uw K.1)] at h;exact h;cases h
end
def Pq(a b:Nat):Option Nat:=if a<4294967296/\b<4294967296 then some (a&&& b) else none
def P9(a b:Nat):Option Nat:=if a<4294967296/\b<4294967296 then some (a|||b) else none
def RJ(a:Nat)(n:Int):Option Nat:=if 0<=n/\n<=32/\a*2^n.toNat<4294967296 then some (a*2^n.toNat) else none
def Jb(n:Int):Option Nat:=if 0<=n/\n<=8 then some ((1<<<n.toNat)%256) else none
section
variable {e:TypeId}{x y:Operand}{b r:Nat}{m:Int}
theorem wrap32{m:Nat}(h:m<4294967296):IntKind.u32.wrap (m:Int)=m:=by
 simp only[IntKind.wrap,IntKind.bits,IntKind.signed];simp;omega
theorem Qo{m:Nat}(h:m<4294967296):(BitVec.ofInt IntKind.u32.bits (m:Int)).toNat=m:=by
 simp[IntKind.bits,ub];omega
theorem Zc(O:ρ x=.int .u32 (a:Int))(U:ρ y=.int .u32 (b:Int))(h:Pq a b=some r):Yl P ⟨d,.binOp .and t x y u,ty,p,af,g⟩ ρ s (.int .u32 (r:Int)):=by
 unfold Pq at h;split at h;rename_i K;cases h;have h:=Yl.and (P:=P) (s:=s) (d:=d) (t:=t) (u:=u) (ty:=ty) (p:=p) (af:=af) (g:=g) O U;rw[tM,Qo K.1,Qo K.2,wrap32 (sS uw K.1)] at h;exact h;cases h
theorem ZD(O:ρ x=.int .u32 (a:Int))(U:ρ y=.int .u32 (b:Int))(h:P9 a b=some r):Yl P ⟨d,.binOp .or t x y u,ty,p,af,g⟩ ρ s (.int .u32 (r:Int)):=by
 unfold P9 at h;split at h;rename_i K;cases h;have h:=Yl.or (P:=P) (s:=s) (d:=d) (t:=t) (u:=u) (ty:=ty) (p:=p) (af:=af) (g:=g) O U;rw[uv,Qo K.1,Qo K.2,wrap32 (tg (n:=32) K.1 K.2)] at h;exact h;cases h
theorem ZA(O:ρ x=.int .u32 (a:Int))(U:ρ y=iV m)(h:RJ a m=some r):Yl P ⟨d,.binOp .shl t x y u,ty,p,af,g⟩ ρ s (.int .u32 (r:Int)):=by
 unfold RJ at h;split at h
 .rename_i K;cases h;have h:=Yl.shl (P:=P) (s:=s) (d:=d) (t:=t) (u:=u) (ty:=ty) (p:=p) (af:=af) (g:=g) O U K.1;have e:IntKind.u32.wrap ((a:Int)*2^(min m.toNat IntKind.u32.bits))=((a*2^m.toNat:Nat):Int):=by
   have Y:min m.toNat IntKind.u32.bits=m.toNat:=by simp[IntKind.bits];omega
   rw[Y,← wrap32 K.2.2];simp
  rw[e] at h;exact h
 .cases h
theorem M5(K:ρ x=s8 1)(O:ρ y=iV m)(h:Jb m=some r):Yl P ⟨d,.binOp .shl t x y u,ty,p,af,g⟩ ρ s (s8 r):=by
 unfold Jb at h;split at h
 .rename_i U;cases h;have h:=Yl.shl (P:=P) (s:=s) (d:=d) (t:=t) (u:=u) (ty:=ty) (p:=p) (af:=af) (g:=g) K O U.1;have e:IntKind.u8.wrap (((1:Nat):Int)*2^(min m.toNat IntKind.u8.bits))=(((1<<<m.toNat)%256:Nat):Int):=
   (by decide:∀k:Fin 9,IntKind.u8.wrap (((1:Nat):Int)*2^(min k.1 IntKind.u8.bits))=(((1<<<k.1)%256:Nat):Int)) ⟨m.toNat,by omega⟩
  rw[e] at h;exact h
 .cases h
theorem bh(K:ρ x=s8 a)(O:ρ y=s8 b)(hb:b<=256):Yl P ⟨d,.binOp .sub t x y u,ty,p,af,g⟩ ρ s (s8 ((a+(256 - b))%256)):=by
 have h:=Yl.sub (P:=P) (s:=s) (d:=d) (t:=t) (u:=u) (ty:=ty) (p:=p) (af:=af) (g:=g) K O;have e:IntKind.u8.wrap ((a:Int) - (b:Int))=(((a+(256 - b))%256:Nat):Int):=by
  simp only[IntKind.wrap,IntKind.bits,IntKind.signed];simp;omega
 rw[e] at h;exact h
theorem bS{kd:IntKind}{E:LH}(xs:List Nat):(rA xs.length (rN kd)).r E (xs.map λx=>Value.int kd ((x:Nat):Int)) xs:=by
 refine⟨V,xs.map λx=>[Value.int kd ((x:Nat):Int)],?_,by simp,λi x us K hu=>?_⟩
 .induction xs with
  | nil=>rfl
  | cons x xs O=>simp[← O]
 .rw [rf,K] at hu;exact(ep hu).symm
theorem OP{α:Type}{kk:Nat}{pp:Rp α}{E:LH}{x:α}(h:pp.r E us x):(rA kk pp).r E (List.replicate kk us).flatten (List.replicate kk x):=
 ⟨by simp,List.replicate kk us,V,by simp,λi y ws K hw=>by
  rw[sH] at K hw
  split at K
  .rename_i O
   rw[d0 O] at hw
   cases K;cases hw
   exact h
  .cases K⟩
theorem UD{k:Nat}{z v:Value}(K:P.underlying t=some (.array k e))(O:zeroOf P t=some z)(U:Bz P e=some sz)(Y: .agg z.cells=v):Yl P ⟨d,.build t #[],ty,p,af,g⟩ ρ s v:=by
 refine Gi Q7 ?_;unfold Instr.build;refine AA (x:=zeroValue t) _ (Ij O ?_);refine AA _ _ (CM K ?_);refine AA (x:=Go.sizeOf e) _ (Fv U ?_);subst Y;simp[Instr.fill,lp,pure]
theorem b7{k:Nat}{z v:Value}{L:Env}{ps:Array (Nat×Operand)}{vs:List (Nat×Value)}(h:Fz L ρ)(U:P.underlying t=some (.array k e))(Y:zeroOf P t=some z)(Z:Bz P e=some sz)(ac:ps.toList.mapM (λq=>(ev L q.2).map λv=>(q.1,v))=some vs)(K:(Instr.fill (λi=>some (i*sz,sz)) z.cells vs).map Value.agg=some v):Yl P ⟨d,.build t ps,ty,p,af,g⟩ ρ s v:=by
 refine Gi Q7 ?_;unfold Instr.build;refine AA (x:=zeroValue t) _ (Ij Y ?_);refine AA _ _ (CM U ?_);refine AA (x:=Go.sizeOf e) _ (Fv Z ?_);have ag:=Q2 h ac;have ai:(ps.map λ(j,x)=>(j,ρ x)).toList=vs:=by rw[← ag,tL]
 rw[ai];cases O:Instr.fill (λi=>some (i*sz,sz)) z.cells vs with
 | none=>rw[O] at K;cases K
 | some cells=>rw[O] at K;cases K;exact⟨rfl,rfl⟩
end
section
variable {e:TypeId}
end
section
variable {b:Frame}{fuel:Nat}{listed:Array Bool}
variable {x y:Operand}{e:TypeId}{i:Nat}
end
def HF(b:Frame)(T:Av_)(ds:Ld_)(todo:Li_)(ch:List PanicEntry):Frame:={b with tmps:=T,todo:=todo,defers:=ds,mode:=.panicking ch}
def raised(v:Value):List PanicEntry:=[{v,recovered:=false}]
def taken(v:Value):List PanicEntry:=[{v,recovered:=true}]
section
variable (J:Judge P)(Q:Gs_)
def JP(b:Frame)(n:Nat)(L:Env)(ds:Ld_)(cs:Lf_)(ch:List PanicEntry)(s:St):Prop:=
 ∀T,Has n L T->∀todo,J.ok Q (G (HF b T ds todo ch) cs) s
end
variable {bc:Frame}{dsc:Ld_}{ch:List PanicEntry}{T Tc:Av_}{todoc:Li_}
section
variable {b:Frame}
variable {i:Nat}{x:Operand}
theorem JL.panic{t:TypeId}(O:ops[i]?=some ⟨d,.panic x,ty,p,af,g⟩)(U:b.roundOf=none)(hw:A3 L ops ⟨d,.panic x,ty,p,af,g⟩=some true)(Y:ev L x=some (.iface t v))
  (h:JP J Q b n L ds cs (raised (.iface t v)) s):JL J Q b n L ds (.inRegion ops (i::rest)::k) cs s:=λT K=>
 Judge.Eh V (λw=>by
  have he:execOp (BM T) ⟨d,.panic x,ty,p,af,g⟩=.halt (.panic (.iface t v)):=by
   simp[execOp,Instr.panic,K.ev Y,goPanic,bind,Sem.bind]
  rw[stepG_op O (Cr K hw)]
  simp[U,stepG.apply,he,Sem.run,Sem.runT,Sem.events,GStep.after,fr,HF,Frame.raise,G,raised,seen_none]) (h T K (.inRegion ops (i::rest)::k))
theorem JP.pop(K:P.funcs[b.fn]?=some fn)(h:J.ok Q (G (HF bc Tc dsc todoc ch) cs) s):JP J Q b n L [] (fr bc Tc dsc todoc::cs) ch s:=λT O todo=>
 Judge.Eh V (λw=>by simp[G,stepG,unwind,HF,fr,Frame.raise,Frame.catches,K]) h
theorem JP.R0{c:Code}{caps:Lv_}(al:b.roundOf=none)(O:P.funcs[f]?=some fn)(Y:(fn.name== "runtime.NumGoroutine")=false)(hb:fn.body=some c)(Z:(vs++caps).length<=fn.ntmps)
  (h:∀T,Has n L T->∀todo,JL J Q (baseD f) fn.ntmps (G0 0 (vs++caps)) [] [.code c] (HF b T ds todo ch::cs) s):JP J Q b n L (Lz f vs.toArray caps.toArray::ds) cs ch s:=λT ac todo=>by
 have ag:¬fn.name= "runtime.NumGoroutine" :=by simpa using Y
 refine Judge.Eh rfl (λw=>?_) (h T ac todo ((vs++caps).toArray++Array.replicate (fn.ntmps - (vs++caps).length) undef) ⟨by simp;simp at Z;omega,λt v ai=>?_⟩);rw[B3 (b:=baseD f) rfl];have:=enter_atD (P:=P) (vs++caps).toArray O hb;simp only[sE] at this;rw[← this];simp[G,stepG,unwind,callDeferred,HF,Lz,invoke,callFunc,O,ag,hb,GStep.after,seen_none]
 .let⟨_,K⟩:=Kx ai;have aj:t<(vs++caps).length:=by
   rcases f7 t (vs++caps).length with U | U;exact U;simp only[sC] at K;have:=(dY.1 K).1;omega
  rw[f5,rQ (by simpa using aj)];simp only[sC] at K;rw[q6,K];rfl
theorem X5{K:List PanicEntry}(O:ops[i]?=some ⟨d,.call ⟨.builtin .recover,#[],ats⟩,ty,p,af,g⟩)(U:b.roundOf=none)(Y:b.kind=.deferred)(ag:BA n d=true)(hw:A3 L ops ⟨d,.call ⟨.builtin .recover,#[],ats⟩,ty,p,af,g⟩=some true)
  (h:JL J Q b n (AE L d v) ds (.inRegion ops rest::k) (HF bc Tc dsc todoc ({v,recovered:=true}::K)::cs) s):
  JL J Q b n L ds (.inRegion ops (i::rest)::k) (HF bc Tc dsc todoc ({v,recovered:=false}::K)::cs) s:=λT Z=>
 Judge.Eh V (λw=>by
  have he:execOp (BM T) ⟨d,.call ⟨.builtin .recover,#[],ats⟩,ty,p,af,g⟩=.pure .recover:=by
   simp[execOp,resolve,Deferred.ofValue,invoke,bind,Sem.bind,pure,Go.builtin]
  have ac:=He (b:=b) (ds:=ds) (k:=k) T ops i rest v _ O
  simp only[fr,U,Y] at ac
  rw[stepG_op O (Cr Z hw)]
  simp[U,Y,stepG.apply,he,Sem.run,Sem.runT,Sem.events,GStep.after,fr,HF,tryRecover,G,seen_none,ac]) (h _ (Z.put ag _))
theorem X8(K:ops[i]?=some ⟨d,.call ⟨.builtin .recover,#[],ats⟩,ty,p,af,g⟩)(O:b.roundOf=none)(U:b.kind=.deferred)(ac:BA n d=true)(hw:A3 L ops ⟨d,.call ⟨.builtin .recover,#[],ats⟩,ty,p,af,g⟩=some true)
  (h:JL J Q b n (AE L d .nilIface) ds (.inRegion ops rest::k) (Fa bc Tc dsc todoc::cs) s):
  JL J Q b n L ds (.inRegion ops (i::rest)::k) (Fa bc Tc dsc todoc::cs) s:=λT Y=>
 Judge.Eh V (λw=>by
  have he:execOp (BM T) ⟨d,.call ⟨.builtin .recover,#[],ats⟩,ty,p,af,g⟩=.pure .recover:=by
   simp[execOp,resolve,Deferred.ofValue,invoke,bind,Sem.bind,pure,Go.builtin]
  have Z:=He (b:=b) (ds:=ds) (k:=k) T ops i rest .nilIface _ K
  simp only[fr,O,U] at Z
  rw[stepG_op K (Cr Y hw)]
  simp[O,U,stepG.apply,he,Sem.run,Sem.runT,Sem.events,GStep.after,fr,Fa,tryRecover,G,seen_none,Z]) (h _ (Y.put ac _))
theorem JO.fA(O:b.kind=.deferred)(U:P.funcs[b.fn]?=some fn)(K:fn.results=#[])(h:J.ok Q (G (Fa bc Tc dsc todoc) cs) s):JO J Q b n L [] (HF bc Tc dsc todoc (taken v)::cs) s:=λT Z todo=>by
 refine Judge.Eh rfl (λw=>?_) h
 have Y:=results_none K T P w
 have e2:=λ(x:Array Event)=>events_results_none (P:=P) (w:=w) K T x
 simp[G,stepG,unwind,Fa,HF,U,Y,e2,doReturn,O,GStep.after,seen_none,taken]
end
open Go.Proofs
abbrev Dq:=Int×Int×Int
abbrev AB:=List Dq
abbrev Bg:=List AB
abbrev AZ:=List (List Int)
abbrev A0:=AZ×AB
abbrev Ay:=rP rI GR
open Go.Proofs.Tryz
def Av:=A5 Tryz.type3
def AX:=A5 Tryz.type27
def GH:=A5 Tryz.type91
def IQ:=A5 Tryz.type85
def N9:=A5 Tryz.type221
def AV:=Dc Tryz.underlying3
def MO:=A4 Tryz.func63 rfl
def DD:=A5 Tryz.type22
def Ed:=Dc Tryz.underlying22
def Cv:=A5 Tryz.type23
def EO:=Dc Tryz.underlying23
def C7:=Dc Tryz.underlying27
def BC:=Eg Tryz.type27
def CE:=A5 Tryz.type28
def ET:=Dc Tryz.underlying28
def Ku:=Eg Tryz.type85
def BD:=A5 Tryz.type25
def Ic:=Dc Tryz.underlying85
def JZ:=Eg Tryz.type91
def HM:=Eg Tryz.type72
def Cb:=Dc Tryz.underlying25
def Ee:=A5 Tryz.type72
def F1:=Dc Tryz.underlying72
def BR:=Eg Tryz.type3
def Kt:=A4 Tryz.func40 rfl
def N4:=A4 Tryz.func48 rfl
def IP:=A4 Tryz.func55 rfl
def MS:=A5 Tryz.type4
def Qy:=Dc Tryz.underlying4
def BB:=A5 Tryz.type93
def BS:=Dc Tryz.underlying93
def Ih:=A5 Tryz.type175
def Ie:=A4 Tryz.func56 rfl
def Jl:=Eg Tryz.type28
def MR:=Eg Tryz.type4
def N1:=A4 Tryz.func86 rfl
def LV:=Eg Tryz.type229
def Ig:=A4 Tryz.func68 rfl
def QH:=Eg Tryz.type93
def NW:=Dc Tryz.underlying181
def Qx:=Dc Tryz.underlying96
def QC:=A4 Tryz.func52 rfl
def Qz:=A4 Tryz.func161 rfl
def QB:=A4 Tryz.func148 rfl
def QA:=A4 Tryz.func118 rfl
def N6:=A4 Tryz.func85 rfl
def K7:=Dc Tryz.underlying175
def QD:=Eg Tryz.type221
def NY:=Dc Tryz.underlying221
def Kv:=A5 Tryz.type136
def N7:=Eg Tryz.type136
def NU:=Dc Tryz.underlying136
def HL:=Dc Tryz.underlying21
def Ob:=A5 Tryz.type98
def GV:=Eg Tryz.type25
def N8:=A4 Tryz.func30 rfl
def QE:=A4 Tryz.func50 rfl
def N5:=A4 Tryz.func21 rfl
def LW:=A4 Tryz.func17 rfl
def N3:=A4 Tryz.func19 rfl
def MN:=A4 Tryz.func10 rfl
def N2:=A4 Tryz.func35 rfl
def Kw:=A5 Tryz.type59
def NZ:=Dc Tryz.underlying59
def JY:=A4 Tryz.func11 rfl
def QF:=A4 Tryz.func58 rfl
def LX:=Eg Tryz.type110
def NX:=Dc Tryz.underlying153
def MQ:=A5 Tryz.type153
def MP:=A4 Tryz.func79 rfl
def JX:=A4 Tryz.func45 rfl
def QG:=Eg Tryz.type23
theorem mixed:Tryz.prog.follows .mixedOrders=true:=rfl
theorem il:Ct Tryz.prog 27 (rP rI (rP rI rI)) true 2:=Ct.three underlying27 (Ct.int underlying3 Av) (Ct.int underlying3 Av) (Ct.int underlying3 Av) (by decide+kernel) (by decide) (by decide) (by decide) V V V AX
theorem gP:Ct Tryz.prog 91 (rP rI rI) true 2:=Ct.two underlying91 (Ct.int underlying3 Av) (Ct.int underlying3 Av) (by decide+kernel) (by decide) (by decide) V V GH
theorem Wj:Ct Tryz.prog 85 (rA 5 rI) true 2:=Ct.arr (kk:=5) (Ct.int underlying3 Av) underlying85 IQ
theorem dR:Ct Tryz.prog 219 (rA 10 rI) true 2:=Ct.arr (kk:=10) (Ct.int underlying3 Av) underlying219 (A5 type219)
theorem VU:Ct Tryz.prog 221 (rA 5 (rA 10 rI)) true 3:=Ct.arr (kk:=5) dR underlying221 N9
theorem en:Ct Tryz.prog 238 (rP (rN .u8) (rA 5 (rA 10 rI))) true 4:=Ct.two underlying238 ((Ct.nat underlying5 (A5 type5)).up (by decide)) VU (by decide+kernel) (by decide) (by decide) V V (A5 type238)
theorem JD:Hm Tryz.prog 3 rI false:=(Ct.int underlying3 Av).key (by decide)
theorem RN:Hm Tryz.prog 91 (rP rI rI) true:=gP.key (by decide)
theorem V7:Hm Tryz.prog 221 (rA 5 (rA 10 rI)) true:=VU.key (by decide)
theorem WQ:Hm Tryz.prog 238 (rP (rN .u8) (rA 5 (rA 10 rI))) true:=en.key (by decide)
end Pal
namespace Pal
open Go Go.Conc Go.Proofs Go.Extern
abbrev FX(t:Nat):Value:=.pointer (some ⟨1,t,none⟩)
abbrev Km(t:Nat):Value:=.iface 197 (.agg #[FX t])
variable {s:St}{X:Halt->St->Prop}
variable{Q:Value->St->Prop}
theorem X4(t:Addr):lp Tryz.prog (ReflectliteValue.unpack (.iface 112 (.pointer (some t)))) s Q X=(s.q=false/\∀r,s.E r=none->s.H r=none->Q (.agg #[FX 112,.pointer (some ⟨r,0,none⟩),.int .u64 150]) (s.upd r (.cells #[.pointer (some t)] 112 (0,0)))):=by kernel_rfl
theorem X2(c:Int):lp Tryz.prog (ReflectliteValue.unpack (.iface 110 (.agg #[iV c]))) s Q X=(s.q=false/\∀r,s.E r=none->s.H r=none->Q (.agg #[FX 110,.pointer (some ⟨r,0,none⟩),.int .u64 153]) (s.upd r (.cells #[iV c] 110 (0,0)))):=by kernel_rfl
theorem aS(a:Addr):lp Tryz.prog (ReflectliteValue.methodAny (ReflectliteValue.valueError "reflectlite.Value.Type" 0) (λt _ _ _=>ReflectliteType.toType t) #[.agg #[FX 112,.pointer (some a),.int .u64 150]]) s Q X=Q (Km 112) s:=by kernel_rfl
theorem Yg(v:Value):lp Tryz.prog (ReflectliteType.typeOf #[.iface 110 v]) s Q X=Q (Km 110) s:=by kernel_rfl
theorem VP{Q:FuncId×Value->St->Prop}(h:Value):lp Tryz.prog (Go.method (Tryz.prog.types.size+Made.depth) 197 (.agg #[h]) "Kind") s Q X=Q (191,h) s:=by kernel_rfl
theorem gC{Q:FuncId×Value->St->Prop}(h:Value):lp Tryz.prog (Go.method (Tryz.prog.types.size+Made.depth) 197 (.agg #[h]) "Elem") s Q X=Q (202,.agg #[h]) s:=by kernel_rfl
theorem eS{Q:FuncId×Value->St->Prop}(h:Value):lp Tryz.prog (Go.method (Tryz.prog.types.size+Made.depth) 197 (.agg #[h]) "Implements") s Q X=Q (203,.agg #[h]) s:=by kernel_rfl
theorem jh{Q:FuncId×Value->St->Prop}(h:Value):lp Tryz.prog (Go.method (Tryz.prog.types.size+Made.depth) 197 (.agg #[h]) "AssignableTo") s Q X=Q (200,.agg #[h]) s:=by kernel_rfl
theorem bH:lp Tryz.prog ((ReflectliteType.abiMethod λt=>(λa:Nat=>Value.int IntKind.u8 (a:Int))<$>Rtype.kind t) #[FX 112]) s Q X=Q (.int .u8 22) s:=by kernel_rfl
theorem ZU:lp Tryz.prog ((ReflectliteType.abiMethod λt=>(λa:Nat=>Value.int IntKind.u8 (a:Int))<$>Rtype.kind t) #[FX 110]) s Q X=Q (.int .u8 25) s:=by kernel_rfl
theorem ZQ:lp Tryz.prog (ReflectliteType.method ReflectliteType.elem #[.agg #[FX 112]]) s Q X=Q (Km 110) s:=by kernel_rfl
theorem bG:lp Tryz.prog (ReflectliteType.relation "Implements" ReflectliteType.implements_ #[.agg #[FX 110],Km 77]) s Q X=Q (.bool true) s:=by kernel_rfl
theorem dc:lp Tryz.prog (ReflectliteType.relation "AssignableTo" ReflectliteType.assignableTo #[.agg #[FX 110],Km 110]) s Q X=Q (.bool true) s:=by kernel_rfl
theorem TH{Q:Option (TypeId×Addr×Nat)->St->Prop}(a:Addr):lp Tryz.prog (ReflectliteValue.parts (.agg #[FX 112,.pointer (some a),.int .u64 150])) s Q X=Q (some (112,a,150)) s:=by kernel_rfl
theorem Zq{Q:Option (TypeId×Addr×Nat)->St->Prop}(a:Addr):lp Tryz.prog (ReflectliteValue.parts (.agg #[FX 110,.pointer (some a),.int .u64 153])) s Q X=Q (some (110,a,153)) s:=by kernel_rfl
theorem Yq{Q:Option (TypeId×Addr×Nat)->St->Prop}(a:Addr):lp Tryz.prog (ReflectliteValue.parts (.agg #[FX 110,.pointer (some a),.int .u64 409])) s Q X=Q (some (110,a,409)) s:=by kernel_rfl
theorem di{Q:Option TypeId->St->Prop}:lp Tryz.prog (Rtype.elem? 112) s Q X=Q (some 110) s:=by kernel_rfl
theorem fC(p:Addr):lp Tryz.prog (ReflectliteValue.mk 110 p ReflectliteValue.flagAddr) s Q X=Q (.agg #[FX 110,.pointer (some p),.int .u64 409]) s:=by kernel_rfl
theorem dI{Q:Bool->St->Prop}:lp Tryz.prog (Rtype.directlyAssignable 110 110) s Q X=Q true s:=by kernel_rfl
theorem Uz(a:Addr):lp Tryz.prog (loadVar 112 a) s Q X=(Mode.plain=.plain/\∃v,s.cell? a=some v/\Q v s):=by kernel_rfl
theorem Z9(a:Addr):lp Tryz.prog (loadVar 110 a) s Q X=(Mode.plain=.plain/\∃v,s.cell? (a.add 0)=some v/\Q (.agg #[v]) s):=by kernel_rfl
theorem Wm:BX Tryz.prog 87 (λargs=>ReflectliteValue.unpack (args.getD 0 (.tuple #[]))):=⟨⟨_,Tryz.func87,by kernel_rfl,by kernel_rfl,by kernel_rfl,by kernel_rfl⟩⟩
theorem gV:BX Tryz.prog 88 (ReflectliteValue.methodAny (ReflectliteValue.valueError "reflectlite.Value.Type" 0) (λt _ _ _=>ReflectliteType.toType t)):=⟨⟨_,Tryz.func88,by kernel_rfl,by kernel_rfl,by kernel_rfl,by kernel_rfl⟩⟩
theorem fh:BX Tryz.prog 89 (ReflectliteValue.method (ReflectliteValue.valueError "reflectlite.Value.IsNil" 0) ReflectliteValue.isNil):=⟨⟨_,Tryz.func89,by kernel_rfl,by kernel_rfl,by kernel_rfl,by kernel_rfl⟩⟩
theorem fS:BX Tryz.prog 128 ReflectliteType.typeOf:=⟨⟨_,Tryz.func128,by kernel_rfl,by kernel_rfl,by kernel_rfl,by kernel_rfl⟩⟩
theorem fz:BX Tryz.prog 129 (ReflectliteValue.method (ReflectliteValue.valueError "reflectlite.Value.Elem" 0) ReflectliteValue.elem):=⟨⟨_,Tryz.func129,by kernel_rfl,by kernel_rfl,by kernel_rfl,by kernel_rfl⟩⟩
theorem gy:BX Tryz.prog 130 ReflectliteValue.set:=⟨⟨_,Tryz.func130,by kernel_rfl,by kernel_rfl,by kernel_rfl,by kernel_rfl⟩⟩
theorem VM:BX Tryz.prog 191 (ReflectliteType.abiMethod λt=>(λa:Nat=>Value.int IntKind.u8 (a:Int))<$>Rtype.kind t):=⟨⟨_,Tryz.func191,by kernel_rfl,by kernel_rfl,by kernel_rfl,by kernel_rfl⟩⟩
theorem eT:BX Tryz.prog 200 (ReflectliteType.relation "AssignableTo" ReflectliteType.assignableTo):=⟨⟨_,Tryz.func200,by kernel_rfl,by kernel_rfl,by kernel_rfl,by kernel_rfl⟩⟩
theorem eY:BX Tryz.prog 202 (ReflectliteType.method ReflectliteType.elem):=⟨⟨_,Tryz.func202,by kernel_rfl,by kernel_rfl,by kernel_rfl,by kernel_rfl⟩⟩
theorem eU:BX Tryz.prog 203 (ReflectliteType.relation "Implements" ReflectliteType.implements_):=⟨⟨_,Tryz.func203,by kernel_rfl,by kernel_rfl,by kernel_rfl,by kernel_rfl⟩⟩
end Pal
namespace Pal
open Go Go.Conc
variable {P:Program}{J:Judge P}{Q:Gs_}{n:Nat}{L:Env}{ds:Ld_}{k:Li_}{cs:Lf_}{s:St}{ops:Ao_}{rest:List Nat}{v:Value}
variable {d:Option Tmp}{ty:TypeId}{p:String}{af:Ae_}{g:On_}
variable{f:FuncId}{e:Av_->Sem Value}{args:Array Operand}{ats:Array TypeId}{vs:Lv_}
section
variable {b:Frame}{i:Nat}
variable {x:Operand}
theorem TA{args:Av_}{Q:Next->St->Prop}{X:Halt->St->Prop}(he:BX P f e)(h:lp P (e args) s (λv s'=>Q (.value v) s') X):lp P (callFunc f args) s Q X:=by
 obtain⟨fn,K,O,U,Y,Z⟩:=he.h;unfold callFunc;simp only[bind,Sem.bind,program,lp,K,O,U,qP,rr,rH,mark,Y,Z];refine⟨.inr ⟨f,V⟩,?_⟩;exact AA _ _ (EP _ h (λv s' ac=>ac) (λ_ _ ag=>ag))
theorem Lr(he:BX P f e)(O:ops[i]?=some ⟨d,.call ⟨.value (.func f),args,ats⟩,ty,p,af,g⟩)(hw:A3 L ops ⟨d,.call ⟨.value (.func f),args,ats⟩,ty,p,af,g⟩=some true)(U:BV b n ⟨d,.call ⟨.value (.func f),args,ats⟩,ty,p,af,g⟩=true)(Y:evs L args.toList=some vs)
  (h:lp P (e vs.toArray) s (λv s'=>JL J Q b n (AE L d v) ds (.inRegion ops rest::k) cs s') (λ_ _=>False)):JL J Q b n L ds (.inRegion ops (i::rest)::k) cs s:=by
 refine JL.op O hw U λρ K=>?_;have Z:args.map ρ=vs.toArray:=by
  rw[← GI K Y];apply rW;simp
 have ac:ρ (.func f)=.func (.func f) #[] #[]:=K _ _ V;simp only[execOp,resolve,bind,Sem.bind,Deferred.ofValue,ac,pure,invoke];have ag: #[]++args.map ρ++ #[]=vs.toArray:=by rw[Z];simp
 rw[ag];exact TA he h
theorem Nz{t:TypeId}{K O:Value}{name:String}(he:BX P f e)(hm:∀{s:St}{X:Halt->St->Prop}{Q:FuncId×Value->St->Prop},lp P (Go.method (P.types.size+Made.depth) t K name) s Q X=Q (f,O) s)
  (Y:ops[i]?=some ⟨d,.call ⟨.invoke x name,args,ats⟩,ty,p,af,g⟩) (hw:A3 L ops ⟨d,.call ⟨.invoke x name,args,ats⟩,ty,p,af,g⟩=some true) (Z:BV b n ⟨d,.call ⟨.invoke x name,args,ats⟩,ty,p,af,g⟩=true) (ac:ev L x=some (.iface t K)) (ag:evs L args.toList=some vs)
  (h:lp P (e (O::vs).toArray) s (λv s'=>JL J Q b n (AE L d v) ds (.inRegion ops rest::k) cs s') (λ_ _=>False)):JL J Q b n L ds (.inRegion ops (i::rest)::k) cs s:=by
 refine JL.op Y hw Z λρ U=>?_;have ai:args.map ρ=vs.toArray:=by
  rw[← GI U ag];apply rW;simp
 have aj:ρ x=.iface t K:=U _ _ ac;simp only[execOp,resolve,bind,Sem.bind,pure,invoke,aj,ai];have al:(#[Value.iface t K]++vs.toArray)[0]?=some (.iface t K):=by simp
 have am:(#[Value.iface t K]++vs.toArray).extract 1 (#[Value.iface t K]++vs.toArray).size=vs.toArray:=by
  apply rW;simp
 simp only[al,am,callMethod,bind,Sem.bind,program,lp];refine AA _ _ ?_;rw[hm];have e2: #[O]++vs.toArray=(O::vs).toArray:=by apply rW;simp
 rw[e2];exact TA he h
end
open Go.Proofs Go.Proofs.Tryz
variable {E:LH}
variable {J:Judge Tryz.prog}
def f91(fu_:Nat)(p0:Int)(p1:Int)(p2:Int):Option Bool:=Option.bind (if p1<=p0 then(some (decide (p0<=p2))) else(some false)) λx1=>some x1
variable{p1 p3:Int}{fu_:Nat}
theorem Nv{p0:Int}{r:Bool}(K:f91 fu_ p0 p1 p3=some r):AY J 63 [iV p0,iV p1,iV p3] E [] (λw E' B'=>w=.bool r/\B'=[]):=by
 refine Bm func63 λQ ap cs H O Y=>?_;unfold f91 at K;let⟨x1,Z,ac⟩:=bs K;refine C 10 V (Gm 8 1 [] [(14,.bool x1)] (λaq ag ai=>?_) (λU=>?_));refine C 2 V ?_;cases ac;exact AK func63 V V (Y ag V ⟨V,V⟩ ai);refine Hy 10 Z (λaj al=>?_) (λaj am=>?_);refine C 4 V ?_;cases al;exact U AL O V;refine C 4 V ?_;cases am;exact U AL O V
def f86(fu_:Nat)(p0:Int×Int×Int)(p1:Int)(p2:Int):Option Int:=(Az (p1 - 1)).bind λK=>(f91 fu_ p0.1 0 K).bind λO=>Option.bind (if(!O)=true then(some true) else((Az (p1 - 1)).bind λU=>(f91 fu_ p0.2.1 0 U).bind λY=>some (!Y))) λZ=>if Z=true then(some 3) else(if p0.1=p0.2.1 then(some 8) else((f91 fu_ p0.2.2 1 p2).bind λac=>if(!ac)=true then(some 1) else(some 0)))
variable{r:Int}
theorem W3{p0:Int×Int×Int}(ag:f86 fu_ p0 p1 p3=some r):AY J 65 [.agg #[iV p0.1,iV p0.2.1,iV p0.2.2],iV p1,iV p3] E [] (λw E' B'=>w=iV r/\B'=[]):=by
 refine Bm func65 λQ ck cs H ap Y=>?_;unfold f86 at ag;refine C 2 V (Cs ap λr2 co Z U aq=>?_);refine C 6 V (BH 0 U underlying27 Av AV ?_);let⟨cp,aw,a0⟩:=bs ag;refine C 1 V (Cx aw V V V ?_);let⟨a1,a2,a3⟩:=bs a0;refine B9 (Nv a2) V V MO aq λct K ai=>Ao (v:=.bool (!a1)) V (λρ h=>Yl.not (h _ _ V)) ?_;let⟨a4,a5,a6⟩:=bs a3;refine C 1 V (Gm 14 1 [] [(2,iV p3),(3,Ar r2 0),(21,.bool a4)] (λcw O ac=>?_) (λaj=>?_));refine C 2 V (Cm a6 (λa7 a8=>?_) (λa7 a9=>?_));refine C 4 V ?_;cases a8;exact AK func65 V V (Y ((Z.Ad K).Ad O) V ⟨V,V⟩ ac);refine C 2 V (BH 0 (U.Ag (K.Ad O)) underlying27 Av AV ?_);refine BH 1 (U.Ag (K.Ad O)) underlying27 Av AV ?_;refine C 3 V (AP a9 (λbb be=>?_) (λbb bg=>?_));refine C 4 V ?_;cases be;exact AK func65 V V (Y ((Z.Ad K).Ad O) V ⟨V,V⟩ ac);refine C 2 V (BH 2 (U.Ag (K.Ad O)) underlying27 Av AV ?_);let⟨bi,bo,bv⟩:=bs bg;refine C 1 V (B9 (Nv bo) V V MO ac λcy al am=>?_);refine Ao (v:=.bool (!bi)) V (λρ h=>Yl.not (h _ _ V)) (C 2 V ?_);refine Cm bv (λbw bx=>?_) (λbw b0=>?_);refine C 4 V ?_;cases bx;exact AK func65 V V (Y (((Z.Ad K).Ad O).Ad al) V ⟨V,V⟩ am);refine C 6 V ?_;cases b0;exact AK func65 V V (Y (((Z.Ad K).Ad O).Ad al) V ⟨V,V⟩ am);refine Fy 14 a5 (λb1 b2=>?_) (λb1 b3=>?_);refine C 7 V ?_;cases b2;exact aj AL ai V;refine BH 1 (U.Ag K) underlying27 Av AV ?_;let⟨c0,b4,b5⟩:=bs b3;refine C 1 V (Cx b4 V V V ?_);let⟨b6,ca,cc⟩:=bs b5;refine B9 (Nv ca) V V MO ai λc1 ce ci=>Ao (v:=.bool (!b6)) V (λρ h=>Yl.not (h _ _ V)) (C 1 V ?_);cases cc;exact aj ce ci V
def Pz(fu_:Nat)(O:List Int)(K:Int):Option (Bq Int ((Int)⊕(Unit))):=if K<(O.length:Int) then((ix O K).bind λU=>(f91 fu_ U 1 9).bind λY=>if(!Y)=true then(some (.done (Sum.inl 1))) else((Az (K+1)).bind λZ=>some (.more Z))) else(some (.done (Sum.inr ())))
def Ps(fu_:Nat)(p0:A0)(K:Int):Option (Bq Int ((Int)⊕(Unit))):=if K<(p0.1.length:Int) then((ix p0.1 K).bind λO=>if 3<(O.length:Int) then(some (.done (Sum.inl 6))) else(Option.bind (iter (Pz fu_ O) fu_ 0) λU=>Sum.elim (λr=>some (.done (Sum.inl r))) (λZ=>(Az (K+1)).bind λY=>some (.more Y)) U)) else(some (.done (Sum.inr ())))
def VZ(fu_:Nat)(p0:A0)(K:Int):Option (Bq Int ((Int)⊕(Unit))):=if K<(p0.2.length:Int) then((ix p0.2 K).bind λU=>(f86 fu_ U (p0.1.length:Int) 9).bind λO=>if O≠0 then(some (.done (Sum.inl O))) else((Az (K+1)).bind λY=>some (.more Y))) else(some (.done (Sum.inr ())))
def f47(fu_:Nat)(p0:A0):Option Int:=if(p0.1.length:Int)<2 then(some 7) else(if 5<(p0.1.length:Int) then(some 6) else(Option.bind (iter (Ps fu_ p0) fu_ 0) λK=>Sum.elim (λr=>some r) (λU=>if 8<(p0.2.length:Int) then(some 6) else(Option.bind (iter (VZ fu_ p0) fu_ 0) λO=>Sum.elim (λr=>some r) (λY=>some 0) O)) K))
variable{a1:Ap}{c2:Nat}{p0:A0}
theorem iI{aq:Ap}{aw:Nat}(cy:Am (rL rI) E a1 c2 p0.1)(c0:Am Ay E aq aw p0.2)(a9:f47 fu_ p0=some r):AY J 62 [.agg #[sV a1 p0.1 c2,sV aq p0.2 aw]] E [] (λw E' B'=>w=iV r/\B'=[]):=by
 refine Bm func62 λQ hB cs H c1 O=>?_;unfold f47 at a9;refine C 2 V (Cs c1 λY c3 K Z a0=>?_);refine C 5 V (BH 0 Z underlying25 DD Ed ?_);refine JL.ln underlying22 V V V (C 9 V ?_);refine AP a9 (λc4 c5=>?_) (λc4 c6=>?_);refine C 4 V ?_;cases c5;exact AK func62 V V (O K V ⟨V,V⟩ a0);refine C 6 V (AP c6 (λc7 c8=>?_) (λc7 c9=>?_));refine C 4 V ?_;cases c8;exact AK func62 V V (O K V ⟨V,V⟩ a0);refine C 5 V (BH 0 Z underlying25 DD Ed ?_);refine JL.ln underlying22 V V V ?_;let⟨bb,dd,a2⟩:=bs c9;refine C 2 V (Bu (λL s=>∃(be:Unit) (a3:LH),bb=Sum.inr be/\Jm c3 H a3 [] [(1,Ar Y 0)] L s) ?_ ?_);rintro _ _ ⟨be,a3,rfl,rfl,rfl,U,bg⟩;have dj:=elim_inr a2;refine C 3 V (BH 1 (Z.Ag U) underlying25 Cv EO ?_);refine JL.ln underlying23 V V V (C 2 V ?_);refine AP dj (λea eb=>?_) (λea ec=>?_);refine C 4 V ?_;cases eb;exact AK func62 V V (O (K.Ad U) V ⟨V,V⟩ bg);refine C 4 V (BH 1 (Z.Ag U) underlying25 Cv EO ?_);refine JL.ln underlying23 V V V ?_;let⟨bi,ed,bo⟩:=bs ec;refine C 2 V (Bu (λL s=>∃(bv:Unit) (bw:LH),bi=Sum.inr bv/\Jm a3 H bw [] [] L s) ?_ ?_);rintro _ _ ⟨bv,bw,rfl,rfl,rfl,ee,ef⟩;have eg:=elim_inr bo;refine C 4 V ?_;cases eg;exact AK func62 V V (O ((K.Ad U).Ad ee) V ⟨V,V⟩ ef);intro ej;refine JL.block (Du ed (λa4=>[]) (λa4=>[(1,Ar Y 0),(46,sV aq p0.2 aw),(47,iV (p0.2.length:Int)),(48,iV a4)]) AL bg ?_);rintro a4 ek ac bx b0 ⟨hC,al⟩ el;have b1:=al;unfold VZ at b1;refine C 5 V (AP b1 (λem eo=>?_) (λem er=>?_));let⟨hD,et,eu⟩:=bs eo;refine C 5 V (JS.ix (c0.Ag ((K.Ad U).Ad ac)) et underlying23 AX ?_);rintro hE hF _ ⟨_,_,rfl,rfl,⟨_,_,rfl,rfl,rfl⟩⟩ ew;refine BQ ew C7 AX V V (BZ bx BC λhG ex=>?_);refine JS.sx 0 ex AX λey=>?_;refine C8 0 ey V λhH a5 eA eC=>C 3 V (BQ eA C7 AX V V ?_);refine BH 0 (Z.Ag ((U.Ad ac).Ad a5)) underlying25 DD Ed ?_;refine JL.ln underlying22 V V V ?_;let⟨hI,eN,e0⟩:=bs eu;refine B9 (W3 eN) V V (A4 func65 V) eC λhJ b2 b3=>C 7 V (AP e0 (λe1 e3=>?_) (λe1 e4=>?_));refine C 5 V ?_;cases e3;obtain rfl:=b0 _ al;have e5:=elim_inl bo;cases e5;exact AK func62 V V (O ((((K.Ad U).Ad ac).Ad a5).Ad b2) V ⟨V,V⟩ b3);let⟨e6,e7,e8⟩:=bs e4;refine C 3 V (Bw e7 V V V ?_);refine C 2 V ?_;cases e8;exact el e6 ((ac.Ad a5).Ad b2) b3 V al;refine JL.exit V ?_;cases er;have ff:bi=(Sum.inr ()):=(b0 _ al).symm;exact AD (ej _ _ ⟨(),ek,ff,V,V,ac,bx⟩) V;intro fk;refine JL.block (Du dd (λag=>[]) (λag=>[(1,Ar Y 0),(21,sV a1 p0.1 c2),(22,iV (p0.1.length:Int)),(23,iV ag)]) AL a0 ?_);rintro ag b4 ai a6 a7 ⟨hK,aj⟩ fl;have b5:=aj;unfold Ps at b5;refine C 5 V (AP b5 (λfm fo=>?_) (λfm fs=>?_));let⟨b6,fv,fw⟩:=bs fo;refine C 5 V (JS.ix (cy.Ag (K.Ad ai)) fv underlying22 CE ?_);rintro hL hM _ ⟨fN,gc,rfl,ge⟩ gg;refine CJ 0 gg ET V V V (C 6 V ?_);refine JL.ln underlying28 V V V (C 2 V ?_);refine AP fw (λgh gt=>?_) (λgh gE=>?_);refine C 4 V ?_;cases gt;obtain rfl:=a7 _ aj;have gO:=elim_inl a2;cases gO;exact AK func62 V V (O (K.Ad ai) V ⟨V,V⟩ a6);refine C 4 V (JL.ln underlying28 V V V ?_);let⟨ca,g3,cc⟩:=bs gE;refine C 2 V (Bu (λL s=>∃(ce:Unit) (ci:LH),ca=Sum.inr ce/\Jm b4 H ci [] [(1,Ar Y 0),(21,sV a1 p0.1 c2),(22,iV (p0.1.length:Int)),(23,iV ag)] L s) ?_ ?_);rintro _ _ ⟨ce,ci,rfl,rfl,rfl,g4,g5⟩;have g6:=elim_inr cc;let⟨g7,g8,ha⟩:=bs g6;refine C 2 V (Bw g8 V V V ?_);refine C 2 V ?_;cases ha;exact fl g7 (ai.Ad g4) g5 V aj;intro hb;refine JL.block (Du g3 (λa8=>[]) (λa8=>[(1,Ar Y 0),(21,sV a1 p0.1 c2),(22,iV (p0.1.length:Int)),(23,iV ag),(30,sV fN b6 gc),(31,iV (b6.length:Int)),(32,iV a8)]) AL a6 ?_);rintro a8 hc am ck co ⟨hN,ap⟩ he;have cp:=ap;unfold Pz at cp;refine C 5 V (AP cp (λhf hg=>?_) (λhf hk=>?_));let⟨hO,hl,hm⟩:=bs hg;refine C 5 V (JS.ix (ge.Ag am) hl underlying28 Av ?_);rintro hP hQ _ rfl hn;refine CJ 0 hn AV V V V ?_;let⟨ho,hp,hq⟩:=bs hm;refine C 5 V (B9 (Nv hp) V V MO ck λhR ct cw=>?_);refine Ao (v:=.bool (!ho)) V (λρ h=>Yl.not (h _ _ V)) (JL.done ?_);refine Cm hq (λhr hs=>?_) (λhr ht=>?_);refine C 4 V ?_;cases hs;obtain rfl:=co _ ap;have hu:=elim_inl cc;cases hu;obtain rfl:=a7 _ aj;have hv:=elim_inl a2;cases hv;exact AK func62 V V (O (((K.Ad ai).Ad am).Ad ct) V ⟨V,V⟩ cw);let⟨hw,hx,hy⟩:=bs ht;refine C 3 V (Bw hx V V V ?_);refine C 2 V ?_;cases hy;exact he hw (am.Ad ct) cw V ap;refine JL.exit V ?_;cases hk;have hz:ca=(Sum.inr ()):=(co _ ap).symm;exact AD (hb _ _ ⟨(),hc,hz,V,V,am,ck⟩) V;refine JL.exit V ?_;cases fs;have hA:bb=(Sum.inr ()):=(a7 _ aj).symm;exact AD (fk _ _ ⟨(),b4,hA,V,V,ai,a6⟩) V
def Pu(fu_:Nat)(p0:A0)(O:(List Int)×Int):Option (Bq ((List Int)×Int) ((List Int))):=if O.2<(p0.2.length:Int) then((ix p0.2 O.2).bind λK=>(ix O.1 K.2.1).bind λY=>(Az (Y+K.2.2)).bind λU=>(ix O.1 K.2.1).bind λai=>(ix (O.1.set (Int.toNat K.2.1) U) K.1).bind λZ=>(Az (Z - K.2.2)).bind λac=>(ix (O.1.set (Int.toNat K.2.1) U) K.1).bind λaj=>(Az (O.2+1)).bind λag=>some (.more (((O.1.set (Int.toNat K.2.1) U).set (Int.toNat K.1) ac),ag))) else(some (.done O.1))
def f84(fu_:Nat)(p0:A0):Option ((List Int)):=Option.bind (iter (Pu fu_ p0) fu_ ((List.replicate 5 (0:Int)),0)) λK=>some K
variable{a9:Ap}{bb:Nat}
theorem PQ(e4:Am (rL rI) E a1 c2 p0.1)(ck:Am Ay E a9 bb p0.2){r:(List Int)}(bx:f84 fu_ p0=some r):AY J 48 [.agg #[sV a1 p0.1 c2,sV a9 p0.2 bb]] E [] (λw E' B'=>∃(b0:Lv_),w=.agg b0.toArray/\B'=[]/\(rA 5 rI).r E' b0 r):=by
 refine Bm func48 λQ e5 cs H co cp=>?_;unfold f84 at bx;refine C 2 V (Cs co λe6 a3 b1 ct cw=>?_);refine BZ cw Ku λa4 cy=>?_;refine C 3 V (BZ cy Ku λU c0=>?_);refine C 4 V (JL.fd underlying72 BD V V V ?_);refine BH 1 ct underlying25 Cv EO ?_;refine JL.ln underlying23 V V V ?_;let⟨c1,c3,c4⟩:=bs bx;refine C 2 V (Bu (λL s=>∃(aq:LH) (Y:Lv_),Jn a3 H aq [bX a4 (([]:Lv_)++(List.replicate 5 (iV 0):Lv_)).toArray 85,bX U (([]:Lv_)++Y).toArray 85] [(2,Ar a4 0),(3,Ar U 0)] L s ((rA 5 rI).r aq Y c1)) ?_ ?_);rintro _ _ ⟨aq,Y,rfl,rfl,c5,b2,ac⟩;refine C 2 V (Ao (v:=.agg Y.toArray) V (λρ h=>HN (kk:=5) (pp:=rI) ac Ic IQ (h _ _ V) (Hg (l:=[]) 1 b2 V)) ?_);refine Ht (v:=.agg Y.toArray) (l:=[]) (ws:=(List.replicate 5 (iV 0):Lv_)) (us:=Y) (o:=0) 0 V V V b2 V V V (by rw[Cc (kk:=5) (pp:=rI) ac];exact A5 type85) ((rA 5 rI).one ac) V (by rw[Cc (kk:=5) (pp:=rI) ac,Cc (kk:=5) (pp:=rI) (GJ (E:=aq) (pp:=rI) rfl)];omega) λb3=>?_;rw[Js (by rw[Cc (kk:=5) (pp:=rI) ac,Cc (kk:=5) (pp:=rI) (GJ (E:=aq) (pp:=rI) rfl)])] at b3 ⊢;refine JL.done (JS.drop 1 b3 V λb4=>?_);cases c4;refine JL.ret (v:=.agg Y.toArray) V V (BK.list func48 V (vs:=[.agg Y.toArray]) ⟨⟨_,V,Ld.many (vs:=Y) Ic (by rw[Cc (kk:=5) (pp:=rI) ac];exact A5 type85) (Hg (l:=[]) 0 b4 V)⟩,trivial⟩) (DW 0 b4 V λc6=>?_);exact cp (b1.Ad c5) V ⟨Y,V,V,ac⟩ c6
 .intro c7;refine JL.block (Co c3 (λL s ai=>∃(a5:LH) (aj:Lv_),Jn a3 H a5 [bX a4 (([]:Lv_)++(List.replicate 5 (iV 0):Lv_)).toArray 85,bX U (([]:Lv_)++aj).toArray 85] [(2,Ar a4 0),(3,Ar U 0),(8,sV a9 p0.2 bb),(9,iV (p0.2.length:Int)),(10,iV ai.2)] L s ((rA 5 rI).r a5 aj ai.1)) ⟨a3,(List.replicate 5 (iV 0):Lv_),V,V,AL,c0,(GJ (E:=a3) (pp:=rI) V)⟩ ?_);rintro _ _ ai ⟨a5,aj,rfl,rfl,be,b5,al⟩ c8 ⟨e7,bg⟩ c9;have b6:=bg;unfold Pu at b6;refine C 5 V (AP b6 (λdd dj=>?_) (λdd ea=>?_))
  .let⟨K,eb,ec⟩:=bs dj;refine C 5 V (JS.ix (ck.Ag (b1.Ad be)) eb underlying23 AX ?_);rintro e8 ff _ ⟨_,_,rfl,rfl,⟨_,_,rfl,rfl,rfl⟩⟩ ed;refine BQ ed C7 AX V V (BZ b5 BC λfk ee=>?_);refine JS.sx 2 ee AX λef=>?_;refine C8 2 ef V λbi am a6 aw=>C 2 V (F7 6 [U] ⟨⟨1,_,V⟩,trivial⟩ aw λO=>?_);refine JG.fd 0 O underlying27 Av V V V V (JG.lp 1 O 1 a6 aw ⟨⟨1,_,V⟩,trivial⟩ AV ?_);let⟨eg,ca,ej⟩:=bs ec;obtain⟨_,rfl,_,_,ek⟩:=Im (kk:=5) (pp:=rI) (Rp.Ag _ am al) ca;refine A6 (v:=.pointer (some ⟨U,0+Int.toNat (K.2.1)*1,none⟩)) 2 O V V (λρ h s' a0=>J8 (kk:=5) (pp:=rI) (Rp.Ag _ am al) ca underlying85 Av (h _ _ V) (h _ _ V)) (A6 (v:=iV eg) 3 O V V (λρ h s' a0=>Yl.load AV (h _ _ V) (Oq (l:=[]) 1 aw V (by simp[AH]) a0 (ek 0 _ V))) ?_);refine JG.fd 4 O underlying27 Av V V V V (JG.lp 5 O 2 a6 aw ⟨⟨1,_,V⟩,trivial⟩ AV ?_);refine Cn [6,7,8] ?_;let⟨Z,el,em⟩:=bs ej;refine Bw el V V V ?_;let⟨fl,bo,eo⟩:=bs em;obtain⟨_,rfl,_,_,fm⟩:=Im (kk:=5) (pp:=rI) (Rp.Ag _ am al) bo;refine Ao (v:=.pointer (some ⟨U,0+Int.toNat (K.2.1)*1,none⟩)) V (λρ h=>J8 (kk:=5) (pp:=rI) (Rp.Ag _ am al) bo underlying85 Av (h _ _ V) (h _ _ V)) ?_;have a7:=Pr (us:=[iV Z]) (y:=Z) (Rp.Ag _ am al) bo V;refine Ht (v:=iV Z) (l:=[]) (ws:=aj) (us:=[iV Z]) (o:=Int.toNat (K.2.1)*1) 1 V V V aw V V V Av (by simp[Value.cells,CL]) V a7.2 λap=>?_;replace a7:=a7.1;generalize er:Ja aj (Int.toNat (K.2.1)*1) [iV Z]=bv at ap ⊢;have a2:(rA 5 rI).r bi bv (ai.1.set (Int.toNat K.2.1) Z):=by rw[← er];exact a7
   refine JL.done (F7 6 [U] ⟨⟨1,_,V⟩,trivial⟩ ap λO=>?_);refine JG.fd 0 O underlying27 Av V V V V (JG.lp 1 O 0 a6 ap ⟨⟨1,_,V⟩,trivial⟩ AV ?_);let⟨et,cc,eu⟩:=bs eo;obtain⟨_,rfl,_,_,ew⟩:=Im (kk:=5) (pp:=rI) a2 cc;refine A6 (v:=.pointer (some ⟨U,0+Int.toNat (K.1)*1,none⟩)) 2 O V V (λρ h s' a0=>J8 (kk:=5) (pp:=rI) a2 cc underlying85 Av (h _ _ V) (h _ _ V)) (A6 (v:=iV et) 3 O V V (λρ h s' a0=>Yl.load AV (h _ _ V) (Oq (l:=[]) 1 ap V (by simp[AH]) a0 (ew 0 _ V))) ?_);refine JG.fd 4 O underlying27 Av V V V V (JG.lp 5 O 2 a6 ap ⟨⟨1,_,V⟩,trivial⟩ AV ?_);refine Cn [6,7,8] ?_;let⟨ag,ex,ey⟩:=bs eu;refine Cx ex V V V ?_;let⟨fo,bw,eA⟩:=bs ey;obtain⟨_,rfl,_,_,fs⟩:=Im (kk:=5) (pp:=rI) a2 bw;refine Ao (v:=.pointer (some ⟨U,0+Int.toNat (K.1)*1,none⟩)) V (λρ h=>J8 (kk:=5) (pp:=rI) a2 bw underlying85 Av (h _ _ V) (h _ _ V)) ?_;have a8:=Pr (us:=[iV ag]) (y:=ag) a2 bw V;refine Ht (v:=iV ag) (l:=[]) (ws:=bv) (us:=[iV ag]) (o:=Int.toNat (K.1)*1) 1 V V V ap V V V Av (by simp[Value.cells,CL]) V a8.2 λce=>?_;replace a8:=a8.1;generalize eC:Ja bv (Int.toNat (K.1)*1) [iV ag]=ci at ce ⊢;have eN:(rA 5 rI).r bi ci ((ai.1.set (Int.toNat K.2.1) Z).set (Int.toNat K.1) ag):=by rw[← eC];exact a8
   let⟨e0,e1,e3⟩:=bs eA;refine C 3 V (Bw e1 V V V ?_);refine C 2 V ?_;cases e3;exact AD (c9 _ _ (((ai.1.set (Int.toNat K.2.1) Z).set (Int.toNat K.1) ag),e0) ⟨bi,ci,V,V,(be.Ad am),ce,eN⟩ bg) V
  .refine JL.exit V ?_;cases ea;obtain rfl:=c8 _ bg;exact AD (c7 _ _ ⟨a5,aj,V,V,be,b5,al⟩) V
def f204(fu_:Nat)(p0:List Int)(p1:Int×Int×Int):Option ((List Int)):=(ix p0 p1.1).bind λO=>(Az (O+p1.2.2)).bind λK=>(ix p0 p1.1).bind λZ=>(ix (p0.set (Int.toNat p1.1) K) p1.2.1).bind λU=>(Az (U - p1.2.2)).bind λY=>(ix (p0.set (Int.toNat p1.1) K) p1.2.1).bind λac=>some ((p0.set (Int.toNat p1.1) K).set (Int.toNat p1.2.1) Y)
theorem It{w1:Lv_}{p0:List Int}{p1:Int×Int×Int}(ai:(rA 5 rI).r E w1 p0){r:(List Int)}(a5:f204 fu_ p0 p1=some r):AY J 68 [.agg w1.toArray,.agg #[iV p1.1,iV p1.2.1,iV p1.2.2]] E [] (λw E' B'=>∃(a6:Lv_),w=.agg a6.toArray/\B'=[]/\(rA 5 rI).r E' a6 r):=by
 refine Bm func68 λQ co cs H be bg=>?_;unfold f204 at a5;refine C 2 V (JS.box (v:=.agg w1.toArray) V V V be V λr3 bi=>?_);refine Cs bi λcp ap Z aq bo=>?_;refine BZ bo Ku λct aj=>?_;refine C 2 V (F7 6 [r3] ⟨⟨1,_,V⟩,trivial⟩ aj λK=>?_);refine JG.fd 0 K underlying27 Av V V V V (JG.lp 1 K 0 aq aj ⟨⟨1,_,V⟩,trivial⟩ AV ?_);let⟨bv,a7,bw⟩:=bs a5;obtain⟨_,rfl,_,_,bx⟩:=Im (kk:=5) (pp:=rI) (Rp.Ag _ Z ai) a7;refine A6 (v:=.pointer (some ⟨r3,0+Int.toNat (p1.1)*1,none⟩)) 2 K V V (λρ h s' al=>J8 (kk:=5) (pp:=rI) (Rp.Ag _ Z ai) a7 underlying85 Av (h _ _ V) (h _ _ V)) (A6 (v:=iV bv) 3 K V V (λρ h s' al=>Yl.load AV (h _ _ V) (Oq (l:=[]) 1 aj V (by simp[AH]) al (bx 0 _ V))) ?_);refine JG.fd 4 K underlying27 Av V V V V (JG.lp 5 K 2 aq aj ⟨⟨1,_,V⟩,trivial⟩ AV ?_);refine Cn [6,7,8] ?_;let⟨U,b0,b1⟩:=bs bw;refine Bw b0 V V V ?_;let⟨cw,a1,b2⟩:=bs b1;obtain⟨_,rfl,_,_,cy⟩:=Im (kk:=5) (pp:=rI) (Rp.Ag _ Z ai) a1;refine Ao (v:=.pointer (some ⟨r3,0+Int.toNat (p1.1)*1,none⟩)) V (λρ h=>J8 (kk:=5) (pp:=rI) (Rp.Ag _ Z ai) a1 underlying85 Av (h _ _ V) (h _ _ V)) ?_;have aw:=Pr (us:=[iV U]) (y:=U) (Rp.Ag _ Z ai) a1 V;refine Ht (v:=iV U) (l:=[]) (ws:=w1) (us:=[iV U]) (o:=Int.toNat (p1.1)*1) 1 V V V aj V V V Av (by simp[Value.cells,CL]) V aw.2 λac=>?_;replace aw:=aw.1;generalize b3:Ja w1 (Int.toNat (p1.1)*1) [iV U]=a2 at ac ⊢;have am:(rA 5 rI).r ap a2 (p0.set (Int.toNat p1.1) U):=by rw[← b3];exact aw
 refine C 2 V (F7 6 [r3] ⟨⟨1,_,V⟩,trivial⟩ ac λK=>?_);refine JG.fd 0 K underlying27 Av V V V V (JG.lp 1 K 1 aq ac ⟨⟨1,_,V⟩,trivial⟩ AV ?_);let⟨b4,a8,b5⟩:=bs b2;obtain⟨_,rfl,_,_,b6⟩:=Im (kk:=5) (pp:=rI) am a8;refine A6 (v:=.pointer (some ⟨r3,0+Int.toNat (p1.2.1)*1,none⟩)) 2 K V V (λρ h s' al=>J8 (kk:=5) (pp:=rI) am a8 underlying85 Av (h _ _ V) (h _ _ V)) (A6 (v:=iV b4) 3 K V V (λρ h s' al=>Yl.load AV (h _ _ V) (Oq (l:=[]) 1 ac V (by simp[AH]) al (b6 0 _ V))) ?_);refine JG.fd 4 K underlying27 Av V V V V (JG.lp 5 K 2 aq ac ⟨⟨1,_,V⟩,trivial⟩ AV ?_);refine Cn [6,7,8] ?_;let⟨ag,ca,cc⟩:=bs b5;refine Cx ca V V V ?_;let⟨c0,a3,ce⟩:=bs cc;obtain⟨_,rfl,_,_,c1⟩:=Im (kk:=5) (pp:=rI) am a3;refine Ao (v:=.pointer (some ⟨r3,0+Int.toNat (p1.2.1)*1,none⟩)) V (λρ h=>J8 (kk:=5) (pp:=rI) am a3 underlying85 Av (h _ _ V) (h _ _ V)) ?_;have a0:=Pr (us:=[iV ag]) (y:=ag) am a3 V;refine Ht (v:=iV ag) (l:=[]) (ws:=a2) (us:=[iV ag]) (o:=Int.toNat (p1.2.1)*1) 1 V V V ac V V V Av (by simp[Value.cells,CL]) V a0.2 λa4=>?_;replace a0:=a0.1;generalize ci:Ja a2 (Int.toNat (p1.2.1)*1) [iV ag]=O at a4 ⊢;have Y:(rA 5 rI).r ap O ((p0.set (Int.toNat p1.1) U).set (Int.toNat p1.2.1) ag):=by rw[← ci];exact a0
 refine C 3 V (Ao (v:=.agg O.toArray) V (λρ h=>HN (kk:=5) (pp:=rI) Y Ic IQ (h _ _ V) (Hg (l:=[]) 1 a4 V)) ?_);refine Ht (v:=.agg O.toArray) (l:=[]) (ws:=(List.replicate 5 (iV 0):Lv_)) (us:=O) (o:=0) 3 V V V a4 V V V (by rw[Cc (kk:=5) (pp:=rI) Y];exact A5 type85) ((rA 5 rI).one Y) V (by rw[Cc (kk:=5) (pp:=rI) Y,Cc (kk:=5) (pp:=rI) (GJ (E:=ap) (pp:=rI) rfl)];omega) λa9=>?_;rw[Js (by rw[Cc (kk:=5) (pp:=rI) Y,Cc (kk:=5) (pp:=rI) (GJ (E:=ap) (pp:=rI) rfl)])] at a9 ⊢;refine JL.done (JS.drop 1 a9 V λbb=>?_);cases ce;refine JL.ret (v:=.agg O.toArray) V V (BK.list func68 V (vs:=[.agg O.toArray]) ⟨⟨_,V,Ld.many (vs:=O) Ic (by rw[Cc (kk:=5) (pp:=rI) Y];exact A5 type85) (Hg (l:=[]) 3 bb V)⟩,trivial⟩) (DW 3 bb V λck=>?_);exact bg Z V ⟨O,V,V,Y⟩ ck
def f106(fu_:Nat)(p0:Int)(p1:Int):Option Nat:=(Az (max p0 p1 - 1)).bind λx1=>(ix ([1,2,4,8]:List Nat) x1).bind λK=>(Az (4*(min p0 p1))).bind λO=>(RJ K O).bind λU=>some U
theorem Ww{p0:Int}{r:Nat}(K:f106 fu_ p0 p1=some r):AY J 91 [iV p0,iV p1] E [] (λw E' B'=>w=.int .u32 ((r:Nat):Int)/\B'=[]):=by
 refine Bm func91 λQ aq cs H O U=>?_;unfold f106 at K;refine C 8 V (Ao (v:=iV (min p0 p1)) V (λρ h=>Yl.min2 (h _ _ V) (h _ _ V)) ?_);refine C 2 V (Ao (v:=iV (max p0 p1)) V (λρ h=>Yl.max2 (h _ _ V) (h _ _ V)) ?_);refine C 5 V (Ao (v:=.agg (([1,2,4,8]:List Nat).map λx=>Value.int .u32 ((x:Nat):Int)).toArray) V (λρ h=>b7 h underlying210 (Eg type210) (A5 type99) V V) ?_);let⟨x1,Y,Z⟩:=bs K;refine C 1 V (Cx Y V V V ?_);let⟨aw,ac,ag⟩:=bs Z;refine WE (bS (E:=E) ([1,2,4,8]:List Nat)) ac V V V V V underlying210 (A5 type99) (Dc underlying99) ?_ (λ_=>V);rintro _ rfl;let⟨a0,ai,aj⟩:=bs ag;refine C 1 V (Ao V (λρ h=>Na (h _ _ V) (h _ _ V) ai) ?_);let⟨al,am,ap⟩:=bs aj;refine Ao (v:=.int .u32 ((al:Nat):Int)) V (λρ h=>ZA (h _ _ V) (h _ _ V) am) (C 2 V ?_);cases ap;exact AK func91 V V (U AL V ⟨V,V⟩ O)
def f136(fu_:Nat)(p0:Nat)(p1:Int)(p2:Int):Option Bool:=(f106 fu_ p1 p2).bind λx1=>(Pq p0 x1).bind λK=>some (decide ((((K):Nat):Int)≠(((0):Nat):Int)))
theorem Wr{p0:Nat}{r:Bool}(K:f136 fu_ p0 p1 p3=some r):AY J 66 [.int .u32 ((p0:Nat):Int),iV p1,iV p3] E [] (λw E' B'=>w=.bool r/\B'=[]):=by
 refine Bm func66 λQ am cs H O U=>?_;unfold f136 at K;let⟨x1,Y,Z⟩:=bs K;refine C 9 V (B9 (Ww Y) V V (A4 func91 V) O λap ac ag=>?_);let⟨ai,aj,al⟩:=bs Z;refine Ao (v:=.int .u32 ((ai:Nat):Int)) V (λρ h=>Zc (h _ _ V) (h _ _ V) aj) (C 3 V ?_);cases al;exact AK func66 V V (U ac V ⟨V,V⟩ ag)
def Vt(fu_:Nat)(O:(A7)×Int)(K:(A7)×Int):Option (Bq ((A7)×Int) ((A7))):=if K.2<O.2 then((room K.1 (K.2,O.2)).bind λU=>(Az (K.2+1)).bind λY=>some (.more (U,Y))) else(some (.done K.1))
def VE(fu_:Nat)(p0:A0)(K:(A7)×Int):Option (Bq ((A7)×Int) ((A7))):=if K.2<(p0.1.length:Int) then(Option.bind (iter (Vt fu_ K) fu_ (K.1,0)) λO=>(Az (K.2+1)).bind λU=>some (.more (O,U))) else(some (.done K.1))
def f133(fu_:Nat)(p0:A0):Option ((A7)):=Option.bind (iter (VE fu_ p0) fu_ ([],0)) λK=>some K
theorem eK(e0:Am (rL rI) E a1 c2 p0.1)(e1:Am Ay E a9 bb p0.2){r:(A7)}(be:f133 fu_ p0=some r):AY J 115 [.agg #[sV a1 p0.1 c2,sV a9 p0.2 bb]] E [] (λw E' B'=>∃(bg:Ap) (bi:Nat),w= sV bg r bi/\B'=[]/\Am GR E' bg bi r):=by
 refine Bm func115 λQ e3 cs H b5 b6=>?_;unfold f133 at be;refine C 2 V (Cs b5 λe4 a3 ca cc ce=>?_);refine C 9 V (JL.fd underlying72 BD V V V ?_);refine BH 0 cc underlying25 DD Ed ?_;refine JL.ln underlying22 V V V ?_;let⟨bo,ci,ck⟩:=bs be;refine C 2 V (Bu (λL s=>∃(a4:LH) (al:Ap) (am:Nat) (a5:Seg),Jn a3 H a4 [a5] [(3,sV al bo am)] L s (OL 91 GR a4 al am a5 bo)) ?_ ?_);rintro _ _ ⟨a4,al,am,a5,rfl,rfl,co,cp,ct⟩;refine C 5 V (BO 0 ct cp V λe5 cw cy c0=>?_);cases ck;exact AK func115 V V (b6 ((ca.Ad co).Ad cw) V ⟨al,am,V,V,cy⟩ c0);intro c1;refine JL.block (Co ci (λL s K=>∃(O:LH) (Y:Ap) (Z:Nat) (ac:Seg),Jn a3 H O [ac] [(3,sV Y K.1 Z),(9,iV (p0.1.length:Int)),(10,iV K.2)] L s (OL 91 GR O Y Z ac K.1)) ⟨a3,none,0,[],V,V,AL,ce,OL.nil⟩ ?_);rintro _ _ K ⟨O,Y,Z,ac,rfl,rfl,bv,bw,bx⟩ c3 ⟨e6,a6⟩ c4;have b0:=a6;unfold VE at b0;refine C 5 V (AP b0 (λc5 c6=>?_) (λc5 c7=>?_));let⟨a7,c8,c9⟩:=bs c6;refine C 13 V (Bu (λL s=>∃(ap:LH) (aq:Ap) (aw:Nat) (a0:Seg),Jn O H ap [a0] [(3,sV aq a7 aw),(9,iV (p0.1.length:Int)),(10,iV K.2)] L s (OL 91 GR ap aq aw a0 a7)) ?_ ?_);rintro _ _ ⟨ap,aq,aw,a0,rfl,rfl,dd,dj,ea⟩;let⟨eb,ec,ed⟩:=bs c9;refine C 2 V (Bw ec V V V ?_);refine C 2 V ?_;cases ed;exact AD (c4 _ _ (a7,eb) ⟨ap,aq,aw,a0,V,V,(bv.Ad dd),dj,ea⟩ a6) V;intro ee;refine JL.block (Co c8 (λL s U=>∃(ag:LH) (ai:Ap) (aj:Nat) (a2:Seg),Jn O H ag [a2] [(3,sV ai U.1 aj),(4,iV K.2),(9,iV (p0.1.length:Int)),(10,iV K.2),(13,iV K.2),(14,iV U.2)] L s (OL 91 GR ag ai aj a2 U.1)) ⟨O,Y,Z,ac,V,V,AL,bw,bx⟩ ?_);rintro _ _ U ⟨ag,ai,aj,a2,rfl,rfl,b1,b2,b3⟩ ef ⟨e7,a8⟩ eg;have b4:=a8;unfold Vt at b4;refine C 5 V (AP b4 (λej ek=>?_) (λej el=>?_));refine C 12 V (Ao (v:=.agg #[iV U.2,iV K.2]) V (λρ h=>Dk [(0,1),(1,1)] h JZ underlying91 ⟨V,A5 type3,V,A5 type3,trivial⟩ V V) ?_);let⟨em,eo,er⟩:=bs ek;refine JS.app (pp:=GR) (v:=.agg #[iV U.2,iV K.2]) (a:=ai) (c:=aj) 0 eo V V V V (λ_=>V) V (λ_=>V) V V V underlying181 underlying181 underlying181 GH (BJ type91) JZ V (by decide) (by decide) (by decide) (by decide) b3 ⟨_,_,V,V,V⟩ b2 V λe8 et eu ew ex ey=>?_;let⟨eA,eC,eN⟩:=bs er;refine C 4 V (Bw eC V V V ?_);refine C 2 V ?_;cases eN;exact AD (eg _ _ (em,eA) ⟨ag,et,eu,ew,V,V,b1,ey,ex⟩ a8) V;refine JL.exit V ?_;cases el;obtain rfl:=ef _ a8;exact AD (ee _ _ ⟨ag,ai,aj,a2,V,V,b1,b2,b3⟩) V;refine JL.exit V ?_;cases c7;obtain rfl:=c3 _ a6;exact AD (c1 _ _ ⟨O,Y,Z,ac,V,V,bv,bw,bx⟩) V
def f113(fu_:Nat)(p0:Int×Int×Int)(p1:Int×Int×Int):Option Int:=if p0.1≠p1.1 then((Az (p0.1 - p1.1)).bind λK=>some K) else(if p0.2.1≠p1.2.1 then((Az (p0.2.1 - p1.2.1)).bind λO=>some O) else((Az (p0.2.2 - p1.2.2)).bind λU=>some U))
theorem WM{p0 p1:Int×Int×Int}(ag:f113 fu_ p0 p1=some r):AY J 84 [.agg #[iV p0.1,iV p0.2.1,iV p0.2.2],.agg #[iV p1.1,iV p1.2.1,iV p1.2.2]] E [] (λw E' B'=>w=iV r/\B'=[]):=by
 refine Bm func84 λQ a7 cs H ai Y=>?_;unfold f113 at ag;refine C 2 V (Cs ai λr2 a8 Z O aj=>?_);refine Cs aj λa9 bb K U ac=>?_;refine C 6 V (BH 0 (O.Ag K) underlying27 Av AV ?_);refine BH 0 U underlying27 Av AV ?_;refine C 3 V (AP ag (λal am=>?_) (λal ap=>?_));refine C 2 V (BH 0 (O.Ag K) underlying27 Av AV ?_);refine BH 0 U underlying27 Av AV ?_;let⟨be,aq,aw⟩:=bs am;refine Cx aq V V V (C 2 V ?_);cases aw;exact AK func84 V V (Y (Z.Ad K) V ⟨V,V⟩ ac);refine C 2 V (BH 1 (O.Ag K) underlying27 Av AV ?_);refine BH 1 U underlying27 Av AV ?_;refine C 3 V (AP ap (λa0 a1=>?_) (λa0 a2=>?_));refine C 2 V (BH 1 (O.Ag K) underlying27 Av AV ?_);refine BH 1 U underlying27 Av AV ?_;let⟨bg,a3,a4⟩:=bs a1;refine Cx a3 V V V (C 2 V ?_);cases a4;exact AK func84 V V (Y (Z.Ad K) V ⟨V,V⟩ ac);refine C 4 V (BH 2 (O.Ag K) underlying27 Av AV ?_);refine BH 2 U underlying27 Av AV ?_;let⟨bi,a5,a6⟩:=bs a2;refine Cx a5 V V V (C 2 V ?_);cases a6;exact AK func84 V V (Y (Z.Ad K) V ⟨V,V⟩ ac)
def WR(fu_:Nat)(p0:List Int)(K:Int×Int):Option (Bq (Int×Int) Int):=if K.2<(p0.length:Int) then((ix p0 K.2).bind λO=>(Az (K.1+O)).bind λU=>(Az (K.2+1)).bind λY=>some (.more (U,Y))) else(some (.done K.1))
def f85(fu_:Nat)(p0:List Int):Option Int:=Option.bind (iter (WR fu_ p0) fu_ (0,0)) λK=>some K
theorem Iv{p0:List Int}(ag:Am rI E a1 c2 p0)(Y:f85 fu_ p0=some r):AY J 56 [sV a1 p0 c2] E [] (λw E' B'=>w=iV r/\B'=[]):=by
 refine Bm func56 λQ bw cs H ai aj=>?_;unfold f85 at Y;refine C 12 V (JL.ln underlying28 V V V ?_);let⟨al,am,ap⟩:=bs Y;refine C 2 V (FQ [] [(3,iV al)] (λbx aq aw=>?_) (λa0=>?_));refine C 5 V ?_;cases ap;exact AK func56 V V (aj aq V ⟨V,V⟩ aw);refine JL.block (Du am (λK=>[]) (λK=>[(3,iV K.1),(6,sV a1 p0 c2),(7,iV (p0.length:Int)),(8,iV K.2)]) AL ai ?_);rintro K b0 O Z a2 ⟨b1,U⟩ a3;have ac:=U;unfold WR at ac;refine C 5 V (AP ac (λa4 a5=>?_) (λa4 a6=>?_));let⟨b2,a7,a8⟩:=bs a5;refine C 5 V (JS.ix (ag.Ag O) a7 underlying28 Av ?_);rintro b3 b4 _ rfl a9;refine CJ 0 a9 AV V V V ?_;let⟨bb,be,bg⟩:=bs a8;refine C 5 V (Bw be V V V ?_);let⟨bi,bo,bv⟩:=bs bg;refine C 4 V (Bw bo V V V ?_);refine C 2 V ?_;cases bv;exact a3 (bb,bi) O Z V U;refine JL.exit V ?_;cases a6;obtain rfl:=a2 _ U;exact a0 O Z V
end Pal
namespace Pal
open Go Go.Conc
variable {P:Program}{Q:Gs_}{n:Nat}{ds:Ld_}{ops:Ao_}{k:Li_}{cs:Lf_}{L:Env}{E H:LH}{S:List Seg}
variable {d:Option Tmp}{w:Operand}{t u ty:TypeId}{p:String}{af:Ae_}{g:On_}{rest:List Nat}{s:St}{ρ:Operand->Value}
variable{α:Type}{bk c kk o:Nat}{ws:Lv_}{hi:Int}
section
variable {J:Judge P}{b:Frame}
variable {x y:Operand}{e:TypeId}{i:Nat}
theorem Am.jM{pp:Rp α}{xs ys:List α}(U:At E bk o ws)(O:(rA kk pp).r E ws xs)(hC:Jc xs 0 hi=some ys):Am pp E (some ⟨bk,o,none⟩) kk ys:=by
 have ag:=O.1;unfold Jc at hC;split at hC
 .rename_i hb;cases hC;refine⟨by simp;omega,.inr ⟨bk,o,V,λq z K=>?_⟩⟩;simp only[Int.toNat_zero,t7,r4] at K;split at K
  .have Y:ix xs (q:Int)=some z:=by unfold ix;rw[d0 (by omega)];simpa using K
   let⟨us,Z,ac,_,_⟩:=iv O U Y;exact⟨us,Z,by simpa using ac⟩
  .cases K
 .cases hC
theorem dp{pp:Rp α}{xs ys:List α}(U:At E bk o ws)(K:(rA kk pp).r E ws xs)(hC:Jc xs 0 hi=some ys)
  (Y:ops[i]?=some ⟨d,.slice t x none (some w) none,ty,p,af,g⟩) (hw:A3 L ops ⟨d,.slice t x none (some w) none,ty,p,af,g⟩=some true) (Z:BV b n ⟨d,.slice t x none (some w) none,ty,p,af,g⟩=true)
  (ac:ev L x=some (.pointer (some ⟨bk,o,none⟩))) (ag:ev L w=some (iV hi)) (ai:P.underlying t=some (.array kk e)) (aj:Bz P e=some pp.n)
  (h:Am pp E (some ⟨bk,o,none⟩) kk ys->JL J Q b n (AE L d (.slice (some ⟨bk,o,none⟩) ys.length kk)) ds (.inRegion ops rest::k) cs s):
  JL J Q b n L ds (.inRegion ops (i::rest)::k) cs s:=by
 have al:=Am.jM U K hC;have aq:=K.1;refine Bp Y hw Z (λρ O=>?_) (h al);refine Gi (sm:=Instr.sliceAt t (ρ x) none (some (ρ w)) none) V ?_;rw[O _ _ ac,O _ _ ag];unfold Jc at hC;split at hC
 .rename_i hb;cases hC;obtain⟨aw,a0,a1⟩:=hb;unfold Instr.sliceAt;refine AA _ _ (CM ai ?_);simp only[Instr.sureAddr,bind,Sem.bind,pure];have am:Instr.sliceBounds false kk kk none (some (iV hi)) none=(pure (0,hi.toNat,kk):Sem _):=by
   simp only[Instr.sliceBounds,Instr.sliceBound,asIntOf,bind,Sem.bind,pure];rw[d0 (by omega)];rfl
  rw[am];simp only[pure,Sem.bind];refine AA (x:=Go.sizeOf e) _ (Fv aj ?_);have ap:(if kk=0 then(⟨bk,o,none⟩:Addr) else Addr.add ⟨bk,o,none⟩ (0*pp.n))=⟨bk,o,none⟩:=by
   split;rfl;rw[EG rfl];simp
  rw[ap];have e2:((xs.take hi.toNat).drop (0:Int).toNat).length=hi.toNat - 0:=by simp;omega
  rw[e2];exact⟨V,V⟩
 .cases hC
theorem YR{a:Option Addr}{l:Nat}(K:P.underlying t=some (.slice e))(O:ρ x=.slice a l c)(U:ρ (.const (.slice none 0 0))=.slice none 0 0):Yl P ⟨d,.binOp .neq t x (.const (.slice none 0 0)) u,ty,p,af,g⟩ ρ s (.bool (!a.isNone)):=by
 have Y:∀o,eqGuard o t x (.const (.slice none 0 0)) (.slice a l c) (.slice none 0 0)=Sem.pure ():=λo=>by cases o<;>rfl
 refine Gi (sm:=do eqGuard .neq t x (.const (.slice none 0 0)) (ρ x) (ρ (.const (.slice none 0 0)));binOp .neq t (ρ x) (ρ (.const (.slice none 0 0)))) V ?_
 rw[O,U,Y];simp only[bind,Sem.bind];have hb:binOp .neq t (.slice a l c) (.slice none 0 0)=(do pure (.bool (!(← Op.equal t (.slice a l c) (.slice none 0 0))))):=V
 rw[hb];refine AA (x:=Op.equal t _ _) _ ?_;unfold Op.equal Op.maxDepth Op.equalIn;refine AA _ _ (CM K ?_);cases a with
 | none=>exact⟨rfl,rfl⟩
 | some ad=>exact⟨rfl,rfl⟩
end
open Go.Proofs Go.Proofs.Tryz
variable {J:Judge Tryz.prog}
def V0(fu_:Nat)(p0:A0)(p1:List Int)(K:Int):Option (Bq Int ((A0×Int)⊕(Unit))):=if K<(p1.length:Int) then((ix p1 K).bind λO=>(Az ((p0.1.length:Int) - 1)).bind λU=>(f91 fu_ O 0 U).bind λY=>if(!Y)=true then(some (.done (Sum.inl (([],[]),3)))) else((Az (K+1)).bind λZ=>some (.more Z))) else(some (.done (Sum.inr ())))
def f70(fu_:Nat)(p0:A0)(p1:List Int):Option (A0×Int):=(f47 fu_ p0).bind λK=>if K≠0 then(some (([],[]),K)) else(Option.bind (iter (V0 fu_ p0 p1) fu_ 0) λO=>Sum.elim (λr=>some r) (λac=>Option.bind (if(p1.length:Int)=2 then((ix p1 (0)).bind λU=>(ix p1 (1)).bind λY=>some (decide (U=Y))) else(some false)) λZ=>if Z=true then(some (([],[]),8)) else(some (p0,0))) O)
variable{a1:Ap}{c2 fu_ sz:Nat}
theorem KL{Y ai:Ap}{dep:Nat}{p0:A0}{p1:List Int}(a5:Am (rL rI) E a1 c2 p0.1)(a6:Am Ay E Y sz p0.2)(aq:Am rI E ai dep p1){r:A0×Int}(a7:f70 fu_ p0 p1=some r):AY J 40 [.agg #[sV a1 p0.1 c2,sV Y p0.2 sz],sV ai p1 dep] E [] (λw E' B'=>∃(a8:Ap) (a9:Nat) (bb:Ap) (be:Nat),w=.tuple #[.agg #[sV a8 r.1.1 a9,sV bb r.1.2 be],iV r.2]/\B'=[]/\Am (rL rI) E' a8 a9 r.1.1/\Am Ay E' bb be r.1.2):=by
 refine Bm func40 λQ fo cs H ck am=>?_;unfold f70 at a7;refine C 2 V (Cs ck λaw fs K a0 co=>?_);refine BZ co HM λag cp=>?_;refine C 5 V (BQ a0 Cb BD V V ?_);let⟨bg,ct,cw⟩:=bs a7;refine B9 (iI (a5.Ag K) (a6.Ag K) ct) V V (A4 func62 V) cp λcy O bi=>C 7 V (AP cw (λc0 c1=>?_) (λc0 c3=>?_));refine C 2 V (Ao (v:=.agg #[nS,nS]) V (λρ h=>Dk [(0,2)] h HM underlying72 ⟨V,A5 type25,trivial⟩ V V) ?_);refine C 1 V (JS.sx 2 bi Ee λbo=>?_);refine C 2 V ?_;cases c1;refine JL.ret (v:=.tuple #[.agg #[nS,nS],iV bg]) V V (BK.list func40 V (vs:=[.agg #[nS,nS],iV bg]) ⟨⟨_,V,Ld.many (vs:=[nS,nS]) F1 Ee (Em (off:=0) 2 bo V V)⟩,V,trivial⟩) (DW 2 bo V λc4=>?_);exact am (K.Ad O) V ⟨none,0,none,0,V,V,Am.nil,Am.nil⟩ c4;refine C 5 V (JL.ln underlying28 V V V ?_);let⟨bv,c5,bw⟩:=bs c3;refine C 2 V (Bu (λL s=>∃(bx:Unit) (a2:LH),bv=Sum.inr bx/\Jm cy H a2 [bX ag #[nS,nS] 72] [(1,sV ai p1 dep),(2,Ar aw 0),(4,Ar ag 0)] L s) ?_ ?_);rintro _ _ ⟨bx,a2,rfl,rfl,rfl,ac,b0⟩;have c6:=elim_inr bw;refine C 2 V (Ei 12 λU=>?_);refine Dt 0 U V V (A6 1 U V V (λρ h s' fv=>Yl.len V underlying28 (h _ _ V)) ?_);refine A9 U V [2,3] V ?_;let⟨c7,b1,c8⟩:=bs c6;refine F3 0 (tR_ 12 0) (λL s=>L=[(2,Ar aw 0),(4,Ar ag 0),(41,.bool c7)]/\s=Ak a2 H [bX ag #[nS,nS] 72]) ?_ ?_;rintro _ _ ⟨rfl,rfl⟩;refine AQ.fin (by decide+kernel) (Cm c8 (λc9 dd=>?_) (λc9 dj=>?_));refine C 2 V (Ao (v:=.agg #[nS,nS]) V (λρ h=>Dk [(0,2)] h HM underlying72 ⟨V,A5 type25,trivial⟩ V V) ?_);refine JS.sx 0 b0 Ee λb2=>?_;refine C 2 V ?_;cases dd;refine JL.ret (v:=.tuple #[.agg #[nS,nS],iV 8]) V V (BK.list func40 V (vs:=[.agg #[nS,nS],iV 8]) ⟨⟨_,V,Ld.many (vs:=[nS,nS]) F1 Ee (Em (off:=0) 0 b2 V V)⟩,V,trivial⟩) (DW 0 b2 V λea=>?_);exact am ((K.Ad O).Ad ac) V ⟨none,0,none,0,V,V,Am.nil,Am.nil⟩ ea;refine C 3 V (BQ (a0.Ag (O.Ad ac)) Cb BD V V ?_);refine Ao (v:=.agg #[sV a1 p0.1 c2,sV Y p0.2 sz]) V (λρ h=>Dk [(0,2)] h HM underlying72 ⟨V,A5 type25,trivial⟩ V V) (JS.sx 0 b0 Ee λb3=>?_);refine C 2 V ?_;cases dj;refine JL.ret (v:=.tuple #[.agg #[sV a1 p0.1 c2,sV Y p0.2 sz],iV 0]) V V (BK.list func40 V (vs:=[.agg #[sV a1 p0.1 c2,sV Y p0.2 sz],iV 0]) ⟨⟨_,V,Ld.many (vs:=[sV a1 p0.1 c2,sV Y p0.2 sz]) F1 Ee (Em (off:=0) 0 b3 V V)⟩,V,trivial⟩) (DW 0 b3 V λeb=>?_);exact am ((K.Ad O).Ad ac) V ⟨a1,c2,Y,sz,V,V,(a5.Ag ((K.Ad O).Ad ac)),(a6.Ag ((K.Ad O).Ad ac))⟩ eb;intro b4;refine Hs (q:=(p1.length:Int)=2) (i:=33) V (λa3=>?_) (λa3=>?_);have ec:=ip b1 a3;refine Dt 4 U V V ?_;let⟨fw,ed,ee⟩:=bs ec;refine CU 5 (aq.Ag ((K.Ad O).Ad ac)) ed U underlying28 Av ?_;rintro fN gc _ rfl ef;refine CY 6 U 0 ef AV V V V V ?_;refine Dt 7 U V V ?_;let⟨ge,eg,ej⟩:=bs ee;refine CU 8 (aq.Ag ((K.Ad O).Ad ac)) eg U underlying28 Av ?_;rintro gg gh _ rfl ek;refine CY 9 U 0 ek AV V V V V ?_;refine A9 U V [10,11] V ?_;cases ej;refine En ?_ (b4 _ _ ⟨V,V⟩);exact⟨V,V,V,trivial⟩;have el:=im b1 a3;refine A9 U V [4,5,6,7,8,9,10,11] V ?_;cases el;refine En ?_ (b4 _ _ ⟨V,V⟩);exact⟨V,V,V,trivial⟩;intro em;refine JL.block (Du c5 (λa4=>[bX ag #[nS,nS] 72]) (λa4=>[(1,sV ai p1 dep),(2,Ar aw 0),(4,Ar ag 0),(15,sV ai p1 dep),(16,iV (p1.length:Int)),(17,iV a4)]) AL bi ?_);rintro a4 eo al b5 b6 ⟨gt,ap⟩ er;have ca:=ap;unfold V0 at ca;refine C 5 V (AP ca (λet eu=>?_) (λet ew=>?_));let⟨gE,ex,ey⟩:=bs eu;refine C 5 V (JS.ix (aq.Ag ((K.Ad O).Ad al)) ex underlying28 Av ?_);rintro gO g3 _ rfl eA;refine CJ 0 eA AV V V V (C 5 V ?_);refine BH 0 (a0.Ag (O.Ad al)) underlying25 DD Ed ?_;refine JL.ln underlying22 V V V ?_;let⟨g4,eC,eN⟩:=bs ey;refine Cx eC V V V ?_;let⟨e0,e1,e3⟩:=bs eN;refine B9 (Nv e1) V V MO b5 λg5 cc ce=>Ao (v:=.bool (!e0)) V (λρ h=>Yl.not (h _ _ V)) (JL.done ?_);refine Cm e3 (λe4 e5=>?_) (λe4 e6=>?_);refine C 2 V (Ao (v:=.agg #[nS,nS]) V (λρ h=>Dk [(0,2)] h HM underlying72 ⟨V,A5 type25,trivial⟩ V V) ?_);refine JS.sx 0 ce Ee λci=>?_;refine C 2 V ?_;cases e5;obtain rfl:=b6 _ ap;have e7:=elim_inl bw;cases e7;refine JL.ret (v:=.tuple #[.agg #[nS,nS],iV 3]) V V (BK.list func40 V (vs:=[.agg #[nS,nS],iV 3]) ⟨⟨_,V,Ld.many (vs:=[nS,nS]) F1 Ee (Em (off:=0) 0 ci V V)⟩,V,trivial⟩) (DW 0 ci V λe8=>?_);exact am (((K.Ad O).Ad al).Ad cc) V ⟨none,0,none,0,V,V,Am.nil,Am.nil⟩ e8;let⟨ff,fk,fl⟩:=bs e6;refine C 3 V (Bw fk V V V ?_);refine C 2 V ?_;cases fl;exact er ff (al.Ad cc) ce V ap;refine JL.exit V ?_;cases ew;have fm:bv=(Sum.inr ()):=(b6 _ ap).symm;exact AD (em _ _ ⟨(),eo,fm,V,V,al,b5⟩) V
def Qp(fu_:Nat)(p0:List Int):Option ((List Int)):=(CZ ([]:List Int) p0).bind λK=>some K
variable{ad:Addr}
theorem dO{p0:List Int}(Y:Am rI E (some ad) c2 p0){r:(List Int)}(K:Qp fu_ p0=some r):AY J 49 [.slice (some ad) p0.length c2] E [] (λw E' B'=>∃(O:Ap) (U:Nat) (g0:Seg),w= sV O r U/\B'=g0/\OL 3 rI E' O U g0 r):=by
 refine Bm func49 λQ a1 cs H Z ac=>?_;unfold Qp at K;refine C 8 V (Ao (v:=.bool false) V (λρ h=>Oo (a:=(some ad)) underlying28 (h _ _ V) (h _ _ V)) ?_);refine C 5 V (Mk (pp:=rI) V V V underlying28 Av Z λr1 g2 ag ai=>?_);let⟨a2,aj,al⟩:=bs K;refine C 1 V (FM (pp:=rI) 1 aj V V V V V V V underlying28 underlying28 Av (BJ type3) BR V (by decide) (by decide) ag Y ai V λam ap aq aw a0=>?_);refine C 2 V ?_;cases al;exact AK func49 V V (ac AL V ⟨am,ap,aq,V,(by first | rfl | simp | (simp[Value.cells])),aw⟩ a0)
def Xq(fu_:Nat)(p0:List Int):Option ((List Int)):=some ([])
theorem gw{p0:List Int}(ac:Am rI E none c2 p0){r:(List Int)}(K:Xq fu_ p0=some r):AY J 49 [sV none p0 c2] E [] (λw E' B'=>∃(O:Ap) (U:Nat) (g0:Seg),w= sV O r U/\B'=g0/\OL 3 rI E' O U g0 r):=by
 refine Bm func49 λQ ag cs H Y Z=>?_;unfold Xq at K;refine C 8 V (Ao (v:=.bool true) V (λρ h=>Oo (a:=none) underlying28 (h _ _ V) (h _ _ V)) ?_);refine C 6 V ?_;cases K;exact AK func49 V V (Z AL V ⟨none,0,[],V,V,OL.nil⟩ Y)
def f87(fu_:Nat)(p0:List Int):Option (List Int):=Qp fu_ p0
theorem iQ{p0:List Int}(O:Am rI E a1 c2 p0){r:List Int}(K:f87 fu_ p0=some r):AY J 49 [.slice a1 p0.length c2] E [] (λw E' B'=>∃(U:Ap) (Y:Nat) (g0:Seg),w=.slice U r.length Y/\B'=g0/\OL 3 rI E' U Y g0 r):=by
 cases a1 with
 | some ad=>exact dO O K
 | none=>
  have Z:p0=[]:=by
   rcases O.2 with h | ⟨_,_,h,_⟩;exact h.1;cases h
  subst Z;have ac:r=[]:=by
   have ag:Qp fu_ []=some []:=V;unfold f87 at K;rw[ag] at K;exact(ep K).symm
  subst ac;exact gw (fu_:=fu_) O V
def PV(fu_:Nat)(p0:AB):Option (AB):=(CZ ([]:AB) p0).bind λK=>some K
variable{p0 r:AB}
theorem bQ(Y:Am Ay E (some ad) c2 p0)(K:PV fu_ p0=some r):AY J 162 [.slice (some ad) p0.length c2] E [] (λw E' B'=>∃(O:Ap) (U:Nat) (g0:Seg),w= sV O r U/\B'=g0/\OL 27 Ay E' O U g0 r):=by
 refine Bm func162 λQ a1 cs H Z ac=>?_;unfold PV at K;refine C 8 V (Ao (v:=.bool false) V (λρ h=>Oo (a:=(some ad)) underlying93 (h _ _ V) (h _ _ V)) ?_);refine C 5 V (Mk (pp:=Ay) V V V underlying93 AX Z λr1 g2 ag ai=>?_);let⟨a2,aj,al⟩:=bs K;refine C 1 V (FM (pp:=Ay) 1 aj V V V V V V V underlying93 underlying93 AX (BJ type27) BC V (by decide) (by decide) ag Y ai V λam ap aq aw a0=>?_);refine C 2 V ?_;cases al;exact AK func162 V V (ac AL V ⟨am,ap,aq,V,(by first | rfl | simp | (simp[Value.cells])),aw⟩ a0)
def W8(fu_:Nat)(p0:AB):Option (AB):=some ([])
theorem cX(ac:Am Ay E none c2 p0)(K:W8 fu_ p0=some r):AY J 162 [sV none p0 c2] E [] (λw E' B'=>∃(O:Ap) (U:Nat) (g0:Seg),w= sV O r U/\B'=g0/\OL 27 Ay E' O U g0 r):=by
 refine Bm func162 λQ ag cs H Y Z=>?_;unfold W8 at K;refine C 8 V (Ao (v:=.bool true) V (λρ h=>Oo (a:=none) underlying93 (h _ _ V) (h _ _ V)) ?_);refine C 6 V ?_;cases K;exact AK func162 V V (Z AL V ⟨none,0,[],V,V,OL.nil⟩ Y)
def f129(fu_:Nat)(p0:AB):Option AB:=PV fu_ p0
theorem fO(O:Am Ay E a1 c2 p0)(K:f129 fu_ p0=some r):AY J 162 [.slice a1 p0.length c2] E [] (λw E' B'=>∃(U:Ap) (Y:Nat) (g0:Seg),w=.slice U r.length Y/\B'=g0/\OL 27 Ay E' U Y g0 r):=by
 cases a1 with
 | some ad=>exact bQ O K
 | none=>
  have Z:p0=[]:=by
   rcases O.2 with h | ⟨_,_,h,_⟩;exact h.1;cases h
  subst Z;have ac:r=[]:=by
   have ag:PV fu_ []=some []:=V;unfold f129 at K;rw[ag] at K;exact(ep K).symm
  subst ac;exact cX (fu_:=fu_) O V
def f43(fu_:Nat)(p0:A0):Option ((List Int)×Int):=(f70 fu_ p0 ([])).bind λK=>if K.2≠0 then(some ([],K.2)) else((f84 fu_ K.1).bind λO=>(Jc O 0 (p0.1.length:Int)).bind λU=>(f87 fu_ U).bind λY=>some (Y,0))
theorem ig{ac:Ap}{ag:Nat}{p0:A0}(a4:Am (rL rI) E a1 c2 p0.1)(a5:Am Ay E ac ag p0.2){r:(List Int)×Int}(ai:f43 fu_ p0=some r):AY J 20 [.agg #[sV a1 p0.1 c2,sV ac p0.2 ag]] E [] (λw E' B'=>∃(aj:Ap) (al:Nat),w=.tuple #[sV aj r.1 al,iV r.2]/\B'=[]/\Am rI E' aj al r.1):=by
 refine Bm func20 λQ c4 cs H a6 am=>?_;unfold f43 at ai;refine C 2 V (Cs a6 λc5 c6 U ap a7=>?_);refine C 5 V (BQ ap Cb BD V V ?_);let⟨c7,a8,a9⟩:=bs ai;refine BU (KL (a4.Ag U) (a5.Ag U) Am.nil a8) V V Kt a7 ?_;rintro _ c8 _ Y ⟨c9,dd,dj,ea,rfl,rfl,bb,be⟩ bg;refine C 3 V (BZ bg HM λeb bi=>?_);refine JS.sx 3 bi Ee λbo=>?_;refine C8 3 bo V λec K bv aq=>C 8 V (AP a9 (λbw bx=>?_) (λbw b0=>?_));refine C 6 V ?_;cases bx;exact AK func20 V V (am ((U.Ad Y).Ad K) V ⟨none,0,V,V,Am.nil⟩ aq);refine C 3 V (BQ bv F1 Ee V V ?_);let⟨ed,b1,b2⟩:=bs b0;refine BU (PQ (bb.Ag K) (be.Ag K) b1) V V N4 aq ?_;rintro _ aw _ a0 ⟨Z,rfl,rfl,O⟩ b3;refine BZ b3 Ku λee b4=>?_;refine Ht (v:=.agg Z.toArray) (l:=[]) (ws:=(List.replicate 5 (iV 0):Lv_)) (us:=Z) (o:=0) 5 V V V b4 V V V (by rw[Cc (kk:=5) (pp:=rI) O];exact A5 type85) ((rA 5 rI).one O) V (by rw[Cc (kk:=5) (pp:=rI) O,Cc (kk:=5) (pp:=rI) (GJ (E:=aw) (pp:=rI) rfl)];omega) λa2=>?_;rw[Js (by rw[Cc (kk:=5) (pp:=rI) O,Cc (kk:=5) (pp:=rI) (GJ (E:=aw) (pp:=rI) rfl)])] at a2 ⊢;refine C 3 V (BH 0 (ap.Ag ((Y.Ad K).Ad a0)) underlying25 DD Ed ?_);refine JL.ln underlying22 V V V (C8 5 a2 V λef a3 b5 b6=>?_);let⟨eg,ca,cc⟩:=bs b2;refine dp (ws:=Z) (pp:=rI) b5 (Rp.Ag _ a3 O) ca V V V V V underlying85 Av λce=>?_;let⟨ej,ci,ck⟩:=bs cc;refine BU (iQ ce ci) V V (A4 func49 V) b6 ?_;rintro _ ek el co ⟨cp,ct,_,rfl,rfl,cw⟩ cy;refine C 3 V (BO 6 cw cy V λem c0 c1 c3=>?_);cases ck;exact AK func20 V V (am ((((((U.Ad Y).Ad K).Ad a0).Ad a3).Ad co).Ad c0) V ⟨cp,ct,V,V,c1⟩ c3)
def Vx(fu_:Nat)(p0:AB)(p1:AB)(K:Int):Option (Bq Int ((Int)⊕(Unit))):=if K<(p0.length:Int) then((ix p0 K).bind λU=>if(p1.length:Int)<=K then(some (.done (Sum.inl 1))) else((ix p1 K).bind λY=>(f113 fu_ U Y).bind λO=>if O≠0 then(some (.done (Sum.inl O))) else((Az (K+1)).bind λZ=>some (.more Z)))) else(some (.done (Sum.inr ())))
def f112(fu_:Nat)(p0:AB)(p1:AB):Option Int:=Option.bind (iter (Vx fu_ p0 p1) fu_ 0) λK=>Sum.elim (λr=>some r) (λO=>if(p0.length:Int)<(p1.length:Int) then(some (-1)) else(some 0)) K
theorem gU{U:Ap}{p1:AB}(bb:Am Ay E a1 c2 p0)(be:Am Ay E U sz p1){r:Int}(aq:f112 fu_ p0 p1=some r):AY J 83 [sV a1 p0 c2,sV U p1 sz,(fV 84)] E [] (λw E' B'=>w=iV r/\B'=[]):=by
 refine Bm func83 λQ ef cs H bg Z=>?_;unfold f112 at aq;refine C 8 V (JL.ln underlying93 V V V ?_);let⟨aw,bi,ag⟩:=bs aq;refine C 2 V (Bu (λL s=>∃(a0:Unit) (a2:LH),aw=Sum.inr a0/\Jm E H a2 [] [(0,sV a1 p0 c2),(1,sV U p1 sz)] L s) ?_ ?_);rintro _ _ ⟨a0,a2,rfl,rfl,rfl,a3,a4⟩;have bo:=elim_inr ag;refine C 4 V (JL.ln underlying93 V V V ?_);refine C 1 V (JL.ln underlying93 V V V ?_);refine C 2 V (AP bo (λbv bw=>?_) (λbv bx=>?_));refine C 4 V ?_;cases bw;exact AK func83 V V (Z a3 V ⟨V,V⟩ a4);refine C 5 V ?_;cases bx;exact AK func83 V V (Z a3 V ⟨V,V⟩ a4);intro b0;refine JL.block (Du bi (λai=>[]) (λai=>[(0,sV a1 p0 c2),(1,sV U p1 sz),(2,(fV 84)),(11,sV a1 p0 c2),(12,iV (p0.length:Int)),(13,iV ai)]) AL bg ?_);rintro ai b1 K a5 aj ⟨eg,O⟩ b2;have a6:=O;unfold Vx at a6;refine C 5 V (AP a6 (λb3 b4=>?_) (λb3 b5=>?_));let⟨al,b6,ca⟩:=bs b4;refine C 6 V (JS.ix (bb.Ag K) b6 underlying93 AX ?_);rintro ej ek _ ⟨_,_,rfl,rfl,⟨_,_,rfl,rfl,rfl⟩⟩ cc;refine BQ cc C7 AX V V (BZ a5 BC λel ce=>?_);refine C 1 V (JS.sx 0 ce AX λci=>?_);refine C8 0 ci V λem ac ck a7=>C 6 V (JL.ln underlying93 V V V ?_);refine C 2 V (AP ca (λco cp=>?_) (λco ct=>?_));refine C 4 V ?_;cases cp;obtain rfl:=aj _ O;have cw:=elim_inl ag;cases cw;exact AK func83 V V (Z (K.Ad ac) V ⟨V,V⟩ a7);let⟨am,cy,c0⟩:=bs ct;refine C 5 V (JS.ix (be.Ag (K.Ad ac)) cy underlying93 AX ?_);rintro eo er _ ⟨_,_,rfl,rfl,⟨_,_,rfl,rfl,rfl⟩⟩ c1;refine BQ c1 C7 AX V V (BZ a7 BC λet c3=>?_);refine JS.sx 1 c3 AX λc4=>?_;refine C8 1 c4 V λeu ap c5 c6=>C 4 V (BQ (ck.Ag ap) C7 AX V V ?_);refine BQ c5 C7 AX V V ?_;let⟨ew,c7,c8⟩:=bs c0;refine Mc (vs:=[.agg #[iV al.1,iV al.2.1,iV al.2.2],.agg #[iV am.1,iV am.2.1,iV am.2.2]]) (WM c7) V V V V (A4 func84 V) V c6 ?_;rintro _ ex _ a8 ⟨rfl,rfl⟩ a9;refine C 7 V (AP c8 (λc9 dd=>?_) (λc9 dj=>?_));refine C 5 V ?_;cases dd;obtain rfl:=aj _ O;have ea:=elim_inl ag;cases ea;exact AK func83 V V (Z (((K.Ad ac).Ad ap).Ad a8) V ⟨V,V⟩ a9);let⟨eb,ec,ed⟩:=bs dj;refine C 3 V (Bw ec V V V ?_);refine C 2 V ?_;cases ed;exact b2 eb (((K.Ad ac).Ad ap).Ad a8) a9 V O;refine JL.exit V ?_;cases b5;have ee:aw=(Sum.inr ()):=(aj _ O).symm;exact AD (b0 _ _ ⟨(),b1,ee,V,V,K,a5⟩) V
def f74(fu_:Nat)(p0:AB)(p1:AB):Option Int:=(f112 fu_ p0 p1).bind λK=>some K
variable{a9:Ap}
theorem I3{p1:AB}(Y:Am Ay E a1 c2 p0)(Z:Am Ay E a9 sz p1){r:Int}(U:f74 fu_ p0 p1=some r):AY J 55 [sV a1 p0 c2,sV a9 p1 sz] E [] (λw E' B'=>w=iV r/\B'=[]):=by
 refine Bm func55 λQ ap cs H ac ag=>?_;unfold f74 at U;let⟨aq,ai,aj⟩:=bs U;refine C 8 V (B9 (gU Y Z ai) V V (A4 func83 V) ac λaw al am=>?_);refine C 2 V ?_;cases aj;exact AK func55 V V (ag al V ⟨V,V⟩ am)
def f73(fu_:Nat)(p0:AB)(p1:AB):Option Bool:=(f74 fu_ p0 p1).bind λK=>some (decide (K<0))
theorem hZ{p1:AB}(Y:Am Ay E a1 c2 p0)(Z:Am Ay E a9 sz p1){r:Bool}(U:f73 fu_ p0 p1=some r):AY J 54 [sV a1 p0 c2,sV a9 p1 sz] E [] (λw E' B'=>w=.bool r/\B'=[]):=by
 refine Bm func54 λQ ap cs H ac ag=>?_;unfold f73 at U;let⟨aq,ai,aj⟩:=bs U;refine C 8 V (B9 (I3 Y Z ai) V V IP ac λaw al am=>?_);refine C 3 V ?_;cases aj;exact AK func54 V V (ag al V ⟨V,V⟩ am)
def f72(fu_:Nat)(p0:AB×Bool)(p1:AB):Option ((AB×Bool)):=Option.bind (if(!p0.2)=true then(some true) else((f73 fu_ p1 p0.1).bind λK=>some K)) λO=>Option.bind (if O=true then(some (p1,true)) else(some p0)) λU=>some U
theorem iW{K:Ap}{p0:AB×Bool}{p1:AB}(al:Am Ay E a1 c2 p0.1)(am:Am Ay E K sz p1){r:(AB×Bool)}(ap:f72 fu_ p0 p1=some r):AY J 53 [Ar bk 0,sV K p1 sz,(fV 54)] E [(bk,.cells #[sV a1 p0.1 c2,.bool p0.2] 95 (0,0))] (λw E' B'=>∃(aq:Ap) (aw:Nat),w=.tuple #[]/\B'=[(bk,.cells #[sV aq r.1 aw,.bool r.2] 95 (0,0))]/\Am Ay E' aq aw r.1):=by
 refine Bm func53 λQ cc cs H Y a4=>?_;unfold f72 at ap;refine C 4 V (JL.fd underlying95 MS V V V ?_);refine Ao (v:=.bool p0.2) V (λρ h=>Yl.load Qy (h _ _ V) (BY (j:=0) (off:=1) Y V V)) (Ao (v:=.bool (!p0.2)) V (λρ h=>Yl.not (h _ _ V)) ?_);let⟨a5,a6,a7⟩:=bs ap;refine C 1 V (Hh [] (λL s=>∃(U:LH),Jm E H U [bX bk #[sV a1 p0.1 c2,.bool p0.2] 95] [(0,Ar bk 0),(1,sV K p1 sz),(19,.bool a5)] L s) ?_ ?_);rintro _ _ ⟨U,rfl,rfl,ag,a0⟩;let⟨ai,a8,a9⟩:=bs a7;refine JL.done (Bu (λL s=>∃(aj:LH) (Z:Ap) (ac:Nat),Jn U H aj [bX bk #[sV Z ai.1 ac,.bool ai.2] 95] [] L s (Am Ay aj Z ac ai.1)) ?_ ?_);rintro _ _ ⟨aj,Z,ac,rfl,rfl,bb,be,bg⟩;cases a9;exact JL.fin (v:=.tuple #[]) V V (BK.list func53 V (vs:=[]) trivial) (a4 (ag.Ad bb) V ⟨Z,ac,V,V,bg⟩ be);intro a2;refine Cm a8 (λbi bo=>?_) (λbi bv=>?_);refine C 5 V (JL.fd underlying95 BB V V V ?_);refine JS.sx 0 a0 BB λbw=>?_;refine C 1 V (JL.fd underlying95 MS V V V ?_);refine JS.sx 0 bw MS λbx=>?_;refine JL.done ?_;cases bo;exact AD (a2 _ _ ⟨U,K,sz,V,V,AL,bx,(am.Ag ag)⟩) V;refine JL.skip ?_;cases bv;exact AD (a2 _ _ ⟨U,a1,c2,V,V,AL,a0,(al.Ag ag)⟩) V;intro a3;refine Fy 11 a6 (λb0 b1=>?_) (λb0 b2=>?_);refine C 8 V ?_;cases b1;exact AD (a3 _ _ ⟨E,V,V,AL,Y⟩) V;refine C 4 V (JL.fd underlying95 BB V V V ?_);refine Ao (v:=sV a1 p0.1 c2) V (λρ h=>Yl.load BS (h _ _ V) (BY (j:=0) (off:=0) Y V V)) ?_;let⟨ce,b3,b4⟩:=bs b2;refine Mc (vs:=[sV K p1 sz,sV a1 p0.1 c2]) (hZ am al b3) V V V V (A4 func54 V) V Y ?_;rintro _ b5 _ b6 ⟨rfl,rfl⟩ ca;refine C 1 V ?_;cases b4;exact AD (a3 _ _ ⟨b5,V,V,b6,ca⟩) V
variable {J:Judge Tryz.prog}
def O8(fu_:Nat)(O:List Int)(K:(A7)×Int):Option (Bq ((A7)×Int) ((A7))):=if K.2<(O.length:Int) then((ix O K.2).bind λU=>(Az (((Bn K.1 U).getD 0)+1)).bind λY=>(Az (K.2+1)).bind λZ=>some (.more ((Cq K.1 U Y),Z))) else(some (.done K.1))
def OQ(fu_:Nat)(p0:A0)(K:(List A7)×Int):Option (Bq ((List A7)×Int) ((List A7))):=if K.2<(p0.1.length:Int) then((ix p0.1 K.2).bind λO=>Option.bind (iter (O8 fu_ O) fu_ (([]:A7),0)) λU=>(room K.1 U).bind λY=>(Az (K.2+1)).bind λZ=>some (.more (Y,Z))) else(some (.done K.1))
def f120(fu_:Nat)(p0:A0):Option ((List A7)):=Option.bind (iter (OQ fu_ p0) fu_ ([],0)) λK=>some K
theorem gG{be:Ap}{bg:Nat}{p0:A0}(ce:Am (rL rI) E a1 c2 p0.1)(gt:Am Ay E be bg p0.2){r:(List A7)}(bi:f120 fu_ p0=some r):AY J 73 [.agg #[sV a1 p0.1 c2,sV be p0.2 bg]] E [] (λw E' B'=>∃(bo:Ap) (bv:Nat),w= sV bo r bv/\B'=[]/\Am (rM rI false rI false) E' bo bv r):=by
 refine Bm func73 λQ gE cs H ci ck=>?_;unfold f120 at bi;refine C 2 V (Cs ci λgO aw bw co cp=>?_);refine C 9 V (JL.fd underlying72 BD V V V ?_);refine BH 0 co underlying25 DD Ed ?_;refine JL.ln underlying22 V V V ?_;let⟨bx,ct,cw⟩:=bs bi;refine C 2 V (Bu (λL s=>∃(a0:LH) (aj:Ap) (al:Nat) (a2:Seg),Jn aw H a0 [a2] [(3,sV aj bx al)] L s (OL 175 (rM rI false rI false) a0 aj al a2 bx)) ?_ ?_);rintro _ _ ⟨a0,aj,al,a2,rfl,rfl,cy,c0,c1⟩;refine C 5 V (BO 0 c1 c0 V λg3 c3 c4 c5=>?_);cases cw;exact AK func73 V V (ck ((bw.Ad cy).Ad c3) V ⟨aj,al,V,V,c4⟩ c5);intro c6;refine JL.block (Co ct (λL s K=>∃(O:LH) (U:Ap) (Y:Nat) (ac:Seg),Jn aw H O [ac] [(3,sV U K.1 Y),(11,sV a1 p0.1 c2),(12,iV (p0.1.length:Int)),(13,iV K.2)] L s (OL 175 (rM rI false rI false) O U Y ac K.1)) ⟨aw,none,0,[],V,V,AL,cp,OL.nil⟩ ?_);rintro _ _ K ⟨O,U,Y,ac,rfl,rfl,a3,b0,b1⟩ c7 ⟨g4,a4⟩ c8;have b2:=a4;unfold OQ at b2;refine C 5 V (AP b2 (λc9 dd=>?_) (λc9 dj=>?_));let⟨b3,ea,eb⟩:=bs dd;refine C 5 V (JS.ix (ce.Ag (bw.Ad a3)) ea underlying22 CE ?_);rintro g5 g6 _ ⟨ec,ed,rfl,ee⟩ ef;refine CJ 0 ef ET V V V (C 4 V ?_);refine JS.makeMap V V V b0 λag eg=>C 6 V (JL.ln underlying28 V V V ?_);let⟨b4,ej,ek⟩:=bs eb;refine C 2 V (Bu (λL s=>∃(a5:LH) (am:Obj),Jn O H a5 [ac,[(ag,am)]] [(3,sV U K.1 Y),(6,.map (some ag)),(11,sV a1 p0.1 c2),(12,iV (p0.1.length:Int)),(13,iV K.2)] L s (B5 rI false rI false a5 am b4)) ?_ ?_);rintro _ _ ⟨a5,am,rfl,rfl,b5,el,em⟩;refine C 3 V (QU 1 el V λb6 a6 eo er=>?_);have et:B5 rI false rI false b6 am b4:=(em.Ag a6);let⟨eu,ew,ex⟩:=bs ek;refine JS.app (pp:=(rM rI false rI false)) (v:=.map (some ag)) (a:=U) (c:=Y) 0 ew V V V V (λ_=>V) V (λ_=>V) V V V underlying136 underlying136 underlying136 Ih (BJ type175) (Eg type175) V (by decide) (by decide) (by decide) (by decide) (b1.Ag (b5.Ad a6)) ⟨_,_,V,eo,et⟩ er V λg7 ey eA eC eN e0=>?_;let⟨e1,e3,e4⟩:=bs ex;refine C 4 V (Bw e3 V V V ?_);refine C 2 V ?_;cases e4;exact AD (c8 _ _ (eu,e1) ⟨b6,ey,eA,eC,V,V,((a3.Ad b5).Ad a6),e0,eN⟩ a4) V;intro e5;refine JL.block (Co ej (λL s Z=>∃(ai:LH) (ap:Obj),Jn O H ai [ac,[(ag,ap)]] [(3,sV U K.1 Y),(6,.map (some ag)),(11,sV a1 p0.1 c2),(12,iV (p0.1.length:Int)),(13,iV K.2),(18,sV ec b3 ed),(19,iV (b3.length:Int)),(20,iV Z.2)] L s (B5 rI false rI false ai ap Z.1)) ⟨O,(.map #[] 0),V,V,AL,eg,B5.nil⟩ ?_);rintro _ _ Z ⟨ai,ap,rfl,rfl,a7,a8,a9⟩ e6 ⟨g8,bb⟩ e7;have ca:=bb;unfold O8 at ca;refine C 5 V (AP ca (λe8 ff=>?_) (λe8 fk=>?_));let⟨aq,fl,fm⟩:=bs ff;refine C 5 V (JS.ix (ee.Ag a7) fl underlying28 Av ?_);rintro ha hb _ rfl fo;refine CJ 0 fo AV V V V (C 5 V ?_);refine Ao (v:=iV ((Bn Z.1 aq).getD 0)) V (λρ h=>Yl.lookup (ok:=false) (xs:=Z.1) (x0:=aq) (z0:=0) JD underlying175 BR ⟨_,V,V⟩ a9 ⟨_,V,V⟩ (by rintro _ ⟨_,rfl,rfl⟩;rfl) (h _ _ V) (h _ _ V) (Ej (j:=1) (i:=0) a8 V V)) ?_;let⟨cc,fs,fv⟩:=bs fm;refine Bw fs V V V (JS.mapUpdate (xs:=Z.1) (x0:=aq) (v0:=cc) 1 JD underlying175 a9 ⟨_,V,V⟩ ⟨_,V,V⟩ a8 V V V V V V V λfw fN gc=>?_);let⟨ge,gg,gh⟩:=bs fv;refine C 3 V (Bw gg V V V ?_);refine C 2 V ?_;cases gh;exact AD (e7 _ _ ((Cq Z.1 aq cc),ge) ⟨ai,fw,V,V,a7,gc,fN⟩ bb) V;refine JL.exit V ?_;cases fk;obtain rfl:=e6 _ bb;exact AD (e5 _ _ ⟨ai,ap,V,V,a7,a8,a9⟩) V;refine JL.exit V ?_;cases dj;obtain rfl:=c7 _ a4;exact AD (c6 _ _ ⟨O,U,Y,ac,V,V,a3,b0,b1⟩) V
def Wt(fu_:Nat)(p0:A0)(O:(List Int))(K:(List Int)×Int):Option (Bq ((List Int)×Int) ((List Int))):=if K.2<5 then((ix O K.2).bind λU=>Option.bind (if K.2<(p0.1.length:Int) then((ix p0.1 K.2).bind λY=>(f85 fu_ Y).bind λZ=>(Az (-(U))).bind λac=>some (decide (Z<ac))) else(some false)) λag=>Option.bind (if ag=true then((room K.1 K.2).bind λai=>some ai) else(some K.1)) λaj=>(Az (K.2+1)).bind λal=>some (.more (aj,al))) else(some (.done K.1))
def f39(fu_:Nat)(p0:A0):Option ((List Int)×Int):=(f70 fu_ p0 ([])).bind λK=>if K.2≠0 then(some ([],K.2)) else((f84 fu_ K.1).bind λO=>Option.bind (iter (Wt fu_ p0 O) fu_ ([],0)) λU=>some (U,0))
theorem jk{bv:Ap}{bw:Nat}{p0:A0}(bx:Am (rL rI) E a1 c2 p0.1)(ci:Am Ay E bv bw p0.2){r:(List Int)×Int}(b0:f39 fu_ p0=some r):AY J 25 [.agg #[sV a1 p0.1 c2,sV bv p0.2 bw]] E [] (λw E' B'=>∃(b1:Ap) (b2:Nat),w=.tuple #[sV b1 r.1 b2,iV r.2]/\B'=[]/\Am rI E' b1 b2 r.1):=by
 refine Bm func25 λQ hb cs H ck b3=>?_;unfold f39 at b0;refine C 2 V (Cs ck λa4 hc ai a5 co=>?_);refine C 5 V (BQ a5 Cb BD V V ?_);let⟨he,cp,ct⟩:=bs b0;refine BU (KL (bx.Ag ai) (ci.Ag ai) Am.nil cp) V V Kt co ?_;rintro _ hf _ aj ⟨hg,hk,hl,hm,rfl,rfl,cw,cy⟩ c0;refine C 3 V (BZ c0 HM λhn c1=>?_);refine JS.sx 3 c1 Ee λc3=>?_;refine C8 3 c3 V λho O c4 b4=>C 8 V (AP ct (λc5 c6=>?_) (λc5 c7=>?_));refine C 6 V ?_;cases c6;exact AK func25 V V (b3 ((ai.Ad aj).Ad O) V ⟨none,0,V,V,Am.nil⟩ b4);refine C 8 V (BQ c4 F1 Ee V V ?_);let⟨hp,c8,c9⟩:=bs c7;refine BU (PQ (cw.Ag O) (cy.Ag O) c8) V V N4 b4 ?_;rintro _ a6 _ am ⟨a7,rfl,rfl,dd⟩ dj;let⟨b5,ea,eb⟩:=bs c9;refine C 2 V (Bu (λL s=>∃(a8:LH) (ap:Ap) (aq:Nat) (a9:Seg),Jn a6 H a8 [a9] [(6,sV ap b5 aq)] L s (OL 3 rI a8 ap aq a9 b5)) ?_ ?_);rintro _ _ ⟨a8,ap,aq,a9,rfl,rfl,ec,ed,ee⟩;refine C 6 V (BO 0 ee ed V λhq ef eg ej=>?_);cases eb;exact AK func25 V V (b3 (((((ai.Ad aj).Ad O).Ad am).Ad ec).Ad ef) V ⟨ap,aq,V,V,eg⟩ ej);intro ek;refine JL.block (Co ea (λL s K=>∃(Z:LH) (U:Ap) (Y:Nat) (ac:Seg),Jn a6 H Z [ac] [(1,Ar a4 0),(6,sV U K.1 Y),(18,.agg a7.toArray),(19,iV K.2)] L s (OL 3 rI Z U Y ac K.1)) ⟨a6,none,0,[],V,V,AL,dj,OL.nil⟩ ?_);rintro _ _ K ⟨Z,U,Y,ac,rfl,rfl,ag,bb,be⟩ el ⟨hr,bg⟩ em;have b6:=bg;unfold Wt at b6;refine C 5 V (AP b6 (λeo er=>?_) (λeo et=>?_));let⟨hs,eu,ew⟩:=bs er;refine C 6 V (WE (Rp.Ag _ ag dd) eu V V V V V underlying85 Av AV ?_ (λ_=>V));rintro _ rfl;refine C 6 V (BH 0 (a5.Ag (((aj.Ad O).Ad am).Ad ag)) underlying25 DD Ed ?_);refine JL.ln underlying22 V V V ?_;let⟨ex,ey,eA⟩:=bs ew;refine C 2 V (Hh [] (λL s=>∃(al:LH),Jm Z H al [ac] [(1,Ar a4 0),(6,sV U K.1 Y),(7,iV K.2),(18,.agg a7.toArray),(19,iV K.2),(38,.bool ex)] L s) ?_ ?_);rintro _ _ ⟨al,rfl,rfl,bi,ca⟩;let⟨bo,eC,eN⟩:=bs eA;refine JL.done (Bu (λL s=>∃(aw:LH) (a0:Ap) (a2:Nat) (a3:Seg),Jn al H aw [a3] [(1,Ar a4 0),(6,sV a0 bo a2),(18,.agg a7.toArray),(19,iV K.2)] L s (OL 3 rI aw a0 a2 a3 bo)) ?_ ?_);rintro _ _ ⟨aw,a0,a2,a3,rfl,rfl,e0,e1,e3⟩;let⟨e4,e5,e6⟩:=bs eN;refine C 2 V (Bw e5 V V V ?_);refine C 2 V ?_;cases e6;exact AD (em _ _ (bo,e4) ⟨aw,a0,a2,a3,V,V,((ag.Ad bi).Ad e0),e1,e3⟩ bg) V;intro cc;refine Cm eC (λe7 e8=>?_) (λe7 ff=>?_);let⟨ht,fk,fl⟩:=bs e8;refine C 3 V (JS.app (pp:=rI) (v:=iV K.2) (a:=U) (c:=Y) 0 fk V V V V (λ_=>V) V (λ_=>V) V V V underlying28 underlying28 underlying28 Av (BJ type3) BR V (by decide) (by decide) (by decide) (by decide) (be.Ag bi) V ca V λhu fm fo fs fv fw=>?_);refine C 2 V ?_;cases fl;exact AD (cc _ _ ⟨al,fm,fo,fs,V,V,AL,fw,fv⟩) V;refine JL.skip ?_;cases ff;exact AD (cc _ _ ⟨al,U,Y,ac,V,V,AL,ca,(be.Ag bi)⟩) V;intro ce;refine Hy 28 ey (λfN gc=>?_) (λfN ge=>?_);refine BH 0 (a5.Ag (((aj.Ad O).Ad am).Ad ag)) underlying25 DD Ed ?_;let⟨hv,gg,gh⟩:=bs gc;refine C 1 V (JS.ix (bx.Ag ((((ai.Ad aj).Ad O).Ad am).Ad ag)) gg underlying22 CE ?_);rintro hw hx _ ⟨hy,hz,rfl,gt⟩ gE;refine CJ 0 gE ET V V V ?_;let⟨hA,gO,g3⟩:=bs gh;refine B9 (Iv gt gO) V V Ie bb λg4 g5 g6=>?_;let⟨g7,g8,ha⟩:=bs g3;refine C 1 V (Ao (v:=iV g7) V (λρ h=>HP (h _ _ V) g8) ?_);refine C 2 V ?_;cases ha;exact AD (ce _ _ ⟨g4,V,V,g5,g6⟩) V;refine C 10 V ?_;cases ge;exact AD (ce _ _ ⟨Z,V,V,AL,bb⟩) V;refine JL.exit V ?_;cases et;obtain rfl:=el _ bg;exact AD (ek _ _ ⟨Z,U,Y,ac,V,V,ag,bb,be⟩) V
def VF(fu_:Nat)(p0:List Int)(p1:Int)(K:Int):Option (Bq Int ((Int)⊕(Unit))):=if K<(p0.length:Int) then((ix p0 K).bind λO=>if p1=O then(some (.done (Sum.inl K))) else((Az (K+1)).bind λU=>some (.more U))) else(some (.done (Sum.inr ())))
def f128(fu_:Nat)(p0:List Int)(p1:Int):Option Int:=Option.bind (iter (VF fu_ p0 p1) fu_ 0) λK=>Sum.elim (λr=>some r) (λO=>some (-1)) K
variable{p1:Int}
theorem eR{p0:List Int}(aq:Am rI E a1 c2 p0){r:Int}(Z:f128 fu_ p0 p1=some r):AY J 81 [sV a1 p0 c2,iV p1] E [] (λw E' B'=>w=iV r/\B'=[]):=by
 refine Bm func81 λQ b4 cs H aw ac=>?_;unfold f128 at Z;refine C 8 V (JL.ln underlying28 V V V ?_);let⟨ag,a0,ai⟩:=bs Z;refine C 2 V (Bu (λL s=>∃(aj:Unit) (al:LH),ag=Sum.inr aj/\Jm E H al [] [] L s) ?_ ?_);rintro _ _ ⟨aj,al,rfl,rfl,rfl,a2,a3⟩;have a4:=elim_inr ai;refine C 4 V ?_;cases a4;exact AK func81 V V (ac a2 V ⟨V,V⟩ a3);intro a5;refine JL.block (Du a0 (λU=>[]) (λU=>[(0,sV a1 p0 c2),(1,iV p1),(7,iV (p0.length:Int)),(8,iV U)]) AL aw ?_);rintro U a6 K Y am ⟨b5,O⟩ a7;have ap:=O;unfold VF at ap;refine C 5 V (AP ap (λa8 a9=>?_) (λa8 bb=>?_));let⟨b6,be,bg⟩:=bs a9;refine C 13 V (JS.ix (aq.Ag K) be underlying28 Av ?_);rintro ca cc _ rfl bi;refine CJ 0 bi AV V V V (C 2 V ?_);refine AP bg (λbo bv=>?_) (λbo bw=>?_);refine C 5 V ?_;cases bv;obtain rfl:=am _ O;have bx:=elim_inl ai;cases bx;exact AK func81 V V (ac K V ⟨V,V⟩ Y);let⟨b0,b1,b2⟩:=bs bw;refine C 3 V (Bw b1 V V V ?_);refine C 2 V ?_;cases b2;exact a7 b0 K Y V O;refine JL.exit V ?_;cases bb;have b3:ag=(Sum.inr ()):=(am _ O).symm;exact AD (a5 _ _ ⟨(),a6,b3,V,V,K,Y⟩) V
def f82(fu_:Nat)(p0:List Int)(p1:Int):Option Bool:=(f128 fu_ p0 p1).bind λK=>some (decide (0<=K))
theorem iz{p0:List Int}(O:Am rI E a1 c2 p0){r:Bool}(K:f82 fu_ p0 p1=some r):AY J 51 [sV a1 p0 c2,iV p1] E [] (λw E' B'=>w=.bool r/\B'=[]):=by
 refine Bm func51 λQ aj cs H U Y=>?_;unfold f82 at K;let⟨al,Z,ac⟩:=bs K;refine C 8 V (B9 (eR O Z) V V (A4 func81 V) U λam ag ai=>?_);refine C 3 V ?_;cases ac;exact AK func51 V V (Y ag V ⟨V,V⟩ ai)
def Wz(fu_:Nat)(O:A0×Int)(K:(List ((Int×Int)×Bool))×Int):Option (Bq ((List ((Int×Int)×Bool))×Int) ((List ((Int×Int)×Bool)))):=if K.2<(O.1.2.length:Int) then((ix O.1.2 K.2).bind λU=>(Az (K.2+1)).bind λY=>some (.more ((Cq K.1 (U.1,U.2.1) true),Y))) else(some (.done K.1))
def Ws(fu_:Nat)(U:A0×Int)(Y:(List ((Int×Int)×Bool)))(O:List Int)(K:AZ×Int):Option (Bq (AZ×Int) (AZ)):=if K.2<(U.1.1.length:Int) then(Option.bind ((f82 fu_ O K.2).bind λZ=>Option.bind (if Z=true then(some true) else(if 0<(O.length:Int) then((Az ((O.length:Int) - 1)).bind λac=>(ix O ac).bind λag=>some (!((Bn Y (ag,K.2)).getD false))) else(some false))) λai=>if ai=true then(some K.1) else((CZ O ([K.2]:List Int)).bind λaj=>(room K.1 aj).bind λal=>some al)) λam=>(Az (K.2+1)).bind λap=>some (.more (am,ap))) else(some (.done K.1))
def Wg(fu_:Nat)(Z:A0×Int)(U:(List ((Int×Int)×Bool)))(Y:AZ)(O:AZ×Int):Option (Bq (AZ×Int) (((List Int)×Int)⊕(AZ))):=if O.2<(Y.length:Int) then((ix Y O.2).bind λK=>Option.bind (if 1<(K.length:Int) then((Az ((K.length:Int) - 1)).bind λac=>(ix K ac).bind λag=>(ix K (0)).bind λai=>some ((Bn U (ag,ai)).getD false)) else(some false)) λaj=>if aj=true then(some (.done (Sum.inl (K,0)))) else(Option.bind (iter (Ws fu_ Z U K) fu_ (O.1,0)) λal=>(Az (O.2+1)).bind λam=>some (.more (al,am)))) else(some (.done (Sum.inr O.1)))
def VX(fu_:Nat)(U:A0×Int)(Y:(List ((Int×Int)×Bool)))(K:AZ):Option (Bq (AZ) (((List Int)×Int)⊕(Unit))):=if 0<(K.length:Int) then(Option.bind (iter (Wg fu_ U Y K) fu_ ([],0)) λZ=>Sum.elim (λr=>some (.done (Sum.inl r))) (λO=>if(O.length:Int)=0 then(some (.done (Sum.inr ()))) else(some (.more O))) Z) else(some (.done (Sum.inr ())))
def f33(fu_:Nat)(p0:A0):Option ((List Int)×Int):=(f70 fu_ p0 ([])).bind λK=>if K.2≠0 then(some ([],K.2)) else(Option.bind (iter (Wz fu_ K) fu_ (([]:List ((Int×Int)×Bool)),0)) λO=>Option.bind (iter (VX fu_ K O) fu_ ([[]]:AZ)) λU=>Sum.elim (λr=>some r) (λY=>some ([],11)) U)
theorem iY{ex:Ap}{ey:Nat}{p0:A0}(g7:Am (rL rI) E a1 c2 p0.1)(g8:Am Ay E ex ey p0.2){r:(List Int)×Int}(eA:f33 fu_ p0=some r):AY J 22 [.agg #[sV a1 p0.1 c2,sV ex p0.2 ey]] E [] (λw E' B'=>∃(eC:Ap) (eN:Nat),w=.tuple #[sV eC r.1 eN,iV r.2]/\B'=[]/\Am rI E' eC eN r.1):=by
 refine Bm func22 λQ lf cs H ha ea=>?_;unfold f33 at eA;refine C 2 V (Cs ha λlg lh b0 hb hc=>?_);refine C 6 V (BQ hb Cb BD V V ?_);let⟨b1,he,hf⟩:=bs eA;refine BU (KL (g7.Ag b0) (g8.Ag b0) Am.nil he) V V Kt hc ?_;rintro _ li _ eb ⟨lj,ll,hg,hk,rfl,rfl,lm,hl⟩ hm;refine C 3 V (BZ hm HM λag hn=>?_);refine JS.sx 3 hn Ee λho=>?_;refine C8 3 ho V λec cc e0 e1=>C 8 V (AP hf (λhp hq=>?_) (λhp hr=>?_));refine C 6 V ?_;cases hq;exact AK func22 V V (ea ((b0.Ad eb).Ad cc) V ⟨none,0,V,V,Am.nil⟩ e1);refine C 3 V (JS.makeMap V V V e1 λK hs=>?_);refine C 5 V (JL.fd underlying72 BD V V V ?_);refine BH 1 e0 underlying25 Cv EO ?_;refine JL.ln underlying23 V V V ?_;let⟨bb,ht,hu⟩:=bs hr;refine C 2 V (Bu (λL s=>∃(be:LH) (ac:Obj),Jn ec H be [[(K,ac)]] [(4,Ar ag 0),(6,.map (some K))] L s (B5 GR true rB false be ac bb)) ?_ ?_);rintro _ _ ⟨be,ac,rfl,rfl,ed,hv,e3⟩;refine C 2 V (FO (pp:=(rL rI)) [nS] [[]] V V V underlying22 CE Jl (by decide) V V V ⟨⟨_,_,V,Am.nil⟩,trivial⟩ hv λhw hx hy hz=>?_);refine C 3 V (JL.label ?_);let⟨ee,hA,e4⟩:=bs hu;refine JL.seq (Bu (λL s=>∃(e5:Unit) (e6:LH),ee=Sum.inr e5/\Jm be H e6 [] [] L s) ?_ ?_);rintro _ _ ⟨e5,e6,rfl,rfl,rfl,hB,hC⟩;have hD:=elim_inr e4;refine C 5 V ?_;cases hD;exact AK func22 V V (ea ((((b0.Ad eb).Ad cc).Ad ed).Ad hB) V ⟨none,0,V,V,Am.nil⟩ hC);intro e7;refine JL.block (Co hA (λL s O=>∃(a2:LH) (ai:Ap) (aj:Nat) (al:Seg),Jn be H a2 [[(K,ac)],al] [(4,Ar ag 0),(6,.map (some K)),(9,sV ai O aj)] L s (OL 28 (rL rI) a2 ai aj al O)) ⟨be,(Bh hw),1,hx,V,V,AL,hz,hy⟩ ?_);rintro _ _ O ⟨a2,ai,aj,al,rfl,rfl,a3,e8,hE⟩ ef ⟨lq,b2⟩ hF;have ff:=b2;unfold VX at ff;refine C 4 V (JL.ln underlying22 V V V ?_);refine C 2 V (AP ff (λhG hH=>?_) (λhG hI=>?_));refine C 10 V (JL.ln underlying22 V V V ?_);let⟨fk,hJ,fl⟩:=bs hH;refine C 2 V (Bu (λL s=>∃(b3:AZ) (b4:LH) (ce:Ap) (ci:Nat) (ck:Seg),fk=Sum.inr b3/\Jn a2 H b4 [[(K,ac)],ck] [(4,Ar ag 0),(6,.map (some K)),(10,sV ce b3 ci)] L s (OL 28 (rL rI) b4 ce ci ck b3)) ?_ ?_);rintro _ _ ⟨b3,b4,ce,ci,ck,rfl,rfl,rfl,fm,fo,hK⟩;have hL:=elim_inr fl;refine C 8 V (JL.ln underlying22 V V V ?_);refine C 2 V (AP hL (λhM hN=>?_) (λhM hO=>?_));refine JL.exit V (JS.drop 0 fo V λhP=>?_);refine JS.drop 1 hP V λhQ=>?_;cases hN;have hR:ee=(Sum.inr ()):=(ef _ b2).symm;exact AD (e7 _ _ ⟨(),b4,hR,V,V,(a3.Ad fm),hQ⟩) V;refine C 2 V ?_;cases hO;exact AD (hF _ _ b3 ⟨b4,ce,ci,ck,V,V,(a3.Ad fm),fo,hK⟩ b2) V;intro hS;refine JL.block (Co hJ (λL s Y=>∃(ap:LH) (bg:Ap) (bi:Nat) (bo:Seg),Jn a2 H ap [[(K,ac)],al,bo] [(4,Ar ag 0),(6,.map (some K)),(10,sV bg Y.1 bi),(43,sV ai O aj),(44,iV (O.length:Int)),(45,iV Y.2)] L s (OL 28 (rL rI) ap bg bi bo Y.1)) ⟨a2,none,0,[],V,V,AL,e8,OL.nil⟩ ?_);rintro _ _ Y ⟨ap,bg,bi,bo,rfl,rfl,a4,b5,fs⟩ fv ⟨lr,co⟩ hT;have fw:=co;unfold Wg at fw;refine C 5 V (AP fw (λhU hV=>?_) (λhU hW=>?_));let⟨aq,hX,hY⟩:=bs hV;refine C 5 V (HS 1 (hE.Ag a4) hX V V V V V V underlying22 CE ?_);rintro ls lu f155 _ h0 ⟨a5,bv,rfl,aw⟩ h1 lw lx lz lA;refine Ao (v:=sV a5 aq bv) V (λρ h=>Yl.load ET (h _ _ V) (BY (j:=1) b5 h0 (h1 0 _ V))) (C 6 V ?_);refine JL.ln underlying28 V V V (C 3 V ?_);refine P6 15 λZ=>A9 Z V [0,1,2] V ?_;let⟨h2,fN,h3⟩:=bs hY;refine F3 0 (tR_ 15 0) (λL s=>L=[(4,Ar ag 0),(6,.map (some K)),(10,sV bg Y.1 bi),(12,sV a5 aq bv),(43,sV ai O aj),(44,iV (O.length:Int)),(45,iV Y.2),(65,.bool h2)]/\s=Ak ap H [[(K,ac)],al,bo]) ?_ ?_;rintro _ _ ⟨rfl,rfl⟩;refine AQ.fin (by decide+kernel) (Cm h3 (λh4 h5=>?_) (λh4 h6=>?_));refine C 6 V (JS.drop 0 b5 V λh7=>?_);refine JS.drop 1 h7 V λh8=>JS.drop 2 h8 V λh9=>?_;cases h5;obtain rfl:=fv _ co;have ia:=elim_inl fl;cases ia;obtain rfl:=ef _ b2;have ih:=elim_inl e4;cases ih;exact AK func22 V V (ea (((((b0.Ad eb).Ad cc).Ad ed).Ad a3).Ad a4) V ⟨a5,bv,V,V,aw⟩ h9);refine C 3 V (JL.fd underlying72 BD V V V ?_);refine BH 0 (e0.Ag ((ed.Ad a3).Ad a4)) underlying25 DD Ed ?_;refine JL.ln underlying22 V V V ?_;let⟨eg,ii,io⟩:=bs h6;refine C 2 V (Bu (λL s=>∃(cp:LH) (ct:Ap) (cw:Nat) (cy:Seg),Jn ap H cp [[(K,ac)],al,cy] [(4,Ar ag 0),(6,.map (some K)),(10,sV ct eg cw),(43,sV ai O aj),(44,iV (O.length:Int)),(45,iV Y.2)] L s (OL 28 (rL rI) cp ct cw cy eg)) ?_ ?_);rintro _ _ ⟨cp,ct,cw,cy,rfl,rfl,i0,i1,i3⟩;let⟨i4,i5,i6⟩:=bs io;refine C 2 V (Bw i5 V V V ?_);refine C 2 V ?_;cases i6;exact AD (hT _ _ (eg,i4) ⟨cp,ct,cw,cy,V,V,(a4.Ad i0),i1,i3⟩ co) V;intro i7;refine JL.block (Co ii (λL s U=>∃(b6:LH) (a6:Ap) (a7:Nat) (bw:Seg),Jn ap H b6 [[(K,ac)],al,bw] [(4,Ar ag 0),(6,.map (some K)),(10,sV a6 U.1 a7),(12,sV a5 aq bv),(43,sV ai O aj),(44,iV (O.length:Int)),(45,iV Y.2),(70,iV (b1.1.1.length:Int)),(71,iV U.2)] L s (OL 28 (rL rI) b6 a6 a7 bw U.1)) ⟨ap,bg,bi,bo,V,V,AL,b5,fs⟩ ?_);rintro _ _ U ⟨b6,a6,a7,bw,rfl,rfl,a0,gc,ej⟩ i8 ⟨lB,ek⟩ i9;have ge:=ek;unfold Ws at ge;refine C 5 V (AP ge (λjg ji=>?_) (λjg jj=>?_));let⟨el,jp,jr⟩:=bs ji;refine C 2 V (Bu (λL s=>∃(c0:LH) (c1:Ap) (c3:Nat) (c4:Seg),Jn b6 H c0 [[(K,ac)],al,c4] [(4,Ar ag 0),(6,.map (some K)),(10,sV c1 el c3),(12,sV a5 aq bv),(43,sV ai O aj),(44,iV (O.length:Int)),(45,iV Y.2),(70,iV (b1.1.1.length:Int)),(71,iV U.2)] L s (OL 28 (rL rI) c0 c1 c3 c4 el)) ?_ ?_);rintro _ _ ⟨c0,c1,c3,c4,rfl,rfl,jt,jy,jT⟩;obtain⟨jU,jV,jW⟩:=bs jr;refine JL.region (Bw jV V V V ?_);refine C 2 V ?_;cases jW;exact AD (i9 _ _ (el,jU) ⟨c0,c1,c3,c4,V,V,(a0.Ad jt),jy,jT⟩ ek) V;intro gg;let⟨lC,jX,jY⟩:=bs jp;refine C 11 V (B9 (iz (aw.Ag a0) jX) V V (A4 func51 V) gc λc5 am c6=>?_);let⟨jZ,j0,j1⟩:=bs jY;refine C 1 V (Hh [] (λL s=>∃(em:LH),Jm c5 H em [[(K,ac)],al,bw] [(4,Ar ag 0),(6,.map (some K)),(10,sV a6 U.1 a7),(12,sV a5 aq bv),(14,iV U.2),(43,sV ai O aj),(44,iV (O.length:Int)),(45,iV Y.2),(70,iV (b1.1.1.length:Int)),(71,iV U.2),(94,.bool jZ)] L s) ?_ ?_);rintro _ _ ⟨em,rfl,rfl,a8,gh⟩;refine JL.done (Cm j1 (λj2 j3=>?_) (λj2 j4=>?_));refine JL.exit V ?_;cases j3;exact AD (gg _ _ ⟨em,a6,a7,bw,V,V,(am.Ad a8),gh,(ej.Ag (am.Ad a8))⟩) V;refine C 5 V (JL.ln underlying28 V V V ?_);refine C 1 V (JL.ln underlying28 V V V ?_);refine Ao (v:=.slice a5 aq.length aq.length) V (λρ h=>Tf (Am.spot (aw.Ag ((a0.Ad am).Ad a8))) (And.left (aw.Ag ((a0.Ad am).Ad a8))) underlying28 Av (h _ _ V) (h _ _ V) (h _ _ V)) (C 1 V ?_);refine FO (pp:=rI) [iV U.2] [U.2] V V V underlying28 Av BR (by decide) V V V ⟨V,trivial⟩ gh λlD lE j5 j6=>BO 3 j5 j6 V λlF eo j7 j8=>?_;let⟨j9,kb,kc⟩:=bs j4;refine Yn (pp:=rI) kb V V V V V V V underlying28 underlying28 Av (BJ type3) BR V (by decide) (by decide) (aw.Ag (((a0.Ad am).Ad a8).Ad eo)) j7 j8 λke kf kg gt kh ki=>?_;let⟨lG,kj,kl⟩:=bs kc;refine JS.app (pp:=(rL rI)) (v:=sV kf j9 kg) (a:=a6) (c:=a7) 2 kj V V V V (λ_=>V) V (λ_=>V) V V V underlying22 underlying22 underlying22 CE (BJ type28) Jl V (by decide) (by decide) (by decide) (by decide) (ej.Ag (((am.Ad a8).Ad eo).Ad gt)) ⟨_,_,V,kh⟩ ki V λlH km kn ko kp kq=>C 3 V ?_;cases kl;exact AD (gg _ _ ⟨ke,km,kn,ko,V,V,(((am.Ad a8).Ad eo).Ad gt),kq,kp⟩) V;intro er;refine Fy 77 j0 (λkr ks=>?_) (λkr kt=>?_);refine C 17 V ?_;cases ks;exact AD (er _ _ ⟨c5,V,V,AL,c6⟩) V;refine C 1 V (JL.ln underlying28 V V V ?_);refine C 2 V (Hy 81 kt (λku kv=>?_) (λku kx=>?_));refine C 3 V (JL.ln underlying28 V V V ?_);let⟨lI,ky,kz⟩:=bs kv;refine Cx ky V V V ?_;let⟨c7,kA,kB⟩:=bs kz;refine JS.ix (aw.Ag (a0.Ad am)) kA underlying28 Av ?_;rintro lJ lK _ rfl kC;refine CJ 0 kC AV V V V (C 1 V ?_);refine Ao (v:=.agg #[iV c7,iV U.2]) V (λρ h=>Dk [(0,1),(1,1)] h JZ underlying91 ⟨V,A5 type3,V,A5 type3,trivial⟩ V V) (Ao (v:=.bool (((Bn bb (c7,U.2)).getD false))) V (λρ h=>Yl.lookup (ok:=false) (xs:=bb) (x0:=(c7,U.2)) (z0:=false) RN underlying89 MR ⟨_,V,V⟩ (e3.Ag (((a3.Ad a4).Ad a0).Ad am)) ⟨_,⟨_,_,V,V,V⟩,V⟩ (by rintro _ ⟨_,rfl,rfl⟩;rfl) (h _ _ V) (h _ _ V) (Ej (j:=0) (i:=0) c6 V V)) ?_);refine Ao (v:=.bool ((!((Bn bb (c7,U.2)).getD false)))) V (λρ h=>Yl.not (h _ _ V)) (C 2 V ?_);cases kB;exact AD (er _ _ ⟨c5,V,V,AL,c6⟩) V;refine C 13 V ?_;cases kx;exact AD (er _ _ ⟨c5,V,V,AL,c6⟩) V;refine JL.exit V ?_;cases jj;obtain rfl:=i8 _ ek;exact AD (i7 _ _ ⟨b6,a6,a7,bw,V,V,a0,gc,ej⟩) V;intro gE;refine Hs (q:=1<(aq.length:Int)) (i:=53) V (λet=>?_) (λet=>?_);have kD:=ip fN et;refine A9 Z V [3,4,5] V ?_;let⟨lL,kF,kG⟩:=bs kD;refine A6 6 Z V V (λρ h s' a9=>Eo (h _ _ V) (h _ _ V) kF) ?_;let⟨c8,kI,kJ⟩:=bs kG;refine CU 7 aw kI Z underlying28 Av ?_;rintro lM lN _ rfl kK;refine A6 (v:=iV c8) 8 Z V V (λρ h s' a9=>Yl.load AV (h _ _ V) (Kf a9 (At.Iy (j:=0) kK V))) ?_;refine Dt 9 Z V V ?_;let⟨c9,kL,kM⟩:=bs kJ;refine CU 10 aw kL Z underlying28 Av ?_;rintro lO lP _ rfl kN;refine A6 (v:=iV c9) 11 Z V V (λρ h s' a9=>Yl.load AV (h _ _ V) (Kf a9 (At.Iy (j:=0) kN V))) ?_;refine A6 (v:=.agg #[iV c8,iV c9]) 12 Z V V (λρ h s' a9=>Dk [(0,1),(1,1)] h JZ underlying91 ⟨V,A5 type3,V,A5 type3,trivial⟩ V V) ?_;refine A6 (v:=.bool (((Bn bb (c8,c9)).getD false))) 13 Z V V (λρ h s' a9=>Yl.lookup (ok:=false) (xs:=bb) (x0:=(c8,c9)) (z0:=false) RN underlying89 MR ⟨_,V,V⟩ (e3.Ag (a3.Ad a4)) ⟨_,⟨_,_,V,V,V⟩,V⟩ (by rintro _ ⟨_,rfl,rfl⟩;rfl) (h _ _ V) (h _ _ V) (SB a9 (Ej (j:=0) (i:=0) b5 V V))) ?_;refine Dt 14 Z V V ?_;cases kM;refine En ?_ (gE _ _ ⟨V,V⟩);exact⟨V,V,V,V,V,V,V,V,trivial⟩;have kO:=im fN et;refine A9 Z V [3,4,5,6,7,8,9,10,11,12,13,14] V ?_;cases kO;refine En ?_ (gE _ _ ⟨V,V⟩);exact⟨V,V,V,V,V,V,V,V,trivial⟩;refine JL.exit V (JS.drop 1 b5 V λkP=>?_);cases hW;have kQ:fk=(Sum.inr Y.1):=(fv _ co).symm;exact AD (hS _ _ ⟨Y.1,ap,bg,bi,bo,kQ,V,V,a4,kP,fs⟩) V;refine JL.exit V (JS.drop 0 e8 V λkR=>?_);refine JS.drop 1 kR V λkS=>?_;cases hI;have kT:ee=(Sum.inr ()):=(ef _ b2).symm;exact AD (e7 _ _ ⟨(),a2,kT,V,V,a3,kS⟩) V;intro kU;refine JL.block (Co ht (λL s ca=>∃(dd:LH) (dj:Obj),Jn ec H dd [[(K,dj)]] [(4,Ar ag 0),(6,.map (some K)),(26,sV hg b1.1.2 hk),(27,iV (b1.1.2.length:Int)),(28,iV ca.2)] L s (B5 GR true rB false dd dj ca.1)) ⟨ec,(.map #[] 0),V,V,AL,hs,B5.nil⟩ ?_);rintro _ _ ca ⟨dd,dj,rfl,rfl,eu,gO,g3⟩ kV ⟨lQ,ew⟩ kW;have g4:=ew;unfold Wz at g4;refine C 5 V (AP g4 (λkX kY=>?_) (λkX kZ=>?_));let⟨bx,k0,k1⟩:=bs kY;refine C 5 V (JS.ix (hl.Ag (cc.Ad eu)) k0 underlying23 AX ?_);rintro lR lS _ ⟨_,_,rfl,rfl,⟨_,_,rfl,rfl,rfl⟩⟩ k2;refine BQ k2 C7 AX V V (BZ gO BC λlT k3=>?_);refine JS.sx 1 k3 AX λk4=>?_;refine C8 1 k4 V λk5 g5 g6 k6=>C 3 V (BH 0 g6 underlying27 Av AV ?_);refine BH 1 g6 underlying27 Av AV ?_;refine Ao (v:=.agg #[iV bx.1,iV bx.2.1]) V (λρ h=>Dk [(0,1),(1,1)] h JZ underlying91 ⟨V,A5 type3,V,A5 type3,trivial⟩ V V) (JS.mapUpdate (xs:=ca.1) (x0:=(bx.1,bx.2.1)) (v0:=true) 0 RN underlying89 (g3.Ag g5) ⟨_,⟨_,_,V,V,V⟩,V⟩ ⟨_,V,V⟩ k6 V V V V V V V λk7 k8 k9=>?_);let⟨la,lb,ld⟩:=bs k1;refine C 3 V (Bw lb V V V ?_);refine C 2 V ?_;cases ld;exact AD (kW _ _ ((Cq ca.1 (bx.1,bx.2.1) true),la) ⟨k5,k7,V,V,(eu.Ad g5),k9,k8⟩ ew) V;refine JL.exit V ?_;cases kZ;obtain rfl:=kV _ ew;exact AD (kU _ _ ⟨dd,dj,V,V,eu,gO,g3⟩) V
variable {J:Judge Tryz.prog}
def V2:List Nat:=[0,1,2,2,3,3,3,3,4,4,4,4,4,4,4,4,5,5,5,5,5,5,5,5,5,5,5,5,5,5,5,5,6,6,6,6,6,6,6,6,6,6,6,6,6,6,6,6,6,6,6,6,6,6,6,6,6,6,6,6,6,6,6,6,7,7,7,7,7,7,7,7,7,7,7,7,7,7,7,7,7,7,7,7,7,7,7,7,7,7,7,7,7,7,7,7,7,7,7,7,7,7,7,7,7,7,7,7,7,7,7,7,7,7,7,7,7,7,7,7,7,7,7,7,7,7,7,7,8,8,8,8,8,8,8,8,8,8,8,8,8,8,8,8,8,8,8,8,8,8,8,8,8,8,8,8,8,8,8,8,8,8,8,8,8,8,8,8,8,8,8,8,8,8,8,8,8,8,8,8,8,8,8,8,8,8,8,8,8,8,8,8,8,8,8,8,8,8,8,8,8,8,8,8,8,8,8,8,8,8,8,8,8,8,8,8,8,8,8,8,8,8,8,8,8,8,8,8,8,8,8,8,8,8,8,8,8,8,8,8,8,8,8,8,8,8,8,8,8,8,8,8,8,8,8,8]
def f146(fu_:Nat)(p0:Nat):Option Int:=Option.bind (if(((4294967296):Nat):Int)<=(((p0):Nat):Int) then(some (p0>>>32,32)) else(some (p0,0))) λx1=>Option.bind (if(((65536):Nat):Int)<=(((x1.1):Nat):Int) then((Az (x1.2+16)).bind λU=>some (x1.1>>>16,U)) else(some x1)) λK=>Option.bind (if(((256):Nat):Int)<=(((K.1):Nat):Int) then((Az (K.2+8)).bind λY=>some (K.1>>>8,Y)) else(some K)) λO=>(Sz V2 (((((O.1)%256):Nat):Int))).bind λZ=>(Az (((Z):Nat):Int)).bind λac=>(Az (O.2+ac)).bind λag=>some ag
theorem gr{p0:Nat}{r:Int}(U:f146 fu_ p0=some r):AY J 127 [.int .u64 ((p0:Nat):Int)] E [] (λw E' B'=>w=iV r/\B'=[]):=by
 refine Bm func127 λQ ce cs H Y al=>?_;unfold f146 at U;let⟨x1,am,ap⟩:=bs U;refine C 10 V (FQ [] [(0,.int .u64 ((x1.1:Nat):Int)),(2,iV x1.2)] (λci aq Z=>?_) (λac=>?_));let⟨K,aw,a0⟩:=bs ap;refine C 6 V (FQ [] [(0,.int .u64 ((K.1:Nat):Int)),(2,iV K.2)] (λck a1 ag=>?_) (λai=>?_));let⟨O,a2,a3⟩:=bs a0;refine C 6 V (FQ [] [(0,.int .u64 ((O.1:Nat):Int)),(2,iV O.2)] (λco a4 a5=>?_) (λaj=>?_));refine C 4 V (Ao (v:=.int .u8 (((O.1)%256:Nat):Int)) V (λρ h=>bY underlying59 underlying5 (h _ _ V)) ?_);let⟨a6,a7,a8⟩:=bs a3;refine Ao (v:=.int .u8 ((a6:Nat):Int)) V (λρ h=>Y0 (l:=V2) (by decide+kernel) underlying9 (h _ _ V) (h _ _ V) a7) ?_;let⟨a9,bb,be⟩:=bs a8;refine Ao (v:=iV a9) V (λρ h=>cO underlying5 underlying3 (h _ _ V) bb) ?_;let⟨cp,bg,bi⟩:=bs be;refine Bw bg V V V (C 2 V ?_);cases bi;exact AK func127 V V (al ((aq.Ad a1).Ad a4) V ⟨V,V⟩ a5);refine AP a2 (λbo bv=>?_) (λbo bw=>?_);refine C 3 V (Ao (v:=.int .u64 ((K.1>>>8:Nat):Int)) V (λρ h=>Me 8 (h _ _ V) (h _ _ V) (by decide)) ?_);let⟨ct,bx,b0⟩:=bs bv;refine C 4 V (Bw bx V V V ?_);refine C 2 V ?_;cases b0;exact aj AL ag V;refine JL.skip ?_;cases bw;exact aj AL ag V;refine AP aw (λb1 b2=>?_) (λb1 b3=>?_);refine C 3 V (Ao (v:=.int .u64 ((x1.1>>>16:Nat):Int)) V (λρ h=>Me 16 (h _ _ V) (h _ _ V) (by decide)) ?_);let⟨cw,b4,b5⟩:=bs b2;refine C 4 V (Bw b4 V V V ?_);refine C 2 V ?_;cases b5;exact ai AL Z V;refine JL.skip ?_;cases b3;exact ai AL Z V;refine AP am (λb6 ca=>?_) (λb6 cc=>?_);refine C 3 V (Ao (v:=.int .u64 ((p0>>>32:Nat):Int)) V (λρ h=>Me 32 (h _ _ V) (h _ _ V) (by decide)) ?_);refine C 5 V ?_;cases ca;exact ac AL Y V;refine JL.skip ?_;cases cc;exact ac AL Y V
def f115(fu_:Nat)(p0:Nat):Option Int:=(f146 fu_ p0).bind λx1=>some x1
theorem Pv{p0:Nat}{r:Int}(K:f115 fu_ p0=some r):AY J 86 [.int .u64 ((p0:Nat):Int)] E [] (λw E' B'=>w=iV r/\B'=[]):=by
 refine Bm func86 λQ ai cs H O U=>?_;unfold f115 at K;let⟨x1,Y,Z⟩:=bs K;refine C 10 V (B9 (gr Y) V V (A4 func127 V) O λaj ac ag=>?_);refine C 2 V ?_;cases Z;exact AK func86 V V (U ac V ⟨V,V⟩ ag)
def VK(fu_:Nat)(p1:Int)(K:Int×AB):Option (Bq (Int×AB) (AB)):=Option.bind (if p1<K.1 then((ix K.2 K.1).bind λY=>(Az (K.1 - 1)).bind λZ=>(ix K.2 Z).bind λac=>(f113 fu_ Y ac).bind λag=>some (decide (ag<0))) else(some false)) λai=>if ai=true then((Az (K.1 - 1)).bind λO=>(Az (K.1 - 1)).bind λaj=>(ix K.2 aj).bind λU=>(ix K.2 K.1).bind λal=>(ix (K.2.set (Int.toNat K.1) U) O).bind λap=>(Az (K.1 - 1)).bind λam=>some (.more (am,((K.2.set (Int.toNat K.1) U).set (Int.toNat O) al)))) else(some (.done K.2))
def VG(fu_:Nat)(p1:Int)(p2:Int)(K:Int×AB):Option (Bq (Int×AB) (AB)):=if K.1<p2 then(Option.bind (iter (VK fu_ p1) fu_ K) λO=>(Az (K.1+1)).bind λU=>some (.more (U,O))) else(some (.done K.2))
def f193(fu_:Nat)(p0:AB)(p1:Int)(p2:Int):Option (AB):=(Az (p1+1)).bind λx1=>Option.bind (iter (VG fu_ p1 p2) fu_ (x1,p0)) λK=>some K
variable{nw:Nat}{p3:Int}
theorem gR{U:Nat}{a5:Av_}(hW:WL 27 Ay E sz U nw a5 p0)(be:f193 fu_ p0 p1 p3=some r):AY J 165 [.slice (Bh sz) nw U,iV p1,iV p3,(fV 84)] E [(sz,.cells a5 27 (0,0))] (λw E' B'=>∃(bg:Av_),w=.tuple #[]/\B'=[(sz,.cells bg 27 (0,0))]/\WL 27 Ay E' sz U nw bg r):=by
 refine Bm func165 λQ gg cs H ci ck=>?_;unfold f193 at be;let⟨x1,co,cp⟩:=bs be;refine C 3 V (Bw co V V V ?_);let⟨ct,cw,cy⟩:=bs cp;refine C 2 V (Bu (λL s=>∃(a6:LH) (f17:Av_),Jn E H a6 [bX sz f17 27] [] L s (WL 27 Ay a6 sz U nw f17 ct)) ?_ ?_);rintro _ _ ⟨a6,f17,rfl,rfl,c0,c1,c2⟩;cases cy;exact JL.fin (v:=.tuple #[]) V V (BK.list func165 V (vs:=[]) trivial) (ck c0 V ⟨f17,V,(by first | rfl | simp | (simp[Value.cells])),c2⟩ c1);intro c3;refine JL.block (Co cw (λL s aj=>∃(ai:LH) (f25:Av_),Jn E H ai [bX sz f25 27] [(0,.slice (Bh sz) nw U),(1,iV p1),(2,iV p3),(3,(fV 84)),(8,iV aj.1)] L s (WL 27 Ay ai sz U nw f25 aj.2)) ⟨E,a5,V,V,AL,ci,hW⟩ ?_);rintro _ _ aj ⟨ai,f25,rfl,rfl,bi,bo,bv⟩ c4 ⟨gh,a7⟩ c5;have bw:=a7;unfold VG at bw;refine C 7 V (AP bw (λc6 c7=>?_) (λc6 c8=>?_));let⟨bx,c9,dd⟩:=bs c7;refine C 8 V (Bu (λL s=>∃(a1:LH) (f48:Av_),Jn ai H a1 [bX sz f48 27] [(0,.slice (Bh sz) nw U),(1,iV p1),(2,iV p3),(3,(fV 84)),(8,iV aj.1)] L s (WL 27 Ay a1 sz U nw f48 bx)) ?_ ?_);rintro _ _ ⟨a1,f48,rfl,rfl,dj,ea,eb⟩;let⟨ec,ed,ee⟩:=bs dd;refine C 3 V (Bw ed V V V ?_);refine C 2 V ?_;cases ee;exact AD (c5 _ _ (ec,bx) ⟨a1,f48,V,V,(bi.Ad dj),ea,eb⟩ a7) V;intro ef;refine JL.block (Co c9 (λL s ag=>∃(aq:LH) (f58:Av_),Jn ai H aq [bX sz f58 27] [(0,.slice (Bh sz) nw U),(1,iV p1),(2,iV p3),(3,(fV 84)),(8,iV aj.1),(9,iV ag.1)] L s (WL 27 Ay aq sz U nw f58 ag.2)) ⟨ai,f25,V,V,AL,bo,bv⟩ ?_);rintro _ _ ag ⟨aq,f58,rfl,rfl,b0,aw,O⟩ eg ⟨gt,a8⟩ ej;have b1:=a8;unfold VK at b1;refine C 2 V (F7 17 [sz] ⟨⟨0,_,V⟩,trivial⟩ aw λac=>?_);refine A9 ac V [0,1,2,3] V ?_;let⟨ek,b2,el⟩:=bs b1;refine F3 0 (tR_ 17 0) (λL s=>∃(a2:LH),Jm aq H a2 [bX sz f58 27] [(0,.slice (Bh sz) nw U),(1,iV p1),(2,iV p3),(3,(fV 84)),(8,iV aj.1),(9,iV ag.1),(34,.bool ek)] L s) ?_ ?_;rintro _ _ ⟨a2,rfl,rfl,al,a3⟩;refine AQ.fin (by decide+kernel) (Cm el (λem eo=>?_) (λem er=>?_));refine C 3 V (Hi [15,17] [sz] [] mixed V ?_);refine Bo 0 V V (Bo 1 V V ?_);refine Bo 2 V V (Bo 3 V V ?_);let⟨b3,et,eu⟩:=bs eo;refine Cy 4 true V V (λρ h s' b4=>Eo (h _ _ V) (h _ _ V) et) (Bo 5 V V ?_);refine Bo 6 V V ?_;let⟨gE,ew,ex⟩:=bs eu;refine Cy 7 true V V (λρ h s' b4=>Eo (h _ _ V) (h _ _ V) ew) ?_;let⟨Y,b5,ey⟩:=bs ex;obtain⟨_,⟨_,_,rfl,rfl,⟨_,_,rfl,rfl,rfl⟩⟩,eA⟩:=WL.at (O.Ag al) b5;refine JB.ix 8 O.2 b5 underlying23 AX ?_;refine WX 9 [iV Y.1,iV Y.2.1,iV Y.2.2] 0 a3 eA C7 AX ?_;refine Bo 10 V V (Bo 11 V V ?_);let⟨Z,a4,eC⟩:=bs ey;obtain⟨_,⟨_,_,rfl,rfl,⟨_,_,rfl,rfl,rfl⟩⟩,eN⟩:=WL.at (O.Ag al) a4;refine JB.ix 12 O.2 a4 underlying23 AX ?_;refine WX 13 [iV Z.1,iV Z.2.1,iV Z.2.2] 0 a3 eN C7 AX ?_;refine JB.ix 14 O.2 a4 underlying23 AX ?_;have a0:=WL.put (x':=Y) (ws':=[iV Y.1,iV Y.2.1,iV Y.2.2]) (O.Ag al) O.2 a4 ⟨_,_,V,V,⟨_,_,V,V,V⟩⟩;refine JB.sx 15 0 a3 AX trivial a0.2 λe0=>?_;let⟨gO,a9,e1⟩:=bs eC;obtain⟨_,⟨_,_,rfl,rfl,⟨_,_,rfl,rfl,rfl⟩⟩,g3⟩:=WL.at a0.1 a9;refine JB.ix 16 (a0.1).2 a9 underlying23 AX ?_;have b6:=WL.put (x':=Z) (ws':=[iV Z.1,iV Z.2.1,iV Z.2.2]) a0.1 (a0.1).2 a9 ⟨_,_,V,V,⟨_,_,V,V,V⟩⟩;refine JB.sx 17 0 e0 AX trivial b6.2 λe3=>?_;refine JB.fin (by decide+kernel) ?_;let⟨e4,e5,e6⟩:=bs e1;refine C 3 V (Cx e5 V V V ?_);refine C 2 V ?_;cases e6;exact AD (ej _ _ (e4,((ag.2.set (Int.toNat ag.1) Y).set (Int.toNat b3) Z)) ⟨a2,(Bf (Bf f58 (Int.toNat (ag.1)*3) [iV Y.1,iV Y.2.1,iV Y.2.2]) (Int.toNat (b3)*3) [iV Z.1,iV Z.2.1,iV Z.2.2]),V,V,(b0.Ad al),e3,b6.1⟩ a8) V;refine JL.exit V ?_;cases er;obtain rfl:=eg _ a8;exact AD (ef _ _ ⟨a2,f58,V,V,(b0.Ad al),a3,(O.Ag al)⟩) V;intro ca;refine Hs (q:=p1<ag.1) (i:=21) V (λbb=>?_) (λbb=>?_);have e7:=ip b2 bb;refine A9 ac V [4,5,6] V ?_;let⟨am,cc,e8⟩:=bs e7;obtain⟨_,⟨_,_,rfl,rfl,⟨_,_,rfl,rfl,rfl⟩⟩,ff⟩:=WL.at O cc;refine JG.ix 7 ac (O).2 cc underlying23 AX ?_;refine W7 8 ac [iV am.1,iV am.2.1,iV am.2.2] 0 aw ff C7 AX ?_;refine A9 ac V [9,10] V ?_;let⟨g4,fk,fl⟩:=bs e8;refine A6 11 ac V V (λρ h s' b4=>Eo (h _ _ V) (h _ _ V) fk) ?_;let⟨ap,ce,fm⟩:=bs fl;obtain⟨_,⟨_,_,rfl,rfl,⟨_,_,rfl,rfl,rfl⟩⟩,fo⟩:=WL.at O ce;refine JG.ix 12 ac (O).2 ce underlying23 AX ?_;refine W7 13 ac [iV ap.1,iV ap.2.1,iV ap.2.2] 0 aw fo C7 AX ?_;let⟨g5,fs,fv⟩:=bs fm;refine Ky (i:=14) ⟨⟨0,_,V⟩,trivial⟩ (vs:=[.agg #[iV am.1,iV am.2.1,iV am.2.2],.agg #[iV ap.1,iV ap.2.1,iV ap.2.2]]) (WM fs) (by decide+kernel) V V V V (A4 func84 V) V aw ?_;rintro _ fw _ fN ⟨rfl,rfl⟩ gc;refine A9 ac V [15,16] V ?_;cases fv;refine En ?_ (ca _ _ ⟨fw,V,V,fN,gc⟩);exact⟨V,V,V,V,V,V,V,trivial⟩;have ge:=im b2 bb;refine A9 ac V [4,5,6,7,8,9,10,11,12,13,14,15,16] V ?_;cases ge;refine En ?_ (ca _ _ ⟨aq,V,V,AL,aw⟩);exact⟨V,V,V,V,V,V,V,trivial⟩;refine JL.exit V ?_;cases c8;obtain rfl:=c4 _ a7;exact AD (c3 _ _ ⟨ai,f25,V,V,bi,bo,bv⟩) V
def UY(fu_:Nat)(p0:AB)(p1:Int)(p2:Int)(p3:Int)(U:Unit):Option (Bq Unit ((AB)⊕(Unit))):=(Az (p2 - p1)).bind λK=>if K<=12 then((f193 fu_ p0 p1 p2).bind λO=>some (.done (Sum.inl O))) else(if p3=0 then(none) else(none))
def f169(fu_:Nat)(p0:AB)(p1:Int)(p2:Int)(p3:Int):Option (AB):=Option.bind (iter (UY fu_ p0 p1 p2 p3) fu_ ()) λK=>Sum.elim (λr=>some r) (λO=>none) K
variable{U:Av_}{p2:Int}
theorem gL(hW:WL 27 Ay E c2 sz nw U p0)(Y:f169 fu_ p0 p1 p2 p3=some r):AY J 164 [.slice (Bh c2) nw sz,iV p1,iV p2,iV p3,(fV 84)] E [(c2,.cells U 27 (0,0))] (λw E' B'=>∃(Z:Av_),w=.tuple #[]/\B'=[(c2,.cells Z 27 (0,0))]/\WL 27 Ay E' c2 sz nw Z r):=by
 refine Bm func164 λQ bw cs H al am=>?_;unfold f169 at Y;let⟨bx,ap,aq⟩:=bs Y;refine C 8 V (Bu (λL s=>False) ?_ ?_);intro _ _ aw;exact aw.elim;intro b0;refine JL.block (Du ap (λac=>[bX c2 U 27]) (λac=>[(0,.slice (Bh c2) nw sz),(1,iV p1),(2,iV p2),(3,iV p3),(4,(fV 84)),(10,.bool true),(11,.bool true)]) AL al ?_);rintro ac b1 ag a0 a1 ⟨b2,ai⟩ b3;have aj:=ai;unfold UY at aj;let⟨b4,a2,a3⟩:=bs aj;refine C 5 V (Cx a2 V V V ?_);refine C 8 V (AP a3 (λa4 a5=>?_) (λa4 a6=>?_));let⟨b5,a7,a8⟩:=bs a5;refine C 6 V (Cw 0 (gR (hW.Ag ag) a7) V V (A4 func165 V) a0 V ?_);rintro _ b6 _ a9 ⟨f32,rfl,rfl,bb⟩ be;refine JL.done ?_;cases a8;obtain rfl:=a1 _ ai;have bg:=elim_inl aq;cases bg;exact AK func164 V V (am (ag.Ad a9) V ⟨f32,V,(by first | rfl | simp | (simp[Value.cells])),bb⟩ be);refine C 7 V (AP a6 (λbi bo=>?_) (λbi bv=>?_));refine C 6 V ?_;cases bo;refine C 5 V (Ao (v:=.bool false) V (λρ h=>Yl.not (c:=true) (h _ _ V)) ?_);refine C 9 V ?_;cases bv
def f130(fu_:Nat)(p0:AB):Option (AB):=(f115 fu_ (DO (p0.length:Int))).bind λx1=>(f169 fu_ p0 0 (p0.length:Int) x1).bind λK=>some K
theorem gx(hW:WL 27 Ay E c2 sz nw U p0)(Y:f130 fu_ p0=some r):AY J 163 [.slice (Bh c2) nw sz,(fV 84)] E [(c2,.cells U 27 (0,0))] (λw E' B'=>∃(Z:Av_),w=.tuple #[]/\B'=[(c2,.cells Z 27 (0,0))]/\WL 27 Ay E' c2 sz nw Z r):=by
 refine Bm func163 λQ a2 cs H ag ai=>?_;unfold f130 at Y;refine C 3 V (Ao (v:=iV (p0.length:Int)) V (λρ h=>Vj (hW).2 V underlying93 (h _ _ V)) ?_);refine C 6 V (Ao (v:=.int .u64 ((DO (p0.length:Int):Nat):Int)) V (λρ h=>Yl.DO underlying3 underlying108 (h _ _ V)) ?_);let⟨x1,aj,al⟩:=bs Y;refine B9 (Pv aj) V V N1 ag λa3 ac am=>?_;let⟨a4,ap,aq⟩:=bs al;refine C 1 V (Cw 0 (gL (hW.Ag ac) ap) V V (A4 func164 V) am V ?_);rintro _ a5 _ aw ⟨f12,rfl,rfl,a0⟩ a1;refine JL.done ?_;cases aq;exact JL.fin (v:=.tuple #[]) V V (BK.list func163 V (vs:=[]) trivial) (ai (ac.Ad aw) V ⟨f12,V,(by first | rfl | simp | (simp[Value.cells])),a0⟩ a1)
def Uv(fu_:Nat)(p1:Int)(K:Int)(U:Unit):Option (Bq Unit Unit):=Option.bind (if p1<K then(none) else(some false)) λO=>if O=true then((Az (K - 1)).bind λY=>(Az (K - 1)).bind λZ=>none) else(some (.done ()))
def Uy(fu_:Nat)(p1:Int)(p2:Int)(K:Int):Option (Bq Int Unit):=if K<p2 then(Option.bind (iter (Uv fu_ p1 K) fu_ ()) λU=>(Az (K+1)).bind λO=>some (.more O)) else(some (.done ()))
def Sj(fu_:Nat)(p1:Int)(p2:Int):Option Unit:=(Az (p1+1)).bind λx1=>Option.bind (iter (Uy fu_ p1 p2) fu_ x1) λK=>some ()
theorem dr{r:Unit}(Z:Sj fu_ p1 p3=some r):AY J 165 [nS,iV p1,iV p3,(fV 84)] E [] (λw E' B'=>w=.tuple #[]/\B'=[]):=by
 refine Bm func165 λQ c5 cs H a0 a1=>?_;unfold Sj at Z;let⟨x1,a2,a3⟩:=bs Z;refine C 3 V (Bw a2 V V V ?_);let⟨c6,a4,a5⟩:=bs a3;refine C 2 V (FQ [] [] (λc7 a6 a7=>?_) (λa8=>?_));cases a5;exact JL.fin (v:=.tuple #[]) V V (BK.list func165 V (vs:=[]) trivial) (a1 a6 V ⟨V,V⟩ a7);refine JL.block (Du a4 (λK=>[]) (λK=>[(0,.slice none 0 0),(1,iV p1),(2,iV p3),(3,(fV 84)),(8,iV K)]) AL a0 ?_);rintro K c8 ac ag a9 ⟨c9,U⟩ bb;have ai:=U;unfold Uy at ai;refine C 7 V (AP ai (λbe bg=>?_) (λbe bi=>?_));let⟨dd,bo,bv⟩:=bs bg;refine C 8 V (FQ [] [(0,.slice none 0 0),(1,iV p1),(2,iV p3),(3,(fV 84)),(8,iV K)] (λdj bw bx=>?_) (λb0=>?_));let⟨b1,b2,b3⟩:=bs bv;refine C 3 V (Bw b2 V V V ?_);refine C 2 V ?_;cases b3;exact bb b1 (ac.Ad bw) bx V U;refine JL.block (Du bo (λaj=>[]) (λaj=>[(0,.slice none 0 0),(1,iV p1),(2,iV p3),(3,(fV 84)),(8,iV K),(9,iV K)]) AL ag ?_);rintro aj al b4 b5 b6 ⟨ea,am⟩ eb;have ap:=am;unfold Uv at ap;refine C 2 V (Ei 17 λO=>?_);refine A9 O V [0,1,2,3] V ?_;let⟨ca,aq,cc⟩:=bs ap;refine F3 0 (tR_ 17 0) (λL s=>∃(aw:LH),Jm al H aw [] [(0,.slice none 0 0),(1,iV p1),(2,iV p3),(3,(fV 84)),(8,iV K),(9,iV K),(34,.bool ca)] L s) ?_ ?_;rintro _ _ ⟨aw,rfl,rfl,ce,ci⟩;refine AQ.fin (by decide+kernel) (Cm cc (λck co=>?_) (λck cp=>?_));refine C 3 V (Ei 16 λO=>?_);refine A9 O V [0,1,2,3] V ?_;let⟨ec,ct,cw⟩:=bs co;refine A6 4 O V V (λρ h s' cy=>Eo (h _ _ V) (h _ _ V) ct) (A9 O V [5,6] V ?_);let⟨ed,c0,c1⟩:=bs cw;refine A6 7 O V V (λρ h s' cy=>Eo (h _ _ V) (h _ _ V) c0) ?_;cases c1;refine JL.exit V ?_;cases cp;obtain rfl:=b6 _ am;exact b0 (b4.Ad ce) ci V;intro c2;refine Hs (q:=p1<K) (i:=21) V (λY=>?_) (λY=>?_);have c3:=ip aq Y;refine A9 O V [4,5,6] V ?_;cases c3;have c4:=im aq Y;refine A9 O V [4,5,6,7,8,9,10,11,12,13,14,15,16] V ?_;cases c4;refine En ?_ (c2 _ _ ⟨al,V,V,AL,b5⟩);exact⟨V,V,V,V,V,V,V,trivial⟩;refine JL.exit V ?_;cases bi;obtain rfl:=a9 _ U;exact a8 ac ag V
def Uq(fu_:Nat)(p1:Int)(p2:Int)(p3:Int)(O:Unit):Option (Bq Unit ((Unit)⊕(Unit))):=(Az (p2 - p1)).bind λK=>if K<=12 then((Sj fu_ p1 p2).bind λU=>some (.done (Sum.inl ()))) else(if p3=0 then(none) else(none))
def Sn(fu_:Nat)(p1:Int)(p2:Int)(p3:Int):Option Unit:=Option.bind (iter (Uq fu_ p1 p2 p3) fu_ ()) λK=>Sum.elim (λr=>some r) (λO=>none) K
theorem db{r:Unit}(K:Sn fu_ p1 p2 p3=some r):AY J 164 [nS,iV p1,iV p2,iV p3,(fV 84)] E [] (λw E' B'=>w=.tuple #[]/\B'=[]):=by
 refine Bm func164 λQ be cs H Z ac=>?_;unfold Sn at K;let⟨bg,ag,ai⟩:=bs K;refine C 8 V (Bu (λL s=>False) ?_ ?_);intro _ _ aj;exact aj.elim;intro bi;refine JL.block (Du ag (λO=>[]) (λO=>[(0,.slice none 0 0),(1,iV p1),(2,iV p2),(3,iV p3),(4,(fV 84)),(10,.bool true),(11,.bool true)]) AL Z ?_);rintro O bo al am ap ⟨bv,U⟩ bw;have Y:=U;unfold Uq at Y;let⟨bx,aq,aw⟩:=bs Y;refine C 5 V (Cx aq V V V ?_);refine C 8 V (AP aw (λa0 a1=>?_) (λa0 a2=>?_));let⟨b0,a3,a4⟩:=bs a1;refine C 6 V (B9 (dr a3) V V (A4 func165 V) am λb1 a5 a6=>?_);refine JL.done ?_;cases a4;obtain rfl:=ap _ U;have a7:=elim_inl ai;cases a7;exact AK func164 V V (ac (al.Ad a5) V ⟨V,V⟩ a6);refine C 7 V (AP a2 (λa8 a9=>?_) (λa8 bb=>?_));refine C 6 V ?_;cases a9;refine C 5 V (Ao (v:=.bool false) V (λρ h=>Yl.not (c:=true) (h _ _ V)) ?_);refine C 9 V ?_;cases bb
def Xa(fu_:Nat):Option Unit:=(f115 fu_ (DO ((0:Nat):Int))).bind λx1=>(Sn fu_ 0 ((0:Nat):Int) x1).bind λK=>some ()
theorem cm{r:Unit}(K:Xa fu_=some r):AY J 163 [nS,(fV 84)] E [] (λw E' B'=>w=.tuple #[]/\B'=[]):=by
 refine Bm func163 λQ ap cs H O U=>?_;unfold Xa at K;refine C 3 V (JL.ln underlying93 V V V ?_);refine C 6 V (Ao (v:=.int .u64 ((DO ((0:Nat):Int):Nat):Int)) V (λρ h=>Yl.DO underlying3 underlying108 (h _ _ V)) ?_);let⟨x1,Y,Z⟩:=bs K;refine B9 (Pv Y) V V N1 O λaq ac ag=>?_;let⟨aw,ai,aj⟩:=bs Z;refine C 1 V (B9 (db ai) V V (A4 func164 V) ag λa0 al am=>?_);refine JL.done ?_;cases aj;exact JL.fin (v:=.tuple #[]) V V (BK.list func163 V (vs:=[]) trivial) (U (ac.Ad al) V ⟨V,V⟩ am)
theorem dA{J:Judge Tryz.prog}{E:LH}{a:Ap}{g:Seg}(Y:OL 27 Ay E a c g p0)(K:f130 fu_ p0=some r):
  AY J 163 [.slice a p0.length c,.func (.func 84) #[] #[]] E g (λw E' B'=>w=.tuple #[]/\OL 27 Ay E' a c B' r/\r.length=p0.length):=by
 rcases Y.cases with⟨rfl,rfl,rfl,rfl⟩ | ⟨bk,f,rfl,rfl,hW⟩
 .have Z:r=[]:=by
   cases fu_ with
   | zero=>exact absurd K (by simp[f130,f169,f193,iter])
   | succ fu_=>
    cases fu_ with
    | zero=>exact(ep (K.symm.trans (by rfl:f130 1 []=some []))).trans rfl
    | succ fu_=>exact(ep (K.symm.trans (by rfl:f130 (fu_+2) []=some []))).trans rfl
  subst Z;refine(cm (fu_:=10) (r:=()) V).Ag ?_;rintro w E' B' hle ⟨O,rfl⟩;exact⟨O,OL.nil,V⟩
 .refine(gx hW K).Ag ?_;rintro w E' B' hle ⟨ac,O,rfl,U⟩;exact⟨O,U.1,U.2⟩
def f90(fu_:Nat)(p0:AB):Option (AB):=(f129 fu_ p0).bind λK=>(f130 fu_ K).bind λO=>some O
theorem je(ai:Am Ay E a1 c2 p0)(Z:f90 fu_ p0=some r):AY J 160 [sV a1 p0 c2] E [] (λw E' B'=>∃(ac:Ap) (ag:Nat),w= sV ac r ag/\B'=[]/\Am Ay E' ac ag r):=by
 refine Bm func160 λQ bb cs H aj al=>?_;unfold f90 at Z;let⟨be,am,ap⟩:=bs Z;refine C 7 V (BU (fO ai am) V V (A4 func162 V) aj ?_);rintro _ bg bi aq ⟨K,O,_,rfl,rfl,aw⟩ a0;let⟨U,a2,a3⟩:=bs ap;refine C 5 V (Cw 1 (dA aw a2) V V (A4 func163 V) a0 V ?_);rintro _ bo bv a4 ⟨rfl,a5,Y⟩ a6;refine DR (L':=[(6,.tuple #[]),(0,.slice K U.length O),(2,.slice none 0 0),(3,.slice a1 p0.length c2),(4,.slice K U.length O),(5,.slice K U.length O)]) ⟨V,by rw[Y];rfl,V,V,by rw[Y];rfl,by rw[Y];rfl,trivial⟩ ?_;refine C 6 V (BO 1 a5 a6 V λbw a7 a8 a9=>?_);cases a3;exact AK func160 V V (al ((aq.Ad a4).Ad a7) V ⟨K,O,V,V,a8⟩ a9)
end Pal
namespace Pal
open Go Go.Conc
variable {P:Program}{Q:Gs_}{n:Nat}{ds:Ld_}{ops:Ao_}{k:Li_}{cs:Lf_}{m:Nat}{L:Env}{s:St}{E H:LH}{S:List Seg}
variable {d:Option Tmp}{t ty:TypeId}{p:String}{af:Ae_}{g:On_}{v:Value}
section
variable {J:Judge P}{b:Frame}{fuel:Nat}{listed:Array Bool}
variable {x y:Operand}{e:TypeId}{i:Nat}
theorem Take.y0{oi:Oper}(hi:ops[i]?=some oi)(K:(!EJ oi.op&&BA n oi.dst)=true)(hw:A3 L ops oi=some true)(O:∀ρ,Fz L ρ->Yl P oi ρ s v)
  (h:AQ J Q b n ds ops k cs m DJ fuel (Bs listed i) (AE L oi.dst v) s):Take J Q b n ds ops k cs m DJ fuel listed L s i:=
 Take.LU hi K hw λρ U=>by
  have:=O ρ U
  unfold Yl at this
  refine EP _ this ?_ (λ_ _ h=>h)
  rintro Y s' ⟨rfl,rfl⟩
  exact h
end
end Pal
