/- DebtKept states that all nets together are 0: a part (3 of 9) of the proof of its row. -/
import Derived.Test.YtmeophcclkejkaaGreatDoorKea
import Derived.Test.YtmeophcclkejkaaGreatDoorKeb
import Derived.Test.YtmeophcclkejkaaGreatDoorProg
import Derived.ProofKit
set_option linter.all false
set_option maxRecDepth 100000
namespace Pal
open Go Go.Conc
variable {P:Program}
section
variable (J:Judge P)(Q:Gs_)(b:Frame)(ds:Ld_)(ops:Ao_)(k:Li_)(cs:Lf_)(X D D0:Nat->Bool)
def JB:Nat->Array Bool->Av_->St->Prop
 | 0,listed,T,s=>Region.ready .any ops listed= []/\J.ok Q (G (fr b T ds (.inRegion ops []::k)) cs) s
 | fuel+1,listed,T,s=>
  Region.ready .any ops listed≠ []/\s.q=false/\∀i∈Region.ready .any ops listed,∀o,ops[i]? =some o->(∀c,o.op≠ .defer c)/\
   (Region.wanted o (yielded ops T)=false->JB fuel (A8 listed i) (CC T o.dst undef) s)/\
   (Region.wanted o (yielded ops T)=true->X i=true->lp P (execOp (Bu T) o) s (λK s'=>(∀x u,D0 x=true->s.get x=some u->s'.get x=some u)/\match K with
    | .value v=>JB fuel (A8 listed i) (CC T o.dst v) s'
    | .skip=>JB fuel (A8 listed i) (CC T o.dst undef) s'
    | _=>False) (λ_ _=>False))/\
   (Region.wanted o (yielded ops T)=true->X i=false->lp P (execOp (Bu T) o) (Bl D s) (λK s'=>match K with
    | .value v=>JB fuel (A8 listed i) (CC T o.dst v) (Ci D s s')
    | .skip=>JB fuel (A8 listed i) (CC T o.dst undef) (Ci D s s')
    | _=>False) (λ_ _=>False))
variable {J Q b ds ops k cs X D D0}
theorem XF(Z:b.kind≠ .early):∀(fuel t:Nat) (listed:Array Bool) (T:Av_) (s:St),JB J Q b ds ops k cs X D D0 fuel listed T s->
  J.ok Q (G (fr b T ds (.inRegion ops (Region.linearise.go .any ops fuel t listed [])::k)) cs) s:=by
 intro fuel
 induction fuel with
 | zero=>intro t listed T s h;simpa [Region.linearise.go] using h.2
 | succ fuel O=>
  intro t listed T s h;obtain⟨al,am,h⟩:=h;obtain⟨i,hi⟩:∃i,(Region.ready .any ops listed)[t % (Region.ready .any ops listed).length]? =some i:=by
   have:0<(Region.ready .any ops listed).length:=List.length_pos_iff.2 al;exact⟨_,List.getElem?_eq_getElem (Nat.mod_lt _ this)⟩
  have ac:=List.mem_of_getElem? hi;have hgo:Region.linearise.go .any ops (fuel+1) t listed []=i::Region.linearise.go .any ops fuel (t / (Region.ready .any ops listed).length) (A8 listed i) []:=by
   simp only [Region.linearise.go];change (match(Region.ready .any ops listed)[t % (Region.ready .any ops listed).length]? with
    | some i=>Region.linearise.go .any ops fuel (t / (Region.ready .any ops listed).length) (listed.setIfInBounds i true) [i]
    | none=> [].reverse)=_
   rw [hi];simp only;rw [linearise_go_acc];rfl
  rw [hgo];obtain⟨_,o,U,_⟩:=mem_ready.1 ac;obtain⟨hd,ap,aq,aw⟩:=h i ac o U;cases hw:Region.wanted o (yielded ops T) with
  | false=>exact Judge.unwanted U hw (O _ _ _ _ (ap hw))
  | true=>
   cases ag:X i with
   | true=>
    refine Judge.oper U hw Z (.inr hd) (DG _ (aq hw ag) ?_ (λ_ _ h=>h.elim));rintro Y s' ⟨_,K⟩;cases Y with
    | value v=>exact O _ _ _ _ K
    | skip=>exact O _ _ _ _ K
    | _=>exact K.elim
   | false=>
    refine Judge.Si D U hw Z hd am (DG _ (aw hw ag) ?_ (λ_ _ h=>h));intro Y s' K;cases Y with
    | value v=>exact O _ _ _ _ K
    | skip=>exact O _ _ _ _ K
    | _=>exact K.elim
def waitAll(ops:Ao_)(X:Nat->Bool)(i:Nat):Bool:=(List.range ops.size).all λj=> !X j || waits ops ops.size j i
theorem Ys{D:Nat->Bool}{s s':St}(K:s'.E=(Bl D s).E){x:Nat}{o:Obj}(h:s.E x=some o):(Ci D s s').E x=some o:=by
 by_cases hd:D x
 ·simp [Ci,hd,h]
 ·have:=congrFun K x;simp [Bl,hd] at this;simp [Ci,hd,this,h]
theorem YO{D0 D:Nat->Bool}{s:St}(h:∀x,D0 x=true->D x=true):∀x o,(Bl D0 s).E x=some o->(Bl D s).E x=some o:=λx o K=>by
 simp only [Bl] at K ⊢
 split
 ·split at K
  ·exact K
  ·unfold St.get;rw [K]
 ·rename_i hd;rw [if_neg (λe=>hd (h x e))] at K;exact K
theorem bD{D0:Nat->Bool}{s s':St}(h:∀x o,(Bl D0 s).E x=some o->s'.E x=some o):∀x o,s.E x=some o->s'.E x=some o:=λx o K=>h x o (by
 simp only [Bl];split
 ·unfold St.get;rw [K]
 ·exact K)
theorem XG{D0:Nat->Bool}{s s':St}(h:∀x u,D0 x=true->s.get x=some u->s'.get x=some u)(O:s'.E=s.E):∀x o,(Bl D0 s).E x=some o->(Bl D0 s').E x=some o:=λx o K=>by
 simp only [Bl] at K ⊢
 split
 ·rename_i hd;rw [if_pos hd] at K;exact h x o hd K
 ·rename_i hd;rw [if_neg hd] at K;rw [O];exact K
theorem Ql{D0 D:Nat->Bool}{s s':St}(h:∀x,D0 x=true->D x=true)(O:s'.E=(Bl D s).E):∀x o,(Bl D0 s).E x=some o->(Bl D0 (Ci D s s')).E x=some o:=λx o K=>by
 simp only [Bl] at K ⊢
 split
 ·rename_i hd;rw [if_pos hd] at K
  unfold St.get Ci;simp only [h x hd,if_true];exact K
 ·rename_i hd;rw [if_neg hd] at K;exact Ys O K
theorem RF{i:Nat}{oi:Oper}{w pure:Bool}{v:Value}(b5:∀x,D0 x=true->D x=true)(hi:ops[i]? =some oi)(cX:X i=false)(cy:(pure || waitAll ops X i)=true)(cY:Region.noSelect ops=true)(cZ:∀c,oi.op≠ .defer c):
  ∀(fuel:Nat) (listed:Array Bool) (T:Av_) (s:St),IG ops listed i oi=true->HI ops listed=true->listed.size=ops.size->i∈Region.ready .any ops listed->s.q=false->Region.wanted oi (yielded ops T)=w->
   (w=true->∀s',s'.q=false->(∀x o,(Bl D0 s).E x=some o->s'.E x=some o)->(pure=false->∀x o,(Bl D s).E x=some o->s'.E x=some o)->Yl P oi (Bu T) s' v)->
   JB J Q b ds ops k cs X D D0 fuel (A8 listed i) (CC T oi.dst (if w then v else undef)) s->JB J Q b ds ops k cs X D D0 (fuel+1) listed T s:=by
 have aw:∀(j:Nat) (al:Oper),ops[j]? =some al->∀cs b,al.op≠Op.select cs b:=λj al h cs b=>Region.noSelect_spec cY j al cs b h;intro fuel
 induction fuel with
 | zero=>?_
 | succ fuel a5=>?_
 all_goals
  intro listed T s cJ cK a6 b2 a7 hw a0 h;refine⟨λe=>(by rw [e] at b2;cases b2),a7,λj cM al U=>?_⟩;by_cases a8:j=i
  ·subst a8;obtain rfl:al=oi:=by rw [hi] at U;exact(Option.some.inj U).symm
   refine⟨cZ,λO=>?_,λa2 K=>?_,λa2 K=>?_⟩
   ·rw [O] at hw;subst hw;exact h
   ·rw [cX] at K;cases K
   ·rw [a2] at hw;subst hw;refine DG _ (a0 V (Bl D s) a7 (YO b5) λ_ _ _ h=>h).out ?_ (λ_ _ h=>h);rintro b3 s' ⟨rfl,rfl⟩;rw [KO];exact h
  ·
   have cO:j∈Region.ready .any ops (A8 listed i):=ready_mono cM a8;obtain⟨a3,Y,cP,b6⟩:=mem_ready.1 cM;obtain rfl:Y=al:=by rw [U] at cP;exact(Option.some.inj cP).symm
   have ca:=(mem_ready.1 b2).1;have c0:(Y.after.any λe=>Region.binds .any e&&e.on==i)=false:=by
    rw [Array.any_eq_false];intro e he K;simp only [Bool.and_eq_true,beq_iff_eq] at K;have:=b6 _ (Array.getElem_mem he) K.1;rw [K.2] at this;have a4:listed.getD i true=listed.getD i false∨listed.size<=i:=by
     rcases Nat.lt_or_ge i listed.size with q | q
     ·left;simp [Array.getD_eq_getD_getElem?,q]
     ·exact .inr q
    rcases a4 with a4 | a4
    ·rw [ca,this] at a4;cases a4
    ·rw [Array.getD_eq_getD_getElem?,Array.getElem?_eq_none a4] at this;simp at this
   have c1:oi.apart ops Y=true:=by
    have cc:j<ops.size:=(Array.getElem?_eq_some_iff.1 U).1;have:=List.all_eq_true.1 cJ j (List.mem_range.2 cc);simp only [Bool.or_eq_true,beq_iff_eq] at this;rcases this with(q | q) | q
    ·exact absurd q a8
    ·rw [a3] at q;cases q
    ·rw [U] at q;simp only [Bool.or_eq_true] at q;rw [c0] at q;exact q.resolve_left (by simp)
   obtain⟨a1,a9,bb⟩:=Oper.apart_spec c1;obtain⟨cQ,p2⟩:=H6 (ops:=ops) (T:=T) (v:=if w then v else undef) (aw j Y U) a1
   first
    | exact absurd cO (by rw [h.1];simp)
    | (
     obtain⟨db,_,h⟩:=h
     obtain⟨hd,O,c2,c3⟩:=h j cO Y U
     have be:A8 (A8 listed i) j=A8 (A8 listed j) i:=by
      unfold A8;exact Array.setIfInBounds_comm _ _ (Ne.symm a8)
     have bi:i∈Region.ready .any ops (A8 listed j):=ready_mono b2 (Ne.symm a8)
     have bo:IG ops (A8 listed j) i oi=true:=by
      refine List.all_eq_true.2 λx K=>?_
      have:=List.all_eq_true.1 cJ x K
      simp only [Bool.or_eq_true,beq_iff_eq] at this ⊢
      rcases this with(q | q) | q
      ·exact .inl (.inl q)
      ·left;right
       by_cases e:j=x
       ·subst e;rw [a3] at q;cases q
       ·rw [A8,getD_set_ne true e];exact q
      ·exact .inr q
     have bv:(A8 listed j).size=ops.size:=by unfold A8;simpa using a6
     have bw:HI ops (A8 listed j)=true:=by
      refine List.all_eq_true.2 λx K=>?_
      cases ce:ops[x]? with
      | none=>simp
      | some c4=>
       simp only [Bool.or_eq_true,Bool.not_eq_true']
       by_cases e:j=x
       ·subst e
        obtain rfl:c4=Y:=by rw [U] at ce;exact(Option.some.inj ce).symm
        right
        refine Array.all_eq_true'.2 λe he=>?_
        cases hb:Region.binds .any e with
        | false=>simp
        | true=>
         have:=b6 e he hb
         by_cases e2:j=e.on
         ·rw [← e2] at this
          have ci:j<listed.size:=by rw [a6];exact(Array.getElem?_eq_some_iff.1 U).1
          simp [Array.getD_eq_getD_getElem?,ci] at this a3
          rw [a3] at this;cases this
         ·rw [A8,getD_set_ne false e2];simpa using this
       ·cases cR:(A8 listed j).getD x false with
        | false=>exact .inl rfl
        | true=>
         right
         have c5:listed.getD x false=true:=by rw [A8,getD_set_ne false e] at cR;exact cR
         refine Array.all_eq_true'.2 λco he=>?_
         cases hb:Region.binds .any co with
         | false=>simp
         | true=>
          have:=Oy cK ce c5 co he hb
          by_cases e2:j=co.on
          ·rw [← e2] at this
           have ci:j<listed.size:=by rw [a6];exact(Array.getElem?_eq_some_iff.1 U).1
           simp [Array.getD_eq_getD_getElem?,ci] at this a3
           rw [a3] at this;cases this
          ·rw [A8,getD_set_ne false e2];simpa using this
     refine⟨hd,λc6=>?_,λcp b4=>?_,λcp b4=>?_⟩
     ·have:=O (by rw [p2];exact c6)
      rw [be,IZ a9] at this
      obtain⟨Z,ac⟩:=H6 (ops:=ops) (T:=T) (d:=Y.dst) (v:=undef) (o:=oi) (aw i oi hi) bb
      exact a5 _ _ _ bo bw bv bi a7 (by rw [ac];exact hw) (λag s' c7 O am=>by unfold Yl;rw [Z];exact(a0 ag s' c7 O am).out) this
     ·
      have c8:pure=true:=by
       cases c9:pure with
       | true=>rfl
       | false=>
        exfalso
        rw [c9,Bool.false_or] at cy
        have cc:j<ops.size:=(Array.getElem?_eq_some_iff.1 U).1
        have a2:=List.all_eq_true.1 cy j (List.mem_range.2 cc)
        rw [b4] at a2
        simp only [Bool.not_true,Bool.false_or] at a2
        rcases Qx cK _ j Y U (λe he hb=>b6 e he hb) a2 with q | ⟨x,Z,ac⟩
        ·have da:i<listed.size:=by rw [a6];exact(Array.getElem?_eq_some_iff.1 hi).1
         simp [Array.getD_eq_getD_getElem?,da] at q ca
         rw [ca] at q;cases q
        ·have:¬x<listed.size:=by rw [a6];intro K;simp [K] at Z
         simp [Array.getD_eq_getD_getElem?,this] at ac
      have b0:=Oa _ (c2 (by rw [p2];exact cp) b4)
      rw [cQ] at b0
      refine DG _ b0 ?_ (λ_ _ h=>h)
      rintro b3 s' ⟨⟨ct,K⟩,am,cw⟩
      have cT:=XG ct am
      have b1:s'.q=false:=cw.trans a7
      have cV:pure=false->∀{α:Prop},α:=λe=>by rw [c8] at e;cases e
      cases b3 with
      | value u=>
       simp only at K ⊢
       rw [be,IZ a9] at K
       obtain⟨Z,ac⟩:=H6 (ops:=ops) (T:=T) (d:=Y.dst) (v:=u) (o:=oi) (aw i oi hi) bb
       exact⟨ct,a5 _ _ _ bo bw bv bi b1 (by rw [ac];exact hw) (λag s2 ap O aq=>by unfold Yl;rw [Z];exact(a0 ag s2 ap (λx o h=>O x o (cT x o h)) (λe=>cV e)).out) K⟩
      | skip=>
       simp only at K ⊢
       rw [be,IZ a9] at K
       obtain⟨Z,ac⟩:=H6 (ops:=ops) (T:=T) (d:=Y.dst) (v:=undef) (o:=oi) (aw i oi hi) bb
       exact⟨ct,a5 _ _ _ bo bw bv bi b1 (by rw [ac];exact hw) (λag s2 ap O aq=>by unfold Yl;rw [Z];exact(a0 ag s2 ap (λx o h=>O x o (cT x o h)) (λe=>cV e)).out) K⟩
      | _=>exact K.elim
     ·have b0:=Oa _ (c3 (by rw [p2];exact cp) b4)
      rw [cQ] at b0
      refine DG _ b0 ?_ (λ_ _ h=>h)
      rintro b3 s' ⟨K,am,cw⟩
      have cW:=QC (D:=D) am
      have b1:(Ci D s s').q=false:=by show s'.q=false;rw [cw];exact a7
      cases b3 with
      | value u=>
       simp only at K ⊢
       rw [be,IZ a9] at K
       obtain⟨Z,ac⟩:=H6 (ops:=ops) (T:=T) (d:=Y.dst) (v:=u) (o:=oi) (aw i oi hi) bb
       exact a5 _ _ _ bo bw bv bi b1 (by rw [ac];exact hw) (λag s2 ap O aq=>by unfold Yl;rw [Z];exact(a0 ag s2 ap (λx o h=>O x o (Ql b5 am x o h)) (λe=>by rw [cW] at aq;exact aq e)).out) K
      | skip=>
       simp only at K ⊢
       rw [be,IZ a9] at K
       obtain⟨Z,ac⟩:=H6 (ops:=ops) (T:=T) (d:=Y.dst) (v:=undef) (o:=oi) (aw i oi hi) bb
       exact a5 _ _ _ bo bw bv bi b1 (by rw [ac];exact hw) (λag s2 ap O aq=>by unfold Yl;rw [Z];exact(a0 ag s2 ap (λx o h=>O x o (Ql b5 am x o h)) (λe=>by rw [cW] at aq;exact aq e)).out) K
      | _=>exact K.elim)
end
section
variable (J:Judge P)(Q:Gs_)(b:Frame)(n:Nat)(ds:Ld_)(ops:Ao_)(k:Li_)(cs:Lf_)(X D D0:Nat->Bool)
def Fh(fuel:Nat)(listed:Array Bool)(L:Env)(s:St):Prop:=∀T,Has n L T->JB J Q b ds ops k cs X D D0 fuel listed T s
end
theorem JB.take{i:Nat}{oi:Oper}{w pure:Bool}{v:Value}{P:Program}{J:Judge P}{Q:Gs_}{b:Frame}{ds:Ld_}{ops:Ao_}{k:Li_}{cs:Lf_}{X D D0:Nat->Bool}(K:∀x,D0 x=true->D x=true)(hi:ops[i]? =some oi)(O:X i=false)(U:(pure || waitAll ops X i)=true)(Y:Region.noSelect ops=true)(Z:∀c,oi.op≠ .defer c)
  (fuel:Nat) (listed:Array Bool) (T:Av_) (s:St) (ac:IG ops listed i oi=true) (ag:HI ops listed=true) (al:listed.size=ops.size) (am:i∈Region.ready .any ops listed) (ap:s.q=false) (aq:Region.wanted oi (yielded ops T)=w)
  (aw:w=true->∀s',s'.q=false->(pure=false->∀x o,(Bl D s).E x=some o->s'.E x=some o)->Yl P oi (Bu T) s' v)
  (h:JB J Q b ds ops k cs X D D0 fuel (A8 listed i) (CC T oi.dst (if w then v else undef)) s):JB J Q b ds ops k cs X D D0 (fuel+1) listed T s:=
 RF K hi O U Y Z fuel listed T s ac ag al am ap aq (λe s' a0 _ a1=>aw e s' a0 a1) h
def Jf(ops:Ao_)(listed:Array Bool)(xs:List Nat)(pure:Bool)(i:Nat):Bool:=match ops[i]? with
 | some oi=> !Az xs i&&(pure || waitAll ops (Az xs) i)&&Region.noSelect ops&& !DY oi.op&&IG ops listed i oi&&HI ops listed&&listed.size==ops.size&&(Region.ready .any ops listed).contains i
 | none=>false
variable {J:Judge P}{Q:Gs_}{n:Nat}{ds:Ld_}{ops:Ao_}{k:Li_}{cs:Lf_}{X D:Nat->Bool}{l0:List Nat}{L:Env}{s:St}{E H:LH}{S:List Seg}{xl bks:List Nat}
variable {d:Option Tmp}{t u ty:TypeId}{p:String}{af:Ae_}{g:On_}{v:Value}{kd:IntKind}
section
variable {b:Frame}{fuel:Nat}{listed:Array Bool}
variable {x y:Operand}{e:TypeId}{i:Nat}
theorem GO(xl bks l0:List Nat){id:Nat}(hm:P.follows .mixedOrders=true)(K:(b.kind != .early)=true)
  (h:Fh J Q b n ds ops k cs (Az xl) (Az (l0++bks)) (Az l0) ops.size (Array.replicate ops.size false) L (Aj E H S)):JL J Q b n L ds (.code (.region id ops true)::k) cs (Aj E H S):=
 SJ V hm λt T O=>XF (by simpa using K) ops.size t _ T _ (h T O)
theorem S3:∀x,Az l0 x=true->Az (l0++bks) x=true:=λx h=>by
 simp only [Az,List.contains_iff_mem,List.mem_append] at h ⊢;exact .inl h
theorem JB.val{oi:Oper}(i:Nat)(pure:Bool)(hi:ops[i]? =some oi)(K:Jf ops listed xl pure i=true)(Y:s.q=false)
  (hw:AM L ops oi=some true) (Z:Bf n oi.dst=true) (ac:∀ρ,EA L ρ->∀s':St,(pure=false->∀x o,(Bl (Az (l0++bks)) s).E x=some o->s'.E x=some o)->Yl P oi ρ s' v)
  (h:Fh J Q b n ds ops k cs (Az xl) (Az (l0++bks)) (Az l0) fuel (A8 listed i) (Au L oi.dst v) s):Fh J Q b n ds ops k cs (Az xl) (Az (l0++bks)) (Az l0) (fuel+1) listed L s:=λT O=>by
 simp only [Jf,hi,Bool.and_eq_true] at K
 obtain⟨⟨⟨⟨⟨⟨⟨ag,al⟩,am⟩,U⟩,ap⟩,aq⟩,aw⟩,a0⟩:=K
 refine JB.take (w:=true) (v:=v) (pure:=pure) S3 hi (by simpa using ag) al am (λc K=>by rw [K] at U;simp [DY] at U) fuel listed T s ap aq (by simpa using aw) (by simpa using a0) Y (B3 O hw) (λ_ s' a2 a1=>ac _ O.FX s' a1) ?_
 exact h _ (O.put Z v)
theorem X0{oi:Oper}(i:Nat)(hi:ops[i]? =some oi)(K:Jf ops listed xl true i=true)(Y:s.q=false)
  (hw:AM L ops oi=some true) (Z:Bf n oi.dst=true) (ac:∀ρ,EA L ρ->∀s':St,(∀x o,(Bl (Az l0) s).E x=some o->s'.E x=some o)->Yl P oi ρ s' v)
  (h:Fh J Q b n ds ops k cs (Az xl) (Az (l0++bks)) (Az l0) fuel (A8 listed i) (Au L oi.dst v) s):Fh J Q b n ds ops k cs (Az xl) (Az (l0++bks)) (Az l0) (fuel+1) listed L s:=λT O=>by
 simp only [Jf,hi,Bool.and_eq_true] at K
 obtain⟨⟨⟨⟨⟨⟨⟨ag,al⟩,am⟩,U⟩,ap⟩,aq⟩,aw⟩,a0⟩:=K
 refine RF (w:=true) (v:=v) (pure:=true) S3 hi (by simpa using ag) al am (λc K=>by rw [K] at U;simp [DY] at U) fuel listed T s ap aq (by simpa using aw) (by simpa using a0) Y (B3 O hw) (λ_ s' a2 a1 _=>ac _ O.FX s' a1) ?_
 exact h _ (O.put Z v)
theorem Fc{oi:Oper}(i:Nat)(hi:ops[i]? =some oi)(K:Jf ops listed xl true i=true)(O:s.q=false)
  (hw:AM L ops oi=some true) (U:Bf n oi.dst=true) (Y:∀ρ,EA L ρ->∀s':St,(∀x o,s.E x=some o->s'.E x=some o)->Yl P oi ρ s' v)
  (h:Fh J Q b n ds ops k cs (Az xl) (Az (l0++bks)) (Az l0) fuel (A8 listed i) (Au L oi.dst v) s):Fh J Q b n ds ops k cs (Az xl) (Az (l0++bks)) (Az l0) (fuel+1) listed L s:=
 X0 i hi K O hw U (λρ Z s' ac=>Y ρ Z s' (bD ac)) h
theorem JB.fin{l0:List Nat}(K:Region.ready .any ops listed= [])(h:JL J Q b n L ds k cs s):Fh J Q b n ds ops k cs X D (Az l0) 0 listed L s:=λT O=>⟨K,JL.done h T O⟩
def Ml(S:List Seg)(j:Nat):List Nat->Prop
 | []=>True
 | bk::l=>(∃(i:Nat) (o:Obj),(i==j)=false/\S[i]? =some [(bk,o)])/\Ml S j l
theorem Ml.mem{S:List Seg}{j:Nat}:∀{l:List Nat},Ml S j l->∀bk∈l,∃(i:Nat) (o:Obj),i≠j/\S[i]? =some [(bk,o)]
 | [],_,_,h=>by cases h
 | b::l,⟨⟨i,o,hi,h⟩,K⟩,bk,hb=>by
  rcases List.mem_cons.1 hb with rfl | hb
  ·exact⟨i,o,by simpa using hi,h⟩
  ·exact K.mem bk hb
theorem JB.store{bk off:Nat}{c:Av_}(i j:Nat)(Y:Region.ready .any ops listed= [i])(aw:Az xl i=true)(a0:ops[i]? =some ⟨d,.store t x y,ty,p,af,g⟩)(hw:AM L ops ⟨d,.store t x y,ty,p,af,g⟩=some true)(a1:Bf n d=true)(Z:Aq E H S)
  (O:ev L x=some (.pointer (some ⟨bk,off,none⟩))) (a2:ev L y=some v) (a3:Bj P t=some v.cells.size) (a4:∀u∈v.cells.toList,CJ u=true) (ac:S[j]? =some [(bk,.cells c e (0,0))]) (a5:Ml S j l0) (hle:off+v.cells.size<=c.size)
  (h:Aq E H (S.set j [(bk,.cells (A4 c off v.cells.toList) e (0,0))])->Fh J Q b n ds ops k cs (Az xl) (Az (l0++bks)) (Az l0) fuel (A8 listed i) (Au L d undef) (Aj E H (S.set j [(bk,.cells (A4 c off v.cells.toList) e (0,0))]))):
  Fh J Q b n ds ops k cs (Az xl) (Az (l0++bks)) (Az l0) (fuel+1) listed L (Aj E H S):=λT K=>by
 refine⟨by rw [Y];simp,rfl,λbv U o' ag=>?_⟩
 rw [Y] at U
 simp at U
 subst U
 obtain rfl:o'=⟨d,.store t x y,ty,p,af,g⟩:=by rw [a0] at ag;exact(Option.some.inj ag).symm
 have a6:=B3 K hw;refine⟨λc a7=>(by cases a7),λe=>?_,λ_ _=>?_,λ_ e=>?_⟩
 ·rw [a6] at e;cases e
 ·obtain⟨al,a8⟩:=GL Z ac;rw [al];show lp P (do Instr.storeAt t (Bu T x) (Bu T y);pure Next.skip) _ _ _
  rw [K.ev O,K.ev a2];refine As _ _ ?_;unfold Instr.storeAt;simp only [Instr.sureAddr,bind,Sem.bind,pure];refine Ou (pl:=(S.set j []).flatten.length) a3 a4 a8 (c:=c) (e:=e) (by simp) hle λam=>?_;have a9:((S.set j []).flatten++ [(bk,Obj.cells c e (0,0))]).set (S.set j []).flatten.length (bk,.cells (A4 c off v.cells.toList) e (0,0))=(S.set j []).flatten++ [(bk,.cells (A4 c off v.cells.toList) e (0,0))]:=IB _ _ _ _;rw [a9] at am ⊢;obtain⟨bb,ap⟩:=IF ac am;rw [bb];refine⟨λx u O be=>?_,h ap _ (K.put a1 undef)⟩;obtain⟨bw,o',bi,aq⟩:=a5.mem x (by simpa [Az] using O);have bo:(Aj E H S).get x=some o':=Dh (i:=0) Z aq rfl;have g2:(Aj E H (S.set j [(bk,.cells (A4 c off v.cells.toList) e (0,0))])).get x=some o':=Dh (i:=0) ap (by rw [List.getElem?_set_ne (Ne.symm bi)];exact aq) rfl;have g0:(Aj E H S).get x=some u:=by rw [al];exact be
  rw [bo] at g0;rw [g2];exact g0
 ·rw [aw] at e;cases e
end
theorem MS{E H:LH}{S:List Seg}{bks:List Nat}{bk o:Nat}{l ws:Lv_}{e:TypeId}{f:Nat×Nat}{s':St}{w:Value}(j:Nat)(K:Aq E H S)(O:S[j]? =some [(bk,.cells (l++ws).toArray e f)])(U:Az bks bk=true)(Y:∀x o,(Bl (Az bks) (Aj E H S)).E x=some o->s'.E x=some o)(Z:ws[o]? =some w):s'.cell? ⟨bk,l.length+o,none⟩=some w:=by
 have:=Rg j K O U Y o w Z
 rwa [Dw rfl] at this
variable {B:List (Nat×Obj)}
section
variable {e:TypeId}
theorem Qn{ats:Array TypeId}{a:Option Addr}{l K O m cx:Nat}{ax:Option Addr}{xs ys:Lv_}{z:Value}{Q:Value->St->Prop}{X:Halt->St->Prop}
  (a3:ats[0]? =some t) {t1 a4:TypeId} (a5:ats[1]? =some t1) (a6:P.underlying t1=some (.slice a4)) (a7:P.underlying t=some (.slice e)) (a8:Bj P e=some K) (hb:FJ P e=some O) (a9:zeroOf P e=some z) (bb:z.cells.size=K)
  (be:Nd E H B) (al:HJ (mk E H B) (.slice a l l) K xs)
  (Z:HJ (mk E H B) (.slice ax m cx) K ys) (b4:∀w∈ys,CJ w=true) (b5:0<O) (b6:l+m<=2 ^ 40) (bi:O<=64)
  (a1:m=0->Q (.slice a (l+m) l) (mk E H B))
  (bo:∀r ac am,l+m<=am->ac.size=am*K->ac.toList.take ((l+m)*K)=xs++ys->Nd E H (B++ [(r,.cells ac e (0,0))])->Q (.slice (some ⟨r,0,none⟩) (l+m) am) (mk E H (B++ [(r,.cells ac e (0,0))]))):
  lp P (Builtin.append_ ats ty #[.slice a l l,.slice ax m cx]) (mk E H B) Q X:=by
 unfold Builtin.append_;simp only [a3,a5,List.getElem?_toArray,List.getElem?_cons_zero,List.getElem?_cons_succ];refine As _ _ (Cg a7 ?_);refine As _ _ (EJ a8 ?_);refine As _ _ (Cg a6 ?_);simp only [H3,Bool.false_eq_true,if_false,Builtin.lenOf,Bool.not_false,if_true];have ag:ys.length=m*K:=by
  cases ax with
  | none=>obtain⟨U,Y⟩:=Z;subst U Y;simp
  | some ad=>exact Z.2.1
 have ap:xs.length=l*K:=by
  cases a with
  | none=>obtain⟨U,Y⟩:=al;subst U Y;simp
  | some ad=>exact al.2.1
 obtain⟨c,ca⟩:∃c,c=l:=⟨_,V⟩;split
 ·rename_i cc;have hm:m=0:=by omega
  have bv:ys= []:=List.eq_nil_of_length_eq_zero (by rw [ag,hm];simp);refine As _ _ (Ka ⟨ax,cx,V⟩ Z ?_);subst bv;cases a with
  | none=>exact a1 hm
  | some ad=>exact a1 hm
 ·rename_i ce;have U:¬(((l+m:Nat):Int)>IntKind.i64.max/\(False∨O=0)):=by rintro⟨_,h | h⟩ <;> omega
  have Y:¬(Builtin.nextslicecap (l+m) l*O>2 ^ 48):=by
   have:=QM (need:=l+m) (old:=l) (by omega);have ci:Builtin.nextslicecap (l+m) l*O<=(2*(l+m)+768)*64:=Nat.mul_le_mul this bi;omega
  obtain⟨inf,aq,aw⟩:=OH hb;refine As _ _ (Kc aq ?_);rw [aw,if_neg U];refine As _ _ (Kc aq ?_);rw [aw,if_neg Y];refine As _ _ ?_;simp only [choose,lp,Question.forced,Bool.false_eq_true,if_false];refine⟨V,λbw=>?_⟩;generalize b0:(Question.appendCap (l+m) l e).cut bw=a0;have b1:l+m<=a0:=by rw [← b0];simp [Question.cut]
  refine As _ _ (Kc aq ?_);rw [aw];have b2:∀{α:Type} {f:Unit->Sem α} {Q:α->St->Prop},lp P (f ()) (mk E H B) Q X->lp P (askRoom (a0*O)>>=f) (mk E H B) Q X:=by
   intro α f Q a2;refine As _ _ ?_;unfold askRoom;split
   ·exact⟨.inl ⟨V,V⟩,a2⟩
   ·exact a2
  refine b2 (As _ _ (Ka ⟨a,l,V⟩ al ?_));refine As _ _ (Ka ⟨ax,cx,V⟩ Z ?_);refine As _ _ (HA a9 ?_);refine As _ _ (I0 be λr b3=>?_);refine bo r _ a0 b1 ?_ ?_ b3
  ·simp only [Array.size_append,List.size_toArray,Qj,bb,ap,ag];rw [← Nat.add_mul,← Nat.add_mul];congr 1;omega
  ·simp only [Array.toList_append];rw [List.take_append_of_le_length (by simp [ap,ag,Nat.add_mul])];rw [List.take_of_length_le (by simp [ap,ag,Nat.add_mul])]
end
theorem Al.spot{α:Type}{pp:Rp α}{E:LH}{a:Option Addr}{c:Nat}{xs:List α}(h:Al pp E a c xs):∀ad,a=some ad->ad.spot=none∨c=0:=λad K=>by
 rcases h.2 with⟨_,h⟩ | ⟨bk,off,h,_⟩
 ·exact h ad K
 ·rw [h] at K;cases K;exact .inl rfl
theorem Al.full{α:Type}{pp:Rp α}{E:LH}{a:Option Addr}{c:Nat}{xs:List α}(h:Al pp E a c xs):Al pp E a xs.length xs:=⟨Nat.le_refl _,h.2.imp (λ⟨h,_⟩=>⟨h,λ_ _=> .inr (by rw [h];rfl)⟩) id⟩
theorem Al.LS{α:Type}{pp:Rp α}{E H:LH}{B:List (Nat×Obj)}{a:Option Addr}{c:Nat}{ys:List α}(ac:Al pp E a c ys):
  ∃K:List (Lv_),K.length=ys.length/\(∀(i:Nat) x ws,ys[i]? =some x->K[i]? =some ws->pp.r E ws x)/\HJ (mk E H B) (.slice a ys.length c) pp.n K.flatten/\∀w∈K.flatten,CJ w=true:=by
 obtain⟨K,U,Z,Y⟩:=ac.rows;have ag:=Ia U Z;refine⟨K,U,Z,?_,λw hw=>?_⟩
 ·rcases Y with⟨Y,a0⟩ | ⟨bk,off,rfl,Y⟩
  ·subst Y;have:K= []:=List.eq_nil_of_length_eq_zero U;subst this;cases a with
   | none=>exact⟨rfl,rfl⟩
   | some ad=>exact⟨.inr rfl,by simp,Nat.zero_le _,λq w O=>by simp at O⟩
  ·refine⟨.inl V,by rw [LB ag,U],ac.1,λq w O=>?_⟩;obtain⟨al,m,ws,am,e2,ap⟩:=Ov ag O;have:=(Y al ws am).cell (H:=H) (B:=B) e2;subst ap;rw [← Nat.add_assoc];exact this
 ·obtain⟨us,aq,hw⟩:=List.mem_flatten.1 hw;obtain⟨q,O⟩:=List.mem_iff_getElem?.1 aq;have aw:q<ys.length:=by rw [← U];exact(List.getElem?_eq_some_iff.1 O).1
  exact pp.one (Z q _ us (List.getElem?_eq_getElem aw) O) w hw
variable {E':LH}
variable {z1:Operand}{rest:List Nat}{ρ:Operand->Value}
section
variable {b:Frame}
variable {x y:Operand}{e:TypeId}{i:Nat}
theorem QQ{a:Option Addr}{l c K:Nat}(O:∀ad,a=some ad->ad.spot=none∨c=0)(U:l<=c)(Y:P.underlying t=some (.slice e))(Z:Bj P e=some K)(ac:ρ x= .slice a l c)(ag:ρ y=iV (l:Int))(al:ρ z1=iV (l:Int)):
  Yl P ⟨d,.slice t x none (some y) (some z1),ty,p,af,g⟩ ρ s (.slice a l l):=by
 have h:=Yl.slice (P:=P) (s:=s) (d:=d) (ty:=ty) (p:=p) (af:=af) (g:=g) (olo:=none) (ohi:=some y) (omx:=some z1) (lo:=0) (hi:=l) (mx:=l) Y Z ac al ag V U (Nat.le_refl _) (Nat.zero_le _);have am:(if l=0 then a else a.map (·.add (0*K)))=a:=by
  split
  ·rfl
  ·cases a with
   | none=>rfl
   | some ad=>
    have:=(O ad rfl).resolve_right (by omega);simp only [Option.map_some,Nat.zero_mul];rw [Dw this];obtain⟨b,o,sp⟩:=ad;simp only at this;subst this;simp
 rw [am] at h;simpa using h
theorem Vp{α:Type}{pp:Rp α}{t1:TypeId}{Y c cx:Nat}{a ax:Option Addr}{xs ys Z:List α}{ats:Array TypeId}{z:Value}(U:Dy xs ys=some Z)
  (a0:ops[i]? =some ⟨d,.call ⟨.builtin .append,#[x,y],ats⟩,ty,p,af,g⟩) (hw:AM L ops ⟨d,.call ⟨.builtin .append,#[x,y],ats⟩,ty,p,af,g⟩=some true) (a1:BH b n ⟨d,.call ⟨.builtin .append,#[x,y],ats⟩,ty,p,af,g⟩=true)
  (a2:ev L x=some (.slice a xs.length xs.length)) (a3:ev L y=some (.slice ax ys.length cx)) (a4:ats[0]? =some t) (a5:ats[1]? =some t1) (a6:P.underlying t=some (.slice e)) (a7:P.underlying t1=some (.slice e)) (a8:Bj P e=some pp.n) (hb:FJ P e=some Y) (a9:zeroOf P e=some z) (bb:z.cells.size=pp.n)
  (be:0<Y) (bi:Y<=64) (ac:Al pp E a c xs) (bo:Al pp E ax cx ys) (ag:Aq E H S)
  (h:∀E' al K,Le E E'->Al pp E' al K Z->Aq E' H (S++ [[]])->JL J Q b n (Au L d (.slice al Z.length K)) ds (.inRegion ops rest::k) cs (Aj E' H (S++ [[]]))):
  JL J Q b n L ds (.inRegion ops (i::rest)::k) cs (Aj E H S):=by
 unfold Dy at U;split at U
 rotate_left
 ·cases U
 rename_i bv;cases U;obtain⟨wss,am,bw,b0,cJ⟩:=Al.LS (H:=H) (B:=S.flatten) ac.full;obtain⟨b1,b2,b3,b4,b5⟩:=Al.LS (H:=H) (B:=S.flatten) bo;have hlen:(xs++ys).length=xs.length+ys.length:=by simp
 show JL J Q b n L ds (.inRegion ops (i::rest)::k) cs (mk E H S.flatten);refine JL.op a0 hw a1 λρ ap=>?_;rw [Lz,ap x _ a2,ap y _ a3];refine As _ _ (Qn a4 a5 a7 a6 a8 hb a9 bb ag b0 b4 b5 be bv bi ?_ ?_)
 ·intro hm;have b6:ys= []:=List.eq_nil_of_length_eq_zero hm;subst b6;have ca:Aq E H (S++ [[]]):=by unfold Aq at*;rw [GI,List.append_nil];exact ag
  have cc:mk E H S.flatten=Aj E H (S++ [[]]):=by unfold Aj;rw [GI,List.append_nil]
  rw [cc];have:=h E a xs.length (Le.refl _) (by rw [List.append_nil];exact ac.full) ca;rw [hlen] at this;exact this
 ·intro r O K ce ci co cp;have ct:OL e pp E (some ⟨r,0,none⟩) K [(r,.cells O e (0,0))] (xs++ys):=
   ⟨wss++b1,.inr ⟨r,O,rfl,rfl,ci,by rw [hlen];exact ce,by rw [hlen,List.flatten_append];exact co.symm⟩,by simp [am,b2],MP am bw b3⟩
  have aq:=Fp (S:=S) (seg:= [(r,.cells O e (0,0))]) cp;show JL J Q b n _ ds _ cs (mk E H (S.flatten++ [(r,.cells O e (0,0))]));rw [aq.1];refine B6 S.length ct aq.2 (by simp) λE' hle cw aw=>?_;have cy:(S++ [[(r,Obj.cells O e (0,0))]]).set S.length []=S++ [[]]:=IB _ _ _ _;rw [cy] at aw ⊢;have:=h E' (some ⟨r,0,none⟩) K hle cw aw;rw [hlen] at this;exact this
end
open Go.ConcN (sumTo sumTo_upd upd upd_ne upd_same)
def LQ(P:Program)(R:Value->St->Prop):GP:=λg s=>
 g.status= .running/\∃v,R v s/\∀w,stepG P true g w= .ended (.done v) w #[]
variable {R:Value->St->Prop}
section
variable {b:Frame}
theorem JO.end{fn:Func}{t:Tmp}{v:Value}(K:b.kind= .normal)(hi:P.inits.idxOf? b.fn=none)(O:P.funcs[b.fn]? =some fn)(U:fn.results= #[.tmp t])(Y:look L t=some v)(Z:R v s):JO J (LQ P R) b n L [] [] s:=λT ac todo=>by
 refine J.stop ⟨rfl,v,Z,λw=>?_⟩
 have e:results fn T=Sem.pure v:=by
  have:=ac.at_ t v Y;simp only [results,U,Array.mapM_eq_mapM_toList];show Sem.pure (T.getD t undef)=_;rw [this]
 have ag:(results fn T).run P w= .ok v w:=by rw [e];rfl
 have e2:(results fn T).events P w #[]= #[]:=by rw [e];simp [Sem.events_pure']
 simp [G,stepG,unwind,Ej,O,ag,e2,doReturn,K,GStep.after,hi,seen_none]
end
def After(P:Program)(R:Value->St->Prop)(K:World)(s₀:St)(v:Value)(w':World):Prop:=
 ∃s,R v s/\Fits s w'/\(∀b o,s₀.E b=some o->s.E b=some o)/\w'.tape=K.tape/\Gg K.os w'.os/\w'.output=K.output
def Qb(P:Program)(R:Value->St->Prop)(K:World)(s₀:St)(O:Nat)(m:Machine)(t:Trace):Prop:=
 ∃gs w sl q Sh g s,m=crowd gs w sl/\Hp P gs w t q Sh g s/\LQ P R g s/\O=sumTo gs.size q/\(∀b o,s₀.E b=some o->s.E b=some o)/\w.tape=K.tape/\Gg K.os w.os/\w.output=K.output
theorem W3{ap:World}{s₀:St}(a1:Nat)(m:Machine)(t:Trace)(h:Qb P R ap s₀ a1 m t):
  (∃o w ops,stepT P m=(.ended o w,ops)/\Good P (After P R ap s₀) m o w (t++ops))∨(∃m' ops a2,stepT P m=(.next m',ops)/\a2<a1/\Qb P R ap s₀ a2 m' (t++ops)):=by
 obtain⟨gs,w,sl,q,Sh,g,s,rfl,hC,bw,rfl,a3,a4,a5,a6⟩:=h;obtain⟨ac,v,a7,a8⟩:=bw;have b0:∀x∈gs,awake x:=by
  intro x Y;obtain⟨i,hi,rfl⟩:=Array.mem_iff_getElem.1 Y;rcases Nat.eq_zero_or_pos i with rfl | aq
  ·have:gs[0]=g:=by simpa [Array.getElem?_eq_getElem hi] using hC.main
   rw [this];exact awake_of (.inl ac)
  ·exact awake_of ((hC.lv.old i _ aq (Array.getElem?_eq_getElem hi)).status.elim .inl λx=> .inr (.inr x))
 obtain⟨i,x,d,a9,hi,Y,bb⟩:=crowd_pick (P:=P) (w:=w) (sl:=sl) b0 ⟨0,g,hC.main,ac⟩;have be:=hC.at_ d;have b1:0<gs.size:=(Array.getElem?_eq_some_iff.1 hC.main).1;have b2:∀(a:Nat) (fn:FuncId) (pos:String),MemOp.ofEvents a fn pos #[]= #[]:=λa fn pos=>by rw [ofEvents_eq];simp
 rcases Nat.eq_zero_or_pos i with rfl | aq
 ·obtain rfl:x=g:=by rw [hC.main] at hi;exact(Option.some.inj hi).symm
  have ag:=runT_many_ended (P:=P) (sl:=a9) (i:=0) hi (show stepG P (0==0) x (w.at d)=_ from a8 (w.at d));rw [b2] at ag;refine .inl ⟨_,_,_,bb.trans ag,v,V,⟨s,a7,be.B7.fits 0 b1,a3,a4,a5,a6⟩,?_,?_,⟨λy K=>?_,V⟩,λj y K O=>?_⟩
  ·simpa using hC.B7.clean
  ·simpa using hC.over
  ·obtain⟨j,O⟩:=List.mem_iff_getElem?.1 K;rw [List.getElem?_drop] at O;exact⟨_,(hC.lv.old (1+j) y (by omega) (by simpa [crowd] using O)).leaves⟩
  ·have Z:=hC.lv.old j y (by omega) K;exact⟨q j,by simp only [Array.append_empty];exact Z.hears w⟩
 ·have Z:=hC.lv.old i x aq hi;have b3:(i==0)=false:=by simp;omega
  have bi:i<gs.size:=(Array.getElem?_eq_some_iff.1 hi).1;cases aw:q i with
  | zero=>rw [aw] at Z;rw [Z.1] at Y;cases Y
  | succ k=>
   rw [aw] at Z;rcases Z with⟨b4,_⟩ | ⟨_,x',es,hm,b5,b6⟩
   ·rw [b4] at Y;cases Y
   have ci:sumTo gs.size (upd q i k)+(k+1)=sumTo gs.size q+k:=by
    have:=sumTo_upd q k id bi;simpa [aw] using this
   have ag:=runT_crowd_go (P:=P) (sl:=a9) (i:=i) hi (by rw [b3];exact b5 (w.at d));have a0:((gs.map (woken P x x' (w.at d))).setIfInBounds i x').size=gs.size:=by simp
   have al:∀op∈MemOp.ofEvents i x.frame.fn x.frame.place es,op.g=i:=λop U=>by obtain⟨e,_,rfl⟩:=mem_ofEvents U;rfl
   have bo:∀op∈MemOp.ofEvents i x.frame.fn x.frame.place es,op.act.touch? =none:=λop U=>by obtain⟨e,he,rfl⟩:=mem_ofEvents U;exact touch_mute (hm e he)
   have ca:Hp P ((gs.map (woken P x x' (w.at d))).setIfInBounds i x') (w.at d) (t++MemOp.ofEvents i x.frame.fn x.frame.place es) (upd q i k) Sh g s:=by
    refine⟨?_,⟨λj y O K=>?_,λj O=>?_⟩,?_,?_,?_⟩
    ·have cc:i≠0:=by omega
     rw [Array.getElem?_setIfInBounds_ne cc,Array.getElem?_map,hC.main];simp [woken_run ac]
    ·by_cases am:i=j
     ·subst am;rw [Array.getElem?_setIfInBounds_self_of_lt (by simpa using bi)] at K;obtain rfl:=Option.some.inj K;rw [upd_same,Deaf_own];exact b6
     ·rw [Array.getElem?_setIfInBounds_ne am,Array.getElem?_map] at K;obtain⟨z,ce,rfl⟩:=Option.map_eq_some_iff.1 K;have bv:=hC.lv.old j z O ce;rw [woken_quitsD bv,upd_ne q k (Ne.symm am),Deaf_other t am _ al];exact bv
    ·rw [Deaf_other t (g':=i) (by simp at O;omega) _ al];exact hC.lv.above j (by simpa using O)
    ·rw [a0];exact be.B7.mute al bo (λop U=>by obtain⟨e,he,rfl⟩:=mem_ofEvents U;exact low_mute (hm e he) _) V
    ·exact handedOver_app hC.over λop U=> .inr (bo op U)
    ·rw [Deaf_other t (by omega) _ al];exact hC.hears
   exact .inr ⟨_,_,_,bb.trans ag,by rw [← a0];rw [a0];omega,_,_,_,_,_,_,_,V,ca,⟨ac,v,a7,a8⟩,V,a3,a4,a5,a6⟩
theorem ends{gs:Array Goroutine}{w:World}{sl:Option (Nat×Nat)}{t:Trace}{q:Nat->Nat}{Sh:Nat->Prop}{g:Goroutine}{s:St}(hC:Hp P gs w t q Sh g s)(O:LQ P R g s):
  ∃N last o w' K,runNT P (N+1) (crowd gs w sl) t=(.ended o w',K)/\runN P N (crowd gs w sl)= .next last/\step P last= .ended o w'/\Good P (After P R w s) last o w' K:=
 run_of_inv Nat.lt_wfRel.wf (Qb P R w s) (Good P (After P R w s)) W3 _ _ _ ⟨gs,w,sl,q,Sh,g,s,V,hC,O,V,λ_ _ h=>h,V,.refl _,V⟩
theorem Vl{m m':Machine}{t K:Trace}{n:Nat}(h:runNT P n m t=(.next m',K)):runN P n m= .next m':=by rw [← runNT_fst P n m t,h]
def Gi(W:World):St:=⟨λb=>W.heap[b]?,λ_=>none,false⟩
theorem Xl{W:World}{g:Goroutine}(h:(GK P).ok (LQ P R) g (Gi W)):
  ∃M last o w' K,runNT P (M+1) (solo g W) #[]=(.ended o w',K)/\runN P M (solo g W)= .next last/\step P last= .ended o w'/\Good P (After P R W (Gi W)) last o w' K:=by
 have hC:Hp P #[g] W #[] (λ_=>0) (λ_=>False) g (Gi W):=by
  have Y:∀{i:Nat} {a:Touch},touchAt #[] i=some a->False:=λ{i a} h=>by simp [touchAt,Trace.act?] at h
  refine⟨V,leavers_one P g,⟨λi hi=>?_,λi j hi ac bw=>by simp at hi ac;omega,λi hi b hb=>hb.elim,λb hb=>hb.elim,λsaid=>?_,by simp,λi _ b _ x a O=>(Y O).elim,λi _ b _ x a O=>(Y O).elim⟩,λi g ag=>by simp [Trace.g?] at ag,V⟩
  ·have:i=0:=by simp at hi;exact hi
   subst this;exact⟨λb o U=>U,λb o U=>(by cases U),λb _=>V⟩
  ·rintro⟨i,j,_,⟨a,b,al,_⟩,_⟩;simp [Trace.act?] at al
 obtain⟨n,gs',w',am,K,q',b0,g',s',Z,ap,aq,aw,a0,a2,a3⟩:=h #[g] W none #[] _ _ hC;obtain⟨N,last,o,a4,a5,k1,a6,a7,a8⟩:=ends (sl:=am) ap aq;refine⟨n+N,last,o,a4,a5,?_,?_,a7,?_⟩
 ·rw [solo_eq_crowd,Nat.add_assoc,runNT_add,Z];exact k1
 ·have a9:=Vl Z;rw [solo_eq_crowd,runN_add,a9];exact a6
 ·obtain⟨v,e,⟨s2,a1,bb,be,bi,bo,bv⟩,r⟩:=a8;exact⟨v,e,⟨s2,a1,bb,λb o hb=>be b o (aw b o hb),bi.trans a0,a2.trans bo,bv.trans a3⟩,r⟩
end Pal
namespace Pal
open Go Go.Conc
theorem VI{P:Program}{Q:Gs_}{E H:LH}{f:FuncId}{fn:Func}{c:Code}{vs:Lv_}(U:P.funcs[f]? =some fn)(hb:fn.body=some c)(ag:fn.ntmps=fn.ntmps)(al:vs.length<=fn.ntmps)
  (h:JL (GK P) Q (base f) fn.ntmps (Ga 0 vs) [] [.code c] [] (Aj E H [[]])):(GK P).ok Q (G (Frame.enter P f vs.toArray .normal) []) (mk E H []):=by
 have he:Frame.enter P f vs.toArray .normal=fr (base f) (vs.toArray++Array.replicate (fn.ntmps - vs.length) undef) [] [.code c]:=by
  simp [Frame.enter,fr,U,hb,base];rfl
 rw [he];have Y:mk E H []=Aj E H [[]]:=by unfold Aj;simp
 rw [Y];refine h _ ⟨by simp;omega,λt v Z=>?_⟩;obtain⟨_,K⟩:=Jw Z;have ac:t<vs.length:=by
  rcases Nat.lt_or_ge t vs.length with O | O
  ·exact O
  ·simp at K;have:=(List.getElem?_eq_some_iff.1 K).1;omega
 rw [Array.getD_eq_getD_getElem?,Array.getElem?_append_left (by simpa using ac)];simp at K;simp [K]
def Ho(K:Bool)(ws:Lv_):Value:=if K then .agg ws.toArray else ws.headD undef
def Vr{α:Type}(pp:Rp α)(K:Bool)(E:LH)(v:Value)(x:α):Prop:=∃ws,pp.r E ws x/\v=Ho K ws
theorem Vr.Ah{α:Type}{pp:Rp α}{K:Bool}{E E':LH}{v:Value}{x:α}(h:Vr pp K E v x)(hle:Le E E'):Vr pp K E' v x:=
 let ⟨ws,O,U⟩:=h;⟨ws,pp.Ah hle O,U⟩
structure Gx (P:Program) (t:TypeId) {κ:Type} [DecidableEq κ] (pk:Rp κ) (ka:Bool):Prop where
 BH:∀{em:Bool} {E:LH} {v:Value} {x:κ} {s:St} {Q:Unit->St->Prop} {X:Halt->St->Prop},Vr pk ka E v x->Q () s->lp P (Instr.checkKey em 10000 t v) s Q X
 kind:∃kd,P.underlying t=some kd/\((∀v w,Instr.sameNow kd v w=none)∨∀{E:LH} {v w:Value} {x y:κ},Vr pk ka E v x->Vr pk ka E w y->Instr.sameNow kd v w=some (decide (x=y)))
 eq:∀{E:LH} {v w:Value} {x y:κ} {s:St} {Q:Bool->St->Prop} {X:Halt->St->Prop},Vr pk ka E v x->Vr pk ka E w y->Q (decide (x=y)) s->lp P (Op.equal t v w) s Q X
 same:∀{E:LH} {v:Value} {x:κ},Vr pk ka E v x->Instr.sameBits 10000 v v=true
 uniq:∀{E:LH} {v w:Value} {x:κ},Vr pk ka E v x->Vr pk ka E w x->v=w
variable {κ ν:Type}{pk:Rp κ}{pv:Rp ν}{ka va:Bool}{E E':LH}
variable {P:Program}{s:St}{t tm te:TypeId}{X:Halt->St->Prop}
section
variable [DecidableEq κ]
def Dz(pk:Rp κ)(ka:Bool)(pv:Rp ν)(va:Bool)(E:LH):List MapEntry->List (κ×ν)->Prop
 | [],[]=>True
 | e::es,x::xs=>Vr pk ka E e.key x.1/\Vr pv va E e.val x.2/\Dz pk ka pv va E es xs
 | _,_=>False
theorem Dz.Ah(hle:Le E E'):∀{es:List MapEntry} {xs:List (κ×ν)},Dz pk ka pv va E es xs->Dz pk ka pv va E' es xs
 | [],[],_=>trivial
 | e::es,x::xs,h=>⟨h.1.Ah hle,h.2.1.Ah hle,Dz.Ah hle h.2.2⟩
 | [],_::_,h=>h.elim
 | _::_,[],h=>h.elim
theorem Dz.len:∀{es:List MapEntry} {xs:List (κ×ν)},Dz pk ka pv va E es xs->es.length=xs.length
 | [],[],_=>rfl
 | e::es,x::xs,h=>by simp [Dz.len h.2.2]
 | [],_::_,h=>h.elim
 | _::_,[],h=>h.elim
def Gh(x:κ):List MapEntry->List (κ×ν)->Nat->Option (Nat×Value)
 | e::es,y::ys,i=>if x=y.1 then some (i,e.val) else Gh x es ys (i+1)
 | _,_,_=>none
def BC(xs:List (κ×ν))(x:κ):Option ν:=(xs.find? λy=>decide (x=y.1)).map (·.2)
def Dg(xs:List (κ×ν))(x:κ)(v:ν):List (κ×ν):=match xs with
 | []=> [(x,v)]
 | y::ys=>if x=y.1 then(x,v)::ys else y::Dg ys x v
theorem SO{x:κ}:∀{es:List MapEntry} {xs:List (κ×ν)} {i:Nat},Dz pk ka pv va E es xs->(Gh x es xs i=none/\BC xs x=none)∨∃j w v0,Gh x es xs i=some (j,w)/\BC xs x=some v0/\Vr pv va E w v0
 | [],[],i,_=> .inl ⟨rfl,rfl⟩
 | e::es,y::ys,i,h=>by
  unfold Gh BC
  by_cases K:x=y.1
  ·exact .inr ⟨i,e.val,y.2,by rw [if_pos K],by simp [K],h.2.1⟩
  ·rcases SO (x:=x) (i:=i+1) h.2.2 with⟨O,U⟩ | ⟨j,w,v0,O,U,Y⟩
   ·exact .inl ⟨by rw [if_neg K];exact O,by simpa [K,BC] using U⟩
   ·exact .inr ⟨j,w,v0,by rw [if_neg K];exact O,by simpa [K,BC] using U,Y⟩
 | [],_::_,_,h=>h.elim
 | _::_,[],_,h=>h.elim
theorem Dz.put{x:κ}{v0:ν}{O w:Value}(U:Vr pk ka E O x)(hw:Vr pv va E w v0)(Z:Nat):∀{es:List MapEntry} {xs:List (κ×ν)} {i:Nat},Dz pk ka pv va E es xs->
  (Gh x es xs i=none/\Dz pk ka pv va E (es++ [{key:=O,val:=w,born:=Z}]) (Dg xs x v0))∨
  ∃j u,Gh x es xs i=some (i+j,u)/\j<es.length/\(∀e,es[j]? =some e->Vr pk ka E e.key x)/\Dz pk ka pv va E (es.modify j λe=>{e with key:=O,val:=w}) (Dg xs x v0)
 | [],[],i,_=> .inl ⟨rfl,U,hw,trivial⟩
 | e::es,y::ys,i,h=>by
  unfold Gh Dg
  by_cases K:x=y.1
  ·refine .inr ⟨0,e.val,by rw [if_pos K];rfl,by simp,λac he=>?_,?_⟩
   ·simp at he;subst he;rw [K];exact h.1
   ·rw [if_pos K];exact⟨U,hw,h.2.2⟩
  ·rcases Dz.put U hw Z (i:=i+1) h.2.2 with⟨Y,ag⟩ | ⟨j,u,Y,ag,al,am⟩
   ·exact .inl ⟨by rw [if_neg K];exact Y,by rw [if_neg K];exact⟨h.1,h.2.1,ag⟩⟩
   ·refine .inr ⟨j+1,u,by rw [if_neg K,Y];congr 2;omega,by simp;omega,λac he=>al ac (by simpa using he),?_⟩;rw [if_neg K];exact⟨h.1,h.2.1,am⟩
 | [],_::_,_,h=>h.elim
 | _::_,[],_,h=>h.elim
def Ku(pk:Rp κ)(ka:Bool)(pv:Rp ν)(va:Bool)(E:LH)(o:Obj)(xs:List (κ×ν)):Prop:=
 ∃es clock,o= .map es clock/\Dz pk ka pv va E es.toList xs/\(es.toList.map (·.born)).Pairwise (·<·)/\∀e∈es.toList,e.born<clock
theorem Ku.Ah{o:Obj}{xs:List (κ×ν)}(h:Ku pk ka pv va E o xs)(hle:Le E E'):Ku pk ka pv va E' o xs:=
 let ⟨es,c,K,O,U⟩:=h;⟨es,c,K,O.Ah hle,U⟩
theorem Qo(U:Gx P t pk ka){k:Value}{x:κ}(Y:Vr pk ka E k x){Q:Option (Nat×Value)->St->Prop}:∀{es:List MapEntry} {xs:List (κ×ν)} {i:Nat},Dz pk ka pv va E es xs->Q (Gh x es xs i) s->lp P (Instr.findAsking t k es i) s Q X
 | [],[],i,_,h=>h
 | e::es,y::ys,i,h,K=>by
  unfold Instr.findAsking
  refine As _ _ (U.eq Y h.1 ?_)
  unfold Gh at K
  by_cases O:x=y.1
  ·rw [decide_eq_true O]
   rw [if_pos O] at K;exact K
  ·rw [decide_eq_false O];rw [if_neg O] at K;exact Qo U Y h.2.2 K
 | [],_::_,_,h,_=>h.elim
 | _::_,[],_,h,_=>h.elim
theorem Qz{kd:TypeDesc}{k:Value}{x:κ}(O:Vr pk ka E k x)(U:∀{E:LH} {v w:Value} {x y:κ},Vr pk ka E v x->Vr pk ka E w y->Instr.sameNow kd v w=some (decide (x=y))):∀{es:List MapEntry} {xs:List (κ×ν)} {i:Nat},Dz pk ka pv va E es xs->Instr.findNow kd k es i=some (Gh x es xs i)
 | [],[],i,_=>rfl
 | e::es,y::ys,i,h=>by
  unfold Instr.findNow Gh
  rw [U O h.1]
  by_cases K:x=y.1
  ·simp [K]
  ·simp only [decide_eq_false K,if_neg K];exact Qz O U h.2.2
 | [],_::_,_,h=>h.elim
 | _::_,[],_,h=>h.elim
theorem Oz(O:Gx P t pk ka){k:Value}{x:κ}(U:Vr pk ka E k x){Q:Option (Nat×Value)->St->Prop}{es:List MapEntry}{xs:List (κ×ν)}(h:Dz pk ka pv va E es xs)(K:Q (Gh x es xs 0) s):lp P (Instr.findKey t k es) s Q X:=by
 unfold Instr.findKey;obtain⟨kd,Y,Z | ac⟩:=O.kind
 ·refine As _ _ (Cg Y ?_);cases es with
  | nil=>
   cases xs with
   | nil=>exact K
   | cons y ys=>exact h.elim
  | cons e es=>
   have ag:Instr.findNow kd k (e::es) 0=none:=by unfold Instr.findNow;rw [Z]
   rw [ag];exact Qo O U h K
 ·refine As _ _ (Cg Y ?_);rw [Qz U ac h];exact K
theorem Ws(O:Gx P t pk ka)(hm:P.underlying tm=some (.map t te)){z:Value}{z0:ν}(Z:zeroOf P te=some z)(ac:Vr pv va E z z0){bk:Nat}{o:Obj}{xs:List (κ×ν)}{k:Value}{x:κ}(ag:s.get bk=some o)(al:Ku pk ka pv va E o xs)(U:Vr pk ka E k x)(ok:Bool){Q:Value->St->Prop}
  (h:∀w,Vr pv va E w ((BC xs x).getD z0)->Q (if ok then .tuple #[w,.bool (BC xs x).isSome] else w) s):lp P (Instr.lookup tm (.map (some bk)) k ok) s Q X:=by
 obtain⟨es,c,rfl,Y,ap,aq⟩:=al;unfold Instr.lookup;refine As _ _ (Cg hm ?_);refine As _ _ ?_;unfold getObj;simp only [bind,Sem.bind,lp];refine⟨_,ag,V,?_⟩;refine As (x:=Instr.checkKey _ 10000 t k) _ (O.BH U ?_);refine As (x:=Instr.findKey t k es.toList) _ (Oz O U Y ?_);rcases SO (x:=x) (i:=0) Y with⟨K,e2⟩ | ⟨j,w,v0,K,e2,am⟩
 ·rw [K];simp only;refine As (x:=zeroValue te) _ (HA Z ?_);have:=h z (by rw [e2];exact ac);rw [e2] at this;exact this
 ·rw [K];have:=h w (by rw [e2];exact am);rw [e2] at this;exact this
theorem UU(O:Gx P t pk ka)(hm:P.underlying tm=some (.map t te)){bk:Nat}{o:Obj}{xs:List (κ×ν)}{k w:Value}{x:κ}{v0:ν}(am:s.get bk=some o)(Z:s.H bk=some o)(ap:Ku pk ka pv va E o xs)(K:Vr pk ka E k x)(hw:Vr pv va E w v0){Q:Unit->St->Prop}
  (h:∀o',Ku pk ka pv va E o' (Dg xs x v0)->Q () (s.upd bk o')):lp P (Instr.mapUpdate tm (.map (some bk)) k w) s Q X:=by
 obtain⟨es,c,rfl,ac,ag,U⟩:=ap;unfold Instr.mapUpdate;refine As _ _ (Cg hm ?_);unfold getObj;simp only [bind,Sem.bind,lp];refine⟨_,am,V,?_⟩;refine As (x:=Instr.checkKey false 10000 t k) _ (O.BH K ?_);refine As (x:=Instr.findKey t k es.toList) _ (Oz O K ac ?_);rcases Dz.put K hw c (i:=0) ac with⟨Y,e2⟩ | ⟨j,u,Y,e2,aq,aw⟩
 ·rw [Y];simp only [setObj,lp];refine⟨⟨_,Z,V⟩,V,h _ ⟨es.push {key:=k,val:=w,born:=c},c+1,V,by simpa using e2,?_,?_⟩⟩
  ·rw [Array.toList_push,List.map_append,List.pairwise_append];refine⟨ag,by simp,λa a0 b hb=>?_⟩;simp at hb;subst hb;obtain⟨e,he,rfl⟩:=List.mem_map.1 a0;exact U e he
  ·intro e he;rw [Array.toList_push] at he;rcases List.mem_append.1 he with he | he
   ·have:=U e he;omega
   ·simp at he;subst he;simp
 ·rw [Y];have al:es[j]? =some (es[j]'(by simpa using e2)):=Array.getElem?_eq_getElem (by simpa using e2);have a1:(es[j]'(by simpa using e2)).key=k:=O.uniq (aq _ (by rw [Array.getElem?_toList];exact al)) K;simp only [Nat.zero_add,al,Option.map_some,Option.getD_some,a1];refine As (x:=Instr.keyThatStays k k) _ ?_;unfold Instr.keyThatStays;rw [if_pos (O.same K)];simp only [lp,pure,setObj];refine⟨⟨_,Z,V⟩,V,h _ ⟨_,c,V,by simpa using aw,?_,?_⟩⟩
  ·have:(es.modify j λe=>{e with key:=k,val:=w}).toList.map (·.born)=es.toList.map (·.born):=by
    rw [Array.toList_modify];apply List.ext_getElem?;intro q;simp only [List.getElem?_map,List.getElem?_modify];split <;> cases es.toList[q]? <;> rfl
   rw [this];exact ag
  ·intro e he;rw [Array.toList_modify] at he;obtain⟨q,a2,rfl⟩:=List.mem_iff_getElem.1 he;rw [List.getElem_modify];have a3:q<es.toList.length:=by simpa using a2
   split
   ·show(es.toList[q]'a3).born<c;exact U _ (List.getElem_mem _)
   ·exact U _ (List.getElem_mem _)
end
theorem R8{l us r:Lv_}:∀j w,us[j]? =some w->(l++us++r).toArray[l.length+j]? =some w:=λj w h=>by
 have K:j<us.length:=(List.getElem?_eq_some_iff.1 h).1
 rw [List.getElem?_toArray,List.append_assoc,List.getElem?_append_right (by omega),show l.length+j - l.length=j by omega,List.getElem?_append_left K]
 exact h
section
variable {e:TypeId}
theorem KU{c:Av_}{off:Nat}{us:Lv_}{O:Bool}(Y:De P e=some O)(Z:Bj P e=some us.length)(ac:O=false->us.length=1)(hw:∀j w,us[j]? =some w->c[off+j]? =some w)
  {Q:Value->St->Prop} (k:Q (Ho O us) s):lp P (Go.part e c off) s Q X:=by
 unfold Go.part;refine As (x:=isAgg e) _ (M5 Y ?_);cases O with
 | true=>
  simp only [if_true];refine As (x:=Go.sizeOf e) _ (EJ Z ?_);have ag:c.extract off (off+us.length)=us.toArray:=by
   apply Array.ext_getElem?;intro j;by_cases U:j<us.length
   ·have K:=hw j us[j] (List.getElem?_eq_getElem U);have al:off+j<c.size:=(Array.getElem?_eq_some_iff.1 K).1;simp only [Array.getElem?_extract];rw [if_pos (by omega),K];simp [U]
   ·simp only [Array.getElem?_extract];rw [if_neg (by omega)];simp;omega
  show Q (.agg (c.extract off (off+us.length))) s;rw [ag];exact k
 | false=>
  obtain⟨w,rfl⟩:∃w,us= [w]:=by
   match us,ac rfl with
   | [w],_=>exact⟨w,rfl⟩
  have K:=hw 0 w V;rw [Nat.add_zero] at K;simp only [Bool.false_eq_true,if_false,K];exact k
end
structure B4 (P:Program) (t:TypeId) {α:Type} [DecidableEq α] (pp:Rp α) (K:Bool) (dep:Nat):Prop where
 agg:De P t=some K
 size:Bj P t=some pp.n
 one:K=false->pp.n=1
 eq:∀{n:Nat} {E E':LH} {ws ws':Lv_} {x y:α} {s:St} {Q:Bool->St->Prop} {X:Halt->St->Prop},dep<=n->pp.r E ws x->pp.r E' ws' y->Q (decide (x=y)) s->lp P (Op.equalIn n t (Ho K ws) (Ho K ws')) s Q X
 BH:∀{n:Nat} {em:Bool} {E:LH} {ws:Lv_} {x:α} {s:St} {Q:Unit->St->Prop} {X:Halt->St->Prop},dep<=n->pp.r E ws x->Q () s->lp P (Instr.checkKey em n t (Ho K ws)) s Q X
 uniq:∀{E E':LH} {ws ws':Lv_} {x:α},pp.r E ws x->pp.r E' ws' x->ws=ws'
 same:∀{E:LH} {ws:Lv_} {x:α},pp.r E ws x->∀w∈ws,∀m,Instr.sameBits (m+1) w w=true
 now:∃kd,P.underlying t=some kd/\((∀v w,Instr.sameNow kd v w=none)∨∀{E E':LH} {ws ws':Lv_} {x y:α},pp.r E ws x->pp.r E' ws' y->Instr.sameNow kd (Ho K ws) (Ho K ws')=some (decide (x=y)))
variable {ρ:Operand->Value}{d:Option Tmp}{u ty:TypeId}{p:String}{af:Ae_}{g:On_}{ws ws':Lv_}
section
variable {e:TypeId}
theorem B4.int{kd:IntKind}(U:P.underlying t=some (.int kd))(Y:Bj P t=some 1):B4 P t (rK kd) false 1 where
 agg:=by unfold De;rw [U]
 size:=Y
 one _:=rfl
 eq {n E E' ws ws' x y s Q X} Z K O k:=by
  obtain⟨m,rfl⟩:∃m,n=m+1:=⟨n - 1,by omega⟩;have K:ws= [.int kd x]:=K;have O:ws'= [.int kd y]:=O;subst K O;refine TS U ?_;have e:(x==y)=decide (x=y):=by by_cases h:x=y <;> simp [h]
  rw [e];exact k
 BH {n em E ws x s Q X} Z K k:=by
  obtain⟨m,rfl⟩:∃m,n=m+1:=⟨n - 1,by omega⟩;have K:ws= [.int kd x]:=K;subst K;unfold Instr.checkKey;refine As _ _ (Cg U ?_);exact k
 uniq K O:=by
  have K:_= [Value.int kd _]:=K;have O:_= [Value.int kd _]:=O;rw [K,O]
 same {E ws x} h w hw m:=by
  have h:ws= [Value.int kd x]:=h;subst h;simp at hw;subst hw;simp [Instr.sameBits]
 now:=⟨_,U,.inr λ{E E' ws ws' x y} K O=>by
  have K:ws= [.int kd x]:=K
  have O:ws'= [.int kd y]:=O
  subst K O
  have e:(x==y)=decide (x=y):=by by_cases h:x=y <;> simp [h]
  show(if kd=kd then some (x==y) else none)=_
  rw [if_pos rfl,e]⟩
theorem B4.nat{kd:IntKind}(U:P.underlying t=some (.int kd))(Z:Bj P t=some 1):B4 P t (rN kd) false 1 where
 agg:=by unfold De;rw [U]
 size:=Z
 one _:=rfl
 eq {n E E' ws ws' x y s Q X} ac K O k:=by
  obtain⟨m,rfl⟩:∃m,n=m+1:=⟨n - 1,by omega⟩;have K:ws= [.int kd ((x:Nat):Int)]:=K;have O:ws'= [.int kd ((y:Nat):Int)]:=O;subst K O;refine TS U ?_;have e:((x:Int)==(y:Int))=decide (x=y):=by
   by_cases h:x=y
   ·simp [h]
   ·have Y:¬(x:Int)=(y:Int):=by omega
    simp [h,Y]
  rw [e];exact k
 BH {n em E ws x s Q X} ac K k:=by
  obtain⟨m,rfl⟩:∃m,n=m+1:=⟨n - 1,by omega⟩;have K:ws= [.int kd ((x:Nat):Int)]:=K;subst K;unfold Instr.checkKey;refine As _ _ (Cg U ?_);exact k
 uniq K O:=by
  have K:_= [Value.int kd _]:=K;have O:_= [Value.int kd _]:=O;rw [K,O]
 same {E ws x} h w hw m:=by
  have h:ws= [Value.int kd ((x:Nat):Int)]:=h;subst h;simp at hw;subst hw;simp [Instr.sameBits]
 now:=⟨_,U,.inr λ{E E' ws ws' x y} K O=>by
  have K:ws= [.int kd ((x:Nat):Int)]:=K
  have O:ws'= [.int kd ((y:Nat):Int)]:=O
  subst K O
  have e:((x:Int)==(y:Int))=decide (x=y):=by
   by_cases h:x=y
   ·simp [h]
   ·have Y:¬(x:Int)=(y:Int):=by omega
    simp [h,Y]
  show(if kd=kd then some ((x:Int)==(y:Int)) else none)=_
  rw [if_pos rfl,e]⟩
theorem B4.up{α:Type} [DecidableEq α] {pp:Rp α}{O:Bool}{dep U:Nat}(h:B4 P t pp O dep)(hd:dep<=U):B4 P t pp O U:=
 ⟨h.agg,h.size,h.one,λK=>h.eq (Nat.le_trans hd K),λK=>h.BH (Nat.le_trans hd K),h.uniq,h.same,h.now⟩
theorem O3{α:Type}{kk:Nat}{pp:Rp α}{E:LH}{ws:Lv_}{xs:List α}(K:(rA kk pp).r E ws xs){i:Nat}(hi:i<kk):∃x us,xs[i]? =some x/\pp.r E us x/\us.length=pp.n/\∀j w,us[j]? =some w->ws.toArray[i*pp.n+j]? =some w:=by
 have O:xs[i]? =some (xs[i]'(by rw [K.1];exact hi)):=List.getElem?_eq_getElem (by rw [K.1];exact hi);have Y:ix xs (i:Int)=some (xs[i]'(by rw [K.1];exact hi)):=by unfold ix;rw [if_pos (by omega)];simpa using O
 obtain⟨us,U,_,_,Z⟩:=HC (m:=(i:Int)) K Y;exact⟨_,us,O,U,pp.len U,λj w ac=>by have:=Z j w ac;rw [List.getElem?_toArray];simpa using this⟩
theorem B4.arr{α:Type} [DecidableEq α] {pp:Rp α}{a9:Bool}{dep kk:Nat}(h:B4 P e pp a9 dep)(Z:P.underlying t=some (.array kk e))(bb:Bj P t=some (kk*pp.n)):B4 P t (rA kk pp) true (dep+1) where
 agg:=by unfold De;rw [Z]
 size:=bb
 one:=λh=>by cases h
 eq {n E E' ws ws' xs ys s Q X} be ac a4 k:=by
  obtain⟨n,rfl⟩:∃m,n=m+1:=⟨n - 1,by omega⟩;have b4:=ac.1;have b5:=a4.1;unfold Op.equalIn;refine As _ _ (Cg Z ?_);refine As (x:=Go.sizeOf e) _ (EJ h.size ?_);simp only [Ho,if_true];simp only [Std.Legacy.Range.forIn_eq_forIn_range',Std.Legacy.Range.size,Nat.sub_zero,Nat.add_one_sub_one,Nat.div_one];let bd:Nat->Option Bool×Unit->Sem (ForInStep (Option Bool×Unit)):=λi _=>do
   if !(← Op.equalIn n e (← Go.part e ws.toArray (i*pp.n)) (← Go.part e ws'.toArray (i*pp.n))) then pure (ForInStep.done (some false,())) else pure (ForInStep.yield (none,()))
  have key:∀(m st:Nat),st+m=kk->(∀i,i<st->xs[i]? =ys[i]?)->∀{K:Option Bool×Unit->St->Prop},K (if xs=ys then(none,()) else(some false,())) s->lp P (forIn (List.range' st m) (none,()) bd:Sem _) s K X:=by
   intro m
   induction m with
   | zero=>
    intro st al am K O;have U:xs=ys:=by
     apply List.ext_getElem?;intro i;rcases Nat.lt_or_ge i st with hi | hi
     ·exact am i hi
     ·rw [List.getElem?_eq_none (by omega),List.getElem?_eq_none (by omega)]
    rw [if_pos U] at O;simp only [List.range'_zero,List.forIn_nil];exact O
   | succ m ap=>
    intro st al am K O;simp only [List.range'_succ,List.forIn_cons];obtain⟨a,us,ag,aq,Y,aw⟩:=O3 ac (i:=st) (by omega);obtain⟨c,b6,a0,bi,a5,bo⟩:=O3 a4 (i:=st) (by omega);refine As _ _ (As _ _ (KU h.agg (by rw [Y];exact h.size) (λq=>by rw [Y];exact h.one q) aw ?_));refine As _ _ (KU h.agg (by rw [a5];exact h.size) (λq=>by rw [a5];exact h.one q) bo ?_);refine As _ _ (h.eq (by omega) aq bi ?_);by_cases a2:a=c
    ·subst a2;simp only [decide_true,Bool.not_true,Bool.false_eq_true,if_false,lp,pure];exact ap (st+1) (by omega) (λi hi=>by
      rcases Nat.lt_or_ge i st with a6 | a6
      ·exact am i a6
      ·obtain rfl:i=st:=by omega
       rw [ag,a0]) O
    ·have bv:¬xs=ys:=λq=>a2 (by rw [q] at ag;rw [ag] at a0;exact Option.some.inj a0);rw [if_neg bv] at O;simp only [a2,decide_false,Bool.not_false,if_true,lp,pure];exact O
  refine As _ _ (key kk 0 (by omega) (λi hi=>by omega) ?_);by_cases U:xs=ys
  ·rw [if_pos U];simpa [lp,pure,U] using k
  ·rw [if_neg U];simpa [lp,pure,U] using k
 BH {n em E ws xs s Q X} be ac k:=by
  obtain⟨n,rfl⟩:∃m,n=m+1:=⟨n - 1,by omega⟩;unfold Instr.checkKey;refine As _ _ (Cg Z ?_);simp only [Ho,if_true];simp only [Std.Legacy.Range.forIn_eq_forIn_range',Std.Legacy.Range.size,Nat.sub_zero,Nat.add_one_sub_one,Nat.div_one];let bd:Nat->Unit->Sem (ForInStep Unit):=λi _=>do
   Instr.checkKey em n e (← Go.part e ws.toArray (i*(← Go.sizeOf e)))
   pure (ForInStep.yield ())
  have key:∀(m st:Nat),st+m=kk->∀{K:Unit->St->Prop},K () s->lp P (forIn (List.range' st m) () bd:Sem _) s K X:=by
   intro m
   induction m with
   | zero=>
    intro st al K O;simp only [List.range'_zero,List.forIn_nil];exact O
   | succ m ap=>
    intro st al K O;simp only [List.range'_succ,List.forIn_cons];obtain⟨a,us,ag,aq,Y,aw⟩:=O3 ac (i:=st) (by omega);refine As _ _ (As (x:=Go.sizeOf e) _ (EJ h.size ?_));refine As _ _ (KU h.agg (by rw [Y];exact h.size) (λq=>by rw [Y];exact h.one q) aw ?_);refine As _ _ (h.BH (by omega) aq ?_);exact ap (st+1) (by omega) O
  exact As _ _ (key kk 0 (by omega) k)
 uniq {E E' ws ws' xs} a3 bw:=by
  obtain⟨a1,wss,rfl,a7,c1⟩:=a3;obtain⟨ca,b0,rfl,cc,c2⟩:=bw;have:wss=b0:=by
   apply List.ext_getElem (by omega);intro i hi b1;have a8:xs[i]? =some (xs[i]'(by omega)):=List.getElem?_eq_getElem (by omega);exact h.uniq (c1 i _ _ a8 (List.getElem?_eq_getElem hi)) (c2 i _ _ a8 (List.getElem?_eq_getElem b1))
  rw [this]
 same {E ws xs} a3 w hw m:=by
  obtain⟨a1,wss,rfl,a7,c1⟩:=a3;obtain⟨us,b2,hw⟩:=List.mem_flatten.1 hw;obtain⟨i,hi⟩:=List.mem_iff_getElem?.1 b2;have b3:i<xs.length:=by rw [a1,← a7];exact(List.getElem?_eq_some_iff.1 hi).1
  exact h.same (c1 i _ us (List.getElem?_eq_getElem b3) hi) w hw m
 now:=⟨_,Z,.inl λv w=>rfl⟩
theorem B4.field{α:Type} [DecidableEq α] {pp:Rp α}{ac:Bool}{dep n:Nat}{f:Field}{s:St}{X:Halt->St->Prop}(h:B4 P f.type pp ac dep)(hd:dep<=n)(ag:f.name≠ "_"){E E':LH}{us Y:Lv_}{x y:α}(r1:pp.r E us x)(r2:pp.r E' Y y){cx Z:Av_}
  (w1:∀j w,us[j]? =some w->cx[f.offset+j]? =some w) (w2:∀j w,Y[j]? =some w->Z[f.offset+j]? =some w) {K:ForInStep (Option Bool×Unit)->St->Prop} (O:K (if x=y then .yield (none,()) else .done (some false,())) s):
  lp P (if f.name≠ "_" then do
   if !(← Op.equalIn n f.type (← Go.part f.type cx f.offset) (← Go.part f.type Z f.offset)) then pure (ForInStep.done (some false,())) else pure (ForInStep.yield (none,()))
   else pure (ForInStep.yield (none,()))) s K X:=by
 rw [if_pos ag]
 refine As _ _ (KU h.agg (by rw [pp.len r1];exact h.size) (λq=>by rw [pp.len r1];exact h.one q) w1 ?_)
 refine As _ _ (KU h.agg (by rw [pp.len r2];exact h.size) (λq=>by rw [pp.len r2];exact h.one q) w2 ?_)
 refine As _ _ (h.eq hd r1 r2 ?_)
 by_cases U:x=y
 ·rw [if_pos U] at O;simpa [lp,pure,U] using O
 ·rw [if_neg U] at O;simpa [lp,pure,U] using O
theorem B4.LX{α:Type} [DecidableEq α] {pp:Rp α}{O em:Bool}{dep n:Nat}{f:Field}{s:St}{X:Halt->St->Prop}(h:B4 P f.type pp O dep)(hd:dep<=n)(U:f.name≠ "_"){E:LH}{us:Lv_}{x:α}(r1:pp.r E us x){cx:Av_}
  (w1:∀j w,us[j]? =some w->cx[f.offset+j]? =some w) {K:ForInStep Unit->St->Prop} (Y:K (.yield ()) s):
  lp P (if f.name≠ "_" then do
   Instr.checkKey em n f.type (← Go.part f.type cx f.offset)
   pure (ForInStep.yield ())
   else pure (ForInStep.yield ())) s K X:=by
 rw [if_pos U]
 refine As _ _ (KU h.agg (by rw [pp.len r1];exact h.size) (λq=>by rw [pp.len r1];exact h.one q) w1 ?_)
 refine As _ _ (h.BH hd r1 ?_)
 exact Y
theorem K9{us r:Lv_}{o:Nat}(K:o=0):∀j w,us[j]? =some w->(us++r).toArray[o+j]? =some w:=λj w h=>by subst K;exact R8 (l:= []) j w h
theorem NK{l us r:Lv_}{o:Nat}(K:o=l.length):∀j w,us[j]? =some w->(l++(us++r)).toArray[o+j]? =some w:=λj w h=>by
 subst K
 have:=R8 (l:=l) (r:=r) j w h
 rwa [List.append_assoc] at this
theorem NY{l us:Lv_}{o:Nat}(K:o=l.length):∀j w,us[j]? =some w->(l++us).toArray[o+j]? =some w:=λj w h=>by
 have:=NK (r:= []) K j w h
 rwa [List.append_nil] at this
theorem Py{l m us:Lv_}{o:Nat}(K:o=l.length+m.length):∀j w,us[j]? =some w->(l++(m++us)).toArray[o+j]? =some w:=λj w h=>by
 have:=NY (l:=l++m) (o:=o) (by simp [K]) j w h
 rwa [List.append_assoc] at this
theorem B4.two{α β:Type} [DecidableEq α] [DecidableEq β] {K:Rp α}{p2:Rp β}{a1 a0:Bool}{dep:Nat}{f1 f2:Field}(O:P.underlying t=some (.struct #[f1,f2]))(U:B4 P f1.type K a1 dep)(Y:B4 P f2.type p2 a0 dep)(a2:P.stoodInHeld t=false)
  (n1:f1.name≠ "_") (n2:f2.name≠ "_") (ag:f1.offset=0) (al:f2.offset=K.n) (a3:Bj P t=some (K.n+p2.n)):B4 P t (rP K p2) true (dep+1) where
 agg:=by unfold De;rw [O]
 size:=a3
 one:=λh=>by cases h
 eq {n E E' ws ws' x y s Q X} a4 am a5 k:=by
  obtain⟨n,rfl⟩:∃m,n=m+1:=⟨n - 1,by omega⟩;obtain⟨ap,aq,rfl,r1,r2⟩:=am;obtain⟨v1,v2,rfl,Z,aw⟩:=a5;simp only [Ho,if_true];unfold Op.equalIn;refine As _ _ (Cg O ?_);refine As (x:=program) _ ?_;show lp P (if P.stoodInHeld t=true then _ else _) s _ _
  rw [if_neg (by rw [a2];exact Bool.false_ne_true)]
  dsimp only;rw [← Array.forIn_toList];simp only [List.forIn_cons,List.forIn_nil];refine As _ _ (As _ _ (U.field (by omega) n1 r1 Z (K9 ag) (K9 ag) ?_));by_cases ac:x.1=y.1
  ·rw [if_pos ac];refine As _ _ (Y.field (by omega) n2 r2 aw (NY (al.trans (K.len r1).symm)) (NY (al.trans (K.len Z).symm)) ?_);by_cases e2:x.2=y.2
   ·have e:x=y:=Prod.ext ac e2;rw [if_pos e2];simpa [lp,pure,e] using k
   ·have e:¬x=y:=λq=>e2 (by rw [q]);rw [if_neg e2];simpa [lp,pure,e] using k
  ·have e:¬x=y:=λq=>ac (by rw [q]);rw [if_neg ac];simpa [lp,pure,e] using k
 BH {n em E ws x s Q X} a4 am k:=by
  obtain⟨n,rfl⟩:∃m,n=m+1:=⟨n - 1,by omega⟩;obtain⟨ap,aq,rfl,r1,r2⟩:=am;simp only [Ho,if_true];unfold Instr.checkKey;refine As _ _ (Cg O ?_)
  dsimp only;rw [← Array.forIn_toList];simp only [List.forIn_cons,List.forIn_nil];refine As _ _ (As _ _ (U.LX (by omega) n1 r1 (K9 ag) ?_));refine As _ _ (Y.LX (by omega) n2 r2 (NY (al.trans (K.len r1).symm)) ?_);exact k
 uniq {E E' ws ws' x} a b:=by
  obtain⟨ap,aq,rfl,r1,r2⟩:=a;obtain⟨v1,v2,rfl,Z,aw⟩:=b;rw [U.uniq r1 Z,Y.uniq r2 aw]
 same {E ws x} a w hw m:=by
  obtain⟨ap,aq,rfl,r1,r2⟩:=a;rcases List.mem_append.1 hw with hw | hw
  ·exact U.same r1 w hw m
  ·exact Y.same r2 w hw m
 now:=⟨_,O,.inl λv w=>rfl⟩
theorem B4.three{α β a6:Type} [DecidableEq α] [DecidableEq β] [DecidableEq a6] {K:Rp α}{p2:Rp β}{p3:Rp a6}{a1 a8 a9:Bool}{dep:Nat}{f1 f2 f3:Field}(U:P.underlying t=some (.struct #[f1,f2,f3]))(Y:B4 P f1.type K a1 dep)(Z:B4 P f2.type p2 a8 dep)(ac:B4 P f3.type p3 a9 dep)(bb:P.stoodInHeld t=false)
  (n1:f1.name≠ "_") (n2:f2.name≠ "_") (a7:f3.name≠ "_") (ap:f1.offset=0) (aq:f2.offset=K.n) (aw:f3.offset=K.n+p2.n) (be:Bj P t=some (K.n+(p2.n+p3.n))):B4 P t (rP K (rP p2 p3)) true (dep+1) where
 agg:=by unfold De;rw [U]
 size:=be
 one:=λh=>by cases h
 eq {n E E' ws ws' x y s Q X} bi a0 bo k:=by
  obtain⟨n,rfl⟩:∃m,n=m+1:=⟨n - 1,by omega⟩;obtain⟨a2,_,rfl,r1,a3,a4,rfl,r2,r3⟩:=a0;obtain⟨v1,_,rfl,O,v2,bv,rfl,ag,a5⟩:=bo;simp only [Ho,if_true];unfold Op.equalIn;refine As _ _ (Cg U ?_);refine As (x:=program) _ ?_;show lp P (if P.stoodInHeld t=true then _ else _) s _ _
  rw [if_neg (by rw [bb];exact Bool.false_ne_true)]
  dsimp only;rw [← Array.forIn_toList];simp only [List.forIn_cons,List.forIn_nil];refine As _ _ (As _ _ (Y.field (by omega) n1 r1 O (K9 ap) (K9 ap) ?_));by_cases al:x.1=y.1
  ·rw [if_pos al];refine As _ _ (Z.field (by omega) n2 r2 ag (NK (aq.trans (K.len r1).symm)) (NK (aq.trans (K.len O).symm)) ?_);by_cases e2:x.2.1=y.2.1
   ·rw [if_pos e2];refine As _ _ (ac.field (by omega) a7 r3 a5 (Py (by rw [aw,K.len r1,p2.len r2])) (Py (by rw [aw,K.len O,p2.len ag])) ?_);by_cases am:x.2.2=y.2.2
    ·have e:x=y:=Prod.ext al (Prod.ext e2 am);rw [if_pos am];simpa [lp,pure,e] using k
    ·have e:¬x=y:=λq=>am (by rw [q]);rw [if_neg am];simpa [lp,pure,e] using k
   ·have e:¬x=y:=λq=>e2 (by rw [q]);rw [if_neg e2];simpa [lp,pure,e] using k
  ·have e:¬x=y:=λq=>al (by rw [q]);rw [if_neg al];simpa [lp,pure,e] using k
 BH {n em E ws x s Q X} bi a0 k:=by
  obtain⟨n,rfl⟩:∃m,n=m+1:=⟨n - 1,by omega⟩;obtain⟨a2,_,rfl,r1,a3,a4,rfl,r2,r3⟩:=a0;simp only [Ho,if_true];unfold Instr.checkKey;refine As _ _ (Cg U ?_)
  dsimp only;rw [← Array.forIn_toList];simp only [List.forIn_cons,List.forIn_nil];refine As _ _ (As _ _ (Y.LX (by omega) n1 r1 (K9 ap) ?_));refine As _ _ (Z.LX (by omega) n2 r2 (NK (aq.trans (K.len r1).symm)) ?_);refine As _ _ (ac.LX (by omega) a7 r3 (Py (by rw [aw,K.len r1,p2.len r2])) ?_);exact k
 uniq {E E' ws ws' x} a b:=by
  obtain⟨a2,_,rfl,r1,a3,a4,rfl,r2,r3⟩:=a;obtain⟨v1,_,rfl,O,v2,bv,rfl,ag,a5⟩:=b;rw [Y.uniq r1 O,Z.uniq r2 ag,ac.uniq r3 a5]
 same {E ws x} a w hw m:=by
  obtain⟨a2,_,rfl,r1,a3,a4,rfl,r2,r3⟩:=a;rcases List.mem_append.1 hw with hw | hw
  ·exact Y.same r1 w hw m
  ·rcases List.mem_append.1 hw with hw | hw
   ·exact Z.same r2 w hw m
   ·exact ac.same r3 w hw m
 now:=⟨_,U,.inl λv w=>rfl⟩
theorem B4.key{α:Type} [DecidableEq α] {pp:Rp α}{K:Bool}{dep:Nat}(h:B4 P t pp K dep)(hd:dep<=10000):Gx P t pp K where
 BH:=by
  rintro em E v x s Q X ⟨ws,Y,rfl⟩ k;exact h.BH hd Y k
 kind:=by
  obtain⟨kd,O,Z⟩:=h.now;refine⟨kd,O,Z.imp id λac=>?_⟩;rintro E v w x y ⟨ws,r1,rfl⟩ ⟨ws',r2,rfl⟩;exact ac r1 r2
 eq:=by
  rintro E v w x y s Q X ⟨ws,r1,rfl⟩ ⟨ws',r2,rfl⟩ k;exact h.eq hd r1 r2 k
 same:=by
  rintro E v x ⟨ws,r1,rfl⟩;cases K with
  | false=>
   obtain⟨w,rfl⟩:∃w,ws= [w]:=by
    have:=(pp.len r1).trans (h.one V)
    match ws,this with
    | [w],_=>exact⟨w,rfl⟩
   exact h.same r1 w (by simp) 9999
  | true=>
   show(ws.toArray.size==ws.toArray.size&&(ws.toArray.toList.zip ws.toArray.toList).all λ(x,y)=>Instr.sameBits 9999 x y)=true;rw [Bool.and_eq_true];refine⟨by simp,List.all_eq_true.2 ?_⟩;rintro⟨a,b⟩ ag;have O:∀(l:Lv_) a b,(a,b)∈l.zip l->a=b/\a∈l:=by
    intro l
    induction l with
    | nil=>intro a b h;simp at h
    | cons c l U=>
     intro a b h;simp only [List.zip_cons_cons,List.mem_cons,Prod.mk.injEq] at h;rcases h with⟨rfl,rfl⟩ | h
     ·exact⟨V,by simp⟩
     ·exact⟨(U a b h).1,List.mem_cons_of_mem _ (U a b h).2⟩
   obtain⟨rfl,hm⟩:=O _ a b ag;exact h.same r1 a (by simpa using hm) 9998
 uniq:=by
  rintro E v w x ⟨ws,r1,rfl⟩ ⟨ws',r2,rfl⟩;rw [h.uniq r1 r2]
section
variable {x y:Operand}
theorem Pd{α:Type} [DecidableEq α] {pp:Rp α}{dep:Nat}{a b:α}(h:B4 P t pp true dep)(hd:dep<=10000)(K:P.eqGuardType P.depth t=false)(r1:pp.r E ws a)(r2:pp.r E' ws' b)(O:ρ x= .agg ws.toArray)(U:ρ y= .agg ws'.toArray):Yl P ⟨d,.binOp .neq t x y u,ty,p,af,g⟩ ρ s (.bool (decide (a≠b))):=by
 refine Fo (sm:=do eqGuard .neq t x y (ρ x) (ρ y);binOp .neq t (ρ x) (ρ y)) V ?_
 rw [O,U];refine As _ _ (VG (.inr V) K ?_);have hb:binOp .neq t (.agg ws.toArray) (.agg ws'.toArray)=(do pure (.bool (!(← Op.equal t (.agg ws.toArray) (.agg ws'.toArray))))):=V
 rw [hb];exact As (x:=Op.equal t _ _) _ (h.eq hd r1 r2 ⟨by simp,V⟩)
end
end
theorem UP{E H:LH}{B:List (Nat×Obj)}(i:Nat){bk:Nat}{o:Obj}(K:Nd E H B)(h:B[i]? =some (bk,o)):∃E',Le E E'/\E' bk=some o/\Nd E' H (B.eraseIdx i)/\Cc (mk E H B) (mk E' H (B.eraseIdx i)):=by
 have ap:=List.mem_of_getElem? h;have aq:E bk=none/\H bk=none:=by
  have:∀{B:List (Nat×Obj)},Nd E H B->(bk,o)∈B->E bk=none/\H bk=none:=by
   intro B K O
   induction B with
   | nil=>simp at O
   | cons q B Y=>
    rcases List.mem_cons.1 O with rfl | O
    ·exact⟨K.1,K.2.1⟩
    ·exact Y K.2.2.2 O
  exact this K ap
 let E':LH:=λx=>if x=bk then some o else E x
 have ag:E' bk=some o:=by simp [E']
 have hle:Le E E':=λx u U=>by
  have:x≠bk:=λe=>by subst e;rw [aq.1] at U;cases U
  simp [E',this,U]
 have aw:Nd E' H (B.eraseIdx i):=by
  have:∀{B:List (Nat×Obj)} {i:Nat},Nd E H B->B[i]? =some (bk,o)->Nd E' H (B.eraseIdx i)/\∀p∈B.eraseIdx i,p.1≠bk:=by
   intro B
   induction B with
   | nil=>intro i _ h;simp at h
   | cons q B Y=>
    obtain⟨c,v⟩:=q;intro i K h;have up:∀{B:List (Nat×Obj)},Nd E H B->(∀p∈B,p.1≠bk)->Nd E' H B:=by
     intro B K al
     induction B with
     | nil=>trivial
     | cons q B a0=>exact⟨by simpa [E',al q (by simp)] using K.1,K.2.1,K.2.2.1,a0 K.2.2.2 λp O=>al p (List.mem_cons_of_mem _ O)⟩
    cases i with
    | zero=>
     simp at h;obtain⟨rfl,rfl⟩:=h;exact⟨up K.2.2.2 K.2.2.1,K.2.2.1⟩
    | succ i=>
     simp at h;obtain⟨Z,ac⟩:=Y K.2.2.2 h;have am:c≠bk:=λe=>K.2.2.1 (bk,o) (List.mem_of_getElem? h) e.symm;refine⟨⟨by simpa [E',am] using K.1,K.2.1,λp O=>K.2.2.1 p (List.mem_of_mem_eraseIdx O),Z⟩,λp O=>?_⟩;rcases List.mem_cons.1 O with rfl | O
     ·exact am
     ·exact ac p O
  exact(this K h).1
 refine⟨E',hle,ag,aw,⟨λx u U=>hle x u U,λx u U=>(LA K h U).2,λx u U=>?_,V⟩⟩;by_cases e:x=bk
 ·subst e;right;have:u=o:=by have:E' x=some u:=U;rw [ag] at this;exact(Option.some.inj this).symm
  subst this;refine⟨I3 K h,?_⟩;cases a1:(mk E' H (B.eraseIdx i)).H x with
  | none=>rfl
  | some y=>exact absurd rfl (LA K h a1).1
 ·left;have Z:E' x=some u:=U;have ac:E' x=E x:=by simp [E',e]
  show E x=some u;rw [← ac];exact Z
theorem UC{E H:LH}{B0:List (Nat×Obj)}{e:TypeId}{K l c:Nat}{a:Option Addr}{blk:List (Nat×Obj)}{xs:Lv_}(ag:GS e K a l c blk xs)(U:Nd E H (B0++blk)):∃E',Le E E'/\Ob E' K (.slice a l c) l xs/\Nd E' H B0/\Cc (mk E H (B0++blk)) (mk E' H B0):=by
 rcases ag with⟨rfl,rfl,rfl,rfl,rfl⟩ | ⟨bk,f,rfl,rfl,al,Y,rfl⟩
 ·simp only [List.append_nil] at U ⊢;exact⟨E,Le.refl _,.nil,U,.refl _⟩
 ·have am:(B0++ [(bk,Obj.cells f e (0,0))])[B0.length]? =some (bk,Obj.cells f e (0,0)):=by simp
  obtain⟨E',hle,ap,Z,ac⟩:=UP B0.length U am;have aq:(B0++ [(bk,Obj.cells f e (0,0))]).eraseIdx B0.length=B0:=by rw [List.eraseIdx_append_of_length_le (Nat.le_refl _)];simp
  rw [aq] at Z ac;refine⟨E',hle,⟨_,c,V,Y,?_,.inr ⟨bk,0,f,e,(0,0),V,ap,λj w O=>?_⟩⟩,Z,ac⟩
  ·have:l*K<=c*K:=Nat.mul_le_mul_right _ Y;simp [al,Nat.min_eq_left this]
  ·rw [List.getElem?_take] at O;split at O
   ·simpa using O
   ·cases O
theorem UO{α:Type}{pp:Rp α}{E H:LH}{S:List Seg}{e:TypeId}{a:Option Addr}{c:Nat}{seg:Seg}{xs:List α}(j:Nat)(U:OL e pp E a c seg xs)(ap:Aq E H S)(aq:S[j]? =some seg):∃E',Le E E'/\Al pp E' a c xs/\Aq E' H (S.set j [])/\Cc (Aj E H S) (Aj E' H (S.set j [])):=by
 obtain⟨wss,U,ac,ag⟩:=U;have aw:∀ad:Addr,a=some ad->ad.spot=none:=λad K=>by
  rcases U with⟨O,_⟩ | ⟨bk,f,O,_⟩
  ·rw [O] at K;cases K
  ·rw [O] at K;cases K;rfl
 obtain⟨O,a0⟩:=GL ap aq;obtain⟨E',hle,a1,a2,al⟩:=UC U a0;rw [← O] at al;refine⟨E',hle,?_,a2,al⟩;obtain⟨a3,a4,Y,a5,bb,Z⟩:=a1;obtain⟨rfl,-,rfl⟩:a=a3/\xs.length=xs.length/\c=a4:=by
  simp only [Value.slice.injEq] at Y;exact⟨Y.1,V,Y.2.2⟩
 refine⟨a5,?_⟩;rcases Z with Z | ⟨bk,off,f,a6,fr,a7,g2,a8⟩
 ·exact .inl ⟨List.eq_nil_of_length_eq_zero Z,λad K=> .inl (aw ad K)⟩
 ·refine .inr ⟨bk,off,a7,λi x am=>?_⟩;have a9:i<wss.length:=by rw [ac];exact(List.getElem?_eq_some_iff.1 am).1
  have hw:=List.getElem?_eq_getElem a9;refine⟨wss[i],pp.Ah hle (ag i x _ am hw),f,a6,fr,g2,λm w hm=>?_⟩;rw [Nat.add_assoc];exact a8 _ w (Kf (Ia ac ag) hw m w hm)
theorem Cc.get{s s₀:St}(h:Cc s s₀){b:Nat}{o:Obj}(K:s₀.get b=some o):s.get b=some o:=by
 unfold St.get at K ⊢;cases O:s₀.E b with
 | some o'=>
  rw [O] at K;simp only at K;cases K;rcases h.EG _ _ O with U | ⟨U,_⟩
  ·rw [U]
  ·cases he:s.E b with
   | none=>exact U
   | some Y=>
    have:=h.ext _ _ he;rw [O] at this;cases this;rfl
 | none=>
  rw [O] at K;simp only at K;cases he:s.E b with
  | none=>exact h.own _ _ K
  | some Y=>
   have:=h.ext _ _ he;rw [O] at this;cases this
theorem Cc.upd{s s₀:St}(h:Cc s s₀){b:Nat}(o:Obj)(hb:(∃u,s₀.H b=some u)∨s₀.E b=none):Cc (s.upd b o) (s₀.upd b o):=by
 refine⟨h.ext,λx u K=>?_,λx u K=>?_,h.q⟩
 ·simp only [St.upd] at K ⊢;by_cases e:x=b
  ·rw [if_pos e] at K ⊢;exact K
  ·rw [if_neg e] at K ⊢;exact h.own _ _ K
 ·have O:s₀.E x=some u:=K;rcases h.EG _ _ O with U | ⟨U,Y⟩
  ·exact .inl U
  ·refine .inr ?_;have e:x≠b:=λe=>by
    subst e;rcases hb with⟨w,hw⟩ | hb
    ·rw [hw] at Y;cases Y
    ·rw [hb] at O;cases O
   simp only [St.upd,if_neg e];exact⟨U,Y⟩
theorem Cc.none{s s₀:St}(h:Cc s s₀){b:Nat}(U:s.E b=none)(O:s.H b=none):s₀.E b=none/\s₀.H b=none:=by
 constructor
 ·cases he:s₀.E b with
  | none=>rfl
  | some o=>
   rcases h.EG _ _ he with K | ⟨K,_⟩
   ·rw [U] at K;cases K
   ·rw [O] at K;cases K
 ·cases he:s₀.H b with
  | none=>rfl
  | some o=>have:=h.own _ _ he;rw [O] at this;cases this
theorem Xt{P:Program}{α:Type}(x:Sem α):∀{s s₀:St} {Q:α->St->Prop} {X:Halt->St->Prop},Cc s s₀->lp P x s₀ Q X->lp P x s (λa s'=>∃Z,Cc s' Z/\Q a Z) (λh s'=>∃Z,Cc s' Z/\X h Z):=by
 induction x with
 | pure a=>intro s s₀ Q X g h;exact⟨s₀,g,h⟩
 | load m a k K=>
  intro s s₀ Q X g h;obtain⟨O,v,U,Y⟩:=h;obtain⟨o,al,am⟩:=Option.bind_eq_some_iff.1 U;exact⟨O,v,by unfold St.cell?;rw [g.get al];exact am,K v g Y⟩
 | store m a v k K=>
  intro s s₀ Q X g h;obtain⟨O,U,o,Y,ap,aq,aw⟩:=h;exact⟨O,U,o,g.own _ _ Y,ap,aq,K (g.upd _ (.inl ⟨o,Y⟩)) aw⟩
 | new o k K=>
  intro s s₀ Q X g h;refine⟨by rw [← g.q];exact h.1,λr O U=>?_⟩;obtain⟨ag,e2⟩:=g.none O U;exact K r (g.upd _ (.inr ag)) (h.2 r ag e2)
 | shape r k K=>intro s s₀ Q X g h;obtain⟨o,O,U⟩:=h;exact⟨o,g.get O,K _ g U⟩
 | freeze a n k K=>intro s s₀ Q X g h;exact h.elim
 | frozen a k K=>intro s s₀ Q X g h;obtain⟨o,O,U⟩:=h;exact⟨o,g.get O,K _ g U⟩
 | getObj r k K=>intro s s₀ Q X g h;obtain⟨o,O,U,Y⟩:=h;exact⟨o,g.get O,U,K _ g Y⟩
 | setObj r o k K=>
  intro s s₀ Q X g h;obtain⟨⟨o',O,a0⟩,U,Y⟩:=h;exact⟨⟨o',g.own _ _ O,a0⟩,U,K (g.upd _ (.inl ⟨o',O⟩)) Y⟩
 | choose q k K=>
  intro s s₀ Q X g h;simp only [lp] at h ⊢;split
  ·rename_i ac;rw [if_pos ac] at h;exact K _ g h
  ·rename_i ac;rw [if_neg ac] at h;exact⟨by rw [← g.q];exact h.1,λt=>K _ g (h.2 t)⟩
 | sys c k K=>intro s s₀ Q X g h;exact h.elim
 | program k K=>intro s s₀ Q X g h;exact K _ g h
 | mark m k K=>
  intro s s₀ Q X g h;refine⟨?_,K g h.2⟩;rcases h.1 with⟨O,U⟩ | O
  ·exact .inl ⟨by rw [← g.q];exact O,U⟩
  ·exact .inr O
 | halt h=>intro s s₀ Q X g a1;exact⟨s₀,g,a1⟩
variable {J:Judge P}{Q:Gs_}{n:Nat}{ds:Ld_}{ops:Ao_}{k:Li_}{cs:Lf_}{m:Nat}{D:Nat->Bool}{L:Env}{H:LH}{S:List Seg}
variable {v:Value}{kd:IntKind}
section
variable {b:Frame}{fuel:Nat}{listed:Array Bool}
variable {x y:Operand}{e:TypeId}{i:Nat}
theorem MR{f:FuncId}{args:Array Operand}{ats:Array TypeId}{vs:Lv_}{seg:Seg}{R:Value->LH->Seg->Prop}(j:Nat)(a3:∀x,D x=true->∃(O:Nat) (o:Obj),(S.set j [])[O]? =some [(x,o)])(a4:AL J f vs E seg R)(a5:Region.ready .any ops listed= [i])
  (a6:ops[i]? =some ⟨d,.call ⟨.value (.func f),args,ats⟩,ty,p,af,g⟩) (a7:Bf n d=true) (hw:AM L ops ⟨d,.call ⟨.value (.func f),args,ats⟩,ty,p,af,g⟩=some true) (hb:Dm P f=true) (a8:evs L args.toList=some vs) (Z:Aq E H S) (ac:S[j]? =some seg)
  (a9:∀v E' seg',Le E E'->R v E' seg'->Aq E' H (S.set j seg')->AO J Q b n ds ops k cs m D fuel (A8 listed i) (Au L d v) (Aj E' H (S.set j seg'))):
  AO J Q b n ds ops k cs m D (fuel+1) listed L (Aj E H S):=by
 have al:S.flatten.Perm (seg++(S.set j []).flatten):=(Ei (seg':=seg) ac).1.trans List.perm_append_comm;have am:Nd E H (seg++(S.set j []).flatten):=Nd.perm Z al;have bb:Aj E H S=mk E (Be (S.set j []).flatten H) seg:=by
  rw [show Aj E H S=mk E H S.flatten from rfl,ET Z al];unfold mk;rw [FE]
 have ap:=Ew.Kv (a4 (Be (S.set j []).flatten H) (Nd.front am)) (by rintro v s' ⟨E',B',_,_,_,rfl⟩;rfl);rw [← bb] at ap;refine AO.call V a5 a6 a7 hw hb a8 ap ?_;rintro v b3 ⟨⟨E',B',hle,be,bi,rfl⟩,w,bo⟩;have e2:mk E' (Be (S.set j []).flatten H) B'=mk E' H (B'++(S.set j []).flatten):=by unfold mk;rw [FE]
 have bv:Nd E H (S.set j []).flatten:=by
  have:=am;rw [Nd.iff] at this ⊢;rw [List.map_append,List.nodup_append] at this;exact⟨this.1.2.1,λq bw=>this.2 q (List.mem_append_right _ bw)⟩
 have b0:Nd E' H (S.set j []).flatten:=bv.grow λx U=>by
  have b1:=bo.d x U;have ag:Be B' (Be (S.set j []).flatten H) x=none:=b1;exact(Hz ag).1
 have aq:Nd E' H (B'++(S.set j []).flatten):=Nd.glue bi b0;have aw:(B'++(S.set j []).flatten).Perm (S.set j B').flatten:=List.perm_append_comm.trans (Ei ac).2.symm;have a0:Aq E' H (S.set j B'):=Nd.perm aq aw;rw [e2,ET aq aw];refine⟨V,λx o U=>?_,a9 v E' B' hle be a0⟩;by_cases hd:D x=true
 ·obtain⟨O,o',Y⟩:=a3 x hd;have a1:j≠O:=λh=>by
   subst h;rw [List.getElem?_set_self (List.getElem?_eq_some_iff.1 ac).1] at Y;cases Y
  have a2:S[O]? =some [(x,o')]:=by rw [List.getElem?_set_ne a1] at Y;exact Y
  have ag:(Aj E H S).get x=some o':=Dh (i:=0) Z a2 V;have b2:(Aj E' H (S.set j B')).get x=some o':=Dh (i:=0) a0 (by rw [List.getElem?_set_ne a1];exact a2) rfl;have K:(if D x then(Aj E H S).get x else E x)=some o:=U
  show(if D x then(Aj E' H (S.set j B')).get x else E' x)=some o
  rw [if_pos hd] at K ⊢;rw [b2,← ag];exact K
 ·have K:(if D x then(Aj E H S).get x else E x)=some o:=U
  show(if D x then(Aj E' H (S.set j B')).get x else E' x)=some o
  rw [if_neg hd] at K ⊢;exact hle _ _ K
theorem AO.perm{S':List Seg}(K:S.flatten.Perm S'.flatten)(O:Aq E H S)(h:Aq E H S'->AO J Q b n ds ops k cs m D fuel listed L (Aj E H S')):AO J Q b n ds ops k cs m D fuel listed L (Aj E H S):=by
 have e:Aj E H S=Aj E H S':=ET O K;rw [e];exact h (Nd.perm O K)
theorem JA.ghost:∀(fuel:Nat) {listed:Array Bool} {T:Av_} {s s₀:St},Cc s s₀->JA J Q b ds ops k cs m Df fuel listed T s₀->JA J Q b ds ops k cs m Df fuel listed T s
 | 0,listed,T,s,s₀,g,h=>⟨h.1,J.ghost g h.2⟩
 | fuel+1,listed,T,s,s₀,g,h=>by
  rcases h with⟨O,U⟩ | ⟨O,U,ac⟩
  ·exact .inl ⟨O,λt=>J.ghost g (U t)⟩
  ·refine .inr ⟨O,by rw [← g.q];exact U,λi hi o ag=>?_⟩;obtain⟨a1,al,am⟩:=ac i hi o ag;refine⟨a1,λe=>JA.ghost fuel g (al e),λe=>?_⟩;have ap:=Xt _ (s:=Bl Df s) (s₀:=Bl Df s₀) g (am e);refine DG _ ap ?_ (λ_ s' ⟨_,_,h⟩=>h);intro aq s' K;obtain⟨Y,Z,K⟩:=K;cases aq with
   | value v=>exact JA.ghost fuel (s:=s') (s₀:=Y) Z K
   | skip=>exact JA.ghost fuel (s:=s') (s₀:=Y) Z K
   | enter f args=>
    obtain⟨R,aw,a0⟩:=K;refine⟨R,λQ c cs a2=>J.ghost (s:=s') (s₀:=Y) Z (aw Q c cs a2),λv a3 a4=>?_⟩;obtain⟨a5,a6,a7⟩:=a0 v a3 a4;exact⟨a5,λx o K=>a6 x o (g.ext x o K),a7⟩
   | _=>exact K.elim
theorem F5{α:Type}{pp:Rp α}{a:Option Addr}{c:Nat}{seg:Seg}{xs:List α}(j:Nat)(K:OL e pp E a c seg xs)(O:Aq E H S)(U:S[j]? =some seg)
  (h:∀E',Le E E'->Al pp E' a c xs->Aq E' H (S.set j [])->AO J Q b n ds ops k cs m Df fuel listed L (Aj E' H (S.set j []))):AO J Q b n ds ops k cs m Df fuel listed L (Aj E H S):=λT Y=>by
 obtain⟨E',Z,ac,ag,al⟩:=UO j K O U
 exact JA.ghost _ al (h E' Z ac ag T Y)
end
theorem oi{α:Type}{a b:α}(h:some a=some b):a=b:=Option.some.inj h
theorem bs{α β:Type}{o:Option α}{f:α->Option β}{r:β}(h:o.bind f=some r):∃x,o=some x/\f x=some r:=bind_some h
def Ie(L:Env):Env->List (Option Value)
 | []=> []
 | (t,_)::L'=>look L t::Ie L L'
def Im:Env->List (Option Value)
 | []=> []
 | (_,v)::L'=>some v::Im L'
theorem ND{L:Env}:∀{L':Env},Ie L L'=Im L'->Sub L' L
 | [],_=>trivial
 | (t,v)::L',h=>by
  simp only [Ie,Im,List.cons.injEq] at h
  exact⟨h.1,ND h.2⟩
variable {L':Env}{k':Li_}{rest:List Nat}
variable {op:Op}
section
variable {b:Frame}{i:Nat}
theorem Ep(L':Env)(h:Ie L L'=Im L')(k':JL J Q b n L' ds k cs s):JL J Q b n L ds k cs s:=DW (ND h) k'
theorem AA(k':JL J Q b n L' ds k cs s)(h:Ie L L'=Im L'):JL J Q b n L ds k cs s:=DW (ND h) k'
def Fi(b:Frame)(n:Nat)(L:Env)(ops:Ao_)(i:Nat):Option Oper:=
 match Jg ops.toList i with
 | some ⟨d,op,ty,p,af,g⟩=>match AM L ops ⟨d,op,ty,p,af,g⟩ with
  | some true=>match BH b n ⟨d,op,ty,p,af,g⟩ with
   | true=>some ⟨d,op,ty,p,af,g⟩
   | false=>none
  | _=>none
 | none=>none
theorem Kj{o:Oper}(h:Fi b n L ops i=some o):ops[i]? =some o/\AM L ops o=some true/\BH b n o=true:=by
 unfold Fi at h;split at h
 ·rename_i K;rw [K5,Array.getElem?_toList] at K;split at h
  ·rename_i hw;split at h
   ·rename_i O;cases h;exact⟨K,hw,O⟩
   ·cases h
  ·cases h
 ·cases h
theorem Am(K:Fi b n L ops i=some ⟨d,op,ty,p,af,g⟩)(h:∀ρ,EA L ρ->Yl P ⟨d,op,ty,p,af,g⟩ ρ s v)(O:JL J Q b n (Au L d v) ds (.inRegion ops rest::k) cs s):
  JL J Q b n L ds (.inRegion ops (i::rest)::k) cs s:=
 let ⟨U,Y,Z⟩:=Kj K
 A1 U Y Z h O
theorem K7{f:FuncId}{fn:Func}{c:Code}{E:LH}{vs:Lv_}{B:Seg}{R:Value->LH->Seg->Prop}(O:P.funcs[f]? =some fn)(hb:fn.body=some c)(U:Nat.ble vs.length fn.ntmps=true)
  (h:∀(Q:Gs_) (K:Frame) (cs:Lf_) (H:LH),Aq E H [B]->(∀v E' S' B',Le E E'->S'.flatten=B'->R v E' B'->Aq E' H S'->J.ok Q (G (K.finish v) cs) (Aj E' H S'))->JL J Q (base f) fn.ntmps (Ga 0 vs) [] [.code c] (K::cs) (Aj E H [B])):AL J f vs E B R:=
 AL.enter O hb (Nat.le_of_ble_eq_true U) h
def Od(n:Nat)(L:Env)(ops:Ao_)(i:Nat):Option Env:=
 match Jg ops.toList i with
 | some ⟨d,op,ty,p,af,g⟩=>match AM L ops ⟨d,op,ty,p,af,g⟩ with
  | some true=>match Bf n d with
   | true=>match KC L op with
    | some v=>match d with
     | some d=>some ((d,v)::L)
     | none=>some L
    | none=>none
   | false=>none
  | some false=>match Bf n d with
   | true=>match d with
    | some d=>some ((d,undef)::L)
    | none=>some L
   | false=>none
  | none=>none
 | none=>none
def GW(n:Nat)(L:Env)(ops:Ao_)(i:Nat):Option Oper:=
 match Jg ops.toList i with
 | some ⟨d,op,ty,p,af,g⟩=>match AM L ops ⟨d,op,ty,p,af,g⟩ with
  | some true=>match Bf n d with
   | true=>some ⟨d,op,ty,p,af,g⟩
   | false=>none
  | _=>none
 | none=>none
theorem OP{o:Oper}(h:GW n L ops i=some o):ops[i]? =some o/\AM L ops o=some true/\Bf n o.dst=true:=by
 unfold GW at h;split at h
 ·rename_i K;rw [K5,Array.getElem?_toList] at K;split at h
  ·rename_i hw;split at h
   ·rename_i O;cases h;exact⟨K,hw,O⟩
   ·cases h
  ·cases h
 ·cases h
theorem WX(h:Od n L ops i=some L'):∃o,ops[i]? =some o/\Bf n o.dst=true/\((∃v,AM L ops o=some true/\KC L o.op=some v/\L'=Au L o.dst v)∨(AM L ops o=some false/\L'=Au L o.dst undef)):=by
 unfold Od at h;split at h
 ·rename_i d op ty p af g O;rw [K5,Array.getElem?_toList] at O;refine⟨_,O,?_⟩;split at h
  ·rename_i hw;split at h
   ·rename_i K;refine⟨K,.inl ?_⟩;split at h
    ·rename_i v U;refine⟨v,hw,U,?_⟩;cases d with
     | none=>cases h;rfl
     | some d=>cases h;rfl
    ·cases h
   ·cases h
  ·rename_i hw;split at h
   ·rename_i K;refine⟨K,.inr ⟨hw,?_⟩⟩;cases d with
    | none=>cases h;rfl
    | some d=>cases h;rfl
   ·cases h
  ·cases h
 ·cases h
variable {fuel:Nat}{listed:Array Bool}
theorem Ds(i:Nat)(K:DL ops m=true)(O:s.q=false)(h:Od n L ops i=some L')
  (U:AO J Q b n ds ops k cs m D fuel (A8 listed i) L' s) (Y:Ge ops listed m i=true:=by decide+kernel):AO J Q b n ds ops k cs m D (fuel+1) listed L s:=by
 obtain⟨o,Z,ac,⟨v,hw,ag,rfl⟩ | ⟨hw,rfl⟩⟩:=WX h
 ·exact JG.val i Z K Y O hw ac (λρ al s' _=>Na al ag) U
 ·exact bP i Z K Y O hw ac U
theorem AP(i:Nat)(K:DL ops m=true)(O:s.q=false)(U:GW n L ops i=some ⟨d,op,ty,p,af,g⟩)
  (Y:∀ρ,EA L ρ->∀s':St,(∀x o,(Bl D s).E x=some o->s'.E x=some o)->Yl P ⟨d,op,ty,p,af,g⟩ ρ s' v)
  (Z:AO J Q b n ds ops k cs m D fuel (A8 listed i) (Au L d v) s) (ac:Ge ops listed m i=true:=by decide+kernel):AO J Q b n ds ops k cs m D (fuel+1) listed L s:=by
 obtain⟨ag,al,am⟩:=OP U;exact JG.val i ag K ac O al am Y Z
end
abbrev Jn(E H E':LH)(S:List Seg)(K L:Env)(s:St)(R:Prop):Prop:=L=K/\s=Aj E' H S/\Le E E'/\Aq E' H S/\R
abbrev Jm(E H E':LH)(S:List Seg)(K L:Env)(s:St):Prop:=L=K/\s=Aj E' H S/\Le E E'/\Aq E' H S
def N5(L:Env):List ResultVar->Option (Lv_)
 | []=>some []
 | .tmp t::rs=>match look L t with
  | some v=>match N5 L rs with
   | some vs=>some (v::vs)
   | none=>none
  | none=>none
 | _=>none
theorem SL{P:Program}{L:Env}{s:St}:∀{rs:List ResultVar} {vs:Lv_},N5 L rs=some vs->RV P L s rs vs
 | [],vs,h=>by cases h;trivial
 | .tmp t::rs,vs,h=>by
  unfold N5 at h
  split at h
  ·rename_i v K
   split at h
   ·rename_i ws hw;cases h;exact⟨K,SL hw⟩
   ·cases h
  ·cases h
 | .cell _ _::_,_,h=>by cases h
variable {ft:TypeId}
section
variable {b:Frame}{i:Nat}
variable {x y:Operand}{e:TypeId}
theorem AS{c:Frame}{fn:Func}{vs:Lv_}(O:P.funcs[b.fn]? =some fn)(K:(b.kind== .normal&&b.roundOf.isNone)=true)(U:N5 L fn.results.toList=some vs)(h:J.ok Q (G (c.finish (Nb vs)) cs) s):JL J Q b n L [] (.code .ret::k) (c::cs) s:=by
 simp only [Bool.and_eq_true,beq_iff_eq,Option.isNone_iff_eq_none] at K;exact JL.ret K.1 K.2 (By.list O V (SL U)) h
theorem BU{f:FuncId}{args:Array Operand}{ats:Array TypeId}{vs:Lv_}{R:Value->LH->Seg->Prop}
  (O:AL J f vs E [] R) (U:Fi b n L ops i=some ⟨d,.call ⟨.value (.func f),args,ats⟩,ty,p,af,g⟩) (Y:evs L args.toList=some vs) (hb:Dm P f=true)
  (Z:Aq E H S) (ac:∀v E' seg',Le E E'->R v E' seg'->Aq E' H (S++ [seg'])->JL J Q b n (Au L d v) ds (.inRegion ops rest::k) cs (Aj E' H (S++ [seg']))):
  JL J Q b n L ds (.inRegion ops (i::rest)::k) cs (Aj E H S):=by
 obtain⟨ag,al,K⟩:=Kj U;refine JS.call O ag al ?_ hb Y Z ac;simp only [BH,Bool.and_eq_true] at K ⊢;exact⟨K.1,K.2.1⟩
theorem Cj{f:FuncId}{args:Array Operand}{ats:Array TypeId}{vs:Lv_}{v:Value}
  (O:AL J f vs E [] (λw E' B'=>w=v/\B'= [])) (U:Fi b n L ops i=some ⟨d,.call ⟨.value (.func f),args,ats⟩,ty,p,af,g⟩) (Y:evs L args.toList=some vs) (hb:Dm P f=true)
  (K:Aq E H S) (Z:∀E',Le E E'->Aq E' H (S++ [[]])->JL J Q b n (Au L d v) ds (.inRegion ops rest::k) cs (Aj E' H (S++ [[]]))):
  JL J Q b n L ds (.inRegion ops (i::rest)::k) cs (Aj E H S):=BU O U Y hb K (by rintro _ E' _ hle ⟨rfl,rfl⟩ K;exact Z E' hle K)
theorem B9{f:FuncId}{args:Array Operand}{ats:Array TypeId}{vs:Lv_}{seg:Seg}{R:Value->LH->Seg->Prop}(j:Nat)
  (O:AL J f vs E seg R) (U:Fi b n L ops i=some ⟨d,.call ⟨.value (.func f),args,ats⟩,ty,p,af,g⟩) (Y:evs L args.toList=some vs) (hb:Dm P f=true)
  (Z:Aq E H S) (ac:S[j]? =some seg) (ag:∀v E' seg',Le E E'->R v E' seg'->Aq E' H (S.set j seg')->JL J Q b n (Au L d v) ds (.inRegion ops rest::k) cs (Aj E' H (S.set j seg'))):
  JL J Q b n L ds (.inRegion ops (i::rest)::k) cs (Aj E H S):=by
 obtain⟨al,am,K⟩:=Kj U;refine RE j O al am ?_ hb Y Z ac ag;simp only [BH,Bool.and_eq_true] at K ⊢;exact⟨K.1,K.2.1⟩
def LZ(K:Array Field)(i:Nat):Option (Nat×TypeId):=match K[i]? with
 | some f=>some (f.offset,f.type)
 | none=>none
theorem Bo{r m m':Int}{u:TypeId}(h:Av (m+m')=some r)(K:Fi b n L ops i=some ⟨d,.binOp .add t x y u,ty,p,af,g⟩)(O:ev L x=some (iV m))(U:ev L y=some (iV m'))
  (Y:JL J Q b n (Au L d (iV r)) ds (.inRegion ops rest::k) cs s):JL J Q b n L ds (.inRegion ops (i::rest)::k) cs s:=Am K (λ_ q=>Fq (q _ _ O) (q _ _ U) h) Y
theorem Cd{r m m':Int}{u:TypeId}(h:Av (m - m')=some r)(K:Fi b n L ops i=some ⟨d,.binOp .sub t x y u,ty,p,af,g⟩)(O:ev L x=some (iV m))(U:ev L y=some (iV m'))
  (Y:JL J Q b n (Au L d (iV r)) ds (.inRegion ops rest::k) cs s):JL J Q b n L ds (.inRegion ops (i::rest)::k) cs s:=Am K (λ_ q=>Dp (q _ _ O) (q _ _ U) h) Y
theorem JL.ln{a:Option Addr}{e:TypeId}{l c:Nat}{ats:Array TypeId}(K:P.underlying t=some (.slice e))(O:Fi b n L ops i=some ⟨d,.call ⟨.builtin .len,#[x],ats⟩,ty,p,af,g⟩)(U:ats[0]? =some t)(Y:ev L x=some (.slice a l c))
  (Z:JL J Q b n (Au L d (.int .i64 l)) ds (.inRegion ops rest::k) cs s):JL J Q b n L ds (.inRegion ops (i::rest)::k) cs s:=Am O (λ_ q=>Yl.len U K (q _ _ Y)) Z
theorem JL.fd{bk o O off:Nat}{U:Array Field}{Y:Nat}(Z:P.underlying t=some (.struct U))(ac:Bj P ft=some (O+1))(ag:Fi b n L ops i=some ⟨d,.fieldAddr t x Y,ty,p,af,g⟩)(al:ev L x=some (.pointer (some ⟨bk,o,none⟩)))(K:LZ U Y=some (off,ft))
  (am:JL J Q b n (Au L d (.pointer (some ⟨bk,o+off,none⟩))) ds (.inRegion ops rest::k) cs s):
  JL J Q b n L ds (.inRegion ops (i::rest)::k) cs s:=by
 unfold LZ at K;split at K
 ·rename_i f ap;cases K;refine Am ag (λρ h=>DJ (a:=⟨bk,o,none⟩) O f.offset Z ac ap V V (h _ _ al)) ?_;rw [Dw rfl];exact am
 ·cases K
theorem CY{bk o:Nat}{ws:Lv_}(j:Nat)(K:At E bk o ws)(O:De P t=some false)(U:Fi b n L ops i=some ⟨d,.load t x,ty,p,af,g⟩)(Y:ev L x=some (.pointer (some ⟨bk,o+j,none⟩)))(Z:ws[j]? =some v)
  (ac:JL J Q b n (Au L d v) ds (.inRegion ops rest::k) cs (Aj E H S)):
  JL J Q b n L ds (.inRegion ops (i::rest)::k) cs (Aj E H S):=
 Am U (λ_ h=>Yl.load O (h _ _ Y) (At.Je K Z)) ac
theorem TT{bk off:Nat}{c:Av_}(j:Nat)(K:Aq E H S)(O:Bj P t=some v.cells.size)(U:Fi b n L ops i=some ⟨d,.store t x y,ty,p,af,g⟩)
  (Y:ev L x=some (.pointer (some ⟨bk,off,none⟩))) (Z:ev L y=some v) (ac:S[j]? =some [(bk,.cells c e (0,0))])
  (h:Aq E H (S.set j [(bk,.cells (A4 c off v.cells.toList) e (0,0))])->JL J Q b n (Au L d undef) ds (.inRegion ops rest::k) cs (Aj E H (S.set j [(bk,.cells (A4 c off v.cells.toList) e (0,0))])))
  (hle:off+v.cells.size<=c.size:=by exact Nat.le_of_ble_eq_true rfl) (ag:∀u∈v.cells.toList,CJ u=true:=by simp [Value.cells,CJ]):
  JL J Q b n L ds (.inRegion ops (i::rest)::k) cs (Aj E H S):=by
 obtain⟨al,am,ap⟩:=Kj U;exact JS.store j al am ap K Y Z O ag ac hle h
theorem BX{bk o:Nat}{ws:Lv_}(K:At E bk o ws)(O:De P t=some true)(U:Bj P t=some ws.length)(Y:Fi b n L ops i=some ⟨d,.load t x,ty,p,af,g⟩)(Z:ev L x=some (.pointer (some ⟨bk,o,none⟩)))
  (ac:JL J Q b n (Au L d (.agg ws.toArray)) ds (.inRegion ops rest::k) cs (Aj E H S)):
  JL J Q b n L ds (.inRegion ops (i::rest)::k) cs (Aj E H S):=
 Am Y (λ_ h=>H9 O U (h _ _ Z) (At.Pk K)) ac
variable {fuel:Nat}{listed:Array Bool}
theorem JG.fd{bk o O off:Nat}{U:Array Field}{Y:Nat}(i:Nat)(Z:DL ops m=true)(ac:P.underlying t=some (.struct U))(ag:Bj P ft=some (O+1))(al:s.q=false)(am:GW n L ops i=some ⟨d,.fieldAddr t x Y,ty,p,af,g⟩)(ap:ev L x=some (.pointer (some ⟨bk,o,none⟩)))(K:LZ U Y=some (off,ft))
  (aq:AO J Q b n ds ops k cs m D fuel (A8 listed i) (Au L d (.pointer (some ⟨bk,o+off,none⟩))) s) (aw:Ge ops listed m i=true:=by decide+kernel):AO J Q b n ds ops k cs m D (fuel+1) listed L s:=by
 unfold LZ at K;split at K
 ·rename_i f a0;cases K;refine AP i Z al am (λρ h _ _=>DJ (a:=⟨bk,o,none⟩) O f.offset ac ag a0 V V (h _ _ ap)) ?_ aw;rw [Dw rfl];exact aq
 ·cases K
theorem Er{bk o:Nat}{ws:Lv_}(i:Nat)(K:DL ops m=true)(j:Nat)(O:At (Bl D s).E bk o ws)(U:De P t=some false)(Y:s.q=false)(Z:GW n L ops i=some ⟨d,.load t x,ty,p,af,g⟩)(ac:ev L x=some (.pointer (some ⟨bk,o+j,none⟩)))(ag:ws[j]? =some v)
  (al:AO J Q b n ds ops k cs m D fuel (A8 listed i) (Au L d v) s) (am:Ge ops listed m i=true:=by decide+kernel):AO J Q b n ds ops k cs m D (fuel+1) listed L s:=
 AP i K Y Z (λ_ h _ ap=>Yl.load U (h _ _ ac) (At.EK O ap ag)) al am
theorem I9{bk o:Nat}{ws:Lv_}(i:Nat)(K:DL ops m=true)(O:At (Bl D s).E bk o ws)(U:De P t=some true)(Y:Bj P t=some ws.length)(Z:s.q=false)(ac:GW n L ops i=some ⟨d,.load t x,ty,p,af,g⟩)(ag:ev L x=some (.pointer (some ⟨bk,o,none⟩)))
  (al:AO J Q b n ds ops k cs m D fuel (A8 listed i) (Au L d (.agg ws.toArray)) s) (am:Ge ops listed m i=true:=by decide+kernel):AO J Q b n ds ops k cs m D (fuel+1) listed L s:=
 AP i K Z ac (λ_ h _ ap=>H9 U Y (h _ _ ag) (At.Pv O ap)) al am
end
abbrev Qc:=Int×List Int×Nat
abbrev AG:=List (Int×Int)
abbrev B2:=List Int×Int×Nat
abbrev Ao:=Option Addr
abbrev Ee:Rp (Int×Int):=rP rI rI
theorem ip{α:Type}{p:Prop} [Decidable p] {A B:Option α}{r:α}(h:(if p then A else B)=some r)(c:p):A=some r:=by rwa [if_pos c] at h
theorem im{α:Type}{p:Prop} [Decidable p] {A B:Option α}{r:α}(h:(if p then A else B)=some r)(c:¬p):B=some r:=by rwa [if_neg c] at h
theorem ib{α:Type}{c:Bool}{A B:Option α}{r:α}(h:(if c=true then A else B)=some r)(K:c=false):B=some r:=by subst K;simpa using h
def P7(n:Nat)(ops:Ao_):List Nat->Nat->Env->Option (Nat×Env)
 | [],f,L=>some (f,L)
 | i::l,f+1,L=>match Od n L ops i with
  | some L'=>P7 n ops l f L'
  | none=>none
 | _::_,0,_=>none
def PT(ops:Ao_)(m:Nat):Array Bool->List Nat->Bool
 | _,[]=>true
 | listed,i::l=>Ge ops listed m i&&PT ops m (A8 listed i) l
def T9:Array Bool->List Nat->Array Bool
 | listed,[]=>listed
 | listed,i::l=>T9 (A8 listed i) l
theorem Bc{P:Program}{J:Judge P}{Q:Gs_}{b:Frame}{n:Nat}{ds:Ld_}{k:Li_}{cs:Lf_}{s:St}{ops:Ao_}{m:Nat}{D:Nat->Bool}{L':Env}{U:Nat}(Y:DL ops m=true)(Z:s.q=false):
  ∀(l:List Nat) {fuel:Nat} {listed:Array Bool} {L:Env},P7 n ops l fuel L=some (U,L')->AO J Q b n ds ops k cs m D U (T9 listed l) L' s->(K:PT ops m listed l=true:=by decide+kernel)->AO J Q b n ds ops k cs m D fuel listed L s
 | [],fuel,listed,L,h,O,_=>by cases h;exact O
 | i::l,fuel,listed,L,h,O,K=>by
  cases fuel with
  | zero=>cases h
  | succ fuel=>
   unfold PT at K;rw [Bool.and_eq_true] at K;unfold P7 at h;split at h
   ·rename_i ac e;exact Ds i Y Z e (Bc Y Z l h O K.2) K.1
   ·cases h
theorem zg{P:Program}{J:Judge P}{Q:Gs_}{b:Frame}{n:Nat}{L L':Env}{ds:Ld_}{k k':Li_}{cs:Lf_}{s:St}(m:Nat)(h:Nv b n m k L=some (k',L'))(K:JL J Q b n L' ds k' cs s):JL J Q b n L ds k cs s:=JL.go m h K
abbrev C:=@zg
abbrev bX(r:Nat)(c:Av_)(t:TypeId):Seg:= [(r,.cells c t (0,0))]
variable {α:Type}{A B:Option α}{r:α}
section
variable {b:Frame}
theorem AV{c:Operand}{x y:Code}{p:Prop} [Decidable p] (K:(if p then A else B)=some r)(O:p->A=some r->JL J Q b n L ds (.code x::k) cs s)(U:¬p->B=some r->JL J Q b n L ds (.code y::k) cs s)
  (Y:ev L c=some (.bool (decide p)):=by exact rfl):JL J Q b n L ds (.code (.cond c x y)::k) cs s:=F8 Y (λh=>O h (ip K h)) λh=>U h (im K h)
theorem Cn{c:Operand}{x y:Code}{t:Bool}(K:(if t=true then A else B)=some r)(O:t=true->A=some r->JL J Q b n L ds (.code x::k) cs s)(U:t=false->B=some r->JL J Q b n L ds (.code y::k) cs s)
  (Y:ev L c=some (.bool t):=by exact rfl):JL J Q b n L ds (.code (.cond c x y)::k) cs s:=OX Y (λh=>O h (ip K h)) λh=>U h (ib K h)
theorem Il{q:Prop} [Decidable q] (i:Nat)(K:(if q then A else B)=some r)(O:q->A=some r->JL J Q b n (Au L (some i) (.bool true)) ds k cs s)(U:¬q->B=some r->JL J Q b n (Au L (some i) (.bool false)) ds k cs s)
  (Y:look L i=some (.bool (decide q)):=by exact rfl):JL J Q b n L ds k cs s:=LJ Y (λh=>O h (ip K h)) λh=>U h (im K h)
theorem DX{t:Bool}(i:Nat)(K:(if t=true then A else B)=some r)(O:t=true->A=some r->JL J Q b n (Au L (some i) (.bool true)) ds k cs s)(U:t=false->B=some r->JL J Q b n (Au L (some i) (.bool false)) ds k cs s)
  (Y:look L i=some (.bool t):=by exact rfl):JL J Q b n L ds k cs s:=Ki Y (λh=>O h (ip K h)) λh=>U h (ib K h)
theorem Cl{K O:Type}{c:Code}{body:K->Option (Bm K O)}{f:Nat}{U:K}{a:O}(Z:iter body f U=some a)(I:Env->St->K->Prop)(ac:I L' s U)
  (round:∀L s x,I L s x->(∀Y,body x=some (.done Y)->Y=a)->(∃st,body x=some st)->(∀L' s' x',I L' s' x'->body x=some (.more x')->JL J Q b n L' ds (.inLoop c::k) cs s')->JL J Q b n L ds (.code c:: .inLoop c::k) cs s)
  (ag:Ie L L'=Im L':=by exact rfl):JL J Q b n L ds (.code (.loop c)::k) cs s:=Ep L' ag (RN Z I ac round)
variable {fuel:Nat}{listed:Array Bool}
def NT(ops:Ao_):Array Bool->List Nat->Bool
 | _,[]=>true
 | l,i::t=>Region.ready .any ops l== [i]&&NT ops (A8 l i) t
theorem SV:∀{t:List Nat} {l:Array Bool},NT ops l t=true->∀u,Region.linearise.go .any ops t.length u l []=t
 | [],_,_,_=>rfl
 | i::t,l,h,u=>by
  unfold NT at h
  rw [Bool.and_eq_true,beq_iff_eq] at h
  exact Zr h.1 (SV h.2) u
theorem Dc(t:List Nat)(O:JL J Q b n L ds (.inRegion ops t::k) cs s)(K:(PZ m listed&&NT ops listed t&&(fuel+1==t.length))=true:=by decide+kernel):AO J Q b n ds ops k cs m D (fuel+1) listed L s:=by
 rw [Bool.and_eq_true,Bool.and_eq_true,beq_iff_eq] at K;exact AO.leaf K.1.1 (by rw [K.2];exact SV K.1.2) O
theorem EV(m:Nat){id:Nat}(h:DL ops m=true->AO J Q b n ds ops k cs m Df ops.size (Array.replicate ops.size false) L (Aj E H S))(hm:P.follows .mixedOrders=true:=by exact rfl)(K:(b.kind != .early)=true:=by exact rfl)(O:DL ops m=true:=by decide+kernel):
  JL J Q b n L ds (.code (.region id ops true)::k) cs (Aj E H S):=WO m hm K O h
theorem Ff(m:Nat)(bks:List Nat){id:Nat}(K:Hh S bks)(O:Aq E H S)(h:DL ops m=true->AO J Q b n ds ops k cs m (Az bks) ops.size (Array.replicate ops.size false) L (Aj E H S))(hm:P.follows .mixedOrders=true:=by exact rfl)(U:(b.kind != .early)=true:=by exact rfl)(Y:DL ops m=true:=by decide+kernel):
  JL J Q b n L ds (.code (.region id ops true)::k) cs (Aj E H S):=XK m bks K O hm U Y h
theorem Fe{α:Type}{pp:Rp α}{a:Option Addr}{c:Nat}{xs:List α}{xv:α}{K:Int}{d:Option Tmp}{x y:Operand}{t ty e:TypeId}{p:String}{af:Ae_}{g:On_}{kd:IntKind}(i:Nat)(O:Al pp E a c xs)(U:ix xs K=some xv)(Y:DL ops m=true)(Z:P.underlying t=some (.slice e))(ac:Bj P e=some pp.n)
  (h:∀bk o ws,pp.r E ws xv->At E bk o ws->AO J Q b n ds ops k cs m D fuel (A8 listed i) (Au L d (.pointer (some ⟨bk,o,none⟩))) s)
  (ag:ops[i]? =some ⟨d,.indexAddr t x y,ty,p,af,g⟩:=by exact rfl) (al:Ge ops listed m i=true:=by decide+kernel) (am:s.q=false:=by exact rfl)
  (hw:AM L ops ⟨d,.indexAddr t x y,ty,p,af,g⟩=some true:=by exact rfl) (ap:Bf n d=true:=by exact rfl)
  (aq:ev L x=some (.slice a xs.length c):=by exact rfl) (aw:ev L y=some (.int kd K):=by exact rfl):
  AO J Q b n ds ops k cs m D (fuel+1) listed L s:=ZD i O U ag Y al am hw ap aq aw Z ac h
end
theorem Eo{P:Program}{J:Judge P}{Q:Gs_}{b:Frame}{n:Nat}{ds:Ld_}{ops:Ao_}{k:Li_}{cs:Lf_}{m fuel:Nat}{D:Nat->Bool}{listed:Array Bool}{L L':Env}{s:St}(k':AO J Q b n ds ops k cs m D fuel listed L' s)(h:Ie L L'=Im L'):AO J Q b n ds ops k cs m D fuel listed L s:=Eh (ND h) k'
instance {α:Type} [DecidableEq α] (xs:List α):Decidable (xs= []):=inferInstance
variable {w:Value}
section
variable {b:Frame}{i:Nat}
variable {x y:Operand}{e:TypeId}
end
section
variable {b:Frame}{fuel:Nat}{listed:Array Bool}
variable {x y:Operand}{e:TypeId}{i:Nat}
theorem MZ{s:St}{D:Nat->Bool}{i j l:Nat}(K:s.q=false)(O:Region.ready .any ops listed= [i,j,l])(hi:Take J Q b n ds ops k cs m D fuel listed L s i)(U:Take J Q b n ds ops k cs m D fuel listed L s j)(Y:Take J Q b n ds ops k cs m D fuel listed L s l):AO J Q b n ds ops k cs m D (fuel+1) listed L s:=
 OD K O (by simp) (by intro q K;simp at K;rcases K with rfl | rfl | rfl <;> assumption)
end
theorem Al.cut{α:Type}{pp:Rp α}{E:LH}{a:Option Addr}{c:Nat}{xs ys:List α}{lo hi:Int}(Y:Al pp E a c xs)(hC:HO xs lo hi=some ys):
  ∃Z ac,Al pp E Z ac ys/\∀{P:Program} {ρ:Operand->Value} {s:St} {d:Option Tmp} {x:Operand} {t ty e:TypeId} {p:String} {af:Ae_} {g:On_} {olo ohi:Option Operand},P.underlying t=some (.slice e)->Bj P e=some pp.n->ρ x= .slice a xs.length c->
   (match ohi with | some w=>ρ w=iV hi | none=>hi=xs.length)->(match olo with | some w=>ρ w=iV lo | none=>lo=0)->Yl P ⟨d,.slice t x olo ohi none,ty,p,af,g⟩ ρ s (.slice Z ys.length ac):=by
 unfold HO at hC;split at hC
 rotate_left
 ·cases hC
 rename_i hb;obtain⟨a4,a5,ap⟩:=hb;cases hC;obtain⟨lo,rfl⟩:∃l:Nat,lo=l:=⟨lo.toNat,by omega⟩;obtain⟨hi,rfl⟩:∃l:Nat,hi=l:=⟨hi.toNat,by omega⟩;simp only [Int.toNat_natCast] at*;have a6:=Y.1;have hlen:((xs.take hi).drop lo).length=hi - lo:=by simp;omega
 have ag:∀ad:Addr,a=some ad->ad.spot=none∨c=0:=λad K=>by
  rcases Y.2 with⟨_,h⟩ | ⟨bk,off,h,_⟩
  ·exact h ad K
  ·rw [h] at K;cases K;exact .inl V
 refine⟨if c=lo then a else a.map (·.add (lo*pp.n)),c - lo,⟨by rw [hlen];omega,?_⟩,?_⟩
 ·by_cases aq:hi - lo=0
  ·left;refine⟨List.eq_nil_of_length_eq_zero (by rw [hlen];exact aq),λad K=>?_⟩;split at K
   ·exact(ag ad K).imp id λh=>by omega
   ·cases a with
    | none=>cases K
    | some aw=>
     simp only [Option.map_some,Option.some.injEq] at K;subst K;exact .inl (by rw [Dw ((ag aw rfl).resolve_right (by omega))])
  ·right;rcases Y.2 with⟨h,_⟩ | ⟨bk,off,rfl,O⟩
   ·subst h;simp at ap;omega
   ·refine⟨bk,off+lo*pp.n,?_,λq z U=>?_⟩
    ·rw [if_neg (by omega),Option.map_some,Dw rfl]
    ·rw [List.getElem?_drop,List.getElem?_take] at U;split at U
     ·obtain⟨ws,a0,al⟩:=O _ z U;refine⟨ws,a0,?_⟩;rw [Nat.add_mul] at al;rw [Nat.add_assoc];exact al
     ·cases U
 ·intro P ρ s d x t ty e p af g olo ohi a1 a2 a3 O am;rw [hlen];refine Yl.slice (mx:=c) (hi:=hi) (lo:=lo) a1 a2 a3 V ?_ ?_ (Nat.le_refl _) (by omega) (by omega)
  ·cases ohi with
   | none=>exact⟨by simp only at O;omega,rfl⟩
   | some w=>exact O
  ·cases olo with
   | none=>simp only at am;show lo=0;omega
   | some w=>exact am
section
variable {b:Frame}{fuel:Nat}{listed:Array Bool}
theorem HB{S1 S':List Seg}(K:S=S1)(O:S1.Perm S')(U:Aq E H S)(h:Aq E H S'->AO J Q b n ds ops k cs m D fuel listed L (Aj E H S')):AO J Q b n ds ops k cs m D fuel listed L (Aj E H S):=by
 subst K;exact AO.perm O.flatten U h
end
variable {e2:TypeId}
section
variable {b:Frame}{i:Nat}
variable {x y:Operand}{e:TypeId}
def JX(E:LH):Nat->Bool:=λx=>(E x).isNone
theorem ar(x:Nat):(Bl (JX E) (Aj E H S)).E x=(Aj E H S).get x:=by
 show(if JX E x then(Aj E H S).get x else E x)=_
 unfold JX;cases h:E x with
 | none=>simp
 | some o=>
  rw [if_neg (by simp)];unfold St.get;rw [show(Aj E H S).E x=some o from h]
theorem P4{s':St}(K:∀x o,(Bl (JX E) (Aj E H S)).E x=some o->s'.E x=some o){x:Nat}{o:Obj}(h:(Aj E H S).get x=some o):s'.get x=some o:=by
 have:=K x o (by rw [ar];exact h);unfold St.get;rw [this]
theorem L9{s':St}(K:∀x o,(Bl (JX E) (Aj E H S)).E x=some o->s'.E x=some o){a:Addr}{v:Value}(h:(Aj E H S).cell? a=some v):s'.cell? a=some v:=by
 obtain⟨o,O,U⟩:=Option.bind_eq_some_iff.1 h;unfold St.cell?;rw [P4 K O];exact U
theorem Tu{s':St}(K:∀x o,(Bl (JX E) (Aj E H S)).E x=some o->s'.E x=some o){a:Addr}{vs:Lv_}(h:∀(i:Nat) v,vs[i]? =some v->(Aj E H S).cell? (Addr.add a i)=some v):∀(i:Nat) v,vs[i]? =some v->s'.cell? (Addr.add a i)=some v:=λi v O=>L9 K (h i v O)
theorem PM(m:Nat){id:Nat}(h:DL ops m=true->AO J Q b n ds ops k cs m (JX E) ops.size (Array.replicate ops.size false) L (Aj E H S))(hm:P.follows .mixedOrders=true:=by exact rfl)(K:(b.kind != .early)=true:=by exact rfl)(O:DL ops m=true:=by decide+kernel):
  JL J Q b n L ds (.code (.region id ops true)::k) cs (Aj E H S):=OR m (JX E) V hm K (h O)
abbrev rs(q:Nat×Obj)(K:Seg)(p:Nat×Obj)(g2:Seg):Seg:=q::(K++ [p]++g2)
end
variable {o:Obj}{xs:List (κ×ν)}{v0:ν}
variable {kk:Li_}
variable {z:Operand}{x0:κ}
section
variable [DecidableEq κ]
def KN(xs:List (κ×ν)):Prop:=(xs.map (·.1)).Nodup
theorem KN.perm{xs ys:List (κ×ν)}(h:KN xs)(p:ys.Perm xs):KN ys:=((p.map (λq:κ×ν=>q.1)).nodup_iff).2 h
theorem Rm{xs:List (κ×ν)}(h:KN xs){x:κ}{v:ν}:BC xs x=some v↔(x,v)∈xs:=by
 induction xs with
 | nil=>simp [BC]
 | cons y ys U=>
  have O:y.1 ∉ ys.map (·.1)/\KN ys:=by simpa [KN] using h
  by_cases e:x=y.1
  ·subst e;have K:BC (y::ys) y.1=some y.2:=by simp [BC]
   rw [K];constructor
   ·intro q;cases q;simp
   ·intro q;rcases List.mem_cons.1 q with q | q
    ·rw [← q]
    ·exact absurd (List.mem_map.2 ⟨_,q,V⟩) O.1
  ·have K:BC (y::ys) x=BC ys x:=by simp [BC,e]
   rw [K,U O.2];constructor
   ·intro q;exact List.mem_cons_of_mem _ q
   ·intro q;rcases List.mem_cons.1 q with q | q
    ·exact absurd (by rw [← q]) e
    ·exact q
theorem QS{xs ys:List (κ×ν)}(h:KN xs)(p:ys.Perm xs)(x:κ):BC ys x=BC xs x:=by
 apply Option.ext;intro v;rw [Rm h,Rm (h.perm p),p.mem_iff]
def Ec(xs:List (κ×ν))(x:κ):List (κ×ν):=xs.filter λy=>decide (x≠y.1)
theorem Q6{xs:List (κ×ν)}{x:κ}(h:∀y∈xs,x≠y.1):Ec xs x=xs:=List.filter_eq_self.2 λy K=>by simpa using h y K
theorem MT{x:κ}{v:ν}:∀{xs:List (κ×ν)},KN xs->(Dg xs x v).Perm ((x,v)::Ec xs x)
 | [],_=> .refl _
 | y::ys,h=>by
  have K:y.1 ∉ ys.map (·.1)/\KN ys:=by simpa [KN] using h
  unfold Dg;by_cases e:x=y.1
  ·rw [if_pos e];have e2:Ec (y::ys) x=ys:=by
    have:Ec (y::ys) x=Ec ys x:=by simp [Ec,e]
    rw [this];exact Q6 λz O q=>K.1 (List.mem_map.2 ⟨z,O,by rw [← q,e]⟩)
   rw [e2]
  ·rw [if_neg e];have e2:Ec (y::ys) x=y::Ec ys x:=by simp [Ec,e]
   rw [e2];exact((MT K.2).cons y).trans (List.Perm.swap _ _ _)
theorem OG{xs ys:List (κ×ν)}(p:ys.Perm xs)(x:κ):(Ec ys x).Perm (Ec xs x):=p.filter _
theorem Vk{xs ys:List (κ×ν)}(h:KN xs)(p:ys.Perm xs)(x:κ)(v:ν):(Dg ys x v).Perm (Dg xs x v):=
 (MT (h.perm p)).trans (((OG p x).cons _).trans (MT h).symm)
theorem KN.del{xs:List (κ×ν)}(h:KN xs)(x:κ):KN (Ec xs x):=by
 unfold KN Ec;exact List.Nodup.sublist (List.Sublist.map _ List.filter_sublist) h
theorem KN.put{xs:List (κ×ν)}(h:KN xs)(x:κ)(v:ν):KN (Dg xs x v):=by
 refine KN.perm ?_ (MT h);unfold KN;simp only [List.map_cons,List.nodup_cons];refine⟨λq=>?_,h.del x⟩;obtain⟨z,K,e⟩:=List.mem_map.1 q;have:=(List.mem_filter.1 K).2;simp at this;exact this e.symm
def BA(pk:Rp κ)(ka:Bool)(pv:Rp ν)(va:Bool)(E:LH)(o:Obj)(xs:List (κ×ν)):Prop:=KN xs/\∃ys,ys.Perm xs/\Ku pk ka pv va E o ys
theorem BA.Ah{o:Obj}{xs:List (κ×ν)}(h:BA pk ka pv va E o xs)(hle:Le E E'):BA pk ka pv va E' o xs:=
 let ⟨K,ys,O,U⟩:=h;⟨K,ys,O,U.Ah hle⟩
theorem BA.perm{o:Obj}{xs ys:List (κ×ν)}(h:BA pk ka pv va E o xs)(p:ys.Perm xs):BA pk ka pv va E o ys:=
 let ⟨K,O,U,Y⟩:=h;⟨K.perm p,O,U.trans p.symm,Y⟩
theorem BA.nil:BA pk ka pv va E (.map #[] 0) []:=⟨List.nodup_nil,[],.refl _,⟨#[],0,V,trivial,.nil,by simp⟩⟩
def rM(pk:Rp κ)(ka:Bool)(pv:Rp ν)(va:Bool):Rp (List (κ×ν)):=⟨1,λE ws xs=>∃bk o,ws= [.map (some bk)]/\E bk=some o/\BA pk ka pv va E o xs,
 λhle ⟨bk,o,h,K,O⟩=>⟨bk,o,h,hle _ _ K,O.Ah hle⟩,λ⟨bk,o,h,_,_⟩=>by subst h;rfl,λ⟨bk,o,h,_,_⟩ w hw=>by subst h;simp at hw;subst hw;rfl⟩
section
variable {bk:Nat}{k:Value}{x:κ}
theorem Vb(K:Gx P t pk ka)(hm:P.underlying tm=some (.map t te)){z:Value}{z0:ν}(O:zeroOf P te=some z)(U:Vr pv va E z z0)(Y:s.get bk=some o)(Z:BA pk ka pv va E o xs)(ac:Vr pk ka E k x)(ok:Bool){Q:Value->St->Prop}
  (h:∀w,Vr pv va E w ((BC xs x).getD z0)->Q (if ok then .tuple #[w,.bool (BC xs x).isSome] else w) s):lp P (Instr.lookup tm (.map (some bk)) k ok) s Q X:=by
 obtain⟨ag,ys,al,am⟩:=Z;refine Ws K hm O U Y am ac ok ?_;rw [QS ag al];exact h
theorem UG(O:Gx P t pk ka)(hm:P.underlying tm=some (.map t te))(U:s.get bk=some o)(Y:s.H bk=some o)(Z:BA pk ka pv va E o xs)(ac:Vr pk ka E k x)(hw:Vr pv va E w v0){Q:Unit->St->Prop}
  (h:∀o',BA pk ka pv va E o' (Dg xs x v0)->Q () (s.upd bk o')):lp P (Instr.mapUpdate tm (.map (some bk)) k w) s Q X:=by
 obtain⟨K,ys,ag,al⟩:=Z;exact UU O hm U Y al ac hw λo' am=>h o' ⟨K.put _ _,_,Vk K ag _ _,am⟩
theorem Dz.erase(Y:Vr pk ka E k x):∀{es:List MapEntry} {ys:List (κ×ν)} {i:Nat},Dz pk ka pv va E es ys->KN ys->
  (Gh x es ys i=none/\Ec ys x=ys)∨∃j u,Gh x es ys i=some (i+j,u)/\Dz pk ka pv va E (es.eraseIdx j) (Ec ys x)
 | [],[],i,_,_=> .inl ⟨rfl,rfl⟩
 | e::es,y::ys,i,h,Z=>by
  have U:y.1 ∉ ys.map (·.1)/\KN ys:=by simpa [KN] using Z
  unfold Gh;by_cases K:x=y.1
  ·refine .inr ⟨0,e.val,by rw [if_pos K];rfl,?_⟩;have e2:Ec (y::ys) x=ys:=by
    have:Ec (y::ys) x=Ec ys x:=by simp [Ec,K]
    rw [this];exact Q6 λz ac q=>U.1 (List.mem_map.2 ⟨z,ac,by rw [← q,K]⟩)
   rw [e2];exact h.2.2
  ·have e2:Ec (y::ys) x=y::Ec ys x:=by simp [Ec,K]
   rcases Dz.erase Y (i:=i+1) h.2.2 U.2 with⟨a1,O⟩ | ⟨j,u,a1,O⟩
   ·exact .inl ⟨by rw [if_neg K];exact a1,by rw [e2,O]⟩
   ·refine .inr ⟨j+1,u,by rw [if_neg K,a1];congr 2;omega,?_⟩;rw [e2];exact⟨h.1,h.2.1,O⟩
 | [],_::_,_,h,_=>h.elim
 | _::_,[],_,h,_=>h.elim
theorem Vi(ag:Gx P t pk ka)(hm:P.underlying tm=some (.map t te))(aw:s.get bk=some o)(al:s.H bk=some o)(a0:BA pk ka pv va E o xs)(K:Vr pk ka E k x){u:TypeId}{Q:Value->St->Prop}
  (h:∀o',BA pk ka pv va E o' (Ec xs x)->Q (.tuple #[]) (s.upd bk o')):lp P (Builtin.delete_ #[tm,t] u #[.map (some bk),k]) s Q X:=by
 obtain⟨O,ys,U,es,c,rfl,Y,am,ap⟩:=a0;unfold Builtin.delete_;simp only [List.getElem?_toArray,List.getElem?_cons_zero,List.getElem?_cons_succ];refine As _ _ (Cg hm ?_)
 dsimp only;refine As _ _ ?_;unfold getObj;simp only [bind,Sem.bind,lp];refine⟨_,aw,V,?_⟩;refine As (x:=Instr.checkKey _ 10000 t k) _ (ag.BH K ?_);refine As (x:=Instr.findKey t k es.toList) _ (Oz ag K Y ?_);rcases Dz.erase K (i:=0) Y (O.perm U) with⟨Z,e2⟩ | ⟨j,u,Z,e2⟩
 ·rw [Z];simp only [setObj,lp,pure];refine⟨⟨_,al,V⟩,V,h _ ⟨O.del _,_,OG U x,es,c,V,by rw [e2];exact Y,am,ap⟩⟩
 ·rw [Z];simp only [setObj,lp,pure];have aq:(es.toList.eraseIdx j).Sublist es.toList:=List.eraseIdx_sublist _ _;have ac:(es.eraseIdxIfInBounds (0+j)).toList=es.toList.eraseIdx j:=by rw [Nat.zero_add];simp
  refine⟨⟨_,al,V⟩,V,h _ ⟨O.del _,_,OG U x,_,c,V,by rw [ac];exact e2,?_,?_⟩⟩
  ·rw [ac];exact am.sublist (aq.map _)
  ·rw [ac];exact λe he=>ap e (aq.subset he)
end
section
variable {b:Frame}
variable {x y:Operand}{e:TypeId}{i:Nat}{bk:Nat}{k:Value}
theorem Yl.lookup{K v:Value}{z0:ν}{ok:Bool}(O:Gx P t pk ka)(hm:P.underlying tm=some (.map t te))(U:zeroOf P te=some K)(Y:Vr pv va E K z0)(Z:BA pk ka pv va E o xs)(ac:Vr pk ka E k x0)
  (ag:∀w,Vr pv va E w ((BC xs x0).getD z0)->(if ok then .tuple #[w,.bool (BC xs x0).isSome] else w)=v) (al:ρ x= .map (some bk)) (am:ρ y=k) (ap:s.get bk=some o):Yl P ⟨d,.lookup tm x y ok,ty,p,af,g⟩ ρ s v:=by
 refine Fo (sm:=Instr.lookup tm (ρ x) (ρ y) ok) V ?_;rw [al,am];exact Vb O hm U Y ap Z ac ok λw hw=>⟨ag w hw,V⟩
theorem JS.makeMap(K:ops[i]? =some ⟨d,.makeMap t none,ty,p,af,g⟩)(hw:AM L ops ⟨d,.makeMap t none,ty,p,af,g⟩=some true)(O:BH b n ⟨d,.makeMap t none,ty,p,af,g⟩=true)(U:Aq E H S)
  (h:∀r,Aq E H (S++ [[(r,.map #[] 0)]])->JL J Q b n (Au L d (.map (some r))) ds (.inRegion ops rest::kk) cs (Aj E H (S++ [[(r,.map #[] 0)]]))):
  JL J Q b n L ds (.inRegion ops (i::rest)::kk) cs (Aj E H S):=
 JL.op K hw O λρ ap=>by
  show lp P (do pure (Next.value (← Instr.makeMap t none))) _ _ _
  refine As _ _ ?_
  unfold Instr.makeMap
  simp only [newObj,bind,Sem.bind,pure,lp]
  refine⟨rfl,λr Y Z=>?_⟩
  obtain⟨ac,ag⟩:=Jz Y Z (.map #[] 0) U
  obtain⟨al,p2⟩:=Fp ac
  have am:(Aj E H S).upd r (.map #[] 0)=Aj E H (S++ [[(r,.map #[] 0)]]):=by rw [← al,← ag];rfl
  show JL J Q b n (Au L d (.map (some r))) ds (.inRegion ops rest::kk) cs ((Aj E H S).upd r (.map #[] 0));rw [am];exact h r p2
theorem JS.mapUpdate(j:Nat)(Y:Gx P t pk ka)(hm:P.underlying tm=some (.map t te))(Z:BA pk ka pv va E o xs)(ac:Vr pk ka E k x0)(ag:Vr pv va E w v0)(K:Aq E H S)(O:S[j]? =some [(bk,o)])
  (al:ops[i]? =some ⟨d,.mapUpdate tm x y z,ty,p,af,g⟩) (hw:AM L ops ⟨d,.mapUpdate tm x y z,ty,p,af,g⟩=some true) (am:BH b n ⟨d,.mapUpdate tm x y z,ty,p,af,g⟩=true) (ap:ev L x=some (.map (some bk))) (aq:ev L y=some k) (aw:ev L z=some w)
  (h:∀o',BA pk ka pv va E o' (Dg xs x0 v0)->Aq E H (S.set j [(bk,o')])->JL J Q b n (Au L d undef) ds (.inRegion ops rest::kk) cs (Aj E H (S.set j [(bk,o')]))):
  JL J Q b n L ds (.inRegion ops (i::rest)::kk) cs (Aj E H S):=
 JL.op al hw am λρ U=>by
  show lp P (do Instr.mapUpdate tm (ρ x) (ρ y) (ρ z);pure Next.skip) _ _ _
  rw [U _ _ ap,U _ _ aq,U _ _ aw]
  refine As _ _ (UG Y hm (Dh (i:=0) K O rfl) (JV K O) Z ac ag λo' a0=>?_)
  obtain⟨a1,a2⟩:=Kk K O o'
  rw [a1]
  exact h o' a0 a2
theorem UW{at1:TypeId}(j:Nat)(Y:Gx P t pk ka)(hm:P.underlying tm=some (.map t te))(Z:BA pk ka pv va E o xs)(ac:Vr pk ka E k x0)(K:Aq E H S)(O:S[j]? =some [(bk,o)])
  (ag:ops[i]? =some ⟨d,.call ⟨.builtin .delete,#[x,y],#[tm,t]⟩,ty,p,af,g⟩) (hw:AM L ops ⟨d,.call ⟨.builtin .delete,#[x,y],#[tm,t]⟩,ty,p,af,g⟩=some true) (al:BH b n ⟨d,.call ⟨.builtin .delete,#[x,y],#[tm,t]⟩,ty,p,af,g⟩=true) (am:ev L x=some (.map (some bk))) (ap:ev L y=some k)
  (h:∀o',BA pk ka pv va E o' (Ec xs x0)->Aq E H (S.set j [(bk,o')])->JL J Q b n (Au L d (.tuple #[])) ds (.inRegion ops rest::kk) cs (Aj E H (S.set j [(bk,o')]))):
  JL J Q b n L ds (.inRegion ops (i::rest)::kk) cs (Aj E H S):=
 JL.op ag hw al λρ U=>by
  have aq:execOp ρ ⟨d,.call ⟨.builtin .delete,#[x,y],#[tm,t]⟩,ty,p,af,g⟩=(do pure (Next.value (← Builtin.delete_ #[tm,t] ty #[ρ x,ρ y]))):=by
   simp [execOp,resolve,Deferred.ofValue,invoke,bind,Sem.bind,pure,Go.builtin]
  rw [aq,U _ _ am,U _ _ ap];refine As _ _ (Vi Y hm (Dh (i:=0) K O rfl) (JV K O) Z ac λo' aw=>?_);obtain⟨a0,a1⟩:=Kk K O o';rw [a0];exact h o' aw a1
theorem OC{todo:Li_}(j:Nat)(O:Aq E H S)(U:S[j]? =some [(bk,o)])
  (h:∀E',Le E E'->E' bk=some o->Aq E' H (S.set j [])->JL J Q b n L ds todo cs (Aj E' H (S.set j []))):JL J Q b n L ds todo cs (Aj E H S):=by
 obtain⟨Y,Z⟩:=GL O U;rw [Y];have ac:((S.set j []).flatten++ [(bk,o)])[(S.set j []).flatten.length]? =some (bk,o):=by simp
 refine JL.freeze (S.set j []).flatten.length Z ac λE' hle ag K=>?_;have al:((S.set j []).flatten++ [(bk,o)]).eraseIdx (S.set j []).flatten.length=(S.set j []).flatten:=by rw [List.eraseIdx_append_of_length_le (Nat.le_refl _)];simp
 rw [al] at K ⊢;exact h E' hle ag K
theorem Rb{α:Type}{m:Nat}{f:Nat->Sem α}{s:St}{Q:α->St->Prop}{X:Halt->St->Prop}(hm:0<m)(K:s.q=false)(h:∀i,i<m->lp P (f i) s Q X):lp P ((choose (.mapNext m)).bind f) s Q X:=by
 simp only [choose,Sem.bind,lp];split
 ·exact h 0 hm
 ·exact⟨K,λt=>h _ (Nat.mod_lt _ hm)⟩
theorem JS.range{es:Array MapEntry}{c:Nat}(hm:P.underlying tm=some (.map t te))(K:(Aj E H S).get bk=some (.map es c))(O:ops[i]? =some ⟨d,.range tm x,ty,p,af,g⟩)(hw:AM L ops ⟨d,.range tm x,ty,p,af,g⟩=some true)(U:BH b n ⟨d,.range tm x,ty,p,af,g⟩=true)(Y:Aq E H S)
  (Z:ev L x=some (.map (some bk)))
  (h:∀r,Aq E H (S++ [[(r,.mapIter (some bk) c #[] c)]])->JL J Q b n (Au L d (.pointer (some ⟨r,0,none⟩))) ds (.inRegion ops rest::kk) cs (Aj E H (S++ [[(r,.mapIter (some bk) c #[] c)]]))):
  JL J Q b n L ds (.inRegion ops (i::rest)::kk) cs (Aj E H S):=
 JL.op O hw U λρ ac=>by
  show lp P (do pure (Next.value (← Instr.range tm (ρ x)))) _ _ _
  rw [ac _ _ Z]
  refine As _ _ ?_
  unfold Instr.range
  refine As _ _ (Cg hm ?_)
  simp only [getObj,newObj,bind,Sem.bind,pure,lp]
  refine⟨_,K,rfl,rfl,λr ag al=>?_⟩
  obtain⟨am,ap⟩:=Jz ag al (.mapIter (some bk) c #[] c) Y
  obtain⟨aq,p2⟩:=Fp am
  have aw:(Aj E H S).upd r (.mapIter (some bk) c #[] c)=Aj E H (S++ [[(r,.mapIter (some bk) c #[] c)]]):=by rw [← aq,← ap];rfl
  show JL J Q b n (Au L d (.pointer (some ⟨r,0,none⟩))) ds (.inRegion ops rest::kk) cs ((Aj E H S).upd r (.mapIter (some bk) c #[] c));rw [aw];exact h r p2
theorem JS.next{es:Array MapEntry}{c r:Nat}{seen:Array Nat}(j:Nat)(am:(Aj E H S).get bk=some (.map es c))(hb:∀e∈es.toList,e.born<c)(K:Aq E H S)(O:S[j]? =some [(r,.mapIter (some bk) c seen c)])
  (ap:ops[i]? =some ⟨d,.next x false,ty,p,af,g⟩) (hw:AM L ops ⟨d,.next x false,ty,p,af,g⟩=some true) (aq:BH b n ⟨d,.next x false,ty,p,af,g⟩=true) (U:ev L x=some (.pointer (some ⟨r,0,none⟩)))
  (aw:∀e∈es.toList,e.born ∉ seen->Aq E H (S.set j [(r,.mapIter (some bk) c (seen.push e.born) c)])->JL J Q b n (Au L d (.tuple #[.bool true,e.key,e.val])) ds (.inRegion ops rest::kk) cs (Aj E H (S.set j [(r,.mapIter (some bk) c (seen.push e.born) c)])))
  (a0:(∀e∈es.toList,e.born∈seen)->JL J Q b n (Au L d (.tuple #[.bool false])) ds (.inRegion ops rest::kk) cs (Aj E H S)):
  JL J Q b n L ds (.inRegion ops (i::rest)::kk) cs (Aj E H S):=
 JL.op ap hw aq λρ a1=>by
  show lp P (do pure (Next.value (← Instr.next (ρ x) false ty))) _ _ _
  rw [a1 _ _ U]
  refine As _ _ ?_
  unfold Instr.next
  simp only [getObj,setObj,bind,Sem.bind,pure,lp]
  refine⟨_,Dh (i:=0) K O rfl,rfl,?_⟩
  simp only [lp]
  refine⟨_,am,rfl,?_⟩
  have a2:(!seen.isEmpty&& !es.isEmpty&&es.all (λe=>decide (e.born>=c)))=false:=by
   by_cases he:es.toList= []
   ·have:es.isEmpty=true:=by simpa [Array.isEmpty_iff] using he
    simp [this]
   ·obtain⟨e,ag⟩:=List.exists_mem_of_ne_nil _ he;have bw:=hb e ag;have:es.all (λe=>decide (e.born>=c))=false:=by
     cases U:es.all (λe=>decide (e.born>=c)) with
     | false=>rfl
     | true=>
      have:=Array.all_eq_true'.1 U e (Array.mem_toList_iff.1 ag);simp at this;omega
    simp [this]
  have a3:Array.filter (λx:MapEntry=>decide (x.born<c)) (Array.filter (λe=> !seen.contains e.born) es)=Array.filter (λe=> !seen.contains e.born) es:=by
   apply Array.toList_inj.1;rw [Array.toList_filter,List.filter_eq_self];intro e he;rw [Array.toList_filter] at he;simpa using hb e (List.mem_filter.1 he).1
  have e2:Array.filter (λx:MapEntry=>decide (x.born>=c)) (Array.filter (λe=> !seen.contains e.born) es)= #[]:=by
   apply Array.toList_inj.1;rw [Array.toList_filter,List.filter_eq_nil_iff];intro e he;rw [Array.toList_filter] at he;have:=hb e (List.mem_filter.1 he).1;simp;omega
  dsimp only;rw [if_neg (by rw [a2];exact Bool.false_ne_true),a3,e2];have Y:∀e,e∈(Array.filter (λe=> !seen.contains e.born) es).toList↔e∈es.toList/\e.born ∉ seen:=by
   intro e;rw [Array.toList_filter,List.mem_filter];simp
  generalize Array.filter (λe:MapEntry=> !seen.contains e.born) es=left at Y ⊢;by_cases Z:left.toList= []
  ·have a4:left= #[]:=Array.toList_inj.1 Z;subst a4;refine Rb (by simp) rfl λi hi=>?_;obtain rfl:i=0:=by simp at hi;exact hi
   have a5:((if(#[]:Array MapEntry).isEmpty=true then #[none] else #[])++Array.map some ((#[]:Array MapEntry)++ #[]))[0]? =some none:=by simp
   rw [a5];refine a0 λe he=>?_;by_cases al:e.born∈seen
   ·exact al
   ·have:=(Y e).2 ⟨he,al⟩;simp at this
  ·have a6:left.isEmpty=false:=by
    cases a7:left.isEmpty with
    | false=>rfl
    | true=>exact absurd (by simpa [Array.isEmpty_iff] using a7) Z
   rw [a6];simp only [Bool.false_eq_true,if_false,Array.append_empty,Array.empty_append];have a8:0<left.size:=by
    rcases Nat.eq_zero_or_pos left.size with ac | ac
    ·exact absurd (by simpa using Array.eq_empty_of_size_eq_zero ac) Z
    ·exact ac
   refine Rb (by simpa using a8) rfl λi hi=>?_;have a9:i<left.size:=by simpa using hi
   have bb:(Array.map some left)[i]? =some (some left[i]):=by simp [a9]
   rw [bb];simp only [lp];obtain⟨be,bi⟩:=(Y left[i]).1 (Array.getElem_mem_toList _);refine⟨⟨_,JV K O,rfl⟩,rfl,?_⟩;obtain⟨bo,bv⟩:=Kk K O (.mapIter (some bk) c (seen.push left[i].born) c);rw [bo];exact aw _ be bi bv
theorem JS.entry{es:Array MapEntry}{c r:Nat}{seen:Array Nat}{e:MapEntry}(j:Nat)(U:(Aj E H S).get bk=some (.map es c))(he:e∈es.toList)(hb:(es.toList.map (·.born)).Pairwise (·<·))(Y:Aq E H S)(Z:S[j]? =some [(r,.mapIter (some bk) c (seen.push e.born) c)])
  (ac:ops[i]? =some ⟨d,.entry x,ty,p,af,g⟩) (hw:AM L ops ⟨d,.entry x,ty,p,af,g⟩=some true) (ag:BH b n ⟨d,.entry x,ty,p,af,g⟩=true) (al:ev L x=some (.pointer (some ⟨r,0,none⟩)))
  (h:JL J Q b n (Au L d (.tuple #[e.key,e.val])) ds (.inRegion ops rest::kk) cs (Aj E H S)):
  JL J Q b n L ds (.inRegion ops (i::rest)::kk) cs (Aj E H S):=
 JL.op ac hw ag λρ am=>by
  show lp P (do pure (Next.value (← Instr.entry (ρ x)))) _ _ _
  rw [am _ _ al]
  refine As _ _ ?_
  unfold Instr.entry
  simp only [getObj,bind,Sem.bind,pure,lp]
  refine⟨_,Dh (i:=0) Y Z rfl,rfl,?_⟩
  simp only [Array.back?_push,bne_self_eq_false,lp]
  refine⟨_,U,rfl,?_⟩
  have ap:es.find? (λx=>x.born==e.born)=some e:=by
   rw [← Array.find?_toList];have key:∀(l:List MapEntry),e∈l->(l.map (·.born)).Pairwise (·<·)->l.find? (λx=>x.born==e.born)=some e:=by
    intro l
    induction l with
    | nil=>intro h;cases h
    | cons y l aq=>
     intro hm K;rw [List.map_cons,List.pairwise_cons] at K;by_cases O:y.born=e.born
     ·rcases List.mem_cons.1 hm with rfl | hm
      ·simp
      ·have:=K.1 e.born (List.mem_map.2 ⟨e,hm,rfl⟩);omega
     ·rw [List.find?_cons_of_neg (by simpa using O)];rcases List.mem_cons.1 hm with rfl | hm
      ·exact absurd rfl O
      ·exact aq hm K.2
   exact key _ he hb
  simp only [bne_self_eq_false,Bool.false_eq_true,if_false,ap,lp];exact h
end
end
theorem Kb{E H:LH}{S:List Seg}{bk:Nat}{o:Obj}(h:E bk=some o):(Aj E H S).get bk=some o:=by
 show(match E bk with | some o=>some o | none=>_)=some o
 rw [h]
theorem Qp{α β:Type}(f:α->β){l:List α}(h:(l.map f).Nodup):l.Nodup:=by
 unfold List.Nodup at h ⊢;rw [List.pairwise_map] at h;exact h.imp λh e=>h (by rw [e])
theorem RR{α:Type}:∀{l l':List α},l.Nodup->(∀x∈l,x∈l')->l.length<=l'.length
 | [],_,_,_=>Nat.zero_le _
 | x::l,l',h,O=>by
  obtain⟨a,b,rfl⟩:=List.append_of_mem (O x (by simp))
  have U:=List.nodup_cons.1 h
  have:=RR (l:=l) (l':=a++b) U.2 (λy Y=>by
   have K:=O y (List.mem_cons_of_mem _ Y)
   have Z:y≠x:=λe=>U.1 (e▸Y)
   simp at K ⊢
   rcases K with K | K | K
   ·exact .inl K
   ·exact absurd K Z
   ·exact .inr K)
  simp at this ⊢;omega
variable {ys:List (κ×ν)}
section
variable [DecidableEq κ]
def IE(es:Array MapEntry)(ys:List (κ×ν))(seen:Array Nat)(done:List (κ×ν)):Prop:=
 ∃K:List (MapEntry×(κ×ν)),done=K.map (·.2)/\seen.toList=K.map (·.1.born)/\K.Nodup/\∀q∈K,q∈es.toList.zip ys
theorem IE.nil{es:Array MapEntry}{ys:List (κ×ν)}:IE es ys #[] []:=⟨[],V,V,.nil,by simp⟩
theorem Rn:∀{es:List MapEntry} {ys:List (κ×ν)},(es.map (·.born)).Pairwise (·<·)->∀{p q:MapEntry×(κ×ν)},p∈es.zip ys->q∈es.zip ys->p.1.born=q.1.born->p=q
 | [],_,_,_,_,h,_,_=>by simp at h
 | _::_,[],_,_,_,h,_,_=>by simp at h
 | e::es,y::ys,U,p,q,K,O,hb=>by
  rw [List.map_cons,List.pairwise_cons] at U
  rw [List.zip_cons_cons] at K O
  have Y:∀{z:MapEntry×(κ×ν)},z∈es.zip ys->z.1.born∈es.map (·.born):=λ{z} Z=>by
   have:=(List.of_mem_zip Z).1
   exact List.mem_map.2 ⟨z.1,this,V⟩
  rcases List.mem_cons.1 K with rfl | K <;> rcases List.mem_cons.1 O with rfl | O
  ·rfl
  ·have:=U.1 _ (Y O);simp at hb;omega
  ·have:=U.1 _ (Y K);simp at hb;omega
  ·exact Rn U.2 K O hb
theorem Dz.zip:∀{es:List MapEntry} {ys:List (κ×ν)},Dz pk ka pv va E es ys->∀{q:MapEntry×(κ×ν)},q∈es.zip ys->Vr pk ka E q.1.key q.2.1/\Vr pv va E q.1.val q.2.2
 | [],[],_,_,h=>by simp at h
 | e::es,y::ys,h,q,K=>by
  rw [List.zip_cons_cons] at K
  rcases List.mem_cons.1 K with rfl | K
  ·exact⟨h.1,h.2.1⟩
  ·exact Dz.zip h.2.2 K
 | [],_::_,h,_,_=>h.elim
 | _::_,[],h,_,_=>h.elim
theorem RY:∀{es:List MapEntry} {ys:List (κ×ν)},KN ys->(es.map (·.born)).Pairwise (·<·)->∀{p q:MapEntry×(κ×ν)},p∈es.zip ys->q∈es.zip ys->p.2.1=q.2.1->p=q
 | [],_,_,_,_,_,h,_,_=>by simp at h
 | _::_,[],_,_,_,_,h,_,_=>by simp at h
 | e::es,y::ys,ac,Y,p,q,K,O,hb=>by
  have U:y.1 ∉ ys.map (·.1)/\KN ys:=by simpa [KN] using ac
  rw [List.map_cons,List.pairwise_cons] at Y;rw [List.zip_cons_cons] at K O;have Z:∀{z:MapEntry×(κ×ν)},z∈es.zip ys->z.2.1∈ys.map (·.1):=λ{z} ag=>List.mem_map.2 ⟨z.2,(List.of_mem_zip ag).2,rfl⟩;rcases List.mem_cons.1 K with rfl | K <;> rcases List.mem_cons.1 O with rfl | O
  ·rfl
  ·have:=Z O;simp only at hb;rw [← hb] at this;exact absurd this U.1
  ·have:=Z K;simp only at hb;rw [hb] at this;exact absurd this U.1
  ·exact RY U.2 Y.2 K O hb
theorem IE.len{es:Array MapEntry}{ys:List (κ×ν)}{seen:Array Nat}{done:List (κ×ν)}(h:IE es ys seen done):done.length<=ys.length:=by
 obtain⟨Y,rfl,Z,K,O⟩:=h;rw [List.length_map];have U:=RR K O;exact Nat.le_trans U (by rw [List.length_zip];exact Nat.min_le_right _ _)
section
variable {b:Frame}
variable {x y:Operand}{e:TypeId}{i:Nat}{bk:Nat}
theorem Rh{es:Array MapEntry}{c r:Nat}{seen:Array Nat}{done:List (κ×ν)}(j:Nat)(ag:Dz pk ka pv va E es.toList ys)(Z:(es.toList.map (·.born)).Pairwise (·<·))(hb:∀e∈es.toList,e.born<c)(aw:KN ys)(a0:IE es ys seen done)(a2:(Aj E' H S).get bk=some (.map es c))(a3:Aq E' H S)(a4:S[j]? =some [(r,.mapIter (some bk) c seen c)])
  (a5:ops[i]? =some ⟨d,.next x false,ty,p,af,g⟩) (hw:AM L ops ⟨d,.next x false,ty,p,af,g⟩=some true) (a6:BH b n ⟨d,.next x false,ty,p,af,g⟩=true) (a7:ev L x=some (.pointer (some ⟨r,0,none⟩)))
  (a8:∀e O,Vr pk ka E e.key O.1->Vr pv va E e.val O.2->O∈ys->O.1 ∉ done.map (·.1)->e∈es.toList->IE es ys (seen.push e.born) (done++ [O])->Aq E' H (S.set j [(r,.mapIter (some bk) c (seen.push e.born) c)])->
   JL J Q b n (Au L d (.tuple #[.bool true,e.key,e.val])) ds (.inRegion ops rest::kk) cs (Aj E' H (S.set j [(r,.mapIter (some bk) c (seen.push e.born) c)])))
  (a9:done.Perm ys->JL J Q b n (Au L d (.tuple #[.bool false])) ds (.inRegion ops rest::kk) cs (Aj E' H S)):
  JL J Q b n L ds (.inRegion ops (i::rest)::kk) cs (Aj E' H S):=by
 obtain⟨ac,rfl,a1,al,Y⟩:=a0;have hlen:=ag.len;refine JS.next j a2 hb a3 a4 a5 hw a6 a7 (λe he bb be=>?_) (λbi=>?_)
 ·obtain⟨m,hm,bo⟩:=List.mem_iff_getElem.1 he;have U:(e,ys[m]'(by omega))∈es.toList.zip ys:=by
   rw [← bo];have:(es.toList.zip ys)[m]'(by rw [List.length_zip];omega)=(es.toList[m],ys[m]'(by omega)):=List.getElem_zip;rw [← this];exact List.getElem_mem _
  obtain⟨k1,bv⟩:=ag.zip U;have am:(e,ys[m]'(by omega)) ∉ ac:=λq=>bb (by
   rw [← Array.mem_toList_iff,a1]
   exact List.mem_map.2 ⟨_,q,V⟩)
  refine a8 e _ k1 bv (List.getElem_mem _) (λq=>?_) he ⟨ac++ [(e,ys[m]'(by omega))],by simp,by simp [a1],?_,λq K=>?_⟩ be
  ·obtain⟨O,bw,b0⟩:=List.mem_map.1 q;obtain⟨z,ap,rfl⟩:=List.mem_map.1 bw;have:=RY aw Z (Y z ap) U b0;exact am (this▸ap)
  ·rw [List.nodup_append];exact⟨al,by simp,by intro q K z aq b1;simp at aq;subst aq b1;exact am K⟩
  ·rcases List.mem_append.1 K with K | K
   ·exact Y q K
   ·simp at K;subst K;exact U
 ·refine a9 ?_;have b2:ac.Perm (es.toList.zip ys):=by
   have b3:(es.toList.zip ys).Nodup:=by
    have:((es.toList.zip ys).map (·.1)).Nodup:=by
     rw [List.map_fst_zip (by omega)];exact Qp (λe:MapEntry=>e.born) (Z.imp (λh=>Nat.ne_of_lt h))
    exact Qp _ this
   refine(List.perm_ext_iff_of_nodup al b3).2 λq=>⟨λK=>Y q K,λK=>?_⟩;have:=bi q.1 (List.of_mem_zip K).1;rw [← Array.mem_toList_iff,a1] at this;obtain⟨z,U,b4⟩:=List.mem_map.1 this;have:=Rn Z (Y z U) K b4;exact this▸U
  have:=b2.map (·.2)
  rwa [List.map_snd_zip (by omega)] at this
end
end
variable {l0 bks:List Nat}{xl:List Nat}
section
variable {b:Frame}{fuel:Nat}{listed:Array Bool}
theorem CK(i:Nat)(pure:Bool)(K:s.q=false)(O:GW n L ops i=some ⟨d,op,ty,p,af,g⟩)
  (U:∀ρ,EA L ρ->∀s':St,(pure=false->∀x o,(Bl (Az (l0++bks)) s).E x=some o->s'.E x=some o)->Yl P ⟨d,op,ty,p,af,g⟩ ρ s' v)
  (Y:Fh J Q b n ds ops k cs (Az xl) (Az (l0++bks)) (Az l0) fuel (A8 listed i) (Au L d v) s) (Z:Jf ops listed xl pure i=true:=by decide+kernel):Fh J Q b n ds ops k cs (Az xl) (Az (l0++bks)) (Az l0) (fuel+1) listed L s:=by
 obtain⟨ac,ag,al⟩:=OP O;exact JB.val i pure ac Z K ag al U Y
def Qe(n:Nat)(L:Env)(ops:Ao_)(i:Nat):Option Env:=
 match Jg ops.toList i with
 | some ⟨d,op,ty,p,af,g⟩=>match AM L ops ⟨d,op,ty,p,af,g⟩ with
  | some true=>match Bf n d with
   | true=>match KC L op with
    | some v=>match d with
     | some d=>some ((d,v)::L)
     | none=>some L
    | none=>none
   | false=>none
  | _=>none
 | none=>none
theorem Xk{i:Nat}(h:Qe n L ops i=some L'):∃o v,ops[i]? =some o/\Bf n o.dst=true/\AM L ops o=some true/\KC L o.op=some v/\L'=Au L o.dst v:=by
 unfold Qe at h;split at h
 ·rename_i d op ty p af g K;rw [K5,Array.getElem?_toList] at K;split at h
  ·rename_i hw;split at h
   ·rename_i O;split at h
    ·rename_i v U;refine⟨_,v,K,O,hw,U,?_⟩;cases d with
     | none=>cases h;rfl
     | some d=>cases h;rfl
    ·cases h
   ·cases h
  ·cases h
 ·cases h
theorem Bb(i:Nat)(K:s.q=false)(h:Qe n L ops i=some L')
  (O:Fh J Q b n ds ops k cs (Az xl) (Az (l0++bks)) (Az l0) fuel (A8 listed i) L' s) (U:Jf ops listed xl true i=true:=by decide+kernel):Fh J Q b n ds ops k cs (Az xl) (Az (l0++bks)) (Az l0) (fuel+1) listed L s:=by
 obtain⟨o,v,Y,Z,hw,ac,rfl⟩:=Xk h;exact JB.val i true Y U K hw Z (λρ ag s' _=>Na ag ac) O
end
variable {i2:Nat}
variable {d2:Option Tmp}{x2:Operand}{t2 ty2:TypeId}{p2:String}{af2:Ae_}{g2:On_}
section
variable {b:Frame}{i:Nat}
variable {x y:Operand}{e:TypeId}
theorem Dd(O:Aq E H S)(h:∀r E',Le E E'->At E' r 0 v.cells.toList->Aq E' H (S++ [[]])->JL J Q b n (Au L d (.pointer (some ⟨r,0,none⟩))) ds (.inRegion ops rest::k) cs (Aj E' H (S++ [[]])))
  (U:Fi b n L ops i=some ⟨d,.box e x,ty,p,af,g⟩:=by exact rfl) (Y:ev L x=some v:=by exact rfl):JL J Q b n L ds (.inRegion ops (i::rest)::k) cs (Aj E H S):=by
 obtain⟨Z,ac,ag⟩:=Kj U;refine JS.box Z ac ag O Y λr al=>CF (bk:=r) (c:=v.cells) (e:=e) (f:=(0,0)) S.length al (by simp) λE' hle am K=>?_;have ap:(S++ [[(r,Obj.cells v.cells e (0,0))]]).set S.length []=S++ [[]]:=by simp
 rw [ap] at K ⊢;exact h r E' hle am K
theorem BM{z:Value}(K:Aq E H S)(O:zeroOf P e=some z)(h:∀r,Aq E H (S++ [[(r,.cells z.cells e (0,0))]])->JL J Q b n (Au L d (.pointer (some ⟨r,0,none⟩))) ds (.inRegion ops rest::k) cs (Aj E H (S++ [[(r,.cells z.cells e (0,0))]])))
  (U:Fi b n L ops i=some ⟨d,.alloc e,ty,p,af,g⟩:=by exact rfl):JL J Q b n L ds (.inRegion ops (i::rest)::k) cs (Aj E H S):=by
 obtain⟨Y,Z,ac⟩:=Kj U;exact JS.alloc Y Z ac K O h
theorem BF{bk off K:Nat}{c:Av_}(j:Nat)(O:Aq E H S)(U:Bj P t=some K)
  (h:Aq E H (S.set j [(bk,.cells (A4 c off v.cells.toList) e (0,0))])->JL J Q b n (Au L d undef) ds (.inRegion ops rest::k) cs (Aj E H (S.set j [(bk,.cells (A4 c off v.cells.toList) e (0,0))])))
  (Y:Fi b n L ops i=some ⟨d,.store t x y,ty,p,af,g⟩:=by exact rfl) (Z:ev L x=some (.pointer (some ⟨bk,off,none⟩)):=by exact rfl) (ac:ev L y=some v:=by exact rfl) (ag:S[j]? =some [(bk,.cells c e (0,0))]:=by exact rfl)
  (al:K=v.cells.size:=by exact rfl) (hle:off+v.cells.size<=c.size:=by exact Nat.le_of_ble_eq_true rfl) (am:v.cells.toList.all CJ=true:=by first | exact rfl | simp [Value.cells,CJ]):
  JL J Q b n L ds (.inRegion ops (i::rest)::k) cs (Aj E H S):=TT j O (by rw [← al];exact U) Y Z ac ag h hle (List.all_eq_true.1 am)
theorem BK{bk o K Y off:Nat}{O:Array Field}{U:Nat}{ws:Lv_}(j:Nat)(Z:At E bk o ws)(ac:P.underlying t=some (.struct O))(ag:Bj P ft=some (Y+1))(al:De P t2=some false)
  (am:JL J Q b n (Au (Au L d (.pointer (some ⟨bk,K+off,none⟩))) d2 v) ds (.inRegion ops rest::k) cs (Aj E H S))
  (ap:Fi b n L ops i=some ⟨d,.fieldAddr t x U,ty,p,af,g⟩:=by exact rfl) (aq:ev L x=some (.pointer (some ⟨bk,K,none⟩)):=by exact rfl) (aw:LZ O U=some (off,ft):=by exact rfl)
  (a0:Fi b n (Au L d (.pointer (some ⟨bk,K+off,none⟩))) ops i2=some ⟨d2,.load t2 x2,ty2,p2,af2,g2⟩:=by exact rfl) (a1:ev (Au L d (.pointer (some ⟨bk,K+off,none⟩))) x2=some (.pointer (some ⟨bk,o+j,none⟩)):=by exact rfl) (a2:ws[j]? =some v:=by exact rfl):
  JL J Q b n L ds (.inRegion ops (i::i2::rest)::k) cs (Aj E H S):=JL.fd ac ag ap aq aw (CY j Z al a0 a1 a2 am)
theorem JS.ix{α:Type}{pp:Rp α}{a:Option Addr}{c:Nat}{xs:List α}{xv:α}{m:Int}{kd:IntKind}(K:Al pp E a c xs)(hm:ix xs m=some xv)(O:P.underlying t=some (.slice e))(U:Bj P e=some pp.n)
  (h:∀bk o ws,pp.r E ws xv->At E bk o ws->JL J Q b n (Au L d (.pointer (some ⟨bk,o,none⟩))) ds (.inRegion ops rest::k) cs (Aj E H S))
  (Y:Fi b n L ops i=some ⟨d,.indexAddr t x y,ty,p,af,g⟩:=by exact rfl) (Z:ev L x=some (.slice a xs.length c):=by exact rfl) (ac:ev L y=some (.int kd m):=by exact rfl):
  JL J Q b n L ds (.inRegion ops (i::rest)::k) cs (Aj E H S):=by
 obtain⟨ag,al,am⟩:=Kj Y;exact Sz K hm ag al am Z ac O U h
theorem EM(K:List Seg)(O:Env){todo:Li_}{c:Code}(U:∀E',Le E E'->Aq E' H K->JL J Q b n O ds todo cs (Aj E' H K))
  (h:(∀{E':LH} {L:Env},Le E E'->Aq E' H K->Ie L O=Im O->JL J Q b n L ds todo cs (Aj E' H K))->JL J Q b n L ds (.code c::todo) cs (Aj E H S)):JL J Q b n L ds (.code c::todo) cs (Aj E H S):=
 h λY Z ac=>AA (U _ Y Z) ac
theorem EB{U:List Nat}(Y Z:Nat)(K:List Seg)(O:Env){todo:Li_}(ac:∀E',Le E E'->Aq E' H K->JL J Q b n O ds (.inRegion ops (List.range' Y Z)::todo) cs (Aj E' H K))
  (h:(∀{E':LH} {L:Env},Le E E'->Aq E' H K->Ie L O=Im O->JL J Q b n L ds (.inRegion ops (List.range' Y Z)::todo) cs (Aj E' H K))->JL J Q b n L ds (.inRegion ops U::todo) cs (Aj E H S)):JL J Q b n L ds (.inRegion ops U::todo) cs (Aj E H S):=
 h λag al am=>AA (ac _ ag al) am
theorem DZ{O ag:Type}{c:Code}{body:O->Option (Bm O ag)}{f:Nat}{Y:O}{a:ag}{Z:LH}{k:Li_}(am:iter body f Y=some a)(K:O->List Seg)(U:O->Env)(hle:Le Z E)(ap:Aq E H (K Y))
  (round:∀x E',Le Z E'->Aq E' H (K x)->(∀al,body x=some (.done al)->al=a)->(∃st,body x=some st)->(∀{L':Env} {ac:LH} (x':O),Le Z ac->Aq ac H (K x')->Ie L' (U x')=Im (U x')->body x=some (.more x')->JL J Q b n L' ds (.inLoop c::k) cs (Aj ac H (K x')))->JL J Q b n (U x) ds (.code c:: .inLoop c::k) cs (Aj E' H (K x)))
  (aq:Ie L (U Y)=Im (U Y):=by exact rfl) (aw:Aj E H S=Aj E H (K Y):=by exact rfl):JL J Q b n L ds (.code (.loop c)::k) cs (Aj E H S):=by
 rw [aw];refine Ep _ aq (RN am (λL s x=>∃E',Jm Z H E' (K x) (U x) L s) ⟨E,V,V,hle,ap⟩ ?_);rintro _ _ x ⟨E',rfl,rfl,a0,a1⟩ hd hb a2;exact round x E' a0 a1 hd hb λx' a3 g2 a4 a5=>AA (a2 _ _ x' ⟨_,V,V,a3,g2⟩ a5) a4
theorem Bg{f:FuncId}{fn:Func}{c:Code}{E:LH}{vs:Lv_}{B:Seg}{R:Value->LH->Seg->Prop}(O:P.funcs[f]? =some fn)
  (h:∀(Q:Gs_) (K:Frame) (cs:Lf_) (H:LH),Aq E H [B]->(∀{v:Value} {E':LH} {S':List Seg} {B':Seg},Le E E'->S'.flatten=B'->R v E' B'->Aq E' H S'->J.ok Q (G (K.finish v) cs) (Aj E' H S'))->JL J Q (base f) fn.ntmps (Ga 0 vs) [] [.code c] (K::cs) (Aj E H [B]))
  (hb:fn.body=some c:=by exact rfl) (U:Nat.ble vs.length fn.ntmps=true:=by exact rfl):AL J f vs E B R:=
 K7 O hb U λQ K cs H Y Z=>h Q K cs H Y λac ag al am=>Z _ _ _ _ ac ag al am
variable {fuel:Nat}{listed:Array Bool}
theorem Ko{bk:Nat}{c:Av_}{f:Nat×Nat}(i:Nat)(K:DL ops m=true)(o:Nat)(j:Nat)(O:Aq E H S)(U:De P t=some false)
  (Y:AO J Q b n ds ops k cs m (Az bks) fuel (A8 listed i) (Au L d w) (Aj E H S)) (Z:GW n L ops i=some ⟨d,.load t x,ty,p,af,g⟩:=by exact rfl) (ac:ev L x=some (.pointer (some ⟨bk,o,none⟩)):=by exact rfl)
  (ag:S[j]? =some [(bk,.cells c e f)]:=by exact rfl) (hw:c[o]? =some w:=by exact rfl) (al:Az bks bk=true:=by simp [Az]) (am:Ge ops listed m i=true:=by decide+kernel):AO J Q b n ds ops k cs m (Az bks) (fuel+1) listed L (Aj E H S):=
 AP i K V Z (λρ h s' ap=>Yl.load U (h _ _ ac) (BZ (o:=o) j O ag al ap hw)) Y am
theorem JG.lp{bk o:Nat}{ws:Lv_}(i:Nat)(K:DL ops m=true)(j:Nat)(O:At E bk o ws)(U:Aq E H S)(Y:Hh S bks)(Z:De P t=some false)
  (ac:AO J Q b n ds ops k cs m (Az bks) fuel (A8 listed i) (Au L d w) (Aj E H S)) (ag:GW n L ops i=some ⟨d,.load t x,ty,p,af,g⟩:=by exact rfl) (al:ev L x=some (.pointer (some ⟨bk,o+j,none⟩)):=by exact rfl)
  (hw:ws[j]? =some w:=by exact rfl) (am:Ge ops listed m i=true:=by decide+kernel):AO J Q b n ds ops k cs m (Az bks) (fuel+1) listed L (Aj E H S):=
 AP i K V ag (λρ h s' ap=>Yl.load Z (h _ _ al) (At.EK (j:=j) O (Uf U ap Y) hw)) ac am
theorem Ub{bk o K:Nat}{c:Av_}{f:Nat×Nat}(i:Nat)(O:DL ops m=true)(vs:Lv_)(j:Nat)(U:Aq E H S)(hw:∀(q:Nat) w,vs[q]? =some w->c[o+q]? =some w)(Y:De P t=some true)(Z:Bj P t=some K)
  (ac:AO J Q b n ds ops k cs m (Az bks) fuel (A8 listed i) (Au L d (.agg vs.toArray)) (Aj E H S)) (ag:GW n L ops i=some ⟨d,.load t x,ty,p,af,g⟩:=by exact rfl) (al:ev L x=some (.pointer (some ⟨bk,o,none⟩)):=by exact rfl)
  (am:S[j]? =some [(bk,.cells c e f)]:=by exact rfl) (ap:K=vs.length:=by exact rfl) (aq:Az bks bk=true:=by simp [Az]) (aw:Ge ops listed m i=true:=by decide+kernel):AO J Q b n ds ops k cs m (Az bks) (fuel+1) listed L (Aj E H S):=
 AP i O V ag (λρ h s' a0=>H9 (vs:=vs) Y (by rw [← ap];exact Z) (h _ _ al) (λq w a1=>by rw [Dw rfl];exact BZ j U am aq a0 (hw q w a1))) ac aw
theorem JG.ix{D:Nat->Bool}{α:Type}{xs:List α}{xv:α}{K:Int}{bk c O U:Nat}{kd:IntKind}(i:Nat)(Y:DL ops m=true)(Z:xs.length=U)(hm:ix xs K=some xv)(ac:P.underlying t=some (.slice e))(ag:Bj P e=some O)
  (al:AO J Q b n ds ops k cs m D fuel (A8 listed i) (Au L d (.pointer (some ⟨bk,K.toNat*O,none⟩))) s) (am:s.q=false:=by exact rfl) (ap:GW n L ops i=some ⟨d,.indexAddr t x y,ty,p,af,g⟩:=by exact rfl)
  (aq:ev L x=some (.slice (some ⟨bk,0,none⟩) U c):=by exact rfl) (aw:ev L y=some (.int kd K):=by exact rfl) (a0:Ge ops listed m i=true:=by decide+kernel):AO J Q b n ds ops k cs m D (fuel+1) listed L s:=
 AP i Y am ap (λρ h s' a1=>Fs Z hm ac ag (h _ _ aq) (h _ _ aw)) al a0
theorem JB.ix{l0 bks:List Nat}{α:Type}{xs:List α}{xv:α}{K:Int}{bk c O U:Nat}{kd:IntKind}(i:Nat)(Y:xs.length=U)(hm:ix xs K=some xv)(Z:P.underlying t=some (.slice e))(ac:Bj P e=some O)
  (ag:Fh J Q b n ds ops k cs (Az xl) (Az (l0++bks)) (Az l0) fuel (A8 listed i) (Au L d (.pointer (some ⟨bk,K.toNat*O,none⟩))) s) (al:s.q=false:=by exact rfl) (am:GW n L ops i=some ⟨d,.indexAddr t x y,ty,p,af,g⟩:=by exact rfl)
  (ap:ev L x=some (.slice (some ⟨bk,0,none⟩) U c):=by exact rfl) (aq:ev L y=some (.int kd K):=by exact rfl) (aw:Jf ops listed xl true i=true:=by decide+kernel):Fh J Q b n ds ops k cs (Az xl) (Az (l0++bks)) (Az l0) (fuel+1) listed L s:=
 CK i true al am (λρ h s' a0=>Fs Y hm Z ac (h _ _ ap) (h _ _ aq)) ag aw
theorem Ug{l0:List Nat}{bk o K:Nat}{c:Av_}{f:Nat×Nat}(i:Nat)(vs:Lv_)(j:Nat)(O:Aq E H S)(hw:∀(q:Nat) w,vs[q]? =some w->c[o+q]? =some w)(U:De P t=some true)(Y:Bj P t=some K)
  (Z:Fh J Q b n ds ops k cs (Az xl) (Az (l0++bks)) (Az l0) fuel (A8 listed i) (Au L d (.agg vs.toArray)) (Aj E H S)) (ac:GW n L ops i=some ⟨d,.load t x,ty,p,af,g⟩:=by exact rfl) (ag:ev L x=some (.pointer (some ⟨bk,o,none⟩)):=by exact rfl)
  (al:S[j]? =some [(bk,.cells c e f)]:=by exact rfl) (am:K=vs.length:=by exact rfl) (ap:Az (l0++bks) bk=true:=by simp [Az]) (aq:Jf ops listed xl false i=true:=by decide+kernel):Fh J Q b n ds ops k cs (Az xl) (Az (l0++bks)) (Az l0) (fuel+1) listed L (Aj E H S):=
 CK i false V ac (λρ h s' aw=>H9 (vs:=vs) U (by rw [← am];exact Y) (h _ _ ag) (λq w a0=>by rw [Dw rfl];exact BZ j O al ap (aw rfl) (hw q w a0))) Z aq
theorem DO{l0 bks:List Nat}{bk off K:Nat}{c:Av_}(i j:Nat)(O:Aq E H S)(U:Bj P t=some K)(Y:Ml S j l0)(hle:off+K<=c.size)
  (h:Aq E H (S.set j [(bk,.cells (A4 c off v.cells.toList) e (0,0))])->Fh J Q b n ds ops k cs (Az xl) (Az (l0++bks)) (Az l0) fuel (A8 listed i) (Au L d undef) (Aj E H (S.set j [(bk,.cells (A4 c off v.cells.toList) e (0,0))])))
  (Z:GW n L ops i=some ⟨d,.store t x y,ty,p,af,g⟩:=by exact rfl) (ac:ev L x=some (.pointer (some ⟨bk,off,none⟩)):=by exact rfl) (ag:ev L y=some v:=by exact rfl) (al:S[j]? =some [(bk,.cells c e (0,0))]:=by exact rfl)
  (am:K=v.cells.size:=by exact rfl) (ap:v.cells.toList.all CJ=true:=by first | exact rfl | simp [Value.cells,CJ]) (aq:Region.ready .any ops listed= [i]:=by decide+kernel) (aw:Az xl i=true:=by decide+kernel):
  Fh J Q b n ds ops k cs (Az xl) (Az (l0++bks)) (Az l0) (fuel+1) listed L (Aj E H S):=by
 obtain⟨a0,a1,a2⟩:=OP Z;subst am;exact JB.store i j aq aw a0 a1 a2 O ac ag U (List.all_eq_true.1 ap) al Y hle h
end
abbrev s8(s:Nat):Value:= .int .u8 (s:Int)
def NP(a:Nat)(n:Int):Option Nat:=if 0<=n/\n<=8 then some (a>>>n.toNat) else none
def Lm(a b:Nat):Option Nat:=if a<256/\b<256 then some (a ||| b) else none
def NR(a b:Nat):Option Nat:=if a<256/\b<256 then some (a&&& b) else none
variable {a c:Nat}
section
variable {x y:Operand}{b r:Nat}{m:Int}
theorem T5{m:Nat}(h:m<256):IntKind.u8.wrap (m:Int)=m:=by
 simp only [IntKind.wrap,IntKind.bits,IntKind.signed];simp;omega
theorem Oc{m:Nat}(h:m<256):(BitVec.ofInt IntKind.u8.bits (m:Int)).toNat=m:=by
 simp [IntKind.bits,BitVec.toNat_ofInt];omega
theorem bz{k:Nat}(a c:Nat)(K:c<=k):((a:Int).fdiv (2 ^ (min c k)))=((a>>>c:Nat):Int):=by
 rw [Nat.min_eq_left K,Nat.shiftRight_eq_div_pow,Int.fdiv_eq_ediv_of_nonneg _ (Int.pow_nonneg (by decide)),Int.natCast_ediv]
 rfl
theorem Rw(K:ρ x=s8 a)(O:ρ y=iV m)(h:NP a m=some r):Yl P ⟨d,.binOp .shr t x y u,ty,p,af,g⟩ ρ s (s8 r):=by
 unfold NP at h;split at h
 ·rename_i U;cases h;have h:=Yl.shr (P:=P) (s:=s) (d:=d) (t:=t) (u:=u) (ty:=ty) (p:=p) (af:=af) (g:=g) K O U.1;rw [show IntKind.u8.bits=8 from rfl,bz a m.toNat (by omega)] at h;exact h
 ·cases h
theorem Nn(O:ρ x=s8 a)(U:ρ y=s8 b)(h:Lm a b=some r):Yl P ⟨d,.binOp .or t x y u,ty,p,af,g⟩ ρ s (s8 r):=by
 unfold Lm at h;split at h
 ·rename_i K;cases h;have h:=Yl.or (P:=P) (s:=s) (d:=d) (t:=t) (u:=u) (ty:=ty) (p:=p) (af:=af) (g:=g) O U;rw [BitVec.toNat_or,Oc K.1,Oc K.2,T5 (Nat.or_lt_two_pow (n:=8) K.1 K.2)] at h;exact h
 ·cases h
theorem RA(O:ρ x=s8 a)(U:ρ y=s8 b)(h:NR a b=some r):Yl P ⟨d,.binOp .and t x y u,ty,p,af,g⟩ ρ s (s8 r):=by
 unfold NR at h;split at h
 ·rename_i K;cases h;have h:=Yl.and (P:=P) (s:=s) (d:=d) (t:=t) (u:=u) (ty:=ty) (p:=p) (af:=af) (g:=g) O U;rw [BitVec.toNat_and,Oc K.1,Oc K.2,T5 (Nat.lt_of_le_of_lt Nat.and_le_left K.1)] at h;exact h
 ·cases h
end
def NB(a b:Nat):Option Nat:=if a<4294967296/\b<4294967296 then some (a&&& b) else none
def NJ(a b:Nat):Option Nat:=if a<4294967296/\b<4294967296 then some (a ||| b) else none
def PG(a:Nat)(n:Int):Option Nat:=if 0<=n/\n<=32/\a*2 ^ n.toNat<4294967296 then some (a*2 ^ n.toNat) else none
def KA(n:Int):Option Nat:=if 0<=n/\n<=8 then some ((1<<<n.toNat) % 256) else none
section
variable {e:TypeId}{x y:Operand}{b r:Nat}{m:Int}
theorem wrap32{m:Nat}(h:m<4294967296):IntKind.u32.wrap (m:Int)=m:=by
 simp only [IntKind.wrap,IntKind.bits,IntKind.signed];simp;omega
theorem N8{m:Nat}(h:m<4294967296):(BitVec.ofInt IntKind.u32.bits (m:Int)).toNat=m:=by
 simp [IntKind.bits,BitVec.toNat_ofInt];omega
theorem V3(O:ρ x= .int .u32 (a:Int))(U:ρ y= .int .u32 (b:Int))(h:NB a b=some r):Yl P ⟨d,.binOp .and t x y u,ty,p,af,g⟩ ρ s (.int .u32 (r:Int)):=by
 unfold NB at h;split at h
 ·rename_i K;cases h;have h:=Yl.and (P:=P) (s:=s) (d:=d) (t:=t) (u:=u) (ty:=ty) (p:=p) (af:=af) (g:=g) O U;rw [BitVec.toNat_and,N8 K.1,N8 K.2,wrap32 (Nat.lt_of_le_of_lt Nat.and_le_left K.1)] at h;exact h
 ·cases h
theorem Xn(O:ρ x= .int .u32 (a:Int))(U:ρ y= .int .u32 (b:Int))(h:NJ a b=some r):Yl P ⟨d,.binOp .or t x y u,ty,p,af,g⟩ ρ s (.int .u32 (r:Int)):=by
 unfold NJ at h;split at h
 ·rename_i K;cases h;have h:=Yl.or (P:=P) (s:=s) (d:=d) (t:=t) (u:=u) (ty:=ty) (p:=p) (af:=af) (g:=g) O U;rw [BitVec.toNat_or,N8 K.1,N8 K.2,wrap32 (Nat.or_lt_two_pow (n:=32) K.1 K.2)] at h;exact h
 ·cases h
theorem Wl(O:ρ x= .int .u32 (a:Int))(U:ρ y=iV m)(h:PG a m=some r):Yl P ⟨d,.binOp .shl t x y u,ty,p,af,g⟩ ρ s (.int .u32 (r:Int)):=by
 unfold PG at h;split at h
 ·rename_i K;cases h;have h:=Yl.shl (P:=P) (s:=s) (d:=d) (t:=t) (u:=u) (ty:=ty) (p:=p) (af:=af) (g:=g) O U K.1;have e:IntKind.u32.wrap ((a:Int)*2 ^ (min m.toNat IntKind.u32.bits))=((a*2 ^ m.toNat:Nat):Int):=by
   have Y:min m.toNat IntKind.u32.bits=m.toNat:=by simp [IntKind.bits];omega
   rw [Y,← wrap32 K.2.2];simp
  rw [e] at h;exact h
 ·cases h
theorem LK(K:ρ x=s8 1)(O:ρ y=iV m)(h:KA m=some r):Yl P ⟨d,.binOp .shl t x y u,ty,p,af,g⟩ ρ s (s8 r):=by
 unfold KA at h;split at h
 ·rename_i U;cases h;have h:=Yl.shl (P:=P) (s:=s) (d:=d) (t:=t) (u:=u) (ty:=ty) (p:=p) (af:=af) (g:=g) K O U.1;have e:IntKind.u8.wrap (((1:Nat):Int)*2 ^ (min m.toNat IntKind.u8.bits))=(((1<<<m.toNat) % 256:Nat):Int):=
   (by decide:∀k:Fin 9,IntKind.u8.wrap (((1:Nat):Int)*2 ^ (min k.1 IntKind.u8.bits))=(((1<<<k.1) % 256:Nat):Int)) ⟨m.toNat,by omega⟩
  rw [e] at h;exact h
 ·cases h
theorem WJ(K:ρ x=s8 a)(O:ρ y=s8 b)(hb:b<=256):Yl P ⟨d,.binOp .sub t x y u,ty,p,af,g⟩ ρ s (s8 ((a+(256 - b)) % 256)):=by
 have h:=Yl.sub (P:=P) (s:=s) (d:=d) (t:=t) (u:=u) (ty:=ty) (p:=p) (af:=af) (g:=g) K O;have e:IntKind.u8.wrap ((a:Int) - (b:Int))=(((a+(256 - b)) % 256:Nat):Int):=by
  simp only [IntKind.wrap,IntKind.bits,IntKind.signed];simp;omega
 rw [e] at h;exact h
theorem YS{kd:IntKind}{E:LH}(xs:List Nat):(rA xs.length (rN kd)).r E (xs.map λx=>Value.int kd ((x:Nat):Int)) xs:=by
 refine⟨V,xs.map λx=> [Value.int kd ((x:Nat):Int)],?_,by simp,λi x us K hu=>?_⟩
 ·induction xs with
  | nil=>rfl
  | cons x xs O=>simp [← O]
 ·rw [List.getElem?_map,K] at hu;exact(Option.some.inj hu).symm
theorem M6{α:Type}{kk:Nat}{pp:Rp α}{E:LH}{us:Lv_}{x:α}(h:pp.r E us x):(rA kk pp).r E (List.replicate kk us).flatten (List.replicate kk x):=
 ⟨by simp,List.replicate kk us,V,by simp,λi y ws K hw=>by
  rw [List.getElem?_replicate] at K hw
  split at K
  ·rename_i O
   rw [if_pos O] at hw
   cases K;cases hw
   exact h
  ·cases K⟩
theorem Rv{k K:Nat}{z v:Value}(O:P.underlying t=some (.array k e))(U:zeroOf P t=some z)(Y:Bj P e=some K)(Z: .agg z.cells=v):Yl P ⟨d,.build t #[],ty,p,af,g⟩ ρ s v:=by
 refine Fo OK ?_;unfold Instr.build;refine As (x:=zeroValue t) _ (HA U ?_);refine As _ _ (Cg O ?_);refine As (x:=Go.sizeOf e) _ (EJ Y ?_);subst Z;simp [Instr.fill,lp,pure]
theorem YD{k K:Nat}{z v:Value}{L:Env}{U:Array (Nat×Operand)}{vs:List (Nat×Value)}(h:EA L ρ)(Z:P.underlying t=some (.array k e))(ac:zeroOf P t=some z)(ag:Bj P e=some K)(al:U.toList.mapM (λq=>(ev L q.2).map λv=>(q.1,v))=some vs)(O:(Instr.fill (λi=>some (i*K,K)) z.cells vs).map Value.agg=some v):Yl P ⟨d,.build t U,ty,p,af,g⟩ ρ s v:=by
 refine Fo OK ?_;unfold Instr.build;refine As (x:=zeroValue t) _ (HA ac ?_);refine As _ _ (Cg Z ?_);refine As (x:=Go.sizeOf e) _ (EJ ag ?_);have am:=OE h al;have ap:(U.map λ(j,x)=>(j,ρ x)).toList=vs:=by rw [← am,Array.toList_map]
 rw [ap];cases Y:Instr.fill (λi=>some (i*K,K)) z.cells vs with
 | none=>rw [Y] at O;cases O
 | some cells=>rw [Y] at O;cases O;exact⟨rfl,rfl⟩
end
section
variable {e:TypeId}
end
section
variable {b:Frame}{fuel:Nat}{listed:Array Bool}
variable {x y:Operand}{e:TypeId}{i:Nat}
end
def GY(b:Frame)(T:Av_)(ds:Ld_)(todo:Li_)(ch:List PanicEntry):Frame:={b with tmps:=T,todo:=todo,defers:=ds,mode:= .panicking ch}
def raised(v:Value):List PanicEntry:= [{v,recovered:=false}]
def taken(v:Value):List PanicEntry:= [{v,recovered:=true}]
section
variable (J:Judge P)(Q:Gs_)
def JP(b:Frame)(n:Nat)(L:Env)(ds:Ld_)(cs:Lf_)(ch:List PanicEntry)(s:St):Prop:=
 ∀T,Has n L T->∀todo,J.ok Q (G (GY b T ds todo ch) cs) s
end
variable {bc:Frame}{dsc:Ld_}{ch:List PanicEntry}{T Tc:Av_}{todoc:Li_}
section
variable {b:Frame}
variable {i:Nat}{x:Operand}
theorem JL.panic{t:TypeId}(O:ops[i]? =some ⟨d,.panic x,ty,p,af,g⟩)(U:b.roundOf=none)(hw:AM L ops ⟨d,.panic x,ty,p,af,g⟩=some true)(Y:ev L x=some (.iface t v))
  (h:JP J Q b n L ds cs (raised (.iface t v)) s):JL J Q b n L ds (.inRegion ops (i::rest)::k) cs s:=λT K=>
 Judge.C8 V (λw=>by
  have he:execOp (Bu T) ⟨d,.panic x,ty,p,af,g⟩= .halt (.panic (.iface t v)):=by
   simp [execOp,Instr.panic,K.ev Y,goPanic,bind,Sem.bind]
  rw [stepG_op O (B3 K hw)]
  simp [U,stepG.apply,he,Sem.run,Sem.runT,Sem.events,GStep.after,fr,GY,Frame.raise,G,raised,seen_none]) (h T K (.inRegion ops (i::rest)::k))
theorem JP.pop{fn:Func}(K:P.funcs[b.fn]? =some fn)(h:J.ok Q (G (GY bc Tc dsc todoc ch) cs) s):JP J Q b n L [] (fr bc Tc dsc todoc::cs) ch s:=λT O todo=>
 Judge.C8 V (λw=>by simp [G,stepG,unwind,GY,fr,Frame.raise,Frame.catches,K]) h
theorem JP.Pn{f:FuncId}{fn:Func}{c:Code}{vs caps:Lv_}(ap:b.roundOf=none)(O:P.funcs[f]? =some fn)(Y:(fn.name== "runtime.NumGoroutine")=false)(hb:fn.body=some c)(Z:(vs++caps).length<=fn.ntmps)
  (h:∀T,Has n L T->∀todo,JL J Q (baseD f) fn.ntmps (Ga 0 (vs++caps)) [] [.code c] (GY b T ds todo ch::cs) s):JP J Q b n L (Kt f vs.toArray caps.toArray::ds) cs ch s:=λT ac todo=>by
 have ag:¬fn.name= "runtime.NumGoroutine" :=by simpa using Y
 refine Judge.C8 rfl (λw=>?_) (h T ac todo ((vs++caps).toArray++Array.replicate (fn.ntmps - (vs++caps).length) undef) ⟨by simp;simp at Z;omega,λt v al=>?_⟩)
 ·rw [BI (b:=baseD f) rfl];have:=enter_atD (P:=P) (vs++caps).toArray O hb;simp only [List.size_toArray] at this;rw [← this];simp [G,stepG,unwind,callDeferred,GY,Kt,invoke,callFunc,O,ag,hb,GStep.after,seen_none]
 ·obtain⟨_,K⟩:=Jw al;have am:t<(vs++caps).length:=by
   rcases Nat.lt_or_ge t (vs++caps).length with U | U
   ·exact U
   ·simp only [Nat.sub_zero] at K;have:=(List.getElem?_eq_some_iff.1 K).1;omega
  rw [Array.getD_eq_getD_getElem?,Array.getElem?_append_left (by simpa using am)];simp only [Nat.sub_zero] at K;rw [List.getElem?_toArray,K];rfl
theorem U3{ats:Array TypeId}{K:List PanicEntry}(O:ops[i]? =some ⟨d,.call ⟨.builtin .recover,#[],ats⟩,ty,p,af,g⟩)(U:b.roundOf=none)(Y:b.kind= .deferred)(ag:Bf n d=true)(hw:AM L ops ⟨d,.call ⟨.builtin .recover,#[],ats⟩,ty,p,af,g⟩=some true)
  (h:JL J Q b n (Au L d v) ds (.inRegion ops rest::k) (GY bc Tc dsc todoc ({v,recovered:=true}::K)::cs) s):
  JL J Q b n L ds (.inRegion ops (i::rest)::k) (GY bc Tc dsc todoc ({v,recovered:=false}::K)::cs) s:=λT Z=>
 Judge.C8 V (λw=>by
  have he:execOp (Bu T) ⟨d,.call ⟨.builtin .recover,#[],ats⟩,ty,p,af,g⟩= .pure .recover:=by
   simp [execOp,resolve,Deferred.ofValue,invoke,bind,Sem.bind,pure,Go.builtin]
  have ac:=Gq (b:=b) (ds:=ds) (k:=k) T ops i rest v _ O
  simp only [fr,U,Y] at ac
  rw [stepG_op O (B3 Z hw)]
  simp [U,Y,stepG.apply,he,Sem.run,Sem.runT,Sem.events,GStep.after,fr,GY,tryRecover,G,seen_none,ac]) (h _ (Z.put ag _))
theorem U0{ats:Array TypeId}(K:ops[i]? =some ⟨d,.call ⟨.builtin .recover,#[],ats⟩,ty,p,af,g⟩)(O:b.roundOf=none)(U:b.kind= .deferred)(ac:Bf n d=true)(hw:AM L ops ⟨d,.call ⟨.builtin .recover,#[],ats⟩,ty,p,af,g⟩=some true)
  (h:JL J Q b n (Au L d .nilIface) ds (.inRegion ops rest::k) (Ej bc Tc dsc todoc::cs) s):
  JL J Q b n L ds (.inRegion ops (i::rest)::k) (Ej bc Tc dsc todoc::cs) s:=λT Y=>
 Judge.C8 V (λw=>by
  have he:execOp (Bu T) ⟨d,.call ⟨.builtin .recover,#[],ats⟩,ty,p,af,g⟩= .pure .recover:=by
   simp [execOp,resolve,Deferred.ofValue,invoke,bind,Sem.bind,pure,Go.builtin]
  have Z:=Gq (b:=b) (ds:=ds) (k:=k) T ops i rest .nilIface _ K
  simp only [fr,O,U] at Z
  rw [stepG_op K (B3 Y hw)]
  simp [O,U,stepG.apply,he,Sem.run,Sem.runT,Sem.events,GStep.after,fr,Ej,tryRecover,G,seen_none,Z]) (h _ (Y.put ac _))
theorem JO.aA{fn:Func}(O:b.kind= .deferred)(U:P.funcs[b.fn]? =some fn)(K:fn.results= #[])(h:J.ok Q (G (Ej bc Tc dsc todoc) cs) s):JO J Q b n L [] (GY bc Tc dsc todoc (taken v)::cs) s:=λT Z todo=>by
 refine Judge.C8 rfl (λw=>?_) h
 have Y:=results_none K T P w
 have e2:=λ(x:Array Event)=>events_results_none (P:=P) (w:=w) K T x
 simp [G,stepG,unwind,Ej,GY,U,Y,e2,doReturn,O,GStep.after,seen_none,taken]
end
open Go.Proofs
abbrev Dq:=Int×Int×Int
abbrev Aw:=List Dq
abbrev AX:=List Aw
abbrev Bn:=List (List Int)
abbrev A5:=Bn×Aw
abbrev Ay:=rP rI Ee
open Go.Proofs.Tryz
def Ax:=AN Tryz.type3
def A9:=AN Tryz.type42
def FQ:=AN Tryz.type122
def H2:=AN Tryz.type82
def MG:=AN Tryz.type245
def AR:=Cu Tryz.underlying3
def Lt:=A0 Tryz.func83 rfl
def Fl:=AN Tryz.type25
def FB:=Cu Tryz.underlying25
def Gp:=AN Tryz.type26
def HZ:=Cu Tryz.underlying26
def Da:=Cu Tryz.underlying42
def Bx:=Db Tryz.type42
def GG:=AN Tryz.type22
def J8:=Cu Tryz.underlying22
def Jt:=Db Tryz.type82
def CQ:=AN Tryz.type28
def Hu:=Cu Tryz.underlying82
def IV:=Db Tryz.type122
def Hx:=Db Tryz.type78
def ER:=Cu Tryz.underlying28
def Dl:=AN Tryz.type78
def FC:=Cu Tryz.underlying78
def Ct:=Db Tryz.type3
def J9:=A0 Tryz.func54 rfl
def MF:=A0 Tryz.func55 rfl
def H0:=A0 Tryz.func64 rfl
def Ly:=AN Tryz.type4
def Of:=Cu Tryz.underlying4
def Bh:=AN Tryz.type96
def Bz:=Cu Tryz.underlying96
def Hy:=AN Tryz.type199
def Hw:=A0 Tryz.func60 rfl
def Lu:=Db Tryz.type22
def Lw:=Db Tryz.type4
def MB:=A0 Tryz.func103 rfl
def KI:=Db Tryz.type253
def Hv:=A0 Tryz.func92 rfl
def Oo:=Db Tryz.type96
def Mv:=Cu Tryz.underlying205
def Oe:=Cu Tryz.underlying91
def Oj:=A0 Tryz.func62 rfl
def Og:=A0 Tryz.func197 rfl
def Oh:=A0 Tryz.func177 rfl
def Oi:=A0 Tryz.func146 rfl
def MA:=A0 Tryz.func102 rfl
def J7:=Cu Tryz.underlying199
def Ol:=Db Tryz.type245
def My:=Cu Tryz.underlying245
def Ju:=AN Tryz.type152
def ME:=Db Tryz.type152
def Mx:=Cu Tryz.underlying152
def G3:=Cu Tryz.underlying21
def MH:=AN Tryz.type93
def Js:=Db Tryz.type28
def MC:=A0 Tryz.func44 rfl
def Om:=A0 Tryz.func42 rfl
def MD:=A0 Tryz.func40 rfl
def KL:=A0 Tryz.func14 rfl
def Jv:=AN Tryz.type72
def Mz:=Cu Tryz.underlying72
def Jq:=A0 Tryz.func26 rfl
def Ok:=A0 Tryz.func27 rfl
def On:=A0 Tryz.func20 rfl
def KJ:=Db Tryz.type128
def Mw:=Cu Tryz.underlying177
def Lx:=AN Tryz.type177
theorem mixed:Tryz.prog.follows .mixedOrders=true:=rfl
theorem bK:B4 Tryz.prog 42 (rP rI (rP rI rI)) true 2:=B4.three underlying42 (B4.int underlying3 Ax) (B4.int underlying3 Ax) (B4.int underlying3 Ax) (by decide+kernel) (by decide) (by decide) (by decide) V V V A9
theorem aS:B4 Tryz.prog 122 (rP rI rI) true 2:=B4.two underlying122 (B4.int underlying3 Ax) (B4.int underlying3 Ax) (by decide+kernel) (by decide) (by decide) V V FQ
theorem SY:B4 Tryz.prog 82 (rA 5 rI) true 2:=B4.arr (kk:=5) (B4.int underlying3 Ax) underlying82 H2
theorem an:B4 Tryz.prog 243 (rA 10 rI) true 2:=B4.arr (kk:=10) (B4.int underlying3 Ax) underlying243 (AN type243)
theorem TM:B4 Tryz.prog 245 (rA 5 (rA 10 rI)) true 3:=B4.arr (kk:=5) an underlying245 MG
theorem aQ:B4 Tryz.prog 267 (rP (rN .u8) (rA 5 (rA 10 rI))) true 4:=B4.two underlying267 ((B4.nat underlying5 (AN type5)).up (by decide)) TM (by decide+kernel) (by decide) (by decide) V V (AN type267)
theorem IK:Gx Tryz.prog 3 rI false:=(B4.int underlying3 Ax).key (by decide)
theorem Ps:Gx Tryz.prog 122 (rP rI rI) true:=aS.key (by decide)
theorem TN:Gx Tryz.prog 245 (rA 5 (rA 10 rI)) true:=TM.key (by decide)
theorem Tf:Gx Tryz.prog 267 (rP (rN .u8) (rA 5 (rA 10 rI))) true:=aQ.key (by decide)
end Pal
namespace Pal
open Go Go.Conc Go.Proofs Go.Extern
abbrev EY(t:Nat):Value:= .pointer (some ⟨1,t,none⟩)
abbrev Jj(t:Nat):Value:= .iface 222 (.agg #[EY t])
variable {s:St}{X:Halt->St->Prop}
theorem U1{Q:Value->St->Prop}(t:Addr):lp Tryz.prog (ReflectliteValue.unpack (.iface 130 (.pointer (some t)))) s Q X=(s.q=false/\∀r,s.E r=none->s.H r=none->Q (.agg #[EY 130,.pointer (some ⟨r,0,none⟩),.int .u64 150]) (s.upd r (.cells #[.pointer (some t)] 130 (0,0)))):=by kernel_rfl
theorem U6{Q:Value->St->Prop}(c:Int):lp Tryz.prog (ReflectliteValue.unpack (.iface 128 (.agg #[iV c]))) s Q X=(s.q=false/\∀r,s.E r=none->s.H r=none->Q (.agg #[EY 128,.pointer (some ⟨r,0,none⟩),.int .u64 153]) (s.upd r (.cells #[iV c] 128 (0,0)))):=by kernel_rfl
theorem XA{Q:Value->St->Prop}(a:Addr):lp Tryz.prog (ReflectliteValue.methodAny (ReflectliteValue.valueError "reflectlite.Value.Type" 0) (λt _ _ _=>ReflectliteType.toType t) #[.agg #[EY 130,.pointer (some a),.int .u64 150]]) s Q X=Q (Jj 130) s:=by kernel_rfl
theorem Vd{Q:Value->St->Prop}(v:Value):lp Tryz.prog (ReflectliteType.typeOf #[.iface 128 v]) s Q X=Q (Jj 128) s:=by kernel_rfl
theorem Ty{Q:FuncId×Value->St->Prop}(h:Value):lp Tryz.prog (Go.method (Tryz.prog.types.size+Made.depth) 222 (.agg #[h]) "Kind") s Q X=Q (216,h) s:=by kernel_rfl
theorem Zh{Q:FuncId×Value->St->Prop}(h:Value):lp Tryz.prog (Go.method (Tryz.prog.types.size+Made.depth) 222 (.agg #[h]) "Elem") s Q X=Q (227,.agg #[h]) s:=by kernel_rfl
theorem aI{Q:FuncId×Value->St->Prop}(h:Value):lp Tryz.prog (Go.method (Tryz.prog.types.size+Made.depth) 222 (.agg #[h]) "Implements") s Q X=Q (228,.agg #[h]) s:=by kernel_rfl
theorem b8{Q:FuncId×Value->St->Prop}(h:Value):lp Tryz.prog (Go.method (Tryz.prog.types.size+Made.depth) 222 (.agg #[h]) "AssignableTo") s Q X=Q (225,.agg #[h]) s:=by kernel_rfl
theorem W7{Q:Value->St->Prop}:lp Tryz.prog ((ReflectliteType.abiMethod λt=>(λa:Nat=>Value.int IntKind.u8 (a:Int))<$>Rtype.kind t) #[EY 130]) s Q X=Q (.int .u8 22) s:=by kernel_rfl
theorem Xo{Q:Value->St->Prop}:lp Tryz.prog ((ReflectliteType.abiMethod λt=>(λa:Nat=>Value.int IntKind.u8 (a:Int))<$>Rtype.kind t) #[EY 128]) s Q X=Q (.int .u8 25) s:=by kernel_rfl
theorem Xx{Q:Value->St->Prop}:lp Tryz.prog (ReflectliteType.method ReflectliteType.elem #[.agg #[EY 130]]) s Q X=Q (Jj 128) s:=by kernel_rfl
theorem WQ{Q:Value->St->Prop}:lp Tryz.prog (ReflectliteType.relation "Implements" ReflectliteType.implements_ #[.agg #[EY 128],Jj 88]) s Q X=Q (.bool true) s:=by kernel_rfl
theorem X9{Q:Value->St->Prop}:lp Tryz.prog (ReflectliteType.relation "AssignableTo" ReflectliteType.assignableTo #[.agg #[EY 128],Jj 128]) s Q X=Q (.bool true) s:=by kernel_rfl
theorem Re{Q:Option (TypeId×Addr×Nat)->St->Prop}(a:Addr):lp Tryz.prog (ReflectliteValue.parts (.agg #[EY 130,.pointer (some a),.int .u64 150])) s Q X=Q (some (130,a,150)) s:=by kernel_rfl
theorem V1{Q:Option (TypeId×Addr×Nat)->St->Prop}(a:Addr):lp Tryz.prog (ReflectliteValue.parts (.agg #[EY 128,.pointer (some a),.int .u64 153])) s Q X=Q (some (128,a,153)) s:=by kernel_rfl
theorem VA{Q:Option (TypeId×Addr×Nat)->St->Prop}(a:Addr):lp Tryz.prog (ReflectliteValue.parts (.agg #[EY 128,.pointer (some a),.int .u64 409])) s Q X=Q (some (128,a,409)) s:=by kernel_rfl
theorem YG{Q:Option TypeId->St->Prop}:lp Tryz.prog (Rtype.elem? 130) s Q X=Q (some 128) s:=by kernel_rfl
theorem Z6{Q:Value->St->Prop}(p:Addr):lp Tryz.prog (ReflectliteValue.mk 128 p ReflectliteValue.flagAddr) s Q X=Q (.agg #[EY 128,.pointer (some p),.int .u64 409]) s:=by kernel_rfl
theorem YV{Q:Bool->St->Prop}:lp Tryz.prog (Rtype.directlyAssignable 128 128) s Q X=Q true s:=by kernel_rfl
theorem Rj{Q:Value->St->Prop}(a:Addr):lp Tryz.prog (loadVar 130 a) s Q X=(Mode.plain= .plain/\∃v,s.cell? a=some v/\Q v s):=by kernel_rfl
theorem Xw{Q:Value->St->Prop}(a:Addr):lp Tryz.prog (loadVar 128 a) s Q X=(Mode.plain= .plain/\∃v,s.cell? (a.add 0)=some v/\Q (.agg #[v]) s):=by kernel_rfl
theorem S8:BD Tryz.prog 116 (λargs=>ReflectliteValue.unpack (args.getD 0 (.tuple #[]))):=⟨⟨_,Tryz.func116,by kernel_rfl,by kernel_rfl,by kernel_rfl,by kernel_rfl⟩⟩
theorem Za:BD Tryz.prog 117 (ReflectliteValue.methodAny (ReflectliteValue.valueError "reflectlite.Value.Type" 0) (λt _ _ _=>ReflectliteType.toType t)):=⟨⟨_,Tryz.func117,by kernel_rfl,by kernel_rfl,by kernel_rfl,by kernel_rfl⟩⟩
theorem ak:BD Tryz.prog 118 (ReflectliteValue.method (ReflectliteValue.valueError "reflectlite.Value.IsNil" 0) ReflectliteValue.isNil):=⟨⟨_,Tryz.func118,by kernel_rfl,by kernel_rfl,by kernel_rfl,by kernel_rfl⟩⟩
theorem ZV:BD Tryz.prog 157 ReflectliteType.typeOf:=⟨⟨_,Tryz.func157,by kernel_rfl,by kernel_rfl,by kernel_rfl,by kernel_rfl⟩⟩
theorem Y4:BD Tryz.prog 158 (ReflectliteValue.method (ReflectliteValue.valueError "reflectlite.Value.Elem" 0) ReflectliteValue.elem):=⟨⟨_,Tryz.func158,by kernel_rfl,by kernel_rfl,by kernel_rfl,by kernel_rfl⟩⟩
theorem ZJ:BD Tryz.prog 159 ReflectliteValue.set:=⟨⟨_,Tryz.func159,by kernel_rfl,by kernel_rfl,by kernel_rfl,by kernel_rfl⟩⟩
theorem SZ:BD Tryz.prog 216 (ReflectliteType.abiMethod λt=>(λa:Nat=>Value.int IntKind.u8 (a:Int))<$>Rtype.kind t):=⟨⟨_,Tryz.func216,by kernel_rfl,by kernel_rfl,by kernel_rfl,by kernel_rfl⟩⟩
theorem ZF:BD Tryz.prog 225 (ReflectliteType.relation "AssignableTo" ReflectliteType.assignableTo):=⟨⟨_,Tryz.func225,by kernel_rfl,by kernel_rfl,by kernel_rfl,by kernel_rfl⟩⟩
theorem Zz:BD Tryz.prog 227 (ReflectliteType.method ReflectliteType.elem):=⟨⟨_,Tryz.func227,by kernel_rfl,by kernel_rfl,by kernel_rfl,by kernel_rfl⟩⟩
theorem ZL:BD Tryz.prog 228 (ReflectliteType.relation "Implements" ReflectliteType.implements_):=⟨⟨_,Tryz.func228,by kernel_rfl,by kernel_rfl,by kernel_rfl,by kernel_rfl⟩⟩
end Pal
namespace Pal
open Go Go.Conc
variable {P:Program}{J:Judge P}{Q:Gs_}{n:Nat}{L:Env}{ds:Ld_}{k:Li_}{cs:Lf_}{s:St}{ops:Ao_}{rest:List Nat}{v:Value}
variable {d:Option Tmp}{ty:TypeId}{p:String}{af:Ae_}{g:On_}
section
variable {b:Frame}{i:Nat}
variable {x:Operand}
theorem QV{f:FuncId}{e:Av_->Sem Value}{args:Av_}{Q:Next->St->Prop}{X:Halt->St->Prop}(he:BD P f e)(h:lp P (e args) s (λv s'=>Q (.value v) s') X):lp P (callFunc f args) s Q X:=by
 obtain⟨fn,K,O,U,Y,Z⟩:=he.h;unfold callFunc;simp only [bind,Sem.bind,program,lp,K,O,U,Bool.false_eq_true,if_false,if_true,mark,Y,Z];refine⟨.inr ⟨f,V⟩,?_⟩;exact As _ _ (DG _ h (λv s' ac=>ac) (λ_ _ ag=>ag))
theorem Kq{f:FuncId}{e:Av_->Sem Value}{args:Array Operand}{ats:Array TypeId}{vs:Lv_}(he:BD P f e)(O:ops[i]? =some ⟨d,.call ⟨.value (.func f),args,ats⟩,ty,p,af,g⟩)(hw:AM L ops ⟨d,.call ⟨.value (.func f),args,ats⟩,ty,p,af,g⟩=some true)(U:BH b n ⟨d,.call ⟨.value (.func f),args,ats⟩,ty,p,af,g⟩=true)(Y:evs L args.toList=some vs)
  (h:lp P (e vs.toArray) s (λv s'=>JL J Q b n (Au L d v) ds (.inRegion ops rest::k) cs s') (λ_ _=>False)):JL J Q b n L ds (.inRegion ops (i::rest)::k) cs s:=by
 refine JL.op O hw U λρ K=>?_;have Z:args.map ρ=vs.toArray:=by
  rw [← FR K Y];apply Array.ext';simp
 have ac:ρ (.func f)= .func (.func f) #[] #[]:=K _ _ V;simp only [execOp,resolve,bind,Sem.bind,Deferred.ofValue,ac,pure,invoke];have ag: #[]++args.map ρ++ #[]=vs.toArray:=by rw [Z];simp
 rw [ag];exact QV he h
theorem L5{t:TypeId}{K O:Value}{name:String}{f:FuncId}{e:Av_->Sem Value}{args:Array Operand}{ats:Array TypeId}{vs:Lv_}(he:BD P f e)(hm:∀{s:St} {X:Halt->St->Prop} {Q:FuncId×Value->St->Prop},lp P (Go.method (P.types.size+Made.depth) t K name) s Q X=Q (f,O) s)
  (Y:ops[i]? =some ⟨d,.call ⟨.invoke x name,args,ats⟩,ty,p,af,g⟩) (hw:AM L ops ⟨d,.call ⟨.invoke x name,args,ats⟩,ty,p,af,g⟩=some true) (Z:BH b n ⟨d,.call ⟨.invoke x name,args,ats⟩,ty,p,af,g⟩=true) (ac:ev L x=some (.iface t K)) (ag:evs L args.toList=some vs)
  (h:lp P (e (O::vs).toArray) s (λv s'=>JL J Q b n (Au L d v) ds (.inRegion ops rest::k) cs s') (λ_ _=>False)):JL J Q b n L ds (.inRegion ops (i::rest)::k) cs s:=by
 refine JL.op Y hw Z λρ U=>?_;have al:args.map ρ=vs.toArray:=by
  rw [← FR U ag];apply Array.ext';simp
 have am:ρ x= .iface t K:=U _ _ ac;simp only [execOp,resolve,bind,Sem.bind,pure,invoke,am,al];have ap:(#[Value.iface t K]++vs.toArray)[0]? =some (.iface t K):=by simp
 have aq:(#[Value.iface t K]++vs.toArray).extract 1 (#[Value.iface t K]++vs.toArray).size=vs.toArray:=by
  apply Array.ext';simp
 simp only [ap,aq,callMethod,bind,Sem.bind,program,lp];refine As _ _ ?_;rw [hm];have e2: #[O]++vs.toArray=(O::vs).toArray:=by apply Array.ext';simp
 rw [e2];exact QV he h
end
open Go.Proofs Go.Proofs.Tryz
variable {E:LH}
variable {J:Judge Tryz.prog}
def f91(fu_:Nat)(p0:Int)(K:Int)(p2:Int):Option Bool:= Option.bind (if K<=p0 then(some (decide (p0<=p2))) else(some false)) λO=> some O
theorem Mb{p0:Int}{K:Int}{p2:Int}{fu_:Nat}{r:Bool}(O:f91 fu_ p0 K p2=some r):AL J 83 [iV p0,iV K,iV p2] E [] (λw E' B'=>w= .bool r/\B'= []):=by
 refine Bg func83 λQ a1 cs H U Z=>?_;unfold f91 at O;obtain⟨ac,ag,al⟩:=bs O;refine C 10 V (EB 8 1 [] [(14,.bool ac)] (λa2 am ap=>?_) (λY=>?_))
 ·refine C 2 V ?_;obtain rfl:=oi al;exact AS func83 V V (Z am V ⟨V,V⟩ ap)
 ·refine Il 10 ag (λaq aw=>?_) (λaq a0=>?_)
  ·refine C 4 V ?_;obtain rfl:=oi aw;exact Y AF U V
  ·refine C 4 V ?_;obtain rfl:=oi a0;exact Y AF U V
def f86(fu_:Nat)(p0:Int×Int×Int)(K:Int)(p2:Int):Option Int:= (Av (K - 1)).bind λO=> (f91 fu_ p0.1 0 O).bind λU=> Option.bind (if(!U)=true then(some true) else((Av (K - 1)).bind λY=> (f91 fu_ p0.2.1 0 Y).bind λZ=> some (!Z))) λac=> if ac=true then(some 3) else(if p0.1=p0.2.1 then(some 8) else((f91 fu_ p0.2.2 1 p2).bind λag=> if(!ag)=true then(some 1) else(some 0)))
theorem T3{p0:Int×Int×Int}{ag:Int}{p2:Int}{fu_:Nat}{r:Int}(al:f86 fu_ p0 ag p2=some r):AL J 84 [.agg #[iV p0.1,iV p0.2.1,iV p0.2.2],iV ag,iV p2] E [] (λw E' B'=>w=iV r/\B'= []):=by
 refine Bg func84 λQ cJ cs H a0 Y=>?_;unfold f86 at al;refine C 2 V (Dd a0 λr2 cK Z U a1=>?_);refine C 6 V (BK 0 U underlying42 Ax AR ?_);obtain⟨cM,a2,a3⟩:=bs al;refine C 1 V (Cd a2 V V V ?_);obtain⟨a4,a5,a6⟩:=bs a3;refine Cj (Mb a5) V V Lt a1 λcO K am=>Am (v:= .bool (!a4)) V (λρ h=>Yl.not (h _ _ V)) ?_;obtain⟨a7,a8,a9⟩:=bs a6;refine C 1 V (EB 14 1 [] [(2,iV p2),(3,Ak r2 0),(21,.bool a7)] (λcP O ac=>?_) (λap=>?_))
 ·refine C 2 V (Cn a9 (λbb be=>?_) (λbb bi=>?_))
  ·refine C 4 V ?_;obtain rfl:=oi be;exact AS func84 V V (Y ((Z.Ad K).Ad O) V ⟨V,V⟩ ac)
  ·refine C 2 V (BK 0 (U.Ah (K.Ad O)) underlying42 Ax AR ?_);refine BK 1 (U.Ah (K.Ad O)) underlying42 Ax AR ?_;refine C 3 V (AV bi (λbo bv=>?_) (λbo bw=>?_))
   ·refine C 4 V ?_;obtain rfl:=oi bv;exact AS func84 V V (Y ((Z.Ad K).Ad O) V ⟨V,V⟩ ac)
   ·refine C 2 V (BK 2 (U.Ah (K.Ad O)) underlying42 Ax AR ?_);obtain⟨b0,b1,b2⟩:=bs bw;refine C 1 V (Cj (Mb b1) V V Lt ac λcQ aq aw=>?_);refine Am (v:= .bool (!b0)) V (λρ h=>Yl.not (h _ _ V)) (C 2 V ?_);refine Cn b2 (λb3 b4=>?_) (λb3 b5=>?_)
    ·refine C 4 V ?_;obtain rfl:=oi b4;exact AS func84 V V (Y (((Z.Ad K).Ad O).Ad aq) V ⟨V,V⟩ aw)
    ·refine C 6 V ?_;obtain rfl:=oi b5;exact AS func84 V V (Y (((Z.Ad K).Ad O).Ad aq) V ⟨V,V⟩ aw)
 ·refine DX 14 a8 (λb6 ca=>?_) (λb6 cc=>?_)
  ·refine C 7 V ?_;obtain rfl:=oi ca;exact ap AF am V
  ·refine BK 1 (U.Ah K) underlying42 Ax AR ?_;obtain⟨cR,ce,ci⟩:=bs cc;refine C 1 V (Cd ce V V V ?_);obtain⟨co,cp,ct⟩:=bs ci;refine Cj (Mb cp) V V Lt am λcT cw cy=>Am (v:= .bool (!co)) V (λρ h=>Yl.not (h _ _ V)) (C 1 V ?_);obtain rfl:=oi ct;exact ap cw cy V
def Nu(fu_:Nat)(O:List Int)(K:Int):Option (Bm Int ((Int)⊕(Unit))):= if K<(O.length:Int) then((ix O K).bind λU=> (f91 fu_ U 1 9).bind λY=> if(!Y)=true then(some (.done (Sum.inl 1))) else((Av (K+1)).bind λZ=> some (.more Z))) else(some (.done (Sum.inr ())))
def Nz(fu_:Nat)(p0:A5)(K:Int):Option (Bm Int ((Int)⊕(Unit))):= if K<(p0.1.length:Int) then((ix p0.1 K).bind λO=> if 3<(O.length:Int) then(some (.done (Sum.inl 6))) else(Option.bind (iter (Nu fu_ O) fu_ 0) λU=> Sum.elim (λr=>some (.done (Sum.inl r))) (λZ=> (Av (K+1)).bind λY=> some (.more Y)) U)) else(some (.done (Sum.inr ())))
def Tr(fu_:Nat)(p0:A5)(K:Int):Option (Bm Int ((Int)⊕(Unit))):= if K<(p0.2.length:Int) then((ix p0.2 K).bind λU=> (f86 fu_ U (p0.1.length:Int) 9).bind λO=> if O≠0 then(some (.done (Sum.inl O))) else((Av (K+1)).bind λY=> some (.more Y))) else(some (.done (Sum.inr ())))
def f47(fu_:Nat)(p0:A5):Option Int:= if(p0.1.length:Int)<2 then(some 7) else(if 5<(p0.1.length:Int) then(some 6) else(Option.bind (iter (Nz fu_ p0) fu_ 0) λK=> Sum.elim (λr=>some r) (λU=> if 8<(p0.2.length:Int) then(some 6) else(Option.bind (iter (Tr fu_ p0) fu_ 0) λO=> Sum.elim (λr=>some r) (λY=> some 0) O)) K))
theorem bW{a1:Ao}{c2:Nat}{a0:Ao}{a2:Nat}{p0:A5}(cP:Al (rL rI) E a1 c2 p0.1)(cQ:Al Ay E a0 a2 p0.2){fu_:Nat}{r:Int}(be:f47 fu_ p0=some r):AL J 41 [.agg #[sV a1 p0.1 c2,sV a0 p0.2 a2]] E [] (λw E' B'=>w=iV r/\B'= []):=by
 refine Bg func41 λQ ex cs H cR O=>?_;unfold f47 at be;refine C 2 V (Dd cR λY cT K Z a3=>?_);refine C 5 V (BK 0 Z underlying28 Fl FB ?_);refine JL.ln underlying25 V V V (C 9 V ?_);refine AV be (λcV cW=>?_) (λcV cX=>?_)
 ·refine C 4 V ?_;obtain rfl:=oi cW;exact AS func41 V V (O K V ⟨V,V⟩ a3)
 ·refine C 6 V (AV cX (λcY cZ=>?_) (λcY c0=>?_))
  ·refine C 4 V ?_;obtain rfl:=oi cZ;exact AS func41 V V (O K V ⟨V,V⟩ a3)
  ·refine C 5 V (BK 0 Z underlying28 Fl FB ?_);refine JL.ln underlying25 V V V ?_;obtain⟨bi,c1,a4⟩:=bs c0;refine C 2 V (Br (λL s=>∃(bo:Unit) (a5:LH),bi=Sum.inr bo/\Jm cT H a5 [] [(1,Ak Y 0)] L s) ?_ ?_)
   ·rintro _ _ ⟨bo,a5,rfl,rfl,rfl,U,bv⟩;have c3:=elim_inr a4;refine C 3 V (BK 1 (Z.Ah U) underlying28 Gp HZ ?_);refine JL.ln underlying26 V V V (C 2 V ?_);refine AV c3 (λc4 c5=>?_) (λc4 c6=>?_)
    ·refine C 4 V ?_;obtain rfl:=oi c5;exact AS func41 V V (O (K.Ad U) V ⟨V,V⟩ bv)
    ·refine C 4 V (BK 1 (Z.Ah U) underlying28 Gp HZ ?_);refine JL.ln underlying26 V V V ?_;obtain⟨bw,c7,b0⟩:=bs c6;refine C 2 V (Br (λL s=>∃(b1:Unit) (b2:LH),bw=Sum.inr b1/\Jm a5 H b2 [] [] L s) ?_ ?_)
     ·rintro _ _ ⟨b1,b2,rfl,rfl,rfl,c8,c9⟩;have da:=elim_inr b0;refine C 4 V ?_;obtain rfl:=oi da;exact AS func41 V V (O ((K.Ad U).Ad c8) V ⟨V,V⟩ c9)
     ·intro db;refine JL.block (DZ c7 (λa6=> []) (λa6=> [(1,Ak Y 0),(46,sV a0 p0.2 a2),(47,iV (p0.2.length:Int)),(48,iV a6)]) AF bv ?_);rintro a6 dc ac b3 b4 ⟨ey,ap⟩ dd;have b5:=ap;unfold Tr at b5;refine C 5 V (AV b5 (λde df=>?_) (λde dg=>?_))
      ·obtain⟨ez,dh,di⟩:=bs df;refine C 5 V (JS.ix (cQ.Ah ((K.Ad U).Ad ac)) dh underlying26 A9 ?_);rintro eA eB _ ⟨_,_,rfl,rfl,⟨_,_,rfl,rfl,rfl⟩⟩ dj;refine BX dj Da A9 V V (BM b3 Bx λeC dk=>?_);refine BF 0 dk A9 λdn=>?_;refine CF 0 dn V λeE a7 dp dq=>C 3 V (BX dp Da A9 V V ?_);refine BK 0 (Z.Ah ((U.Ad ac).Ad a7)) underlying28 Fl FB ?_;refine JL.ln underlying25 V V V ?_;obtain⟨eF,dr,dt⟩:=bs di;refine Cj (T3 dr) V V (A0 func84 V) dq λeG b6 ca=>C 7 V (AV dt (λdu dv=>?_) (λdu dw=>?_))
       ·refine C 5 V ?_;obtain rfl:=oi dv;obtain rfl:=b4 _ ap;have dx:=elim_inl b0;obtain rfl:=oi dx;exact AS func41 V V (O ((((K.Ad U).Ad ac).Ad a7).Ad b6) V ⟨V,V⟩ ca)
       ·obtain⟨dy,dz,dA⟩:=bs dw;refine C 3 V (Bo dz V V V ?_);refine C 2 V ?_;obtain rfl:=oi dA;exact dd dy ((ac.Ad a7).Ad b6) ca V ap
      ·refine JL.exit V ?_;obtain rfl:=oi dg;have dB:bw=(Sum.inr ()):=(b4 _ ap).symm;exact AA (db _ _ ⟨(),dc,dB,V,V,ac,b3⟩) V
   ·intro dC;refine JL.block (DZ c1 (λag=> []) (λag=> [(1,Ak Y 0),(21,sV a1 p0.1 c2),(22,iV (p0.1.length:Int)),(23,iV ag)]) AF a3 ?_);rintro ag cc al a8 a9 ⟨eH,am⟩ dD;have ce:=am;unfold Nz at ce;refine C 5 V (AV ce (λdE dF=>?_) (λdE dG=>?_))
    ·obtain⟨ci,dH,dI⟩:=bs dF;refine C 5 V (JS.ix (cP.Ah (K.Ad al)) dH underlying25 GG ?_);rintro eI eJ _ ⟨dJ,dK,rfl,dL⟩ dM;refine CY 0 dM J8 V V V (C 6 V ?_);refine JL.ln underlying22 V V V (C 2 V ?_);refine AV dI (λdN dO=>?_) (λdN dP=>?_)
     ·refine C 4 V ?_;obtain rfl:=oi dO;obtain rfl:=a9 _ am;have dQ:=elim_inl a4;obtain rfl:=oi dQ;exact AS func41 V V (O (K.Ad al) V ⟨V,V⟩ a8)
     ·refine C 4 V (JL.ln underlying22 V V V ?_);obtain⟨co,dR,cp⟩:=bs dP;refine C 2 V (Br (λL s=>∃(ct:Unit) (cw:LH),co=Sum.inr ct/\Jm cc H cw [] [(1,Ak Y 0),(21,sV a1 p0.1 c2),(22,iV (p0.1.length:Int)),(23,iV ag)] L s) ?_ ?_)
      ·rintro _ _ ⟨ct,cw,rfl,rfl,rfl,dS,dT⟩;have dU:=elim_inr cp;obtain⟨dV,dW,dX⟩:=bs dU;refine C 2 V (Bo dW V V V ?_);refine C 2 V ?_;obtain rfl:=oi dX;exact dD dV (al.Ad dS) dT V am
      ·intro dY;refine JL.block (DZ dR (λbb=> []) (λbb=> [(1,Ak Y 0),(21,sV a1 p0.1 c2),(22,iV (p0.1.length:Int)),(23,iV ag),(30,sV dJ ci dK),(31,iV (ci.length:Int)),(32,iV bb)]) AF a8 ?_);rintro bb dZ aq cy cJ ⟨eK,aw⟩ ea;have cK:=aw;unfold Nu at cK;refine C 5 V (AV cK (λeb ec=>?_) (λeb ed=>?_))
       ·obtain⟨eL,ee,ef⟩:=bs ec;refine C 5 V (JS.ix (dL.Ah aq) ee underlying22 Ax ?_);rintro eM eN _ rfl eg;refine CY 0 eg AR V V V ?_;obtain⟨eh,ei,ej⟩:=bs ef;refine C 5 V (Cj (Mb ei) V V Lt cy λeO cM cO=>?_);refine Am (v:= .bool (!eh)) V (λρ h=>Yl.not (h _ _ V)) (JL.done ?_);refine Cn ej (λek el=>?_) (λek em=>?_)
        ·refine C 4 V ?_;obtain rfl:=oi el;obtain rfl:=cJ _ aw;have en:=elim_inl cp;obtain rfl:=oi en;obtain rfl:=a9 _ am;have eo:=elim_inl a4;obtain rfl:=oi eo;exact AS func41 V V (O (((K.Ad al).Ad aq).Ad cM) V ⟨V,V⟩ cO)
        ·obtain⟨ep,er,et⟩:=bs em;refine C 3 V (Bo er V V V ?_);refine C 2 V ?_;obtain rfl:=oi et;exact ea ep (aq.Ad cM) cO V aw
       ·refine JL.exit V ?_;obtain rfl:=oi ed;have eu:co=(Sum.inr ()):=(cJ _ aw).symm;exact AA (dY _ _ ⟨(),dZ,eu,V,V,aq,cy⟩) V
    ·refine JL.exit V ?_;obtain rfl:=oi dG;have ew:bi=(Sum.inr ()):=(a9 _ am).symm;exact AA (dC _ _ ⟨(),cc,ew,V,V,al,a8⟩) V
def Nw(fu_:Nat)(p0:A5)(O:(List Int)×Int):Option (Bm ((List Int)×Int) ((List Int))):= if O.2<(p0.2.length:Int) then((ix p0.2 O.2).bind λK=> (ix O.1 K.2.1).bind λY=> (Av (Y+K.2.2)).bind λU=> (ix O.1 K.2.1).bind λal=> (ix (O.1.set (Int.toNat K.2.1) U) K.1).bind λZ=> (Av (Z - K.2.2)).bind λac=> (ix (O.1.set (Int.toNat K.2.1) U) K.1).bind λam=> (Av (O.2+1)).bind λag=> some (.more (((O.1.set (Int.toNat K.2.1) U).set (Int.toNat K.1) ac),ag))) else(some (.done O.1))
def f84(fu_:Nat)(p0:A5):Option ((List Int)):= Option.bind (iter (Nw fu_ p0) fu_ ((List.replicate 5 (0:Int)),0)) λK=> some K
theorem NM{a1:Ao}{c2:Nat}{be:Ao}{bi:Nat}{p0:A5}(dw:Al (rL rI) E a1 c2 p0.1)(cy:Al Ay E be bi p0.2){fu_:Nat}{r:(List Int)}(b3:f84 fu_ p0=some r):AL J 55 [.agg #[sV a1 p0.1 c2,sV be p0.2 bi]] E [] (λw E' B'=>∃(b4:Lv_),w= .agg b4.toArray/\B'= []/\(rA 5 rI).r E' b4 r):=by
 refine Bg func55 λQ dx cs H cJ cK=>?_;unfold f84 at b3;refine C 2 V (Dd cJ λdy a5 b5 cM cO=>?_);refine BM cO Jt λa6 cP=>?_;refine C 3 V (BM cP Jt λU cQ=>?_);refine C 4 V (JL.fd underlying78 CQ V V V ?_);refine BK 1 cM underlying28 Gp HZ ?_;refine JL.ln underlying26 V V V ?_;obtain⟨cR,cT,cV⟩:=bs b3;refine C 2 V (Br (λL s=>∃(a0:LH) (Y:Lv_),Jn a5 H a0 [bX a6 (([]:Lv_)++(List.replicate 5 (iV 0):Lv_)).toArray 82,bX U (([]:Lv_)++Y).toArray 82] [(2,Ak a6 0),(3,Ak U 0)] L s ((rA 5 rI).r a0 Y cR)) ?_ ?_)
 ·rintro _ _ ⟨a0,Y,rfl,rfl,cW,b6,ac⟩;refine C 2 V (Am (v:= .agg Y.toArray) V (λρ h=>G7 (kk:=5) (pp:=rI) ac Hu H2 (h _ _ V) (Gt (l:= []) 1 b6 V)) ?_);refine GH (v:= .agg Y.toArray) (l:= []) (ws:=(List.replicate 5 (iV 0):Lv_)) (us:=Y) (o:=0) 0 V V V b6 V V V (by rw [BQ (kk:=5) (pp:=rI) ac];exact AN type82) ((rA 5 rI).one ac) V (by rw [BQ (kk:=5) (pp:=rI) ac,BQ (kk:=5) (pp:=rI) (FW (E:=a0) (pp:=rI) rfl)];omega) λca=>?_;rw [Iz (by rw [BQ (kk:=5) (pp:=rI) ac,BQ (kk:=5) (pp:=rI) (FW (E:=a0) (pp:=rI) rfl)])] at ca ⊢;refine JL.done (JS.drop 1 ca V λcc=>?_);obtain rfl:=oi cV;refine JL.ret (v:= .agg Y.toArray) V V (By.list func55 V (vs:= [.agg Y.toArray]) ⟨⟨_,V,Ld.many (vs:=Y) Hu (by rw [BQ (kk:=5) (pp:=rI) ac];exact AN type82) (Gt (l:= []) 0 cc V)⟩,trivial⟩) (Em 0 cc V λcX=>?_);exact cK (b5.Ad cW) V ⟨Y,V,V,ac⟩ cX
 ·intro cY;refine JL.block (Cl cT (λL s al=>∃(a7:LH) (am:Lv_),Jn a5 H a7 [bX a6 (([]:Lv_)++(List.replicate 5 (iV 0):Lv_)).toArray 82,bX U (([]:Lv_)++am).toArray 82] [(2,Ak a6 0),(3,Ak U 0),(8,sV be p0.2 bi),(9,iV (p0.2.length:Int)),(10,iV al.2)] L s ((rA 5 rI).r a7 am al.1)) ⟨a5,(List.replicate 5 (iV 0):Lv_),V,V,AF,cQ,(FW (E:=a5) (pp:=rI) V)⟩ ?_);rintro _ _ al ⟨a7,am,rfl,rfl,bo,ce,ap⟩ cZ ⟨dz,bv⟩ c0;have ci:=bv;unfold Nw at ci;refine C 5 V (AV ci (λc1 c3=>?_) (λc1 c4=>?_))
  ·obtain⟨K,c5,c6⟩:=bs c3;refine C 5 V (JS.ix (cy.Ah (b5.Ad bo)) c5 underlying26 A9 ?_);rintro dA dB _ ⟨_,_,rfl,rfl,⟨_,_,rfl,rfl,rfl⟩⟩ c7;refine BX c7 Da A9 V V (BM ce Bx λdC c8=>?_);refine BF 2 c8 A9 λc9=>?_;refine CF 2 c9 V λbw aq a8 a2=>C 2 V (Ff 6 [U] ⟨⟨1,_,V⟩,trivial⟩ a2 λO=>?_);refine JG.fd 0 O underlying42 Ax V V V V (JG.lp 1 O 1 a8 a2 ⟨⟨1,_,V⟩,trivial⟩ AR ?_);obtain⟨da,co,db⟩:=bs c6;obtain⟨_,rfl,_,_,dc⟩:=HC (kk:=5) (pp:=rI) (Rp.Ah _ aq ap) co;refine AP (v:= .pointer (some ⟨U,0+Int.toNat (K.2.1)*1,none⟩)) 2 O V V (λρ h s' a3=>I2 (kk:=5) (pp:=rI) (Rp.Ah _ aq ap) co underlying82 Ax (h _ _ V) (h _ _ V)) (AP (v:=iV da) 3 O V V (λρ h s' a3=>Yl.load AR (h _ _ V) (MS (l:= []) 1 a2 V (by simp [Az]) a3 (dc 0 _ V))) ?_);refine JG.fd 4 O underlying42 Ax V V V V (JG.lp 5 O 2 a8 a2 ⟨⟨1,_,V⟩,trivial⟩ AR ?_);refine Dc [6,7,8] ?_;obtain⟨Z,dd,de⟩:=bs db;refine Bo dd V V V ?_;obtain⟨dD,b0,df⟩:=bs de;obtain⟨_,rfl,_,_,dE⟩:=HC (kk:=5) (pp:=rI) (Rp.Ah _ aq ap) b0;refine Am (v:= .pointer (some ⟨U,0+Int.toNat (K.2.1)*1,none⟩)) V (λρ h=>I2 (kk:=5) (pp:=rI) (Rp.Ah _ aq ap) b0 underlying82 Ax (h _ _ V) (h _ _ V)) ?_;have a9:=NA (us:= [iV Z]) (y:=Z) (Rp.Ah _ aq ap) b0 V;refine GH (v:=iV Z) (l:= []) (ws:=am) (us:= [iV Z]) (o:=Int.toNat (K.2.1)*1) 1 V V V a2 V V V Ax (by simp [Value.cells,CJ]) V a9.2 λaw=>?_;replace a9:=a9.1;generalize dg:Ip am (Int.toNat (K.2.1)*1) [iV Z]=b1 at aw ⊢;have a4:(rA 5 rI).r bw b1 (al.1.set (Int.toNat K.2.1) Z):=by rw [← dg];exact a9
   refine JL.done (Ff 6 [U] ⟨⟨1,_,V⟩,trivial⟩ aw λO=>?_);refine JG.fd 0 O underlying42 Ax V V V V (JG.lp 1 O 0 a8 aw ⟨⟨1,_,V⟩,trivial⟩ AR ?_);obtain⟨dh,cp,di⟩:=bs df;obtain⟨_,rfl,_,_,dj⟩:=HC (kk:=5) (pp:=rI) a4 cp;refine AP (v:= .pointer (some ⟨U,0+Int.toNat (K.1)*1,none⟩)) 2 O V V (λρ h s' a3=>I2 (kk:=5) (pp:=rI) a4 cp underlying82 Ax (h _ _ V) (h _ _ V)) (AP (v:=iV dh) 3 O V V (λρ h s' a3=>Yl.load AR (h _ _ V) (MS (l:= []) 1 aw V (by simp [Az]) a3 (dj 0 _ V))) ?_);refine JG.fd 4 O underlying42 Ax V V V V (JG.lp 5 O 2 a8 aw ⟨⟨1,_,V⟩,trivial⟩ AR ?_);refine Dc [6,7,8] ?_;obtain⟨ag,dk,dn⟩:=bs di;refine Cd dk V V V ?_;obtain⟨dF,b2,dp⟩:=bs dn;obtain⟨_,rfl,_,_,dG⟩:=HC (kk:=5) (pp:=rI) a4 b2;refine Am (v:= .pointer (some ⟨U,0+Int.toNat (K.1)*1,none⟩)) V (λρ h=>I2 (kk:=5) (pp:=rI) a4 b2 underlying82 Ax (h _ _ V) (h _ _ V)) ?_;have bb:=NA (us:= [iV ag]) (y:=ag) a4 b2 V;refine GH (v:=iV ag) (l:= []) (ws:=b1) (us:= [iV ag]) (o:=Int.toNat (K.1)*1) 1 V V V aw V V V Ax (by simp [Value.cells,CJ]) V bb.2 λct=>?_;replace bb:=bb.1;generalize dq:Ip b1 (Int.toNat (K.1)*1) [iV ag]=cw at ct ⊢;have dr:(rA 5 rI).r bw cw ((al.1.set (Int.toNat K.2.1) Z).set (Int.toNat K.1) ag):=by rw [← dq];exact bb
   obtain⟨dt,du,dv⟩:=bs dp;refine C 3 V (Bo du V V V ?_);refine C 2 V ?_;obtain rfl:=oi dv;exact AA (c0 _ _ (((al.1.set (Int.toNat K.2.1) Z).set (Int.toNat K.1) ag),dt) ⟨bw,cw,V,V,(bo.Ad aq),ct,dr⟩ bv) V
  ·refine JL.exit V ?_;obtain rfl:=oi c4;obtain rfl:=cZ _ bv;exact AA (cY _ _ ⟨a7,am,V,V,bo,ce,ap⟩) V
def f204(fu_:Nat)(p0:List Int)(K:Int×Int×Int):Option ((List Int)):= (ix p0 K.1).bind λU=> (Av (U+K.2.2)).bind λO=> (ix p0 K.1).bind λac=> (ix (p0.set (Int.toNat K.1) O) K.2.1).bind λY=> (Av (Y - K.2.2)).bind λZ=> (ix (p0.set (Int.toNat K.1) O) K.2.1).bind λag=> some ((p0.set (Int.toNat K.1) O).set (Int.toNat K.2.1) Z)
theorem HH{w1:Lv_}{p0:List Int}{K:Int×Int×Int}(am:(rA 5 rI).r E w1 p0){fu_:Nat}{r:(List Int)}(a8:f204 fu_ p0 K=some r):AL J 92 [.agg w1.toArray,.agg #[iV K.1,iV K.2.1,iV K.2.2]] E [] (λw E' B'=>∃(a9:Lv_),w= .agg a9.toArray/\B'= []/\(rA 5 rI).r E' a9 r):=by
 refine Bg func92 λQ cK cs H bv bw=>?_;unfold f204 at a8;refine C 2 V (JS.box (v:= .agg w1.toArray) V V V bv V λr3 b0=>?_);refine Dd b0 λcM a0 ac a1 b1=>?_;refine BM b1 Jt λcO ap=>?_;refine C 2 V (Ff 6 [r3] ⟨⟨1,_,V⟩,trivial⟩ ap λO=>?_);refine JG.fd 0 O underlying42 Ax V V V V (JG.lp 1 O 0 a1 ap ⟨⟨1,_,V⟩,trivial⟩ AR ?_);obtain⟨b2,bb,b3⟩:=bs a8;obtain⟨_,rfl,_,_,b4⟩:=HC (kk:=5) (pp:=rI) (Rp.Ah _ ac am) bb;refine AP (v:= .pointer (some ⟨r3,0+Int.toNat (K.1)*1,none⟩)) 2 O V V (λρ h s' aq=>I2 (kk:=5) (pp:=rI) (Rp.Ah _ ac am) bb underlying82 Ax (h _ _ V) (h _ _ V)) (AP (v:=iV b2) 3 O V V (λρ h s' aq=>Yl.load AR (h _ _ V) (MS (l:= []) 1 ap V (by simp [Az]) aq (b4 0 _ V))) ?_);refine JG.fd 4 O underlying42 Ax V V V V (JG.lp 5 O 2 a1 ap ⟨⟨1,_,V⟩,trivial⟩ AR ?_);refine Dc [6,7,8] ?_;obtain⟨Y,b5,b6⟩:=bs b3;refine Bo b5 V V V ?_;obtain⟨cP,a4,ca⟩:=bs b6;obtain⟨_,rfl,_,_,cQ⟩:=HC (kk:=5) (pp:=rI) (Rp.Ah _ ac am) a4;refine Am (v:= .pointer (some ⟨r3,0+Int.toNat (K.1)*1,none⟩)) V (λρ h=>I2 (kk:=5) (pp:=rI) (Rp.Ah _ ac am) a4 underlying82 Ax (h _ _ V) (h _ _ V)) ?_;have a2:=NA (us:= [iV Y]) (y:=Y) (Rp.Ah _ ac am) a4 V;refine GH (v:=iV Y) (l:= []) (ws:=w1) (us:= [iV Y]) (o:=Int.toNat (K.1)*1) 1 V V V ap V V V Ax (by simp [Value.cells,CJ]) V a2.2 λag=>?_;replace a2:=a2.1;generalize cc:Ip w1 (Int.toNat (K.1)*1) [iV Y]=a5 at ag ⊢;have aw:(rA 5 rI).r a0 a5 (p0.set (Int.toNat K.1) Y):=by rw [← cc];exact a2
 refine C 2 V (Ff 6 [r3] ⟨⟨1,_,V⟩,trivial⟩ ag λO=>?_);refine JG.fd 0 O underlying42 Ax V V V V (JG.lp 1 O 1 a1 ag ⟨⟨1,_,V⟩,trivial⟩ AR ?_);obtain⟨ce,be,ci⟩:=bs ca;obtain⟨_,rfl,_,_,co⟩:=HC (kk:=5) (pp:=rI) aw be;refine AP (v:= .pointer (some ⟨r3,0+Int.toNat (K.2.1)*1,none⟩)) 2 O V V (λρ h s' aq=>I2 (kk:=5) (pp:=rI) aw be underlying82 Ax (h _ _ V) (h _ _ V)) (AP (v:=iV ce) 3 O V V (λρ h s' aq=>Yl.load AR (h _ _ V) (MS (l:= []) 1 ag V (by simp [Az]) aq (co 0 _ V))) ?_);refine JG.fd 4 O underlying42 Ax V V V V (JG.lp 5 O 2 a1 ag ⟨⟨1,_,V⟩,trivial⟩ AR ?_);refine Dc [6,7,8] ?_;obtain⟨al,cp,ct⟩:=bs ci;refine Cd cp V V V ?_;obtain⟨cR,a6,cw⟩:=bs ct;obtain⟨_,rfl,_,_,cT⟩:=HC (kk:=5) (pp:=rI) aw a6;refine Am (v:= .pointer (some ⟨r3,0+Int.toNat (K.2.1)*1,none⟩)) V (λρ h=>I2 (kk:=5) (pp:=rI) aw a6 underlying82 Ax (h _ _ V) (h _ _ V)) ?_;have a3:=NA (us:= [iV al]) (y:=al) aw a6 V;refine GH (v:=iV al) (l:= []) (ws:=a5) (us:= [iV al]) (o:=Int.toNat (K.2.1)*1) 1 V V V ag V V V Ax (by simp [Value.cells,CJ]) V a3.2 λa7=>?_;replace a3:=a3.1;generalize cy:Ip a5 (Int.toNat (K.2.1)*1) [iV al]=U at a7 ⊢;have Z:(rA 5 rI).r a0 U ((p0.set (Int.toNat K.1) Y).set (Int.toNat K.2.1) al):=by rw [← cy];exact a3
 refine C 3 V (Am (v:= .agg U.toArray) V (λρ h=>G7 (kk:=5) (pp:=rI) Z Hu H2 (h _ _ V) (Gt (l:= []) 1 a7 V)) ?_);refine GH (v:= .agg U.toArray) (l:= []) (ws:=(List.replicate 5 (iV 0):Lv_)) (us:=U) (o:=0) 3 V V V a7 V V V (by rw [BQ (kk:=5) (pp:=rI) Z];exact AN type82) ((rA 5 rI).one Z) V (by rw [BQ (kk:=5) (pp:=rI) Z,BQ (kk:=5) (pp:=rI) (FW (E:=a0) (pp:=rI) rfl)];omega) λbi=>?_;rw [Iz (by rw [BQ (kk:=5) (pp:=rI) Z,BQ (kk:=5) (pp:=rI) (FW (E:=a0) (pp:=rI) rfl)])] at bi ⊢;refine JL.done (JS.drop 1 bi V λbo=>?_);obtain rfl:=oi cw;refine JL.ret (v:= .agg U.toArray) V V (By.list func92 V (vs:= [.agg U.toArray]) ⟨⟨_,V,Ld.many (vs:=U) Hu (by rw [BQ (kk:=5) (pp:=rI) Z];exact AN type82) (Gt (l:= []) 3 bo V)⟩,trivial⟩) (Em 3 bo V λcJ=>?_);exact bw ac V ⟨U,V,V,Z⟩ cJ
def f106(fu_:Nat)(p0:Int)(K:Int):Option Nat:= (Av (max p0 K - 1)).bind λO=> (ix ([1,2,4,8]:List Nat) O).bind λU=> (Av (4*(min p0 K))).bind λY=> (PG U Y).bind λZ=> some Z
theorem Tk{p0:Int}{K:Int}{fu_:Nat}{r:Nat}(O:f106 fu_ p0 K=some r):AL J 88 [iV p0,iV K] E [] (λw E' B'=>w= .int .u32 ((r:Nat):Int)/\B'= []):=by
 refine Bg func88 λQ a1 cs H U Y=>?_;unfold f106 at O;refine C 8 V (Am (v:=iV (min p0 K)) V (λρ h=>Yl.min2 (h _ _ V) (h _ _ V)) ?_);refine C 2 V (Am (v:=iV (max p0 K)) V (λρ h=>Yl.max2 (h _ _ V) (h _ _ V)) ?_);refine C 5 V (Am (v:= .agg (([1,2,4,8]:List Nat).map λx=>Value.int .u32 ((x:Nat):Int)).toArray) V (λρ h=>YD h underlying173 (Db type173) (AN type94) V V) ?_);obtain⟨a2,Z,ac⟩:=bs O;refine C 1 V (Cd Z V V V ?_);obtain⟨a3,ag,al⟩:=bs ac;refine Tn (YS (E:=E) ([1,2,4,8]:List Nat)) ag V V V V V underlying173 (AN type94) (Cu underlying94) ?_ (λ_=>V);rintro _ rfl;obtain⟨a4,am,ap⟩:=bs al;refine C 1 V (Am V (λρ h=>Nj (h _ _ V) (h _ _ V) am) ?_);obtain⟨aq,aw,a0⟩:=bs ap;refine Am (v:= .int .u32 ((aq:Nat):Int)) V (λρ h=>Wl (h _ _ V) (h _ _ V) aw) (C 2 V ?_);obtain rfl:=oi a0;exact AS func88 V V (Y AF V ⟨V,V⟩ U)
def f136(fu_:Nat)(p0:Nat)(K:Int)(p2:Int):Option Bool:= (f106 fu_ K p2).bind λO=> (NB p0 O).bind λU=> some (decide ((((U):Nat):Int)≠(((0):Nat):Int)))
theorem Td{p0:Nat}{K:Int}{p2:Int}{fu_:Nat}{r:Bool}(O:f136 fu_ p0 K p2=some r):AL J 90 [.int .u32 ((p0:Nat):Int),iV K,iV p2] E [] (λw E' B'=>w= .bool r/\B'= []):=by
 refine Bg func90 λQ aw cs H U Y=>?_;unfold f136 at O;obtain⟨a0,Z,ac⟩:=bs O;refine C 9 V (Cj (Tk Z) V V (A0 func88 V) U λa1 ag al=>?_);obtain⟨am,ap,aq⟩:=bs ac;refine Am (v:= .int .u32 ((am:Nat):Int)) V (λρ h=>V3 (h _ _ V) (h _ _ V) ap) (C 3 V ?_);obtain rfl:=oi aq;exact AS func90 V V (Y ag V ⟨V,V⟩ al)
def SG(fu_:Nat)(O:(AG)×Int)(K:(AG)×Int):Option (Bm ((AG)×Int) ((AG))):= if K.2<O.2 then((room K.1 (K.2,O.2)).bind λU=> (Av (K.2+1)).bind λY=> some (.more (U,Y))) else(some (.done K.1))
def Sj(fu_:Nat)(p0:A5)(K:(AG)×Int):Option (Bm ((AG)×Int) ((AG))):= if K.2<(p0.1.length:Int) then(Option.bind (iter (SG fu_ K) fu_ (K.1,0)) λO=> (Av (K.2+1)).bind λU=> some (.more (O,U))) else(some (.done K.1))
def f133(fu_:Nat)(p0:A5):Option ((AG)):= Option.bind (iter (Sj fu_ p0) fu_ ([],0)) λK=> some K
theorem Zo{a1:Ao}{c2:Nat}{be:Ao}{bi:Nat}{p0:A5}(dt:Al (rL rI) E a1 c2 p0.1)(du:Al Ay E be bi p0.2){fu_:Nat}{r:(AG)}(bo:f133 fu_ p0=some r):AL J 143 [.agg #[sV a1 p0.1 c2,sV be p0.2 bi]] E [] (λw E' B'=>∃(bv:Ao) (bw:Nat),w= sV bv r bw/\B'= []/\Al Ee E' bv bw r):=by
 refine Bg func143 λQ dv cs H ce ci=>?_;unfold f133 at bo;refine C 2 V (Dd ce λdw a5 co cp ct=>?_);refine C 9 V (JL.fd underlying78 CQ V V V ?_);refine BK 0 cp underlying28 Fl FB ?_;refine JL.ln underlying25 V V V ?_;obtain⟨b0,cw,cy⟩:=bs bo;refine C 2 V (Br (λL s=>∃(a6:LH) (ap:Ao) (aq:Nat) (a7:Seg),Jn a5 H a6 [a7] [(3,sV ap b0 aq)] L s (OL 122 Ee a6 ap aq a7 b0)) ?_ ?_)
 ·rintro _ _ ⟨a6,ap,aq,a7,rfl,rfl,cJ,cK,cM⟩;refine C 5 V (B6 0 cM cK V λdx cO cP cQ=>?_);obtain rfl:=oi cy;exact AS func143 V V (ci ((co.Ad cJ).Ad cO) V ⟨ap,aq,V,V,cP⟩ cQ)
 ·intro cR;refine JL.block (Cl cw (λL s K=>∃(O:LH) (Y:Ao) (Z:Nat) (ac:Seg),Jn a5 H O [ac] [(3,sV Y K.1 Z),(9,iV (p0.1.length:Int)),(10,iV K.2)] L s (OL 122 Ee O Y Z ac K.1)) ⟨a5,none,0,[],V,V,AF,ct,OL.nil⟩ ?_);rintro _ _ K ⟨O,Y,Z,ac,rfl,rfl,b1,b2,b3⟩ cT ⟨dy,a8⟩ cV;have b4:=a8;unfold Sj at b4;refine C 5 V (AV b4 (λcW cX=>?_) (λcW cY=>?_))
  ·obtain⟨a9,cZ,c0⟩:=bs cX;refine C 13 V (Br (λL s=>∃(aw:LH) (a0:Ao) (a2:Nat) (a3:Seg),Jn O H aw [a3] [(3,sV a0 a9 a2),(9,iV (p0.1.length:Int)),(10,iV K.2)] L s (OL 122 Ee aw a0 a2 a3 a9)) ?_ ?_)
   ·rintro _ _ ⟨aw,a0,a2,a3,rfl,rfl,c1,c3,c4⟩;obtain⟨c5,c6,c7⟩:=bs c0;refine C 2 V (Bo c6 V V V ?_);refine C 2 V ?_;obtain rfl:=oi c7;exact AA (cV _ _ (a9,c5) ⟨aw,a0,a2,a3,V,V,(b1.Ad c1),c3,c4⟩ a8) V
   ·intro c8;refine JL.block (Cl cZ (λL s U=>∃(ag:LH) (al:Ao) (am:Nat) (a4:Seg),Jn O H ag [a4] [(3,sV al U.1 am),(4,iV K.2),(9,iV (p0.1.length:Int)),(10,iV K.2),(13,iV K.2),(14,iV U.2)] L s (OL 122 Ee ag al am a4 U.1)) ⟨O,Y,Z,ac,V,V,AF,b2,b3⟩ ?_);rintro _ _ U ⟨ag,al,am,a4,rfl,rfl,b5,b6,ca⟩ c9 ⟨dz,bb⟩ da;have cc:=bb;unfold SG at cc;refine C 5 V (AV cc (λdb dc=>?_) (λdb dd=>?_))
    ·refine C 12 V (Am (v:= .agg #[iV U.2,iV K.2]) V (λρ h=>CI [(0,1),(1,1)] h IV underlying122 ⟨V,AN type3,V,AN type3,trivial⟩ V V) ?_);obtain⟨de,df,dg⟩:=bs dc;refine JS.app (pp:=Ee) (v:= .agg #[iV U.2,iV K.2]) (a:=al) (c:=am) 0 df V V V V (λ_=>V) V (λ_=>V) V V V underlying205 underlying205 underlying205 FQ (CX type122) IV V (by decide) (by decide) (by decide) (by decide) ca ⟨_,_,V,V,V⟩ b6 V λdA dh di dj dk dn=>?_;obtain⟨dp,dq,dr⟩:=bs dg;refine C 4 V (Bo dq V V V ?_);refine C 2 V ?_;obtain rfl:=oi dr;exact AA (da _ _ (de,dp) ⟨ag,dh,di,dj,V,V,b5,dn,dk⟩ bb) V
    ·refine JL.exit V ?_;obtain rfl:=oi dd;obtain rfl:=c9 _ bb;exact AA (c8 _ _ ⟨ag,al,am,a4,V,V,b5,b6,ca⟩) V
  ·refine JL.exit V ?_;obtain rfl:=oi cY;obtain rfl:=cT _ a8;exact AA (cR _ _ ⟨O,Y,Z,ac,V,V,b1,b2,b3⟩) V
def f113(fu_:Nat)(p0:Int×Int×Int)(K:Int×Int×Int):Option Int:= if p0.1≠K.1 then((Av (p0.1 - K.1)).bind λO=> some O) else(if p0.2.1≠K.2.1 then((Av (p0.2.1 - K.2.1)).bind λU=> some U) else((Av (p0.2.2 - K.2.2)).bind λY=> some Y))
theorem TI{p0:Int×Int×Int}{Y:Int×Int×Int}{fu_:Nat}{r:Int}(al:f113 fu_ p0 Y=some r):AL J 105 [.agg #[iV p0.1,iV p0.2.1,iV p0.2.2],.agg #[iV Y.1,iV Y.2.1,iV Y.2.2]] E [] (λw E' B'=>w=iV r/\B'= []):=by
 refine Bg func105 λQ bb cs H am Z=>?_;unfold f113 at al;refine C 2 V (Dd am λr2 be ac O ap=>?_);refine Dd ap λbi bo K U ag=>?_;refine C 6 V (BK 0 (O.Ah K) underlying42 Ax AR ?_);refine BK 0 U underlying42 Ax AR ?_;refine C 3 V (AV al (λaq aw=>?_) (λaq a0=>?_))
 ·refine C 2 V (BK 0 (O.Ah K) underlying42 Ax AR ?_);refine BK 0 U underlying42 Ax AR ?_;obtain⟨bv,a1,a2⟩:=bs aw;refine Cd a1 V V V (C 2 V ?_);obtain rfl:=oi a2;exact AS func105 V V (Z (ac.Ad K) V ⟨V,V⟩ ag)
 ·refine C 2 V (BK 1 (O.Ah K) underlying42 Ax AR ?_);refine BK 1 U underlying42 Ax AR ?_;refine C 3 V (AV a0 (λa3 a4=>?_) (λa3 a5=>?_))
  ·refine C 2 V (BK 1 (O.Ah K) underlying42 Ax AR ?_);refine BK 1 U underlying42 Ax AR ?_;obtain⟨bw,a6,a7⟩:=bs a4;refine Cd a6 V V V (C 2 V ?_);obtain rfl:=oi a7;exact AS func105 V V (Z (ac.Ad K) V ⟨V,V⟩ ag)
  ·refine C 4 V (BK 2 (O.Ah K) underlying42 Ax AR ?_);refine BK 2 U underlying42 Ax AR ?_;obtain⟨b0,a8,a9⟩:=bs a5;refine Cd a8 V V V (C 2 V ?_);obtain rfl:=oi a9;exact AS func105 V V (Z (ac.Ad K) V ⟨V,V⟩ ag)
def S6(fu_:Nat)(p0:List Int)(K:Int×Int):Option (Bm (Int×Int) Int):= if K.2<(p0.length:Int) then((ix p0 K.2).bind λO=> (Av (K.1+O)).bind λU=> (Av (K.2+1)).bind λY=> some (.more (U,Y))) else(some (.done K.1))
def f85(fu_:Nat)(p0:List Int):Option Int:= Option.bind (iter (S6 fu_ p0) fu_ (0,0)) λK=> some K
theorem HK{a1:Ao}{c2:Nat}{p0:List Int}(ag:Al rI E a1 c2 p0){fu_:Nat}{r:Int}(Y:f85 fu_ p0=some r):AL J 60 [sV a1 p0 c2] E [] (λw E' B'=>w=iV r/\B'= []):=by
 refine Bg func60 λQ b2 cs H al am=>?_;unfold f85 at Y;refine C 12 V (JL.ln underlying22 V V V ?_);obtain⟨ap,aq,aw⟩:=bs Y;refine C 2 V (EM [] [(3,iV ap)] (λb3 a0 a2=>?_) (λa3=>?_))
 ·refine C 5 V ?_;obtain rfl:=oi aw;exact AS func60 V V (am a0 V ⟨V,V⟩ a2)
 ·refine JL.block (DZ aq (λK=> []) (λK=> [(3,iV K.1),(6,sV a1 p0 c2),(7,iV (p0.length:Int)),(8,iV K.2)]) AF al ?_);rintro K b4 O Z a4 ⟨b5,U⟩ a5;have ac:=U;unfold S6 at ac;refine C 5 V (AV ac (λa6 a7=>?_) (λa6 a8=>?_))
  ·obtain⟨b6,a9,bb⟩:=bs a7;refine C 5 V (JS.ix (ag.Ah O) a9 underlying22 Ax ?_);rintro ca cc _ rfl be;refine CY 0 be AR V V V ?_;obtain⟨bi,bo,bv⟩:=bs bb;refine C 5 V (Bo bo V V V ?_);obtain⟨bw,b0,b1⟩:=bs bv;refine C 4 V (Bo b0 V V V ?_);refine C 2 V ?_;obtain rfl:=oi b1;exact a5 (bi,bw) O Z V U
  ·refine JL.exit V ?_;obtain rfl:=oi a8;obtain rfl:=a4 _ U;exact a3 O Z V
end Pal
namespace Pal
open Go Go.Conc
variable {P:Program}{Q:Gs_}{n:Nat}{ds:Ld_}{ops:Ao_}{k:Li_}{cs:Lf_}{L:Env}{E H:LH}{S:List Seg}
variable {d:Option Tmp}{w:Operand}{t u ty:TypeId}{p:String}{af:Ae_}{g:On_}{rest:List Nat}{s:St}{ρ:Operand->Value}
section
variable {J:Judge P}{b:Frame}
variable {x y:Operand}{e:TypeId}{i:Nat}
theorem Al.cz{α:Type}{pp:Rp α}{kk bk o:Nat}{ws:Lv_}{xs ys:List α}{hi:Int}(U:At E bk o ws)(O:(rA kk pp).r E ws xs)(hC:HO xs 0 hi=some ys):Al pp E (some ⟨bk,o,none⟩) kk ys:=by
 have ag:=O.1;unfold HO at hC;split at hC
 ·rename_i hb;cases hC;refine⟨by simp;omega,.inr ⟨bk,o,V,λq z K=>?_⟩⟩;simp only [Int.toNat_zero,List.drop_zero,List.getElem?_take] at K;split at K
  ·have Y:ix xs (q:Int)=some z:=by unfold ix;rw [if_pos (by omega)];simpa using K
   obtain⟨us,Z,ac,_,_⟩:=bx O U Y;exact⟨us,Z,by simpa using ac⟩
  ·cases K
 ·cases hC
theorem Yw{α:Type}{pp:Rp α}{kk bk o:Nat}{ws:Lv_}{xs ys:List α}{hi:Int}(U:At E bk o ws)(K:(rA kk pp).r E ws xs)(hC:HO xs 0 hi=some ys)
  (Y:ops[i]? =some ⟨d,.slice t x none (some w) none,ty,p,af,g⟩) (hw:AM L ops ⟨d,.slice t x none (some w) none,ty,p,af,g⟩=some true) (Z:BH b n ⟨d,.slice t x none (some w) none,ty,p,af,g⟩=true)
  (ac:ev L x=some (.pointer (some ⟨bk,o,none⟩))) (ag:ev L w=some (iV hi)) (al:P.underlying t=some (.array kk e)) (am:Bj P e=some pp.n)
  (h:Al pp E (some ⟨bk,o,none⟩) kk ys->JL J Q b n (Au L d (.slice (some ⟨bk,o,none⟩) ys.length kk)) ds (.inRegion ops rest::k) cs s):
  JL J Q b n L ds (.inRegion ops (i::rest)::k) cs s:=by
 have ap:=Al.cz U K hC;have a0:=K.1;refine A1 Y hw Z (λρ O=>?_) (h ap);refine Fo (sm:=Instr.sliceAt t (ρ x) none (some (ρ w)) none) V ?_;rw [O _ _ ac,O _ _ ag];unfold HO at hC;split at hC
 ·rename_i hb;cases hC;obtain⟨a1,a2,a3⟩:=hb;unfold Instr.sliceAt;refine As _ _ (Cg al ?_);simp only [Instr.sureAddr,bind,Sem.bind,pure];have aq:Instr.sliceBounds false kk kk none (some (iV hi)) none=(pure (0,hi.toNat,kk):Sem _):=by
   simp only [Instr.sliceBounds,Instr.sliceBound,asIntOf,bind,Sem.bind,pure];rw [if_pos (by omega)];rfl
  rw [aq];simp only [pure,Sem.bind];refine As (x:=Go.sizeOf e) _ (EJ am ?_);have aw:(if kk=0 then(⟨bk,o,none⟩:Addr) else Addr.add ⟨bk,o,none⟩ (0*pp.n))=⟨bk,o,none⟩:=by
   split
   ·rfl
   ·rw [Dw rfl];simp
  rw [aw];have e2:((xs.take hi.toNat).drop (0:Int).toNat).length=hi.toNat - 0:=by simp;omega
  rw [e2];exact⟨V,V⟩
 ·cases hC
theorem Wz{a:Option Addr}{l c:Nat}(K:P.underlying t=some (.slice e))(O:ρ x= .slice a l c)(U:ρ (.const (.slice none 0 0))= .slice none 0 0):Yl P ⟨d,.binOp .neq t x (.const (.slice none 0 0)) u,ty,p,af,g⟩ ρ s (.bool (!a.isNone)):=by
 have Y:∀o,eqGuard o t x (.const (.slice none 0 0)) (.slice a l c) (.slice none 0 0)=Sem.pure ():=λo=>by cases o <;> rfl
 refine Fo (sm:=do eqGuard .neq t x (.const (.slice none 0 0)) (ρ x) (ρ (.const (.slice none 0 0)));binOp .neq t (ρ x) (ρ (.const (.slice none 0 0)))) V ?_
 rw [O,U,Y];simp only [bind,Sem.bind];have hb:binOp .neq t (.slice a l c) (.slice none 0 0)=(do pure (.bool (!(← Op.equal t (.slice a l c) (.slice none 0 0))))):=V
 rw [hb];refine As (x:=Op.equal t _ _) _ ?_;unfold Op.equal Op.maxDepth Op.equalIn;refine As _ _ (Cg K ?_);cases a with
 | none=>exact⟨rfl,rfl⟩
 | some ad=>exact⟨rfl,rfl⟩
end
open Go.Proofs Go.Proofs.Tryz
variable {J:Judge Tryz.prog}
def S7(fu_:Nat)(p0:A5)(O:List Int)(K:Int):Option (Bm Int ((A5×Int)⊕(Unit))):= if K<(O.length:Int) then((ix O K).bind λU=> (Av ((p0.1.length:Int) - 1)).bind λY=> (f91 fu_ U 0 Y).bind λZ=> if(!Z)=true then(some (.done (Sum.inl (([],[]),3)))) else((Av (K+1)).bind λac=> some (.more ac))) else(some (.done (Sum.inr ())))
def f70(fu_:Nat)(p0:A5)(K:List Int):Option (A5×Int):= (f47 fu_ p0).bind λO=> if O≠0 then(some (([],[]),O)) else(Option.bind (iter (S7 fu_ p0 K) fu_ 0) λU=> Sum.elim (λr=>some r) (λag=> Option.bind (if(K.length:Int)=2 then((ix K (0)).bind λY=> (ix K (1)).bind λZ=> some (decide (Y=Z))) else(some false)) λac=> if ac=true then(some (([],[]),8)) else(some (p0,0))) U)
theorem Ks{a1:Ao}{c2:Nat}{Z:Ao}{ac:Nat}{am:Ao}{ap:Nat}{p0:A5}{Y:List Int}(a8:Al (rL rI) E a1 c2 p0.1)(a9:Al Ay E Z ac p0.2)(a2:Al rI E am ap Y){fu_:Nat}{r:A5×Int}(bb:f70 fu_ p0 Y=some r):AL J 54 [.agg #[sV a1 p0.1 c2,sV Z p0.2 ac],sV am Y ap] E [] (λw E' B'=>∃(be:Ao) (bi:Nat) (bo:Ao) (bv:Nat),w= .tuple #[.agg #[sV be r.1.1 bi,sV bo r.1.2 bv],iV r.2]/\B'= []/\Al (rL rI) E' be bi r.1.1/\Al Ay E' bo bv r.1.2):=by
 refine Bg func54 λQ dG cs H cJ aw=>?_;unfold f70 at bb;refine C 2 V (Dd cJ λa3 dH K a4 cK=>?_);refine BM cK Hx λal cM=>?_;refine C 5 V (BX a4 ER CQ V V ?_);obtain⟨bw,cO,cP⟩:=bs bb;refine Cj (bW (a8.Ah K) (a9.Ah K) cO) V V (A0 func41 V) cM λcQ O b0=>C 7 V (AV cP (λcR cT=>?_) (λcR cV=>?_))
 ·refine C 2 V (Am (v:= .agg #[nS,nS]) V (λρ h=>CI [(0,2)] h Hx underlying78 ⟨V,AN type28,trivial⟩ V V) ?_);refine C 1 V (BF 2 b0 Dl λb1=>?_);refine C 2 V ?_;obtain rfl:=oi cT;refine JL.ret (v:= .tuple #[.agg #[nS,nS],iV bw]) V V (By.list func54 V (vs:= [.agg #[nS,nS],iV bw]) ⟨⟨_,V,Ld.many (vs:= [nS,nS]) FC Dl (G4 (off:=0) 2 b1 V V)⟩,V,trivial⟩) (Em 2 b1 V λcW=>?_);exact aw (K.Ad O) V ⟨none,0,none,0,V,V,Al.nil,Al.nil⟩ cW
 ·refine C 5 V (JL.ln underlying22 V V V ?_);obtain⟨b2,cX,b3⟩:=bs cV;refine C 2 V (Br (λL s=>∃(b4:Unit) (a5:LH),b2=Sum.inr b4/\Jm cQ H a5 [bX al #[nS,nS] 78] [(1,sV am Y ap),(2,Ak a3 0),(4,Ak al 0)] L s) ?_ ?_)
  ·rintro _ _ ⟨b4,a5,rfl,rfl,rfl,ag,b5⟩;have cY:=elim_inr b3;refine C 2 V (EV 12 λU=>?_);refine Ds 0 U V V (AP 1 U V V (λρ h s' dI=>Yl.len V underlying22 (h _ _ V)) ?_);refine Bc U V [2,3] V ?_;obtain⟨cZ,b6,c0⟩:=bs cY;refine Gr 0 #[true,true,true,true,true,true,true,true,true,true,true,true] (λL s=>L= [(2,Ak a3 0),(4,Ak al 0),(41,.bool cZ)]/\s=Aj a5 H [bX al #[nS,nS] 78]) ?_ ?_
   ·rintro _ _ ⟨rfl,rfl⟩;refine AO.fin (by decide+kernel) (Cn c0 (λc1 c3=>?_) (λc1 c4=>?_))
    ·refine C 2 V (Am (v:= .agg #[nS,nS]) V (λρ h=>CI [(0,2)] h Hx underlying78 ⟨V,AN type28,trivial⟩ V V) ?_);refine BF 0 b5 Dl λca=>?_;refine C 2 V ?_;obtain rfl:=oi c3;refine JL.ret (v:= .tuple #[.agg #[nS,nS],iV 8]) V V (By.list func54 V (vs:= [.agg #[nS,nS],iV 8]) ⟨⟨_,V,Ld.many (vs:= [nS,nS]) FC Dl (G4 (off:=0) 0 ca V V)⟩,V,trivial⟩) (Em 0 ca V λc5=>?_);exact aw ((K.Ad O).Ad ag) V ⟨none,0,none,0,V,V,Al.nil,Al.nil⟩ c5
    ·refine C 3 V (BX (a4.Ah (O.Ad ag)) ER CQ V V ?_);refine Am (v:= .agg #[sV a1 p0.1 c2,sV Z p0.2 ac]) V (λρ h=>CI [(0,2)] h Hx underlying78 ⟨V,AN type28,trivial⟩ V V) (BF 0 b5 Dl λcc=>?_);refine C 2 V ?_;obtain rfl:=oi c4;refine JL.ret (v:= .tuple #[.agg #[sV a1 p0.1 c2,sV Z p0.2 ac],iV 0]) V V (By.list func54 V (vs:= [.agg #[sV a1 p0.1 c2,sV Z p0.2 ac],iV 0]) ⟨⟨_,V,Ld.many (vs:= [sV a1 p0.1 c2,sV Z p0.2 ac]) FC Dl (G4 (off:=0) 0 cc V V)⟩,V,trivial⟩) (Em 0 cc V λc6=>?_);exact aw ((K.Ad O).Ad ag) V ⟨a1,c2,Z,ac,V,V,(a8.Ah ((K.Ad O).Ad ag)),(a9.Ah ((K.Ad O).Ad ag))⟩ c6
   ·intro ce;refine G5 (q:=(Y.length:Int)=2) (i:=33) V (λa6=>?_) (λa6=>?_)
    ·have c7:=ip b6 a6;refine Ds 4 U V V ?_;obtain⟨dJ,c8,c9⟩:=bs c7;refine Fe 5 (a2.Ah ((K.Ad O).Ad ag)) c8 U underlying22 Ax ?_;rintro dK dL _ rfl da;refine Er 6 U 0 da AR V V V V ?_;refine Ds 7 U V V ?_;obtain⟨dM,db,dc⟩:=bs c9;refine Fe 8 (a2.Ah ((K.Ad O).Ad ag)) db U underlying22 Ax ?_;rintro dN dO _ rfl dd;refine Er 9 U 0 dd AR V V V V ?_;refine Bc U V [10,11] V ?_;obtain rfl:=oi dc;refine Eh ?_ (ce _ _ ⟨V,V⟩);exact⟨V,V,V,trivial⟩
    ·have de:=im b6 a6;refine Bc U V [4,5,6,7,8,9,10,11] V ?_;obtain rfl:=oi de;refine Eh ?_ (ce _ _ ⟨V,V⟩);exact⟨V,V,V,trivial⟩
  ·intro df;refine JL.block (DZ cX (λa7=> [bX al #[nS,nS] 78]) (λa7=> [(1,sV am Y ap),(2,Ak a3 0),(4,Ak al 0),(15,sV am Y ap),(16,iV (Y.length:Int)),(17,iV a7)]) AF b0 ?_);rintro a7 dg aq ci co ⟨dP,a0⟩ dh;have cp:=a0;unfold S7 at cp;refine C 5 V (AV cp (λdi dj=>?_) (λdi dk=>?_))
   ·obtain⟨dQ,dn,dp⟩:=bs dj;refine C 5 V (JS.ix (a2.Ah ((K.Ad O).Ad aq)) dn underlying22 Ax ?_);rintro dR dS _ rfl dq;refine CY 0 dq AR V V V (C 5 V ?_);refine BK 0 (a4.Ah (O.Ad aq)) underlying28 Fl FB ?_;refine JL.ln underlying25 V V V ?_;obtain⟨dT,dr,dt⟩:=bs dp;refine Cd dr V V V ?_;obtain⟨du,dv,dw⟩:=bs dt;refine Cj (Mb dv) V V Lt ci λdU ct cw=>Am (v:= .bool (!du)) V (λρ h=>Yl.not (h _ _ V)) (JL.done ?_);refine Cn dw (λdx dy=>?_) (λdx dz=>?_)
    ·refine C 2 V (Am (v:= .agg #[nS,nS]) V (λρ h=>CI [(0,2)] h Hx underlying78 ⟨V,AN type28,trivial⟩ V V) ?_);refine BF 0 cw Dl λcy=>?_;refine C 2 V ?_;obtain rfl:=oi dy;obtain rfl:=co _ a0;have dA:=elim_inl b3;obtain rfl:=oi dA;refine JL.ret (v:= .tuple #[.agg #[nS,nS],iV 3]) V V (By.list func54 V (vs:= [.agg #[nS,nS],iV 3]) ⟨⟨_,V,Ld.many (vs:= [nS,nS]) FC Dl (G4 (off:=0) 0 cy V V)⟩,V,trivial⟩) (Em 0 cy V λdB=>?_);exact aw (((K.Ad O).Ad aq).Ad ct) V ⟨none,0,none,0,V,V,Al.nil,Al.nil⟩ dB
    ·obtain⟨dC,dD,dE⟩:=bs dz;refine C 3 V (Bo dD V V V ?_);refine C 2 V ?_;obtain rfl:=oi dE;exact dh dC (aq.Ad ct) cw V a0
   ·refine JL.exit V ?_;obtain rfl:=oi dk;have dF:b2=(Sum.inr ()):=(co _ a0).symm;exact AA (df _ _ ⟨(),dg,dF,V,V,aq,ci⟩) V
def Me(fu_:Nat)(p0:List Int):Option ((List Int)):= (Dy ([]:List Int) p0).bind λK=> some K
theorem aG{ad:Addr}{c2:Nat}{p0:List Int}(Y:Al rI E (some ad) c2 p0){fu_:Nat}{r:(List Int)}(K:Me fu_ p0=some r):AL J 56 [.slice (some ad) p0.length c2] E [] (λw E' B'=>∃(O:Ao) (U:Nat) (g0:Seg),w= sV O r U/\B'=g0/\OL 3 rI E' O U g0 r):=by
 refine Bg func56 λQ a3 cs H Z ac=>?_;unfold Me at K;refine C 8 V (Am (v:= .bool false) V (λρ h=>MW (a:=(some ad)) underlying22 (h _ _ V) (h _ _ V)) ?_);refine C 5 V (O6 (pp:=rI) V V V underlying22 Ax Z λr1 g2 ag al=>?_);obtain⟨a4,am,ap⟩:=bs K;refine C 1 V (I5 (pp:=rI) 1 am V V V V V V V underlying22 underlying22 Ax (CX type3) Ct V (by decide) (by decide) ag Y al V λaq aw a0 a1 a2=>?_);refine C 2 V ?_;obtain rfl:=oi ap;exact AS func56 V V (ac AF V ⟨aq,aw,a0,V,(by first | rfl | simp | (simp [Value.cells])),a1⟩ a2)
def Uj(fu_:Nat)(p0:List Int):Option ((List Int)):= some ([])
theorem Zc{c2:Nat}{p0:List Int}(ac:Al rI E none c2 p0){fu_:Nat}{r:(List Int)}(K:Uj fu_ p0=some r):AL J 56 [sV none p0 c2] E [] (λw E' B'=>∃(O:Ao) (U:Nat) (g0:Seg),w= sV O r U/\B'=g0/\OL 3 rI E' O U g0 r):=by
 refine Bg func56 λQ ag cs H Y Z=>?_;unfold Uj at K;refine C 8 V (Am (v:= .bool true) V (λρ h=>MW (a:=none) underlying22 (h _ _ V) (h _ _ V)) ?_);refine C 6 V ?_;obtain rfl:=oi K;exact AS func56 V V (Z AF V ⟨none,0,[],V,V,OL.nil⟩ Y)
def f87(fu_:Nat)(p0:List Int):Option (List Int):=Me fu_ p0
theorem ba{a1:Ao}{c2:Nat}{p0:List Int}(O:Al rI E a1 c2 p0){fu_:Nat}{r:List Int}(K:f87 fu_ p0=some r):AL J 56 [.slice a1 p0.length c2] E [] (λw E' B'=>∃(U:Ao) (Y:Nat) (g0:Seg),w= .slice U r.length Y/\B'=g0/\OL 3 rI E' U Y g0 r):=by
 cases a1 with
 | some ad=>exact aG O K
 | none=>
  have Z:p0= []:=by
   rcases O.2 with h | ⟨_,_,h,_⟩
   ·exact h.1
   ·cases h
  subst Z;have ac:r= []:=by
   have ag:Me fu_ []=some []:=V;unfold f87 at K;rw [ag] at K;exact(Option.some.inj K).symm
  subst ac;exact Zc (fu_:=fu_) O V
def NL(fu_:Nat)(p0:Aw):Option (Aw):= (Dy ([]:Aw) p0).bind λK=> some K
theorem XP{ad:Addr}{c2:Nat}{p0:Aw}(Y:Al Ay E (some ad) c2 p0){fu_:Nat}{r:Aw}(K:NL fu_ p0=some r):AL J 113 [.slice (some ad) p0.length c2] E [] (λw E' B'=>∃(O:Ao) (U:Nat) (g0:Seg),w= sV O r U/\B'=g0/\OL 42 Ay E' O U g0 r):=by
 refine Bg func113 λQ a3 cs H Z ac=>?_;unfold NL at K;refine C 8 V (Am (v:= .bool false) V (λρ h=>MW (a:=(some ad)) underlying96 (h _ _ V) (h _ _ V)) ?_);refine C 5 V (O6 (pp:=Ay) V V V underlying96 A9 Z λr1 g2 ag al=>?_);obtain⟨a4,am,ap⟩:=bs K;refine C 1 V (I5 (pp:=Ay) 1 am V V V V V V V underlying96 underlying96 A9 (CX type42) Bx V (by decide) (by decide) ag Y al V λaq aw a0 a1 a2=>?_);refine C 2 V ?_;obtain rfl:=oi ap;exact AS func113 V V (ac AF V ⟨aq,aw,a0,V,(by first | rfl | simp | (simp [Value.cells])),a1⟩ a2)
def TY(fu_:Nat)(p0:Aw):Option (Aw):= some ([])
theorem Yu{c2:Nat}{p0:Aw}(ac:Al Ay E none c2 p0){fu_:Nat}{r:Aw}(K:TY fu_ p0=some r):AL J 113 [sV none p0 c2] E [] (λw E' B'=>∃(O:Ao) (U:Nat) (g0:Seg),w= sV O r U/\B'=g0/\OL 42 Ay E' O U g0 r):=by
 refine Bg func113 λQ ag cs H Y Z=>?_;unfold TY at K;refine C 8 V (Am (v:= .bool true) V (λρ h=>MW (a:=none) underlying96 (h _ _ V) (h _ _ V)) ?_);refine C 6 V ?_;obtain rfl:=oi K;exact AS func113 V V (Z AF V ⟨none,0,[],V,V,OL.nil⟩ Y)
def f129(fu_:Nat)(p0:Aw):Option Aw:=NL fu_ p0
theorem aR{a1:Ao}{c2:Nat}{p0:Aw}(O:Al Ay E a1 c2 p0){fu_:Nat}{r:Aw}(K:f129 fu_ p0=some r):AL J 113 [.slice a1 p0.length c2] E [] (λw E' B'=>∃(U:Ao) (Y:Nat) (g0:Seg),w= .slice U r.length Y/\B'=g0/\OL 42 Ay E' U Y g0 r):=by
 cases a1 with
 | some ad=>exact XP O K
 | none=>
  have Z:p0= []:=by
   rcases O.2 with h | ⟨_,_,h,_⟩
   ·exact h.1
   ·cases h
  subst Z;have ac:r= []:=by
   have ag:NL fu_ []=some []:=V;unfold f129 at K;rw [ag] at K;exact(Option.some.inj K).symm
  subst ac;exact Yu (fu_:=fu_) O V
def f43(fu_:Nat)(p0:A5):Option ((List Int)×Int):= (f70 fu_ p0 ([])).bind λK=> if K.2≠0 then(some ([],K.2)) else((f84 fu_ K.1).bind λO=> (HO O 0 (p0.1.length:Int)).bind λU=> (f87 fu_ U).bind λY=> some (Y,0))
theorem Uc{a1:Ao}{c2:Nat}{ac:Ao}{ag:Nat}{p0:A5}(a6:Al (rL rI) E a1 c2 p0.1)(a7:Al Ay E ac ag p0.2){fu_:Nat}{r:(List Int)×Int}(al:f43 fu_ p0=some r):AL J 12 [.agg #[sV a1 p0.1 c2,sV ac p0.2 ag]] E [] (λw E' B'=>∃(am:Ao) (ap:Nat),w= .tuple #[sV am r.1 ap,iV r.2]/\B'= []/\Al rI E' am ap r.1):=by
 refine Bg func12 λQ cV cs H a8 aq=>?_;unfold f43 at al;refine C 2 V (Dd a8 λcW cX U aw a9=>?_);refine C 5 V (BX aw ER CQ V V ?_);obtain⟨cY,bb,be⟩:=bs al;refine BU (Ks (a6.Ah U) (a7.Ah U) Al.nil bb) V V J9 a9 ?_;rintro _ cZ _ Y ⟨c0,c1,c3,c4,rfl,rfl,bi,bo⟩ bv;refine C 3 V (BM bv Hx λc5 bw=>?_);refine BF 3 bw Dl λb0=>?_;refine CF 3 b0 V λc6 K b1 a0=>C 8 V (AV be (λb2 b3=>?_) (λb2 b4=>?_))
 ·refine C 6 V ?_;obtain rfl:=oi b3;exact AS func12 V V (aq ((U.Ad Y).Ad K) V ⟨none,0,V,V,Al.nil⟩ a0)
 ·refine C 3 V (BX b1 FC Dl V V ?_);obtain⟨c7,b5,b6⟩:=bs b4;refine BU (NM (bi.Ah K) (bo.Ah K) b5) V V MF a0 ?_;rintro _ a2 _ a3 ⟨Z,rfl,rfl,O⟩ ca;refine BM ca Jt λc8 cc=>?_;refine GH (v:= .agg Z.toArray) (l:= []) (ws:=(List.replicate 5 (iV 0):Lv_)) (us:=Z) (o:=0) 5 V V V cc V V V (by rw [BQ (kk:=5) (pp:=rI) O];exact AN type82) ((rA 5 rI).one O) V (by rw [BQ (kk:=5) (pp:=rI) O,BQ (kk:=5) (pp:=rI) (FW (E:=a2) (pp:=rI) rfl)];omega) λa4=>?_;rw [Iz (by rw [BQ (kk:=5) (pp:=rI) O,BQ (kk:=5) (pp:=rI) (FW (E:=a2) (pp:=rI) rfl)])] at a4 ⊢;refine C 3 V (BK 0 (aw.Ah ((Y.Ad K).Ad a3)) underlying28 Fl FB ?_);refine JL.ln underlying25 V V V (CF 5 a4 V λc9 a5 ce ci=>?_);obtain⟨da,co,cp⟩:=bs b6;refine Yw (ws:=Z) (pp:=rI) ce (Rp.Ah _ a5 O) co V V V V V underlying82 Ax λct=>?_;obtain⟨db,cw,cy⟩:=bs cp;refine BU (ba ct cw) V V (A0 func56 V) ci ?_;rintro _ dc dd cJ ⟨cK,cM,_,rfl,rfl,cO⟩ cP;refine C 3 V (B6 6 cO cP V λde cQ cR cT=>?_);obtain rfl:=oi cy;exact AS func12 V V (aq ((((((U.Ad Y).Ad K).Ad a3).Ad a5).Ad cJ).Ad cQ) V ⟨cK,cM,V,V,cR⟩ cT)
def R6(fu_:Nat)(p0:Aw)(O:Aw)(K:Int):Option (Bm Int ((Int)⊕(Unit))):= if K<(p0.length:Int) then((ix p0 K).bind λY=> if(O.length:Int)<=K then(some (.done (Sum.inl 1))) else((ix O K).bind λZ=> (f113 fu_ Y Z).bind λU=> if U≠0 then(some (.done (Sum.inl U))) else((Av (K+1)).bind λac=> some (.more ac)))) else(some (.done (Sum.inr ())))
def f112(fu_:Nat)(p0:Aw)(K:Aw):Option Int:= Option.bind (iter (R6 fu_ p0 K) fu_ 0) λO=> Sum.elim (λr=>some r) (λU=> if(p0.length:Int)<(K.length:Int) then(some (-1)) else(some 0)) O
theorem Zx{a1:Ao}{c2:Nat}{Y:Ao}{Z:Nat}{p0:Aw}{O:Aw}(bo:Al Ay E a1 c2 p0)(bv:Al Ay E Y Z O){fu_:Nat}{r:Int}(a2:f112 fu_ p0 O=some r):AL J 104 [sV a1 p0 c2,sV Y O Z,(fV 105)] E [] (λw E' B'=>w=iV r/\B'= []):=by
 refine Bg func104 λQ da cs H bw ac=>?_;unfold f112 at a2;refine C 8 V (JL.ln underlying96 V V V ?_);obtain⟨a3,b0,al⟩:=bs a2;refine C 2 V (Br (λL s=>∃(a4:Unit) (a5:LH),a3=Sum.inr a4/\Jm E H a5 [] [(0,sV a1 p0 c2),(1,sV Y O Z)] L s) ?_ ?_)
 ·rintro _ _ ⟨a4,a5,rfl,rfl,rfl,a6,a7⟩;have b1:=elim_inr al;refine C 4 V (JL.ln underlying96 V V V ?_);refine C 1 V (JL.ln underlying96 V V V ?_);refine C 2 V (AV b1 (λb2 b3=>?_) (λb2 b4=>?_))
  ·refine C 4 V ?_;obtain rfl:=oi b3;exact AS func104 V V (ac a6 V ⟨V,V⟩ a7)
  ·refine C 5 V ?_;obtain rfl:=oi b4;exact AS func104 V V (ac a6 V ⟨V,V⟩ a7)
 ·intro b5;refine JL.block (DZ b0 (λam=> []) (λam=> [(0,sV a1 p0 c2),(1,sV Y O Z),(2,(fV 105)),(11,sV a1 p0 c2),(12,iV (p0.length:Int)),(13,iV am)]) AF bw ?_);rintro am b6 K a8 ap ⟨db,U⟩ ca;have a9:=U;unfold R6 at a9;refine C 5 V (AV a9 (λcc ce=>?_) (λcc ci=>?_))
  ·obtain⟨aq,co,cp⟩:=bs ce;refine C 6 V (JS.ix (bo.Ah K) co underlying96 A9 ?_);rintro dc dd _ ⟨_,_,rfl,rfl,⟨_,_,rfl,rfl,rfl⟩⟩ ct;refine BX ct Da A9 V V (BM a8 Bx λde cw=>?_);refine C 1 V (BF 0 cw A9 λcy=>?_);refine CF 0 cy V λdf ag cJ bb=>C 6 V (JL.ln underlying96 V V V ?_);refine C 2 V (AV cp (λcK cM=>?_) (λcK cO=>?_))
   ·refine C 4 V ?_;obtain rfl:=oi cM;obtain rfl:=ap _ U;have cP:=elim_inl al;obtain rfl:=oi cP;exact AS func104 V V (ac (K.Ad ag) V ⟨V,V⟩ bb)
   ·obtain⟨aw,cQ,cR⟩:=bs cO;refine C 5 V (JS.ix (bv.Ah (K.Ad ag)) cQ underlying96 A9 ?_);rintro dg dh _ ⟨_,_,rfl,rfl,⟨_,_,rfl,rfl,rfl⟩⟩ cT;refine BX cT Da A9 V V (BM bb Bx λdi cV=>?_);refine BF 1 cV A9 λcW=>?_;refine CF 1 cW V λdj a0 cX cY=>C 4 V (BX (cJ.Ah a0) Da A9 V V ?_);refine BX cX Da A9 V V ?_;obtain⟨dk,cZ,c0⟩:=bs cR;refine KW (vs:= [.agg #[iV aq.1,iV aq.2.1,iV aq.2.2],.agg #[iV aw.1,iV aw.2.1,iV aw.2.2]]) (TI cZ) V V V V (A0 func105 V) V cY ?_;rintro _ dn _ be ⟨rfl,rfl⟩ bi;refine C 7 V (AV c0 (λc1 c3=>?_) (λc1 c4=>?_))
    ·refine C 5 V ?_;obtain rfl:=oi c3;obtain rfl:=ap _ U;have c5:=elim_inl al;obtain rfl:=oi c5;exact AS func104 V V (ac (((K.Ad ag).Ad a0).Ad be) V ⟨V,V⟩ bi)
    ·obtain⟨c6,c7,c8⟩:=bs c4;refine C 3 V (Bo c7 V V V ?_);refine C 2 V ?_;obtain rfl:=oi c8;exact ca c6 (((K.Ad ag).Ad a0).Ad be) bi V U
  ·refine JL.exit V ?_;obtain rfl:=oi ci;have c9:a3=(Sum.inr ()):=(ap _ U).symm;exact AA (b5 _ _ ⟨(),b6,c9,V,V,K,a8⟩) V
def f74(fu_:Nat)(p0:Aw)(K:Aw):Option Int:= (f112 fu_ p0 K).bind λO=> some O
theorem Ik{a1:Ao}{c2:Nat}{O:Ao}{U:Nat}{p0:Aw}{K:Aw}(Z:Al Ay E a1 c2 p0)(ac:Al Ay E O U K){fu_:Nat}{r:Int}(Y:f74 fu_ p0 K=some r):AL J 64 [sV a1 p0 c2,sV O K U] E [] (λw E' B'=>w=iV r/\B'= []):=by
 refine Bg func64 λQ a0 cs H ag al=>?_;unfold f74 at Y;obtain⟨a2,am,ap⟩:=bs Y;refine C 8 V (Cj (Zx Z ac am) V V (A0 func104 V) ag λa3 aq aw=>?_);refine C 2 V ?_;obtain rfl:=oi ap;exact AS func64 V V (al aq V ⟨V,V⟩ aw)
def f73(fu_:Nat)(p0:Aw)(K:Aw):Option Bool:= (f74 fu_ p0 K).bind λO=> some (decide (O<0))
theorem bV{a1:Ao}{c2:Nat}{O:Ao}{U:Nat}{p0:Aw}{K:Aw}(Z:Al Ay E a1 c2 p0)(ac:Al Ay E O U K){fu_:Nat}{r:Bool}(Y:f73 fu_ p0 K=some r):AL J 78 [sV a1 p0 c2,sV O K U] E [] (λw E' B'=>w= .bool r/\B'= []):=by
 refine Bg func78 λQ a0 cs H ag al=>?_;unfold f73 at Y;obtain⟨a2,am,ap⟩:=bs Y;refine C 8 V (Cj (Ik Z ac am) V V H0 ag λa3 aq aw=>?_);refine C 3 V ?_;obtain rfl:=oi ap;exact AS func78 V V (al aq V ⟨V,V⟩ aw)
def f72(fu_:Nat)(p0:Aw×Bool)(K:Aw):Option ((Aw×Bool)):= Option.bind (if(!p0.2)=true then(some true) else((f73 fu_ K p0.1).bind λO=> some O)) λU=> Option.bind (if U=true then(some (K,true)) else(some p0)) λY=> some Y
theorem ck{bk:Nat}{a1:Ao}{c2:Nat}{K:Ao}{O:Nat}{p0:Aw×Bool}{U:Aw}(aq:Al Ay E a1 c2 p0.1)(aw:Al Ay E K O U){fu_:Nat}{r:(Aw×Bool)}(a0:f72 fu_ p0 U=some r):AL J 77 [Ak bk 0,sV K U O,(fV 78)] E [(bk,.cells #[sV a1 p0.1 c2,.bool p0.2] 112 (0,0))] (λw E' B'=>∃(a2:Ao) (a3:Nat),w= .tuple #[]/\B'= [(bk,.cells #[sV a2 r.1 a3,.bool r.2] 112 (0,0))]/\Al Ay E' a2 a3 r.1):=by
 refine Bg func77 λQ ct cs H Z a7=>?_;unfold f72 at a0;refine C 4 V (JL.fd underlying112 Ly V V V ?_);refine Am (v:= .bool p0.2) V (λρ h=>Yl.load Of (h _ _ V) (BR (j:=0) (off:=1) Z V V)) (Am (v:= .bool (!p0.2)) V (λρ h=>Yl.not (h _ _ V)) ?_);obtain⟨a8,a9,bb⟩:=bs a0;refine C 1 V (G6 [] (λL s=>∃(Y:LH),Jm E H Y [bX bk #[sV a1 p0.1 c2,.bool p0.2] 112] [(0,Ak bk 0),(1,sV K U O),(19,.bool a8)] L s) ?_ ?_)
 ·rintro _ _ ⟨Y,rfl,rfl,al,a4⟩;obtain⟨am,be,bi⟩:=bs bb;refine JL.done (Br (λL s=>∃(ap:LH) (ac:Ao) (ag:Nat),Jn Y H ap [bX bk #[sV ac am.1 ag,.bool am.2] 112] [] L s (Al Ay ap ac ag am.1)) ?_ ?_)
  ·rintro _ _ ⟨ap,ac,ag,rfl,rfl,bo,bv,bw⟩;obtain rfl:=oi bi;exact JL.fin (v:= .tuple #[]) V V (By.list func77 V (vs:= []) trivial) (a7 (al.Ad bo) V ⟨ac,ag,V,V,bw⟩ bv)
  ·intro a5;refine Cn be (λb0 b1=>?_) (λb0 b2=>?_)
   ·refine C 5 V (JL.fd underlying112 Bh V V V ?_);refine BF 0 a4 Bh λb3=>?_;refine C 1 V (JL.fd underlying112 Ly V V V ?_);refine BF 0 b3 Ly λb4=>?_;refine JL.done ?_;obtain rfl:=oi b1;exact AA (a5 _ _ ⟨Y,K,O,V,V,AF,b4,(aw.Ah al)⟩) V
   ·refine JL.skip ?_;obtain rfl:=oi b2;exact AA (a5 _ _ ⟨Y,a1,c2,V,V,AF,a4,(aq.Ah al)⟩) V
 ·intro a6;refine DX 11 a9 (λb5 b6=>?_) (λb5 ca=>?_)
  ·refine C 8 V ?_;obtain rfl:=oi b6;exact AA (a6 _ _ ⟨E,V,V,AF,Z⟩) V
  ·refine C 4 V (JL.fd underlying112 Bh V V V ?_);refine Am (v:= sV a1 p0.1 c2) V (λρ h=>Yl.load Bz (h _ _ V) (BR (j:=0) (off:=0) Z V V)) ?_;obtain⟨cw,cc,ce⟩:=bs ca;refine KW (vs:= [sV K U O,sV a1 p0.1 c2]) (bV aw aq cc) V V V V (A0 func78 V) V Z ?_;rintro _ ci _ co ⟨rfl,rfl⟩ cp;refine C 1 V ?_;obtain rfl:=oi ce;exact AA (a6 _ _ ⟨ci,V,V,co,cp⟩) V
variable {J:Judge Tryz.prog}
def So(fu_:Nat)(O:List Int)(K:(AG)×Int):Option (Bm ((AG)×Int) ((AG))):= if K.2<(O.length:Int) then((ix O K.2).bind λU=> (Av (((BC K.1 U).getD 0)+1)).bind λY=> (Av (K.2+1)).bind λZ=> some (.more ((Dg K.1 U Y),Z))) else(some (.done K.1))
def Sd(fu_:Nat)(p0:A5)(K:(List AG)×Int):Option (Bm ((List AG)×Int) ((List AG))):= if K.2<(p0.1.length:Int) then((ix p0.1 K.2).bind λO=> Option.bind (iter (So fu_ O) fu_ (([]:AG),0)) λU=> (room K.1 U).bind λY=> (Av (K.2+1)).bind λZ=> some (.more (Y,Z))) else(some (.done K.1))
def f120(fu_:Nat)(p0:A5):Option ((List AG)):= Option.bind (iter (Sd fu_ p0) fu_ ([],0)) λK=> some K
theorem aD{a1:Ao}{c2:Nat}{bo:Ao}{bv:Nat}{p0:A5}(ct:Al (rL rI) E a1 c2 p0.1)(dO:Al Ay E bo bv p0.2){fu_:Nat}{r:(List AG)}(bw:f120 fu_ p0=some r):AL J 97 [.agg #[sV a1 p0.1 c2,sV bo p0.2 bv]] E [] (λw E' B'=>∃(b0:Ao) (b1:Nat),w= sV b0 r b1/\B'= []/\Al (rM rI false rI false) E' b0 b1 r):=by
 refine Bg func97 λQ dP cs H cw cy=>?_;unfold f120 at bw;refine C 2 V (Dd cw λdQ a2 b2 cJ cK=>?_);refine C 9 V (JL.fd underlying78 CQ V V V ?_);refine BK 0 cJ underlying28 Fl FB ?_;refine JL.ln underlying25 V V V ?_;obtain⟨b3,cM,cO⟩:=bs bw;refine C 2 V (Br (λL s=>∃(a3:LH) (am:Ao) (ap:Nat) (a4:Seg),Jn a2 H a3 [a4] [(3,sV am b3 ap)] L s (OL 199 (rM rI false rI false) a3 am ap a4 b3)) ?_ ?_)
 ·rintro _ _ ⟨a3,am,ap,a4,rfl,rfl,cP,cQ,cR⟩;refine C 5 V (B6 0 cR cQ V λdR cT cV cW=>?_);obtain rfl:=oi cO;exact AS func97 V V (cy ((b2.Ad cP).Ad cT) V ⟨am,ap,V,V,cV⟩ cW)
 ·intro cX;refine JL.block (Cl cM (λL s K=>∃(O:LH) (U:Ao) (Y:Nat) (ac:Seg),Jn a2 H O [ac] [(3,sV U K.1 Y),(11,sV a1 p0.1 c2),(12,iV (p0.1.length:Int)),(13,iV K.2)] L s (OL 199 (rM rI false rI false) O U Y ac K.1)) ⟨a2,none,0,[],V,V,AF,cK,OL.nil⟩ ?_);rintro _ _ K ⟨O,U,Y,ac,rfl,rfl,a5,b4,b5⟩ cY ⟨dS,a6⟩ cZ;have b6:=a6;unfold Sd at b6;refine C 5 V (AV b6 (λc0 c1=>?_) (λc0 c3=>?_))
  ·obtain⟨ca,c4,c5⟩:=bs c1;refine C 5 V (JS.ix (ct.Ah (b2.Ad a5)) c4 underlying25 GG ?_);rintro dT dU _ ⟨c6,c7,rfl,c8⟩ c9;refine CY 0 c9 J8 V V V (C 4 V ?_);refine JS.makeMap V V V b4 λag da=>C 6 V (JL.ln underlying22 V V V ?_);obtain⟨cc,db,dc⟩:=bs c5;refine C 2 V (Br (λL s=>∃(a7:LH) (aq:Obj),Jn O H a7 [ac,[(ag,aq)]] [(3,sV U K.1 Y),(6,.map (some ag)),(11,sV a1 p0.1 c2),(12,iV (p0.1.length:Int)),(13,iV K.2)] L s (BA rI false rI false a7 aq cc)) ?_ ?_)
   ·rintro _ _ ⟨a7,aq,rfl,rfl,ce,dd,de⟩;refine C 3 V (OC 1 dd V λci a8 df dg=>?_);have dh:BA rI false rI false ci aq cc:=(de.Ah a8);obtain⟨di,dj,dk⟩:=bs dc;refine JS.app (pp:=(rM rI false rI false)) (v:= .map (some ag)) (a:=U) (c:=Y) 0 dj V V V V (λ_=>V) V (λ_=>V) V V V underlying152 underlying152 underlying152 Hy (CX type199) (Db type199) V (by decide) (by decide) (by decide) (by decide) (b5.Ah (ce.Ad a8)) ⟨_,_,V,df,dh⟩ dg V λdV dn dp dq dr dt=>?_;obtain⟨du,dv,dw⟩:=bs dk;refine C 4 V (Bo dv V V V ?_);refine C 2 V ?_;obtain rfl:=oi dw;exact AA (cZ _ _ (di,du) ⟨ci,dn,dp,dq,V,V,((a5.Ad ce).Ad a8),dt,dr⟩ a6) V
   ·intro dx;refine JL.block (Cl db (λL s Z=>∃(al:LH) (aw:Obj),Jn O H al [ac,[(ag,aw)]] [(3,sV U K.1 Y),(6,.map (some ag)),(11,sV a1 p0.1 c2),(12,iV (p0.1.length:Int)),(13,iV K.2),(18,sV c6 ca c7),(19,iV (ca.length:Int)),(20,iV Z.2)] L s (BA rI false rI false al aw Z.1)) ⟨O,(.map #[] 0),V,V,AF,da,BA.nil⟩ ?_);rintro _ _ Z ⟨al,aw,rfl,rfl,a9,bb,be⟩ dy ⟨dW,bi⟩ dz;have co:=bi;unfold So at co;refine C 5 V (AV co (λdA dB=>?_) (λdA dC=>?_))
    ·obtain⟨a0,dD,dE⟩:=bs dB;refine C 5 V (JS.ix (c8.Ah a9) dD underlying22 Ax ?_);rintro dX dY _ rfl dF;refine CY 0 dF AR V V V (C 5 V ?_);refine Am (v:=iV ((BC Z.1 a0).getD 0)) V (λρ h=>Yl.lookup (ok:=false) (xs:=Z.1) (x0:=a0) (z0:=0) IK underlying199 Ct ⟨_,V,V⟩ be ⟨_,V,V⟩ (by rintro _ ⟨_,rfl,rfl⟩;rfl) (h _ _ V) (h _ _ V) (Dh (j:=1) (i:=0) bb V V)) ?_;obtain⟨cp,dG,dH⟩:=bs dE;refine Bo dG V V V (JS.mapUpdate (xs:=Z.1) (x0:=a0) (v0:=cp) 1 IK underlying199 be ⟨_,V,V⟩ ⟨_,V,V⟩ bb V V V V V V V λdI dJ dK=>?_);obtain⟨dL,dM,dN⟩:=bs dH;refine C 3 V (Bo dM V V V ?_);refine C 2 V ?_;obtain rfl:=oi dN;exact AA (dz _ _ ((Dg Z.1 a0 cp),dL) ⟨al,dI,V,V,a9,dK,dJ⟩ bi) V
    ·refine JL.exit V ?_;obtain rfl:=oi dC;obtain rfl:=dy _ bi;exact AA (dx _ _ ⟨al,aw,V,V,a9,bb,be⟩) V
  ·refine JL.exit V ?_;obtain rfl:=oi c3;obtain rfl:=cY _ a6;exact AA (cX _ _ ⟨O,U,Y,ac,V,V,a5,b4,b5⟩) V
def TL(fu_:Nat)(p0:A5)(O:(List Int))(K:(List Int)×Int):Option (Bm ((List Int)×Int) ((List Int))):= if K.2<5 then((ix O K.2).bind λU=> Option.bind (if K.2<(p0.1.length:Int) then((ix p0.1 K.2).bind λY=> (f85 fu_ Y).bind λZ=> (Av (-(U))).bind λac=> some (decide (Z<ac))) else(some false)) λag=> Option.bind (if ag=true then((room K.1 K.2).bind λal=> some al) else(some K.1)) λam=> (Av (K.2+1)).bind λap=> some (.more (am,ap))) else(some (.done K.1))
def f39(fu_:Nat)(p0:A5):Option ((List Int)×Int):= (f70 fu_ p0 ([])).bind λK=> if K.2≠0 then(some ([],K.2)) else((f84 fu_ K.1).bind λO=> Option.bind (iter (TL fu_ p0 O) fu_ ([],0)) λU=> some (U,0))
theorem cb{a1:Ao}{c2:Nat}{b1:Ao}{b2:Nat}{p0:A5}(b3:Al (rL rI) E a1 c2 p0.1)(cw:Al Ay E b1 b2 p0.2){fu_:Nat}{r:(List Int)×Int}(b4:f39 fu_ p0=some r):AL J 22 [.agg #[sV a1 p0.1 c2,sV b1 p0.2 b2]] E [] (λw E' B'=>∃(b5:Ao) (b6:Nat),w= .tuple #[sV b5 r.1 b6,iV r.2]/\B'= []/\Al rI E' b5 b6 r.1):=by
 refine Bg func22 λQ dY cs H cy ca=>?_;unfold f39 at b4;refine C 2 V (Dd cy λa6 dZ al a7 cJ=>?_);refine C 5 V (BX a7 ER CQ V V ?_);obtain⟨ea,cK,cM⟩:=bs b4;refine BU (Ks (b3.Ah al) (cw.Ah al) Al.nil cK) V V J9 cJ ?_;rintro _ eb _ am ⟨ec,ed,ee,ef,rfl,rfl,cO,cP⟩ cQ;refine C 3 V (BM cQ Hx λeg cR=>?_);refine BF 3 cR Dl λcT=>?_;refine CF 3 cT V λeh O cV cc=>C 8 V (AV cM (λcW cX=>?_) (λcW cY=>?_))
 ·refine C 6 V ?_;obtain rfl:=oi cX;exact AS func22 V V (ca ((al.Ad am).Ad O) V ⟨none,0,V,V,Al.nil⟩ cc)
 ·refine C 8 V (BX cV FC Dl V V ?_);obtain⟨ei,cZ,c0⟩:=bs cY;refine BU (NM (cO.Ah O) (cP.Ah O) cZ) V V MF cc ?_;rintro _ a8 _ aq ⟨a9,rfl,rfl,c1⟩ c3;obtain⟨ce,c4,c5⟩:=bs c0;refine C 2 V (Br (λL s=>∃(bb:LH) (aw:Ao) (a0:Nat) (be:Seg),Jn a8 H bb [be] [(6,sV aw ce a0)] L s (OL 3 rI bb aw a0 be ce)) ?_ ?_)
  ·rintro _ _ ⟨bb,aw,a0,be,rfl,rfl,c6,c7,c8⟩;refine C 6 V (B6 0 c8 c7 V λej c9 da db=>?_);obtain rfl:=oi c5;exact AS func22 V V (ca (((((al.Ad am).Ad O).Ad aq).Ad c6).Ad c9) V ⟨aw,a0,V,V,da⟩ db)
  ·intro dc;refine JL.block (Cl c4 (λL s K=>∃(Z:LH) (U:Ao) (Y:Nat) (ac:Seg),Jn a8 H Z [ac] [(1,Ak a6 0),(6,sV U K.1 Y),(18,.agg a9.toArray),(19,iV K.2)] L s (OL 3 rI Z U Y ac K.1)) ⟨a8,none,0,[],V,V,AF,c3,OL.nil⟩ ?_);rintro _ _ K ⟨Z,U,Y,ac,rfl,rfl,ag,bi,bo⟩ dd ⟨ek,bv⟩ de;have ci:=bv;unfold TL at ci;refine C 5 V (AV ci (λdf dg=>?_) (λdf dh=>?_))
   ·obtain⟨el,di,dj⟩:=bs dg;refine C 6 V (Tn (Rp.Ah _ ag c1) di V V V V V underlying82 Ax AR ?_ (λ_=>V));rintro _ rfl;refine C 6 V (BK 0 (a7.Ah (((am.Ad O).Ad aq).Ad ag)) underlying28 Fl FB ?_);refine JL.ln underlying25 V V V ?_;obtain⟨dk,dn,dp⟩:=bs dj;refine C 2 V (G6 [] (λL s=>∃(ap:LH),Jm Z H ap [ac] [(1,Ak a6 0),(6,sV U K.1 Y),(7,iV K.2),(18,.agg a9.toArray),(19,iV K.2),(38,.bool dk)] L s) ?_ ?_)
    ·rintro _ _ ⟨ap,rfl,rfl,bw,co⟩;obtain⟨b0,dq,dr⟩:=bs dp;refine JL.done (Br (λL s=>∃(a2:LH) (a3:Ao) (a4:Nat) (a5:Seg),Jn ap H a2 [a5] [(1,Ak a6 0),(6,sV a3 b0 a4),(18,.agg a9.toArray),(19,iV K.2)] L s (OL 3 rI a2 a3 a4 a5 b0)) ?_ ?_)
     ·rintro _ _ ⟨a2,a3,a4,a5,rfl,rfl,dt,du,dv⟩;obtain⟨dw,dx,dy⟩:=bs dr;refine C 2 V (Bo dx V V V ?_);refine C 2 V ?_;obtain rfl:=oi dy;exact AA (de _ _ (b0,dw) ⟨a2,a3,a4,a5,V,V,((ag.Ad bw).Ad dt),du,dv⟩ bv) V
     ·intro cp;refine Cn dq (λdz dA=>?_) (λdz dB=>?_)
      ·obtain⟨em,dC,dD⟩:=bs dA;refine C 3 V (JS.app (pp:=rI) (v:=iV K.2) (a:=U) (c:=Y) 0 dC V V V V (λ_=>V) V (λ_=>V) V V V underlying22 underlying22 underlying22 Ax (CX type3) Ct V (by decide) (by decide) (by decide) (by decide) (bo.Ah bw) V co V λen dE dF dG dH dI=>?_);refine C 2 V ?_;obtain rfl:=oi dD;exact AA (cp _ _ ⟨ap,dE,dF,dG,V,V,AF,dI,dH⟩) V
      ·refine JL.skip ?_;obtain rfl:=oi dB;exact AA (cp _ _ ⟨ap,U,Y,ac,V,V,AF,co,(bo.Ah bw)⟩) V
    ·intro ct;refine Il 28 dn (λdJ dK=>?_) (λdJ dL=>?_)
     ·refine BK 0 (a7.Ah (((am.Ad O).Ad aq).Ad ag)) underlying28 Fl FB ?_;obtain⟨eo,dM,dN⟩:=bs dK;refine C 1 V (JS.ix (b3.Ah ((((al.Ad am).Ad O).Ad aq).Ad ag)) dM underlying25 GG ?_);rintro ep er _ ⟨et,eu,rfl,dO⟩ dP;refine CY 0 dP J8 V V V ?_;obtain⟨ew,dQ,dR⟩:=bs dN;refine Cj (HK dO dQ) V V Hw bi λdS dT dU=>?_;obtain⟨dV,dW,dX⟩:=bs dR;refine C 1 V (Am (v:=iV dV) V (λρ h=>G9 (h _ _ V) dW) ?_);refine C 2 V ?_;obtain rfl:=oi dX;exact AA (ct _ _ ⟨dS,V,V,dT,dU⟩) V
     ·refine C 10 V ?_;obtain rfl:=oi dL;exact AA (ct _ _ ⟨Z,V,V,AF,bi⟩) V
   ·refine JL.exit V ?_;obtain rfl:=oi dh;obtain rfl:=dd _ bv;exact AA (dc _ _ ⟨Z,U,Y,ac,V,V,ag,bi,bo⟩) V
def Sw(fu_:Nat)(p0:List Int)(O:Int)(K:Int):Option (Bm Int ((Int)⊕(Unit))):= if K<(p0.length:Int) then((ix p0 K).bind λU=> if O=U then(some (.done (Sum.inl K))) else((Av (K+1)).bind λY=> some (.more Y))) else(some (.done (Sum.inr ())))
def f128(fu_:Nat)(p0:List Int)(K:Int):Option Int:= Option.bind (iter (Sw fu_ p0 K) fu_ 0) λO=> Sum.elim (λr=>some r) (λU=> some (-1)) O
theorem aK{a1:Ao}{c2:Nat}{p0:List Int}{U:Int}(a2:Al rI E a1 c2 p0){fu_:Nat}{r:Int}(ac:f128 fu_ p0 U=some r):AL J 115 [sV a1 p0 c2,iV U] E [] (λw E' B'=>w=iV r/\B'= []):=by
 refine Bg func115 λQ ce cs H a3 ag=>?_;unfold f128 at ac;refine C 8 V (JL.ln underlying22 V V V ?_);obtain⟨al,a4,am⟩:=bs ac;refine C 2 V (Br (λL s=>∃(ap:Unit) (aq:LH),al=Sum.inr ap/\Jm E H aq [] [] L s) ?_ ?_)
 ·rintro _ _ ⟨ap,aq,rfl,rfl,rfl,a5,a6⟩;have a7:=elim_inr am;refine C 4 V ?_;obtain rfl:=oi a7;exact AS func115 V V (ag a5 V ⟨V,V⟩ a6)
 ·intro a8;refine JL.block (DZ a4 (λY=> []) (λY=> [(0,sV a1 p0 c2),(1,iV U),(7,iV (p0.length:Int)),(8,iV Y)]) AF a3 ?_);rintro Y a9 K Z aw ⟨ci,O⟩ bb;have a0:=O;unfold Sw at a0;refine C 5 V (AV a0 (λbe bi=>?_) (λbe bo=>?_))
  ·obtain⟨co,bv,bw⟩:=bs bi;refine C 13 V (JS.ix (a2.Ah K) bv underlying22 Ax ?_);rintro cp ct _ rfl b0;refine CY 0 b0 AR V V V (C 2 V ?_);refine AV bw (λb1 b2=>?_) (λb1 b3=>?_)
   ·refine C 5 V ?_;obtain rfl:=oi b2;obtain rfl:=aw _ O;have b4:=elim_inl am;obtain rfl:=oi b4;exact AS func115 V V (ag K V ⟨V,V⟩ Z)
   ·obtain⟨b5,b6,ca⟩:=bs b3;refine C 3 V (Bo b6 V V V ?_);refine C 2 V ?_;obtain rfl:=oi ca;exact bb b5 K Z V O
  ·refine JL.exit V ?_;obtain rfl:=oi bo;have cc:al=(Sum.inr ()):=(aw _ O).symm;exact AA (a8 _ _ ⟨(),a9,cc,V,V,K,Z⟩) V
def f82(fu_:Nat)(p0:List Int)(K:Int):Option Bool:= (f128 fu_ p0 K).bind λO=> some (decide (0<=O))
theorem bB{a1:Ao}{c2:Nat}{p0:List Int}{K:Int}(U:Al rI E a1 c2 p0){fu_:Nat}{r:Bool}(O:f82 fu_ p0 K=some r):AL J 86 [sV a1 p0 c2,iV K] E [] (λw E' B'=>w= .bool r/\B'= []):=by
 refine Bg func86 λQ ap cs H Y Z=>?_;unfold f82 at O;obtain⟨aq,ac,ag⟩:=bs O;refine C 8 V (Cj (aK U ac) V V (A0 func115 V) Y λaw al am=>?_);refine C 3 V ?_;obtain rfl:=oi ag;exact AS func86 V V (Z al V ⟨V,V⟩ am)
def Tl(fu_:Nat)(O:A5×Int)(K:(List ((Int×Int)×Bool))×Int):Option (Bm ((List ((Int×Int)×Bool))×Int) ((List ((Int×Int)×Bool)))):= if K.2<(O.1.2.length:Int) then((ix O.1.2 K.2).bind λU=> (Av (K.2+1)).bind λY=> some (.more ((Dg K.1 (U.1,U.2.1) true),Y))) else(some (.done K.1))
def TC(fu_:Nat)(U:A5×Int)(Y:(List ((Int×Int)×Bool)))(O:List Int)(K:Bn×Int):Option (Bm (Bn×Int) (Bn)):= if K.2<(U.1.1.length:Int) then(Option.bind ((f82 fu_ O K.2).bind λZ=> Option.bind (if Z=true then(some true) else(if 0<(O.length:Int) then((Av ((O.length:Int) - 1)).bind λac=> (ix O ac).bind λag=> some (!((BC Y (ag,K.2)).getD false))) else(some false))) λal=> if al=true then(some K.1) else((Dy O ([K.2]:List Int)).bind λam=> (room K.1 am).bind λap=> some ap)) λaq=> (Av (K.2+1)).bind λaw=> some (.more (aq,aw))) else(some (.done K.1))
def TJ(fu_:Nat)(Z:A5×Int)(U:(List ((Int×Int)×Bool)))(Y:Bn)(O:Bn×Int):Option (Bm (Bn×Int) (((List Int)×Int)⊕(Bn))):= if O.2<(Y.length:Int) then((ix Y O.2).bind λK=> Option.bind (if 1<(K.length:Int) then((Av ((K.length:Int) - 1)).bind λac=> (ix K ac).bind λag=> (ix K (0)).bind λal=> some ((BC U (ag,al)).getD false)) else(some false)) λam=> if am=true then(some (.done (Sum.inl (K,0)))) else(Option.bind (iter (TC fu_ Z U K) fu_ (O.1,0)) λap=> (Av (O.2+1)).bind λaq=> some (.more (ap,aq)))) else(some (.done (Sum.inr O.1)))
def TH(fu_:Nat)(U:A5×Int)(Y:(List ((Int×Int)×Bool)))(K:Bn):Option (Bm (Bn) (((List Int)×Int)⊕(Unit))):= if 0<(K.length:Int) then(Option.bind (iter (TJ fu_ U Y K) fu_ ([],0)) λZ=> Sum.elim (λr=>some (.done (Sum.inl r))) (λO=> if(O.length:Int)=0 then(some (.done (Sum.inr ()))) else(some (.more O))) Z) else(some (.done (Sum.inr ())))
def f33(fu_:Nat)(p0:A5):Option ((List Int)×Int):= (f70 fu_ p0 ([])).bind λK=> if K.2≠0 then(some ([],K.2)) else(Option.bind (iter (Tl fu_ K) fu_ (([]:List ((Int×Int)×Bool)),0)) λO=> Option.bind (iter (TH fu_ K O) fu_ ([[]]:Bn)) λU=> Sum.elim (λr=>some r) (λY=> some ([],11)) U)
theorem b7{a1:Ao}{c2:Nat}{dk:Ao}{dn:Nat}{p0:A5}(dV:Al (rL rI) E a1 c2 p0.1)(dW:Al Ay E dk dn p0.2){fu_:Nat}{r:(List Int)×Int}(dp:f33 fu_ p0=some r):AL J 45 [.agg #[sV a1 p0.1 c2,sV dk p0.2 dn]] E [] (λw E' B'=>∃(dq:Ao) (dr:Nat),w= .tuple #[sV dq r.1 dr,iV r.2]/\B'= []/\Al rI E' dq dr r.1):=by
 refine Bg func45 λQ gZ cs H dX c4=>?_;unfold f33 at dp;refine C 2 V (Dd dX λg0 g1 b4 dY dZ=>?_);refine C 6 V (BX dY ER CQ V V ?_);obtain⟨b5,ea,eb⟩:=bs dp;refine BU (Ks (dV.Ah b4) (dW.Ah b4) Al.nil ea) V V J9 dZ ?_;rintro _ g3 _ c5 ⟨g4,g5,ec,ed,rfl,rfl,g6,ee⟩ ef;refine C 3 V (BM ef Hx λag eg=>?_);refine BF 3 eg Dl λeh=>?_;refine CF 3 eh V λc6 cp dt du=>C 8 V (AV eb (λei ej=>?_) (λei ek=>?_))
 ·refine C 6 V ?_;obtain rfl:=oi ej;exact AS func45 V V (c4 ((b4.Ad c5).Ad cp) V ⟨none,0,V,V,Al.nil⟩ du)
 ·refine C 3 V (JS.makeMap V V V du λK el=>?_);refine C 5 V (JL.fd underlying78 CQ V V V ?_);refine BK 1 dt underlying28 Gp HZ ?_;refine JL.ln underlying26 V V V ?_;obtain⟨bi,em,en⟩:=bs ek;refine C 2 V (Br (λL s=>∃(bo:LH) (ac:Obj),Jn c6 H bo [[(K,ac)]] [(4,Ak ag 0),(6,.map (some K))] L s (BA Ee true rB false bo ac bi)) ?_ ?_)
  ·rintro _ _ ⟨bo,ac,rfl,rfl,c7,eo,dv⟩;refine C 2 V (FU (pp:=(rL rI)) [nS] [[]] V V V underlying25 GG Lu (by decide) V V V ⟨⟨_,_,V,Al.nil⟩,trivial⟩ eo λep er et eu=>?_);refine C 3 V (JL.label ?_);obtain⟨c8,ew,dw⟩:=bs en;refine JL.seq (Br (λL s=>∃(dx:Unit) (dy:LH),c8=Sum.inr dx/\Jm bo H dy [] [] L s) ?_ ?_)
   ·rintro _ _ ⟨dx,dy,rfl,rfl,rfl,ex,ey⟩;have ez:=elim_inr dw;refine C 5 V ?_;obtain rfl:=oi ez;exact AS func45 V V (c4 ((((b4.Ad c5).Ad cp).Ad c7).Ad ex) V ⟨none,0,V,V,Al.nil⟩ ey)
   ·intro dz;refine JL.block (Cl ew (λL s O=>∃(a4:LH) (al:Ao) (am:Nat) (ap:Seg),Jn bo H a4 [[(K,ac)],ap] [(4,Ak ag 0),(6,.map (some K)),(9,sV al O am)] L s (OL 22 (rL rI) a4 al am ap O)) ⟨bo,(AW ep),1,er,V,V,AF,eu,et⟩ ?_);rintro _ _ O ⟨a4,al,am,ap,rfl,rfl,a5,dA,eA⟩ c9 ⟨g7,b6⟩ eB;have dB:=b6;unfold TH at dB;refine C 4 V (JL.ln underlying25 V V V ?_);refine C 2 V (AV dB (λeC eE=>?_) (λeC eF=>?_))
    ·refine C 10 V (JL.ln underlying25 V V V ?_);obtain⟨dC,eG,dD⟩:=bs eE;refine C 2 V (Br (λL s=>∃(ca:Bn) (cc:LH) (ct:Ao) (cw:Nat) (cy:Seg),dC=Sum.inr ca/\Jn a4 H cc [[(K,ac)],cy] [(4,Ak ag 0),(6,.map (some K)),(10,sV ct ca cw)] L s (OL 22 (rL rI) cc ct cw cy ca)) ?_ ?_)
     ·rintro _ _ ⟨ca,cc,ct,cw,cy,rfl,rfl,rfl,dE,dF,eH⟩;have eI:=elim_inr dD;refine C 8 V (JL.ln underlying25 V V V ?_);refine C 2 V (AV eI (λeJ eK=>?_) (λeJ eL=>?_))
      ·refine JL.exit V (JS.drop 0 dF V λeM=>?_);refine JS.drop 1 eM V λeN=>?_;obtain rfl:=oi eK;have eO:c8=(Sum.inr ()):=(c9 _ b6).symm;exact AA (dz _ _ ⟨(),cc,eO,V,V,(a5.Ad dE),eN⟩) V
      ·refine C 2 V ?_;obtain rfl:=oi eL;exact AA (eB _ _ ca ⟨cc,ct,cw,cy,V,V,(a5.Ad dE),dF,eH⟩ b6) V
     ·intro eP;refine JL.block (Cl eG (λL s Y=>∃(aw:LH) (bv:Ao) (bw:Nat) (b0:Seg),Jn a4 H aw [[(K,ac)],ap,b0] [(4,Ak ag 0),(6,.map (some K)),(10,sV bv Y.1 bw),(43,sV al O am),(44,iV (O.length:Int)),(45,iV Y.2)] L s (OL 22 (rL rI) aw bv bw b0 Y.1)) ⟨a4,none,0,[],V,V,AF,dA,OL.nil⟩ ?_);rintro _ _ Y ⟨aw,bv,bw,b0,rfl,rfl,a6,ce,dG⟩ dH ⟨g8,cJ⟩ eQ;have dI:=cJ;unfold TJ at dI;refine C 5 V (AV dI (λeR eS=>?_) (λeR eT=>?_))
      ·obtain⟨a0,eU,eV⟩:=bs eS;refine C 5 V (I6 1 (eA.Ah a6) eU V V V V V V underlying25 GG ?_);rintro g9 ha f155 _ eW ⟨a7,b1,rfl,a2⟩ eX hb hc hd he;refine Am (v:= sV a7 a0 b1) V (λρ h=>Yl.load J8 (h _ _ V) (BR (j:=1) ce eW (eX 0 _ V))) (C 6 V ?_);refine JL.ln underlying22 V V V (C 3 V ?_);refine PM 15 λZ=>Bc Z V [0,1,2] V ?_;obtain⟨eY,dJ,eZ⟩:=bs eV;refine Gr 0 #[true,true,true,true,true,true,true,true,true,true,true,true,true,true,true] (λL s=>L= [(4,Ak ag 0),(6,.map (some K)),(10,sV bv Y.1 bw),(12,sV a7 a0 b1),(43,sV al O am),(44,iV (O.length:Int)),(45,iV Y.2),(65,.bool eY)]/\s=Aj aw H [[(K,ac)],ap,b0]) ?_ ?_
       ·rintro _ _ ⟨rfl,rfl⟩;refine AO.fin (by decide+kernel) (Cn eZ (λe0 e1=>?_) (λe0 e3=>?_))
        ·refine C 6 V (JS.drop 0 ce V λe4=>?_);refine JS.drop 1 e4 V λe5=>JS.drop 2 e5 V λe6=>?_;obtain rfl:=oi e1;obtain rfl:=dH _ cJ;have e7:=elim_inl dD;obtain rfl:=oi e7;obtain rfl:=c9 _ b6;have e8:=elim_inl dw;obtain rfl:=oi e8;exact AS func45 V V (c4 (((((b4.Ad c5).Ad cp).Ad c7).Ad a5).Ad a6) V ⟨a7,b1,V,V,a2⟩ e6)
        ·refine C 3 V (JL.fd underlying78 CQ V V V ?_);refine BK 0 (dt.Ah ((c7.Ad a5).Ad a6)) underlying28 Fl FB ?_;refine JL.ln underlying25 V V V ?_;obtain⟨da,e9,fa⟩:=bs e3;refine C 2 V (Br (λL s=>∃(cK:LH) (cM:Ao) (cO:Nat) (cP:Seg),Jn aw H cK [[(K,ac)],ap,cP] [(4,Ak ag 0),(6,.map (some K)),(10,sV cM da cO),(43,sV al O am),(44,iV (O.length:Int)),(45,iV Y.2)] L s (OL 22 (rL rI) cK cM cO cP da)) ?_ ?_)
         ·rintro _ _ ⟨cK,cM,cO,cP,rfl,rfl,fb,fc,fe⟩;obtain⟨ff,fg,fh⟩:=bs fa;refine C 2 V (Bo fg V V V ?_);refine C 2 V ?_;obtain rfl:=oi fh;exact AA (eQ _ _ (da,ff) ⟨cK,cM,cO,cP,V,V,(a6.Ad fb),fc,fe⟩ cJ) V
         ·intro fj;refine JL.block (Cl e9 (λL s U=>∃(ci:LH) (a8:Ao) (a9:Nat) (b2:Seg),Jn aw H ci [[(K,ac)],ap,b2] [(4,Ak ag 0),(6,.map (some K)),(10,sV a8 U.1 a9),(12,sV a7 a0 b1),(43,sV al O am),(44,iV (O.length:Int)),(45,iV Y.2),(70,iV (b5.1.1.length:Int)),(71,iV U.2)] L s (OL 22 (rL rI) ci a8 a9 b2 U.1)) ⟨aw,bv,bw,b0,V,V,AF,ce,dG⟩ ?_);rintro _ _ U ⟨ci,a8,a9,b2,rfl,rfl,a3,dK,db⟩ fk ⟨hf,dc⟩ fl;have dL:=dc;unfold TC at dL;refine C 5 V (AV dL (λfm fo=>?_) (λfm fp=>?_))
          ·obtain⟨dd,fq,fs⟩:=bs fo;refine C 2 V (Br (λL s=>∃(cQ:LH) (cR:Ao) (cT:Nat) (cV:Seg),Jn ci H cQ [[(K,ac)],ap,cV] [(4,Ak ag 0),(6,.map (some K)),(10,sV cR dd cT),(12,sV a7 a0 b1),(43,sV al O am),(44,iV (O.length:Int)),(45,iV Y.2),(70,iV (b5.1.1.length:Int)),(71,iV U.2)] L s (OL 22 (rL rI) cQ cR cT cV dd)) ?_ ?_)
           ·rintro _ _ ⟨cQ,cR,cT,cV,rfl,rfl,fu,fv,fw⟩;obtain⟨fx,fy,fz⟩:=bs fs;refine JL.region (Bo fy V V V ?_);refine C 2 V ?_;obtain rfl:=oi fz;exact AA (fl _ _ (dd,fx) ⟨cQ,cR,cT,cV,V,V,(a3.Ad fu),fv,fw⟩ dc) V
           ·intro dM;obtain⟨hg,fA,fB⟩:=bs fq;refine C 11 V (Cj (bB (a2.Ah a3) fA) V V (A0 func86 V) dK λcW aq cX=>?_);obtain⟨fC,fD,fE⟩:=bs fB;refine C 1 V (G6 [] (λL s=>∃(de:LH),Jm cW H de [[(K,ac)],ap,b2] [(4,Ak ag 0),(6,.map (some K)),(10,sV a8 U.1 a9),(12,sV a7 a0 b1),(14,iV U.2),(43,sV al O am),(44,iV (O.length:Int)),(45,iV Y.2),(70,iV (b5.1.1.length:Int)),(71,iV U.2),(94,.bool fC)] L s) ?_ ?_)
            ·rintro _ _ ⟨de,rfl,rfl,bb,dN⟩;refine JL.done (Cn fE (λfF fG=>?_) (λfF fH=>?_))
             ·refine JL.exit V ?_;obtain rfl:=oi fG;exact AA (dM _ _ ⟨de,a8,a9,b2,V,V,(aq.Ad bb),dN,(db.Ah (aq.Ad bb))⟩) V
             ·refine C 5 V (JL.ln underlying22 V V V ?_);refine C 1 V (JL.ln underlying22 V V V ?_);refine Am (v:= .slice a7 a0.length a0.length) V (λρ h=>QQ (Al.spot (a2.Ah ((a3.Ad aq).Ad bb))) (And.left (a2.Ah ((a3.Ad aq).Ad bb))) underlying22 Ax (h _ _ V) (h _ _ V) (h _ _ V)) (C 1 V ?_);refine FU (pp:=rI) [iV U.2] [U.2] V V V underlying22 Ax Ct (by decide) V V V ⟨V,trivial⟩ dN λhj hk fI fJ=>B6 3 fI fJ V λhl df fK fL=>?_;obtain⟨fM,fN,fO⟩:=bs fH;refine Vp (pp:=rI) fN V V V V V V V underlying22 underlying22 Ax (CX type3) Ct V (by decide) (by decide) (a2.Ah (((a3.Ad aq).Ad bb).Ad df)) fK fL λfP fQ fR dO fS fT=>?_;obtain⟨hm,fU,fW⟩:=bs fO;refine JS.app (pp:=(rL rI)) (v:= sV fQ fM fR) (a:=a8) (c:=a9) 2 fU V V V V (λ_=>V) V (λ_=>V) V V V underlying25 underlying25 underlying25 GG (CX type22) Lu V (by decide) (by decide) (by decide) (by decide) (db.Ah (((aq.Ad bb).Ad df).Ad dO)) ⟨_,_,V,fS⟩ fT V λhn fX fY fZ ga gb=>C 3 V ?_;obtain rfl:=oi fW;exact AA (dM _ _ ⟨fP,fX,fY,fZ,V,V,(((aq.Ad bb).Ad df).Ad dO),gb,ga⟩) V
            ·intro dg;refine DX 77 fD (λgc ge=>?_) (λgc gf=>?_)
             ·refine C 17 V ?_;obtain rfl:=oi ge;exact AA (dg _ _ ⟨cW,V,V,AF,cX⟩) V
             ·refine C 1 V (JL.ln underlying22 V V V ?_);refine C 2 V (Il 81 gf (λgg gh=>?_) (λgg gi=>?_))
              ·refine C 3 V (JL.ln underlying22 V V V ?_);obtain⟨ho,gj,gk⟩:=bs gh;refine Cd gj V V V ?_;obtain⟨cY,gl,gm⟩:=bs gk;refine JS.ix (a2.Ah (a3.Ad aq)) gl underlying22 Ax ?_;rintro hp hq _ rfl gn;refine CY 0 gn AR V V V (C 1 V ?_);refine Am (v:= .agg #[iV cY,iV U.2]) V (λρ h=>CI [(0,1),(1,1)] h IV underlying122 ⟨V,AN type3,V,AN type3,trivial⟩ V V) (Am (v:= .bool (((BC bi (cY,U.2)).getD false))) V (λρ h=>Yl.lookup (ok:=false) (xs:=bi) (x0:=(cY,U.2)) (z0:=false) Ps underlying124 Lw ⟨_,V,V⟩ (dv.Ah (((a5.Ad a6).Ad a3).Ad aq)) ⟨_,⟨_,_,V,V,V⟩,V⟩ (by rintro _ ⟨_,rfl,rfl⟩;rfl) (h _ _ V) (h _ _ V) (Dh (j:=0) (i:=0) cX V V)) ?_);refine Am (v:= .bool ((!((BC bi (cY,U.2)).getD false)))) V (λρ h=>Yl.not (h _ _ V)) (C 2 V ?_);obtain rfl:=oi gm;exact AA (dg _ _ ⟨cW,V,V,AF,cX⟩) V
              ·refine C 13 V ?_;obtain rfl:=oi gi;exact AA (dg _ _ ⟨cW,V,V,AF,cX⟩) V
          ·refine JL.exit V ?_;obtain rfl:=oi fp;obtain rfl:=fk _ dc;exact AA (fj _ _ ⟨ci,a8,a9,b2,V,V,a3,dK,db⟩) V
       ·intro dP;refine G5 (q:=1<(a0.length:Int)) (i:=53) V (λdh=>?_) (λdh=>?_)
        ·have gp:=ip dJ dh;refine Bc Z V [3,4,5] V ?_;obtain⟨hr,gq,gr⟩:=bs gp;refine AP 6 Z V V (λρ h s' be=>Dp (h _ _ V) (h _ _ V) gq) ?_;obtain⟨cZ,gt,gu⟩:=bs gr;refine Fe 7 a2 gt Z underlying22 Ax ?_;rintro hs ht _ rfl gv;refine AP (v:=iV cZ) 8 Z V V (λρ h s' be=>Yl.load AR (h _ _ V) (L9 be (At.Je (j:=0) gv V))) ?_;refine Ds 9 Z V V ?_;obtain⟨c0,gw,gx⟩:=bs gu;refine Fe 10 a2 gw Z underlying22 Ax ?_;rintro hu hv _ rfl gy;refine AP (v:=iV c0) 11 Z V V (λρ h s' be=>Yl.load AR (h _ _ V) (L9 be (At.Je (j:=0) gy V))) ?_;refine AP (v:= .agg #[iV cZ,iV c0]) 12 Z V V (λρ h s' be=>CI [(0,1),(1,1)] h IV underlying122 ⟨V,AN type3,V,AN type3,trivial⟩ V V) ?_;refine AP (v:= .bool (((BC bi (cZ,c0)).getD false))) 13 Z V V (λρ h s' be=>Yl.lookup (ok:=false) (xs:=bi) (x0:=(cZ,c0)) (z0:=false) Ps underlying124 Lw ⟨_,V,V⟩ (dv.Ah (a5.Ad a6)) ⟨_,⟨_,_,V,V,V⟩,V⟩ (by rintro _ ⟨_,rfl,rfl⟩;rfl) (h _ _ V) (h _ _ V) (P4 be (Dh (j:=0) (i:=0) ce V V))) ?_;refine Ds 14 Z V V ?_;obtain rfl:=oi gx;refine Eh ?_ (dP _ _ ⟨V,V⟩);exact⟨V,V,V,V,V,V,V,V,trivial⟩
        ·have gz:=im dJ dh;refine Bc Z V [3,4,5,6,7,8,9,10,11,12,13,14] V ?_;obtain rfl:=oi gz;refine Eh ?_ (dP _ _ ⟨V,V⟩);exact⟨V,V,V,V,V,V,V,V,trivial⟩
      ·refine JL.exit V (JS.drop 1 ce V λgA=>?_);obtain rfl:=oi eT;have gB:dC=(Sum.inr Y.1):=(dH _ cJ).symm;exact AA (eP _ _ ⟨Y.1,aw,bv,bw,b0,gB,V,V,a6,gA,dG⟩) V
    ·refine JL.exit V (JS.drop 0 dA V λgC=>?_);refine JS.drop 1 gC V λgD=>?_;obtain rfl:=oi eF;have gE:c8=(Sum.inr ()):=(c9 _ b6).symm;exact AA (dz _ _ ⟨(),a4,gE,V,V,a5,gD⟩) V
  ·intro gF;refine JL.block (Cl em (λL s co=>∃(c1:LH) (c3:Obj),Jn c6 H c1 [[(K,c3)]] [(4,Ak ag 0),(6,.map (some K)),(26,sV ec b5.1.2 ed),(27,iV (b5.1.2.length:Int)),(28,iV co.2)] L s (BA Ee true rB false c1 c3 co.1)) ⟨c6,(.map #[] 0),V,V,AF,el,BA.nil⟩ ?_);rintro _ _ co ⟨c1,c3,rfl,rfl,di,dQ,dR⟩ gG ⟨hw,dj⟩ gH;have dS:=dj;unfold Tl at dS;refine C 5 V (AV dS (λgI gJ=>?_) (λgI gK=>?_))
   ·obtain⟨b3,gL,gM⟩:=bs gJ;refine C 5 V (JS.ix (ee.Ah (cp.Ad di)) gL underlying26 A9 ?_);rintro hx hy _ ⟨_,_,rfl,rfl,⟨_,_,rfl,rfl,rfl⟩⟩ gO;refine BX gO Da A9 V V (BM dQ Bx λhz gP=>?_);refine BF 1 gP A9 λgQ=>?_;refine CF 1 gQ V λgR dT dU gS=>C 3 V (BK 0 dU underlying42 Ax AR ?_);refine BK 1 dU underlying42 Ax AR ?_;refine Am (v:= .agg #[iV b3.1,iV b3.2.1]) V (λρ h=>CI [(0,1),(1,1)] h IV underlying122 ⟨V,AN type3,V,AN type3,trivial⟩ V V) (JS.mapUpdate (xs:=co.1) (x0:=(b3.1,b3.2.1)) (v0:=true) 0 Ps underlying124 (dR.Ah dT) ⟨_,⟨_,_,V,V,V⟩,V⟩ ⟨_,V,V⟩ gS V V V V V V V λgT gU gV=>?_);obtain⟨gW,gX,gY⟩:=bs gM;refine C 3 V (Bo gX V V V ?_);refine C 2 V ?_;obtain rfl:=oi gY;exact AA (gH _ _ ((Dg co.1 (b3.1,b3.2.1) true),gW) ⟨gR,gT,V,V,(di.Ad dT),gV,gU⟩ dj) V
   ·refine JL.exit V ?_;obtain rfl:=oi gK;obtain rfl:=gG _ dj;exact AA (gF _ _ ⟨c1,c3,V,V,di,dQ,dR⟩) V
variable {J:Judge Tryz.prog}
def S2:List Nat:= [0,1,2,2,3,3,3,3,4,4,4,4,4,4,4,4,5,5,5,5,5,5,5,5,5,5,5,5,5,5,5,5,6,6,6,6,6,6,6,6,6,6,6,6,6,6,6,6,6,6,6,6,6,6,6,6,6,6,6,6,6,6,6,6,7,7,7,7,7,7,7,7,7,7,7,7,7,7,7,7,7,7,7,7,7,7,7,7,7,7,7,7,7,7,7,7,7,7,7,7,7,7,7,7,7,7,7,7,7,7,7,7,7,7,7,7,7,7,7,7,7,7,7,7,7,7,7,7,8,8,8,8,8,8,8,8,8,8,8,8,8,8,8,8,8,8,8,8,8,8,8,8,8,8,8,8,8,8,8,8,8,8,8,8,8,8,8,8,8,8,8,8,8,8,8,8,8,8,8,8,8,8,8,8,8,8,8,8,8,8,8,8,8,8,8,8,8,8,8,8,8,8,8,8,8,8,8,8,8,8,8,8,8,8,8,8,8,8,8,8,8,8,8,8,8,8,8,8,8,8,8,8,8,8,8,8,8,8,8,8,8,8,8,8,8,8,8,8,8,8,8,8,8,8,8,8]
def f146(fu_:Nat)(p0:Nat):Option Int:= Option.bind (if(((4294967296):Nat):Int)<=(((p0):Nat):Int) then(some (p0>>>32,32)) else(some (p0,0))) λK=> Option.bind (if(((65536):Nat):Int)<=(((K.1):Nat):Int) then((Av (K.2+16)).bind λY=> some (K.1>>>16,Y)) else(some K)) λO=> Option.bind (if(((256):Nat):Int)<=(((O.1):Nat):Int) then((Av (O.2+8)).bind λZ=> some (O.1>>>8,Z)) else(some O)) λU=> (Qa S2 (((((U.1) % 256):Nat):Int))).bind λac=> (Av (((ac):Nat):Int)).bind λag=> (Av (U.2+ag)).bind λal=> some al
theorem aU{p0:Nat}{fu_:Nat}{r:Int}(Y:f146 fu_ p0=some r):AL J 155 [.int .u64 ((p0:Nat):Int)] E [] (λw E' B'=>w=iV r/\B'= []):=by
 refine Bg func155 λQ cw cs H Z aq=>?_;unfold f146 at Y;obtain⟨K,aw,a0⟩:=bs Y;refine C 10 V (EM [] [(0,.int .u64 ((K.1:Nat):Int)),(2,iV K.2)] (λcy a1 ac=>?_) (λag=>?_))
 ·obtain⟨O,a2,a3⟩:=bs a0;refine C 6 V (EM [] [(0,.int .u64 ((O.1:Nat):Int)),(2,iV O.2)] (λcJ a4 al=>?_) (λam=>?_))
  ·obtain⟨U,a5,a6⟩:=bs a3;refine C 6 V (EM [] [(0,.int .u64 ((U.1:Nat):Int)),(2,iV U.2)] (λcK a7 a8=>?_) (λap=>?_))
   ·refine C 4 V (Am (v:= .int .u8 (((U.1) % 256:Nat):Int)) V (λρ h=>XR underlying72 underlying5 (h _ _ V)) ?_);obtain⟨a9,bb,be⟩:=bs a6;refine Am (v:= .int .u8 ((a9:Nat):Int)) V (λρ h=>VM (l:=S2) (by decide+kernel) underlying9 (h _ _ V) (h _ _ V) bb) ?_;obtain⟨bi,bo,bv⟩:=bs be;refine Am (v:=iV bi) V (λρ h=>X1 underlying5 underlying3 (h _ _ V) bo) ?_;obtain⟨cM,bw,b0⟩:=bs bv;refine Bo bw V V V (C 2 V ?_);obtain rfl:=oi b0;exact AS func155 V V (aq ((a1.Ad a4).Ad a7) V ⟨V,V⟩ a8)
   ·refine AV a5 (λb1 b2=>?_) (λb1 b3=>?_)
    ·refine C 3 V (Am (v:= .int .u64 ((O.1>>>8:Nat):Int)) V (λρ h=>K2 8 (h _ _ V) (h _ _ V) (by decide)) ?_);obtain⟨cO,b4,b5⟩:=bs b2;refine C 4 V (Bo b4 V V V ?_);refine C 2 V ?_;obtain rfl:=oi b5;exact ap AF al V
    ·refine JL.skip ?_;obtain rfl:=oi b3;exact ap AF al V
  ·refine AV a2 (λb6 ca=>?_) (λb6 cc=>?_)
   ·refine C 3 V (Am (v:= .int .u64 ((K.1>>>16:Nat):Int)) V (λρ h=>K2 16 (h _ _ V) (h _ _ V) (by decide)) ?_);obtain⟨cP,ce,ci⟩:=bs ca;refine C 4 V (Bo ce V V V ?_);refine C 2 V ?_;obtain rfl:=oi ci;exact am AF ac V
   ·refine JL.skip ?_;obtain rfl:=oi cc;exact am AF ac V
 ·refine AV aw (λco cp=>?_) (λco ct=>?_)
  ·refine C 3 V (Am (v:= .int .u64 ((p0>>>32:Nat):Int)) V (λρ h=>K2 32 (h _ _ V) (h _ _ V) (by decide)) ?_);refine C 5 V ?_;obtain rfl:=oi cp;exact ag AF Z V
  ·refine JL.skip ?_;obtain rfl:=oi ct;exact ag AF Z V
def f115(fu_:Nat)(p0:Nat):Option Int:= (f146 fu_ p0).bind λK=> some K
theorem NC{p0:Nat}{fu_:Nat}{r:Int}(K:f115 fu_ p0=some r):AL J 103 [.int .u64 ((p0:Nat):Int)] E [] (λw E' B'=>w=iV r/\B'= []):=by
 refine Bg func103 λQ al cs H O U=>?_;unfold f115 at K;obtain⟨am,Y,Z⟩:=bs K;refine C 10 V (Cj (aU Y) V V (A0 func155 V) O λap ac ag=>?_);refine C 2 V ?_;obtain rfl:=oi Z;exact AS func103 V V (U ac V ⟨V,V⟩ ag)
def Sk(fu_:Nat)(Y:Int)(K:Int×Aw):Option (Bm (Int×Aw) (Aw)):= Option.bind (if Y<K.1 then((ix K.2 K.1).bind λZ=> (Av (K.1 - 1)).bind λac=> (ix K.2 ac).bind λag=> (f113 fu_ Z ag).bind λal=> some (decide (al<0))) else(some false)) λam=> if am=true then((Av (K.1 - 1)).bind λO=> (Av (K.1 - 1)).bind λap=> (ix K.2 ap).bind λU=> (ix K.2 K.1).bind λaq=> (ix (K.2.set (Int.toNat K.1) U) O).bind λa0=> (Av (K.1 - 1)).bind λaw=> some (.more (aw,((K.2.set (Int.toNat K.1) U).set (Int.toNat O) aq)))) else(some (.done K.2))
def Su(fu_:Nat)(O:Int)(p2:Int)(K:Int×Aw):Option (Bm (Int×Aw) (Aw)):= if K.1<p2 then(Option.bind (iter (Sk fu_ O) fu_ K) λU=> (Av (K.1+1)).bind λY=> some (.more (Y,U))) else(some (.done K.2))
def f193(fu_:Nat)(p0:Aw)(K:Int)(p2:Int):Option (Aw):= (Av (K+1)).bind λO=> Option.bind (iter (Su fu_ K p2) fu_ (O,p0)) λU=> some U
theorem Y7{K:Nat}{U:Nat}{nw:Nat}{a8:Av_}{p0:Aw}{al:Int}{p2:Int}(hW:WL 42 Ay E K U nw a8 p0){fu_:Nat}{r:Aw}(bv:f193 fu_ p0 al p2=some r):AL J 179 [.slice (AW K) nw U,iV al,iV p2,(fV 105)] E [(K,.cells a8 42 (0,0))] (λw E' B'=>∃(bw:Av_),w= .tuple #[]/\B'= [(K,.cells bw 42 (0,0))]/\WL 42 Ay E' K U nw bw r):=by
 refine Bg func179 λQ dN cs H cy cJ=>?_;unfold f193 at bv;obtain⟨dO,cK,cM⟩:=bs bv;refine C 3 V (Bo cK V V V ?_);obtain⟨cO,cP,cQ⟩:=bs cM;refine C 2 V (Br (λL s=>∃(a9:LH) (f17:Av_),Jn E H a9 [bX K f17 42] [] L s (WL 42 Ay a9 K U nw f17 cO)) ?_ ?_)
 ·rintro _ _ ⟨a9,f17,rfl,rfl,cR,cT,cV⟩;obtain rfl:=oi cQ;exact JL.fin (v:= .tuple #[]) V V (By.list func179 V (vs:= []) trivial) (cJ cR V ⟨f17,V,(by first | rfl | simp | (simp [Value.cells])),cV⟩ cT)
 ·intro cW;refine JL.block (Cl cP (λL s ap=>∃(am:LH) (f25:Av_),Jn E H am [bX K f25 42] [(0,.slice (AW K) nw U),(1,iV al),(2,iV p2),(3,(fV 105)),(8,iV ap.1)] L s (WL 42 Ay am K U nw f25 ap.2)) ⟨E,a8,V,V,AF,cy,hW⟩ ?_);rintro _ _ ap ⟨am,f25,rfl,rfl,b0,b1,b2⟩ cX ⟨dP,bb⟩ cY;have b3:=bb;unfold Su at b3;refine C 7 V (AV b3 (λcZ c0=>?_) (λcZ c1=>?_))
  ·obtain⟨b4,c2,c3⟩:=bs c0;refine C 8 V (Br (λL s=>∃(a4:LH) (f48:Av_),Jn am H a4 [bX K f48 42] [(0,.slice (AW K) nw U),(1,iV al),(2,iV p2),(3,(fV 105)),(8,iV ap.1)] L s (WL 42 Ay a4 K U nw f48 b4)) ?_ ?_)
   ·rintro _ _ ⟨a4,f48,rfl,rfl,c4,c5,c6⟩;obtain⟨c7,c8,c9⟩:=bs c3;refine C 3 V (Bo c8 V V V ?_);refine C 2 V ?_;obtain rfl:=oi c9;exact AA (cY _ _ (c7,b4) ⟨a4,f48,V,V,(b0.Ad c4),c5,c6⟩ bb) V
   ·intro da;refine JL.block (Cl c2 (λL s ag=>∃(a1:LH) (f58:Av_),Jn am H a1 [bX K f58 42] [(0,.slice (AW K) nw U),(1,iV al),(2,iV p2),(3,(fV 105)),(8,iV ap.1),(9,iV ag.1)] L s (WL 42 Ay a1 K U nw f58 ag.2)) ⟨am,f25,V,V,AF,b1,b2⟩ ?_);rintro _ _ ag ⟨a1,f58,rfl,rfl,b5,a2,O⟩ db ⟨dQ,be⟩ dc;have b6:=be;unfold Sk at b6;refine C 2 V (Ff 17 [K] ⟨⟨0,_,V⟩,trivial⟩ a2 λac=>?_);refine Bc ac V [0,1,2,3] V ?_;obtain⟨dd,ca,de⟩:=bs b6;refine Gr 0 #[true,true,true,true,true,true,true,true,true,true,true,true,true,true,true,true,true] (λL s=>∃(a5:LH),Jm a1 H a5 [bX K f58 42] [(0,.slice (AW K) nw U),(1,iV al),(2,iV p2),(3,(fV 105)),(8,iV ap.1),(9,iV ag.1),(34,.bool dd)] L s) ?_ ?_
    ·rintro _ _ ⟨a5,rfl,rfl,aq,a6⟩;refine AO.fin (by decide+kernel) (Cn de (λdf dg=>?_) (λdf dh=>?_))
     ·refine C 3 V (GO [15,17] [K] [] mixed V ?_);refine Bb 0 V V (Bb 1 V V ?_);refine Bb 2 V V (Bb 3 V V ?_);obtain⟨cc,di,dj⟩:=bs dg;refine CK 4 true V V (λρ h s' ce=>Dp (h _ _ V) (h _ _ V) di) (Bb 5 V V ?_);refine Bb 6 V V ?_;obtain⟨dR,dk,dn⟩:=bs dj;refine CK 7 true V V (λρ h s' ce=>Dp (h _ _ V) (h _ _ V) dk) ?_;obtain⟨Y,ci,dp⟩:=bs dn;obtain⟨_,⟨_,_,rfl,rfl,⟨_,_,rfl,rfl,rfl⟩⟩,dq⟩:=WL.at (O.Ah aq) ci;refine JB.ix 8 O.2 ci underlying26 A9 ?_;refine Ug 9 [iV Y.1,iV Y.2.1,iV Y.2.2] 0 a6 dq Da A9 ?_;refine Bb 10 V V (Bb 11 V V ?_);obtain⟨Z,a7,dr⟩:=bs dp;obtain⟨_,⟨_,_,rfl,rfl,⟨_,_,rfl,rfl,rfl⟩⟩,dt⟩:=WL.at (O.Ah aq) a7;refine JB.ix 12 O.2 a7 underlying26 A9 ?_;refine Ug 13 [iV Z.1,iV Z.2.1,iV Z.2.2] 0 a6 dt Da A9 ?_;refine JB.ix 14 O.2 a7 underlying26 A9 ?_;have a3:=WL.put (x':=Y) (ws':= [iV Y.1,iV Y.2.1,iV Y.2.2]) (O.Ah aq) O.2 a7 ⟨_,_,V,V,⟨_,_,V,V,V⟩⟩;refine DO 15 0 a6 A9 trivial a3.2 λdu=>?_;obtain⟨dS,bi,dv⟩:=bs dr;obtain⟨_,⟨_,_,rfl,rfl,⟨_,_,rfl,rfl,rfl⟩⟩,dT⟩:=WL.at a3.1 bi;refine JB.ix 16 (a3.1).2 bi underlying26 A9 ?_;have co:=WL.put (x':=Z) (ws':= [iV Z.1,iV Z.2.1,iV Z.2.2]) a3.1 (a3.1).2 bi ⟨_,_,V,V,⟨_,_,V,V,V⟩⟩;refine DO 17 0 du A9 trivial co.2 λdw=>?_;refine JB.fin (by decide+kernel) ?_;obtain⟨dx,dy,dz⟩:=bs dv;refine C 3 V (Cd dy V V V ?_);refine C 2 V ?_;obtain rfl:=oi dz;exact AA (dc _ _ (dx,((ag.2.set (Int.toNat ag.1) Y).set (Int.toNat cc) Z)) ⟨a5,(A4 (A4 f58 (Int.toNat (ag.1)*3) [iV Y.1,iV Y.2.1,iV Y.2.2]) (Int.toNat (cc)*3) [iV Z.1,iV Z.2.1,iV Z.2.2]),V,V,(b5.Ad aq),dw,co.1⟩ be) V
     ·refine JL.exit V ?_;obtain rfl:=oi dh;obtain rfl:=db _ be;exact AA (da _ _ ⟨a5,f58,V,V,(b5.Ad aq),a6,(O.Ah aq)⟩) V
    ·intro cp;refine G5 (q:=al<ag.1) (i:=21) V (λbo=>?_) (λbo=>?_)
     ·have dA:=ip ca bo;refine Bc ac V [4,5,6] V ?_;obtain⟨aw,ct,dB⟩:=bs dA;obtain⟨_,⟨_,_,rfl,rfl,⟨_,_,rfl,rfl,rfl⟩⟩,dC⟩:=WL.at O ct;refine JG.ix 7 ac (O).2 ct underlying26 A9 ?_;refine Ub 8 ac [iV aw.1,iV aw.2.1,iV aw.2.2] 0 a2 dC Da A9 ?_;refine Bc ac V [9,10] V ?_;obtain⟨dU,dD,dE⟩:=bs dB;refine AP 11 ac V V (λρ h s' ce=>Dp (h _ _ V) (h _ _ V) dD) ?_;obtain⟨a0,cw,dF⟩:=bs dE;obtain⟨_,⟨_,_,rfl,rfl,⟨_,_,rfl,rfl,rfl⟩⟩,dG⟩:=WL.at O cw;refine JG.ix 12 ac (O).2 cw underlying26 A9 ?_;refine Ub 13 ac [iV a0.1,iV a0.2.1,iV a0.2.2] 0 a2 dG Da A9 ?_;obtain⟨dV,dH,dI⟩:=bs dF;refine Jx (i:=14) ⟨⟨0,_,V⟩,trivial⟩ (vs:= [.agg #[iV aw.1,iV aw.2.1,iV aw.2.2],.agg #[iV a0.1,iV a0.2.1,iV a0.2.2]]) (TI dH) (by decide+kernel) V V V V (A0 func105 V) V a2 ?_;rintro _ dJ _ dK ⟨rfl,rfl⟩ dL;refine Bc ac V [15,16] V ?_;obtain rfl:=oi dI;refine Eh ?_ (cp _ _ ⟨dJ,V,V,dK,dL⟩);exact⟨V,V,V,V,V,V,V,trivial⟩
     ·have dM:=im ca bo;refine Bc ac V [4,5,6,7,8,9,10,11,12,13,14,15,16] V ?_;obtain rfl:=oi dM;refine Eh ?_ (cp _ _ ⟨a1,V,V,AF,a2⟩);exact⟨V,V,V,V,V,V,V,trivial⟩
  ·refine JL.exit V ?_;obtain rfl:=oi c1;obtain rfl:=cX _ bb;exact AA (cW _ _ ⟨am,f25,V,V,b0,b1,b2⟩) V
def Sp(fu_:Nat)(p0:Aw)(K:Int)(p2:Int)(p3:Int)(Y:Unit):Option (Bm Unit ((Aw)⊕(Unit))):= (Av (p2 - K)).bind λO=> if O<=12 then((f193 fu_ p0 K p2).bind λU=> some (.done (Sum.inl U))) else(if p3=0 then(none) else(none))
def f169(fu_:Nat)(p0:Aw)(K:Int)(p2:Int)(p3:Int):Option (Aw):= Option.bind (iter (Sp fu_ p0 K p2 p3) fu_ ()) λO=> Sum.elim (λr=>some r) (λU=> none) O
theorem Y3{K:Nat}{O:Nat}{nw:Nat}{U:Av_}{p0:Aw}{Y:Int}{p2:Int}{p3:Int}(hW:WL 42 Ay E K O nw U p0){fu_:Nat}{r:Aw}(Z:f169 fu_ p0 Y p2 p3=some r):AL J 156 [.slice (AW K) nw O,iV Y,iV p2,iV p3,(fV 105)] E [(K,.cells U 42 (0,0))] (λw E' B'=>∃(ac:Av_),w= .tuple #[]/\B'= [(K,.cells ac 42 (0,0))]/\WL 42 Ay E' K O nw ac r):=by
 refine Bg func156 λQ b3 cs H aq aw=>?_;unfold f169 at Z;obtain⟨b4,a0,a1⟩:=bs Z;refine C 8 V (Br (λL s=>False) ?_ ?_)
 ·intro _ _ a2;exact a2.elim
 ·intro b5;refine JL.block (DZ a0 (λag=> [bX K U 42]) (λag=> [(0,.slice (AW K) nw O),(1,iV Y),(2,iV p2),(3,iV p3),(4,(fV 105)),(10,.bool true),(11,.bool true)]) AF aq ?_);rintro ag b6 al a3 a4 ⟨ca,am⟩ cc;have ap:=am;unfold Sp at ap;obtain⟨ce,a5,a6⟩:=bs ap;refine C 5 V (Cd a5 V V V ?_);refine C 8 V (AV a6 (λa7 a8=>?_) (λa7 a9=>?_))
  ·obtain⟨ci,bb,be⟩:=bs a8;refine C 6 V (B9 0 (Y7 (hW.Ah al) bb) V V (A0 func179 V) a3 V ?_);rintro _ co _ bi ⟨f32,rfl,rfl,bo⟩ bv;refine JL.done ?_;obtain rfl:=oi be;obtain rfl:=a4 _ am;have bw:=elim_inl a1;obtain rfl:=oi bw;exact AS func156 V V (aw (al.Ad bi) V ⟨f32,V,(by first | rfl | simp | (simp [Value.cells])),bo⟩ bv)
  ·refine C 7 V (AV a9 (λb0 b1=>?_) (λb0 b2=>?_))
   ·refine C 6 V ?_;cases b1
   ·refine C 5 V (Am (v:= .bool false) V (λρ h=>Yl.not (c:=true) (h _ _ V)) ?_);refine C 9 V ?_;cases b2
def f130(fu_:Nat)(p0:Aw):Option (Aw):= (f115 fu_ (CZ (p0.length:Int))).bind λK=> (f169 fu_ p0 0 (p0.length:Int) K).bind λO=> some O
theorem aW{K:Nat}{O:Nat}{nw:Nat}{U:Av_}{p0:Aw}(hW:WL 42 Ay E K O nw U p0){fu_:Nat}{r:Aw}(Y:f130 fu_ p0=some r):AL J 114 [.slice (AW K) nw O,(fV 105)] E [(K,.cells U 42 (0,0))] (λw E' B'=>∃(Z:Av_),w= .tuple #[]/\B'= [(K,.cells Z 42 (0,0))]/\WL 42 Ay E' K O nw Z r):=by
 refine Bg func114 λQ a4 cs H ag al=>?_;unfold f130 at Y;refine C 3 V (Am (v:=iV (p0.length:Int)) V (λρ h=>R4 (hW).2 V underlying96 (h _ _ V)) ?_);refine C 6 V (Am (v:= .int .u64 ((CZ (p0.length:Int):Nat):Int)) V (λρ h=>Yl.CZ underlying3 underlying160 (h _ _ V)) ?_);obtain⟨a5,am,ap⟩:=bs Y;refine Cj (NC am) V V MB ag λa6 ac aq=>?_;obtain⟨a7,aw,a0⟩:=bs ap;refine C 1 V (B9 0 (Y3 (hW.Ah ac) aw) V V (A0 func156 V) aq V ?_);rintro _ a8 _ a1 ⟨f12,rfl,rfl,a2⟩ a3;refine JL.done ?_;obtain rfl:=oi a0;exact JL.fin (v:= .tuple #[]) V V (By.list func114 V (vs:= []) trivial) (al (ac.Ad a1) V ⟨f12,V,(by first | rfl | simp | (simp [Value.cells])),a2⟩ a3)
def Rr(fu_:Nat)(O:Int)(K:Int)(Y:Unit):Option (Bm Unit Unit):= Option.bind (if O<K then(none) else(some false)) λU=> if U=true then((Av (K - 1)).bind λZ=> (Av (K - 1)).bind λac=> none) else(some (.done ()))
def RB(fu_:Nat)(O:Int)(p2:Int)(K:Int):Option (Bm Int Unit):= if K<p2 then(Option.bind (iter (Rr fu_ O K) fu_ ()) λY=> (Av (K+1)).bind λU=> some (.more U)) else(some (.done ()))
def P0(fu_:Nat)(K:Int)(p2:Int):Option Unit:= (Av (K+1)).bind λO=> Option.bind (iter (RB fu_ K p2) fu_ O) λU=> some ()
theorem YU{U:Int}{p2:Int}{fu_:Nat}{r:Unit}(ac:P0 fu_ U p2=some r):AL J 179 [nS,iV U,iV p2,(fV 105)] E [] (λw E' B'=>w= .tuple #[]/\B'= []):=by
 refine Bg func179 λQ cY cs H a3 a4=>?_;unfold P0 at ac;obtain⟨cZ,a5,a6⟩:=bs ac;refine C 3 V (Bo a5 V V V ?_);obtain⟨c0,a7,a8⟩:=bs a6;refine C 2 V (EM [] [] (λc1 a9 bb=>?_) (λbe=>?_))
 ·obtain rfl:=oi a8;exact JL.fin (v:= .tuple #[]) V V (By.list func179 V (vs:= []) trivial) (a4 a9 V ⟨V,V⟩ bb)
 ·refine JL.block (DZ a7 (λK=> []) (λK=> [(0,.slice none 0 0),(1,iV U),(2,iV p2),(3,(fV 105)),(8,iV K)]) AF a3 ?_);rintro K c2 ag al bi ⟨c3,Y⟩ bo;have am:=Y;unfold RB at am;refine C 7 V (AV am (λbv bw=>?_) (λbv b0=>?_))
  ·obtain⟨c4,b1,b2⟩:=bs bw;refine C 8 V (EM [] [(0,.slice none 0 0),(1,iV U),(2,iV p2),(3,(fV 105)),(8,iV K)] (λc5 b3 b4=>?_) (λb5=>?_))
   ·obtain⟨b6,ca,cc⟩:=bs b2;refine C 3 V (Bo ca V V V ?_);refine C 2 V ?_;obtain rfl:=oi cc;exact bo b6 (ag.Ad b3) b4 V Y
   ·refine JL.block (DZ b1 (λap=> []) (λap=> [(0,.slice none 0 0),(1,iV U),(2,iV p2),(3,(fV 105)),(8,iV K),(9,iV K)]) AF al ?_);rintro ap aq ce ci co ⟨c6,aw⟩ c7;have a0:=aw;unfold Rr at a0;refine C 2 V (EV 17 λO=>?_);refine Bc O V [0,1,2,3] V ?_;obtain⟨cp,a1,ct⟩:=bs a0;refine Gr 0 #[true,true,true,true,true,true,true,true,true,true,true,true,true,true,true,true,true] (λL s=>∃(a2:LH),Jm aq H a2 [] [(0,.slice none 0 0),(1,iV U),(2,iV p2),(3,(fV 105)),(8,iV K),(9,iV K),(34,.bool cp)] L s) ?_ ?_
    ·rintro _ _ ⟨a2,rfl,rfl,cw,cy⟩;refine AO.fin (by decide+kernel) (Cn ct (λcJ cK=>?_) (λcJ cM=>?_))
     ·refine C 3 V (EV 16 λO=>?_);refine Bc O V [0,1,2,3] V ?_;obtain⟨c8,cO,cP⟩:=bs cK;refine AP 4 O V V (λρ h s' cQ=>Dp (h _ _ V) (h _ _ V) cO) (Bc O V [5,6] V ?_);obtain⟨c9,cR,cT⟩:=bs cP;refine AP 7 O V V (λρ h s' cQ=>Dp (h _ _ V) (h _ _ V) cR) ?_;cases cT
     ·refine JL.exit V ?_;obtain rfl:=oi cM;obtain rfl:=co _ aw;exact b5 (ce.Ad cw) cy V
    ·intro cV;refine G5 (q:=U<K) (i:=21) V (λZ=>?_) (λZ=>?_)
     ·have cW:=ip a1 Z;refine Bc O V [4,5,6] V ?_;cases cW
     ·have cX:=im a1 Z;refine Bc O V [4,5,6,7,8,9,10,11,12,13,14,15,16] V ?_;obtain rfl:=oi cX;refine Eh ?_ (cV _ _ ⟨aq,V,V,AF,ci⟩);exact⟨V,V,V,V,V,V,V,trivial⟩
  ·refine JL.exit V ?_;obtain rfl:=oi b0;obtain rfl:=bi _ Y;exact be ag al V
def Ry(fu_:Nat)(K:Int)(p2:Int)(p3:Int)(U:Unit):Option (Bm Unit ((Unit)⊕(Unit))):= (Av (p2 - K)).bind λO=> if O<=12 then((P0 fu_ K p2).bind λY=> some (.done (Sum.inl ()))) else(if p3=0 then(none) else(none))
def P1(fu_:Nat)(K:Int)(p2:Int)(p3:Int):Option Unit:= Option.bind (iter (Ry fu_ K p2 p3) fu_ ()) λO=> Sum.elim (λr=>some r) (λU=> none) O
theorem XV{K:Int}{p2:Int}{p3:Int}{fu_:Nat}{r:Unit}(O:P1 fu_ K p2 p3=some r):AL J 156 [nS,iV K,iV p2,iV p3,(fV 105)] E [] (λw E' B'=>w= .tuple #[]/\B'= []):=by
 refine Bg func156 λQ bv cs H ac ag=>?_;unfold P1 at O;obtain⟨bw,al,am⟩:=bs O;refine C 8 V (Br (λL s=>False) ?_ ?_)
 ·intro _ _ ap;exact ap.elim
 ·intro b0;refine JL.block (DZ al (λU=> []) (λU=> [(0,.slice none 0 0),(1,iV K),(2,iV p2),(3,iV p3),(4,(fV 105)),(10,.bool true),(11,.bool true)]) AF ac ?_);rintro U b1 aq aw a0 ⟨b2,Y⟩ b3;have Z:=Y;unfold Ry at Z;obtain⟨b4,a1,a2⟩:=bs Z;refine C 5 V (Cd a1 V V V ?_);refine C 8 V (AV a2 (λa3 a4=>?_) (λa3 a5=>?_))
  ·obtain⟨b5,a6,a7⟩:=bs a4;refine C 6 V (Cj (YU a6) V V (A0 func179 V) aw λb6 a8 a9=>?_);refine JL.done ?_;obtain rfl:=oi a7;obtain rfl:=a0 _ Y;have bb:=elim_inl am;obtain rfl:=oi bb;exact AS func156 V V (ag (aq.Ad a8) V ⟨V,V⟩ a9)
  ·refine C 7 V (AV a5 (λbe bi=>?_) (λbe bo=>?_))
   ·refine C 6 V ?_;cases bi
   ·refine C 5 V (Am (v:= .bool false) V (λρ h=>Yl.not (c:=true) (h _ _ V)) ?_);refine C 9 V ?_;cases bo
def TX(fu_:Nat):Option Unit:= (f115 fu_ (CZ ((0:Nat):Int))).bind λK=> (P1 fu_ 0 ((0:Nat):Int) K).bind λO=> some ()
theorem X4{fu_:Nat}{r:Unit}(K:TX fu_=some r):AL J 114 [nS,(fV 105)] E [] (λw E' B'=>w= .tuple #[]/\B'= []):=by
 refine Bg func114 λQ aw cs H O U=>?_;unfold TX at K;refine C 3 V (JL.ln underlying96 V V V ?_);refine C 6 V (Am (v:= .int .u64 ((CZ ((0:Nat):Int):Nat):Int)) V (λρ h=>Yl.CZ underlying3 underlying160 (h _ _ V)) ?_);obtain⟨a0,Y,Z⟩:=bs K;refine Cj (NC Y) V V MB O λa1 ac ag=>?_;obtain⟨a2,al,am⟩:=bs Z;refine C 1 V (Cj (XV al) V V (A0 func156 V) ag λa3 ap aq=>?_);refine JL.done ?_;obtain rfl:=oi am;exact JL.fin (v:= .tuple #[]) V V (By.list func114 V (vs:= []) trivial) (U (ac.Ad ap) V ⟨V,V⟩ aq)
theorem YN{J:Judge Tryz.prog}{E:LH}{a:Ao}{c:Nat}{g:Seg}{p0:Aw}(Y:OL 42 Ay E a c g p0){fu_:Nat}{r:Aw}(K:f130 fu_ p0=some r):
  AL J 114 [.slice a p0.length c,.func (.func 105) #[] #[]] E g (λw E' B'=>w= .tuple #[]/\OL 42 Ay E' a c B' r/\r.length=p0.length):=by
 rcases Y.cases with⟨rfl,rfl,rfl,rfl⟩ | ⟨bk,f,rfl,rfl,hW⟩
 ·have Z:r= []:=by
   cases fu_ with
   | zero=>exact absurd K (by simp [f130,f169,f193,iter])
   | succ fu_=>
    cases fu_ with
    | zero=>exact(Option.some.inj (K.symm.trans (by rfl:f130 1 []=some []))).trans rfl
    | succ fu_=>exact(Option.some.inj (K.symm.trans (by rfl:f130 (fu_+2) []=some []))).trans rfl
  subst Z;refine(X4 (fu_:=10) (r:=()) V).Ah ?_;rintro w E' B' hle ⟨O,rfl⟩;exact⟨O,OL.nil,V⟩
 ·refine(aW hW K).Ah ?_;rintro w E' B' hle ⟨ac,O,rfl,U⟩;exact⟨O,U.1,U.2⟩
def f90(fu_:Nat)(p0:Aw):Option (Aw):= (f129 fu_ p0).bind λK=> (f130 fu_ K).bind λO=> some O
theorem bG{a1:Ao}{c2:Nat}{p0:Aw}(al:Al Ay E a1 c2 p0){fu_:Nat}{r:Aw}(Z:f90 fu_ p0=some r):AL J 85 [sV a1 p0 c2] E [] (λw E' B'=>∃(ac:Ao) (ag:Nat),w= sV ac r ag/\B'= []/\Al Ay E' ac ag r):=by
 refine Bg func85 λQ bi cs H am ap=>?_;unfold f90 at Z;obtain⟨bo,aq,aw⟩:=bs Z;refine C 7 V (BU (aR al aq) V V (A0 func113 V) am ?_);rintro _ bv bw a0 ⟨K,O,_,rfl,rfl,a2⟩ a3;obtain⟨U,a4,a5⟩:=bs aw;refine C 5 V (B9 1 (YN a2 a4) V V (A0 func114 V) a3 V ?_);rintro _ b0 b1 a6 ⟨rfl,a7,Y⟩ a8;refine DW (L':= [(6,.tuple #[]),(0,.slice K U.length O),(2,.slice none 0 0),(3,.slice a1 p0.length c2),(4,.slice K U.length O),(5,.slice K U.length O)]) ⟨V,by rw [Y];rfl,V,V,by rw [Y];rfl,by rw [Y];rfl,trivial⟩ ?_;refine C 6 V (B6 1 a7 a8 V λb2 a9 bb be=>?_);obtain rfl:=oi a5;exact AS func85 V V (ap ((a0.Ad a6).Ad a9) V ⟨K,O,V,V,bb⟩ be)
end Pal
namespace Pal
open Go Go.Conc
variable {P:Program}{Q:Gs_}{n:Nat}{ds:Ld_}{ops:Ao_}{k:Li_}{cs:Lf_}{m:Nat}{L:Env}{s:St}{E H:LH}{S:List Seg}
variable {d:Option Tmp}{t ty:TypeId}{p:String}{af:Ae_}{g:On_}{v:Value}
section
variable {J:Judge P}{b:Frame}{fuel:Nat}{listed:Array Bool}
variable {x y:Operand}{e:TypeId}{i:Nat}
theorem Take.y0{oi:Oper}(hi:ops[i]? =some oi)(K:(!DY oi.op&&Bf n oi.dst)=true)(hw:AM L ops oi=some true)(O:∀ρ,EA L ρ->Yl P oi ρ s v)
  (h:AO J Q b n ds ops k cs m Df fuel (A8 listed i) (Au L oi.dst v) s):Take J Q b n ds ops k cs m Df fuel listed L s i:=
 Take.Mm hi K hw λρ U=>by
  have:=O ρ U
  unfold Yl at this
  refine DG _ this ?_ (λ_ _ h=>h)
  rintro Y s' ⟨rfl,rfl⟩
  exact h
end
def GA{P:Program}(J:Judge P)(f:FuncId)(args:Lv_)(E:LH)(B:Seg)(p:Bool)(pv:Value)(R:Value->LH->Seg->Prop):Prop:=
 ∀(Q:Gs_) (bc:Frame) (Tc:Av_) (dsc:Ld_) (K:Li_) (cs:Lf_) (H:LH),Nd E H B->
  (p=false->∀v E' B',Le E E'->R v E' B'->Nd E' H B'->J.ok Q (G ((fr bc Tc dsc K).finish v) cs) (mk E' H B'))->
  (p=true->∀E' B',Le E E'->Nd E' H B'->J.ok Q (G (GY bc Tc dsc K (raised pv)) cs) (mk E' H B'))->
  J.ok Q (G (Frame.enter P f args.toArray .normal) (fr bc Tc dsc K::cs)) (mk E H B)
variable {bc:Frame}{dsc:Ld_}{rest:List Nat}{pp:String}{pv:Value}
section
variable {J:Judge P}{b:Frame}{i:Nat}{e:TypeId}
theorem GA.enter{f:FuncId}{fn:Func}{c:Code}{vs:Lv_}{B:Seg}{R:Value->LH->Seg->Prop}{p:Bool}(ac:P.funcs[f]? =some fn)(hb:fn.body=some c)(a1:vs.length<=fn.ntmps)
  (h:∀(Q:Gs_) (bc:Frame) (Tc:Av_) (dsc:Ld_) (O:Li_) (cs:Lf_) (H:LH),Aq E H [B]->
   (p=false->∀v E' S' B',Le E E'->S'.flatten=B'->R v E' B'->Aq E' H S'->J.ok Q (G ((fr bc Tc dsc O).finish v) cs) (Aj E' H S'))->
   (p=true->∀E' S',Le E E'->Aq E' H S'->J.ok Q (G (GY bc Tc dsc O (raised pv)) cs) (Aj E' H S'))->
   JL J Q (base f) fn.ntmps (Ga 0 vs) [] [.code c] (fr bc Tc dsc O::cs) (Aj E H [B])):GA J f vs E B p pv R:=λQ bc Tc dsc O cs H ag al K=>by
 have he:Frame.enter P f vs.toArray .normal=fr (base f) (vs.toArray++Array.replicate (fn.ntmps - vs.length) undef) [] [.code c]:=by
  simp [Frame.enter,fr,ac,hb,base];rfl
 have am:mk E H B=Aj E H [B]:=by unfold Aj;simp
 rw [he,am];refine h Q bc Tc dsc O cs H (by unfold Aq;simpa using ag) (λU v E' S' B' hle ap aq Y=>?_) (λU E' S' hle Y=>?_) _ ⟨by simp;omega,λt v aw=>?_⟩
 ·subst ap;exact al U v E' S'.flatten hle aq Y
 ·exact K U E' S'.flatten hle Y
 ·obtain⟨_,K⟩:=Jw aw;have a0:t<vs.length:=by
   rcases Nat.lt_or_ge t vs.length with Z | Z
   ·exact Z
   ·simp at K;have:=(List.getElem?_eq_some_iff.1 K).1;omega
  rw [Array.getD_eq_getD_getElem?,Array.getElem?_append_left (by simpa using a0)];simp at K;simp [K]
theorem V9{x:Operand}{f:FuncId}{caps:Lv_}{args:Array Operand}{ats:Array TypeId}{s:St}{vs:Lv_}(hb:Dm P f=true)
  (U:ops[i]? =some ⟨d,.call ⟨.value x,args,ats⟩,ty,pp,af,g⟩) (hw:AM L ops ⟨d,.call ⟨.value x,args,ats⟩,ty,pp,af,g⟩=some true) (O:((b.kind != .early)&&Bf n d)=true)
  (Y:ev L x=some (.func (.func f) #[] caps.toArray)) (Z:evs L args.toList=some vs)
  (h:∀T,Has n L T->J.ok Q (G (Frame.enter P f (vs++caps).toArray .normal) (fr b T ds (.inRegion ops (i::rest)::k)::cs)) s):
  JL J Q b n L ds (.inRegion ops (i::rest)::k) cs s:=λT K=>by
 simp only [Bool.and_eq_true] at O
 have ac:args.map (Bu T)=vs.toArray:=by
  rw [← FR K.FX Z];apply Array.ext';simp
 refine Judge.oper U (B3 K hw) (by simpa using O.1) (.inr λc ag=>by cases ag) ?_;have hd:lp P (execOp (Bu T) ⟨d,.call ⟨.value x,args,ats⟩,ty,pp,af,g⟩) s (upon J Q b T ds ops i rest k cs d) (Lb J Q b T ds ops i rest k cs):=by
  have al:execOp (Bu T) ⟨d,.call ⟨.value x,args,ats⟩,ty,pp,af,g⟩=(do let d ← Deferred.ofValue (.func (.func f) #[] caps.toArray) vs.toArray;invoke d.target d.args):=by
   simp only [execOp,resolve,ac,K.FX _ _ Y]
  rw [al];simp only [Deferred.ofValue,bind,Sem.bind,pure,invoke];have e: #[]++vs.toArray++caps.toArray=(vs++caps).toArray:=by simp
  rw [e];exact IW hb (h T K)
 exact hd
theorem Wu{f:FuncId}{args:Array Operand}{ats:Array TypeId}{s:St}{vs:Lv_}(hb:Dm P f=true)
  (U:ops[i]? =some ⟨d,.call ⟨.value (.func f),args,ats⟩,ty,pp,af,g⟩) (hw:AM L ops ⟨d,.call ⟨.value (.func f),args,ats⟩,ty,pp,af,g⟩=some true) (O:((b.kind != .early)&&Bf n d)=true)
  (Y:evs L args.toList=some vs)
  (h:∀T,Has n L T->J.ok Q (G (Frame.enter P f vs.toArray .normal) (fr b T ds (.inRegion ops (i::rest)::k)::cs)) s):
  JL J Q b n L ds (.inRegion ops (i::rest)::k) cs s:=λT K=>by
 simp only [Bool.and_eq_true] at O
 have Z:args.map (Bu T)=vs.toArray:=by
  rw [← FR K.FX Y];apply Array.ext';simp
 refine Judge.oper U (B3 K hw) (by simpa using O.1) (.inr λc ac=>by cases ac) ?_;have hd:lp P (execOp (Bu T) ⟨d,.call ⟨.value (.func f),args,ats⟩,ty,pp,af,g⟩) s (upon J Q b T ds ops i rest k cs d) (Lb J Q b T ds ops i rest k cs):=by
  simp only [execOp,resolve,bind,Sem.bind,Deferred.ofValue,Bu,pure,invoke];have e: #[]++args.map (Bu T)++ #[]=vs.toArray:=by rw [Z];simp
  rw [e];exact IW hb (h T K)
 exact hd
theorem YH{g:Frame}{s:St}(O:s.q=false)(h:(∃w,Fits s w)->J.ok Q (G g cs) s):J.ok Q (G g cs) s:=by
 by_cases K:∃w,Fits s w
 ·exact h K
 ·exact J.step ⟨V,λw f=>absurd ⟨w,f⟩ K,λe=>by subst e;cases O⟩
theorem GA.use{f:FuncId}{vs:Lv_}{B:Seg}{R:Value->LH->Seg->Prop}{p:Bool}{Tc:Av_}{Y:Li_}(j:Nat)(ap:GA J f vs E B p pv R)(ac:Aq E H S)(ag:S[j]? =some B)
  (Z:p=false->∀v E' B',Le E E'->R v E' B'->Aq E' H (S.set j B')->J.ok Q (G ((fr bc Tc dsc Y).finish v) cs) (Aj E' H (S.set j B')))
  (aq:p=true->∀E' B',Le E E'->Aq E' H (S.set j B')->J.ok Q (G (GY bc Tc dsc Y (raised pv)) cs) (Aj E' H (S.set j B'))):
  J.ok Q (G (Frame.enter P f vs.toArray .normal) (fr bc Tc dsc Y::cs)) (Aj E H S):=by
 have K:S.flatten.Perm (B++(S.set j []).flatten):=(Ei (seg':=B) ag).1.trans List.perm_append_comm;have al:Nd E H (B++(S.set j []).flatten):=Nd.perm ac K;have aw:Aj E H S=mk E (Be (S.set j []).flatten H) B:=by
  rw [show Aj E H S=mk E H S.flatten from rfl,ET ac K];unfold mk;rw [FE]
 have a0:Nd E H (S.set j []).flatten:=by
  have:=al;rw [Nd.iff] at this ⊢;rw [List.map_append,List.nodup_append] at this;exact⟨this.1.2.1,λq a1=>this.2 q (List.mem_append_right _ a1)⟩
 have back:∀(g:Frame) (E':LH) (B':Seg),Le E E'->Nd E' (Be (S.set j []).flatten H) B'->(Aq E' H (S.set j B')->J.ok Q (G g cs) (Aj E' H (S.set j B')))->J.ok Q (G g cs) (mk E' (Be (S.set j []).flatten H) B'):=λg E' B' hle U a2=>by
  have e2:mk E' (Be (S.set j []).flatten H) B'=mk E' H (B'++(S.set j []).flatten):=by unfold mk;rw [FE]
  refine YH V λ⟨w,a3⟩=>?_;have a4:Nd E' H (S.set j []).flatten:=a0.grow λx a5=>by
   have a6:=a3.d x a5;have Z:Be B' (Be (S.set j []).flatten H) x=none:=a6;exact(Hz Z).1
  have O:Nd E' H (B'++(S.set j []).flatten):=Nd.glue U a4;rw [e2];have am:(B'++(S.set j []).flatten).Perm (S.set j B').flatten:=List.perm_append_comm.trans (Ei ag).2.symm;rw [ET O am];exact a2 (Nd.perm O am)
 rw [aw];refine ap Q bc Tc dsc Y cs _ (Nd.front al) (λK v E' B' hle a7 U=>back _ E' B' hle U λO=>Z K v E' B' hle a7 O) (λK E' B' hle U=>back _ E' B' hle U λO=>aq K E' B' hle O)
theorem QU{x:Operand}{f:FuncId}{caps:Lv_}{args:Array Operand}{ats:Array TypeId}{vs:Lv_}{seg:Seg}{R:Value->LH->Seg->Prop}{p:Bool}(j:Nat)(hb:Dm P f=true)
  (ac:GA J f (vs++caps) E seg p pv R) (Y:ops[i]? =some ⟨d,.call ⟨.value x,args,ats⟩,ty,pp,af,g⟩) (hw:AM L ops ⟨d,.call ⟨.value x,args,ats⟩,ty,pp,af,g⟩=some true) (K:((b.kind != .early)&&Bf n d)=true)
  (ag:ev L x=some (.func (.func f) #[] caps.toArray)) (al:evs L args.toList=some vs) (am:Aq E H S) (ap:S[j]? =some seg)
  (aq:p=true->∀E' seg',Le E E'->Aq E' H (S.set j seg')->JP J Q b n L ds cs (raised pv) (Aj E' H (S.set j seg')))
  (aw:p=false->∀v E' seg',Le E E'->R v E' seg'->Aq E' H (S.set j seg')->JL J Q b n (Au L d v) ds (.inRegion ops rest::k) cs (Aj E' H (S.set j seg'))):
  JL J Q b n L ds (.inRegion ops (i::rest)::k) cs (Aj E H S):=
 V9 hb Y hw K ag al λT Z=>GA.use j ac am ap
  (λO v E' B' hle a0 U=>by
   rw [Gq (o:=⟨d,.call ⟨.value x,args,ats⟩,ty,pp,af,g⟩) _ _ _ _ _ Y]
   simp only [Bool.and_eq_true] at K
   exact aw O v E' B' hle a0 U _ (Z.put K.2 v))
  (λO E' B' hle U=>aq O E' B' hle U T Z _)
theorem Wp{f:FuncId}{args:Array Operand}{ats:Array TypeId}{vs:Lv_}{seg:Seg}{R:Value->LH->Seg->Prop}{p:Bool}(j:Nat)(hb:Dm P f=true)
  (ac:GA J f vs E seg p pv R) (Y:ops[i]? =some ⟨d,.call ⟨.value (.func f),args,ats⟩,ty,pp,af,g⟩) (hw:AM L ops ⟨d,.call ⟨.value (.func f),args,ats⟩,ty,pp,af,g⟩=some true) (K:((b.kind != .early)&&Bf n d)=true)
  (ag:evs L args.toList=some vs) (al:Aq E H S) (am:S[j]? =some seg)
  (ap:p=true->∀E' seg',Le E E'->Aq E' H (S.set j seg')->JP J Q b n L ds cs (raised pv) (Aj E' H (S.set j seg')))
  (aq:p=false->∀v E' seg',Le E E'->R v E' seg'->Aq E' H (S.set j seg')->JL J Q b n (Au L d v) ds (.inRegion ops rest::k) cs (Aj E' H (S.set j seg'))):
  JL J Q b n L ds (.inRegion ops (i::rest)::k) cs (Aj E H S):=
 Wu hb Y hw K ag λT Z=>GA.use j ac al am
  (λO v E' B' hle aw U=>by
   rw [Gq (o:=⟨d,.call ⟨.value (.func f),args,ats⟩,ty,pp,af,g⟩) _ _ _ _ _ Y]
   simp only [Bool.and_eq_true] at K
   exact aq O v E' B' hle aw U _ (Z.put K.2 v))
  (λO E' B' hle U=>ap O E' B' hle U T Z _)
theorem WN{ρ:Operand->Value}{x y z1:Operand}{s:St}{p:String}{a:Option Addr}{l c K m:Nat}{hi:Int}(O:∀ad,a=some ad->ad.spot=none∨c=0)(U:m<=c)(he:hi=(m:Int))(Y:P.underlying t=some (.slice e))(Z:Bj P e=some K)(ac:ρ x= .slice a l c)(ag:ρ y=iV hi)(al:ρ z1=iV hi):
  Yl P ⟨d,.slice t x none (some y) (some z1),ty,p,af,g⟩ ρ s (.slice a m m):=by
 subst he;have h:=Yl.slice (P:=P) (s:=s) (d:=d) (ty:=ty) (p:=p) (af:=af) (g:=g) (olo:=none) (ohi:=some y) (omx:=some z1) (lo:=0) (hi:=m) (mx:=m) Y Z ac al ag V U (Nat.le_refl _) (Nat.zero_le _);have am:(if m=0 then a else a.map (·.add (0*K)))=a:=by
  split
  ·rfl
  ·cases a with
   | none=>rfl
   | some ad=>
    have:=(O ad rfl).resolve_right (by omega);simp only [Option.map_some,Nat.zero_mul];rw [Dw this];obtain⟨b,o,sp⟩:=ad;simp only at this;subst this;simp
 rw [am] at h;simpa using h
theorem Al.bq{α:Type}{q:Rp α}{a:Option Addr}{c:Nat}{xs ys:List α}{hi:Int}(U:Al q E a c xs)(hC:HO xs 0 hi=some ys):Al q E a c ys/\ys.length<=c/\hi=(ys.length:Int):=by
 unfold HO at hC;split at hC
 rotate_left
 ·cases hC
 rename_i hb;obtain⟨Z,ac,ag⟩:=hb;cases hC;have al:=U.1;have hlen:(((xs.take hi.toNat).drop (0:Int).toNat)).length=hi.toNat:=by simp;omega
 refine⟨⟨by rw [hlen];omega,?_⟩,by rw [hlen];omega,by rw [hlen];omega⟩;rcases U.2 with⟨h,O⟩ | ⟨bk,off,Y,O⟩
 ·exact .inl ⟨by rw [h];simp,O⟩
 ·refine .inr ⟨bk,off,Y,λi x K=>O i x ?_⟩;simp only [Int.toNat_zero,List.drop_zero] at K;rw [List.getElem?_take] at K;split at K
  ·exact K
  ·cases K
theorem Take.RJ{m fuel:Nat}{listed:Array Bool}{x y:Operand}{p:String}{α:Type}{q:Rp α}{t1:TypeId}{Y c cx:Nat}{a ax:Option Addr}{xs ys Z:List α}{ats:Array TypeId}{z:Value}(U:Dy xs ys=some Z)
  (a0:ops[i]? =some ⟨d,.call ⟨.builtin .append,#[x,y],ats⟩,ty,p,af,g⟩) (hw:AM L ops ⟨d,.call ⟨.builtin .append,#[x,y],ats⟩,ty,p,af,g⟩=some true) (a1:Bf n d=true)
  (a2:ev L x=some (.slice a xs.length xs.length)) (a3:ev L y=some (.slice ax ys.length cx)) (a4:ats[0]? =some t) (a5:ats[1]? =some t1) (a6:P.underlying t=some (.slice e)) (a7:P.underlying t1=some (.slice e)) (a8:Bj P e=some q.n) (hb:FJ P e=some Y) (a9:zeroOf P e=some z) (bb:z.cells.size=q.n)
  (be:0<Y) (bi:Y<=64) (ac:Al q E a c xs) (bo:Al q E ax cx ys) (ag:Aq E H S)
  (h:∀E' al K,Le E E'->Al q E' al K Z->Aq E' H (S++ [[]])->AO J Q b n ds ops k cs m Df fuel (A8 listed i) (Au L d (.slice al Z.length K)) (Aj E' H (S++ [[]]))):
  Take J Q b n ds ops k cs m Df fuel listed L (Aj E H S) i:=by
 unfold Dy at U;split at U
 rotate_left
 ·cases U
 rename_i bv;cases U;obtain⟨wss,am,bw,b0,cJ⟩:=Al.LS (H:=H) (B:=S.flatten) ac.full;obtain⟨b1,b2,b3,b4,b5⟩:=Al.LS (H:=H) (B:=S.flatten) bo;have hlen:(xs++ys).length=xs.length+ys.length:=by simp
 show Take J Q b n ds ops k cs m Df fuel listed L (mk E H S.flatten) i;refine Take.Mm a0 (by simp [DY,a1]) hw λρ ap=>?_;rw [Lz,ap x _ a2,ap y _ a3];refine As _ _ (Qn a4 a5 a7 a6 a8 hb a9 bb ag b0 b4 b5 be bv bi ?_ ?_)
 ·intro hm;have b6:ys= []:=List.eq_nil_of_length_eq_zero hm;subst b6;have ca:Aq E H (S++ [[]]):=by unfold Aq at*;rw [GI,List.append_nil];exact ag
  have cc:mk E H S.flatten=Aj E H (S++ [[]]):=by unfold Aj;rw [GI,List.append_nil]
  rw [cc];have:=h E a xs.length (Le.refl _) (by rw [List.append_nil];exact ac.full) ca;rw [hlen] at this;exact this
 ·intro r O K ce ci co cp;have ct:OL e q E (some ⟨r,0,none⟩) K [(r,.cells O e (0,0))] (xs++ys):=
   ⟨wss++b1,.inr ⟨r,O,rfl,rfl,ci,by rw [hlen];exact ce,by rw [hlen,List.flatten_append];exact co.symm⟩,by simp [am,b2],MP am bw b3⟩
  have aq:=Fp (S:=S) (seg:= [(r,.cells O e (0,0))]) cp;show AO J Q b n ds ops k cs m Df fuel _ _ (mk E H (S.flatten++ [(r,.cells O e (0,0))]));rw [aq.1];refine F5 S.length ct aq.2 (by simp) λE' hle cw aw=>?_;have cy:(S++ [[(r,Obj.cells O e (0,0))]]).set S.length []=S++ [[]]:=IB _ _ _ _;rw [cy] at aw ⊢;have:=h E' (some ⟨r,0,none⟩) K hle cw aw;rw [hlen] at this;exact this
theorem UT{ρ:Operand->Value}{x:Operand}{s:St}{p:String}{v:Value}{xt t1:TypeId}{f1:Array Field}(K:P.underlying t1=some (.struct f1))(O:ρ x= .iface t1 v):Yl P ⟨d,.typeAssert x xt t1 true,ty,p,af,g⟩ ρ s (.tuple #[v,.bool true]):=by
 refine Fo (sm:=Instr.typeAssert (ρ x) xt t1 true) V ?_;rw [O];unfold Instr.typeAssert;refine As _ _ (Cg K ?_);simp [lp,pure]
theorem UR{ρ:Operand->Value}{x:Operand}{s:St}{p:String}{z:Value}{xt t1:TypeId}{f1:Array Field}(K:P.underlying t1=some (.struct f1))(O:zeroOf P t1=some z)(U:ρ x= .nilIface):Yl P ⟨d,.typeAssert x xt t1 true,ty,p,af,g⟩ ρ s (.tuple #[z,.bool false]):=by
 refine Fo (sm:=Instr.typeAssert (ρ x) xt t1 true) V ?_;rw [U];unfold Instr.typeAssert;refine As _ _ (Cg K ?_);exact As (x:=zeroValue t1) _ (HA O ⟨V,V⟩)
end
end Pal
