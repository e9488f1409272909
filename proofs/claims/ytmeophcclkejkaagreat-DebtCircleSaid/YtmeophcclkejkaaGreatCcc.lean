/- DebtCircle: a circle goes from each person to one to whom they have a debt: a part (3 of 9) of the proof of its row. -/
import Derived.Test.YtmeophcclkejkaaGreatCca
import Derived.Test.YtmeophcclkejkaaGreatCcb
import Derived.Test.YtmeophcclkejkaaGreatRows
import Derived.Test.YtmeophcclkejkaaGreatChecked
import Derived.Conc.LeavingOf
import Derived.Conc.HoldsTime
import Derived.Carry
import Derived.ChangeSame
import Derived.ChangeVars
import Derived.ChangeSlices
import Derived.JoinedOf
import Derived.RowKit
import Derived.Deep.Strs
import Derived.Stop.Joined
import Derived.Test.YtmeophcclkejkaaGreatProg
set_option linter.all false
set_option maxRecDepth 100000
namespace Pal
open Go Go.Conc
theorem WL.part{α:Type}{e:TypeId}{pp:Rp α}{E:LH}{bk c n:Nat}{f:Av_}{xs K:List α}{m:Int}{x0 x':α}{ws ws' us:Lv_}(p:Nat)(h:WL e pp E bk c n f xs)(U:K.length=n)(hm:ix K m=some x0)(Y:pp.r E ws' x')(Z:∀(j:Nat) w,ws[j]? =some w->f[m.toNat*pp.n+j]? =some w)(hlen:ws.length=pp.n)(ac:ws'=ws.take p++us++ws.drop (p+us.length))(ag:p+us.length<=pp.n:=by exact Nat.le_of_ble_eq_true rfl):
  WL e pp E bk c n (A6 f (m.toNat*pp.n+p) us) (xs.set m.toNat x')/\m.toNat*pp.n+p+us.length<=f.size:=by
 obtain⟨O,al⟩:=WL.put h U hm Y;rw [← VJ (m:=p) (us:=us) (by rw [hlen];exact al) Z ac (by rw [hlen];exact ag)] at O;exact⟨O,by omega⟩
variable {P:Program}
section
variable (J:Judge P)(Q:Gs_)(b:Frame)(ds:Ld_)(ops:Ao_)(k:Li_)(cs:Lf_)(X D D0:Nat->Bool)
def JB:Nat->Array Bool->Av_->St->Prop
 | 0,listed,T,s=>Region.ready .any ops listed= []/\J.ok Q (G (fr b T ds (.inRegion ops []::k)) cs) s
 | fuel+1,listed,T,s=>
  Region.ready .any ops listed≠ []/\s.q=false/\∀i∈Region.ready .any ops listed,∀o,ops[i]? =some o->(∀c,o.op≠ .defer c)/\
   (Region.wanted o (yielded ops T)=false->JB fuel (A2 listed i) (CJ T o.dst undef) s)/\
   (Region.wanted o (yielded ops T)=true->X i=true->lp P (execOp (Bx T) o) s (λK s'=>(∀x u,D0 x=true->s.get x=some u->s'.get x=some u)/\match K with
    | .value v=>JB fuel (A2 listed i) (CJ T o.dst v) s'
    | .skip=>JB fuel (A2 listed i) (CJ T o.dst undef) s'
    | _=>False) (λ_ _=>False))/\
   (Region.wanted o (yielded ops T)=true->X i=false->lp P (execOp (Bx T) o) (Bh D s) (λK s'=>match K with
    | .value v=>JB fuel (A2 listed i) (CJ T o.dst v) (Cc D s s')
    | .skip=>JB fuel (A2 listed i) (CJ T o.dst undef) (Cc D s s')
    | _=>False) (λ_ _=>False))
variable {J Q b ds ops k cs X D D0}
theorem XT(Z:b.kind≠ .early):∀(fuel t:Nat) (listed:Array Bool) (T:Av_) (s:St),JB J Q b ds ops k cs X D D0 fuel listed T s->
  J.ok Q (G (fr b T ds (.inRegion ops (Region.linearise.go .any ops fuel t listed [])::k)) cs) s:=by
 intro fuel
 induction fuel with
 | zero=>intro t listed T s h;simpa [Region.linearise.go] using h.2
 | succ fuel O=>
  intro t listed T s h;obtain⟨al,am,h⟩:=h;obtain⟨i,hi⟩:∃i,(Region.ready .any ops listed)[t % (Region.ready .any ops listed).length]? =some i:=by
   have:0<(Region.ready .any ops listed).length:=List.length_pos_iff.2 al;exact⟨_,List.getElem?_eq_getElem (Nat.mod_lt _ this)⟩
  have ac:=List.mem_of_getElem? hi;have hgo:Region.linearise.go .any ops (fuel+1) t listed []=i::Region.linearise.go .any ops fuel (t / (Region.ready .any ops listed).length) (A2 listed i) []:=by
   simp only [Region.linearise.go];change (match(Region.ready .any ops listed)[t % (Region.ready .any ops listed).length]? with
    | some i=>Region.linearise.go .any ops fuel (t / (Region.ready .any ops listed).length) (listed.setIfInBounds i true) [i]
    | none=> [].reverse)=_
   rw [hi];simp only;rw [linearise_go_acc];rfl
  rw [hgo];obtain⟨_,o,U,_⟩:=mem_ready.1 ac;obtain⟨hd,ap,aq,av⟩:=h i ac o U;cases hw:Region.wanted o (yielded ops T) with
  | false=>exact Judge.unwanted U hw (O _ _ _ _ (ap hw))
  | true=>
   cases ag:X i with
   | true=>
    refine Judge.oper U hw Z (.inr hd) (Ej _ (aq hw ag) ?_ (λ_ _ h=>h.elim));rintro Y s' ⟨_,K⟩;cases Y with
    | value v=>exact O _ _ _ _ K
    | skip=>exact O _ _ _ _ K
    | _=>exact K.elim
   | false=>
    refine Judge.SH D U hw Z hd am (Ej _ (av hw ag) ?_ (λ_ _ h=>h));intro Y s' K;cases Y with
    | value v=>exact O _ _ _ _ K
    | skip=>exact O _ _ _ _ K
    | _=>exact K.elim
def waitAll(ops:Ao_)(X:Nat->Bool)(i:Nat):Bool:=(List.range ops.size).all λj=> !X j || waits ops ops.size j i
theorem Ye{D:Nat->Bool}{s s':St}(K:s'.E=(Bh D s).E){x:Nat}{o:Obj}(h:s.E x=some o):(Cc D s s').E x=some o:=by
 by_cases hd:D x
 ·simp [Cc,hd,h]
 ·have:=congrFun K x;simp [Bh,hd] at this;simp [Cc,hd,this,h]
theorem Yq{D0 D:Nat->Bool}{s:St}(h:∀x,D0 x=true->D x=true):∀x o,(Bh D0 s).E x=some o->(Bh D s).E x=some o:=λx o K=>by
 simp only [Bh] at K ⊢
 split
 ·split at K
  ·exact K
  ·unfold St.get;rw [K]
 ·rename_i hd;rw [if_neg (λe=>hd (h x e))] at K;exact K
theorem bM{D0:Nat->Bool}{s s':St}(h:∀x o,(Bh D0 s).E x=some o->s'.E x=some o):∀x o,s.E x=some o->s'.E x=some o:=λx o K=>h x o (by
 simp only [Bh];split
 ·unfold St.get;rw [K]
 ·exact K)
theorem Xe{D0:Nat->Bool}{s s':St}(h:∀x u,D0 x=true->s.get x=some u->s'.get x=some u)(O:s'.E=s.E):∀x o,(Bh D0 s).E x=some o->(Bh D0 s').E x=some o:=λx o K=>by
 simp only [Bh] at K ⊢
 split
 ·rename_i hd;rw [if_pos hd] at K;exact h x o hd K
 ·rename_i hd;rw [if_neg hd] at K;rw [O];exact K
theorem QW{D0 D:Nat->Bool}{s s':St}(h:∀x,D0 x=true->D x=true)(O:s'.E=(Bh D s).E):∀x o,(Bh D0 s).E x=some o->(Bh D0 (Cc D s s')).E x=some o:=λx o K=>by
 simp only [Bh] at K ⊢
 split
 ·rename_i hd;rw [if_pos hd] at K
  unfold St.get Cc;simp only [h x hd,if_true];exact K
 ·rename_i hd;rw [if_neg hd] at K;exact Ye O K
theorem Sa{i:Nat}{oi:Oper}{w pure:Bool}{v:Value}(bz:∀x,D0 x=true->D x=true)(hi:ops[i]? =some oi)(cJ:X i=false)(ce:(pure || waitAll ops X i)=true)(cK:Region.noSelect ops=true)(cM:∀c,oi.op≠ .defer c):
  ∀(fuel:Nat) (listed:Array Bool) (T:Av_) (s:St),IT ops listed i oi=true->HJ ops listed=true->listed.size=ops.size->i∈Region.ready .any ops listed->s.q=false->Region.wanted oi (yielded ops T)=w->
   (w=true->∀s',s'.q=false->(∀x o,(Bh D0 s).E x=some o->s'.E x=some o)->(pure=false->∀x o,(Bh D s).E x=some o->s'.E x=some o)->Yl P oi (Bx T) s' v)->
   JB J Q b ds ops k cs X D D0 fuel (A2 listed i) (CJ T oi.dst (if w then v else undef)) s->JB J Q b ds ops k cs X D D0 (fuel+1) listed T s:=by
 have av:∀(j:Nat) (al:Oper),ops[j]? =some al->∀cs b,al.op≠Op.select cs b:=λj al h cs b=>Region.noSelect_spec cK j al cs b h;intro fuel
 induction fuel with
 | zero=>?_
 | succ fuel a2=>?_
 all_goals
  intro listed T s ci co a3 bv a4 hw aw h;refine⟨λe=>(by rw [e] at bv;cases bv),a4,λj cp al U=>?_⟩;by_cases a5:j=i
  ·subst a5;obtain rfl:al=oi:=by rw [hi] at U;exact(Option.some.inj U).symm
   refine⟨cM,λO=>?_,λay K=>?_,λay K=>?_⟩
   ·rw [O] at hw;subst hw;exact h
   ·rw [cJ] at K;cases K
   ·rw [ay] at hw;subst hw;refine Ej _ (aw V (Bh D s) a4 (Yq bz) λ_ _ _ h=>h).out ?_ (λ_ _ h=>h);rintro bw s' ⟨rfl,rfl⟩;rw [KV];exact h
  ·
   have ct:j∈Region.ready .any ops (A2 listed i):=ready_mono cp a5;obtain⟨az,Y,cw,b0⟩:=mem_ready.1 cp;obtain rfl:Y=al:=by rw [U] at cw;exact(Option.some.inj cw).symm
   have b1:=(mem_ready.1 bv).1;have cN:(Y.after.any λe=>Region.binds .any e&&e.on==i)=false:=by
    rw [Array.any_eq_false];intro e he K;simp only [Bool.and_eq_true,beq_iff_eq] at K;have:=b0 _ (Array.getElem_mem he) K.1;rw [K.2] at this;have a0:listed.getD i true=listed.getD i false∨listed.size<=i:=by
     rcases Nat.lt_or_ge i listed.size with q | q
     ·left;simp [Array.getD_eq_getD_getElem?,q]
     ·exact .inr q
    rcases a0 with a0 | a0
    ·rw [b1,this] at a0;cases a0
    ·rw [Array.getD_eq_getD_getElem?,Array.getElem?_eq_none a0] at this;simp at this
   have cO:oi.apart ops Y=true:=by
    have b2:j<ops.size:=(Array.getElem?_eq_some_iff.1 U).1;have:=List.all_eq_true.1 ci j (List.mem_range.2 b2);simp only [Bool.or_eq_true,beq_iff_eq] at this;rcases this with(q | q) | q
    ·exact absurd q a5
    ·rw [az] at q;cases q
    ·rw [U] at q;simp only [Bool.or_eq_true] at q;rw [cN] at q;exact q.resolve_left (by simp)
   obtain⟨a1,a6,a7⟩:=Oper.apart_spec cO;obtain⟨p1,p2⟩:=H9 (ops:=ops) (T:=T) (v:=if w then v else undef) (av j Y U) a1
   first
    | exact absurd ct (by rw [h.1];simp)
    | (
     obtain⟨c0,_,h⟩:=h
     obtain⟨hd,O,cP,cQ⟩:=h j ct Y U
     have a8:A2 (A2 listed i) j=A2 (A2 listed j) i:=by
      unfold A2;exact Array.setIfInBounds_comm _ _ (Ne.symm a5)
     have a9:i∈Region.ready .any ops (A2 listed j):=ready_mono bv (Ne.symm a5)
     have bb:IT ops (A2 listed j) i oi=true:=by
      refine List.all_eq_true.2 λx K=>?_
      have:=List.all_eq_true.1 ci x K
      simp only [Bool.or_eq_true,beq_iff_eq] at this ⊢
      rcases this with(q | q) | q
      ·exact .inl (.inl q)
      ·left;right
       by_cases e:j=x
       ·subst e;rw [az] at q;cases q
       ·rw [A2,getD_set_ne true e];exact q
      ·exact .inr q
     have be:(A2 listed j).size=ops.size:=by unfold A2;simpa using a3
     have bi:HJ ops (A2 listed j)=true:=by
      refine List.all_eq_true.2 λx K=>?_
      cases b3:ops[x]? with
      | none=>simp
      | some cR=>
       simp only [Bool.or_eq_true,Bool.not_eq_true']
       by_cases e:j=x
       ·subst e
        obtain rfl:cR=Y:=by rw [U] at b3;exact(Option.some.inj b3).symm
        right
        refine Array.all_eq_true'.2 λe he=>?_
        cases hb:Region.binds .any e with
        | false=>simp
        | true=>
         have:=b0 e he hb
         by_cases e2:j=e.on
         ·rw [← e2] at this
          have b4:j<listed.size:=by rw [a3];exact(Array.getElem?_eq_some_iff.1 U).1
          simp [Array.getD_eq_getD_getElem?,b4] at this az
          rw [az] at this;cases this
         ·rw [A2,getD_set_ne false e2];simpa using this
       ·cases cy:(A2 listed j).getD x false with
        | false=>exact .inl rfl
        | true=>
         right
         have cT:listed.getD x false=true:=by rw [A2,getD_set_ne false e] at cy;exact cy
         refine Array.all_eq_true'.2 λb5 he=>?_
         cases hb:Region.binds .any b5 with
         | false=>simp
         | true=>
          have:=OR co b3 cT b5 he hb
          by_cases e2:j=b5.on
          ·rw [← e2] at this
           have b4:j<listed.size:=by rw [a3];exact(Array.getElem?_eq_some_iff.1 U).1
           simp [Array.getD_eq_getD_getElem?,b4] at this az
           rw [az] at this;cases this
          ·rw [A2,getD_set_ne false e2];simpa using this
     refine⟨hd,λcV=>?_,λb6 bx=>?_,λb6 bx=>?_⟩
     ·have:=O (by rw [p2];exact cV)
      rw [a8,Jb a6] at this
      obtain⟨Z,ac⟩:=H9 (ops:=ops) (T:=T) (d:=Y.dst) (v:=undef) (o:=oi) (av i oi hi) a7
      exact a2 _ _ _ bb bi be a9 a4 (by rw [ac];exact hw) (λag s' cW O am=>by unfold Yl;rw [Z];exact(aw ag s' cW O am).out) this
     ·
      have cX:pure=true:=by
       cases cY:pure with
       | true=>rfl
       | false=>
        exfalso
        rw [cY,Bool.false_or] at ce
        have b2:j<ops.size:=(Array.getElem?_eq_some_iff.1 U).1
        have ay:=List.all_eq_true.1 ce j (List.mem_range.2 b2)
        rw [bx] at ay
        simp only [Bool.not_true,Bool.false_or] at ay
        rcases Q6 co _ j Y U (λe he hb=>b0 e he hb) ay with q | ⟨x,Z,ac⟩
        ·have cZ:i<listed.size:=by rw [a3];exact(Array.getElem?_eq_some_iff.1 hi).1
         simp [Array.getD_eq_getD_getElem?,cZ] at q b1
         rw [b1] at q;cases q
        ·have:¬x<listed.size:=by rw [a3];intro K;simp [K] at Z
         simp [Array.getD_eq_getD_getElem?,this] at ac
      have bn:=Ok _ (cP (by rw [p2];exact b6) bx)
      rw [p1] at bn
      refine Ej _ bn ?_ (λ_ _ h=>h)
      rintro bw s' ⟨⟨ca,K⟩,am,cc⟩
      have cG:=Xe ca am
      have bo:s'.q=false:=cc.trans a4
      have cH:pure=false->∀{α:Prop},α:=λe=>by rw [cX] at e;cases e
      cases bw with
      | value u=>
       simp only at K ⊢
       rw [a8,Jb a6] at K
       obtain⟨Z,ac⟩:=H9 (ops:=ops) (T:=T) (d:=Y.dst) (v:=u) (o:=oi) (av i oi hi) a7
       exact⟨ca,a2 _ _ _ bb bi be a9 bo (by rw [ac];exact hw) (λag s2 ap O aq=>by unfold Yl;rw [Z];exact(aw ag s2 ap (λx o h=>O x o (cG x o h)) (λe=>cH e)).out) K⟩
      | skip=>
       simp only at K ⊢
       rw [a8,Jb a6] at K
       obtain⟨Z,ac⟩:=H9 (ops:=ops) (T:=T) (d:=Y.dst) (v:=undef) (o:=oi) (av i oi hi) a7
       exact⟨ca,a2 _ _ _ bb bi be a9 bo (by rw [ac];exact hw) (λag s2 ap O aq=>by unfold Yl;rw [Z];exact(aw ag s2 ap (λx o h=>O x o (cG x o h)) (λe=>cH e)).out) K⟩
      | _=>exact K.elim
     ·have bn:=Ok _ (cQ (by rw [p2];exact b6) bx)
      rw [p1] at bn
      refine Ej _ bn ?_ (λ_ _ h=>h)
      rintro bw s' ⟨K,am,cc⟩
      have cI:=Rb (D:=D) am
      have bo:(Cc D s s').q=false:=by show s'.q=false;rw [cc];exact a4
      cases bw with
      | value u=>
       simp only at K ⊢
       rw [a8,Jb a6] at K
       obtain⟨Z,ac⟩:=H9 (ops:=ops) (T:=T) (d:=Y.dst) (v:=u) (o:=oi) (av i oi hi) a7
       exact a2 _ _ _ bb bi be a9 bo (by rw [ac];exact hw) (λag s2 ap O aq=>by unfold Yl;rw [Z];exact(aw ag s2 ap (λx o h=>O x o (QW bz am x o h)) (λe=>by rw [cI] at aq;exact aq e)).out) K
      | skip=>
       simp only at K ⊢
       rw [a8,Jb a6] at K
       obtain⟨Z,ac⟩:=H9 (ops:=ops) (T:=T) (d:=Y.dst) (v:=undef) (o:=oi) (av i oi hi) a7
       exact a2 _ _ _ bb bi be a9 bo (by rw [ac];exact hw) (λag s2 ap O aq=>by unfold Yl;rw [Z];exact(aw ag s2 ap (λx o h=>O x o (QW bz am x o h)) (λe=>by rw [cI] at aq;exact aq e)).out) K
      | _=>exact K.elim)
end
section
variable (J:Judge P)(Q:Gs_)(b:Frame)(n:Nat)(ds:Ld_)(ops:Ao_)(k:Li_)(cs:Lf_)(X D D0:Nat->Bool)
def Fs(fuel:Nat)(listed:Array Bool)(L:Env)(s:St):Prop:=∀T,Has n L T->JB J Q b ds ops k cs X D D0 fuel listed T s
end
theorem JB.take{i:Nat}{oi:Oper}{w pure:Bool}{v:Value}{P:Program}{J:Judge P}{Q:Gs_}{b:Frame}{ds:Ld_}{ops:Ao_}{k:Li_}{cs:Lf_}{X D D0:Nat->Bool}(K:∀x,D0 x=true->D x=true)(hi:ops[i]? =some oi)(O:X i=false)(U:(pure || waitAll ops X i)=true)(Y:Region.noSelect ops=true)(Z:∀c,oi.op≠ .defer c)
  (fuel:Nat) (listed:Array Bool) (T:Av_) (s:St) (ac:IT ops listed i oi=true) (ag:HJ ops listed=true) (al:listed.size=ops.size) (am:i∈Region.ready .any ops listed) (ap:s.q=false) (aq:Region.wanted oi (yielded ops T)=w)
  (av:w=true->∀s',s'.q=false->(pure=false->∀x o,(Bh D s).E x=some o->s'.E x=some o)->Yl P oi (Bx T) s' v)
  (h:JB J Q b ds ops k cs X D D0 fuel (A2 listed i) (CJ T oi.dst (if w then v else undef)) s):JB J Q b ds ops k cs X D D0 (fuel+1) listed T s:=
 Sa K hi O U Y Z fuel listed T s ac ag al am ap aq (λe s' aw _ ay=>av e s' aw ay) h
def Jq(ops:Ao_)(listed:Array Bool)(xs:List Nat)(pure:Bool)(i:Nat):Bool:=match ops[i]? with
 | some oi=> !Az xs i&&(pure || waitAll ops (Az xs) i)&&Region.noSelect ops&& !Dw oi.op&&IT ops listed i oi&&HJ ops listed&&listed.size==ops.size&&(Region.ready .any ops listed).contains i
 | none=>false
variable {J:Judge P}{Q:Gs_}{n:Nat}{ds:Ld_}{ops:Ao_}{k:Li_}{cs:Lf_}{X D:Nat->Bool}{l0:List Nat}{L:Env}{s:St}{E H:LH}{S:List Seg}{xl bks:List Nat}
variable {d:Option Tmp}{t u ty:TypeId}{p:String}{af:Ae_}{g:On_}{v:Value}{kd:IntKind}
section
variable {b:Frame}{fuel:Nat}{listed:Array Bool}
variable {x y:Operand}{e:TypeId}{i:Nat}
theorem HE(xl bks l0:List Nat){id:Nat}(hm:P.follows .mixedOrders=true)(K:(b.kind != .early)=true)
  (h:Fs J Q b n ds ops k cs (Az xl) (Az (l0++bks)) (Az l0) ops.size (Array.replicate ops.size false) L (Ak E H S)):JL J Q b n L ds (.code (.region id ops true)::k) cs (Ak E H S):=
 SI V hm λt T O=>XT (by simpa using K) ops.size t _ T _ (h T O)
theorem TP:∀x,Az l0 x=true->Az (l0++bks) x=true:=λx h=>by
 simp only [Az,List.contains_iff_mem,List.mem_append] at h ⊢;exact .inl h
theorem JB.val{oi:Oper}(i:Nat)(pure:Bool)(hi:ops[i]? =some oi)(K:Jq ops listed xl pure i=true)(Y:s.q=false)
  (hw:AL L ops oi=some true) (Z:Bb n oi.dst=true) (ac:∀ρ,EF L ρ->∀s':St,(pure=false->∀x o,(Bh (Az (l0++bks)) s).E x=some o->s'.E x=some o)->Yl P oi ρ s' v)
  (h:Fs J Q b n ds ops k cs (Az xl) (Az (l0++bks)) (Az l0) fuel (A2 listed i) (As L oi.dst v) s):Fs J Q b n ds ops k cs (Az xl) (Az (l0++bks)) (Az l0) (fuel+1) listed L s:=λT O=>by
 simp only [Jq,hi,Bool.and_eq_true] at K
 obtain⟨⟨⟨⟨⟨⟨⟨ag,al⟩,am⟩,U⟩,ap⟩,aq⟩,av⟩,aw⟩:=K
 refine JB.take (w:=true) (v:=v) (pure:=pure) TP hi (by simpa using ag) al am (λc K=>by rw [K] at U;simp [Dw] at U) fuel listed T s ap aq (by simpa using av) (by simpa using aw) Y (B4 O hw) (λ_ s' az ay=>ac _ O.F6 s' ay) ?_
 exact h _ (O.put Z v)
theorem L3{oi:Oper}(i:Nat)(hi:ops[i]? =some oi)(K:Jq ops listed xl true i=true)(Y:s.q=false)
  (hw:AL L ops oi=some true) (Z:Bb n oi.dst=true) (ac:∀ρ,EF L ρ->∀s':St,(∀x o,(Bh (Az l0) s).E x=some o->s'.E x=some o)->Yl P oi ρ s' v)
  (h:Fs J Q b n ds ops k cs (Az xl) (Az (l0++bks)) (Az l0) fuel (A2 listed i) (As L oi.dst v) s):Fs J Q b n ds ops k cs (Az xl) (Az (l0++bks)) (Az l0) (fuel+1) listed L s:=λT O=>by
 simp only [Jq,hi,Bool.and_eq_true] at K
 obtain⟨⟨⟨⟨⟨⟨⟨ag,al⟩,am⟩,U⟩,ap⟩,aq⟩,av⟩,aw⟩:=K
 refine Sa (w:=true) (v:=v) (pure:=true) TP hi (by simpa using ag) al am (λc K=>by rw [K] at U;simp [Dw] at U) fuel listed T s ap aq (by simpa using av) (by simpa using aw) Y (B4 O hw) (λ_ s' az ay _=>ac _ O.F6 s' ay) ?_
 exact h _ (O.put Z v)
theorem K7{oi:Oper}(i:Nat)(hi:ops[i]? =some oi)(K:Jq ops listed xl true i=true)(O:s.q=false)
  (hw:AL L ops oi=some true) (U:Bb n oi.dst=true) (Y:∀ρ,EF L ρ->∀s':St,(∀x o,s.E x=some o->s'.E x=some o)->Yl P oi ρ s' v)
  (h:Fs J Q b n ds ops k cs (Az xl) (Az (l0++bks)) (Az l0) fuel (A2 listed i) (As L oi.dst v) s):Fs J Q b n ds ops k cs (Az xl) (Az (l0++bks)) (Az l0) (fuel+1) listed L s:=
 L3 i hi K O hw U (λρ Z s' ac=>Y ρ Z s' (bM ac)) h
theorem JB.fin{l0:List Nat}(K:Region.ready .any ops listed= [])(h:JL J Q b n L ds k cs s):Fs J Q b n ds ops k cs X D (Az l0) 0 listed L s:=λT O=>⟨K,JL.done h T O⟩
def Mx(S:List Seg)(j:Nat):List Nat->Prop
 | []=>True
 | bk::l=>(∃(i:Nat) (o:Obj),(i==j)=false/\S[i]? =some [(bk,o)])/\Mx S j l
theorem Mx.mem{S:List Seg}{j:Nat}:∀{l:List Nat},Mx S j l->∀bk∈l,∃(i:Nat) (o:Obj),i≠j/\S[i]? =some [(bk,o)]
 | [],_,_,h=>by cases h
 | b::l,⟨⟨i,o,hi,h⟩,K⟩,bk,hb=>by
  rcases List.mem_cons.1 hb with rfl | hb
  ·exact⟨i,o,by simpa using hi,h⟩
  ·exact K.mem bk hb
theorem JB.store{bk off:Nat}{c:Av_}(i j:Nat)(Y:Region.ready .any ops listed= [i])(av:Az xl i=true)(aw:ops[i]? =some ⟨d,.store t x y,ty,p,af,g⟩)(hw:AL L ops ⟨d,.store t x y,ty,p,af,g⟩=some true)(ay:Bb n d=true)(Z:Ap E H S)
  (O:ev L x=some (.pointer (some ⟨bk,off,none⟩))) (az:ev L y=some v) (a0:Bl P t=some v.cells.size) (a1:∀u∈v.cells.toList,C9 u=true) (ac:S[j]? =some [(bk,.cells c e (0,0))]) (a2:Mx S j l0) (hle:off+v.cells.size<=c.size)
  (h:Ap E H (S.set j [(bk,.cells (A6 c off v.cells.toList) e (0,0))])->Fs J Q b n ds ops k cs (Az xl) (Az (l0++bks)) (Az l0) fuel (A2 listed i) (As L d undef) (Ak E H (S.set j [(bk,.cells (A6 c off v.cells.toList) e (0,0))]))):
  Fs J Q b n ds ops k cs (Az xl) (Az (l0++bks)) (Az l0) (fuel+1) listed L (Ak E H S):=λT K=>by
 refine⟨by rw [Y];simp,rfl,λbe U o' ag=>?_⟩
 rw [Y] at U
 simp at U
 subst U
 obtain rfl:o'=⟨d,.store t x y,ty,p,af,g⟩:=by rw [aw] at ag;exact(Option.some.inj ag).symm
 have a3:=B4 K hw;refine⟨λc a4=>(by cases a4),λe=>?_,λ_ _=>?_,λ_ e=>?_⟩
 ·rw [a3] at e;cases e
 ·obtain⟨al,a5⟩:=GB Z ac;rw [al];show lp P (do Instr.storeAt t (Bx T x) (Bx T y);pure Next.skip) _ _ _
  rw [K.ev O,K.ev az];refine Au _ _ ?_;unfold Instr.storeAt;simp only [Instr.sureAddr,bind,Sem.bind,pure];refine Ra (pl:=(S.set j []).flatten.length) a0 a1 a5 (c:=c) (e:=e) (by simp) hle λam=>?_;have a6:((S.set j []).flatten++ [(bk,Obj.cells c e (0,0))]).set (S.set j []).flatten.length (bk,.cells (A6 c off v.cells.toList) e (0,0))=(S.set j []).flatten++ [(bk,.cells (A6 c off v.cells.toList) e (0,0))]:=Jh _ _ _ _;rw [a6] at am ⊢;obtain⟨a7,ap⟩:=IS ac am;rw [a7];refine⟨λx u O a8=>?_,h ap _ (K.put ay undef)⟩;obtain⟨bi,o',a9,aq⟩:=a2.mem x (by simpa [Az] using O);have bb:(Ak E H S).get x=some o':=Dr (i:=0) Z aq rfl;have g2:(Ak E H (S.set j [(bk,.cells (A6 c off v.cells.toList) e (0,0))])).get x=some o':=Dr (i:=0) ap (by rw [List.getElem?_set_ne (Ne.symm a9)];exact aq) rfl;have g0:(Ak E H S).get x=some u:=by rw [al];exact a8
  rw [bb] at g0;rw [g2];exact g0
 ·rw [av] at e;cases e
end
theorem M7{E H:LH}{S:List Seg}{bks:List Nat}{bk o:Nat}{l ws:Lv_}{e:TypeId}{f:Nat×Nat}{s':St}{w:Value}(j:Nat)(K:Ap E H S)(O:S[j]? =some [(bk,.cells (l++ws).toArray e f)])(U:Az bks bk=true)(Y:∀x o,(Bh (Az bks) (Ak E H S)).E x=some o->s'.E x=some o)(Z:ws[o]? =some w):s'.cell? ⟨bk,l.length+o,none⟩=some w:=by
 have:=XN j K O U Y o w Z
 rwa [Dm rfl] at this
variable {B:List (Nat×Obj)}
section
variable {e:TypeId}
theorem QY{ats:Array TypeId}{a:Option Addr}{l K O m cx:Nat}{ax:Option Addr}{xs ys:Lv_}{z:Value}{Q:Value->St->Prop}{X:Halt->St->Prop}
  (a0:ats[0]? =some t) {t1 a1:TypeId} (a2:ats[1]? =some t1) (a3:P.underlying t1=some (.slice a1)) (a4:P.underlying t=some (.slice e)) (a5:Bl P e=some K) (hb:FA P e=some O) (a6:zeroOf P e=some z) (a7:z.cells.size=K)
  (a8:Nd E H B) (al:HL (mk E H B) (.slice a l l) K xs)
  (Z:HL (mk E H B) (.slice ax m cx) K ys) (bx:∀w∈ys,C9 w=true) (bz:0<O) (b0:l+m<=2 ^ 40) (a9:O<=64)
  (ay:m=0->Q (.slice a (l+m) l) (mk E H B))
  (bb:∀r ac am,l+m<=am->ac.size=am*K->ac.toList.take ((l+m)*K)=xs++ys->Nd E H (B++ [(r,.cells ac e (0,0))])->Q (.slice (some ⟨r,0,none⟩) (l+m) am) (mk E H (B++ [(r,.cells ac e (0,0))]))):
  lp P (Builtin.append_ ats ty #[.slice a l l,.slice ax m cx]) (mk E H B) Q X:=by
 unfold Builtin.append_;simp only [a0,a2,List.getElem?_toArray,List.getElem?_cons_zero,List.getElem?_cons_succ];refine Au _ _ (Co a4 ?_);refine Au _ _ (EU a5 ?_);refine Au _ _ (Co a3 ?_);simp only [H7,Bool.false_eq_true,if_false,Builtin.lenOf,Bool.not_false,if_true];have ag:ys.length=m*K:=by
  cases ax with
  | none=>obtain⟨U,Y⟩:=Z;subst U Y;simp
  | some ad=>exact Z.2.1
 have ap:xs.length=l*K:=by
  cases a with
  | none=>obtain⟨U,Y⟩:=al;subst U Y;simp
  | some ad=>exact al.2.1
 obtain⟨c,b1⟩:∃c,c=l:=⟨_,V⟩;split
 ·rename_i b2;have hm:m=0:=by omega
  have be:ys= []:=List.eq_nil_of_length_eq_zero (by rw [ag,hm];simp);refine Au _ _ (Kf ⟨ax,cx,V⟩ Z ?_);subst be;cases a with
  | none=>exact ay hm
  | some ad=>exact ay hm
 ·rename_i b3;have U:¬(((l+m:Nat):Int)>IntKind.i64.max/\(False∨O=0)):=by rintro⟨_,h | h⟩ <;> omega
  have Y:¬(Builtin.nextslicecap (l+m) l*O>2 ^ 48):=by
   have:=Rn (need:=l+m) (old:=l) (by omega);have b4:Builtin.nextslicecap (l+m) l*O<=(2*(l+m)+768)*64:=Nat.mul_le_mul this a9;omega
  obtain⟨inf,aq,av⟩:=O9 hb;refine Au _ _ (Kh aq ?_);rw [av,if_neg U];refine Au _ _ (Kh aq ?_);rw [av,if_neg Y];refine Au _ _ ?_;simp only [choose,lp,Question.forced,Bool.false_eq_true,if_false];refine⟨V,λbi=>?_⟩;generalize bn:(Question.appendCap (l+m) l e).cut bi=aw;have bo:l+m<=aw:=by rw [← bn];simp [Question.cut]
  refine Au _ _ (Kh aq ?_);rw [av];have bv:∀{α:Type} {f:Unit->Sem α} {Q:α->St->Prop},lp P (f ()) (mk E H B) Q X->lp P (askRoom (aw*O)>>=f) (mk E H B) Q X:=by
   intro α f Q az;refine Au _ _ ?_;unfold askRoom;split
   ·exact⟨.inl ⟨V,V⟩,az⟩
   ·exact az
  refine bv (Au _ _ (Kf ⟨a,l,V⟩ al ?_));refine Au _ _ (Kf ⟨ax,cx,V⟩ Z ?_);refine Au _ _ (Hy a6 ?_);refine Au _ _ (Ja a8 λr bw=>?_);refine bb r _ aw bo ?_ ?_ bw
  ·simp only [Array.size_append,List.size_toArray,QU,a7,ap,ag];rw [← Nat.add_mul,← Nat.add_mul];congr 1;omega
  ·simp only [Array.toList_append];rw [List.take_append_of_le_length (by simp [ap,ag,Nat.add_mul])];rw [List.take_of_length_le (by simp [ap,ag,Nat.add_mul])]
end
theorem Al.spot{α:Type}{pp:Rp α}{E:LH}{a:Option Addr}{c:Nat}{xs:List α}(h:Al pp E a c xs):∀ad,a=some ad->ad.spot=none∨c=0:=λad K=>by
 rcases h.2 with⟨_,h⟩ | ⟨bk,off,h,_⟩
 ·exact h ad K
 ·rw [h] at K;cases K;exact .inl rfl
theorem Al.full{α:Type}{pp:Rp α}{E:LH}{a:Option Addr}{c:Nat}{xs:List α}(h:Al pp E a c xs):Al pp E a xs.length xs:=⟨Nat.le_refl _,h.2.imp (λ⟨h,_⟩=>⟨h,λ_ _=> .inr (by rw [h];rfl)⟩) id⟩
theorem Al.L4{α:Type}{pp:Rp α}{E H:LH}{B:List (Nat×Obj)}{a:Option Addr}{c:Nat}{ys:List α}(ac:Al pp E a c ys):
  ∃K:List (Lv_),K.length=ys.length/\(∀(i:Nat) x ws,ys[i]? =some x->K[i]? =some ws->pp.r E ws x)/\HL (mk E H B) (.slice a ys.length c) pp.n K.flatten/\∀w∈K.flatten,C9 w=true:=by
 obtain⟨K,U,Z,Y⟩:=ac.rows;have ag:=Ia U Z;refine⟨K,U,Z,?_,λw hw=>?_⟩
 ·rcases Y with⟨Y,aw⟩ | ⟨bk,off,rfl,Y⟩
  ·subst Y;have:K= []:=List.eq_nil_of_length_eq_zero U;subst this;cases a with
   | none=>exact⟨rfl,rfl⟩
   | some ad=>exact⟨.inr rfl,by simp,Nat.zero_le _,λq w O=>by simp at O⟩
  ·refine⟨.inl V,by rw [LK ag,U],ac.1,λq w O=>?_⟩;obtain⟨al,m,ws,am,e2,ap⟩:=OT ag O;have:=(Y al ws am).cell (H:=H) (B:=B) e2;subst ap;rw [← Nat.add_assoc];exact this
 ·obtain⟨us,aq,hw⟩:=List.mem_flatten.1 hw;obtain⟨q,O⟩:=List.mem_iff_getElem?.1 aq;have av:q<ys.length:=by rw [← U];exact(List.getElem?_eq_some_iff.1 O).1
  exact pp.one (Z q _ us (List.getElem?_eq_getElem av) O) w hw
variable {E':LH}
variable {z1:Operand}{rest:List Nat}{ρ:Operand->Value}
section
variable {b:Frame}
variable {x y:Operand}{e:TypeId}{i:Nat}
theorem Rj{a:Option Addr}{l c K:Nat}(O:∀ad,a=some ad->ad.spot=none∨c=0)(U:l<=c)(Y:P.underlying t=some (.slice e))(Z:Bl P e=some K)(ac:ρ x= .slice a l c)(ag:ρ y=iV (l:Int))(al:ρ z1=iV (l:Int)):
  Yl P ⟨d,.slice t x none (some y) (some z1),ty,p,af,g⟩ ρ s (.slice a l l):=by
 have h:=Yl.slice (P:=P) (s:=s) (d:=d) (ty:=ty) (p:=p) (af:=af) (g:=g) (olo:=none) (ohi:=some y) (omx:=some z1) (lo:=0) (hi:=l) (mx:=l) Y Z ac al ag V U (Nat.le_refl _) (Nat.zero_le _);have am:(if l=0 then a else a.map (·.add (0*K)))=a:=by
  split
  ·rfl
  ·cases a with
   | none=>rfl
   | some ad=>
    have:=(O ad rfl).resolve_right (by omega);simp only [Option.map_some,Nat.zero_mul];rw [Dm this];obtain⟨b,o,sp⟩:=ad;simp only at this;subst this;simp
 rw [am] at h;simpa using h
theorem Vu{α:Type}{pp:Rp α}{t1:TypeId}{Y c cx:Nat}{a ax:Option Addr}{xs ys Z:List α}{ats:Array TypeId}{z:Value}(U:CN xs ys=some Z)
  (aw:ops[i]? =some ⟨d,.call ⟨.builtin .append,#[x,y],ats⟩,ty,p,af,g⟩) (hw:AL L ops ⟨d,.call ⟨.builtin .append,#[x,y],ats⟩,ty,p,af,g⟩=some true) (ay:BL b n ⟨d,.call ⟨.builtin .append,#[x,y],ats⟩,ty,p,af,g⟩=true)
  (az:ev L x=some (.slice a xs.length xs.length)) (a0:ev L y=some (.slice ax ys.length cx)) (a1:ats[0]? =some t) (a2:ats[1]? =some t1) (a3:P.underlying t=some (.slice e)) (a4:P.underlying t1=some (.slice e)) (a5:Bl P e=some pp.n) (hb:FA P e=some Y) (a6:zeroOf P e=some z) (a7:z.cells.size=pp.n)
  (a8:0<Y) (a9:Y<=64) (ac:Al pp E a c xs) (bb:Al pp E ax cx ys) (ag:Ap E H S)
  (h:∀E' al K,Le E E'->Al pp E' al K Z->Ap E' H (S++ [[]])->JL J Q b n (As L d (.slice al Z.length K)) ds (.inRegion ops rest::k) cs (Ak E' H (S++ [[]]))):
  JL J Q b n L ds (.inRegion ops (i::rest)::k) cs (Ak E H S):=by
 unfold CN at U;split at U
 rotate_left
 ·cases U
 rename_i be;cases U;obtain⟨wss,am,bi,bn,ci⟩:=Al.L4 (H:=H) (B:=S.flatten) ac.full;obtain⟨bo,bv,bw,bx,bz⟩:=Al.L4 (H:=H) (B:=S.flatten) bb;have hlen:(xs++ys).length=xs.length+ys.length:=by simp
 show JL J Q b n L ds (.inRegion ops (i::rest)::k) cs (mk E H S.flatten);refine JL.op aw hw ay λρ ap=>?_;rw [LJ,ap x _ az,ap y _ a0];refine Au _ _ (QY a1 a2 a4 a3 a5 hb a6 a7 ag bn bx bz a8 be a9 ?_ ?_)
 ·intro hm;have b0:ys= []:=List.eq_nil_of_length_eq_zero hm;subst b0;have b1:Ap E H (S++ [[]]):=by unfold Ap at*;rw [Ha,List.append_nil];exact ag
  have b2:mk E H S.flatten=Ak E H (S++ [[]]):=by unfold Ak;rw [Ha,List.append_nil]
  rw [b2];have:=h E a xs.length (Le.refl _) (by rw [List.append_nil];exact ac.full) b1;rw [hlen] at this;exact this
 ·intro r O K b3 b4 b5 b6;have ca:OL e pp E (some ⟨r,0,none⟩) K [(r,.cells O e (0,0))] (xs++ys):=
   ⟨wss++bo,.inr ⟨r,O,rfl,rfl,b4,by rw [hlen];exact b3,by rw [hlen,List.flatten_append];exact b5.symm⟩,by simp [am,bv],M1 am bi bw⟩
  have aq:=FI (S:=S) (seg:= [(r,.cells O e (0,0))]) b6;show JL J Q b n _ ds _ cs (mk E H (S.flatten++ [(r,.cells O e (0,0))]));rw [aq.1];refine B9 S.length ca aq.2 (by simp) λE' hle cc av=>?_;have ce:(S++ [[(r,Obj.cells O e (0,0))]]).set S.length []=S++ [[]]:=Jh _ _ _ _;rw [ce] at av ⊢;have:=h E' (some ⟨r,0,none⟩) K hle cc av;rw [hlen] at this;exact this
end
open Go.ConcN (sumTo sumTo_upd upd upd_ne upd_same)
def LZ(P:Program)(R:Value->St->Prop):GP:=λg s=>
 g.status= .running/\∃v,R v s/\∀w,stepG P true g w= .ended (.done v) w #[]
variable {R:Value->St->Prop}
section
variable {b:Frame}
theorem JO.end{fn:Func}{t:Tmp}{v:Value}(K:b.kind= .normal)(hi:P.inits.idxOf? b.fn=none)(O:P.funcs[b.fn]? =some fn)(U:fn.results= #[.tmp t])(Y:look L t=some v)(Z:R v s):JO J (LZ P R) b n L [] [] s:=λT ac todo=>by
 refine J.stop ⟨rfl,v,Z,λw=>?_⟩
 have e:results fn T=Sem.pure v:=by
  have:=ac.at_ t v Y;simp only [results,U,Array.mapM_eq_mapM_toList];show Sem.pure (T.getD t undef)=_;rw [this]
 have ag:(results fn T).run P w= .ok v w:=by rw [e];rfl
 have e2:(results fn T).events P w #[]= #[]:=by rw [e];simp [Sem.events_pure']
 simp [G,stepG,unwind,Ew,O,ag,e2,doReturn,K,GStep.after,hi,seen_none]
end
def After(P:Program)(R:Value->St->Prop)(K:World)(s₀:St)(v:Value)(w':World):Prop:=
 ∃s,R v s/\Fits s w'/\(∀b o,s₀.E b=some o->s.E b=some o)/\w'.tape=K.tape/\Gt K.os w'.os/\w'.output=K.output
def QH(P:Program)(R:Value->St->Prop)(K:World)(s₀:St)(O:Nat)(m:Machine)(t:Trace):Prop:=
 ∃gs w sl q Sh g s,m=crowd gs w sl/\Hp P gs w t q Sh g s/\LZ P R g s/\O=sumTo gs.size q/\(∀b o,s₀.E b=some o->s.E b=some o)/\w.tape=K.tape/\Gt K.os w.os/\w.output=K.output
theorem XQ{ap:World}{s₀:St}(ay:Nat)(m:Machine)(t:Trace)(h:QH P R ap s₀ ay m t):
  (∃o w ops,stepT P m=(.ended o w,ops)/\Good P (After P R ap s₀) m o w (t++ops))∨(∃m' ops az,stepT P m=(.next m',ops)/\az<ay/\QH P R ap s₀ az m' (t++ops)):=by
 obtain⟨gs,w,sl,q,Sh,g,s,rfl,hC,bi,rfl,a0,a1,a2,a3⟩:=h;obtain⟨ac,v,a4,a5⟩:=bi;have bn:∀x∈gs,awake x:=by
  intro x Y;obtain⟨i,hi,rfl⟩:=Array.mem_iff_getElem.1 Y;rcases Nat.eq_zero_or_pos i with rfl | aq
  ·have:gs[0]=g:=by simpa [Array.getElem?_eq_getElem hi] using hC.main
   rw [this];exact awake_of (.inl ac)
  ·exact awake_of ((hC.lv.old i _ aq (Array.getElem?_eq_getElem hi)).status.elim .inl λx=> .inr (.inr x))
 obtain⟨i,x,d,a6,hi,Y,a7⟩:=crowd_pick (P:=P) (w:=w) (sl:=sl) bn ⟨0,g,hC.main,ac⟩;have a8:=hC.at_ d;have bo:0<gs.size:=(Array.getElem?_eq_some_iff.1 hC.main).1;have bv:∀(a:Nat) (fn:FuncId) (pos:String),MemOp.ofEvents a fn pos #[]= #[]:=λa fn pos=>by rw [ofEvents_eq];simp
 rcases Nat.eq_zero_or_pos i with rfl | aq
 ·obtain rfl:x=g:=by rw [hC.main] at hi;exact(Option.some.inj hi).symm
  have ag:=runT_many_ended (P:=P) (sl:=a6) (i:=0) hi (show stepG P (0==0) x (w.at d)=_ from a5 (w.at d));rw [bv] at ag;refine .inl ⟨_,_,_,a7.trans ag,v,V,⟨s,a4,a8.B8.fits 0 bo,a0,a1,a2,a3⟩,?_,?_,⟨λy K=>?_,V⟩,λj y K O=>?_⟩
  ·simpa using hC.B8.clean
  ·simpa using hC.over
  ·obtain⟨j,O⟩:=List.mem_iff_getElem?.1 K;rw [List.getElem?_drop] at O;exact⟨_,(hC.lv.old (1+j) y (by omega) (by simpa [crowd] using O)).leaves⟩
  ·have Z:=hC.lv.old j y (by omega) K;exact⟨q j,by simp only [Array.append_empty];exact Z.hears w⟩
 ·have Z:=hC.lv.old i x aq hi;have bw:(i==0)=false:=by simp;omega
  have a9:i<gs.size:=(Array.getElem?_eq_some_iff.1 hi).1;cases av:q i with
  | zero=>rw [av] at Z;rw [Z.1] at Y;cases Y
  | succ k=>
   rw [av] at Z;rcases Z with⟨bx,_⟩ | ⟨_,x',es,hm,bz,b0⟩
   ·rw [bx] at Y;cases Y
   have b4:sumTo gs.size (upd q i k)+(k+1)=sumTo gs.size q+k:=by
    have:=sumTo_upd q k id a9;simpa [av] using this
   have ag:=runT_crowd_go (P:=P) (sl:=a6) (i:=i) hi (by rw [bw];exact bz (w.at d));have aw:((gs.map (woken P x x' (w.at d))).setIfInBounds i x').size=gs.size:=by simp
   have al:∀op∈MemOp.ofEvents i x.frame.fn x.frame.place es,op.g=i:=λop U=>by obtain⟨e,_,rfl⟩:=mem_ofEvents U;rfl
   have bb:∀op∈MemOp.ofEvents i x.frame.fn x.frame.place es,op.act.touch? =none:=λop U=>by obtain⟨e,he,rfl⟩:=mem_ofEvents U;exact touch_mute (hm e he)
   have b1:Hp P ((gs.map (woken P x x' (w.at d))).setIfInBounds i x') (w.at d) (t++MemOp.ofEvents i x.frame.fn x.frame.place es) (upd q i k) Sh g s:=by
    refine⟨?_,⟨λj y O K=>?_,λj O=>?_⟩,?_,?_,?_⟩
    ·have b2:i≠0:=by omega
     rw [Array.getElem?_setIfInBounds_ne b2,Array.getElem?_map,hC.main];simp [woken_run ac]
    ·by_cases am:i=j
     ·subst am;rw [Array.getElem?_setIfInBounds_self_of_lt (by simpa using a9)] at K;obtain rfl:=Option.some.inj K;rw [upd_same,Deaf_own];exact b0
     ·rw [Array.getElem?_setIfInBounds_ne am,Array.getElem?_map] at K;obtain⟨z,b3,rfl⟩:=Option.map_eq_some_iff.1 K;have be:=hC.lv.old j z O b3;rw [woken_quitsD be,upd_ne q k (Ne.symm am),Deaf_other t am _ al];exact be
    ·rw [Deaf_other t (g':=i) (by simp at O;omega) _ al];exact hC.lv.above j (by simpa using O)
    ·rw [aw];exact a8.B8.mute al bb (λop U=>by obtain⟨e,he,rfl⟩:=mem_ofEvents U;exact low_mute (hm e he) _) V
    ·exact handedOver_app hC.over λop U=> .inr (bb op U)
    ·rw [Deaf_other t (by omega) _ al];exact hC.hears
   exact .inr ⟨_,_,_,a7.trans ag,by rw [← aw];rw [aw];omega,_,_,_,_,_,_,_,V,b1,⟨ac,v,a4,a5⟩,V,a0,a1,a2,a3⟩
theorem ends{gs:Array Goroutine}{w:World}{sl:Option (Nat×Nat)}{t:Trace}{q:Nat->Nat}{Sh:Nat->Prop}{g:Goroutine}{s:St}(hC:Hp P gs w t q Sh g s)(O:LZ P R g s):
  ∃N last o w' K,runNT P (N+1) (crowd gs w sl) t=(.ended o w',K)/\runN P N (crowd gs w sl)= .next last/\step P last= .ended o w'/\Good P (After P R w s) last o w' K:=
 run_of_inv Nat.lt_wfRel.wf (QH P R w s) (Good P (After P R w s)) XQ _ _ _ ⟨gs,w,sl,q,Sh,g,s,V,hC,O,V,λ_ _ h=>h,V,.refl _,V⟩
theorem VC{m m':Machine}{t K:Trace}{n:Nat}(h:runNT P n m t=(.next m',K)):runN P n m= .next m':=by rw [← runNT_fst P n m t,h]
def G3(W:World):St:=⟨λb=>W.heap[b]?,λ_=>none,false⟩
theorem Xq{W:World}{g:Goroutine}(h:(GR P).ok (LZ P R) g (G3 W)):
  ∃M last o w' K,runNT P (M+1) (solo g W) #[]=(.ended o w',K)/\runN P M (solo g W)= .next last/\step P last= .ended o w'/\Good P (After P R W (G3 W)) last o w' K:=by
 have hC:Hp P #[g] W #[] (λ_=>0) (λ_=>False) g (G3 W):=by
  have Y:∀{i:Nat} {a:Touch},touchAt #[] i=some a->False:=λ{i a} h=>by simp [touchAt,Trace.act?] at h
  refine⟨V,leavers_one P g,⟨λi hi=>?_,λi j hi ac bi=>by simp at hi ac;omega,λi hi b hb=>hb.elim,λb hb=>hb.elim,λsaid=>?_,by simp,λi _ b _ x a O=>(Y O).elim,λi _ b _ x a O=>(Y O).elim⟩,λi g ag=>by simp [Trace.g?] at ag,V⟩
  ·have:i=0:=by simp at hi;exact hi
   subst this;exact⟨λb o U=>U,λb o U=>(by cases U),λb _=>V⟩
  ·rintro⟨i,j,_,⟨a,b,al,_⟩,_⟩;simp [Trace.act?] at al
 obtain⟨n,gs',w',am,K,q',bn,g',s',Z,ap,aq,av,aw,ay,az⟩:=h #[g] W none #[] _ _ hC;obtain⟨N,last,o,a0,a2,k1,a3,a4,a5⟩:=ends (sl:=am) ap aq;refine⟨n+N,last,o,a0,a2,?_,?_,a4,?_⟩
 ·rw [solo_eq_crowd,Nat.add_assoc,runNT_add,Z];exact k1
 ·have a6:=VC Z;rw [solo_eq_crowd,runN_add,a6];exact a3
 ·obtain⟨v,e,⟨s2,a1,a7,a8,a9,bb,be⟩,r⟩:=a5;exact⟨v,e,⟨s2,a1,a7,λb o hb=>a8 b o (av b o hb),a9.trans aw,ay.trans bb,be.trans az⟩,r⟩
end Pal
namespace Pal
open Go Go.Conc
theorem Wr{P:Program}{Q:Gs_}{E H:LH}{f:FuncId}{fn:Func}{c:Code}{vs:Lv_}(U:P.funcs[f]? =some fn)(hb:fn.body=some c)(ag:fn.ntmps=fn.ntmps)(al:vs.length<=fn.ntmps)
  (h:JL (GR P) Q (base f) fn.ntmps (Gj 0 vs) [] [.code c] [] (Ak E H [[]])):(GR P).ok Q (G (Frame.enter P f vs.toArray .normal) []) (mk E H []):=by
 have he:Frame.enter P f vs.toArray .normal=fr (base f) (vs.toArray++Array.replicate (fn.ntmps - vs.length) undef) [] [.code c]:=by
  simp [Frame.enter,fr,U,hb,base];rfl
 rw [he];have Y:mk E H []=Ak E H [[]]:=by unfold Ak;simp
 rw [Y];refine h _ ⟨by simp;omega,λt v Z=>?_⟩;obtain⟨_,K⟩:=JD Z;have ac:t<vs.length:=by
  rcases Nat.lt_or_ge t vs.length with O | O
  ·exact O
  ·simp at K;have:=(List.getElem?_eq_some_iff.1 K).1;omega
 rw [Array.getD_eq_getD_getElem?,Array.getElem?_append_left (by simpa using ac)];simp at K;simp [K]
open Go.ChangeAt Go.ChangeShapes Go.Proofs Go.Proofs.YtmeophcclkejkaaGreat Go.RowKit Go.WideShapes
theorem Tryz.own:ownKnob Tryz.prog.godebug=none:=by kernel_rfl
theorem Tryz.laidOut:laidOutB Tryz.prog=true:=by kernel_rfl
theorem Tryz.Y0:Tryz.prog.cellsOf 3=1:=by kernel_rfl
theorem Ve{R:Value->St->Prop}{W w':World}{v:Value}(h:After Tryz.prog R W (G3 W) v w'):(∃s,R v s)/\Below W.heap.size W {w' with os:=W.os}/\Go.ConcM.OsLater W.os w'.os:=by
 obtain⟨s,Y,Z,ac,ag,al,am⟩:=h;have hb:∀k,k<W.heap.size->w'.heap[k]? =W.heap[k]? :=λk O=>by
  have K:(G3 W).E k=some W.heap[k]:=Array.getElem?_eq_getElem O;have U:=Z.e k _ (ac k _ K);rw [U,Array.getElem?_eq_getElem O]
 refine⟨⟨s,Y⟩,⟨V,ag,am,?_,hb⟩,al⟩;show W.heap.size<=w'.heap.size;rcases Nat.eq_zero_or_pos W.heap.size with ap | ap
 ·omega
 ·have K:=hb (W.heap.size - 1) (by omega);have aq:W.heap[W.heap.size - 1]? =some W.heap[W.heap.size - 1]:=Array.getElem?_eq_getElem (by omega);rw [aq] at K;have U:=(Array.getElem?_eq_some_iff.1 K).1;omega
theorem Rx(a:Addr):a.add 0=a:=by unfold Addr.add;rw [if_pos rfl]
variable {H:Type}{enc:TypeId×Value->H}{W:World}{cs:Lv_}
section
variable {fuel:Nat}{x:DataW H×List MemPlace}
theorem W6{b off:Nat}{v:Value}(h:W.cell? ⟨b,off,none⟩=some v):At (G3 W).E b off [v]:=by
 unfold World.cell? at h;split at h
 ·rename_i c e f hW;simp only [Option.isSome_none,Bool.false_eq_true,if_false] at h;refine⟨c,e,f,hW,λj w K=>?_⟩
  match j,K with
  | 0,K=>simp at K;subst K;simpa using h
  | j+1,K=>simp at K
 ·cases h
theorem Wy{b off:Nat}(O:0<cs.length)(h:∀j,j<cs.length->W.cell? ⟨b,off+j,none⟩=cs[j]?):At (G3 W).E b off cs:=by
 have U:=h 0 O;rw [List.getElem?_eq_getElem O] at U;obtain⟨f,e,fr,Y,_⟩:=W6 U;have hW:W.heap[b]? =some (.cells f e fr):=Y;refine⟨f,e,fr,Y,λj w Z=>?_⟩;have ac:=(List.getElem?_eq_some_iff.1 Z).1;have K:=h j ac;rw [Z] at K;unfold World.cell? at K;simp only [hW] at K;simpa using K
theorem Zi{α:Type}{p:Rp α}{t e:TypeId}(a1:Tryz.prog.underlying t=some (.slice e))(a2:Tryz.prog.cellsOf e=p.n)(a3:0<p.n)
  (a4:∀n cs x,DataW.trod enc Tryz.prog W 0 (λ_=>true) true n e cs=some x->∃v,p.r (G3 W).E cs v)
  (a5:DataW.trod enc Tryz.prog W 0 (λ_=>true) true fuel t cs=some x):∃(a:Option Addr) (c:Nat) (aq:List α),cs= [.slice a aq.length c]/\Al p (G3 W).E a c aq:=by
 rcases DataW.trod_slice a1 a5 with⟨ac,a6⟩ | ⟨a,len,cap,elems,rest,n,_,ac,a6,_,a7,_,hlen,av,aw,_⟩
 ·exact⟨none,0,[],ac,Al.nil⟩
 ·rw [a2] at av aw;rcases Nat.eq_zero_or_pos cap with ay | ay
  ·have:len=0:=by omega
   subst this;subst ay;exact⟨some a,0,[],ac,Nat.le_refl _,.inl ⟨V,λ_ _=> .inr V⟩⟩
  ·have az:∀i,i<len->∃vs y,vs.length=p.n/\(∀j,j<p.n->W.cell? ((a.add (i*p.n)).add j)=vs[j]?)/\DataW.trod enc Tryz.prog W 0 (λ_=>true) true n e vs=some y:=λi hi=>by
    have K:=av i hi;rw [List.getElem?_eq_getElem (by omega)] at K;obtain⟨vs,al,Y⟩:=Option.bind_eq_some_iff.1 K;obtain⟨_,O,am⟩:=World.cells?_some al;exact⟨vs,_,O,am,Y⟩
   have ap:a.spot=none:=by
    have key:∀vs:Lv_,vs.length=p.n->(∀j,j<p.n->W.cell? ((a.add (0*p.n)).add j)=vs[j]?)->a.spot=none:=λvs ag U=>by
     have:=U 0 a3;rw [List.getElem?_eq_getElem (by omega),Rx,Nat.zero_mul,Rx] at this;exact World.cell?_spot this
    rcases Nat.eq_zero_or_pos len with K | K
    ·obtain⟨al,Y⟩:=aw V;have O:=Y 0 (by omega);rw [List.getElem?_eq_getElem (by omega)] at O;obtain⟨vs,am,_⟩:=Option.bind_eq_some_iff.1 O;obtain⟨_,ag,U⟩:=World.cells?_some am;rw [K] at U;exact key vs ag U
    ·obtain⟨vs,y,ag,U,_⟩:=az 0 K;exact key vs ag U
   have a0:∀i:Fin len,∃z:α,∃vs,p.r (G3 W).E vs z/\At (G3 W).E a.block (a.off+i*p.n) vs:=λi=>by
    obtain⟨vs,y,al,Y,O⟩:=az i i.2;obtain⟨z,Z⟩:=a4 _ _ _ O;refine⟨z,vs,Z,Wy (by omega) λj a8=>?_⟩;have:=Y j (by omega);rw [Dm ap,Dm rfl] at this;exact this
   refine⟨some a,cap,List.ofFn λi=>Classical.choose (a0 i),by simpa using ac,by simpa using a7,.inr ⟨a.block,a.off,?_,λi z Z=>?_⟩⟩
   ·obtain⟨b,o,s⟩:=a;simp only at ap;subst ap;rfl
   ·have hi:i<len:=by have:=(List.getElem?_eq_some_iff.1 Z).1;simpa using this
    simp [hi] at Z;have:=Classical.choose_spec (a0 ⟨i,hi⟩);rw [Z] at this;exact this
theorem X7(h:DataW.trod enc Tryz.prog W 0 (λ_=>true) true fuel 3 cs=some x):∃z:Int,cs= [iV z]:=by
 obtain⟨n1,K,_⟩:=DataW.trod_int Tryz.underlying3 h;exact⟨n1,K⟩
theorem XH(O:DataW.trod enc Tryz.prog W 0 (λ_=>true) true fuel 28 cs=some x):∃(a:Option Addr) (c:Nat) (K:List Int),cs= [.slice a K.length c]/\Al rI (G3 W).E a c K:=
 Zi (p:=rI) Tryz.underlying28 Tryz.Y0 Nat.one_pos (λn cs x h=>by
  obtain⟨z,rfl⟩:=X7 h
  exact⟨z,rfl⟩) O
theorem Xr{v:Value}{O:Nat}{d:DataW H}{p:List MemPlace}(U:Value.okWide Tryz.prog W .any O 28 v)(hd:DataW.Trod enc Tryz.prog W 0 (λ_=>true) true 28 v d p):
  ∃(a:Option Addr) (c:Nat) (K:List Int),v= .slice a K.length c/\Al rI (G3 W).E a c K:=by
 obtain⟨Z,len,cap,rfl⟩:=okWide_slice Tryz.underlying28 U;obtain⟨fuel,Y⟩:=hd;obtain⟨a,c,K,e,g⟩:=XH Y;simp [Value.cells] at e;obtain⟨rfl,rfl,rfl⟩:=e;exact⟨_,_,_,V,g⟩
end
end Pal
namespace Pal
open Go Go.Conc
def Hn(K:Bool)(ws:Lv_):Value:=if K then .agg ws.toArray else ws.headD undef
def Vr{α:Type}(pp:Rp α)(K:Bool)(E:LH)(v:Value)(x:α):Prop:=∃ws,pp.r E ws x/\v=Hn K ws
theorem Vr.Ah{α:Type}{pp:Rp α}{K:Bool}{E E':LH}{v:Value}{x:α}(h:Vr pp K E v x)(hle:Le E E'):Vr pp K E' v x:=
 let ⟨ws,O,U⟩:=h;⟨ws,pp.Ah hle O,U⟩
structure GG (P:Program) (t:TypeId) {κ:Type} [DecidableEq κ] (pk:Rp κ) (ka:Bool):Prop where
 BL:∀{em:Bool} {E:LH} {v:Value} {x:κ} {s:St} {Q:Unit->St->Prop} {X:Halt->St->Prop},Vr pk ka E v x->Q () s->lp P (Instr.checkKey em 10000 t v) s Q X
 kind:∃kd,P.underlying t=some kd/\((∀v w,Instr.sameNow kd v w=none)∨∀{E:LH} {v w:Value} {x y:κ},Vr pk ka E v x->Vr pk ka E w y->Instr.sameNow kd v w=some (decide (x=y)))
 eq:∀{E:LH} {v w:Value} {x y:κ} {s:St} {Q:Bool->St->Prop} {X:Halt->St->Prop},Vr pk ka E v x->Vr pk ka E w y->Q (decide (x=y)) s->lp P (Op.equal t v w) s Q X
 same:∀{E:LH} {v:Value} {x:κ},Vr pk ka E v x->Instr.sameBits 10000 v v=true
 uniq:∀{E:LH} {v w:Value} {x:κ},Vr pk ka E v x->Vr pk ka E w x->v=w
variable {κ ν:Type}{pk:Rp κ}{pv:Rp ν}{ka va:Bool}{E E':LH}
variable {P:Program}{s:St}{t tm te:TypeId}{X:Halt->St->Prop}
section
variable [DecidableEq κ]
def DK(pk:Rp κ)(ka:Bool)(pv:Rp ν)(va:Bool)(E:LH):List MapEntry->List (κ×ν)->Prop
 | [],[]=>True
 | e::es,x::xs=>Vr pk ka E e.key x.1/\Vr pv va E e.val x.2/\DK pk ka pv va E es xs
 | _,_=>False
theorem DK.Ah(hle:Le E E'):∀{es:List MapEntry} {xs:List (κ×ν)},DK pk ka pv va E es xs->DK pk ka pv va E' es xs
 | [],[],_=>trivial
 | e::es,x::xs,h=>⟨h.1.Ah hle,h.2.1.Ah hle,DK.Ah hle h.2.2⟩
 | [],_::_,h=>h.elim
 | _::_,[],h=>h.elim
theorem DK.len:∀{es:List MapEntry} {xs:List (κ×ν)},DK pk ka pv va E es xs->es.length=xs.length
 | [],[],_=>rfl
 | e::es,x::xs,h=>by simp [DK.len h.2.2]
 | [],_::_,h=>h.elim
 | _::_,[],h=>h.elim
def Gs(x:κ):List MapEntry->List (κ×ν)->Nat->Option (Nat×Value)
 | e::es,y::ys,i=>if x=y.1 then some (i,e.val) else Gs x es ys (i+1)
 | _,_,_=>none
def Bs(xs:List (κ×ν))(x:κ):Option ν:=(xs.find? λy=>decide (x=y.1)).map (·.2)
def CP(xs:List (κ×ν))(x:κ)(v:ν):List (κ×ν):=match xs with
 | []=> [(x,v)]
 | y::ys=>if x=y.1 then(x,v)::ys else y::CP ys x v
theorem Tv{x:κ}:∀{es:List MapEntry} {xs:List (κ×ν)} {i:Nat},DK pk ka pv va E es xs->(Gs x es xs i=none/\Bs xs x=none)∨∃j w v0,Gs x es xs i=some (j,w)/\Bs xs x=some v0/\Vr pv va E w v0
 | [],[],i,_=> .inl ⟨rfl,rfl⟩
 | e::es,y::ys,i,h=>by
  unfold Gs Bs
  by_cases K:x=y.1
  ·exact .inr ⟨i,e.val,y.2,by rw [if_pos K],by simp [K],h.2.1⟩
  ·rcases Tv (x:=x) (i:=i+1) h.2.2 with⟨O,U⟩ | ⟨j,w,v0,O,U,Y⟩
   ·exact .inl ⟨by rw [if_neg K];exact O,by simpa [K,Bs] using U⟩
   ·exact .inr ⟨j,w,v0,by rw [if_neg K];exact O,by simpa [K,Bs] using U,Y⟩
 | [],_::_,_,h=>h.elim
 | _::_,[],_,h=>h.elim
theorem DK.put{x:κ}{v0:ν}{O w:Value}(U:Vr pk ka E O x)(hw:Vr pv va E w v0)(Z:Nat):∀{es:List MapEntry} {xs:List (κ×ν)} {i:Nat},DK pk ka pv va E es xs->
  (Gs x es xs i=none/\DK pk ka pv va E (es++ [{key:=O,val:=w,born:=Z}]) (CP xs x v0))∨
  ∃j u,Gs x es xs i=some (i+j,u)/\j<es.length/\(∀e,es[j]? =some e->Vr pk ka E e.key x)/\DK pk ka pv va E (es.modify j λe=>{e with key:=O,val:=w}) (CP xs x v0)
 | [],[],i,_=> .inl ⟨rfl,U,hw,trivial⟩
 | e::es,y::ys,i,h=>by
  unfold Gs CP
  by_cases K:x=y.1
  ·refine .inr ⟨0,e.val,by rw [if_pos K];rfl,by simp,λac he=>?_,?_⟩
   ·simp at he;subst he;rw [K];exact h.1
   ·rw [if_pos K];exact⟨U,hw,h.2.2⟩
  ·rcases DK.put U hw Z (i:=i+1) h.2.2 with⟨Y,ag⟩ | ⟨j,u,Y,ag,al,am⟩
   ·exact .inl ⟨by rw [if_neg K];exact Y,by rw [if_neg K];exact⟨h.1,h.2.1,ag⟩⟩
   ·refine .inr ⟨j+1,u,by rw [if_neg K,Y];congr 2;omega,by simp;omega,λac he=>al ac (by simpa using he),?_⟩;rw [if_neg K];exact⟨h.1,h.2.1,am⟩
 | [],_::_,_,h=>h.elim
 | _::_,[],_,h=>h.elim
def Ky(pk:Rp κ)(ka:Bool)(pv:Rp ν)(va:Bool)(E:LH)(o:Obj)(xs:List (κ×ν)):Prop:=
 ∃es clock,o= .map es clock/\DK pk ka pv va E es.toList xs/\(es.toList.map (·.born)).Pairwise (·<·)/\∀e∈es.toList,e.born<clock
theorem Ky.Ah{o:Obj}{xs:List (κ×ν)}(h:Ky pk ka pv va E o xs)(hle:Le E E'):Ky pk ka pv va E' o xs:=
 let ⟨es,c,K,O,U⟩:=h;⟨es,c,K,O.Ah hle,U⟩
theorem QX(U:GG P t pk ka){k:Value}{x:κ}(Y:Vr pk ka E k x){Q:Option (Nat×Value)->St->Prop}:∀{es:List MapEntry} {xs:List (κ×ν)} {i:Nat},DK pk ka pv va E es xs->Q (Gs x es xs i) s->lp P (Instr.findAsking t k es i) s Q X
 | [],[],i,_,h=>h
 | e::es,y::ys,i,h,K=>by
  unfold Instr.findAsking
  refine Au _ _ (U.eq Y h.1 ?_)
  unfold Gs at K
  by_cases O:x=y.1
  ·rw [decide_eq_true O]
   rw [if_pos O] at K;exact K
  ·rw [decide_eq_false O];rw [if_neg O] at K;exact QX U Y h.2.2 K
 | [],_::_,_,h,_=>h.elim
 | _::_,[],_,h,_=>h.elim
theorem Rd{kd:TypeDesc}{k:Value}{x:κ}(O:Vr pk ka E k x)(U:∀{E:LH} {v w:Value} {x y:κ},Vr pk ka E v x->Vr pk ka E w y->Instr.sameNow kd v w=some (decide (x=y))):∀{es:List MapEntry} {xs:List (κ×ν)} {i:Nat},DK pk ka pv va E es xs->Instr.findNow kd k es i=some (Gs x es xs i)
 | [],[],i,_=>rfl
 | e::es,y::ys,i,h=>by
  unfold Instr.findNow Gs
  rw [U O h.1]
  by_cases K:x=y.1
  ·simp [K]
  ·simp only [decide_eq_false K,if_neg K];exact Rd O U h.2.2
 | [],_::_,_,h=>h.elim
 | _::_,[],_,h=>h.elim
theorem O0(O:GG P t pk ka){k:Value}{x:κ}(U:Vr pk ka E k x){Q:Option (Nat×Value)->St->Prop}{es:List MapEntry}{xs:List (κ×ν)}(h:DK pk ka pv va E es xs)(K:Q (Gs x es xs 0) s):lp P (Instr.findKey t k es) s Q X:=by
 unfold Instr.findKey;obtain⟨kd,Y,Z | ac⟩:=O.kind
 ·refine Au _ _ (Co Y ?_);cases es with
  | nil=>
   cases xs with
   | nil=>exact K
   | cons y ys=>exact h.elim
  | cons e es=>
   have ag:Instr.findNow kd k (e::es) 0=none:=by unfold Instr.findNow;rw [Z]
   rw [ag];exact QX O U h K
 ·refine Au _ _ (Co Y ?_);rw [Rd U ac h];exact K
theorem WQ(O:GG P t pk ka)(hm:P.underlying tm=some (.map t te)){z:Value}{z0:ν}(Z:zeroOf P te=some z)(ac:Vr pv va E z z0){bk:Nat}{o:Obj}{xs:List (κ×ν)}{k:Value}{x:κ}(ag:s.get bk=some o)(al:Ky pk ka pv va E o xs)(U:Vr pk ka E k x)(ok:Bool){Q:Value->St->Prop}
  (h:∀w,Vr pv va E w ((Bs xs x).getD z0)->Q (if ok then .tuple #[w,.bool (Bs xs x).isSome] else w) s):lp P (Instr.lookup tm (.map (some bk)) k ok) s Q X:=by
 obtain⟨es,c,rfl,Y,ap,aq⟩:=al;unfold Instr.lookup;refine Au _ _ (Co hm ?_);refine Au _ _ ?_;unfold getObj;simp only [bind,Sem.bind,lp];refine⟨_,ag,V,?_⟩;refine Au (x:=Instr.checkKey _ 10000 t k) _ (O.BL U ?_);refine Au (x:=Instr.findKey t k es.toList) _ (O0 O U Y ?_);rcases Tv (x:=x) (i:=0) Y with⟨K,e2⟩ | ⟨j,w,v0,K,e2,am⟩
 ·rw [K];simp only;refine Au (x:=zeroValue te) _ (Hy Z ?_);have:=h z (by rw [e2];exact ac);rw [e2] at this;exact this
 ·rw [K];have:=h w (by rw [e2];exact am);rw [e2] at this;exact this
theorem U2(O:GG P t pk ka)(hm:P.underlying tm=some (.map t te)){bk:Nat}{o:Obj}{xs:List (κ×ν)}{k w:Value}{x:κ}{v0:ν}(am:s.get bk=some o)(Z:s.H bk=some o)(ap:Ky pk ka pv va E o xs)(K:Vr pk ka E k x)(hw:Vr pv va E w v0){Q:Unit->St->Prop}
  (h:∀o',Ky pk ka pv va E o' (CP xs x v0)->Q () (s.upd bk o')):lp P (Instr.mapUpdate tm (.map (some bk)) k w) s Q X:=by
 obtain⟨es,c,rfl,ac,ag,U⟩:=ap;unfold Instr.mapUpdate;refine Au _ _ (Co hm ?_);unfold getObj;simp only [bind,Sem.bind,lp];refine⟨_,am,V,?_⟩;refine Au (x:=Instr.checkKey false 10000 t k) _ (O.BL K ?_);refine Au (x:=Instr.findKey t k es.toList) _ (O0 O K ac ?_);rcases DK.put K hw c (i:=0) ac with⟨Y,e2⟩ | ⟨j,u,Y,e2,aq,av⟩
 ·rw [Y];simp only [setObj,lp];refine⟨⟨_,Z,V⟩,V,h _ ⟨es.push {key:=k,val:=w,born:=c},c+1,V,by simpa using e2,?_,?_⟩⟩
  ·rw [Array.toList_push,List.map_append,List.pairwise_append];refine⟨ag,by simp,λa aw b hb=>?_⟩;simp at hb;subst hb;obtain⟨e,he,rfl⟩:=List.mem_map.1 aw;exact U e he
  ·intro e he;rw [Array.toList_push] at he;rcases List.mem_append.1 he with he | he
   ·have:=U e he;omega
   ·simp at he;subst he;simp
 ·rw [Y];have al:es[j]? =some (es[j]'(by simpa using e2)):=Array.getElem?_eq_getElem (by simpa using e2);have ay:(es[j]'(by simpa using e2)).key=k:=O.uniq (aq _ (by rw [Array.getElem?_toList];exact al)) K;simp only [Nat.zero_add,al,Option.map_some,Option.getD_some,ay];refine Au (x:=Instr.keyThatStays k k) _ ?_;unfold Instr.keyThatStays;rw [if_pos (O.same K)];simp only [lp,pure,setObj];refine⟨⟨_,Z,V⟩,V,h _ ⟨_,c,V,by simpa using av,?_,?_⟩⟩
  ·have:(es.modify j λe=>{e with key:=k,val:=w}).toList.map (·.born)=es.toList.map (·.born):=by
    rw [Array.toList_modify];apply List.ext_getElem?;intro q;simp only [List.getElem?_map,List.getElem?_modify];split <;> cases es.toList[q]? <;> rfl
   rw [this];exact ag
  ·intro e he;rw [Array.toList_modify] at he;obtain⟨q,az,rfl⟩:=List.mem_iff_getElem.1 he;rw [List.getElem_modify];have a0:q<es.toList.length:=by simpa using az
   split
   ·show(es.toList[q]'a0).born<c;exact U _ (List.getElem_mem _)
   ·exact U _ (List.getElem_mem _)
end
theorem SW{l us r:Lv_}:∀j w,us[j]? =some w->(l++us++r).toArray[l.length+j]? =some w:=λj w h=>by
 have K:j<us.length:=(List.getElem?_eq_some_iff.1 h).1
 rw [List.getElem?_toArray,List.append_assoc,List.getElem?_append_right (by omega),show l.length+j - l.length=j by omega,List.getElem?_append_left K]
 exact h
section
variable {e:TypeId}
theorem KY{c:Av_}{off:Nat}{us:Lv_}{O:Bool}(Y:Di P e=some O)(Z:Bl P e=some us.length)(ac:O=false->us.length=1)(hw:∀j w,us[j]? =some w->c[off+j]? =some w)
  {Q:Value->St->Prop} (k:Q (Hn O us) s):lp P (Go.part e c off) s Q X:=by
 unfold Go.part;refine Au (x:=isAgg e) _ (Na Y ?_);cases O with
 | true=>
  simp only [if_true];refine Au (x:=Go.sizeOf e) _ (EU Z ?_);have ag:c.extract off (off+us.length)=us.toArray:=by
   apply Array.ext_getElem?;intro j;by_cases U:j<us.length
   ·have K:=hw j us[j] (List.getElem?_eq_getElem U);have al:off+j<c.size:=(Array.getElem?_eq_some_iff.1 K).1;simp only [Array.getElem?_extract];rw [if_pos (by omega),K];simp [U]
   ·simp only [Array.getElem?_extract];rw [if_neg (by omega)];simp;omega
  show Q (.agg (c.extract off (off+us.length))) s;rw [ag];exact k
 | false=>
  obtain⟨w,rfl⟩:∃w,us= [w]:=by
   match us,ac rfl with
   | [w],_=>exact⟨w,rfl⟩
  have K:=hw 0 w V;rw [Nat.add_zero] at K;simp only [Bool.false_eq_true,if_false,K];exact k
end
structure B6 (P:Program) (t:TypeId) {α:Type} [DecidableEq α] (pp:Rp α) (K:Bool) (dep:Nat):Prop where
 agg:Di P t=some K
 size:Bl P t=some pp.n
 one:K=false->pp.n=1
 eq:∀{n:Nat} {E E':LH} {ws ws':Lv_} {x y:α} {s:St} {Q:Bool->St->Prop} {X:Halt->St->Prop},dep<=n->pp.r E ws x->pp.r E' ws' y->Q (decide (x=y)) s->lp P (Op.equalIn n t (Hn K ws) (Hn K ws')) s Q X
 BL:∀{n:Nat} {em:Bool} {E:LH} {ws:Lv_} {x:α} {s:St} {Q:Unit->St->Prop} {X:Halt->St->Prop},dep<=n->pp.r E ws x->Q () s->lp P (Instr.checkKey em n t (Hn K ws)) s Q X
 uniq:∀{E E':LH} {ws ws':Lv_} {x:α},pp.r E ws x->pp.r E' ws' x->ws=ws'
 same:∀{E:LH} {ws:Lv_} {x:α},pp.r E ws x->∀w∈ws,∀m,Instr.sameBits (m+1) w w=true
 now:∃kd,P.underlying t=some kd/\((∀v w,Instr.sameNow kd v w=none)∨∀{E E':LH} {ws ws':Lv_} {x y:α},pp.r E ws x->pp.r E' ws' y->Instr.sameNow kd (Hn K ws) (Hn K ws')=some (decide (x=y)))
variable {ρ:Operand->Value}{d:Option Tmp}{u ty:TypeId}{p:String}{af:Ae_}{g:On_}{ws ws':Lv_}
section
variable {e:TypeId}
theorem B6.int{kd:IntKind}(U:P.underlying t=some (.int kd))(Y:Bl P t=some 1):B6 P t (rK kd) false 1 where
 agg:=by unfold Di;rw [U]
 size:=Y
 one _:=rfl
 eq {n E E' ws ws' x y s Q X} Z K O k:=by
  obtain⟨m,rfl⟩:∃m,n=m+1:=⟨n - 1,by omega⟩;have K:ws= [.int kd x]:=K;have O:ws'= [.int kd y]:=O;subst K O;refine Ud U ?_;have e:(x==y)=decide (x=y):=by by_cases h:x=y <;> simp [h]
  rw [e];exact k
 BL {n em E ws x s Q X} Z K k:=by
  obtain⟨m,rfl⟩:∃m,n=m+1:=⟨n - 1,by omega⟩;have K:ws= [.int kd x]:=K;subst K;unfold Instr.checkKey;refine Au _ _ (Co U ?_);exact k
 uniq K O:=by
  have K:_= [Value.int kd _]:=K;have O:_= [Value.int kd _]:=O;rw [K,O]
 same {E ws x} h w hw m:=by
  have h:ws= [Value.int kd x]:=h;subst h;simp at hw;subst hw;simp [Instr.sameBits]
 now:=⟨_,U,.inr λ{E E' ws ws' x y} K O=>by
  have K:ws= [.int kd x]:=K
  have O:ws'= [.int kd y]:=O
  subst K O
  have e:(x==y)=decide (x=y):=by by_cases h:x=y <;> simp [h]
  show(if kd=kd then some (x==y) else none)=_
  rw [if_pos rfl,e]⟩
theorem B6.nat{kd:IntKind}(U:P.underlying t=some (.int kd))(Z:Bl P t=some 1):B6 P t (rN kd) false 1 where
 agg:=by unfold Di;rw [U]
 size:=Z
 one _:=rfl
 eq {n E E' ws ws' x y s Q X} ac K O k:=by
  obtain⟨m,rfl⟩:∃m,n=m+1:=⟨n - 1,by omega⟩;have K:ws= [.int kd ((x:Nat):Int)]:=K;have O:ws'= [.int kd ((y:Nat):Int)]:=O;subst K O;refine Ud U ?_;have e:((x:Int)==(y:Int))=decide (x=y):=by
   by_cases h:x=y
   ·simp [h]
   ·have Y:¬(x:Int)=(y:Int):=by omega
    simp [h,Y]
  rw [e];exact k
 BL {n em E ws x s Q X} ac K k:=by
  obtain⟨m,rfl⟩:∃m,n=m+1:=⟨n - 1,by omega⟩;have K:ws= [.int kd ((x:Nat):Int)]:=K;subst K;unfold Instr.checkKey;refine Au _ _ (Co U ?_);exact k
 uniq K O:=by
  have K:_= [Value.int kd _]:=K;have O:_= [Value.int kd _]:=O;rw [K,O]
 same {E ws x} h w hw m:=by
  have h:ws= [Value.int kd ((x:Nat):Int)]:=h;subst h;simp at hw;subst hw;simp [Instr.sameBits]
 now:=⟨_,U,.inr λ{E E' ws ws' x y} K O=>by
  have K:ws= [.int kd ((x:Nat):Int)]:=K
  have O:ws'= [.int kd ((y:Nat):Int)]:=O
  subst K O
  have e:((x:Int)==(y:Int))=decide (x=y):=by
   by_cases h:x=y
   ·simp [h]
   ·have Y:¬(x:Int)=(y:Int):=by omega
    simp [h,Y]
  show(if kd=kd then some ((x:Int)==(y:Int)) else none)=_
  rw [if_pos rfl,e]⟩
theorem B6.up{α:Type} [DecidableEq α] {pp:Rp α}{O:Bool}{dep U:Nat}(h:B6 P t pp O dep)(hd:dep<=U):B6 P t pp O U:=
 ⟨h.agg,h.size,h.one,λK=>h.eq (Nat.le_trans hd K),λK=>h.BL (Nat.le_trans hd K),h.uniq,h.same,h.now⟩
theorem PI{α:Type}{kk:Nat}{pp:Rp α}{E:LH}{ws:Lv_}{xs:List α}(K:(rA kk pp).r E ws xs){i:Nat}(hi:i<kk):∃x us,xs[i]? =some x/\pp.r E us x/\us.length=pp.n/\∀j w,us[j]? =some w->ws.toArray[i*pp.n+j]? =some w:=by
 have O:xs[i]? =some (xs[i]'(by rw [K.1];exact hi)):=List.getElem?_eq_getElem (by rw [K.1];exact hi);have Y:ix xs (i:Int)=some (xs[i]'(by rw [K.1];exact hi)):=by unfold ix;rw [if_pos (by omega)];simpa using O
 obtain⟨us,U,_,_,Z⟩:=HB (m:=(i:Int)) K Y;exact⟨_,us,O,U,pp.len U,λj w ac=>by have:=Z j w ac;rw [List.getElem?_toArray];simpa using this⟩
theorem B6.arr{α:Type} [DecidableEq α] {pp:Rp α}{a6:Bool}{dep kk:Nat}(h:B6 P e pp a6 dep)(Z:P.underlying t=some (.array kk e))(a7:Bl P t=some (kk*pp.n)):B6 P t (rA kk pp) true (dep+1) where
 agg:=by unfold Di;rw [Z]
 size:=a7
 one:=λh=>by cases h
 eq {n E E' ws ws' xs ys s Q X} a8 ac a0 k:=by
  obtain⟨n,rfl⟩:∃m,n=m+1:=⟨n - 1,by omega⟩;have bx:=ac.1;have bz:=a0.1;unfold Op.equalIn;refine Au _ _ (Co Z ?_);refine Au (x:=Go.sizeOf e) _ (EU h.size ?_);simp only [Hn,if_true];simp only [Std.Legacy.Range.forIn_eq_forIn_range',Std.Legacy.Range.size,Nat.sub_zero,Nat.add_one_sub_one,Nat.div_one];let bd:Nat->Option Bool×Unit->Sem (ForInStep (Option Bool×Unit)):=λi _=>do
   if !(← Op.equalIn n e (← Go.part e ws.toArray (i*pp.n)) (← Go.part e ws'.toArray (i*pp.n))) then pure (ForInStep.done (some false,())) else pure (ForInStep.yield (none,()))
  have key:∀(m st:Nat),st+m=kk->(∀i,i<st->xs[i]? =ys[i]?)->∀{K:Option Bool×Unit->St->Prop},K (if xs=ys then(none,()) else(some false,())) s->lp P (forIn (List.range' st m) (none,()) bd:Sem _) s K X:=by
   intro m
   induction m with
   | zero=>
    intro st al am K O;have U:xs=ys:=by
     apply List.ext_getElem?;intro i;rcases Nat.lt_or_ge i st with hi | hi
     ·exact am i hi
     ·rw [List.getElem?_eq_none (by omega),List.getElem?_eq_none (by omega)]
    rw [if_pos U] at O;simp only [List.range'_zero,List.forIn_nil];exact O
   | succ m ap=>
    intro st al am K O;simp only [List.range'_succ,List.forIn_cons];obtain⟨a,us,ag,aq,Y,av⟩:=PI ac (i:=st) (by omega);obtain⟨c,b0,aw,a9,a2,bb⟩:=PI a0 (i:=st) (by omega);refine Au _ _ (Au _ _ (KY h.agg (by rw [Y];exact h.size) (λq=>by rw [Y];exact h.one q) av ?_));refine Au _ _ (KY h.agg (by rw [a2];exact h.size) (λq=>by rw [a2];exact h.one q) bb ?_);refine Au _ _ (h.eq (by omega) aq a9 ?_);by_cases ay:a=c
    ·subst ay;simp only [decide_true,Bool.not_true,Bool.false_eq_true,if_false,lp,pure];exact ap (st+1) (by omega) (λi hi=>by
      rcases Nat.lt_or_ge i st with a3 | a3
      ·exact am i a3
      ·obtain rfl:i=st:=by omega
       rw [ag,aw]) O
    ·have be:¬xs=ys:=λq=>ay (by rw [q] at ag;rw [ag] at aw;exact Option.some.inj aw);rw [if_neg be] at O;simp only [ay,decide_false,Bool.not_false,if_true,lp,pure];exact O
  refine Au _ _ (key kk 0 (by omega) (λi hi=>by omega) ?_);by_cases U:xs=ys
  ·rw [if_pos U];simpa [lp,pure,U] using k
  ·rw [if_neg U];simpa [lp,pure,U] using k
 BL {n em E ws xs s Q X} a8 ac k:=by
  obtain⟨n,rfl⟩:∃m,n=m+1:=⟨n - 1,by omega⟩;unfold Instr.checkKey;refine Au _ _ (Co Z ?_);simp only [Hn,if_true];simp only [Std.Legacy.Range.forIn_eq_forIn_range',Std.Legacy.Range.size,Nat.sub_zero,Nat.add_one_sub_one,Nat.div_one];let bd:Nat->Unit->Sem (ForInStep Unit):=λi _=>do
   Instr.checkKey em n e (← Go.part e ws.toArray (i*(← Go.sizeOf e)))
   pure (ForInStep.yield ())
  have key:∀(m st:Nat),st+m=kk->∀{K:Unit->St->Prop},K () s->lp P (forIn (List.range' st m) () bd:Sem _) s K X:=by
   intro m
   induction m with
   | zero=>
    intro st al K O;simp only [List.range'_zero,List.forIn_nil];exact O
   | succ m ap=>
    intro st al K O;simp only [List.range'_succ,List.forIn_cons];obtain⟨a,us,ag,aq,Y,av⟩:=PI ac (i:=st) (by omega);refine Au _ _ (Au (x:=Go.sizeOf e) _ (EU h.size ?_));refine Au _ _ (KY h.agg (by rw [Y];exact h.size) (λq=>by rw [Y];exact h.one q) av ?_);refine Au _ _ (h.BL (by omega) aq ?_);exact ap (st+1) (by omega) O
  exact Au _ _ (key kk 0 (by omega) k)
 uniq {E E' ws ws' xs} az bi:=by
  obtain⟨a1,wss,rfl,a4,c1⟩:=az;obtain⟨b1,bn,rfl,b2,c2⟩:=bi;have:wss=bn:=by
   apply List.ext_getElem (by omega);intro i hi bo;have a5:xs[i]? =some (xs[i]'(by omega)):=List.getElem?_eq_getElem (by omega);exact h.uniq (c1 i _ _ a5 (List.getElem?_eq_getElem hi)) (c2 i _ _ a5 (List.getElem?_eq_getElem bo))
  rw [this]
 same {E ws xs} az w hw m:=by
  obtain⟨a1,wss,rfl,a4,c1⟩:=az;obtain⟨us,bv,hw⟩:=List.mem_flatten.1 hw;obtain⟨i,hi⟩:=List.mem_iff_getElem?.1 bv;have bw:i<xs.length:=by rw [a1,← a4];exact(List.getElem?_eq_some_iff.1 hi).1
  exact h.same (c1 i _ us (List.getElem?_eq_getElem bw) hi) w hw m
 now:=⟨_,Z,.inl λv w=>rfl⟩
theorem B6.field{α:Type} [DecidableEq α] {pp:Rp α}{ac:Bool}{dep n:Nat}{f:Field}{s:St}{X:Halt->St->Prop}(h:B6 P f.type pp ac dep)(hd:dep<=n)(ag:f.name≠ "_"){E E':LH}{us Y:Lv_}{x y:α}(r1:pp.r E us x)(r2:pp.r E' Y y){cx Z:Av_}
  (w1:∀j w,us[j]? =some w->cx[f.offset+j]? =some w) (w2:∀j w,Y[j]? =some w->Z[f.offset+j]? =some w) {K:ForInStep (Option Bool×Unit)->St->Prop} (O:K (if x=y then .yield (none,()) else .done (some false,())) s):
  lp P (if f.name≠ "_" then do
   if !(← Op.equalIn n f.type (← Go.part f.type cx f.offset) (← Go.part f.type Z f.offset)) then pure (ForInStep.done (some false,())) else pure (ForInStep.yield (none,()))
   else pure (ForInStep.yield (none,()))) s K X:=by
 rw [if_pos ag]
 refine Au _ _ (KY h.agg (by rw [pp.len r1];exact h.size) (λq=>by rw [pp.len r1];exact h.one q) w1 ?_)
 refine Au _ _ (KY h.agg (by rw [pp.len r2];exact h.size) (λq=>by rw [pp.len r2];exact h.one q) w2 ?_)
 refine Au _ _ (h.eq hd r1 r2 ?_)
 by_cases U:x=y
 ·rw [if_pos U] at O;simpa [lp,pure,U] using O
 ·rw [if_neg U] at O;simpa [lp,pure,U] using O
theorem B6.L6{α:Type} [DecidableEq α] {pp:Rp α}{O em:Bool}{dep n:Nat}{f:Field}{s:St}{X:Halt->St->Prop}(h:B6 P f.type pp O dep)(hd:dep<=n)(U:f.name≠ "_"){E:LH}{us:Lv_}{x:α}(r1:pp.r E us x){cx:Av_}
  (w1:∀j w,us[j]? =some w->cx[f.offset+j]? =some w) {K:ForInStep Unit->St->Prop} (Y:K (.yield ()) s):
  lp P (if f.name≠ "_" then do
   Instr.checkKey em n f.type (← Go.part f.type cx f.offset)
   pure (ForInStep.yield ())
   else pure (ForInStep.yield ())) s K X:=by
 rw [if_pos U]
 refine Au _ _ (KY h.agg (by rw [pp.len r1];exact h.size) (λq=>by rw [pp.len r1];exact h.one q) w1 ?_)
 refine Au _ _ (h.BL hd r1 ?_)
 exact Y
theorem Lm{us r:Lv_}{o:Nat}(K:o=0):∀j w,us[j]? =some w->(us++r).toArray[o+j]? =some w:=λj w h=>by subst K;exact SW (l:= []) j w h
theorem Of{l us r:Lv_}{o:Nat}(K:o=l.length):∀j w,us[j]? =some w->(l++(us++r)).toArray[o+j]? =some w:=λj w h=>by
 subst K
 have:=SW (l:=l) (r:=r) j w h
 rwa [List.append_assoc] at this
theorem Oa{l us:Lv_}{o:Nat}(K:o=l.length):∀j w,us[j]? =some w->(l++us).toArray[o+j]? =some w:=λj w h=>by
 have:=Of (r:= []) K j w h
 rwa [List.append_nil] at this
theorem PS{l m us:Lv_}{o:Nat}(K:o=l.length+m.length):∀j w,us[j]? =some w->(l++(m++us)).toArray[o+j]? =some w:=λj w h=>by
 have:=Oa (l:=l++m) (o:=o) (by simp [K]) j w h
 rwa [List.append_assoc] at this
theorem B6.two{α β:Type} [DecidableEq α] [DecidableEq β] {p1:Rp α}{p2:Rp β}{a1 av:Bool}{dep:Nat}{f1 f2:Field}(K:P.underlying t=some (.struct #[f1,f2]))(O:B6 P f1.type p1 a1 dep)(U:B6 P f2.type p2 av dep)(aw:P.stoodInHeld t=false)
  (n1:f1.name≠ "_") (n2:f2.name≠ "_") (ac:f1.offset=0) (ag:f2.offset=p1.n) (ay:Bl P t=some (p1.n+p2.n)):B6 P t (rP p1 p2) true (dep+1) where
 agg:=by unfold Di;rw [K]
 size:=ay
 one:=λh=>by cases h
 eq {n E E' ws ws' x y s Q X} az al a0 k:=by
  obtain⟨n,rfl⟩:∃m,n=m+1:=⟨n - 1,by omega⟩;obtain⟨am,ap,rfl,r1,r2⟩:=al;obtain⟨v1,v2,rfl,Y,aq⟩:=a0;simp only [Hn,if_true];unfold Op.equalIn;refine Au _ _ (Co K ?_);refine Au (x:=program) _ ?_;show lp P (if P.stoodInHeld t=true then _ else _) s _ _
  rw [if_neg (by rw [aw];exact Bool.false_ne_true)]
  dsimp only;rw [← Array.forIn_toList];simp only [List.forIn_cons,List.forIn_nil];refine Au _ _ (Au _ _ (O.field (by omega) n1 r1 Y (Lm ac) (Lm ac) ?_));by_cases Z:x.1=y.1
  ·rw [if_pos Z];refine Au _ _ (U.field (by omega) n2 r2 aq (Oa (ag.trans (p1.len r1).symm)) (Oa (ag.trans (p1.len Y).symm)) ?_);by_cases e2:x.2=y.2
   ·have e:x=y:=Prod.ext Z e2;rw [if_pos e2];simpa [lp,pure,e] using k
   ·have e:¬x=y:=λq=>e2 (by rw [q]);rw [if_neg e2];simpa [lp,pure,e] using k
  ·have e:¬x=y:=λq=>Z (by rw [q]);rw [if_neg Z];simpa [lp,pure,e] using k
 BL {n em E ws x s Q X} az al k:=by
  obtain⟨n,rfl⟩:∃m,n=m+1:=⟨n - 1,by omega⟩;obtain⟨am,ap,rfl,r1,r2⟩:=al;simp only [Hn,if_true];unfold Instr.checkKey;refine Au _ _ (Co K ?_)
  dsimp only;rw [← Array.forIn_toList];simp only [List.forIn_cons,List.forIn_nil];refine Au _ _ (Au _ _ (O.L6 (by omega) n1 r1 (Lm ac) ?_));refine Au _ _ (U.L6 (by omega) n2 r2 (Oa (ag.trans (p1.len r1).symm)) ?_);exact k
 uniq {E E' ws ws' x} a b:=by
  obtain⟨am,ap,rfl,r1,r2⟩:=a;obtain⟨v1,v2,rfl,Y,aq⟩:=b;rw [O.uniq r1 Y,U.uniq r2 aq]
 same {E ws x} a w hw m:=by
  obtain⟨am,ap,rfl,r1,r2⟩:=a;rcases List.mem_append.1 hw with hw | hw
  ·exact O.same r1 w hw m
  ·exact U.same r2 w hw m
 now:=⟨_,K,.inl λv w=>rfl⟩
theorem B6.three{α β a2:Type} [DecidableEq α] [DecidableEq β] [DecidableEq a2] {p1:Rp α}{p2:Rp β}{p3:Rp a2}{a1 a4 a5:Bool}{dep:Nat}{f1 f2 f3:Field}(O:P.underlying t=some (.struct #[f1,f2,f3]))(U:B6 P f1.type p1 a1 dep)(Y:B6 P f2.type p2 a4 dep)(Z:B6 P f3.type p3 a5 dep)(a6:P.stoodInHeld t=false)
  (n1:f1.name≠ "_") (n2:f2.name≠ "_") (a3:f3.name≠ "_") (am:f1.offset=0) (ap:f2.offset=p1.n) (aq:f3.offset=p1.n+p2.n) (a7:Bl P t=some (p1.n+(p2.n+p3.n))):B6 P t (rP p1 (rP p2 p3)) true (dep+1) where
 agg:=by unfold Di;rw [O]
 size:=a7
 one:=λh=>by cases h
 eq {n E E' ws ws' x y s Q X} a8 av a9 k:=by
  obtain⟨n,rfl⟩:∃m,n=m+1:=⟨n - 1,by omega⟩;obtain⟨aw,_,rfl,r1,ay,az,rfl,r2,r3⟩:=av;obtain⟨v1,_,rfl,K,v2,bb,rfl,ac,a0⟩:=a9;simp only [Hn,if_true];unfold Op.equalIn;refine Au _ _ (Co O ?_);refine Au (x:=program) _ ?_;show lp P (if P.stoodInHeld t=true then _ else _) s _ _
  rw [if_neg (by rw [a6];exact Bool.false_ne_true)]
  dsimp only;rw [← Array.forIn_toList];simp only [List.forIn_cons,List.forIn_nil];refine Au _ _ (Au _ _ (U.field (by omega) n1 r1 K (Lm am) (Lm am) ?_));by_cases ag:x.1=y.1
  ·rw [if_pos ag];refine Au _ _ (Y.field (by omega) n2 r2 ac (Of (ap.trans (p1.len r1).symm)) (Of (ap.trans (p1.len K).symm)) ?_);by_cases e2:x.2.1=y.2.1
   ·rw [if_pos e2];refine Au _ _ (Z.field (by omega) a3 r3 a0 (PS (by rw [aq,p1.len r1,p2.len r2])) (PS (by rw [aq,p1.len K,p2.len ac])) ?_);by_cases al:x.2.2=y.2.2
    ·have e:x=y:=Prod.ext ag (Prod.ext e2 al);rw [if_pos al];simpa [lp,pure,e] using k
    ·have e:¬x=y:=λq=>al (by rw [q]);rw [if_neg al];simpa [lp,pure,e] using k
   ·have e:¬x=y:=λq=>e2 (by rw [q]);rw [if_neg e2];simpa [lp,pure,e] using k
  ·have e:¬x=y:=λq=>ag (by rw [q]);rw [if_neg ag];simpa [lp,pure,e] using k
 BL {n em E ws x s Q X} a8 av k:=by
  obtain⟨n,rfl⟩:∃m,n=m+1:=⟨n - 1,by omega⟩;obtain⟨aw,_,rfl,r1,ay,az,rfl,r2,r3⟩:=av;simp only [Hn,if_true];unfold Instr.checkKey;refine Au _ _ (Co O ?_)
  dsimp only;rw [← Array.forIn_toList];simp only [List.forIn_cons,List.forIn_nil];refine Au _ _ (Au _ _ (U.L6 (by omega) n1 r1 (Lm am) ?_));refine Au _ _ (Y.L6 (by omega) n2 r2 (Of (ap.trans (p1.len r1).symm)) ?_);refine Au _ _ (Z.L6 (by omega) a3 r3 (PS (by rw [aq,p1.len r1,p2.len r2])) ?_);exact k
 uniq {E E' ws ws' x} a b:=by
  obtain⟨aw,_,rfl,r1,ay,az,rfl,r2,r3⟩:=a;obtain⟨v1,_,rfl,K,v2,bb,rfl,ac,a0⟩:=b;rw [U.uniq r1 K,Y.uniq r2 ac,Z.uniq r3 a0]
 same {E ws x} a w hw m:=by
  obtain⟨aw,_,rfl,r1,ay,az,rfl,r2,r3⟩:=a;rcases List.mem_append.1 hw with hw | hw
  ·exact U.same r1 w hw m
  ·rcases List.mem_append.1 hw with hw | hw
   ·exact Y.same r2 w hw m
   ·exact Z.same r3 w hw m
 now:=⟨_,O,.inl λv w=>rfl⟩
theorem B6.key{α:Type} [DecidableEq α] {pp:Rp α}{K:Bool}{dep:Nat}(h:B6 P t pp K dep)(hd:dep<=10000):GG P t pp K where
 BL:=by
  rintro em E v x s Q X ⟨ws,Y,rfl⟩ k;exact h.BL hd Y k
 kind:=by
  obtain⟨kd,O,Z⟩:=h.now;refine⟨kd,O,Z.imp id λac=>?_⟩;rintro E v w x y ⟨ws,r1,rfl⟩ ⟨ws',r2,rfl⟩;exact ac r1 r2
 eq:=by
  rintro E v w x y s Q X ⟨ws,r1,rfl⟩ ⟨ws',r2,rfl⟩ k;exact h.eq hd r1 r2 k
 same:=by
  rintro E v x ⟨ws,r1,rfl⟩;cases K with
  | false=>
   obtain⟨w,rfl⟩:∃w,ws= [w]:=by
    have:=(pp.len r1).trans (h.one V)
    match ws,this with
    | [w],_=>exact⟨w,rfl⟩
   exact h.same r1 w (by simp) 9999
  | true=>
   show(ws.toArray.size==ws.toArray.size&&(ws.toArray.toList.zip ws.toArray.toList).all λ(x,y)=>Instr.sameBits 9999 x y)=true;rw [Bool.and_eq_true];refine⟨by simp,List.all_eq_true.2 ?_⟩;rintro⟨a,b⟩ ag;have O:∀(l:Lv_) a b,(a,b)∈l.zip l->a=b/\a∈l:=by
    intro l
    induction l with
    | nil=>intro a b h;simp at h
    | cons c l U=>
     intro a b h;simp only [List.zip_cons_cons,List.mem_cons,Prod.mk.injEq] at h;rcases h with⟨rfl,rfl⟩ | h
     ·exact⟨V,by simp⟩
     ·exact⟨(U a b h).1,List.mem_cons_of_mem _ (U a b h).2⟩
   obtain⟨rfl,hm⟩:=O _ a b ag;exact h.same r1 a (by simpa using hm) 9998
 uniq:=by
  rintro E v w x ⟨ws,r1,rfl⟩ ⟨ws',r2,rfl⟩;rw [h.uniq r1 r2]
section
variable {x y:Operand}
theorem Tr{α:Type} [DecidableEq α] {pp:Rp α}{dep:Nat}{a b:α}(h:B6 P t pp true dep)(hd:dep<=10000)(K:P.eqGuardType P.depth t=false)(r1:pp.r E ws a)(r2:pp.r E' ws' b)(O:ρ x= .agg ws.toArray)(U:ρ y= .agg ws'.toArray):Yl P ⟨d,.binOp .neq t x y u,ty,p,af,g⟩ ρ s (.bool (decide (a≠b))):=by
 refine FV (sm:=do eqGuard .neq t x y (ρ x) (ρ y);binOp .neq t (ρ x) (ρ y)) V ?_
 rw [O,U];refine Au _ _ (Wm (.inr V) K ?_);have hb:binOp .neq t (.agg ws.toArray) (.agg ws'.toArray)=(do pure (.bool (!(← Op.equal t (.agg ws.toArray) (.agg ws'.toArray))))):=V
 rw [hb];exact Au (x:=Op.equal t _ _) _ (h.eq hd r1 r2 ⟨by simp,V⟩)
end
end
theorem U0{E H:LH}{B:List (Nat×Obj)}(i:Nat){bk:Nat}{o:Obj}(K:Nd E H B)(h:B[i]? =some (bk,o)):∃E',Le E E'/\E' bk=some o/\Nd E' H (B.eraseIdx i)/\Cg (mk E H B) (mk E' H (B.eraseIdx i)):=by
 have ap:=List.mem_of_getElem? h;have aq:E bk=none/\H bk=none:=by
  have:∀{B:List (Nat×Obj)},Nd E H B->(bk,o)∈B->E bk=none/\H bk=none:=by
   intro B K O
   induction B with
   | nil=>simp at O
   | cons q B Y=>
    rcases List.mem_cons.1 O with rfl | O
    ·exact⟨K.1,K.2.1⟩
    ·exact Y K.2.2.2 O
  exact this K ap
 let E':LH:=λx=>if x=bk then some o else E x
 have ag:E' bk=some o:=by simp [E']
 have hle:Le E E':=λx u U=>by
  have:x≠bk:=λe=>by subst e;rw [aq.1] at U;cases U
  simp [E',this,U]
 have av:Nd E' H (B.eraseIdx i):=by
  have:∀{B:List (Nat×Obj)} {i:Nat},Nd E H B->B[i]? =some (bk,o)->Nd E' H (B.eraseIdx i)/\∀p∈B.eraseIdx i,p.1≠bk:=by
   intro B
   induction B with
   | nil=>intro i _ h;simp at h
   | cons q B Y=>
    obtain⟨c,v⟩:=q;intro i K h;have up:∀{B:List (Nat×Obj)},Nd E H B->(∀p∈B,p.1≠bk)->Nd E' H B:=by
     intro B K al
     induction B with
     | nil=>trivial
     | cons q B aw=>exact⟨by simpa [E',al q (by simp)] using K.1,K.2.1,K.2.2.1,aw K.2.2.2 λp O=>al p (List.mem_cons_of_mem _ O)⟩
    cases i with
    | zero=>
     simp at h;obtain⟨rfl,rfl⟩:=h;exact⟨up K.2.2.2 K.2.2.1,K.2.2.1⟩
    | succ i=>
     simp at h;obtain⟨Z,ac⟩:=Y K.2.2.2 h;have am:c≠bk:=λe=>K.2.2.1 (bk,o) (List.mem_of_getElem? h) e.symm;refine⟨⟨by simpa [E',am] using K.1,K.2.1,λp O=>K.2.2.1 p (List.mem_of_mem_eraseIdx O),Z⟩,λp O=>?_⟩;rcases List.mem_cons.1 O with rfl | O
     ·exact am
     ·exact ac p O
  exact(this K h).1
 refine⟨E',hle,ag,av,⟨λx u U=>hle x u U,λx u U=>(LL K h U).2,λx u U=>?_,V⟩⟩;by_cases e:x=bk
 ·subst e;right;have:u=o:=by have:E' x=some u:=U;rw [ag] at this;exact(Option.some.inj this).symm
  subst this;refine⟨Je K h,?_⟩;cases ay:(mk E' H (B.eraseIdx i)).H x with
  | none=>rfl
  | some y=>exact absurd rfl (LL K h ay).1
 ·left;have Z:E' x=some u:=U;have ac:E' x=E x:=by simp [E',e]
  show E x=some u;rw [← ac];exact Z
theorem UQ{E H:LH}{B0:List (Nat×Obj)}{e:TypeId}{K l c:Nat}{a:Option Addr}{blk:List (Nat×Obj)}{xs:Lv_}(ag:GS e K a l c blk xs)(U:Nd E H (B0++blk)):∃E',Le E E'/\Ot E' K (.slice a l c) l xs/\Nd E' H B0/\Cg (mk E H (B0++blk)) (mk E' H B0):=by
 rcases ag with⟨rfl,rfl,rfl,rfl,rfl⟩ | ⟨bk,f,rfl,rfl,al,Y,rfl⟩
 ·simp only [List.append_nil] at U ⊢;exact⟨E,Le.refl _,.nil,U,.refl _⟩
 ·have am:(B0++ [(bk,Obj.cells f e (0,0))])[B0.length]? =some (bk,Obj.cells f e (0,0)):=by simp
  obtain⟨E',hle,ap,Z,ac⟩:=U0 B0.length U am;have aq:(B0++ [(bk,Obj.cells f e (0,0))]).eraseIdx B0.length=B0:=by rw [List.eraseIdx_append_of_length_le (Nat.le_refl _)];simp
  rw [aq] at Z ac;refine⟨E',hle,⟨_,c,V,Y,?_,.inr ⟨bk,0,f,e,(0,0),V,ap,λj w O=>?_⟩⟩,Z,ac⟩
  ·have:l*K<=c*K:=Nat.mul_le_mul_right _ Y;simp [al,Nat.min_eq_left this]
  ·rw [List.getElem?_take] at O;split at O
   ·simpa using O
   ·cases O
theorem UU{α:Type}{pp:Rp α}{E H:LH}{S:List Seg}{e:TypeId}{a:Option Addr}{c:Nat}{seg:Seg}{xs:List α}(j:Nat)(U:OL e pp E a c seg xs)(ap:Ap E H S)(aq:S[j]? =some seg):∃E',Le E E'/\Al pp E' a c xs/\Ap E' H (S.set j [])/\Cg (Ak E H S) (Ak E' H (S.set j [])):=by
 obtain⟨wss,U,ac,ag⟩:=U;have av:∀ad:Addr,a=some ad->ad.spot=none:=λad K=>by
  rcases U with⟨O,_⟩ | ⟨bk,f,O,_⟩
  ·rw [O] at K;cases K
  ·rw [O] at K;cases K;rfl
 obtain⟨O,aw⟩:=GB ap aq;obtain⟨E',hle,ay,az,al⟩:=UQ U aw;rw [← O] at al;refine⟨E',hle,?_,az,al⟩;obtain⟨a0,a1,Y,a2,a7,Z⟩:=ay;obtain⟨rfl,-,rfl⟩:a=a0/\xs.length=xs.length/\c=a1:=by
  simp only [Value.slice.injEq] at Y;exact⟨Y.1,V,Y.2.2⟩
 refine⟨a2,?_⟩;rcases Z with Z | ⟨bk,off,f,a3,fr,a4,g2,a5⟩
 ·exact .inl ⟨List.eq_nil_of_length_eq_zero Z,λad K=> .inl (av ad K)⟩
 ·refine .inr ⟨bk,off,a4,λi x am=>?_⟩;have a6:i<wss.length:=by rw [ac];exact(List.getElem?_eq_some_iff.1 am).1
  have hw:=List.getElem?_eq_getElem a6;refine⟨wss[i],pp.Ah hle (ag i x _ am hw),f,a3,fr,g2,λm w hm=>?_⟩;rw [Nat.add_assoc];exact a5 _ w (Kj (Ia ac ag) hw m w hm)
theorem Cg.get{s s₀:St}(h:Cg s s₀){b:Nat}{o:Obj}(K:s₀.get b=some o):s.get b=some o:=by
 unfold St.get at K ⊢;cases O:s₀.E b with
 | some o'=>
  rw [O] at K;simp only at K;cases K;rcases h.EO _ _ O with U | ⟨U,_⟩
  ·rw [U]
  ·cases he:s.E b with
   | none=>exact U
   | some Y=>
    have:=h.ext _ _ he;rw [O] at this;cases this;rfl
 | none=>
  rw [O] at K;simp only at K;cases he:s.E b with
  | none=>exact h.own _ _ K
  | some Y=>
   have:=h.ext _ _ he;rw [O] at this;cases this
theorem Cg.upd{s s₀:St}(h:Cg s s₀){b:Nat}(o:Obj)(hb:(∃u,s₀.H b=some u)∨s₀.E b=none):Cg (s.upd b o) (s₀.upd b o):=by
 refine⟨h.ext,λx u K=>?_,λx u K=>?_,h.q⟩
 ·simp only [St.upd] at K ⊢;by_cases e:x=b
  ·rw [if_pos e] at K ⊢;exact K
  ·rw [if_neg e] at K ⊢;exact h.own _ _ K
 ·have O:s₀.E x=some u:=K;rcases h.EO _ _ O with U | ⟨U,Y⟩
  ·exact .inl U
  ·refine .inr ?_;have e:x≠b:=λe=>by
    subst e;rcases hb with⟨w,hw⟩ | hb
    ·rw [hw] at Y;cases Y
    ·rw [hb] at O;cases O
   simp only [St.upd,if_neg e];exact⟨U,Y⟩
theorem Cg.none{s s₀:St}(h:Cg s s₀){b:Nat}(U:s.E b=none)(O:s.H b=none):s₀.E b=none/\s₀.H b=none:=by
 constructor
 ·cases he:s₀.E b with
  | none=>rfl
  | some o=>
   rcases h.EO _ _ he with K | ⟨K,_⟩
   ·rw [U] at K;cases K
   ·rw [O] at K;cases K
 ·cases he:s₀.H b with
  | none=>rfl
  | some o=>have:=h.own _ _ he;rw [O] at this;cases this
theorem W8{P:Program}{α:Type}(x:Sem α):∀{s s₀:St} {Q:α->St->Prop} {X:Halt->St->Prop},Cg s s₀->lp P x s₀ Q X->lp P x s (λa s'=>∃Z,Cg s' Z/\Q a Z) (λh s'=>∃Z,Cg s' Z/\X h Z):=by
 induction x with
 | pure a=>intro s s₀ Q X g h;exact⟨s₀,g,h⟩
 | load m a k K=>
  intro s s₀ Q X g h;obtain⟨O,v,U,Y⟩:=h;obtain⟨o,al,am⟩:=Option.bind_eq_some_iff.1 U;exact⟨O,v,by unfold St.cell?;rw [g.get al];exact am,K v g Y⟩
 | store m a v k K=>
  intro s s₀ Q X g h;obtain⟨O,U,o,Y,ap,aq,av⟩:=h;exact⟨O,U,o,g.own _ _ Y,ap,aq,K (g.upd _ (.inl ⟨o,Y⟩)) av⟩
 | new o k K=>
  intro s s₀ Q X g h;refine⟨by rw [← g.q];exact h.1,λr O U=>?_⟩;obtain⟨ag,e2⟩:=g.none O U;exact K r (g.upd _ (.inr ag)) (h.2 r ag e2)
 | shape r k K=>intro s s₀ Q X g h;obtain⟨o,O,U⟩:=h;exact⟨o,g.get O,K _ g U⟩
 | freeze a n k K=>intro s s₀ Q X g h;exact h.elim
 | frozen a k K=>intro s s₀ Q X g h;obtain⟨o,O,U⟩:=h;exact⟨o,g.get O,K _ g U⟩
 | getObj r k K=>intro s s₀ Q X g h;obtain⟨o,O,U,Y⟩:=h;exact⟨o,g.get O,U,K _ g Y⟩
 | setObj r o k K=>
  intro s s₀ Q X g h;obtain⟨⟨o',O,aw⟩,U,Y⟩:=h;exact⟨⟨o',g.own _ _ O,aw⟩,U,K (g.upd _ (.inl ⟨o',O⟩)) Y⟩
 | choose q k K=>
  intro s s₀ Q X g h;simp only [lp] at h ⊢;split
  ·rename_i ac;rw [if_pos ac] at h;exact K _ g h
  ·rename_i ac;rw [if_neg ac] at h;exact⟨by rw [← g.q];exact h.1,λt=>K _ g (h.2 t)⟩
 | sys c k K=>intro s s₀ Q X g h;exact h.elim
 | program k K=>intro s s₀ Q X g h;exact K _ g h
 | mark m k K=>
  intro s s₀ Q X g h;refine⟨?_,K g h.2⟩;rcases h.1 with⟨O,U⟩ | O
  ·exact .inl ⟨by rw [← g.q];exact O,U⟩
  ·exact .inr O
 | halt h=>intro s s₀ Q X g ay;exact⟨s₀,g,ay⟩
variable {J:Judge P}{Q:Gs_}{n:Nat}{ds:Ld_}{ops:Ao_}{k:Li_}{cs:Lf_}{m:Nat}{D:Nat->Bool}{L:Env}{H:LH}{S:List Seg}
variable {v:Value}{kd:IntKind}
section
variable {b:Frame}{fuel:Nat}{listed:Array Bool}
variable {x y:Operand}{e:TypeId}{i:Nat}
theorem Rv{f:FuncId}{args:Array Operand}{ats:Array TypeId}{vs:Lv_}{seg:Seg}{R:Value->LH->Seg->Prop}(j:Nat)(a0:∀x,D x=true->∃(O:Nat) (o:Obj),(S.set j [])[O]? =some [(x,o)])(a1:AQ J f vs E seg R)(a2:Region.ready .any ops listed= [i])
  (a3:ops[i]? =some ⟨d,.call ⟨.value (.func f),args,ats⟩,ty,p,af,g⟩) (a4:Bb n d=true) (hw:AL L ops ⟨d,.call ⟨.value (.func f),args,ats⟩,ty,p,af,g⟩=some true) (hb:DF P f=true) (a5:evs L args.toList=some vs) (Z:Ap E H S) (ac:S[j]? =some seg)
  (a6:∀v E' seg',Le E E'->R v E' seg'->Ap E' H (S.set j seg')->AM J Q b n ds ops k cs m D fuel (A2 listed i) (As L d v) (Ak E' H (S.set j seg'))):
  AM J Q b n ds ops k cs m D (fuel+1) listed L (Ak E H S):=by
 have al:S.flatten.Perm (seg++(S.set j []).flatten):=(Et (seg':=seg) ac).1.trans List.perm_append_comm;have am:Nd E H (seg++(S.set j []).flatten):=Nd.perm Z al;have a7:Ak E H S=mk E (A1 (S.set j []).flatten H) seg:=by
  rw [show Ak E H S=mk E H S.flatten from rfl,Fl Z al];unfold mk;rw [FX]
 have ap:=EP.Lx (a1 (A1 (S.set j []).flatten H) (Nd.front am)) (by rintro v s' ⟨E',B',_,_,_,rfl⟩;rfl);rw [← a7] at ap;refine AM.call V a2 a3 a4 hw hb a5 ap ?_;rintro v bw ⟨⟨E',B',hle,a8,a9,rfl⟩,w,bb⟩;have e2:mk E' (A1 (S.set j []).flatten H) B'=mk E' H (B'++(S.set j []).flatten):=by unfold mk;rw [FX]
 have be:Nd E H (S.set j []).flatten:=by
  have:=am;rw [Nd.iff] at this ⊢;rw [List.map_append,List.nodup_append] at this;exact⟨this.1.2.1,λq bi=>this.2 q (List.mem_append_right _ bi)⟩
 have bn:Nd E' H (S.set j []).flatten:=be.grow λx U=>by
  have bo:=bb.d x U;have ag:A1 B' (A1 (S.set j []).flatten H) x=none:=bo;exact(H6 ag).1
 have aq:Nd E' H (B'++(S.set j []).flatten):=Nd.glue a9 bn;have av:(B'++(S.set j []).flatten).Perm (S.set j B').flatten:=List.perm_append_comm.trans (Et ac).2.symm;have aw:Ap E' H (S.set j B'):=Nd.perm aq av;rw [e2,Fl aq av];refine⟨V,λx o U=>?_,a6 v E' B' hle a8 aw⟩;by_cases hd:D x=true
 ·obtain⟨O,o',Y⟩:=a0 x hd;have ay:j≠O:=λh=>by
   subst h;rw [List.getElem?_set_self (List.getElem?_eq_some_iff.1 ac).1] at Y;cases Y
  have az:S[O]? =some [(x,o')]:=by rw [List.getElem?_set_ne ay] at Y;exact Y
  have ag:(Ak E H S).get x=some o':=Dr (i:=0) Z az V;have bv:(Ak E' H (S.set j B')).get x=some o':=Dr (i:=0) aw (by rw [List.getElem?_set_ne ay];exact az) rfl;have K:(if D x then(Ak E H S).get x else E x)=some o:=U
  show(if D x then(Ak E' H (S.set j B')).get x else E' x)=some o
  rw [if_pos hd] at K ⊢;rw [bv,← ag];exact K
 ·have K:(if D x then(Ak E H S).get x else E x)=some o:=U
  show(if D x then(Ak E' H (S.set j B')).get x else E' x)=some o
  rw [if_neg hd] at K ⊢;exact hle _ _ K
theorem AM.perm{S':List Seg}(K:S.flatten.Perm S'.flatten)(O:Ap E H S)(h:Ap E H S'->AM J Q b n ds ops k cs m D fuel listed L (Ak E H S')):AM J Q b n ds ops k cs m D fuel listed L (Ak E H S):=by
 have e:Ak E H S=Ak E H S':=Fl O K;rw [e];exact h (Nd.perm O K)
theorem JA.ghost:∀(fuel:Nat) {listed:Array Bool} {T:Av_} {s s₀:St},Cg s s₀->JA J Q b ds ops k cs m Dk fuel listed T s₀->JA J Q b ds ops k cs m Dk fuel listed T s
 | 0,listed,T,s,s₀,g,h=>⟨h.1,J.ghost g h.2⟩
 | fuel+1,listed,T,s,s₀,g,h=>by
  rcases h with⟨O,U⟩ | ⟨O,U,ac⟩
  ·exact .inl ⟨O,λt=>J.ghost g (U t)⟩
  ·refine .inr ⟨O,by rw [← g.q];exact U,λi hi o ag=>?_⟩;obtain⟨a1,al,am⟩:=ac i hi o ag;refine⟨a1,λe=>JA.ghost fuel g (al e),λe=>?_⟩;have ap:=W8 _ (s:=Bh Dk s) (s₀:=Bh Dk s₀) g (am e);refine Ej _ ap ?_ (λ_ s' ⟨_,_,h⟩=>h);intro aq s' K;obtain⟨Y,Z,K⟩:=K;cases aq with
   | value v=>exact JA.ghost fuel (s:=s') (s₀:=Y) Z K
   | skip=>exact JA.ghost fuel (s:=s') (s₀:=Y) Z K
   | enter f args=>
    obtain⟨R,av,aw⟩:=K;refine⟨R,λQ c cs ay=>J.ghost (s:=s') (s₀:=Y) Z (av Q c cs ay),λv az a0=>?_⟩;obtain⟨a2,a3,a4⟩:=aw v az a0;exact⟨a2,λx o K=>a3 x o (g.ext x o K),a4⟩
   | _=>exact K.elim
theorem Ge{α:Type}{pp:Rp α}{a:Option Addr}{c:Nat}{seg:Seg}{xs:List α}(j:Nat)(K:OL e pp E a c seg xs)(O:Ap E H S)(U:S[j]? =some seg)
  (h:∀E',Le E E'->Al pp E' a c xs->Ap E' H (S.set j [])->AM J Q b n ds ops k cs m Dk fuel listed L (Ak E' H (S.set j []))):AM J Q b n ds ops k cs m Dk fuel listed L (Ak E H S):=λT Y=>by
 obtain⟨E',Z,ac,ag,al⟩:=UU j K O U
 exact JA.ghost _ al (h E' Z ac ag T Y)
end
theorem oi{α:Type}{a b:α}(h:some a=some b):a=b:=Option.some.inj h
theorem bs{α β:Type}{o:Option α}{f:α->Option β}{r:β}(h:o.bind f=some r):∃x,o=some x/\f x=some r:=bind_some h
def Ij(L:Env):Env->List (Option Value)
 | []=> []
 | (t,_)::L'=>look L t::Ij L L'
def Iq:Env->List (Option Value)
 | []=> []
 | (_,v)::L'=>some v::Iq L'
theorem NZ{L:Env}:∀{L':Env},Ij L L'=Iq L'->Sub L' L
 | [],_=>trivial
 | (t,v)::L',h=>by
  simp only [Ij,Iq,List.cons.injEq] at h
  exact⟨h.1,NZ h.2⟩
variable {L':Env}{k':Li_}{rest:List Nat}
variable {op:Op}
section
variable {b:Frame}{i:Nat}
theorem El(L':Env)(h:Ij L L'=Iq L')(k':JL J Q b n L' ds k cs s):JL J Q b n L ds k cs s:=Fo (NZ h) k'
theorem AF(k':JL J Q b n L' ds k cs s)(h:Ij L L'=Iq L'):JL J Q b n L ds k cs s:=Fo (NZ h) k'
def Ft(b:Frame)(n:Nat)(L:Env)(ops:Ao_)(i:Nat):Option Oper:=
 match Js ops.toList i with
 | some ⟨d,op,ty,p,af,g⟩=>match AL L ops ⟨d,op,ty,p,af,g⟩ with
  | some true=>match BL b n ⟨d,op,ty,p,af,g⟩ with
   | true=>some ⟨d,op,ty,p,af,g⟩
   | false=>none
  | _=>none
 | none=>none
theorem Kp{o:Oper}(h:Ft b n L ops i=some o):ops[i]? =some o/\AL L ops o=some true/\BL b n o=true:=by
 unfold Ft at h;split at h
 ·rename_i K;rw [K5,Array.getElem?_toList] at K;split at h
  ·rename_i hw;split at h
   ·rename_i O;cases h;exact⟨K,hw,O⟩
   ·cases h
  ·cases h
 ·cases h
theorem Am(K:Ft b n L ops i=some ⟨d,op,ty,p,af,g⟩)(h:∀ρ,EF L ρ->Yl P ⟨d,op,ty,p,af,g⟩ ρ s v)(O:JL J Q b n (As L d v) ds (.inRegion ops rest::k) cs s):
  JL J Q b n L ds (.inRegion ops (i::rest)::k) cs s:=
 let ⟨U,Y,Z⟩:=Kp K
 A0 U Y Z h O
theorem Qg{f:FuncId}{fn:Func}{c:Code}{E:LH}{vs:Lv_}{B:Seg}{R:Value->LH->Seg->Prop}(O:P.funcs[f]? =some fn)(hb:fn.body=some c)(U:Nat.ble vs.length fn.ntmps=true)
  (h:∀(Q:Gs_) (K:Frame) (cs:Lf_) (H:LH),Ap E H [B]->(∀v E' S' B',Le E E'->S'.flatten=B'->R v E' B'->Ap E' H S'->J.ok Q (G (K.finish v) cs) (Ak E' H S'))->JL J Q (base f) fn.ntmps (Gj 0 vs) [] [.code c] (K::cs) (Ak E H [B])):AQ J f vs E B R:=
 AQ.enter O hb (Nat.le_of_ble_eq_true U) h
def Oq(n:Nat)(L:Env)(ops:Ao_)(i:Nat):Option Env:=
 match Js ops.toList i with
 | some ⟨d,op,ty,p,af,g⟩=>match AL L ops ⟨d,op,ty,p,af,g⟩ with
  | some true=>match Bb n d with
   | true=>match KA L op with
    | some v=>match d with
     | some d=>some ((d,v)::L)
     | none=>some L
    | none=>none
   | false=>none
  | some false=>match Bb n d with
   | true=>match d with
    | some d=>some ((d,undef)::L)
    | none=>some L
   | false=>none
  | none=>none
 | none=>none
def GX(n:Nat)(L:Env)(ops:Ao_)(i:Nat):Option Oper:=
 match Js ops.toList i with
 | some ⟨d,op,ty,p,af,g⟩=>match AL L ops ⟨d,op,ty,p,af,g⟩ with
  | some true=>match Bb n d with
   | true=>some ⟨d,op,ty,p,af,g⟩
   | false=>none
  | _=>none
 | none=>none
theorem O6{o:Oper}(h:GX n L ops i=some o):ops[i]? =some o/\AL L ops o=some true/\Bb n o.dst=true:=by
 unfold GX at h;split at h
 ·rename_i K;rw [K5,Array.getElem?_toList] at K;split at h
  ·rename_i hw;split at h
   ·rename_i O;cases h;exact⟨K,hw,O⟩
   ·cases h
  ·cases h
 ·cases h
theorem Xa(h:Oq n L ops i=some L'):∃o,ops[i]? =some o/\Bb n o.dst=true/\((∃v,AL L ops o=some true/\KA L o.op=some v/\L'=As L o.dst v)∨(AL L ops o=some false/\L'=As L o.dst undef)):=by
 unfold Oq at h;split at h
 ·rename_i d op ty p af g O;rw [K5,Array.getElem?_toList] at O;refine⟨_,O,?_⟩;split at h
  ·rename_i hw;split at h
   ·rename_i K;refine⟨K,.inl ?_⟩;split at h
    ·rename_i v U;refine⟨v,hw,U,?_⟩;cases d with
     | none=>cases h;rfl
     | some d=>cases h;rfl
    ·cases h
   ·cases h
  ·rename_i hw;split at h
   ·rename_i K;refine⟨K,.inr ⟨hw,?_⟩⟩;cases d with
    | none=>cases h;rfl
    | some d=>cases h;rfl
   ·cases h
  ·cases h
 ·cases h
variable {fuel:Nat}{listed:Array Bool}
theorem Dd(i:Nat)(K:DW ops m=true)(O:s.q=false)(h:Oq n L ops i=some L')
  (U:AM J Q b n ds ops k cs m D fuel (A2 listed i) L' s) (Y:Gn ops listed m i=true:=by decide+kernel):AM J Q b n ds ops k cs m D (fuel+1) listed L s:=by
 obtain⟨o,Z,ac,⟨v,hw,ag,rfl⟩ | ⟨hw,rfl⟩⟩:=Xa h
 ·exact JG.val i Z K Y O hw ac (λρ al s' _=>NG al ag) U
 ·exact bC i Z K Y O hw ac U
theorem AO(i:Nat)(K:DW ops m=true)(O:s.q=false)(U:GX n L ops i=some ⟨d,op,ty,p,af,g⟩)
  (Y:∀ρ,EF L ρ->∀s':St,(∀x o,(Bh D s).E x=some o->s'.E x=some o)->Yl P ⟨d,op,ty,p,af,g⟩ ρ s' v)
  (Z:AM J Q b n ds ops k cs m D fuel (A2 listed i) (As L d v) s) (ac:Gn ops listed m i=true:=by decide+kernel):AM J Q b n ds ops k cs m D (fuel+1) listed L s:=by
 obtain⟨ag,al,am⟩:=O6 U;exact JG.val i ag K ac O al am Y Z
end
abbrev Jn(E H E':LH)(S:List Seg)(K L:Env)(s:St)(R:Prop):Prop:=L=K/\s=Ak E' H S/\Le E E'/\Ap E' H S/\R
abbrev Jm(E H E':LH)(S:List Seg)(K L:Env)(s:St):Prop:=L=K/\s=Ak E' H S/\Le E E'/\Ap E' H S
def Oi(L:Env):List ResultVar->Option (Lv_)
 | []=>some []
 | .tmp t::rs=>match look L t with
  | some v=>match Oi L rs with
   | some vs=>some (v::vs)
   | none=>none
  | none=>none
 | _=>none
theorem SP{P:Program}{L:Env}{s:St}:∀{rs:List ResultVar} {vs:Lv_},Oi L rs=some vs->RV P L s rs vs
 | [],vs,h=>by cases h;trivial
 | .tmp t::rs,vs,h=>by
  unfold Oi at h
  split at h
  ·rename_i v K
   split at h
   ·rename_i ws hw;cases h;exact⟨K,SP hw⟩
   ·cases h
  ·cases h
 | .cell _ _::_,_,h=>by cases h
variable {ft:TypeId}
section
variable {b:Frame}{i:Nat}
variable {x y:Operand}{e:TypeId}
theorem AZ{c:Frame}{fn:Func}{vs:Lv_}(O:P.funcs[b.fn]? =some fn)(K:(b.kind== .normal&&b.roundOf.isNone)=true)(U:Oi L fn.results.toList=some vs)(h:J.ok Q (G (c.finish (Nj vs)) cs) s):JL J Q b n L [] (.code .ret::k) (c::cs) s:=by
 simp only [Bool.and_eq_true,beq_iff_eq,Option.isNone_iff_eq_none] at K;exact JL.ret K.1 K.2 (Bz.list O V (SP U)) h
theorem BT{f:FuncId}{args:Array Operand}{ats:Array TypeId}{vs:Lv_}{R:Value->LH->Seg->Prop}
  (O:AQ J f vs E [] R) (U:Ft b n L ops i=some ⟨d,.call ⟨.value (.func f),args,ats⟩,ty,p,af,g⟩) (Y:evs L args.toList=some vs) (hb:DF P f=true)
  (Z:Ap E H S) (ac:∀v E' seg',Le E E'->R v E' seg'->Ap E' H (S++ [seg'])->JL J Q b n (As L d v) ds (.inRegion ops rest::k) cs (Ak E' H (S++ [seg']))):
  JL J Q b n L ds (.inRegion ops (i::rest)::k) cs (Ak E H S):=by
 obtain⟨ag,al,K⟩:=Kp U;refine JS.call O ag al ?_ hb Y Z ac;simp only [BL,Bool.and_eq_true] at K ⊢;exact⟨K.1,K.2.1⟩
theorem CF{f:FuncId}{args:Array Operand}{ats:Array TypeId}{vs:Lv_}{v:Value}
  (O:AQ J f vs E [] (λw E' B'=>w=v/\B'= [])) (U:Ft b n L ops i=some ⟨d,.call ⟨.value (.func f),args,ats⟩,ty,p,af,g⟩) (Y:evs L args.toList=some vs) (hb:DF P f=true)
  (K:Ap E H S) (Z:∀E',Le E E'->Ap E' H (S++ [[]])->JL J Q b n (As L d v) ds (.inRegion ops rest::k) cs (Ak E' H (S++ [[]]))):
  JL J Q b n L ds (.inRegion ops (i::rest)::k) cs (Ak E H S):=BT O U Y hb K (by rintro _ E' _ hle ⟨rfl,rfl⟩ K;exact Z E' hle K)
theorem Cr{f:FuncId}{args:Array Operand}{ats:Array TypeId}{vs:Lv_}{seg:Seg}{R:Value->LH->Seg->Prop}(j:Nat)
  (O:AQ J f vs E seg R) (U:Ft b n L ops i=some ⟨d,.call ⟨.value (.func f),args,ats⟩,ty,p,af,g⟩) (Y:evs L args.toList=some vs) (hb:DF P f=true)
  (Z:Ap E H S) (ac:S[j]? =some seg) (ag:∀v E' seg',Le E E'->R v E' seg'->Ap E' H (S.set j seg')->JL J Q b n (As L d v) ds (.inRegion ops rest::k) cs (Ak E' H (S.set j seg'))):
  JL J Q b n L ds (.inRegion ops (i::rest)::k) cs (Ak E H S):=by
 obtain⟨al,am,K⟩:=Kp U;refine Sq j O al am ?_ hb Y Z ac ag;simp only [BL,Bool.and_eq_true] at K ⊢;exact⟨K.1,K.2.1⟩
def Me(K:Array Field)(i:Nat):Option (Nat×TypeId):=match K[i]? with
 | some f=>some (f.offset,f.type)
 | none=>none
theorem Br{r m m':Int}{u:TypeId}(h:Ax (m+m')=some r)(K:Ft b n L ops i=some ⟨d,.binOp .add t x y u,ty,p,af,g⟩)(O:ev L x=some (iV m))(U:ev L y=some (iV m'))
  (Y:JL J Q b n (As L d (iV r)) ds (.inRegion ops rest::k) cs s):JL J Q b n L ds (.inRegion ops (i::rest)::k) cs s:=Am K (λ_ q=>F0 (q _ _ O) (q _ _ U) h) Y
theorem Cp{r m m':Int}{u:TypeId}(h:Ax (m - m')=some r)(K:Ft b n L ops i=some ⟨d,.binOp .sub t x y u,ty,p,af,g⟩)(O:ev L x=some (iV m))(U:ev L y=some (iV m'))
  (Y:JL J Q b n (As L d (iV r)) ds (.inRegion ops rest::k) cs s):JL J Q b n L ds (.inRegion ops (i::rest)::k) cs s:=Am K (λ_ q=>Ei (q _ _ O) (q _ _ U) h) Y
theorem JL.ln{a:Option Addr}{e:TypeId}{l c:Nat}{ats:Array TypeId}(K:P.underlying t=some (.slice e))(O:Ft b n L ops i=some ⟨d,.call ⟨.builtin .len,#[x],ats⟩,ty,p,af,g⟩)(U:ats[0]? =some t)(Y:ev L x=some (.slice a l c))
  (Z:JL J Q b n (As L d (.int .i64 l)) ds (.inRegion ops rest::k) cs s):JL J Q b n L ds (.inRegion ops (i::rest)::k) cs s:=Am O (λ_ q=>Yl.len U K (q _ _ Y)) Z
theorem JL.fd{bk o O off:Nat}{U:Array Field}{Y:Nat}(Z:P.underlying t=some (.struct U))(ac:Bl P ft=some (O+1))(ag:Ft b n L ops i=some ⟨d,.fieldAddr t x Y,ty,p,af,g⟩)(al:ev L x=some (.pointer (some ⟨bk,o,none⟩)))(K:Me U Y=some (off,ft))
  (am:JL J Q b n (As L d (.pointer (some ⟨bk,o+off,none⟩))) ds (.inRegion ops rest::k) cs s):
  JL J Q b n L ds (.inRegion ops (i::rest)::k) cs s:=by
 unfold Me at K;split at K
 ·rename_i f ap;cases K;refine Am ag (λρ h=>Fa (a:=⟨bk,o,none⟩) O f.offset Z ac ap V V (h _ _ al)) ?_;rw [Dm rfl];exact am
 ·cases K
theorem C8{bk o:Nat}{ws:Lv_}(j:Nat)(K:At E bk o ws)(O:Di P t=some false)(U:Ft b n L ops i=some ⟨d,.load t x,ty,p,af,g⟩)(Y:ev L x=some (.pointer (some ⟨bk,o+j,none⟩)))(Z:ws[j]? =some v)
  (ac:JL J Q b n (As L d v) ds (.inRegion ops rest::k) cs (Ak E H S)):
  JL J Q b n L ds (.inRegion ops (i::rest)::k) cs (Ak E H S):=
 Am U (λ_ h=>Yl.load O (h _ _ Y) (At.Lp K Z)) ac
theorem bj{bk off:Nat}{c:Av_}(j:Nat)(K:Ap E H S)(O:Bl P t=some v.cells.size)(U:Ft b n L ops i=some ⟨d,.store t x y,ty,p,af,g⟩)
  (Y:ev L x=some (.pointer (some ⟨bk,off,none⟩))) (Z:ev L y=some v) (ac:S[j]? =some [(bk,.cells c e (0,0))])
  (h:Ap E H (S.set j [(bk,.cells (A6 c off v.cells.toList) e (0,0))])->JL J Q b n (As L d undef) ds (.inRegion ops rest::k) cs (Ak E H (S.set j [(bk,.cells (A6 c off v.cells.toList) e (0,0))])))
  (hle:off+v.cells.size<=c.size:=by exact Nat.le_of_ble_eq_true rfl) (ag:∀u∈v.cells.toList,C9 u=true:=by simp [Value.cells,C9]):
  JL J Q b n L ds (.inRegion ops (i::rest)::k) cs (Ak E H S):=by
 obtain⟨al,am,ap⟩:=Kp U;exact JS.store j al am ap K Y Z O ag ac hle h
theorem Cx{bk o:Nat}{ws:Lv_}(K:At E bk o ws)(O:Di P t=some true)(U:Bl P t=some ws.length)(Y:Ft b n L ops i=some ⟨d,.load t x,ty,p,af,g⟩)(Z:ev L x=some (.pointer (some ⟨bk,o,none⟩)))
  (ac:JL J Q b n (As L d (.agg ws.toArray)) ds (.inRegion ops rest::k) cs (Ak E H S)):
  JL J Q b n L ds (.inRegion ops (i::rest)::k) cs (Ak E H S):=
 Am Y (λ_ h=>Gg O U (h _ _ Z) (At.Qc K)) ac
variable {fuel:Nat}{listed:Array Bool}
theorem JG.fd{bk o O off:Nat}{U:Array Field}{Y:Nat}(i:Nat)(Z:DW ops m=true)(ac:P.underlying t=some (.struct U))(ag:Bl P ft=some (O+1))(al:s.q=false)(am:GX n L ops i=some ⟨d,.fieldAddr t x Y,ty,p,af,g⟩)(ap:ev L x=some (.pointer (some ⟨bk,o,none⟩)))(K:Me U Y=some (off,ft))
  (aq:AM J Q b n ds ops k cs m D fuel (A2 listed i) (As L d (.pointer (some ⟨bk,o+off,none⟩))) s) (av:Gn ops listed m i=true:=by decide+kernel):AM J Q b n ds ops k cs m D (fuel+1) listed L s:=by
 unfold Me at K;split at K
 ·rename_i f aw;cases K;refine AO i Z al am (λρ h _ _=>Fa (a:=⟨bk,o,none⟩) O f.offset ac ag aw V V (h _ _ ap)) ?_ av;rw [Dm rfl];exact aq
 ·cases K
theorem Ex{bk o:Nat}{ws:Lv_}(i:Nat)(K:DW ops m=true)(j:Nat)(O:At (Bh D s).E bk o ws)(U:Di P t=some false)(Y:s.q=false)(Z:GX n L ops i=some ⟨d,.load t x,ty,p,af,g⟩)(ac:ev L x=some (.pointer (some ⟨bk,o+j,none⟩)))(ag:ws[j]? =some v)
  (al:AM J Q b n ds ops k cs m D fuel (A2 listed i) (As L d v) s) (am:Gn ops listed m i=true:=by decide+kernel):AM J Q b n ds ops k cs m D (fuel+1) listed L s:=
 AO i K Y Z (λ_ h _ ap=>Yl.load U (h _ _ ac) (At.Jl O ap ag)) al am
theorem JV{bk o:Nat}{ws:Lv_}(i:Nat)(K:DW ops m=true)(O:At (Bh D s).E bk o ws)(U:Di P t=some true)(Y:Bl P t=some ws.length)(Z:s.q=false)(ac:GX n L ops i=some ⟨d,.load t x,ty,p,af,g⟩)(ag:ev L x=some (.pointer (some ⟨bk,o,none⟩)))
  (al:AM J Q b n ds ops k cs m D fuel (A2 listed i) (As L d (.agg ws.toArray)) s) (am:Gn ops listed m i=true:=by decide+kernel):AM J Q b n ds ops k cs m D (fuel+1) listed L s:=
 AO i K Z ac (λ_ h _ ap=>Gg U Y (h _ _ ag) (At.ZZ O ap)) al am
end
abbrev QN:=Int×List Int×Nat
abbrev AH:=List (Int×Int)
abbrev Cd:=List Int×Int×Nat
abbrev Ao:=Option Addr
abbrev Ep:Rp (Int×Int):=rP rI rI
theorem ip{α:Type}{p:Prop} [Decidable p] {A B:Option α}{r:α}(h:(if p then A else B)=some r)(c:p):A=some r:=by rwa [if_pos c] at h
theorem im{α:Type}{p:Prop} [Decidable p] {A B:Option α}{r:α}(h:(if p then A else B)=some r)(c:¬p):B=some r:=by rwa [if_neg c] at h
theorem ib{α:Type}{c:Bool}{A B:Option α}{r:α}(h:(if c=true then A else B)=some r)(K:c=false):B=some r:=by subst K;simpa using h
def QC(n:Nat)(ops:Ao_):List Nat->Nat->Env->Option (Nat×Env)
 | [],f,L=>some (f,L)
 | i::l,f+1,L=>match Oq n L ops i with
  | some L'=>QC n ops l f L'
  | none=>none
 | _::_,0,_=>none
def Qo(ops:Ao_)(m:Nat):Array Bool->List Nat->Bool
 | _,[]=>true
 | listed,i::l=>Gn ops listed m i&&Qo ops m (A2 listed i) l
def Uv:Array Bool->List Nat->Array Bool
 | listed,[]=>listed
 | listed,i::l=>Uv (A2 listed i) l
theorem A5{P:Program}{J:Judge P}{Q:Gs_}{b:Frame}{n:Nat}{ds:Ld_}{k:Li_}{cs:Lf_}{s:St}{ops:Ao_}{m:Nat}{D:Nat->Bool}{L':Env}{U:Nat}(Y:DW ops m=true)(Z:s.q=false):
  ∀(l:List Nat) {fuel:Nat} {listed:Array Bool} {L:Env},QC n ops l fuel L=some (U,L')->AM J Q b n ds ops k cs m D U (Uv listed l) L' s->(K:Qo ops m listed l=true:=by decide+kernel)->AM J Q b n ds ops k cs m D fuel listed L s
 | [],fuel,listed,L,h,O,_=>by cases h;exact O
 | i::l,fuel,listed,L,h,O,K=>by
  cases fuel with
  | zero=>cases h
  | succ fuel=>
   unfold Qo at K;rw [Bool.and_eq_true] at K;unfold QC at h;split at h
   ·rename_i ac e;exact Dd i Y Z e (A5 Y Z l h O K.2) K.1
   ·cases h
theorem zg{P:Program}{J:Judge P}{Q:Gs_}{b:Frame}{n:Nat}{L L':Env}{ds:Ld_}{k k':Li_}{cs:Lf_}{s:St}(m:Nat)(h:NL b n m k L=some (k',L'))(K:JL J Q b n L' ds k' cs s):JL J Q b n L ds k cs s:=JL.go m h K
abbrev C:=@zg
abbrev bX(r:Nat)(c:Av_)(t:TypeId):Seg:= [(r,.cells c t (0,0))]
variable {α:Type}{A B:Option α}{r:α}
section
variable {b:Frame}
theorem AW{c:Operand}{x y:Code}{p:Prop} [Decidable p] (K:(if p then A else B)=some r)(O:p->A=some r->JL J Q b n L ds (.code x::k) cs s)(U:¬p->B=some r->JL J Q b n L ds (.code y::k) cs s)
  (Y:ev L c=some (.bool (decide p)):=by exact rfl):JL J Q b n L ds (.code (.cond c x y)::k) cs s:=Gi Y (λh=>O h (ip K h)) λh=>U h (im K h)
theorem CE{c:Operand}{x y:Code}{t:Bool}(K:(if t=true then A else B)=some r)(O:t=true->A=some r->JL J Q b n L ds (.code x::k) cs s)(U:t=false->B=some r->JL J Q b n L ds (.code y::k) cs s)
  (Y:ev L c=some (.bool t):=by exact rfl):JL J Q b n L ds (.code (.cond c x y)::k) cs s:=Pg Y (λh=>O h (ip K h)) λh=>U h (ib K h)
theorem HN{q:Prop} [Decidable q] (i:Nat)(K:(if q then A else B)=some r)(O:q->A=some r->JL J Q b n (As L (some i) (.bool true)) ds k cs s)(U:¬q->B=some r->JL J Q b n (As L (some i) (.bool false)) ds k cs s)
  (Y:look L i=some (.bool (decide q)):=by exact rfl):JL J Q b n L ds k cs s:=LS Y (λh=>O h (ip K h)) λh=>U h (im K h)
theorem DZ{t:Bool}(i:Nat)(K:(if t=true then A else B)=some r)(O:t=true->A=some r->JL J Q b n (As L (some i) (.bool true)) ds k cs s)(U:t=false->B=some r->JL J Q b n (As L (some i) (.bool false)) ds k cs s)
  (Y:look L i=some (.bool t):=by exact rfl):JL J Q b n L ds k cs s:=Kl Y (λh=>O h (ip K h)) λh=>U h (ib K h)
theorem CB{K O:Type}{c:Code}{body:K->Option (Bm K O)}{f:Nat}{U:K}{a:O}(Z:iter body f U=some a)(I:Env->St->K->Prop)(ac:I L' s U)
  (round:∀L s x,I L s x->(∀Y,body x=some (.done Y)->Y=a)->(∃st,body x=some st)->(∀L' s' x',I L' s' x'->body x=some (.more x')->JL J Q b n L' ds (.inLoop c::k) cs s')->JL J Q b n L ds (.code c:: .inLoop c::k) cs s)
  (ag:Ij L L'=Iq L':=by exact rfl):JL J Q b n L ds (.code (.loop c)::k) cs s:=El L' ag (SB Z I ac round)
variable {fuel:Nat}{listed:Array Bool}
def Oe(ops:Ao_):Array Bool->List Nat->Bool
 | _,[]=>true
 | l,i::t=>Region.ready .any ops l== [i]&&Oe ops (A2 l i) t
theorem Tg:∀{t:List Nat} {l:Array Bool},Oe ops l t=true->∀u,Region.linearise.go .any ops t.length u l []=t
 | [],_,_,_=>rfl
 | i::t,l,h,u=>by
  unfold Oe at h
  rw [Bool.and_eq_true,beq_iff_eq] at h
  exact aC h.1 (Tg h.2) u
theorem Dp(t:List Nat)(O:JL J Q b n L ds (.inRegion ops t::k) cs s)(K:(QB m listed&&Oe ops listed t&&(fuel+1==t.length))=true:=by decide+kernel):AM J Q b n ds ops k cs m D (fuel+1) listed L s:=by
 rw [Bool.and_eq_true,Bool.and_eq_true,beq_iff_eq] at K;exact AM.leaf K.1.1 (by rw [K.2];exact Tg K.1.2) O
theorem Fc(m:Nat){id:Nat}(h:DW ops m=true->AM J Q b n ds ops k cs m Dk ops.size (Array.replicate ops.size false) L (Ak E H S))(hm:P.follows .mixedOrders=true:=by exact rfl)(K:(b.kind != .early)=true:=by exact rfl)(O:DW ops m=true:=by decide+kernel):
  JL J Q b n L ds (.code (.region id ops true)::k) cs (Ak E H S):=Xo m hm K O h
theorem Fb(m:Nat)(bks:List Nat){id:Nat}(K:HM S bks)(O:Ap E H S)(h:DW ops m=true->AM J Q b n ds ops k cs m (Az bks) ops.size (Array.replicate ops.size false) L (Ak E H S))(hm:P.follows .mixedOrders=true:=by exact rfl)(U:(b.kind != .early)=true:=by exact rfl)(Y:DW ops m=true:=by decide+kernel):
  JL J Q b n L ds (.code (.region id ops true)::k) cs (Ak E H S):=Xp m bks K O hm U Y h
theorem ED{α:Type}{pp:Rp α}{a:Option Addr}{c:Nat}{xs:List α}{xv:α}{K:Int}{d:Option Tmp}{x y:Operand}{t ty e:TypeId}{p:String}{af:Ae_}{g:On_}{kd:IntKind}(i:Nat)(O:Al pp E a c xs)(U:ix xs K=some xv)(Y:DW ops m=true)(Z:P.underlying t=some (.slice e))(ac:Bl P e=some pp.n)
  (h:∀bk o ws,pp.r E ws xv->At E bk o ws->AM J Q b n ds ops k cs m D fuel (A2 listed i) (As L d (.pointer (some ⟨bk,o,none⟩))) s)
  (ag:ops[i]? =some ⟨d,.indexAddr t x y,ty,p,af,g⟩:=by exact rfl) (al:Gn ops listed m i=true:=by decide+kernel) (am:s.q=false:=by exact rfl)
  (hw:AL L ops ⟨d,.indexAddr t x y,ty,p,af,g⟩=some true:=by exact rfl) (ap:Bb n d=true:=by exact rfl)
  (aq:ev L x=some (.slice a xs.length c):=by exact rfl) (av:ev L y=some (.int kd K):=by exact rfl):
  AM J Q b n ds ops k cs m D (fuel+1) listed L s:=aR i O U ag Y al am hw ap aq av Z ac h
end
theorem EC{P:Program}{J:Judge P}{Q:Gs_}{b:Frame}{n:Nat}{ds:Ld_}{ops:Ao_}{k:Li_}{cs:Lf_}{m fuel:Nat}{D:Nat->Bool}{listed:Array Bool}{L L':Env}{s:St}(k':AM J Q b n ds ops k cs m D fuel listed L' s)(h:Ij L L'=Iq L'):AM J Q b n ds ops k cs m D fuel listed L s:=Dt (NZ h) k'
instance {α:Type} [DecidableEq α] (xs:List α):Decidable (xs= []):=inferInstance
variable {w:Value}
section
variable {b:Frame}{i:Nat}
variable {x y:Operand}{e:TypeId}
end
section
variable {b:Frame}{fuel:Nat}{listed:Array Bool}
variable {x y:Operand}{e:TypeId}{i:Nat}
theorem Nh{s:St}{D:Nat->Bool}{i j l:Nat}(K:s.q=false)(O:Region.ready .any ops listed= [i,j,l])(hi:Take J Q b n ds ops k cs m D fuel listed L s i)(U:Take J Q b n ds ops k cs m D fuel listed L s j)(Y:Take J Q b n ds ops k cs m D fuel listed L s l):AM J Q b n ds ops k cs m D (fuel+1) listed L s:=
 OZ K O (by simp) (by intro q K;simp at K;rcases K with rfl | rfl | rfl <;> assumption)
end
theorem Al.cut{α:Type}{pp:Rp α}{E:LH}{a:Option Addr}{c:Nat}{xs ys:List α}{lo hi:Int}(Y:Al pp E a c xs)(hC:Gl xs lo hi=some ys):
  ∃Z ac,Al pp E Z ac ys/\∀{P:Program} {ρ:Operand->Value} {s:St} {d:Option Tmp} {x:Operand} {t ty e:TypeId} {p:String} {af:Ae_} {g:On_} {olo ohi:Option Operand},P.underlying t=some (.slice e)->Bl P e=some pp.n->ρ x= .slice a xs.length c->
   (match ohi with | some w=>ρ w=iV hi | none=>hi=xs.length)->(match olo with | some w=>ρ w=iV lo | none=>lo=0)->Yl P ⟨d,.slice t x olo ohi none,ty,p,af,g⟩ ρ s (.slice Z ys.length ac):=by
 unfold Gl at hC;split at hC
 rotate_left
 ·cases hC
 rename_i hb;obtain⟨a1,a2,ap⟩:=hb;cases hC;obtain⟨lo,rfl⟩:∃l:Nat,lo=l:=⟨lo.toNat,by omega⟩;obtain⟨hi,rfl⟩:∃l:Nat,hi=l:=⟨hi.toNat,by omega⟩;simp only [Int.toNat_natCast] at*;have a3:=Y.1;have hlen:((xs.take hi).drop lo).length=hi - lo:=by simp;omega
 have ag:∀ad:Addr,a=some ad->ad.spot=none∨c=0:=λad K=>by
  rcases Y.2 with⟨_,h⟩ | ⟨bk,off,h,_⟩
  ·exact h ad K
  ·rw [h] at K;cases K;exact .inl V
 refine⟨if c=lo then a else a.map (·.add (lo*pp.n)),c - lo,⟨by rw [hlen];omega,?_⟩,?_⟩
 ·by_cases aq:hi - lo=0
  ·left;refine⟨List.eq_nil_of_length_eq_zero (by rw [hlen];exact aq),λad K=>?_⟩;split at K
   ·exact(ag ad K).imp id λh=>by omega
   ·cases a with
    | none=>cases K
    | some av=>
     simp only [Option.map_some,Option.some.injEq] at K;subst K;exact .inl (by rw [Dm ((ag av rfl).resolve_right (by omega))])
  ·right;rcases Y.2 with⟨h,_⟩ | ⟨bk,off,rfl,O⟩
   ·subst h;simp at ap;omega
   ·refine⟨bk,off+lo*pp.n,?_,λq z U=>?_⟩
    ·rw [if_neg (by omega),Option.map_some,Dm rfl]
    ·rw [List.getElem?_drop,List.getElem?_take] at U;split at U
     ·obtain⟨ws,aw,al⟩:=O _ z U;refine⟨ws,aw,?_⟩;rw [Nat.add_mul] at al;rw [Nat.add_assoc];exact al
     ·cases U
 ·intro P ρ s d x t ty e p af g olo ohi ay az a0 O am;rw [hlen];refine Yl.slice (mx:=c) (hi:=hi) (lo:=lo) ay az a0 V ?_ ?_ (Nat.le_refl _) (by omega) (by omega)
  ·cases ohi with
   | none=>exact⟨by simp only at O;omega,rfl⟩
   | some w=>exact O
  ·cases olo with
   | none=>simp only at am;show lo=0;omega
   | some w=>exact am
section
variable {b:Frame}{fuel:Nat}{listed:Array Bool}
theorem HA{S1 S':List Seg}(K:S=S1)(O:S1.Perm S')(U:Ap E H S)(h:Ap E H S'->AM J Q b n ds ops k cs m D fuel listed L (Ak E H S')):AM J Q b n ds ops k cs m D fuel listed L (Ak E H S):=by
 subst K;exact AM.perm O.flatten U h
end
variable {e2:TypeId}
section
variable {b:Frame}{i:Nat}
variable {x y:Operand}{e:TypeId}
def J1(E:LH):Nat->Bool:=λx=>(E x).isNone
theorem ZA(x:Nat):(Bh (J1 E) (Ak E H S)).E x=(Ak E H S).get x:=by
 show(if J1 E x then(Ak E H S).get x else E x)=_
 unfold J1;cases h:E x with
 | none=>simp
 | some o=>
  rw [if_neg (by simp)];unfold St.get;rw [show(Ak E H S).E x=some o from h]
theorem QD{s':St}(K:∀x o,(Bh (J1 E) (Ak E H S)).E x=some o->s'.E x=some o){x:Nat}{o:Obj}(h:(Ak E H S).get x=some o):s'.get x=some o:=by
 have:=K x o (by rw [ZA];exact h);unfold St.get;rw [this]
theorem Ms{s':St}(K:∀x o,(Bh (J1 E) (Ak E H S)).E x=some o->s'.E x=some o){a:Addr}{v:Value}(h:(Ak E H S).cell? a=some v):s'.cell? a=some v:=by
 obtain⟨o,O,U⟩:=Option.bind_eq_some_iff.1 h;unfold St.cell?;rw [QD K O];exact U
theorem T3{s':St}(K:∀x o,(Bh (J1 E) (Ak E H S)).E x=some o->s'.E x=some o){a:Addr}{vs:Lv_}(h:∀(i:Nat) v,vs[i]? =some v->(Ak E H S).cell? (Addr.add a i)=some v):∀(i:Nat) v,vs[i]? =some v->s'.cell? (Addr.add a i)=some v:=λi v O=>Ms K (h i v O)
theorem Ql(m:Nat){id:Nat}(h:DW ops m=true->AM J Q b n ds ops k cs m (J1 E) ops.size (Array.replicate ops.size false) L (Ak E H S))(hm:P.follows .mixedOrders=true:=by exact rfl)(K:(b.kind != .early)=true:=by exact rfl)(O:DW ops m=true:=by decide+kernel):
  JL J Q b n L ds (.code (.region id ops true)::k) cs (Ak E H S):=Pm m (J1 E) V hm K (h O)
abbrev rs(q:Nat×Obj)(K:Seg)(p:Nat×Obj)(g2:Seg):Seg:=q::(K++ [p]++g2)
end
variable {o:Obj}{xs:List (κ×ν)}{v0:ν}
variable {kk:Li_}
variable {z:Operand}{x0:κ}
section
variable [DecidableEq κ]
def KN(xs:List (κ×ν)):Prop:=(xs.map (·.1)).Nodup
theorem KN.perm{xs ys:List (κ×ν)}(h:KN xs)(p:ys.Perm xs):KN ys:=((p.map (λq:κ×ν=>q.1)).nodup_iff).2 h
theorem Sd{xs:List (κ×ν)}(h:KN xs){x:κ}{v:ν}:Bs xs x=some v↔(x,v)∈xs:=by
 induction xs with
 | nil=>simp [Bs]
 | cons y ys U=>
  have O:y.1 ∉ ys.map (·.1)/\KN ys:=by simpa [KN] using h
  by_cases e:x=y.1
  ·subst e;have K:Bs (y::ys) y.1=some y.2:=by simp [Bs]
   rw [K];constructor
   ·intro q;cases q;simp
   ·intro q;rcases List.mem_cons.1 q with q | q
    ·rw [← q]
    ·exact absurd (List.mem_map.2 ⟨_,q,V⟩) O.1
  ·have K:Bs (y::ys) x=Bs ys x:=by simp [Bs,e]
   rw [K,U O.2];constructor
   ·intro q;exact List.mem_cons_of_mem _ q
   ·intro q;rcases List.mem_cons.1 q with q | q
    ·exact absurd (by rw [← q]) e
    ·exact q
theorem RH{xs ys:List (κ×ν)}(h:KN xs)(p:ys.Perm xs)(x:κ):Bs ys x=Bs xs x:=by
 apply Option.ext;intro v;rw [Sd h,Sd (h.perm p),p.mem_iff]
def En(xs:List (κ×ν))(x:κ):List (κ×ν):=xs.filter λy=>decide (x≠y.1)
theorem Rz{xs:List (κ×ν)}{x:κ}(h:∀y∈xs,x≠y.1):En xs x=xs:=List.filter_eq_self.2 λy K=>by simpa using h y K
theorem M8{x:κ}{v:ν}:∀{xs:List (κ×ν)},KN xs->(CP xs x v).Perm ((x,v)::En xs x)
 | [],_=> .refl _
 | y::ys,h=>by
  have K:y.1 ∉ ys.map (·.1)/\KN ys:=by simpa [KN] using h
  unfold CP;by_cases e:x=y.1
  ·rw [if_pos e];have e2:En (y::ys) x=ys:=by
    have:En (y::ys) x=En ys x:=by simp [En,e]
    rw [this];exact Rz λz O q=>K.1 (List.mem_map.2 ⟨z,O,by rw [← q,e]⟩)
   rw [e2]
  ·rw [if_neg e];have e2:En (y::ys) x=y::En ys x:=by simp [En,e]
   rw [e2];exact((M8 K.2).cons y).trans (List.Perm.swap _ _ _)
theorem O4{xs ys:List (κ×ν)}(p:ys.Perm xs)(x:κ):(En ys x).Perm (En xs x):=p.filter _
theorem VM{xs ys:List (κ×ν)}(h:KN xs)(p:ys.Perm xs)(x:κ)(v:ν):(CP ys x v).Perm (CP xs x v):=
 (M8 (h.perm p)).trans (((O4 p x).cons _).trans (M8 h).symm)
theorem KN.del{xs:List (κ×ν)}(h:KN xs)(x:κ):KN (En xs x):=by
 unfold KN En;exact List.Nodup.sublist (List.Sublist.map _ List.filter_sublist) h
theorem KN.put{xs:List (κ×ν)}(h:KN xs)(x:κ)(v:ν):KN (CP xs x v):=by
 refine KN.perm ?_ (M8 h);unfold KN;simp only [List.map_cons,List.nodup_cons];refine⟨λq=>?_,h.del x⟩;obtain⟨z,K,e⟩:=List.mem_map.1 q;have:=(List.mem_filter.1 K).2;simp at this;exact this e.symm
def BE(pk:Rp κ)(ka:Bool)(pv:Rp ν)(va:Bool)(E:LH)(o:Obj)(xs:List (κ×ν)):Prop:=KN xs/\∃ys,ys.Perm xs/\Ky pk ka pv va E o ys
theorem BE.Ah{o:Obj}{xs:List (κ×ν)}(h:BE pk ka pv va E o xs)(hle:Le E E'):BE pk ka pv va E' o xs:=
 let ⟨K,ys,O,U⟩:=h;⟨K,ys,O,U.Ah hle⟩
theorem BE.perm{o:Obj}{xs ys:List (κ×ν)}(h:BE pk ka pv va E o xs)(p:ys.Perm xs):BE pk ka pv va E o ys:=
 let ⟨K,O,U,Y⟩:=h;⟨K.perm p,O,U.trans p.symm,Y⟩
theorem BE.nil:BE pk ka pv va E (.map #[] 0) []:=⟨List.nodup_nil,[],.refl _,⟨#[],0,V,trivial,.nil,by simp⟩⟩
def rM(pk:Rp κ)(ka:Bool)(pv:Rp ν)(va:Bool):Rp (List (κ×ν)):=⟨1,λE ws xs=>∃bk o,ws= [.map (some bk)]/\E bk=some o/\BE pk ka pv va E o xs,
 λhle ⟨bk,o,h,K,O⟩=>⟨bk,o,h,hle _ _ K,O.Ah hle⟩,λ⟨bk,o,h,_,_⟩=>by subst h;rfl,λ⟨bk,o,h,_,_⟩ w hw=>by subst h;simp at hw;subst hw;rfl⟩
section
variable {bk:Nat}{k:Value}{x:κ}
theorem Vv(K:GG P t pk ka)(hm:P.underlying tm=some (.map t te)){z:Value}{z0:ν}(O:zeroOf P te=some z)(U:Vr pv va E z z0)(Y:s.get bk=some o)(Z:BE pk ka pv va E o xs)(ac:Vr pk ka E k x)(ok:Bool){Q:Value->St->Prop}
  (h:∀w,Vr pv va E w ((Bs xs x).getD z0)->Q (if ok then .tuple #[w,.bool (Bs xs x).isSome] else w) s):lp P (Instr.lookup tm (.map (some bk)) k ok) s Q X:=by
 obtain⟨ag,ys,al,am⟩:=Z;refine WQ K hm O U Y am ac ok ?_;rw [RH ag al];exact h
theorem UY(O:GG P t pk ka)(hm:P.underlying tm=some (.map t te))(U:s.get bk=some o)(Y:s.H bk=some o)(Z:BE pk ka pv va E o xs)(ac:Vr pk ka E k x)(hw:Vr pv va E w v0){Q:Unit->St->Prop}
  (h:∀o',BE pk ka pv va E o' (CP xs x v0)->Q () (s.upd bk o')):lp P (Instr.mapUpdate tm (.map (some bk)) k w) s Q X:=by
 obtain⟨K,ys,ag,al⟩:=Z;exact U2 O hm U Y al ac hw λo' am=>h o' ⟨K.put _ _,_,VM K ag _ _,am⟩
theorem DK.erase(Y:Vr pk ka E k x):∀{es:List MapEntry} {ys:List (κ×ν)} {i:Nat},DK pk ka pv va E es ys->KN ys->
  (Gs x es ys i=none/\En ys x=ys)∨∃j u,Gs x es ys i=some (i+j,u)/\DK pk ka pv va E (es.eraseIdx j) (En ys x)
 | [],[],i,_,_=> .inl ⟨rfl,rfl⟩
 | e::es,y::ys,i,h,Z=>by
  have U:y.1 ∉ ys.map (·.1)/\KN ys:=by simpa [KN] using Z
  unfold Gs;by_cases K:x=y.1
  ·refine .inr ⟨0,e.val,by rw [if_pos K];rfl,?_⟩;have e2:En (y::ys) x=ys:=by
    have:En (y::ys) x=En ys x:=by simp [En,K]
    rw [this];exact Rz λz ac q=>U.1 (List.mem_map.2 ⟨z,ac,by rw [← q,K]⟩)
   rw [e2];exact h.2.2
  ·have e2:En (y::ys) x=y::En ys x:=by simp [En,K]
   rcases DK.erase Y (i:=i+1) h.2.2 U.2 with⟨a1,O⟩ | ⟨j,u,a1,O⟩
   ·exact .inl ⟨by rw [if_neg K];exact a1,by rw [e2,O]⟩
   ·refine .inr ⟨j+1,u,by rw [if_neg K,a1];congr 2;omega,?_⟩;rw [e2];exact⟨h.1,h.2.1,O⟩
 | [],_::_,_,h,_=>h.elim
 | _::_,[],_,h,_=>h.elim
theorem Vq(ag:GG P t pk ka)(hm:P.underlying tm=some (.map t te))(av:s.get bk=some o)(al:s.H bk=some o)(aw:BE pk ka pv va E o xs)(K:Vr pk ka E k x){u:TypeId}{Q:Value->St->Prop}
  (h:∀o',BE pk ka pv va E o' (En xs x)->Q (.tuple #[]) (s.upd bk o')):lp P (Builtin.delete_ #[tm,t] u #[.map (some bk),k]) s Q X:=by
 obtain⟨O,ys,U,es,c,rfl,Y,am,ap⟩:=aw;unfold Builtin.delete_;simp only [List.getElem?_toArray,List.getElem?_cons_zero,List.getElem?_cons_succ];refine Au _ _ (Co hm ?_)
 dsimp only;refine Au _ _ ?_;unfold getObj;simp only [bind,Sem.bind,lp];refine⟨_,av,V,?_⟩;refine Au (x:=Instr.checkKey _ 10000 t k) _ (ag.BL K ?_);refine Au (x:=Instr.findKey t k es.toList) _ (O0 ag K Y ?_);rcases DK.erase K (i:=0) Y (O.perm U) with⟨Z,e2⟩ | ⟨j,u,Z,e2⟩
 ·rw [Z];simp only [setObj,lp,pure];refine⟨⟨_,al,V⟩,V,h _ ⟨O.del _,_,O4 U x,es,c,V,by rw [e2];exact Y,am,ap⟩⟩
 ·rw [Z];simp only [setObj,lp,pure];have aq:(es.toList.eraseIdx j).Sublist es.toList:=List.eraseIdx_sublist _ _;have ac:(es.eraseIdxIfInBounds (0+j)).toList=es.toList.eraseIdx j:=by rw [Nat.zero_add];simp
  refine⟨⟨_,al,V⟩,V,h _ ⟨O.del _,_,O4 U x,_,c,V,by rw [ac];exact e2,?_,?_⟩⟩
  ·rw [ac];exact am.sublist (aq.map _)
  ·rw [ac];exact λe he=>ap e (aq.subset he)
end
section
variable {b:Frame}
variable {x y:Operand}{e:TypeId}{i:Nat}{bk:Nat}{k:Value}
theorem Yl.lookup{K v:Value}{z0:ν}{ok:Bool}(O:GG P t pk ka)(hm:P.underlying tm=some (.map t te))(U:zeroOf P te=some K)(Y:Vr pv va E K z0)(Z:BE pk ka pv va E o xs)(ac:Vr pk ka E k x0)
  (ag:∀w,Vr pv va E w ((Bs xs x0).getD z0)->(if ok then .tuple #[w,.bool (Bs xs x0).isSome] else w)=v) (al:ρ x= .map (some bk)) (am:ρ y=k) (ap:s.get bk=some o):Yl P ⟨d,.lookup tm x y ok,ty,p,af,g⟩ ρ s v:=by
 refine FV (sm:=Instr.lookup tm (ρ x) (ρ y) ok) V ?_;rw [al,am];exact Vv O hm U Y ap Z ac ok λw hw=>⟨ag w hw,V⟩
theorem JS.makeMap(K:ops[i]? =some ⟨d,.makeMap t none,ty,p,af,g⟩)(hw:AL L ops ⟨d,.makeMap t none,ty,p,af,g⟩=some true)(O:BL b n ⟨d,.makeMap t none,ty,p,af,g⟩=true)(U:Ap E H S)
  (h:∀r,Ap E H (S++ [[(r,.map #[] 0)]])->JL J Q b n (As L d (.map (some r))) ds (.inRegion ops rest::kk) cs (Ak E H (S++ [[(r,.map #[] 0)]]))):
  JL J Q b n L ds (.inRegion ops (i::rest)::kk) cs (Ak E H S):=
 JL.op K hw O λρ am=>by
  show lp P (do pure (Next.value (← Instr.makeMap t none))) _ _ _
  refine Au _ _ ?_
  unfold Instr.makeMap
  simp only [newObj,bind,Sem.bind,pure,lp]
  refine⟨rfl,λr Y Z=>?_⟩
  obtain⟨ac,ag⟩:=Kq Y Z (.map #[] 0) U
  obtain⟨p1,p2⟩:=FI ac
  have al:(Ak E H S).upd r (.map #[] 0)=Ak E H (S++ [[(r,.map #[] 0)]]):=by rw [← p1,← ag];rfl
  show JL J Q b n (As L d (.map (some r))) ds (.inRegion ops rest::kk) cs ((Ak E H S).upd r (.map #[] 0));rw [al];exact h r p2
theorem JS.mapUpdate(j:Nat)(Y:GG P t pk ka)(hm:P.underlying tm=some (.map t te))(Z:BE pk ka pv va E o xs)(ac:Vr pk ka E k x0)(ag:Vr pv va E w v0)(K:Ap E H S)(O:S[j]? =some [(bk,o)])
  (al:ops[i]? =some ⟨d,.mapUpdate tm x y z,ty,p,af,g⟩) (hw:AL L ops ⟨d,.mapUpdate tm x y z,ty,p,af,g⟩=some true) (am:BL b n ⟨d,.mapUpdate tm x y z,ty,p,af,g⟩=true) (ap:ev L x=some (.map (some bk))) (aq:ev L y=some k) (av:ev L z=some w)
  (h:∀o',BE pk ka pv va E o' (CP xs x0 v0)->Ap E H (S.set j [(bk,o')])->JL J Q b n (As L d undef) ds (.inRegion ops rest::kk) cs (Ak E H (S.set j [(bk,o')]))):
  JL J Q b n L ds (.inRegion ops (i::rest)::kk) cs (Ak E H S):=
 JL.op al hw am λρ U=>by
  show lp P (do Instr.mapUpdate tm (ρ x) (ρ y) (ρ z);pure Next.skip) _ _ _
  rw [U _ _ ap,U _ _ aq,U _ _ av]
  refine Au _ _ (UY Y hm (Dr (i:=0) K O rfl) (J6 K O) Z ac ag λo' aw=>?_)
  obtain⟨ay,az⟩:=Ks K O o'
  rw [ay]
  exact h o' aw az
theorem U1{at1:TypeId}(j:Nat)(Y:GG P t pk ka)(hm:P.underlying tm=some (.map t te))(Z:BE pk ka pv va E o xs)(ac:Vr pk ka E k x0)(K:Ap E H S)(O:S[j]? =some [(bk,o)])
  (ag:ops[i]? =some ⟨d,.call ⟨.builtin .delete,#[x,y],#[tm,t]⟩,ty,p,af,g⟩) (hw:AL L ops ⟨d,.call ⟨.builtin .delete,#[x,y],#[tm,t]⟩,ty,p,af,g⟩=some true) (al:BL b n ⟨d,.call ⟨.builtin .delete,#[x,y],#[tm,t]⟩,ty,p,af,g⟩=true) (am:ev L x=some (.map (some bk))) (ap:ev L y=some k)
  (h:∀o',BE pk ka pv va E o' (En xs x0)->Ap E H (S.set j [(bk,o')])->JL J Q b n (As L d (.tuple #[])) ds (.inRegion ops rest::kk) cs (Ak E H (S.set j [(bk,o')]))):
  JL J Q b n L ds (.inRegion ops (i::rest)::kk) cs (Ak E H S):=
 JL.op ag hw al λρ U=>by
  have aq:execOp ρ ⟨d,.call ⟨.builtin .delete,#[x,y],#[tm,t]⟩,ty,p,af,g⟩=(do pure (Next.value (← Builtin.delete_ #[tm,t] ty #[ρ x,ρ y]))):=by
   simp [execOp,resolve,Deferred.ofValue,invoke,bind,Sem.bind,pure,Go.builtin]
  rw [aq,U _ _ am,U _ _ ap];refine Au _ _ (Vq Y hm (Dr (i:=0) K O rfl) (J6 K O) Z ac λo' av=>?_);obtain⟨aw,ay⟩:=Ks K O o';rw [aw];exact h o' av ay
theorem O1{todo:Li_}(j:Nat)(O:Ap E H S)(U:S[j]? =some [(bk,o)])
  (h:∀E',Le E E'->E' bk=some o->Ap E' H (S.set j [])->JL J Q b n L ds todo cs (Ak E' H (S.set j []))):JL J Q b n L ds todo cs (Ak E H S):=by
 obtain⟨Y,Z⟩:=GB O U;rw [Y];have ac:((S.set j []).flatten++ [(bk,o)])[(S.set j []).flatten.length]? =some (bk,o):=by simp
 refine JL.freeze (S.set j []).flatten.length Z ac λE' hle ag K=>?_;have al:((S.set j []).flatten++ [(bk,o)]).eraseIdx (S.set j []).flatten.length=(S.set j []).flatten:=by rw [List.eraseIdx_append_of_length_le (Nat.le_refl _)];simp
 rw [al] at K ⊢;exact h E' hle ag K
theorem RB{α:Type}{m:Nat}{f:Nat->Sem α}{s:St}{Q:α->St->Prop}{X:Halt->St->Prop}(hm:0<m)(K:s.q=false)(h:∀i,i<m->lp P (f i) s Q X):lp P ((choose (.mapNext m)).bind f) s Q X:=by
 simp only [choose,Sem.bind,lp];split
 ·exact h 0 hm
 ·exact⟨K,λt=>h _ (Nat.mod_lt _ hm)⟩
theorem JS.range{es:Array MapEntry}{c:Nat}(hm:P.underlying tm=some (.map t te))(K:(Ak E H S).get bk=some (.map es c))(O:ops[i]? =some ⟨d,.range tm x,ty,p,af,g⟩)(hw:AL L ops ⟨d,.range tm x,ty,p,af,g⟩=some true)(U:BL b n ⟨d,.range tm x,ty,p,af,g⟩=true)(Y:Ap E H S)
  (Z:ev L x=some (.map (some bk)))
  (h:∀r,Ap E H (S++ [[(r,.mapIter (some bk) c #[] c)]])->JL J Q b n (As L d (.pointer (some ⟨r,0,none⟩))) ds (.inRegion ops rest::kk) cs (Ak E H (S++ [[(r,.mapIter (some bk) c #[] c)]]))):
  JL J Q b n L ds (.inRegion ops (i::rest)::kk) cs (Ak E H S):=
 JL.op O hw U λρ ac=>by
  show lp P (do pure (Next.value (← Instr.range tm (ρ x)))) _ _ _
  rw [ac _ _ Z]
  refine Au _ _ ?_
  unfold Instr.range
  refine Au _ _ (Co hm ?_)
  simp only [getObj,newObj,bind,Sem.bind,pure,lp]
  refine⟨_,K,rfl,rfl,λr ag al=>?_⟩
  obtain⟨am,ap⟩:=Kq ag al (.mapIter (some bk) c #[] c) Y
  obtain⟨p1,p2⟩:=FI am
  have aq:(Ak E H S).upd r (.mapIter (some bk) c #[] c)=Ak E H (S++ [[(r,.mapIter (some bk) c #[] c)]]):=by rw [← p1,← ap];rfl
  show JL J Q b n (As L d (.pointer (some ⟨r,0,none⟩))) ds (.inRegion ops rest::kk) cs ((Ak E H S).upd r (.mapIter (some bk) c #[] c));rw [aq];exact h r p2
theorem JS.next{es:Array MapEntry}{c r:Nat}{seen:Array Nat}(j:Nat)(am:(Ak E H S).get bk=some (.map es c))(hb:∀e∈es.toList,e.born<c)(K:Ap E H S)(O:S[j]? =some [(r,.mapIter (some bk) c seen c)])
  (ap:ops[i]? =some ⟨d,.next x false,ty,p,af,g⟩) (hw:AL L ops ⟨d,.next x false,ty,p,af,g⟩=some true) (aq:BL b n ⟨d,.next x false,ty,p,af,g⟩=true) (U:ev L x=some (.pointer (some ⟨r,0,none⟩)))
  (av:∀e∈es.toList,e.born ∉ seen->Ap E H (S.set j [(r,.mapIter (some bk) c (seen.push e.born) c)])->JL J Q b n (As L d (.tuple #[.bool true,e.key,e.val])) ds (.inRegion ops rest::kk) cs (Ak E H (S.set j [(r,.mapIter (some bk) c (seen.push e.born) c)])))
  (aw:(∀e∈es.toList,e.born∈seen)->JL J Q b n (As L d (.tuple #[.bool false])) ds (.inRegion ops rest::kk) cs (Ak E H S)):
  JL J Q b n L ds (.inRegion ops (i::rest)::kk) cs (Ak E H S):=
 JL.op ap hw aq λρ ay=>by
  show lp P (do pure (Next.value (← Instr.next (ρ x) false ty))) _ _ _
  rw [ay _ _ U]
  refine Au _ _ ?_
  unfold Instr.next
  simp only [getObj,setObj,bind,Sem.bind,pure,lp]
  refine⟨_,Dr (i:=0) K O rfl,rfl,?_⟩
  simp only [lp]
  refine⟨_,am,rfl,?_⟩
  have az:(!seen.isEmpty&& !es.isEmpty&&es.all (λe=>decide (e.born>=c)))=false:=by
   by_cases he:es.toList= []
   ·have:es.isEmpty=true:=by simpa [Array.isEmpty_iff] using he
    simp [this]
   ·obtain⟨e,ag⟩:=List.exists_mem_of_ne_nil _ he;have bi:=hb e ag;have:es.all (λe=>decide (e.born>=c))=false:=by
     cases U:es.all (λe=>decide (e.born>=c)) with
     | false=>rfl
     | true=>
      have:=Array.all_eq_true'.1 U e (Array.mem_toList_iff.1 ag);simp at this;omega
    simp [this]
  have a0:Array.filter (λx:MapEntry=>decide (x.born<c)) (Array.filter (λe=> !seen.contains e.born) es)=Array.filter (λe=> !seen.contains e.born) es:=by
   apply Array.toList_inj.1;rw [Array.toList_filter,List.filter_eq_self];intro e he;rw [Array.toList_filter] at he;simpa using hb e (List.mem_filter.1 he).1
  have e2:Array.filter (λx:MapEntry=>decide (x.born>=c)) (Array.filter (λe=> !seen.contains e.born) es)= #[]:=by
   apply Array.toList_inj.1;rw [Array.toList_filter,List.filter_eq_nil_iff];intro e he;rw [Array.toList_filter] at he;have:=hb e (List.mem_filter.1 he).1;simp;omega
  dsimp only;rw [if_neg (by rw [az];exact Bool.false_ne_true),a0,e2];have Y:∀e,e∈(Array.filter (λe=> !seen.contains e.born) es).toList↔e∈es.toList/\e.born ∉ seen:=by
   intro e;rw [Array.toList_filter,List.mem_filter];simp
  generalize Array.filter (λe:MapEntry=> !seen.contains e.born) es=left at Y ⊢;by_cases Z:left.toList= []
  ·have a1:left= #[]:=Array.toList_inj.1 Z;subst a1;refine RB (by simp) rfl λi hi=>?_;obtain rfl:i=0:=by simp at hi;exact hi
   have a2:((if(#[]:Array MapEntry).isEmpty=true then #[none] else #[])++Array.map some ((#[]:Array MapEntry)++ #[]))[0]? =some none:=by simp
   rw [a2];refine aw λe he=>?_;by_cases al:e.born∈seen
   ·exact al
   ·have:=(Y e).2 ⟨he,al⟩;simp at this
  ·have a3:left.isEmpty=false:=by
    cases a4:left.isEmpty with
    | false=>rfl
    | true=>exact absurd (by simpa [Array.isEmpty_iff] using a4) Z
   rw [a3];simp only [Bool.false_eq_true,if_false,Array.append_empty,Array.empty_append];have a5:0<left.size:=by
    rcases Nat.eq_zero_or_pos left.size with ac | ac
    ·exact absurd (by simpa using Array.eq_empty_of_size_eq_zero ac) Z
    ·exact ac
   refine RB (by simpa using a5) rfl λi hi=>?_;have a6:i<left.size:=by simpa using hi
   have a7:(Array.map some left)[i]? =some (some left[i]):=by simp [a6]
   rw [a7];simp only [lp];obtain⟨a8,a9⟩:=(Y left[i]).1 (Array.getElem_mem_toList _);refine⟨⟨_,J6 K O,rfl⟩,rfl,?_⟩;obtain⟨bb,be⟩:=Ks K O (.mapIter (some bk) c (seen.push left[i].born) c);rw [bb];exact av _ a8 a9 be
theorem JS.entry{es:Array MapEntry}{c r:Nat}{seen:Array Nat}{e:MapEntry}(j:Nat)(U:(Ak E H S).get bk=some (.map es c))(he:e∈es.toList)(hb:(es.toList.map (·.born)).Pairwise (·<·))(Y:Ap E H S)(Z:S[j]? =some [(r,.mapIter (some bk) c (seen.push e.born) c)])
  (ac:ops[i]? =some ⟨d,.entry x,ty,p,af,g⟩) (hw:AL L ops ⟨d,.entry x,ty,p,af,g⟩=some true) (ag:BL b n ⟨d,.entry x,ty,p,af,g⟩=true) (al:ev L x=some (.pointer (some ⟨r,0,none⟩)))
  (h:JL J Q b n (As L d (.tuple #[e.key,e.val])) ds (.inRegion ops rest::kk) cs (Ak E H S)):
  JL J Q b n L ds (.inRegion ops (i::rest)::kk) cs (Ak E H S):=
 JL.op ac hw ag λρ am=>by
  show lp P (do pure (Next.value (← Instr.entry (ρ x)))) _ _ _
  rw [am _ _ al]
  refine Au _ _ ?_
  unfold Instr.entry
  simp only [getObj,bind,Sem.bind,pure,lp]
  refine⟨_,Dr (i:=0) Y Z rfl,rfl,?_⟩
  simp only [Array.back?_push,bne_self_eq_false,lp]
  refine⟨_,U,rfl,?_⟩
  have ap:es.find? (λx=>x.born==e.born)=some e:=by
   rw [← Array.find?_toList];have key:∀(l:List MapEntry),e∈l->(l.map (·.born)).Pairwise (·<·)->l.find? (λx=>x.born==e.born)=some e:=by
    intro l
    induction l with
    | nil=>intro h;cases h
    | cons y l aq=>
     intro hm K;rw [List.map_cons,List.pairwise_cons] at K;by_cases O:y.born=e.born
     ·rcases List.mem_cons.1 hm with rfl | hm
      ·simp
      ·have:=K.1 e.born (List.mem_map.2 ⟨e,hm,rfl⟩);omega
     ·rw [List.find?_cons_of_neg (by simpa using O)];rcases List.mem_cons.1 hm with rfl | hm
      ·exact absurd rfl O
      ·exact aq hm K.2
   exact key _ he hb
  simp only [bne_self_eq_false,Bool.false_eq_true,if_false,ap,lp];exact h
end
end
theorem Kg{E H:LH}{S:List Seg}{bk:Nat}{o:Obj}(h:E bk=some o):(Ak E H S).get bk=some o:=by
 show(match E bk with | some o=>some o | none=>_)=some o
 rw [h]
theorem Q4{α β:Type}(f:α->β){l:List α}(h:(l.map f).Nodup):l.Nodup:=by
 unfold List.Nodup at h ⊢;rw [List.pairwise_map] at h;exact h.imp λh e=>h (by rw [e])
theorem Ss{α:Type}:∀{l l':List α},l.Nodup->(∀x∈l,x∈l')->l.length<=l'.length
 | [],_,_,_=>Nat.zero_le _
 | x::l,l',h,O=>by
  obtain⟨a,b,rfl⟩:=List.append_of_mem (O x (by simp))
  have U:=List.nodup_cons.1 h
  have:=Ss (l:=l) (l':=a++b) U.2 (λy Y=>by
   have K:=O y (List.mem_cons_of_mem _ Y)
   have Z:y≠x:=λe=>U.1 (e▸Y)
   simp at K ⊢
   rcases K with K | K | K
   ·exact .inl K
   ·exact absurd K Z
   ·exact .inr K)
  simp at this ⊢;omega
variable {ys:List (κ×ν)}
section
variable [DecidableEq κ]
def IP(es:Array MapEntry)(ys:List (κ×ν))(seen:Array Nat)(done:List (κ×ν)):Prop:=
 ∃K:List (MapEntry×(κ×ν)),done=K.map (·.2)/\seen.toList=K.map (·.1.born)/\K.Nodup/\∀q∈K,q∈es.toList.zip ys
theorem IP.nil{es:Array MapEntry}{ys:List (κ×ν)}:IP es ys #[] []:=⟨[],V,V,.nil,by simp⟩
theorem R7:∀{es:List MapEntry} {ys:List (κ×ν)},(es.map (·.born)).Pairwise (·<·)->∀{p q:MapEntry×(κ×ν)},p∈es.zip ys->q∈es.zip ys->p.1.born=q.1.born->p=q
 | [],_,_,_,_,h,_,_=>by simp at h
 | _::_,[],_,_,_,h,_,_=>by simp at h
 | e::es,y::ys,U,p,q,K,O,hb=>by
  rw [List.map_cons,List.pairwise_cons] at U
  rw [List.zip_cons_cons] at K O
  have Y:∀{z:MapEntry×(κ×ν)},z∈es.zip ys->z.1.born∈es.map (·.born):=λ{z} Z=>by
   have:=(List.of_mem_zip Z).1
   exact List.mem_map.2 ⟨z.1,this,V⟩
  rcases List.mem_cons.1 K with rfl | K <;> rcases List.mem_cons.1 O with rfl | O
  ·rfl
  ·have:=U.1 _ (Y O);simp at hb;omega
  ·have:=U.1 _ (Y K);simp at hb;omega
  ·exact R7 U.2 K O hb
theorem DK.zip:∀{es:List MapEntry} {ys:List (κ×ν)},DK pk ka pv va E es ys->∀{q:MapEntry×(κ×ν)},q∈es.zip ys->Vr pk ka E q.1.key q.2.1/\Vr pv va E q.1.val q.2.2
 | [],[],_,_,h=>by simp at h
 | e::es,y::ys,h,q,K=>by
  rw [List.zip_cons_cons] at K
  rcases List.mem_cons.1 K with rfl | K
  ·exact⟨h.1,h.2.1⟩
  ·exact DK.zip h.2.2 K
 | [],_::_,h,_,_=>h.elim
 | _::_,[],h,_,_=>h.elim
theorem So:∀{es:List MapEntry} {ys:List (κ×ν)},KN ys->(es.map (·.born)).Pairwise (·<·)->∀{p q:MapEntry×(κ×ν)},p∈es.zip ys->q∈es.zip ys->p.2.1=q.2.1->p=q
 | [],_,_,_,_,_,h,_,_=>by simp at h
 | _::_,[],_,_,_,_,h,_,_=>by simp at h
 | e::es,y::ys,ac,Y,p,q,K,O,hb=>by
  have U:y.1 ∉ ys.map (·.1)/\KN ys:=by simpa [KN] using ac
  rw [List.map_cons,List.pairwise_cons] at Y;rw [List.zip_cons_cons] at K O;have Z:∀{z:MapEntry×(κ×ν)},z∈es.zip ys->z.2.1∈ys.map (·.1):=λ{z} ag=>List.mem_map.2 ⟨z.2,(List.of_mem_zip ag).2,rfl⟩;rcases List.mem_cons.1 K with rfl | K <;> rcases List.mem_cons.1 O with rfl | O
  ·rfl
  ·have:=Z O;simp only at hb;rw [← hb] at this;exact absurd this U.1
  ·have:=Z K;simp only at hb;rw [hb] at this;exact absurd this U.1
  ·exact So U.2 Y.2 K O hb
theorem IP.len{es:Array MapEntry}{ys:List (κ×ν)}{seen:Array Nat}{done:List (κ×ν)}(h:IP es ys seen done):done.length<=ys.length:=by
 obtain⟨Y,rfl,Z,K,O⟩:=h;rw [List.length_map];have U:=Ss K O;exact Nat.le_trans U (by rw [List.length_zip];exact Nat.min_le_right _ _)
section
variable {b:Frame}
variable {x y:Operand}{e:TypeId}{i:Nat}{bk:Nat}
theorem Si{es:Array MapEntry}{c r:Nat}{seen:Array Nat}{done:List (κ×ν)}(j:Nat)(ag:DK pk ka pv va E es.toList ys)(Z:(es.toList.map (·.born)).Pairwise (·<·))(hb:∀e∈es.toList,e.born<c)(av:KN ys)(aw:IP es ys seen done)(ay:(Ak E' H S).get bk=some (.map es c))(az:Ap E' H S)(a0:S[j]? =some [(r,.mapIter (some bk) c seen c)])
  (a2:ops[i]? =some ⟨d,.next x false,ty,p,af,g⟩) (hw:AL L ops ⟨d,.next x false,ty,p,af,g⟩=some true) (a3:BL b n ⟨d,.next x false,ty,p,af,g⟩=true) (a4:ev L x=some (.pointer (some ⟨r,0,none⟩)))
  (a5:∀e O,Vr pk ka E e.key O.1->Vr pv va E e.val O.2->O∈ys->O.1 ∉ done.map (·.1)->e∈es.toList->IP es ys (seen.push e.born) (done++ [O])->Ap E' H (S.set j [(r,.mapIter (some bk) c (seen.push e.born) c)])->
   JL J Q b n (As L d (.tuple #[.bool true,e.key,e.val])) ds (.inRegion ops rest::kk) cs (Ak E' H (S.set j [(r,.mapIter (some bk) c (seen.push e.born) c)])))
  (a6:done.Perm ys->JL J Q b n (As L d (.tuple #[.bool false])) ds (.inRegion ops rest::kk) cs (Ak E' H S)):
  JL J Q b n L ds (.inRegion ops (i::rest)::kk) cs (Ak E' H S):=by
 obtain⟨ac,rfl,a1,al,Y⟩:=aw;have hlen:=ag.len;refine JS.next j ay hb az a0 a2 hw a3 a4 (λe he a7 a8=>?_) (λa9=>?_)
 ·obtain⟨m,hm,bb⟩:=List.mem_iff_getElem.1 he;have U:(e,ys[m]'(by omega))∈es.toList.zip ys:=by
   rw [← bb];have:(es.toList.zip ys)[m]'(by rw [List.length_zip];omega)=(es.toList[m],ys[m]'(by omega)):=List.getElem_zip;rw [← this];exact List.getElem_mem _
  obtain⟨k1,be⟩:=ag.zip U;have am:(e,ys[m]'(by omega)) ∉ ac:=λq=>a7 (by
   rw [← Array.mem_toList_iff,a1]
   exact List.mem_map.2 ⟨_,q,V⟩)
  refine a5 e _ k1 be (List.getElem_mem _) (λq=>?_) he ⟨ac++ [(e,ys[m]'(by omega))],by simp,by simp [a1],?_,λq K=>?_⟩ a8
  ·obtain⟨O,bi,bn⟩:=List.mem_map.1 q;obtain⟨z,ap,rfl⟩:=List.mem_map.1 bi;have:=So av Z (Y z ap) U bn;exact am (this▸ap)
  ·rw [List.nodup_append];exact⟨al,by simp,by intro q K z aq bo;simp at aq;subst aq bo;exact am K⟩
  ·rcases List.mem_append.1 K with K | K
   ·exact Y q K
   ·simp at K;subst K;exact U
 ·refine a6 ?_;have bv:ac.Perm (es.toList.zip ys):=by
   have bw:(es.toList.zip ys).Nodup:=by
    have:((es.toList.zip ys).map (·.1)).Nodup:=by
     rw [List.map_fst_zip (by omega)];exact Q4 (λe:MapEntry=>e.born) (Z.imp (λh=>Nat.ne_of_lt h))
    exact Q4 _ this
   refine(List.perm_ext_iff_of_nodup al bw).2 λq=>⟨λK=>Y q K,λK=>?_⟩;have:=a9 q.1 (List.of_mem_zip K).1;rw [← Array.mem_toList_iff,a1] at this;obtain⟨z,U,bx⟩:=List.mem_map.1 this;have:=R7 Z (Y z U) K bx;exact this▸U
  have:=bv.map (·.2)
  rwa [List.map_snd_zip (by omega)] at this
end
end
variable {l0 bks:List Nat}{xl:List Nat}
section
variable {b:Frame}{fuel:Nat}{listed:Array Bool}
theorem Ec(i:Nat)(pure:Bool)(K:s.q=false)(O:GX n L ops i=some ⟨d,op,ty,p,af,g⟩)
  (U:∀ρ,EF L ρ->∀s':St,(pure=false->∀x o,(Bh (Az (l0++bks)) s).E x=some o->s'.E x=some o)->Yl P ⟨d,op,ty,p,af,g⟩ ρ s' v)
  (Y:Fs J Q b n ds ops k cs (Az xl) (Az (l0++bks)) (Az l0) fuel (A2 listed i) (As L d v) s) (Z:Jq ops listed xl pure i=true:=by decide+kernel):Fs J Q b n ds ops k cs (Az xl) (Az (l0++bks)) (Az l0) (fuel+1) listed L s:=by
 obtain⟨ac,ag,al⟩:=O6 O;exact JB.val i pure ac Z K ag al U Y
def QM(n:Nat)(L:Env)(ops:Ao_)(i:Nat):Option Env:=
 match Js ops.toList i with
 | some ⟨d,op,ty,p,af,g⟩=>match AL L ops ⟨d,op,ty,p,af,g⟩ with
  | some true=>match Bb n d with
   | true=>match KA L op with
    | some v=>match d with
     | some d=>some ((d,v)::L)
     | none=>some L
    | none=>none
   | false=>none
  | _=>none
 | none=>none
theorem W5{i:Nat}(h:QM n L ops i=some L'):∃o v,ops[i]? =some o/\Bb n o.dst=true/\AL L ops o=some true/\KA L o.op=some v/\L'=As L o.dst v:=by
 unfold QM at h;split at h
 ·rename_i d op ty p af g K;rw [K5,Array.getElem?_toList] at K;split at h
  ·rename_i hw;split at h
   ·rename_i O;split at h
    ·rename_i v U;refine⟨_,v,K,O,hw,U,?_⟩;cases d with
     | none=>cases h;rfl
     | some d=>cases h;rfl
    ·cases h
   ·cases h
  ·cases h
 ·cases h
theorem Bj(i:Nat)(K:s.q=false)(h:QM n L ops i=some L')
  (O:Fs J Q b n ds ops k cs (Az xl) (Az (l0++bks)) (Az l0) fuel (A2 listed i) L' s) (U:Jq ops listed xl true i=true:=by decide+kernel):Fs J Q b n ds ops k cs (Az xl) (Az (l0++bks)) (Az l0) (fuel+1) listed L s:=by
 obtain⟨o,v,Y,Z,hw,ac,rfl⟩:=W5 h;exact JB.val i true Y U K hw Z (λρ ag s' _=>NG ag ac) O
end
variable {i2:Nat}
variable {d2:Option Tmp}{x2:Operand}{t2 ty2:TypeId}{p2:String}{af2:Ae_}{g2:On_}
section
variable {b:Frame}{i:Nat}
variable {x y:Operand}{e:TypeId}
theorem Dv(O:Ap E H S)(h:∀r E',Le E E'->At E' r 0 v.cells.toList->Ap E' H (S++ [[]])->JL J Q b n (As L d (.pointer (some ⟨r,0,none⟩))) ds (.inRegion ops rest::k) cs (Ak E' H (S++ [[]])))
  (U:Ft b n L ops i=some ⟨d,.box e x,ty,p,af,g⟩:=by exact rfl) (Y:ev L x=some v:=by exact rfl):JL J Q b n L ds (.inRegion ops (i::rest)::k) cs (Ak E H S):=by
 obtain⟨Z,ac,ag⟩:=Kp U;refine JS.box Z ac ag O Y λr al=>Eh (bk:=r) (c:=v.cells) (e:=e) (f:=(0,0)) S.length al (by simp) λE' hle am K=>?_;have ap:(S++ [[(r,Obj.cells v.cells e (0,0))]]).set S.length []=S++ [[]]:=by simp
 rw [ap] at K ⊢;exact h r E' hle am K
theorem BV{z:Value}(K:Ap E H S)(O:zeroOf P e=some z)(h:∀r,Ap E H (S++ [[(r,.cells z.cells e (0,0))]])->JL J Q b n (As L d (.pointer (some ⟨r,0,none⟩))) ds (.inRegion ops rest::k) cs (Ak E H (S++ [[(r,.cells z.cells e (0,0))]])))
  (U:Ft b n L ops i=some ⟨d,.alloc e,ty,p,af,g⟩:=by exact rfl):JL J Q b n L ds (.inRegion ops (i::rest)::k) cs (Ak E H S):=by
 obtain⟨Y,Z,ac⟩:=Kp U;exact JS.alloc Y Z ac K O h
theorem BJ{bk off K:Nat}{c:Av_}(j:Nat)(O:Ap E H S)(U:Bl P t=some K)
  (h:Ap E H (S.set j [(bk,.cells (A6 c off v.cells.toList) e (0,0))])->JL J Q b n (As L d undef) ds (.inRegion ops rest::k) cs (Ak E H (S.set j [(bk,.cells (A6 c off v.cells.toList) e (0,0))])))
  (Y:Ft b n L ops i=some ⟨d,.store t x y,ty,p,af,g⟩:=by exact rfl) (Z:ev L x=some (.pointer (some ⟨bk,off,none⟩)):=by exact rfl) (ac:ev L y=some v:=by exact rfl) (ag:S[j]? =some [(bk,.cells c e (0,0))]:=by exact rfl)
  (al:K=v.cells.size:=by exact rfl) (hle:off+v.cells.size<=c.size:=by exact Nat.le_of_ble_eq_true rfl) (am:v.cells.toList.all C9=true:=by first | exact rfl | simp [Value.cells,C9]):
  JL J Q b n L ds (.inRegion ops (i::rest)::k) cs (Ak E H S):=bj j O (by rw [← al];exact U) Y Z ac ag h hle (List.all_eq_true.1 am)
theorem Cm{bk o K Y off:Nat}{O:Array Field}{U:Nat}{ws:Lv_}(j:Nat)(Z:At E bk o ws)(ac:P.underlying t=some (.struct O))(ag:Bl P ft=some (Y+1))(al:Di P t2=some false)
  (am:JL J Q b n (As (As L d (.pointer (some ⟨bk,K+off,none⟩))) d2 v) ds (.inRegion ops rest::k) cs (Ak E H S))
  (ap:Ft b n L ops i=some ⟨d,.fieldAddr t x U,ty,p,af,g⟩:=by exact rfl) (aq:ev L x=some (.pointer (some ⟨bk,K,none⟩)):=by exact rfl) (av:Me O U=some (off,ft):=by exact rfl)
  (aw:Ft b n (As L d (.pointer (some ⟨bk,K+off,none⟩))) ops i2=some ⟨d2,.load t2 x2,ty2,p2,af2,g2⟩:=by exact rfl) (ay:ev (As L d (.pointer (some ⟨bk,K+off,none⟩))) x2=some (.pointer (some ⟨bk,o+j,none⟩)):=by exact rfl) (az:ws[j]? =some v:=by exact rfl):
  JL J Q b n L ds (.inRegion ops (i::i2::rest)::k) cs (Ak E H S):=JL.fd ac ag ap aq av (C8 j Z al aw ay az am)
theorem JS.ix{α:Type}{pp:Rp α}{a:Option Addr}{c:Nat}{xs:List α}{xv:α}{m:Int}{kd:IntKind}(K:Al pp E a c xs)(hm:ix xs m=some xv)(O:P.underlying t=some (.slice e))(U:Bl P e=some pp.n)
  (h:∀bk o ws,pp.r E ws xv->At E bk o ws->JL J Q b n (As L d (.pointer (some ⟨bk,o,none⟩))) ds (.inRegion ops rest::k) cs (Ak E H S))
  (Y:Ft b n L ops i=some ⟨d,.indexAddr t x y,ty,p,af,g⟩:=by exact rfl) (Z:ev L x=some (.slice a xs.length c):=by exact rfl) (ac:ev L y=some (.int kd m):=by exact rfl):
  JL J Q b n L ds (.inRegion ops (i::rest)::k) cs (Ak E H S):=by
 obtain⟨ag,al,am⟩:=Kp Y;exact Tl K hm ag al am Z ac O U h
theorem EK(K:List Seg)(O:Env){todo:Li_}{c:Code}(U:∀E',Le E E'->Ap E' H K->JL J Q b n O ds todo cs (Ak E' H K))
  (h:(∀{E':LH} {L:Env},Le E E'->Ap E' H K->Ij L O=Iq O->JL J Q b n L ds todo cs (Ak E' H K))->JL J Q b n L ds (.code c::todo) cs (Ak E H S)):JL J Q b n L ds (.code c::todo) cs (Ak E H S):=
 h λY Z ac=>AF (U _ Y Z) ac
theorem DY{U:List Nat}(Y Z:Nat)(K:List Seg)(O:Env){todo:Li_}(ac:∀E',Le E E'->Ap E' H K->JL J Q b n O ds (.inRegion ops (List.range' Y Z)::todo) cs (Ak E' H K))
  (h:(∀{E':LH} {L:Env},Le E E'->Ap E' H K->Ij L O=Iq O->JL J Q b n L ds (.inRegion ops (List.range' Y Z)::todo) cs (Ak E' H K))->JL J Q b n L ds (.inRegion ops U::todo) cs (Ak E H S)):JL J Q b n L ds (.inRegion ops U::todo) cs (Ak E H S):=
 h λag al am=>AF (ac _ ag al) am
theorem DX{O ag:Type}{c:Code}{body:O->Option (Bm O ag)}{f:Nat}{Y:O}{a:ag}{Z:LH}{k:Li_}(am:iter body f Y=some a)(K:O->List Seg)(U:O->Env)(hle:Le Z E)(ap:Ap E H (K Y))
  (round:∀x E',Le Z E'->Ap E' H (K x)->(∀al,body x=some (.done al)->al=a)->(∃st,body x=some st)->(∀{L':Env} {ac:LH} (x':O),Le Z ac->Ap ac H (K x')->Ij L' (U x')=Iq (U x')->body x=some (.more x')->JL J Q b n L' ds (.inLoop c::k) cs (Ak ac H (K x')))->JL J Q b n (U x) ds (.code c:: .inLoop c::k) cs (Ak E' H (K x)))
  (aq:Ij L (U Y)=Iq (U Y):=by exact rfl) (av:Ak E H S=Ak E H (K Y):=by exact rfl):JL J Q b n L ds (.code (.loop c)::k) cs (Ak E H S):=by
 rw [av];refine El _ aq (SB am (λL s x=>∃E',Jm Z H E' (K x) (U x) L s) ⟨E,V,V,hle,ap⟩ ?_);rintro _ _ x ⟨E',rfl,rfl,aw,ay⟩ hd hb az;exact round x E' aw ay hd hb λx' a0 g2 a1 a2=>AF (az _ _ x' ⟨_,V,V,a0,g2⟩ a2) a1
theorem Bn{f:FuncId}{fn:Func}{c:Code}{E:LH}{vs:Lv_}{B:Seg}{R:Value->LH->Seg->Prop}(O:P.funcs[f]? =some fn)
  (h:∀(Q:Gs_) (K:Frame) (cs:Lf_) (H:LH),Ap E H [B]->(∀{v:Value} {E':LH} {S':List Seg} {B':Seg},Le E E'->S'.flatten=B'->R v E' B'->Ap E' H S'->J.ok Q (G (K.finish v) cs) (Ak E' H S'))->JL J Q (base f) fn.ntmps (Gj 0 vs) [] [.code c] (K::cs) (Ak E H [B]))
  (hb:fn.body=some c:=by exact rfl) (U:Nat.ble vs.length fn.ntmps=true:=by exact rfl):AQ J f vs E B R:=
 Qg O hb U λQ K cs H Y Z=>h Q K cs H Y λac ag al am=>Z _ _ _ _ ac ag al am
variable {fuel:Nat}{listed:Array Bool}
theorem IV{bk:Nat}{c:Av_}{f:Nat×Nat}(i:Nat)(K:DW ops m=true)(o:Nat)(j:Nat)(O:Ap E H S)(U:Di P t=some false)
  (Y:AM J Q b n ds ops k cs m (Az bks) fuel (A2 listed i) (As L d w) (Ak E H S)) (Z:GX n L ops i=some ⟨d,.load t x,ty,p,af,g⟩:=by exact rfl) (ac:ev L x=some (.pointer (some ⟨bk,o,none⟩)):=by exact rfl)
  (ag:S[j]? =some [(bk,.cells c e f)]:=by exact rfl) (hw:c[o]? =some w:=by exact rfl) (al:Az bks bk=true:=by simp [Az]) (am:Gn ops listed m i=true:=by decide+kernel):AM J Q b n ds ops k cs m (Az bks) (fuel+1) listed L (Ak E H S):=
 AO i K V Z (λρ h s' ap=>Yl.load U (h _ _ ac) (B5 (o:=o) j O ag al ap hw)) Y am
theorem JG.lp{bk o:Nat}{ws:Lv_}(i:Nat)(K:DW ops m=true)(j:Nat)(O:At E bk o ws)(U:Ap E H S)(Y:HM S bks)(Z:Di P t=some false)
  (ac:AM J Q b n ds ops k cs m (Az bks) fuel (A2 listed i) (As L d w) (Ak E H S)) (ag:GX n L ops i=some ⟨d,.load t x,ty,p,af,g⟩:=by exact rfl) (al:ev L x=some (.pointer (some ⟨bk,o+j,none⟩)):=by exact rfl)
  (hw:ws[j]? =some w:=by exact rfl) (am:Gn ops listed m i=true:=by decide+kernel):AM J Q b n ds ops k cs m (Az bks) (fuel+1) listed L (Ak E H S):=
 AO i K V ag (λρ h s' ap=>Yl.load Z (h _ _ al) (At.Jl (j:=j) O (bg U ap Y) hw)) ac am
theorem Ug{bk o K:Nat}{c:Av_}{f:Nat×Nat}(i:Nat)(O:DW ops m=true)(vs:Lv_)(j:Nat)(U:Ap E H S)(hw:∀(q:Nat) w,vs[q]? =some w->c[o+q]? =some w)(Y:Di P t=some true)(Z:Bl P t=some K)
  (ac:AM J Q b n ds ops k cs m (Az bks) fuel (A2 listed i) (As L d (.agg vs.toArray)) (Ak E H S)) (ag:GX n L ops i=some ⟨d,.load t x,ty,p,af,g⟩:=by exact rfl) (al:ev L x=some (.pointer (some ⟨bk,o,none⟩)):=by exact rfl)
  (am:S[j]? =some [(bk,.cells c e f)]:=by exact rfl) (ap:K=vs.length:=by exact rfl) (aq:Az bks bk=true:=by simp [Az]) (av:Gn ops listed m i=true:=by decide+kernel):AM J Q b n ds ops k cs m (Az bks) (fuel+1) listed L (Ak E H S):=
 AO i O V ag (λρ h s' aw=>Gg (vs:=vs) Y (by rw [← ap];exact Z) (h _ _ al) (λq w ay=>by rw [Dm rfl];exact B5 j U am aq aw (hw q w ay))) ac av
theorem JG.ix{D:Nat->Bool}{α:Type}{xs:List α}{xv:α}{K:Int}{bk c O U:Nat}{kd:IntKind}(i:Nat)(Y:DW ops m=true)(Z:xs.length=U)(hm:ix xs K=some xv)(ac:P.underlying t=some (.slice e))(ag:Bl P e=some O)
  (al:AM J Q b n ds ops k cs m D fuel (A2 listed i) (As L d (.pointer (some ⟨bk,K.toNat*O,none⟩))) s) (am:s.q=false:=by exact rfl) (ap:GX n L ops i=some ⟨d,.indexAddr t x y,ty,p,af,g⟩:=by exact rfl)
  (aq:ev L x=some (.slice (some ⟨bk,0,none⟩) U c):=by exact rfl) (av:ev L y=some (.int kd K):=by exact rfl) (aw:Gn ops listed m i=true:=by decide+kernel):AM J Q b n ds ops k cs m D (fuel+1) listed L s:=
 AO i Y am ap (λρ h s' ay=>Fx Z hm ac ag (h _ _ aq) (h _ _ av)) al aw
theorem JB.ix{l0 bks:List Nat}{α:Type}{xs:List α}{xv:α}{K:Int}{bk c O U:Nat}{kd:IntKind}(i:Nat)(Y:xs.length=U)(hm:ix xs K=some xv)(Z:P.underlying t=some (.slice e))(ac:Bl P e=some O)
  (ag:Fs J Q b n ds ops k cs (Az xl) (Az (l0++bks)) (Az l0) fuel (A2 listed i) (As L d (.pointer (some ⟨bk,K.toNat*O,none⟩))) s) (al:s.q=false:=by exact rfl) (am:GX n L ops i=some ⟨d,.indexAddr t x y,ty,p,af,g⟩:=by exact rfl)
  (ap:ev L x=some (.slice (some ⟨bk,0,none⟩) U c):=by exact rfl) (aq:ev L y=some (.int kd K):=by exact rfl) (av:Jq ops listed xl true i=true:=by decide+kernel):Fs J Q b n ds ops k cs (Az xl) (Az (l0++bks)) (Az l0) (fuel+1) listed L s:=
 Ec i true al am (λρ h s' aw=>Fx Y hm Z ac (h _ _ ap) (h _ _ aq)) ag av
theorem Uf{l0:List Nat}{bk o K:Nat}{c:Av_}{f:Nat×Nat}(i:Nat)(vs:Lv_)(j:Nat)(O:Ap E H S)(hw:∀(q:Nat) w,vs[q]? =some w->c[o+q]? =some w)(U:Di P t=some true)(Y:Bl P t=some K)
  (Z:Fs J Q b n ds ops k cs (Az xl) (Az (l0++bks)) (Az l0) fuel (A2 listed i) (As L d (.agg vs.toArray)) (Ak E H S)) (ac:GX n L ops i=some ⟨d,.load t x,ty,p,af,g⟩:=by exact rfl) (ag:ev L x=some (.pointer (some ⟨bk,o,none⟩)):=by exact rfl)
  (al:S[j]? =some [(bk,.cells c e f)]:=by exact rfl) (am:K=vs.length:=by exact rfl) (ap:Az (l0++bks) bk=true:=by simp [Az]) (aq:Jq ops listed xl false i=true:=by decide+kernel):Fs J Q b n ds ops k cs (Az xl) (Az (l0++bks)) (Az l0) (fuel+1) listed L (Ak E H S):=
 Ec i false V ac (λρ h s' av=>Gg (vs:=vs) U (by rw [← am];exact Y) (h _ _ ag) (λq w aw=>by rw [Dm rfl];exact B5 j O al ap (av rfl) (hw q w aw))) Z aq
theorem EL{l0 bks:List Nat}{bk off K:Nat}{c:Av_}(i j:Nat)(O:Ap E H S)(U:Bl P t=some K)(Y:Mx S j l0)(hle:off+K<=c.size)
  (h:Ap E H (S.set j [(bk,.cells (A6 c off v.cells.toList) e (0,0))])->Fs J Q b n ds ops k cs (Az xl) (Az (l0++bks)) (Az l0) fuel (A2 listed i) (As L d undef) (Ak E H (S.set j [(bk,.cells (A6 c off v.cells.toList) e (0,0))])))
  (Z:GX n L ops i=some ⟨d,.store t x y,ty,p,af,g⟩:=by exact rfl) (ac:ev L x=some (.pointer (some ⟨bk,off,none⟩)):=by exact rfl) (ag:ev L y=some v:=by exact rfl) (al:S[j]? =some [(bk,.cells c e (0,0))]:=by exact rfl)
  (am:K=v.cells.size:=by exact rfl) (ap:v.cells.toList.all C9=true:=by first | exact rfl | simp [Value.cells,C9]) (aq:Region.ready .any ops listed= [i]:=by decide+kernel) (av:Az xl i=true:=by decide+kernel):
  Fs J Q b n ds ops k cs (Az xl) (Az (l0++bks)) (Az l0) (fuel+1) listed L (Ak E H S):=by
 obtain⟨aw,ay,az⟩:=O6 Z;subst am;exact JB.store i j aq av aw ay az O ac ag U (List.all_eq_true.1 ap) al Y hle h
end
abbrev s8(s:Nat):Value:= .int .u8 (s:Int)
def Oc(a:Nat)(n:Int):Option Nat:=if 0<=n/\n<=8 then some (a>>>n.toNat) else none
def Lt(a b:Nat):Option Nat:=if a<256/\b<256 then some (a ||| b) else none
def N9(a b:Nat):Option Nat:=if a<256/\b<256 then some (a&&& b) else none
variable {a c:Nat}
section
variable {x y:Operand}{b r:Nat}{m:Int}
theorem Ui{m:Nat}(h:m<256):IntKind.u8.wrap (m:Int)=m:=by
 simp only [IntKind.wrap,IntKind.bits,IntKind.signed];simp;omega
theorem Ou{m:Nat}(h:m<256):(BitVec.ofInt IntKind.u8.bits (m:Int)).toNat=m:=by
 simp [IntKind.bits,BitVec.toNat_ofInt];omega
theorem bE{k:Nat}(a c:Nat)(K:c<=k):((a:Int).fdiv (2 ^ (min c k)))=((a>>>c:Nat):Int):=by
 rw [Nat.min_eq_left K,Nat.shiftRight_eq_div_pow,Int.fdiv_eq_ediv_of_nonneg _ (Int.pow_nonneg (by decide)),Int.natCast_ediv]
 rfl
theorem Sc(K:ρ x=s8 a)(O:ρ y=iV m)(h:Oc a m=some r):Yl P ⟨d,.binOp .shr t x y u,ty,p,af,g⟩ ρ s (s8 r):=by
 unfold Oc at h;split at h
 ·rename_i U;cases h;have h:=Yl.shr (P:=P) (s:=s) (d:=d) (t:=t) (u:=u) (ty:=ty) (p:=p) (af:=af) (g:=g) K O U.1;rw [show IntKind.u8.bits=8 from rfl,bE a m.toNat (by omega)] at h;exact h
 ·cases h
theorem Nm(O:ρ x=s8 a)(U:ρ y=s8 b)(h:Lt a b=some r):Yl P ⟨d,.binOp .or t x y u,ty,p,af,g⟩ ρ s (s8 r):=by
 unfold Lt at h;split at h
 ·rename_i K;cases h;have h:=Yl.or (P:=P) (s:=s) (d:=d) (t:=t) (u:=u) (ty:=ty) (p:=p) (af:=af) (g:=g) O U;rw [BitVec.toNat_or,Ou K.1,Ou K.2,Ui (Nat.or_lt_two_pow (n:=8) K.1 K.2)] at h;exact h
 ·cases h
theorem R8(O:ρ x=s8 a)(U:ρ y=s8 b)(h:N9 a b=some r):Yl P ⟨d,.binOp .and t x y u,ty,p,af,g⟩ ρ s (s8 r):=by
 unfold N9 at h;split at h
 ·rename_i K;cases h;have h:=Yl.and (P:=P) (s:=s) (d:=d) (t:=t) (u:=u) (ty:=ty) (p:=p) (af:=af) (g:=g) O U;rw [BitVec.toNat_and,Ou K.1,Ou K.2,Ui (Nat.lt_of_le_of_lt Nat.and_le_left K.1)] at h;exact h
 ·cases h
end
def PU(a b:Nat):Option Nat:=if a<4294967296/\b<4294967296 then some (a&&& b) else none
def PY(a:Nat)(n:Int):Option Nat:=if 0<=n/\n<=32/\a*2 ^ n.toNat<4294967296 then some (a*2 ^ n.toNat) else none
def KB(n:Int):Option Nat:=if 0<=n/\n<=8 then some ((1<<<n.toNat) % 256) else none
section
variable {e:TypeId}{x y:Operand}{b r:Nat}{m:Int}
theorem wrap32{m:Nat}(h:m<4294967296):IntKind.u32.wrap (m:Int)=m:=by
 simp only [IntKind.wrap,IntKind.bits,IntKind.signed];simp;omega
theorem Uz{m:Nat}(h:m<4294967296):(BitVec.ofInt IntKind.u32.bits (m:Int)).toNat=m:=by
 simp [IntKind.bits,BitVec.toNat_ofInt];omega
theorem V9(O:ρ x= .int .u32 (a:Int))(U:ρ y= .int .u32 (b:Int))(h:PU a b=some r):Yl P ⟨d,.binOp .and t x y u,ty,p,af,g⟩ ρ s (.int .u32 (r:Int)):=by
 unfold PU at h;split at h
 ·rename_i K;cases h;have h:=Yl.and (P:=P) (s:=s) (d:=d) (t:=t) (u:=u) (ty:=ty) (p:=p) (af:=af) (g:=g) O U;rw [BitVec.toNat_and,Uz K.1,Uz K.2,wrap32 (Nat.lt_of_le_of_lt Nat.and_le_left K.1)] at h;exact h
 ·cases h
theorem VZ(O:ρ x= .int .u32 (a:Int))(U:ρ y=iV m)(h:PY a m=some r):Yl P ⟨d,.binOp .shl t x y u,ty,p,af,g⟩ ρ s (.int .u32 (r:Int)):=by
 unfold PY at h;split at h
 ·rename_i K;cases h;have h:=Yl.shl (P:=P) (s:=s) (d:=d) (t:=t) (u:=u) (ty:=ty) (p:=p) (af:=af) (g:=g) O U K.1;have e:IntKind.u32.wrap ((a:Int)*2 ^ (min m.toNat IntKind.u32.bits))=((a*2 ^ m.toNat:Nat):Int):=by
   have Y:min m.toNat IntKind.u32.bits=m.toNat:=by simp [IntKind.bits];omega
   rw [Y,← wrap32 K.2.2];simp
  rw [e] at h;exact h
 ·cases h
theorem LY(K:ρ x=s8 1)(O:ρ y=iV m)(h:KB m=some r):Yl P ⟨d,.binOp .shl t x y u,ty,p,af,g⟩ ρ s (s8 r):=by
 unfold KB at h;split at h
 ·rename_i U;cases h;have h:=Yl.shl (P:=P) (s:=s) (d:=d) (t:=t) (u:=u) (ty:=ty) (p:=p) (af:=af) (g:=g) K O U.1;have e:IntKind.u8.wrap (((1:Nat):Int)*2 ^ (min m.toNat IntKind.u8.bits))=(((1<<<m.toNat) % 256:Nat):Int):=
   (by decide:∀k:Fin 9,IntKind.u8.wrap (((1:Nat):Int)*2 ^ (min k.1 IntKind.u8.bits))=(((1<<<k.1) % 256:Nat):Int)) ⟨m.toNat,by omega⟩
  rw [e] at h;exact h
 ·cases h
theorem XI(K:ρ x=s8 a)(O:ρ y=s8 b)(hb:b<=256):Yl P ⟨d,.binOp .sub t x y u,ty,p,af,g⟩ ρ s (s8 ((a+(256 - b)) % 256)):=by
 have h:=Yl.sub (P:=P) (s:=s) (d:=d) (t:=t) (u:=u) (ty:=ty) (p:=p) (af:=af) (g:=g) K O;have e:IntKind.u8.wrap ((a:Int) - (b:Int))=(((a+(256 - b)) % 256:Nat):Int):=by
  simp only [IntKind.wrap,IntKind.bits,IntKind.signed];simp;omega
 rw [e] at h;exact h
theorem XU{kd:IntKind}{E:LH}(xs:List Nat):(rA xs.length (rN kd)).r E (xs.map λx=>Value.int kd ((x:Nat):Int)) xs:=by
 refine⟨V,xs.map λx=> [Value.int kd ((x:Nat):Int)],?_,by simp,λi x us K hu=>?_⟩
 ·induction xs with
  | nil=>rfl
  | cons x xs O=>simp [← O]
 ·rw [List.getElem?_map,K] at hu;exact(Option.some.inj hu).symm
theorem Ns{α:Type}{kk:Nat}{pp:Rp α}{E:LH}{us:Lv_}{x:α}(h:pp.r E us x):(rA kk pp).r E (List.replicate kk us).flatten (List.replicate kk x):=
 ⟨by simp,List.replicate kk us,V,by simp,λi y ws K hw=>by
  rw [List.getElem?_replicate] at K hw
  split at K
  ·rename_i O
   rw [if_pos O] at hw
   cases K;cases hw
   exact h
  ·cases K⟩
theorem XR{k K:Nat}{z v:Value}(O:P.underlying t=some (.array k e))(U:zeroOf P t=some z)(Y:Bl P e=some K)(Z: .agg z.cells=v):Yl P ⟨d,.build t #[],ty,p,af,g⟩ ρ s v:=by
 refine FV Pf ?_;unfold Instr.build;refine Au (x:=zeroValue t) _ (Hy U ?_);refine Au _ _ (Co O ?_);refine Au (x:=Go.sizeOf e) _ (EU Y ?_);subst Z;simp [Instr.fill,lp,pure]
theorem YC{k K:Nat}{z v:Value}{L:Env}{U:Array (Nat×Operand)}{vs:List (Nat×Value)}(h:EF L ρ)(Z:P.underlying t=some (.array k e))(ac:zeroOf P t=some z)(ag:Bl P e=some K)(al:U.toList.mapM (λq=>(ev L q.2).map λv=>(q.1,v))=some vs)(O:(Instr.fill (λi=>some (i*K,K)) z.cells vs).map Value.agg=some v):Yl P ⟨d,.build t U,ty,p,af,g⟩ ρ s v:=by
 refine FV Pf ?_;unfold Instr.build;refine Au (x:=zeroValue t) _ (Hy ac ?_);refine Au _ _ (Co Z ?_);refine Au (x:=Go.sizeOf e) _ (EU ag ?_);have am:=Pe h al;have ap:(U.map λ(j,x)=>(j,ρ x)).toList=vs:=by rw [← am,Array.toList_map]
 rw [ap];cases Y:Instr.fill (λi=>some (i*K,K)) z.cells vs with
 | none=>rw [Y] at O;cases O
 | some cells=>rw [Y] at O;cases O;exact⟨rfl,rfl⟩
end
section
variable {e:TypeId}
end
section
variable {b:Frame}{fuel:Nat}{listed:Array Bool}
variable {x y:Operand}{e:TypeId}{i:Nat}
end
def G4(b:Frame)(T:Av_)(ds:Ld_)(todo:Li_)(ch:List PanicEntry):Frame:={b with tmps:=T,todo:=todo,defers:=ds,mode:= .panicking ch}
def raised(v:Value):List PanicEntry:= [{v,recovered:=false}]
def taken(v:Value):List PanicEntry:= [{v,recovered:=true}]
section
variable (J:Judge P)(Q:Gs_)
def JP(b:Frame)(n:Nat)(L:Env)(ds:Ld_)(cs:Lf_)(ch:List PanicEntry)(s:St):Prop:=
 ∀T,Has n L T->∀todo,J.ok Q (G (G4 b T ds todo ch) cs) s
end
variable {bc:Frame}{dsc:Ld_}{ch:List PanicEntry}{T Tc:Av_}{todoc:Li_}
section
variable {b:Frame}
variable {i:Nat}{x:Operand}
theorem JL.panic{t:TypeId}(O:ops[i]? =some ⟨d,.panic x,ty,p,af,g⟩)(U:b.roundOf=none)(hw:AL L ops ⟨d,.panic x,ty,p,af,g⟩=some true)(Y:ev L x=some (.iface t v))
  (h:JP J Q b n L ds cs (raised (.iface t v)) s):JL J Q b n L ds (.inRegion ops (i::rest)::k) cs s:=λT K=>
 Judge.Dc V (λw=>by
  have he:execOp (Bx T) ⟨d,.panic x,ty,p,af,g⟩= .halt (.panic (.iface t v)):=by
   simp [execOp,Instr.panic,K.ev Y,goPanic,bind,Sem.bind]
  rw [stepG_op O (B4 K hw)]
  simp [U,stepG.apply,he,Sem.run,Sem.runT,Sem.events,GStep.after,fr,G4,Frame.raise,G,raised,seen_none]) (h T K (.inRegion ops (i::rest)::k))
theorem JP.pop{fn:Func}(K:P.funcs[b.fn]? =some fn)(h:J.ok Q (G (G4 bc Tc dsc todoc ch) cs) s):JP J Q b n L [] (fr bc Tc dsc todoc::cs) ch s:=λT O todo=>
 Judge.Dc V (λw=>by simp [G,stepG,unwind,G4,fr,Frame.raise,Frame.catches,K]) h
theorem JP.PW{f:FuncId}{fn:Func}{c:Code}{vs caps:Lv_}(ap:b.roundOf=none)(O:P.funcs[f]? =some fn)(Y:(fn.name== "runtime.NumGoroutine")=false)(hb:fn.body=some c)(Z:(vs++caps).length<=fn.ntmps)
  (h:∀T,Has n L T->∀todo,JL J Q (baseD f) fn.ntmps (Gj 0 (vs++caps)) [] [.code c] (G4 b T ds todo ch::cs) s):JP J Q b n L (KG f vs.toArray caps.toArray::ds) cs ch s:=λT ac todo=>by
 have ag:¬fn.name= "runtime.NumGoroutine" :=by simpa using Y
 refine Judge.Dc rfl (λw=>?_) (h T ac todo ((vs++caps).toArray++Array.replicate (fn.ntmps - (vs++caps).length) undef) ⟨by simp;simp at Z;omega,λt v al=>?_⟩)
 ·rw [BK (b:=baseD f) rfl];have:=enter_atD (P:=P) (vs++caps).toArray O hb;simp only [List.size_toArray] at this;rw [← this];simp [G,stepG,unwind,callDeferred,G4,KG,invoke,callFunc,O,ag,hb,GStep.after,seen_none]
 ·obtain⟨_,K⟩:=JD al;have am:t<(vs++caps).length:=by
   rcases Nat.lt_or_ge t (vs++caps).length with U | U
   ·exact U
   ·simp only [Nat.sub_zero] at K;have:=(List.getElem?_eq_some_iff.1 K).1;omega
  rw [Array.getD_eq_getD_getElem?,Array.getElem?_append_left (by simpa using am)];simp only [Nat.sub_zero] at K;rw [List.getElem?_toArray,K];rfl
theorem U6{ats:Array TypeId}{K:List PanicEntry}(O:ops[i]? =some ⟨d,.call ⟨.builtin .recover,#[],ats⟩,ty,p,af,g⟩)(U:b.roundOf=none)(Y:b.kind= .deferred)(ag:Bb n d=true)(hw:AL L ops ⟨d,.call ⟨.builtin .recover,#[],ats⟩,ty,p,af,g⟩=some true)
  (h:JL J Q b n (As L d v) ds (.inRegion ops rest::k) (G4 bc Tc dsc todoc ({v,recovered:=true}::K)::cs) s):
  JL J Q b n L ds (.inRegion ops (i::rest)::k) (G4 bc Tc dsc todoc ({v,recovered:=false}::K)::cs) s:=λT Z=>
 Judge.Dc V (λw=>by
  have he:execOp (Bx T) ⟨d,.call ⟨.builtin .recover,#[],ats⟩,ty,p,af,g⟩= .pure .recover:=by
   simp [execOp,resolve,Deferred.ofValue,invoke,bind,Sem.bind,pure,Go.builtin]
  have ac:=Gz (b:=b) (ds:=ds) (k:=k) T ops i rest v _ O
  simp only [fr,U,Y] at ac
  rw [stepG_op O (B4 Z hw)]
  simp [U,Y,stepG.apply,he,Sem.run,Sem.runT,Sem.events,GStep.after,fr,G4,tryRecover,G,seen_none,ac]) (h _ (Z.put ag _))
theorem U8{ats:Array TypeId}(K:ops[i]? =some ⟨d,.call ⟨.builtin .recover,#[],ats⟩,ty,p,af,g⟩)(O:b.roundOf=none)(U:b.kind= .deferred)(ac:Bb n d=true)(hw:AL L ops ⟨d,.call ⟨.builtin .recover,#[],ats⟩,ty,p,af,g⟩=some true)
  (h:JL J Q b n (As L d .nilIface) ds (.inRegion ops rest::k) (Ew bc Tc dsc todoc::cs) s):
  JL J Q b n L ds (.inRegion ops (i::rest)::k) (Ew bc Tc dsc todoc::cs) s:=λT Y=>
 Judge.Dc V (λw=>by
  have he:execOp (Bx T) ⟨d,.call ⟨.builtin .recover,#[],ats⟩,ty,p,af,g⟩= .pure .recover:=by
   simp [execOp,resolve,Deferred.ofValue,invoke,bind,Sem.bind,pure,Go.builtin]
  have Z:=Gz (b:=b) (ds:=ds) (k:=k) T ops i rest .nilIface _ K
  simp only [fr,O,U] at Z
  rw [stepG_op K (B4 Y hw)]
  simp [O,U,stepG.apply,he,Sem.run,Sem.runT,Sem.events,GStep.after,fr,Ew,tryRecover,G,seen_none,Z]) (h _ (Y.put ac _))
theorem JO.Zr{fn:Func}(O:b.kind= .deferred)(U:P.funcs[b.fn]? =some fn)(K:fn.results= #[])(h:J.ok Q (G (Ew bc Tc dsc todoc) cs) s):JO J Q b n L [] (G4 bc Tc dsc todoc (taken v)::cs) s:=λT Z todo=>by
 refine Judge.Dc rfl (λw=>?_) h
 have Y:=results_none K T P w
 have e2:=λ(x:Array Event)=>events_results_none (P:=P) (w:=w) K T x
 simp [G,stepG,unwind,Ew,G4,U,Y,e2,doReturn,O,GStep.after,seen_none,taken]
end
open Go.Proofs
abbrev Dq:=Int×Int×Int
abbrev Aw:=List Dq
abbrev AX:=List Aw
abbrev Be:=List (List Int)
abbrev A4:=Be×Aw
abbrev AA:=rP rI Ep
open Go.Proofs.Tryz
def AG:=AU Tryz.type3
def Bg:=AU Tryz.type27
def FU:=AU Tryz.type101
def I7:=AU Tryz.type105
def MS:=AU Tryz.type227
def A7:=C5 Tryz.underlying3
def LC:=Ba Tryz.func91 rfl
def FH:=AU Tryz.type22
def FT:=C5 Tryz.underlying22
def DR:=AU Tryz.type23
def EZ:=C5 Tryz.underlying23
def Ef:=C5 Tryz.underlying27
def BO:=Ds Tryz.type27
def FG:=AU Tryz.type28
def Jx:=C5 Tryz.underlying28
def KO:=Ds Tryz.type105
def Ck:=AU Tryz.type25
def II:=C5 Tryz.underlying105
def I6:=Ds Tryz.type101
def H5:=Ds Tryz.type77
def Ee:=C5 Tryz.underlying25
def Eg:=AU Tryz.type77
def Gd:=C5 Tryz.underlying77
def CI:=Ds Tryz.type3
def KR:=Ba Tryz.func70 rfl
def OE:=Ba Tryz.func84 rfl
def H3:=Ba Tryz.func74 rfl
def LG:=AU Tryz.type4
def Oz:=C5 Tryz.underlying4
def Bi:=AU Tryz.type80
def BC:=C5 Tryz.underlying80
def Hx:=AU Tryz.type197
def Hw:=Ba Tryz.func85 rfl
def KS:=Ds Tryz.type28
def LF:=Ds Tryz.type4
def MN:=Ba Tryz.func115 rfl
def KP:=Ds Tryz.type209
def H2:=Ba Tryz.func204 rfl
def OP:=Ds Tryz.type80
def MK:=C5 Tryz.underlying167
def Oy:=C5 Tryz.underlying83
def OK:=Ba Tryz.func71 rfl
def OA:=Ba Tryz.func205 rfl
def OD:=Ba Tryz.func179 rfl
def OC:=Ba Tryz.func137 rfl
def MM:=Ba Tryz.func114 rfl
def Ke:=C5 Tryz.underlying197
def OM:=Ds Tryz.type227
def MJ:=C5 Tryz.underlying227
def Jy:=AU Tryz.type156
def MO:=Ds Tryz.type156
def MI:=C5 Tryz.underlying156
def G8:=C5 Tryz.underlying21
def MT:=AU Tryz.type85
def H4:=Ds Tryz.type25
def MQ:=Ba Tryz.func67 rfl
def OB:=Ba Tryz.func110 rfl
def MP:=Ba Tryz.func63 rfl
def OF:=Ba Tryz.func43 rfl
def ON:=Ba Tryz.func33 rfl
def OI:=Ba Tryz.func22 rfl
def OO:=Ba Tryz.func24 rfl
def LD:=Ba Tryz.func29 rfl
def OJ:=Ba Tryz.func26 rfl
def Jz:=AU Tryz.type72
def ML:=C5 Tryz.underlying72
def KQ:=Ba Tryz.func36 rfl
def OH:=Ba Tryz.func37 rfl
def OG:=Ba Tryz.func18 rfl
theorem mixed:Tryz.prog.follows .mixedOrders=true:=rfl
theorem aX:B6 Tryz.prog 27 (rP rI (rP rI rI)) true 2:=B6.three underlying27 (B6.int underlying3 AG) (B6.int underlying3 AG) (B6.int underlying3 AG) (by decide+kernel) (by decide) (by decide) (by decide) V V V Bg
theorem Y5:B6 Tryz.prog 101 (rP rI rI) true 2:=B6.two underlying101 (B6.int underlying3 AG) (B6.int underlying3 AG) (by decide+kernel) (by decide) (by decide) V V FU
theorem ZB:B6 Tryz.prog 105 (rA 5 rI) true 2:=B6.arr (kk:=5) (B6.int underlying3 AG) underlying105 I7
theorem ZO:B6 Tryz.prog 225 (rA 10 rI) true 2:=B6.arr (kk:=10) (B6.int underlying3 AG) underlying225 (AU type225)
theorem TY:B6 Tryz.prog 227 (rA 5 (rA 10 rI)) true 3:=B6.arr (kk:=5) ZO underlying227 MS
theorem aE:B6 Tryz.prog 249 (rP (rN .u8) (rA 5 (rA 10 rI))) true 4:=B6.two underlying249 ((B6.nat underlying5 (AU type5)).up (by decide)) TY (by decide+kernel) (by decide) (by decide) V V (AU type249)
theorem I0:GG Tryz.prog 3 rI false:=(B6.int underlying3 AG).key (by decide)
theorem P7:GG Tryz.prog 101 (rP rI rI) true:=Y5.key (by decide)
theorem Ue:GG Tryz.prog 227 (rA 5 (rA 10 rI)) true:=TY.key (by decide)
theorem T8:GG Tryz.prog 249 (rP (rN .u8) (rA 5 (rA 10 rI))) true:=aE.key (by decide)
variable {J:Judge Tryz.prog}
def f91(fu_:Nat)(p0:Int)(p1:Int)(p2:Int):Option Bool:= Option.bind (if p1<=p0 then(some (decide (p0<=p2))) else(some false)) λK=> some K
theorem Mo{p0:Int}{p1:Int}{p2:Int}{fu_:Nat}{r:Bool}(K:f91 fu_ p0 p1 p2=some r):AQ J 91 [iV p0,iV p1,iV p2] E [] (λw E' B'=>w= .bool r/\B'= []):=by
 refine Bn func91 λQ aw cs H O Y=>?_;unfold f91 at K;obtain⟨Z,ac,ag⟩:=bs K;refine C 10 V (DY 8 1 [] [(14,.bool Z)] (λay al am=>?_) (λU=>?_))
 ·refine C 2 V ?_;obtain rfl:=oi ag;exact AZ func91 V V (Y al V ⟨V,V⟩ am)
 ·refine HN 10 ac (λap aq=>?_) (λap av=>?_)
  ·refine C 4 V ?_;obtain rfl:=oi aq;exact U Ay O V
  ·refine C 4 V ?_;obtain rfl:=oi av;exact U Ay O V
def f86(fu_:Nat)(p0:Int×Int×Int)(p1:Int)(p2:Int):Option Int:= (Ax (p1 - 1)).bind λK=> (f91 fu_ p0.1 0 K).bind λO=> Option.bind (if(!O)=true then(some true) else((Ax (p1 - 1)).bind λU=> (f91 fu_ p0.2.1 0 U).bind λY=> some (!Y))) λZ=> if Z=true then(some 3) else(if p0.1=p0.2.1 then(some 8) else((f91 fu_ p0.2.2 1 p2).bind λac=> if(!ac)=true then(some 1) else(some 0)))
theorem b8{p0:Int×Int×Int}{p1:Int}{p2:Int}{fu_:Nat}{r:Int}(ag:f86 fu_ p0 p1 p2=some r):AQ J 86 [.agg #[iV p0.1,iV p0.2.1,iV p0.2.2],iV p1,iV p2] E [] (λw E' B'=>w=iV r/\B'= []):=by
 refine Bn func86 λQ ce cs H av Y=>?_;unfold f86 at ag;refine C 2 V (Dv av λr2 ci Z U aw=>?_);refine C 6 V (Cm 0 U underlying27 AG A7 ?_);obtain⟨co,ay,az⟩:=bs ag;refine C 1 V (Cp ay V V V ?_);obtain⟨a0,a1,a2⟩:=bs az;refine CF (Mo a1) V V LC aw λcp K al=>Am (v:= .bool (!a0)) V (λρ h=>Yl.not (h _ _ V)) ?_;obtain⟨a3,a4,a5⟩:=bs a2;refine C 1 V (DY 14 1 [] [(2,iV p2),(3,Aj r2 0),(21,.bool a3)] (λct O ac=>?_) (λam=>?_))
 ·refine C 2 V (CE a5 (λa6 a7=>?_) (λa6 a8=>?_))
  ·refine C 4 V ?_;obtain rfl:=oi a7;exact AZ func86 V V (Y ((Z.Ad K).Ad O) V ⟨V,V⟩ ac)
  ·refine C 2 V (Cm 0 (U.Ah (K.Ad O)) underlying27 AG A7 ?_);refine Cm 1 (U.Ah (K.Ad O)) underlying27 AG A7 ?_;refine C 3 V (AW a8 (λa9 bb=>?_) (λa9 be=>?_))
   ·refine C 4 V ?_;obtain rfl:=oi bb;exact AZ func86 V V (Y ((Z.Ad K).Ad O) V ⟨V,V⟩ ac)
   ·refine C 2 V (Cm 2 (U.Ah (K.Ad O)) underlying27 AG A7 ?_);obtain⟨bi,bn,bo⟩:=bs be;refine C 1 V (CF (Mo bn) V V LC ac λcw ap aq=>?_);refine Am (v:= .bool (!bi)) V (λρ h=>Yl.not (h _ _ V)) (C 2 V ?_);refine CE bo (λbv bw=>?_) (λbv bx=>?_)
    ·refine C 4 V ?_;obtain rfl:=oi bw;exact AZ func86 V V (Y (((Z.Ad K).Ad O).Ad ap) V ⟨V,V⟩ aq)
    ·refine C 6 V ?_;obtain rfl:=oi bx;exact AZ func86 V V (Y (((Z.Ad K).Ad O).Ad ap) V ⟨V,V⟩ aq)
 ·refine DZ 14 a4 (λbz b0=>?_) (λbz b1=>?_)
  ·refine C 7 V ?_;obtain rfl:=oi b0;exact am Ay al V
  ·refine Cm 1 (U.Ah K) underlying27 AG A7 ?_;obtain⟨cy,b2,b3⟩:=bs b1;refine C 1 V (Cp b2 V V V ?_);obtain⟨b4,b5,b6⟩:=bs b3;refine CF (Mo b5) V V LC al λcG ca cc=>Am (v:= .bool (!b4)) V (λρ h=>Yl.not (h _ _ V)) (C 1 V ?_);obtain rfl:=oi b6;exact am ca cc V
def N1(fu_:Nat)(O:List Int)(K:Int):Option (Bm Int ((Int)⊕(Unit))):= if K<(O.length:Int) then((ix O K).bind λU=> (f91 fu_ U 1 9).bind λY=> if(!Y)=true then(some (.done (Sum.inl 1))) else((Ax (K+1)).bind λZ=> some (.more Z))) else(some (.done (Sum.inr ())))
def NI(fu_:Nat)(p0:A4)(K:Int):Option (Bm Int ((Int)⊕(Unit))):= if K<(p0.1.length:Int) then((ix p0.1 K).bind λO=> if 3<(O.length:Int) then(some (.done (Sum.inl 6))) else(Option.bind (iter (N1 fu_ O) fu_ 0) λU=> Sum.elim (λr=>some (.done (Sum.inl r))) (λZ=> (Ax (K+1)).bind λY=> some (.more Y)) U)) else(some (.done (Sum.inr ())))
def T0(fu_:Nat)(p0:A4)(K:Int):Option (Bm Int ((Int)⊕(Unit))):= if K<(p0.2.length:Int) then((ix p0.2 K).bind λU=> (f86 fu_ U (p0.1.length:Int) 9).bind λO=> if O≠0 then(some (.done (Sum.inl O))) else((Ax (K+1)).bind λY=> some (.more Y))) else(some (.done (Sum.inr ())))
def f47(fu_:Nat)(p0:A4):Option Int:= if(p0.1.length:Int)<2 then(some 7) else(if 5<(p0.1.length:Int) then(some 6) else(Option.bind (iter (NI fu_ p0) fu_ 0) λK=> Sum.elim (λr=>some r) (λU=> if 8<(p0.2.length:Int) then(some 6) else(Option.bind (iter (T0 fu_ p0) fu_ 0) λO=> Sum.elim (λr=>some r) (λY=> some 0) O)) K))
theorem cg{a1:Ao}{c2:Nat}{aw:Ao}{ay:Nat}{p0:A4}(cw:Al (rL rI) E a1 c2 p0.1)(cy:Al AA E aw ay p0.2){fu_:Nat}{r:Int}(a8:f47 fu_ p0=some r):AQ J 47 [.agg #[sV a1 p0.1 c2,sV aw p0.2 ay]] E [] (λw E' B'=>w=iV r/\B'= []):=by
 refine Bn func47 λQ el cs H cG O=>?_;unfold f47 at a8;refine C 2 V (Dv cG λY cH K Z az=>?_);refine C 5 V (Cm 0 Z underlying25 FH FT ?_);refine JL.ln underlying22 V V V (C 9 V ?_);refine AW a8 (λcI cJ=>?_) (λcI cK=>?_)
 ·refine C 4 V ?_;obtain rfl:=oi cJ;exact AZ func47 V V (O K V ⟨V,V⟩ az)
 ·refine C 6 V (AW cK (λcM cN=>?_) (λcM cO=>?_))
  ·refine C 4 V ?_;obtain rfl:=oi cN;exact AZ func47 V V (O K V ⟨V,V⟩ az)
  ·refine C 5 V (Cm 0 Z underlying25 FH FT ?_);refine JL.ln underlying22 V V V ?_;obtain⟨a9,cP,a0⟩:=bs cO;refine C 2 V (Bt (λL s=>∃(bb:Unit) (a2:LH),a9=Sum.inr bb/\Jm cH H a2 [] [(1,Aj Y 0)] L s) ?_ ?_)
   ·rintro _ _ ⟨bb,a2,rfl,rfl,rfl,U,be⟩;have cQ:=elim_inr a0;refine C 3 V (Cm 1 (Z.Ah U) underlying25 DR EZ ?_);refine JL.ln underlying23 V V V (C 2 V ?_);refine AW cQ (λcR cT=>?_) (λcR cV=>?_)
    ·refine C 4 V ?_;obtain rfl:=oi cT;exact AZ func47 V V (O (K.Ad U) V ⟨V,V⟩ be)
    ·refine C 4 V (Cm 1 (Z.Ah U) underlying25 DR EZ ?_);refine JL.ln underlying23 V V V ?_;obtain⟨bi,cW,bn⟩:=bs cV;refine C 2 V (Bt (λL s=>∃(bo:Unit) (bv:LH),bi=Sum.inr bo/\Jm a2 H bv [] [] L s) ?_ ?_)
     ·rintro _ _ ⟨bo,bv,rfl,rfl,rfl,cX,cY⟩;have cZ:=elim_inr bn;refine C 4 V ?_;obtain rfl:=oi cZ;exact AZ func47 V V (O ((K.Ad U).Ad cX) V ⟨V,V⟩ cY)
     ·intro c0;refine JL.block (DX cW (λa3=> []) (λa3=> [(1,Aj Y 0),(46,sV aw p0.2 ay),(47,iV (p0.2.length:Int)),(48,iV a3)]) Ay be ?_);rintro a3 c1 ac bw bx ⟨em,ap⟩ c3;have bz:=ap;unfold T0 at bz;refine C 5 V (AW bz (λc4 c5=>?_) (λc4 c6=>?_))
      ·obtain⟨en,c7,c8⟩:=bs c5;refine C 5 V (JS.ix (cy.Ah ((K.Ad U).Ad ac)) c7 underlying23 Bg ?_);rintro eo ep _ ⟨_,_,rfl,rfl,⟨_,_,rfl,rfl,rfl⟩⟩ c9;refine Cx c9 Ef Bg V V (BV bw BO λer da=>?_);refine BJ 0 da Bg λdb=>?_;refine Eh 0 db V λet a4 dc dd=>C 3 V (Cx dc Ef Bg V V ?_);refine Cm 0 (Z.Ah ((U.Ad ac).Ad a4)) underlying25 FH FT ?_;refine JL.ln underlying22 V V V ?_;obtain⟨eu,de,df⟩:=bs c8;refine CF (b8 de) V V (Ba func86 V) dd λew b0 b1=>C 7 V (AW df (λdg dh=>?_) (λdg di=>?_))
       ·refine C 5 V ?_;obtain rfl:=oi dh;obtain rfl:=bx _ ap;have dj:=elim_inl bn;obtain rfl:=oi dj;exact AZ func47 V V (O ((((K.Ad U).Ad ac).Ad a4).Ad b0) V ⟨V,V⟩ b1)
       ·obtain⟨dk,dn,dp⟩:=bs di;refine C 3 V (Br dn V V V ?_);refine C 2 V ?_;obtain rfl:=oi dp;exact c3 dk ((ac.Ad a4).Ad b0) b1 V ap
      ·refine JL.exit V ?_;obtain rfl:=oi c6;have dq:bi=(Sum.inr ()):=(bx _ ap).symm;exact AF (c0 _ _ ⟨(),c1,dq,V,V,ac,bw⟩) V
   ·intro dr;refine JL.block (DX cP (λag=> []) (λag=> [(1,Aj Y 0),(21,sV a1 p0.1 c2),(22,iV (p0.1.length:Int)),(23,iV ag)]) Ay az ?_);rintro ag b2 al a5 a6 ⟨ex,am⟩ dt;have b3:=am;unfold NI at b3;refine C 5 V (AW b3 (λdu dv=>?_) (λdu dw=>?_))
    ·obtain⟨b4,dx,dy⟩:=bs dv;refine C 5 V (JS.ix (cw.Ah (K.Ad al)) dx underlying22 FG ?_);rintro ey ez _ ⟨dz,dA,rfl,dB⟩ dC;refine C8 0 dC Jx V V V (C 6 V ?_);refine JL.ln underlying28 V V V (C 2 V ?_);refine AW dy (λdD dE=>?_) (λdD dF=>?_)
     ·refine C 4 V ?_;obtain rfl:=oi dE;obtain rfl:=a6 _ am;have dG:=elim_inl a0;obtain rfl:=oi dG;exact AZ func47 V V (O (K.Ad al) V ⟨V,V⟩ a5)
     ·refine C 4 V (JL.ln underlying28 V V V ?_);obtain⟨b5,dH,b6⟩:=bs dF;refine C 2 V (Bt (λL s=>∃(ca:Unit) (cc:LH),b5=Sum.inr ca/\Jm b2 H cc [] [(1,Aj Y 0),(21,sV a1 p0.1 c2),(22,iV (p0.1.length:Int)),(23,iV ag)] L s) ?_ ?_)
      ·rintro _ _ ⟨ca,cc,rfl,rfl,rfl,dI,dJ⟩;have dK:=elim_inr b6;obtain⟨dL,dM,dN⟩:=bs dK;refine C 2 V (Br dM V V V ?_);refine C 2 V ?_;obtain rfl:=oi dN;exact dt dL (al.Ad dI) dJ V am
      ·intro dO;refine JL.block (DX dH (λa7=> []) (λa7=> [(1,Aj Y 0),(21,sV a1 p0.1 c2),(22,iV (p0.1.length:Int)),(23,iV ag),(30,sV dz b4 dA),(31,iV (b4.length:Int)),(32,iV a7)]) Ay a5 ?_);rintro a7 dQ aq ce ci ⟨eA,av⟩ dR;have co:=av;unfold N1 at co;refine C 5 V (AW co (λdS dT=>?_) (λdS dU=>?_))
       ·obtain⟨eB,dV,dW⟩:=bs dT;refine C 5 V (JS.ix (dB.Ah aq) dV underlying28 AG ?_);rintro eC eD _ rfl dX;refine C8 0 dX A7 V V V ?_;obtain⟨dY,dZ,ea⟩:=bs dW;refine C 5 V (CF (Mo dZ) V V LC ce λeE cp ct=>?_);refine Am (v:= .bool (!dY)) V (λρ h=>Yl.not (h _ _ V)) (JL.done ?_);refine CE ea (λeb ec=>?_) (λeb ed=>?_)
        ·refine C 4 V ?_;obtain rfl:=oi ec;obtain rfl:=ci _ av;have ee:=elim_inl b6;obtain rfl:=oi ee;obtain rfl:=a6 _ am;have ef:=elim_inl a0;obtain rfl:=oi ef;exact AZ func47 V V (O (((K.Ad al).Ad aq).Ad cp) V ⟨V,V⟩ ct)
        ·obtain⟨eg,eh,ei⟩:=bs ed;refine C 3 V (Br eh V V V ?_);refine C 2 V ?_;obtain rfl:=oi ei;exact dR eg (aq.Ad cp) ct V av
       ·refine JL.exit V ?_;obtain rfl:=oi dU;have ej:b5=(Sum.inr ()):=(ci _ av).symm;exact AF (dO _ _ ⟨(),dQ,ej,V,V,aq,ce⟩) V
    ·refine JL.exit V ?_;obtain rfl:=oi dw;have ek:a9=(Sum.inr ()):=(a6 _ am).symm;exact AF (dr _ _ ⟨(),b2,ek,V,V,al,a5⟩) V
def NQ(fu_:Nat)(p0:A4)(O:(List Int)×Int):Option (Bm ((List Int)×Int) ((List Int))):= if O.2<(p0.2.length:Int) then((ix p0.2 O.2).bind λK=> (ix O.1 K.2.1).bind λY=> (Ax (Y+K.2.2)).bind λU=> (ix O.1 K.2.1).bind λal=> (ix (O.1.set (Int.toNat K.2.1) U) K.1).bind λZ=> (Ax (Z - K.2.2)).bind λac=> (ix (O.1.set (Int.toNat K.2.1) U) K.1).bind λam=> (Ax (O.2+1)).bind λag=> some (.more (((O.1.set (Int.toNat K.2.1) U).set (Int.toNat K.1) ac),ag))) else(some (.done O.1))
def f84(fu_:Nat)(p0:A4):Option ((List Int)):= Option.bind (iter (NQ fu_ p0) fu_ ((List.replicate 5 (0:Int)),0)) λK=> some K
theorem Qu{a1:Ao}{c2:Nat}{a8:Ao}{a9:Nat}{p0:A4}(di:Al (rL rI) E a1 c2 p0.1)(ce:Al AA E a8 a9 p0.2){fu_:Nat}{r:(List Int)}(bw:f84 fu_ p0=some r):AQ J 84 [.agg #[sV a1 p0.1 c2,sV a8 p0.2 a9]] E [] (λw E' B'=>∃(bx:Lv_),w= .agg bx.toArray/\B'= []/\(rA 5 rI).r E' bx r):=by
 refine Bn func84 λQ dj cs H ci co=>?_;unfold f84 at bw;refine C 2 V (Dv ci λdk a2 bz cp ct=>?_);refine BV ct KO λa3 cw=>?_;refine C 3 V (BV cw KO λU cy=>?_);refine C 4 V (JL.fd underlying77 Ck V V V ?_);refine Cm 1 cp underlying25 DR EZ ?_;refine JL.ln underlying23 V V V ?_;obtain⟨cG,cH,cI⟩:=bs bw;refine C 2 V (Bt (λL s=>∃(aw:LH) (Y:Lv_),Jn a2 H aw [bX a3 (([]:Lv_)++(List.replicate 5 (iV 0):Lv_)).toArray 105,bX U (([]:Lv_)++Y).toArray 105] [(2,Aj a3 0),(3,Aj U 0)] L s ((rA 5 rI).r aw Y cG)) ?_ ?_)
 ·rintro _ _ ⟨aw,Y,rfl,rfl,cJ,b0,ac⟩;refine C 2 V (Am (v:= .agg Y.toArray) V (λρ h=>Ic (kk:=5) (pp:=rI) ac II I7 (h _ _ V) (GN (l:= []) 1 b0 V)) ?_);refine Hz (v:= .agg Y.toArray) (l:= []) (ws:=(List.replicate 5 (iV 0):Lv_)) (us:=Y) (o:=0) 0 V V V b0 V V V (by rw [Cf (kk:=5) (pp:=rI) ac];exact AU type105) ((rA 5 rI).one ac) V (by rw [Cf (kk:=5) (pp:=rI) ac,Cf (kk:=5) (pp:=rI) (GV (E:=aw) (pp:=rI) rfl)];omega) λb1=>?_;rw [JH (by rw [Cf (kk:=5) (pp:=rI) ac,Cf (kk:=5) (pp:=rI) (GV (E:=aw) (pp:=rI) rfl)])] at b1 ⊢;refine JL.done (JS.drop 1 b1 V λb2=>?_);obtain rfl:=oi cI;refine JL.ret (v:= .agg Y.toArray) V V (Bz.list func84 V (vs:= [.agg Y.toArray]) ⟨⟨_,V,Ld.many (vs:=Y) II (by rw [Cf (kk:=5) (pp:=rI) ac];exact AU type105) (GN (l:= []) 0 b2 V)⟩,trivial⟩) (Eu 0 b2 V λcK=>?_);exact co (bz.Ad cJ) V ⟨Y,V,V,ac⟩ cK
 ·intro cM;refine JL.block (CB cH (λL s al=>∃(a4:LH) (am:Lv_),Jn a2 H a4 [bX a3 (([]:Lv_)++(List.replicate 5 (iV 0):Lv_)).toArray 105,bX U (([]:Lv_)++am).toArray 105] [(2,Aj a3 0),(3,Aj U 0),(8,sV a8 p0.2 a9),(9,iV (p0.2.length:Int)),(10,iV al.2)] L s ((rA 5 rI).r a4 am al.1)) ⟨a2,(List.replicate 5 (iV 0):Lv_),V,V,Ay,cy,(GV (E:=a2) (pp:=rI) V)⟩ ?_);rintro _ _ al ⟨a4,am,rfl,rfl,bb,b3,ap⟩ cN ⟨dn,be⟩ cO;have b4:=be;unfold NQ at b4;refine C 5 V (AW b4 (λcP cQ=>?_) (λcP cR=>?_))
  ·obtain⟨K,cT,cV⟩:=bs cQ;refine C 5 V (JS.ix (ce.Ah (bz.Ad bb)) cT underlying23 Bg ?_);rintro dp dq _ ⟨_,_,rfl,rfl,⟨_,_,rfl,rfl,rfl⟩⟩ cW;refine Cx cW Ef Bg V V (BV b3 BO λdr cX=>?_);refine BJ 2 cX Bg λcY=>?_;refine Eh 2 cY V λbi aq a5 ay=>C 2 V (Fb 6 [U] ⟨⟨1,_,V⟩,trivial⟩ ay λO=>?_);refine JG.fd 0 O underlying27 AG V V V V (JG.lp 1 O 1 a5 ay ⟨⟨1,_,V⟩,trivial⟩ A7 ?_);obtain⟨cZ,b5,c0⟩:=bs cV;obtain⟨_,rfl,_,_,c1⟩:=HB (kk:=5) (pp:=rI) (Rp.Ah _ aq ap) b5;refine AO (v:= .pointer (some ⟨U,0+Int.toNat (K.2.1)*1,none⟩)) 2 O V V (λρ h s' az=>Jf (kk:=5) (pp:=rI) (Rp.Ah _ aq ap) b5 underlying105 AG (h _ _ V) (h _ _ V)) (AO (v:=iV cZ) 3 O V V (λρ h s' az=>Yl.load A7 (h _ _ V) (M7 (l:= []) 1 ay V (by simp [Az]) az (c1 0 _ V))) ?_);refine JG.fd 4 O underlying27 AG V V V V (JG.lp 5 O 2 a5 ay ⟨⟨1,_,V⟩,trivial⟩ A7 ?_);refine Dp [6,7,8] ?_;obtain⟨Z,c3,c4⟩:=bs c0;refine Br c3 V V V ?_;obtain⟨dt,bn,c5⟩:=bs c4;obtain⟨_,rfl,_,_,du⟩:=HB (kk:=5) (pp:=rI) (Rp.Ah _ aq ap) bn;refine Am (v:= .pointer (some ⟨U,0+Int.toNat (K.2.1)*1,none⟩)) V (λρ h=>Jf (kk:=5) (pp:=rI) (Rp.Ah _ aq ap) bn underlying105 AG (h _ _ V) (h _ _ V)) ?_;have a6:=NO (us:= [iV Z]) (y:=Z) (Rp.Ah _ aq ap) bn V;refine Hz (v:=iV Z) (l:= []) (ws:=am) (us:= [iV Z]) (o:=Int.toNat (K.2.1)*1) 1 V V V ay V V V AG (by simp [Value.cells,C9]) V a6.2 λav=>?_;replace a6:=a6.1;generalize c6:It am (Int.toNat (K.2.1)*1) [iV Z]=bo at av ⊢;have a0:(rA 5 rI).r bi bo (al.1.set (Int.toNat K.2.1) Z):=by rw [← c6];exact a6
   refine JL.done (Fb 6 [U] ⟨⟨1,_,V⟩,trivial⟩ av λO=>?_);refine JG.fd 0 O underlying27 AG V V V V (JG.lp 1 O 0 a5 av ⟨⟨1,_,V⟩,trivial⟩ A7 ?_);obtain⟨c7,b6,c8⟩:=bs c5;obtain⟨_,rfl,_,_,c9⟩:=HB (kk:=5) (pp:=rI) a0 b6;refine AO (v:= .pointer (some ⟨U,0+Int.toNat (K.1)*1,none⟩)) 2 O V V (λρ h s' az=>Jf (kk:=5) (pp:=rI) a0 b6 underlying105 AG (h _ _ V) (h _ _ V)) (AO (v:=iV c7) 3 O V V (λρ h s' az=>Yl.load A7 (h _ _ V) (M7 (l:= []) 1 av V (by simp [Az]) az (c9 0 _ V))) ?_);refine JG.fd 4 O underlying27 AG V V V V (JG.lp 5 O 2 a5 av ⟨⟨1,_,V⟩,trivial⟩ A7 ?_);refine Dp [6,7,8] ?_;obtain⟨ag,da,db⟩:=bs c8;refine Cp da V V V ?_;obtain⟨dv,bv,dc⟩:=bs db;obtain⟨_,rfl,_,_,dw⟩:=HB (kk:=5) (pp:=rI) a0 bv;refine Am (v:= .pointer (some ⟨U,0+Int.toNat (K.1)*1,none⟩)) V (λρ h=>Jf (kk:=5) (pp:=rI) a0 bv underlying105 AG (h _ _ V) (h _ _ V)) ?_;have a7:=NO (us:= [iV ag]) (y:=ag) a0 bv V;refine Hz (v:=iV ag) (l:= []) (ws:=bo) (us:= [iV ag]) (o:=Int.toNat (K.1)*1) 1 V V V av V V V AG (by simp [Value.cells,C9]) V a7.2 λca=>?_;replace a7:=a7.1;generalize dd:It bo (Int.toNat (K.1)*1) [iV ag]=cc at ca ⊢;have de:(rA 5 rI).r bi cc ((al.1.set (Int.toNat K.2.1) Z).set (Int.toNat K.1) ag):=by rw [← dd];exact a7
   obtain⟨df,dg,dh⟩:=bs dc;refine C 3 V (Br dg V V V ?_);refine C 2 V ?_;obtain rfl:=oi dh;exact AF (cO _ _ (((al.1.set (Int.toNat K.2.1) Z).set (Int.toNat K.1) ag),df) ⟨bi,cc,V,V,(bb.Ad aq),ca,de⟩ be) V
  ·refine JL.exit V ?_;obtain rfl:=oi cR;obtain rfl:=cN _ be;exact AF (cM _ _ ⟨a4,am,V,V,bb,b3,ap⟩) V
def f204(fu_:Nat)(p0:List Int)(p1:Int×Int×Int):Option ((List Int)):= (ix p0 p1.1).bind λO=> (Ax (O+p1.2.2)).bind λK=> (ix p0 p1.1).bind λZ=> (ix (p0.set (Int.toNat p1.1) K) p1.2.1).bind λU=> (Ax (U - p1.2.2)).bind λY=> (ix (p0.set (Int.toNat p1.1) K) p1.2.1).bind λac=> some ((p0.set (Int.toNat p1.1) K).set (Int.toNat p1.2.1) Y)
theorem Ik{w1:Lv_}{p0:List Int}{p1:Int×Int×Int}(al:(rA 5 rI).r E w1 p0){fu_:Nat}{r:(List Int)}(a4:f204 fu_ p0 p1=some r):AQ J 204 [.agg w1.toArray,.agg #[iV p1.1,iV p1.2.1,iV p1.2.2]] E [] (λw E' B'=>∃(a5:Lv_),w= .agg a5.toArray/\B'= []/\(rA 5 rI).r E' a5 r):=by
 refine Bn func204 λQ ci cs H bb be=>?_;unfold f204 at a4;refine C 2 V (JS.box (v:= .agg w1.toArray) V V V bb V λr3 bi=>?_);refine Dv bi λco av Z aw bn=>?_;refine BV bn KO λcp am=>?_;refine C 2 V (Fb 6 [r3] ⟨⟨1,_,V⟩,trivial⟩ am λK=>?_);refine JG.fd 0 K underlying27 AG V V V V (JG.lp 1 K 0 aw am ⟨⟨1,_,V⟩,trivial⟩ A7 ?_);obtain⟨bo,a6,bv⟩:=bs a4;obtain⟨_,rfl,_,_,bw⟩:=HB (kk:=5) (pp:=rI) (Rp.Ah _ Z al) a6;refine AO (v:= .pointer (some ⟨r3,0+Int.toNat (p1.1)*1,none⟩)) 2 K V V (λρ h s' ap=>Jf (kk:=5) (pp:=rI) (Rp.Ah _ Z al) a6 underlying105 AG (h _ _ V) (h _ _ V)) (AO (v:=iV bo) 3 K V V (λρ h s' ap=>Yl.load A7 (h _ _ V) (M7 (l:= []) 1 am V (by simp [Az]) ap (bw 0 _ V))) ?_);refine JG.fd 4 K underlying27 AG V V V V (JG.lp 5 K 2 aw am ⟨⟨1,_,V⟩,trivial⟩ A7 ?_);refine Dp [6,7,8] ?_;obtain⟨U,bx,bz⟩:=bs bv;refine Br bx V V V ?_;obtain⟨ct,a0,b0⟩:=bs bz;obtain⟨_,rfl,_,_,cw⟩:=HB (kk:=5) (pp:=rI) (Rp.Ah _ Z al) a0;refine Am (v:= .pointer (some ⟨r3,0+Int.toNat (p1.1)*1,none⟩)) V (λρ h=>Jf (kk:=5) (pp:=rI) (Rp.Ah _ Z al) a0 underlying105 AG (h _ _ V) (h _ _ V)) ?_;have ay:=NO (us:= [iV U]) (y:=U) (Rp.Ah _ Z al) a0 V;refine Hz (v:=iV U) (l:= []) (ws:=w1) (us:= [iV U]) (o:=Int.toNat (p1.1)*1) 1 V V V am V V V AG (by simp [Value.cells,C9]) V ay.2 λac=>?_;replace ay:=ay.1;generalize b1:It w1 (Int.toNat (p1.1)*1) [iV U]=a1 at ac ⊢;have aq:(rA 5 rI).r av a1 (p0.set (Int.toNat p1.1) U):=by rw [← b1];exact ay
 refine C 2 V (Fb 6 [r3] ⟨⟨1,_,V⟩,trivial⟩ ac λK=>?_);refine JG.fd 0 K underlying27 AG V V V V (JG.lp 1 K 1 aw ac ⟨⟨1,_,V⟩,trivial⟩ A7 ?_);obtain⟨b2,a7,b3⟩:=bs b0;obtain⟨_,rfl,_,_,b4⟩:=HB (kk:=5) (pp:=rI) aq a7;refine AO (v:= .pointer (some ⟨r3,0+Int.toNat (p1.2.1)*1,none⟩)) 2 K V V (λρ h s' ap=>Jf (kk:=5) (pp:=rI) aq a7 underlying105 AG (h _ _ V) (h _ _ V)) (AO (v:=iV b2) 3 K V V (λρ h s' ap=>Yl.load A7 (h _ _ V) (M7 (l:= []) 1 ac V (by simp [Az]) ap (b4 0 _ V))) ?_);refine JG.fd 4 K underlying27 AG V V V V (JG.lp 5 K 2 aw ac ⟨⟨1,_,V⟩,trivial⟩ A7 ?_);refine Dp [6,7,8] ?_;obtain⟨ag,b5,b6⟩:=bs b3;refine Cp b5 V V V ?_;obtain⟨cy,a2,ca⟩:=bs b6;obtain⟨_,rfl,_,_,cG⟩:=HB (kk:=5) (pp:=rI) aq a2;refine Am (v:= .pointer (some ⟨r3,0+Int.toNat (p1.2.1)*1,none⟩)) V (λρ h=>Jf (kk:=5) (pp:=rI) aq a2 underlying105 AG (h _ _ V) (h _ _ V)) ?_;have az:=NO (us:= [iV ag]) (y:=ag) aq a2 V;refine Hz (v:=iV ag) (l:= []) (ws:=a1) (us:= [iV ag]) (o:=Int.toNat (p1.2.1)*1) 1 V V V ac V V V AG (by simp [Value.cells,C9]) V az.2 λa3=>?_;replace az:=az.1;generalize cc:It a1 (Int.toNat (p1.2.1)*1) [iV ag]=O at a3 ⊢;have Y:(rA 5 rI).r av O ((p0.set (Int.toNat p1.1) U).set (Int.toNat p1.2.1) ag):=by rw [← cc];exact az
 refine C 3 V (Am (v:= .agg O.toArray) V (λρ h=>Ic (kk:=5) (pp:=rI) Y II I7 (h _ _ V) (GN (l:= []) 1 a3 V)) ?_);refine Hz (v:= .agg O.toArray) (l:= []) (ws:=(List.replicate 5 (iV 0):Lv_)) (us:=O) (o:=0) 3 V V V a3 V V V (by rw [Cf (kk:=5) (pp:=rI) Y];exact AU type105) ((rA 5 rI).one Y) V (by rw [Cf (kk:=5) (pp:=rI) Y,Cf (kk:=5) (pp:=rI) (GV (E:=av) (pp:=rI) rfl)];omega) λa8=>?_;rw [JH (by rw [Cf (kk:=5) (pp:=rI) Y,Cf (kk:=5) (pp:=rI) (GV (E:=av) (pp:=rI) rfl)])] at a8 ⊢;refine JL.done (JS.drop 1 a8 V λa9=>?_);obtain rfl:=oi ca;refine JL.ret (v:= .agg O.toArray) V V (Bz.list func204 V (vs:= [.agg O.toArray]) ⟨⟨_,V,Ld.many (vs:=O) II (by rw [Cf (kk:=5) (pp:=rI) Y];exact AU type105) (GN (l:= []) 3 a9 V)⟩,trivial⟩) (Eu 3 a9 V λce=>?_);exact be Z V ⟨O,V,V,Y⟩ ce
def f106(fu_:Nat)(p0:Int)(p1:Int):Option Nat:= (Ax (max p0 p1 - 1)).bind λK=> (ix ([1,2,4,8]:List Nat) K).bind λO=> (Ax (4*(min p0 p1))).bind λU=> (PY O U).bind λY=> some Y
theorem ZF{p0:Int}{p1:Int}{fu_:Nat}{r:Nat}(K:f106 fu_ p0 p1=some r):AQ J 106 [iV p0,iV p1] E [] (λw E' B'=>w= .int .u32 ((r:Nat):Int)/\B'= []):=by
 refine Bn func106 λQ aw cs H O U=>?_;unfold f106 at K;refine C 8 V (Am (v:=iV (min p0 p1)) V (λρ h=>Yl.min2 (h _ _ V) (h _ _ V)) ?_);refine C 2 V (Am (v:=iV (max p0 p1)) V (λρ h=>Yl.max2 (h _ _ V) (h _ _ V)) ?_);refine C 5 V (Am (v:= .agg (([1,2,4,8]:List Nat).map λx=>Value.int .u32 ((x:Nat):Int)).toArray) V (λρ h=>YC h underlying164 (Ds type164) (AU type86) V V) ?_);obtain⟨ay,Y,Z⟩:=bs K;refine C 1 V (Cp Y V V V ?_);obtain⟨az,ac,ag⟩:=bs Z;refine TI (XU (E:=E) ([1,2,4,8]:List Nat)) ac V V V V V underlying164 (AU type86) (C5 underlying86) ?_ (λ_=>V);rintro _ rfl;obtain⟨a0,al,am⟩:=bs ag;refine C 1 V (Am V (λρ h=>No (h _ _ V) (h _ _ V) al) ?_);obtain⟨ap,aq,av⟩:=bs am;refine Am (v:= .int .u32 ((ap:Nat):Int)) V (λρ h=>VZ (h _ _ V) (h _ _ V) aq) (C 2 V ?_);obtain rfl:=oi av;exact AZ func106 V V (U Ay V ⟨V,V⟩ O)
def f136(fu_:Nat)(p0:Nat)(p1:Int)(p2:Int):Option Bool:= (f106 fu_ p1 p2).bind λK=> (PU p0 K).bind λO=> some (decide ((((O):Nat):Int)≠(((0):Nat):Int)))
theorem ZU{p0:Nat}{p1:Int}{p2:Int}{fu_:Nat}{r:Bool}(K:f136 fu_ p0 p1 p2=some r):AQ J 136 [.int .u32 ((p0:Nat):Int),iV p1,iV p2] E [] (λw E' B'=>w= .bool r/\B'= []):=by
 refine Bn func136 λQ aq cs H O U=>?_;unfold f136 at K;obtain⟨av,Y,Z⟩:=bs K;refine C 9 V (CF (ZF Y) V V (Ba func106 V) O λaw ac ag=>?_);obtain⟨al,am,ap⟩:=bs Z;refine Am (v:= .int .u32 ((al:Nat):Int)) V (λρ h=>V9 (h _ _ V) (h _ _ V) am) (C 3 V ?_);obtain rfl:=oi ap;exact AZ func136 V V (U ac V ⟨V,V⟩ ag)
def NA(fu_:Nat)(O:(AH)×Int)(K:(AH)×Int):Option (Bm ((AH)×Int) ((AH))):= if K.2<O.2 then((room K.1 (K.2,O.2)).bind λU=> (Ax (K.2+1)).bind λY=> some (.more (U,Y))) else(some (.done K.1))
def Nt(fu_:Nat)(p0:A4)(K:(AH)×Int):Option (Bm ((AH)×Int) ((AH))):= if K.2<(p0.1.length:Int) then(Option.bind (iter (NA fu_ K) fu_ (K.1,0)) λO=> (Ax (K.2+1)).bind λU=> some (.more (O,U))) else(some (.done K.1))
def f133(fu_:Nat)(p0:A4):Option ((AH)):= Option.bind (iter (Nt fu_ p0) fu_ ([],0)) λK=> some K
theorem Za{a1:Ao}{c2:Nat}{a8:Ao}{a9:Nat}{p0:A4}(df:Al (rL rI) E a1 c2 p0.1)(dg:Al AA E a8 a9 p0.2){fu_:Nat}{r:(AH)}(bb:f133 fu_ p0=some r):AQ J 133 [.agg #[sV a1 p0.1 c2,sV a8 p0.2 a9]] E [] (λw E' B'=>∃(be:Ao) (bi:Nat),w= sV be r bi/\B'= []/\Al Ep E' be bi r):=by
 refine Bn func133 λQ dh cs H b3 b4=>?_;unfold f133 at bb;refine C 2 V (Dv b3 λdi a2 b5 b6 ca=>?_);refine C 9 V (JL.fd underlying77 Ck V V V ?_);refine Cm 0 b6 underlying25 FH FT ?_;refine JL.ln underlying22 V V V ?_;obtain⟨bn,cc,ce⟩:=bs bb;refine C 2 V (Bt (λL s=>∃(a3:LH) (ap:Ao) (aq:Nat) (a4:Seg),Jn a2 H a3 [a4] [(3,sV ap bn aq)] L s (OL 101 Ep a3 ap aq a4 bn)) ?_ ?_)
 ·rintro _ _ ⟨a3,ap,aq,a4,rfl,rfl,ci,co,cp⟩;refine C 5 V (B9 0 cp co V λdj ct cw cy=>?_);obtain rfl:=oi ce;exact AZ func133 V V (b4 ((b5.Ad ci).Ad ct) V ⟨ap,aq,V,V,cw⟩ cy)
 ·intro cG;refine JL.block (CB cc (λL s K=>∃(O:LH) (Y:Ao) (Z:Nat) (ac:Seg),Jn a2 H O [ac] [(3,sV Y K.1 Z),(9,iV (p0.1.length:Int)),(10,iV K.2)] L s (OL 101 Ep O Y Z ac K.1)) ⟨a2,none,0,[],V,V,Ay,ca,OL.nil⟩ ?_);rintro _ _ K ⟨O,Y,Z,ac,rfl,rfl,bo,bv,bw⟩ cH ⟨dk,a5⟩ cI;have bx:=a5;unfold Nt at bx;refine C 5 V (AW bx (λcJ cK=>?_) (λcJ cM=>?_))
  ·obtain⟨a6,cN,cO⟩:=bs cK;refine C 13 V (Bt (λL s=>∃(av:LH) (aw:Ao) (ay:Nat) (az:Seg),Jn O H av [az] [(3,sV aw a6 ay),(9,iV (p0.1.length:Int)),(10,iV K.2)] L s (OL 101 Ep av aw ay az a6)) ?_ ?_)
   ·rintro _ _ ⟨av,aw,ay,az,rfl,rfl,cP,cQ,cR⟩;obtain⟨cT,cV,cW⟩:=bs cO;refine C 2 V (Br cV V V V ?_);refine C 2 V ?_;obtain rfl:=oi cW;exact AF (cI _ _ (a6,cT) ⟨av,aw,ay,az,V,V,(bo.Ad cP),cQ,cR⟩ a5) V
   ·intro cX;refine JL.block (CB cN (λL s U=>∃(ag:LH) (al:Ao) (am:Nat) (a0:Seg),Jn O H ag [a0] [(3,sV al U.1 am),(4,iV K.2),(9,iV (p0.1.length:Int)),(10,iV K.2),(13,iV K.2),(14,iV U.2)] L s (OL 101 Ep ag al am a0 U.1)) ⟨O,Y,Z,ac,V,V,Ay,bv,bw⟩ ?_);rintro _ _ U ⟨ag,al,am,a0,rfl,rfl,bz,b0,b1⟩ cY ⟨dn,a7⟩ cZ;have b2:=a7;unfold NA at b2;refine C 5 V (AW b2 (λc0 c1=>?_) (λc0 c3=>?_))
    ·refine C 12 V (Am (v:= .agg #[iV U.2,iV K.2]) V (λρ h=>Dh [(0,1),(1,1)] h I6 underlying101 ⟨V,AU type3,V,AU type3,trivial⟩ V V) ?_);obtain⟨c4,c5,c6⟩:=bs c1;refine JS.app (pp:=Ep) (v:= .agg #[iV U.2,iV K.2]) (a:=al) (c:=am) 0 c5 V V V V (λ_=>V) V (λ_=>V) V V V underlying167 underlying167 underlying167 FU (Dl type101) I6 V (by decide) (by decide) (by decide) (by decide) b1 ⟨_,_,V,V,V⟩ b0 V λdp c7 c8 c9 da db=>?_;obtain⟨dc,dd,de⟩:=bs c6;refine C 4 V (Br dd V V V ?_);refine C 2 V ?_;obtain rfl:=oi de;exact AF (cZ _ _ (c4,dc) ⟨ag,c7,c8,c9,V,V,bz,db,da⟩ a7) V
    ·refine JL.exit V ?_;obtain rfl:=oi c3;obtain rfl:=cY _ a7;exact AF (cX _ _ ⟨ag,al,am,a0,V,V,bz,b0,b1⟩) V
  ·refine JL.exit V ?_;obtain rfl:=oi cM;obtain rfl:=cH _ a5;exact AF (cG _ _ ⟨O,Y,Z,ac,V,V,bo,bv,bw⟩) V
def f113(fu_:Nat)(p0:Int×Int×Int)(p1:Int×Int×Int):Option Int:= if p0.1≠p1.1 then((Ax (p0.1 - p1.1)).bind λK=> some K) else(if p0.2.1≠p1.2.1 then((Ax (p0.2.1 - p1.2.1)).bind λO=> some O) else((Ax (p0.2.2 - p1.2.2)).bind λU=> some U))
theorem TK{p0:Int×Int×Int}{p1:Int×Int×Int}{fu_:Nat}{r:Int}(ag:f113 fu_ p0 p1=some r):AQ J 113 [.agg #[iV p0.1,iV p0.2.1,iV p0.2.2],.agg #[iV p1.1,iV p1.2.1,iV p1.2.2]] E [] (λw E' B'=>w=iV r/\B'= []):=by
 refine Bn func113 λQ a6 cs H al Y=>?_;unfold f113 at ag;refine C 2 V (Dv al λr2 a7 Z O am=>?_);refine Dv am λa8 a9 K U ac=>?_;refine C 6 V (Cm 0 (O.Ah K) underlying27 AG A7 ?_);refine Cm 0 U underlying27 AG A7 ?_;refine C 3 V (AW ag (λap aq=>?_) (λap av=>?_))
 ·refine C 2 V (Cm 0 (O.Ah K) underlying27 AG A7 ?_);refine Cm 0 U underlying27 AG A7 ?_;obtain⟨bb,aw,ay⟩:=bs aq;refine Cp aw V V V (C 2 V ?_);obtain rfl:=oi ay;exact AZ func113 V V (Y (Z.Ad K) V ⟨V,V⟩ ac)
 ·refine C 2 V (Cm 1 (O.Ah K) underlying27 AG A7 ?_);refine Cm 1 U underlying27 AG A7 ?_;refine C 3 V (AW av (λaz a0=>?_) (λaz a1=>?_))
  ·refine C 2 V (Cm 1 (O.Ah K) underlying27 AG A7 ?_);refine Cm 1 U underlying27 AG A7 ?_;obtain⟨be,a2,a3⟩:=bs a0;refine Cp a2 V V V (C 2 V ?_);obtain rfl:=oi a3;exact AZ func113 V V (Y (Z.Ad K) V ⟨V,V⟩ ac)
  ·refine C 4 V (Cm 2 (O.Ah K) underlying27 AG A7 ?_);refine Cm 2 U underlying27 AG A7 ?_;obtain⟨bi,a4,a5⟩:=bs a1;refine Cp a4 V V V (C 2 V ?_);obtain rfl:=oi a5;exact AZ func113 V V (Y (Z.Ad K) V ⟨V,V⟩ ac)
def NH(fu_:Nat)(p0:List Int)(K:Int×Int):Option (Bm (Int×Int) Int):= if K.2<(p0.length:Int) then((ix p0 K.2).bind λO=> (Ax (K.1+O)).bind λU=> (Ax (K.2+1)).bind λY=> some (.more (U,Y))) else(some (.done K.1))
def f85(fu_:Nat)(p0:List Int):Option Int:= Option.bind (iter (NH fu_ p0) fu_ (0,0)) λK=> some K
theorem HK{a1:Ao}{c2:Nat}{p0:List Int}(ag:Al rI E a1 c2 p0){fu_:Nat}{r:Int}(Y:f85 fu_ p0=some r):AQ J 85 [sV a1 p0 c2] E [] (λw E' B'=>w=iV r/\B'= []):=by
 refine Bn func85 λQ bv cs H al am=>?_;unfold f85 at Y;refine C 12 V (JL.ln underlying28 V V V ?_);obtain⟨ap,aq,av⟩:=bs Y;refine C 2 V (EK [] [(3,iV ap)] (λbw aw ay=>?_) (λaz=>?_))
 ·refine C 5 V ?_;obtain rfl:=oi av;exact AZ func85 V V (am aw V ⟨V,V⟩ ay)
 ·refine JL.block (DX aq (λK=> []) (λK=> [(3,iV K.1),(6,sV a1 p0 c2),(7,iV (p0.length:Int)),(8,iV K.2)]) Ay al ?_);rintro K bx O Z a0 ⟨bz,U⟩ a2;have ac:=U;unfold NH at ac;refine C 5 V (AW ac (λa3 a4=>?_) (λa3 a5=>?_))
  ·obtain⟨b0,a6,a7⟩:=bs a4;refine C 5 V (JS.ix (ag.Ah O) a6 underlying28 AG ?_);rintro b1 b2 _ rfl a8;refine C8 0 a8 A7 V V V ?_;obtain⟨a9,bb,be⟩:=bs a7;refine C 5 V (Br bb V V V ?_);obtain⟨bi,bn,bo⟩:=bs be;refine C 4 V (Br bn V V V ?_);refine C 2 V ?_;obtain rfl:=oi bo;exact a2 (a9,bi) O Z V U
  ·refine JL.exit V ?_;obtain rfl:=oi a5;obtain rfl:=a0 _ U;exact az O Z V
end Pal
namespace Pal
open Go Go.Conc
variable {P:Program}{Q:Gs_}{n:Nat}{ds:Ld_}{ops:Ao_}{k:Li_}{cs:Lf_}{L:Env}{E H:LH}{S:List Seg}
variable {d:Option Tmp}{w:Operand}{t u ty:TypeId}{p:String}{af:Ae_}{g:On_}{rest:List Nat}{s:St}{ρ:Operand->Value}
section
variable {J:Judge P}{b:Frame}
variable {x y:Operand}{e:TypeId}{i:Nat}
theorem Al.cD{α:Type}{pp:Rp α}{kk bk o:Nat}{ws:Lv_}{xs ys:List α}{hi:Int}(U:At E bk o ws)(O:(rA kk pp).r E ws xs)(hC:Gl xs 0 hi=some ys):Al pp E (some ⟨bk,o,none⟩) kk ys:=by
 have ag:=O.1;unfold Gl at hC;split at hC
 ·rename_i hb;cases hC;refine⟨by simp;omega,.inr ⟨bk,o,V,λq z K=>?_⟩⟩;simp only [Int.toNat_zero,List.drop_zero,List.getElem?_take] at K;split at K
  ·have Y:ix xs (q:Int)=some z:=by unfold ix;rw [if_pos (by omega)];simpa using K
   obtain⟨us,Z,ac,_,_⟩:=bq O U Y;exact⟨us,Z,by simpa using ac⟩
  ·cases K
 ·cases hC
theorem XY{α:Type}{pp:Rp α}{kk bk o:Nat}{ws:Lv_}{xs ys:List α}{hi:Int}(U:At E bk o ws)(K:(rA kk pp).r E ws xs)(hC:Gl xs 0 hi=some ys)
  (Y:ops[i]? =some ⟨d,.slice t x none (some w) none,ty,p,af,g⟩) (hw:AL L ops ⟨d,.slice t x none (some w) none,ty,p,af,g⟩=some true) (Z:BL b n ⟨d,.slice t x none (some w) none,ty,p,af,g⟩=true)
  (ac:ev L x=some (.pointer (some ⟨bk,o,none⟩))) (ag:ev L w=some (iV hi)) (al:P.underlying t=some (.array kk e)) (am:Bl P e=some pp.n)
  (h:Al pp E (some ⟨bk,o,none⟩) kk ys->JL J Q b n (As L d (.slice (some ⟨bk,o,none⟩) ys.length kk)) ds (.inRegion ops rest::k) cs s):
  JL J Q b n L ds (.inRegion ops (i::rest)::k) cs s:=by
 have ap:=Al.cD U K hC;have aw:=K.1;refine A0 Y hw Z (λρ O=>?_) (h ap);refine FV (sm:=Instr.sliceAt t (ρ x) none (some (ρ w)) none) V ?_;rw [O _ _ ac,O _ _ ag];unfold Gl at hC;split at hC
 ·rename_i hb;cases hC;obtain⟨ay,az,a0⟩:=hb;unfold Instr.sliceAt;refine Au _ _ (Co al ?_);simp only [Instr.sureAddr,bind,Sem.bind,pure];have aq:Instr.sliceBounds false kk kk none (some (iV hi)) none=(pure (0,hi.toNat,kk):Sem _):=by
   simp only [Instr.sliceBounds,Instr.sliceBound,asIntOf,bind,Sem.bind,pure];rw [if_pos (by omega)];rfl
  rw [aq];simp only [pure,Sem.bind];refine Au (x:=Go.sizeOf e) _ (EU am ?_);have av:(if kk=0 then(⟨bk,o,none⟩:Addr) else Addr.add ⟨bk,o,none⟩ (0*pp.n))=⟨bk,o,none⟩:=by
   split
   ·rfl
   ·rw [Dm rfl];simp
  rw [av];have e2:((xs.take hi.toNat).drop (0:Int).toNat).length=hi.toNat - 0:=by simp;omega
  rw [e2];exact⟨V,V⟩
 ·cases hC
theorem VQ{a:Option Addr}{l c:Nat}(K:P.underlying t=some (.slice e))(O:ρ x= .slice a l c)(U:ρ (.const (.slice none 0 0))= .slice none 0 0):Yl P ⟨d,.binOp .neq t x (.const (.slice none 0 0)) u,ty,p,af,g⟩ ρ s (.bool (!a.isNone)):=by
 have Y:∀o,eqGuard o t x (.const (.slice none 0 0)) (.slice a l c) (.slice none 0 0)=Sem.pure ():=λo=>by cases o <;> rfl
 refine FV (sm:=do eqGuard .neq t x (.const (.slice none 0 0)) (ρ x) (ρ (.const (.slice none 0 0)));binOp .neq t (ρ x) (ρ (.const (.slice none 0 0)))) V ?_
 rw [O,U,Y];simp only [bind,Sem.bind];have hb:binOp .neq t (.slice a l c) (.slice none 0 0)=(do pure (.bool (!(← Op.equal t (.slice a l c) (.slice none 0 0))))):=V
 rw [hb];refine Au (x:=Op.equal t _ _) _ ?_;unfold Op.equal Op.maxDepth Op.equalIn;refine Au _ _ (Co K ?_);cases a with
 | none=>exact⟨rfl,rfl⟩
 | some ad=>exact⟨rfl,rfl⟩
end
open Go.Proofs Go.Proofs.Tryz
variable {J:Judge Tryz.prog}
def TO(fu_:Nat)(p0:A4)(p1:List Int)(K:Int):Option (Bm Int ((A4×Int)⊕(Unit))):= if K<(p1.length:Int) then((ix p1 K).bind λO=> (Ax ((p0.1.length:Int) - 1)).bind λU=> (f91 fu_ O 0 U).bind λY=> if(!Y)=true then(some (.done (Sum.inl (([],[]),3)))) else((Ax (K+1)).bind λZ=> some (.more Z))) else(some (.done (Sum.inr ())))
def f70(fu_:Nat)(p0:A4)(p1:List Int):Option (A4×Int):= (f47 fu_ p0).bind λK=> if K≠0 then(some (([],[]),K)) else(Option.bind (iter (TO fu_ p0 p1) fu_ 0) λO=> Sum.elim (λr=>some r) (λac=> Option.bind (if(p1.length:Int)=2 then((ix p1 (0)).bind λU=> (ix p1 (1)).bind λY=> some (decide (U=Y))) else(some false)) λZ=> if Z=true then(some (([],[]),8)) else(some (p0,0))) O)
theorem Ln{a1:Ao}{c2:Nat}{Y:Ao}{Z:Nat}{al:Ao}{am:Nat}{p0:A4}{p1:List Int}(a4:Al (rL rI) E a1 c2 p0.1)(a5:Al AA E Y Z p0.2)(aw:Al rI E al am p1){fu_:Nat}{r:A4×Int}(a6:f70 fu_ p0 p1=some r):AQ J 70 [.agg #[sV a1 p0.1 c2,sV Y p0.2 Z],sV al p1 am] E [] (λw E' B'=>∃(a7:Ao) (a8:Nat) (a9:Ao) (bb:Nat),w= .tuple #[.agg #[sV a7 r.1.1 a8,sV a9 r.1.2 bb],iV r.2]/\B'= []/\Al (rL rI) E' a7 a8 r.1.1/\Al AA E' a9 bb r.1.2):=by
 refine Bn func70 λQ dv cs H ce aq=>?_;unfold f70 at a6;refine C 2 V (Dv ce λay dw K az ci=>?_);refine BV ci H5 λag co=>?_;refine C 5 V (Cx az Ee Ck V V ?_);obtain⟨be,cp,ct⟩:=bs a6;refine CF (cg (a4.Ah K) (a5.Ah K) cp) V V (Ba func47 V) co λcw O bi=>C 7 V (AW ct (λcy cG=>?_) (λcy cH=>?_))
 ·refine C 2 V (Am (v:= .agg #[nS,nS]) V (λρ h=>Dh [(0,2)] h H5 underlying77 ⟨V,AU type25,trivial⟩ V V) ?_);refine C 1 V (BJ 2 bi Eg λbn=>?_);refine C 2 V ?_;obtain rfl:=oi cG;refine JL.ret (v:= .tuple #[.agg #[nS,nS],iV be]) V V (Bz.list func70 V (vs:= [.agg #[nS,nS],iV be]) ⟨⟨_,V,Ld.many (vs:= [nS,nS]) Gd Eg (Fw (off:=0) 2 bn V V)⟩,V,trivial⟩) (Eu 2 bn V λcI=>?_);exact aq (K.Ad O) V ⟨none,0,none,0,V,V,Al.nil,Al.nil⟩ cI
 ·refine C 5 V (JL.ln underlying28 V V V ?_);obtain⟨bo,cJ,bv⟩:=bs cH;refine C 2 V (Bt (λL s=>∃(bw:Unit) (a0:LH),bo=Sum.inr bw/\Jm cw H a0 [bX ag #[nS,nS] 77] [(1,sV al p1 am),(2,Aj ay 0),(4,Aj ag 0)] L s) ?_ ?_)
  ·rintro _ _ ⟨bw,a0,rfl,rfl,rfl,ac,bx⟩;have cK:=elim_inr bv;refine C 2 V (Fc 12 λU=>?_);refine Dd 0 U V V (AO 1 U V V (λρ h s' dx=>Yl.len V underlying28 (h _ _ V)) ?_);refine A5 U V [2,3] V ?_;obtain⟨cM,bz,cN⟩:=bs cK;refine FY 0 #[true,true,true,true,true,true,true,true,true,true,true,true] (λL s=>L= [(2,Aj ay 0),(4,Aj ag 0),(41,.bool cM)]/\s=Ak a0 H [bX ag #[nS,nS] 77]) ?_ ?_
   ·rintro _ _ ⟨rfl,rfl⟩;refine AM.fin (by decide+kernel) (CE cN (λcO cP=>?_) (λcO cQ=>?_))
    ·refine C 2 V (Am (v:= .agg #[nS,nS]) V (λρ h=>Dh [(0,2)] h H5 underlying77 ⟨V,AU type25,trivial⟩ V V) ?_);refine BJ 0 bx Eg λb0=>?_;refine C 2 V ?_;obtain rfl:=oi cP;refine JL.ret (v:= .tuple #[.agg #[nS,nS],iV 8]) V V (Bz.list func70 V (vs:= [.agg #[nS,nS],iV 8]) ⟨⟨_,V,Ld.many (vs:= [nS,nS]) Gd Eg (Fw (off:=0) 0 b0 V V)⟩,V,trivial⟩) (Eu 0 b0 V λcR=>?_);exact aq ((K.Ad O).Ad ac) V ⟨none,0,none,0,V,V,Al.nil,Al.nil⟩ cR
    ·refine C 3 V (Cx (az.Ah (O.Ad ac)) Ee Ck V V ?_);refine Am (v:= .agg #[sV a1 p0.1 c2,sV Y p0.2 Z]) V (λρ h=>Dh [(0,2)] h H5 underlying77 ⟨V,AU type25,trivial⟩ V V) (BJ 0 bx Eg λb1=>?_);refine C 2 V ?_;obtain rfl:=oi cQ;refine JL.ret (v:= .tuple #[.agg #[sV a1 p0.1 c2,sV Y p0.2 Z],iV 0]) V V (Bz.list func70 V (vs:= [.agg #[sV a1 p0.1 c2,sV Y p0.2 Z],iV 0]) ⟨⟨_,V,Ld.many (vs:= [sV a1 p0.1 c2,sV Y p0.2 Z]) Gd Eg (Fw (off:=0) 0 b1 V V)⟩,V,trivial⟩) (Eu 0 b1 V λcT=>?_);exact aq ((K.Ad O).Ad ac) V ⟨a1,c2,Y,Z,V,V,(a4.Ah ((K.Ad O).Ad ac)),(a5.Ah ((K.Ad O).Ad ac))⟩ cT
   ·intro b2;refine Gy (q:=(p1.length:Int)=2) (i:=33) V (λa2=>?_) (λa2=>?_)
    ·have cV:=ip bz a2;refine Dd 4 U V V ?_;obtain⟨dy,cW,cX⟩:=bs cV;refine ED 5 (aw.Ah ((K.Ad O).Ad ac)) cW U underlying28 AG ?_;rintro dz dA _ rfl cY;refine Ex 6 U 0 cY A7 V V V V ?_;refine Dd 7 U V V ?_;obtain⟨dB,cZ,c0⟩:=bs cX;refine ED 8 (aw.Ah ((K.Ad O).Ad ac)) cZ U underlying28 AG ?_;rintro dC dD _ rfl c1;refine Ex 9 U 0 c1 A7 V V V V ?_;refine A5 U V [10,11] V ?_;obtain rfl:=oi c0;refine Dt ?_ (b2 _ _ ⟨V,V⟩);exact⟨V,V,V,trivial⟩
    ·have c3:=im bz a2;refine A5 U V [4,5,6,7,8,9,10,11] V ?_;obtain rfl:=oi c3;refine Dt ?_ (b2 _ _ ⟨V,V⟩);exact⟨V,V,V,trivial⟩
  ·intro c4;refine JL.block (DX cJ (λa3=> [bX ag #[nS,nS] 77]) (λa3=> [(1,sV al p1 am),(2,Aj ay 0),(4,Aj ag 0),(15,sV al p1 am),(16,iV (p1.length:Int)),(17,iV a3)]) Ay bi ?_);rintro a3 c5 ap b3 b4 ⟨dE,av⟩ c6;have b5:=av;unfold TO at b5;refine C 5 V (AW b5 (λc7 c8=>?_) (λc7 c9=>?_))
   ·obtain⟨dF,da,db⟩:=bs c8;refine C 5 V (JS.ix (aw.Ah ((K.Ad O).Ad ap)) da underlying28 AG ?_);rintro dG dH _ rfl dc;refine C8 0 dc A7 V V V (C 5 V ?_);refine Cm 0 (az.Ah (O.Ad ap)) underlying25 FH FT ?_;refine JL.ln underlying22 V V V ?_;obtain⟨dI,dd,de⟩:=bs db;refine Cp dd V V V ?_;obtain⟨df,dg,dh⟩:=bs de;refine CF (Mo dg) V V LC b3 λdJ b6 ca=>Am (v:= .bool (!df)) V (λρ h=>Yl.not (h _ _ V)) (JL.done ?_);refine CE dh (λdi dj=>?_) (λdi dk=>?_)
    ·refine C 2 V (Am (v:= .agg #[nS,nS]) V (λρ h=>Dh [(0,2)] h H5 underlying77 ⟨V,AU type25,trivial⟩ V V) ?_);refine BJ 0 ca Eg λcc=>?_;refine C 2 V ?_;obtain rfl:=oi dj;obtain rfl:=b4 _ av;have dn:=elim_inl bv;obtain rfl:=oi dn;refine JL.ret (v:= .tuple #[.agg #[nS,nS],iV 3]) V V (Bz.list func70 V (vs:= [.agg #[nS,nS],iV 3]) ⟨⟨_,V,Ld.many (vs:= [nS,nS]) Gd Eg (Fw (off:=0) 0 cc V V)⟩,V,trivial⟩) (Eu 0 cc V λdp=>?_);exact aq (((K.Ad O).Ad ap).Ad b6) V ⟨none,0,none,0,V,V,Al.nil,Al.nil⟩ dp
    ·obtain⟨dq,dr,dt⟩:=bs dk;refine C 3 V (Br dr V V V ?_);refine C 2 V ?_;obtain rfl:=oi dt;exact c6 dq (ap.Ad b6) ca V av
   ·refine JL.exit V ?_;obtain rfl:=oi c9;have du:bo=(Sum.inr ()):=(b4 _ av).symm;exact AF (c4 _ _ ⟨(),c5,du,V,V,ap,b3⟩) V
def Mv(fu_:Nat)(p0:List Int):Option ((List Int)):= (CN ([]:List Int) p0).bind λK=> some K
theorem Zo{ad:Addr}{c2:Nat}{p0:List Int}(Y:Al rI E (some ad) c2 p0){fu_:Nat}{r:(List Int)}(K:Mv fu_ p0=some r):AQ J 87 [.slice (some ad) p0.length c2] E [] (λw E' B'=>∃(O:Ao) (U:Nat) (g0:Seg),w= sV O r U/\B'=g0/\OL 3 rI E' O U g0 r):=by
 refine Bn func87 λQ a0 cs H Z ac=>?_;unfold Mv at K;refine C 8 V (Am (v:= .bool false) V (λρ h=>M9 (a:=(some ad)) underlying28 (h _ _ V) (h _ _ V)) ?_);refine C 5 V (ND (pp:=rI) V V V underlying28 AG Z λr1 g2 ag al=>?_);obtain⟨a1,am,ap⟩:=bs K;refine C 1 V (IL (pp:=rI) 1 am V V V V V V V underlying28 underlying28 AG (Dl type3) CI V (by decide) (by decide) ag Y al V λaq av aw ay az=>?_);refine C 2 V ?_;obtain rfl:=oi ap;exact AZ func87 V V (ac Ay V ⟨aq,av,aw,V,(by first | rfl | simp | (simp [Value.cells])),ay⟩ az)
def Uy(fu_:Nat)(p0:List Int):Option ((List Int)):= some ([])
theorem Y4{c2:Nat}{p0:List Int}(ac:Al rI E none c2 p0){fu_:Nat}{r:(List Int)}(K:Uy fu_ p0=some r):AQ J 87 [sV none p0 c2] E [] (λw E' B'=>∃(O:Ao) (U:Nat) (g0:Seg),w= sV O r U/\B'=g0/\OL 3 rI E' O U g0 r):=by
 refine Bn func87 λQ ag cs H Y Z=>?_;unfold Uy at K;refine C 8 V (Am (v:= .bool true) V (λρ h=>M9 (a:=none) underlying28 (h _ _ V) (h _ _ V)) ?_);refine C 6 V ?_;obtain rfl:=oi K;exact AZ func87 V V (Z Ay V ⟨none,0,[],V,V,OL.nil⟩ Y)
def f87(fu_:Nat)(p0:List Int):Option (List Int):=Mv fu_ p0
theorem cb{a1:Ao}{c2:Nat}{p0:List Int}(O:Al rI E a1 c2 p0){fu_:Nat}{r:List Int}(K:f87 fu_ p0=some r):AQ J 87 [.slice a1 p0.length c2] E [] (λw E' B'=>∃(U:Ao) (Y:Nat) (g0:Seg),w= .slice U r.length Y/\B'=g0/\OL 3 rI E' U Y g0 r):=by
 cases a1 with
 | some ad=>exact Zo O K
 | none=>
  have Z:p0= []:=by
   rcases O.2 with h | ⟨_,_,h,_⟩
   ·exact h.1
   ·cases h
  subst Z;have ac:r= []:=by
   have ag:Mv fu_ []=some []:=V;unfold f87 at K;rw [ag] at K;exact(Option.some.inj K).symm
  subst ac;exact Y4 (fu_:=fu_) O V
def Mr(fu_:Nat)(p0:Aw):Option (Aw):= (CN ([]:Aw) p0).bind λK=> some K
theorem YT{ad:Addr}{c2:Nat}{p0:Aw}(Y:Al AA E (some ad) c2 p0){fu_:Nat}{r:Aw}(K:Mr fu_ p0=some r):AQ J 129 [.slice (some ad) p0.length c2] E [] (λw E' B'=>∃(O:Ao) (U:Nat) (g0:Seg),w= sV O r U/\B'=g0/\OL 27 AA E' O U g0 r):=by
 refine Bn func129 λQ a0 cs H Z ac=>?_;unfold Mr at K;refine C 8 V (Am (v:= .bool false) V (λρ h=>M9 (a:=(some ad)) underlying80 (h _ _ V) (h _ _ V)) ?_);refine C 5 V (ND (pp:=AA) V V V underlying80 Bg Z λr1 g2 ag al=>?_);obtain⟨a1,am,ap⟩:=bs K;refine C 1 V (IL (pp:=AA) 1 am V V V V V V V underlying80 underlying80 Bg (Dl type27) BO V (by decide) (by decide) ag Y al V λaq av aw ay az=>?_);refine C 2 V ?_;obtain rfl:=oi ap;exact AZ func129 V V (ac Ay V ⟨aq,av,aw,V,(by first | rfl | simp | (simp [Value.cells])),ay⟩ az)
def Um(fu_:Nat)(p0:Aw):Option (Aw):= some ([])
theorem Yy{c2:Nat}{p0:Aw}(ac:Al AA E none c2 p0){fu_:Nat}{r:Aw}(K:Um fu_ p0=some r):AQ J 129 [sV none p0 c2] E [] (λw E' B'=>∃(O:Ao) (U:Nat) (g0:Seg),w= sV O r U/\B'=g0/\OL 27 AA E' O U g0 r):=by
 refine Bn func129 λQ ag cs H Y Z=>?_;unfold Um at K;refine C 8 V (Am (v:= .bool true) V (λρ h=>M9 (a:=none) underlying80 (h _ _ V) (h _ _ V)) ?_);refine C 6 V ?_;obtain rfl:=oi K;exact AZ func129 V V (Z Ay V ⟨none,0,[],V,V,OL.nil⟩ Y)
def f129(fu_:Nat)(p0:Aw):Option Aw:=Mr fu_ p0
theorem ZI{a1:Ao}{c2:Nat}{p0:Aw}(O:Al AA E a1 c2 p0){fu_:Nat}{r:Aw}(K:f129 fu_ p0=some r):AQ J 129 [.slice a1 p0.length c2] E [] (λw E' B'=>∃(U:Ao) (Y:Nat) (g0:Seg),w= .slice U r.length Y/\B'=g0/\OL 27 AA E' U Y g0 r):=by
 cases a1 with
 | some ad=>exact YT O K
 | none=>
  have Z:p0= []:=by
   rcases O.2 with h | ⟨_,_,h,_⟩
   ·exact h.1
   ·cases h
  subst Z;have ac:r= []:=by
   have ag:Mr fu_ []=some []:=V;unfold f129 at K;rw [ag] at K;exact(Option.some.inj K).symm
  subst ac;exact Yy (fu_:=fu_) O V
def f43(fu_:Nat)(p0:A4):Option ((List Int)×Int):= (f70 fu_ p0 ([])).bind λK=> if K.2≠0 then(some ([],K.2)) else((f84 fu_ K.1).bind λO=> (Gl O 0 (p0.1.length:Int)).bind λU=> (f87 fu_ U).bind λY=> some (Y,0))
theorem Qz{a1:Ao}{c2:Nat}{ac:Ao}{ag:Nat}{p0:A4}(a3:Al (rL rI) E a1 c2 p0.1)(a4:Al AA E ac ag p0.2){fu_:Nat}{r:(List Int)×Int}(al:f43 fu_ p0=some r):AQ J 43 [.agg #[sV a1 p0.1 c2,sV ac p0.2 ag]] E [] (λw E' B'=>∃(am:Ao) (ap:Nat),w= .tuple #[sV am r.1 ap,iV r.2]/\B'= []/\Al rI E' am ap r.1):=by
 refine Bn func43 λQ cI cs H a5 aq=>?_;unfold f43 at al;refine C 2 V (Dv a5 λcJ cK U av a6=>?_);refine C 5 V (Cx av Ee Ck V V ?_);obtain⟨cM,a7,a8⟩:=bs al;refine BT (Ln (a3.Ah U) (a4.Ah U) Al.nil a7) V V KR a6 ?_;rintro _ cN _ Y ⟨cO,cP,cQ,cR,rfl,rfl,a9,bb⟩ be;refine C 3 V (BV be H5 λcT bi=>?_);refine BJ 3 bi Eg λbn=>?_;refine Eh 3 bn V λcV K bo aw=>C 8 V (AW a8 (λbv bw=>?_) (λbv bx=>?_))
 ·refine C 6 V ?_;obtain rfl:=oi bw;exact AZ func43 V V (aq ((U.Ad Y).Ad K) V ⟨none,0,V,V,Al.nil⟩ aw)
 ·refine C 3 V (Cx bo Gd Eg V V ?_);obtain⟨cW,bz,b0⟩:=bs bx;refine BT (Qu (a9.Ah K) (bb.Ah K) bz) V V OE aw ?_;rintro _ ay _ az ⟨Z,rfl,rfl,O⟩ b1;refine BV b1 KO λcX b2=>?_;refine Hz (v:= .agg Z.toArray) (l:= []) (ws:=(List.replicate 5 (iV 0):Lv_)) (us:=Z) (o:=0) 5 V V V b2 V V V (by rw [Cf (kk:=5) (pp:=rI) O];exact AU type105) ((rA 5 rI).one O) V (by rw [Cf (kk:=5) (pp:=rI) O,Cf (kk:=5) (pp:=rI) (GV (E:=ay) (pp:=rI) rfl)];omega) λa0=>?_;rw [JH (by rw [Cf (kk:=5) (pp:=rI) O,Cf (kk:=5) (pp:=rI) (GV (E:=ay) (pp:=rI) rfl)])] at a0 ⊢;refine C 3 V (Cm 0 (av.Ah ((Y.Ad K).Ad az)) underlying25 FH FT ?_);refine JL.ln underlying22 V V V (Eh 5 a0 V λcY a2 b3 b4=>?_);obtain⟨cZ,b5,b6⟩:=bs b0;refine XY (ws:=Z) (pp:=rI) b3 (Rp.Ah _ a2 O) b5 V V V V V underlying105 AG λca=>?_;obtain⟨c0,cc,ce⟩:=bs b6;refine BT (cb ca cc) V V (Ba func87 V) b4 ?_;rintro _ c1 c3 ci ⟨co,cp,_,rfl,rfl,ct⟩ cw;refine C 3 V (B9 6 ct cw V λc4 cy cG cH=>?_);obtain rfl:=oi ce;exact AZ func43 V V (aq ((((((U.Ad Y).Ad K).Ad az).Ad a2).Ad ci).Ad cy) V ⟨co,cp,V,V,cG⟩ cH)
def Nw(fu_:Nat)(p0:Aw)(p1:Aw)(K:Int):Option (Bm Int ((Int)⊕(Unit))):= if K<(p0.length:Int) then((ix p0 K).bind λU=> if(p1.length:Int)<=K then(some (.done (Sum.inl 1))) else((ix p1 K).bind λY=> (f113 fu_ U Y).bind λO=> if O≠0 then(some (.done (Sum.inl O))) else((Ax (K+1)).bind λZ=> some (.more Z)))) else(some (.done (Sum.inr ())))
def f112(fu_:Nat)(p0:Aw)(p1:Aw):Option Int:= Option.bind (iter (Nw fu_ p0 p1) fu_ 0) λK=> Sum.elim (λr=>some r) (λO=> if(p0.length:Int)<(p1.length:Int) then(some (-1)) else(some 0)) K
theorem Zx{a1:Ao}{c2:Nat}{U:Ao}{Y:Nat}{p0:Aw}{p1:Aw}(a9:Al AA E a1 c2 p0)(bb:Al AA E U Y p1){fu_:Nat}{r:Int}(aw:f112 fu_ p0 p1=some r):AQ J 112 [sV a1 p0 c2,sV U p1 Y,(fV 113)] E [] (λw E' B'=>w=iV r/\B'= []):=by
 refine Bn func112 λQ cY cs H be Z=>?_;unfold f112 at aw;refine C 8 V (JL.ln underlying80 V V V ?_);obtain⟨ay,bi,ag⟩:=bs aw;refine C 2 V (Bt (λL s=>∃(az:Unit) (a0:LH),ay=Sum.inr az/\Jm E H a0 [] [(0,sV a1 p0 c2),(1,sV U p1 Y)] L s) ?_ ?_)
 ·rintro _ _ ⟨az,a0,rfl,rfl,rfl,a2,a3⟩;have bn:=elim_inr ag;refine C 4 V (JL.ln underlying80 V V V ?_);refine C 1 V (JL.ln underlying80 V V V ?_);refine C 2 V (AW bn (λbo bv=>?_) (λbo bw=>?_))
  ·refine C 4 V ?_;obtain rfl:=oi bv;exact AZ func112 V V (Z a2 V ⟨V,V⟩ a3)
  ·refine C 5 V ?_;obtain rfl:=oi bw;exact AZ func112 V V (Z a2 V ⟨V,V⟩ a3)
 ·intro bx;refine JL.block (DX bi (λal=> []) (λal=> [(0,sV a1 p0 c2),(1,sV U p1 Y),(2,(fV 113)),(11,sV a1 p0 c2),(12,iV (p0.length:Int)),(13,iV al)]) Ay be ?_);rintro al bz K a4 am ⟨cZ,O⟩ b0;have a5:=O;unfold Nw at a5;refine C 5 V (AW a5 (λb1 b2=>?_) (λb1 b3=>?_))
  ·obtain⟨ap,b4,b5⟩:=bs b2;refine C 6 V (JS.ix (a9.Ah K) b4 underlying80 Bg ?_);rintro c0 c1 _ ⟨_,_,rfl,rfl,⟨_,_,rfl,rfl,rfl⟩⟩ b6;refine Cx b6 Ef Bg V V (BV a4 BO λc3 ca=>?_);refine C 1 V (BJ 0 ca Bg λcc=>?_);refine Eh 0 cc V λc4 ac ce a6=>C 6 V (JL.ln underlying80 V V V ?_);refine C 2 V (AW b5 (λci co=>?_) (λci cp=>?_))
   ·refine C 4 V ?_;obtain rfl:=oi co;obtain rfl:=am _ O;have ct:=elim_inl ag;obtain rfl:=oi ct;exact AZ func112 V V (Z (K.Ad ac) V ⟨V,V⟩ a6)
   ·obtain⟨aq,cw,cy⟩:=bs cp;refine C 5 V (JS.ix (bb.Ah (K.Ad ac)) cw underlying80 Bg ?_);rintro c5 c6 _ ⟨_,_,rfl,rfl,⟨_,_,rfl,rfl,rfl⟩⟩ cG;refine Cx cG Ef Bg V V (BV a6 BO λc7 cH=>?_);refine BJ 1 cH Bg λcI=>?_;refine Eh 1 cI V λc8 av cJ cK=>C 4 V (Cx (ce.Ah av) Ef Bg V V ?_);refine Cx cJ Ef Bg V V ?_;obtain⟨c9,cM,cN⟩:=bs cy;refine KZ (vs:= [.agg #[iV ap.1,iV ap.2.1,iV ap.2.2],.agg #[iV aq.1,iV aq.2.1,iV aq.2.2]]) (TK cM) V V V V (Ba func113 V) V cK ?_;rintro _ da _ a7 ⟨rfl,rfl⟩ a8;refine C 7 V (AW cN (λcO cP=>?_) (λcO cQ=>?_))
    ·refine C 5 V ?_;obtain rfl:=oi cP;obtain rfl:=am _ O;have cR:=elim_inl ag;obtain rfl:=oi cR;exact AZ func112 V V (Z (((K.Ad ac).Ad av).Ad a7) V ⟨V,V⟩ a8)
    ·obtain⟨cT,cV,cW⟩:=bs cQ;refine C 3 V (Br cV V V V ?_);refine C 2 V ?_;obtain rfl:=oi cW;exact b0 cT (((K.Ad ac).Ad av).Ad a7) a8 V O
  ·refine JL.exit V ?_;obtain rfl:=oi b3;have cX:ay=(Sum.inr ()):=(am _ O).symm;exact AF (bx _ _ ⟨(),bz,cX,V,V,K,a4⟩) V
def f74(fu_:Nat)(p0:Aw)(p1:Aw):Option Int:= (f112 fu_ p0 p1).bind λK=> some K
theorem Im{a1:Ao}{c2:Nat}{K:Ao}{O:Nat}{p0:Aw}{p1:Aw}(Y:Al AA E a1 c2 p0)(Z:Al AA E K O p1){fu_:Nat}{r:Int}(U:f74 fu_ p0 p1=some r):AQ J 74 [sV a1 p0 c2,sV K p1 O] E [] (λw E' B'=>w=iV r/\B'= []):=by
 refine Bn func74 λQ av cs H ac ag=>?_;unfold f74 at U;obtain⟨aw,al,am⟩:=bs U;refine C 8 V (CF (Zx Y Z al) V V (Ba func112 V) ac λay ap aq=>?_);refine C 2 V ?_;obtain rfl:=oi am;exact AZ func74 V V (ag ap V ⟨V,V⟩ aq)
def f73(fu_:Nat)(p0:Aw)(p1:Aw):Option Bool:= (f74 fu_ p0 p1).bind λK=> some (decide (K<0))
theorem bV{a1:Ao}{c2:Nat}{K:Ao}{O:Nat}{p0:Aw}{p1:Aw}(Y:Al AA E a1 c2 p0)(Z:Al AA E K O p1){fu_:Nat}{r:Bool}(U:f73 fu_ p0 p1=some r):AQ J 73 [sV a1 p0 c2,sV K p1 O] E [] (λw E' B'=>w= .bool r/\B'= []):=by
 refine Bn func73 λQ av cs H ac ag=>?_;unfold f73 at U;obtain⟨aw,al,am⟩:=bs U;refine C 8 V (CF (Im Y Z al) V V H3 ac λay ap aq=>?_);refine C 3 V ?_;obtain rfl:=oi am;exact AZ func73 V V (ag ap V ⟨V,V⟩ aq)
def f72(fu_:Nat)(p0:Aw×Bool)(p1:Aw):Option ((Aw×Bool)):= Option.bind (if(!p0.2)=true then(some true) else((f73 fu_ p1 p0.1).bind λK=> some K)) λO=> Option.bind (if O=true then(some (p1,true)) else(some p0)) λU=> some U
theorem bm{bk:Nat}{a1:Ao}{c2:Nat}{K:Ao}{O:Nat}{p0:Aw×Bool}{p1:Aw}(ap:Al AA E a1 c2 p0.1)(aq:Al AA E K O p1){fu_:Nat}{r:(Aw×Bool)}(av:f72 fu_ p0 p1=some r):AQ J 72 [Aj bk 0,sV K p1 O,(fV 73)] E [(bk,.cells #[sV a1 p0.1 c2,.bool p0.2] 82 (0,0))] (λw E' B'=>∃(aw:Ao) (ay:Nat),w= .tuple #[]/\B'= [(bk,.cells #[sV aw r.1 ay,.bool r.2] 82 (0,0))]/\Al AA E' aw ay r.1):=by
 refine Bn func72 λQ b6 cs H Y a3=>?_;unfold f72 at av;refine C 4 V (JL.fd underlying82 LG V V V ?_);refine Am (v:= .bool p0.2) V (λρ h=>Yl.load Oz (h _ _ V) (BI (j:=0) (off:=1) Y V V)) (Am (v:= .bool (!p0.2)) V (λρ h=>Yl.not (h _ _ V)) ?_);obtain⟨a4,a5,a6⟩:=bs av;refine C 1 V (Ie [] (λL s=>∃(U:LH),Jm E H U [bX bk #[sV a1 p0.1 c2,.bool p0.2] 82] [(0,Aj bk 0),(1,sV K p1 O),(19,.bool a4)] L s) ?_ ?_)
 ·rintro _ _ ⟨U,rfl,rfl,ag,az⟩;obtain⟨al,a7,a8⟩:=bs a6;refine JL.done (Bt (λL s=>∃(am:LH) (Z:Ao) (ac:Nat),Jn U H am [bX bk #[sV Z al.1 ac,.bool al.2] 82] [] L s (Al AA am Z ac al.1)) ?_ ?_)
  ·rintro _ _ ⟨am,Z,ac,rfl,rfl,a9,bb,be⟩;obtain rfl:=oi a8;exact JL.fin (v:= .tuple #[]) V V (Bz.list func72 V (vs:= []) trivial) (a3 (ag.Ad a9) V ⟨Z,ac,V,V,be⟩ bb)
  ·intro a0;refine CE a7 (λbi bn=>?_) (λbi bo=>?_)
   ·refine C 5 V (JL.fd underlying82 Bi V V V ?_);refine BJ 0 az Bi λbv=>?_;refine C 1 V (JL.fd underlying82 LG V V V ?_);refine BJ 0 bv LG λbw=>?_;refine JL.done ?_;obtain rfl:=oi bn;exact AF (a0 _ _ ⟨U,K,O,V,V,Ay,bw,(aq.Ah ag)⟩) V
   ·refine JL.skip ?_;obtain rfl:=oi bo;exact AF (a0 _ _ ⟨U,a1,c2,V,V,Ay,az,(ap.Ah ag)⟩) V
 ·intro a2;refine DZ 11 a5 (λbx bz=>?_) (λbx b0=>?_)
  ·refine C 8 V ?_;obtain rfl:=oi bz;exact AF (a2 _ _ ⟨E,V,V,Ay,Y⟩) V
  ·refine C 4 V (JL.fd underlying82 Bi V V V ?_);refine Am (v:= sV a1 p0.1 c2) V (λρ h=>Yl.load BC (h _ _ V) (BI (j:=0) (off:=0) Y V V)) ?_;obtain⟨ca,b1,b2⟩:=bs b0;refine KZ (vs:= [sV K p1 O,sV a1 p0.1 c2]) (bV aq ap b1) V V V V (Ba func73 V) V Y ?_;rintro _ b3 _ b4 ⟨rfl,rfl⟩ b5;refine C 1 V ?_;obtain rfl:=oi b2;exact AF (a2 _ _ ⟨b3,V,V,b4,b5⟩) V
variable {J:Judge Tryz.prog}
def SO(fu_:Nat)(O:List Int)(K:(AH)×Int):Option (Bm ((AH)×Int) ((AH))):= if K.2<(O.length:Int) then((ix O K.2).bind λU=> (Ax (((Bs K.1 U).getD 0)+1)).bind λY=> (Ax (K.2+1)).bind λZ=> some (.more ((CP K.1 U Y),Z))) else(some (.done K.1))
def S9(fu_:Nat)(p0:A4)(K:(List AH)×Int):Option (Bm ((List AH)×Int) ((List AH))):= if K.2<(p0.1.length:Int) then((ix p0.1 K.2).bind λO=> Option.bind (iter (SO fu_ O) fu_ (([]:AH),0)) λU=> (room K.1 U).bind λY=> (Ax (K.2+1)).bind λZ=> some (.more (Y,Z))) else(some (.done K.1))
def f120(fu_:Nat)(p0:A4):Option ((List AH)):= Option.bind (iter (S9 fu_ p0) fu_ ([],0)) λK=> some K
theorem aA{a1:Ao}{c2:Nat}{bb:Ao}{be:Nat}{p0:A4}(ca:Al (rL rI) E a1 c2 p0.1)(dE:Al AA E bb be p0.2){fu_:Nat}{r:(List AH)}(bi:f120 fu_ p0=some r):AQ J 120 [.agg #[sV a1 p0.1 c2,sV bb p0.2 be]] E [] (λw E' B'=>∃(bn:Ao) (bo:Nat),w= sV bn r bo/\B'= []/\Al (rM rI false rI false) E' bn bo r):=by
 refine Bn func120 λQ dF cs H cc ce=>?_;unfold f120 at bi;refine C 2 V (Dv cc λdG ay bv ci co=>?_);refine C 9 V (JL.fd underlying77 Ck V V V ?_);refine Cm 0 ci underlying25 FH FT ?_;refine JL.ln underlying22 V V V ?_;obtain⟨bw,cp,ct⟩:=bs bi;refine C 2 V (Bt (λL s=>∃(az:LH) (am:Ao) (ap:Nat) (a0:Seg),Jn ay H az [a0] [(3,sV am bw ap)] L s (OL 197 (rM rI false rI false) az am ap a0 bw)) ?_ ?_)
 ·rintro _ _ ⟨az,am,ap,a0,rfl,rfl,cw,cy,cG⟩;refine C 5 V (B9 0 cG cy V λdH cH cI cJ=>?_);obtain rfl:=oi ct;exact AZ func120 V V (ce ((bv.Ad cw).Ad cH) V ⟨am,ap,V,V,cI⟩ cJ)
 ·intro cK;refine JL.block (CB cp (λL s K=>∃(O:LH) (U:Ao) (Y:Nat) (ac:Seg),Jn ay H O [ac] [(3,sV U K.1 Y),(11,sV a1 p0.1 c2),(12,iV (p0.1.length:Int)),(13,iV K.2)] L s (OL 197 (rM rI false rI false) O U Y ac K.1)) ⟨ay,none,0,[],V,V,Ay,co,OL.nil⟩ ?_);rintro _ _ K ⟨O,U,Y,ac,rfl,rfl,a2,bx,bz⟩ cM ⟨dI,a3⟩ cN;have b0:=a3;unfold S9 at b0;refine C 5 V (AW b0 (λcO cP=>?_) (λcO cQ=>?_))
  ·obtain⟨b1,cR,cT⟩:=bs cP;refine C 5 V (JS.ix (ca.Ah (bv.Ad a2)) cR underlying22 FG ?_);rintro dJ dK _ ⟨cV,cW,rfl,cX⟩ cY;refine C8 0 cY Jx V V V (C 4 V ?_);refine JS.makeMap V V V bx λag cZ=>C 6 V (JL.ln underlying28 V V V ?_);obtain⟨b2,c0,c1⟩:=bs cT;refine C 2 V (Bt (λL s=>∃(a4:LH) (aq:Obj),Jn O H a4 [ac,[(ag,aq)]] [(3,sV U K.1 Y),(6,.map (some ag)),(11,sV a1 p0.1 c2),(12,iV (p0.1.length:Int)),(13,iV K.2)] L s (BE rI false rI false a4 aq b2)) ?_ ?_)
   ·rintro _ _ ⟨a4,aq,rfl,rfl,b3,c3,c4⟩;refine C 3 V (O1 1 c3 V λb4 a5 c5 c6=>?_);have c7:BE rI false rI false b4 aq b2:=(c4.Ah a5);obtain⟨c8,c9,da⟩:=bs c1;refine JS.app (pp:=(rM rI false rI false)) (v:= .map (some ag)) (a:=U) (c:=Y) 0 c9 V V V V (λ_=>V) V (λ_=>V) V V V underlying156 underlying156 underlying156 Hx (Dl type197) (Ds type197) V (by decide) (by decide) (by decide) (by decide) (bz.Ah (b3.Ad a5)) ⟨_,_,V,c5,c7⟩ c6 V λdL db dc dd de df=>?_;obtain⟨dg,dh,di⟩:=bs da;refine C 4 V (Br dh V V V ?_);refine C 2 V ?_;obtain rfl:=oi di;exact AF (cN _ _ (c8,dg) ⟨b4,db,dc,dd,V,V,((a2.Ad b3).Ad a5),df,de⟩ a3) V
   ·intro dj;refine JL.block (CB c0 (λL s Z=>∃(al:LH) (av:Obj),Jn O H al [ac,[(ag,av)]] [(3,sV U K.1 Y),(6,.map (some ag)),(11,sV a1 p0.1 c2),(12,iV (p0.1.length:Int)),(13,iV K.2),(18,sV cV b1 cW),(19,iV (b1.length:Int)),(20,iV Z.2)] L s (BE rI false rI false al av Z.1)) ⟨O,(.map #[] 0),V,V,Ay,cZ,BE.nil⟩ ?_);rintro _ _ Z ⟨al,av,rfl,rfl,a6,a7,a8⟩ dk ⟨dM,a9⟩ dn;have b5:=a9;unfold SO at b5;refine C 5 V (AW b5 (λdp dq=>?_) (λdp dr=>?_))
    ·obtain⟨aw,dt,du⟩:=bs dq;refine C 5 V (JS.ix (cX.Ah a6) dt underlying28 AG ?_);rintro dN dO _ rfl dv;refine C8 0 dv A7 V V V (C 5 V ?_);refine Am (v:=iV ((Bs Z.1 aw).getD 0)) V (λρ h=>Yl.lookup (ok:=false) (xs:=Z.1) (x0:=aw) (z0:=0) I0 underlying197 CI ⟨_,V,V⟩ a8 ⟨_,V,V⟩ (by rintro _ ⟨_,rfl,rfl⟩;rfl) (h _ _ V) (h _ _ V) (Dr (j:=1) (i:=0) a7 V V)) ?_;obtain⟨b6,dw,dx⟩:=bs du;refine Br dw V V V (JS.mapUpdate (xs:=Z.1) (x0:=aw) (v0:=b6) 1 I0 underlying197 a8 ⟨_,V,V⟩ ⟨_,V,V⟩ a7 V V V V V V V λdy dz dA=>?_);obtain⟨dB,dC,dD⟩:=bs dx;refine C 3 V (Br dC V V V ?_);refine C 2 V ?_;obtain rfl:=oi dD;exact AF (dn _ _ ((CP Z.1 aw b6),dB) ⟨al,dy,V,V,a6,dA,dz⟩ a9) V
    ·refine JL.exit V ?_;obtain rfl:=oi dr;obtain rfl:=dk _ a9;exact AF (dj _ _ ⟨al,av,V,V,a6,a7,a8⟩) V
  ·refine JL.exit V ?_;obtain rfl:=oi cQ;obtain rfl:=cM _ a3;exact AF (cK _ _ ⟨O,U,Y,ac,V,V,a2,bx,bz⟩) V
def TJ(fu_:Nat)(p0:A4)(O:(List Int))(K:(List Int)×Int):Option (Bm ((List Int)×Int) ((List Int))):= if K.2<5 then((ix O K.2).bind λU=> Option.bind (if K.2<(p0.1.length:Int) then((ix p0.1 K.2).bind λY=> (f85 fu_ Y).bind λZ=> (Ax (-(U))).bind λac=> some (decide (Z<ac))) else(some false)) λag=> Option.bind (if ag=true then((room K.1 K.2).bind λal=> some al) else(some K.1)) λam=> (Ax (K.2+1)).bind λap=> some (.more (am,ap))) else(some (.done K.1))
def f39(fu_:Nat)(p0:A4):Option ((List Int)×Int):= (f70 fu_ p0 ([])).bind λK=> if K.2≠0 then(some ([],K.2)) else((f84 fu_ K.1).bind λO=> Option.bind (iter (TJ fu_ p0 O) fu_ ([],0)) λU=> some (U,0))
theorem br{a1:Ao}{c2:Nat}{bo:Ao}{bv:Nat}{p0:A4}(bw:Al (rL rI) E a1 c2 p0.1)(cc:Al AA E bo bv p0.2){fu_:Nat}{r:(List Int)×Int}(bx:f39 fu_ p0=some r):AQ J 39 [.agg #[sV a1 p0.1 c2,sV bo p0.2 bv]] E [] (λw E' B'=>∃(bz:Ao) (b0:Nat),w= .tuple #[sV bz r.1 b0,iV r.2]/\B'= []/\Al rI E' bz b0 r.1):=by
 refine Bn func39 λQ dO cs H ce b1=>?_;unfold f39 at bx;refine C 2 V (Dv ce λa3 dQ al a4 ci=>?_);refine C 5 V (Cx a4 Ee Ck V V ?_);obtain⟨dR,co,cp⟩:=bs bx;refine BT (Ln (bw.Ah al) (cc.Ah al) Al.nil co) V V KR ci ?_;rintro _ dS _ am ⟨dT,dU,dV,dW,rfl,rfl,ct,cw⟩ cy;refine C 3 V (BV cy H5 λdX cG=>?_);refine BJ 3 cG Eg λcH=>?_;refine Eh 3 cH V λdY O cI b2=>C 8 V (AW cp (λcJ cK=>?_) (λcJ cM=>?_))
 ·refine C 6 V ?_;obtain rfl:=oi cK;exact AZ func39 V V (b1 ((al.Ad am).Ad O) V ⟨none,0,V,V,Al.nil⟩ b2)
 ·refine C 8 V (Cx cI Gd Eg V V ?_);obtain⟨dZ,cN,cO⟩:=bs cM;refine BT (Qu (ct.Ah O) (cw.Ah O) cN) V V OE b2 ?_;rintro _ a5 _ aq ⟨a6,rfl,rfl,cP⟩ cQ;obtain⟨b3,cR,cT⟩:=bs cO;refine C 2 V (Bt (λL s=>∃(a7:LH) (av:Ao) (aw:Nat) (a8:Seg),Jn a5 H a7 [a8] [(6,sV av b3 aw)] L s (OL 3 rI a7 av aw a8 b3)) ?_ ?_)
  ·rintro _ _ ⟨a7,av,aw,a8,rfl,rfl,cV,cW,cX⟩;refine C 6 V (B9 0 cX cW V λea cY cZ c0=>?_);obtain rfl:=oi cT;exact AZ func39 V V (b1 (((((al.Ad am).Ad O).Ad aq).Ad cV).Ad cY) V ⟨av,aw,V,V,cZ⟩ c0)
  ·intro c1;refine JL.block (CB cR (λL s K=>∃(Z:LH) (U:Ao) (Y:Nat) (ac:Seg),Jn a5 H Z [ac] [(1,Aj a3 0),(6,sV U K.1 Y),(18,.agg a6.toArray),(19,iV K.2)] L s (OL 3 rI Z U Y ac K.1)) ⟨a5,none,0,[],V,V,Ay,cQ,OL.nil⟩ ?_);rintro _ _ K ⟨Z,U,Y,ac,rfl,rfl,ag,a9,bb⟩ c3 ⟨eb,be⟩ c4;have b4:=be;unfold TJ at b4;refine C 5 V (AW b4 (λc5 c6=>?_) (λc5 c7=>?_))
   ·obtain⟨ec,c8,c9⟩:=bs c6;refine C 6 V (TI (Rp.Ah _ ag cP) c8 V V V V V underlying105 AG A7 ?_ (λ_=>V));rintro _ rfl;refine C 6 V (Cm 0 (a4.Ah (((am.Ad O).Ad aq).Ad ag)) underlying25 FH FT ?_);refine JL.ln underlying22 V V V ?_;obtain⟨da,db,dc⟩:=bs c9;refine C 2 V (Ie [] (λL s=>∃(ap:LH),Jm Z H ap [ac] [(1,Aj a3 0),(6,sV U K.1 Y),(7,iV K.2),(18,.agg a6.toArray),(19,iV K.2),(38,.bool da)] L s) ?_ ?_)
    ·rintro _ _ ⟨ap,rfl,rfl,bi,b5⟩;obtain⟨bn,dd,de⟩:=bs dc;refine JL.done (Bt (λL s=>∃(ay:LH) (az:Ao) (a0:Nat) (a2:Seg),Jn ap H ay [a2] [(1,Aj a3 0),(6,sV az bn a0),(18,.agg a6.toArray),(19,iV K.2)] L s (OL 3 rI ay az a0 a2 bn)) ?_ ?_)
     ·rintro _ _ ⟨ay,az,a0,a2,rfl,rfl,df,dg,dh⟩;obtain⟨di,dj,dk⟩:=bs de;refine C 2 V (Br dj V V V ?_);refine C 2 V ?_;obtain rfl:=oi dk;exact AF (c4 _ _ (bn,di) ⟨ay,az,a0,a2,V,V,((ag.Ad bi).Ad df),dg,dh⟩ be) V
     ·intro b6;refine CE dd (λdn dp=>?_) (λdn dq=>?_)
      ·obtain⟨ed,dr,dt⟩:=bs dp;refine C 3 V (JS.app (pp:=rI) (v:=iV K.2) (a:=U) (c:=Y) 0 dr V V V V (λ_=>V) V (λ_=>V) V V V underlying28 underlying28 underlying28 AG (Dl type3) CI V (by decide) (by decide) (by decide) (by decide) (bb.Ah bi) V b5 V λee du dv dw dx dy=>?_);refine C 2 V ?_;obtain rfl:=oi dt;exact AF (b6 _ _ ⟨ap,du,dv,dw,V,V,Ay,dy,dx⟩) V
      ·refine JL.skip ?_;obtain rfl:=oi dq;exact AF (b6 _ _ ⟨ap,U,Y,ac,V,V,Ay,b5,(bb.Ah bi)⟩) V
    ·intro ca;refine HN 28 db (λdz dA=>?_) (λdz dB=>?_)
     ·refine Cm 0 (a4.Ah (((am.Ad O).Ad aq).Ad ag)) underlying25 FH FT ?_;obtain⟨ef,dC,dD⟩:=bs dA;refine C 1 V (JS.ix (bw.Ah ((((al.Ad am).Ad O).Ad aq).Ad ag)) dC underlying22 FG ?_);rintro eg eh _ ⟨ei,ej,rfl,dE⟩ dF;refine C8 0 dF Jx V V V ?_;obtain⟨ek,dG,dH⟩:=bs dD;refine CF (HK dE dG) V V Hw a9 λdI dJ dK=>?_;obtain⟨dL,dM,dN⟩:=bs dH;refine C 1 V (Am (v:=iV dL) V (λρ h=>HC (h _ _ V) dM) ?_);refine C 2 V ?_;obtain rfl:=oi dN;exact AF (ca _ _ ⟨dI,V,V,dJ,dK⟩) V
     ·refine C 10 V ?_;obtain rfl:=oi dB;exact AF (ca _ _ ⟨Z,V,V,Ay,a9⟩) V
   ·refine JL.exit V ?_;obtain rfl:=oi c7;obtain rfl:=c3 _ be;exact AF (c1 _ _ ⟨Z,U,Y,ac,V,V,ag,a9,bb⟩) V
def NC(fu_:Nat)(p0:List Int)(p1:Int)(K:Int):Option (Bm Int ((Int)⊕(Unit))):= if K<(p0.length:Int) then((ix p0 K).bind λO=> if p1=O then(some (.done (Sum.inl K))) else((Ax (K+1)).bind λU=> some (.more U))) else(some (.done (Sum.inr ())))
def f128(fu_:Nat)(p0:List Int)(p1:Int):Option Int:= Option.bind (iter (NC fu_ p0 p1) fu_ 0) λK=> Sum.elim (λr=>some r) (λO=> some (-1)) K
theorem ZX{a1:Ao}{c2:Nat}{p0:List Int}{p1:Int}(aw:Al rI E a1 c2 p0){fu_:Nat}{r:Int}(Z:f128 fu_ p0 p1=some r):AQ J 128 [sV a1 p0 c2,iV p1] E [] (λw E' B'=>w=iV r/\B'= []):=by
 refine Bn func128 λQ b2 cs H ay ac=>?_;unfold f128 at Z;refine C 8 V (JL.ln underlying28 V V V ?_);obtain⟨ag,az,al⟩:=bs Z;refine C 2 V (Bt (λL s=>∃(am:Unit) (ap:LH),ag=Sum.inr am/\Jm E H ap [] [] L s) ?_ ?_)
 ·rintro _ _ ⟨am,ap,rfl,rfl,rfl,a0,a2⟩;have a3:=elim_inr al;refine C 4 V ?_;obtain rfl:=oi a3;exact AZ func128 V V (ac a0 V ⟨V,V⟩ a2)
 ·intro a4;refine JL.block (DX az (λU=> []) (λU=> [(0,sV a1 p0 c2),(1,iV p1),(7,iV (p0.length:Int)),(8,iV U)]) Ay ay ?_);rintro U a5 K Y aq ⟨b3,O⟩ a6;have av:=O;unfold NC at av;refine C 5 V (AW av (λa7 a8=>?_) (λa7 a9=>?_))
  ·obtain⟨b4,bb,be⟩:=bs a8;refine C 13 V (JS.ix (aw.Ah K) bb underlying28 AG ?_);rintro b5 b6 _ rfl bi;refine C8 0 bi A7 V V V (C 2 V ?_);refine AW be (λbn bo=>?_) (λbn bv=>?_)
   ·refine C 5 V ?_;obtain rfl:=oi bo;obtain rfl:=aq _ O;have bw:=elim_inl al;obtain rfl:=oi bw;exact AZ func128 V V (ac K V ⟨V,V⟩ Y)
   ·obtain⟨bx,bz,b0⟩:=bs bv;refine C 3 V (Br bz V V V ?_);refine C 2 V ?_;obtain rfl:=oi b0;exact a6 bx K Y V O
  ·refine JL.exit V ?_;obtain rfl:=oi a9;have b1:ag=(Sum.inr ()):=(aq _ O).symm;exact AF (a4 _ _ ⟨(),a5,b1,V,V,K,Y⟩) V
def f82(fu_:Nat)(p0:List Int)(p1:Int):Option Bool:= (f128 fu_ p0 p1).bind λK=> some (decide (0<=K))
theorem b9{a1:Ao}{c2:Nat}{p0:List Int}{p1:Int}(O:Al rI E a1 c2 p0){fu_:Nat}{r:Bool}(K:f82 fu_ p0 p1=some r):AQ J 82 [sV a1 p0 c2,iV p1] E [] (λw E' B'=>w= .bool r/\B'= []):=by
 refine Bn func82 λQ am cs H U Y=>?_;unfold f82 at K;obtain⟨ap,Z,ac⟩:=bs K;refine C 8 V (CF (ZX O Z) V V (Ba func128 V) U λaq ag al=>?_);refine C 3 V ?_;obtain rfl:=oi ac;exact AZ func82 V V (Y ag V ⟨V,V⟩ al)
def Ma(fu_:Nat)(O:A4×Int)(K:(List ((Int×Int)×Bool))×Int):Option (Bm ((List ((Int×Int)×Bool))×Int) ((List ((Int×Int)×Bool)))):= if K.2<(O.1.2.length:Int) then((ix O.1.2 K.2).bind λU=> (Ax (K.2+1)).bind λY=> some (.more ((CP K.1 (U.1,U.2.1) true),Y))) else(some (.done K.1))
def Mc(fu_:Nat)(U:A4×Int)(Y:(List ((Int×Int)×Bool)))(O:List Int)(K:Be×Int):Option (Bm (Be×Int) (Be)):= if K.2<(U.1.1.length:Int) then(Option.bind ((f82 fu_ O K.2).bind λZ=> Option.bind (if Z=true then(some true) else(if 0<(O.length:Int) then((Ax ((O.length:Int) - 1)).bind λac=> (ix O ac).bind λag=> some (!((Bs Y (ag,K.2)).getD false))) else(some false))) λal=> if al=true then(some K.1) else((CN O ([K.2]:List Int)).bind λam=> (room K.1 am).bind λap=> some ap)) λaq=> (Ax (K.2+1)).bind λav=> some (.more (aq,av))) else(some (.done K.1))
def Mf(fu_:Nat)(Z:A4×Int)(U:(List ((Int×Int)×Bool)))(Y:Be)(O:Be×Int):Option (Bm (Be×Int) (((List Int)×Int)⊕(Be))):= if O.2<(Y.length:Int) then((ix Y O.2).bind λK=> Option.bind (if 1<(K.length:Int) then((Ax ((K.length:Int) - 1)).bind λac=> (ix K ac).bind λag=> (ix K (0)).bind λal=> some ((Bs U (ag,al)).getD false)) else(some false)) λam=> if am=true then(some (.done (Sum.inl (K,0)))) else(Option.bind (iter (Mc fu_ Z U K) fu_ (O.1,0)) λap=> (Ax (O.2+1)).bind λaq=> some (.more (ap,aq)))) else(some (.done (Sum.inr O.1)))
def NK(fu_:Nat)(U:A4×Int)(Y:(List ((Int×Int)×Bool)))(K:Be):Option (Bm (Be) (((List Int)×Int)⊕(Unit))):= if 0<(K.length:Int) then(Option.bind (iter (Mf fu_ U Y K) fu_ ([],0)) λZ=> Sum.elim (λr=>some (.done (Sum.inl r))) (λO=> if(O.length:Int)=0 then(some (.done (Sum.inr ()))) else(some (.more O))) Z) else(some (.done (Sum.inr ())))
def f33(fu_:Nat)(p0:A4):Option ((List Int)×Int):= (f70 fu_ p0 ([])).bind λK=> if K.2≠0 then(some ([],K.2)) else(Option.bind (iter (Ma fu_ K) fu_ (([]:List ((Int×Int)×Bool)),0)) λO=> Option.bind (iter (NK fu_ K O) fu_ ([[]]:Be)) λU=> Sum.elim (λr=>some r) (λY=> some ([],11)) U)
theorem Qy{a1:Ao}{c2:Nat}{da:Ao}{db:Nat}{p0:A4}(dL:Al (rL rI) E a1 c2 p0.1)(dM:Al AA E da db p0.2){fu_:Nat}{r:(List Int)×Int}(dc:f33 fu_ p0=some r):AQ J 33 [.agg #[sV a1 p0.1 c2,sV da p0.2 db]] E [] (λw E' B'=>∃(dd:Ao) (de:Nat),w= .tuple #[sV dd r.1 de,iV r.2]/\B'= []/\Al rI E' dd de r.1):=by
 refine Bn func33 λQ gO cs H dN cR=>?_;unfold f33 at dc;refine C 2 V (Dv dN λgP gQ bx dO dQ=>?_);refine C 6 V (Cx dO Ee Ck V V ?_);obtain⟨bz,dR,dS⟩:=bs dc;refine BT (Ln (dL.Ah bx) (dM.Ah bx) Al.nil dR) V V KR dQ ?_;rintro _ gR _ cT ⟨gS,gT,dT,dU,rfl,rfl,gU,dV⟩ dW;refine C 3 V (BV dW H5 λag dX=>?_);refine BJ 3 dX Eg λdY=>?_;refine Eh 3 dY V λcV b6 df dg=>C 8 V (AW dS (λdZ ea=>?_) (λdZ eb=>?_))
 ·refine C 6 V ?_;obtain rfl:=oi ea;exact AZ func33 V V (cR ((bx.Ad cT).Ad b6) V ⟨none,0,V,V,Al.nil⟩ dg)
 ·refine C 3 V (JS.makeMap V V V dg λK ec=>?_);refine C 5 V (JL.fd underlying77 Ck V V V ?_);refine Cm 1 df underlying25 DR EZ ?_;refine JL.ln underlying23 V V V ?_;obtain⟨a9,ed,ee⟩:=bs eb;refine C 2 V (Bt (λL s=>∃(bb:LH) (ac:Obj),Jn cV H bb [[(K,ac)]] [(4,Aj ag 0),(6,.map (some K))] L s (BE Ep true rB false bb ac a9)) ?_ ?_)
  ·rintro _ _ ⟨bb,ac,rfl,rfl,cW,ef,dh⟩;refine C 2 V (F1 (pp:=(rL rI)) [nS] [[]] V V V underlying22 FG KS (by decide) V V V ⟨⟨_,_,V,Al.nil⟩,trivial⟩ ef λeg eh ei ej=>?_);refine C 3 V (JL.label ?_);obtain⟨cX,ek,di⟩:=bs ee;refine JL.seq (Bt (λL s=>∃(dj:Unit) (dk:LH),cX=Sum.inr dj/\Jm bb H dk [] [] L s) ?_ ?_)
   ·rintro _ _ ⟨dj,dk,rfl,rfl,rfl,el,em⟩;have en:=elim_inr di;refine C 5 V ?_;obtain rfl:=oi en;exact AZ func33 V V (cR ((((bx.Ad cT).Ad b6).Ad cW).Ad el) V ⟨none,0,V,V,Al.nil⟩ em)
   ·intro dn;refine JL.block (CB ek (λL s O=>∃(a0:LH) (al:Ao) (am:Nat) (ap:Seg),Jn bb H a0 [[(K,ac)],ap] [(4,Aj ag 0),(6,.map (some K)),(9,sV al O am)] L s (OL 28 (rL rI) a0 al am ap O)) ⟨bb,(AP eg),1,eh,V,V,Ay,ej,ei⟩ ?_);rintro _ _ O ⟨a0,al,am,ap,rfl,rfl,a2,dp,eo⟩ cY ⟨gV,b0⟩ ep;have dq:=b0;unfold NK at dq;refine C 4 V (JL.ln underlying22 V V V ?_);refine C 2 V (AW dq (λer et=>?_) (λer eu=>?_))
    ·refine C 10 V (JL.ln underlying22 V V V ?_);obtain⟨dr,ew,dt⟩:=bs et;refine C 2 V (Bt (λL s=>∃(b1:Be) (b2:LH) (ca:Ao) (cc:Nat) (ce:Seg),dr=Sum.inr b1/\Jn a0 H b2 [[(K,ac)],ce] [(4,Aj ag 0),(6,.map (some K)),(10,sV ca b1 cc)] L s (OL 28 (rL rI) b2 ca cc ce b1)) ?_ ?_)
     ·rintro _ _ ⟨b1,b2,ca,cc,ce,rfl,rfl,rfl,du,dv,ex⟩;have ey:=elim_inr dt;refine C 8 V (JL.ln underlying22 V V V ?_);refine C 2 V (AW ey (λez eA=>?_) (λez eB=>?_))
      ·refine JL.exit V (JS.drop 0 dv V λeC=>?_);refine JS.drop 1 eC V λeD=>?_;obtain rfl:=oi eA;have eE:cX=(Sum.inr ()):=(cY _ b0).symm;exact AF (dn _ _ ⟨(),b2,eE,V,V,(a2.Ad du),eD⟩) V
      ·refine C 2 V ?_;obtain rfl:=oi eB;exact AF (ep _ _ b1 ⟨b2,ca,cc,ce,V,V,(a2.Ad du),dv,ex⟩ b0) V
     ·intro eF;refine JL.block (CB ew (λL s Y=>∃(av:LH) (be:Ao) (bi:Nat) (bn:Seg),Jn a0 H av [[(K,ac)],ap,bn] [(4,Aj ag 0),(6,.map (some K)),(10,sV be Y.1 bi),(43,sV al O am),(44,iV (O.length:Int)),(45,iV Y.2)] L s (OL 28 (rL rI) av be bi bn Y.1)) ⟨a0,none,0,[],V,V,Ay,dp,OL.nil⟩ ?_);rintro _ _ Y ⟨av,be,bi,bn,rfl,rfl,a3,b3,dw⟩ dx ⟨gW,ci⟩ eG;have dy:=ci;unfold Mf at dy;refine C 5 V (AW dy (λeH eI=>?_) (λeH eJ=>?_))
      ·obtain⟨aw,eK,eL⟩:=bs eI;refine C 5 V (Kt 1 (eo.Ah a3) eK V V V V V V underlying22 FG ?_);rintro gX gY f155 _ eM ⟨a4,bo,rfl,ay⟩ eN gZ g0 g1 g3;refine Am (v:= sV a4 aw bo) V (λρ h=>Yl.load Jx (h _ _ V) (BI (j:=1) b3 eM (eN 0 _ V))) (C 6 V ?_);refine JL.ln underlying28 V V V (C 3 V ?_);refine Ql 15 λZ=>A5 Z V [0,1,2] V ?_;obtain⟨eO,dz,eP⟩:=bs eL;refine FY 0 #[true,true,true,true,true,true,true,true,true,true,true,true,true,true,true] (λL s=>L= [(4,Aj ag 0),(6,.map (some K)),(10,sV be Y.1 bi),(12,sV a4 aw bo),(43,sV al O am),(44,iV (O.length:Int)),(45,iV Y.2),(65,.bool eO)]/\s=Ak av H [[(K,ac)],ap,bn]) ?_ ?_
       ·rintro _ _ ⟨rfl,rfl⟩;refine AM.fin (by decide+kernel) (CE eP (λeQ eR=>?_) (λeQ eS=>?_))
        ·refine C 6 V (JS.drop 0 b3 V λeT=>?_);refine JS.drop 1 eT V λeU=>JS.drop 2 eU V λeV=>?_;obtain rfl:=oi eR;obtain rfl:=dx _ ci;have eW:=elim_inl dt;obtain rfl:=oi eW;obtain rfl:=cY _ b0;have eX:=elim_inl di;obtain rfl:=oi eX;exact AZ func33 V V (cR (((((bx.Ad cT).Ad b6).Ad cW).Ad a2).Ad a3) V ⟨a4,bo,V,V,ay⟩ eV)
        ·refine C 3 V (JL.fd underlying77 Ck V V V ?_);refine Cm 0 (df.Ah ((cW.Ad a2).Ad a3)) underlying25 FH FT ?_;refine JL.ln underlying22 V V V ?_;obtain⟨cZ,eY,eZ⟩:=bs eS;refine C 2 V (Bt (λL s=>∃(co:LH) (cp:Ao) (ct:Nat) (cw:Seg),Jn av H co [[(K,ac)],ap,cw] [(4,Aj ag 0),(6,.map (some K)),(10,sV cp cZ ct),(43,sV al O am),(44,iV (O.length:Int)),(45,iV Y.2)] L s (OL 28 (rL rI) co cp ct cw cZ)) ?_ ?_)
         ·rintro _ _ ⟨co,cp,ct,cw,rfl,rfl,e0,e1,e3⟩;obtain⟨e4,e5,e6⟩:=bs eZ;refine C 2 V (Br e5 V V V ?_);refine C 2 V ?_;obtain rfl:=oi e6;exact AF (eG _ _ (cZ,e4) ⟨co,cp,ct,cw,V,V,(a3.Ad e0),e1,e3⟩ ci) V
         ·intro e7;refine JL.block (CB eY (λL s U=>∃(b4:LH) (a5:Ao) (a6:Nat) (bv:Seg),Jn av H b4 [[(K,ac)],ap,bv] [(4,Aj ag 0),(6,.map (some K)),(10,sV a5 U.1 a6),(12,sV a4 aw bo),(43,sV al O am),(44,iV (O.length:Int)),(45,iV Y.2),(70,iV (bz.1.1.length:Int)),(71,iV U.2)] L s (OL 28 (rL rI) b4 a5 a6 bv U.1)) ⟨av,be,bi,bn,V,V,Ay,b3,dw⟩ ?_);rintro _ _ U ⟨b4,a5,a6,bv,rfl,rfl,az,dA,c0⟩ e8 ⟨g4,c1⟩ e9;have dB:=c1;unfold Mc at dB;refine C 5 V (AW dB (λfa fb=>?_) (λfa fc=>?_))
          ·obtain⟨c3,fe,ff⟩:=bs fb;refine C 2 V (Bt (λL s=>∃(cy:LH) (cG:Ao) (cH:Nat) (cI:Seg),Jn b4 H cy [[(K,ac)],ap,cI] [(4,Aj ag 0),(6,.map (some K)),(10,sV cG c3 cH),(12,sV a4 aw bo),(43,sV al O am),(44,iV (O.length:Int)),(45,iV Y.2),(70,iV (bz.1.1.length:Int)),(71,iV U.2)] L s (OL 28 (rL rI) cy cG cH cI c3)) ?_ ?_)
           ·rintro _ _ ⟨cy,cG,cH,cI,rfl,rfl,fg,fh,fj⟩;obtain⟨fk,fl,fm⟩:=bs ff;refine JL.region (Br fl V V V ?_);refine C 2 V ?_;obtain rfl:=oi fm;exact AF (e9 _ _ (c3,fk) ⟨cy,cG,cH,cI,V,V,(az.Ad fg),fh,fj⟩ c1) V
           ·intro dC;obtain⟨g5,fo,fp⟩:=bs fe;refine C 11 V (CF (b9 (ay.Ah az) fo) V V (Ba func82 V) dA λcJ aq cK=>?_);obtain⟨fq,fs,fu⟩:=bs fp;refine C 1 V (Ie [] (λL s=>∃(c4:LH),Jm cJ H c4 [[(K,ac)],ap,bv] [(4,Aj ag 0),(6,.map (some K)),(10,sV a5 U.1 a6),(12,sV a4 aw bo),(14,iV U.2),(43,sV al O am),(44,iV (O.length:Int)),(45,iV Y.2),(70,iV (bz.1.1.length:Int)),(71,iV U.2),(94,.bool fq)] L s) ?_ ?_)
            ·rintro _ _ ⟨c4,rfl,rfl,a7,dD⟩;refine JL.done (CE fu (λfv fw=>?_) (λfv fx=>?_))
             ·refine JL.exit V ?_;obtain rfl:=oi fw;exact AF (dC _ _ ⟨c4,a5,a6,bv,V,V,(aq.Ad a7),dD,(c0.Ah (aq.Ad a7))⟩) V
             ·refine C 5 V (JL.ln underlying28 V V V ?_);refine C 1 V (JL.ln underlying28 V V V ?_);refine Am (v:= .slice a4 aw.length aw.length) V (λρ h=>Rj (Al.spot (ay.Ah ((az.Ad aq).Ad a7))) (And.left (ay.Ah ((az.Ad aq).Ad a7))) underlying28 AG (h _ _ V) (h _ _ V) (h _ _ V)) (C 1 V ?_);refine F1 (pp:=rI) [iV U.2] [U.2] V V V underlying28 AG CI (by decide) V V V ⟨V,trivial⟩ dD λg6 g7 fy fz=>B9 3 fy fz V λg8 c5 fA fB=>?_;obtain⟨fC,fD,fE⟩:=bs fx;refine Vu (pp:=rI) fD V V V V V V V underlying28 underlying28 AG (Dl type3) CI V (by decide) (by decide) (ay.Ah (((az.Ad aq).Ad a7).Ad c5)) fA fB λfF fG fH dE fI fJ=>?_;obtain⟨g9,fK,fL⟩:=bs fE;refine JS.app (pp:=(rL rI)) (v:= sV fG fC fH) (a:=a5) (c:=a6) 2 fK V V V V (λ_=>V) V (λ_=>V) V V V underlying22 underlying22 underlying22 FG (Dl type28) KS V (by decide) (by decide) (by decide) (by decide) (c0.Ah (((aq.Ad a7).Ad c5).Ad dE)) ⟨_,_,V,fI⟩ fJ V λha fM fN fO fP fQ=>C 3 V ?_;obtain rfl:=oi fL;exact AF (dC _ _ ⟨fF,fM,fN,fO,V,V,(((aq.Ad a7).Ad c5).Ad dE),fQ,fP⟩) V
            ·intro c6;refine DZ 77 fs (λfR fS=>?_) (λfR fT=>?_)
             ·refine C 17 V ?_;obtain rfl:=oi fS;exact AF (c6 _ _ ⟨cJ,V,V,Ay,cK⟩) V
             ·refine C 1 V (JL.ln underlying28 V V V ?_);refine C 2 V (HN 81 fT (λfU fW=>?_) (λfU fX=>?_))
              ·refine C 3 V (JL.ln underlying28 V V V ?_);obtain⟨hb,fY,fZ⟩:=bs fW;refine Cp fY V V V ?_;obtain⟨cM,ga,gb⟩:=bs fZ;refine JS.ix (ay.Ah (az.Ad aq)) ga underlying28 AG ?_;rintro hc hd _ rfl gc;refine C8 0 gc A7 V V V (C 1 V ?_);refine Am (v:= .agg #[iV cM,iV U.2]) V (λρ h=>Dh [(0,1),(1,1)] h I6 underlying101 ⟨V,AU type3,V,AU type3,trivial⟩ V V) (Am (v:= .bool (((Bs a9 (cM,U.2)).getD false))) V (λρ h=>Yl.lookup (ok:=false) (xs:=a9) (x0:=(cM,U.2)) (z0:=false) P7 underlying99 LF ⟨_,V,V⟩ (dh.Ah (((a2.Ad a3).Ad az).Ad aq)) ⟨_,⟨_,_,V,V,V⟩,V⟩ (by rintro _ ⟨_,rfl,rfl⟩;rfl) (h _ _ V) (h _ _ V) (Dr (j:=0) (i:=0) cK V V)) ?_);refine Am (v:= .bool ((!((Bs a9 (cM,U.2)).getD false)))) V (λρ h=>Yl.not (h _ _ V)) (C 2 V ?_);obtain rfl:=oi gb;exact AF (c6 _ _ ⟨cJ,V,V,Ay,cK⟩) V
              ·refine C 13 V ?_;obtain rfl:=oi fX;exact AF (c6 _ _ ⟨cJ,V,V,Ay,cK⟩) V
          ·refine JL.exit V ?_;obtain rfl:=oi fc;obtain rfl:=e8 _ c1;exact AF (e7 _ _ ⟨b4,a5,a6,bv,V,V,az,dA,c0⟩) V
       ·intro dF;refine Gy (q:=1<(aw.length:Int)) (i:=53) V (λc7=>?_) (λc7=>?_)
        ·have gd:=ip dz c7;refine A5 Z V [3,4,5] V ?_;obtain⟨he,ge,gf⟩:=bs gd;refine AO 6 Z V V (λρ h s' a8=>Ei (h _ _ V) (h _ _ V) ge) ?_;obtain⟨cN,gg,gh⟩:=bs gf;refine ED 7 ay gg Z underlying28 AG ?_;rintro hf hg _ rfl gi;refine AO (v:=iV cN) 8 Z V V (λρ h s' a8=>Yl.load A7 (h _ _ V) (Ms a8 (At.Lp (j:=0) gi V))) ?_;refine Dd 9 Z V V ?_;obtain⟨cO,gj,gk⟩:=bs gh;refine ED 10 ay gj Z underlying28 AG ?_;rintro hj hk _ rfl gl;refine AO (v:=iV cO) 11 Z V V (λρ h s' a8=>Yl.load A7 (h _ _ V) (Ms a8 (At.Lp (j:=0) gl V))) ?_;refine AO (v:= .agg #[iV cN,iV cO]) 12 Z V V (λρ h s' a8=>Dh [(0,1),(1,1)] h I6 underlying101 ⟨V,AU type3,V,AU type3,trivial⟩ V V) ?_;refine AO (v:= .bool (((Bs a9 (cN,cO)).getD false))) 13 Z V V (λρ h s' a8=>Yl.lookup (ok:=false) (xs:=a9) (x0:=(cN,cO)) (z0:=false) P7 underlying99 LF ⟨_,V,V⟩ (dh.Ah (a2.Ad a3)) ⟨_,⟨_,_,V,V,V⟩,V⟩ (by rintro _ ⟨_,rfl,rfl⟩;rfl) (h _ _ V) (h _ _ V) (QD a8 (Dr (j:=0) (i:=0) b3 V V))) ?_;refine Dd 14 Z V V ?_;obtain rfl:=oi gk;refine Dt ?_ (dF _ _ ⟨V,V⟩);exact⟨V,V,V,V,V,V,V,V,trivial⟩
        ·have gm:=im dz c7;refine A5 Z V [3,4,5,6,7,8,9,10,11,12,13,14] V ?_;obtain rfl:=oi gm;refine Dt ?_ (dF _ _ ⟨V,V⟩);exact⟨V,V,V,V,V,V,V,V,trivial⟩
      ·refine JL.exit V (JS.drop 1 b3 V λgn=>?_);obtain rfl:=oi eJ;have gp:dr=(Sum.inr Y.1):=(dx _ ci).symm;exact AF (eF _ _ ⟨Y.1,av,be,bi,bn,gp,V,V,a3,gn,dw⟩) V
    ·refine JL.exit V (JS.drop 0 dp V λgq=>?_);refine JS.drop 1 gq V λgr=>?_;obtain rfl:=oi eu;have gt:cX=(Sum.inr ()):=(cY _ b0).symm;exact AF (dn _ _ ⟨(),a0,gt,V,V,a2,gr⟩) V
  ·intro gu;refine JL.block (CB ed (λL s b5=>∃(cP:LH) (cQ:Obj),Jn cV H cP [[(K,cQ)]] [(4,Aj ag 0),(6,.map (some K)),(26,sV dT bz.1.2 dU),(27,iV (bz.1.2.length:Int)),(28,iV b5.2)] L s (BE Ep true rB false cP cQ b5.1)) ⟨cV,(.map #[] 0),V,V,Ay,ec,BE.nil⟩ ?_);rintro _ _ b5 ⟨cP,cQ,rfl,rfl,c8,dG,dH⟩ gv ⟨hl,c9⟩ gw;have dI:=c9;unfold Ma at dI;refine C 5 V (AW dI (λgx gy=>?_) (λgx gz=>?_))
   ·obtain⟨bw,gA,gB⟩:=bs gy;refine C 5 V (JS.ix (dV.Ah (b6.Ad c8)) gA underlying23 Bg ?_);rintro hm hn _ ⟨_,_,rfl,rfl,⟨_,_,rfl,rfl,rfl⟩⟩ gC;refine Cx gC Ef Bg V V (BV dG BO λho gD=>?_);refine BJ 1 gD Bg λgE=>?_;refine Eh 1 gE V λgF dJ dK gG=>C 3 V (Cm 0 dK underlying27 AG A7 ?_);refine Cm 1 dK underlying27 AG A7 ?_;refine Am (v:= .agg #[iV bw.1,iV bw.2.1]) V (λρ h=>Dh [(0,1),(1,1)] h I6 underlying101 ⟨V,AU type3,V,AU type3,trivial⟩ V V) (JS.mapUpdate (xs:=b5.1) (x0:=(bw.1,bw.2.1)) (v0:=true) 0 P7 underlying99 (dH.Ah dJ) ⟨_,⟨_,_,V,V,V⟩,V⟩ ⟨_,V,V⟩ gG V V V V V V V λgH gI gJ=>?_);obtain⟨gK,gL,gM⟩:=bs gB;refine C 3 V (Br gL V V V ?_);refine C 2 V ?_;obtain rfl:=oi gM;exact AF (gw _ _ ((CP b5.1 (bw.1,bw.2.1) true),gK) ⟨gF,gH,V,V,(c8.Ad dJ),gJ,gI⟩ c9) V
   ·refine JL.exit V ?_;obtain rfl:=oi gz;obtain rfl:=gv _ c9;exact AF (gu _ _ ⟨cP,cQ,V,V,c8,dG,dH⟩) V
variable {J:Judge Tryz.prog}
def T5:List Nat:= [0,1,2,2,3,3,3,3,4,4,4,4,4,4,4,4,5,5,5,5,5,5,5,5,5,5,5,5,5,5,5,5,6,6,6,6,6,6,6,6,6,6,6,6,6,6,6,6,6,6,6,6,6,6,6,6,6,6,6,6,6,6,6,6,7,7,7,7,7,7,7,7,7,7,7,7,7,7,7,7,7,7,7,7,7,7,7,7,7,7,7,7,7,7,7,7,7,7,7,7,7,7,7,7,7,7,7,7,7,7,7,7,7,7,7,7,7,7,7,7,7,7,7,7,7,7,7,7,8,8,8,8,8,8,8,8,8,8,8,8,8,8,8,8,8,8,8,8,8,8,8,8,8,8,8,8,8,8,8,8,8,8,8,8,8,8,8,8,8,8,8,8,8,8,8,8,8,8,8,8,8,8,8,8,8,8,8,8,8,8,8,8,8,8,8,8,8,8,8,8,8,8,8,8,8,8,8,8,8,8,8,8,8,8,8,8,8,8,8,8,8,8,8,8,8,8,8,8,8,8,8,8,8,8,8,8,8,8,8,8,8,8,8,8,8,8,8,8,8,8,8,8,8,8,8,8]
def f146(fu_:Nat)(p0:Nat):Option Int:= Option.bind (if(((4294967296):Nat):Int)<=(((p0):Nat):Int) then(some (p0>>>32,32)) else(some (p0,0))) λK=> Option.bind (if(((65536):Nat):Int)<=(((K.1):Nat):Int) then((Ax (K.2+16)).bind λY=> some (K.1>>>16,Y)) else(some K)) λO=> Option.bind (if(((256):Nat):Int)<=(((O.1):Nat):Int) then((Ax (O.2+8)).bind λZ=> some (O.1>>>8,Z)) else(some O)) λU=> (QK T5 (((((U.1) % 256):Nat):Int))).bind λac=> (Ax (((ac):Nat):Int)).bind λag=> (Ax (U.2+ag)).bind λal=> some al
theorem Z1{p0:Nat}{fu_:Nat}{r:Int}(Y:f146 fu_ p0=some r):AQ J 146 [.int .u64 ((p0:Nat):Int)] E [] (λw E' B'=>w=iV r/\B'= []):=by
 refine Bn func146 λQ cc cs H Z aq=>?_;unfold f146 at Y;obtain⟨K,av,aw⟩:=bs Y;refine C 10 V (EK [] [(0,.int .u64 ((K.1:Nat):Int)),(2,iV K.2)] (λce ay ac=>?_) (λag=>?_))
 ·obtain⟨O,az,a0⟩:=bs aw;refine C 6 V (EK [] [(0,.int .u64 ((O.1:Nat):Int)),(2,iV O.2)] (λci a1 al=>?_) (λam=>?_))
  ·obtain⟨U,a2,a3⟩:=bs a0;refine C 6 V (EK [] [(0,.int .u64 ((U.1:Nat):Int)),(2,iV U.2)] (λco a4 a5=>?_) (λap=>?_))
   ·refine C 4 V (Am (v:= .int .u8 (((U.1) % 256:Nat):Int)) V (λρ h=>X4 underlying72 underlying5 (h _ _ V)) ?_);obtain⟨a6,a7,a8⟩:=bs a3;refine Am (v:= .int .u8 ((a6:Nat):Int)) V (λρ h=>WA (l:=T5) (by decide+kernel) underlying9 (h _ _ V) (h _ _ V) a7) ?_;obtain⟨a9,bb,be⟩:=bs a8;refine Am (v:=iV a9) V (λρ h=>Yf underlying5 underlying3 (h _ _ V) bb) ?_;obtain⟨cp,bi,bn⟩:=bs be;refine Br bi V V V (C 2 V ?_);obtain rfl:=oi bn;exact AZ func146 V V (aq ((ay.Ad a1).Ad a4) V ⟨V,V⟩ a5)
   ·refine AW a2 (λbo bv=>?_) (λbo bw=>?_)
    ·refine C 3 V (Am (v:= .int .u64 ((O.1>>>8:Nat):Int)) V (λρ h=>K4 8 (h _ _ V) (h _ _ V) (by decide)) ?_);obtain⟨ct,bx,bz⟩:=bs bv;refine C 4 V (Br bx V V V ?_);refine C 2 V ?_;obtain rfl:=oi bz;exact ap Ay al V
    ·refine JL.skip ?_;obtain rfl:=oi bw;exact ap Ay al V
  ·refine AW az (λb0 b1=>?_) (λb0 b2=>?_)
   ·refine C 3 V (Am (v:= .int .u64 ((K.1>>>16:Nat):Int)) V (λρ h=>K4 16 (h _ _ V) (h _ _ V) (by decide)) ?_);obtain⟨cw,b3,b4⟩:=bs b1;refine C 4 V (Br b3 V V V ?_);refine C 2 V ?_;obtain rfl:=oi b4;exact am Ay ac V
   ·refine JL.skip ?_;obtain rfl:=oi b2;exact am Ay ac V
 ·refine AW av (λb5 b6=>?_) (λb5 ca=>?_)
  ·refine C 3 V (Am (v:= .int .u64 ((p0>>>32:Nat):Int)) V (λρ h=>K4 32 (h _ _ V) (h _ _ V) (by decide)) ?_);refine C 5 V ?_;obtain rfl:=oi b6;exact ag Ay Z V
  ·refine JL.skip ?_;obtain rfl:=oi ca;exact ag Ay Z V
def f115(fu_:Nat)(p0:Nat):Option Int:= (f146 fu_ p0).bind λK=> some K
theorem NX{p0:Nat}{fu_:Nat}{r:Int}(K:f115 fu_ p0=some r):AQ J 115 [.int .u64 ((p0:Nat):Int)] E [] (λw E' B'=>w=iV r/\B'= []):=by
 refine Bn func115 λQ al cs H O U=>?_;unfold f115 at K;obtain⟨am,Y,Z⟩:=bs K;refine C 10 V (CF (Z1 Y) V V (Ba func146 V) O λap ac ag=>?_);refine C 2 V ?_;obtain rfl:=oi Z;exact AZ func115 V V (U ac V ⟨V,V⟩ ag)
def Ni(fu_:Nat)(p1:Int)(K:Int×Aw):Option (Bm (Int×Aw) (Aw)):= Option.bind (if p1<K.1 then((ix K.2 K.1).bind λY=> (Ax (K.1 - 1)).bind λZ=> (ix K.2 Z).bind λac=> (f113 fu_ Y ac).bind λag=> some (decide (ag<0))) else(some false)) λal=> if al=true then((Ax (K.1 - 1)).bind λO=> (Ax (K.1 - 1)).bind λam=> (ix K.2 am).bind λU=> (ix K.2 K.1).bind λap=> (ix (K.2.set (Int.toNat K.1) U) O).bind λav=> (Ax (K.1 - 1)).bind λaq=> some (.more (aq,((K.2.set (Int.toNat K.1) U).set (Int.toNat O) ap)))) else(some (.done K.2))
def NF(fu_:Nat)(p1:Int)(p2:Int)(K:Int×Aw):Option (Bm (Int×Aw) (Aw)):= if K.1<p2 then(Option.bind (iter (Ni fu_ p1) fu_ K) λO=> (Ax (K.1+1)).bind λU=> some (.more (U,O))) else(some (.done K.2))
def f193(fu_:Nat)(p0:Aw)(p1:Int)(p2:Int):Option (Aw):= (Ax (p1+1)).bind λK=> Option.bind (iter (NF fu_ p1 p2) fu_ (K,p0)) λO=> some O
theorem ae{K:Nat}{U:Nat}{nw:Nat}{a4:Av_}{p0:Aw}{p1:Int}{p2:Int}(hW:WL 27 AA E K U nw a4 p0){fu_:Nat}{r:Aw}(bb:f193 fu_ p0 p1 p2=some r):AQ J 193 [.slice (AP K) nw U,iV p1,iV p2,(fV 113)] E [(K,.cells a4 27 (0,0))] (λw E' B'=>∃(be:Av_),w= .tuple #[]/\B'= [(K,.cells be 27 (0,0))]/\WL 27 AA E' K U nw be r):=by
 refine Bn func193 λQ dC cs H cc ce=>?_;unfold f193 at bb;obtain⟨dD,ci,co⟩:=bs bb;refine C 3 V (Br ci V V V ?_);obtain⟨cp,ct,cw⟩:=bs co;refine C 2 V (Bt (λL s=>∃(a5:LH) (f17:Av_),Jn E H a5 [bX K f17 27] [] L s (WL 27 AA a5 K U nw f17 cp)) ?_ ?_)
 ·rintro _ _ ⟨a5,f17,rfl,rfl,cy,cG,cH⟩;obtain rfl:=oi cw;exact JL.fin (v:= .tuple #[]) V V (Bz.list func193 V (vs:= []) trivial) (ce cy V ⟨f17,V,(by first | rfl | simp | (simp [Value.cells])),cH⟩ cG)
 ·intro cI;refine JL.block (CB ct (λL s am=>∃(al:LH) (f25:Av_),Jn E H al [bX K f25 27] [(0,.slice (AP K) nw U),(1,iV p1),(2,iV p2),(3,(fV 113)),(8,iV am.1)] L s (WL 27 AA al K U nw f25 am.2)) ⟨E,a4,V,V,Ay,cc,hW⟩ ?_);rintro _ _ am ⟨al,f25,rfl,rfl,bi,bn,bo⟩ cJ ⟨dE,a6⟩ cK;have bv:=a6;unfold NF at bv;refine C 7 V (AW bv (λcM cN=>?_) (λcM cO=>?_))
  ·obtain⟨bw,cP,cQ⟩:=bs cN;refine C 8 V (Bt (λL s=>∃(a0:LH) (f48:Av_),Jn al H a0 [bX K f48 27] [(0,.slice (AP K) nw U),(1,iV p1),(2,iV p2),(3,(fV 113)),(8,iV am.1)] L s (WL 27 AA a0 K U nw f48 bw)) ?_ ?_)
   ·rintro _ _ ⟨a0,f48,rfl,rfl,cR,cT,cV⟩;obtain⟨cW,cX,cY⟩:=bs cQ;refine C 3 V (Br cX V V V ?_);refine C 2 V ?_;obtain rfl:=oi cY;exact AF (cK _ _ (cW,bw) ⟨a0,f48,V,V,(bi.Ad cR),cT,cV⟩ a6) V
   ·intro cZ;refine JL.block (CB cP (λL s ag=>∃(aw:LH) (f58:Av_),Jn al H aw [bX K f58 27] [(0,.slice (AP K) nw U),(1,iV p1),(2,iV p2),(3,(fV 113)),(8,iV am.1),(9,iV ag.1)] L s (WL 27 AA aw K U nw f58 ag.2)) ⟨al,f25,V,V,Ay,bn,bo⟩ ?_);rintro _ _ ag ⟨aw,f58,rfl,rfl,bx,ay,O⟩ c0 ⟨dF,a7⟩ c1;have bz:=a7;unfold Ni at bz;refine C 2 V (Fb 17 [K] ⟨⟨0,_,V⟩,trivial⟩ ay λac=>?_);refine A5 ac V [0,1,2,3] V ?_;obtain⟨c2,b0,c3⟩:=bs bz;refine FY 0 #[true,true,true,true,true,true,true,true,true,true,true,true,true,true,true,true,true] (λL s=>∃(a1:LH),Jm aw H a1 [bX K f58 27] [(0,.slice (AP K) nw U),(1,iV p1),(2,iV p2),(3,(fV 113)),(8,iV am.1),(9,iV ag.1),(34,.bool c2)] L s) ?_ ?_
    ·rintro _ _ ⟨a1,rfl,rfl,ap,a2⟩;refine AM.fin (by decide+kernel) (CE c3 (λc4 c5=>?_) (λc4 c6=>?_))
     ·refine C 3 V (HE [15,17] [K] [] mixed V ?_);refine Bj 0 V V (Bj 1 V V ?_);refine Bj 2 V V (Bj 3 V V ?_);obtain⟨b1,c7,c8⟩:=bs c5;refine Ec 4 true V V (λρ h s' b2=>Ei (h _ _ V) (h _ _ V) c7) (Bj 5 V V ?_);refine Bj 6 V V ?_;obtain⟨dG,c9,da⟩:=bs c8;refine Ec 7 true V V (λρ h s' b2=>Ei (h _ _ V) (h _ _ V) c9) ?_;obtain⟨Y,b3,db⟩:=bs da;obtain⟨_,⟨_,_,rfl,rfl,⟨_,_,rfl,rfl,rfl⟩⟩,dc⟩:=WL.at (O.Ah ap) b3;refine JB.ix 8 O.2 b3 underlying23 Bg ?_;refine Uf 9 [iV Y.1,iV Y.2.1,iV Y.2.2] 0 a2 dc Ef Bg ?_;refine Bj 10 V V (Bj 11 V V ?_);obtain⟨Z,a3,dd⟩:=bs db;obtain⟨_,⟨_,_,rfl,rfl,⟨_,_,rfl,rfl,rfl⟩⟩,de⟩:=WL.at (O.Ah ap) a3;refine JB.ix 12 O.2 a3 underlying23 Bg ?_;refine Uf 13 [iV Z.1,iV Z.2.1,iV Z.2.2] 0 a2 de Ef Bg ?_;refine JB.ix 14 O.2 a3 underlying23 Bg ?_;have az:=WL.put (x':=Y) (ws':= [iV Y.1,iV Y.2.1,iV Y.2.2]) (O.Ah ap) O.2 a3 ⟨_,_,V,V,⟨_,_,V,V,V⟩⟩;refine EL 15 0 a2 Bg trivial az.2 λdf=>?_;obtain⟨dH,a8,dg⟩:=bs dd;obtain⟨_,⟨_,_,rfl,rfl,⟨_,_,rfl,rfl,rfl⟩⟩,dI⟩:=WL.at az.1 a8;refine JB.ix 16 (az.1).2 a8 underlying23 Bg ?_;have b4:=WL.put (x':=Z) (ws':= [iV Z.1,iV Z.2.1,iV Z.2.2]) az.1 (az.1).2 a8 ⟨_,_,V,V,⟨_,_,V,V,V⟩⟩;refine EL 17 0 df Bg trivial b4.2 λdh=>?_;refine JB.fin (by decide+kernel) ?_;obtain⟨di,dj,dk⟩:=bs dg;refine C 3 V (Cp dj V V V ?_);refine C 2 V ?_;obtain rfl:=oi dk;exact AF (c1 _ _ (di,((ag.2.set (Int.toNat ag.1) Y).set (Int.toNat b1) Z)) ⟨a1,(A6 (A6 f58 (Int.toNat (ag.1)*3) [iV Y.1,iV Y.2.1,iV Y.2.2]) (Int.toNat (b1)*3) [iV Z.1,iV Z.2.1,iV Z.2.2]),V,V,(bx.Ad ap),dh,b4.1⟩ a7) V
     ·refine JL.exit V ?_;obtain rfl:=oi c6;obtain rfl:=c0 _ a7;exact AF (cZ _ _ ⟨a1,f58,V,V,(bx.Ad ap),a2,(O.Ah ap)⟩) V
    ·intro b5;refine Gy (q:=p1<ag.1) (i:=21) V (λa9=>?_) (λa9=>?_)
     ·have dn:=ip b0 a9;refine A5 ac V [4,5,6] V ?_;obtain⟨aq,b6,dp⟩:=bs dn;obtain⟨_,⟨_,_,rfl,rfl,⟨_,_,rfl,rfl,rfl⟩⟩,dq⟩:=WL.at O b6;refine JG.ix 7 ac (O).2 b6 underlying23 Bg ?_;refine Ug 8 ac [iV aq.1,iV aq.2.1,iV aq.2.2] 0 ay dq Ef Bg ?_;refine A5 ac V [9,10] V ?_;obtain⟨dJ,dr,dt⟩:=bs dp;refine AO 11 ac V V (λρ h s' b2=>Ei (h _ _ V) (h _ _ V) dr) ?_;obtain⟨av,ca,du⟩:=bs dt;obtain⟨_,⟨_,_,rfl,rfl,⟨_,_,rfl,rfl,rfl⟩⟩,dv⟩:=WL.at O ca;refine JG.ix 12 ac (O).2 ca underlying23 Bg ?_;refine Ug 13 ac [iV av.1,iV av.2.1,iV av.2.2] 0 ay dv Ef Bg ?_;obtain⟨dK,dw,dx⟩:=bs du;refine JE (i:=14) ⟨⟨0,_,V⟩,trivial⟩ (vs:= [.agg #[iV aq.1,iV aq.2.1,iV aq.2.2],.agg #[iV av.1,iV av.2.1,iV av.2.2]]) (TK dw) (by decide+kernel) V V V V (Ba func113 V) V ay ?_;rintro _ dy _ dz ⟨rfl,rfl⟩ dA;refine A5 ac V [15,16] V ?_;obtain rfl:=oi dx;refine Dt ?_ (b5 _ _ ⟨dy,V,V,dz,dA⟩);exact⟨V,V,V,V,V,V,V,trivial⟩
     ·have dB:=im b0 a9;refine A5 ac V [4,5,6,7,8,9,10,11,12,13,14,15,16] V ?_;obtain rfl:=oi dB;refine Dt ?_ (b5 _ _ ⟨aw,V,V,Ay,ay⟩);exact⟨V,V,V,V,V,V,V,trivial⟩
  ·refine JL.exit V ?_;obtain rfl:=oi cO;obtain rfl:=cJ _ a6;exact AF (cI _ _ ⟨al,f25,V,V,bi,bn,bo⟩) V
def PD(fu_:Nat)(p0:Aw)(p1:Int)(p2:Int)(p3:Int)(U:Unit):Option (Bm Unit ((Aw)⊕(Unit))):= (Ax (p2 - p1)).bind λK=> if K<=12 then((f193 fu_ p0 p1 p2).bind λO=> some (.done (Sum.inl O))) else(if p3=0 then(none) else(none))
def f169(fu_:Nat)(p0:Aw)(p1:Int)(p2:Int)(p3:Int):Option (Aw):= Option.bind (iter (PD fu_ p0 p1 p2 p3) fu_ ()) λK=> Sum.elim (λr=>some r) (λO=> none) K
theorem Zm{K:Nat}{O:Nat}{nw:Nat}{U:Av_}{p0:Aw}{p1:Int}{p2:Int}{p3:Int}(hW:WL 27 AA E K O nw U p0){fu_:Nat}{r:Aw}(Y:f169 fu_ p0 p1 p2 p3=some r):AQ J 169 [.slice (AP K) nw O,iV p1,iV p2,iV p3,(fV 113)] E [(K,.cells U 27 (0,0))] (λw E' B'=>∃(Z:Av_),w= .tuple #[]/\B'= [(K,.cells Z 27 (0,0))]/\WL 27 AA E' K O nw Z r):=by
 refine Bn func169 λQ bv cs H ap aq=>?_;unfold f169 at Y;obtain⟨bw,av,aw⟩:=bs Y;refine C 8 V (Bt (λL s=>False) ?_ ?_)
 ·intro _ _ ay;exact ay.elim
 ·intro bx;refine JL.block (DX av (λac=> [bX K U 27]) (λac=> [(0,.slice (AP K) nw O),(1,iV p1),(2,iV p2),(3,iV p3),(4,(fV 113)),(10,.bool true),(11,.bool true)]) Ay ap ?_);rintro ac bz ag az a0 ⟨b0,al⟩ b1;have am:=al;unfold PD at am;obtain⟨b2,a1,a2⟩:=bs am;refine C 5 V (Cp a1 V V V ?_);refine C 8 V (AW a2 (λa3 a4=>?_) (λa3 a5=>?_))
  ·obtain⟨b3,a6,a7⟩:=bs a4;refine C 6 V (Cr 0 (ae (hW.Ah ag) a6) V V (Ba func193 V) az V ?_);rintro _ b4 _ a8 ⟨f32,rfl,rfl,a9⟩ bb;refine JL.done ?_;obtain rfl:=oi a7;obtain rfl:=a0 _ al;have be:=elim_inl aw;obtain rfl:=oi be;exact AZ func169 V V (aq (ag.Ad a8) V ⟨f32,V,(by first | rfl | simp | (simp [Value.cells])),a9⟩ bb)
  ·refine C 7 V (AW a5 (λbi bn=>?_) (λbi bo=>?_))
   ·refine C 6 V ?_;cases bn
   ·refine C 5 V (Am (v:= .bool false) V (λρ h=>Yl.not (c:=true) (h _ _ V)) ?_);refine C 9 V ?_;cases bo
def f130(fu_:Nat)(p0:Aw):Option (Aw):= (f115 fu_ (C3 (p0.length:Int))).bind λK=> (f169 fu_ p0 0 (p0.length:Int) K).bind λO=> some O
theorem ZD{K:Nat}{O:Nat}{nw:Nat}{U:Av_}{p0:Aw}(hW:WL 27 AA E K O nw U p0){fu_:Nat}{r:Aw}(Y:f130 fu_ p0=some r):AQ J 130 [.slice (AP K) nw O,(fV 113)] E [(K,.cells U 27 (0,0))] (λw E' B'=>∃(Z:Av_),w= .tuple #[]/\B'= [(K,.cells Z 27 (0,0))]/\WL 27 AA E' K O nw Z r):=by
 refine Bn func130 λQ a1 cs H ag al=>?_;unfold f130 at Y;refine C 3 V (Am (v:=iV (p0.length:Int)) V (λρ h=>SR (hW).2 V underlying80 (h _ _ V)) ?_);refine C 6 V (Am (v:= .int .u64 ((C3 (p0.length:Int):Nat):Int)) V (λρ h=>Yl.C3 underlying3 underlying136 (h _ _ V)) ?_);obtain⟨a2,am,ap⟩:=bs Y;refine CF (NX am) V V MN ag λa3 ac aq=>?_;obtain⟨a4,av,aw⟩:=bs ap;refine C 1 V (Cr 0 (Zm (hW.Ah ac) av) V V (Ba func169 V) aq V ?_);rintro _ a5 _ ay ⟨f12,rfl,rfl,az⟩ a0;refine JL.done ?_;obtain rfl:=oi aw;exact JL.fin (v:= .tuple #[]) V V (Bz.list func130 V (vs:= []) trivial) (al (ac.Ad ay) V ⟨f12,V,(by first | rfl | simp | (simp [Value.cells])),az⟩ a0)
def Sy(fu_:Nat)(p1:Int)(K:Int)(U:Unit):Option (Bm Unit Unit):= Option.bind (if p1<K then(none) else(some false)) λO=> if O=true then((Ax (K - 1)).bind λY=> (Ax (K - 1)).bind λZ=> none) else(some (.done ()))
def Sj(fu_:Nat)(p1:Int)(p2:Int)(K:Int):Option (Bm Int Unit):= if K<p2 then(Option.bind (iter (Sy fu_ p1 K) fu_ ()) λU=> (Ax (K+1)).bind λO=> some (.more O)) else(some (.done ()))
def Qt(fu_:Nat)(p1:Int)(p2:Int):Option Unit:= (Ax (p1+1)).bind λK=> Option.bind (iter (Sj fu_ p1 p2) fu_ K) λO=> some ()
theorem X0{p1:Int}{p2:Int}{fu_:Nat}{r:Unit}(Z:Qt fu_ p1 p2=some r):AQ J 193 [nS,iV p1,iV p2,(fV 113)] E [] (λw E' B'=>w= .tuple #[]/\B'= []):=by
 refine Bn func193 λQ cK cs H az a0=>?_;unfold Qt at Z;obtain⟨cM,a1,a2⟩:=bs Z;refine C 3 V (Br a1 V V V ?_);obtain⟨cN,a3,a4⟩:=bs a2;refine C 2 V (EK [] [] (λcO a5 a6=>?_) (λa7=>?_))
 ·obtain rfl:=oi a4;exact JL.fin (v:= .tuple #[]) V V (Bz.list func193 V (vs:= []) trivial) (a0 a5 V ⟨V,V⟩ a6)
 ·refine JL.block (DX a3 (λK=> []) (λK=> [(0,.slice none 0 0),(1,iV p1),(2,iV p2),(3,(fV 113)),(8,iV K)]) Ay az ?_);rintro K cP ac ag a8 ⟨cQ,U⟩ a9;have al:=U;unfold Sj at al;refine C 7 V (AW al (λbb be=>?_) (λbb bi=>?_))
  ·obtain⟨cR,bn,bo⟩:=bs be;refine C 8 V (EK [] [(0,.slice none 0 0),(1,iV p1),(2,iV p2),(3,(fV 113)),(8,iV K)] (λcT bv bw=>?_) (λbx=>?_))
   ·obtain⟨bz,b0,b1⟩:=bs bo;refine C 3 V (Br b0 V V V ?_);refine C 2 V ?_;obtain rfl:=oi b1;exact a9 bz (ac.Ad bv) bw V U
   ·refine JL.block (DX bn (λam=> []) (λam=> [(0,.slice none 0 0),(1,iV p1),(2,iV p2),(3,(fV 113)),(8,iV K),(9,iV K)]) Ay ag ?_);rintro am ap b2 b3 b4 ⟨cV,aq⟩ cW;have av:=aq;unfold Sy at av;refine C 2 V (Fc 17 λO=>?_);refine A5 O V [0,1,2,3] V ?_;obtain⟨b5,aw,b6⟩:=bs av;refine FY 0 #[true,true,true,true,true,true,true,true,true,true,true,true,true,true,true,true,true] (λL s=>∃(ay:LH),Jm ap H ay [] [(0,.slice none 0 0),(1,iV p1),(2,iV p2),(3,(fV 113)),(8,iV K),(9,iV K),(34,.bool b5)] L s) ?_ ?_
    ·rintro _ _ ⟨ay,rfl,rfl,ca,cc⟩;refine AM.fin (by decide+kernel) (CE b6 (λce ci=>?_) (λce co=>?_))
     ·refine C 3 V (Fc 16 λO=>?_);refine A5 O V [0,1,2,3] V ?_;obtain⟨cX,cp,ct⟩:=bs ci;refine AO 4 O V V (λρ h s' cw=>Ei (h _ _ V) (h _ _ V) cp) (A5 O V [5,6] V ?_);obtain⟨cY,cy,cG⟩:=bs ct;refine AO 7 O V V (λρ h s' cw=>Ei (h _ _ V) (h _ _ V) cy) ?_;cases cG
     ·refine JL.exit V ?_;obtain rfl:=oi co;obtain rfl:=b4 _ aq;exact bx (b2.Ad ca) cc V
    ·intro cH;refine Gy (q:=p1<K) (i:=21) V (λY=>?_) (λY=>?_)
     ·have cI:=ip aw Y;refine A5 O V [4,5,6] V ?_;cases cI
     ·have cJ:=im aw Y;refine A5 O V [4,5,6,7,8,9,10,11,12,13,14,15,16] V ?_;obtain rfl:=oi cJ;refine Dt ?_ (cH _ _ ⟨ap,V,V,Ay,b3⟩);exact⟨V,V,V,V,V,V,V,trivial⟩
  ·refine JL.exit V ?_;obtain rfl:=oi bi;obtain rfl:=a8 _ U;exact a7 ac ag V
def R0(fu_:Nat)(p1:Int)(p2:Int)(p3:Int)(O:Unit):Option (Bm Unit ((Unit)⊕(Unit))):= (Ax (p2 - p1)).bind λK=> if K<=12 then((Qt fu_ p1 p2).bind λU=> some (.done (Sum.inl ()))) else(if p3=0 then(none) else(none))
def Qn(fu_:Nat)(p1:Int)(p2:Int)(p3:Int):Option Unit:= Option.bind (iter (R0 fu_ p1 p2 p3) fu_ ()) λK=> Sum.elim (λr=>some r) (λO=> none) K
theorem XW{p1:Int}{p2:Int}{p3:Int}{fu_:Nat}{r:Unit}(K:Qn fu_ p1 p2 p3=some r):AQ J 169 [nS,iV p1,iV p2,iV p3,(fV 113)] E [] (λw E' B'=>w= .tuple #[]/\B'= []):=by
 refine Bn func169 λQ bb cs H Z ac=>?_;unfold Qn at K;obtain⟨be,ag,al⟩:=bs K;refine C 8 V (Bt (λL s=>False) ?_ ?_)
 ·intro _ _ am;exact am.elim
 ·intro bi;refine JL.block (DX ag (λO=> []) (λO=> [(0,.slice none 0 0),(1,iV p1),(2,iV p2),(3,iV p3),(4,(fV 113)),(10,.bool true),(11,.bool true)]) Ay Z ?_);rintro O bn ap aq av ⟨bo,U⟩ bv;have Y:=U;unfold R0 at Y;obtain⟨bw,aw,ay⟩:=bs Y;refine C 5 V (Cp aw V V V ?_);refine C 8 V (AW ay (λaz a0=>?_) (λaz a1=>?_))
  ·obtain⟨bx,a2,a3⟩:=bs a0;refine C 6 V (CF (X0 a2) V V (Ba func193 V) aq λbz a4 a5=>?_);refine JL.done ?_;obtain rfl:=oi a3;obtain rfl:=av _ U;have a6:=elim_inl al;obtain rfl:=oi a6;exact AZ func169 V V (ac (ap.Ad a4) V ⟨V,V⟩ a5)
  ·refine C 7 V (AW a1 (λa7 a8=>?_) (λa7 a9=>?_))
   ·refine C 6 V ?_;cases a8
   ·refine C 5 V (Am (v:= .bool false) V (λρ h=>Yl.not (c:=true) (h _ _ V)) ?_);refine C 9 V ?_;cases a9
def Up(fu_:Nat):Option Unit:= (f115 fu_ (C3 ((0:Nat):Int))).bind λK=> (Qn fu_ 0 ((0:Nat):Int) K).bind λO=> some ()
theorem YZ{fu_:Nat}{r:Unit}(K:Up fu_=some r):AQ J 130 [nS,(fV 113)] E [] (λw E' B'=>w= .tuple #[]/\B'= []):=by
 refine Bn func130 λQ av cs H O U=>?_;unfold Up at K;refine C 3 V (JL.ln underlying80 V V V ?_);refine C 6 V (Am (v:= .int .u64 ((C3 ((0:Nat):Int):Nat):Int)) V (λρ h=>Yl.C3 underlying3 underlying136 (h _ _ V)) ?_);obtain⟨aw,Y,Z⟩:=bs K;refine CF (NX Y) V V MN O λay ac ag=>?_;obtain⟨az,al,am⟩:=bs Z;refine C 1 V (CF (XW al) V V (Ba func169 V) ag λa0 ap aq=>?_);refine JL.done ?_;obtain rfl:=oi am;exact JL.fin (v:= .tuple #[]) V V (Bz.list func130 V (vs:= []) trivial) (U (ac.Ad ap) V ⟨V,V⟩ aq)
theorem YN{J:Judge Tryz.prog}{E:LH}{a:Ao}{c:Nat}{g:Seg}{p0:Aw}(Y:OL 27 AA E a c g p0){fu_:Nat}{r:Aw}(K:f130 fu_ p0=some r):
  AQ J 130 [.slice a p0.length c,.func (.func 113) #[] #[]] E g (λw E' B'=>w= .tuple #[]/\OL 27 AA E' a c B' r/\r.length=p0.length):=by
 rcases Y.cases with⟨rfl,rfl,rfl,rfl⟩ | ⟨bk,f,rfl,rfl,hW⟩
 ·have Z:r= []:=by
   cases fu_ with
   | zero=>exact absurd K (by simp [f130,f169,f193,iter])
   | succ fu_=>
    cases fu_ with
    | zero=>exact(Option.some.inj (K.symm.trans (by rfl:f130 1 []=some []))).trans rfl
    | succ fu_=>exact(Option.some.inj (K.symm.trans (by rfl:f130 (fu_+2) []=some []))).trans rfl
  subst Z;refine(YZ (fu_:=10) (r:=()) V).Ah ?_;rintro w E' B' hle ⟨O,rfl⟩;exact⟨O,OL.nil,V⟩
 ·refine(ZD hW K).Ah ?_;rintro w E' B' hle ⟨ac,O,rfl,U⟩;exact⟨O,U.1,U.2⟩
def f90(fu_:Nat)(p0:Aw):Option (Aw):= (f129 fu_ p0).bind λK=> (f130 fu_ K).bind λO=> some O
theorem bJ{a1:Ao}{c2:Nat}{p0:Aw}(al:Al AA E a1 c2 p0){fu_:Nat}{r:Aw}(Z:f90 fu_ p0=some r):AQ J 90 [sV a1 p0 c2] E [] (λw E' B'=>∃(ac:Ao) (ag:Nat),w= sV ac r ag/\B'= []/\Al AA E' ac ag r):=by
 refine Bn func90 λQ a9 cs H am ap=>?_;unfold f90 at Z;obtain⟨bb,aq,av⟩:=bs Z;refine C 7 V (BT (ZI al aq) V V (Ba func129 V) am ?_);rintro _ be bi aw ⟨K,O,_,rfl,rfl,ay⟩ az;obtain⟨U,a0,a2⟩:=bs av;refine C 5 V (Cr 1 (YN ay a0) V V (Ba func130 V) az V ?_);rintro _ bn bo a3 ⟨rfl,a4,Y⟩ a5;refine Fo (L':= [(6,.tuple #[]),(0,.slice K U.length O),(2,.slice none 0 0),(3,.slice a1 p0.length c2),(4,.slice K U.length O),(5,.slice K U.length O)]) ⟨V,by rw [Y];rfl,V,V,by rw [Y];rfl,by rw [Y];rfl,trivial⟩ ?_;refine C 6 V (B9 1 a4 a5 V λbv a6 a7 a8=>?_);obtain rfl:=oi a2;exact AZ func90 V V (ap ((aw.Ad a3).Ad a6) V ⟨K,O,V,V,a7⟩ a8)
end Pal
namespace Pal
open Go Go.Conc
variable {P:Program}{Q:Gs_}{n:Nat}{ds:Ld_}{ops:Ao_}{k:Li_}{cs:Lf_}{m:Nat}{L:Env}{s:St}{E H:LH}{S:List Seg}
variable {d:Option Tmp}{t ty:TypeId}{p:String}{af:Ae_}{g:On_}{v:Value}
section
variable {J:Judge P}{b:Frame}{fuel:Nat}{listed:Array Bool}
variable {x y:Operand}{e:TypeId}{i:Nat}
theorem Take.y0{oi:Oper}(hi:ops[i]? =some oi)(K:(!Dw oi.op&&Bb n oi.dst)=true)(hw:AL L ops oi=some true)(O:∀ρ,EF L ρ->Yl P oi ρ s v)
  (h:AM J Q b n ds ops k cs m Dk fuel (A2 listed i) (As L oi.dst v) s):Take J Q b n ds ops k cs m Dk fuel listed L s i:=
 Take.ME hi K hw λρ U=>by
  have:=O ρ U
  unfold Yl at this
  refine Ej _ this ?_ (λ_ _ h=>h)
  rintro Y s' ⟨rfl,rfl⟩
  exact h
end
def GK{P:Program}(J:Judge P)(f:FuncId)(args:Lv_)(E:LH)(B:Seg)(p:Bool)(pv:Value)(R:Value->LH->Seg->Prop):Prop:=
 ∀(Q:Gs_) (bc:Frame) (Tc:Av_) (dsc:Ld_) (K:Li_) (cs:Lf_) (H:LH),Nd E H B->
  (p=false->∀v E' B',Le E E'->R v E' B'->Nd E' H B'->J.ok Q (G ((fr bc Tc dsc K).finish v) cs) (mk E' H B'))->
  (p=true->∀E' B',Le E E'->Nd E' H B'->J.ok Q (G (G4 bc Tc dsc K (raised pv)) cs) (mk E' H B'))->
  J.ok Q (G (Frame.enter P f args.toArray .normal) (fr bc Tc dsc K::cs)) (mk E H B)
variable {bc:Frame}{dsc:Ld_}{rest:List Nat}{pp:String}{pv:Value}
section
variable {J:Judge P}{b:Frame}{i:Nat}{e:TypeId}
theorem GK.enter{f:FuncId}{fn:Func}{c:Code}{vs:Lv_}{B:Seg}{R:Value->LH->Seg->Prop}{p:Bool}(ac:P.funcs[f]? =some fn)(hb:fn.body=some c)(ay:vs.length<=fn.ntmps)
  (h:∀(Q:Gs_) (bc:Frame) (Tc:Av_) (dsc:Ld_) (O:Li_) (cs:Lf_) (H:LH),Ap E H [B]->
   (p=false->∀v E' S' B',Le E E'->S'.flatten=B'->R v E' B'->Ap E' H S'->J.ok Q (G ((fr bc Tc dsc O).finish v) cs) (Ak E' H S'))->
   (p=true->∀E' S',Le E E'->Ap E' H S'->J.ok Q (G (G4 bc Tc dsc O (raised pv)) cs) (Ak E' H S'))->
   JL J Q (base f) fn.ntmps (Gj 0 vs) [] [.code c] (fr bc Tc dsc O::cs) (Ak E H [B])):GK J f vs E B p pv R:=λQ bc Tc dsc O cs H ag al K=>by
 have he:Frame.enter P f vs.toArray .normal=fr (base f) (vs.toArray++Array.replicate (fn.ntmps - vs.length) undef) [] [.code c]:=by
  simp [Frame.enter,fr,ac,hb,base];rfl
 have am:mk E H B=Ak E H [B]:=by unfold Ak;simp
 rw [he,am];refine h Q bc Tc dsc O cs H (by unfold Ap;simpa using ag) (λU v E' S' B' hle ap aq Y=>?_) (λU E' S' hle Y=>?_) _ ⟨by simp;omega,λt v av=>?_⟩
 ·subst ap;exact al U v E' S'.flatten hle aq Y
 ·exact K U E' S'.flatten hle Y
 ·obtain⟨_,K⟩:=JD av;have aw:t<vs.length:=by
   rcases Nat.lt_or_ge t vs.length with Z | Z
   ·exact Z
   ·simp at K;have:=(List.getElem?_eq_some_iff.1 K).1;omega
  rw [Array.getD_eq_getD_getElem?,Array.getElem?_append_left (by simpa using aw)];simp at K;simp [K]
theorem Ws{x:Operand}{f:FuncId}{caps:Lv_}{args:Array Operand}{ats:Array TypeId}{s:St}{vs:Lv_}(hb:DF P f=true)
  (U:ops[i]? =some ⟨d,.call ⟨.value x,args,ats⟩,ty,pp,af,g⟩) (hw:AL L ops ⟨d,.call ⟨.value x,args,ats⟩,ty,pp,af,g⟩=some true) (O:((b.kind != .early)&&Bb n d)=true)
  (Y:ev L x=some (.func (.func f) #[] caps.toArray)) (Z:evs L args.toList=some vs)
  (h:∀T,Has n L T->J.ok Q (G (Frame.enter P f (vs++caps).toArray .normal) (fr b T ds (.inRegion ops (i::rest)::k)::cs)) s):
  JL J Q b n L ds (.inRegion ops (i::rest)::k) cs s:=λT K=>by
 simp only [Bool.and_eq_true] at O
 have ac:args.map (Bx T)=vs.toArray:=by
  rw [← GA K.F6 Z];apply Array.ext';simp
 refine Judge.oper U (B4 K hw) (by simpa using O.1) (.inr λc ag=>by cases ag) ?_;have hd:lp P (execOp (Bx T) ⟨d,.call ⟨.value x,args,ats⟩,ty,pp,af,g⟩) s (upon J Q b T ds ops i rest k cs d) (Ll J Q b T ds ops i rest k cs):=by
  have al:execOp (Bx T) ⟨d,.call ⟨.value x,args,ats⟩,ty,pp,af,g⟩=(do let d ← Deferred.ofValue (.func (.func f) #[] caps.toArray) vs.toArray;invoke d.target d.args):=by
   simp only [execOp,resolve,ac,K.F6 _ _ Y]
  rw [al];simp only [Deferred.ofValue,bind,Sem.bind,pure,invoke];have e: #[]++vs.toArray++caps.toArray=(vs++caps).toArray:=by simp
  rw [e];exact I8 hb (h T K)
 exact hd
theorem Wx{f:FuncId}{args:Array Operand}{ats:Array TypeId}{s:St}{vs:Lv_}(hb:DF P f=true)
  (U:ops[i]? =some ⟨d,.call ⟨.value (.func f),args,ats⟩,ty,pp,af,g⟩) (hw:AL L ops ⟨d,.call ⟨.value (.func f),args,ats⟩,ty,pp,af,g⟩=some true) (O:((b.kind != .early)&&Bb n d)=true)
  (Y:evs L args.toList=some vs)
  (h:∀T,Has n L T->J.ok Q (G (Frame.enter P f vs.toArray .normal) (fr b T ds (.inRegion ops (i::rest)::k)::cs)) s):
  JL J Q b n L ds (.inRegion ops (i::rest)::k) cs s:=λT K=>by
 simp only [Bool.and_eq_true] at O
 have Z:args.map (Bx T)=vs.toArray:=by
  rw [← GA K.F6 Y];apply Array.ext';simp
 refine Judge.oper U (B4 K hw) (by simpa using O.1) (.inr λc ac=>by cases ac) ?_;have hd:lp P (execOp (Bx T) ⟨d,.call ⟨.value (.func f),args,ats⟩,ty,pp,af,g⟩) s (upon J Q b T ds ops i rest k cs d) (Ll J Q b T ds ops i rest k cs):=by
  simp only [execOp,resolve,bind,Sem.bind,Deferred.ofValue,Bx,pure,invoke];have e: #[]++args.map (Bx T)++ #[]=vs.toArray:=by rw [Z];simp
  rw [e];exact I8 hb (h T K)
 exact hd
theorem Yj{g:Frame}{s:St}(O:s.q=false)(h:(∃w,Fits s w)->J.ok Q (G g cs) s):J.ok Q (G g cs) s:=by
 by_cases K:∃w,Fits s w
 ·exact h K
 ·exact J.step ⟨V,λw f=>absurd ⟨w,f⟩ K,λe=>by subst e;cases O⟩
theorem GK.use{f:FuncId}{vs:Lv_}{B:Seg}{R:Value->LH->Seg->Prop}{p:Bool}{Tc:Av_}{Y:Li_}(j:Nat)(ap:GK J f vs E B p pv R)(ac:Ap E H S)(ag:S[j]? =some B)
  (Z:p=false->∀v E' B',Le E E'->R v E' B'->Ap E' H (S.set j B')->J.ok Q (G ((fr bc Tc dsc Y).finish v) cs) (Ak E' H (S.set j B')))
  (aq:p=true->∀E' B',Le E E'->Ap E' H (S.set j B')->J.ok Q (G (G4 bc Tc dsc Y (raised pv)) cs) (Ak E' H (S.set j B'))):
  J.ok Q (G (Frame.enter P f vs.toArray .normal) (fr bc Tc dsc Y::cs)) (Ak E H S):=by
 have K:S.flatten.Perm (B++(S.set j []).flatten):=(Et (seg':=B) ag).1.trans List.perm_append_comm;have al:Nd E H (B++(S.set j []).flatten):=Nd.perm ac K;have av:Ak E H S=mk E (A1 (S.set j []).flatten H) B:=by
  rw [show Ak E H S=mk E H S.flatten from rfl,Fl ac K];unfold mk;rw [FX]
 have aw:Nd E H (S.set j []).flatten:=by
  have:=al;rw [Nd.iff] at this ⊢;rw [List.map_append,List.nodup_append] at this;exact⟨this.1.2.1,λq ay=>this.2 q (List.mem_append_right _ ay)⟩
 have back:∀(g:Frame) (E':LH) (B':Seg),Le E E'->Nd E' (A1 (S.set j []).flatten H) B'->(Ap E' H (S.set j B')->J.ok Q (G g cs) (Ak E' H (S.set j B')))->J.ok Q (G g cs) (mk E' (A1 (S.set j []).flatten H) B'):=λg E' B' hle U az=>by
  have e2:mk E' (A1 (S.set j []).flatten H) B'=mk E' H (B'++(S.set j []).flatten):=by unfold mk;rw [FX]
  refine Yj V λ⟨w,a0⟩=>?_;have a1:Nd E' H (S.set j []).flatten:=aw.grow λx a2=>by
   have a3:=a0.d x a2;have Z:A1 B' (A1 (S.set j []).flatten H) x=none:=a3;exact(H6 Z).1
  have O:Nd E' H (B'++(S.set j []).flatten):=Nd.glue U a1;rw [e2];have am:(B'++(S.set j []).flatten).Perm (S.set j B').flatten:=List.perm_append_comm.trans (Et ag).2.symm;rw [Fl O am];exact az (Nd.perm O am)
 rw [av];refine ap Q bc Tc dsc Y cs _ (Nd.front al) (λK v E' B' hle a4 U=>back _ E' B' hle U λO=>Z K v E' B' hle a4 O) (λK E' B' hle U=>back _ E' B' hle U λO=>aq K E' B' hle O)
theorem RX{x:Operand}{f:FuncId}{caps:Lv_}{args:Array Operand}{ats:Array TypeId}{vs:Lv_}{seg:Seg}{R:Value->LH->Seg->Prop}{p:Bool}(j:Nat)(hb:DF P f=true)
  (ac:GK J f (vs++caps) E seg p pv R) (Y:ops[i]? =some ⟨d,.call ⟨.value x,args,ats⟩,ty,pp,af,g⟩) (hw:AL L ops ⟨d,.call ⟨.value x,args,ats⟩,ty,pp,af,g⟩=some true) (K:((b.kind != .early)&&Bb n d)=true)
  (ag:ev L x=some (.func (.func f) #[] caps.toArray)) (al:evs L args.toList=some vs) (am:Ap E H S) (ap:S[j]? =some seg)
  (aq:p=true->∀E' seg',Le E E'->Ap E' H (S.set j seg')->JP J Q b n L ds cs (raised pv) (Ak E' H (S.set j seg')))
  (av:p=false->∀v E' seg',Le E E'->R v E' seg'->Ap E' H (S.set j seg')->JL J Q b n (As L d v) ds (.inRegion ops rest::k) cs (Ak E' H (S.set j seg'))):
  JL J Q b n L ds (.inRegion ops (i::rest)::k) cs (Ak E H S):=
 Ws hb Y hw K ag al λT Z=>GK.use j ac am ap
  (λO v E' B' hle aw U=>by
   rw [Gz (o:=⟨d,.call ⟨.value x,args,ats⟩,ty,pp,af,g⟩) _ _ _ _ _ Y]
   simp only [Bool.and_eq_true] at K
   exact av O v E' B' hle aw U _ (Z.put K.2 v))
  (λO E' B' hle U=>aq O E' B' hle U T Z _)
theorem WK{f:FuncId}{args:Array Operand}{ats:Array TypeId}{vs:Lv_}{seg:Seg}{R:Value->LH->Seg->Prop}{p:Bool}(j:Nat)(hb:DF P f=true)
  (ac:GK J f vs E seg p pv R) (Y:ops[i]? =some ⟨d,.call ⟨.value (.func f),args,ats⟩,ty,pp,af,g⟩) (hw:AL L ops ⟨d,.call ⟨.value (.func f),args,ats⟩,ty,pp,af,g⟩=some true) (K:((b.kind != .early)&&Bb n d)=true)
  (ag:evs L args.toList=some vs) (al:Ap E H S) (am:S[j]? =some seg)
  (ap:p=true->∀E' seg',Le E E'->Ap E' H (S.set j seg')->JP J Q b n L ds cs (raised pv) (Ak E' H (S.set j seg')))
  (aq:p=false->∀v E' seg',Le E E'->R v E' seg'->Ap E' H (S.set j seg')->JL J Q b n (As L d v) ds (.inRegion ops rest::k) cs (Ak E' H (S.set j seg'))):
  JL J Q b n L ds (.inRegion ops (i::rest)::k) cs (Ak E H S):=
 Wx hb Y hw K ag λT Z=>GK.use j ac al am
  (λO v E' B' hle av U=>by
   rw [Gz (o:=⟨d,.call ⟨.value (.func f),args,ats⟩,ty,pp,af,g⟩) _ _ _ _ _ Y]
   simp only [Bool.and_eq_true] at K
   exact aq O v E' B' hle av U _ (Z.put K.2 v))
  (λO E' B' hle U=>ap O E' B' hle U T Z _)
theorem XD{ρ:Operand->Value}{x y z1:Operand}{s:St}{p:String}{a:Option Addr}{l c K m:Nat}{hi:Int}(O:∀ad,a=some ad->ad.spot=none∨c=0)(U:m<=c)(he:hi=(m:Int))(Y:P.underlying t=some (.slice e))(Z:Bl P e=some K)(ac:ρ x= .slice a l c)(ag:ρ y=iV hi)(al:ρ z1=iV hi):
  Yl P ⟨d,.slice t x none (some y) (some z1),ty,p,af,g⟩ ρ s (.slice a m m):=by
 subst he;have h:=Yl.slice (P:=P) (s:=s) (d:=d) (ty:=ty) (p:=p) (af:=af) (g:=g) (olo:=none) (ohi:=some y) (omx:=some z1) (lo:=0) (hi:=m) (mx:=m) Y Z ac al ag V U (Nat.le_refl _) (Nat.zero_le _);have am:(if m=0 then a else a.map (·.add (0*K)))=a:=by
  split
  ·rfl
  ·cases a with
   | none=>rfl
   | some ad=>
    have:=(O ad rfl).resolve_right (by omega);simp only [Option.map_some,Nat.zero_mul];rw [Dm this];obtain⟨b,o,sp⟩:=ad;simp only at this;subst this;simp
 rw [am] at h;simpa using h
theorem Al.bW{α:Type}{q:Rp α}{a:Option Addr}{c:Nat}{xs ys:List α}{hi:Int}(U:Al q E a c xs)(hC:Gl xs 0 hi=some ys):Al q E a c ys/\ys.length<=c/\hi=(ys.length:Int):=by
 unfold Gl at hC;split at hC
 rotate_left
 ·cases hC
 rename_i hb;obtain⟨Z,ac,ag⟩:=hb;cases hC;have al:=U.1;have hlen:(((xs.take hi.toNat).drop (0:Int).toNat)).length=hi.toNat:=by simp;omega
 refine⟨⟨by rw [hlen];omega,?_⟩,by rw [hlen];omega,by rw [hlen];omega⟩;rcases U.2 with⟨h,O⟩ | ⟨bk,off,Y,O⟩
 ·exact .inl ⟨by rw [h];simp,O⟩
 ·refine .inr ⟨bk,off,Y,λi x K=>O i x ?_⟩;simp only [Int.toNat_zero,List.drop_zero] at K;rw [List.getElem?_take] at K;split at K
  ·exact K
  ·cases K
theorem Take.R6{m fuel:Nat}{listed:Array Bool}{x y:Operand}{p:String}{α:Type}{q:Rp α}{t1:TypeId}{Y c cx:Nat}{a ax:Option Addr}{xs ys Z:List α}{ats:Array TypeId}{z:Value}(U:CN xs ys=some Z)
  (aw:ops[i]? =some ⟨d,.call ⟨.builtin .append,#[x,y],ats⟩,ty,p,af,g⟩) (hw:AL L ops ⟨d,.call ⟨.builtin .append,#[x,y],ats⟩,ty,p,af,g⟩=some true) (ay:Bb n d=true)
  (az:ev L x=some (.slice a xs.length xs.length)) (a0:ev L y=some (.slice ax ys.length cx)) (a1:ats[0]? =some t) (a2:ats[1]? =some t1) (a3:P.underlying t=some (.slice e)) (a4:P.underlying t1=some (.slice e)) (a5:Bl P e=some q.n) (hb:FA P e=some Y) (a6:zeroOf P e=some z) (a7:z.cells.size=q.n)
  (a8:0<Y) (a9:Y<=64) (ac:Al q E a c xs) (bb:Al q E ax cx ys) (ag:Ap E H S)
  (h:∀E' al K,Le E E'->Al q E' al K Z->Ap E' H (S++ [[]])->AM J Q b n ds ops k cs m Dk fuel (A2 listed i) (As L d (.slice al Z.length K)) (Ak E' H (S++ [[]]))):
  Take J Q b n ds ops k cs m Dk fuel listed L (Ak E H S) i:=by
 unfold CN at U;split at U
 rotate_left
 ·cases U
 rename_i be;cases U;obtain⟨wss,am,bi,bn,ci⟩:=Al.L4 (H:=H) (B:=S.flatten) ac.full;obtain⟨bo,bv,bw,bx,bz⟩:=Al.L4 (H:=H) (B:=S.flatten) bb;have hlen:(xs++ys).length=xs.length+ys.length:=by simp
 show Take J Q b n ds ops k cs m Dk fuel listed L (mk E H S.flatten) i;refine Take.ME aw (by simp [Dw,ay]) hw λρ ap=>?_;rw [LJ,ap x _ az,ap y _ a0];refine Au _ _ (QY a1 a2 a4 a3 a5 hb a6 a7 ag bn bx bz a8 be a9 ?_ ?_)
 ·intro hm;have b0:ys= []:=List.eq_nil_of_length_eq_zero hm;subst b0;have b1:Ap E H (S++ [[]]):=by unfold Ap at*;rw [Ha,List.append_nil];exact ag
  have b2:mk E H S.flatten=Ak E H (S++ [[]]):=by unfold Ak;rw [Ha,List.append_nil]
  rw [b2];have:=h E a xs.length (Le.refl _) (by rw [List.append_nil];exact ac.full) b1;rw [hlen] at this;exact this
 ·intro r O K b3 b4 b5 b6;have ca:OL e q E (some ⟨r,0,none⟩) K [(r,.cells O e (0,0))] (xs++ys):=
   ⟨wss++bo,.inr ⟨r,O,rfl,rfl,b4,by rw [hlen];exact b3,by rw [hlen,List.flatten_append];exact b5.symm⟩,by simp [am,bv],M1 am bi bw⟩
  have aq:=FI (S:=S) (seg:= [(r,.cells O e (0,0))]) b6;show AM J Q b n ds ops k cs m Dk fuel _ _ (mk E H (S.flatten++ [(r,.cells O e (0,0))]));rw [aq.1];refine Ge S.length ca aq.2 (by simp) λE' hle cc av=>?_;have ce:(S++ [[(r,Obj.cells O e (0,0))]]).set S.length []=S++ [[]]:=Jh _ _ _ _;rw [ce] at av ⊢;have:=h E' (some ⟨r,0,none⟩) K hle cc av;rw [hlen] at this;exact this
theorem U3{ρ:Operand->Value}{x:Operand}{s:St}{p:String}{v:Value}{xt t1:TypeId}{f1:Array Field}(K:P.underlying t1=some (.struct f1))(O:ρ x= .iface t1 v):Yl P ⟨d,.typeAssert x xt t1 true,ty,p,af,g⟩ ρ s (.tuple #[v,.bool true]):=by
 refine FV (sm:=Instr.typeAssert (ρ x) xt t1 true) V ?_;rw [O];unfold Instr.typeAssert;refine Au _ _ (Co K ?_);simp [lp,pure]
theorem U5{ρ:Operand->Value}{x:Operand}{s:St}{p:String}{z:Value}{xt t1:TypeId}{f1:Array Field}(K:P.underlying t1=some (.struct f1))(O:zeroOf P t1=some z)(U:ρ x= .nilIface):Yl P ⟨d,.typeAssert x xt t1 true,ty,p,af,g⟩ ρ s (.tuple #[z,.bool false]):=by
 refine FV (sm:=Instr.typeAssert (ρ x) xt t1 true) V ?_;rw [U];unfold Instr.typeAssert;refine Au _ _ (Co K ?_);exact Au (x:=zeroValue t1) _ (Hy O ⟨V,V⟩)
end
end Pal
