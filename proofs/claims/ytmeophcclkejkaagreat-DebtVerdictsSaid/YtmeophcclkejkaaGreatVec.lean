/- DebtVerdicts: a part (3 of 9) of the proof of its row. -/
import Derived.Test.YtmeophcclkejkaaGreatVea
import Derived.Test.YtmeophcclkejkaaGreatVeb
import Derived.Test.YtmeophcclkejkaaGreatRows
import Derived.Test.YtmeophcclkejkaaGreatChecked
import Derived.Conc.LeavingOf
import Derived.Conc.HoldsTime
import Derived.Carry
import Derived.ChangeSame
import Derived.ChangeVars
import Derived.ChangeSlices
import Derived.JoinedOf
import Derived.RowKit
import Derived.Deep.Strs
import Derived.Stop.Joined
import Derived.Test.YtmeophcclkejkaaGreatProg
set_option linter.all false
set_option maxRecDepth 100000
namespace Pal
open Go Go.Conc
variable {P:Program}
section
variable (J:Judge P)(Q:Gs_)(b:Frame)(ds:Ld_)(ops:Ao_)(k:Li_)(cs:Lf_)(X D:Nat->Bool)
def JB:Nat->Array Bool->Av_->St->Prop
 | 0,listed,T,s=>Region.ready .any ops listed= []/\J.ok Q (G (fr b T ds (.inRegion ops []::k)) cs) s
 | fuel+1,listed,T,s=>
  Region.ready .any ops listed≠ []/\s.q=false/\∀i∈Region.ready .any ops listed,∀o,ops[i]? =some o->(∀c,o.op≠ .defer c)/\
   (Region.wanted o (yielded ops T)=false->JB fuel (Bi listed i) (C7 T o.dst undef) s)/\
   (Region.wanted o (yielded ops T)=true->X i=true->lp P (execOp (BK T) o) s (λK s'=>match K with
    | .value v=>JB fuel (Bi listed i) (C7 T o.dst v) s'
    | .skip=>JB fuel (Bi listed i) (C7 T o.dst undef) s'
    | _=>False) (λ_ _=>False))/\
   (Region.wanted o (yielded ops T)=true->X i=false->lp P (execOp (BK T) o) (BE D s) (λK s'=>match K with
    | .value v=>JB fuel (Bi listed i) (C7 T o.dst v) (CH D s s')
    | .skip=>JB fuel (Bi listed i) (C7 T o.dst undef) (CH D s s')
    | _=>False) (λ_ _=>False))
variable {J Q b ds ops k cs X D}
theorem Xs(Z:b.kind≠ .early):∀(fuel t:Nat) (listed:Array Bool) (T:Av_) (s:St),JB J Q b ds ops k cs X D fuel listed T s->
  J.ok Q (G (fr b T ds (.inRegion ops (Region.linearise.go .any ops fuel t listed [])::k)) cs) s:=by
 intro fuel
 induction fuel with
 | zero=>intro t listed T s h;simpa [Region.linearise.go] using h.2
 | succ fuel O=>
  intro t listed T s h;obtain⟨al,am,h⟩:=h;obtain⟨i,hi⟩:∃i,(Region.ready .any ops listed)[t % (Region.ready .any ops listed).length]? =some i:=by
   have:0<(Region.ready .any ops listed).length:=List.length_pos_iff.2 al;exact⟨_,List.getElem?_eq_getElem (Nat.mod_lt _ this)⟩
  have ac:=List.mem_of_getElem? hi;have hgo:Region.linearise.go .any ops (fuel+1) t listed []=i::Region.linearise.go .any ops fuel (t / (Region.ready .any ops listed).length) (Bi listed i) []:=by
   simp only [Region.linearise.go];change (match(Region.ready .any ops listed)[t % (Region.ready .any ops listed).length]? with
    | some i=>Region.linearise.go .any ops fuel (t / (Region.ready .any ops listed).length) (listed.setIfInBounds i true) [i]
    | none=> [].reverse)=_
   rw [hi];simp only;rw [linearise_go_acc];rfl
  rw [hgo];obtain⟨_,o,U,_⟩:=mem_ready.1 ac;obtain⟨hd,ap,aq,av⟩:=h i ac o U;cases hw:Region.wanted o (yielded ops T) with
  | false=>exact Judge.unwanted U hw (O _ _ _ _ (ap hw))
  | true=>
   cases ag:X i with
   | true=>
    refine Judge.oper U hw Z (.inr hd) (EH _ (aq hw ag) ?_ (λ_ _ h=>h.elim));intro Y s' K;cases Y with
    | value v=>exact O _ _ _ _ K
    | skip=>exact O _ _ _ _ K
    | _=>exact K.elim
   | false=>
    refine Judge.Ts D U hw Z hd am (EH _ (av hw ag) ?_ (λ_ _ h=>h));intro Y s' K;cases Y with
    | value v=>exact O _ _ _ _ K
    | skip=>exact O _ _ _ _ K
    | _=>exact K.elim
def waitAll(ops:Ao_)(X:Nat->Bool)(i:Nat):Bool:=(List.range ops.size).all λj=> !X j || waits ops ops.size j i
theorem TH{D:Nat->Bool}{s s':St}(K:s'.E=(BE D s).E){x:Nat}{o:Obj}(h:s.E x=some o):(CH D s s').E x=some o:=by
 by_cases hd:D x
 ·simp [CH,hd,h]
 ·have:=congrFun K x;simp [BE,hd] at this;simp [CH,hd,this,h]
theorem SF{i:Nat}{oi:Oper}{w pure:Bool}{v:Value}(hi:ops[i]? =some oi)(c0:X i=false)(ca:(pure || waitAll ops X i)=true)(c1:Region.noSelect ops=true)(c2:∀c,oi.op≠ .defer c):
  ∀(fuel:Nat) (listed:Array Bool) (T:Av_) (s:St),IZ ops listed i oi=true->HZ ops listed=true->listed.size=ops.size->i∈Region.ready .any ops listed->s.q=false->Region.wanted oi (yielded ops T)=w->
   (w=true->∀s',s'.q=false->(∀x o,s.E x=some o->s'.E x=some o)->(pure=false->∀x o,(BE D s).E x=some o->s'.E x=some o)->Yl P oi (BK T) s' v)->
   JB J Q b ds ops k cs X D fuel (Bi listed i) (C7 T oi.dst (if w then v else undef)) s->JB J Q b ds ops k cs X D (fuel+1) listed T s:=by
 have av:∀(j:Nat) (am:Oper),ops[j]? =some am->∀cs b,am.op≠Op.select cs b:=λj am h cs b=>Region.noSelect_spec c1 j am cs b h;intro fuel
 induction fuel with
 | zero=>?_
 | succ fuel a2=>?_
 all_goals
  intro listed T s cc ce a3 bv a4 hw aw h;refine⟨λe=>(by rw [e] at bv;cases bv),a4,λj ci am U=>?_⟩;by_cases a5:j=i
  ·subst a5;obtain rfl:am=oi:=by rw [hi] at U;exact(Option.some.inj U).symm
   refine⟨c2,λO=>?_,λay K=>?_,λay K=>?_⟩
   ·rw [O] at hw;subst hw;exact h
   ·rw [c0] at K;cases K
   ·rw [ay] at hw;subst hw;refine EH _ (aw V (BE D s) a4 (λx o h=>by unfold BE;simp only;split;(· unfold St.get;rw [h]);exact h) λ_ _ _ h=>h).out ?_ (λ_ _ h=>h);rintro bw s' ⟨rfl,rfl⟩;rw [Lb];exact h
  ·
   have co:j∈Region.ready .any ops (Bi listed i):=ready_mono ci a5;obtain⟨az,Y,cp,bz⟩:=mem_ready.1 ci;obtain rfl:Y=am:=by rw [U] at cp;exact(Option.some.inj cp).symm
   have b0:=(mem_ready.1 bv).1;have c3:(Y.after.any λe=>Region.binds .any e&&e.on==i)=false:=by
    rw [Array.any_eq_false];intro e he K;simp only [Bool.and_eq_true,beq_iff_eq] at K;have:=bz _ (Array.getElem_mem he) K.1;rw [K.2] at this;have a0:listed.getD i true=listed.getD i false∨listed.size<=i:=by
     rcases Nat.lt_or_ge i listed.size with q | q
     ·left;simp [Array.getD_eq_getD_getElem?,q]
     ·exact .inr q
    rcases a0 with a0 | a0
    ·rw [b0,this] at a0;cases a0
    ·rw [Array.getD_eq_getD_getElem?,Array.getElem?_eq_none a0] at this;simp at this
   have c4:oi.apart ops Y=true:=by
    have b1:j<ops.size:=(Array.getElem?_eq_some_iff.1 U).1;have:=List.all_eq_true.1 cc j (List.mem_range.2 b1);simp only [Bool.or_eq_true,beq_iff_eq] at this;rcases this with(q | q) | q
    ·exact absurd q a5
    ·rw [az] at q;cases q
    ·rw [U] at q;simp only [Bool.or_eq_true] at q;rw [c3] at q;exact q.resolve_left (by simp)
   obtain⟨a1,a6,a7⟩:=Oper.apart_spec c4;obtain⟨p1,p2⟩:=Io (ops:=ops) (T:=T) (v:=if w then v else undef) (av j Y U) a1
   first
    | exact absurd co (by rw [h.1];simp)
    | (
     obtain⟨dL,_,h⟩:=h
     obtain⟨hd,O,c5,c6⟩:=h j co Y U
     have a8:Bi (Bi listed i) j=Bi (Bi listed j) i:=by
      unfold Bi;exact Array.setIfInBounds_comm _ _ (Ne.symm a5)
     have a9:i∈Region.ready .any ops (Bi listed j):=ready_mono bv (Ne.symm a5)
     have bb:IZ ops (Bi listed j) i oi=true:=by
      refine List.all_eq_true.2 λx K=>?_
      have:=List.all_eq_true.1 cc x K
      simp only [Bool.or_eq_true,beq_iff_eq] at this ⊢
      rcases this with(q | q) | q
      ·exact .inl (.inl q)
      ·left;right
       by_cases e:j=x
       ·subst e;rw [az] at q;cases q
       ·rw [Bi,getD_set_ne true e];exact q
      ·exact .inr q
     have be:(Bi listed j).size=ops.size:=by unfold Bi;simpa using a3
     have bi:HZ ops (Bi listed j)=true:=by
      refine List.all_eq_true.2 λx K=>?_
      cases b2:ops[x]? with
      | none=>simp
      | some c7=>
       simp only [Bool.or_eq_true,Bool.not_eq_true']
       by_cases e:j=x
       ·subst e
        obtain rfl:c7=Y:=by rw [U] at b2;exact(Option.some.inj b2).symm
        right
        refine Array.all_eq_true'.2 λe he=>?_
        cases hb:Region.binds .any e with
        | false=>simp
        | true=>
         have:=bz e he hb
         by_cases e2:j=e.on
         ·rw [← e2] at this
          have b3:j<listed.size:=by rw [a3];exact(Array.getElem?_eq_some_iff.1 U).1
          simp [Array.getD_eq_getD_getElem?,b3] at this az
          rw [az] at this;cases this
         ·rw [Bi,getD_set_ne false e2];simpa using this
       ·cases ct:(Bi listed j).getD x false with
        | false=>exact .inl rfl
        | true=>
         right
         have c8:listed.getD x false=true:=by rw [Bi,getD_set_ne false e] at ct;exact ct
         refine Array.all_eq_true'.2 λb4 he=>?_
         cases hb:Region.binds .any b4 with
         | false=>simp
         | true=>
          have:=Pl ce b2 c8 b4 he hb
          by_cases e2:j=b4.on
          ·rw [← e2] at this
           have b3:j<listed.size:=by rw [a3];exact(Array.getElem?_eq_some_iff.1 U).1
           simp [Array.getD_eq_getD_getElem?,b3] at this az
           rw [az] at this;cases this
          ·rw [Bi,getD_set_ne false e2];simpa using this
     refine⟨hd,λc9=>?_,λb5 bx=>?_,λb5 bx=>?_⟩
     ·have:=O (by rw [p2];exact c9)
      rw [a8,Jk a6] at this
      obtain⟨Z,ac⟩:=Io (ops:=ops) (T:=T) (d:=Y.dst) (v:=undef) (o:=oi) (av i oi hi) a7
      exact a2 _ _ _ bb bi be a9 a4 (by rw [ac];exact hw) (λag s' dd O al=>by unfold Yl;rw [Z];exact(aw ag s' dd O al).out) this
     ·
      have dn:pure=true:=by
       cases dJ:pure with
       | true=>rfl
       | false=>
        exfalso
        rw [dJ,Bool.false_or] at ca
        have b1:j<ops.size:=(Array.getElem?_eq_some_iff.1 U).1
        have ay:=List.all_eq_true.1 ca j (List.mem_range.2 b1)
        rw [bx] at ay
        simp only [Bool.not_true,Bool.false_or] at ay
        rcases Re ce _ j Y U (λe he hb=>bz e he hb) ay with q | ⟨x,Z,ac⟩
        ·have dK:i<listed.size:=by rw [a3];exact(Array.getElem?_eq_some_iff.1 hi).1
         simp [Array.getD_eq_getD_getElem?,dK] at q b0
         rw [b0] at q;cases q
        ·have:¬x<listed.size:=by rw [a3];intro K;simp [K] at Z
         simp [Array.getD_eq_getD_getElem?,this] at ac
      have bn:=OS _ (c5 (by rw [p2];exact b5) bx)
      rw [p1] at bn
      refine EH _ bn ?_ (λ_ _ h=>h)
      rintro bw s' ⟨K,al,b6⟩
      have bo:s'.q=false:=b6.trans a4
      have cw:pure=false->∀{α:Prop},α:=λe=>by rw [dn] at e;cases e
      cases bw with
      | value u=>
       simp only at K ⊢
       rw [a8,Jk a6] at K
       obtain⟨Z,ac⟩:=Io (ops:=ops) (T:=T) (d:=Y.dst) (v:=u) (o:=oi) (av i oi hi) a7
       exact a2 _ _ _ bb bi be a9 bo (by rw [ac];exact hw) (λag s2 ap O aq=>by unfold Yl;rw [Z];exact(aw ag s2 ap (λx o h=>O x o (by rw [al];exact h)) (λe=>cw e)).out) K
      | skip=>
       simp only at K ⊢
       rw [a8,Jk a6] at K
       obtain⟨Z,ac⟩:=Io (ops:=ops) (T:=T) (d:=Y.dst) (v:=undef) (o:=oi) (av i oi hi) a7
       exact a2 _ _ _ bb bi be a9 bo (by rw [ac];exact hw) (λag s2 ap O aq=>by unfold Yl;rw [Z];exact(aw ag s2 ap (λx o h=>O x o (by rw [al];exact h)) (λe=>cw e)).out) K
      | _=>exact K.elim
     ·have bn:=OS _ (c6 (by rw [p2];exact b5) bx)
      rw [p1] at bn
      refine EH _ bn ?_ (λ_ _ h=>h)
      rintro bw s' ⟨K,al,b6⟩
      have cy:=Ro (D:=D) al
      have bo:(CH D s s').q=false:=by show s'.q=false;rw [b6];exact a4
      cases bw with
      | value u=>
       simp only at K ⊢
       rw [a8,Jk a6] at K
       obtain⟨Z,ac⟩:=Io (ops:=ops) (T:=T) (d:=Y.dst) (v:=u) (o:=oi) (av i oi hi) a7
       exact a2 _ _ _ bb bi be a9 bo (by rw [ac];exact hw) (λag s2 ap O aq=>by unfold Yl;rw [Z];exact(aw ag s2 ap (λx o h=>O x o (TH al h)) (λe=>by rw [cy] at aq;exact aq e)).out) K
      | skip=>
       simp only at K ⊢
       rw [a8,Jk a6] at K
       obtain⟨Z,ac⟩:=Io (ops:=ops) (T:=T) (d:=Y.dst) (v:=undef) (o:=oi) (av i oi hi) a7
       exact a2 _ _ _ bb bi be a9 bo (by rw [ac];exact hw) (λag s2 ap O aq=>by unfold Yl;rw [Z];exact(aw ag s2 ap (λx o h=>O x o (TH al h)) (λe=>by rw [cy] at aq;exact aq e)).out) K
      | _=>exact K.elim)
end
section
variable (J:Judge P)(Q:Gs_)(b:Frame)(n:Nat)(ds:Ld_)(ops:Ao_)(k:Li_)(cs:Lf_)(X D:Nat->Bool)
def Gd(fuel:Nat)(listed:Array Bool)(L:Env)(s:St):Prop:=∀T,Has n L T->JB J Q b ds ops k cs X D fuel listed T s
end
theorem JB.take{i:Nat}{oi:Oper}{w pure:Bool}{v:Value}{P:Program}{J:Judge P}{Q:Gs_}{b:Frame}{ds:Ld_}{ops:Ao_}{k:Li_}{cs:Lf_}{X D:Nat->Bool}(hi:ops[i]? =some oi)(K:X i=false)(O:(pure || waitAll ops X i)=true)(U:Region.noSelect ops=true)(Y:∀c,oi.op≠ .defer c)
  (fuel:Nat) (listed:Array Bool) (T:Av_) (s:St) (Z:IZ ops listed i oi=true) (ac:HZ ops listed=true) (ag:listed.size=ops.size) (al:i∈Region.ready .any ops listed) (am:s.q=false) (ap:Region.wanted oi (yielded ops T)=w)
  (aq:w=true->∀s',s'.q=false->(pure=false->∀x o,(BE D s).E x=some o->s'.E x=some o)->Yl P oi (BK T) s' v)
  (h:JB J Q b ds ops k cs X D fuel (Bi listed i) (C7 T oi.dst (if w then v else undef)) s):JB J Q b ds ops k cs X D (fuel+1) listed T s:=
 SF hi K O U Y fuel listed T s Z ac ag al am ap (λe s' hs _ av=>aq e s' hs av) h
def Kf(ops:Ao_)(listed:Array Bool)(xs:List Nat)(pure:Bool)(i:Nat):Bool:=match ops[i]? with
 | some oi=> !AO xs i&&(pure || waitAll ops (AO xs) i)&&Region.noSelect ops&& !Eg oi.op&&IZ ops listed i oi&&HZ ops listed&&listed.size==ops.size&&(Region.ready .any ops listed).contains i
 | none=>false
variable {J:Judge P}{Q:Gs_}{b:Frame}{n:Nat}{ds:Ld_}{ops:Ao_}{k:Li_}{cs:Lf_}{X D:Nat->Bool}{L:Env}{s:St}{E H:LH}{S:List Seg}{xl bks:List Nat}
variable {d:Option Tmp}{t u ty:TypeId}{p:String}{af:Ae_}{g:On_}{v:Value}{kd:IntKind}
section
variable {fuel:Nat}{listed:Array Bool}
variable {x y:Operand}{e:TypeId}{i:Nat}
theorem Hc(xl bks:List Nat){id:Nat}(hm:P.follows .mixedOrders=true)(K:(b.kind != .early)=true)
  (h:Gd J Q b n ds ops k cs (AO xl) (AO bks) ops.size (Array.replicate ops.size false) L (Al E H S)):JL J Q b n L ds (.code (.region id ops true)::k) cs (Al E H S):=
 S4 V hm λt T O=>Xs (by simpa using K) ops.size t _ T _ (h T O)
theorem JB.val{oi:Oper}(i:Nat)(pure:Bool)(hi:ops[i]? =some oi)(K:Kf ops listed xl pure i=true)(Y:s.q=false)
  (hw:AY L ops oi=some true) (Z:Br n oi.dst=true) (ac:∀ρ,Ff L ρ->∀s':St,(pure=false->∀x o,(BE D s).E x=some o->s'.E x=some o)->Yl P oi ρ s' v)
  (h:Gd J Q b n ds ops k cs (AO xl) D fuel (Bi listed i) (AB L oi.dst v) s):Gd J Q b n ds ops k cs (AO xl) D (fuel+1) listed L s:=λT O=>by
 simp only [Kf,hi,Bool.and_eq_true] at K
 obtain⟨⟨⟨⟨⟨⟨⟨ag,al⟩,am⟩,U⟩,ap⟩,aq⟩,av⟩,aw⟩:=K
 refine JB.take (w:=true) (v:=v) (pure:=pure) hi (by simpa using ag) al am (λc K=>by rw [K] at U;simp [Eg] at U) fuel listed T s ap aq (by simpa using av) (by simpa using aw) Y (Cq O hw) (λ_ s' az ay=>ac _ O.Gs s' ay) ?_
 exact h _ (O.put Z v)
theorem Lt{oi:Oper}(i:Nat)(hi:ops[i]? =some oi)(K:Kf ops listed xl true i=true)(Y:s.q=false)
  (hw:AY L ops oi=some true) (Z:Br n oi.dst=true) (ac:∀ρ,Ff L ρ->∀s':St,(∀x o,s.E x=some o->s'.E x=some o)->Yl P oi ρ s' v)
  (h:Gd J Q b n ds ops k cs (AO xl) D fuel (Bi listed i) (AB L oi.dst v) s):Gd J Q b n ds ops k cs (AO xl) D (fuel+1) listed L s:=λT O=>by
 simp only [Kf,hi,Bool.and_eq_true] at K
 obtain⟨⟨⟨⟨⟨⟨⟨ag,al⟩,am⟩,U⟩,ap⟩,aq⟩,av⟩,aw⟩:=K
 refine SF (w:=true) (v:=v) (pure:=true) hi (by simpa using ag) al am (λc K=>by rw [K] at U;simp [Eg] at U) fuel listed T s ap aq (by simpa using av) (by simpa using aw) Y (Cq O hw) (λ_ s' az ay _=>ac _ O.Gs s' ay) ?_
 exact h _ (O.put Z v)
theorem JB.fin(K:Region.ready .any ops listed= [])(h:JL J Q b n L ds k cs s):Gd J Q b n ds ops k cs X D 0 listed L s:=λT O=>⟨K,JL.done h T O⟩
theorem JB.store{bk off:Nat}{c:Av_}(i j:Nat)(U:Region.ready .any ops listed= [i])(ag:AO xl i=true)(al:ops[i]? =some ⟨d,.store t x y,ty,p,af,g⟩)(hw:AY L ops ⟨d,.store t x y,ty,p,af,g⟩=some true)(am:Br n d=true)(ap:As E H S)
  (aq:ev L x=some (.pointer (some ⟨bk,off,none⟩))) (av:ev L y=some v) (aw:Bv P t=some v.cells.size) (ay:∀u∈v.cells.toList,Dv u=true) (Y:S[j]? =some [(bk,.cells c e (0,0))]) (hle:off+v.cells.size<=c.size)
  (h:As E H (S.set j [(bk,.cells (Be c off v.cells.toList) e (0,0))])->Gd J Q b n ds ops k cs (AO xl) D fuel (Bi listed i) (AB L d undef) (Al E H (S.set j [(bk,.cells (Be c off v.cells.toList) e (0,0))]))):
  Gd J Q b n ds ops k cs (AO xl) D (fuel+1) listed L (Al E H S):=λT K=>by
 refine⟨by rw [U];simp,rfl,λa6 O o' Z=>?_⟩
 rw [U] at O
 simp at O
 subst O
 obtain rfl:o'=⟨d,.store t x y,ty,p,af,g⟩:=by rw [al] at Z;exact(Option.some.inj Z).symm
 have az:=Cq K hw;refine⟨λc a0=>(by cases a0),λe=>?_,λ_ _=>?_,λ_ e=>?_⟩
 ·rw [az] at e;cases e
 ·obtain⟨a1,a2⟩:=GY ap Y;rw [a1];show lp P (do Instr.storeAt t (BK T x) (BK T y);pure Next.skip) _ _ _
  rw [K.ev aq,K.ev av];refine Az _ _ ?_;unfold Instr.storeAt;simp only [Instr.sureAddr,bind,Sem.bind,pure];refine Rr (pl:=(S.set j []).flatten.length) aw ay a2 (c:=c) (e:=e) (by simp) hle λac=>?_;have a3:((S.set j []).flatten++ [(bk,Obj.cells c e (0,0))]).set (S.set j []).flatten.length (bk,.cells (Be c off v.cells.toList) e (0,0))=(S.set j []).flatten++ [(bk,.cells (Be c off v.cells.toList) e (0,0))]:=Ju _ _ _ _;rw [a3] at ac ⊢;obtain⟨a4,a5⟩:=I2 Y ac;rw [a4];exact h a5 _ (K.put am undef)
 ·rw [ag] at e;cases e
end
theorem Nk{E H:LH}{S:List Seg}{bks:List Nat}{bk o:Nat}{l ws:Lv_}{e:TypeId}{f:Nat×Nat}{s':St}{w:Value}(j:Nat)(K:As E H S)(O:S[j]? =some [(bk,.cells (l++ws).toArray e f)])(U:AO bks bk=true)(hs:∀x o,(BE (AO bks) (Al E H S)).E x=some o->s'.E x=some o)(Y:ws[o]? =some w):s'.cell? ⟨bk,l.length+o,none⟩=some w:=by
 have:=XS j K O U hs o w Y
 rwa [El rfl] at this
variable {B:List (Nat×Obj)}
section
variable {e:TypeId}
theorem Rd{ats:Array TypeId}{a:Option Addr}{l K O m cx:Nat}{ax:Option Addr}{xs ys:Lv_}{z:Value}{Q:Value->St->Prop}{X:Halt->St->Prop}
  (a0:ats[0]? =some t) {t1 a1:TypeId} (a2:ats[1]? =some t1) (a3:P.underlying t1=some (.slice a1)) (ht:P.underlying t=some (.slice e)) (a4:Bv P e=some K) (hb:F0 P e=some O) (a5:zeroOf P e=some z) (a6:z.cells.size=K)
  (a7:Nd E H B) (al:H6 (mk E H B) (.slice a l l) K xs)
  (Z:H6 (mk E H B) (.slice ax m cx) K ys) (bw:∀w∈ys,Dv w=true) (bx:0<O) (bz:l+m<=2 ^ 40) (a8:O<=64)
  (ay:m=0->Q (.slice a (l+m) l) (mk E H B))
  (a9:∀r ac am,l+m<=am->ac.size=am*K->ac.toList.take ((l+m)*K)=xs++ys->Nd E H (B++ [(r,.cells ac e (0,0))])->Q (.slice (some ⟨r,0,none⟩) (l+m) am) (mk E H (B++ [(r,.cells ac e (0,0))]))):
  lp P (Builtin.append_ ats ty #[.slice a l l,.slice ax m cx]) (mk E H B) Q X:=by
 unfold Builtin.append_;simp only [a0,a2,List.getElem?_toArray,List.getElem?_cons_zero,List.getElem?_cons_succ];refine Az _ _ (Cx ht ?_);refine Az _ _ (Fb a4 ?_);refine Az _ _ (Cx a3 ?_);simp only [Il,Bool.false_eq_true,if_false,Builtin.lenOf,Bool.not_false,if_true];have ag:ys.length=m*K:=by
  cases ax with
  | none=>obtain⟨U,Y⟩:=Z;subst U Y;simp
  | some ad=>exact Z.2.1
 have ap:xs.length=l*K:=by
  cases a with
  | none=>obtain⟨U,Y⟩:=al;subst U Y;simp
  | some ad=>exact al.2.1
 obtain⟨c,b0⟩:∃c,c=l:=⟨_,V⟩;split
 ·rename_i b1;have hm:m=0:=by omega
  have bb:ys= []:=List.eq_nil_of_length_eq_zero (by rw [ag,hm];simp);refine Az _ _ (Ku ⟨ax,cx,V⟩ Z ?_);subst bb;cases a with
  | none=>exact ay hm
  | some ad=>exact ay hm
 ·rename_i b2;have U:¬(((l+m:Nat):Int)>IntKind.i64.max/\(False∨O=0)):=by rintro⟨_,h | h⟩ <;> omega
  have Y:¬(Builtin.nextslicecap (l+m) l*O>2 ^ 48):=by
   have:=Rx (need:=l+m) (old:=l) (by omega);have b3:Builtin.nextslicecap (l+m) l*O<=(2*(l+m)+768)*64:=Nat.mul_le_mul this a8;omega
  obtain⟨inf,aq,av⟩:=PG hb;refine Az _ _ (Kv aq ?_);rw [av,if_neg U];refine Az _ _ (Kv aq ?_);rw [av,if_neg Y];refine Az _ _ ?_;simp only [choose,lp,Question.forced,Bool.false_eq_true,if_false];refine⟨V,λbe=>?_⟩;generalize bi:(Question.appendCap (l+m) l e).cut be=aw;have bn:l+m<=aw:=by rw [← bi];simp [Question.cut]
  refine Az _ _ (Kv aq ?_);rw [av];have bo:∀{α:Type} {f:Unit->Sem α} {Q:α->St->Prop},lp P (f ()) (mk E H B) Q X->lp P (askRoom (aw*O)>>=f) (mk E H B) Q X:=by
   intro α f Q az;refine Az _ _ ?_;unfold askRoom;split
   ·exact⟨.inl ⟨V,V⟩,az⟩
   ·exact az
  refine bo (Az _ _ (Ku ⟨a,l,V⟩ al ?_));refine Az _ _ (Ku ⟨ax,cx,V⟩ Z ?_);refine Az _ _ (Hu a5 ?_);refine Az _ _ (Ip a7 λr bv=>?_);refine a9 r _ aw bn ?_ ?_ bv
  ·simp only [Array.size_append,List.size_toArray,Rb,a6,ap,ag];rw [← Nat.add_mul,← Nat.add_mul];congr 1;omega
  ·simp only [Array.toList_append];rw [List.take_append_of_le_length (by simp [ap,ag,Nat.add_mul])];rw [List.take_of_length_le (by simp [ap,ag,Nat.add_mul])]
end
theorem An.spot{α:Type}{pp:Rp α}{E:LH}{a:Option Addr}{c:Nat}{xs:List α}(h:An pp E a c xs):∀ad,a=some ad->ad.spot=none∨c=0:=λad K=>by
 rcases h.2 with⟨_,h⟩ | ⟨bk,off,h,_⟩
 ·exact h ad K
 ·rw [h] at K;cases K;exact .inl rfl
theorem An.full{α:Type}{pp:Rp α}{E:LH}{a:Option Addr}{c:Nat}{xs:List α}(h:An pp E a c xs):An pp E a xs.length xs:=⟨Nat.le_refl _,h.2.imp (λ⟨h,_⟩=>⟨h,λ_ _=> .inr (by rw [h];rfl)⟩) id⟩
theorem An.Ls{α:Type}{pp:Rp α}{E H:LH}{B:List (Nat×Obj)}{a:Option Addr}{c:Nat}{ys:List α}(ac:An pp E a c ys):
  ∃K:List (Lv_),K.length=ys.length/\(∀(i:Nat) x ws,ys[i]? =some x->K[i]? =some ws->pp.r E ws x)/\H6 (mk E H B) (.slice a ys.length c) pp.n K.flatten/\∀w∈K.flatten,Dv w=true:=by
 obtain⟨K,U,Z,Y⟩:=ac.rows;have ag:=It U Z;refine⟨K,U,Z,?_,λw hw=>?_⟩
 ·rcases Y with⟨Y,aw⟩ | ⟨bk,off,rfl,Y⟩
  ·subst Y;have:K= []:=List.eq_nil_of_length_eq_zero U;subst this;cases a with
   | none=>exact⟨rfl,rfl⟩
   | some ad=>exact⟨.inr rfl,by simp,Nat.zero_le _,λq w O=>by simp at O⟩
  ·refine⟨.inl V,by rw [Mg ag,U],ac.1,λq w O=>?_⟩;obtain⟨al,m,ws,am,e2,ap⟩:=Pp ag O;have:=(Y al ws am).cell (H:=H) (B:=B) e2;subst ap;rw [← Nat.add_assoc];exact this
 ·obtain⟨us,aq,hw⟩:=List.mem_flatten.1 hw;obtain⟨q,O⟩:=List.mem_iff_getElem?.1 aq;have av:q<ys.length:=by rw [← U];exact(List.getElem?_eq_some_iff.1 O).1
  exact pp.one (Z q _ us (List.getElem?_eq_getElem av) O) w hw
variable {E':LH}
variable {z1:Operand}{rest:List Nat}{ρ:Operand->Value}
section
variable {x y:Operand}{e:TypeId}{i:Nat}
theorem RO{a:Option Addr}{l c K:Nat}(O:∀ad,a=some ad->ad.spot=none∨c=0)(U:l<=c)(ht:P.underlying t=some (.slice e))(Y:Bv P e=some K)(Z:ρ x= .slice a l c)(ac:ρ y=iV (l:Int))(ag:ρ z1=iV (l:Int)):
  Yl P ⟨d,.slice t x none (some y) (some z1),ty,p,af,g⟩ ρ s (.slice a l l):=by
 have h:=Yl.slice (P:=P) (s:=s) (d:=d) (ty:=ty) (p:=p) (af:=af) (g:=g) (olo:=none) (ohi:=some y) (omx:=some z1) (lo:=0) (hi:=l) (mx:=l) ht Y Z ag ac V U (Nat.le_refl _) (Nat.zero_le _);have al:(if l=0 then a else a.map (·.add (0*K)))=a:=by
  split
  ·rfl
  ·cases a with
   | none=>rfl
   | some ad=>
    have:=(O ad rfl).resolve_right (by omega);simp only [Option.map_some,Nat.zero_mul];rw [El this];obtain⟨b,o,sp⟩:=ad;simp only at this;subst this;simp
 rw [al] at h;simpa using h
theorem VZ{α:Type}{pp:Rp α}{t1:TypeId}{Y c cx:Nat}{a ax:Option Addr}{xs ys Z:List α}{ats:Array TypeId}{z:Value}(U:Cz xs ys=some Z)
  (aw:ops[i]? =some ⟨d,.call ⟨.builtin .append,#[x,y],ats⟩,ty,p,af,g⟩) (hw:AY L ops ⟨d,.call ⟨.builtin .append,#[x,y],ats⟩,ty,p,af,g⟩=some true) (ay:BY b n ⟨d,.call ⟨.builtin .append,#[x,y],ats⟩,ty,p,af,g⟩=true)
  (az:ev L x=some (.slice a xs.length xs.length)) (a0:ev L y=some (.slice ax ys.length cx)) (a1:ats[0]? =some t) (a2:ats[1]? =some t1) (ht:P.underlying t=some (.slice e)) (a3:P.underlying t1=some (.slice e)) (a4:Bv P e=some pp.n) (hb:F0 P e=some Y) (a5:zeroOf P e=some z) (a6:z.cells.size=pp.n)
  (a7:0<Y) (a8:Y<=64) (ac:An pp E a c xs) (a9:An pp E ax cx ys) (ag:As E H S)
  (h:∀E' al K,Le E E'->An pp E' al K Z->As E' H (S++ [[]])->JL J Q b n (AB L d (.slice al Z.length K)) ds (.inRegion ops rest::k) cs (Al E' H (S++ [[]]))):
  JL J Q b n L ds (.inRegion ops (i::rest)::k) cs (Al E H S):=by
 unfold Cz at U;split at U
 rotate_left
 ·cases U
 rename_i bb;cases U;obtain⟨wss,am,be,bi,ce⟩:=An.Ls (H:=H) (B:=S.flatten) ac.full;obtain⟨bn,bo,bv,bw,bx⟩:=An.Ls (H:=H) (B:=S.flatten) a9;have hlen:(xs++ys).length=xs.length+ys.length:=by simp
 show JL J Q b n L ds (.inRegion ops (i::rest)::k) cs (mk E H S.flatten);refine JL.op aw hw ay λρ ap=>?_;rw [Md,ap x _ az,ap y _ a0];refine Az _ _ (Rd a1 a2 a3 ht a4 hb a5 a6 ag bi bw bx a7 bb a8 ?_ ?_)
 ·intro hm;have bz:ys= []:=List.eq_nil_of_length_eq_zero hm;subst bz;have b0:As E H (S++ [[]]):=by unfold As at*;rw [GX,List.append_nil];exact ag
  have b1:mk E H S.flatten=Al E H (S++ [[]]):=by unfold Al;rw [GX,List.append_nil]
  rw [b1];have:=h E a xs.length (Le.refl _) (by rw [List.append_nil];exact ac.full) b0;rw [hlen] at this;exact this
 ·intro r O K b2 b3 b4 b5;have b6:OL e pp E (some ⟨r,0,none⟩) K [(r,.cells O e (0,0))] (xs++ys):=
   ⟨wss++bn,.inr ⟨r,O,rfl,rfl,b3,by rw [hlen];exact b2,by rw [hlen,List.flatten_append];exact b4.symm⟩,by simp [am,bo],Ni am be bv⟩
  have aq:=Fo (S:=S) (seg:= [(r,.cells O e (0,0))]) b5;show JL J Q b n _ ds _ cs (mk E H (S.flatten++ [(r,.cells O e (0,0))]));rw [aq.1];refine BI S.length b6 aq.2 (by simp) λE' hle ca av=>?_;have cc:(S++ [[(r,Obj.cells O e (0,0))]]).set S.length []=S++ [[]]:=Ju _ _ _ _;rw [cc] at av ⊢;have:=h E' (some ⟨r,0,none⟩) K hle ca av;rw [hlen] at this;exact this
end
open Go.ConcN (sumTo sumTo_upd upd upd_ne upd_same)
def Mw(P:Program)(R:Value->St->Prop):GP:=λg s=>
 g.status= .running/\∃v,R v s/\∀w,stepG P true g w= .ended (.done v) w #[]
variable {R:Value->St->Prop}
theorem JO.end{fn:Func}{t:Tmp}{v:Value}(K:b.kind= .normal)(hi:P.inits.idxOf? b.fn=none)(O:P.funcs[b.fn]? =some fn)(U:fn.results= #[.tmp t])(Y:look L t=some v)(Z:R v s):JO J (Mw P R) b n L [] [] s:=λT ac todo=>by
 refine J.stop ⟨rfl,v,Z,λw=>?_⟩
 have e:results fn T=Sem.pure v:=by
  have:=ac.at_ t v Y;simp only [results,U,Array.mapM_eq_mapM_toList];show Sem.pure (T.getD t undef)=_;rw [this]
 have ag:(results fn T).run P w= .ok v w:=by rw [e];rfl
 have e2:(results fn T).events P w #[]= #[]:=by rw [e];simp [Sem.events_pure']
 simp [G,stepG,unwind,EM,O,ag,e2,doReturn,K,GStep.after,hi,seen_none]
def After(P:Program)(R:Value->St->Prop)(K:World)(s₀:St)(v:Value)(w':World):Prop:=
 ∃s,R v s/\Fits s w'/\(∀b o,s₀.E b=some o->s.E b=some o)/\w'.tape=K.tape/\GM K.os w'.os/\w'.output=K.output
def QX(P:Program)(R:Value->St->Prop)(K:World)(s₀:St)(O:Nat)(m:Machine)(t:Trace):Prop:=
 ∃gs w sl q Sh g s,m=crowd gs w sl/\HK P gs w t q Sh g s/\Mw P R g s/\O=sumTo gs.size q/\(∀b o,s₀.E b=some o->s.E b=some o)/\w.tape=K.tape/\GM K.os w.os/\w.output=K.output
theorem XE{ap:World}{s₀:St}(ay:Nat)(m:Machine)(t:Trace)(h:QX P R ap s₀ ay m t):
  (∃o w ops,stepT P m=(.ended o w,ops)/\Good P (After P R ap s₀) m o w (t++ops))∨(∃m' ops az,stepT P m=(.next m',ops)/\az<ay/\QX P R ap s₀ az m' (t++ops)):=by
 obtain⟨gs,w,sl,q,Sh,g,s,rfl,hC,bi,rfl,a0,a1,a2,a3⟩:=h;obtain⟨ac,v,a4,a5⟩:=bi;have bn:∀x∈gs,awake x:=by
  intro x Y;obtain⟨i,hi,rfl⟩:=Array.mem_iff_getElem.1 Y;rcases Nat.eq_zero_or_pos i with rfl | aq
  ·have:gs[0]=g:=by simpa [Array.getElem?_eq_getElem hi] using hC.main
   rw [this];exact awake_of (.inl ac)
  ·exact awake_of ((hC.lv.old i _ aq (Array.getElem?_eq_getElem hi)).status.elim .inl λx=> .inr (.inr x))
 obtain⟨i,x,d,a6,hi,Y,a7⟩:=crowd_pick (P:=P) (w:=w) (sl:=sl) bn ⟨0,g,hC.main,ac⟩;have a8:=hC.at_ d;have bo:0<gs.size:=(Array.getElem?_eq_some_iff.1 hC.main).1;have bv:∀(a:Nat) (fn:FuncId) (pos:String),MemOp.ofEvents a fn pos #[]= #[]:=λa fn pos=>by rw [ofEvents_eq];simp
 rcases Nat.eq_zero_or_pos i with rfl | aq
 ·obtain rfl:x=g:=by rw [hC.main] at hi;exact(Option.some.inj hi).symm
  have ag:=runT_many_ended (P:=P) (sl:=a6) (i:=0) hi (show stepG P (0==0) x (w.at d)=_ from a5 (w.at d));rw [bv] at ag;refine .inl ⟨_,_,_,a7.trans ag,v,V,⟨s,a4,a8.Cu.fits 0 bo,a0,a1,a2,a3⟩,?_,?_,⟨λy K=>?_,V⟩,λj y K O=>?_⟩
  ·simpa using hC.Cu.clean
  ·simpa using hC.over
  ·obtain⟨j,O⟩:=List.mem_iff_getElem?.1 K;rw [List.getElem?_drop] at O;exact⟨_,(hC.lv.old (1+j) y (by omega) (by simpa [crowd] using O)).leaves⟩
  ·have Z:=hC.lv.old j y (by omega) K;exact⟨q j,by simp only [Array.append_empty];exact Z.hears w⟩
 ·have Z:=hC.lv.old i x aq hi;have bw:(i==0)=false:=by simp;omega
  have a9:i<gs.size:=(Array.getElem?_eq_some_iff.1 hi).1;cases av:q i with
  | zero=>rw [av] at Z;rw [Z.1] at Y;cases Y
  | succ k=>
   rw [av] at Z;rcases Z with⟨bx,_⟩ | ⟨_,x',es,hm,bz,b0⟩
   ·rw [bx] at Y;cases Y
   have b4:sumTo gs.size (upd q i k)+(k+1)=sumTo gs.size q+k:=by
    have:=sumTo_upd q k id a9;simpa [av] using this
   have ag:=runT_crowd_go (P:=P) (sl:=a6) (i:=i) hi (by rw [bw];exact bz (w.at d));have aw:((gs.map (woken P x x' (w.at d))).setIfInBounds i x').size=gs.size:=by simp
   have al:∀op∈MemOp.ofEvents i x.frame.fn x.frame.place es,op.g=i:=λop U=>by obtain⟨e,_,rfl⟩:=mem_ofEvents U;rfl
   have bb:∀op∈MemOp.ofEvents i x.frame.fn x.frame.place es,op.act.touch? =none:=λop U=>by obtain⟨e,he,rfl⟩:=mem_ofEvents U;exact touch_mute (hm e he)
   have b1:HK P ((gs.map (woken P x x' (w.at d))).setIfInBounds i x') (w.at d) (t++MemOp.ofEvents i x.frame.fn x.frame.place es) (upd q i k) Sh g s:=by
    refine⟨?_,⟨λj y O K=>?_,λj O=>?_⟩,?_,?_,?_⟩
    ·have b2:i≠0:=by omega
     rw [Array.getElem?_setIfInBounds_ne b2,Array.getElem?_map,hC.main];simp [woken_run ac]
    ·by_cases am:i=j
     ·subst am;rw [Array.getElem?_setIfInBounds_self_of_lt (by simpa using a9)] at K;obtain rfl:=Option.some.inj K;rw [upd_same,Deaf_own];exact b0
     ·rw [Array.getElem?_setIfInBounds_ne am,Array.getElem?_map] at K;obtain⟨z,b3,rfl⟩:=Option.map_eq_some_iff.1 K;have be:=hC.lv.old j z O b3;rw [woken_quitsD be,upd_ne q k (Ne.symm am),Deaf_other t am _ al];exact be
    ·rw [Deaf_other t (g':=i) (by simp at O;omega) _ al];exact hC.lv.above j (by simpa using O)
    ·rw [aw];exact a8.Cu.mute al bb (λop U=>by obtain⟨e,he,rfl⟩:=mem_ofEvents U;exact low_mute (hm e he) _) V
    ·exact handedOver_app hC.over λop U=> .inr (bb op U)
    ·rw [Deaf_other t (by omega) _ al];exact hC.hears
   exact .inr ⟨_,_,_,a7.trans ag,by rw [← aw];rw [aw];omega,_,_,_,_,_,_,_,V,b1,⟨ac,v,a4,a5⟩,V,a0,a1,a2,a3⟩
theorem ends{gs:Array Goroutine}{w:World}{sl:Option (Nat×Nat)}{t:Trace}{q:Nat->Nat}{Sh:Nat->Prop}{g:Goroutine}{s:St}(hC:HK P gs w t q Sh g s)(O:Mw P R g s):
  ∃N last o w' K,runNT P (N+1) (crowd gs w sl) t=(.ended o w',K)/\runN P N (crowd gs w sl)= .next last/\step P last= .ended o w'/\Good P (After P R w s) last o w' K:=
 run_of_inv Nat.lt_wfRel.wf (QX P R w s) (Good P (After P R w s)) XE _ _ _ ⟨gs,w,sl,q,Sh,g,s,V,hC,O,V,λ_ _ h=>h,V,.refl _,V⟩
theorem VM{m m':Machine}{t K:Trace}{n:Nat}(h:runNT P n m t=(.next m',K)):runN P n m= .next m':=by rw [← runNT_fst P n m t,h]
def Gc(W:World):St:=⟨λb=>W.heap[b]?,λ_=>none,false⟩
theorem Xt{W:World}{g:Goroutine}(h:(Hd P).ok (Mw P R) g (Gc W)):
  ∃M last o w' K,runNT P (M+1) (solo g W) #[]=(.ended o w',K)/\runN P M (solo g W)= .next last/\step P last= .ended o w'/\Good P (After P R W (Gc W)) last o w' K:=by
 have hC:HK P #[g] W #[] (λ_=>0) (λ_=>False) g (Gc W):=by
  have Y:∀{i:Nat} {a:Touch},touchAt #[] i=some a->False:=λ{i a} h=>by simp [touchAt,Trace.act?] at h
  refine⟨V,leavers_one P g,⟨λi hi=>?_,λi j hi ac be=>by simp at hi ac;omega,λi hi b hb=>hb.elim,λb hb=>hb.elim,λsaid=>?_,by simp,λi _ b _ x a O=>(Y O).elim,λi _ b _ x a O=>(Y O).elim⟩,λi g hg=>by simp [Trace.g?] at hg,V⟩
  ·have:i=0:=by simp at hi;exact hi
   subst this;exact⟨λb o U=>U,λb o U=>(by cases U),λb _=>V⟩
  ·rintro⟨i,j,_,⟨a,b,ag,_⟩,_⟩;simp [Trace.act?] at ag
 obtain⟨n,gs',w',al,K,q',bi,g',s',Z,am,ap,aq,av,aw,ay⟩:=h #[g] W none #[] _ _ hC;obtain⟨N,last,o,az,a0,k1,a2,a3,a4⟩:=ends (sl:=al) am ap;refine⟨n+N,last,o,az,a0,?_,?_,a3,?_⟩
 ·rw [solo_eq_crowd,Nat.add_assoc,runNT_add,Z];exact k1
 ·have a5:=VM Z;rw [solo_eq_crowd,runN_add,a5];exact a2
 ·obtain⟨v,e,⟨s2,a1,a6,a7,a8,a9,bb⟩,r⟩:=a4;exact⟨v,e,⟨s2,a1,a6,λb o hb=>a7 b o (aq b o hb),a8.trans av,aw.trans a9,bb.trans ay⟩,r⟩
end Pal
namespace Pal
open Go Go.Conc
theorem WY{P:Program}{Q:Gs_}{E H:LH}{f:FuncId}{fn:Func}{c:Code}{vs:Lv_}(U:P.funcs[f]? =some fn)(hb:fn.body=some c)(ac:fn.ntmps=fn.ntmps)(ag:vs.length<=fn.ntmps)
  (h:JL (Hd P) Q (base f) fn.ntmps (GG 0 vs) [] [.code c] [] (Al E H [[]])):(Hd P).ok Q (G (Frame.enter P f vs.toArray .normal) []) (mk E H []):=by
 have he:Frame.enter P f vs.toArray .normal=fr (base f) (vs.toArray++Array.replicate (fn.ntmps - vs.length) undef) [] [.code c]:=by
  simp [Frame.enter,fr,U,hb,base];rfl
 rw [he];have Y:mk E H []=Al E H [[]]:=by unfold Al;simp
 rw [Y];refine h _ ⟨by simp;omega,λt v ht=>?_⟩;obtain⟨_,K⟩:=JV ht;have Z:t<vs.length:=by
  rcases Nat.lt_or_ge t vs.length with O | O
  ·exact O
  ·simp at K;have:=(List.getElem?_eq_some_iff.1 K).1;omega
 rw [Array.getD_eq_getD_getElem?,Array.getElem?_append_left (by simpa using Z)];simp at K;simp [K]
open Go.ChangeAt Go.ChangeShapes Go.Proofs Go.Proofs.YtmeophcclkejkaaGreat Go.RowKit Go.WideShapes
theorem Tryz.own:ownKnob Tryz.prog.godebug=none:=by kernel_rfl
theorem Tryz.laidOut:laidOutB Tryz.prog=true:=by kernel_rfl
theorem Tryz.Uj:Tryz.prog.cellsOf 3=1:=by kernel_rfl
theorem Tryz.Zd:Tryz.prog.cellsOf 28=1:=by kernel_rfl
theorem Tryz.YT:Tryz.prog.cellsOf 22=1:=by kernel_rfl
theorem Tryz.Y3:Tryz.prog.cellsOf 23=1:=by kernel_rfl
theorem Tryz.YZ:Tryz.prog.cellsOf 25=2:=by kernel_rfl
theorem Tryz.Tp:Tryz.prog.cellsOf 27=3:=by kernel_rfl
theorem Vt{R:Value->St->Prop}{W w':World}{v:Value}(h:After Tryz.prog R W (Gc W) v w'):(∃s,R v s)/\Below W.heap.size W {w' with os:=W.os}/\Go.ConcM.OsLater W.os w'.os:=by
 obtain⟨s,Y,Z,ac,ht,ag,al⟩:=h;have hb:∀k,k<W.heap.size->w'.heap[k]? =W.heap[k]? :=λk O=>by
  have K:(Gc W).E k=some W.heap[k]:=Array.getElem?_eq_getElem O;have U:=Z.e k _ (ac k _ K);rw [U,Array.getElem?_eq_getElem O]
 refine⟨⟨s,Y⟩,⟨V,ht,al,?_,hb⟩,ag⟩;show W.heap.size<=w'.heap.size;rcases Nat.eq_zero_or_pos W.heap.size with am | am
 ·omega
 ·have K:=hb (W.heap.size - 1) (by omega);have ap:W.heap[W.heap.size - 1]? =some W.heap[W.heap.size - 1]:=Array.getElem?_eq_getElem (by omega);rw [ap] at K;have U:=(Array.getElem?_eq_some_iff.1 K).1;omega
theorem R1(a:Addr):a.add 0=a:=by unfold Addr.add;rw [if_pos rfl]
variable {H:Type}{enc:TypeId×Value->H}{W:World}{cs:Lv_}
section
variable {fuel:Nat}{x:DataW H×List MemPlace}
theorem XV{b off:Nat}{v:Value}(h:W.cell? ⟨b,off,none⟩=some v):At (Gc W).E b off [v]:=by
 unfold World.cell? at h;split at h
 ·rename_i c e f hW;simp only [Option.isSome_none,Bool.false_eq_true,if_false] at h;refine⟨c,e,f,hW,λj w K=>?_⟩
  match j,K with
  | 0,K=>simp at K;subst K;simpa using h
  | j+1,K=>simp at K
 ·cases h
theorem Wq{b off:Nat}(O:0<cs.length)(h:∀j,j<cs.length->W.cell? ⟨b,off+j,none⟩=cs[j]?):At (Gc W).E b off cs:=by
 have U:=h 0 O;rw [List.getElem?_eq_getElem O] at U;obtain⟨f,e,fr,Y,_⟩:=XV U;have hW:W.heap[b]? =some (.cells f e fr):=Y;refine⟨f,e,fr,Y,λj w Z=>?_⟩;have ac:=(List.getElem?_eq_some_iff.1 Z).1;have K:=h j ac;rw [Z] at K;unfold World.cell? at K;simp only [hW] at K;simpa using K
theorem Qx{α:Type}{p:Rp α}{t e:TypeId}(ht:Tryz.prog.underlying t=some (.slice e))(a0:Tryz.prog.cellsOf e=p.n)(a1:0<p.n)
  (a2:∀n cs x,DataW.trod enc Tryz.prog W 0 (λ_=>true) true n e cs=some x->∃v,p.r (Gc W).E cs v)
  (a3:DataW.trod enc Tryz.prog W 0 (λ_=>true) true fuel t cs=some x):∃(a:Option Addr) (c:Nat) (ap:List α),cs= [.slice a ap.length c]/\An p (Gc W).E a c ap:=by
 rcases DataW.trod_slice ht a3 with⟨ac,a4⟩ | ⟨a,len,cap,elems,rest,n,_,ac,a4,_,a5,_,hlen,aq,av,_⟩
 ·exact⟨none,0,[],ac,An.nil⟩
 ·rw [a0] at aq av;rcases Nat.eq_zero_or_pos cap with aw | aw
  ·have:len=0:=by omega
   subst this;subst aw;exact⟨some a,0,[],ac,Nat.le_refl _,.inl ⟨V,λ_ _=> .inr V⟩⟩
  ·have ay:∀i,i<len->∃vs y,vs.length=p.n/\(∀j,j<p.n->W.cell? ((a.add (i*p.n)).add j)=vs[j]?)/\DataW.trod enc Tryz.prog W 0 (λ_=>true) true n e vs=some y:=λi hi=>by
    have K:=aq i hi;rw [List.getElem?_eq_getElem (by omega)] at K;obtain⟨vs,al,Y⟩:=Option.bind_eq_some_iff.1 K;obtain⟨_,O,am⟩:=World.cells?_some al;exact⟨vs,_,O,am,Y⟩
   have hs:a.spot=none:=by
    have key:∀vs:Lv_,vs.length=p.n->(∀j,j<p.n->W.cell? ((a.add (0*p.n)).add j)=vs[j]?)->a.spot=none:=λvs ag U=>by
     have:=U 0 a1;rw [List.getElem?_eq_getElem (by omega),R1,Nat.zero_mul,R1] at this;exact World.cell?_spot this
    rcases Nat.eq_zero_or_pos len with K | K
    ·obtain⟨al,Y⟩:=av V;have O:=Y 0 (by omega);rw [List.getElem?_eq_getElem (by omega)] at O;obtain⟨vs,am,_⟩:=Option.bind_eq_some_iff.1 O;obtain⟨_,ag,U⟩:=World.cells?_some am;rw [K] at U;exact key vs ag U
    ·obtain⟨vs,y,ag,U,_⟩:=ay 0 K;exact key vs ag U
   have az:∀i:Fin len,∃z:α,∃vs,p.r (Gc W).E vs z/\At (Gc W).E a.block (a.off+i*p.n) vs:=λi=>by
    obtain⟨vs,y,al,Y,O⟩:=ay i i.2;obtain⟨z,Z⟩:=a2 _ _ _ O;refine⟨z,vs,Z,Wq (by omega) λj a6=>?_⟩;have:=Y j (by omega);rw [El hs,El rfl] at this;exact this
   refine⟨some a,cap,List.ofFn λi=>Classical.choose (az i),by simpa using ac,by simpa using a5,.inr ⟨a.block,a.off,?_,λi z Z=>?_⟩⟩
   ·obtain⟨b,o,s⟩:=a;simp only at hs;subst hs;rfl
   ·have hi:i<len:=by have:=(List.getElem?_eq_some_iff.1 Z).1;simpa using this
    simp [hi] at Z;have:=Classical.choose_spec (az ⟨i,hi⟩);rw [Z] at this;exact this
theorem NX(h:DataW.trod enc Tryz.prog W 0 (λ_=>true) true fuel 3 cs=some x):∃z:Int,cs= [iV z]:=by
 obtain⟨n1,K,_⟩:=DataW.trod_int Tryz.underlying3 h;exact⟨n1,K⟩
theorem Sv(O:DataW.trod enc Tryz.prog W 0 (λ_=>true) true fuel 28 cs=some x):∃(a:Option Addr) (c:Nat) (K:List Int),cs= [.slice a K.length c]/\An rI (Gc W).E a c K:=
 Qx (p:=rI) Tryz.underlying28 Tryz.Uj Nat.one_pos (λn cs x h=>by
  obtain⟨z,rfl⟩:=NX h
  exact⟨z,rfl⟩) O
theorem XL(O:DataW.trod enc Tryz.prog W 0 (λ_=>true) true fuel 22 cs=some x):∃(a:Option Addr) (c:Nat) (K:List (List Int)),cs= [.slice a K.length c]/\An (rL rI) (Gc W).E a c K:=
 Qx (p:=rL rI) Tryz.underlying22 Tryz.Zd Nat.one_pos (λn cs x h=>by
  obtain⟨a,c,K,e,g⟩:=Sv h
  exact⟨K,a,c,e,g⟩) O
theorem Sc(h:DataW.trod enc Tryz.prog W 0 (λ_=>true) true fuel 27 cs=some x):∃v:Int×Int×Int,cs= [iV v.1,iV v.2.1,iV v.2.2]:=by
 obtain⟨y0,al,am,n,_,U,Y,Z,ac⟩:=Go.Deep.trod_struct3 Tryz.underlying27 h;obtain⟨n1,K⟩:=NX Y;obtain⟨n2,e2⟩:=NX Z;obtain⟨ag,O⟩:=NX ac;rw [Tryz.Tp] at U;rw [Pal.Tryz.Uj] at K e2 O;refine⟨(n1,n2,ag),?_⟩
 match cs,U with
 | [u,w,z],_=>simp at K e2 O;rw [K,e2,O]
theorem Wc(O:DataW.trod enc Tryz.prog W 0 (λ_=>true) true fuel 23 cs=some x):∃(a:Option Addr) (c:Nat) (K:List (Int×Int×Int)),cs= [.slice a K.length c]/\An (rP rI (rP rI rI)) (Gc W).E a c K:=
 Qx (p:=rP rI (rP rI rI)) Tryz.underlying23 Tryz.Tp (by decide) (λn cs x h=>by
  obtain⟨v,rfl⟩:=Sc h
  exact⟨v,[iV v.1],[iV v.2.1,iV v.2.2],rfl,rfl,[iV v.2.1],[iV v.2.2],rfl,rfl,rfl⟩) O
theorem Xa{v:Value}{Y:Nat}{d:DataW H}{p:List MemPlace}(Z:Value.okWide Tryz.prog W .any Y 25 v)(hd:DataW.Trod enc Tryz.prog W 0 (λ_=>true) true 25 v d p):
  ∃(a1:Option Addr) (c1:Nat) (K:Option Addr) (c2:Nat) (o:List (List Int)×List (Int×Int×Int)),v= .agg #[.slice a1 o.1.length c1,.slice K o.2.length c2]/\An (rL rI) (Gc W).E a1 c1 o.1/\An (rP rI (rP rI rI)) (Gc W).E K c2 o.2:=by
 obtain⟨cs,rfl,U⟩:=okWide_struct Tryz.underlying25 Z;obtain⟨fuel,ac⟩:=hd;obtain⟨y0,aq,n,_,av,ag,al⟩:=trod_struct2 Tryz.underlying25 ac;obtain⟨a1,c1,z1,O,am⟩:=XL ag;obtain⟨K,c2,ap,e2,g2⟩:=Wc al;refine⟨a1,c1,K,c2,(z1,ap),?_,am,g2⟩;rw [Tryz.YT] at O;rw [Tryz.YZ] at U;rw [Tryz.Y3] at e2;simp only [Value.cells,List.drop_zero] at O e2;obtain⟨l⟩:=cs
 match l,U with
 | [u,w],_=>
  simp at O e2;rw [O,e2]
theorem XM{v:Value}{O:Nat}{d:DataW H}{p:List MemPlace}(U:Value.okWide Tryz.prog W .any O 28 v)(hd:DataW.Trod enc Tryz.prog W 0 (λ_=>true) true 28 v d p):
  ∃(a:Option Addr) (c:Nat) (K:List Int),v= .slice a K.length c/\An rI (Gc W).E a c K:=by
 obtain⟨Z,len,cap,rfl⟩:=okWide_slice Tryz.underlying28 U;obtain⟨fuel,Y⟩:=hd;obtain⟨a,c,K,e,g⟩:=Sv Y;simp [Value.cells] at e;obtain⟨rfl,rfl,rfl⟩:=e;exact⟨_,_,_,V,g⟩
theorem X9{v:Value}{K:Nat}{d:DataW H}{p:List MemPlace}(O:Value.okWide Tryz.prog W .any K 27 v)(hd:DataW.Trod enc Tryz.prog W 0 (λ_=>true) true 27 v d p):∃l:Int×Int×Int,v= .agg #[iV l.1,iV l.2.1,iV l.2.2]:=by
 obtain⟨cs,rfl,Y⟩:=okWide_struct Tryz.underlying27 O;obtain⟨fuel,U⟩:=hd;obtain⟨l,e⟩:=Sc U;simp only [Value.cells] at e;refine⟨l,?_⟩;obtain⟨k⟩:=cs;simp only at e;rw [e]
end
end Pal
namespace Pal
open Go Go.Conc
def HJ(K:Bool)(ws:Lv_):Value:=if K then .agg ws.toArray else ws.headD undef
def Vr{α:Type}(pp:Rp α)(K:Bool)(E:LH)(v:Value)(x:α):Prop:=∃ws,pp.r E ws x/\v=HJ K ws
theorem Vr.M{α:Type}{pp:Rp α}{K:Bool}{E E':LH}{v:Value}{x:α}(h:Vr pp K E v x)(hle:Le E E'):Vr pp K E' v x:=
 let ⟨ws,O,U⟩:=h;⟨ws,pp.M hle O,U⟩
structure G0 (P:Program) (t:TypeId) {κ:Type} [DecidableEq κ] (pk:Rp κ) (ka:Bool):Prop where
 BY:∀{em:Bool} {E:LH} {v:Value} {x:κ} {s:St} {Q:Unit->St->Prop} {X:Halt->St->Prop},Vr pk ka E v x->Q () s->lp P (Instr.checkKey em 10000 t v) s Q X
 kind:∃kd,P.underlying t=some kd/\((∀v w,Instr.sameNow kd v w=none)∨∀{E:LH} {v w:Value} {x y:κ},Vr pk ka E v x->Vr pk ka E w y->Instr.sameNow kd v w=some (decide (x=y)))
 eq:∀{E:LH} {v w:Value} {x y:κ} {s:St} {Q:Bool->St->Prop} {X:Halt->St->Prop},Vr pk ka E v x->Vr pk ka E w y->Q (decide (x=y)) s->lp P (Op.equal t v w) s Q X
 same:∀{E:LH} {v:Value} {x:κ},Vr pk ka E v x->Instr.sameBits 10000 v v=true
 uniq:∀{E:LH} {v w:Value} {x:κ},Vr pk ka E v x->Vr pk ka E w x->v=w
variable {κ ν:Type}{pk:Rp κ}{pv:Rp ν}{ka va:Bool}{E E':LH}
variable {P:Program}{s:St}{t tm te:TypeId}{X:Halt->St->Prop}
section
variable [DecidableEq κ]
def Ey(pk:Rp κ)(ka:Bool)(pv:Rp ν)(va:Bool)(E:LH):List MapEntry->List (κ×ν)->Prop
 | [],[]=>True
 | e::es,x::xs=>Vr pk ka E e.key x.1/\Vr pv va E e.val x.2/\Ey pk ka pv va E es xs
 | _,_=>False
theorem Ey.M(hle:Le E E'):∀{es:List MapEntry} {xs:List (κ×ν)},Ey pk ka pv va E es xs->Ey pk ka pv va E' es xs
 | [],[],_=>trivial
 | e::es,x::xs,h=>⟨h.1.M hle,h.2.1.M hle,Ey.M hle h.2.2⟩
 | [],_::_,h=>h.elim
 | _::_,[],h=>h.elim
theorem Ey.len:∀{es:List MapEntry} {xs:List (κ×ν)},Ey pk ka pv va E es xs->es.length=xs.length
 | [],[],_=>rfl
 | e::es,x::xs,h=>by simp [Ey.len h.2.2]
 | [],_::_,h=>h.elim
 | _::_,[],h=>h.elim
def GL(x:κ):List MapEntry->List (κ×ν)->Nat->Option (Nat×Value)
 | e::es,y::ys,i=>if x=y.1 then some (i,e.val) else GL x es ys (i+1)
 | _,_,_=>none
def BU(xs:List (κ×ν))(x:κ):Option ν:=(xs.find? λy=>decide (x=y.1)).map (·.2)
def DX(xs:List (κ×ν))(x:κ)(v:ν):List (κ×ν):=match xs with
 | []=> [(x,v)]
 | y::ys=>if x=y.1 then(x,v)::ys else y::DX ys x v
theorem TA{x:κ}:∀{es:List MapEntry} {xs:List (κ×ν)} {i:Nat},Ey pk ka pv va E es xs->(GL x es xs i=none/\BU xs x=none)∨∃j w v0,GL x es xs i=some (j,w)/\BU xs x=some v0/\Vr pv va E w v0
 | [],[],i,_=> .inl ⟨rfl,rfl⟩
 | e::es,y::ys,i,h=>by
  unfold GL BU
  by_cases K:x=y.1
  ·exact .inr ⟨i,e.val,y.2,by rw [if_pos K],by simp [K],h.2.1⟩
  ·rcases TA (x:=x) (i:=i+1) h.2.2 with⟨O,U⟩ | ⟨j,w,v0,O,U,Y⟩
   ·exact .inl ⟨by rw [if_neg K];exact O,by simpa [K,BU] using U⟩
   ·exact .inr ⟨j,w,v0,by rw [if_neg K];exact O,by simpa [K,BU] using U,Y⟩
 | [],_::_,_,h=>h.elim
 | _::_,[],_,h=>h.elim
theorem Ey.put{x:κ}{v0:ν}{O w:Value}(U:Vr pk ka E O x)(hw:Vr pv va E w v0)(Z:Nat):∀{es:List MapEntry} {xs:List (κ×ν)} {i:Nat},Ey pk ka pv va E es xs->
  (GL x es xs i=none/\Ey pk ka pv va E (es++ [{key:=O,val:=w,born:=Z}]) (DX xs x v0))∨
  ∃j u,GL x es xs i=some (i+j,u)/\j<es.length/\(∀e,es[j]? =some e->Vr pk ka E e.key x)/\Ey pk ka pv va E (es.modify j λe=>{e with key:=O,val:=w}) (DX xs x v0)
 | [],[],i,_=> .inl ⟨rfl,U,hw,trivial⟩
 | e::es,y::ys,i,h=>by
  unfold GL DX
  by_cases K:x=y.1
  ·refine .inr ⟨0,e.val,by rw [if_pos K];rfl,by simp,λac he=>?_,?_⟩
   ·simp at he;subst he;rw [K];exact h.1
   ·rw [if_pos K];exact⟨U,hw,h.2.2⟩
  ·rcases Ey.put U hw Z (i:=i+1) h.2.2 with⟨Y,ag⟩ | ⟨j,u,Y,ag,al,am⟩
   ·exact .inl ⟨by rw [if_neg K];exact Y,by rw [if_neg K];exact⟨h.1,h.2.1,ag⟩⟩
   ·refine .inr ⟨j+1,u,by rw [if_neg K,Y];congr 2;omega,by simp;omega,λac he=>al ac (by simpa using he),?_⟩;rw [if_neg K];exact⟨h.1,h.2.1,am⟩
 | [],_::_,_,h=>h.elim
 | _::_,[],_,h=>h.elim
def KZ(pk:Rp κ)(ka:Bool)(pv:Rp ν)(va:Bool)(E:LH)(o:Obj)(xs:List (κ×ν)):Prop:=
 ∃es clock,o= .map es clock/\Ey pk ka pv va E es.toList xs/\(es.toList.map (·.born)).Pairwise (·<·)/\∀e∈es.toList,e.born<clock
theorem KZ.M{o:Obj}{xs:List (κ×ν)}(h:KZ pk ka pv va E o xs)(hle:Le E E'):KZ pk ka pv va E' o xs:=
 let ⟨es,c,K,O,U⟩:=h;⟨es,c,K,O.M hle,U⟩
theorem Rc(U:G0 P t pk ka){k:Value}{x:κ}(Y:Vr pk ka E k x){Q:Option (Nat×Value)->St->Prop}:∀{es:List MapEntry} {xs:List (κ×ν)} {i:Nat},Ey pk ka pv va E es xs->Q (GL x es xs i) s->lp P (Instr.findAsking t k es i) s Q X
 | [],[],i,_,h=>h
 | e::es,y::ys,i,h,K=>by
  unfold Instr.findAsking
  refine Az _ _ (U.eq Y h.1 ?_)
  unfold GL at K
  by_cases O:x=y.1
  ·rw [decide_eq_true O]
   rw [if_pos O] at K;exact K
  ·rw [decide_eq_false O];rw [if_neg O] at K;exact Rc U Y h.2.2 K
 | [],_::_,_,h,_=>h.elim
 | _::_,[],_,h,_=>h.elim
theorem Rs{kd:TypeDesc}{k:Value}{x:κ}(O:Vr pk ka E k x)(hs:∀{E:LH} {v w:Value} {x y:κ},Vr pk ka E v x->Vr pk ka E w y->Instr.sameNow kd v w=some (decide (x=y))):∀{es:List MapEntry} {xs:List (κ×ν)} {i:Nat},Ey pk ka pv va E es xs->Instr.findNow kd k es i=some (GL x es xs i)
 | [],[],i,_=>rfl
 | e::es,y::ys,i,h=>by
  unfold Instr.findNow GL
  rw [hs O h.1]
  by_cases K:x=y.1
  ·simp [K]
  ·simp only [decide_eq_false K,if_neg K];exact Rs O hs h.2.2
 | [],_::_,_,h=>h.elim
 | _::_,[],_,h=>h.elim
theorem Ps(O:G0 P t pk ka){k:Value}{x:κ}(U:Vr pk ka E k x){Q:Option (Nat×Value)->St->Prop}{es:List MapEntry}{xs:List (κ×ν)}(h:Ey pk ka pv va E es xs)(K:Q (GL x es xs 0) s):lp P (Instr.findKey t k es) s Q X:=by
 unfold Instr.findKey;obtain⟨kd,Y,Z | hs⟩:=O.kind
 ·refine Az _ _ (Cx Y ?_);cases es with
  | nil=>
   cases xs with
   | nil=>exact K
   | cons y ys=>exact h.elim
  | cons e es=>
   have ac:Instr.findNow kd k (e::es) 0=none:=by unfold Instr.findNow;rw [Z]
   rw [ac];exact Rc O U h K
 ·refine Az _ _ (Cx Y ?_);rw [Rs U hs h];exact K
theorem WO(O:G0 P t pk ka)(hm:P.underlying tm=some (.map t te)){z:Value}{z0:ν}(Z:zeroOf P te=some z)(ac:Vr pv va E z z0){bk:Nat}{o:Obj}{xs:List (κ×ν)}{k:Value}{x:κ}(hg:s.get bk=some o)(ag:KZ pk ka pv va E o xs)(U:Vr pk ka E k x)(ok:Bool){Q:Value->St->Prop}
  (h:∀w,Vr pv va E w ((BU xs x).getD z0)->Q (if ok then .tuple #[w,.bool (BU xs x).isSome] else w) s):lp P (Instr.lookup tm (.map (some bk)) k ok) s Q X:=by
 obtain⟨es,c,rfl,Y,am,ap⟩:=ag;unfold Instr.lookup;refine Az _ _ (Cx hm ?_);refine Az _ _ ?_;unfold getObj;simp only [bind,Sem.bind,lp];refine⟨_,hg,V,?_⟩;refine Az (x:=Instr.checkKey _ 10000 t k) _ (O.BY U ?_);refine Az (x:=Instr.findKey t k es.toList) _ (Ps O U Y ?_);rcases TA (x:=x) (i:=0) Y with⟨K,e2⟩ | ⟨j,w,v0,K,e2,al⟩
 ·rw [K];simp only;refine Az (x:=zeroValue te) _ (Hu Z ?_);have:=h z (by rw [e2];exact ac);rw [e2] at this;exact this
 ·rw [K];have:=h w (by rw [e2];exact al);rw [e2] at this;exact this
theorem Vm(O:G0 P t pk ka)(hm:P.underlying tm=some (.map t te)){bk:Nat}{o:Obj}{xs:List (κ×ν)}{k w:Value}{x:κ}{v0:ν}(hg:s.get bk=some o)(Z:s.H bk=some o)(am:KZ pk ka pv va E o xs)(K:Vr pk ka E k x)(hw:Vr pv va E w v0){Q:Unit->St->Prop}
  (h:∀o',KZ pk ka pv va E o' (DX xs x v0)->Q () (s.upd bk o')):lp P (Instr.mapUpdate tm (.map (some bk)) k w) s Q X:=by
 obtain⟨es,c,rfl,ac,ag,U⟩:=am;unfold Instr.mapUpdate;refine Az _ _ (Cx hm ?_);unfold getObj;simp only [bind,Sem.bind,lp];refine⟨_,hg,V,?_⟩;refine Az (x:=Instr.checkKey false 10000 t k) _ (O.BY K ?_);refine Az (x:=Instr.findKey t k es.toList) _ (Ps O K ac ?_);rcases Ey.put K hw c (i:=0) ac with⟨Y,e2⟩ | ⟨j,u,Y,e2,ap,aq⟩
 ·rw [Y];simp only [setObj,lp];refine⟨⟨_,Z,V⟩,V,h _ ⟨es.push {key:=k,val:=w,born:=c},c+1,V,by simpa using e2,?_,?_⟩⟩
  ·rw [Array.toList_push,List.map_append,List.pairwise_append];refine⟨ag,by simp,λa av b hb=>?_⟩;simp at hb;subst hb;obtain⟨e,he,rfl⟩:=List.mem_map.1 av;exact U e he
  ·intro e he;rw [Array.toList_push] at he;rcases List.mem_append.1 he with he | he
   ·have:=U e he;omega
   ·simp at he;subst he;simp
 ·rw [Y];have al:es[j]? =some (es[j]'(by simpa using e2)):=Array.getElem?_eq_getElem (by simpa using e2);have aw:(es[j]'(by simpa using e2)).key=k:=O.uniq (ap _ (by rw [Array.getElem?_toList];exact al)) K;simp only [Nat.zero_add,al,Option.map_some,Option.getD_some,aw];refine Az (x:=Instr.keyThatStays k k) _ ?_;unfold Instr.keyThatStays;rw [if_pos (O.same K)];simp only [lp,pure,setObj];refine⟨⟨_,Z,V⟩,V,h _ ⟨_,c,V,by simpa using aq,?_,?_⟩⟩
  ·have:(es.modify j λe=>{e with key:=k,val:=w}).toList.map (·.born)=es.toList.map (·.born):=by
    rw [Array.toList_modify];apply List.ext_getElem?;intro q;simp only [List.getElem?_map,List.getElem?_modify];split <;> cases es.toList[q]? <;> rfl
   rw [this];exact ag
  ·intro e he;rw [Array.toList_modify] at he;obtain⟨q,ay,rfl⟩:=List.mem_iff_getElem.1 he;rw [List.getElem_modify];have az:q<es.toList.length:=by simpa using ay
   split
   ·show(es.toList[q]'az).born<c;exact U _ (List.getElem_mem _)
   ·exact U _ (List.getElem_mem _)
end
theorem Ta{l us r:Lv_}:∀j w,us[j]? =some w->(l++us++r).toArray[l.length+j]? =some w:=λj w h=>by
 have K:j<us.length:=(List.getElem?_eq_some_iff.1 h).1
 rw [List.getElem?_toArray,List.append_assoc,List.getElem?_append_right (by omega),show l.length+j - l.length=j by omega,List.getElem?_append_left K]
 exact h
section
variable {e:TypeId}
theorem Lo{c:Av_}{off:Nat}{us:Lv_}{O:Bool}(Y:Dc P e=some O)(Z:Bv P e=some us.length)(ac:O=false->us.length=1)(hw:∀j w,us[j]? =some w->c[off+j]? =some w)
  {Q:Value->St->Prop} (k:Q (HJ O us) s):lp P (Go.part e c off) s Q X:=by
 unfold Go.part;refine Az (x:=isAgg e) _ (Mq Y ?_);cases O with
 | true=>
  simp only [if_true];refine Az (x:=Go.sizeOf e) _ (Fb Z ?_);have ag:c.extract off (off+us.length)=us.toArray:=by
   apply Array.ext_getElem?;intro j;by_cases U:j<us.length
   ·have K:=hw j us[j] (List.getElem?_eq_getElem U);have al:off+j<c.size:=(Array.getElem?_eq_some_iff.1 K).1;simp only [Array.getElem?_extract];rw [if_pos (by omega),K];simp [U]
   ·simp only [Array.getElem?_extract];rw [if_neg (by omega)];simp;omega
  show Q (.agg (c.extract off (off+us.length))) s;rw [ag];exact k
 | false=>
  obtain⟨w,rfl⟩:∃w,us= [w]:=by
   match us,ac rfl with
   | [w],_=>exact⟨w,rfl⟩
  have K:=hw 0 w V;rw [Nat.add_zero] at K;simp only [Bool.false_eq_true,if_false,K];exact k
end
structure Cr (P:Program) (t:TypeId) {α:Type} [DecidableEq α] (pp:Rp α) (K:Bool) (dep:Nat):Prop where
 agg:Dc P t=some K
 size:Bv P t=some pp.n
 one:K=false->pp.n=1
 eq:∀{n:Nat} {E E':LH} {ws ws':Lv_} {x y:α} {s:St} {Q:Bool->St->Prop} {X:Halt->St->Prop},dep<=n->pp.r E ws x->pp.r E' ws' y->Q (decide (x=y)) s->lp P (Op.equalIn n t (HJ K ws) (HJ K ws')) s Q X
 BY:∀{n:Nat} {em:Bool} {E:LH} {ws:Lv_} {x:α} {s:St} {Q:Unit->St->Prop} {X:Halt->St->Prop},dep<=n->pp.r E ws x->Q () s->lp P (Instr.checkKey em n t (HJ K ws)) s Q X
 uniq:∀{E E':LH} {ws ws':Lv_} {x:α},pp.r E ws x->pp.r E' ws' x->ws=ws'
 same:∀{E:LH} {ws:Lv_} {x:α},pp.r E ws x->∀w∈ws,∀m,Instr.sameBits (m+1) w w=true
 now:∃kd,P.underlying t=some kd/\((∀v w,Instr.sameNow kd v w=none)∨∀{E E':LH} {ws ws':Lv_} {x y:α},pp.r E ws x->pp.r E' ws' y->Instr.sameNow kd (HJ K ws) (HJ K ws')=some (decide (x=y)))
variable {ρ:Operand->Value}{d:Option Tmp}{u ty:TypeId}{p:String}{af:Ae_}{g:On_}{ws ws':Lv_}
section
variable {e:TypeId}
theorem Cr.int{kd:IntKind}(ht:P.underlying t=some (.int kd))(U:Bv P t=some 1):Cr P t (rK kd) false 1 where
 agg:=by unfold Dc;rw [ht]
 size:=U
 one _:=rfl
 eq {n E E' ws ws' x y s Q X} Y K O k:=by
  obtain⟨m,rfl⟩:∃m,n=m+1:=⟨n - 1,by omega⟩;have K:ws= [.int kd x]:=K;have O:ws'= [.int kd y]:=O;subst K O;refine T3 ht ?_;have e:(x==y)=decide (x=y):=by by_cases h:x=y <;> simp [h]
  rw [e];exact k
 BY {n em E ws x s Q X} Y K k:=by
  obtain⟨m,rfl⟩:∃m,n=m+1:=⟨n - 1,by omega⟩;have K:ws= [.int kd x]:=K;subst K;unfold Instr.checkKey;refine Az _ _ (Cx ht ?_);exact k
 uniq K O:=by
  have K:_= [Value.int kd _]:=K;have O:_= [Value.int kd _]:=O;rw [K,O]
 same {E ws x} h w hw m:=by
  have h:ws= [Value.int kd x]:=h;subst h;simp at hw;subst hw;simp [Instr.sameBits]
 now:=⟨_,ht,.inr λ{E E' ws ws' x y} K O=>by
  have K:ws= [.int kd x]:=K
  have O:ws'= [.int kd y]:=O
  subst K O
  have e:(x==y)=decide (x=y):=by by_cases h:x=y <;> simp [h]
  show(if kd=kd then some (x==y) else none)=_
  rw [if_pos rfl,e]⟩
theorem Cr.nat{kd:IntKind}(ht:P.underlying t=some (.int kd))(Y:Bv P t=some 1):Cr P t (rN kd) false 1 where
 agg:=by unfold Dc;rw [ht]
 size:=Y
 one _:=rfl
 eq {n E E' ws ws' x y s Q X} Z K O k:=by
  obtain⟨m,rfl⟩:∃m,n=m+1:=⟨n - 1,by omega⟩;have K:ws= [.int kd ((x:Nat):Int)]:=K;have O:ws'= [.int kd ((y:Nat):Int)]:=O;subst K O;refine T3 ht ?_;have e:((x:Int)==(y:Int))=decide (x=y):=by
   by_cases h:x=y
   ·simp [h]
   ·have U:¬(x:Int)=(y:Int):=by omega
    simp [h,U]
  rw [e];exact k
 BY {n em E ws x s Q X} Z K k:=by
  obtain⟨m,rfl⟩:∃m,n=m+1:=⟨n - 1,by omega⟩;have K:ws= [.int kd ((x:Nat):Int)]:=K;subst K;unfold Instr.checkKey;refine Az _ _ (Cx ht ?_);exact k
 uniq K O:=by
  have K:_= [Value.int kd _]:=K;have O:_= [Value.int kd _]:=O;rw [K,O]
 same {E ws x} h w hw m:=by
  have h:ws= [Value.int kd ((x:Nat):Int)]:=h;subst h;simp at hw;subst hw;simp [Instr.sameBits]
 now:=⟨_,ht,.inr λ{E E' ws ws' x y} K O=>by
  have K:ws= [.int kd ((x:Nat):Int)]:=K
  have O:ws'= [.int kd ((y:Nat):Int)]:=O
  subst K O
  have e:((x:Int)==(y:Int))=decide (x=y):=by
   by_cases h:x=y
   ·simp [h]
   ·have U:¬(x:Int)=(y:Int):=by omega
    simp [h,U]
  show(if kd=kd then some ((x:Int)==(y:Int)) else none)=_
  rw [if_pos rfl,e]⟩
theorem Cr.up{α:Type} [DecidableEq α] {pp:Rp α}{O:Bool}{dep U:Nat}(h:Cr P t pp O dep)(hd:dep<=U):Cr P t pp O U:=
 ⟨h.agg,h.size,h.one,λK=>h.eq (Nat.le_trans hd K),λK=>h.BY (Nat.le_trans hd K),h.uniq,h.same,h.now⟩
theorem Qg{α:Type}{kk:Nat}{pp:Rp α}{E:LH}{ws:Lv_}{xs:List α}(K:(rA kk pp).r E ws xs){i:Nat}(hi:i<kk):∃x us,xs[i]? =some x/\pp.r E us x/\us.length=pp.n/\∀j w,us[j]? =some w->ws.toArray[i*pp.n+j]? =some w:=by
 have O:xs[i]? =some (xs[i]'(by rw [K.1];exact hi)):=List.getElem?_eq_getElem (by rw [K.1];exact hi);have Y:ix xs (i:Int)=some (xs[i]'(by rw [K.1];exact hi)):=by unfold ix;rw [if_pos (by omega)];simpa using O
 obtain⟨us,U,_,_,Z⟩:=HW (m:=(i:Int)) K Y;exact⟨_,us,O,U,pp.len U,λj w ac=>by have:=Z j w ac;rw [List.getElem?_toArray];simpa using this⟩
theorem Cr.arr{α:Type} [DecidableEq α] {pp:Rp α}{a5:Bool}{dep kk:Nat}(h:Cr P e pp a5 dep)(ht:P.underlying t=some (.array kk e))(a6:Bv P t=some (kk*pp.n)):Cr P t (rA kk pp) true (dep+1) where
 agg:=by unfold Dc;rw [ht]
 size:=a6
 one:=λh=>by cases h
 eq {n E E' ws ws' xs ys s Q X} a7 Z az k:=by
  obtain⟨n,rfl⟩:∃m,n=m+1:=⟨n - 1,by omega⟩;have bw:=Z.1;have bx:=az.1;unfold Op.equalIn;refine Az _ _ (Cx ht ?_);refine Az (x:=Go.sizeOf e) _ (Fb h.size ?_);simp only [HJ,if_true];simp only [Std.Legacy.Range.forIn_eq_forIn_range',Std.Legacy.Range.size,Nat.sub_zero,Nat.add_one_sub_one,Nat.div_one];let bd:Nat->Option Bool×Unit->Sem (ForInStep (Option Bool×Unit)):=λi _=>do
   if !(← Op.equalIn n e (← Go.part e ws.toArray (i*pp.n)) (← Go.part e ws'.toArray (i*pp.n))) then pure (ForInStep.done (some false,())) else pure (ForInStep.yield (none,()))
  have key:∀(m st:Nat),st+m=kk->(∀i,i<st->xs[i]? =ys[i]?)->∀{K:Option Bool×Unit->St->Prop},K (if xs=ys then(none,()) else(some false,())) s->lp P (forIn (List.range' st m) (none,()) bd:Sem _) s K X:=by
   intro m
   induction m with
   | zero=>
    intro st ag al K O;have U:xs=ys:=by
     apply List.ext_getElem?;intro i;rcases Nat.lt_or_ge i st with hi | hi
     ·exact al i hi
     ·rw [List.getElem?_eq_none (by omega),List.getElem?_eq_none (by omega)]
    rw [if_pos U] at O;simp only [List.range'_zero,List.forIn_nil];exact O
   | succ m am=>
    intro st ag al K O;simp only [List.range'_succ,List.forIn_cons];obtain⟨a,us,ac,ap,Y,aq⟩:=Qg Z (i:=st) (by omega);obtain⟨c,bz,av,a8,a0,a9⟩:=Qg az (i:=st) (by omega);refine Az _ _ (Az _ _ (Lo h.agg (by rw [Y];exact h.size) (λq=>by rw [Y];exact h.one q) aq ?_));refine Az _ _ (Lo h.agg (by rw [a0];exact h.size) (λq=>by rw [a0];exact h.one q) a9 ?_);refine Az _ _ (h.eq (by omega) ap a8 ?_);by_cases aw:a=c
    ·subst aw;simp only [decide_true,Bool.not_true,Bool.false_eq_true,if_false,lp,pure];exact am (st+1) (by omega) (λi hi=>by
      rcases Nat.lt_or_ge i st with a2 | a2
      ·exact al i a2
      ·obtain rfl:i=st:=by omega
       rw [ac,av]) O
    ·have bb:¬xs=ys:=λq=>aw (by rw [q] at ac;rw [ac] at av;exact Option.some.inj av);rw [if_neg bb] at O;simp only [aw,decide_false,Bool.not_false,if_true,lp,pure];exact O
  refine Az _ _ (key kk 0 (by omega) (λi hi=>by omega) ?_);by_cases U:xs=ys
  ·rw [if_pos U];simpa [lp,pure,U] using k
  ·rw [if_neg U];simpa [lp,pure,U] using k
 BY {n em E ws xs s Q X} a7 Z k:=by
  obtain⟨n,rfl⟩:∃m,n=m+1:=⟨n - 1,by omega⟩;unfold Instr.checkKey;refine Az _ _ (Cx ht ?_);simp only [HJ,if_true];simp only [Std.Legacy.Range.forIn_eq_forIn_range',Std.Legacy.Range.size,Nat.sub_zero,Nat.add_one_sub_one,Nat.div_one];let bd:Nat->Unit->Sem (ForInStep Unit):=λi _=>do
   Instr.checkKey em n e (← Go.part e ws.toArray (i*(← Go.sizeOf e)))
   pure (ForInStep.yield ())
  have key:∀(m st:Nat),st+m=kk->∀{K:Unit->St->Prop},K () s->lp P (forIn (List.range' st m) () bd:Sem _) s K X:=by
   intro m
   induction m with
   | zero=>
    intro st ag K O;simp only [List.range'_zero,List.forIn_nil];exact O
   | succ m am=>
    intro st ag K O;simp only [List.range'_succ,List.forIn_cons];obtain⟨a,us,ac,ap,Y,aq⟩:=Qg Z (i:=st) (by omega);refine Az _ _ (Az (x:=Go.sizeOf e) _ (Fb h.size ?_));refine Az _ _ (Lo h.agg (by rw [Y];exact h.size) (λq=>by rw [Y];exact h.one q) aq ?_);refine Az _ _ (h.BY (by omega) ap ?_);exact am (st+1) (by omega) O
  exact Az _ _ (key kk 0 (by omega) k)
 uniq {E E' ws ws' xs} ay be:=by
  obtain⟨a1,wss,rfl,a3,c1⟩:=ay;obtain⟨b0,bi,rfl,b1,c2⟩:=be;have:wss=bi:=by
   apply List.ext_getElem (by omega);intro i hi bn;have a4:xs[i]? =some (xs[i]'(by omega)):=List.getElem?_eq_getElem (by omega);exact h.uniq (c1 i _ _ a4 (List.getElem?_eq_getElem hi)) (c2 i _ _ a4 (List.getElem?_eq_getElem bn))
  rw [this]
 same {E ws xs} ay w hw m:=by
  obtain⟨a1,wss,rfl,a3,c1⟩:=ay;obtain⟨us,bo,hw⟩:=List.mem_flatten.1 hw;obtain⟨i,hi⟩:=List.mem_iff_getElem?.1 bo;have bv:i<xs.length:=by rw [a1,← a3];exact(List.getElem?_eq_some_iff.1 hi).1
  exact h.same (c1 i _ us (List.getElem?_eq_getElem bv) hi) w hw m
 now:=⟨_,ht,.inl λv w=>rfl⟩
theorem Cr.field{α:Type} [DecidableEq α] {pp:Rp α}{ac:Bool}{dep n:Nat}{f:Field}{s:St}{X:Halt->St->Prop}(h:Cr P f.type pp ac dep)(hd:dep<=n)(ag:f.name≠ "_"){E E':LH}{us Y:Lv_}{x y:α}(r1:pp.r E us x)(r2:pp.r E' Y y){cx Z:Av_}
  (w1:∀j w,us[j]? =some w->cx[f.offset+j]? =some w) (w2:∀j w,Y[j]? =some w->Z[f.offset+j]? =some w) {K:ForInStep (Option Bool×Unit)->St->Prop} (O:K (if x=y then .yield (none,()) else .done (some false,())) s):
  lp P (if f.name≠ "_" then do
   if !(← Op.equalIn n f.type (← Go.part f.type cx f.offset) (← Go.part f.type Z f.offset)) then pure (ForInStep.done (some false,())) else pure (ForInStep.yield (none,()))
   else pure (ForInStep.yield (none,()))) s K X:=by
 rw [if_pos ag]
 refine Az _ _ (Lo h.agg (by rw [pp.len r1];exact h.size) (λq=>by rw [pp.len r1];exact h.one q) w1 ?_)
 refine Az _ _ (Lo h.agg (by rw [pp.len r2];exact h.size) (λq=>by rw [pp.len r2];exact h.one q) w2 ?_)
 refine Az _ _ (h.eq hd r1 r2 ?_)
 by_cases U:x=y
 ·rw [if_pos U] at O;simpa [lp,pure,U] using O
 ·rw [if_neg U] at O;simpa [lp,pure,U] using O
theorem Cr.My{α:Type} [DecidableEq α] {pp:Rp α}{O em:Bool}{dep n:Nat}{f:Field}{s:St}{X:Halt->St->Prop}(h:Cr P f.type pp O dep)(hd:dep<=n)(U:f.name≠ "_"){E:LH}{us:Lv_}{x:α}(r1:pp.r E us x){cx:Av_}
  (w1:∀j w,us[j]? =some w->cx[f.offset+j]? =some w) {K:ForInStep Unit->St->Prop} (Y:K (.yield ()) s):
  lp P (if f.name≠ "_" then do
   Instr.checkKey em n f.type (← Go.part f.type cx f.offset)
   pure (ForInStep.yield ())
   else pure (ForInStep.yield ())) s K X:=by
 rw [if_pos U]
 refine Az _ _ (Lo h.agg (by rw [pp.len r1];exact h.size) (λq=>by rw [pp.len r1];exact h.one q) w1 ?_)
 refine Az _ _ (h.BY hd r1 ?_)
 exact Y
theorem LK{us r:Lv_}{o:Nat}(K:o=0):∀j w,us[j]? =some w->(us++r).toArray[o+j]? =some w:=λj w h=>by subst K;exact Ta (l:= []) j w h
theorem OK{l us r:Lv_}{o:Nat}(K:o=l.length):∀j w,us[j]? =some w->(l++(us++r)).toArray[o+j]? =some w:=λj w h=>by
 subst K
 have:=Ta (l:=l) (r:=r) j w h
 rwa [List.append_assoc] at this
theorem OE{l us:Lv_}{o:Nat}(K:o=l.length):∀j w,us[j]? =some w->(l++us).toArray[o+j]? =some w:=λj w h=>by
 have:=OK (r:= []) K j w h
 rwa [List.append_nil] at this
theorem QG{l m us:Lv_}{o:Nat}(K:o=l.length+m.length):∀j w,us[j]? =some w->(l++(m++us)).toArray[o+j]? =some w:=λj w h=>by
 have:=OE (l:=l++m) (o:=o) (by simp [K]) j w h
 rwa [List.append_assoc] at this
theorem Cr.two{α β:Type} [DecidableEq α] [DecidableEq β] {p1:Rp α}{p2:Rp β}{a1 ag:Bool}{dep:Nat}{f1 f2:Field}(ht:P.underlying t=some (.struct #[f1,f2]))(K:Cr P f1.type p1 a1 dep)(O:Cr P f2.type p2 ag dep)(hs:P.stoodInHeld t=false)
  (n1:f1.name≠ "_") (n2:f2.name≠ "_") (o1:f1.offset=0) (o2:f2.offset=p1.n) (al:Bv P t=some (p1.n+p2.n)):Cr P t (rP p1 p2) true (dep+1) where
 agg:=by unfold Dc;rw [ht]
 size:=al
 one:=λh=>by cases h
 eq {n E E' ws ws' x y s Q X} am Z ap k:=by
  obtain⟨n,rfl⟩:∃m,n=m+1:=⟨n - 1,by omega⟩;obtain⟨u1,u2,rfl,r1,r2⟩:=Z;obtain⟨v1,v2,rfl,U,ac⟩:=ap;simp only [HJ,if_true];unfold Op.equalIn;refine Az _ _ (Cx ht ?_);refine Az (x:=program) _ ?_;show lp P (if P.stoodInHeld t=true then _ else _) s _ _
  rw [if_neg (by rw [hs];exact Bool.false_ne_true)]
  dsimp only;rw [← Array.forIn_toList];simp only [List.forIn_cons,List.forIn_nil];refine Az _ _ (Az _ _ (K.field (by omega) n1 r1 U (LK o1) (LK o1) ?_));by_cases Y:x.1=y.1
  ·rw [if_pos Y];refine Az _ _ (O.field (by omega) n2 r2 ac (OE (o2.trans (p1.len r1).symm)) (OE (o2.trans (p1.len U).symm)) ?_);by_cases e2:x.2=y.2
   ·have e:x=y:=Prod.ext Y e2;rw [if_pos e2];simpa [lp,pure,e] using k
   ·have e:¬x=y:=λq=>e2 (by rw [q]);rw [if_neg e2];simpa [lp,pure,e] using k
  ·have e:¬x=y:=λq=>Y (by rw [q]);rw [if_neg Y];simpa [lp,pure,e] using k
 BY {n em E ws x s Q X} am Z k:=by
  obtain⟨n,rfl⟩:∃m,n=m+1:=⟨n - 1,by omega⟩;obtain⟨u1,u2,rfl,r1,r2⟩:=Z;simp only [HJ,if_true];unfold Instr.checkKey;refine Az _ _ (Cx ht ?_)
  dsimp only;rw [← Array.forIn_toList];simp only [List.forIn_cons,List.forIn_nil];refine Az _ _ (Az _ _ (K.My (by omega) n1 r1 (LK o1) ?_));refine Az _ _ (O.My (by omega) n2 r2 (OE (o2.trans (p1.len r1).symm)) ?_);exact k
 uniq {E E' ws ws' x} a b:=by
  obtain⟨u1,u2,rfl,r1,r2⟩:=a;obtain⟨v1,v2,rfl,U,ac⟩:=b;rw [K.uniq r1 U,O.uniq r2 ac]
 same {E ws x} a w hw m:=by
  obtain⟨u1,u2,rfl,r1,r2⟩:=a;rcases List.mem_append.1 hw with hw | hw
  ·exact K.same r1 w hw m
  ·exact O.same r2 w hw m
 now:=⟨_,ht,.inl λv w=>rfl⟩
theorem Cr.three{α β av:Type} [DecidableEq α] [DecidableEq β] [DecidableEq av] {p1:Rp α}{p2:Rp β}{p3:Rp av}{a1 ay az:Bool}{dep:Nat}{f1 f2 f3:Field}(ht:P.underlying t=some (.struct #[f1,f2,f3]))(O:Cr P f1.type p1 a1 dep)(U:Cr P f2.type p2 ay dep)(Y:Cr P f3.type p3 az dep)(hs:P.stoodInHeld t=false)
  (n1:f1.name≠ "_") (n2:f2.name≠ "_") (aw:f3.name≠ "_") (o1:f1.offset=0) (o2:f2.offset=p1.n) (al:f3.offset=p1.n+p2.n) (a0:Bv P t=some (p1.n+(p2.n+p3.n))):Cr P t (rP p1 (rP p2 p3)) true (dep+1) where
 agg:=by unfold Dc;rw [ht]
 size:=a0
 one:=λh=>by cases h
 eq {n E E' ws ws' x y s Q X} a2 am a3 k:=by
  obtain⟨n,rfl⟩:∃m,n=m+1:=⟨n - 1,by omega⟩;obtain⟨u1,_,rfl,r1,u2,ap,rfl,r2,r3⟩:=am;obtain⟨v1,_,rfl,K,v2,a4,rfl,Z,aq⟩:=a3;simp only [HJ,if_true];unfold Op.equalIn;refine Az _ _ (Cx ht ?_);refine Az (x:=program) _ ?_;show lp P (if P.stoodInHeld t=true then _ else _) s _ _
  rw [if_neg (by rw [hs];exact Bool.false_ne_true)]
  dsimp only;rw [← Array.forIn_toList];simp only [List.forIn_cons,List.forIn_nil];refine Az _ _ (Az _ _ (O.field (by omega) n1 r1 K (LK o1) (LK o1) ?_));by_cases ac:x.1=y.1
  ·rw [if_pos ac];refine Az _ _ (U.field (by omega) n2 r2 Z (OK (o2.trans (p1.len r1).symm)) (OK (o2.trans (p1.len K).symm)) ?_);by_cases e2:x.2.1=y.2.1
   ·rw [if_pos e2];refine Az _ _ (Y.field (by omega) aw r3 aq (QG (by rw [al,p1.len r1,p2.len r2])) (QG (by rw [al,p1.len K,p2.len Z])) ?_);by_cases ag:x.2.2=y.2.2
    ·have e:x=y:=Prod.ext ac (Prod.ext e2 ag);rw [if_pos ag];simpa [lp,pure,e] using k
    ·have e:¬x=y:=λq=>ag (by rw [q]);rw [if_neg ag];simpa [lp,pure,e] using k
   ·have e:¬x=y:=λq=>e2 (by rw [q]);rw [if_neg e2];simpa [lp,pure,e] using k
  ·have e:¬x=y:=λq=>ac (by rw [q]);rw [if_neg ac];simpa [lp,pure,e] using k
 BY {n em E ws x s Q X} a2 am k:=by
  obtain⟨n,rfl⟩:∃m,n=m+1:=⟨n - 1,by omega⟩;obtain⟨u1,_,rfl,r1,u2,ap,rfl,r2,r3⟩:=am;simp only [HJ,if_true];unfold Instr.checkKey;refine Az _ _ (Cx ht ?_)
  dsimp only;rw [← Array.forIn_toList];simp only [List.forIn_cons,List.forIn_nil];refine Az _ _ (Az _ _ (O.My (by omega) n1 r1 (LK o1) ?_));refine Az _ _ (U.My (by omega) n2 r2 (OK (o2.trans (p1.len r1).symm)) ?_);refine Az _ _ (Y.My (by omega) aw r3 (QG (by rw [al,p1.len r1,p2.len r2])) ?_);exact k
 uniq {E E' ws ws' x} a b:=by
  obtain⟨u1,_,rfl,r1,u2,ap,rfl,r2,r3⟩:=a;obtain⟨v1,_,rfl,K,v2,a4,rfl,Z,aq⟩:=b;rw [O.uniq r1 K,U.uniq r2 Z,Y.uniq r3 aq]
 same {E ws x} a w hw m:=by
  obtain⟨u1,_,rfl,r1,u2,ap,rfl,r2,r3⟩:=a;rcases List.mem_append.1 hw with hw | hw
  ·exact O.same r1 w hw m
  ·rcases List.mem_append.1 hw with hw | hw
   ·exact U.same r2 w hw m
   ·exact Y.same r3 w hw m
 now:=⟨_,ht,.inl λv w=>rfl⟩
theorem Cr.key{α:Type} [DecidableEq α] {pp:Rp α}{K:Bool}{dep:Nat}(h:Cr P t pp K dep)(hd:dep<=10000):G0 P t pp K where
 BY:=by
  rintro em E v x s Q X ⟨ws,Y,rfl⟩ k;exact h.BY hd Y k
 kind:=by
  obtain⟨kd,O,Z⟩:=h.now;refine⟨kd,O,Z.imp id λac=>?_⟩;rintro E v w x y ⟨ws,r1,rfl⟩ ⟨ws',r2,rfl⟩;exact ac r1 r2
 eq:=by
  rintro E v w x y s Q X ⟨ws,r1,rfl⟩ ⟨ws',r2,rfl⟩ k;exact h.eq hd r1 r2 k
 same:=by
  rintro E v x ⟨ws,r1,rfl⟩;cases K with
  | false=>
   obtain⟨w,rfl⟩:∃w,ws= [w]:=by
    have:=(pp.len r1).trans (h.one V)
    match ws,this with
    | [w],_=>exact⟨w,rfl⟩
   exact h.same r1 w (by simp) 9999
  | true=>
   show(ws.toArray.size==ws.toArray.size&&(ws.toArray.toList.zip ws.toArray.toList).all λ(x,y)=>Instr.sameBits 9999 x y)=true;rw [Bool.and_eq_true];refine⟨by simp,List.all_eq_true.2 ?_⟩;rintro⟨a,b⟩ ag;have O:∀(l:Lv_) a b,(a,b)∈l.zip l->a=b/\a∈l:=by
    intro l
    induction l with
    | nil=>intro a b h;simp at h
    | cons c l U=>
     intro a b h;simp only [List.zip_cons_cons,List.mem_cons,Prod.mk.injEq] at h;rcases h with⟨rfl,rfl⟩ | h
     ·exact⟨V,by simp⟩
     ·exact⟨(U a b h).1,List.mem_cons_of_mem _ (U a b h).2⟩
   obtain⟨rfl,hm⟩:=O _ a b ag;exact h.same r1 a (by simpa using hm) 9998
 uniq:=by
  rintro E v w x ⟨ws,r1,rfl⟩ ⟨ws',r2,rfl⟩;rw [h.uniq r1 r2]
section
variable {x y:Operand}
theorem PY{α:Type} [DecidableEq α] {pp:Rp α}{dep:Nat}{a b:α}(h:Cr P t pp true dep)(hd:dep<=10000)(hg:P.eqGuardType P.depth t=false)(r1:pp.r E ws a)(r2:pp.r E' ws' b)(K:ρ x= .agg ws.toArray)(O:ρ y= .agg ws'.toArray):Yl P ⟨d,.binOp .neq t x y u,ty,p,af,g⟩ ρ s (.bool (decide (a≠b))):=by
 refine FQ (sm:=do eqGuard .neq t x y (ρ x) (ρ y);binOp .neq t (ρ x) (ρ y)) V ?_
 rw [K,O];refine Az _ _ (R2 (.inr V) hg ?_);have hb:binOp .neq t (.agg ws.toArray) (.agg ws'.toArray)=(do pure (.bool (!(← Op.equal t (.agg ws.toArray) (.agg ws'.toArray))))):=V
 rw [hb];exact Az (x:=Op.equal t _ _) _ (h.eq hd r1 r2 ⟨by simp,V⟩)
end
end
theorem Vn{E H:LH}{B:List (Nat×Obj)}(i:Nat){bk:Nat}{o:Obj}(K:Nd E H B)(h:B[i]? =some (bk,o)):∃E',Le E E'/\E' bk=some o/\Nd E' H (B.eraseIdx i)/\CF (mk E H B) (mk E' H (B.eraseIdx i)):=by
 have ap:=List.mem_of_getElem? h;have aq:E bk=none/\H bk=none:=by
  have:∀{B:List (Nat×Obj)},Nd E H B->(bk,o)∈B->E bk=none/\H bk=none:=by
   intro B K O
   induction B with
   | nil=>simp at O
   | cons q B Y=>
    rcases List.mem_cons.1 O with rfl | O
    ·exact⟨K.1,K.2.1⟩
    ·exact Y K.2.2.2 O
  exact this K ap
 let E':LH:=λx=>if x=bk then some o else E x
 have ag:E' bk=some o:=by simp [E']
 have hle:Le E E':=λx u U=>by
  have:x≠bk:=λe=>by subst e;rw [aq.1] at U;cases U
  simp [E',this,U]
 have av:Nd E' H (B.eraseIdx i):=by
  have:∀{B:List (Nat×Obj)} {i:Nat},Nd E H B->B[i]? =some (bk,o)->Nd E' H (B.eraseIdx i)/\∀p∈B.eraseIdx i,p.1≠bk:=by
   intro B
   induction B with
   | nil=>intro i _ h;simp at h
   | cons q B Y=>
    obtain⟨c,v⟩:=q;intro i K h;have up:∀{B:List (Nat×Obj)},Nd E H B->(∀p∈B,p.1≠bk)->Nd E' H B:=by
     intro B K al
     induction B with
     | nil=>trivial
     | cons q B aw=>exact⟨by simpa [E',al q (by simp)] using K.1,K.2.1,K.2.2.1,aw K.2.2.2 λp O=>al p (List.mem_cons_of_mem _ O)⟩
    cases i with
    | zero=>
     simp at h;obtain⟨rfl,rfl⟩:=h;exact⟨up K.2.2.2 K.2.2.1,K.2.2.1⟩
    | succ i=>
     simp at h;obtain⟨Z,ac⟩:=Y K.2.2.2 h;have am:c≠bk:=λe=>K.2.2.1 (bk,o) (List.mem_of_getElem? h) e.symm;refine⟨⟨by simpa [E',am] using K.1,K.2.1,λp O=>K.2.2.1 p (List.mem_of_mem_eraseIdx O),Z⟩,λp O=>?_⟩;rcases List.mem_cons.1 O with rfl | O
     ·exact am
     ·exact ac p O
  exact(this K h).1
 refine⟨E',hle,ag,av,⟨λx u U=>hle x u U,λx u U=>(Mf K h U).2,λx u U=>?_,V⟩⟩;by_cases e:x=bk
 ·subst e;right;have:u=o:=by have:E' x=some u:=U;rw [ag] at this;exact(Option.some.inj this).symm
  subst this;refine⟨Jo K h,?_⟩;cases ay:(mk E' H (B.eraseIdx i)).H x with
  | none=>rfl
  | some y=>exact absurd rfl (Mf K h ay).1
 ·left;have Z:E' x=some u:=U;have ac:E' x=E x:=by simp [E',e]
  show E x=some u;rw [← ac];exact Z
theorem Vd{E H:LH}{B0:List (Nat×Obj)}{e:TypeId}{K l c:Nat}{a:Option Addr}{blk:List (Nat×Obj)}{xs:Lv_}(hg:GS e K a l c blk xs)(U:Nd E H (B0++blk)):∃E',Le E E'/\O2 E' K (.slice a l c) l xs/\Nd E' H B0/\CF (mk E H (B0++blk)) (mk E' H B0):=by
 rcases hg with⟨rfl,rfl,rfl,rfl,rfl⟩ | ⟨bk,f,rfl,rfl,ag,Y,rfl⟩
 ·simp only [List.append_nil] at U ⊢;exact⟨E,Le.refl _,.nil,U,.refl _⟩
 ·have al:(B0++ [(bk,Obj.cells f e (0,0))])[B0.length]? =some (bk,Obj.cells f e (0,0)):=by simp
  obtain⟨E',hle,am,Z,ac⟩:=Vn B0.length U al;have ap:(B0++ [(bk,Obj.cells f e (0,0))]).eraseIdx B0.length=B0:=by rw [List.eraseIdx_append_of_length_le (Nat.le_refl _)];simp
  rw [ap] at Z ac;refine⟨E',hle,⟨_,c,V,Y,?_,.inr ⟨bk,0,f,e,(0,0),V,am,λj w O=>?_⟩⟩,Z,ac⟩
  ·have:l*K<=c*K:=Nat.mul_le_mul_right _ Y;simp [ag,Nat.min_eq_left this]
  ·rw [List.getElem?_take] at O;split at O
   ·simpa using O
   ·cases O
theorem Vk{α:Type}{pp:Rp α}{E H:LH}{S:List Seg}{e:TypeId}{a:Option Addr}{c:Nat}{seg:Seg}{xs:List α}(j:Nat)(hg:OL e pp E a c seg xs)(am:As E H S)(ap:S[j]? =some seg):∃E',Le E E'/\An pp E' a c xs/\As E' H (S.set j [])/\CF (Al E H S) (Al E' H (S.set j [])):=by
 obtain⟨wss,hg,Z,ac⟩:=hg;have aq:∀ad:Addr,a=some ad->ad.spot=none:=λad K=>by
  rcases hg with⟨O,_⟩ | ⟨bk,f,O,_⟩
  ·rw [O] at K;cases K
  ·rw [O] at K;cases K;rfl
 obtain⟨O,av⟩:=GY am ap;obtain⟨E',hle,aw,ay,ag⟩:=Vd hg av;rw [← O] at ag;refine⟨E',hle,?_,ay,ag⟩;obtain⟨az,a0,U,a1,a6,Y⟩:=aw;obtain⟨rfl,-,rfl⟩:a=az/\xs.length=xs.length/\c=a0:=by
  simp only [Value.slice.injEq] at U;exact⟨U.1,V,U.2.2⟩
 refine⟨a1,?_⟩;rcases Y with Y | ⟨bk,off,f,a2,fr,a3,g2,a4⟩
 ·exact .inl ⟨List.eq_nil_of_length_eq_zero Y,λad K=> .inl (aq ad K)⟩
 ·refine .inr ⟨bk,off,a3,λi x al=>?_⟩;have a5:i<wss.length:=by rw [Z];exact(List.getElem?_eq_some_iff.1 al).1
  have hw:=List.getElem?_eq_getElem a5;refine⟨wss[i],pp.M hle (ac i x _ al hw),f,a2,fr,g2,λm w hm=>?_⟩;rw [Nat.add_assoc];exact a4 _ w (Kz (It Z ac) hw m w hm)
theorem CF.get{s s₀:St}(h:CF s s₀){b:Nat}{o:Obj}(hg:s₀.get b=some o):s.get b=some o:=by
 unfold St.get at hg ⊢;cases K:s₀.E b with
 | some o'=>
  rw [K] at hg;simp only at hg;cases hg;rcases h.Fi _ _ K with O | ⟨O,_⟩
  ·rw [O]
  ·cases he:s.E b with
   | none=>exact O
   | some U=>
    have:=h.ext _ _ he;rw [K] at this;cases this;rfl
 | none=>
  rw [K] at hg;simp only at hg;cases he:s.E b with
  | none=>exact h.own _ _ hg
  | some U=>
   have:=h.ext _ _ he;rw [K] at this;cases this
theorem CF.upd{s s₀:St}(h:CF s s₀){b:Nat}(o:Obj)(hb:(∃u,s₀.H b=some u)∨s₀.E b=none):CF (s.upd b o) (s₀.upd b o):=by
 refine⟨h.ext,λx u K=>?_,λx u K=>?_,h.q⟩
 ·simp only [St.upd] at K ⊢;by_cases e:x=b
  ·rw [if_pos e] at K ⊢;exact K
  ·rw [if_neg e] at K ⊢;exact h.own _ _ K
 ·have O:s₀.E x=some u:=K;rcases h.Fi _ _ O with U | ⟨U,Y⟩
  ·exact .inl U
  ·refine .inr ?_;have e:x≠b:=λe=>by
    subst e;rcases hb with⟨w,hw⟩ | hb
    ·rw [hw] at Y;cases Y
    ·rw [hb] at O;cases O
   simp only [St.upd,if_neg e];exact⟨U,Y⟩
theorem CF.none{s s₀:St}(h:CF s s₀){b:Nat}(U:s.E b=none)(O:s.H b=none):s₀.E b=none/\s₀.H b=none:=by
 constructor
 ·cases he:s₀.E b with
  | none=>rfl
  | some o=>
   rcases h.Fi _ _ he with K | ⟨K,_⟩
   ·rw [U] at K;cases K
   ·rw [O] at K;cases K
 ·cases he:s₀.H b with
  | none=>rfl
  | some o=>have:=h.own _ _ he;rw [O] at this;cases this
theorem Xh{P:Program}{α:Type}(x:Sem α):∀{s s₀:St} {Q:α->St->Prop} {X:Halt->St->Prop},CF s s₀->lp P x s₀ Q X->lp P x s (λa s'=>∃Z,CF s' Z/\Q a Z) (λh s'=>∃Z,CF s' Z/\X h Z):=by
 induction x with
 | pure a=>intro s s₀ Q X g h;exact⟨s₀,g,h⟩
 | load m a k K=>
  intro s s₀ Q X g h;obtain⟨O,v,U,Y⟩:=h;obtain⟨o,al,am⟩:=Option.bind_eq_some_iff.1 U;exact⟨O,v,by unfold St.cell?;rw [g.get al];exact am,K v g Y⟩
 | store m a v k K=>
  intro s s₀ Q X g h;obtain⟨O,U,o,Y,ap,aq,av⟩:=h;exact⟨O,U,o,g.own _ _ Y,ap,aq,K (g.upd _ (.inl ⟨o,Y⟩)) av⟩
 | new o k K=>
  intro s s₀ Q X g h;refine⟨by rw [← g.q];exact h.1,λr O U=>?_⟩;obtain⟨ag,e2⟩:=g.none O U;exact K r (g.upd _ (.inr ag)) (h.2 r ag e2)
 | shape r k K=>intro s s₀ Q X g h;obtain⟨o,O,U⟩:=h;exact⟨o,g.get O,K _ g U⟩
 | freeze a n k K=>intro s s₀ Q X g h;exact h.elim
 | frozen a k K=>intro s s₀ Q X g h;obtain⟨o,O,U⟩:=h;exact⟨o,g.get O,K _ g U⟩
 | getObj r k K=>intro s s₀ Q X g h;obtain⟨o,O,U,Y⟩:=h;exact⟨o,g.get O,U,K _ g Y⟩
 | setObj r o k K=>
  intro s s₀ Q X g h;obtain⟨⟨o',O,aw⟩,U,Y⟩:=h;exact⟨⟨o',g.own _ _ O,aw⟩,U,K (g.upd _ (.inl ⟨o',O⟩)) Y⟩
 | choose q k K=>
  intro s s₀ Q X g h;simp only [lp] at h ⊢;split
  ·rename_i ac;rw [if_pos ac] at h;exact K _ g h
  ·rename_i ac;rw [if_neg ac] at h;exact⟨by rw [← g.q];exact h.1,λt=>K _ g (h.2 t)⟩
 | sys c k K=>intro s s₀ Q X g h;exact h.elim
 | program k K=>intro s s₀ Q X g h;exact K _ g h
 | mark m k K=>
  intro s s₀ Q X g h;refine⟨?_,K g h.2⟩;rcases h.1 with⟨O,U⟩ | O
  ·exact .inl ⟨by rw [← g.q];exact O,U⟩
  ·exact .inr O
 | halt h=>intro s s₀ Q X g ay;exact⟨s₀,g,ay⟩
variable {J:Judge P}{Q:Gs_}{b:Frame}{n:Nat}{ds:Ld_}{ops:Ao_}{k:Li_}{cs:Lf_}{m:Nat}{D:Nat->Bool}{L:Env}{H:LH}{S:List Seg}
variable {v:Value}{kd:IntKind}
section
variable {fuel:Nat}{listed:Array Bool}
variable {x y:Operand}{e:TypeId}{i:Nat}
theorem RY{f:FuncId}{args:Array Operand}{ats:Array TypeId}{vs:Lv_}{seg:Seg}{R:Value->LH->Seg->Prop}(j:Nat)(a0:∀x,D x=true->∃(O:Nat) (o:Obj),(S.set j [])[O]? =some [(x,o)])(a1:AP J f vs E seg R)(a2:Region.ready .any ops listed= [i])
  (a3:ops[i]? =some ⟨d,.call ⟨.value (.func f),args,ats⟩,ty,p,af,g⟩) (a4:Br n d=true) (hw:AY L ops ⟨d,.call ⟨.value (.func f),args,ats⟩,ty,p,af,g⟩=some true) (hb:Em P f=true) (a5:evs L args.toList=some vs) (Z:As E H S) (ac:S[j]? =some seg)
  (a6:∀v E' seg',Le E E'->R v E' seg'->As E' H (S.set j seg')->AT J Q b n ds ops k cs m D fuel (Bi listed i) (AB L d v) (Al E' H (S.set j seg'))):
  AT J Q b n ds ops k cs m D (fuel+1) listed L (Al E H S):=by
 have al:S.flatten.Perm (seg++(S.set j []).flatten):=(EA (seg':=seg) ac).1.trans List.perm_append_comm;have am:Nd E H (seg++(S.set j []).flatten):=Nd.perm Z al;have a7:Al E H S=mk E (Bc (S.set j []).flatten H) seg:=by
  rw [show Al E H S=mk E H S.flatten from rfl,Fu Z al];unfold mk;rw [F5]
 have ap:=Fa.KY (a1 (Bc (S.set j []).flatten H) (Nd.front am)) (by rintro v s' ⟨E',B',_,_,_,rfl⟩;rfl);rw [← a7] at ap;refine AT.call V a2 a3 a4 hw hb a5 ap ?_;rintro v bw ⟨⟨E',B',hle,a8,a9,rfl⟩,w,bb⟩;have e2:mk E' (Bc (S.set j []).flatten H) B'=mk E' H (B'++(S.set j []).flatten):=by unfold mk;rw [F5]
 have be:Nd E H (S.set j []).flatten:=by
  have:=am;rw [Nd.iff] at this ⊢;rw [List.map_append,List.nodup_append] at this;exact⟨this.1.2.1,λq bi=>this.2 q (List.mem_append_right _ bi)⟩
 have bn:Nd E' H (S.set j []).flatten:=be.grow λx U=>by
  have bo:=bb.d x U;have ag:Bc B' (Bc (S.set j []).flatten H) x=none:=bo;exact(HS ag).1
 have aq:Nd E' H (B'++(S.set j []).flatten):=Nd.glue a9 bn;have av:(B'++(S.set j []).flatten).Perm (S.set j B').flatten:=List.perm_append_comm.trans (EA ac).2.symm;have aw:As E' H (S.set j B'):=Nd.perm aq av;rw [e2,Fu aq av];refine⟨V,λx o U=>?_,a6 v E' B' hle a8 aw⟩;by_cases hd:D x=true
 ·obtain⟨O,o',Y⟩:=a0 x hd;have ay:j≠O:=λh=>by
   subst h;rw [List.getElem?_set_self (List.getElem?_eq_some_iff.1 ac).1] at Y;cases Y
  have az:S[O]? =some [(x,o')]:=by rw [List.getElem?_set_ne ay] at Y;exact Y
  have ag:(Al E H S).get x=some o':=Ei (i:=0) Z az V;have bv:(Al E' H (S.set j B')).get x=some o':=Ei (i:=0) aw (by rw [List.getElem?_set_ne ay];exact az) rfl;have K:(if D x then(Al E H S).get x else E x)=some o:=U
  show(if D x then(Al E' H (S.set j B')).get x else E' x)=some o
  rw [if_pos hd] at K ⊢;rw [bv,← ag];exact K
 ·have K:(if D x then(Al E H S).get x else E x)=some o:=U
  show(if D x then(Al E' H (S.set j B')).get x else E' x)=some o
  rw [if_neg hd] at K ⊢;exact hle _ _ K
theorem AT.perm{S':List Seg}(K:S.flatten.Perm S'.flatten)(O:As E H S)(h:As E H S'->AT J Q b n ds ops k cs m D fuel listed L (Al E H S')):AT J Q b n ds ops k cs m D fuel listed L (Al E H S):=by
 have e:Al E H S=Al E H S':=Fu O K;rw [e];exact h (Nd.perm O K)
theorem Yh{A B:Seg}(j:Nat)(K:S[j]? =some (A++B))(O:As E H S)(h:As E H (S.set j A++ [B])->AT J Q b n ds ops k cs m D fuel listed L (Al E H (S.set j A++ [B]))):AT J Q b n ds ops k cs m D fuel listed L (Al E H S):=by
 refine AT.perm ?_ O h;have U:=(EA (seg':=A) K).1;have Y:=(EA (seg':=A) K).2;rw [GX];refine U.trans ?_;have Z:=Y.symm.append_right B
 rwa [List.append_assoc] at Z
theorem JA.ghost:∀(fuel:Nat) {listed:Array Bool} {T:Av_} {s s₀:St},CF s s₀->JA J Q b ds ops k cs m Dl fuel listed T s₀->JA J Q b ds ops k cs m Dl fuel listed T s
 | 0,listed,T,s,s₀,g,h=>⟨h.1,J.ghost g h.2⟩
 | fuel+1,listed,T,s,s₀,g,h=>by
  rcases h with⟨O,U⟩ | ⟨O,U,ac⟩
  ·exact .inl ⟨O,λt=>J.ghost g (U t)⟩
  ·refine .inr ⟨O,by rw [← g.q];exact U,λi hi o ag=>?_⟩;obtain⟨a1,al,am⟩:=ac i hi o ag;refine⟨a1,λe=>JA.ghost fuel g (al e),λe=>?_⟩;have ap:=Xh _ (s:=BE Dl s) (s₀:=BE Dl s₀) g (am e);refine EH _ ap ?_ (λ_ s' ⟨_,_,h⟩=>h);intro aq s' K;obtain⟨Y,Z,K⟩:=K;cases aq with
   | value v=>exact JA.ghost fuel (s:=s') (s₀:=Y) Z K
   | skip=>exact JA.ghost fuel (s:=s') (s₀:=Y) Z K
   | enter f args=>
    obtain⟨R,av,aw⟩:=K;refine⟨R,λQ c cs ay=>J.ghost (s:=s') (s₀:=Y) Z (av Q c cs ay),λv az a0=>?_⟩;obtain⟨a2,a3,a4⟩:=aw v az a0;exact⟨a2,λx o K=>a3 x o (g.ext x o K),a4⟩
   | _=>exact K.elim
theorem Gm{α:Type}{pp:Rp α}{a:Option Addr}{c:Nat}{seg:Seg}{xs:List α}(j:Nat)(hg:OL e pp E a c seg xs)(K:As E H S)(O:S[j]? =some seg)
  (h:∀E',Le E E'->An pp E' a c xs->As E' H (S.set j [])->AT J Q b n ds ops k cs m Dl fuel listed L (Al E' H (S.set j []))):AT J Q b n ds ops k cs m Dl fuel listed L (Al E H S):=λT U=>by
 obtain⟨E',Y,Z,ac,ag⟩:=Vk j hg K O
 exact JA.ghost _ ag (h E' Y Z ac T U)
end
theorem oi{α:Type}{a b:α}(h:some a=some b):a=b:=Option.some.inj h
theorem bs{α β:Type}{o:Option α}{f:α->Option β}{r:β}(h:o.bind f=some r):∃x,o=some x/\f x=some r:=bind_some h
def Iw(L:Env):Env->List (Option Value)
 | []=> []
 | (t,_)::L'=>look L t::Iw L L'
def IA:Env->List (Option Value)
 | []=> []
 | (_,v)::L'=>some v::IA L'
theorem Oz{L:Env}:∀{L':Env},Iw L L'=IA L'->Sub L' L
 | [],_=>trivial
 | (t,v)::L',h=>by
  simp only [Iw,IA,List.cons.injEq] at h
  exact⟨h.1,Oz h.2⟩
variable {L':Env}{k':Li_}{rest:List Nat}
variable {op:Op}
section
variable {i:Nat}
theorem EW(L':Env)(h:Iw L L'=IA L')(k':JL J Q b n L' ds k cs s):JL J Q b n L ds k cs s:=ET (Oz h) k'
theorem AF(k':JL J Q b n L' ds k cs s)(h:Iw L L'=IA L'):JL J Q b n L ds k cs s:=ET (Oz h) k'
def FM(b:Frame)(n:Nat)(L:Env)(ops:Ao_)(i:Nat):Option Oper:=
 match JC ops.toList i with
 | some ⟨d,op,ty,p,af,g⟩=>match AY L ops ⟨d,op,ty,p,af,g⟩ with
  | some true=>match BY b n ⟨d,op,ty,p,af,g⟩ with
   | true=>some ⟨d,op,ty,p,af,g⟩
   | false=>none
  | _=>none
 | none=>none
theorem KD{o:Oper}(h:FM b n L ops i=some o):ops[i]? =some o/\AY L ops o=some true/\BY b n o=true:=by
 unfold FM at h;split at h
 ·rename_i K;rw [Lq,Array.getElem?_toList] at K;split at h
  ·rename_i hw;split at h
   ·rename_i O;cases h;exact⟨K,hw,O⟩
   ·cases h
  ·cases h
 ·cases h
theorem Aq(K:FM b n L ops i=some ⟨d,op,ty,p,af,g⟩)(h:∀ρ,Ff L ρ->Yl P ⟨d,op,ty,p,af,g⟩ ρ s v)(O:JL J Q b n (AB L d v) ds (.inRegion ops rest::k) cs s):
  JL J Q b n L ds (.inRegion ops (i::rest)::k) cs s:=
 let ⟨U,Y,Z⟩:=KD K
 Bf U Y Z h O
theorem Qu{f:FuncId}{fn:Func}{c:Code}{E:LH}{vs:Lv_}{B:Seg}{R:Value->LH->Seg->Prop}(O:P.funcs[f]? =some fn)(hb:fn.body=some c)(U:Nat.ble vs.length fn.ntmps=true)
  (h:∀(Q:Gs_) (K:Frame) (cs:Lf_) (H:LH),As E H [B]->(∀v E' S' B',Le E E'->S'.flatten=B'->R v E' B'->As E' H S'->J.ok Q (G (K.finish v) cs) (Al E' H S'))->JL J Q (base f) fn.ntmps (GG 0 vs) [] [.code c] (K::cs) (Al E H [B])):AP J f vs E B R:=
 AP.enter O hb (Nat.le_of_ble_eq_true U) h
def O1(n:Nat)(L:Env)(ops:Ao_)(i:Nat):Option Env:=
 match JC ops.toList i with
 | some ⟨d,op,ty,p,af,g⟩=>match AY L ops ⟨d,op,ty,p,af,g⟩ with
  | some true=>match Br n d with
   | true=>match KV L op with
    | some v=>match d with
     | some d=>some ((d,v)::L)
     | none=>some L
    | none=>none
   | false=>none
  | some false=>match Br n d with
   | true=>match d with
    | some d=>some ((d,undef)::L)
    | none=>some L
   | false=>none
  | none=>none
 | none=>none
def Hl(n:Nat)(L:Env)(ops:Ao_)(i:Nat):Option Oper:=
 match JC ops.toList i with
 | some ⟨d,op,ty,p,af,g⟩=>match AY L ops ⟨d,op,ty,p,af,g⟩ with
  | some true=>match Br n d with
   | true=>some ⟨d,op,ty,p,af,g⟩
   | false=>none
  | _=>none
 | none=>none
theorem PL{o:Oper}(h:Hl n L ops i=some o):ops[i]? =some o/\AY L ops o=some true/\Br n o.dst=true:=by
 unfold Hl at h;split at h
 ·rename_i K;rw [Lq,Array.getElem?_toList] at K;split at h
  ·rename_i hw;split at h
   ·rename_i O;cases h;exact⟨K,hw,O⟩
   ·cases h
  ·cases h
 ·cases h
theorem Xv(h:O1 n L ops i=some L'):∃o,ops[i]? =some o/\Br n o.dst=true/\((∃v,AY L ops o=some true/\KV L o.op=some v/\L'=AB L o.dst v)∨(AY L ops o=some false/\L'=AB L o.dst undef)):=by
 unfold O1 at h;split at h
 ·rename_i d op ty p af g O;rw [Lq,Array.getElem?_toList] at O;refine⟨_,O,?_⟩;split at h
  ·rename_i hw;split at h
   ·rename_i K;refine⟨K,.inl ?_⟩;split at h
    ·rename_i v U;refine⟨v,hw,U,?_⟩;cases d with
     | none=>cases h;rfl
     | some d=>cases h;rfl
    ·cases h
   ·cases h
  ·rename_i hw;split at h
   ·rename_i K;refine⟨K,.inr ⟨hw,?_⟩⟩;cases d with
    | none=>cases h;rfl
    | some d=>cases h;rfl
   ·cases h
  ·cases h
 ·cases h
variable {fuel:Nat}{listed:Array Bool}
theorem Ef(i:Nat)(K:EB ops m=true)(O:s.q=false)(h:O1 n L ops i=some L')
  (U:AT J Q b n ds ops k cs m D fuel (Bi listed i) L' s) (Y:GJ ops listed m i=true:=by decide+kernel):AT J Q b n ds ops k cs m D (fuel+1) listed L s:=by
 obtain⟨o,Z,ac,⟨v,hw,ag,rfl⟩ | ⟨hw,rfl⟩⟩:=Xv h
 ·exact JG.val i Z K Y O hw ac (λρ al s' _=>NT al ag) U
 ·exact cN i Z K Y O hw ac U
theorem A0(i:Nat)(K:EB ops m=true)(O:s.q=false)(U:Hl n L ops i=some ⟨d,op,ty,p,af,g⟩)
  (Y:∀ρ,Ff L ρ->∀s':St,(∀x o,(BE D s).E x=some o->s'.E x=some o)->Yl P ⟨d,op,ty,p,af,g⟩ ρ s' v)
  (Z:AT J Q b n ds ops k cs m D fuel (Bi listed i) (AB L d v) s) (ac:GJ ops listed m i=true:=by decide+kernel):AT J Q b n ds ops k cs m D (fuel+1) listed L s:=by
 obtain⟨ag,al,am⟩:=PL U;exact JG.val i ag K ac O al am Y Z
end
abbrev Jn(E H E':LH)(S:List Seg)(K L:Env)(s:St)(R:Prop):Prop:=L=K/\s=Al E' H S/\Le E E'/\As E' H S/\R
abbrev Jm(E H E':LH)(S:List Seg)(K L:Env)(s:St):Prop:=L=K/\s=Al E' H S/\Le E E'/\As E' H S
def OR(L:Env):List ResultVar->Option (Lv_)
 | []=>some []
 | .tmp t::rs=>match look L t with
  | some v=>match OR L rs with
   | some vs=>some (v::vs)
   | none=>none
  | none=>none
 | _=>none
theorem Ti{P:Program}{L:Env}{s:St}:∀{rs:List ResultVar} {vs:Lv_},OR L rs=some vs->RV P L s rs vs
 | [],vs,h=>by cases h;trivial
 | .tmp t::rs,vs,h=>by
  unfold OR at h
  split at h
  ·rename_i v K
   split at h
   ·rename_i ws hw;cases h;exact⟨K,Ti hw⟩
   ·cases h
  ·cases h
 | .cell _ _::_,_,h=>by cases h
variable {ft:TypeId}
section
variable {i:Nat}
variable {x y:Operand}{e:TypeId}
theorem AL{c:Frame}{fn:Func}{vs:Lv_}(O:P.funcs[b.fn]? =some fn)(K:(b.kind== .normal&&b.roundOf.isNone)=true)(U:OR L fn.results.toList=some vs)(h:J.ok Q (G (c.finish (N5 vs)) cs) s):JL J Q b n L [] (.code .ret::k) (c::cs) s:=by
 simp only [Bool.and_eq_true,beq_iff_eq,Option.isNone_iff_eq_none] at K;exact JL.ret K.1 K.2 (BH.list O V (Ti U)) h
theorem BT{f:FuncId}{args:Array Operand}{ats:Array TypeId}{vs:Lv_}{R:Value->LH->Seg->Prop}
  (O:AP J f vs E [] R) (U:FM b n L ops i=some ⟨d,.call ⟨.value (.func f),args,ats⟩,ty,p,af,g⟩) (Y:evs L args.toList=some vs) (hb:Em P f=true)
  (Z:As E H S) (ac:∀v E' seg',Le E E'->R v E' seg'->As E' H (S++ [seg'])->JL J Q b n (AB L d v) ds (.inRegion ops rest::k) cs (Al E' H (S++ [seg']))):
  JL J Q b n L ds (.inRegion ops (i::rest)::k) cs (Al E H S):=by
 obtain⟨ag,al,K⟩:=KD U;refine JS.call O ag al ?_ hb Y Z ac;simp only [BY,Bool.and_eq_true] at K ⊢;exact⟨K.1,K.2.1⟩
theorem Ck{f:FuncId}{args:Array Operand}{ats:Array TypeId}{vs:Lv_}{v:Value}
  (O:AP J f vs E [] (λw E' B'=>w=v/\B'= [])) (U:FM b n L ops i=some ⟨d,.call ⟨.value (.func f),args,ats⟩,ty,p,af,g⟩) (Y:evs L args.toList=some vs) (hb:Em P f=true)
  (K:As E H S) (Z:∀E',Le E E'->As E' H (S++ [[]])->JL J Q b n (AB L d v) ds (.inRegion ops rest::k) cs (Al E' H (S++ [[]]))):
  JL J Q b n L ds (.inRegion ops (i::rest)::k) cs (Al E H S):=BT O U Y hb K (by rintro _ E' _ hle ⟨rfl,rfl⟩ K;exact Z E' hle K)
theorem CG{f:FuncId}{args:Array Operand}{ats:Array TypeId}{vs:Lv_}{seg:Seg}{R:Value->LH->Seg->Prop}(j:Nat)
  (O:AP J f vs E seg R) (U:FM b n L ops i=some ⟨d,.call ⟨.value (.func f),args,ats⟩,ty,p,af,g⟩) (Y:evs L args.toList=some vs) (hb:Em P f=true)
  (Z:As E H S) (ac:S[j]? =some seg) (ag:∀v E' seg',Le E E'->R v E' seg'->As E' H (S.set j seg')->JL J Q b n (AB L d v) ds (.inRegion ops rest::k) cs (Al E' H (S.set j seg'))):
  JL J Q b n L ds (.inRegion ops (i::rest)::k) cs (Al E H S):=by
 obtain⟨al,am,K⟩:=KD U;refine SC j O al am ?_ hb Y Z ac ag;simp only [BY,Bool.and_eq_true] at K ⊢;exact⟨K.1,K.2.1⟩
def MC(K:Array Field)(i:Nat):Option (Nat×TypeId):=match K[i]? with
 | some f=>some (f.offset,f.type)
 | none=>none
theorem Bn{r m m':Int}{u:TypeId}(h:Aw (m+m')=some r)(K:FM b n L ops i=some ⟨d,.binOp .add t x y u,ty,p,af,g⟩)(O:ev L x=some (iV m))(U:ev L y=some (iV m'))
  (Y:JL J Q b n (AB L d (iV r)) ds (.inRegion ops rest::k) cs s):JL J Q b n L ds (.inRegion ops (i::rest)::k) cs s:=Aq K (λ_ q=>FJ (q _ _ O) (q _ _ U) h) Y
theorem Cm{r m m':Int}{u:TypeId}(h:Aw (m - m')=some r)(K:FM b n L ops i=some ⟨d,.binOp .sub t x y u,ty,p,af,g⟩)(O:ev L x=some (iV m))(U:ev L y=some (iV m'))
  (Y:JL J Q b n (AB L d (iV r)) ds (.inRegion ops rest::k) cs s):JL J Q b n L ds (.inRegion ops (i::rest)::k) cs s:=Aq K (λ_ q=>Ds (q _ _ O) (q _ _ U) h) Y
theorem JL.ln{a:Option Addr}{e:TypeId}{l c:Nat}{ats:Array TypeId}(ht:P.underlying t=some (.slice e))(K:FM b n L ops i=some ⟨d,.call ⟨.builtin .len,#[x],ats⟩,ty,p,af,g⟩)(O:ats[0]? =some t)(U:ev L x=some (.slice a l c))
  (Y:JL J Q b n (AB L d (.int .i64 l)) ds (.inRegion ops rest::k) cs s):JL J Q b n L ds (.inRegion ops (i::rest)::k) cs s:=Aq K (λ_ q=>Yl.len O ht (q _ _ U)) Y
theorem JL.fd{bk o O off:Nat}{U:Array Field}{Y:Nat}(ht:P.underlying t=some (.struct U))(Z:Bv P ft=some (O+1))(ac:FM b n L ops i=some ⟨d,.fieldAddr t x Y,ty,p,af,g⟩)(ag:ev L x=some (.pointer (some ⟨bk,o,none⟩)))(K:MC U Y=some (off,ft))
  (al:JL J Q b n (AB L d (.pointer (some ⟨bk,o+off,none⟩))) ds (.inRegion ops rest::k) cs s):
  JL J Q b n L ds (.inRegion ops (i::rest)::k) cs s:=by
 unfold MC at K;split at K
 ·rename_i f am;cases K;refine Aq ac (λρ h=>Gp (a:=⟨bk,o,none⟩) O f.offset ht Z am V V (h _ _ ag)) ?_;rw [El rfl];exact al
 ·cases K
theorem CI{bk o:Nat}{ws:Lv_}(j:Nat)(K:At E bk o ws)(ht:Dc P t=some false)(O:FM b n L ops i=some ⟨d,.load t x,ty,p,af,g⟩)(U:ev L x=some (.pointer (some ⟨bk,o+j,none⟩)))(Y:ws[j]? =some v)
  (Z:JL J Q b n (AB L d v) ds (.inRegion ops rest::k) cs (Al E H S)):
  JL J Q b n L ds (.inRegion ops (i::rest)::k) cs (Al E H S):=
 Aq O (λ_ h=>Yl.load ht (h _ _ U) (At.LV K Y)) Z
theorem bY{bk off:Nat}{c:Av_}(j:Nat)(K:As E H S)(O:Bv P t=some v.cells.size)(U:FM b n L ops i=some ⟨d,.store t x y,ty,p,af,g⟩)
  (Y:ev L x=some (.pointer (some ⟨bk,off,none⟩))) (Z:ev L y=some v) (ac:S[j]? =some [(bk,.cells c e (0,0))])
  (h:As E H (S.set j [(bk,.cells (Be c off v.cells.toList) e (0,0))])->JL J Q b n (AB L d undef) ds (.inRegion ops rest::k) cs (Al E H (S.set j [(bk,.cells (Be c off v.cells.toList) e (0,0))])))
  (hle:off+v.cells.size<=c.size:=by exact Nat.le_of_ble_eq_true rfl) (ag:∀u∈v.cells.toList,Dv u=true:=by simp [Value.cells,Dv]):
  JL J Q b n L ds (.inRegion ops (i::rest)::k) cs (Al E H S):=by
 obtain⟨al,am,ap⟩:=KD U;exact JS.store j al am ap K Y Z O ag ac hle h
theorem B3{bk o:Nat}{ws:Lv_}(K:At E bk o ws)(ht:Dc P t=some true)(O:Bv P t=some ws.length)(U:FM b n L ops i=some ⟨d,.load t x,ty,p,af,g⟩)(Y:ev L x=some (.pointer (some ⟨bk,o,none⟩)))
  (Z:JL J Q b n (AB L d (.agg ws.toArray)) ds (.inRegion ops rest::k) cs (Al E H S)):
  JL J Q b n L ds (.inRegion ops (i::rest)::k) cs (Al E H S):=
 Aq U (λ_ h=>FR ht O (h _ _ Y) (At.QC K)) Z
variable {fuel:Nat}{listed:Array Bool}
theorem JG.fd{bk o O off:Nat}{U:Array Field}{Y:Nat}(i:Nat)(Z:EB ops m=true)(ht:P.underlying t=some (.struct U))(ac:Bv P ft=some (O+1))(ag:s.q=false)(al:Hl n L ops i=some ⟨d,.fieldAddr t x Y,ty,p,af,g⟩)(am:ev L x=some (.pointer (some ⟨bk,o,none⟩)))(K:MC U Y=some (off,ft))
  (ap:AT J Q b n ds ops k cs m D fuel (Bi listed i) (AB L d (.pointer (some ⟨bk,o+off,none⟩))) s) (aq:GJ ops listed m i=true:=by decide+kernel):AT J Q b n ds ops k cs m D (fuel+1) listed L s:=by
 unfold MC at K;split at K
 ·rename_i f av;cases K;refine A0 i Z ag al (λρ h _ _=>Gp (a:=⟨bk,o,none⟩) O f.offset ht ac av V V (h _ _ am)) ?_ aq;rw [El rfl];exact ap
 ·cases K
theorem Dk{bk o:Nat}{ws:Lv_}(i:Nat)(K:EB ops m=true)(j:Nat)(O:At (BE D s).E bk o ws)(ht:Dc P t=some false)(U:s.q=false)(Y:Hl n L ops i=some ⟨d,.load t x,ty,p,af,g⟩)(Z:ev L x=some (.pointer (some ⟨bk,o+j,none⟩)))(ac:ws[j]? =some v)
  (ag:AT J Q b n ds ops k cs m D fuel (Bi listed i) (AB L d v) s) (al:GJ ops listed m i=true:=by decide+kernel):AT J Q b n ds ops k cs m D (fuel+1) listed L s:=
 A0 i K U Y (λ_ h _ hs=>Yl.load ht (h _ _ Z) (At.Jy O hs ac)) ag al
theorem Fv{bk o:Nat}{ws:Lv_}(i:Nat)(K:EB ops m=true)(O:At (BE D s).E bk o ws)(ht:Dc P t=some true)(U:Bv P t=some ws.length)(Y:s.q=false)(Z:Hl n L ops i=some ⟨d,.load t x,ty,p,af,g⟩)(ac:ev L x=some (.pointer (some ⟨bk,o,none⟩)))
  (ag:AT J Q b n ds ops k cs m D fuel (Bi listed i) (AB L d (.agg ws.toArray)) s) (al:GJ ops listed m i=true:=by decide+kernel):AT J Q b n ds ops k cs m D (fuel+1) listed L s:=
 A0 i K Y Z (λ_ h _ hs=>FR ht U (h _ _ ac) (At.bA O hs)) ag al
end
abbrev Q7:=Int×List Int×Nat
abbrev AD:=List (Int×Int)
abbrev Cv:=List Int×Int×Nat
abbrev Ap:=Option Addr
abbrev BX:Rp (Int×Int):=rP rI rI
theorem ip{α:Type}{p:Prop} [Decidable p] {A B:Option α}{r:α}(h:(if p then A else B)=some r)(c:p):A=some r:=by rwa [if_pos c] at h
theorem im{α:Type}{p:Prop} [Decidable p] {A B:Option α}{r:α}(h:(if p then A else B)=some r)(c:¬p):B=some r:=by rwa [if_neg c] at h
theorem ib{α:Type}{c:Bool}{A B:Option α}{r:α}(h:(if c=true then A else B)=some r)(K:c=false):B=some r:=by subst K;simpa using h
def Q0(n:Nat)(ops:Ao_):List Nat->Nat->Env->Option (Nat×Env)
 | [],f,L=>some (f,L)
 | i::l,f+1,L=>match O1 n L ops i with
  | some L'=>Q0 n ops l f L'
  | none=>none
 | _::_,0,_=>none
def QO(ops:Ao_)(m:Nat):Array Bool->List Nat->Bool
 | _,[]=>true
 | listed,i::l=>GJ ops listed m i&&QO ops m (Bi listed i) l
def UG:Array Bool->List Nat->Array Bool
 | listed,[]=>listed
 | listed,i::l=>UG (Bi listed i) l
theorem A1{P:Program}{J:Judge P}{Q:Gs_}{b:Frame}{n:Nat}{ds:Ld_}{k:Li_}{cs:Lf_}{s:St}{ops:Ao_}{m:Nat}{D:Nat->Bool}{L':Env}{U:Nat}(Y:EB ops m=true)(Z:s.q=false):
  ∀(l:List Nat) {fuel:Nat} {listed:Array Bool} {L:Env},Q0 n ops l fuel L=some (U,L')->AT J Q b n ds ops k cs m D U (UG listed l) L' s->(K:QO ops m listed l=true:=by decide+kernel)->AT J Q b n ds ops k cs m D fuel listed L s
 | [],fuel,listed,L,h,O,_=>by cases h;exact O
 | i::l,fuel,listed,L,h,O,K=>by
  cases fuel with
  | zero=>cases h
  | succ fuel=>
   unfold QO at K;rw [Bool.and_eq_true] at K;unfold Q0 at h;split at h
   ·rename_i ac e;exact Ef i Y Z e (A1 Y Z l h O K.2) K.1
   ·cases h
theorem zg{P:Program}{J:Judge P}{Q:Gs_}{b:Frame}{n:Nat}{L L':Env}{ds:Ld_}{k k':Li_}{cs:Lf_}{s:St}(m:Nat)(h:Ox b n m k L=some (k',L'))(K:JL J Q b n L' ds k' cs s):JL J Q b n L ds k cs s:=JL.go m h K
abbrev C:=@zg
abbrev bX(r:Nat)(c:Av_)(t:TypeId):Seg:= [(r,.cells c t (0,0))]
variable {α:Type}{A B:Option α}{r:α}
section
theorem AN{c:Operand}{x y:Code}{p:Prop} [Decidable p] (K:(if p then A else B)=some r)(O:p->A=some r->JL J Q b n L ds (.code x::k) cs s)(U:¬p->B=some r->JL J Q b n L ds (.code y::k) cs s)
  (Y:ev L c=some (.bool (decide p)):=by exact rfl):JL J Q b n L ds (.code (.cond c x y)::k) cs s:=GF Y (λh=>O h (ip K h)) λh=>U h (im K h)
theorem Cc{c:Operand}{x y:Code}{t:Bool}(K:(if t=true then A else B)=some r)(O:t=true->A=some r->JL J Q b n L ds (.code x::k) cs s)(U:t=false->B=some r->JL J Q b n L ds (.code y::k) cs s)
  (Y:ev L c=some (.bool t):=by exact rfl):JL J Q b n L ds (.code (.cond c x y)::k) cs s:=PT Y (λh=>O h (ip K h)) λh=>U h (ib K h)
theorem FV{q:Prop} [Decidable q] (i:Nat)(K:(if q then A else B)=some r)(O:q->A=some r->JL J Q b n (AB L (some i) (.bool true)) ds k cs s)(U:¬q->B=some r->JL J Q b n (AB L (some i) (.bool false)) ds k cs s)
  (Y:look L i=some (.bool (decide q)):=by exact rfl):JL J Q b n L ds k cs s:=Ml Y (λh=>O h (ip K h)) λh=>U h (im K h)
theorem EV{t:Bool}(i:Nat)(K:(if t=true then A else B)=some r)(O:t=true->A=some r->JL J Q b n (AB L (some i) (.bool true)) ds k cs s)(U:t=false->B=some r->JL J Q b n (AB L (some i) (.bool false)) ds k cs s)
  (Y:look L i=some (.bool t):=by exact rfl):JL J Q b n L ds k cs s:=KB Y (λh=>O h (ip K h)) λh=>U h (ib K h)
theorem Cy{K O:Type}{c:Code}{body:K->Option (Bo K O)}{f:Nat}{U:K}{a:O}(Z:iter body f U=some a)(I:Env->St->K->Prop)(ac:I L' s U)
  (round:∀L s x,I L s x->(∀Y,body x=some (.done Y)->Y=a)->(∃st,body x=some st)->(∀L' s' x',I L' s' x'->body x=some (.more x')->JL J Q b n L' ds (.inLoop c::k) cs s')->JL J Q b n L ds (.code c:: .inLoop c::k) cs s)
  (ag:Iw L L'=IA L':=by exact rfl):JL J Q b n L ds (.code (.loop c)::k) cs s:=EW L' ag (SO Z I ac round)
variable {fuel:Nat}{listed:Array Bool}
def OH(ops:Ao_):Array Bool->List Nat->Bool
 | _,[]=>true
 | l,i::t=>Region.ready .any ops l== [i]&&OH ops (Bi l i) t
theorem S3:∀{t:List Nat} {l:Array Bool},OH ops l t=true->∀u,Region.linearise.go .any ops t.length u l []=t
 | [],_,_,_=>rfl
 | i::t,l,h,u=>by
  unfold OH at h
  rw [Bool.and_eq_true,beq_iff_eq] at h
  exact ZZ h.1 (S3 h.2) u
theorem Cl(t:List Nat)(O:JL J Q b n L ds (.inRegion ops t::k) cs s)(K:(QS m listed&&OH ops listed t&&(fuel+1==t.length))=true:=by decide+kernel):AT J Q b n ds ops k cs m D (fuel+1) listed L s:=by
 rw [Bool.and_eq_true,Bool.and_eq_true,beq_iff_eq] at K;exact AT.leaf K.1.1 (by rw [K.2];exact S3 K.1.2) O
theorem DD(m:Nat){id:Nat}(h:EB ops m=true->AT J Q b n ds ops k cs m Dl ops.size (Array.replicate ops.size false) L (Al E H S))(hm:P.follows .mixedOrders=true:=by exact rfl)(K:(b.kind != .early)=true:=by exact rfl)(ht:EB ops m=true:=by decide+kernel):
  JL J Q b n L ds (.code (.region id ops true)::k) cs (Al E H S):=Yj m hm K ht h
theorem Fq(m:Nat)(bks:List Nat){id:Nat}(K:HD S bks)(O:As E H S)(h:EB ops m=true->AT J Q b n ds ops k cs m (AO bks) ops.size (Array.replicate ops.size false) L (Al E H S))(hm:P.follows .mixedOrders=true:=by exact rfl)(U:(b.kind != .early)=true:=by exact rfl)(ht:EB ops m=true:=by decide+kernel):
  JL J Q b n L ds (.code (.region id ops true)::k) cs (Al E H S):=XP m bks K O hm U ht h
theorem CP{α:Type}{pp:Rp α}{a:Option Addr}{c:Nat}{xs:List α}{xv:α}{K:Int}{d:Option Tmp}{x y:Operand}{t ty e:TypeId}{p:String}{af:Ae_}{g:On_}{kd:IntKind}(i:Nat)(O:An pp E a c xs)(U:ix xs K=some xv)(Y:EB ops m=true)(ht:P.underlying t=some (.slice e))(Z:Bv P e=some pp.n)
  (h:∀bk o ws,pp.r E ws xv->At E bk o ws->AT J Q b n ds ops k cs m D fuel (Bi listed i) (AB L d (.pointer (some ⟨bk,o,none⟩))) s)
  (ac:ops[i]? =some ⟨d,.indexAddr t x y,ty,p,af,g⟩:=by exact rfl) (ag:GJ ops listed m i=true:=by decide+kernel) (al:s.q=false:=by exact rfl)
  (hw:AY L ops ⟨d,.indexAddr t x y,ty,p,af,g⟩=some true:=by exact rfl) (am:Br n d=true:=by exact rfl)
  (ap:ev L x=some (.slice a xs.length c):=by exact rfl) (aq:ev L y=some (.int kd K):=by exact rfl):
  AT J Q b n ds ops k cs m D (fuel+1) listed L s:=bu i O U ac Y ag al hw am ap aq ht Z h
end
theorem EU{P:Program}{J:Judge P}{Q:Gs_}{b:Frame}{n:Nat}{ds:Ld_}{ops:Ao_}{k:Li_}{cs:Lf_}{m fuel:Nat}{D:Nat->Bool}{listed:Array Bool}{L L':Env}{s:St}(k':AT J Q b n ds ops k cs m D fuel listed L' s)(h:Iw L L'=IA L'):AT J Q b n ds ops k cs m D fuel listed L s:=Ek (Oz h) k'
instance {α:Type} [DecidableEq α] (xs:List α):Decidable (xs= []):=inferInstance
variable {w:Value}
section
variable {i:Nat}
variable {x y:Operand}{e:TypeId}
end
section
variable {fuel:Nat}{listed:Array Bool}
variable {x y:Operand}{e:TypeId}{i:Nat}
theorem Take.LR{α:Type}{pp:Rp α}(O:As E H S)(U:ops[i]? =some ⟨d,.buildSlice t 0 #[],ty,p,af,g⟩)(hw:AY L ops ⟨d,.buildSlice t 0 #[],ty,p,af,g⟩=some true)(Y:Br n d=true)
  (ht:P.underlying t=some (.slice e)) (Z:Bv P e=some pp.n)
  (h:∀r seg,OL e pp E (some ⟨r,0,none⟩) 0 seg ([]:List α)->As E H (S++ [seg])->AT J Q b n ds ops k cs m Dl fuel (Bi listed i) (AB L d (.slice (some ⟨r,0,none⟩) 0 0)) (Al E H (S++ [seg]))):
  Take J Q b n ds ops k cs m Dl fuel listed L (Al E H S) i:=
 Take.K1 U (by simp [Eg,Y]) hw λρ ag=>by
  rw [Pz]
  refine Az _ _ ?_
  unfold Instr.buildSlice
  refine Az _ _ (Cx ht ?_)
  refine Az _ _ (Fb Z ?_)
  rw [if_neg (by omega),if_pos (by omega)]
  refine Az (x:=pure #[]) _ ?_
  simp only [lp,pure,List.map_toArray,List.map_nil,Instr.fill]
  refine Az _ _ (Ip O λr K=>?_)
  rw [(Fo K).1]
  exact h r _ ⟨[],.inr ⟨r,_,rfl,rfl,by simp,Nat.le_refl _,by simp⟩,rfl,λi x ws ac=>by simp at ac⟩ (Fo K).2
theorem Take.I4{α:Type}{pp:Rp α}{t1:TypeId}{U c cx:Nat}{a ax:Option Addr}{seg:Seg}{xs ys Y:List α}{ats:Array TypeId}{z:Value}(j:Nat)(ac:As E H S)(ag:Cz xs ys=some Y)
  (al:ops[i]? =some ⟨d,.call ⟨.builtin .append,#[x,y],ats⟩,ty,p,af,g⟩) (hw:AY L ops ⟨d,.call ⟨.builtin .append,#[x,y],ats⟩,ty,p,af,g⟩=some true) (am:Br n d=true)
  (ap:ev L x=some (.slice a xs.length c)) (aq:ev L y=some (.slice ax ys.length cx)) (av:ats[0]? =some t) (aw:ats[1]? =some t1) (ht:P.underlying t=some (.slice e)) (ay:P.underlying t1=some (.slice e)) (az:Bv P e=some pp.n) (hb:F0 P e=some U) (a0:zeroOf P e=some z) (a1:z.cells.size=pp.n)
  (a2:0<U) (a3:U<=64) (hg:OL e pp E a c seg xs) (a4:An pp E ax cx ys) (a5:S[j]? =some seg)
  (h:∀K O g seg',OL e pp E K O seg' Y->As E H (S.set j (g++seg'))->AT J Q b n ds ops k cs m Dl fuel (Bi listed i) (AB L d (.slice K Y.length O)) (Al E H (S.set j (g++seg')))):
  Take J Q b n ds ops k cs m Dl fuel listed L (Al E H S) i:=
 Take.K1 al (by simp [Eg,am]) hw λρ Z=>Tr j ag (Z _ _ ap) (Z _ _ aq) av aw ht ay az hb a0 a1 a2 a3 hg (by
  obtain⟨a6,a7,a8,a9,_⟩:=a4.Ls (H:=H) (B:=S.flatten)
  exact⟨a6,a9,a7,a8⟩) ac a5 λK O bb seg' be bi=>h K O bb seg' be bi
theorem Mt{s:St}{D:Nat->Bool}{i j l:Nat}(K:s.q=false)(O:Region.ready .any ops listed= [i,j,l])(hi:Take J Q b n ds ops k cs m D fuel listed L s i)(U:Take J Q b n ds ops k cs m D fuel listed L s j)(Y:Take J Q b n ds ops k cs m D fuel listed L s l):AT J Q b n ds ops k cs m D (fuel+1) listed L s:=
 Pu K O (by simp) (by intro q K;simp at K;rcases K with rfl | rfl | rfl <;> assumption)
end
theorem An.cut{α:Type}{pp:Rp α}{E:LH}{a:Option Addr}{c:Nat}{xs ys:List α}{lo hi:Int}(Y:An pp E a c xs)(hC:Fy xs lo hi=some ys):
  ∃Z ac,An pp E Z ac ys/\∀{P:Program} {ρ:Operand->Value} {s:St} {d:Option Tmp} {x:Operand} {t ty e:TypeId} {p:String} {af:Ae_} {g:On_} {olo ohi:Option Operand},P.underlying t=some (.slice e)->Bv P e=some pp.n->ρ x= .slice a xs.length c->
   (match ohi with | some w=>ρ w=iV hi | none=>hi=xs.length)->(match olo with | some w=>ρ w=iV lo | none=>lo=0)->Yl P ⟨d,.slice t x olo ohi none,ty,p,af,g⟩ ρ s (.slice Z ys.length ac):=by
 unfold Fy at hC;split at hC
 rotate_left
 ·cases hC
 rename_i hb;obtain⟨a0,a1,ap⟩:=hb;cases hC;obtain⟨lo,rfl⟩:∃l:Nat,lo=l:=⟨lo.toNat,by omega⟩;obtain⟨hi,rfl⟩:∃l:Nat,hi=l:=⟨hi.toNat,by omega⟩;simp only [Int.toNat_natCast] at*;have a2:=Y.1;have hlen:((xs.take hi).drop lo).length=hi - lo:=by simp;omega
 have ag:∀ad:Addr,a=some ad->ad.spot=none∨c=0:=λad K=>by
  rcases Y.2 with⟨_,h⟩ | ⟨bk,off,h,_⟩
  ·exact h ad K
  ·rw [h] at K;cases K;exact .inl V
 refine⟨if c=lo then a else a.map (·.add (lo*pp.n)),c - lo,⟨by rw [hlen];omega,?_⟩,?_⟩
 ·by_cases aq:hi - lo=0
  ·left;refine⟨List.eq_nil_of_length_eq_zero (by rw [hlen];exact aq),λad K=>?_⟩;split at K
   ·exact(ag ad K).imp id λh=>by omega
   ·cases a with
    | none=>cases K
    | some av=>
     simp only [Option.map_some,Option.some.injEq] at K;subst K;exact .inl (by rw [El ((ag av rfl).resolve_right (by omega))])
  ·right;rcases Y.2 with⟨h,_⟩ | ⟨bk,off,rfl,O⟩
   ·subst h;simp at ap;omega
   ·refine⟨bk,off+lo*pp.n,?_,λq z U=>?_⟩
    ·rw [if_neg (by omega),Option.map_some,El rfl]
    ·rw [List.getElem?_drop,List.getElem?_take] at U;split at U
     ·obtain⟨ws,aw,al⟩:=O _ z U;refine⟨ws,aw,?_⟩;rw [Nat.add_mul] at al;rw [Nat.add_assoc];exact al
     ·cases U
 ·intro P ρ s d x t ty e p af g olo ohi ht ay az O am;rw [hlen];refine Yl.slice (mx:=c) (hi:=hi) (lo:=lo) ht ay az V ?_ ?_ (Nat.le_refl _) (by omega) (by omega)
  ·cases ohi with
   | none=>exact⟨by simp only at O;omega,rfl⟩
   | some w=>exact O
  ·cases olo with
   | none=>simp only at am;show lo=0;omega
   | some w=>exact am
section
variable {fuel:Nat}{listed:Array Bool}
theorem HU{S1 S':List Seg}(K:S=S1)(O:S1.Perm S')(U:As E H S)(h:As E H S'->AT J Q b n ds ops k cs m D fuel listed L (Al E H S')):AT J Q b n ds ops k cs m D fuel listed L (Al E H S):=by
 subst K;exact AT.perm O.flatten U h
end
variable {e2:TypeId}
section
variable {i:Nat}
variable {x y:Operand}{e:TypeId}
def Ki(E:LH):Nat->Bool:=λx=>(E x).isNone
theorem aS(x:Nat):(BE (Ki E) (Al E H S)).E x=(Al E H S).get x:=by
 show(if Ki E x then(Al E H S).get x else E x)=_
 unfold Ki;cases h:E x with
 | none=>simp
 | some o=>
  rw [if_neg (by simp)];unfold St.get;rw [show(Al E H S).E x=some o from h]
theorem Q1{s':St}(hs:∀x o,(BE (Ki E) (Al E H S)).E x=some o->s'.E x=some o){x:Nat}{o:Obj}(h:(Al E H S).get x=some o):s'.get x=some o:=by
 have:=hs x o (by rw [aS];exact h);unfold St.get;rw [this]
theorem MI{s':St}(hs:∀x o,(BE (Ki E) (Al E H S)).E x=some o->s'.E x=some o){a:Addr}{v:Value}(h:(Al E H S).cell? a=some v):s'.cell? a=some v:=by
 obtain⟨o,K,O⟩:=Option.bind_eq_some_iff.1 h;unfold St.cell?;rw [Q1 hs K];exact O
theorem TW{s':St}(hs:∀x o,(BE (Ki E) (Al E H S)).E x=some o->s'.E x=some o){a:Addr}{vs:Lv_}(h:∀(i:Nat) v,vs[i]? =some v->(Al E H S).cell? (Addr.add a i)=some v):∀(i:Nat) v,vs[i]? =some v->s'.cell? (Addr.add a i)=some v:=λi v K=>MI hs (h i v K)
theorem QH(m:Nat){id:Nat}(h:EB ops m=true->AT J Q b n ds ops k cs m (Ki E) ops.size (Array.replicate ops.size false) L (Al E H S))(hm:P.follows .mixedOrders=true:=by exact rfl)(K:(b.kind != .early)=true:=by exact rfl)(ht:EB ops m=true:=by decide+kernel):
  JL J Q b n L ds (.code (.region id ops true)::k) cs (Al E H S):=PW m (Ki E) V hm K (h ht)
abbrev rs(q:Nat×Obj)(K:Seg)(p:Nat×Obj)(g2:Seg):Seg:=q::(K++ [p]++g2)
end
variable {bk:Nat}{o:Obj}{xs:List (κ×ν)}{v0:ν}
variable {kk:Li_}
variable {z:Operand}{x0:κ}
section
variable [DecidableEq κ]
def KN(xs:List (κ×ν)):Prop:=(xs.map (·.1)).Nodup
theorem KN.perm{xs ys:List (κ×ν)}(h:KN xs)(p:ys.Perm xs):KN ys:=((p.map (λq:κ×ν=>q.1)).nodup_iff).2 h
theorem SS{xs:List (κ×ν)}(h:KN xs){x:κ}{v:ν}:BU xs x=some v↔(x,v)∈xs:=by
 induction xs with
 | nil=>simp [BU]
 | cons y ys U=>
  have O:y.1 ∉ ys.map (·.1)/\KN ys:=by simpa [KN] using h
  by_cases e:x=y.1
  ·subst e;have K:BU (y::ys) y.1=some y.2:=by simp [BU]
   rw [K];constructor
   ·intro q;cases q;simp
   ·intro q;rcases List.mem_cons.1 q with q | q
    ·rw [← q]
    ·exact absurd (List.mem_map.2 ⟨_,q,V⟩) O.1
  ·have K:BU (y::ys) x=BU ys x:=by simp [BU,e]
   rw [K,U O.2];constructor
   ·intro q;exact List.mem_cons_of_mem _ q
   ·intro q;rcases List.mem_cons.1 q with q | q
    ·exact absurd (by rw [← q]) e
    ·exact q
theorem RR{xs ys:List (κ×ν)}(h:KN xs)(p:ys.Perm xs)(x:κ):BU ys x=BU xs x:=by
 apply Option.ext;intro v;rw [SS h,SS (h.perm p),p.mem_iff]
def EJ(xs:List (κ×ν))(x:κ):List (κ×ν):=xs.filter λy=>decide (x≠y.1)
theorem Sa{xs:List (κ×ν)}{x:κ}(h:∀y∈xs,x≠y.1):EJ xs x=xs:=List.filter_eq_self.2 λy K=>by simpa using h y K
theorem Nm{x:κ}{v:ν}:∀{xs:List (κ×ν)},KN xs->(DX xs x v).Perm ((x,v)::EJ xs x)
 | [],_=> .refl _
 | y::ys,h=>by
  have K:y.1 ∉ ys.map (·.1)/\KN ys:=by simpa [KN] using h
  unfold DX;by_cases e:x=y.1
  ·rw [if_pos e];have e2:EJ (y::ys) x=ys:=by
    have:EJ (y::ys) x=EJ ys x:=by simp [EJ,e]
    rw [this];exact Sa λz O q=>K.1 (List.mem_map.2 ⟨z,O,by rw [← q,e]⟩)
   rw [e2]
  ·rw [if_neg e];have e2:EJ (y::ys) x=y::EJ ys x:=by simp [EJ,e]
   rw [e2];exact((Nm K.2).cons y).trans (List.Perm.swap _ _ _)
theorem PF{xs ys:List (κ×ν)}(p:ys.Perm xs)(x:κ):(EJ ys x).Perm (EJ xs x):=p.filter _
theorem VJ{xs ys:List (κ×ν)}(h:KN xs)(p:ys.Perm xs)(x:κ)(v:ν):(DX ys x v).Perm (DX xs x v):=
 (Nm (h.perm p)).trans (((PF p x).cons _).trans (Nm h).symm)
theorem KN.del{xs:List (κ×ν)}(h:KN xs)(x:κ):KN (EJ xs x):=by
 unfold KN EJ;exact List.Nodup.sublist (List.Sublist.map _ List.filter_sublist) h
theorem KN.put{xs:List (κ×ν)}(h:KN xs)(x:κ)(v:ν):KN (DX xs x v):=by
 refine KN.perm ?_ (Nm h);unfold KN;simp only [List.map_cons,List.nodup_cons];refine⟨λq=>?_,h.del x⟩;obtain⟨z,K,e⟩:=List.mem_map.1 q;have:=(List.mem_filter.1 K).2;simp at this;exact this e.symm
def BR(pk:Rp κ)(ka:Bool)(pv:Rp ν)(va:Bool)(E:LH)(o:Obj)(xs:List (κ×ν)):Prop:=KN xs/\∃ys,ys.Perm xs/\KZ pk ka pv va E o ys
theorem BR.M{o:Obj}{xs:List (κ×ν)}(h:BR pk ka pv va E o xs)(hle:Le E E'):BR pk ka pv va E' o xs:=
 let ⟨K,ys,O,U⟩:=h;⟨K,ys,O,U.M hle⟩
theorem BR.perm{o:Obj}{xs ys:List (κ×ν)}(h:BR pk ka pv va E o xs)(p:ys.Perm xs):BR pk ka pv va E o ys:=
 let ⟨K,O,U,Y⟩:=h;⟨K.perm p,O,U.trans p.symm,Y⟩
theorem BR.nil:BR pk ka pv va E (.map #[] 0) []:=⟨List.nodup_nil,[],.refl _,⟨#[],0,V,trivial,.nil,by simp⟩⟩
def rM(pk:Rp κ)(ka:Bool)(pv:Rp ν)(va:Bool):Rp (List (κ×ν)):=⟨1,λE ws xs=>∃bk o,ws= [.map (some bk)]/\E bk=some o/\BR pk ka pv va E o xs,
 λhle ⟨bk,o,h,K,O⟩=>⟨bk,o,h,hle _ _ K,O.M hle⟩,λ⟨bk,o,h,_,_⟩=>by subst h;rfl,λ⟨bk,o,h,_,_⟩ w hw=>by subst h;simp at hw;subst hw;rfl⟩
section
variable {k:Value}{x:κ}
theorem VI(K:G0 P t pk ka)(hm:P.underlying tm=some (.map t te)){z:Value}{z0:ν}(O:zeroOf P te=some z)(U:Vr pv va E z z0)(hg:s.get bk=some o)(Y:BR pk ka pv va E o xs)(Z:Vr pk ka E k x)(ok:Bool){Q:Value->St->Prop}
  (h:∀w,Vr pv va E w ((BU xs x).getD z0)->Q (if ok then .tuple #[w,.bool (BU xs x).isSome] else w) s):lp P (Instr.lookup tm (.map (some bk)) k ok) s Q X:=by
 obtain⟨ac,ys,ag,al⟩:=Y;refine WO K hm O U hg al Z ok ?_;rw [RR ac ag];exact h
theorem Vi(O:G0 P t pk ka)(hm:P.underlying tm=some (.map t te))(hg:s.get bk=some o)(U:s.H bk=some o)(Y:BR pk ka pv va E o xs)(Z:Vr pk ka E k x)(hw:Vr pv va E w v0){Q:Unit->St->Prop}
  (h:∀o',BR pk ka pv va E o' (DX xs x v0)->Q () (s.upd bk o')):lp P (Instr.mapUpdate tm (.map (some bk)) k w) s Q X:=by
 obtain⟨K,ys,ac,ag⟩:=Y;exact Vm O hm hg U ag Z hw λo' al=>h o' ⟨K.put _ _,_,VJ K ac _ _,al⟩
theorem Ey.erase(Y:Vr pk ka E k x):∀{es:List MapEntry} {ys:List (κ×ν)} {i:Nat},Ey pk ka pv va E es ys->KN ys->
  (GL x es ys i=none/\EJ ys x=ys)∨∃j u,GL x es ys i=some (i+j,u)/\Ey pk ka pv va E (es.eraseIdx j) (EJ ys x)
 | [],[],i,_,_=> .inl ⟨rfl,rfl⟩
 | e::es,y::ys,i,h,Z=>by
  have U:y.1 ∉ ys.map (·.1)/\KN ys:=by simpa [KN] using Z
  unfold GL;by_cases K:x=y.1
  ·refine .inr ⟨0,e.val,by rw [if_pos K];rfl,?_⟩;have e2:EJ (y::ys) x=ys:=by
    have:EJ (y::ys) x=EJ ys x:=by simp [EJ,K]
    rw [this];exact Sa λz ac q=>U.1 (List.mem_map.2 ⟨z,ac,by rw [← q,K]⟩)
   rw [e2];exact h.2.2
  ·have e2:EJ (y::ys) x=y::EJ ys x:=by simp [EJ,K]
   rcases Ey.erase Y (i:=i+1) h.2.2 U.2 with⟨a1,O⟩ | ⟨j,u,a1,O⟩
   ·exact .inl ⟨by rw [if_neg K];exact a1,by rw [e2,O]⟩
   ·refine .inr ⟨j+1,u,by rw [if_neg K,a1];congr 2;omega,?_⟩;rw [e2];exact⟨h.1,h.2.1,O⟩
 | [],_::_,_,h,_=>h.elim
 | _::_,[],_,h,_=>h.elim
theorem VU(ag:G0 P t pk ka)(hm:P.underlying tm=some (.map t te))(hg:s.get bk=some o)(al:s.H bk=some o)(av:BR pk ka pv va E o xs)(K:Vr pk ka E k x){u:TypeId}{Q:Value->St->Prop}
  (h:∀o',BR pk ka pv va E o' (EJ xs x)->Q (.tuple #[]) (s.upd bk o')):lp P (Builtin.delete_ #[tm,t] u #[.map (some bk),k]) s Q X:=by
 obtain⟨O,ys,U,es,c,rfl,Y,am,ap⟩:=av;unfold Builtin.delete_;simp only [List.getElem?_toArray,List.getElem?_cons_zero,List.getElem?_cons_succ];refine Az _ _ (Cx hm ?_)
 dsimp only;refine Az _ _ ?_;unfold getObj;simp only [bind,Sem.bind,lp];refine⟨_,hg,V,?_⟩;refine Az (x:=Instr.checkKey _ 10000 t k) _ (ag.BY K ?_);refine Az (x:=Instr.findKey t k es.toList) _ (Ps ag K Y ?_);rcases Ey.erase K (i:=0) Y (O.perm U) with⟨Z,e2⟩ | ⟨j,u,Z,e2⟩
 ·rw [Z];simp only [setObj,lp,pure];refine⟨⟨_,al,V⟩,V,h _ ⟨O.del _,_,PF U x,es,c,V,by rw [e2];exact Y,am,ap⟩⟩
 ·rw [Z];simp only [setObj,lp,pure];have aq:(es.toList.eraseIdx j).Sublist es.toList:=List.eraseIdx_sublist _ _;have ac:(es.eraseIdxIfInBounds (0+j)).toList=es.toList.eraseIdx j:=by rw [Nat.zero_add];simp
  refine⟨⟨_,al,V⟩,V,h _ ⟨O.del _,_,PF U x,_,c,V,by rw [ac];exact e2,?_,?_⟩⟩
  ·rw [ac];exact am.sublist (aq.map _)
  ·rw [ac];exact λe he=>ap e (aq.subset he)
end
section
variable {x y:Operand}{e:TypeId}{i:Nat}{k:Value}
theorem Yl.lookup{K v:Value}{z0:ν}{ok:Bool}(O:G0 P t pk ka)(hm:P.underlying tm=some (.map t te))(U:zeroOf P te=some K)(Y:Vr pv va E K z0)(Z:BR pk ka pv va E o xs)(ac:Vr pk ka E k x0)
  (ag:∀w,Vr pv va E w ((BU xs x0).getD z0)->(if ok then .tuple #[w,.bool (BU xs x0).isSome] else w)=v) (al:ρ x= .map (some bk)) (am:ρ y=k) (hg:s.get bk=some o):Yl P ⟨d,.lookup tm x y ok,ty,p,af,g⟩ ρ s v:=by
 refine FQ (sm:=Instr.lookup tm (ρ x) (ρ y) ok) V ?_;rw [al,am];exact VI O hm U Y hg Z ac ok λw hw=>⟨ag w hw,V⟩
theorem JS.makeMap(K:ops[i]? =some ⟨d,.makeMap t none,ty,p,af,g⟩)(hw:AY L ops ⟨d,.makeMap t none,ty,p,af,g⟩=some true)(O:BY b n ⟨d,.makeMap t none,ty,p,af,g⟩=true)(U:As E H S)
  (h:∀r,As E H (S++ [[(r,.map #[] 0)]])->JL J Q b n (AB L d (.map (some r))) ds (.inRegion ops rest::kk) cs (Al E H (S++ [[(r,.map #[] 0)]]))):
  JL J Q b n L ds (.inRegion ops (i::rest)::kk) cs (Al E H S):=
 JL.op K hw O λρ am=>by
  show lp P (do pure (Next.value (← Instr.makeMap t none))) _ _ _
  refine Az _ _ ?_
  unfold Instr.makeMap
  simp only [newObj,bind,Sem.bind,pure,lp]
  refine⟨rfl,λr Y Z=>?_⟩
  obtain⟨ac,ag⟩:=KF Y Z (.map #[] 0) U
  obtain⟨p1,p2⟩:=Fo ac
  have al:(Al E H S).upd r (.map #[] 0)=Al E H (S++ [[(r,.map #[] 0)]]):=by rw [← p1,← ag];rfl
  show JL J Q b n (AB L d (.map (some r))) ds (.inRegion ops rest::kk) cs ((Al E H S).upd r (.map #[] 0));rw [al];exact h r p2
theorem JS.mapUpdate(j:Nat)(Y:G0 P t pk ka)(hm:P.underlying tm=some (.map t te))(Z:BR pk ka pv va E o xs)(ac:Vr pk ka E k x0)(ag:Vr pv va E w v0)(K:As E H S)(O:S[j]? =some [(bk,o)])
  (al:ops[i]? =some ⟨d,.mapUpdate tm x y z,ty,p,af,g⟩) (hw:AY L ops ⟨d,.mapUpdate tm x y z,ty,p,af,g⟩=some true) (am:BY b n ⟨d,.mapUpdate tm x y z,ty,p,af,g⟩=true) (ap:ev L x=some (.map (some bk))) (aq:ev L y=some k) (av:ev L z=some w)
  (h:∀o',BR pk ka pv va E o' (DX xs x0 v0)->As E H (S.set j [(bk,o')])->JL J Q b n (AB L d undef) ds (.inRegion ops rest::kk) cs (Al E H (S.set j [(bk,o')]))):
  JL J Q b n L ds (.inRegion ops (i::rest)::kk) cs (Al E H S):=
 JL.op al hw am λρ U=>by
  show lp P (do Instr.mapUpdate tm (ρ x) (ρ y) (ρ z);pure Next.skip) _ _ _
  rw [U _ _ ap,U _ _ aq,U _ _ av]
  refine Az _ _ (Vi Y hm (Ei (i:=0) K O rfl) (Ke K O) Z ac ag λo' aw=>?_)
  obtain⟨ay,az⟩:=KH K O o'
  rw [ay]
  exact h o' aw az
theorem Vo{at1:TypeId}(j:Nat)(Y:G0 P t pk ka)(hm:P.underlying tm=some (.map t te))(Z:BR pk ka pv va E o xs)(ac:Vr pk ka E k x0)(K:As E H S)(O:S[j]? =some [(bk,o)])
  (ag:ops[i]? =some ⟨d,.call ⟨.builtin .delete,#[x,y],#[tm,t]⟩,ty,p,af,g⟩) (hw:AY L ops ⟨d,.call ⟨.builtin .delete,#[x,y],#[tm,t]⟩,ty,p,af,g⟩=some true) (al:BY b n ⟨d,.call ⟨.builtin .delete,#[x,y],#[tm,t]⟩,ty,p,af,g⟩=true) (am:ev L x=some (.map (some bk))) (ap:ev L y=some k)
  (h:∀o',BR pk ka pv va E o' (EJ xs x0)->As E H (S.set j [(bk,o')])->JL J Q b n (AB L d (.tuple #[])) ds (.inRegion ops rest::kk) cs (Al E H (S.set j [(bk,o')]))):
  JL J Q b n L ds (.inRegion ops (i::rest)::kk) cs (Al E H S):=
 JL.op ag hw al λρ U=>by
  have aq:execOp ρ ⟨d,.call ⟨.builtin .delete,#[x,y],#[tm,t]⟩,ty,p,af,g⟩=(do pure (Next.value (← Builtin.delete_ #[tm,t] ty #[ρ x,ρ y]))):=by
   simp [execOp,resolve,Deferred.ofValue,invoke,bind,Sem.bind,pure,Go.builtin]
  rw [aq,U _ _ am,U _ _ ap];refine Az _ _ (VU Y hm (Ei (i:=0) K O rfl) (Ke K O) Z ac λo' av=>?_);obtain⟨aw,ay⟩:=KH K O o';rw [aw];exact h o' av ay
theorem Pq{todo:Li_}(j:Nat)(O:As E H S)(U:S[j]? =some [(bk,o)])
  (h:∀E',Le E E'->E' bk=some o->As E' H (S.set j [])->JL J Q b n L ds todo cs (Al E' H (S.set j []))):JL J Q b n L ds todo cs (Al E H S):=by
 obtain⟨Y,Z⟩:=GY O U;rw [Y];have ac:((S.set j []).flatten++ [(bk,o)])[(S.set j []).flatten.length]? =some (bk,o):=by simp
 refine JL.freeze (S.set j []).flatten.length Z ac λE' hle ag K=>?_;have al:((S.set j []).flatten++ [(bk,o)]).eraseIdx (S.set j []).flatten.length=(S.set j []).flatten:=by rw [List.eraseIdx_append_of_length_le (Nat.le_refl _)];simp
 rw [al] at K ⊢;exact h E' hle ag K
theorem RZ{α:Type}{m:Nat}{f:Nat->Sem α}{s:St}{Q:α->St->Prop}{X:Halt->St->Prop}(hm:0<m)(K:s.q=false)(h:∀i,i<m->lp P (f i) s Q X):lp P ((choose (.mapNext m)).bind f) s Q X:=by
 simp only [choose,Sem.bind,lp];split
 ·exact h 0 hm
 ·exact⟨K,λt=>h _ (Nat.mod_lt _ hm)⟩
theorem JS.range{es:Array MapEntry}{c:Nat}(hm:P.underlying tm=some (.map t te))(hg:(Al E H S).get bk=some (.map es c))(K:ops[i]? =some ⟨d,.range tm x,ty,p,af,g⟩)(hw:AY L ops ⟨d,.range tm x,ty,p,af,g⟩=some true)(O:BY b n ⟨d,.range tm x,ty,p,af,g⟩=true)(U:As E H S)
  (Y:ev L x=some (.map (some bk)))
  (h:∀r,As E H (S++ [[(r,.mapIter (some bk) c #[] c)]])->JL J Q b n (AB L d (.pointer (some ⟨r,0,none⟩))) ds (.inRegion ops rest::kk) cs (Al E H (S++ [[(r,.mapIter (some bk) c #[] c)]]))):
  JL J Q b n L ds (.inRegion ops (i::rest)::kk) cs (Al E H S):=
 JL.op K hw O λρ Z=>by
  show lp P (do pure (Next.value (← Instr.range tm (ρ x)))) _ _ _
  rw [Z _ _ Y]
  refine Az _ _ ?_
  unfold Instr.range
  refine Az _ _ (Cx hm ?_)
  simp only [getObj,newObj,bind,Sem.bind,pure,lp]
  refine⟨_,hg,rfl,rfl,λr ac ag=>?_⟩
  obtain⟨al,am⟩:=KF ac ag (.mapIter (some bk) c #[] c) U
  obtain⟨p1,p2⟩:=Fo al
  have ap:(Al E H S).upd r (.mapIter (some bk) c #[] c)=Al E H (S++ [[(r,.mapIter (some bk) c #[] c)]]):=by rw [← p1,← am];rfl
  show JL J Q b n (AB L d (.pointer (some ⟨r,0,none⟩))) ds (.inRegion ops rest::kk) cs ((Al E H S).upd r (.mapIter (some bk) c #[] c));rw [ap];exact h r p2
theorem JS.next{es:Array MapEntry}{c r:Nat}{seen:Array Nat}(j:Nat)(hg:(Al E H S).get bk=some (.map es c))(hb:∀e∈es.toList,e.born<c)(K:As E H S)(O:S[j]? =some [(r,.mapIter (some bk) c seen c)])
  (al:ops[i]? =some ⟨d,.next x false,ty,p,af,g⟩) (hw:AY L ops ⟨d,.next x false,ty,p,af,g⟩=some true) (am:BY b n ⟨d,.next x false,ty,p,af,g⟩=true) (U:ev L x=some (.pointer (some ⟨r,0,none⟩)))
  (ap:∀e∈es.toList,e.born ∉ seen->As E H (S.set j [(r,.mapIter (some bk) c (seen.push e.born) c)])->JL J Q b n (AB L d (.tuple #[.bool true,e.key,e.val])) ds (.inRegion ops rest::kk) cs (Al E H (S.set j [(r,.mapIter (some bk) c (seen.push e.born) c)])))
  (aq:(∀e∈es.toList,e.born∈seen)->JL J Q b n (AB L d (.tuple #[.bool false])) ds (.inRegion ops rest::kk) cs (Al E H S)):
  JL J Q b n L ds (.inRegion ops (i::rest)::kk) cs (Al E H S):=
 JL.op al hw am λρ av=>by
  show lp P (do pure (Next.value (← Instr.next (ρ x) false ty))) _ _ _
  rw [av _ _ U]
  refine Az _ _ ?_
  unfold Instr.next
  simp only [getObj,setObj,bind,Sem.bind,pure,lp]
  refine⟨_,Ei (i:=0) K O rfl,rfl,?_⟩
  simp only [lp]
  refine⟨_,hg,rfl,?_⟩
  have aw:(!seen.isEmpty&& !es.isEmpty&&es.all (λe=>decide (e.born>=c)))=false:=by
   by_cases he:es.toList= []
   ·have:es.isEmpty=true:=by simpa [Array.isEmpty_iff] using he
    simp [this]
   ·obtain⟨e,ag⟩:=List.exists_mem_of_ne_nil _ he;have bb:=hb e ag;have:es.all (λe=>decide (e.born>=c))=false:=by
     cases U:es.all (λe=>decide (e.born>=c)) with
     | false=>rfl
     | true=>
      have:=Array.all_eq_true'.1 U e (Array.mem_toList_iff.1 ag);simp at this;omega
    simp [this]
  have ay:Array.filter (λx:MapEntry=>decide (x.born<c)) (Array.filter (λe=> !seen.contains e.born) es)=Array.filter (λe=> !seen.contains e.born) es:=by
   apply Array.toList_inj.1;rw [Array.toList_filter,List.filter_eq_self];intro e he;rw [Array.toList_filter] at he;simpa using hb e (List.mem_filter.1 he).1
  have e2:Array.filter (λx:MapEntry=>decide (x.born>=c)) (Array.filter (λe=> !seen.contains e.born) es)= #[]:=by
   apply Array.toList_inj.1;rw [Array.toList_filter,List.filter_eq_nil_iff];intro e he;rw [Array.toList_filter] at he;have:=hb e (List.mem_filter.1 he).1;simp;omega
  dsimp only;rw [if_neg (by rw [aw];exact Bool.false_ne_true),ay,e2];have Y:∀e,e∈(Array.filter (λe=> !seen.contains e.born) es).toList↔e∈es.toList/\e.born ∉ seen:=by
   intro e;rw [Array.toList_filter,List.mem_filter];simp
  generalize Array.filter (λe:MapEntry=> !seen.contains e.born) es=left at Y ⊢;by_cases Z:left.toList= []
  ·have az:left= #[]:=Array.toList_inj.1 Z;subst az;refine RZ (by simp) rfl λi hi=>?_;obtain rfl:i=0:=by simp at hi;exact hi
   have a0:((if(#[]:Array MapEntry).isEmpty=true then #[none] else #[])++Array.map some ((#[]:Array MapEntry)++ #[]))[0]? =some none:=by simp
   rw [a0];refine aq λe he=>?_;by_cases hs:e.born∈seen
   ·exact hs
   ·have:=(Y e).2 ⟨he,hs⟩;simp at this
  ·have a1:left.isEmpty=false:=by
    cases a2:left.isEmpty with
    | false=>rfl
    | true=>exact absurd (by simpa [Array.isEmpty_iff] using a2) Z
   rw [a1];simp only [Bool.false_eq_true,if_false,Array.append_empty,Array.empty_append];have a3:0<left.size:=by
    rcases Nat.eq_zero_or_pos left.size with ac | ac
    ·exact absurd (by simpa using Array.eq_empty_of_size_eq_zero ac) Z
    ·exact ac
   refine RZ (by simpa using a3) rfl λi hi=>?_;have a4:i<left.size:=by simpa using hi
   have a5:(Array.map some left)[i]? =some (some left[i]):=by simp [a4]
   rw [a5];simp only [lp];obtain⟨a6,a7⟩:=(Y left[i]).1 (Array.getElem_mem_toList _);refine⟨⟨_,Ke K O,rfl⟩,rfl,?_⟩;obtain⟨a8,a9⟩:=KH K O (.mapIter (some bk) c (seen.push left[i].born) c);rw [a8];exact ap _ a6 a7 a9
theorem JS.entry{es:Array MapEntry}{c r:Nat}{seen:Array Nat}{e:MapEntry}(j:Nat)(hg:(Al E H S).get bk=some (.map es c))(he:e∈es.toList)(hb:(es.toList.map (·.born)).Pairwise (·<·))(U:As E H S)(Y:S[j]? =some [(r,.mapIter (some bk) c (seen.push e.born) c)])
  (Z:ops[i]? =some ⟨d,.entry x,ty,p,af,g⟩) (hw:AY L ops ⟨d,.entry x,ty,p,af,g⟩=some true) (ac:BY b n ⟨d,.entry x,ty,p,af,g⟩=true) (ag:ev L x=some (.pointer (some ⟨r,0,none⟩)))
  (h:JL J Q b n (AB L d (.tuple #[e.key,e.val])) ds (.inRegion ops rest::kk) cs (Al E H S)):
  JL J Q b n L ds (.inRegion ops (i::rest)::kk) cs (Al E H S):=
 JL.op Z hw ac λρ al=>by
  show lp P (do pure (Next.value (← Instr.entry (ρ x)))) _ _ _
  rw [al _ _ ag]
  refine Az _ _ ?_
  unfold Instr.entry
  simp only [getObj,bind,Sem.bind,pure,lp]
  refine⟨_,Ei (i:=0) U Y rfl,rfl,?_⟩
  simp only [Array.back?_push,bne_self_eq_false,lp]
  refine⟨_,hg,rfl,?_⟩
  have am:es.find? (λx=>x.born==e.born)=some e:=by
   rw [← Array.find?_toList];have key:∀(l:List MapEntry),e∈l->(l.map (·.born)).Pairwise (·<·)->l.find? (λx=>x.born==e.born)=some e:=by
    intro l
    induction l with
    | nil=>intro h;cases h
    | cons y l ap=>
     intro hm K;rw [List.map_cons,List.pairwise_cons] at K;by_cases O:y.born=e.born
     ·rcases List.mem_cons.1 hm with rfl | hm
      ·simp
      ·have:=K.1 e.born (List.mem_map.2 ⟨e,hm,rfl⟩);omega
     ·rw [List.find?_cons_of_neg (by simpa using O)];rcases List.mem_cons.1 hm with rfl | hm
      ·exact absurd rfl O
      ·exact ap hm K.2
   exact key _ he hb
  simp only [bne_self_eq_false,Bool.false_eq_true,if_false,am,lp];exact h
end
end
theorem Kw{E H:LH}{S:List Seg}{bk:Nat}{o:Obj}(h:E bk=some o):(Al E H S).get bk=some o:=by
 show(match E bk with | some o=>some o | none=>_)=some o
 rw [h]
theorem Rl{α β:Type}(f:α->β){l:List α}(h:(l.map f).Nodup):l.Nodup:=by
 unfold List.Nodup at h ⊢;rw [List.pairwise_map] at h;exact h.imp λh e=>h (by rw [e])
theorem Sr{α:Type}:∀{l l':List α},l.Nodup->(∀x∈l,x∈l')->l.length<=l'.length
 | [],_,_,_=>Nat.zero_le _
 | x::l,l',h,hs=>by
  obtain⟨a,b,rfl⟩:=List.append_of_mem (hs x (by simp))
  have O:=List.nodup_cons.1 h
  have:=Sr (l:=l) (l':=a++b) O.2 (λy U=>by
   have K:=hs y (List.mem_cons_of_mem _ U)
   have Y:y≠x:=λe=>O.1 (e▸U)
   simp at K ⊢
   rcases K with K | K | K
   ·exact .inl K
   ·exact absurd K Y
   ·exact .inr K)
  simp at this ⊢;omega
variable {ys:List (κ×ν)}
section
variable [DecidableEq κ]
def I0(es:Array MapEntry)(ys:List (κ×ν))(seen:Array Nat)(done:List (κ×ν)):Prop:=
 ∃K:List (MapEntry×(κ×ν)),done=K.map (·.2)/\seen.toList=K.map (·.1.born)/\K.Nodup/\∀q∈K,q∈es.toList.zip ys
theorem I0.nil{es:Array MapEntry}{ys:List (κ×ν)}:I0 es ys #[] []:=⟨[],V,V,.nil,by simp⟩
theorem Su:∀{es:List MapEntry} {ys:List (κ×ν)},(es.map (·.born)).Pairwise (·<·)->∀{p q:MapEntry×(κ×ν)},p∈es.zip ys->q∈es.zip ys->p.1.born=q.1.born->p=q
 | [],_,_,_,_,h,_,_=>by simp at h
 | _::_,[],_,_,_,h,_,_=>by simp at h
 | e::es,y::ys,U,p,q,K,O,hb=>by
  rw [List.map_cons,List.pairwise_cons] at U
  rw [List.zip_cons_cons] at K O
  have Y:∀{z:MapEntry×(κ×ν)},z∈es.zip ys->z.1.born∈es.map (·.born):=λ{z} Z=>by
   have:=(List.of_mem_zip Z).1
   exact List.mem_map.2 ⟨z.1,this,V⟩
  rcases List.mem_cons.1 K with rfl | K <;> rcases List.mem_cons.1 O with rfl | O
  ·rfl
  ·have:=U.1 _ (Y O);simp at hb;omega
  ·have:=U.1 _ (Y K);simp at hb;omega
  ·exact Su U.2 K O hb
theorem Ey.zip:∀{es:List MapEntry} {ys:List (κ×ν)},Ey pk ka pv va E es ys->∀{q:MapEntry×(κ×ν)},q∈es.zip ys->Vr pk ka E q.1.key q.2.1/\Vr pv va E q.1.val q.2.2
 | [],[],_,_,h=>by simp at h
 | e::es,y::ys,h,q,K=>by
  rw [List.zip_cons_cons] at K
  rcases List.mem_cons.1 K with rfl | K
  ·exact⟨h.1,h.2.1⟩
  ·exact Ey.zip h.2.2 K
 | [],_::_,h,_,_=>h.elim
 | _::_,[],h,_,_=>h.elim
theorem SK:∀{es:List MapEntry} {ys:List (κ×ν)},KN ys->(es.map (·.born)).Pairwise (·<·)->∀{p q:MapEntry×(κ×ν)},p∈es.zip ys->q∈es.zip ys->p.2.1=q.2.1->p=q
 | [],_,_,_,_,_,h,_,_=>by simp at h
 | _::_,[],_,_,_,_,h,_,_=>by simp at h
 | e::es,y::ys,ac,Y,p,q,K,O,hb=>by
  have U:y.1 ∉ ys.map (·.1)/\KN ys:=by simpa [KN] using ac
  rw [List.map_cons,List.pairwise_cons] at Y;rw [List.zip_cons_cons] at K O;have Z:∀{z:MapEntry×(κ×ν)},z∈es.zip ys->z.2.1∈ys.map (·.1):=λ{z} ag=>List.mem_map.2 ⟨z.2,(List.of_mem_zip ag).2,rfl⟩;rcases List.mem_cons.1 K with rfl | K <;> rcases List.mem_cons.1 O with rfl | O
  ·rfl
  ·have:=Z O;simp only at hb;rw [← hb] at this;exact absurd this U.1
  ·have:=Z K;simp only at hb;rw [hb] at this;exact absurd this U.1
  ·exact SK U.2 Y.2 K O hb
theorem I0.len{es:Array MapEntry}{ys:List (κ×ν)}{seen:Array Nat}{done:List (κ×ν)}(h:I0 es ys seen done):done.length<=ys.length:=by
 obtain⟨Y,rfl,Z,K,O⟩:=h;rw [List.length_map];have U:=Sr K O;exact Nat.le_trans U (by rw [List.length_zip];exact Nat.min_le_right _ _)
section
variable {x y:Operand}{e:TypeId}{i:Nat}
theorem Sm{es:Array MapEntry}{c r:Nat}{seen:Array Nat}{done:List (κ×ν)}(j:Nat)(ag:Ey pk ka pv va E es.toList ys)(Z:(es.toList.map (·.born)).Pairwise (·<·))(hb:∀e∈es.toList,e.born<c)(av:KN ys)(hs:I0 es ys seen done)(hg:(Al E' H S).get bk=some (.map es c))(aw:As E' H S)(ay:S[j]? =some [(r,.mapIter (some bk) c seen c)])
  (az:ops[i]? =some ⟨d,.next x false,ty,p,af,g⟩) (hw:AY L ops ⟨d,.next x false,ty,p,af,g⟩=some true) (a0:BY b n ⟨d,.next x false,ty,p,af,g⟩=true) (a2:ev L x=some (.pointer (some ⟨r,0,none⟩)))
  (a3:∀e O,Vr pk ka E e.key O.1->Vr pv va E e.val O.2->O∈ys->O.1 ∉ done.map (·.1)->e∈es.toList->I0 es ys (seen.push e.born) (done++ [O])->As E' H (S.set j [(r,.mapIter (some bk) c (seen.push e.born) c)])->
   JL J Q b n (AB L d (.tuple #[.bool true,e.key,e.val])) ds (.inRegion ops rest::kk) cs (Al E' H (S.set j [(r,.mapIter (some bk) c (seen.push e.born) c)])))
  (a4:done.Perm ys->JL J Q b n (AB L d (.tuple #[.bool false])) ds (.inRegion ops rest::kk) cs (Al E' H S)):
  JL J Q b n L ds (.inRegion ops (i::rest)::kk) cs (Al E' H S):=by
 obtain⟨ac,rfl,a1,al,Y⟩:=hs;have hlen:=ag.len;refine JS.next j hg hb aw ay az hw a0 a2 (λe he a5 a6=>?_) (λa7=>?_)
 ·obtain⟨m,hm,a8⟩:=List.mem_iff_getElem.1 he;have U:(e,ys[m]'(by omega))∈es.toList.zip ys:=by
   rw [← a8];have:(es.toList.zip ys)[m]'(by rw [List.length_zip];omega)=(es.toList[m],ys[m]'(by omega)):=List.getElem_zip;rw [← this];exact List.getElem_mem _
  obtain⟨k1,a9⟩:=ag.zip U;have am:(e,ys[m]'(by omega)) ∉ ac:=λq=>a5 (by
   rw [← Array.mem_toList_iff,a1]
   exact List.mem_map.2 ⟨_,q,V⟩)
  refine a3 e _ k1 a9 (List.getElem_mem _) (λq=>?_) he ⟨ac++ [(e,ys[m]'(by omega))],by simp,by simp [a1],?_,λq K=>?_⟩ a6
  ·obtain⟨O,bb,be⟩:=List.mem_map.1 q;obtain⟨z,ap,rfl⟩:=List.mem_map.1 bb;have:=SK av Z (Y z ap) U be;exact am (this▸ap)
  ·rw [List.nodup_append];exact⟨al,by simp,by intro q K z aq bi;simp at aq;subst aq bi;exact am K⟩
  ·rcases List.mem_append.1 K with K | K
   ·exact Y q K
   ·simp at K;subst K;exact U
 ·refine a4 ?_;have bn:ac.Perm (es.toList.zip ys):=by
   have bo:(es.toList.zip ys).Nodup:=by
    have:((es.toList.zip ys).map (·.1)).Nodup:=by
     rw [List.map_fst_zip (by omega)];exact Rl (λe:MapEntry=>e.born) (Z.imp (λh=>Nat.ne_of_lt h))
    exact Rl _ this
   refine(List.perm_ext_iff_of_nodup al bo).2 λq=>⟨λK=>Y q K,λK=>?_⟩;have:=a7 q.1 (List.of_mem_zip K).1;rw [← Array.mem_toList_iff,a1] at this;obtain⟨z,U,bv⟩:=List.mem_map.1 this;have:=Su Z (Y z U) K bv;exact this▸U
  have:=bn.map (·.2)
  rwa [List.map_snd_zip (by omega)] at this
end
end
variable {xl:List Nat}
section
variable {fuel:Nat}{listed:Array Bool}
theorem ED(i:Nat)(pure:Bool)(K:s.q=false)(O:Hl n L ops i=some ⟨d,op,ty,p,af,g⟩)
  (U:∀ρ,Ff L ρ->∀s':St,(pure=false->∀x o,(BE D s).E x=some o->s'.E x=some o)->Yl P ⟨d,op,ty,p,af,g⟩ ρ s' v)
  (Y:Gd J Q b n ds ops k cs (AO xl) D fuel (Bi listed i) (AB L d v) s) (Z:Kf ops listed xl pure i=true:=by decide+kernel):Gd J Q b n ds ops k cs (AO xl) D (fuel+1) listed L s:=by
 obtain⟨ac,ag,al⟩:=PL O;exact JB.val i pure ac Z K ag al U Y
def Q5(n:Nat)(L:Env)(ops:Ao_)(i:Nat):Option Env:=
 match JC ops.toList i with
 | some ⟨d,op,ty,p,af,g⟩=>match AY L ops ⟨d,op,ty,p,af,g⟩ with
  | some true=>match Br n d with
   | true=>match KV L op with
    | some v=>match d with
     | some d=>some ((d,v)::L)
     | none=>some L
    | none=>none
   | false=>none
  | _=>none
 | none=>none
theorem XQ{i:Nat}(h:Q5 n L ops i=some L'):∃o v,ops[i]? =some o/\Br n o.dst=true/\AY L ops o=some true/\KV L o.op=some v/\L'=AB L o.dst v:=by
 unfold Q5 at h;split at h
 ·rename_i d op ty p af g K;rw [Lq,Array.getElem?_toList] at K;split at h
  ·rename_i hw;split at h
   ·rename_i O;split at h
    ·rename_i v U;refine⟨_,v,K,O,hw,U,?_⟩;cases d with
     | none=>cases h;rfl
     | some d=>cases h;rfl
    ·cases h
   ·cases h
  ·cases h
 ·cases h
theorem Bj(i:Nat)(K:s.q=false)(h:Q5 n L ops i=some L')
  (O:Gd J Q b n ds ops k cs (AO xl) D fuel (Bi listed i) L' s) (U:Kf ops listed xl true i=true:=by decide+kernel):Gd J Q b n ds ops k cs (AO xl) D (fuel+1) listed L s:=by
 obtain⟨o,v,Y,Z,hw,ac,rfl⟩:=XQ h;exact JB.val i true Y U K hw Z (λρ ag s' _=>NT ag ac) O
end
variable {i2:Nat}
variable {d2:Option Tmp}{x2:Operand}{t2 ty2:TypeId}{p2:String}{af2:Ae_}{g2:On_}
variable {bks:List Nat}
section
variable {i:Nat}
variable {x y:Operand}{e:TypeId}
theorem Cf(O:As E H S)(h:∀r E',Le E E'->At E' r 0 v.cells.toList->As E' H (S++ [[]])->JL J Q b n (AB L d (.pointer (some ⟨r,0,none⟩))) ds (.inRegion ops rest::k) cs (Al E' H (S++ [[]])))
  (U:FM b n L ops i=some ⟨d,.box e x,ty,p,af,g⟩:=by exact rfl) (Y:ev L x=some v:=by exact rfl):JL J Q b n L ds (.inRegion ops (i::rest)::k) cs (Al E H S):=by
 obtain⟨Z,ac,ag⟩:=KD U;refine JS.box Z ac ag O Y λr al=>DO (bk:=r) (c:=v.cells) (e:=e) (f:=(0,0)) S.length al (by simp) λE' hle am K=>?_;have ap:(S++ [[(r,Obj.cells v.cells e (0,0))]]).set S.length []=S++ [[]]:=by simp
 rw [ap] at K ⊢;exact h r E' hle am K
theorem B5{z:Value}(K:As E H S)(O:zeroOf P e=some z)(h:∀r,As E H (S++ [[(r,.cells z.cells e (0,0))]])->JL J Q b n (AB L d (.pointer (some ⟨r,0,none⟩))) ds (.inRegion ops rest::k) cs (Al E H (S++ [[(r,.cells z.cells e (0,0))]])))
  (U:FM b n L ops i=some ⟨d,.alloc e,ty,p,af,g⟩:=by exact rfl):JL J Q b n L ds (.inRegion ops (i::rest)::k) cs (Al E H S):=by
 obtain⟨Y,Z,ac⟩:=KD U;exact JS.alloc Y Z ac K O h
theorem BA{bk off K:Nat}{c:Av_}(j:Nat)(O:As E H S)(U:Bv P t=some K)
  (h:As E H (S.set j [(bk,.cells (Be c off v.cells.toList) e (0,0))])->JL J Q b n (AB L d undef) ds (.inRegion ops rest::k) cs (Al E H (S.set j [(bk,.cells (Be c off v.cells.toList) e (0,0))])))
  (Y:FM b n L ops i=some ⟨d,.store t x y,ty,p,af,g⟩:=by exact rfl) (Z:ev L x=some (.pointer (some ⟨bk,off,none⟩)):=by exact rfl) (ac:ev L y=some v:=by exact rfl) (ag:S[j]? =some [(bk,.cells c e (0,0))]:=by exact rfl)
  (al:K=v.cells.size:=by exact rfl) (hle:off+v.cells.size<=c.size:=by exact Nat.le_of_ble_eq_true rfl) (am:v.cells.toList.all Dv=true:=by first | exact rfl | simp [Value.cells,Dv]):
  JL J Q b n L ds (.inRegion ops (i::rest)::k) cs (Al E H S):=bY j O (by rw [← al];exact U) Y Z ac ag h hle (List.all_eq_true.1 am)
theorem Bx{bk o o1 U off:Nat}{K:Array Field}{O:Nat}{ws:Lv_}(j:Nat)(Y:At E bk o ws)(ht:P.underlying t=some (.struct K))(Z:Bv P ft=some (U+1))(ac:Dc P t2=some false)
  (ag:JL J Q b n (AB (AB L d (.pointer (some ⟨bk,o1+off,none⟩))) d2 v) ds (.inRegion ops rest::k) cs (Al E H S))
  (al:FM b n L ops i=some ⟨d,.fieldAddr t x O,ty,p,af,g⟩:=by exact rfl) (am:ev L x=some (.pointer (some ⟨bk,o1,none⟩)):=by exact rfl) (ap:MC K O=some (off,ft):=by exact rfl)
  (aq:FM b n (AB L d (.pointer (some ⟨bk,o1+off,none⟩))) ops i2=some ⟨d2,.load t2 x2,ty2,p2,af2,g2⟩:=by exact rfl) (av:ev (AB L d (.pointer (some ⟨bk,o1+off,none⟩))) x2=some (.pointer (some ⟨bk,o+j,none⟩)):=by exact rfl) (aw:ws[j]? =some v:=by exact rfl):
  JL J Q b n L ds (.inRegion ops (i::i2::rest)::k) cs (Al E H S):=JL.fd ht Z al am ap (CI j Y ac aq av aw ag)
theorem JS.ix{α:Type}{pp:Rp α}{a:Option Addr}{c:Nat}{xs:List α}{xv:α}{m:Int}{kd:IntKind}(K:An pp E a c xs)(hm:ix xs m=some xv)(ht:P.underlying t=some (.slice e))(O:Bv P e=some pp.n)
  (h:∀bk o ws,pp.r E ws xv->At E bk o ws->JL J Q b n (AB L d (.pointer (some ⟨bk,o,none⟩))) ds (.inRegion ops rest::k) cs (Al E H S))
  (U:FM b n L ops i=some ⟨d,.indexAddr t x y,ty,p,af,g⟩:=by exact rfl) (Y:ev L x=some (.slice a xs.length c):=by exact rfl) (Z:ev L y=some (.int kd m):=by exact rfl):
  JL J Q b n L ds (.inRegion ops (i::rest)::k) cs (Al E H S):=by
 obtain⟨ac,ag,al⟩:=KD U;exact Te K hm ac ag al Y Z ht O h
theorem DF(K:List Seg)(O:Env){todo:Li_}{c:Code}(U:∀E',Le E E'->As E' H K->JL J Q b n O ds todo cs (Al E' H K))
  (h:(∀{E':LH} {L:Env},Le E E'->As E' H K->Iw L O=IA O->JL J Q b n L ds todo cs (Al E' H K))->JL J Q b n L ds (.code c::todo) cs (Al E H S)):JL J Q b n L ds (.code c::todo) cs (Al E H S):=
 h λY Z ac=>AF (U _ Y Z) ac
theorem Fx{U:List Nat}(Y Z:Nat)(K:List Seg)(O:Env){todo:Li_}(ac:∀E',Le E E'->As E' H K->JL J Q b n O ds (.inRegion ops (List.range' Y Z)::todo) cs (Al E' H K))
  (h:(∀{E':LH} {L:Env},Le E E'->As E' H K->Iw L O=IA O->JL J Q b n L ds (.inRegion ops (List.range' Y Z)::todo) cs (Al E' H K))->JL J Q b n L ds (.inRegion ops U::todo) cs (Al E H S)):JL J Q b n L ds (.inRegion ops U::todo) cs (Al E H S):=
 h λag al am=>AF (ac _ ag al) am
theorem CN{O ag:Type}{c:Code}{body:O->Option (Bo O ag)}{f:Nat}{Y:O}{a:ag}{Z:LH}{k:Li_}(am:iter body f Y=some a)(K:O->List Seg)(U:O->Env)(hle:Le Z E)(ap:As E H (K Y))
  (round:∀x E',Le Z E'->As E' H (K x)->(∀al,body x=some (.done al)->al=a)->(∃st,body x=some st)->(∀{L':Env} {ac:LH} (x':O),Le Z ac->As ac H (K x')->Iw L' (U x')=IA (U x')->body x=some (.more x')->JL J Q b n L' ds (.inLoop c::k) cs (Al ac H (K x')))->JL J Q b n (U x) ds (.code c:: .inLoop c::k) cs (Al E' H (K x)))
  (aq:Iw L (U Y)=IA (U Y):=by exact rfl) (av:Al E H S=Al E H (K Y):=by exact rfl):JL J Q b n L ds (.code (.loop c)::k) cs (Al E H S):=by
 rw [av];refine EW _ aq (SO am (λL s x=>∃E',Jm Z H E' (K x) (U x) L s) ⟨E,V,V,hle,ap⟩ ?_);rintro _ _ x ⟨E',rfl,rfl,aw,ay⟩ hd hb az;exact round x E' aw ay hd hb λx' a0 g2 a1 a2=>AF (az _ _ x' ⟨_,V,V,a0,g2⟩ a2) a1
theorem Bg{f:FuncId}{fn:Func}{c:Code}{E:LH}{vs:Lv_}{B:Seg}{R:Value->LH->Seg->Prop}(O:P.funcs[f]? =some fn)
  (h:∀(Q:Gs_) (K:Frame) (cs:Lf_) (H:LH),As E H [B]->(∀{v:Value} {E':LH} {S':List Seg} {B':Seg},Le E E'->S'.flatten=B'->R v E' B'->As E' H S'->J.ok Q (G (K.finish v) cs) (Al E' H S'))->JL J Q (base f) fn.ntmps (GG 0 vs) [] [.code c] (K::cs) (Al E H [B]))
  (hb:fn.body=some c:=by exact rfl) (U:Nat.ble vs.length fn.ntmps=true:=by exact rfl):AP J f vs E B R:=
 Qu O hb U λQ K cs H Y Z=>h Q K cs H Y λac ag al am=>Z _ _ _ _ ac ag al am
variable {fuel:Nat}{listed:Array Bool}
theorem KP{bk:Nat}{c:Av_}{f:Nat×Nat}(i:Nat)(K:EB ops m=true)(o:Nat)(j:Nat)(O:As E H S)(U:Dc P t=some false)
  (Y:AT J Q b n ds ops k cs m (AO bks) fuel (Bi listed i) (AB L d w) (Al E H S)) (Z:Hl n L ops i=some ⟨d,.load t x,ty,p,af,g⟩:=by exact rfl) (ac:ev L x=some (.pointer (some ⟨bk,o,none⟩)):=by exact rfl)
  (ag:S[j]? =some [(bk,.cells c e f)]:=by exact rfl) (hw:c[o]? =some w:=by exact rfl) (al:AO bks bk=true:=by simp [AO]) (am:GJ ops listed m i=true:=by decide+kernel):AT J Q b n ds ops k cs m (AO bks) (fuel+1) listed L (Al E H S):=
 A0 i K V Z (λρ h s' hs=>Yl.load U (h _ _ ac) (Ca (o:=o) j O ag al hs hw)) Y am
theorem JG.lp{bk o:Nat}{ws:Lv_}(i:Nat)(K:EB ops m=true)(j:Nat)(O:At E bk o ws)(U:As E H S)(Y:HD S bks)(Z:Dc P t=some false)
  (ac:AT J Q b n ds ops k cs m (AO bks) fuel (Bi listed i) (AB L d w) (Al E H S)) (ag:Hl n L ops i=some ⟨d,.load t x,ty,p,af,g⟩:=by exact rfl) (al:ev L x=some (.pointer (some ⟨bk,o+j,none⟩)):=by exact rfl)
  (hw:ws[j]? =some w:=by exact rfl) (am:GJ ops listed m i=true:=by decide+kernel):AT J Q b n ds ops k cs m (AO bks) (fuel+1) listed L (Al E H S):=
 A0 i K V ag (λρ h s' hs=>Yl.load Z (h _ _ al) (At.Jy (j:=j) O (cm U hs Y) hw)) ac am
theorem OG{bk o K:Nat}{c:Av_}{f:Nat×Nat}(i:Nat)(O:EB ops m=true)(vs:Lv_)(j:Nat)(U:As E H S)(hw:∀(q:Nat) w,vs[q]? =some w->c[o+q]? =some w)(Y:Dc P t=some true)(Z:Bv P t=some K)
  (ac:AT J Q b n ds ops k cs m (AO bks) fuel (Bi listed i) (AB L d (.agg vs.toArray)) (Al E H S)) (ag:Hl n L ops i=some ⟨d,.load t x,ty,p,af,g⟩:=by exact rfl) (al:ev L x=some (.pointer (some ⟨bk,o,none⟩)):=by exact rfl)
  (am:S[j]? =some [(bk,.cells c e f)]:=by exact rfl) (ap:K=vs.length:=by exact rfl) (aq:AO bks bk=true:=by simp [AO]) (av:GJ ops listed m i=true:=by decide+kernel):AT J Q b n ds ops k cs m (AO bks) (fuel+1) listed L (Al E H S):=
 A0 i O V ag (λρ h s' hs=>FR (vs:=vs) Y (by rw [← ap];exact Z) (h _ _ al) (λq w aw=>by rw [El rfl];exact Ca j U am aq hs (hw q w aw))) ac av
theorem JG.ix{D:Nat->Bool}{α:Type}{xs:List α}{xv:α}{K:Int}{bk c O U:Nat}{kd:IntKind}(i:Nat)(Y:EB ops m=true)(Z:xs.length=U)(hm:ix xs K=some xv)(ht:P.underlying t=some (.slice e))(ac:Bv P e=some O)
  (ag:AT J Q b n ds ops k cs m D fuel (Bi listed i) (AB L d (.pointer (some ⟨bk,K.toNat*O,none⟩))) s) (al:s.q=false:=by exact rfl) (am:Hl n L ops i=some ⟨d,.indexAddr t x y,ty,p,af,g⟩:=by exact rfl)
  (ap:ev L x=some (.slice (some ⟨bk,0,none⟩) U c):=by exact rfl) (aq:ev L y=some (.int kd K):=by exact rfl) (av:GJ ops listed m i=true:=by decide+kernel):AT J Q b n ds ops k cs m D (fuel+1) listed L s:=
 A0 i Y al am (λρ h s' hs=>FT Z hm ht ac (h _ _ ap) (h _ _ aq)) ag av
theorem JB.ix{D:Nat->Bool}{α:Type}{xs:List α}{xv:α}{K:Int}{bk c O U:Nat}{kd:IntKind}(i:Nat)(Y:xs.length=U)(hm:ix xs K=some xv)(ht:P.underlying t=some (.slice e))(Z:Bv P e=some O)
  (ac:Gd J Q b n ds ops k cs (AO xl) D fuel (Bi listed i) (AB L d (.pointer (some ⟨bk,K.toNat*O,none⟩))) s) (ag:s.q=false:=by exact rfl) (al:Hl n L ops i=some ⟨d,.indexAddr t x y,ty,p,af,g⟩:=by exact rfl)
  (am:ev L x=some (.slice (some ⟨bk,0,none⟩) U c):=by exact rfl) (ap:ev L y=some (.int kd K):=by exact rfl) (aq:Kf ops listed xl true i=true:=by decide+kernel):Gd J Q b n ds ops k cs (AO xl) D (fuel+1) listed L s:=
 ED i true ag al (λρ h s' hs=>FT Y hm ht Z (h _ _ am) (h _ _ ap)) ac aq
theorem OC{bk o K:Nat}{c:Av_}{f:Nat×Nat}(i:Nat)(vs:Lv_)(j:Nat)(O:As E H S)(hw:∀(q:Nat) w,vs[q]? =some w->c[o+q]? =some w)(U:Dc P t=some true)(Y:Bv P t=some K)
  (Z:Gd J Q b n ds ops k cs (AO xl) (AO bks) fuel (Bi listed i) (AB L d (.agg vs.toArray)) (Al E H S)) (ac:Hl n L ops i=some ⟨d,.load t x,ty,p,af,g⟩:=by exact rfl) (ag:ev L x=some (.pointer (some ⟨bk,o,none⟩)):=by exact rfl)
  (al:S[j]? =some [(bk,.cells c e f)]:=by exact rfl) (am:K=vs.length:=by exact rfl) (ap:AO bks bk=true:=by simp [AO]) (aq:Kf ops listed xl false i=true:=by decide+kernel):Gd J Q b n ds ops k cs (AO xl) (AO bks) (fuel+1) listed L (Al E H S):=
 ED i false V ac (λρ h s' hs=>FR (vs:=vs) U (by rw [← am];exact Y) (h _ _ ag) (λq w av=>by rw [El rfl];exact Ca j O al ap (hs rfl) (hw q w av))) Z aq
theorem Ex{bk off K:Nat}{c:Av_}{D:Nat->Bool}(i j:Nat)(O:As E H S)(U:Bv P t=some K)(hle:off+K<=c.size)
  (h:As E H (S.set j [(bk,.cells (Be c off v.cells.toList) e (0,0))])->Gd J Q b n ds ops k cs (AO xl) D fuel (Bi listed i) (AB L d undef) (Al E H (S.set j [(bk,.cells (Be c off v.cells.toList) e (0,0))])))
  (Y:Hl n L ops i=some ⟨d,.store t x y,ty,p,af,g⟩:=by exact rfl) (Z:ev L x=some (.pointer (some ⟨bk,off,none⟩)):=by exact rfl) (ac:ev L y=some v:=by exact rfl) (ag:S[j]? =some [(bk,.cells c e (0,0))]:=by exact rfl)
  (al:K=v.cells.size:=by exact rfl) (am:v.cells.toList.all Dv=true:=by first | exact rfl | simp [Value.cells,Dv]) (ap:Region.ready .any ops listed= [i]:=by decide+kernel) (aq:AO xl i=true:=by decide+kernel):
  Gd J Q b n ds ops k cs (AO xl) D (fuel+1) listed L (Al E H S):=by
 obtain⟨av,aw,ay⟩:=PL Y;subst al;exact JB.store i j ap aq av aw ay O Z ac U (List.all_eq_true.1 am) ag hle h
end
abbrev s8(s:Nat):Value:= .int .u8 (s:Int)
def ON(a:Nat)(n:Int):Option Nat:=if 0<=n/\n<=8 then some (a>>>n.toNat) else none
def LW(a b:Nat):Option Nat:=if a<256/\b<256 then some (a ||| b) else none
def OO(a b:Nat):Option Nat:=if a<256/\b<256 then some (a&&& b) else none
variable {a c:Nat}
section
variable {x y:Operand}{b r:Nat}{m:Int}
theorem UT{m:Nat}(h:m<256):IntKind.u8.wrap (m:Int)=m:=by
 simp only [IntKind.wrap,IntKind.bits,IntKind.signed];simp;omega
theorem O0{m:Nat}(h:m<256):(BitVec.ofInt IntKind.u8.bits (m:Int)).toNat=m:=by
 simp [IntKind.bits,BitVec.toNat_ofInt];omega
theorem cR{k:Nat}(a c:Nat)(K:c<=k):((a:Int).fdiv (2 ^ (min c k)))=((a>>>c:Nat):Int):=by
 rw [Nat.min_eq_left K,Nat.shiftRight_eq_div_pow,Int.fdiv_eq_ediv_of_nonneg _ (Int.pow_nonneg (by decide)),Int.natCast_ediv]
 rfl
theorem SJ(K:ρ x=s8 a)(O:ρ y=iV m)(h:ON a m=some r):Yl P ⟨d,.binOp .shr t x y u,ty,p,af,g⟩ ρ s (s8 r):=by
 unfold ON at h;split at h
 ·rename_i U;cases h;have h:=Yl.shr (P:=P) (s:=s) (d:=d) (t:=t) (u:=u) (ty:=ty) (p:=p) (af:=af) (g:=g) K O U.1;rw [show IntKind.u8.bits=8 from rfl,cR a m.toNat (by omega)] at h;exact h
 ·cases h
theorem NQ(O:ρ x=s8 a)(U:ρ y=s8 b)(h:LW a b=some r):Yl P ⟨d,.binOp .or t x y u,ty,p,af,g⟩ ρ s (s8 r):=by
 unfold LW at h;split at h
 ·rename_i K;cases h;have h:=Yl.or (P:=P) (s:=s) (d:=d) (t:=t) (u:=u) (ty:=ty) (p:=p) (af:=af) (g:=g) O U;rw [BitVec.toNat_or,O0 K.1,O0 K.2,UT (Nat.or_lt_two_pow (n:=8) K.1 K.2)] at h;exact h
 ·cases h
theorem SL(O:ρ x=s8 a)(U:ρ y=s8 b)(h:OO a b=some r):Yl P ⟨d,.binOp .and t x y u,ty,p,af,g⟩ ρ s (s8 r):=by
 unfold OO at h;split at h
 ·rename_i K;cases h;have h:=Yl.and (P:=P) (s:=s) (d:=d) (t:=t) (u:=u) (ty:=ty) (p:=p) (af:=af) (g:=g) O U;rw [BitVec.toNat_and,O0 K.1,O0 K.2,UT (Nat.lt_of_le_of_lt Nat.and_le_left K.1)] at h;exact h
 ·cases h
end
def Qy(a b:Nat):Option Nat:=if a<4294967296/\b<4294967296 then some (a&&& b) else none
def QF(a:Nat)(n:Int):Option Nat:=if 0<=n/\n<=32/\a*2 ^ n.toNat<4294967296 then some (a*2 ^ n.toNat) else none
def KU(n:Int):Option Nat:=if 0<=n/\n<=8 then some ((1<<<n.toNat) % 256) else none
section
variable {e:TypeId}{x y:Operand}{b r:Nat}{m:Int}
theorem wrap32{m:Nat}(h:m<4294967296):IntKind.u32.wrap (m:Int)=m:=by
 simp only [IntKind.wrap,IntKind.bits,IntKind.signed];simp;omega
theorem UU{m:Nat}(h:m<4294967296):(BitVec.ofInt IntKind.u32.bits (m:Int)).toNat=m:=by
 simp [IntKind.bits,BitVec.toNat_ofInt];omega
theorem WI(O:ρ x= .int .u32 (a:Int))(U:ρ y= .int .u32 (b:Int))(h:Qy a b=some r):Yl P ⟨d,.binOp .and t x y u,ty,p,af,g⟩ ρ s (.int .u32 (r:Int)):=by
 unfold Qy at h;split at h
 ·rename_i K;cases h;have h:=Yl.and (P:=P) (s:=s) (d:=d) (t:=t) (u:=u) (ty:=ty) (p:=p) (af:=af) (g:=g) O U;rw [BitVec.toNat_and,UU K.1,UU K.2,wrap32 (Nat.lt_of_le_of_lt Nat.and_le_left K.1)] at h;exact h
 ·cases h
theorem Wv(O:ρ x= .int .u32 (a:Int))(U:ρ y=iV m)(h:QF a m=some r):Yl P ⟨d,.binOp .shl t x y u,ty,p,af,g⟩ ρ s (.int .u32 (r:Int)):=by
 unfold QF at h;split at h
 ·rename_i K;cases h;have h:=Yl.shl (P:=P) (s:=s) (d:=d) (t:=t) (u:=u) (ty:=ty) (p:=p) (af:=af) (g:=g) O U K.1;have e:IntKind.u32.wrap ((a:Int)*2 ^ (min m.toNat IntKind.u32.bits))=((a*2 ^ m.toNat:Nat):Int):=by
   have Y:min m.toNat IntKind.u32.bits=m.toNat:=by simp [IntKind.bits];omega
   rw [Y,← wrap32 K.2.2];simp
  rw [e] at h;exact h
 ·cases h
theorem Mr(K:ρ x=s8 1)(O:ρ y=iV m)(h:KU m=some r):Yl P ⟨d,.binOp .shl t x y u,ty,p,af,g⟩ ρ s (s8 r):=by
 unfold KU at h;split at h
 ·rename_i U;cases h;have h:=Yl.shl (P:=P) (s:=s) (d:=d) (t:=t) (u:=u) (ty:=ty) (p:=p) (af:=af) (g:=g) K O U.1;have e:IntKind.u8.wrap (((1:Nat):Int)*2 ^ (min m.toNat IntKind.u8.bits))=(((1<<<m.toNat) % 256:Nat):Int):=
   (by decide:∀k:Fin 9,IntKind.u8.wrap (((1:Nat):Int)*2 ^ (min k.1 IntKind.u8.bits))=(((1<<<k.1) % 256:Nat):Int)) ⟨m.toNat,by omega⟩
  rw [e] at h;exact h
 ·cases h
theorem XC(K:ρ x=s8 a)(O:ρ y=s8 b)(hb:b<=256):Yl P ⟨d,.binOp .sub t x y u,ty,p,af,g⟩ ρ s (s8 ((a+(256 - b)) % 256)):=by
 have h:=Yl.sub (P:=P) (s:=s) (d:=d) (t:=t) (u:=u) (ty:=ty) (p:=p) (af:=af) (g:=g) K O;have e:IntKind.u8.wrap ((a:Int) - (b:Int))=(((a+(256 - b)) % 256:Nat):Int):=by
  simp only [IntKind.wrap,IntKind.bits,IntKind.signed];simp;omega
 rw [e] at h;exact h
theorem Y0{kd:IntKind}{E:LH}(xs:List Nat):(rA xs.length (rN kd)).r E (xs.map λx=>Value.int kd ((x:Nat):Int)) xs:=by
 refine⟨V,xs.map λx=> [Value.int kd ((x:Nat):Int)],?_,by simp,λi x us K hu=>?_⟩
 ·induction xs with
  | nil=>rfl
  | cons x xs O=>simp [← O]
 ·rw [List.getElem?_map,K] at hu;exact(Option.some.inj hu).symm
theorem NF{α:Type}{kk:Nat}{pp:Rp α}{E:LH}{us:Lv_}{x:α}(h:pp.r E us x):(rA kk pp).r E (List.replicate kk us).flatten (List.replicate kk x):=
 ⟨by simp,List.replicate kk us,V,by simp,λi y ws K hw=>by
  rw [List.getElem?_replicate] at K hw
  split at K
  ·rename_i O
   rw [if_pos O] at hw
   cases K;cases hw
   exact h
  ·cases K⟩
theorem XT{k K:Nat}{z v:Value}(ht:P.underlying t=some (.array k e))(O:zeroOf P t=some z)(U:Bv P e=some K)(Y: .agg z.cells=v):Yl P ⟨d,.build t #[],ty,p,af,g⟩ ρ s v:=by
 refine FQ PC ?_;unfold Instr.build;refine Az (x:=zeroValue t) _ (Hu O ?_);refine Az _ _ (Cx ht ?_);refine Az (x:=Go.sizeOf e) _ (Fb U ?_);subst Y;simp [Instr.fill,lp,pure]
theorem Zj{k K:Nat}{z v:Value}{L:Env}{U:Array (Nat×Operand)}{vs:List (Nat×Value)}(h:Ff L ρ)(ht:P.underlying t=some (.array k e))(Z:zeroOf P t=some z)(ac:Bv P e=some K)(ag:U.toList.mapM (λq=>(ev L q.2).map λv=>(q.1,v))=some vs)(O:(Instr.fill (λi=>some (i*K,K)) z.cells vs).map Value.agg=some v):Yl P ⟨d,.build t U,ty,p,af,g⟩ ρ s v:=by
 refine FQ PC ?_;unfold Instr.build;refine Az (x:=zeroValue t) _ (Hu Z ?_);refine Az _ _ (Cx ht ?_);refine Az (x:=Go.sizeOf e) _ (Fb ac ?_);have al:=PM h ag;have am:(U.map λ(j,x)=>(j,ρ x)).toList=vs:=by rw [← al,Array.toList_map]
 rw [am];cases Y:Instr.fill (λi=>some (i*K,K)) z.cells vs with
 | none=>rw [Y] at O;cases O
 | some cells=>rw [Y] at O;cases O;exact⟨rfl,rfl⟩
end
section
variable {e:TypeId}
end
section
variable {fuel:Nat}{listed:Array Bool}
variable {x y:Operand}{e:TypeId}{i:Nat}
end
def Hm(b:Frame)(T:Av_)(ds:Ld_)(todo:Li_)(ch:List PanicEntry):Frame:={b with tmps:=T,todo:=todo,defers:=ds,mode:= .panicking ch}
def raised(v:Value):List PanicEntry:= [{v,recovered:=false}]
def taken(v:Value):List PanicEntry:= [{v,recovered:=true}]
section
variable (J:Judge P)(Q:Gs_)
def JP(b:Frame)(n:Nat)(L:Env)(ds:Ld_)(cs:Lf_)(ch:List PanicEntry)(s:St):Prop:=
 ∀T,Has n L T->∀todo,J.ok Q (G (Hm b T ds todo ch) cs) s
end
variable {bc:Frame}{dsc:Ld_}{ch:List PanicEntry}{T Tc:Av_}{todoc:Li_}
section
variable {i:Nat}{x:Operand}
theorem JL.panic{t:TypeId}(O:ops[i]? =some ⟨d,.panic x,ty,p,af,g⟩)(U:b.roundOf=none)(hw:AY L ops ⟨d,.panic x,ty,p,af,g⟩=some true)(Y:ev L x=some (.iface t v))
  (h:JP J Q b n L ds cs (raised (.iface t v)) s):JL J Q b n L ds (.inRegion ops (i::rest)::k) cs s:=λT K=>
 Judge.DC V (λw=>by
  have he:execOp (BK T) ⟨d,.panic x,ty,p,af,g⟩= .halt (.panic (.iface t v)):=by
   simp [execOp,Instr.panic,K.ev Y,goPanic,bind,Sem.bind]
  rw [stepG_op O (Cq K hw)]
  simp [U,stepG.apply,he,Sem.run,Sem.runT,Sem.events,GStep.after,fr,Hm,Frame.raise,G,raised,seen_none]) (h T K (.inRegion ops (i::rest)::k))
theorem JP.pop{fn:Func}(K:P.funcs[b.fn]? =some fn)(h:J.ok Q (G (Hm bc Tc dsc todoc ch) cs) s):JP J Q b n L [] (fr bc Tc dsc todoc::cs) ch s:=λT O todo=>
 Judge.DC V (λw=>by simp [G,stepG,unwind,Hm,fr,Frame.raise,Frame.catches,K]) h
theorem JP.Qm{f:FuncId}{fn:Func}{c:Code}{vs caps:Lv_}(am:b.roundOf=none)(O:P.funcs[f]? =some fn)(Y:(fn.name== "runtime.NumGoroutine")=false)(hb:fn.body=some c)(Z:(vs++caps).length<=fn.ntmps)
  (h:∀T,Has n L T->∀todo,JL J Q (baseD f) fn.ntmps (GG 0 (vs++caps)) [] [.code c] (Hm b T ds todo ch::cs) s):JP J Q b n L (KT f vs.toArray caps.toArray::ds) cs ch s:=λT ac todo=>by
 have ag:¬fn.name= "runtime.NumGoroutine" :=by simpa using Y
 refine Judge.DC rfl (λw=>?_) (h T ac todo ((vs++caps).toArray++Array.replicate (fn.ntmps - (vs++caps).length) undef) ⟨by simp;simp at Z;omega,λt v ht=>?_⟩)
 ·rw [BW (b:=baseD f) rfl];have:=enter_atD (P:=P) (vs++caps).toArray O hb;simp only [List.size_toArray] at this;rw [← this];simp [G,stepG,unwind,callDeferred,Hm,KT,invoke,callFunc,O,ag,hb,GStep.after,seen_none]
 ·obtain⟨_,K⟩:=JV ht;have al:t<(vs++caps).length:=by
   rcases Nat.lt_or_ge t (vs++caps).length with U | U
   ·exact U
   ·simp only [Nat.sub_zero] at K;have:=(List.getElem?_eq_some_iff.1 K).1;omega
  rw [Array.getD_eq_getD_getElem?,Array.getElem?_append_left (by simpa using al)];simp only [Nat.sub_zero] at K;rw [List.getElem?_toArray,K];rfl
theorem Vx{ats:Array TypeId}{K:List PanicEntry}(O:ops[i]? =some ⟨d,.call ⟨.builtin .recover,#[],ats⟩,ty,p,af,g⟩)(U:b.roundOf=none)(Y:b.kind= .deferred)(ag:Br n d=true)(hw:AY L ops ⟨d,.call ⟨.builtin .recover,#[],ats⟩,ty,p,af,g⟩=some true)
  (h:JL J Q b n (AB L d v) ds (.inRegion ops rest::k) (Hm bc Tc dsc todoc ({v,recovered:=true}::K)::cs) s):
  JL J Q b n L ds (.inRegion ops (i::rest)::k) (Hm bc Tc dsc todoc ({v,recovered:=false}::K)::cs) s:=λT Z=>
 Judge.DC V (λw=>by
  have he:execOp (BK T) ⟨d,.call ⟨.builtin .recover,#[],ats⟩,ty,p,af,g⟩= .pure .recover:=by
   simp [execOp,resolve,Deferred.ofValue,invoke,bind,Sem.bind,pure,Go.builtin]
  have ac:=GV (b:=b) (ds:=ds) (k:=k) T ops i rest v _ O
  simp only [fr,U,Y] at ac
  rw [stepG_op O (Cq Z hw)]
  simp [U,Y,stepG.apply,he,Sem.run,Sem.runT,Sem.events,GStep.after,fr,Hm,tryRecover,G,seen_none,ac]) (h _ (Z.put ag _))
theorem VA{ats:Array TypeId}(K:ops[i]? =some ⟨d,.call ⟨.builtin .recover,#[],ats⟩,ty,p,af,g⟩)(O:b.roundOf=none)(U:b.kind= .deferred)(ac:Br n d=true)(hw:AY L ops ⟨d,.call ⟨.builtin .recover,#[],ats⟩,ty,p,af,g⟩=some true)
  (h:JL J Q b n (AB L d .nilIface) ds (.inRegion ops rest::k) (EM bc Tc dsc todoc::cs) s):
  JL J Q b n L ds (.inRegion ops (i::rest)::k) (EM bc Tc dsc todoc::cs) s:=λT Y=>
 Judge.DC V (λw=>by
  have he:execOp (BK T) ⟨d,.call ⟨.builtin .recover,#[],ats⟩,ty,p,af,g⟩= .pure .recover:=by
   simp [execOp,resolve,Deferred.ofValue,invoke,bind,Sem.bind,pure,Go.builtin]
  have Z:=GV (b:=b) (ds:=ds) (k:=k) T ops i rest .nilIface _ K
  simp only [fr,O,U] at Z
  rw [stepG_op K (Cq Y hw)]
  simp [O,U,stepG.apply,he,Sem.run,Sem.runT,Sem.events,GStep.after,fr,EM,tryRecover,G,seen_none,Z]) (h _ (Y.put ac _))
theorem JO.bm{fn:Func}(O:b.kind= .deferred)(U:P.funcs[b.fn]? =some fn)(K:fn.results= #[])(h:J.ok Q (G (EM bc Tc dsc todoc) cs) s):JO J Q b n L [] (Hm bc Tc dsc todoc (taken v)::cs) s:=λT Z todo=>by
 refine Judge.DC rfl (λw=>?_) h
 have Y:=results_none K T P w
 have e2:=λ(x:Array Event)=>events_results_none (P:=P) (w:=w) K T x
 simp [G,stepG,unwind,EM,Hm,U,Y,e2,doReturn,O,GStep.after,seen_none,taken]
end
open Go.Proofs
abbrev Dq:=Int×Int×Int
abbrev AE:=List Dq
abbrev A2:=List AE
abbrev Bq:=List (List Int)
abbrev AU:=Bq×AE
abbrev Av:=rP rI BX
open Go.Proofs.Tryz
def AG:=AZ Tryz.type3
def AR:=AZ Tryz.type27
def Gl:=AZ Tryz.type101
def Jh:=AZ Tryz.type105
def M9:=AZ Tryz.type227
def AX:=C4 Tryz.underlying3
def L6:=A5 Tryz.func91 rfl
def Dr:=AZ Tryz.type22
def Ec:=C4 Tryz.underlying22
def Cj:=AZ Tryz.type23
def Ej:=C4 Tryz.underlying23
def CO:=C4 Tryz.underlying27
def By:=Dz Tryz.type27
def EP:=AZ Tryz.type28
def G7:=C4 Tryz.underlying28
def K6:=Dz Tryz.type105
def Bz:=AZ Tryz.type25
def IT:=C4 Tryz.underlying105
def Jg:=Dz Tryz.type101
def Ht:=Dz Tryz.type77
def B7:=C4 Tryz.underlying25
def Ed:=AZ Tryz.type77
def F4:=C4 Tryz.underlying77
def CL:=Dz Tryz.type3
def JK:=A5 Tryz.func70 rfl
def Pe:=A5 Tryz.func84 rfl
def Ik:=A5 Tryz.func74 rfl
def Mc:=AZ Tryz.type4
def O5:=C4 Tryz.underlying4
def Bt:=AZ Tryz.type80
def BO:=C4 Tryz.underlying80
def HR:=AZ Tryz.type197
def HQ:=A5 Tryz.func85 rfl
def K9:=Dz Tryz.type28
def Ma:=Dz Tryz.type4
def M1:=A5 Tryz.func115 rfl
def K8:=Dz Tryz.type209
def Ij:=A5 Tryz.func204 rfl
def Pg:=Dz Tryz.type80
def MW:=C4 Tryz.underlying167
def O4:=C4 Tryz.underlying83
def L9:=A5 Tryz.func71 rfl
def O9:=A5 Tryz.func205 rfl
def O8:=A5 Tryz.func179 rfl
def O7:=A5 Tryz.func137 rfl
def M3:=A5 Tryz.func114 rfl
def Kt:=C4 Tryz.underlying197
def Pa:=Dz Tryz.type227
def MX:=C4 Tryz.underlying227
def JN:=AZ Tryz.type156
def M7:=Dz Tryz.type156
def MY:=C4 Tryz.underlying156
def Hs:=C4 Tryz.underlying21
def Na:=AZ Tryz.type85
def G8:=Dz Tryz.type25
def M8:=A5 Tryz.func67 rfl
def O6:=A5 Tryz.func110 rfl
def M5:=A5 Tryz.func63 rfl
def L8:=A5 Tryz.func29 rfl
def Pf:=A5 Tryz.func26 rfl
def K7:=A5 Tryz.func92 rfl
def JR:=AZ Tryz.type72
def M0:=C4 Tryz.underlying72
def JM:=A5 Tryz.func36 rfl
def Pd:=A5 Tryz.func37 rfl
def MZ:=C4 Tryz.underlying125
def FH:=AZ Tryz.type125
def IU:=Dz Tryz.type125
def Mb:=AZ Tryz.type205
def Pb:=Dz Tryz.type205
theorem mixed:Tryz.prog.follows .mixedOrders=true:=rfl
theorem UD:Cr Tryz.prog 27 (rP rI (rP rI rI)) true 2:=Cr.three underlying27 (Cr.int underlying3 AG) (Cr.int underlying3 AG) (Cr.int underlying3 AG) (by decide+kernel) (by decide) (by decide) (by decide) V V V AR
theorem bK:Cr Tryz.prog 101 (rP rI rI) true 2:=Cr.two underlying101 (Cr.int underlying3 AG) (Cr.int underlying3 AG) (by decide+kernel) (by decide) (by decide) V V Gl
theorem aR:Cr Tryz.prog 105 (rA 5 rI) true 2:=Cr.arr (kk:=5) (Cr.int underlying3 AG) underlying105 Jh
theorem bp:Cr Tryz.prog 225 (rA 10 rI) true 2:=Cr.arr (kk:=10) (Cr.int underlying3 AG) underlying225 (AZ type225)
theorem Un:Cr Tryz.prog 227 (rA 5 (rA 10 rI)) true 3:=Cr.arr (kk:=5) bp underlying227 M9
theorem ZI:Cr Tryz.prog 249 (rP (rN .u8) (rA 5 (rA 10 rI))) true 4:=Cr.two underlying249 ((Cr.nat underlying5 (AZ type5)).up (by decide)) Un (by decide+kernel) (by decide) (by decide) V V (AZ type249)
theorem I6:G0 Tryz.prog 3 rI false:=(Cr.int underlying3 AG).key (by decide)
theorem Qp:G0 Tryz.prog 101 (rP rI rI) true:=bK.key (by decide)
theorem Uo:G0 Tryz.prog 227 (rA 5 (rA 10 rI)) true:=Un.key (by decide)
theorem Us:G0 Tryz.prog 249 (rP (rN .u8) (rA 5 (rA 10 rI))) true:=ZI.key (by decide)
variable {J:Judge Tryz.prog}
def f91(fu_:Nat)(p0:Int)(p1:Int)(p2:Int):Option Bool:= Option.bind (if p1<=p0 then(some (decide (p0<=p2))) else(some false)) λK=> some K
theorem ML{p0:Int}{p1:Int}{p2:Int}{fu_:Nat}{r:Bool}(K:f91 fu_ p0 p1 p2=some r):AP J 91 [iV p0,iV p1,iV p2] E [] (λw E' B'=>w= .bool r/\B'= []):=by
 refine Bg func91 λQ aw cs H O Y=>?_;unfold f91 at K;obtain⟨Z,ac,ag⟩:=bs K;refine C 10 V (Fx 8 1 [] [(14,.bool Z)] (λay al am=>?_) (λU=>?_))
 ·refine C 2 V ?_;obtain rfl:=oi ag;exact AL func91 V V (Y al V ⟨V,V⟩ am)
 ·refine FV 10 ac (λap aq=>?_) (λap av=>?_)
  ·refine C 4 V ?_;obtain rfl:=oi aq;exact U Ax O V
  ·refine C 4 V ?_;obtain rfl:=oi av;exact U Ax O V
def f86(fu_:Nat)(p0:Int×Int×Int)(p1:Int)(p2:Int):Option Int:= (Aw (p1 - 1)).bind λK=> (f91 fu_ p0.1 0 K).bind λO=> Option.bind (if(!O)=true then(some true) else((Aw (p1 - 1)).bind λU=> (f91 fu_ p0.2.1 0 U).bind λY=> some (!Y))) λZ=> if Z=true then(some 3) else(if p0.1=p0.2.1 then(some 8) else((f91 fu_ p0.2.2 1 p2).bind λac=> if(!ac)=true then(some 1) else(some 0)))
theorem cX{p0:Int×Int×Int}{p1:Int}{p2:Int}{fu_:Nat}{r:Int}(ag:f86 fu_ p0 p1 p2=some r):AP J 86 [.agg #[iV p0.1,iV p0.2.1,iV p0.2.2],iV p1,iV p2] E [] (λw E' B'=>w=iV r/\B'= []):=by
 refine Bg func86 λQ ce cs H av Y=>?_;unfold f86 at ag;refine C 2 V (Cf av λr2 ci Z U aw=>?_);refine C 6 V (Bx 0 U underlying27 AG AX ?_);obtain⟨co,ay,az⟩:=bs ag;refine C 1 V (Cm ay V V V ?_);obtain⟨a0,a1,a2⟩:=bs az;refine Ck (ML a1) V V L6 aw λcp K al=>Aq (v:= .bool (!a0)) V (λρ h=>Yl.not (h _ _ V)) ?_;obtain⟨a3,a4,a5⟩:=bs a2;refine C 1 V (Fx 14 1 [] [(2,iV p2),(3,Am r2 0),(21,.bool a3)] (λct O ac=>?_) (λam=>?_))
 ·refine C 2 V (Cc a5 (λa6 a7=>?_) (λa6 a8=>?_))
  ·refine C 4 V ?_;obtain rfl:=oi a7;exact AL func86 V V (Y ((Z.I K).I O) V ⟨V,V⟩ ac)
  ·refine C 2 V (Bx 0 (U.M (K.I O)) underlying27 AG AX ?_);refine Bx 1 (U.M (K.I O)) underlying27 AG AX ?_;refine C 3 V (AN a8 (λa9 bb=>?_) (λa9 be=>?_))
   ·refine C 4 V ?_;obtain rfl:=oi bb;exact AL func86 V V (Y ((Z.I K).I O) V ⟨V,V⟩ ac)
   ·refine C 2 V (Bx 2 (U.M (K.I O)) underlying27 AG AX ?_);obtain⟨bi,bn,bo⟩:=bs be;refine C 1 V (Ck (ML bn) V V L6 ac λcw ap aq=>?_);refine Aq (v:= .bool (!bi)) V (λρ h=>Yl.not (h _ _ V)) (C 2 V ?_);refine Cc bo (λbv bw=>?_) (λbv bx=>?_)
    ·refine C 4 V ?_;obtain rfl:=oi bw;exact AL func86 V V (Y (((Z.I K).I O).I ap) V ⟨V,V⟩ aq)
    ·refine C 6 V ?_;obtain rfl:=oi bx;exact AL func86 V V (Y (((Z.I K).I O).I ap) V ⟨V,V⟩ aq)
 ·refine EV 14 a4 (λbz b0=>?_) (λbz b1=>?_)
  ·refine C 7 V ?_;obtain rfl:=oi b0;exact am Ax al V
  ·refine Bx 1 (U.M K) underlying27 AG AX ?_;obtain⟨cy,b2,b3⟩:=bs b1;refine C 1 V (Cm b2 V V V ?_);obtain⟨b4,b5,b6⟩:=bs b3;refine Ck (ML b5) V V L6 al λc0 ca cc=>Aq (v:= .bool (!b4)) V (λρ h=>Yl.not (h _ _ V)) (C 1 V ?_);obtain rfl:=oi b6;exact am ca cc V
def Ob(fu_:Nat)(O:List Int)(K:Int):Option (Bo Int ((Int)⊕(Unit))):= if K<(O.length:Int) then((ix O K).bind λU=> (f91 fu_ U 1 9).bind λY=> if(!Y)=true then(some (.done (Sum.inl 1))) else((Aw (K+1)).bind λZ=> some (.more Z))) else(some (.done (Sum.inr ())))
def Oh(fu_:Nat)(p0:AU)(K:Int):Option (Bo Int ((Int)⊕(Unit))):= if K<(p0.1.length:Int) then((ix p0.1 K).bind λO=> if 3<(O.length:Int) then(some (.done (Sum.inl 6))) else(Option.bind (iter (Ob fu_ O) fu_ 0) λU=> Sum.elim (λr=>some (.done (Sum.inl r))) (λZ=> (Aw (K+1)).bind λY=> some (.more Y)) U)) else(some (.done (Sum.inr ())))
def T4(fu_:Nat)(p0:AU)(K:Int):Option (Bo Int ((Int)⊕(Unit))):= if K<(p0.2.length:Int) then((ix p0.2 K).bind λU=> (f86 fu_ U (p0.1.length:Int) 9).bind λO=> if O≠0 then(some (.done (Sum.inl O))) else((Aw (K+1)).bind λY=> some (.more Y))) else(some (.done (Sum.inr ())))
def f47(fu_:Nat)(p0:AU):Option Int:= if(p0.1.length:Int)<2 then(some 7) else(if 5<(p0.1.length:Int) then(some 6) else(Option.bind (iter (Oh fu_ p0) fu_ 0) λK=> Sum.elim (λr=>some r) (λU=> if 8<(p0.2.length:Int) then(some 6) else(Option.bind (iter (T4 fu_ p0) fu_ 0) λO=> Sum.elim (λr=>some r) (λY=> some 0) O)) K))
theorem cu{a1:Ap}{c2:Nat}{aw:Ap}{ay:Nat}{p0:AU}(cw:An (rL rI) E a1 c2 p0.1)(cy:An Av E aw ay p0.2){fu_:Nat}{r:Int}(a8:f47 fu_ p0=some r):AP J 47 [.agg #[sV a1 p0.1 c2,sV aw p0.2 ay]] E [] (λw E' B'=>w=iV r/\B'= []):=by
 refine Bg func47 λQ e9 cs H c0 O=>?_;unfold f47 at a8;refine C 2 V (Cf c0 λY c1 K Z az=>?_);refine C 5 V (Bx 0 Z underlying25 Dr Ec ?_);refine JL.ln underlying22 V V V (C 9 V ?_);refine AN a8 (λc3 c4=>?_) (λc3 c5=>?_)
 ·refine C 4 V ?_;obtain rfl:=oi c4;exact AL func47 V V (O K V ⟨V,V⟩ az)
 ·refine C 6 V (AN c5 (λc6 c7=>?_) (λc6 c8=>?_))
  ·refine C 4 V ?_;obtain rfl:=oi c7;exact AL func47 V V (O K V ⟨V,V⟩ az)
  ·refine C 5 V (Bx 0 Z underlying25 Dr Ec ?_);refine JL.ln underlying22 V V V ?_;obtain⟨a9,c9,a0⟩:=bs c8;refine C 2 V (Bs (λL s=>∃(bb:Unit) (a2:LH),a9=Sum.inr bb/\Jm c1 H a2 [] [(1,Am Y 0)] L s) ?_ ?_)
   ·rintro _ _ ⟨bb,a2,rfl,rfl,rfl,U,be⟩;have dd:=elim_inr a0;refine C 3 V (Bx 1 (Z.M U) underlying25 Cj Ej ?_);refine JL.ln underlying23 V V V (C 2 V ?_);refine AN dd (λdn dJ=>?_) (λdn dK=>?_)
    ·refine C 4 V ?_;obtain rfl:=oi dJ;exact AL func47 V V (O (K.I U) V ⟨V,V⟩ be)
    ·refine C 4 V (Bx 1 (Z.M U) underlying25 Cj Ej ?_);refine JL.ln underlying23 V V V ?_;obtain⟨bi,dL,bn⟩:=bs dK;refine C 2 V (Bs (λL s=>∃(bo:Unit) (bv:LH),bi=Sum.inr bo/\Jm a2 H bv [] [] L s) ?_ ?_)
     ·rintro _ _ ⟨bo,bv,rfl,rfl,rfl,dM,dN⟩;have dO:=elim_inr bn;refine C 4 V ?_;obtain rfl:=oi dO;exact AL func47 V V (O ((K.I U).I dM) V ⟨V,V⟩ dN)
     ·intro dQ;refine JL.block (CN dL (λa3=> []) (λa3=> [(1,Am Y 0),(46,sV aw p0.2 ay),(47,iV (p0.2.length:Int)),(48,iV a3)]) Ax be ?_);rintro a3 dR ac bw bx ⟨fa,ap⟩ dS;have bz:=ap;unfold T4 at bz;refine C 5 V (AN bz (λdT dU=>?_) (λdT dV=>?_))
      ·obtain⟨fb,dW,dX⟩:=bs dU;refine C 5 V (JS.ix (cy.M ((K.I U).I ac)) dW underlying23 AR ?_);rintro fc fe _ ⟨_,_,rfl,rfl,⟨_,_,rfl,rfl,rfl⟩⟩ dY;refine B3 dY CO AR V V (B5 bw By λff dZ=>?_);refine BA 0 dZ AR λea=>?_;refine DO 0 ea V λfg a4 eb ec=>C 3 V (B3 eb CO AR V V ?_);refine Bx 0 (Z.M ((U.I ac).I a4)) underlying25 Dr Ec ?_;refine JL.ln underlying22 V V V ?_;obtain⟨fh,ed,ee⟩:=bs dX;refine Ck (cX ed) V V (A5 func86 V) ec λfj b0 b1=>C 7 V (AN ee (λef eg=>?_) (λef eh=>?_))
       ·refine C 5 V ?_;obtain rfl:=oi eg;obtain rfl:=bx _ ap;have ei:=elim_inl bn;obtain rfl:=oi ei;exact AL func47 V V (O ((((K.I U).I ac).I a4).I b0) V ⟨V,V⟩ b1)
       ·obtain⟨ej,ek,el⟩:=bs eh;refine C 3 V (Bn ek V V V ?_);refine C 2 V ?_;obtain rfl:=oi el;exact dS ej ((ac.I a4).I b0) b1 V ap
      ·refine JL.exit V ?_;obtain rfl:=oi dV;have em:bi=(Sum.inr ()):=(bx _ ap).symm;exact AF (dQ _ _ ⟨(),dR,em,V,V,ac,bw⟩) V
   ·intro en;refine JL.block (CN c9 (λag=> []) (λag=> [(1,Am Y 0),(21,sV a1 p0.1 c2),(22,iV (p0.1.length:Int)),(23,iV ag)]) Ax az ?_);rintro ag b2 al a5 a6 ⟨fk,am⟩ eo;have b3:=am;unfold Oh at b3;refine C 5 V (AN b3 (λep er=>?_) (λep et=>?_))
    ·obtain⟨b4,eu,ew⟩:=bs er;refine C 5 V (JS.ix (cw.M (K.I al)) eu underlying22 EP ?_);rintro fl fm _ ⟨ex,ey,rfl,ez⟩ eA;refine CI 0 eA G7 V V V (C 6 V ?_);refine JL.ln underlying28 V V V (C 2 V ?_);refine AN ew (λeB eC=>?_) (λeB eD=>?_)
     ·refine C 4 V ?_;obtain rfl:=oi eC;obtain rfl:=a6 _ am;have eE:=elim_inl a0;obtain rfl:=oi eE;exact AL func47 V V (O (K.I al) V ⟨V,V⟩ a5)
     ·refine C 4 V (JL.ln underlying28 V V V ?_);obtain⟨b5,eF,b6⟩:=bs eD;refine C 2 V (Bs (λL s=>∃(ca:Unit) (cc:LH),b5=Sum.inr ca/\Jm b2 H cc [] [(1,Am Y 0),(21,sV a1 p0.1 c2),(22,iV (p0.1.length:Int)),(23,iV ag)] L s) ?_ ?_)
      ·rintro _ _ ⟨ca,cc,rfl,rfl,rfl,eG,eH⟩;have eI:=elim_inr b6;obtain⟨eJ,eK,eL⟩:=bs eI;refine C 2 V (Bn eK V V V ?_);refine C 2 V ?_;obtain rfl:=oi eL;exact eo eJ (al.I eG) eH V am
      ·intro eM;refine JL.block (CN eF (λa7=> []) (λa7=> [(1,Am Y 0),(21,sV a1 p0.1 c2),(22,iV (p0.1.length:Int)),(23,iV ag),(30,sV ex b4 ey),(31,iV (b4.length:Int)),(32,iV a7)]) Ax a5 ?_);rintro a7 eN aq ce ci ⟨fo,av⟩ eO;have co:=av;unfold Ob at co;refine C 5 V (AN co (λeP eQ=>?_) (λeP eR=>?_))
       ·obtain⟨fp,eS,eT⟩:=bs eQ;refine C 5 V (JS.ix (ez.M aq) eS underlying28 AG ?_);rintro fq fs _ rfl eU;refine CI 0 eU AX V V V ?_;obtain⟨eV,eW,eX⟩:=bs eT;refine C 5 V (Ck (ML eW) V V L6 ce λfu cp ct=>?_);refine Aq (v:= .bool (!eV)) V (λρ h=>Yl.not (h _ _ V)) (JL.done ?_);refine Cc eX (λeY eZ=>?_) (λeY e0=>?_)
        ·refine C 4 V ?_;obtain rfl:=oi eZ;obtain rfl:=ci _ av;have e1:=elim_inl b6;obtain rfl:=oi e1;obtain rfl:=a6 _ am;have e3:=elim_inl a0;obtain rfl:=oi e3;exact AL func47 V V (O (((K.I al).I aq).I cp) V ⟨V,V⟩ ct)
        ·obtain⟨e4,e5,e6⟩:=bs e0;refine C 3 V (Bn e5 V V V ?_);refine C 2 V ?_;obtain rfl:=oi e6;exact eO e4 (aq.I cp) ct V av
       ·refine JL.exit V ?_;obtain rfl:=oi eR;have e7:b5=(Sum.inr ()):=(ci _ av).symm;exact AF (eM _ _ ⟨(),eN,e7,V,V,aq,ce⟩) V
    ·refine JL.exit V ?_;obtain rfl:=oi et;have e8:a9=(Sum.inr ()):=(a6 _ am).symm;exact AF (en _ _ ⟨(),b2,e8,V,V,al,a5⟩) V
def Ow(fu_:Nat)(p0:AU)(O:(List Int)×Int):Option (Bo ((List Int)×Int) ((List Int))):= if O.2<(p0.2.length:Int) then((ix p0.2 O.2).bind λK=> (ix O.1 K.2.1).bind λY=> (Aw (Y+K.2.2)).bind λU=> (ix O.1 K.2.1).bind λal=> (ix (O.1.set (Int.toNat K.2.1) U) K.1).bind λZ=> (Aw (Z - K.2.2)).bind λac=> (ix (O.1.set (Int.toNat K.2.1) U) K.1).bind λam=> (Aw (O.2+1)).bind λag=> some (.more (((O.1.set (Int.toNat K.2.1) U).set (Int.toNat K.1) ac),ag))) else(some (.done O.1))
def f84(fu_:Nat)(p0:AU):Option ((List Int)):= Option.bind (iter (Ow fu_ p0) fu_ ((List.replicate 5 (0:Int)),0)) λK=> some K
theorem QJ{a1:Ap}{c2:Nat}{a6:Ap}{a7:Nat}{p0:AU}(ef:An (rL rI) E a1 c2 p0.1)(ca:An Av E a6 a7 p0.2){fu_:Nat}{r:(List Int)}(bo:f84 fu_ p0=some r):AP J 84 [.agg #[sV a1 p0.1 c2,sV a6 p0.2 a7]] E [] (λw E' B'=>∃(bv:Lv_),w= .agg bv.toArray/\B'= []/\(rA 5 rI).r E' bv r):=by
 refine Bg func84 λQ eg cs H cc ce=>?_;unfold f84 at bo;refine C 2 V (Cf cc λeh az bw ci co=>?_);refine B5 co K6 λa0 cp=>?_;refine C 3 V (B5 cp K6 λO ct=>?_);refine C 4 V (JL.fd underlying77 Bz V V V ?_);refine Bx 1 ci underlying25 Cj Ej ?_;refine JL.ln underlying23 V V V ?_;obtain⟨cw,cy,c0⟩:=bs bo;refine C 2 V (Bs (λL s=>∃(av:LH) (U:Lv_),Jn az H av [bX a0 (([]:Lv_)++(List.replicate 5 (iV 0):Lv_)).toArray 105,bX O (([]:Lv_)++U).toArray 105] [(2,Am a0 0),(3,Am O 0)] L s ((rA 5 rI).r av U cw)) ?_ ?_)
 ·rintro _ _ ⟨av,U,rfl,rfl,c1,bx,Z⟩;refine C 2 V (Aq (v:= .agg U.toArray) V (λρ h=>Iq (kk:=5) (pp:=rI) Z IT Jh (h _ _ V) (G9 (l:= []) 1 bx V)) ?_);refine HT (v:= .agg U.toArray) (l:= []) (ws:=(List.replicate 5 (iV 0):Lv_)) (us:=U) (o:=0) 0 V V V bx V V V (by rw [CE (kk:=5) (pp:=rI) Z];exact AZ type105) ((rA 5 rI).one Z) V (by rw [CE (kk:=5) (pp:=rI) Z,CE (kk:=5) (pp:=rI) (He (E:=av) (pp:=rI) rfl)];omega) λbz=>?_;rw [J0 (by rw [CE (kk:=5) (pp:=rI) Z,CE (kk:=5) (pp:=rI) (He (E:=av) (pp:=rI) rfl)])] at bz ⊢;refine JL.done (JS.drop 1 bz V λb0=>?_);obtain rfl:=oi c0;refine JL.ret (v:= .agg U.toArray) V V (BH.list func84 V (vs:= [.agg U.toArray]) ⟨⟨_,V,Ld.many (vs:=U) IT (by rw [CE (kk:=5) (pp:=rI) Z];exact AZ type105) (G9 (l:= []) 0 b0 V)⟩,trivial⟩) (Du 0 b0 V λc3=>?_);exact ce (bw.I c1) V ⟨U,V,V,Z⟩ c3
 ·intro c4;refine JL.block (Cy cy (λL s ag=>∃(a2:LH) (al:Lv_),Jn az H a2 [bX a0 (([]:Lv_)++(List.replicate 5 (iV 0):Lv_)).toArray 105,bX O (([]:Lv_)++al).toArray 105] [(2,Am a0 0),(3,Am O 0),(8,sV a6 p0.2 a7),(9,iV (p0.2.length:Int)),(10,iV ag.2)] L s ((rA 5 rI).r a2 al ag.1)) ⟨az,(List.replicate 5 (iV 0):Lv_),V,V,Ax,ct,(He (E:=az) (pp:=rI) V)⟩ ?_);rintro _ _ ag ⟨a2,al,rfl,rfl,a8,b1,am⟩ c5 ⟨ei,a9⟩ c6;have b2:=a9;unfold Ow at b2;refine C 5 V (AN b2 (λc7 c8=>?_) (λc7 c9=>?_))
  ·obtain⟨K,dd,dn⟩:=bs c8;refine C 5 V (JS.ix (ca.M (bw.I a8)) dd underlying23 AR ?_);rintro ej ek _ ⟨_,_,rfl,rfl,⟨_,_,rfl,rfl,rfl⟩⟩ dJ;refine B3 dJ CO AR V V (B5 b1 By λel dK=>?_);refine BA 2 dK AR λdL=>?_;refine DO 2 dL V λbb ap a3 aw=>C 2 V (Fq 6 [O] ⟨⟨1,_,V⟩,trivial⟩ aw λht=>?_);refine JG.fd 0 ht underlying27 AG V V V V (JG.lp 1 ht 1 a3 aw ⟨⟨1,_,V⟩,trivial⟩ AX ?_);obtain⟨dM,b3,dN⟩:=bs dn;obtain⟨_,rfl,_,_,dO⟩:=HW (kk:=5) (pp:=rI) (Rp.M _ ap am) b3;refine A0 (v:= .pointer (some ⟨O,0+Int.toNat (K.2.1)*1,none⟩)) 2 ht V V (λρ h s' hs=>Jq (kk:=5) (pp:=rI) (Rp.M _ ap am) b3 underlying105 AG (h _ _ V) (h _ _ V)) (A0 (v:=iV dM) 3 ht V V (λρ h s' hs=>Yl.load AX (h _ _ V) (Nk (l:= []) 1 aw V (by simp [AO]) hs (dO 0 _ V))) ?_);refine JG.fd 4 ht underlying27 AG V V V V (JG.lp 5 ht 2 a3 aw ⟨⟨1,_,V⟩,trivial⟩ AX ?_);refine Cl [6,7,8] ?_;obtain⟨Y,dQ,dR⟩:=bs dN;refine Bn dQ V V V ?_;obtain⟨em,be,dS⟩:=bs dR;obtain⟨_,rfl,_,_,en⟩:=HW (kk:=5) (pp:=rI) (Rp.M _ ap am) be;refine Aq (v:= .pointer (some ⟨O,0+Int.toNat (K.2.1)*1,none⟩)) V (λρ h=>Jq (kk:=5) (pp:=rI) (Rp.M _ ap am) be underlying105 AG (h _ _ V) (h _ _ V)) ?_;have a4:=Oe (us:= [iV Y]) (y:=Y) (Rp.M _ ap am) be V;refine HT (v:=iV Y) (l:= []) (ws:=al) (us:= [iV Y]) (o:=Int.toNat (K.2.1)*1) 1 V V V aw V V V AG (by simp [Value.cells,Dv]) V a4.2 λaq=>?_;replace a4:=a4.1;generalize dT:IG al (Int.toNat (K.2.1)*1) [iV Y]=bi at aq ⊢;have ay:(rA 5 rI).r bb bi (ag.1.set (Int.toNat K.2.1) Y):=by rw [← dT];exact a4
   refine JL.done (Fq 6 [O] ⟨⟨1,_,V⟩,trivial⟩ aq λht=>?_);refine JG.fd 0 ht underlying27 AG V V V V (JG.lp 1 ht 0 a3 aq ⟨⟨1,_,V⟩,trivial⟩ AX ?_);obtain⟨dU,b4,dV⟩:=bs dS;obtain⟨_,rfl,_,_,dW⟩:=HW (kk:=5) (pp:=rI) ay b4;refine A0 (v:= .pointer (some ⟨O,0+Int.toNat (K.1)*1,none⟩)) 2 ht V V (λρ h s' hs=>Jq (kk:=5) (pp:=rI) ay b4 underlying105 AG (h _ _ V) (h _ _ V)) (A0 (v:=iV dU) 3 ht V V (λρ h s' hs=>Yl.load AX (h _ _ V) (Nk (l:= []) 1 aq V (by simp [AO]) hs (dW 0 _ V))) ?_);refine JG.fd 4 ht underlying27 AG V V V V (JG.lp 5 ht 2 a3 aq ⟨⟨1,_,V⟩,trivial⟩ AX ?_);refine Cl [6,7,8] ?_;obtain⟨ac,dX,dY⟩:=bs dV;refine Cm dX V V V ?_;obtain⟨eo,bn,dZ⟩:=bs dY;obtain⟨_,rfl,_,_,ep⟩:=HW (kk:=5) (pp:=rI) ay bn;refine Aq (v:= .pointer (some ⟨O,0+Int.toNat (K.1)*1,none⟩)) V (λρ h=>Jq (kk:=5) (pp:=rI) ay bn underlying105 AG (h _ _ V) (h _ _ V)) ?_;have a5:=Oe (us:= [iV ac]) (y:=ac) ay bn V;refine HT (v:=iV ac) (l:= []) (ws:=bi) (us:= [iV ac]) (o:=Int.toNat (K.1)*1) 1 V V V aq V V V AG (by simp [Value.cells,Dv]) V a5.2 λb5=>?_;replace a5:=a5.1;generalize ea:IG bi (Int.toNat (K.1)*1) [iV ac]=b6 at b5 ⊢;have eb:(rA 5 rI).r bb b6 ((ag.1.set (Int.toNat K.2.1) Y).set (Int.toNat K.1) ac):=by rw [← ea];exact a5
   obtain⟨ec,ed,ee⟩:=bs dZ;refine C 3 V (Bn ed V V V ?_);refine C 2 V ?_;obtain rfl:=oi ee;exact AF (c6 _ _ (((ag.1.set (Int.toNat K.2.1) Y).set (Int.toNat K.1) ac),ec) ⟨bb,b6,V,V,(a8.I ap),b5,eb⟩ a9) V
  ·refine JL.exit V ?_;obtain rfl:=oi c9;obtain rfl:=c5 _ a9;exact AF (c4 _ _ ⟨a2,al,V,V,a8,b1,am⟩) V
def f204(fu_:Nat)(p0:List Int)(p1:Int×Int×Int):Option ((List Int)):= (ix p0 p1.1).bind λO=> (Aw (O+p1.2.2)).bind λK=> (ix p0 p1.1).bind λZ=> (ix (p0.set (Int.toNat p1.1) K) p1.2.1).bind λU=> (Aw (U - p1.2.2)).bind λY=> (ix (p0.set (Int.toNat p1.1) K) p1.2.1).bind λac=> some ((p0.set (Int.toNat p1.1) K).set (Int.toNat p1.2.1) Y)
theorem Ix{w1:Lv_}{p0:List Int}{p1:Int×Int×Int}(ag:(rA 5 rI).r E w1 p0){fu_:Nat}{r:(List Int)}(a2:f204 fu_ p0 p1=some r):AP J 204 [.agg w1.toArray,.agg #[iV p1.1,iV p1.2.1,iV p1.2.2]] E [] (λw E' B'=>∃(a3:Lv_),w= .agg a3.toArray/\B'= []/\(rA 5 rI).r E' a3 r):=by
 refine Bg func204 λQ cc cs H a8 a9=>?_;unfold f204 at a2;refine C 2 V (JS.box (v:= .agg w1.toArray) V V V a8 V λr3 bb=>?_);refine Cf bb λce ap Y aq be=>?_;refine B5 be K6 λci al=>?_;refine C 2 V (Fq 6 [r3] ⟨⟨1,_,V⟩,trivial⟩ al λht=>?_);refine JG.fd 0 ht underlying27 AG V V V V (JG.lp 1 ht 0 aq al ⟨⟨1,_,V⟩,trivial⟩ AX ?_);obtain⟨bi,a4,bn⟩:=bs a2;obtain⟨_,rfl,_,_,bo⟩:=HW (kk:=5) (pp:=rI) (Rp.M _ Y ag) a4;refine A0 (v:= .pointer (some ⟨r3,0+Int.toNat (p1.1)*1,none⟩)) 2 ht V V (λρ h s' hs=>Jq (kk:=5) (pp:=rI) (Rp.M _ Y ag) a4 underlying105 AG (h _ _ V) (h _ _ V)) (A0 (v:=iV bi) 3 ht V V (λρ h s' hs=>Yl.load AX (h _ _ V) (Nk (l:= []) 1 al V (by simp [AO]) hs (bo 0 _ V))) ?_);refine JG.fd 4 ht underlying27 AG V V V V (JG.lp 5 ht 2 aq al ⟨⟨1,_,V⟩,trivial⟩ AX ?_);refine Cl [6,7,8] ?_;obtain⟨O,bv,bw⟩:=bs bn;refine Bn bv V V V ?_;obtain⟨co,ay,bx⟩:=bs bw;obtain⟨_,rfl,_,_,cp⟩:=HW (kk:=5) (pp:=rI) (Rp.M _ Y ag) ay;refine Aq (v:= .pointer (some ⟨r3,0+Int.toNat (p1.1)*1,none⟩)) V (λρ h=>Jq (kk:=5) (pp:=rI) (Rp.M _ Y ag) ay underlying105 AG (h _ _ V) (h _ _ V)) ?_;have av:=Oe (us:= [iV O]) (y:=O) (Rp.M _ Y ag) ay V;refine HT (v:=iV O) (l:= []) (ws:=w1) (us:= [iV O]) (o:=Int.toNat (p1.1)*1) 1 V V V al V V V AG (by simp [Value.cells,Dv]) V av.2 λZ=>?_;replace av:=av.1;generalize bz:IG w1 (Int.toNat (p1.1)*1) [iV O]=az at Z ⊢;have am:(rA 5 rI).r ap az (p0.set (Int.toNat p1.1) O):=by rw [← bz];exact av
 refine C 2 V (Fq 6 [r3] ⟨⟨1,_,V⟩,trivial⟩ Z λht=>?_);refine JG.fd 0 ht underlying27 AG V V V V (JG.lp 1 ht 1 aq Z ⟨⟨1,_,V⟩,trivial⟩ AX ?_);obtain⟨b0,a5,b1⟩:=bs bx;obtain⟨_,rfl,_,_,b2⟩:=HW (kk:=5) (pp:=rI) am a5;refine A0 (v:= .pointer (some ⟨r3,0+Int.toNat (p1.2.1)*1,none⟩)) 2 ht V V (λρ h s' hs=>Jq (kk:=5) (pp:=rI) am a5 underlying105 AG (h _ _ V) (h _ _ V)) (A0 (v:=iV b0) 3 ht V V (λρ h s' hs=>Yl.load AX (h _ _ V) (Nk (l:= []) 1 Z V (by simp [AO]) hs (b2 0 _ V))) ?_);refine JG.fd 4 ht underlying27 AG V V V V (JG.lp 5 ht 2 aq Z ⟨⟨1,_,V⟩,trivial⟩ AX ?_);refine Cl [6,7,8] ?_;obtain⟨ac,b3,b4⟩:=bs b1;refine Cm b3 V V V ?_;obtain⟨ct,a0,b5⟩:=bs b4;obtain⟨_,rfl,_,_,cw⟩:=HW (kk:=5) (pp:=rI) am a0;refine Aq (v:= .pointer (some ⟨r3,0+Int.toNat (p1.2.1)*1,none⟩)) V (λρ h=>Jq (kk:=5) (pp:=rI) am a0 underlying105 AG (h _ _ V) (h _ _ V)) ?_;have aw:=Oe (us:= [iV ac]) (y:=ac) am a0 V;refine HT (v:=iV ac) (l:= []) (ws:=az) (us:= [iV ac]) (o:=Int.toNat (p1.2.1)*1) 1 V V V Z V V V AG (by simp [Value.cells,Dv]) V aw.2 λa1=>?_;replace aw:=aw.1;generalize b6:IG az (Int.toNat (p1.2.1)*1) [iV ac]=K at a1 ⊢;have U:(rA 5 rI).r ap K ((p0.set (Int.toNat p1.1) O).set (Int.toNat p1.2.1) ac):=by rw [← b6];exact aw
 refine C 3 V (Aq (v:= .agg K.toArray) V (λρ h=>Iq (kk:=5) (pp:=rI) U IT Jh (h _ _ V) (G9 (l:= []) 1 a1 V)) ?_);refine HT (v:= .agg K.toArray) (l:= []) (ws:=(List.replicate 5 (iV 0):Lv_)) (us:=K) (o:=0) 3 V V V a1 V V V (by rw [CE (kk:=5) (pp:=rI) U];exact AZ type105) ((rA 5 rI).one U) V (by rw [CE (kk:=5) (pp:=rI) U,CE (kk:=5) (pp:=rI) (He (E:=ap) (pp:=rI) rfl)];omega) λa6=>?_;rw [J0 (by rw [CE (kk:=5) (pp:=rI) U,CE (kk:=5) (pp:=rI) (He (E:=ap) (pp:=rI) rfl)])] at a6 ⊢;refine JL.done (JS.drop 1 a6 V λa7=>?_);obtain rfl:=oi b5;refine JL.ret (v:= .agg K.toArray) V V (BH.list func204 V (vs:= [.agg K.toArray]) ⟨⟨_,V,Ld.many (vs:=K) IT (by rw [CE (kk:=5) (pp:=rI) U];exact AZ type105) (G9 (l:= []) 3 a7 V)⟩,trivial⟩) (Du 3 a7 V λca=>?_);exact a9 Y V ⟨K,V,V,U⟩ ca
def f106(fu_:Nat)(p0:Int)(p1:Int):Option Nat:= (Aw (max p0 p1 - 1)).bind λK=> (ix ([1,2,4,8]:List Nat) K).bind λO=> (Aw (4*(min p0 p1))).bind λU=> (QF O U).bind λY=> some Y
theorem Up{p0:Int}{p1:Int}{fu_:Nat}{r:Nat}(K:f106 fu_ p0 p1=some r):AP J 106 [iV p0,iV p1] E [] (λw E' B'=>w= .int .u32 ((r:Nat):Int)/\B'= []):=by
 refine Bg func106 λQ aw cs H O U=>?_;unfold f106 at K;refine C 8 V (Aq (v:=iV (min p0 p1)) V (λρ h=>Yl.min2 (h _ _ V) (h _ _ V)) ?_);refine C 2 V (Aq (v:=iV (max p0 p1)) V (λρ h=>Yl.max2 (h _ _ V) (h _ _ V)) ?_);refine C 5 V (Aq (v:= .agg (([1,2,4,8]:List Nat).map λx=>Value.int .u32 ((x:Nat):Int)).toArray) V (λρ h=>Zj h underlying164 (Dz type164) (AZ type86) V V) ?_);obtain⟨ay,Y,Z⟩:=bs K;refine C 1 V (Cm Y V V V ?_);obtain⟨az,ac,ag⟩:=bs Z;refine Uq (Y0 (E:=E) ([1,2,4,8]:List Nat)) ac V V V V V underlying164 (AZ type86) (C4 underlying86) ?_ (λ_=>V);rintro _ rfl;obtain⟨a0,al,am⟩:=bs ag;refine C 1 V (Aq V (λρ h=>N3 (h _ _ V) (h _ _ V) al) ?_);obtain⟨ap,aq,av⟩:=bs am;refine Aq (v:= .int .u32 ((ap:Nat):Int)) V (λρ h=>Wv (h _ _ V) (h _ _ V) aq) (C 2 V ?_);obtain rfl:=oi av;exact AL func106 V V (U Ax V ⟨V,V⟩ O)
def f136(fu_:Nat)(p0:Nat)(p1:Int)(p2:Int):Option Bool:= (f106 fu_ p1 p2).bind λK=> (Qy p0 K).bind λO=> some (decide ((((O):Nat):Int)≠(((0):Nat):Int)))
theorem ae{p0:Nat}{p1:Int}{p2:Int}{fu_:Nat}{r:Bool}(K:f136 fu_ p0 p1 p2=some r):AP J 136 [.int .u32 ((p0:Nat):Int),iV p1,iV p2] E [] (λw E' B'=>w= .bool r/\B'= []):=by
 refine Bg func136 λQ aq cs H O U=>?_;unfold f136 at K;obtain⟨av,Y,Z⟩:=bs K;refine C 9 V (Ck (Up Y) V V (A5 func106 V) O λaw ac ag=>?_);obtain⟨al,am,ap⟩:=bs Z;refine Aq (v:= .int .u32 ((al:Nat):Int)) V (λρ h=>WI (h _ _ V) (h _ _ V) am) (C 3 V ?_);obtain rfl:=oi ap;exact AL func136 V V (U ac V ⟨V,V⟩ ag)
def NS(fu_:Nat)(O:(AD)×Int)(K:(AD)×Int):Option (Bo ((AD)×Int) ((AD))):= if K.2<O.2 then((room K.1 (K.2,O.2)).bind λU=> (Aw (K.2+1)).bind λY=> some (.more (U,Y))) else(some (.done K.1))
def NB(fu_:Nat)(p0:AU)(K:(AD)×Int):Option (Bo ((AD)×Int) ((AD))):= if K.2<(p0.1.length:Int) then(Option.bind (iter (NS fu_ K) fu_ (K.1,0)) λO=> (Aw (K.2+1)).bind λU=> some (.more (O,U))) else(some (.done K.1))
def f133(fu_:Nat)(p0:AU):Option ((AD)):= Option.bind (iter (NB fu_ p0) fu_ ([],0)) λK=> some K
theorem bf{a1:Ap}{c2:Nat}{a8:Ap}{a9:Nat}{p0:AU}(ee:An (rL rI) E a1 c2 p0.1)(ef:An Av E a8 a9 p0.2){fu_:Nat}{r:(AD)}(bb:f133 fu_ p0=some r):AP J 133 [.agg #[sV a1 p0.1 c2,sV a8 p0.2 a9]] E [] (λw E' B'=>∃(be:Ap) (bi:Nat),w= sV be r bi/\B'= []/\An BX E' be bi r):=by
 refine Bg func133 λQ eg cs H b3 b4=>?_;unfold f133 at bb;refine C 2 V (Cf b3 λeh a2 b5 b6 ca=>?_);refine C 9 V (JL.fd underlying77 Bz V V V ?_);refine Bx 0 b6 underlying25 Dr Ec ?_;refine JL.ln underlying22 V V V ?_;obtain⟨bn,cc,ce⟩:=bs bb;refine C 2 V (Bs (λL s=>∃(a3:LH) (ap:Ap) (aq:Nat) (a4:Seg),Jn a2 H a3 [a4] [(3,sV ap bn aq)] L s (OL 101 BX a3 ap aq a4 bn)) ?_ ?_)
 ·rintro _ _ ⟨a3,ap,aq,a4,rfl,rfl,ci,co,cp⟩;refine C 5 V (BI 0 cp co V λei ct cw cy=>?_);obtain rfl:=oi ce;exact AL func133 V V (b4 ((b5.I ci).I ct) V ⟨ap,aq,V,V,cw⟩ cy)
 ·intro c0;refine JL.block (Cy cc (λL s K=>∃(O:LH) (Y:Ap) (Z:Nat) (ac:Seg),Jn a2 H O [ac] [(3,sV Y K.1 Z),(9,iV (p0.1.length:Int)),(10,iV K.2)] L s (OL 101 BX O Y Z ac K.1)) ⟨a2,none,0,[],V,V,Ax,ca,OL.nil⟩ ?_);rintro _ _ K ⟨O,Y,Z,ac,rfl,rfl,bo,bv,bw⟩ c1 ⟨ej,a5⟩ c3;have bx:=a5;unfold NB at bx;refine C 5 V (AN bx (λc4 c5=>?_) (λc4 c6=>?_))
  ·obtain⟨a6,c7,c8⟩:=bs c5;refine C 13 V (Bs (λL s=>∃(av:LH) (aw:Ap) (ay:Nat) (az:Seg),Jn O H av [az] [(3,sV aw a6 ay),(9,iV (p0.1.length:Int)),(10,iV K.2)] L s (OL 101 BX av aw ay az a6)) ?_ ?_)
   ·rintro _ _ ⟨av,aw,ay,az,rfl,rfl,c9,dd,dn⟩;obtain⟨dJ,dK,dL⟩:=bs c8;refine C 2 V (Bn dK V V V ?_);refine C 2 V ?_;obtain rfl:=oi dL;exact AF (c3 _ _ (a6,dJ) ⟨av,aw,ay,az,V,V,(bo.I c9),dd,dn⟩ a5) V
   ·intro dM;refine JL.block (Cy c7 (λL s U=>∃(ag:LH) (al:Ap) (am:Nat) (a0:Seg),Jn O H ag [a0] [(3,sV al U.1 am),(4,iV K.2),(9,iV (p0.1.length:Int)),(10,iV K.2),(13,iV K.2),(14,iV U.2)] L s (OL 101 BX ag al am a0 U.1)) ⟨O,Y,Z,ac,V,V,Ax,bv,bw⟩ ?_);rintro _ _ U ⟨ag,al,am,a0,rfl,rfl,bz,b0,b1⟩ dN ⟨ek,a7⟩ dO;have b2:=a7;unfold NS at b2;refine C 5 V (AN b2 (λdQ dR=>?_) (λdQ dS=>?_))
    ·refine C 12 V (Aq (v:= .agg #[iV U.2,iV K.2]) V (λρ h=>C6 [(0,1),(1,1)] h Jg underlying101 ⟨V,AZ type3,V,AZ type3,trivial⟩ V V) ?_);obtain⟨dT,dU,dV⟩:=bs dR;refine JS.app (pp:=BX) (v:= .agg #[iV U.2,iV K.2]) (a:=al) (c:=am) 0 dU V V V V (λ_=>V) V (λ_=>V) V V V underlying167 underlying167 underlying167 Gl (B8 type101) Jg V (by decide) (by decide) (by decide) (by decide) b1 ⟨_,_,V,V,V⟩ b0 V λel dW dX dY dZ ea=>?_;obtain⟨eb,ec,ed⟩:=bs dV;refine C 4 V (Bn ec V V V ?_);refine C 2 V ?_;obtain rfl:=oi ed;exact AF (dO _ _ (dT,eb) ⟨ag,dW,dX,dY,V,V,bz,ea,dZ⟩ a7) V
    ·refine JL.exit V ?_;obtain rfl:=oi dS;obtain rfl:=dN _ a7;exact AF (dM _ _ ⟨ag,al,am,a0,V,V,bz,b0,b1⟩) V
  ·refine JL.exit V ?_;obtain rfl:=oi c6;obtain rfl:=c1 _ a5;exact AF (c0 _ _ ⟨O,Y,Z,ac,V,V,bo,bv,bw⟩) V
def f113(fu_:Nat)(p0:Int×Int×Int)(p1:Int×Int×Int):Option Int:= if p0.1≠p1.1 then((Aw (p0.1 - p1.1)).bind λK=> some K) else(if p0.2.1≠p1.2.1 then((Aw (p0.2.1 - p1.2.1)).bind λO=> some O) else((Aw (p0.2.2 - p1.2.2)).bind λU=> some U))
theorem TS{p0:Int×Int×Int}{p1:Int×Int×Int}{fu_:Nat}{r:Int}(ag:f113 fu_ p0 p1=some r):AP J 113 [.agg #[iV p0.1,iV p0.2.1,iV p0.2.2],.agg #[iV p1.1,iV p1.2.1,iV p1.2.2]] E [] (λw E' B'=>w=iV r/\B'= []):=by
 refine Bg func113 λQ a6 cs H al Y=>?_;unfold f113 at ag;refine C 2 V (Cf al λr2 a7 Z O am=>?_);refine Cf am λa8 a9 K U ac=>?_;refine C 6 V (Bx 0 (O.M K) underlying27 AG AX ?_);refine Bx 0 U underlying27 AG AX ?_;refine C 3 V (AN ag (λap aq=>?_) (λap av=>?_))
 ·refine C 2 V (Bx 0 (O.M K) underlying27 AG AX ?_);refine Bx 0 U underlying27 AG AX ?_;obtain⟨bb,aw,ay⟩:=bs aq;refine Cm aw V V V (C 2 V ?_);obtain rfl:=oi ay;exact AL func113 V V (Y (Z.I K) V ⟨V,V⟩ ac)
 ·refine C 2 V (Bx 1 (O.M K) underlying27 AG AX ?_);refine Bx 1 U underlying27 AG AX ?_;refine C 3 V (AN av (λaz a0=>?_) (λaz a1=>?_))
  ·refine C 2 V (Bx 1 (O.M K) underlying27 AG AX ?_);refine Bx 1 U underlying27 AG AX ?_;obtain⟨be,a2,a3⟩:=bs a0;refine Cm a2 V V V (C 2 V ?_);obtain rfl:=oi a3;exact AL func113 V V (Y (Z.I K) V ⟨V,V⟩ ac)
  ·refine C 4 V (Bx 2 (O.M K) underlying27 AG AX ?_);refine Bx 2 U underlying27 AG AX ?_;obtain⟨bi,a4,a5⟩:=bs a1;refine Cm a4 V V V (C 2 V ?_);obtain rfl:=oi a5;exact AL func113 V V (Y (Z.I K) V ⟨V,V⟩ ac)
def Ol(fu_:Nat)(p0:List Int)(K:Int×Int):Option (Bo (Int×Int) Int):= if K.2<(p0.length:Int) then((ix p0 K.2).bind λO=> (Aw (K.1+O)).bind λU=> (Aw (K.2+1)).bind λY=> some (.more (U,Y))) else(some (.done K.1))
def f85(fu_:Nat)(p0:List Int):Option Int:= Option.bind (iter (Ol fu_ p0) fu_ (0,0)) λK=> some K
theorem H4{a1:Ap}{c2:Nat}{p0:List Int}(ag:An rI E a1 c2 p0){fu_:Nat}{r:Int}(Y:f85 fu_ p0=some r):AP J 85 [sV a1 p0 c2] E [] (λw E' B'=>w=iV r/\B'= []):=by
 refine Bg func85 λQ bv cs H al am=>?_;unfold f85 at Y;refine C 12 V (JL.ln underlying28 V V V ?_);obtain⟨ap,aq,av⟩:=bs Y;refine C 2 V (DF [] [(3,iV ap)] (λbw aw ay=>?_) (λaz=>?_))
 ·refine C 5 V ?_;obtain rfl:=oi av;exact AL func85 V V (am aw V ⟨V,V⟩ ay)
 ·refine JL.block (CN aq (λK=> []) (λK=> [(3,iV K.1),(6,sV a1 p0 c2),(7,iV (p0.length:Int)),(8,iV K.2)]) Ax al ?_);rintro K bx O Z a0 ⟨bz,U⟩ a2;have ac:=U;unfold Ol at ac;refine C 5 V (AN ac (λa3 a4=>?_) (λa3 a5=>?_))
  ·obtain⟨b0,a6,a7⟩:=bs a4;refine C 5 V (JS.ix (ag.M O) a6 underlying28 AG ?_);rintro b1 b2 _ rfl a8;refine CI 0 a8 AX V V V ?_;obtain⟨a9,bb,be⟩:=bs a7;refine C 5 V (Bn bb V V V ?_);obtain⟨bi,bn,bo⟩:=bs be;refine C 4 V (Bn bn V V V ?_);refine C 2 V ?_;obtain rfl:=oi bo;exact a2 (a9,bi) O Z V U
  ·refine JL.exit V ?_;obtain rfl:=oi a5;obtain rfl:=a0 _ U;exact az O Z V
end Pal
namespace Pal
open Go Go.Conc
variable {P:Program}{Q:Gs_}{b:Frame}{n:Nat}{ds:Ld_}{ops:Ao_}{k:Li_}{cs:Lf_}{L:Env}{E H:LH}{S:List Seg}
variable {d:Option Tmp}{w:Operand}{t u ty:TypeId}{p:String}{af:Ae_}{g:On_}{rest:List Nat}{s:St}{ρ:Operand->Value}
section
variable {J:Judge P}
variable {x y:Operand}{e:TypeId}{i:Nat}
theorem An.dH{α:Type}{pp:Rp α}{kk bk o:Nat}{ws:Lv_}{xs ys:List α}{hi:Int}(U:At E bk o ws)(O:(rA kk pp).r E ws xs)(hC:Fy xs 0 hi=some ys):An pp E (some ⟨bk,o,none⟩) kk ys:=by
 have ag:=O.1;unfold Fy at hC;split at hC
 ·rename_i hb;cases hC;refine⟨by simp;omega,.inr ⟨bk,o,V,λq z K=>?_⟩⟩;simp only [Int.toNat_zero,List.drop_zero,List.getElem?_take] at K;split at K
  ·have Y:ix xs (q:Int)=some z:=by unfold ix;rw [if_pos (by omega)];simpa using K
   obtain⟨us,Z,ac,_,_⟩:=cb O U Y;exact⟨us,Z,by simpa using ac⟩
  ·cases K
 ·cases hC
theorem YM{α:Type}{pp:Rp α}{kk bk o:Nat}{ws:Lv_}{xs ys:List α}{hi:Int}(U:At E bk o ws)(K:(rA kk pp).r E ws xs)(hC:Fy xs 0 hi=some ys)
  (Y:ops[i]? =some ⟨d,.slice t x none (some w) none,ty,p,af,g⟩) (hw:AY L ops ⟨d,.slice t x none (some w) none,ty,p,af,g⟩=some true) (Z:BY b n ⟨d,.slice t x none (some w) none,ty,p,af,g⟩=true)
  (ac:ev L x=some (.pointer (some ⟨bk,o,none⟩))) (ag:ev L w=some (iV hi)) (ht:P.underlying t=some (.array kk e)) (al:Bv P e=some pp.n)
  (h:An pp E (some ⟨bk,o,none⟩) kk ys->JL J Q b n (AB L d (.slice (some ⟨bk,o,none⟩) ys.length kk)) ds (.inRegion ops rest::k) cs s):
  JL J Q b n L ds (.inRegion ops (i::rest)::k) cs s:=by
 have am:=An.dH U K hC;have av:=K.1;refine Bf Y hw Z (λρ O=>?_) (h am);refine FQ (sm:=Instr.sliceAt t (ρ x) none (some (ρ w)) none) V ?_;rw [O _ _ ac,O _ _ ag];unfold Fy at hC;split at hC
 ·rename_i hb;cases hC;obtain⟨aw,ay,az⟩:=hb;unfold Instr.sliceAt;refine Az _ _ (Cx ht ?_);simp only [Instr.sureAddr,bind,Sem.bind,pure];have ap:Instr.sliceBounds false kk kk none (some (iV hi)) none=(pure (0,hi.toNat,kk):Sem _):=by
   simp only [Instr.sliceBounds,Instr.sliceBound,asIntOf,bind,Sem.bind,pure];rw [if_pos (by omega)];rfl
  rw [ap];simp only [pure,Sem.bind];refine Az (x:=Go.sizeOf e) _ (Fb al ?_);have aq:(if kk=0 then(⟨bk,o,none⟩:Addr) else Addr.add ⟨bk,o,none⟩ (0*pp.n))=⟨bk,o,none⟩:=by
   split
   ·rfl
   ·rw [El rfl];simp
  rw [aq];have e2:((xs.take hi.toNat).drop (0:Int).toNat).length=hi.toNat - 0:=by simp;omega
  rw [e2];exact⟨V,V⟩
 ·cases hC
theorem We{a:Option Addr}{l c:Nat}(ht:P.underlying t=some (.slice e))(K:ρ x= .slice a l c)(O:ρ (.const (.slice none 0 0))= .slice none 0 0):Yl P ⟨d,.binOp .neq t x (.const (.slice none 0 0)) u,ty,p,af,g⟩ ρ s (.bool (!a.isNone)):=by
 have U:∀o,eqGuard o t x (.const (.slice none 0 0)) (.slice a l c) (.slice none 0 0)=Sem.pure ():=λo=>by cases o <;> rfl
 refine FQ (sm:=do eqGuard .neq t x (.const (.slice none 0 0)) (ρ x) (ρ (.const (.slice none 0 0)));binOp .neq t (ρ x) (ρ (.const (.slice none 0 0)))) V ?_
 rw [K,O,U];simp only [bind,Sem.bind];have hb:binOp .neq t (.slice a l c) (.slice none 0 0)=(do pure (.bool (!(← Op.equal t (.slice a l c) (.slice none 0 0))))):=V
 rw [hb];refine Az (x:=Op.equal t _ _) _ ?_;unfold Op.equal Op.maxDepth Op.equalIn;refine Az _ _ (Cx ht ?_);cases a with
 | none=>exact⟨rfl,rfl⟩
 | some ad=>exact⟨rfl,rfl⟩
end
open Go.Proofs Go.Proofs.Tryz
variable {J:Judge Tryz.prog}
def On(fu_:Nat)(p0:AU)(p1:List Int)(K:Int):Option (Bo Int ((AU×Int)⊕(Unit))):= if K<(p1.length:Int) then((ix p1 K).bind λO=> (Aw ((p0.1.length:Int) - 1)).bind λU=> (f91 fu_ O 0 U).bind λY=> if(!Y)=true then(some (.done (Sum.inl (([],[]),3)))) else((Aw (K+1)).bind λZ=> some (.more Z))) else(some (.done (Sum.inr ())))
def f70(fu_:Nat)(p0:AU)(p1:List Int):Option (AU×Int):= (f47 fu_ p0).bind λK=> if K≠0 then(some (([],[]),K)) else(Option.bind (iter (On fu_ p0 p1) fu_ 0) λO=> Sum.elim (λr=>some r) (λac=> Option.bind (if(p1.length:Int)=2 then((ix p1 (0)).bind λU=> (ix p1 (1)).bind λY=> some (decide (U=Y))) else(some false)) λZ=> if Z=true then(some (([],[]),8)) else(some (p0,0))) O)
theorem Kb{a1:Ap}{c2:Nat}{U:Ap}{Y:Nat}{ag:Ap}{al:Nat}{p0:AU}{p1:List Int}(a3:An (rL rI) E a1 c2 p0.1)(a4:An Av E U Y p0.2)(av:An rI E ag al p1){fu_:Nat}{r:AU×Int}(a5:f70 fu_ p0 p1=some r):AP J 70 [.agg #[sV a1 p0.1 c2,sV U p0.2 Y],sV ag p1 al] E [] (λw E' B'=>∃(a6:Ap) (a7:Nat) (a8:Ap) (a9:Nat),w= .tuple #[.agg #[sV a6 r.1.1 a7,sV a8 r.1.2 a9],iV r.2]/\B'= []/\An (rL rI) E' a6 a7 r.1.1/\An Av E' a8 a9 r.1.2):=by
 refine Bg func70 λQ ep cs H cc ap=>?_;unfold f70 at a5;refine C 2 V (Cf cc λaw er K ay ce=>?_);refine B5 ce Ht λac ci=>?_;refine C 5 V (B3 ay B7 Bz V V ?_);obtain⟨bb,co,cp⟩:=bs a5;refine Ck (cu (a3.M K) (a4.M K) co) V V (A5 func47 V) ci λct O be=>C 7 V (AN cp (λcw cy=>?_) (λcw c0=>?_))
 ·refine C 2 V (Aq (v:= .agg #[nS,nS]) V (λρ h=>C6 [(0,2)] h Ht underlying77 ⟨V,AZ type25,trivial⟩ V V) ?_);refine C 1 V (BA 2 be Ed λbi=>?_);refine C 2 V ?_;obtain rfl:=oi cy;refine JL.ret (v:= .tuple #[.agg #[nS,nS],iV bb]) V V (BH.list func70 V (vs:= [.agg #[nS,nS],iV bb]) ⟨⟨_,V,Ld.many (vs:= [nS,nS]) F4 Ed (Dy (off:=0) 2 bi V V)⟩,V,trivial⟩) (Du 2 bi V λc1=>?_);exact ap (K.I O) V ⟨none,0,none,0,V,V,An.nil,An.nil⟩ c1
 ·refine C 5 V (JL.ln underlying28 V V V ?_);obtain⟨bn,c3,bo⟩:=bs c0;refine C 2 V (Bs (λL s=>∃(bv:Unit) (az:LH),bn=Sum.inr bv/\Jm ct H az [bX ac #[nS,nS] 77] [(1,sV ag p1 al),(2,Am aw 0),(4,Am ac 0)] L s) ?_ ?_)
  ·rintro _ _ ⟨bv,az,rfl,rfl,rfl,Z,bw⟩;have c4:=elim_inr bo;refine C 2 V (DD 12 λht=>?_);refine Ef 0 ht V V (A0 1 ht V V (λρ h s' hs=>Yl.len V underlying28 (h _ _ V)) ?_);refine A1 ht V [2,3] V ?_;obtain⟨c5,bx,c6⟩:=bs c4;refine Gn 0 #[true,true,true,true,true,true,true,true,true,true,true,true] (λL s=>L= [(2,Am aw 0),(4,Am ac 0),(41,.bool c5)]/\s=Al az H [bX ac #[nS,nS] 77]) ?_ ?_
   ·rintro _ _ ⟨rfl,rfl⟩;refine AT.fin (by decide+kernel) (Cc c6 (λc7 c8=>?_) (λc7 c9=>?_))
    ·refine C 2 V (Aq (v:= .agg #[nS,nS]) V (λρ h=>C6 [(0,2)] h Ht underlying77 ⟨V,AZ type25,trivial⟩ V V) ?_);refine BA 0 bw Ed λbz=>?_;refine C 2 V ?_;obtain rfl:=oi c8;refine JL.ret (v:= .tuple #[.agg #[nS,nS],iV 8]) V V (BH.list func70 V (vs:= [.agg #[nS,nS],iV 8]) ⟨⟨_,V,Ld.many (vs:= [nS,nS]) F4 Ed (Dy (off:=0) 0 bz V V)⟩,V,trivial⟩) (Du 0 bz V λdd=>?_);exact ap ((K.I O).I Z) V ⟨none,0,none,0,V,V,An.nil,An.nil⟩ dd
    ·refine C 3 V (B3 (ay.M (O.I Z)) B7 Bz V V ?_);refine Aq (v:= .agg #[sV a1 p0.1 c2,sV U p0.2 Y]) V (λρ h=>C6 [(0,2)] h Ht underlying77 ⟨V,AZ type25,trivial⟩ V V) (BA 0 bw Ed λb0=>?_);refine C 2 V ?_;obtain rfl:=oi c9;refine JL.ret (v:= .tuple #[.agg #[sV a1 p0.1 c2,sV U p0.2 Y],iV 0]) V V (BH.list func70 V (vs:= [.agg #[sV a1 p0.1 c2,sV U p0.2 Y],iV 0]) ⟨⟨_,V,Ld.many (vs:= [sV a1 p0.1 c2,sV U p0.2 Y]) F4 Ed (Dy (off:=0) 0 b0 V V)⟩,V,trivial⟩) (Du 0 b0 V λdn=>?_);exact ap ((K.I O).I Z) V ⟨a1,c2,U,Y,V,V,(a3.M ((K.I O).I Z)),(a4.M ((K.I O).I Z))⟩ dn
   ·intro b1;refine GU (q:=(p1.length:Int)=2) (i:=33) V (λa0=>?_) (λa0=>?_)
    ·have dJ:=ip bx a0;refine Ef 4 ht V V ?_;obtain⟨et,dK,dL⟩:=bs dJ;refine CP 5 (av.M ((K.I O).I Z)) dK ht underlying28 AG ?_;rintro eu ew _ rfl dM;refine Dk 6 ht 0 dM AX V V V V ?_;refine Ef 7 ht V V ?_;obtain⟨ex,dN,dO⟩:=bs dL;refine CP 8 (av.M ((K.I O).I Z)) dN ht underlying28 AG ?_;rintro ey ez _ rfl dQ;refine Dk 9 ht 0 dQ AX V V V V ?_;refine A1 ht V [10,11] V ?_;obtain rfl:=oi dO;refine Ek ?_ (b1 _ _ ⟨V,V⟩);exact⟨V,V,V,trivial⟩
    ·have dR:=im bx a0;refine A1 ht V [4,5,6,7,8,9,10,11] V ?_;obtain rfl:=oi dR;refine Ek ?_ (b1 _ _ ⟨V,V⟩);exact⟨V,V,V,trivial⟩
  ·intro dS;refine JL.block (CN c3 (λa2=> [bX ac #[nS,nS] 77]) (λa2=> [(1,sV ag p1 al),(2,Am aw 0),(4,Am ac 0),(15,sV ag p1 al),(16,iV (p1.length:Int)),(17,iV a2)]) Ax be ?_);rintro a2 dT am b2 b3 ⟨eA,aq⟩ dU;have b4:=aq;unfold On at b4;refine C 5 V (AN b4 (λdV dW=>?_) (λdV dX=>?_))
   ·obtain⟨eB,dY,dZ⟩:=bs dW;refine C 5 V (JS.ix (av.M ((K.I O).I am)) dY underlying28 AG ?_);rintro eC eD _ rfl ea;refine CI 0 ea AX V V V (C 5 V ?_);refine Bx 0 (ay.M (O.I am)) underlying25 Dr Ec ?_;refine JL.ln underlying22 V V V ?_;obtain⟨eE,eb,ec⟩:=bs dZ;refine Cm eb V V V ?_;obtain⟨ed,ee,ef⟩:=bs ec;refine Ck (ML ee) V V L6 b2 λeF b5 b6=>Aq (v:= .bool (!ed)) V (λρ h=>Yl.not (h _ _ V)) (JL.done ?_);refine Cc ef (λeg eh=>?_) (λeg ei=>?_)
    ·refine C 2 V (Aq (v:= .agg #[nS,nS]) V (λρ h=>C6 [(0,2)] h Ht underlying77 ⟨V,AZ type25,trivial⟩ V V) ?_);refine BA 0 b6 Ed λca=>?_;refine C 2 V ?_;obtain rfl:=oi eh;obtain rfl:=b3 _ aq;have ej:=elim_inl bo;obtain rfl:=oi ej;refine JL.ret (v:= .tuple #[.agg #[nS,nS],iV 3]) V V (BH.list func70 V (vs:= [.agg #[nS,nS],iV 3]) ⟨⟨_,V,Ld.many (vs:= [nS,nS]) F4 Ed (Dy (off:=0) 0 ca V V)⟩,V,trivial⟩) (Du 0 ca V λek=>?_);exact ap (((K.I O).I am).I b5) V ⟨none,0,none,0,V,V,An.nil,An.nil⟩ ek
    ·obtain⟨el,em,en⟩:=bs ei;refine C 3 V (Bn em V V V ?_);refine C 2 V ?_;obtain rfl:=oi en;exact dU el (am.I b5) b6 V aq
   ·refine JL.exit V ?_;obtain rfl:=oi dX;have eo:bn=(Sum.inr ()):=(b3 _ aq).symm;exact AF (dS _ _ ⟨(),dT,eo,V,V,am,b2⟩) V
def OZ(fu_:Nat)(p0:List Int):Option ((List Int)):= (Cz ([]:List Int) p0).bind λK=> some K
theorem br{ad:Addr}{c2:Nat}{p0:List Int}(Y:An rI E (some ad) c2 p0){fu_:Nat}{r:(List Int)}(K:OZ fu_ p0=some r):AP J 87 [.slice (some ad) p0.length c2] E [] (λw E' B'=>∃(O:Ap) (U:Nat) (g0:Seg),w= sV O r U/\B'=g0/\OL 3 rI E' O U g0 r):=by
 refine Bg func87 λQ a0 cs H Z ac=>?_;unfold OZ at K;refine C 8 V (Aq (v:= .bool false) V (λρ h=>Nn (a:=(some ad)) underlying28 (h _ _ V) (h _ _ V)) ?_);refine C 5 V (Lp (pp:=rI) V V V underlying28 AG Z λr1 g2 ag al=>?_);obtain⟨a1,am,ap⟩:=bs K;refine C 1 V (Fp (pp:=rI) 1 am V V V V V V V underlying28 underlying28 AG (B8 type3) CL V (by decide) (by decide) ag Y al V λaq av aw ay az=>?_);refine C 2 V ?_;obtain rfl:=oi ap;exact AL func87 V V (ac Ax V ⟨aq,av,aw,V,(by first | rfl | simp | (simp [Value.cells])),ay⟩ az)
def UZ(fu_:Nat)(p0:List Int):Option ((List Int)):= some ([])
theorem aM{c2:Nat}{p0:List Int}(ac:An rI E none c2 p0){fu_:Nat}{r:(List Int)}(K:UZ fu_ p0=some r):AP J 87 [sV none p0 c2] E [] (λw E' B'=>∃(O:Ap) (U:Nat) (g0:Seg),w= sV O r U/\B'=g0/\OL 3 rI E' O U g0 r):=by
 refine Bg func87 λQ ag cs H Y Z=>?_;unfold UZ at K;refine C 8 V (Aq (v:= .bool true) V (λρ h=>Nn (a:=none) underlying28 (h _ _ V) (h _ _ V)) ?_);refine C 6 V ?_;obtain rfl:=oi K;exact AL func87 V V (Z Ax V ⟨none,0,[],V,V,OL.nil⟩ Y)
def f87(fu_:Nat)(p0:List Int):Option (List Int):=OZ fu_ p0
theorem dj{a1:Ap}{c2:Nat}{p0:List Int}(O:An rI E a1 c2 p0){fu_:Nat}{r:List Int}(K:f87 fu_ p0=some r):AP J 87 [.slice a1 p0.length c2] E [] (λw E' B'=>∃(U:Ap) (Y:Nat) (g0:Seg),w= .slice U r.length Y/\B'=g0/\OL 3 rI E' U Y g0 r):=by
 cases a1 with
 | some ad=>exact br O K
 | none=>
  have Z:p0= []:=by
   rcases O.2 with h | ⟨_,_,h,_⟩
   ·exact h.1
   ·cases h
  subst Z;have ac:r= []:=by
   have ag:OZ fu_ []=some []:=V;unfold f87 at K;rw [ag] at K;exact(Option.some.inj K).symm
  subst ac;exact aM (fu_:=fu_) O V
def MK(fu_:Nat)(p0:AE):Option (AE):= (Cz ([]:AE) p0).bind λK=> some K
theorem Y7{ad:Addr}{c2:Nat}{p0:AE}(Y:An Av E (some ad) c2 p0){fu_:Nat}{r:AE}(K:MK fu_ p0=some r):AP J 129 [.slice (some ad) p0.length c2] E [] (λw E' B'=>∃(O:Ap) (U:Nat) (g0:Seg),w= sV O r U/\B'=g0/\OL 27 Av E' O U g0 r):=by
 refine Bg func129 λQ a0 cs H Z ac=>?_;unfold MK at K;refine C 8 V (Aq (v:= .bool false) V (λρ h=>Nn (a:=(some ad)) underlying80 (h _ _ V) (h _ _ V)) ?_);refine C 5 V (Lp (pp:=Av) V V V underlying80 AR Z λr1 g2 ag al=>?_);obtain⟨a1,am,ap⟩:=bs K;refine C 1 V (Fp (pp:=Av) 1 am V V V V V V V underlying80 underlying80 AR (B8 type27) By V (by decide) (by decide) ag Y al V λaq av aw ay az=>?_);refine C 2 V ?_;obtain rfl:=oi ap;exact AL func129 V V (ac Ax V ⟨aq,av,aw,V,(by first | rfl | simp | (simp [Value.cells])),ay⟩ az)
def UH(fu_:Nat)(p0:AE):Option (AE):= some ([])
theorem YJ{c2:Nat}{p0:AE}(ac:An Av E none c2 p0){fu_:Nat}{r:AE}(K:UH fu_ p0=some r):AP J 129 [sV none p0 c2] E [] (λw E' B'=>∃(O:Ap) (U:Nat) (g0:Seg),w= sV O r U/\B'=g0/\OL 27 Av E' O U g0 r):=by
 refine Bg func129 λQ ag cs H Y Z=>?_;unfold UH at K;refine C 8 V (Aq (v:= .bool true) V (λρ h=>Nn (a:=none) underlying80 (h _ _ V) (h _ _ V)) ?_);refine C 6 V ?_;obtain rfl:=oi K;exact AL func129 V V (Z Ax V ⟨none,0,[],V,V,OL.nil⟩ Y)
def f129(fu_:Nat)(p0:AE):Option AE:=MK fu_ p0
theorem aF{a1:Ap}{c2:Nat}{p0:AE}(O:An Av E a1 c2 p0){fu_:Nat}{r:AE}(K:f129 fu_ p0=some r):AP J 129 [.slice a1 p0.length c2] E [] (λw E' B'=>∃(U:Ap) (Y:Nat) (g0:Seg),w= .slice U r.length Y/\B'=g0/\OL 27 Av E' U Y g0 r):=by
 cases a1 with
 | some ad=>exact Y7 O K
 | none=>
  have Z:p0= []:=by
   rcases O.2 with h | ⟨_,_,h,_⟩
   ·exact h.1
   ·cases h
  subst Z;have ac:r= []:=by
   have ag:MK fu_ []=some []:=V;unfold f129 at K;rw [ag] at K;exact(Option.some.inj K).symm
  subst ac;exact YJ (fu_:=fu_) O V
def f43(fu_:Nat)(p0:AU):Option ((List Int)×Int):= (f70 fu_ p0 ([])).bind λK=> if K.2≠0 then(some ([],K.2)) else((f84 fu_ K.1).bind λO=> (Fy O 0 (p0.1.length:Int)).bind λU=> (f87 fu_ U).bind λY=> some (Y,0))
theorem cW{a1:Ap}{c2:Nat}{ac:Ap}{ag:Nat}{p0:AU}(a3:An (rL rI) E a1 c2 p0.1)(a4:An Av E ac ag p0.2){fu_:Nat}{r:(List Int)×Int}(al:f43 fu_ p0=some r):AP J 43 [.agg #[sV a1 p0.1 c2,sV ac p0.2 ag]] E [] (λw E' B'=>∃(am:Ap) (ap:Nat),w= .tuple #[sV am r.1 ap,iV r.2]/\B'= []/\An rI E' am ap r.1):=by
 refine Bg func43 λQ c3 cs H a5 aq=>?_;unfold f43 at al;refine C 2 V (Cf a5 λc4 c5 U av a6=>?_);refine C 5 V (B3 av B7 Bz V V ?_);obtain⟨c6,a7,a8⟩:=bs al;refine BT (Kb (a3.M U) (a4.M U) An.nil a7) V V JK a6 ?_;rintro _ c7 _ Y ⟨c8,c9,dd,dn,rfl,rfl,a9,bb⟩ be;refine C 3 V (B5 be Ht λdJ bi=>?_);refine BA 3 bi Ed λbn=>?_;refine DO 3 bn V λdK K bo aw=>C 8 V (AN a8 (λbv bw=>?_) (λbv bx=>?_))
 ·refine C 6 V ?_;obtain rfl:=oi bw;exact AL func43 V V (aq ((U.I Y).I K) V ⟨none,0,V,V,An.nil⟩ aw)
 ·refine C 3 V (B3 bo F4 Ed V V ?_);obtain⟨dL,bz,b0⟩:=bs bx;refine BT (QJ (a9.M K) (bb.M K) bz) V V Pe aw ?_;rintro _ ay _ az ⟨Z,rfl,rfl,O⟩ b1;refine B5 b1 K6 λdM b2=>?_;refine HT (v:= .agg Z.toArray) (l:= []) (ws:=(List.replicate 5 (iV 0):Lv_)) (us:=Z) (o:=0) 5 V V V b2 V V V (by rw [CE (kk:=5) (pp:=rI) O];exact AZ type105) ((rA 5 rI).one O) V (by rw [CE (kk:=5) (pp:=rI) O,CE (kk:=5) (pp:=rI) (He (E:=ay) (pp:=rI) rfl)];omega) λa0=>?_;rw [J0 (by rw [CE (kk:=5) (pp:=rI) O,CE (kk:=5) (pp:=rI) (He (E:=ay) (pp:=rI) rfl)])] at a0 ⊢;refine C 3 V (Bx 0 (av.M ((Y.I K).I az)) underlying25 Dr Ec ?_);refine JL.ln underlying22 V V V (DO 5 a0 V λdN a2 b3 b4=>?_);obtain⟨dO,b5,b6⟩:=bs b0;refine YM (ws:=Z) (pp:=rI) b3 (Rp.M _ a2 O) b5 V V V V V underlying105 AG λca=>?_;obtain⟨dQ,cc,ce⟩:=bs b6;refine BT (dj ca cc) V V (A5 func87 V) b4 ?_;rintro _ dR dS ci ⟨co,cp,_,rfl,rfl,ct⟩ cw;refine C 3 V (BI 6 ct cw V λdT cy c0 c1=>?_);obtain rfl:=oi ce;exact AL func43 V V (aq ((((((U.I Y).I K).I az).I a2).I ci).I cy) V ⟨co,cp,V,V,c0⟩ c1)
def TO(fu_:Nat)(p0:AE)(p1:AE)(K:Int):Option (Bo Int ((Int)⊕(Unit))):= if K<(p0.length:Int) then((ix p0 K).bind λU=> if(p1.length:Int)<=K then(some (.done (Sum.inl 1))) else((ix p1 K).bind λY=> (f113 fu_ U Y).bind λO=> if O≠0 then(some (.done (Sum.inl O))) else((Aw (K+1)).bind λZ=> some (.more Z)))) else(some (.done (Sum.inr ())))
def f112(fu_:Nat)(p0:AE)(p1:AE):Option Int:= Option.bind (iter (TO fu_ p0 p1) fu_ 0) λK=> Sum.elim (λr=>some r) (λO=> if(p0.length:Int)<(p1.length:Int) then(some (-1)) else(some 0)) K
theorem aX{a1:Ap}{c2:Nat}{U:Ap}{Y:Nat}{p0:AE}{p1:AE}(a9:An Av E a1 c2 p0)(bb:An Av E U Y p1){fu_:Nat}{r:Int}(aw:f112 fu_ p0 p1=some r):AP J 112 [sV a1 p0 c2,sV U p1 Y,(fV 113)] E [] (λw E' B'=>w=iV r/\B'= []):=by
 refine Bg func112 λQ dN cs H be Z=>?_;unfold f112 at aw;refine C 8 V (JL.ln underlying80 V V V ?_);obtain⟨ay,bi,ag⟩:=bs aw;refine C 2 V (Bs (λL s=>∃(az:Unit) (a0:LH),ay=Sum.inr az/\Jm E H a0 [] [(0,sV a1 p0 c2),(1,sV U p1 Y)] L s) ?_ ?_)
 ·rintro _ _ ⟨az,a0,rfl,rfl,rfl,a2,a3⟩;have bn:=elim_inr ag;refine C 4 V (JL.ln underlying80 V V V ?_);refine C 1 V (JL.ln underlying80 V V V ?_);refine C 2 V (AN bn (λbo bv=>?_) (λbo bw=>?_))
  ·refine C 4 V ?_;obtain rfl:=oi bv;exact AL func112 V V (Z a2 V ⟨V,V⟩ a3)
  ·refine C 5 V ?_;obtain rfl:=oi bw;exact AL func112 V V (Z a2 V ⟨V,V⟩ a3)
 ·intro bx;refine JL.block (CN bi (λal=> []) (λal=> [(0,sV a1 p0 c2),(1,sV U p1 Y),(2,(fV 113)),(11,sV a1 p0 c2),(12,iV (p0.length:Int)),(13,iV al)]) Ax be ?_);rintro al bz K a4 am ⟨dO,O⟩ b0;have a5:=O;unfold TO at a5;refine C 5 V (AN a5 (λb1 b2=>?_) (λb1 b3=>?_))
  ·obtain⟨ap,b4,b5⟩:=bs b2;refine C 6 V (JS.ix (a9.M K) b4 underlying80 AR ?_);rintro dQ dR _ ⟨_,_,rfl,rfl,⟨_,_,rfl,rfl,rfl⟩⟩ b6;refine B3 b6 CO AR V V (B5 a4 By λdS ca=>?_);refine C 1 V (BA 0 ca AR λcc=>?_);refine DO 0 cc V λdT ac ce a6=>C 6 V (JL.ln underlying80 V V V ?_);refine C 2 V (AN b5 (λci co=>?_) (λci cp=>?_))
   ·refine C 4 V ?_;obtain rfl:=oi co;obtain rfl:=am _ O;have ct:=elim_inl ag;obtain rfl:=oi ct;exact AL func112 V V (Z (K.I ac) V ⟨V,V⟩ a6)
   ·obtain⟨aq,cw,cy⟩:=bs cp;refine C 5 V (JS.ix (bb.M (K.I ac)) cw underlying80 AR ?_);rintro dU dV _ ⟨_,_,rfl,rfl,⟨_,_,rfl,rfl,rfl⟩⟩ c0;refine B3 c0 CO AR V V (B5 a6 By λdW c1=>?_);refine BA 1 c1 AR λc3=>?_;refine DO 1 c3 V λdX av c4 c5=>C 4 V (B3 (ce.M av) CO AR V V ?_);refine B3 c4 CO AR V V ?_;obtain⟨dY,c6,c7⟩:=bs cy;refine Lj (vs:= [.agg #[iV ap.1,iV ap.2.1,iV ap.2.2],.agg #[iV aq.1,iV aq.2.1,iV aq.2.2]]) (TS c6) V V V V (A5 func113 V) V c5 ?_;rintro _ dZ _ a7 ⟨rfl,rfl⟩ a8;refine C 7 V (AN c7 (λc8 c9=>?_) (λc8 dd=>?_))
    ·refine C 5 V ?_;obtain rfl:=oi c9;obtain rfl:=am _ O;have dn:=elim_inl ag;obtain rfl:=oi dn;exact AL func112 V V (Z (((K.I ac).I av).I a7) V ⟨V,V⟩ a8)
    ·obtain⟨dJ,dK,dL⟩:=bs dd;refine C 3 V (Bn dK V V V ?_);refine C 2 V ?_;obtain rfl:=oi dL;exact b0 dJ (((K.I ac).I av).I a7) a8 V O
  ·refine JL.exit V ?_;obtain rfl:=oi b3;have dM:ay=(Sum.inr ()):=(am _ O).symm;exact AF (bx _ _ ⟨(),bz,dM,V,V,K,a4⟩) V
def f74(fu_:Nat)(p0:AE)(p1:AE):Option Int:= (f112 fu_ p0 p1).bind λK=> some K
theorem IC{a1:Ap}{c2:Nat}{K:Ap}{O:Nat}{p0:AE}{p1:AE}(Y:An Av E a1 c2 p0)(Z:An Av E K O p1){fu_:Nat}{r:Int}(U:f74 fu_ p0 p1=some r):AP J 74 [sV a1 p0 c2,sV K p1 O] E [] (λw E' B'=>w=iV r/\B'= []):=by
 refine Bg func74 λQ av cs H ac ag=>?_;unfold f74 at U;obtain⟨aw,al,am⟩:=bs U;refine C 8 V (Ck (aX Y Z al) V V (A5 func112 V) ac λay ap aq=>?_);refine C 2 V ?_;obtain rfl:=oi am;exact AL func74 V V (ag ap V ⟨V,V⟩ aq)
def f73(fu_:Nat)(p0:AE)(p1:AE):Option Bool:= (f74 fu_ p0 p1).bind λK=> some (decide (K<0))
theorem cn{a1:Ap}{c2:Nat}{K:Ap}{O:Nat}{p0:AE}{p1:AE}(Y:An Av E a1 c2 p0)(Z:An Av E K O p1){fu_:Nat}{r:Bool}(U:f73 fu_ p0 p1=some r):AP J 73 [sV a1 p0 c2,sV K p1 O] E [] (λw E' B'=>w= .bool r/\B'= []):=by
 refine Bg func73 λQ av cs H ac ag=>?_;unfold f73 at U;obtain⟨aw,al,am⟩:=bs U;refine C 8 V (Ck (IC Y Z al) V V Ik ac λay ap aq=>?_);refine C 3 V ?_;obtain rfl:=oi am;exact AL func73 V V (ag ap V ⟨V,V⟩ aq)
def f72(fu_:Nat)(p0:AE×Bool)(p1:AE):Option ((AE×Bool)):= Option.bind (if(!p0.2)=true then(some true) else((f73 fu_ p1 p0.1).bind λK=> some K)) λO=> Option.bind (if O=true then(some (p1,true)) else(some p0)) λU=> some U
theorem cF{bk:Nat}{a1:Ap}{c2:Nat}{K:Ap}{O:Nat}{p0:AE×Bool}{p1:AE}(ap:An Av E a1 c2 p0.1)(aq:An Av E K O p1){fu_:Nat}{r:(AE×Bool)}(av:f72 fu_ p0 p1=some r):AP J 72 [Am bk 0,sV K p1 O,(fV 73)] E [(bk,.cells #[sV a1 p0.1 c2,.bool p0.2] 82 (0,0))] (λw E' B'=>∃(aw:Ap) (ay:Nat),w= .tuple #[]/\B'= [(bk,.cells #[sV aw r.1 ay,.bool r.2] 82 (0,0))]/\An Av E' aw ay r.1):=by
 refine Bg func72 λQ b6 cs H Y a3=>?_;unfold f72 at av;refine C 4 V (JL.fd underlying82 Mc V V V ?_);refine Aq (v:= .bool p0.2) V (λρ h=>Yl.load O5 (h _ _ V) (BS (j:=0) (off:=1) Y V V)) (Aq (v:= .bool (!p0.2)) V (λρ h=>Yl.not (h _ _ V)) ?_);obtain⟨a4,a5,a6⟩:=bs av;refine C 1 V (F6 [] (λL s=>∃(U:LH),Jm E H U [bX bk #[sV a1 p0.1 c2,.bool p0.2] 82] [(0,Am bk 0),(1,sV K p1 O),(19,.bool a4)] L s) ?_ ?_)
 ·rintro _ _ ⟨U,rfl,rfl,ag,az⟩;obtain⟨al,a7,a8⟩:=bs a6;refine JL.done (Bs (λL s=>∃(am:LH) (Z:Ap) (ac:Nat),Jn U H am [bX bk #[sV Z al.1 ac,.bool al.2] 82] [] L s (An Av am Z ac al.1)) ?_ ?_)
  ·rintro _ _ ⟨am,Z,ac,rfl,rfl,a9,bb,be⟩;obtain rfl:=oi a8;exact JL.fin (v:= .tuple #[]) V V (BH.list func72 V (vs:= []) trivial) (a3 (ag.I a9) V ⟨Z,ac,V,V,be⟩ bb)
  ·intro a0;refine Cc a7 (λbi bn=>?_) (λbi bo=>?_)
   ·refine C 5 V (JL.fd underlying82 Bt V V V ?_);refine BA 0 az Bt λbv=>?_;refine C 1 V (JL.fd underlying82 Mc V V V ?_);refine BA 0 bv Mc λbw=>?_;refine JL.done ?_;obtain rfl:=oi bn;exact AF (a0 _ _ ⟨U,K,O,V,V,Ax,bw,(aq.M ag)⟩) V
   ·refine JL.skip ?_;obtain rfl:=oi bo;exact AF (a0 _ _ ⟨U,a1,c2,V,V,Ax,az,(ap.M ag)⟩) V
 ·intro a2;refine EV 11 a5 (λbx bz=>?_) (λbx b0=>?_)
  ·refine C 8 V ?_;obtain rfl:=oi bz;exact AF (a2 _ _ ⟨E,V,V,Ax,Y⟩) V
  ·refine C 4 V (JL.fd underlying82 Bt V V V ?_);refine Aq (v:= sV a1 p0.1 c2) V (λρ h=>Yl.load BO (h _ _ V) (BS (j:=0) (off:=0) Y V V)) ?_;obtain⟨ca,b1,b2⟩:=bs b0;refine Lj (vs:= [sV K p1 O,sV a1 p0.1 c2]) (cn aq ap b1) V V V V (A5 func73 V) V Y ?_;rintro _ b3 _ b4 ⟨rfl,rfl⟩ b5;refine C 1 V ?_;obtain rfl:=oi b2;exact AF (a2 _ _ ⟨b3,V,V,b4,b5⟩) V
variable {J:Judge Tryz.prog}
def S8(fu_:Nat)(O:List Int)(K:(AD)×Int):Option (Bo ((AD)×Int) ((AD))):= if K.2<(O.length:Int) then((ix O K.2).bind λU=> (Aw (((BU K.1 U).getD 0)+1)).bind λY=> (Aw (K.2+1)).bind λZ=> some (.more ((DX K.1 U Y),Z))) else(some (.done K.1))
def Tf(fu_:Nat)(p0:AU)(K:(List AD)×Int):Option (Bo ((List AD)×Int) ((List AD))):= if K.2<(p0.1.length:Int) then((ix p0.1 K.2).bind λO=> Option.bind (iter (S8 fu_ O) fu_ (([]:AD),0)) λU=> (room K.1 U).bind λY=> (Aw (K.2+1)).bind λZ=> some (.more (Y,Z))) else(some (.done K.1))
def f120(fu_:Nat)(p0:AU):Option ((List AD)):= Option.bind (iter (Tf fu_ p0) fu_ ([],0)) λK=> some K
theorem aQ{a1:Ap}{c2:Nat}{bb:Ap}{be:Nat}{p0:AU}(ca:An (rL rI) E a1 c2 p0.1)(eC:An Av E bb be p0.2){fu_:Nat}{r:(List AD)}(bi:f120 fu_ p0=some r):AP J 120 [.agg #[sV a1 p0.1 c2,sV bb p0.2 be]] E [] (λw E' B'=>∃(bn:Ap) (bo:Nat),w= sV bn r bo/\B'= []/\An (rM rI false rI false) E' bn bo r):=by
 refine Bg func120 λQ eD cs H cc ce=>?_;unfold f120 at bi;refine C 2 V (Cf cc λeE ay bv ci co=>?_);refine C 9 V (JL.fd underlying77 Bz V V V ?_);refine Bx 0 ci underlying25 Dr Ec ?_;refine JL.ln underlying22 V V V ?_;obtain⟨bw,cp,ct⟩:=bs bi;refine C 2 V (Bs (λL s=>∃(az:LH) (am:Ap) (ap:Nat) (a0:Seg),Jn ay H az [a0] [(3,sV am bw ap)] L s (OL 197 (rM rI false rI false) az am ap a0 bw)) ?_ ?_)
 ·rintro _ _ ⟨az,am,ap,a0,rfl,rfl,cw,cy,c0⟩;refine C 5 V (BI 0 c0 cy V λeF c1 c3 c4=>?_);obtain rfl:=oi ct;exact AL func120 V V (ce ((bv.I cw).I c1) V ⟨am,ap,V,V,c3⟩ c4)
 ·intro c5;refine JL.block (Cy cp (λL s K=>∃(O:LH) (U:Ap) (Y:Nat) (ac:Seg),Jn ay H O [ac] [(3,sV U K.1 Y),(11,sV a1 p0.1 c2),(12,iV (p0.1.length:Int)),(13,iV K.2)] L s (OL 197 (rM rI false rI false) O U Y ac K.1)) ⟨ay,none,0,[],V,V,Ax,co,OL.nil⟩ ?_);rintro _ _ K ⟨O,U,Y,ac,rfl,rfl,a2,bx,bz⟩ c6 ⟨eG,a3⟩ c7;have b0:=a3;unfold Tf at b0;refine C 5 V (AN b0 (λc8 c9=>?_) (λc8 dd=>?_))
  ·obtain⟨b1,dn,dJ⟩:=bs c9;refine C 5 V (JS.ix (ca.M (bv.I a2)) dn underlying22 EP ?_);rintro eH eI _ ⟨dK,dL,rfl,dM⟩ dN;refine CI 0 dN G7 V V V (C 4 V ?_);refine JS.makeMap V V V bx λag dO=>C 6 V (JL.ln underlying28 V V V ?_);obtain⟨b2,dQ,dR⟩:=bs dJ;refine C 2 V (Bs (λL s=>∃(a4:LH) (aq:Obj),Jn O H a4 [ac,[(ag,aq)]] [(3,sV U K.1 Y),(6,.map (some ag)),(11,sV a1 p0.1 c2),(12,iV (p0.1.length:Int)),(13,iV K.2)] L s (BR rI false rI false a4 aq b2)) ?_ ?_)
   ·rintro _ _ ⟨a4,aq,rfl,rfl,b3,dS,dT⟩;refine C 3 V (Pq 1 dS V λb4 a5 dU dV=>?_);have dW:BR rI false rI false b4 aq b2:=(dT.M a5);obtain⟨dX,dY,dZ⟩:=bs dR;refine JS.app (pp:=(rM rI false rI false)) (v:= .map (some ag)) (a:=U) (c:=Y) 0 dY V V V V (λ_=>V) V (λ_=>V) V V V underlying156 underlying156 underlying156 HR (B8 type197) (Dz type197) V (by decide) (by decide) (by decide) (by decide) (bz.M (b3.I a5)) ⟨_,_,V,dU,dW⟩ dV V λeJ ea eb ec ed ee=>?_;obtain⟨ef,eg,eh⟩:=bs dZ;refine C 4 V (Bn eg V V V ?_);refine C 2 V ?_;obtain rfl:=oi eh;exact AF (c7 _ _ (dX,ef) ⟨b4,ea,eb,ec,V,V,((a2.I b3).I a5),ee,ed⟩ a3) V
   ·intro ei;refine JL.block (Cy dQ (λL s Z=>∃(al:LH) (av:Obj),Jn O H al [ac,[(ag,av)]] [(3,sV U K.1 Y),(6,.map (some ag)),(11,sV a1 p0.1 c2),(12,iV (p0.1.length:Int)),(13,iV K.2),(18,sV dK b1 dL),(19,iV (b1.length:Int)),(20,iV Z.2)] L s (BR rI false rI false al av Z.1)) ⟨O,(.map #[] 0),V,V,Ax,dO,BR.nil⟩ ?_);rintro _ _ Z ⟨al,av,rfl,rfl,a6,a7,a8⟩ ej ⟨eK,a9⟩ ek;have b5:=a9;unfold S8 at b5;refine C 5 V (AN b5 (λel em=>?_) (λel en=>?_))
    ·obtain⟨aw,eo,ep⟩:=bs em;refine C 5 V (JS.ix (dM.M a6) eo underlying28 AG ?_);rintro eL eM _ rfl er;refine CI 0 er AX V V V (C 5 V ?_);refine Aq (v:=iV ((BU Z.1 aw).getD 0)) V (λρ h=>Yl.lookup (ok:=false) (xs:=Z.1) (x0:=aw) (z0:=0) I6 underlying197 CL ⟨_,V,V⟩ a8 ⟨_,V,V⟩ (by rintro _ ⟨_,rfl,rfl⟩;rfl) (h _ _ V) (h _ _ V) (Ei (j:=1) (i:=0) a7 V V)) ?_;obtain⟨b6,et,eu⟩:=bs ep;refine Bn et V V V (JS.mapUpdate (xs:=Z.1) (x0:=aw) (v0:=b6) 1 I6 underlying197 a8 ⟨_,V,V⟩ ⟨_,V,V⟩ a7 V V V V V V V λew ex ey=>?_);obtain⟨ez,eA,eB⟩:=bs eu;refine C 3 V (Bn eA V V V ?_);refine C 2 V ?_;obtain rfl:=oi eB;exact AF (ek _ _ ((DX Z.1 aw b6),ez) ⟨al,ew,V,V,a6,ey,ex⟩ a9) V
    ·refine JL.exit V ?_;obtain rfl:=oi en;obtain rfl:=ej _ a9;exact AF (ei _ _ ⟨al,av,V,V,a6,a7,a8⟩) V
  ·refine JL.exit V ?_;obtain rfl:=oi dd;obtain rfl:=c6 _ a3;exact AF (c5 _ _ ⟨O,U,Y,ac,V,V,a2,bx,bz⟩) V
def Uc(fu_:Nat)(p0:AU)(O:(List Int))(K:(List Int)×Int):Option (Bo ((List Int)×Int) ((List Int))):= if K.2<5 then((ix O K.2).bind λU=> Option.bind (if K.2<(p0.1.length:Int) then((ix p0.1 K.2).bind λY=> (f85 fu_ Y).bind λZ=> (Aw (-(U))).bind λac=> some (decide (Z<ac))) else(some false)) λag=> Option.bind (if ag=true then((room K.1 K.2).bind λal=> some al) else(some K.1)) λam=> (Aw (K.2+1)).bind λap=> some (.more (am,ap))) else(some (.done K.1))
def f39(fu_:Nat)(p0:AU):Option ((List Int)×Int):= (f70 fu_ p0 ([])).bind λK=> if K.2≠0 then(some ([],K.2)) else((f84 fu_ K.1).bind λO=> Option.bind (iter (Uc fu_ p0 O) fu_ ([],0)) λU=> some (U,0))
theorem bU{a1:Ap}{c2:Nat}{bo:Ap}{bv:Nat}{p0:AU}(bw:An (rL rI) E a1 c2 p0.1)(cc:An Av E bo bv p0.2){fu_:Nat}{r:(List Int)×Int}(bx:f39 fu_ p0=some r):AP J 39 [.agg #[sV a1 p0.1 c2,sV bo p0.2 bv]] E [] (λw E' B'=>∃(bz:Ap) (b0:Nat),w= .tuple #[sV bz r.1 b0,iV r.2]/\B'= []/\An rI E' bz b0 r.1):=by
 refine Bg func39 λQ eM cs H ce b1=>?_;unfold f39 at bx;refine C 2 V (Cf ce λa3 eN al a4 ci=>?_);refine C 5 V (B3 a4 B7 Bz V V ?_);obtain⟨eO,co,cp⟩:=bs bx;refine BT (Kb (bw.M al) (cc.M al) An.nil co) V V JK ci ?_;rintro _ eP _ am ⟨eQ,eR,eS,eT,rfl,rfl,ct,cw⟩ cy;refine C 3 V (B5 cy Ht λeU c0=>?_);refine BA 3 c0 Ed λc1=>?_;refine DO 3 c1 V λeV O c3 b2=>C 8 V (AN cp (λc4 c5=>?_) (λc4 c6=>?_))
 ·refine C 6 V ?_;obtain rfl:=oi c5;exact AL func39 V V (b1 ((al.I am).I O) V ⟨none,0,V,V,An.nil⟩ b2)
 ·refine C 8 V (B3 c3 F4 Ed V V ?_);obtain⟨eW,c7,c8⟩:=bs c6;refine BT (QJ (ct.M O) (cw.M O) c7) V V Pe b2 ?_;rintro _ a5 _ aq ⟨a6,rfl,rfl,c9⟩ dd;obtain⟨b3,dn,dJ⟩:=bs c8;refine C 2 V (Bs (λL s=>∃(a7:LH) (av:Ap) (aw:Nat) (a8:Seg),Jn a5 H a7 [a8] [(6,sV av b3 aw)] L s (OL 3 rI a7 av aw a8 b3)) ?_ ?_)
  ·rintro _ _ ⟨a7,av,aw,a8,rfl,rfl,dK,dL,dM⟩;refine C 6 V (BI 0 dM dL V λeX dN dO dQ=>?_);obtain rfl:=oi dJ;exact AL func39 V V (b1 (((((al.I am).I O).I aq).I dK).I dN) V ⟨av,aw,V,V,dO⟩ dQ)
  ·intro dR;refine JL.block (Cy dn (λL s K=>∃(Z:LH) (U:Ap) (Y:Nat) (ac:Seg),Jn a5 H Z [ac] [(1,Am a3 0),(6,sV U K.1 Y),(18,.agg a6.toArray),(19,iV K.2)] L s (OL 3 rI Z U Y ac K.1)) ⟨a5,none,0,[],V,V,Ax,dd,OL.nil⟩ ?_);rintro _ _ K ⟨Z,U,Y,ac,rfl,rfl,ag,a9,bb⟩ dS ⟨eY,be⟩ dT;have b4:=be;unfold Uc at b4;refine C 5 V (AN b4 (λdU dV=>?_) (λdU dW=>?_))
   ·obtain⟨eZ,dX,dY⟩:=bs dV;refine C 6 V (Uq (Rp.M _ ag c9) dX V V V V V underlying105 AG AX ?_ (λ_=>V));rintro _ rfl;refine C 6 V (Bx 0 (a4.M (((am.I O).I aq).I ag)) underlying25 Dr Ec ?_);refine JL.ln underlying22 V V V ?_;obtain⟨dZ,ea,eb⟩:=bs dY;refine C 2 V (F6 [] (λL s=>∃(ap:LH),Jm Z H ap [ac] [(1,Am a3 0),(6,sV U K.1 Y),(7,iV K.2),(18,.agg a6.toArray),(19,iV K.2),(38,.bool dZ)] L s) ?_ ?_)
    ·rintro _ _ ⟨ap,rfl,rfl,bi,b5⟩;obtain⟨bn,ec,ed⟩:=bs eb;refine JL.done (Bs (λL s=>∃(ay:LH) (az:Ap) (a0:Nat) (a2:Seg),Jn ap H ay [a2] [(1,Am a3 0),(6,sV az bn a0),(18,.agg a6.toArray),(19,iV K.2)] L s (OL 3 rI ay az a0 a2 bn)) ?_ ?_)
     ·rintro _ _ ⟨ay,az,a0,a2,rfl,rfl,ee,ef,eg⟩;obtain⟨eh,ei,ej⟩:=bs ed;refine C 2 V (Bn ei V V V ?_);refine C 2 V ?_;obtain rfl:=oi ej;exact AF (dT _ _ (bn,eh) ⟨ay,az,a0,a2,V,V,((ag.I bi).I ee),ef,eg⟩ be) V
     ·intro b6;refine Cc ec (λek el=>?_) (λek em=>?_)
      ·obtain⟨e0,en,eo⟩:=bs el;refine C 3 V (JS.app (pp:=rI) (v:=iV K.2) (a:=U) (c:=Y) 0 en V V V V (λ_=>V) V (λ_=>V) V V V underlying28 underlying28 underlying28 AG (B8 type3) CL V (by decide) (by decide) (by decide) (by decide) (bb.M bi) V b5 V λe1 ep er et eu ew=>?_);refine C 2 V ?_;obtain rfl:=oi eo;exact AF (b6 _ _ ⟨ap,ep,er,et,V,V,Ax,ew,eu⟩) V
      ·refine JL.skip ?_;obtain rfl:=oi em;exact AF (b6 _ _ ⟨ap,U,Y,ac,V,V,Ax,b5,(bb.M bi)⟩) V
    ·intro ca;refine FV 28 ea (λex ey=>?_) (λex ez=>?_)
     ·refine Bx 0 (a4.M (((am.I O).I aq).I ag)) underlying25 Dr Ec ?_;obtain⟨e3,eA,eB⟩:=bs ey;refine C 1 V (JS.ix (bw.M ((((al.I am).I O).I aq).I ag)) eA underlying22 EP ?_);rintro e4 e5 _ ⟨e6,e7,rfl,eC⟩ eD;refine CI 0 eD G7 V V V ?_;obtain⟨e8,eE,eF⟩:=bs eB;refine Ck (H4 eC eE) V V HQ a9 λeG eH eI=>?_;obtain⟨eJ,eK,eL⟩:=bs eF;refine C 1 V (Aq (v:=iV eJ) V (λρ h=>Hw (h _ _ V) eK) ?_);refine C 2 V ?_;obtain rfl:=oi eL;exact AF (ca _ _ ⟨eG,V,V,eH,eI⟩) V
     ·refine C 10 V ?_;obtain rfl:=oi ez;exact AF (ca _ _ ⟨Z,V,V,Ax,a9⟩) V
   ·refine JL.exit V ?_;obtain rfl:=oi dW;obtain rfl:=dS _ be;exact AF (dR _ _ ⟨Z,U,Y,ac,V,V,ag,a9,bb⟩) V
def TP(fu_:Nat)(p0:List Int)(p1:Int)(K:Int):Option (Bo Int ((Int)⊕(Unit))):= if K<(p0.length:Int) then((ix p0 K).bind λO=> if p1=O then(some (.done (Sum.inl K))) else((Aw (K+1)).bind λU=> some (.more U))) else(some (.done (Sum.inr ())))
def f128(fu_:Nat)(p0:List Int)(p1:Int):Option Int:= Option.bind (iter (TP fu_ p0 p1) fu_ 0) λK=> Sum.elim (λr=>some r) (λO=> some (-1)) K
theorem bq{a1:Ap}{c2:Nat}{p0:List Int}{p1:Int}(aw:An rI E a1 c2 p0){fu_:Nat}{r:Int}(Z:f128 fu_ p0 p1=some r):AP J 128 [sV a1 p0 c2,iV p1] E [] (λw E' B'=>w=iV r/\B'= []):=by
 refine Bg func128 λQ b2 cs H ay ac=>?_;unfold f128 at Z;refine C 8 V (JL.ln underlying28 V V V ?_);obtain⟨ag,az,al⟩:=bs Z;refine C 2 V (Bs (λL s=>∃(am:Unit) (ap:LH),ag=Sum.inr am/\Jm E H ap [] [] L s) ?_ ?_)
 ·rintro _ _ ⟨am,ap,rfl,rfl,rfl,a0,a2⟩;have a3:=elim_inr al;refine C 4 V ?_;obtain rfl:=oi a3;exact AL func128 V V (ac a0 V ⟨V,V⟩ a2)
 ·intro a4;refine JL.block (CN az (λU=> []) (λU=> [(0,sV a1 p0 c2),(1,iV p1),(7,iV (p0.length:Int)),(8,iV U)]) Ax ay ?_);rintro U a5 K Y aq ⟨b3,O⟩ a6;have av:=O;unfold TP at av;refine C 5 V (AN av (λa7 a8=>?_) (λa7 a9=>?_))
  ·obtain⟨b4,bb,be⟩:=bs a8;refine C 13 V (JS.ix (aw.M K) bb underlying28 AG ?_);rintro b5 b6 _ rfl bi;refine CI 0 bi AX V V V (C 2 V ?_);refine AN be (λbn bo=>?_) (λbn bv=>?_)
   ·refine C 5 V ?_;obtain rfl:=oi bo;obtain rfl:=aq _ O;have bw:=elim_inl al;obtain rfl:=oi bw;exact AL func128 V V (ac K V ⟨V,V⟩ Y)
   ·obtain⟨bx,bz,b0⟩:=bs bv;refine C 3 V (Bn bz V V V ?_);refine C 2 V ?_;obtain rfl:=oi b0;exact a6 bx K Y V O
  ·refine JL.exit V ?_;obtain rfl:=oi a9;have b1:ag=(Sum.inr ()):=(aq _ O).symm;exact AF (a4 _ _ ⟨(),a5,b1,V,V,K,Y⟩) V
def f82(fu_:Nat)(p0:List Int)(p1:Int):Option Bool:= (f128 fu_ p0 p1).bind λK=> some (decide (0<=K))
theorem di{a1:Ap}{c2:Nat}{p0:List Int}{p1:Int}(O:An rI E a1 c2 p0){fu_:Nat}{r:Bool}(K:f82 fu_ p0 p1=some r):AP J 82 [sV a1 p0 c2,iV p1] E [] (λw E' B'=>w= .bool r/\B'= []):=by
 refine Bg func82 λQ am cs H U Y=>?_;unfold f82 at K;obtain⟨ap,Z,ac⟩:=bs K;refine C 8 V (Ck (bq O Z) V V (A5 func128 V) U λaq ag al=>?_);refine C 3 V ?_;obtain rfl:=oi ac;exact AL func82 V V (Y ag V ⟨V,V⟩ al)
def T6(fu_:Nat)(O:AU×Int)(K:(List ((Int×Int)×Bool))×Int):Option (Bo ((List ((Int×Int)×Bool))×Int) ((List ((Int×Int)×Bool)))):= if K.2<(O.1.2.length:Int) then((ix O.1.2 K.2).bind λU=> (Aw (K.2+1)).bind λY=> some (.more ((DX K.1 (U.1,U.2.1) true),Y))) else(some (.done K.1))
def Uz(fu_:Nat)(U:AU×Int)(Y:(List ((Int×Int)×Bool)))(O:List Int)(K:Bq×Int):Option (Bo (Bq×Int) (Bq)):= if K.2<(U.1.1.length:Int) then(Option.bind ((f82 fu_ O K.2).bind λZ=> Option.bind (if Z=true then(some true) else(if 0<(O.length:Int) then((Aw ((O.length:Int) - 1)).bind λac=> (ix O ac).bind λag=> some (!((BU Y (ag,K.2)).getD false))) else(some false))) λal=> if al=true then(some K.1) else((Cz O ([K.2]:List Int)).bind λam=> (room K.1 am).bind λap=> some ap)) λaq=> (Aw (K.2+1)).bind λav=> some (.more (aq,av))) else(some (.done K.1))
def T8(fu_:Nat)(Z:AU×Int)(U:(List ((Int×Int)×Bool)))(Y:Bq)(O:Bq×Int):Option (Bo (Bq×Int) (((List Int)×Int)⊕(Bq))):= if O.2<(Y.length:Int) then((ix Y O.2).bind λK=> Option.bind (if 1<(K.length:Int) then((Aw ((K.length:Int) - 1)).bind λac=> (ix K ac).bind λag=> (ix K (0)).bind λal=> some ((BU U (ag,al)).getD false)) else(some false)) λam=> if am=true then(some (.done (Sum.inl (K,0)))) else(Option.bind (iter (Uz fu_ Z U K) fu_ (O.1,0)) λap=> (Aw (O.2+1)).bind λaq=> some (.more (ap,aq)))) else(some (.done (Sum.inr O.1)))
def TV(fu_:Nat)(U:AU×Int)(Y:(List ((Int×Int)×Bool)))(K:Bq):Option (Bo (Bq) (((List Int)×Int)⊕(Unit))):= if 0<(K.length:Int) then(Option.bind (iter (T8 fu_ U Y K) fu_ ([],0)) λZ=> Sum.elim (λr=>some (.done (Sum.inl r))) (λO=> if(O.length:Int)=0 then(some (.done (Sum.inr ()))) else(some (.more O))) Z) else(some (.done (Sum.inr ())))
def f33(fu_:Nat)(p0:AU):Option ((List Int)×Int):= (f70 fu_ p0 ([])).bind λK=> if K.2≠0 then(some ([],K.2)) else(Option.bind (iter (T6 fu_ K) fu_ (([]:List ((Int×Int)×Bool)),0)) λO=> Option.bind (iter (TV fu_ K O) fu_ ([[]]:Bq)) λU=> Sum.elim (λr=>some r) (λY=> some ([],11)) U)
theorem cB{a1:Ap}{c2:Nat}{dX:Ap}{dY:Nat}{p0:AU}(eH:An (rL rI) E a1 c2 p0.1)(eI:An Av E dX dY p0.2){fu_:Nat}{r:(List Int)×Int}(dZ:f33 fu_ p0=some r):AP J 33 [.agg #[sV a1 p0.1 c2,sV dX p0.2 dY]] E [] (λw E' B'=>∃(ea:Ap) (eb:Nat),w= .tuple #[sV ea r.1 eb,iV r.2]/\B'= []/\An rI E' ea eb r.1):=by
 refine Bg func33 λQ hC cs H eJ c9=>?_;unfold f33 at dZ;refine C 2 V (Cf eJ λhD hE bv eK eL=>?_);refine C 6 V (B3 eK B7 Bz V V ?_);obtain⟨bw,eM,eN⟩:=bs dZ;refine BT (Kb (eH.M bv) (eI.M bv) An.nil eM) V V JK eL ?_;rintro _ hF _ dd ⟨hG,hH,eO,eP,rfl,rfl,hI,eQ⟩ eR;refine C 3 V (B5 eR Ht λac eS=>?_);refine BA 3 eS Ed λeT=>?_;refine DO 3 eT V λdn b4 ec ed=>C 8 V (AN eN (λeU eV=>?_) (λeU eW=>?_))
 ·refine C 6 V ?_;obtain rfl:=oi eV;exact AL func33 V V (c9 ((bv.I dd).I b4) V ⟨none,0,V,V,An.nil⟩ ed)
 ·refine C 3 V (JS.makeMap V V V ed λK eX=>?_);refine C 5 V (JL.fd underlying77 Bz V V V ?_);refine Bx 1 ec underlying25 Cj Ej ?_;refine JL.ln underlying23 V V V ?_;obtain⟨a7,eY,eZ⟩:=bs eW;refine C 2 V (Bs (λL s=>∃(a8:LH) (Z:Obj),Jn dn H a8 [[(K,Z)]] [(4,Am ac 0),(6,.map (some K))] L s (BR BX true rB false a8 Z a7)) ?_ ?_)
  ·rintro _ _ ⟨a8,Z,rfl,rfl,dJ,e0,ee⟩;refine C 2 V (Fe (pp:=(rL rI)) [nS] [[]] V V V underlying22 EP K9 (by decide) V V V ⟨⟨_,_,V,An.nil⟩,trivial⟩ e0 λe1 e3 e4 e5=>?_);refine C 3 V (JL.label ?_);obtain⟨dK,e6,ef⟩:=bs eZ;refine JL.seq (Bs (λL s=>∃(eg:Unit) (eh:LH),dK=Sum.inr eg/\Jm a8 H eh [] [] L s) ?_ ?_)
   ·rintro _ _ ⟨eg,eh,rfl,rfl,rfl,e7,e8⟩;have e9:=elim_inr ef;refine C 5 V ?_;obtain rfl:=oi e9;exact AL func33 V V (c9 ((((bv.I dd).I b4).I dJ).I e7) V ⟨none,0,V,V,An.nil⟩ e8)
   ·intro ei;refine JL.block (Cy e6 (λL s O=>∃(az:LH) (ag:Ap) (al:Nat) (am:Seg),Jn a8 H az [[(K,Z)],am] [(4,Am ac 0),(6,.map (some K)),(9,sV ag O al)] L s (OL 28 (rL rI) az ag al am O)) ⟨a8,(AQ e1),1,e3,V,V,Ax,e5,e4⟩ ?_);rintro _ _ O ⟨az,ag,al,am,rfl,rfl,a0,ej,fa⟩ dL ⟨hJ,bx⟩ fb;have ek:=bx;unfold TV at ek;refine C 4 V (JL.ln underlying22 V V V ?_);refine C 2 V (AN ek (λfc fe=>?_) (λfc ff=>?_))
    ·refine C 10 V (JL.ln underlying22 V V V ?_);obtain⟨el,fg,em⟩:=bs fe;refine C 2 V (Bs (λL s=>∃(bz:Bq) (b0:LH) (b5:Ap) (b6:Nat) (ca:Seg),el=Sum.inr bz/\Jn az H b0 [[(K,Z)],ca] [(4,Am ac 0),(6,.map (some K)),(10,sV b5 bz b6)] L s (OL 28 (rL rI) b0 b5 b6 ca bz)) ?_ ?_)
     ·rintro _ _ ⟨bz,b0,b5,b6,ca,rfl,rfl,rfl,en,eo,fh⟩;have fj:=elim_inr em;refine C 8 V (JL.ln underlying22 V V V ?_);refine C 2 V (AN fj (λfk fl=>?_) (λfk fm=>?_))
      ·refine JL.exit V (JS.drop 0 eo V λfo=>?_);refine JS.drop 1 fo V λfp=>?_;obtain rfl:=oi fl;have fq:dK=(Sum.inr ()):=(dL _ bx).symm;exact AF (ei _ _ ⟨(),b0,fq,V,V,(a0.I en),fp⟩) V
      ·refine C 2 V ?_;obtain rfl:=oi fm;exact AF (fb _ _ bz ⟨b0,b5,b6,ca,V,V,(a0.I en),eo,fh⟩ bx) V
     ·intro fs;refine JL.block (Cy fg (λL s Y=>∃(aq:LH) (a9:Ap) (bb:Nat) (be:Seg),Jn az H aq [[(K,Z)],am,be] [(4,Am ac 0),(6,.map (some K)),(10,sV a9 Y.1 bb),(43,sV ag O al),(44,iV (O.length:Int)),(45,iV Y.2)] L s (OL 28 (rL rI) aq a9 bb be Y.1)) ⟨az,none,0,[],V,V,Ax,ej,OL.nil⟩ ?_);rintro _ _ Y ⟨aq,a9,bb,be,rfl,rfl,a2,b1,ep⟩ er ⟨hK,cc⟩ fu;have et:=cc;unfold T8 at et;refine C 5 V (AN et (λfv fw=>?_) (λfv fx=>?_))
      ·obtain⟨av,fy,fz⟩:=bs fw;refine C 5 V (J1 1 (fa.M a2) fy V V V V V V underlying22 EP ?_);rintro hL hM f155 _ fA ⟨a3,bi,rfl,aw⟩ fB hN hO hP hQ;refine Aq (v:= sV a3 av bi) V (λρ h=>Yl.load G7 (h _ _ V) (BS (j:=1) b1 fA (fB 0 _ V))) (C 6 V ?_);refine JL.ln underlying28 V V V (C 3 V ?_);refine QH 15 λht=>A1 ht V [0,1,2] V ?_;obtain⟨fC,eu,fD⟩:=bs fz;refine Gn 0 #[true,true,true,true,true,true,true,true,true,true,true,true,true,true,true] (λL s=>L= [(4,Am ac 0),(6,.map (some K)),(10,sV a9 Y.1 bb),(12,sV a3 av bi),(43,sV ag O al),(44,iV (O.length:Int)),(45,iV Y.2),(65,.bool fC)]/\s=Al aq H [[(K,Z)],am,be]) ?_ ?_
       ·rintro _ _ ⟨rfl,rfl⟩;refine AT.fin (by decide+kernel) (Cc fD (λfE fF=>?_) (λfE fG=>?_))
        ·refine C 6 V (JS.drop 0 b1 V λfH=>?_);refine JS.drop 1 fH V λfI=>JS.drop 2 fI V λfJ=>?_;obtain rfl:=oi fF;obtain rfl:=er _ cc;have fK:=elim_inl em;obtain rfl:=oi fK;obtain rfl:=dL _ bx;have fL:=elim_inl ef;obtain rfl:=oi fL;exact AL func33 V V (c9 (((((bv.I dd).I b4).I dJ).I a0).I a2) V ⟨a3,bi,V,V,aw⟩ fJ)
        ·refine C 3 V (JL.fd underlying77 Bz V V V ?_);refine Bx 0 (ec.M ((dJ.I a0).I a2)) underlying25 Dr Ec ?_;refine JL.ln underlying22 V V V ?_;obtain⟨dM,fM,fN⟩:=bs fG;refine C 2 V (Bs (λL s=>∃(ce:LH) (ci:Ap) (co:Nat) (cp:Seg),Jn aq H ce [[(K,Z)],am,cp] [(4,Am ac 0),(6,.map (some K)),(10,sV ci dM co),(43,sV ag O al),(44,iV (O.length:Int)),(45,iV Y.2)] L s (OL 28 (rL rI) ce ci co cp dM)) ?_ ?_)
         ·rintro _ _ ⟨ce,ci,co,cp,rfl,rfl,fO,fP,fQ⟩;obtain⟨fR,fS,fT⟩:=bs fN;refine C 2 V (Bn fS V V V ?_);refine C 2 V ?_;obtain rfl:=oi fT;exact AF (fu _ _ (dM,fR) ⟨ce,ci,co,cp,V,V,(a2.I fO),fP,fQ⟩ cc) V
         ·intro fU;refine JL.block (Cy fM (λL s U=>∃(b2:LH) (a4:Ap) (a5:Nat) (bn:Seg),Jn aq H b2 [[(K,Z)],am,bn] [(4,Am ac 0),(6,.map (some K)),(10,sV a4 U.1 a5),(12,sV a3 av bi),(43,sV ag O al),(44,iV (O.length:Int)),(45,iV Y.2),(70,iV (bw.1.1.length:Int)),(71,iV U.2)] L s (OL 28 (rL rI) b2 a4 a5 bn U.1)) ⟨aq,a9,bb,be,V,V,Ax,b1,ep⟩ ?_);rintro _ _ U ⟨b2,a4,a5,bn,rfl,rfl,ay,ew,dN⟩ fW ⟨hR,dO⟩ fX;have ex:=dO;unfold Uz at ex;refine C 5 V (AN ex (λfY fZ=>?_) (λfY ga=>?_))
          ·obtain⟨dQ,gb,gc⟩:=bs fZ;refine C 2 V (Bs (λL s=>∃(ct:LH) (cw:Ap) (cy:Nat) (c0:Seg),Jn b2 H ct [[(K,Z)],am,c0] [(4,Am ac 0),(6,.map (some K)),(10,sV cw dQ cy),(12,sV a3 av bi),(43,sV ag O al),(44,iV (O.length:Int)),(45,iV Y.2),(70,iV (bw.1.1.length:Int)),(71,iV U.2)] L s (OL 28 (rL rI) ct cw cy c0 dQ)) ?_ ?_)
           ·rintro _ _ ⟨ct,cw,cy,c0,rfl,rfl,gd,ge,gf⟩;obtain⟨gg,gh,gi⟩:=bs gc;refine JL.region (Bn gh V V V ?_);refine C 2 V ?_;obtain rfl:=oi gi;exact AF (fX _ _ (dQ,gg) ⟨ct,cw,cy,c0,V,V,(ay.I gd),ge,gf⟩ dO) V
           ·intro ey;obtain⟨hS,gj,gk⟩:=bs gb;refine C 11 V (Ck (di (aw.M ay) gj) V V (A5 func82 V) ew λc1 ap c3=>?_);obtain⟨gl,gm,gn⟩:=bs gk;refine C 1 V (F6 [] (λL s=>∃(dR:LH),Jm c1 H dR [[(K,Z)],am,bn] [(4,Am ac 0),(6,.map (some K)),(10,sV a4 U.1 a5),(12,sV a3 av bi),(14,iV U.2),(43,sV ag O al),(44,iV (O.length:Int)),(45,iV Y.2),(70,iV (bw.1.1.length:Int)),(71,iV U.2),(94,.bool gl)] L s) ?_ ?_)
            ·rintro _ _ ⟨dR,rfl,rfl,a6,ez⟩;refine JL.done (Cc gn (λgp gq=>?_) (λgp gr=>?_))
             ·refine JL.exit V ?_;obtain rfl:=oi gq;exact AF (ey _ _ ⟨dR,a4,a5,bn,V,V,(ap.I a6),ez,(dN.M (ap.I a6))⟩) V
             ·refine C 5 V (JL.ln underlying28 V V V ?_);refine C 1 V (JL.ln underlying28 V V V ?_);refine Aq (v:= .slice a3 av.length av.length) V (λρ h=>RO (An.spot (aw.M ((ay.I ap).I a6))) (And.left (aw.M ((ay.I ap).I a6))) underlying28 AG (h _ _ V) (h _ _ V) (h _ _ V)) (C 1 V ?_);refine Fe (pp:=rI) [iV U.2] [U.2] V V V underlying28 AG CL (by decide) V V V ⟨V,trivial⟩ ez λhT hU gt gu=>BI 3 gt gu V λhV dS gv gw=>?_;obtain⟨gx,gy,gz⟩:=bs gr;refine VZ (pp:=rI) gy V V V V V V V underlying28 underlying28 AG (B8 type3) CL V (by decide) (by decide) (aw.M (((ay.I ap).I a6).I dS)) gv gw λgA gB gC eA gD gE=>?_;obtain⟨hW,gF,gG⟩:=bs gz;refine JS.app (pp:=(rL rI)) (v:= sV gB gx gC) (a:=a4) (c:=a5) 2 gF V V V V (λ_=>V) V (λ_=>V) V V V underlying22 underlying22 underlying22 EP (B8 type28) K9 V (by decide) (by decide) (by decide) (by decide) (dN.M (((ap.I a6).I dS).I eA)) ⟨_,_,V,gD⟩ gE V λhX gH gI gJ gK gL=>C 3 V ?_;obtain rfl:=oi gG;exact AF (ey _ _ ⟨gA,gH,gI,gJ,V,V,(((ap.I a6).I dS).I eA),gL,gK⟩) V
            ·intro dT;refine EV 77 gm (λgM gO=>?_) (λgM gP=>?_)
             ·refine C 17 V ?_;obtain rfl:=oi gO;exact AF (dT _ _ ⟨c1,V,V,Ax,c3⟩) V
             ·refine C 1 V (JL.ln underlying28 V V V ?_);refine C 2 V (FV 81 gP (λgQ gR=>?_) (λgQ gS=>?_))
              ·refine C 3 V (JL.ln underlying28 V V V ?_);obtain⟨hY,gT,gU⟩:=bs gR;refine Cm gT V V V ?_;obtain⟨c4,gV,gW⟩:=bs gU;refine JS.ix (aw.M (ay.I ap)) gV underlying28 AG ?_;rintro hZ h0 _ rfl gX;refine CI 0 gX AX V V V (C 1 V ?_);refine Aq (v:= .agg #[iV c4,iV U.2]) V (λρ h=>C6 [(0,1),(1,1)] h Jg underlying101 ⟨V,AZ type3,V,AZ type3,trivial⟩ V V) (Aq (v:= .bool (((BU a7 (c4,U.2)).getD false))) V (λρ h=>Yl.lookup (ok:=false) (xs:=a7) (x0:=(c4,U.2)) (z0:=false) Qp underlying99 Ma ⟨_,V,V⟩ (ee.M (((a0.I a2).I ay).I ap)) ⟨_,⟨_,_,V,V,V⟩,V⟩ (by rintro _ ⟨_,rfl,rfl⟩;rfl) (h _ _ V) (h _ _ V) (Ei (j:=0) (i:=0) c3 V V)) ?_);refine Aq (v:= .bool ((!((BU a7 (c4,U.2)).getD false)))) V (λρ h=>Yl.not (h _ _ V)) (C 2 V ?_);obtain rfl:=oi gW;exact AF (dT _ _ ⟨c1,V,V,Ax,c3⟩) V
              ·refine C 13 V ?_;obtain rfl:=oi gS;exact AF (dT _ _ ⟨c1,V,V,Ax,c3⟩) V
          ·refine JL.exit V ?_;obtain rfl:=oi ga;obtain rfl:=fW _ dO;exact AF (fU _ _ ⟨b2,a4,a5,bn,V,V,ay,ew,dN⟩) V
       ·intro eB;refine GU (q:=1<(av.length:Int)) (i:=53) V (λdU=>?_) (λdU=>?_)
        ·have gY:=ip eu dU;refine A1 ht V [3,4,5] V ?_;obtain⟨h1,gZ,g0⟩:=bs gY;refine A0 6 ht V V (λρ h s' hs=>Ds (h _ _ V) (h _ _ V) gZ) ?_;obtain⟨c5,g1,g3⟩:=bs g0;refine CP 7 aw g1 ht underlying28 AG ?_;rintro h2 h3 _ rfl g4;refine A0 (v:=iV c5) 8 ht V V (λρ h s' hs=>Yl.load AX (h _ _ V) (MI hs (At.LV (j:=0) g4 V))) ?_;refine Ef 9 ht V V ?_;obtain⟨c6,g5,g6⟩:=bs g3;refine CP 10 aw g5 ht underlying28 AG ?_;rintro h4 h5 _ rfl g7;refine A0 (v:=iV c6) 11 ht V V (λρ h s' hs=>Yl.load AX (h _ _ V) (MI hs (At.LV (j:=0) g7 V))) ?_;refine A0 (v:= .agg #[iV c5,iV c6]) 12 ht V V (λρ h s' hs=>C6 [(0,1),(1,1)] h Jg underlying101 ⟨V,AZ type3,V,AZ type3,trivial⟩ V V) ?_;refine A0 (v:= .bool (((BU a7 (c5,c6)).getD false))) 13 ht V V (λρ h s' hs=>Yl.lookup (ok:=false) (xs:=a7) (x0:=(c5,c6)) (z0:=false) Qp underlying99 Ma ⟨_,V,V⟩ (ee.M (a0.I a2)) ⟨_,⟨_,_,V,V,V⟩,V⟩ (by rintro _ ⟨_,rfl,rfl⟩;rfl) (h _ _ V) (h _ _ V) (Q1 hs (Ei (j:=0) (i:=0) b1 V V))) ?_;refine Ef 14 ht V V ?_;obtain rfl:=oi g6;refine Ek ?_ (eB _ _ ⟨V,V⟩);exact⟨V,V,V,V,V,V,V,V,trivial⟩
        ·have g8:=im eu dU;refine A1 ht V [3,4,5,6,7,8,9,10,11,12,13,14] V ?_;obtain rfl:=oi g8;refine Ek ?_ (eB _ _ ⟨V,V⟩);exact⟨V,V,V,V,V,V,V,V,trivial⟩
      ·refine JL.exit V (JS.drop 1 b1 V λg9=>?_);obtain rfl:=oi fx;have ha:el=(Sum.inr Y.1):=(er _ cc).symm;exact AF (fs _ _ ⟨Y.1,aq,a9,bb,be,ha,V,V,a2,g9,ep⟩) V
    ·refine JL.exit V (JS.drop 0 ej V λhb=>?_);refine JS.drop 1 hb V λhc=>?_;obtain rfl:=oi ff;have hd:dK=(Sum.inr ()):=(dL _ bx).symm;exact AF (ei _ _ ⟨(),az,hd,V,V,a0,hc⟩) V
  ·intro he;refine JL.block (Cy eY (λL s b3=>∃(c7:LH) (c8:Obj),Jn dn H c7 [[(K,c8)]] [(4,Am ac 0),(6,.map (some K)),(26,sV eO bw.1.2 eP),(27,iV (bw.1.2.length:Int)),(28,iV b3.2)] L s (BR BX true rB false c7 c8 b3.1)) ⟨dn,(.map #[] 0),V,V,Ax,eX,BR.nil⟩ ?_);rintro _ _ b3 ⟨c7,c8,rfl,rfl,dV,eC,eD⟩ hf ⟨h6,dW⟩ hj;have eE:=dW;unfold T6 at eE;refine C 5 V (AN eE (λhk hl=>?_) (λhk hm=>?_))
   ·obtain⟨bo,hn,ho⟩:=bs hl;refine C 5 V (JS.ix (eQ.M (b4.I dV)) hn underlying23 AR ?_);rintro h7 h8 _ ⟨_,_,rfl,rfl,⟨_,_,rfl,rfl,rfl⟩⟩ hp;refine B3 hp CO AR V V (B5 eC By λh9 hq=>?_);refine BA 1 hq AR λhr=>?_;refine DO 1 hr V λhu eF eG hv=>C 3 V (Bx 0 eG underlying27 AG AX ?_);refine Bx 1 eG underlying27 AG AX ?_;refine Aq (v:= .agg #[iV bo.1,iV bo.2.1]) V (λρ h=>C6 [(0,1),(1,1)] h Jg underlying101 ⟨V,AZ type3,V,AZ type3,trivial⟩ V V) (JS.mapUpdate (xs:=b3.1) (x0:=(bo.1,bo.2.1)) (v0:=true) 0 Qp underlying99 (eD.M eF) ⟨_,⟨_,_,V,V,V⟩,V⟩ ⟨_,V,V⟩ hv V V V V V V V λhw hx hy=>?_);obtain⟨hz,hA,hB⟩:=bs ho;refine C 3 V (Bn hA V V V ?_);refine C 2 V ?_;obtain rfl:=oi hB;exact AF (hj _ _ ((DX b3.1 (bo.1,bo.2.1) true),hz) ⟨hu,hw,V,V,(dV.I eF),hy,hx⟩ dW) V
   ·refine JL.exit V ?_;obtain rfl:=oi hm;obtain rfl:=hf _ dW;exact AF (he _ _ ⟨c7,c8,V,V,dV,eC,eD⟩) V
variable {J:Judge Tryz.prog}
def T0:List Nat:= [0,1,2,2,3,3,3,3,4,4,4,4,4,4,4,4,5,5,5,5,5,5,5,5,5,5,5,5,5,5,5,5,6,6,6,6,6,6,6,6,6,6,6,6,6,6,6,6,6,6,6,6,6,6,6,6,6,6,6,6,6,6,6,6,7,7,7,7,7,7,7,7,7,7,7,7,7,7,7,7,7,7,7,7,7,7,7,7,7,7,7,7,7,7,7,7,7,7,7,7,7,7,7,7,7,7,7,7,7,7,7,7,7,7,7,7,7,7,7,7,7,7,7,7,7,7,7,7,8,8,8,8,8,8,8,8,8,8,8,8,8,8,8,8,8,8,8,8,8,8,8,8,8,8,8,8,8,8,8,8,8,8,8,8,8,8,8,8,8,8,8,8,8,8,8,8,8,8,8,8,8,8,8,8,8,8,8,8,8,8,8,8,8,8,8,8,8,8,8,8,8,8,8,8,8,8,8,8,8,8,8,8,8,8,8,8,8,8,8,8,8,8,8,8,8,8,8,8,8,8,8,8,8,8,8,8,8,8,8,8,8,8,8,8,8,8,8,8,8,8,8,8,8,8,8,8]
def f146(fu_:Nat)(p0:Nat):Option Int:= Option.bind (if(((4294967296):Nat):Int)<=(((p0):Nat):Int) then(some (p0>>>32,32)) else(some (p0,0))) λK=> Option.bind (if(((65536):Nat):Int)<=(((K.1):Nat):Int) then((Aw (K.2+16)).bind λY=> some (K.1>>>16,Y)) else(some K)) λO=> Option.bind (if(((256):Nat):Int)<=(((O.1):Nat):Int) then((Aw (O.2+8)).bind λZ=> some (O.1>>>8,Z)) else(some O)) λU=> (Q4 T0 (((((U.1) % 256):Nat):Int))).bind λac=> (Aw (((ac):Nat):Int)).bind λag=> (Aw (U.2+ag)).bind λal=> some al
theorem aU{p0:Nat}{fu_:Nat}{r:Int}(Y:f146 fu_ p0=some r):AP J 146 [.int .u64 ((p0:Nat):Int)] E [] (λw E' B'=>w=iV r/\B'= []):=by
 refine Bg func146 λQ cc cs H Z aq=>?_;unfold f146 at Y;obtain⟨K,av,aw⟩:=bs Y;refine C 10 V (DF [] [(0,.int .u64 ((K.1:Nat):Int)),(2,iV K.2)] (λce ay ac=>?_) (λag=>?_))
 ·obtain⟨O,az,a0⟩:=bs aw;refine C 6 V (DF [] [(0,.int .u64 ((O.1:Nat):Int)),(2,iV O.2)] (λci a1 al=>?_) (λam=>?_))
  ·obtain⟨U,a2,a3⟩:=bs a0;refine C 6 V (DF [] [(0,.int .u64 ((U.1:Nat):Int)),(2,iV U.2)] (λco a4 a5=>?_) (λap=>?_))
   ·refine C 4 V (Aq (v:= .int .u8 (((U.1) % 256:Nat):Int)) V (λρ h=>Y6 underlying72 underlying5 (h _ _ V)) ?_);obtain⟨a6,a7,a8⟩:=bs a3;refine Aq (v:= .int .u8 ((a6:Nat):Int)) V (λρ h=>W5 (l:=T0) (by decide+kernel) underlying9 (h _ _ V) (h _ _ V) a7) ?_;obtain⟨a9,bb,be⟩:=bs a8;refine Aq (v:=iV a9) V (λρ h=>YD underlying5 underlying3 (h _ _ V) bb) ?_;obtain⟨cp,bi,bn⟩:=bs be;refine Bn bi V V V (C 2 V ?_);obtain rfl:=oi bn;exact AL func146 V V (aq ((ay.I a1).I a4) V ⟨V,V⟩ a5)
   ·refine AN a2 (λbo bv=>?_) (λbo bw=>?_)
    ·refine C 3 V (Aq (v:= .int .u64 ((O.1>>>8:Nat):Int)) V (λρ h=>Lr 8 (h _ _ V) (h _ _ V) (by decide)) ?_);obtain⟨ct,bx,bz⟩:=bs bv;refine C 4 V (Bn bx V V V ?_);refine C 2 V ?_;obtain rfl:=oi bz;exact ap Ax al V
    ·refine JL.skip ?_;obtain rfl:=oi bw;exact ap Ax al V
  ·refine AN az (λb0 b1=>?_) (λb0 b2=>?_)
   ·refine C 3 V (Aq (v:= .int .u64 ((K.1>>>16:Nat):Int)) V (λρ h=>Lr 16 (h _ _ V) (h _ _ V) (by decide)) ?_);obtain⟨cw,b3,b4⟩:=bs b1;refine C 4 V (Bn b3 V V V ?_);refine C 2 V ?_;obtain rfl:=oi b4;exact am Ax ac V
   ·refine JL.skip ?_;obtain rfl:=oi b2;exact am Ax ac V
 ·refine AN av (λb5 b6=>?_) (λb5 ca=>?_)
  ·refine C 3 V (Aq (v:= .int .u64 ((p0>>>32:Nat):Int)) V (λρ h=>Lr 32 (h _ _ V) (h _ _ V) (by decide)) ?_);refine C 5 V ?_;obtain rfl:=oi b6;exact ag Ax Z V
  ·refine JL.skip ?_;obtain rfl:=oi ca;exact ag Ax Z V
def f115(fu_:Nat)(p0:Nat):Option Int:= (f146 fu_ p0).bind λK=> some K
theorem Ot{p0:Nat}{fu_:Nat}{r:Int}(K:f115 fu_ p0=some r):AP J 115 [.int .u64 ((p0:Nat):Int)] E [] (λw E' B'=>w=iV r/\B'= []):=by
 refine Bg func115 λQ al cs H O U=>?_;unfold f115 at K;obtain⟨am,Y,Z⟩:=bs K;refine C 10 V (Ck (aU Y) V V (A5 func146 V) O λap ac ag=>?_);refine C 2 V ?_;obtain rfl:=oi Z;exact AL func115 V V (U ac V ⟨V,V⟩ ag)
def NJ(fu_:Nat)(p1:Int)(K:Int×AE):Option (Bo (Int×AE) (AE)):= Option.bind (if p1<K.1 then((ix K.2 K.1).bind λY=> (Aw (K.1 - 1)).bind λZ=> (ix K.2 Z).bind λac=> (f113 fu_ Y ac).bind λag=> some (decide (ag<0))) else(some false)) λal=> if al=true then((Aw (K.1 - 1)).bind λO=> (Aw (K.1 - 1)).bind λam=> (ix K.2 am).bind λU=> (ix K.2 K.1).bind λap=> (ix (K.2.set (Int.toNat K.1) U) O).bind λav=> (Aw (K.1 - 1)).bind λaq=> some (.more (aq,((K.2.set (Int.toNat K.1) U).set (Int.toNat O) ap)))) else(some (.done K.2))
def Ny(fu_:Nat)(p1:Int)(p2:Int)(K:Int×AE):Option (Bo (Int×AE) (AE)):= if K.1<p2 then(Option.bind (iter (NJ fu_ p1) fu_ K) λO=> (Aw (K.1+1)).bind λU=> some (.more (U,O))) else(some (.done K.2))
def f193(fu_:Nat)(p0:AE)(p1:Int)(p2:Int):Option (AE):= (Aw (p1+1)).bind λK=> Option.bind (iter (Ny fu_ p1 p2) fu_ (K,p0)) λO=> some O
theorem aG{K:Nat}{U:Nat}{nw:Nat}{a3:Av_}{p0:AE}{p1:Int}{p2:Int}(hW:WL 27 Av E K U nw a3 p0){fu_:Nat}{r:AE}(a9:f193 fu_ p0 p1 p2=some r):AP J 193 [.slice (AQ K) nw U,iV p1,iV p2,(fV 113)] E [(K,.cells a3 27 (0,0))] (λw E' B'=>∃(bb:Av_),w= .tuple #[]/\B'= [(K,.cells bb 27 (0,0))]/\WL 27 Av E' K U nw bb r):=by
 refine Bg func193 λQ ey cs H b6 ca=>?_;unfold f193 at a9;obtain⟨ez,cc,ce⟩:=bs a9;refine C 3 V (Bn cc V V V ?_);obtain⟨ci,co,cp⟩:=bs ce;refine C 2 V (Bs (λL s=>∃(a4:LH) (f17:Av_),Jn E H a4 [bX K f17 27] [] L s (WL 27 Av a4 K U nw f17 ci)) ?_ ?_)
 ·rintro _ _ ⟨a4,f17,rfl,rfl,ct,cw,cy⟩;obtain rfl:=oi cp;exact JL.fin (v:= .tuple #[]) V V (BH.list func193 V (vs:= []) trivial) (ca ct V ⟨f17,V,(by first | rfl | simp | (simp [Value.cells])),cy⟩ cw)
 ·intro c0;refine JL.block (Cy co (λL s al=>∃(ag:LH) (f25:Av_),Jn E H ag [bX K f25 27] [(0,.slice (AQ K) nw U),(1,iV p1),(2,iV p2),(3,(fV 113)),(8,iV al.1)] L s (WL 27 Av ag K U nw f25 al.2)) ⟨E,a3,V,V,Ax,b6,hW⟩ ?_);rintro _ _ al ⟨ag,f25,rfl,rfl,be,bi,bn⟩ c1 ⟨eA,a5⟩ c2;have bo:=a5;unfold Ny at bo;refine C 7 V (AN bo (λc3 c4=>?_) (λc3 c5=>?_))
  ·obtain⟨bv,c6,c7⟩:=bs c4;refine C 8 V (Bs (λL s=>∃(az:LH) (f48:Av_),Jn ag H az [bX K f48 27] [(0,.slice (AQ K) nw U),(1,iV p1),(2,iV p2),(3,(fV 113)),(8,iV al.1)] L s (WL 27 Av az K U nw f48 bv)) ?_ ?_)
   ·rintro _ _ ⟨az,f48,rfl,rfl,c8,c9,dd⟩;obtain⟨dn,dJ,dK⟩:=bs c7;refine C 3 V (Bn dJ V V V ?_);refine C 2 V ?_;obtain rfl:=oi dK;exact AF (c2 _ _ (dn,bv) ⟨az,f48,V,V,(be.I c8),c9,dd⟩ a5) V
   ·intro dL;refine JL.block (Cy c6 (λL s ac=>∃(av:LH) (f58:Av_),Jn ag H av [bX K f58 27] [(0,.slice (AQ K) nw U),(1,iV p1),(2,iV p2),(3,(fV 113)),(8,iV al.1),(9,iV ac.1)] L s (WL 27 Av av K U nw f58 ac.2)) ⟨ag,f25,V,V,Ax,bi,bn⟩ ?_);rintro _ _ ac ⟨av,f58,rfl,rfl,bw,aw,O⟩ dM ⟨eB,a6⟩ dN;have bx:=a6;unfold NJ at bx;refine C 2 V (Fq 17 [K] ⟨⟨0,_,V⟩,trivial⟩ aw λht=>?_);refine A1 ht V [0,1,2,3] V ?_;obtain⟨dO,bz,dQ⟩:=bs bx;refine Gn 0 #[true,true,true,true,true,true,true,true,true,true,true,true,true,true,true,true,true] (λL s=>∃(a0:LH),Jm av H a0 [bX K f58 27] [(0,.slice (AQ K) nw U),(1,iV p1),(2,iV p2),(3,(fV 113)),(8,iV al.1),(9,iV ac.1),(34,.bool dO)] L s) ?_ ?_
    ·rintro _ _ ⟨a0,rfl,rfl,am,a1⟩;refine AT.fin (by decide+kernel) (Cc dQ (λdR dS=>?_) (λdR dT=>?_))
     ·refine C 3 V (Hc [15,17] [K] mixed V ?_);refine Bj 0 V V (Bj 1 V V ?_);refine Bj 2 V V (Bj 3 V V ?_);obtain⟨b0,dU,dV⟩:=bs dS;refine ED 4 true V V (λρ h s' hs=>Ds (h _ _ V) (h _ _ V) dU) (Bj 5 V V ?_);refine Bj 6 V V ?_;obtain⟨eC,dW,dX⟩:=bs dV;refine ED 7 true V V (λρ h s' hs=>Ds (h _ _ V) (h _ _ V) dW) ?_;obtain⟨Y,b1,dY⟩:=bs dX;obtain⟨_,⟨_,_,rfl,rfl,⟨_,_,rfl,rfl,rfl⟩⟩,dZ⟩:=WL.at (O.M am) b1;refine JB.ix 8 O.2 b1 underlying23 AR ?_;refine OC 9 [iV Y.1,iV Y.2.1,iV Y.2.2] 0 a1 dZ CO AR ?_;refine Bj 10 V V (Bj 11 V V ?_);obtain⟨Z,a2,ea⟩:=bs dY;obtain⟨_,⟨_,_,rfl,rfl,⟨_,_,rfl,rfl,rfl⟩⟩,eb⟩:=WL.at (O.M am) a2;refine JB.ix 12 O.2 a2 underlying23 AR ?_;refine OC 13 [iV Z.1,iV Z.2.1,iV Z.2.2] 0 a1 eb CO AR ?_;refine JB.ix 14 O.2 a2 underlying23 AR ?_;have ay:=WL.put (x':=Y) (ws':= [iV Y.1,iV Y.2.1,iV Y.2.2]) (O.M am) O.2 a2 ⟨_,_,V,V,⟨_,_,V,V,V⟩⟩;refine Ex 15 0 a1 AR ay.2 λec=>?_;obtain⟨eD,a7,ed⟩:=bs ea;obtain⟨_,⟨_,_,rfl,rfl,⟨_,_,rfl,rfl,rfl⟩⟩,eE⟩:=WL.at ay.1 a7;refine JB.ix 16 (ay.1).2 a7 underlying23 AR ?_;have b2:=WL.put (x':=Z) (ws':= [iV Z.1,iV Z.2.1,iV Z.2.2]) ay.1 (ay.1).2 a7 ⟨_,_,V,V,⟨_,_,V,V,V⟩⟩;refine Ex 17 0 ec AR b2.2 λee=>?_;refine JB.fin (by decide+kernel) ?_;obtain⟨ef,eg,eh⟩:=bs ed;refine C 3 V (Cm eg V V V ?_);refine C 2 V ?_;obtain rfl:=oi eh;exact AF (dN _ _ (ef,((ac.2.set (Int.toNat ac.1) Y).set (Int.toNat b0) Z)) ⟨a0,(Be (Be f58 (Int.toNat (ac.1)*3) [iV Y.1,iV Y.2.1,iV Y.2.2]) (Int.toNat (b0)*3) [iV Z.1,iV Z.2.1,iV Z.2.2]),V,V,(bw.I am),ee,b2.1⟩ a6) V
     ·refine JL.exit V ?_;obtain rfl:=oi dT;obtain rfl:=dM _ a6;exact AF (dL _ _ ⟨a0,f58,V,V,(bw.I am),a1,(O.M am)⟩) V
    ·intro b3;refine GU (q:=p1<ac.1) (i:=21) V (λa8=>?_) (λa8=>?_)
     ·have ei:=ip bz a8;refine A1 ht V [4,5,6] V ?_;obtain⟨ap,b4,ej⟩:=bs ei;obtain⟨_,⟨_,_,rfl,rfl,⟨_,_,rfl,rfl,rfl⟩⟩,ek⟩:=WL.at O b4;refine JG.ix 7 ht (O).2 b4 underlying23 AR ?_;refine OG 8 ht [iV ap.1,iV ap.2.1,iV ap.2.2] 0 aw ek CO AR ?_;refine A1 ht V [9,10] V ?_;obtain⟨eF,el,em⟩:=bs ej;refine A0 11 ht V V (λρ h s' hs=>Ds (h _ _ V) (h _ _ V) el) ?_;obtain⟨aq,b5,en⟩:=bs em;obtain⟨_,⟨_,_,rfl,rfl,⟨_,_,rfl,rfl,rfl⟩⟩,eo⟩:=WL.at O b5;refine JG.ix 12 ht (O).2 b5 underlying23 AR ?_;refine OG 13 ht [iV aq.1,iV aq.2.1,iV aq.2.2] 0 aw eo CO AR ?_;obtain⟨eG,ep,er⟩:=bs en;refine JX (i:=14) ⟨⟨0,_,V⟩,trivial⟩ (vs:= [.agg #[iV ap.1,iV ap.2.1,iV ap.2.2],.agg #[iV aq.1,iV aq.2.1,iV aq.2.2]]) (TS ep) (by decide+kernel) V V V V (A5 func113 V) V aw ?_;rintro _ et _ eu ⟨rfl,rfl⟩ ew;refine A1 ht V [15,16] V ?_;obtain rfl:=oi er;refine Ek ?_ (b3 _ _ ⟨et,V,V,eu,ew⟩);exact⟨V,V,V,V,V,V,V,trivial⟩
     ·have ex:=im bz a8;refine A1 ht V [4,5,6,7,8,9,10,11,12,13,14,15,16] V ?_;obtain rfl:=oi ex;refine Ek ?_ (b3 _ _ ⟨av,V,V,Ax,aw⟩);exact⟨V,V,V,V,V,V,V,trivial⟩
  ·refine JL.exit V ?_;obtain rfl:=oi c5;obtain rfl:=c1 _ a5;exact AF (c0 _ _ ⟨ag,f25,V,V,be,bi,bn⟩) V
def P2(fu_:Nat)(p0:AE)(p1:Int)(p2:Int)(p3:Int)(U:Unit):Option (Bo Unit ((AE)⊕(Unit))):= (Aw (p2 - p1)).bind λK=> if K<=12 then((f193 fu_ p0 p1 p2).bind λO=> some (.done (Sum.inl O))) else(if p3=0 then(none) else(none))
def f169(fu_:Nat)(p0:AE)(p1:Int)(p2:Int)(p3:Int):Option (AE):= Option.bind (iter (P2 fu_ p0 p1 p2 p3) fu_ ()) λK=> Sum.elim (λr=>some r) (λO=> none) K
theorem bH{K:Nat}{O:Nat}{nw:Nat}{U:Av_}{p0:AE}{p1:Int}{p2:Int}{p3:Int}(hW:WL 27 Av E K O nw U p0){fu_:Nat}{r:AE}(Y:f169 fu_ p0 p1 p2 p3=some r):AP J 169 [.slice (AQ K) nw O,iV p1,iV p2,iV p3,(fV 113)] E [(K,.cells U 27 (0,0))] (λw E' B'=>∃(Z:Av_),w= .tuple #[]/\B'= [(K,.cells Z 27 (0,0))]/\WL 27 Av E' K O nw Z r):=by
 refine Bg func169 λQ bv cs H ap aq=>?_;unfold f169 at Y;obtain⟨bw,av,aw⟩:=bs Y;refine C 8 V (Bs (λL s=>False) ?_ ?_)
 ·intro _ _ ay;exact ay.elim
 ·intro bx;refine JL.block (CN av (λac=> [bX K U 27]) (λac=> [(0,.slice (AQ K) nw O),(1,iV p1),(2,iV p2),(3,iV p3),(4,(fV 113)),(10,.bool true),(11,.bool true)]) Ax ap ?_);rintro ac bz ag az a0 ⟨b0,al⟩ b1;have am:=al;unfold P2 at am;obtain⟨b2,a1,a2⟩:=bs am;refine C 5 V (Cm a1 V V V ?_);refine C 8 V (AN a2 (λa3 a4=>?_) (λa3 a5=>?_))
  ·obtain⟨b3,a6,a7⟩:=bs a4;refine C 6 V (CG 0 (aG (hW.M ag) a6) V V (A5 func193 V) az V ?_);rintro _ b4 _ a8 ⟨f32,rfl,rfl,a9⟩ bb;refine JL.done ?_;obtain rfl:=oi a7;obtain rfl:=a0 _ al;have be:=elim_inl aw;obtain rfl:=oi be;exact AL func169 V V (aq (ag.I a8) V ⟨f32,V,(by first | rfl | simp | (simp [Value.cells])),a9⟩ bb)
  ·refine C 7 V (AN a5 (λbi bn=>?_) (λbi bo=>?_))
   ·refine C 6 V ?_;cases bn
   ·refine C 5 V (Aq (v:= .bool false) V (λρ h=>Yl.not (c:=true) (h _ _ V)) ?_);refine C 9 V ?_;cases bo
def f130(fu_:Nat)(p0:AE):Option (AE):= (f115 fu_ (Dm (p0.length:Int))).bind λK=> (f169 fu_ p0 0 (p0.length:Int) K).bind λO=> some O
theorem bD{K:Nat}{O:Nat}{nw:Nat}{U:Av_}{p0:AE}(hW:WL 27 Av E K O nw U p0){fu_:Nat}{r:AE}(Y:f130 fu_ p0=some r):AP J 130 [.slice (AQ K) nw O,(fV 113)] E [(K,.cells U 27 (0,0))] (λw E' B'=>∃(Z:Av_),w= .tuple #[]/\B'= [(K,.cells Z 27 (0,0))]/\WL 27 Av E' K O nw Z r):=by
 refine Bg func130 λQ a1 cs H ag al=>?_;unfold f130 at Y;refine C 3 V (Aq (v:=iV (p0.length:Int)) V (λρ h=>NK (hW).2 V underlying80 (h _ _ V)) ?_);refine C 6 V (Aq (v:= .int .u64 ((Dm (p0.length:Int):Nat):Int)) V (λρ h=>Yl.Dm underlying3 underlying136 (h _ _ V)) ?_);obtain⟨a2,am,ap⟩:=bs Y;refine Ck (Ot am) V V M1 ag λa3 ac aq=>?_;obtain⟨a4,av,aw⟩:=bs ap;refine C 1 V (CG 0 (bH (hW.M ac) av) V V (A5 func169 V) aq V ?_);rintro _ a5 _ ay ⟨f12,rfl,rfl,az⟩ a0;refine JL.done ?_;obtain rfl:=oi aw;exact JL.fin (v:= .tuple #[]) V V (BH.list func130 V (vs:= []) trivial) (al (ac.I ay) V ⟨f12,V,(by first | rfl | simp | (simp [Value.cells])),az⟩ a0)
def Sz(fu_:Nat)(p1:Int)(K:Int)(U:Unit):Option (Bo Unit Unit):= Option.bind (if p1<K then(none) else(some false)) λO=> if O=true then((Aw (K - 1)).bind λY=> (Aw (K - 1)).bind λZ=> none) else(some (.done ()))
def SD(fu_:Nat)(p1:Int)(p2:Int)(K:Int):Option (Bo Int Unit):= if K<p2 then(Option.bind (iter (Sz fu_ p1 K) fu_ ()) λU=> (Aw (K+1)).bind λO=> some (.more O)) else(some (.done ()))
def QM(fu_:Nat)(p1:Int)(p2:Int):Option Unit:= (Aw (p1+1)).bind λK=> Option.bind (iter (SD fu_ p1 p2) fu_ K) λO=> some ()
theorem Zr{p1:Int}{p2:Int}{fu_:Nat}{r:Unit}(Y:QM fu_ p1 p2=some r):AP J 193 [nS,iV p1,iV p2,(fV 113)] E [] (λw E' B'=>w= .tuple #[]/\B'= []):=by
 refine Bg func193 λQ c2 cs H ay az=>?_;unfold QM at Y;obtain⟨c3,a0,a1⟩:=bs Y;refine C 3 V (Bn a0 V V V ?_);obtain⟨c4,a2,a3⟩:=bs a1;refine C 2 V (DF [] [] (λc5 a4 a5=>?_) (λa6=>?_))
 ·obtain rfl:=oi a3;exact JL.fin (v:= .tuple #[]) V V (BH.list func193 V (vs:= []) trivial) (az a4 V ⟨V,V⟩ a5)
 ·refine JL.block (CN a2 (λK=> []) (λK=> [(0,.slice none 0 0),(1,iV p1),(2,iV p2),(3,(fV 113)),(8,iV K)]) Ax ay ?_);rintro K c6 Z ac a7 ⟨c7,O⟩ a8;have ag:=O;unfold SD at ag;refine C 7 V (AN ag (λa9 bb=>?_) (λa9 be=>?_))
  ·obtain⟨c8,bi,bn⟩:=bs bb;refine C 8 V (DF [] [(0,.slice none 0 0),(1,iV p1),(2,iV p2),(3,(fV 113)),(8,iV K)] (λc9 bo bv=>?_) (λbw=>?_))
   ·obtain⟨bx,bz,b0⟩:=bs bn;refine C 3 V (Bn bz V V V ?_);refine C 2 V ?_;obtain rfl:=oi b0;exact a8 bx (Z.I bo) bv V O
   ·refine JL.block (CN bi (λal=> []) (λal=> [(0,.slice none 0 0),(1,iV p1),(2,iV p2),(3,(fV 113)),(8,iV K),(9,iV K)]) Ax ac ?_);rintro al am b1 b2 b3 ⟨dd,ap⟩ dn;have aq:=ap;unfold Sz at aq;refine C 2 V (DD 17 λht=>?_);refine A1 ht V [0,1,2,3] V ?_;obtain⟨b4,av,b5⟩:=bs aq;refine Gn 0 #[true,true,true,true,true,true,true,true,true,true,true,true,true,true,true,true,true] (λL s=>∃(aw:LH),Jm am H aw [] [(0,.slice none 0 0),(1,iV p1),(2,iV p2),(3,(fV 113)),(8,iV K),(9,iV K),(34,.bool b4)] L s) ?_ ?_
    ·rintro _ _ ⟨aw,rfl,rfl,b6,ca⟩;refine AT.fin (by decide+kernel) (Cc b5 (λcc ce=>?_) (λcc ci=>?_))
     ·refine C 3 V (DD 16 λht=>?_);refine A1 ht V [0,1,2,3] V ?_;obtain⟨dJ,co,cp⟩:=bs ce;refine A0 4 ht V V (λρ h s' hs=>Ds (h _ _ V) (h _ _ V) co) (A1 ht V [5,6] V ?_);obtain⟨dK,ct,cw⟩:=bs cp;refine A0 7 ht V V (λρ h s' hs=>Ds (h _ _ V) (h _ _ V) ct) ?_;cases cw
     ·refine JL.exit V ?_;obtain rfl:=oi ci;obtain rfl:=b3 _ ap;exact bw (b1.I b6) ca V
    ·intro cy;refine GU (q:=p1<K) (i:=21) V (λU=>?_) (λU=>?_)
     ·have c0:=ip av U;refine A1 ht V [4,5,6] V ?_;cases c0
     ·have c1:=im av U;refine A1 ht V [4,5,6,7,8,9,10,11,12,13,14,15,16] V ?_;obtain rfl:=oi c1;refine Ek ?_ (cy _ _ ⟨am,V,V,Ax,b2⟩);exact⟨V,V,V,V,V,V,V,trivial⟩
  ·refine JL.exit V ?_;obtain rfl:=oi be;obtain rfl:=a7 _ O;exact a6 Z ac V
def SQ(fu_:Nat)(p1:Int)(p2:Int)(p3:Int)(O:Unit):Option (Bo Unit ((Unit)⊕(Unit))):= (Aw (p2 - p1)).bind λK=> if K<=12 then((QM fu_ p1 p2).bind λU=> some (.done (Sum.inl ()))) else(if p3=0 then(none) else(none))
def QP(fu_:Nat)(p1:Int)(p2:Int)(p3:Int):Option Unit:= Option.bind (iter (SQ fu_ p1 p2 p3) fu_ ()) λK=> Sum.elim (λr=>some r) (λO=> none) K
theorem YE{p1:Int}{p2:Int}{p3:Int}{fu_:Nat}{r:Unit}(K:QP fu_ p1 p2 p3=some r):AP J 169 [nS,iV p1,iV p2,iV p3,(fV 113)] E [] (λw E' B'=>w= .tuple #[]/\B'= []):=by
 refine Bg func169 λQ bb cs H Z ac=>?_;unfold QP at K;obtain⟨be,ag,al⟩:=bs K;refine C 8 V (Bs (λL s=>False) ?_ ?_)
 ·intro _ _ am;exact am.elim
 ·intro bi;refine JL.block (CN ag (λO=> []) (λO=> [(0,.slice none 0 0),(1,iV p1),(2,iV p2),(3,iV p3),(4,(fV 113)),(10,.bool true),(11,.bool true)]) Ax Z ?_);rintro O bn ap aq av ⟨bo,U⟩ bv;have Y:=U;unfold SQ at Y;obtain⟨bw,aw,ay⟩:=bs Y;refine C 5 V (Cm aw V V V ?_);refine C 8 V (AN ay (λaz a0=>?_) (λaz a1=>?_))
  ·obtain⟨bx,a2,a3⟩:=bs a0;refine C 6 V (Ck (Zr a2) V V (A5 func193 V) aq λbz a4 a5=>?_);refine JL.done ?_;obtain rfl:=oi a3;obtain rfl:=av _ U;have a6:=elim_inl al;obtain rfl:=oi a6;exact AL func169 V V (ac (ap.I a4) V ⟨V,V⟩ a5)
  ·refine C 7 V (AN a1 (λa7 a8=>?_) (λa7 a9=>?_))
   ·refine C 6 V ?_;cases a8
   ·refine C 5 V (Aq (v:= .bool false) V (λρ h=>Yl.not (c:=true) (h _ _ V)) ?_);refine C 9 V ?_;cases a9
def UN(fu_:Nat):Option Unit:= (f115 fu_ (Dm ((0:Nat):Int))).bind λK=> (QP fu_ 0 ((0:Nat):Int) K).bind λO=> some ()
theorem YR{fu_:Nat}{r:Unit}(K:UN fu_=some r):AP J 130 [nS,(fV 113)] E [] (λw E' B'=>w= .tuple #[]/\B'= []):=by
 refine Bg func130 λQ av cs H O U=>?_;unfold UN at K;refine C 3 V (JL.ln underlying80 V V V ?_);refine C 6 V (Aq (v:= .int .u64 ((Dm ((0:Nat):Int):Nat):Int)) V (λρ h=>Yl.Dm underlying3 underlying136 (h _ _ V)) ?_);obtain⟨aw,Y,Z⟩:=bs K;refine Ck (Ot Y) V V M1 O λay ac ag=>?_;obtain⟨az,al,am⟩:=bs Z;refine C 1 V (Ck (YE al) V V (A5 func169 V) ag λa0 ap aq=>?_);refine JL.done ?_;obtain rfl:=oi am;exact JL.fin (v:= .tuple #[]) V V (BH.list func130 V (vs:= []) trivial) (U (ac.I ap) V ⟨V,V⟩ aq)
theorem Yq{J:Judge Tryz.prog}{E:LH}{a:Ap}{c:Nat}{g:Seg}{p0:AE}(Y:OL 27 Av E a c g p0){fu_:Nat}{r:AE}(K:f130 fu_ p0=some r):
  AP J 130 [.slice a p0.length c,.func (.func 113) #[] #[]] E g (λw E' B'=>w= .tuple #[]/\OL 27 Av E' a c B' r/\r.length=p0.length):=by
 rcases Y.cases with⟨rfl,rfl,rfl,rfl⟩ | ⟨bk,f,rfl,rfl,hW⟩
 ·have Z:r= []:=by
   cases fu_ with
   | zero=>exact absurd K (by simp [f130,f169,f193,iter])
   | succ fu_=>
    cases fu_ with
    | zero=>exact(Option.some.inj (K.symm.trans (by rfl:f130 1 []=some []))).trans rfl
    | succ fu_=>exact(Option.some.inj (K.symm.trans (by rfl:f130 (fu_+2) []=some []))).trans rfl
  subst Z;refine(YR (fu_:=10) (r:=()) V).M ?_;rintro w E' B' hle ⟨O,rfl⟩;exact⟨O,OL.nil,V⟩
 ·refine(bD hW K).M ?_;rintro w E' B' hle ⟨ac,O,rfl,U⟩;exact⟨O,U.1,U.2⟩
def f90(fu_:Nat)(p0:AE):Option (AE):= (f129 fu_ p0).bind λK=> (f130 fu_ K).bind λO=> some O
theorem bS{a1:Ap}{c2:Nat}{p0:AE}(al:An Av E a1 c2 p0){fu_:Nat}{r:AE}(Z:f90 fu_ p0=some r):AP J 90 [sV a1 p0 c2] E [] (λw E' B'=>∃(ac:Ap) (ag:Nat),w= sV ac r ag/\B'= []/\An Av E' ac ag r):=by
 refine Bg func90 λQ a9 cs H am ap=>?_;unfold f90 at Z;obtain⟨bb,aq,av⟩:=bs Z;refine C 7 V (BT (aF al aq) V V (A5 func129 V) am ?_);rintro _ be bi aw ⟨K,O,_,rfl,rfl,ay⟩ az;obtain⟨U,a0,a2⟩:=bs av;refine C 5 V (CG 1 (Yq ay a0) V V (A5 func130 V) az V ?_);rintro _ bn bo a3 ⟨rfl,a4,Y⟩ a5;refine ET (L':= [(6,.tuple #[]),(0,.slice K U.length O),(2,.slice none 0 0),(3,.slice a1 p0.length c2),(4,.slice K U.length O),(5,.slice K U.length O)]) ⟨V,by rw [Y];rfl,V,V,by rw [Y];rfl,by rw [Y];rfl,trivial⟩ ?_;refine C 6 V (BI 1 a4 a5 V λbv a6 a7 a8=>?_);obtain rfl:=oi a2;exact AL func90 V V (ap ((aw.I a3).I a6) V ⟨K,O,V,V,a7⟩ a8)
end Pal
namespace Pal
open Go Go.Conc
variable {P:Program}{Q:Gs_}{b:Frame}{n:Nat}{ds:Ld_}{ops:Ao_}{k:Li_}{cs:Lf_}{m:Nat}{L:Env}{s:St}{E H:LH}{S:List Seg}
variable {d:Option Tmp}{t ty:TypeId}{p:String}{af:Ae_}{g:On_}{v:Value}
section
variable {J:Judge P}{fuel:Nat}{listed:Array Bool}
variable {x y:Operand}{e:TypeId}{i:Nat}
theorem Take.y0{oi:Oper}(hi:ops[i]? =some oi)(K:(!Eg oi.op&&Br n oi.dst)=true)(hw:AY L ops oi=some true)(O:∀ρ,Ff L ρ->Yl P oi ρ s v)
  (h:AT J Q b n ds ops k cs m Dl fuel (Bi listed i) (AB L oi.dst v) s):Take J Q b n ds ops k cs m Dl fuel listed L s i:=
 Take.K1 hi K hw λρ U=>by
  have:=O ρ U
  unfold Yl at this
  refine EH _ this ?_ (λ_ _ h=>h)
  rintro Y s' ⟨rfl,rfl⟩
  exact h
end
def G3{P:Program}(J:Judge P)(f:FuncId)(args:Lv_)(E:LH)(B:Seg)(p:Bool)(pv:Value)(R:Value->LH->Seg->Prop):Prop:=
 ∀(Q:Gs_) (bc:Frame) (Tc:Av_) (dsc:Ld_) (K:Li_) (cs:Lf_) (H:LH),Nd E H B->
  (p=false->∀v E' B',Le E E'->R v E' B'->Nd E' H B'->J.ok Q (G ((fr bc Tc dsc K).finish v) cs) (mk E' H B'))->
  (p=true->∀E' B',Le E E'->Nd E' H B'->J.ok Q (G (Hm bc Tc dsc K (raised pv)) cs) (mk E' H B'))->
  J.ok Q (G (Frame.enter P f args.toArray .normal) (fr bc Tc dsc K::cs)) (mk E H B)
variable {bc:Frame}{dsc:Ld_}{rest:List Nat}{pp:String}{pv:Value}
section
variable {J:Judge P}{i:Nat}{e:TypeId}
theorem G3.enter{f:FuncId}{fn:Func}{c:Code}{vs:Lv_}{B:Seg}{R:Value->LH->Seg->Prop}{p:Bool}(ac:P.funcs[f]? =some fn)(hb:fn.body=some c)(aw:vs.length<=fn.ntmps)
  (h:∀(Q:Gs_) (bc:Frame) (Tc:Av_) (dsc:Ld_) (O:Li_) (cs:Lf_) (H:LH),As E H [B]->
   (p=false->∀v E' S' B',Le E E'->S'.flatten=B'->R v E' B'->As E' H S'->J.ok Q (G ((fr bc Tc dsc O).finish v) cs) (Al E' H S'))->
   (p=true->∀E' S',Le E E'->As E' H S'->J.ok Q (G (Hm bc Tc dsc O (raised pv)) cs) (Al E' H S'))->
   JL J Q (base f) fn.ntmps (GG 0 vs) [] [.code c] (fr bc Tc dsc O::cs) (Al E H [B])):G3 J f vs E B p pv R:=λQ bc Tc dsc O cs H ag al K=>by
 have he:Frame.enter P f vs.toArray .normal=fr (base f) (vs.toArray++Array.replicate (fn.ntmps - vs.length) undef) [] [.code c]:=by
  simp [Frame.enter,fr,ac,hb,base];rfl
 have am:mk E H B=Al E H [B]:=by unfold Al;simp
 rw [he,am];refine h Q bc Tc dsc O cs H (by unfold As;simpa using ag) (λU v E' S' B' hle ap aq Y=>?_) (λU E' S' hle Y=>?_) _ ⟨by simp;omega,λt v ht=>?_⟩
 ·subst ap;exact al U v E' S'.flatten hle aq Y
 ·exact K U E' S'.flatten hle Y
 ·obtain⟨_,K⟩:=JV ht;have av:t<vs.length:=by
   rcases Nat.lt_or_ge t vs.length with Z | Z
   ·exact Z
   ·simp at K;have:=(List.getElem?_eq_some_iff.1 K).1;omega
  rw [Array.getD_eq_getD_getElem?,Array.getElem?_append_left (by simpa using av)];simp at K;simp [K]
theorem WV{x:Operand}{f:FuncId}{caps:Lv_}{args:Array Operand}{ats:Array TypeId}{s:St}{vs:Lv_}(hb:Em P f=true)
  (U:ops[i]? =some ⟨d,.call ⟨.value x,args,ats⟩,ty,pp,af,g⟩) (hw:AY L ops ⟨d,.call ⟨.value x,args,ats⟩,ty,pp,af,g⟩=some true) (O:((b.kind != .early)&&Br n d)=true)
  (Y:ev L x=some (.func (.func f) #[] caps.toArray)) (Z:evs L args.toList=some vs)
  (h:∀T,Has n L T->J.ok Q (G (Frame.enter P f (vs++caps).toArray .normal) (fr b T ds (.inRegion ops (i::rest)::k)::cs)) s):
  JL J Q b n L ds (.inRegion ops (i::rest)::k) cs s:=λT K=>by
 simp only [Bool.and_eq_true] at O
 have ac:args.map (BK T)=vs.toArray:=by
  rw [← GW K.Gs Z];apply Array.ext';simp
 refine Judge.oper U (Cq K hw) (by simpa using O.1) (.inr λc ag=>by cases ag) ?_;have hd:lp P (execOp (BK T) ⟨d,.call ⟨.value x,args,ats⟩,ty,pp,af,g⟩) s (upon J Q b T ds ops i rest k cs d) (LL J Q b T ds ops i rest k cs):=by
  have al:execOp (BK T) ⟨d,.call ⟨.value x,args,ats⟩,ty,pp,af,g⟩=(do let d ← Deferred.ofValue (.func (.func f) #[] caps.toArray) vs.toArray;invoke d.target d.args):=by
   simp only [execOp,resolve,ac,K.Gs _ _ Y]
  rw [al];simp only [Deferred.ofValue,bind,Sem.bind,pure,invoke];have e: #[]++vs.toArray++caps.toArray=(vs++caps).toArray:=by simp
  rw [e];exact Ji hb (h T K)
 exact hd
theorem W8{f:FuncId}{args:Array Operand}{ats:Array TypeId}{s:St}{vs:Lv_}(hb:Em P f=true)
  (U:ops[i]? =some ⟨d,.call ⟨.value (.func f),args,ats⟩,ty,pp,af,g⟩) (hw:AY L ops ⟨d,.call ⟨.value (.func f),args,ats⟩,ty,pp,af,g⟩=some true) (O:((b.kind != .early)&&Br n d)=true)
  (Y:evs L args.toList=some vs)
  (h:∀T,Has n L T->J.ok Q (G (Frame.enter P f vs.toArray .normal) (fr b T ds (.inRegion ops (i::rest)::k)::cs)) s):
  JL J Q b n L ds (.inRegion ops (i::rest)::k) cs s:=λT K=>by
 simp only [Bool.and_eq_true] at O
 have Z:args.map (BK T)=vs.toArray:=by
  rw [← GW K.Gs Y];apply Array.ext';simp
 refine Judge.oper U (Cq K hw) (by simpa using O.1) (.inr λc ac=>by cases ac) ?_;have hd:lp P (execOp (BK T) ⟨d,.call ⟨.value (.func f),args,ats⟩,ty,pp,af,g⟩) s (upon J Q b T ds ops i rest k cs d) (LL J Q b T ds ops i rest k cs):=by
  simp only [execOp,resolve,bind,Sem.bind,Deferred.ofValue,BK,pure,invoke];have e: #[]++args.map (BK T)++ #[]=vs.toArray:=by rw [Z];simp
  rw [e];exact Ji hb (h T K)
 exact hd
theorem YG{g:Frame}{s:St}(O:s.q=false)(h:(∃w,Fits s w)->J.ok Q (G g cs) s):J.ok Q (G g cs) s:=by
 by_cases K:∃w,Fits s w
 ·exact h K
 ·exact J.step ⟨V,λw f=>absurd ⟨w,f⟩ K,λe=>by subst e;cases O⟩
theorem G3.use{f:FuncId}{vs:Lv_}{B:Seg}{R:Value->LH->Seg->Prop}{p:Bool}{Tc:Av_}{Y:Li_}(j:Nat)(ap:G3 J f vs E B p pv R)(ac:As E H S)(ag:S[j]? =some B)
  (Z:p=false->∀v E' B',Le E E'->R v E' B'->As E' H (S.set j B')->J.ok Q (G ((fr bc Tc dsc Y).finish v) cs) (Al E' H (S.set j B')))
  (aq:p=true->∀E' B',Le E E'->As E' H (S.set j B')->J.ok Q (G (Hm bc Tc dsc Y (raised pv)) cs) (Al E' H (S.set j B'))):
  J.ok Q (G (Frame.enter P f vs.toArray .normal) (fr bc Tc dsc Y::cs)) (Al E H S):=by
 have K:S.flatten.Perm (B++(S.set j []).flatten):=(EA (seg':=B) ag).1.trans List.perm_append_comm;have al:Nd E H (B++(S.set j []).flatten):=Nd.perm ac K;have av:Al E H S=mk E (Bc (S.set j []).flatten H) B:=by
  rw [show Al E H S=mk E H S.flatten from rfl,Fu ac K];unfold mk;rw [F5]
 have aw:Nd E H (S.set j []).flatten:=by
  have:=al;rw [Nd.iff] at this ⊢;rw [List.map_append,List.nodup_append] at this;exact⟨this.1.2.1,λq ay=>this.2 q (List.mem_append_right _ ay)⟩
 have back:∀(g:Frame) (E':LH) (B':Seg),Le E E'->Nd E' (Bc (S.set j []).flatten H) B'->(As E' H (S.set j B')->J.ok Q (G g cs) (Al E' H (S.set j B')))->J.ok Q (G g cs) (mk E' (Bc (S.set j []).flatten H) B'):=λg E' B' hle U az=>by
  have e2:mk E' (Bc (S.set j []).flatten H) B'=mk E' H (B'++(S.set j []).flatten):=by unfold mk;rw [F5]
  refine YG V λ⟨w,a0⟩=>?_;have a1:Nd E' H (S.set j []).flatten:=aw.grow λx a2=>by
   have a3:=a0.d x a2;have Z:Bc B' (Bc (S.set j []).flatten H) x=none:=a3;exact(HS Z).1
  have O:Nd E' H (B'++(S.set j []).flatten):=Nd.glue U a1;rw [e2];have am:(B'++(S.set j []).flatten).Perm (S.set j B').flatten:=List.perm_append_comm.trans (EA ag).2.symm;rw [Fu O am];exact az (Nd.perm O am)
 rw [av];refine ap Q bc Tc dsc Y cs _ (Nd.front al) (λK v E' B' hle a4 U=>back _ E' B' hle U λO=>Z K v E' B' hle a4 O) (λK E' B' hle U=>back _ E' B' hle U λO=>aq K E' B' hle O)
theorem R9{x:Operand}{f:FuncId}{caps:Lv_}{args:Array Operand}{ats:Array TypeId}{vs:Lv_}{seg:Seg}{R:Value->LH->Seg->Prop}{p:Bool}(j:Nat)(hb:Em P f=true)
  (ac:G3 J f (vs++caps) E seg p pv R) (Y:ops[i]? =some ⟨d,.call ⟨.value x,args,ats⟩,ty,pp,af,g⟩) (hw:AY L ops ⟨d,.call ⟨.value x,args,ats⟩,ty,pp,af,g⟩=some true) (K:((b.kind != .early)&&Br n d)=true)
  (ag:ev L x=some (.func (.func f) #[] caps.toArray)) (al:evs L args.toList=some vs) (am:As E H S) (ap:S[j]? =some seg)
  (aq:p=true->∀E' seg',Le E E'->As E' H (S.set j seg')->JP J Q b n L ds cs (raised pv) (Al E' H (S.set j seg')))
  (av:p=false->∀v E' seg',Le E E'->R v E' seg'->As E' H (S.set j seg')->JL J Q b n (AB L d v) ds (.inRegion ops rest::k) cs (Al E' H (S.set j seg'))):
  JL J Q b n L ds (.inRegion ops (i::rest)::k) cs (Al E H S):=
 WV hb Y hw K ag al λT Z=>G3.use j ac am ap
  (λO v E' B' hle aw U=>by
   rw [GV (o:=⟨d,.call ⟨.value x,args,ats⟩,ty,pp,af,g⟩) _ _ _ _ _ Y]
   simp only [Bool.and_eq_true] at K
   exact av O v E' B' hle aw U _ (Z.put K.2 v))
  (λO E' B' hle U=>aq O E' B' hle U T Z _)
theorem W7{f:FuncId}{args:Array Operand}{ats:Array TypeId}{vs:Lv_}{seg:Seg}{R:Value->LH->Seg->Prop}{p:Bool}(j:Nat)(hb:Em P f=true)
  (ac:G3 J f vs E seg p pv R) (Y:ops[i]? =some ⟨d,.call ⟨.value (.func f),args,ats⟩,ty,pp,af,g⟩) (hw:AY L ops ⟨d,.call ⟨.value (.func f),args,ats⟩,ty,pp,af,g⟩=some true) (K:((b.kind != .early)&&Br n d)=true)
  (ag:evs L args.toList=some vs) (al:As E H S) (am:S[j]? =some seg)
  (ap:p=true->∀E' seg',Le E E'->As E' H (S.set j seg')->JP J Q b n L ds cs (raised pv) (Al E' H (S.set j seg')))
  (aq:p=false->∀v E' seg',Le E E'->R v E' seg'->As E' H (S.set j seg')->JL J Q b n (AB L d v) ds (.inRegion ops rest::k) cs (Al E' H (S.set j seg'))):
  JL J Q b n L ds (.inRegion ops (i::rest)::k) cs (Al E H S):=
 W8 hb Y hw K ag λT Z=>G3.use j ac al am
  (λO v E' B' hle av U=>by
   rw [GV (o:=⟨d,.call ⟨.value (.func f),args,ats⟩,ty,pp,af,g⟩) _ _ _ _ _ Y]
   simp only [Bool.and_eq_true] at K
   exact aq O v E' B' hle av U _ (Z.put K.2 v))
  (λO E' B' hle U=>ap O E' B' hle U T Z _)
theorem XY{ρ:Operand->Value}{x y z1:Operand}{s:St}{p:String}{a:Option Addr}{l c K m:Nat}{hi:Int}(O:∀ad,a=some ad->ad.spot=none∨c=0)(U:m<=c)(he:hi=(m:Int))(ht:P.underlying t=some (.slice e))(Y:Bv P e=some K)(Z:ρ x= .slice a l c)(ac:ρ y=iV hi)(ag:ρ z1=iV hi):
  Yl P ⟨d,.slice t x none (some y) (some z1),ty,p,af,g⟩ ρ s (.slice a m m):=by
 subst he;have h:=Yl.slice (P:=P) (s:=s) (d:=d) (ty:=ty) (p:=p) (af:=af) (g:=g) (olo:=none) (ohi:=some y) (omx:=some z1) (lo:=0) (hi:=m) (mx:=m) ht Y Z ag ac V U (Nat.le_refl _) (Nat.zero_le _);have al:(if m=0 then a else a.map (·.add (0*K)))=a:=by
  split
  ·rfl
  ·cases a with
   | none=>rfl
   | some ad=>
    have:=(O ad rfl).resolve_right (by omega);simp only [Option.map_some,Nat.zero_mul];rw [El this];obtain⟨b,o,sp⟩:=ad;simp only at this;subst this;simp
 rw [al] at h;simpa using h
theorem An.cq{α:Type}{q:Rp α}{a:Option Addr}{c:Nat}{xs ys:List α}{hi:Int}(U:An q E a c xs)(hC:Fy xs 0 hi=some ys):An q E a c ys/\ys.length<=c/\hi=(ys.length:Int):=by
 unfold Fy at hC;split at hC
 rotate_left
 ·cases hC
 rename_i hb;obtain⟨Z,ac,ag⟩:=hb;cases hC;have al:=U.1;have hlen:(((xs.take hi.toNat).drop (0:Int).toNat)).length=hi.toNat:=by simp;omega
 refine⟨⟨by rw [hlen];omega,?_⟩,by rw [hlen];omega,by rw [hlen];omega⟩;rcases U.2 with⟨h,O⟩ | ⟨bk,off,Y,O⟩
 ·exact .inl ⟨by rw [h];simp,O⟩
 ·refine .inr ⟨bk,off,Y,λi x K=>O i x ?_⟩;simp only [Int.toNat_zero,List.drop_zero] at K;rw [List.getElem?_take] at K;split at K
  ·exact K
  ·cases K
theorem Take.So{m fuel:Nat}{listed:Array Bool}{x y:Operand}{p:String}{α:Type}{q:Rp α}{t1:TypeId}{Y c cx:Nat}{a ax:Option Addr}{xs ys Z:List α}{ats:Array TypeId}{z:Value}(U:Cz xs ys=some Z)
  (aw:ops[i]? =some ⟨d,.call ⟨.builtin .append,#[x,y],ats⟩,ty,p,af,g⟩) (hw:AY L ops ⟨d,.call ⟨.builtin .append,#[x,y],ats⟩,ty,p,af,g⟩=some true) (ay:Br n d=true)
  (az:ev L x=some (.slice a xs.length xs.length)) (a0:ev L y=some (.slice ax ys.length cx)) (a1:ats[0]? =some t) (a2:ats[1]? =some t1) (ht:P.underlying t=some (.slice e)) (a3:P.underlying t1=some (.slice e)) (a4:Bv P e=some q.n) (hb:F0 P e=some Y) (a5:zeroOf P e=some z) (a6:z.cells.size=q.n)
  (a7:0<Y) (a8:Y<=64) (ac:An q E a c xs) (a9:An q E ax cx ys) (ag:As E H S)
  (h:∀E' al K,Le E E'->An q E' al K Z->As E' H (S++ [[]])->AT J Q b n ds ops k cs m Dl fuel (Bi listed i) (AB L d (.slice al Z.length K)) (Al E' H (S++ [[]]))):
  Take J Q b n ds ops k cs m Dl fuel listed L (Al E H S) i:=by
 unfold Cz at U;split at U
 rotate_left
 ·cases U
 rename_i bb;cases U;obtain⟨wss,am,be,bi,ce⟩:=An.Ls (H:=H) (B:=S.flatten) ac.full;obtain⟨bn,bo,bv,bw,bx⟩:=An.Ls (H:=H) (B:=S.flatten) a9;have hlen:(xs++ys).length=xs.length+ys.length:=by simp
 show Take J Q b n ds ops k cs m Dl fuel listed L (mk E H S.flatten) i;refine Take.K1 aw (by simp [Eg,ay]) hw λρ ap=>?_;rw [Md,ap x _ az,ap y _ a0];refine Az _ _ (Rd a1 a2 a3 ht a4 hb a5 a6 ag bi bw bx a7 bb a8 ?_ ?_)
 ·intro hm;have bz:ys= []:=List.eq_nil_of_length_eq_zero hm;subst bz;have b0:As E H (S++ [[]]):=by unfold As at*;rw [GX,List.append_nil];exact ag
  have b1:mk E H S.flatten=Al E H (S++ [[]]):=by unfold Al;rw [GX,List.append_nil]
  rw [b1];have:=h E a xs.length (Le.refl _) (by rw [List.append_nil];exact ac.full) b0;rw [hlen] at this;exact this
 ·intro r O K b2 b3 b4 b5;have b6:OL e q E (some ⟨r,0,none⟩) K [(r,.cells O e (0,0))] (xs++ys):=
   ⟨wss++bn,.inr ⟨r,O,rfl,rfl,b3,by rw [hlen];exact b2,by rw [hlen,List.flatten_append];exact b4.symm⟩,by simp [am,bo],Ni am be bv⟩
  have aq:=Fo (S:=S) (seg:= [(r,.cells O e (0,0))]) b5;show AT J Q b n ds ops k cs m Dl fuel _ _ (mk E H (S.flatten++ [(r,.cells O e (0,0))]));rw [aq.1];refine Gm S.length b6 aq.2 (by simp) λE' hle ca av=>?_;have cc:(S++ [[(r,Obj.cells O e (0,0))]]).set S.length []=S++ [[]]:=Ju _ _ _ _;rw [cc] at av ⊢;have:=h E' (some ⟨r,0,none⟩) K hle ca av;rw [hlen] at this;exact this
theorem Vs{ρ:Operand->Value}{x:Operand}{s:St}{p:String}{v:Value}{xt t1:TypeId}{f1:Array Field}(K:P.underlying t1=some (.struct f1))(O:ρ x= .iface t1 v):Yl P ⟨d,.typeAssert x xt t1 true,ty,p,af,g⟩ ρ s (.tuple #[v,.bool true]):=by
 refine FQ (sm:=Instr.typeAssert (ρ x) xt t1 true) V ?_;rw [O];unfold Instr.typeAssert;refine Az _ _ (Cx K ?_);simp [lp,pure]
theorem Vq{ρ:Operand->Value}{x:Operand}{s:St}{p:String}{z:Value}{xt t1:TypeId}{f1:Array Field}(K:P.underlying t1=some (.struct f1))(O:zeroOf P t1=some z)(U:ρ x= .nilIface):Yl P ⟨d,.typeAssert x xt t1 true,ty,p,af,g⟩ ρ s (.tuple #[z,.bool false]):=by
 refine FQ (sm:=Instr.typeAssert (ρ x) xt t1 true) V ?_;rw [U];unfold Instr.typeAssert;refine Az _ _ (Cx K ?_);exact Az (x:=zeroValue t1) _ (Hu O ⟨V,V⟩)
end
end Pal
