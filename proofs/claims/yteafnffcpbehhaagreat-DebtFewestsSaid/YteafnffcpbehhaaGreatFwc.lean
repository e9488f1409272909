/- DebtFewests is true for every input: the first settlement with the fewest payments: a part (3 of 10) of the proof of its row. -/
import Derived.Test.YteafnffcpbehhaaGreatFwa
import Derived.Test.YteafnffcpbehhaaGreatFwb
import Derived.Test.YteafnffcpbehhaaGreatRows
import Derived.Test.YteafnffcpbehhaaGreatChecked
import Derived.Conc.LeavingOf
import Derived.Conc.HoldsTime
import Derived.Carry
import Derived.ChangeSame
import Derived.ChangeVars
import Derived.ChangeSlices
import Derived.JoinedOf
import Derived.RowKit
import Derived.Deep.Strs
import Derived.Stop.Joined
import Derived.Test.YteafnffcpbehhaaGreatProg
set_option linter.all false
set_option maxRecDepth 100000
namespace Pal
open Go Go.Conc
variable {P:Program}
variable{s':St}{pure w:Bool}
section
variable (J:Judge P)(Q:Gs_)(b:Frame)(ds:Ld_)(ops:Ao_)(k:Li_)(cs:Lf_)(X D D0:Nat->Bool)
def JB:Nat->Array Bool->Av_->St->Prop
 | 0,listed,T,s=>Region.ready .any ops listed=[]/\J.ok Q (G (fr b T ds (.inRegion ops []::k)) cs) s
 | fuel+1,listed,T,s=>
  Region.ready .any ops listed≠ []/\s.q=false/\∀i∈Region.ready .any ops listed,∀o,ops[i]?=some o->(∀c,o.op≠ .defer c)/\
   (Region.wanted o (yielded ops T)=false->JB fuel (Bp listed i) (DU T o.dst undef) s)/\
   (Region.wanted o (yielded ops T)=true->X i=true->lp P (execOp (BZ T) o) s (λI s'=>(∀x u,D0 x=true->s.get x=some u->s'.get x=some u)/\match I with
    | .value v=>JB fuel (Bp listed i) (DU T o.dst v) s'
    | .skip=>JB fuel (Bp listed i) (DU T o.dst undef) s'
    | _=>False) (λ_ _=>False))/\
   (Region.wanted o (yielded ops T)=true->X i=false->lp P (execOp (BZ T) o) (BK D s) (λI s'=>match I with
    | .value v=>JB fuel (Bp listed i) (DU T o.dst v) (C6 D s s')
    | .skip=>JB fuel (Bp listed i) (DU T o.dst undef) (C6 D s s')
    | _=>False) (λ_ _=>False))
variable {J Q b ds ops k cs X D D0}
theorem dO(Y:b.kind≠ .early):∀(fuel t:Nat) (listed:Array Bool) (T:Av_) (s:St),JB J Q b ds ops k cs X D D0 fuel listed T s->
  J.ok Q (G (fr b T ds (.inRegion ops (Region.linearise.go .any ops fuel t listed [])::k)) cs) s:=by
 intro fuel
 induction fuel with
 | zero=>intro t listed T s h;simpa [Region.linearise.go] using h.2
 | succ fuel K=>
  intro t listed T s h;obtain⟨ag,ai,h⟩:=h;obtain⟨i,hi⟩:∃i,(Region.ready .any ops listed)[t%(Region.ready .any ops listed).length]?=some i:=by
   have:0<(Region.ready .any ops listed).length:=vK.2 ag;exact⟨_,bZ (wn _ this)⟩
  have Z:=sU hi;have hgo:Region.linearise.go .any ops (fuel+1) t listed []=i::Region.linearise.go .any ops fuel (t/(Region.ready .any ops listed).length) (Bp listed i) []:=by
   simp only[Region.linearise.go];change (match(Region.ready .any ops listed)[t%(Region.ready .any ops listed).length]? with
    | some i=>Region.linearise.go .any ops fuel (t/(Region.ready .any ops listed).length) (listed.setIfInBounds i true) [i]
    | none=>[].reverse)=_
   rw[hi];simp only;rw[linearise_go_acc];rfl
  rw[hgo];let⟨_,o,O,_⟩:=mem_ready.1 Z;let⟨hd,aj,al,am⟩:=h i Z o O;cases hw:Region.wanted o (yielded ops T) with
  | false=>exact E9 O hw (K _ _ _ _ (aj hw))
  | true=>
   cases ac:X i with
   | true=>
    refine DI O hw Y (.inr hd) (Fy _ (al hw ac) ?_ (λ_ _ h=>h.elim));rintro U s' ⟨_,I⟩;cases U with
    | value v=>exact K _ _ _ _ I
    | skip=>exact K _ _ _ _ I
    | _=>exact I.elim
   | false=>
    refine Judge.XK D O hw Y hd ai (Fy _ (am hw ac) ?_ (λ_ _ h=>h));intro U s' I;cases U with
    | value v=>exact K _ _ _ _ I
    | skip=>exact K _ _ _ _ I
    | _=>exact I.elim
def waitAll(ops:Ao_)(X:Nat->Bool)(i:Nat):Bool:=(List.range ops.size).all λj=> !X j || waits ops ops.size j i
theorem gQ{D:Nat->Bool}{s:St}(I:s'.E=(BK D s).E){x:Nat}{o:Obj}(h:s.E x=some o):(C6 D s s').E x=some o:=by
 grind [BK,C6]
theorem fS{D0 D:Nat->Bool}{s:St}(h:∀x,D0 x=true->D x=true):∀x o,(BK D0 s).E x=some o->(BK D s).E x=some o:=λx o I=>by
 simp only[BK] at I ⊢
 split;split at I;exact I;unfold St.get;rw[I];rename_i hd;rw[d0 (λe=>hd (h x e))] at I;exact I
theorem lM{D0:Nat->Bool}{s:St}(h:∀x o,(BK D0 s).E x=some o->s'.E x=some o):∀x o,s.E x=some o->s'.E x=some o:=λx o I=>h x o (by
 simp only[BK];split;unfold St.get;rw[I]
 .exact I)
theorem dz{D0:Nat->Bool}{s:St}(h:∀x u,D0 x=true->s.get x=some u->s'.get x=some u)(K:s'.E=s.E):∀x o,(BK D0 s).E x=some o->(BK D0 s').E x=some o:=λx o I=>by
 simp only[BK] at I ⊢
 split;rename_i hd;rw[d9 hd] at I;exact h x o hd I;rename_i hd;rw[d0 hd] at I;rw[K];exact I
theorem U8{D0 D:Nat->Bool}{s:St}(h:∀x,D0 x=true->D x=true)(K:s'.E=(BK D s).E):∀x o,(BK D0 s).E x=some o->(BK D0 (C6 D s s')).E x=some o:=λx o I=>by
 simp only[BK] at I ⊢
 split
 .rename_i hd;rw[d9 hd] at I
  unfold St.get C6;simp only[h x hd,tS];exact I
 .rename_i hd;rw[d0 hd] at I;exact gQ K I
theorem Xi{i:Nat}{oi:Oper}{v:Value}(bn:∀x,D0 x=true->D x=true)(hi:ops[i]?=some oi)(ct:X i=false)(b4:(pure || waitAll ops X i)=true)(cw:Region.noSelect ops=true)(cy:∀c,oi.op≠ .defer c):
  ∀(fuel:Nat) (listed:Array Bool) (T:Av_) (s:St),Ks ops listed i oi=true->I6 ops listed=true->listed.size=ops.size->i∈Region.ready .any ops listed->s.q=false->Region.wanted oi (yielded ops T)=w->
   (w=true->∀s',s'.q=false->(∀x o,(BK D0 s).E x=some o->s'.E x=some o)->(pure=false->∀x o,(BK D s).E x=some o->s'.E x=some o)->Yl P oi (BZ T) s' v)->
   JB J Q b ds ops k cs X D D0 fuel (Bp listed i) (DU T oi.dst (if w then v else undef)) s->JB J Q b ds ops k cs X D D0 (fuel+1) listed T s:=by
 have al:∀(j:Nat) (oj:Oper),ops[j]?=some oj->∀cs b,oj.op≠Op.select cs b:=λj oj h cs b=>Region.noSelect_spec cw j oj cs b h;intro fuel
 induction fuel with
 | zero=>?_
 | succ fuel aw=>?_
 all_goals
  intro listed T s b5 b6 ay be az hw am h;refine⟨λe=>(by rw[e] at be;cases be),az,λj hj oj O=>?_⟩;by_cases a0:j=i
  .subst a0;obtain rfl:oj=oi:=by rw[hi] at O;exact(f8 O).symm
   refine⟨cy,λK=>?_,λap I=>?_,λap I=>?_⟩;rw[K] at hw;subst hw;exact h;rw[ct] at I;cases I;rw[ap] at hw;subst hw;refine Fy _ (am V (BK D s) az (fS bn) λ_ _ _ h=>h).out ?_ (λ_ _ h=>h);rintro bg s' ⟨rfl,rfl⟩;rw[Nc];exact h
  ·
   have ca:j∈Region.ready .any ops (Bp listed i):=ready_mono hj a0;let⟨aq,U,cc,bo⟩:=mem_ready.1 hj;obtain rfl:U=oj:=by rw[O] at cc;exact(f8 cc).symm
   have bv:=(mem_ready.1 be).1;have c0:(U.after.any λe=>Region.binds .any e&&e.on==i)=false:=by
    rw[Array.any_eq_false];intro e he I;simp only[f6,uI] at I;have:=bo _ (Array.getElem_mem he) I.1;rw[I.2] at this;have av:listed.getD i true=listed.getD i false∨listed.size<=i:=by
     rcases mt i listed.size with q | q;left;simp[no,q];exact .inr q
    rcases av with av | av;rw[bv,this] at av;cases av;rw[no,ta av] at this;simp at this
   have c2:oi.apart ops U=true:=by
    have bw:j<ops.size:=(f7.1 O).1;have:=td.1 b5 j (s4.2 bw);simp only[t8,uI] at this;rcases this with(q | q) | q;exact absurd q a0;rw[aq] at q;cases q;rw[O] at q;simp only[t8] at q;rw[c0] at q;exact q.resolve_left AM
   let⟨a1,a2,a3⟩:=Oper.apart_spec c2;let⟨p1,p2⟩:=Jy (ops:=ops) (T:=T) (v:=if w then v else undef) (al j U O) a1
   first
    | exact absurd ca (by rw[h.1];simp)
    | (
     obtain⟨ea,_,h⟩:=h
     let⟨hd,K,c3,c4⟩:=h j ca U O
     have a4:Bp (Bp listed i) j=Bp (Bp listed j) i:=by
      unfold Bp;exact vU _ _ (ti a0)
     have a5:i∈Region.ready .any ops (Bp listed j):=ready_mono be (ti a0)
     have a6:Ks ops (Bp listed j) i oi=true:=by
      refine td.2 λx I=>?_
      have:=td.1 b5 x I
      simp only[t8,uI] at this ⊢
      rcases this with(q | q) | q;exact .inl (.inl q)
      .left;right
       by_cases e:j=x;subst e;rw[aq] at q;cases q;rw[Bp,getD_set_ne true e];exact q
      .exact .inr q
     have a7:(Bp listed j).size=ops.size:=by unfold Bp;simpa using ay
     have a8:I6 ops (Bp listed j)=true:=by
      refine td.2 λx I=>?_
      cases bx:ops[x]? with
      | none=>simp
      | some c5=>
       simp only[t8,vc]
       by_cases e:j=x
       .subst e
        obtain rfl:c5=U:=by rw[O] at bx;exact(f8 bx).symm
        right
        refine u3.2 λe he=>?_
        cases hb:Region.binds .any e with
        | false=>simp
        | true=>
         have:=bo e he hb
         by_cases e2:j=e.on
         .rw [← e2] at this
          have bz:j<listed.size:=by rw[ay];exact(f7.1 O).1
          simp[no,bz] at this aq
          rw[aq] at this;cases this
         .rw [Bp,getD_set_ne false e2];simpa using this
       .cases ce:(Bp listed j).getD x false with
        | false=>exact .inl rfl
        | true=>
         right
         have c6:listed.getD x false=true:=by rw[Bp,getD_set_ne false e] at ce;exact ce
         refine u3.2 λb0 he=>?_
         cases hb:Region.binds .any b0 with
         | false=>simp
         | true=>
          have:=Sz b6 bx c6 b0 he hb
          by_cases e2:j=b0.on
          .rw [← e2] at this
           have bz:j<listed.size:=by rw[ay];exact(f7.1 O).1
           simp[no,bz] at this aq
           rw[aq] at this;cases this
          .rw [Bp,getD_set_ne false e2];simpa using this
     refine⟨hd,λc7=>?_,λb1 bi=>?_,λb1 bi=>?_⟩
     .have:=K (by rw[p2];exact c7)
      rw[a4,KR a2] at this
      let⟨Y,Z⟩:=Jy (ops:=ops) (T:=T) (d:=U.dst) (v:=undef) (o:=oi) (al i oi hi) a3
      exact aw _ _ _ a6 a8 a7 a5 az (by rw[Z];exact hw) (λac s' c8 K ag=>by unfold Yl;rw[Y];exact(am ac s' c8 K ag).out) this
     ·
      have c9:pure=true:=by
       cases dd:pure with
       | true=>rfl
       | false=>
        exfalso
        rw[dd,wJ] at b4
        have bw:j<ops.size:=(f7.1 O).1
        have ap:=td.1 b4 j (s4.2 bw)
        rw[bi] at ap
        simp only[wI,wJ] at ap
        rcases Vk b6 _ j U O (λe he hb=>bo e he hb) ap with q | ⟨x,Y,Z⟩
        .have dj:i<listed.size:=by rw[ay];exact(f7.1 hi).1
         simp[no,dj] at q bv
         rw[bv] at q;cases q
        .have:¬x<listed.size:=by rw[ay];intro I;simp[I] at Y
         simp[no,this] at Z
      have a9:=R8 _ (c3 (by rw[p2];exact b1) bi)
      rw[p1] at a9
      refine Fy _ a9 ?_ (λ_ _ h=>h)
      rintro bg s' ⟨⟨b2,I⟩,ag,b3⟩
      have ci:=dz b2 ag
      have bb:s'.q=false:=b3.trans az
      have co:pure=false->∀{α:Prop},α:=λe=>by rw[c9] at e;cases e
      cases bg with
      | value u=>
       simp only at I ⊢
       rw[a4,KR a2] at I
       let⟨Y,Z⟩:=Jy (ops:=ops) (T:=T) (d:=U.dst) (v:=u) (o:=oi) (al i oi hi) a3
       exact⟨b2,aw _ _ _ a6 a8 a7 a5 bb (by rw[Z];exact hw) (λac s2 ai K aj=>by unfold Yl;rw[Y];exact(am ac s2 ai (λx o h=>K x o (ci x o h)) (λe=>co e)).out) I⟩
      | skip=>
       simp only at I ⊢
       rw[a4,KR a2] at I
       let⟨Y,Z⟩:=Jy (ops:=ops) (T:=T) (d:=U.dst) (v:=undef) (o:=oi) (al i oi hi) a3
       exact⟨b2,aw _ _ _ a6 a8 a7 a5 bb (by rw[Z];exact hw) (λac s2 ai K aj=>by unfold Yl;rw[Y];exact(am ac s2 ai (λx o h=>K x o (ci x o h)) (λe=>co e)).out) I⟩
      | _=>exact I.elim
     .have a9:=R8 _ (c4 (by rw[p2];exact b1) bi)
      rw[p1] at a9
      refine Fy _ a9 ?_ (λ_ _ h=>h)
      rintro bg s' ⟨I,ag,b3⟩
      have cp:=Vw (D:=D) ag
      have bb:(C6 D s s').q=false:=by show s'.q=false;rw[b3];exact az
      cases bg with
      | value u=>
       simp only at I ⊢
       rw[a4,KR a2] at I
       let⟨Y,Z⟩:=Jy (ops:=ops) (T:=T) (d:=U.dst) (v:=u) (o:=oi) (al i oi hi) a3
       exact aw _ _ _ a6 a8 a7 a5 bb (by rw[Z];exact hw) (λac s2 ai K aj=>by unfold Yl;rw[Y];exact(am ac s2 ai (λx o h=>K x o (U8 bn ag x o h)) (λe=>by rw[cp] at aj;exact aj e)).out) I
      | skip=>
       simp only at I ⊢
       rw[a4,KR a2] at I
       let⟨Y,Z⟩:=Jy (ops:=ops) (T:=T) (d:=U.dst) (v:=undef) (o:=oi) (al i oi hi) a3
       exact aw _ _ _ a6 a8 a7 a5 bb (by rw[Z];exact hw) (λac s2 ai K aj=>by unfold Yl;rw[Y];exact(am ac s2 ai (λx o h=>K x o (U8 bn ag x o h)) (λe=>by rw[cp] at aj;exact aj e)).out) I
      | _=>exact I.elim)
end
section
variable (J:Judge P)(Q:Gs_)(b:Frame)(n:Nat)(ds:Ld_)(ops:Ao_)(k:Li_)(cs:Lf_)(X D D0:Nat->Bool)
def FH(fuel:Nat)(listed:Array Bool)(L:Env)(s:St):Prop:=∀T,Has n L T->JB J Q b ds ops k cs X D D0 fuel listed T s
end
theorem JB.take{i:Nat}{oi:Oper}{v:Value}{P:Program}{J:Judge P}{Q:Gs_}{b:Frame}{ds:Ld_}{ops:Ao_}{k:Li_}{cs:Lf_}{X D D0:Nat->Bool}(I:∀x,D0 x=true->D x=true)(hi:ops[i]?=some oi)(K:X i=false)(O:(pure || waitAll ops X i)=true)(U:Region.noSelect ops=true)(Y:∀c,oi.op≠ .defer c)
  (fuel:Nat) (listed:Array Bool) (T:Av_) (s:St) (Z:Ks ops listed i oi=true) (ac:I6 ops listed=true) (ag:listed.size=ops.size) (ai:i∈Region.ready .any ops listed) (aj:s.q=false) (al:Region.wanted oi (yielded ops T)=w)
  (am:w=true->∀s',s'.q=false->(pure=false->∀x o,(BK D s).E x=some o->s'.E x=some o)->Yl P oi (BZ T) s' v)
  (h:JB J Q b ds ops k cs X D D0 fuel (Bp listed i) (DU T oi.dst (if w then v else undef)) s):JB J Q b ds ops k cs X D D0 (fuel+1) listed T s:=
 Xi I hi K O U Y fuel listed T s Z ac ag ai aj al (λe s' hs _ ap=>am e s' hs ap) h
def II(ops:Ao_)(listed:Array Bool)(xs:List Nat)(pure:Bool)(i:Nat):Bool:=match ops[i]? with
 | some oi=> !AO xs i&&(pure || waitAll ops (AO xs) i)&&Region.noSelect ops&& !EP oi.op&&Ks ops listed i oi&&I6 ops listed&&listed.size==ops.size&&(Region.ready .any ops listed).contains i
 | none=>false
variable {J:Judge P}{Q:Gs_}{n:Nat}{ds:Ld_}{ops:Ao_}{k:Li_}{cs:Lf_}{X D:Nat->Bool}{l0:List Nat}{L:Env}{s:St}{E H:LH}{S:List Seg}{xl bks:List Nat}
variable {d:Option Tmp}{t u ty:TypeId}{p:String}{af:Ae_}{g:On_}{v:Value}{kd:IntKind}
section
variable {b:Frame}{fuel:Nat}{listed:Array Bool}
variable {x y:Operand}{e:TypeId}{i:Nat}
theorem Gl(xl bks l0:List Nat){id:Nat}(hm:P.follows .mixedOrders=true)(I:(b.kind != .early)=true)
  (h:FH J Q b n ds ops k cs (AO xl) (AO (l0++bks)) (AO l0) ops.size (Array.replicate ops.size false) L (Ao E H S)):JL J Q b n L ds (.code (.region id ops true)::k) cs (Ao E H S):=
 XB V hm λt T K=>dO (by simpa using I) ops.size t _ T _ (h T K)
theorem X1:∀x,AO l0 x=true->AO (l0++bks) x=true:=λx h=>by
 simp only[AO,List.contains_iff_mem,sO] at h ⊢;exact .inl h
theorem JB.val{oi:Oper}(i:Nat)(pure:Bool)(hi:ops[i]?=some oi)(I:II ops listed xl pure i=true)(U:s.q=false)
  (hw:A9 L ops oi=some true) (Y:BC n oi.dst=true) (Z:∀ρ,FV L ρ->∀s':St,(pure=false->∀x o,(BK (AO (l0++bks)) s).E x=some o->s'.E x=some o)->Yl P oi ρ s' v)
  (h:FH J Q b n ds ops k cs (AO xl) (AO (l0++bks)) (AO l0) fuel (Bp listed i) (AG L oi.dst v) s):FH J Q b n ds ops k cs (AO xl) (AO (l0++bks)) (AO l0) (fuel+1) listed L s:=λT K=>by
 simp only[II,hi,f6] at I
 obtain⟨⟨⟨⟨⟨⟨⟨ac,ag⟩,ai⟩,O⟩,aj⟩,al⟩,am⟩,ap⟩:=I
 refine JB.take (w:=true) (v:=v) (pure:=pure) X1 hi (by simpa using ac) ag ai (λc I=>by rw[I] at O;simp[EP] at O) fuel listed T s aj al (by simpa using am) (by simpa using ap) U (CI K hw) (λ_ s' av aq=>Z _ K.Hu s' aq) ?_
 exact h _ (K.put Y v)
abbrev EA:=@JB.val
theorem Mn{oi:Oper}(i:Nat)(hi:ops[i]?=some oi)(I:II ops listed xl true i=true)(U:s.q=false)
  (hw:A9 L ops oi=some true) (Y:BC n oi.dst=true) (Z:∀ρ,FV L ρ->∀s':St,(∀x o,(BK (AO l0) s).E x=some o->s'.E x=some o)->Yl P oi ρ s' v)
  (h:FH J Q b n ds ops k cs (AO xl) (AO (l0++bks)) (AO l0) fuel (Bp listed i) (AG L oi.dst v) s):FH J Q b n ds ops k cs (AO xl) (AO (l0++bks)) (AO l0) (fuel+1) listed L s:=λT K=>by
 simp only[II,hi,f6] at I
 obtain⟨⟨⟨⟨⟨⟨⟨ac,ag⟩,ai⟩,O⟩,aj⟩,al⟩,am⟩,ap⟩:=I
 refine Xi (w:=true) (v:=v) (pure:=true) X1 hi (by simpa using ac) ag ai (λc I=>by rw[I] at O;simp[EP] at O) fuel listed T s aj al (by simpa using am) (by simpa using ap) U (CI K hw) (λ_ s' av aq _=>Z _ K.Hu s' aq) ?_
 exact h _ (K.put Y v)
theorem I4{oi:Oper}(i:Nat)(hi:ops[i]?=some oi)(I:II ops listed xl true i=true)(K:s.q=false)
  (hw:A9 L ops oi=some true) (O:BC n oi.dst=true) (U:∀ρ,FV L ρ->∀s':St,(∀x o,s.E x=some o->s'.E x=some o)->Yl P oi ρ s' v)
  (h:FH J Q b n ds ops k cs (AO xl) (AO (l0++bks)) (AO l0) fuel (Bp listed i) (AG L oi.dst v) s):FH J Q b n ds ops k cs (AO xl) (AO (l0++bks)) (AO l0) (fuel+1) listed L s:=
 Mn i hi I K hw O (λρ Y s' hs=>U ρ Y s' (lM hs)) h
theorem JB.fin{l0:List Nat}(I:Region.ready .any ops listed=[])(h:JL J Q b n L ds k cs s):FH J Q b n ds ops k cs X D (AO l0) 0 listed L s:=λT K=>⟨I,A1 h T K⟩
abbrev DG:=@JB.fin
def Pf(S:List Seg)(j:Nat):List Nat->Prop
 | []=>True
 | bk::l=>(∃(i:Nat) (o:Obj),(i==j)=false/\S[i]?=some [(bk,o)])/\Pf S j l
theorem Pf.mem{S:List Seg}{j:Nat}:∀{l:List Nat},Pf S j l->∀bk∈l,∃(i:Nat) (o:Obj),i≠j/\S[i]?=some [(bk,o)]
 | [],_,_,h=>by cases h
 | b::l,⟨⟨i,o,hi,h⟩,I⟩,bk,hb=>by
  rcases ja.1 hb with rfl | hb;exact⟨i,o,by simpa using hi,h⟩;exact I.mem bk hb
theorem JB.store{bk off:Nat}{c:Av_}(i j:Nat)(U:Region.ready .any ops listed=[i])(am:AO xl i=true)(ap:ops[i]?=some ⟨d,.store t x y,ty,p,af,g⟩)(hw:A9 L ops ⟨d,.store t x y,ty,p,af,g⟩=some true)(aq:BC n d=true)(Y:Aw E H S)
  (K:ev L x=some (.pointer (some ⟨bk,off,none⟩))) (av:ev L y=some v) (aw:BA P t=some v.cells.size) (ay:∀u∈v.cells.toList,Dz u=true) (Z:S[j]?=some [(bk,.cells c e (0,0))]) (az:Pf S j l0) (hle:off+v.cells.size<=c.size)
  (h:Aw E H (S.set j [(bk,.cells (Be c off v.cells.toList) e (0,0))])->FH J Q b n ds ops k cs (AO xl) (AO (l0++bks)) (AO l0) fuel (Bp listed i) (AG L d undef) (Ao E H (S.set j [(bk,.cells (Be c off v.cells.toList) e (0,0))]))):
  FH J Q b n ds ops k cs (AO xl) (AO (l0++bks)) (AO l0) (fuel+1) listed L (Ao E H S):=λT I=>by
 refine⟨by rw[U];simp,rfl,λa5 O o' ac=>?_⟩
 rw[U] at O
 simp at O
 subst O
 obtain rfl:o'=⟨d,.store t x y,ty,p,af,g⟩:=by rw[ap] at ac;exact(f8 ac).symm
 refine have a0:=CI I hw;⟨λc a1=>(by cases a1),λe=>?_,λ_ _=>?_,λ_ e=>?_⟩;rw[a0] at e;cases e
 .let⟨ag,a2⟩:=HS Y Z;rw[ag];show lp P (do Instr.storeAt t (BZ T x) (BZ T y);pure Next.skip) _ _ _
  rw[I.ev K,I.ev av];refine AH _ _ ?_;unfold Instr.storeAt;simp only[Instr.sureAddr,bind,Sem.bind,pure];refine Vs (pl:=(S.set j []).flatten.length) aw ay a2 (c:=c) (e:=e) AM hle λai=>?_;have a3:((S.set j []).flatten++ [(bk,Obj.cells c e (0,0))]).set (S.set j []).flatten.length (bk,.cells (Be c off v.cells.toList) e (0,0))=(S.set j []).flatten++ [(bk,.cells (Be c off v.cells.toList) e (0,0))]:=I2 _ _ _ _;rw[a3] at ai ⊢;let⟨a4,aj⟩:=Kq Z ai;rw[a4];refine⟨λx u K hg=>?_,h aj _ (I.put aq undef)⟩;obtain⟨a6,o',hj,al⟩:=az.mem x (by simpa [AO] using K);have g1:(Ao E H S).get x=some o':=Ew (i:=0) Y al rfl;have g2:(Ao E H (S.set j [(bk,.cells (Be c off v.cells.toList) e (0,0))])).get x=some o':=Ew (i:=0) aj (by rw[s0 (ti hj)];exact al) rfl;have g0:(Ao E H S).get x=some u:=by rw[ag];exact hg
  rw[g1] at g0;rw[g2];exact g0
 .rw [am] at e;cases e
end
theorem PW{E H:LH}{S:List Seg}{bks:List Nat}{bk o:Nat}{l ws:Lv_}{e:TypeId}{f:Nat×Nat}{w:Value}(j:Nat)(I:Aw E H S)(K:S[j]?=some [(bk,.cells (l++ws).toArray e f)])(O:AO bks bk=true)(hs:∀x o,(BK (AO bks) (Ao E H S)).E x=some o->s'.E x=some o)(U:ws[o]?=some w):s'.cell? ⟨bk,l.length+o,none⟩=some w:=by
 have:=eh j I K O hs o w U
 rwa[EO rfl] at this
variable {B:List (Nat×Obj)}
variable{ats:Array TypeId}{a ax:Option Addr}{c2 cx l sz:Nat}{z:Value}
section
variable {e:TypeId}
theorem Va{m:Nat}{xs ys:Lv_}{Q:Value->St->Prop}{X:Halt->St->Prop}
  (av:ats[0]?=some t) {t1 aw:TypeId}(ay:ats[1]?=some t1) (az:P.underlying t1=some (.slice aw)) (ht:P.underlying t=some (.slice e)) (a0:BA P e=some sz) (hb:GC P e=some c2) (a1:zeroOf P e=some z) (a2:z.cells.size=sz)
  (a3:Nd E H B) (ac:Jc (mk E H B) (.slice a l l) sz xs)
  (U:Jc (mk E H B) (.slice ax m cx) sz ys) (bg:∀w∈ys,Dz w=true) (bi:0<c2) (bn:l+m<=2^40) (a4:c2<=64)
  (ap:m=0->Q (.slice a (l+m) l) (mk E H B))
  (a5:∀r Y ag,l+m<=ag->Y.size=ag*sz->Y.toList.take ((l+m)*sz)=xs++ys->Nd E H (B++ [(r,.cells Y e (0,0))])->Q (.slice (some ⟨r,0,none⟩) (l+m) ag) (mk E H (B++ [(r,.cells Y e (0,0))]))):
  lp P (Builtin.append_ ats ty #[.slice a l l,.slice ax m cx]) (mk E H B) Q X:=by
 unfold Builtin.append_;simp only[av,ay,tq,ub,uE];refine AH _ _ (C4 ht (AH _ _ (F4 a0 (AH _ _ (C4 az ?_)))));simp only[Jw,s5,tP,Builtin.lenOf,w8,tS];have Z:ys.length=m*sz:=by
  cases ax with
  | none=>obtain⟨K,O⟩:=U;subst K O;simp
  | some ad=>exact U.2.1
 have ai:xs.length=l*sz:=by
  cases a with
  | none=>obtain⟨K,O⟩:=ac;subst K O;simp
  | some ad=>exact ac.2.1
 obtain⟨c,bo⟩:∃c,c=l:=⟨_,V⟩;split
 .rename_i bv;have hm:m=0:=by omega
  have a6:ys=[]:=tg (by rw[Z,hm];simp);refine AH _ _ (L6 ⟨ax,cx,V⟩ U ?_);subst a6;cases a with
  | none=>exact ap hm
  | some ad=>exact ap hm
 .rename_i bw;have K:¬(((l+m:Nat):Int)>IntKind.i64.max/\(False∨c2=0)):=by rintro⟨_,h | h⟩<;>omega
  have O:¬(Builtin.nextslicecap (l+m) l*c2>2^48):=by
   have:=VK (need:=l+m) (old:=l) AB;have bx:Builtin.nextslicecap (l+m) l*c2<=(2*(l+m)+768)*64:=Nat.mul_le_mul this a4;omega
  refine let⟨inf,aj,al⟩:=S2 hb;AH _ _ (L9 aj ?_);rw[al,d0 K];refine AH _ _ (L9 aj ?_);rw[al,d0 O];refine AH _ _ ?_;simp only[choose,lp,Question.forced,s5,tP];refine⟨V,λa7=>?_⟩;generalize a8:(Question.appendCap (l+m) l e).cut a7=am;have a9:l+m<=am:=by rw[← a8];simp[Question.cut]
  refine AH _ _ (L9 aj ?_);rw[al];have bb:∀{α:Type}{f:Unit->Sem α}{Q:α->St->Prop},lp P (f ()) (mk E H B) Q X->lp P (askRoom (am*c2)>>=f) (mk E H B) Q X:=by
   intro α f Q aq;refine AH _ _ ?_;unfold askRoom;split;exact⟨.inl ⟨V,V⟩,aq⟩;exact aq
  refine bb (AH _ _ (L6 ⟨a,l,V⟩ ac (AH _ _ (L6 ⟨ax,cx,V⟩ U (AH _ _ (Is a1 (AH _ _ (JC a3 λr be=>a5 r _ am a9 ?_ ?_ be))))))));simp only[Array.size_append,uR,U6,a2,ai,Z];rw[← uG,← uG];congr 1;omega;simp only[Array.toList_append];rw[ww (by simp[ai,Z,uG])];rw[uk (by simp[ai,Z,uG])]
end
variable{α:Type}{c:Nat}
theorem Aq.spot{pp:Rp α}{E:LH}{xs:List α}(h:Aq pp E a c xs):∀ad,a=some ad->ad.spot=none∨c=0:=λad I=>by
 rcases h.2 with⟨_,h⟩ | ⟨bk,off,h,_⟩;exact h ad I;rw[h] at I;cases I;exact .inl rfl
theorem Aq.full{pp:Rp α}{E:LH}{xs:List α}(h:Aq pp E a c xs):Aq pp E a xs.length xs:=⟨jK _,h.2.imp (λ⟨h,_⟩=>⟨h,λ_ _=>.inr (by rw[h];rfl)⟩) id⟩
theorem Aq.Np{pp:Rp α}{E H:LH}{B:List (Nat×Obj)}{ys:List α}(Z:Aq pp E a c ys):
  ∃I:List (Lv_),I.length=ys.length/\(∀(i:Nat) x ws,ys[i]?=some x->I[i]?=some ws->pp.r E ws x)/\Jc (mk E H B) (.slice a ys.length c) pp.n I.flatten/\∀w∈I.flatten,Dz w=true:=by
 obtain⟨I,O,Y,U⟩:=Z.rows;refine have ac:=JF O Y;⟨I,O,Y,?_,λw hw=>?_⟩
 .rcases U with⟨U,ap⟩ | ⟨bk,off,rfl,U⟩
  .subst U;have:I=[]:=tg O;subst this;cases a with
   | none=>exact⟨rfl,rfl⟩
   | some ad=>exact⟨.inr rfl,AM,tz _,λq w K=>by simp at K⟩
  .refine⟨.inl V,by rw[Oe ac,O],Z.1,λq w K=>?_⟩;let⟨ag,m,ws,ai,e2,aj⟩:=SB ac K;have:=(U ag ws ai).cell (H:=H) (B:=B) e2;subst aj;rw[← uS];exact this
 .let⟨us,al,hw⟩:=uW.1 hw;let⟨q,K⟩:=tj.1 al;have am:q<ys.length:=by rw[← O];exact(d7.1 K).1
  exact pp.one (Y q _ us (bZ am) K) w hw
variable {E':LH}
variable {z1:Operand}{rest:List Nat}{ρ:Operand->Value}
section
variable {b:Frame}
variable {x y:Operand}{e:TypeId}{i:Nat}
theorem VM(I:∀ad,a=some ad->ad.spot=none∨c=0)(K:l<=c)(ht:P.underlying t=some (.slice e))(O:BA P e=some sz)(U:ρ x=.slice a l c)(Y:ρ y=iV (l:Int))(Z:ρ z1=iV (l:Int)):
  Yl P ⟨d,.slice t x none (some y) (some z1),ty,p,af,g⟩ ρ s (.slice a l l):=by
 have h:=Hn (P:=P) (s:=s) (d:=d) (ty:=ty) (p:=p) (af:=af) (g:=g) (olo:=none) (ohi:=some y) (omx:=some z1) (lo:=0) (hi:=l) (mx:=l) ht O U Z Y V K (jK _) (tz _);have ac:(if l=0 then a else a.map (·.add (0*sz)))=a:=by
  split;rfl
  .cases a with
   | none=>rfl
   | some ad=>
    have:=(I ad rfl).resolve_right AB;simp only[uf,u0];rw[EO this];obtain⟨b,o,sp⟩:=ad;simp only at this;subst this;simp
 rw[ac] at h;simpa using h
theorem ba{pp:Rp α}{t1:TypeId}{xs ys Y:List α}(O:CK xs ys=some Y)
  (ap:ops[i]?=some ⟨d,.call ⟨.builtin .append,#[x,y],ats⟩,ty,p,af,g⟩) (hw:A9 L ops ⟨d,.call ⟨.builtin .append,#[x,y],ats⟩,ty,p,af,g⟩=some true) (aq:Cd b n ⟨d,.call ⟨.builtin .append,#[x,y],ats⟩,ty,p,af,g⟩=true)
  (av:ev L x=some (.slice a xs.length xs.length)) (aw:ev L y=some (.slice ax ys.length cx)) (ay:ats[0]?=some t) (az:ats[1]?=some t1) (ht:P.underlying t=some (.slice e)) (a0:P.underlying t1=some (.slice e)) (a1:BA P e=some pp.n) (hb:GC P e=some c2) (a2:zeroOf P e=some z) (a3:z.cells.size=pp.n)
  (a4:0<c2) (a5:c2<=64) (Z:Aq pp E a c xs) (a6:Aq pp E ax cx ys) (ac:Aw E H S)
  (h:∀E' ag I,Le E E'->Aq pp E' ag I Y->Aw E' H (S++ [[]])->JL J Q b n (AG L d (.slice ag Y.length I)) ds (Ah ops rest k) cs (Ao E' H (S++ [[]]))):
  JL J Q b n L ds (Ag ops i rest k) cs (Ao E H S):=by
 unfold CK at O;split at O
 rotate_left
 .cases O
 rename_i a7;cases O;let⟨wss,ai,a8,a9,b5⟩:=Aq.Np (H:=H) (B:=S.flatten) Z.full;let⟨bb,be,bg,bi,bn⟩:=Aq.Np (H:=H) (B:=S.flatten) a6;have hlen:(xs++ys).length=xs.length+ys.length:=by simp
 show JL J Q b n L ds (Ag ops i rest k) cs (mk E H S.flatten);refine EH ap hw aq λρ aj=>?_;rw[Od,aj x _ av,aj y _ aw];refine AH _ _ (Va ay az a0 ht a1 hb a2 a3 ac a9 bi bn a4 a7 a5 ?_ ?_)
 .intro hm;have bo:ys=[]:=tg hm;subst bo;have bv:Aw E H (S++ [[]]):=by unfold Aw at*;rw[Gx,s6];exact ac
  have bw:mk E H S.flatten=Ao E H (S++ [[]]):=by unfold Ao;rw[Gx,s6]
  rw[bw];have:=h E a xs.length (BQ _) (by rw[s6];exact Z.full) bv;rw[hlen] at this;exact this
 .intro r K I bx bz b0 b1;have b2:OL e pp E (some ⟨r,0,none⟩) I [(r,.cells K e (0,0))] (xs++ys):=
   ⟨wss++bb,.inr ⟨r,K,rfl,rfl,bz,by rw[hlen];exact bx,by rw[hlen,ug];exact b0.symm⟩,by simp[ai,be],PN ai a8 bg⟩
  have al:=Gb (S:=S) (seg:=[(r,.cells K e (0,0))]) b1;show JL J Q b n _ ds _ cs (mk E H (S.flatten++ [(r,.cells K e (0,0))]));rw[al.1];refine Cl S.length b2 al.2 AM λE' hle b3 am=>?_;have b4:(S++ [[(r,Obj.cells K e (0,0))]]).set S.length []=S++ [[]]:=I2 _ _ _ _;rw[b4] at am ⊢;have:=h E' (some ⟨r,0,none⟩) I hle b3 am;rw[hlen] at this;exact this
end
open Go.ConcN (sumTo sumTo_upd upd upd_ne upd_same)
def OA(P:Program)(R:Value->St->Prop):GP:=λg s=>
 g.status=.running/\∃v,R v s/\∀w,stepG P true g w=.ended (.done v) w #[]
variable {R:Value->St->Prop}
section
variable {b:Frame}
theorem JO.end{fn:Func}{t:Tmp}{v:Value}(I:b.kind=.normal)(hi:P.inits.idxOf? b.fn=none)(K:P.funcs[b.fn]?=some fn)(O:fn.results=#[.tmp t])(U:look L t=some v)(Y:R v s):JO J (OA P R) b n L [] [] s:=λT Z todo=>by
 refine J.stop ⟨rfl,v,Y,λw=>?_⟩
 have e:results fn T=Sem.pure v:=by
  have:=Z.at_ t v U;simp only[results,O,uM];show Sem.pure (T.getD t undef)=_;rw[this]
 have ac:(results fn T).run P w=.ok v w:=by rw[e];rfl
 have e2:(results fn T).events P w #[]=#[]:=by rw[e];simp[Sem.events_pure']
 simp[G,stepG,unwind,FL,K,ac,e2,doReturn,I,GStep.after,hi,seen_none]
end
def After(P:Program)(R:Value->St->Prop)(I:World)(s₀:St)(v:Value)(w':World):Prop:=
 ∃s,R v s/\Fits s w'/\(∀b o,s₀.E b=some o->s.E b=some o)/\w'.tape=I.tape/\HI I.os w'.os/\w'.output=I.output
def UW(P:Program)(R:Value->St->Prop)(I:World)(s₀:St)(K:Nat)(m:Machine)(t:Trace):Prop:=
 ∃gs w sl q Sh g s,m=crowd gs w sl/\IK P gs w t q Sh g s/\OA P R g s/\K=sumTo gs.size q/\(∀b o,s₀.E b=some o->s.E b=some o)/\w.tape=I.tape/\HI I.os w.os/\w.output=I.output
theorem fq{ai:World}{s₀:St}(ap:Nat)(m:Machine)(t:Trace)(h:UW P R ai s₀ ap m t):
  (∃o w ops,stepT P m=(.ended o w,ops)/\Good P (After P R ai s₀) m o w (t++ops))∨(∃m' ops aq,stepT P m=(.next m',ops)/\aq<ap/\UW P R ai s₀ aq m' (t++ops)):=by
 obtain⟨gs,w,sl,q,Sh,g,s,rfl,hC,a8,rfl,av,aw,ay,az⟩:=h;obtain⟨Y,v,a0,a1⟩:=a8;have a9:∀x∈gs,awake x:=by
  intro x O;obtain⟨i,hi,rfl⟩:=wk.1 O;rcases tO i with rfl | aj
  .have:gs[0]=g:=by simpa [tl hi] using hC.main
   rw[this];exact awake_of (.inl Y)
  .exact awake_of ((hC.lv.old i _ aj (tl hi)).status.elim .inl λx=>.inr (.inr x))
 let⟨i,x,d,a2,hi,O,a3⟩:=crowd_pick (P:=P) (w:=w) (sl:=sl) a9 ⟨0,g,hC.main,Y⟩;have a4:=hC.at_ d;have bb:0<gs.size:=(f7.1 hC.main).1;have be:∀(a:Nat) (fn:FuncId) (pos:String),MemOp.ofEvents a fn pos #[]=#[]:=λa fn pos=>by rw[ofEvents_eq];simp
 rcases tO i with rfl | aj
 .obtain rfl:x=g:=by rw[hC.main] at hi;exact(f8 hi).symm
  have Z:=runT_many_ended (P:=P) (sl:=a2) (i:=0) hi (show stepG P (0==0) x (w.at d)=_ from a1 (w.at d));rw[be] at Z;refine .inl ⟨_,_,_,a3.trans Z,v,V,⟨s,a0,a4.CP.fits 0 bb,av,aw,ay,az⟩,?_,?_,⟨λy I=>?_,V⟩,λj y I hj=>?_⟩;simpa using hC.CP.clean;simpa using hC.over;let⟨j,hj⟩:=tj.1 I;rw[vW] at hj;exact⟨_,(hC.lv.old (1+j) y AB (by simpa [crowd] using hj)).leaves⟩;exact have U:=hC.lv.old j y AB I;⟨q j,by simp only[vR];exact U.hears w⟩
 .have U:=hC.lv.old i x aj hi;have bg:(i==0)=false:=by simp;omega
  have a5:i<gs.size:=(f7.1 hi).1;cases al:q i with
  | zero=>rw[al] at U;rw[U.1] at O;cases O
  | succ k=>
   rw[al] at U;rcases U with⟨bi,_⟩ | ⟨_,x',es,hm,bn,bo⟩;rw[bi] at O;cases O
   have bz:sumTo gs.size (upd q i k)+(k+1)=sumTo gs.size q+k:=by
    have:=sumTo_upd q k id a5;simpa [al] using this
   have Z:=runT_crowd_go (P:=P) (sl:=a2) (i:=i) hi (by rw[bg];exact bn (w.at d));have am:((gs.map (woken P x x' (w.at d))).setIfInBounds i x').size=gs.size:=by simp
   have ac:∀op∈MemOp.ofEvents i x.frame.fn x.frame.place es,op.g=i:=λop K=>by obtain⟨e,_,rfl⟩:=mem_ofEvents K;rfl
   have a6:∀op∈MemOp.ofEvents i x.frame.fn x.frame.place es,op.act.touch?=none:=λop K=>by obtain⟨e,he,rfl⟩:=mem_ofEvents K;exact touch_mute (hm e he)
   have bv:IK P ((gs.map (woken P x x' (w.at d))).setIfInBounds i x') (w.at d) (t++MemOp.ofEvents i x.frame.fn x.frame.place es) (upd q i k) Sh g s:=by
    refine⟨?_,⟨λj y hj I=>?_,λj hj=>?_⟩,?_,?_,?_⟩
    .have bw:i≠0:=by omega
     rw[sN bw,uK,hC.main];simp[woken_run Y]
    by_cases ag:i=j;subst ag;rw[sT (by simpa using a5)] at I;obtain rfl:=f8 I;rw[upd_same,Deaf_own];exact bo;rw[sN ag,uK] at I;obtain⟨z,bx,rfl⟩:=tr.1 I;have a7:=hC.lv.old j z hj bx;rw[woken_quitsD a7,upd_ne q k (ti ag),Deaf_other t ag _ ac];exact a7;rw[Deaf_other t (g':=i) (by simp at hj;omega) _ ac];exact hC.lv.above j (by simpa using hj);rw[am];exact a4.CP.mute ac a6 (λop K=>by obtain⟨e,he,rfl⟩:=mem_ofEvents K;exact low_mute (hm e he) _) V;exact handedOver_app hC.over λop K=>.inr (a6 op K);rw[Deaf_other t AB _ ac];exact hC.hears
   exact .inr ⟨_,_,_,a3.trans Z,by rw[← am];rw[am];omega,_,_,_,_,_,_,_,V,bv,⟨Y,v,a0,a1⟩,V,av,aw,ay,az⟩
theorem ends{gs:Array Goroutine}{w:World}{sl:Option (Nat×Nat)}{t:Trace}{q:Nat->Nat}{Sh:Nat->Prop}{g:Goroutine}{s:St}(hC:IK P gs w t q Sh g s)(K:OA P R g s):
  ∃N last o w' I,runNT P (N+1) (crowd gs w sl) t=(.ended o w',I)/\runN P N (crowd gs w sl)=.next last/\step P last=.ended o w'/\Good P (After P R w s) last o w' I:=
 run_of_inv Nat.lt_wfRel.wf (UW P R w s) (Good P (After P R w s)) fq _ _ _ ⟨gs,w,sl,q,Sh,g,s,V,hC,K,V,λ_ _ h=>h,V,.refl _,V⟩
theorem ao{m m':Machine}{t I:Trace}{n:Nat}(h:runNT P n m t=(.next m',I)):runN P n m=.next m':=by rw[← runNT_fst P n m t,h]
def Hg(W:World):St:=⟨λb=>W.heap[b]?,λ_=>none,false⟩
theorem dt{W:World}{g:Goroutine}(h:(H7 P).ok (OA P R) g (Hg W)):
  ∃M last o w' I,runNT P (M+1) (solo g W) #[]=(.ended o w',I)/\runN P M (solo g W)=.next last/\step P last=.ended o w'/\Good P (After P R W (Hg W)) last o w' I:=by
 have hC:IK P #[g] W #[] (λ_=>0) (λ_=>False) g (Hg W):=by
  have U:∀{i:Nat}{a:Touch},touchAt #[] i=some a->False:=λ{i a} h=>by simp[touchAt,Trace.act?] at h
  refine⟨V,leavers_one P g,⟨λi hi=>?_,λi j hi hj a7=>by simp at hi hj;omega,λi hi b hb=>hb.elim,λb hb=>hb.elim,λsaid=>?_,AM,λi _ b _ x a K=>(U K).elim,λi _ b _ x a K=>(U K).elim⟩,λi g hg=>by simp[Trace.g?] at hg,V⟩
  .have:i=0:=by simp at hi;exact hi
   subst this;exact⟨λb o O=>O,λb o O=>(by cases O),λb _=>V⟩
  .rintro⟨i,j,_,⟨a,b,Z,_⟩,_⟩;simp[Trace.act?] at Z
 refine let⟨n,gs',w',ac,I,q',a8,g',s',Y,ag,ai,aj,al,am,ap⟩:=h #[g] W none #[] _ _ hC;let⟨N,last,o,aq,av,k1,aw,ay,az⟩:=ends (sl:=ac) ag ai;⟨n+N,last,o,aq,av,?_,?_,ay,?_⟩;rw[solo_eq_crowd,uS,runNT_add,Y];exact k1;have a0:=ao Y;rw[solo_eq_crowd,runN_add,a0];exact aw;obtain⟨v,e,⟨s2,a1,a2,a3,a4,a5,a6⟩,r⟩:=az;exact⟨v,e,⟨s2,a1,a2,λb o hb=>a3 b o (aj b o hb),a4.trans al,am.trans a5,a6.trans ap⟩,r⟩
end Pal
namespace Pal
open Go Go.Conc
theorem bP{P:Program}{Q:Gs_}{E H:LH}{f:FuncId}{fn:Func}{c:Code}{vs:Lv_}(O:P.funcs[f]?=some fn)(hb:fn.body=some c)(Z:fn.ntmps=fn.ntmps)(ac:vs.length<=fn.ntmps)
  (h:JL (H7 P) Q (base f) fn.ntmps (HD 0 vs) [] [.code c] [] (Ao E H [[]])):(H7 P).ok Q (G (Frame.enter P f vs.toArray .normal) []) (mk E H []):=by
 have he:Frame.enter P f vs.toArray .normal=fr (base f) (vs.toArray++Array.replicate (fn.ntmps - vs.length) undef) [] [.code c]:=by
  simp[Frame.enter,fr,O,hb,base];rfl
 rw[he];have U:mk E H []=Ao E H [[]]:=by unfold Ao;simp
 rw[U];refine h _ ⟨by simp;omega,λt v ht=>?_⟩;let⟨_,I⟩:=Ln ht;have Y:t<vs.length:=by
  rcases mt t vs.length with K | K;exact K;simp at I;have:=(d7.1 I).1;omega
 rw[no,ua (by simpa using Y)];simp at I;simp[I]
open Go.ChangeAt Go.ChangeShapes Go.Proofs Go.Proofs.YteafnffcpbehhaaGreat Go.RowKit Go.WideShapes
theorem Tryz.own:ownKnob Tryz.prog.godebug=none:=by kernel_rfl
theorem Tryz.laidOut:laidOutB Tryz.prog=true:=by kernel_rfl
theorem Tryz.Yq:Tryz.prog.cellsOf 3=1:=by kernel_rfl
theorem Tryz.iA:Tryz.prog.cellsOf 28=1:=by kernel_rfl
theorem Tryz.gU:Tryz.prog.cellsOf 22=1:=by kernel_rfl
theorem Tryz.fF:Tryz.prog.cellsOf 23=1:=by kernel_rfl
theorem Tryz.gV:Tryz.prog.cellsOf 25=2:=by kernel_rfl
theorem Tryz.Xn:Tryz.prog.cellsOf 27=3:=by kernel_rfl
variable{v:Value}
theorem Z1{R:Value->St->Prop}{W w':World}(h:After Tryz.prog R W (Hg W) v w'):(∃s,R v s)/\Below W.heap.size W {w' with os:=W.os}/\Go.ConcM.OsLater W.os w'.os:=by
 obtain⟨s,U,Y,Z,ht,ac,ag⟩:=h;have hb:∀k,k<W.heap.size->w'.heap[k]?=W.heap[k]? :=λk K=>by
  have I:(Hg W).E k=some W.heap[k]:=tl K;have O:=Y.e k _ (Z k _ I);rw[O,tl K]
 refine⟨⟨s,U⟩,⟨V,ht,ag,?_,hb⟩,ac⟩;show W.heap.size<=w'.heap.size;rcases tO W.heap.size with ai | ai;omega;have I:=hb (W.heap.size - 1) AB;have aj:W.heap[W.heap.size - 1]?=some W.heap[W.heap.size - 1]:=tl AB;rw[aj] at I;have O:=(f7.1 I).1;omega
theorem V6(a:Addr):a.add 0=a:=by unfold Addr.add;rw[d9 rfl]
variable {H:Type}{enc:TypeId×Value->H}{W:World}{cs:Lv_}
variable{b c2 off:Nat}{p:List MemPlace}
section
variable {fuel:Nat}{x:DataW H×List MemPlace}
theorem ei(h:W.cell? ⟨b,off,none⟩=some v):At (Hg W).E b off [v]:=by
 unfold World.cell? at h;split at h
 .rename_i c e f hW;simp only[vv,s5,tP] at h;refine⟨c,e,f,hW,λj w hj=>?_⟩
  match j,hj with
  | 0,hj=>simp at hj;subst hj;simpa using h
  | j+1,hj=>simp at hj
 .cases h
theorem cq(K:0<cs.length)(h:∀j,j<cs.length->W.cell? ⟨b,off+j,none⟩=cs[j]?):At (Hg W).E b off cs:=by
 have O:=h 0 K;rw[bZ K] at O;let⟨f,e,fr,U,_⟩:=ei O;have hW:W.heap[b]?=some (.cells f e fr):=U;refine⟨f,e,fr,U,λj w hj=>?_⟩;have Y:=(d7.1 hj).1;have I:=h j Y;rw[hj] at I;unfold World.cell? at I;simp only[hW] at I;simpa using I
theorem Um{α:Type}{p:Rp α}{t e:TypeId}(ht:Tryz.prog.underlying t=some (.slice e))(aw:Tryz.prog.cellsOf e=p.n)(ay:0<p.n)
  (az:∀n cs x,DataW.trod enc Tryz.prog W 0 (λ_=>true) true n e cs=some x->∃v,p.r (Hg W).E cs v)
  (a0:DataW.trod enc Tryz.prog W 0 (λ_=>true) true fuel t cs=some x):∃(a:Option Addr) (c:Nat) (aj:List α),cs=[.slice a aj.length c]/\Aq p (Hg W).E a c aj:=by
 rcases DataW.trod_slice ht a0 with⟨Z,a1⟩ | ⟨a,len,cap,elems,rest,n,_,Z,a1,_,a2,_,hlen,al,am,_⟩;exact⟨none,0,[],Z,Ba⟩
 .rw [aw] at al am;rcases tO cap with ap | ap
  .have:len=0:=by omega
   subst this;subst ap;exact⟨some a,0,[],Z,jK _,.inl ⟨V,λ_ _=>.inr V⟩⟩
  .have aq:∀i,i<len->∃vs y,vs.length=p.n/\(∀j,j<p.n->W.cell? ((a.add (i*p.n)).add j)=vs[j]?)/\DataW.trod enc Tryz.prog W 0 (λ_=>true) true n e vs=some y:=λi hi=>by
    have I:=al i hi;rw[bZ AB] at I;let⟨vs,ag,U⟩:=uD.1 I;let⟨_,K,ai⟩:=World.cells?_some ag;exact⟨vs,_,K,ai,U⟩
   have hs:a.spot=none:=by
    have key:∀vs:Lv_,vs.length=p.n->(∀j,j<p.n->W.cell? ((a.add (0*p.n)).add j)=vs[j]?)->a.spot=none:=λvs ac O=>by
     have:=O 0 ay;rw[bZ AB,V6,u0,V6] at this;exact World.cell?_spot this
    rcases tO len with I | I;let⟨ag,U⟩:=am V;have K:=U 0 AB;rw[bZ AB] at K;let⟨vs,ai,_⟩:=uD.1 K;let⟨_,ac,O⟩:=World.cells?_some ai;rw[I] at O;exact key vs ac O;let⟨vs,y,ac,O,_⟩:=aq 0 I;exact key vs ac O
   have av:∀i:Fin len,∃z:α,∃vs,p.r (Hg W).E vs z/\At (Hg W).E a.block (a.off+i*p.n) vs:=λi=>by
    refine let⟨vs,y,ag,U,K⟩:=aq i i.2;let⟨z,Y⟩:=az _ _ _ K;⟨z,vs,Y,cq AB λj hj=>?_⟩;have:=U j AB;rw[EO hs,EO rfl] at this;exact this
   refine⟨some a,cap,List.ofFn λi=>Classical.choose (av i),by simpa using Z,by simpa using a2,.inr ⟨a.block,a.off,?_,λi z Y=>?_⟩⟩;obtain⟨b,o,s⟩:=a;simp only at hs;subst hs;rfl
   .have hi:i<len:=by have:=(d7.1 Y).1;simpa using this
    simp[hi] at Y;have:=uh (av ⟨i,hi⟩);rw[Y] at this;exact this
abbrev BT:=@Go.Proofs.Tryz.underlying3
theorem QO(h:DataW.trod enc Tryz.prog W 0 (λ_=>true) true fuel 3 cs=some x):∃z:Int,cs=[iV z]:=by
 let⟨n1,I,_⟩:=DataW.trod_int BT h;exact⟨n1,I⟩
abbrev Ak:=@Go.Proofs.Tryz.underlying28
theorem W4(K:DataW.trod enc Tryz.prog W 0 (λ_=>true) true fuel 28 cs=some x):∃(a:Option Addr) (c:Nat) (I:List Int),cs=[.slice a I.length c]/\Aq rI (Hg W).E a c I:=
 Um (p:=rI) Ak Tryz.Yq Nat.one_pos (λn cs x h=>by
  obtain⟨z,rfl⟩:=QO h
  exact⟨z,rfl⟩) K
abbrev Ar:=@Go.Proofs.Tryz.underlying22
theorem fb(K:DataW.trod enc Tryz.prog W 0 (λ_=>true) true fuel 22 cs=some x):∃(a:Option Addr) (c:Nat) (I:List (List Int)),cs=[.slice a I.length c]/\Aq (rL rI) (Hg W).E a c I:=
 Um (p:=rL rI) Ar Tryz.iA Nat.one_pos (λn cs x h=>by
  let⟨a,c,I,e,g⟩:=W4 h
  exact⟨I,a,c,e,g⟩) K
abbrev An:=@Go.Proofs.Tryz.underlying27
theorem We(h:DataW.trod enc Tryz.prog W 0 (λ_=>true) true fuel 27 cs=some x):∃v:Int×Int×Int,cs=[iV v.1,iV v.2.1,iV v.2.2]:=by
 let⟨y0,y1,y2,n,_,O,U,Y,Z⟩:=Go.Deep.trod_struct3 An h;let⟨n1,I⟩:=QO U;let⟨n2,e2⟩:=QO Y;let⟨ac,K⟩:=QO Z;rw[Tryz.Xn] at O;rw[Pal.Tryz.Yq] at I e2 K;refine⟨(n1,n2,ac),?_⟩
 match cs,O with
 | [u,w,z],_=>simp at I e2 K;rw[I,e2,K]
abbrev Am:=@Go.Proofs.Tryz.underlying23
theorem cV(K:DataW.trod enc Tryz.prog W 0 (λ_=>true) true fuel 23 cs=some x):∃(a:Option Addr) (c:Nat) (I:List (Int×Int×Int)),cs=[.slice a I.length c]/\Aq (rP rI (rP rI rI)) (Hg W).E a c I:=
 Um (p:=rP rI (rP rI rI)) Am Tryz.Xn AD (λn cs x h=>by
  obtain⟨v,rfl⟩:=We h
  exact⟨v,[iV v.1],[iV v.2.1,iV v.2.2],rfl,rfl,[iV v.2.1],[iV v.2.2],rfl,rfl,rfl⟩) K
abbrev A0:=@Go.Proofs.Tryz.underlying25
theorem bQ{sz:Nat}{d:DataW H}(Y:Value.okWide Tryz.prog W .any sz 25 v)(hd:DataW.Trod enc Tryz.prog W 0 (λ_=>true) true 25 v d p):
  ∃(a1:Option Addr) (c1:Nat) (I:Option Addr) (c2:Nat) (o:List (List Int)×List (Int×Int×Int)),v=.agg #[.slice a1 o.1.length c1,.slice I o.2.length c2]/\Aq (rL rI) (Hg W).E a1 c1 o.1/\Aq (rP rI (rP rI rI)) (Hg W).E I c2 o.2:=by
 obtain⟨cs,rfl,O⟩:=okWide_struct A0 Y;obtain⟨fuel,Z⟩:=hd;refine let⟨y0,y1,n,_,aj,ac,ag⟩:=trod_struct2 A0 Z;let⟨a1,c1,z1,K,g1⟩:=fb ac;let⟨I,c2,ai,e2,g2⟩:=cV ag;⟨a1,c1,I,c2,(z1,ai),?_,g1,g2⟩;rw[Tryz.gU] at K;rw[Tryz.gV] at O;rw[Tryz.fF] at e2;simp only[Value.cells,wD] at K e2;obtain⟨l⟩:=cs
 match l,O with
 | [u,w],_=>
  simp at K e2;rw[K,e2]
theorem dy{d:DataW H}(O:Value.okWide Tryz.prog W .any c2 28 v)(hd:DataW.Trod enc Tryz.prog W 0 (λ_=>true) true 28 v d p):
  ∃(a:Option Addr) (c:Nat) (I:List Int),v=.slice a I.length c/\Aq rI (Hg W).E a c I:=by
 obtain⟨Y,len,cap,rfl⟩:=okWide_slice Ak O;obtain⟨fuel,U⟩:=hd;let⟨a,c,I,e,g⟩:=W4 U;simp[Value.cells] at e;obtain⟨rfl,rfl,rfl⟩:=e;exact⟨_,_,_,V,g⟩
theorem dg{d:DataW H}(K:Value.okWide Tryz.prog W .any c2 27 v)(hd:DataW.Trod enc Tryz.prog W 0 (λ_=>true) true 27 v d p):∃l:Int×Int×Int,v=.agg #[iV l.1,iV l.2.1,iV l.2.2]:=by
 obtain⟨cs,rfl,U⟩:=okWide_struct An K;obtain⟨fuel,O⟩:=hd;let⟨l,e⟩:=We O;simp only[Value.cells] at e;refine⟨l,?_⟩;obtain⟨k⟩:=cs;simp only at e;rw[e]
end
end Pal
namespace Pal
open Go Go.Conc
theorem oi{α:Type}{a b:α}(h:some a=some b):a=b:=f8 h
variable{β:Type}
theorem bs{α:Type}{o:Option α}{f:α->Option β}{r:β}(h:o.bind f=some r):∃x,o=some x/\f x=some r:=bind_some h
theorem Ai{α:Type}{o:Option α}{f:α->Option β}{r:β}{M:Prop}(h:o.bind f=some r)(k:∀x,o=some x->f x=some r->M):M:=let⟨x,a,b⟩:=bs h;k x a b
def JJ(L:Env):Env->List (Option Value)
 | []=>[]
 | (t,_)::L'=>look L t::JJ L L'
def JV:Env->List (Option Value)
 | []=>[]
 | (_,v)::L'=>some v::JV L'
theorem Rg{L:Env}:∀{L':Env},JJ L L'=JV L'->Sub L' L
 | [],_=>trivial
 | (t,v)::L',h=>by
  simp only[JJ,JV,vx] at h
  exact⟨h.1,Rg h.2⟩
variable {P:Program}{J:Judge P}{Q:Gs_}{n:Nat}{L L':Env}{ds:Ld_}{k k':Li_}{cs:Lf_}{s:St}{ops:Ao_}{rest:List Nat}{v:Value}
variable {d:Option Tmp}{op:Op}{ty:TypeId}{p:String}{af:Ae_}{g:On_}
variable {m:Nat}{D:Nat->Bool}
variable{fn:Func}{vs:Lv_}{R:Value->LH->Seg->Prop}
section
variable {b:Frame}{i:Nat}
theorem FC(L':Env)(h:JJ L L'=JV L')(k':JL J Q b n L' ds k cs s):JL J Q b n L ds k cs s:=EU (Rg h) k'
theorem AF(k':JL J Q b n L' ds k cs s)(h:JJ L L'=JV L'):JL J Q b n L ds k cs s:=EU (Rg h) k'
def F9(b:Frame)(n:Nat)(L:Env)(ops:Ao_)(i:Nat):Option Oper:=
 match K9 ops.toList i with
 | some ⟨d,op,ty,p,af,g⟩=>match A9 L ops ⟨d,op,ty,p,af,g⟩ with
  | some true=>match Cd b n ⟨d,op,ty,p,af,g⟩ with
   | true=>some ⟨d,op,ty,p,af,g⟩
   | false=>none
  | _=>none
 | none=>none
theorem Mf{o:Oper}(h:F9 b n L ops i=some o):ops[i]?=some o/\A9 L ops o=some true/\Cd b n o=true:=by
 unfold F9 at h;split at h;rename_i I;rw[Nq,tN] at I;split at h;rename_i hw;split at h;rename_i K;cases h;exact⟨I,hw,K⟩;cases h;cases h;cases h
theorem As(I:F9 b n L ops i=some ⟨d,op,ty,p,af,g⟩)(h:∀ρ,FV L ρ->Yl P ⟨d,op,ty,p,af,g⟩ ρ s v)(K:JL J Q b n (AG L d v) ds (Ah ops rest k) cs s):
  JL J Q b n L ds (Ag ops i rest k) cs s:=
 let ⟨O,U,Y⟩:=Mf I
 Bv O U Y h K
theorem Ub{f:FuncId}{c:Code}{E:LH}{B:Seg}(K:P.funcs[f]?=some fn)(hb:fn.body=some c)(O:Nat.ble vs.length fn.ntmps=true)
  (h:∀(Q:Gs_) (I:Frame) (cs:Lf_) (H:LH),Aw E H [B]->(∀v E' S' B',Le E E'->S'.flatten=B'->R v E' B'->Aw E' H S'->J.ok Q (G (I.finish v) cs) (Ao E' H S'))->JL J Q (base f) fn.ntmps (HD 0 vs) [] [.code c] (I::cs) (Ao E H [B])):A2 J f vs E B R:=
 A2.enter K hb (sZ O) h
def Sf(n:Nat)(L:Env)(ops:Ao_)(i:Nat):Option Env:=
 match K9 ops.toList i with
 | some ⟨d,op,ty,p,af,g⟩=>match A9 L ops ⟨d,op,ty,p,af,g⟩ with
  | some true=>match BC n d with
   | true=>match MJ L op with
    | some v=>match d with
     | some d=>some ((d,v)::L)
     | none=>some L
    | none=>none
   | false=>none
  | some false=>match BC n d with
   | true=>match d with
    | some d=>some ((d,undef)::L)
    | none=>some L
   | false=>none
  | none=>none
 | none=>none
def GB(n:Nat)(L:Env)(ops:Ao_)(i:Nat):Option Oper:=
 match K9 ops.toList i with
 | some ⟨d,op,ty,p,af,g⟩=>match A9 L ops ⟨d,op,ty,p,af,g⟩ with
  | some true=>match BC n d with
   | true=>some ⟨d,op,ty,p,af,g⟩
   | false=>none
  | _=>none
 | none=>none
theorem S4{o:Oper}(h:GB n L ops i=some o):ops[i]?=some o/\A9 L ops o=some true/\BC n o.dst=true:=by
 unfold GB at h;split at h;rename_i I;rw[Nq,tN] at I;split at h;rename_i hw;split at h;rename_i K;cases h;exact⟨I,hw,K⟩;cases h;cases h;cases h
theorem eF(h:Sf n L ops i=some L'):∃o,ops[i]?=some o/\BC n o.dst=true/\((∃v,A9 L ops o=some true/\MJ L o.op=some v/\L'=AG L o.dst v)∨(A9 L ops o=some false/\L'=AG L o.dst undef)):=by
 unfold Sf at h;split at h
 .rename_i d op ty p af g K;rw[Nq,tN] at K;refine⟨_,K,?_⟩;split at h
  .rename_i hw;split at h
   .rename_i I;refine⟨I,.inl ?_⟩;split at h
    .rename_i v O;refine⟨v,hw,O,?_⟩;cases d with
     | none=>cases h;rfl
     | some d=>cases h;rfl
    .cases h
   .cases h
  .rename_i hw;split at h
   .rename_i I;refine⟨I,.inr ⟨hw,?_⟩⟩;cases d with
    | none=>cases h;rfl
    | some d=>cases h;rfl
   .cases h
  .cases h
 .cases h
variable {fuel:Nat}{listed:Array Bool}
theorem Db(i:Nat)(I:Fg ops m=true)(K:s.q=false)(h:Sf n L ops i=some L')
  (O:AU J Q b n ds ops k cs m D fuel (Bp listed i) L' s) (U:He ops listed m i=true:=by decide+kernel):AU J Q b n ds ops k cs m D (fuel+1) listed L s:=by
 obtain⟨o,Y,Z,⟨v,hw,ac,rfl⟩ | ⟨hw,rfl⟩⟩:=eF h;exact IP i Y I U K hw Z (λρ ag s' _=>QD ag ac) O;exact lU i Y I U K hw Z O
theorem Bj(i:Nat)(I:Fg ops m=true)(K:s.q=false)(O:GB n L ops i=some ⟨d,op,ty,p,af,g⟩)
  (U:∀ρ,FV L ρ->∀s':St,(∀x o,(BK D s).E x=some o->s'.E x=some o)->Yl P ⟨d,op,ty,p,af,g⟩ ρ s' v)
  (Y:AU J Q b n ds ops k cs m D fuel (Bp listed i) (AG L d v) s) (Z:He ops listed m i=true:=by decide+kernel):AU J Q b n ds ops k cs m D (fuel+1) listed L s:=by
 let⟨ac,ag,ai⟩:=S4 O;exact IP i ac I Z K ag ai U Y
end
abbrev Jn(E H E':LH)(S:List Seg)(I L:Env)(s:St)(R:Prop):Prop:=L=I/\s=Ao E' H S/\Le E E'/\Aw E' H S/\R
abbrev Jm(E H E':LH)(S:List Seg)(I L:Env)(s:St):Prop:=L=I/\s=Ao E' H S/\Le E E'/\Aw E' H S
def R7(L:Env):List ResultVar->Option (Lv_)
 | []=>some []
 | .tmp t::rs=>match look L t with
  | some v=>match R7 L rs with
   | some vs=>some (v::vs)
   | none=>none
  | none=>none
 | _=>none
theorem XH{P:Program}{L:Env}{s:St}:∀{rs:List ResultVar}{vs:Lv_},R7 L rs=some vs->RV P L s rs vs
 | [],vs,h=>by cases h;trivial
 | .tmp t::rs,vs,h=>by
  unfold R7 at h
  split at h
  .rename_i v I
   split at h;rename_i ws hw;cases h;exact⟨I,XH hw⟩;cases h
  .cases h
 | .cell _ _::_,_,h=>by cases h
variable {E H:LH}{S:List Seg}
variable {t ft:TypeId}
variable{args:Array Operand}{ats:Array TypeId}{seg:Seg}{p1:Int}{O off sz:Nat}{K:Array Field}
section
variable {b:Frame}{i:Nat}
variable {x y:Operand}{e:TypeId}
theorem AX{c:Frame}(K:P.funcs[b.fn]?=some fn)(I:(b.kind== .normal&&b.roundOf.isNone)=true)(O:R7 L fn.results.toList=some vs)(h:J.ok Q (G (c.finish (QL vs)) cs) s):JL J Q b n L [] (.code .ret::k) (c::cs) s:=by
 simp only[f6,uI,Option.isNone_iff_eq_none] at I;exact CT I.1 I.2 (Bm K V (XH O)) h
theorem Cb{f:FuncId}
  (K:A2 J f vs E [] R) (O:F9 b n L ops i=some ⟨d,.call ⟨.value (.func f),args,ats⟩,ty,p,af,g⟩) (U:evs L args.toList=some vs) (hb:ET P f=true)
  (Y:Aw E H S) (Z:∀v E' seg',Le E E'->R v E' seg'->Aw E' H (S++ [seg'])->JL J Q b n (AG L d v) ds (Ah ops rest k) cs (Ao E' H (S++ [seg']))):
  JL J Q b n L ds (Ag ops i rest k) cs (Ao E H S):=by
 refine let⟨ac,ag,I⟩:=Mf O;JS.call K ac ag ?_ hb U Y Z;simp only[Cd,f6] at I ⊢;exact⟨I.1,I.2.1⟩
theorem Cs{f:FuncId}{v:Value}
  (K:A2 J f vs E [] (λw E' B'=>w=v/\B'=[])) (O:F9 b n L ops i=some ⟨d,.call ⟨.value (.func f),args,ats⟩,ty,p,af,g⟩) (U:evs L args.toList=some vs) (hb:ET P f=true)
  (I:Aw E H S) (Y:∀E',Le E E'->Aw E' H (S++ [[]])->JL J Q b n (AG L d v) ds (Ah ops rest k) cs (Ao E' H (S++ [[]]))):
  JL J Q b n L ds (Ag ops i rest k) cs (Ao E H S):=Cb K O U hb I (by rintro _ E' _ hle ⟨rfl,rfl⟩ I;exact Y E' hle I)
theorem CO{f:FuncId}(j:Nat)
  (K:A2 J f vs E seg R) (O:F9 b n L ops i=some ⟨d,.call ⟨.value (.func f),args,ats⟩,ty,p,af,g⟩) (U:evs L args.toList=some vs) (hb:ET P f=true)
  (Y:Aw E H S) (Z:S[j]?=some seg) (ac:∀v E' seg',Le E E'->R v E' seg'->Aw E' H (S.set j seg')->JL J Q b n (AG L d v) ds (Ah ops rest k) cs (Ao E' H (S.set j seg'))):
  JL J Q b n L ds (Ag ops i rest k) cs (Ao E H S):=by
 refine let⟨ag,ai,I⟩:=Mf O;Wt j K ag ai ?_ hb U Y Z ac;simp only[Cd,f6] at I ⊢;exact⟨I.1,I.2.1⟩
def OO(I:Array Field)(i:Nat):Option (Nat×TypeId):=match I[i]? with
 | some f=>some (f.offset,f.type)
 | none=>none
theorem Br{r m:Int}{u:TypeId}(h:Ax (m+p1)=some r)(I:F9 b n L ops i=some ⟨d,.binOp .add t x y u,ty,p,af,g⟩)(K:ev L x=some (iV m))(O:ev L y=some (iV p1))
  (U:JL J Q b n (AG L d (iV r)) ds (Ah ops rest k) cs s):JL J Q b n L ds (Ag ops i rest k) cs s:=As I (λ_ q=>El (q _ _ K) (q _ _ O) h) U
theorem B9{r m:Int}{u:TypeId}(h:Ax (m - p1)=some r)(I:F9 b n L ops i=some ⟨d,.binOp .sub t x y u,ty,p,af,g⟩)(K:ev L x=some (iV m))(O:ev L y=some (iV p1))
  (U:JL J Q b n (AG L d (iV r)) ds (Ah ops rest k) cs s):JL J Q b n L ds (Ag ops i rest k) cs s:=As I (λ_ q=>Ep (q _ _ K) (q _ _ O) h) U
theorem JL.ln{a:Option Addr}{e:TypeId}{l c:Nat}(ht:P.underlying t=some (.slice e))(I:F9 b n L ops i=some ⟨d,.call ⟨.builtin .len,#[x],ats⟩,ty,p,af,g⟩)(K:ats[0]?=some t)(O:ev L x=some (.slice a l c))
  (U:JL J Q b n (AG L d (.int .i64 l)) ds (Ah ops rest k) cs s):JL J Q b n L ds (Ag ops i rest k) cs s:=As I (λ_ q=>Fo K ht (q _ _ O)) U
abbrev BB:=@JL.ln
theorem JL.fd{bk o:Nat}(ht:P.underlying t=some (.struct K))(U:BA P ft=some (sz+1))(Y:F9 b n L ops i=some ⟨d,.fieldAddr t x O,ty,p,af,g⟩)(Z:ev L x=some (.pointer (some ⟨bk,o,none⟩)))(I:OO K O=some (off,ft))
  (ac:JL J Q b n (AG L d (.pointer (some ⟨bk,o+off,none⟩))) ds (Ah ops rest k) cs s):
  JL J Q b n L ds (Ag ops i rest k) cs s:=by
 unfold OO at I;split at I;rename_i f ag;cases I;refine As Y (λ_ h=>Gm (a:=⟨bk,o,none⟩) sz f.offset ht U ag V V (h _ _ Z)) ?_;rw[EO rfl];exact ac;cases I
abbrev Cf:=@JL.fd
theorem CX{bk o:Nat}{ws:Lv_}(j:Nat)(I:At E bk o ws)(ht:DD P t=some false)(K:F9 b n L ops i=some ⟨d,.load t x,ty,p,af,g⟩)(O:ev L x=some (.pointer (some ⟨bk,o+j,none⟩)))(U:ws[j]?=some v)
  (Y:JL J Q b n (AG L d v) ds (Ah ops rest k) cs (Ao E H S)):
  JL J Q b n L ds (Ag ops i rest k) cs (Ao E H S):=
 As K (λ_ h=>Az ht (h _ _ O) (HM I U)) Y
theorem Y5{bk:Nat}{c:Av_}(j:Nat)(I:Aw E H S)(K:BA P t=some v.cells.size)(O:F9 b n L ops i=some ⟨d,.store t x y,ty,p,af,g⟩)
  (U:ev L x=some (.pointer (some ⟨bk,off,none⟩))) (Y:ev L y=some v) (Z:S[j]?=some [(bk,.cells c e (0,0))])
  (h:Aw E H (S.set j [(bk,.cells (Be c off v.cells.toList) e (0,0))])->JL J Q b n (AG L d undef) ds (Ah ops rest k) cs (Ao E H (S.set j [(bk,.cells (Be c off v.cells.toList) e (0,0))])))
  (hle:off+v.cells.size<=c.size:=by exact sZ rfl) (ac:∀u∈v.cells.toList,Dz u=true:=by simp[Value.cells,Dz]):
  JL J Q b n L ds (Ag ops i rest k) cs (Ao E H S):=by
 let⟨ag,ai,aj⟩:=Mf O;exact FI j ag ai aj I U Y K ac Z hle h
theorem Ch{bk o:Nat}{ws:Lv_}(I:At E bk o ws)(ht:DD P t=some true)(K:BA P t=some ws.length)(O:F9 b n L ops i=some ⟨d,.load t x,ty,p,af,g⟩)(U:ev L x=some (.pointer (some ⟨bk,o,none⟩)))
  (Y:JL J Q b n (AG L d (.agg ws.toArray)) ds (Ah ops rest k) cs (Ao E H S)):
  JL J Q b n L ds (Ag ops i rest k) cs (Ao E H S):=
 As O (λ_ h=>I1 ht K (h _ _ U) (At.Uj I)) Y
variable {fuel:Nat}{listed:Array Bool}
theorem JG.fd{bk o:Nat}(i:Nat)(U:Fg ops m=true)(ht:P.underlying t=some (.struct K))(Y:BA P ft=some (sz+1))(Z:s.q=false)(ac:GB n L ops i=some ⟨d,.fieldAddr t x O,ty,p,af,g⟩)(ag:ev L x=some (.pointer (some ⟨bk,o,none⟩)))(I:OO K O=some (off,ft))
  (ai:AU J Q b n ds ops k cs m D fuel (Bp listed i) (AG L d (.pointer (some ⟨bk,o+off,none⟩))) s) (aj:He ops listed m i=true:=by decide+kernel):AU J Q b n ds ops k cs m D (fuel+1) listed L s:=by
 unfold OO at I;split at I;rename_i f al;cases I;refine Bj i U Z ac (λρ h _ _=>Gm (a:=⟨bk,o,none⟩) sz f.offset ht Y al V V (h _ _ ag)) ?_ aj;rw[EO rfl];exact ai;cases I
abbrev Cz:=@JG.fd
theorem Ec{bk o:Nat}{ws:Lv_}(i:Nat)(I:Fg ops m=true)(j:Nat)(K:At (BK D s).E bk o ws)(ht:DD P t=some false)(O:s.q=false)(U:GB n L ops i=some ⟨d,.load t x,ty,p,af,g⟩)(Y:ev L x=some (.pointer (some ⟨bk,o+j,none⟩)))(Z:ws[j]?=some v)
  (ac:AU J Q b n ds ops k cs m D fuel (Bp listed i) (AG L d v) s) (ag:He ops listed m i=true:=by decide+kernel):AU J Q b n ds ops k cs m D (fuel+1) listed L s:=
 Bj i I O U (λ_ h _ hs=>Az ht (h _ _ Y) (Eh K hs Z)) ac ag
theorem GA{bk o:Nat}{ws:Lv_}(i:Nat)(I:Fg ops m=true)(K:At (BK D s).E bk o ws)(ht:DD P t=some true)(O:BA P t=some ws.length)(U:s.q=false)(Y:GB n L ops i=some ⟨d,.load t x,ty,p,af,g⟩)(Z:ev L x=some (.pointer (some ⟨bk,o,none⟩)))
  (ac:AU J Q b n ds ops k cs m D fuel (Bp listed i) (AG L d (.agg ws.toArray)) s) (ag:He ops listed m i=true:=by decide+kernel):AU J Q b n ds ops k cs m D (fuel+1) listed L s:=
 Bj i I U Y (λ_ h _ hs=>I1 ht O (h _ _ Z) (At.jf K hs)) ac ag
end
abbrev U0:=Int×List Int×Nat
abbrev AQ:=List (Int×Int)
abbrev Dh:=List Int×Int×Nat
abbrev Av:=Option Addr
abbrev De:Rp (Int×Int):=rP rI rI
theorem ip{α:Type}{p:Prop} [Decidable p] {A B:Option α}{r:α}(h:(if p then A else B)=some r)(c:p):A=some r:=by rwa[d9 c] at h
theorem im{α:Type}{p:Prop} [Decidable p] {A B:Option α}{r:α}(h:(if p then A else B)=some r)(c:¬p):B=some r:=by rwa[d0 c] at h
theorem ib{α:Type}{c:Bool}{A B:Option α}{r:α}(h:(if c=true then A else B)=some r)(I:c=false):B=some r:=by subst I;simpa using h
def UT(n:Nat)(ops:Ao_):List Nat->Nat->Env->Option (Nat×Env)
 | [],f,L=>some (f,L)
 | i::l,f+1,L=>match Sf n L ops i with
  | some L'=>UT n ops l f L'
  | none=>none
 | _::_,0,_=>none
def UM(ops:Ao_)(m:Nat):Array Bool->List Nat->Bool
 | _,[]=>true
 | listed,i::l=>He ops listed m i&&UM ops m (Bp listed i) l
def Uv:Array Bool->List Nat->Array Bool
 | listed,[]=>listed
 | listed,i::l=>Uv (Bp listed i) l
theorem AY{P:Program}{J:Judge P}{Q:Gs_}{b:Frame}{n:Nat}{ds:Ld_}{k:Li_}{cs:Lf_}{s:St}{ops:Ao_}{m:Nat}{D:Nat->Bool}{L':Env}{O:Nat}(U:Fg ops m=true)(Y:s.q=false):
  ∀(l:List Nat) {fuel:Nat}{listed:Array Bool}{L:Env},UT n ops l fuel L=some (O,L')->AU J Q b n ds ops k cs m D O (Uv listed l) L' s->(I:UM ops m listed l=true:=by decide+kernel)->AU J Q b n ds ops k cs m D fuel listed L s
 | [],fuel,listed,L,h,K,_=>by cases h;exact K
 | i::l,fuel,listed,L,h,K,I=>by
  cases fuel with
  | zero=>cases h
  | succ fuel=>
   unfold UM at I;rw[f6] at I;unfold UT at h;split at h;rename_i Z e;exact Db i U Y e (AY U Y l h K I.2) I.1;cases h
theorem zg{P:Program}{J:Judge P}{Q:Gs_}{b:Frame}{n:Nat}{L L':Env}{ds:Ld_}{k k':Li_}{cs:Lf_}{s:St}(m:Nat)(h:Q8 b n m k L=some (k',L'))(I:JL J Q b n L' ds k' cs s):JL J Q b n L ds k cs s:=BH m h I
abbrev C:=@zg
abbrev bX(r:Nat)(c:Av_)(t:TypeId):Seg:=[(r,.cells c t (0,0))]
variable {α:Type}{A B:Option α}{r:α}
section
variable {b:Frame}
theorem AW{c:Operand}{x y:Code}{p:Prop} [Decidable p] (I:(if p then A else B)=some r)(K:p->A=some r->JL J Q b n L ds (.code x::k) cs s)(O:¬p->B=some r->JL J Q b n L ds (.code y::k) cs s)
  (U:ev L c=some (.bool (decide p)):=by exact rfl):JL J Q b n L ds (.code (.cond c x y)::k) cs s:=HC U (λh=>K h (ip I h)) λh=>O h (im I h)
theorem Co{c:Operand}{x y:Code}{t:Bool}(I:(if t=true then A else B)=some r)(K:t=true->A=some r->JL J Q b n L ds (.code x::k) cs s)(O:t=false->B=some r->JL J Q b n L ds (.code y::k) cs s)
  (U:ev L c=some (.bool t):=by exact rfl):JL J Q b n L ds (.code (.cond c x y)::k) cs s:=To U (λh=>K h (ip I h)) λh=>O h (ib I h)
theorem Hb{q:Prop} [Decidable q] (i:Nat)(I:(if q then A else B)=some r)(K:q->A=some r->JL J Q b n (AG L (some i) (.bool true)) ds k cs s)(O:¬q->B=some r->JL J Q b n (AG L (some i) (.bool false)) ds k cs s)
  (U:look L i=some (.bool (decide q)):=by exact rfl):JL J Q b n L ds k cs s:=Ok U (λh=>K h (ip I h)) λh=>O h (im I h)
theorem FX{t:Bool}(i:Nat)(I:(if t=true then A else B)=some r)(K:t=true->A=some r->JL J Q b n (AG L (some i) (.bool true)) ds k cs s)(O:t=false->B=some r->JL J Q b n (AG L (some i) (.bool false)) ds k cs s)
  (U:look L i=some (.bool t):=by exact rfl):JL J Q b n L ds k cs s:=Me U (λh=>K h (ip I h)) λh=>O h (ib I h)
theorem Cm{O:Type}{c:Code}{body:β->Option (Bn β O)}{f:Nat}{U:β}{a:O}(Z:iter body f U=some a)(K:Env->St->β->Prop)(ac:K L' s U)
  (round:∀L s x,K L s x->(∀Y,body x=some (.done Y)->Y=a)->(∃st,body x=some st)->(∀L' s' x',K L' s' x'->body x=some (.more x')->JL J Q b n L' ds (.inLoop c::k) cs s')->JL J Q b n L ds (.code c:: .inLoop c::k) cs s)
  (ag:JJ L L'=JV L':=by exact rfl):JL J Q b n L ds (.code (.loop c)::k) cs s:=FC L' ag (W2 Z K ac round)
variable {fuel:Nat}{listed:Array Bool}
def Rx(ops:Ao_):Array Bool->List Nat->Bool
 | _,[]=>true
 | l,i::t=>Region.ready .any ops l== [i]&&Rx ops (Bp l i) t
theorem Xo:∀{t:List Nat}{l:Array Bool},Rx ops l t=true->∀u,Region.linearise.go .any ops t.length u l []=t
 | [],_,_,_=>rfl
 | i::t,l,h,u=>by
  unfold Rx at h
  rw[f6,uI] at h
  exact j2 h.1 (Xo h.2) u
theorem CJ(t:List Nat)(K:JL J Q b n L ds (.inRegion ops t::k) cs s)(I:(UO m listed&&Rx ops listed t&&(fuel+1==t.length))=true:=by decide+kernel):AU J Q b n ds ops k cs m D (fuel+1) listed L s:=by
 rw[f6,f6,uI] at I;exact AU.leaf I.1.1 (by rw[I.2];exact Xo I.1.2) K
theorem Eu(m:Nat){id:Nat}(h:Fg ops m=true->AU J Q b n ds ops k cs m En ops.size (Array.replicate ops.size false) L (Ao E H S))(hm:P.follows .mixedOrders=true:=by exact rfl)(I:(b.kind != .early)=true:=by exact rfl)(ht:Fg ops m=true:=by decide+kernel):
  JL J Q b n L ds (.code (.region id ops true)::k) cs (Ao E H S):=dZ m hm I ht h
theorem EW(m:Nat)(bks:List Nat){id:Nat}(I:IA S bks)(K:Aw E H S)(h:Fg ops m=true->AU J Q b n ds ops k cs m (AO bks) ops.size (Array.replicate ops.size false) L (Ao E H S))(hm:P.follows .mixedOrders=true:=by exact rfl)(O:(b.kind != .early)=true:=by exact rfl)(ht:Fg ops m=true:=by decide+kernel):
  JL J Q b n L ds (.code (.region id ops true)::k) cs (Ao E H S):=dw m bks I K hm O ht h
theorem Dd{α:Type}{pp:Rp α}{a:Option Addr}{c:Nat}{xs:List α}{xv:α}{d:Option Tmp}{x y:Operand}{t ty e:TypeId}{p:String}{af:Ae_}{g:On_}{kd:IntKind}(i:Nat)(I:Aq pp E a c xs)(K:ix xs p1=some xv)(O:Fg ops m=true)(ht:P.underlying t=some (.slice e))(U:BA P e=some pp.n)
  (h:∀bk o ws,pp.r E ws xv->At E bk o ws->AU J Q b n ds ops k cs m D fuel (Bp listed i) (AG L d (.pointer (some ⟨bk,o,none⟩))) s)
  (Y:ops[i]?=some ⟨d,.indexAddr t x y,ty,p,af,g⟩:=by exact rfl) (Z:He ops listed m i=true:=by decide+kernel) (ac:s.q=false:=by exact rfl)
  (hw:A9 L ops ⟨d,.indexAddr t x y,ty,p,af,g⟩=some true:=by exact rfl) (ag:BC n d=true:=by exact rfl)
  (ai:ev L x=some (.slice a xs.length c):=by exact rfl) (aj:ev L y=some (.int kd p1):=by exact rfl):
  AU J Q b n ds ops k cs m D (fuel+1) listed L s:=iW i I K Y O Z ac hw ag ai aj ht U h
end
variable {l0 bks xl:List Nat}
section
variable {b:Frame}{fuel:Nat}{listed:Array Bool}
theorem CG(i:Nat)(pure:Bool)(I:s.q=false)(K:GB n L ops i=some ⟨d,op,ty,p,af,g⟩)
  (O:∀ρ,FV L ρ->∀s':St,(pure=false->∀x o,(BK (AO (l0++bks)) s).E x=some o->s'.E x=some o)->Yl P ⟨d,op,ty,p,af,g⟩ ρ s' v)
  (U:FH J Q b n ds ops k cs (AO xl) (AO (l0++bks)) (AO l0) fuel (Bp listed i) (AG L d v) s) (Y:II ops listed xl pure i=true:=by decide+kernel):FH J Q b n ds ops k cs (AO xl) (AO (l0++bks)) (AO l0) (fuel+1) listed L s:=by
 let⟨Z,ac,ag⟩:=S4 K;exact EA i pure Z Y I ac ag O U
def Se(n:Nat)(L:Env)(ops:Ao_)(i:Nat):Option Env:=
 match K9 ops.toList i with
 | some ⟨d,op,ty,p,af,g⟩=>match A9 L ops ⟨d,op,ty,p,af,g⟩ with
  | some true=>match BC n d with
   | true=>match MJ L op with
    | some v=>match d with
     | some d=>some ((d,v)::L)
     | none=>some L
    | none=>none
   | false=>none
  | _=>none
 | none=>none
theorem dp{i:Nat}(h:Se n L ops i=some L'):∃o v,ops[i]?=some o/\BC n o.dst=true/\A9 L ops o=some true/\MJ L o.op=some v/\L'=AG L o.dst v:=by
 unfold Se at h;split at h
 .rename_i d op ty p af g I;rw[Nq,tN] at I;split at h
  .rename_i hw;split at h
   .rename_i K;split at h
    .rename_i v O;refine⟨_,v,I,K,hw,O,?_⟩;cases d with
     | none=>cases h;rfl
     | some d=>cases h;rfl
    .cases h
   .cases h
  .cases h
 .cases h
theorem CL(i:Nat)(I:s.q=false)(h:Se n L ops i=some L')
  (K:FH J Q b n ds ops k cs (AO xl) (AO (l0++bks)) (AO l0) fuel (Bp listed i) L' s) (O:II ops listed xl true i=true:=by decide+kernel):FH J Q b n ds ops k cs (AO xl) (AO (l0++bks)) (AO l0) (fuel+1) listed L s:=by
 obtain⟨o,v,U,Y,hw,Z,rfl⟩:=dp h;exact EA i true U O I hw Y (λρ ac s' _=>QD ac Z) K
end
variable {i2:Nat}
variable {d2:Option Tmp}{x2:Operand}{t2 u ty2:TypeId}{p2:String}{af2:Ae_}{g2:On_}{w:Value}
variable{c2:Nat}{todo:Li_}
section
variable {b:Frame}{i:Nat}
variable {x y:Operand}{e:TypeId}
theorem Cx(K:Aw E H S)(h:∀r E',Le E E'->At E' r 0 v.cells.toList->Aw E' H (S++ [[]])->JL J Q b n (AG L d (.pointer (some ⟨r,0,none⟩))) ds (Ah ops rest k) cs (Ao E' H (S++ [[]])))
  (O:F9 b n L ops i=some ⟨d,.box e x,ty,p,af,g⟩:=by exact rfl) (U:ev L x=some v:=by exact rfl):JL J Q b n L ds (Ag ops i rest k) cs (Ao E H S):=by
 refine let⟨Y,Z,ac⟩:=Mf O;JS.box Y Z ac K U λr ag=>Ff (bk:=r) (c:=v.cells) (e:=e) (f:=(0,0)) S.length ag AM λE' hle ai I=>?_;have aj:(S++ [[(r,Obj.cells v.cells e (0,0))]]).set S.length []=S++ [[]]:=by simp
 rw[aj] at I ⊢;exact h r E' hle ai I
theorem Cq{z:Value}(I:Aw E H S)(K:zeroOf P e=some z)(h:∀r,Aw E H (S++ [[(r,.cells z.cells e (0,0))]])->JL J Q b n (AG L d (.pointer (some ⟨r,0,none⟩))) ds (Ah ops rest k) cs (Ao E H (S++ [[(r,.cells z.cells e (0,0))]])))
  (O:F9 b n L ops i=some ⟨d,.alloc e,ty,p,af,g⟩:=by exact rfl):JL J Q b n L ds (Ag ops i rest k) cs (Ao E H S):=by
 let⟨U,Y,Z⟩:=Mf O;exact JS.alloc U Y Z I K h
theorem JS.sx{bk:Nat}{c:Av_}(j:Nat)(I:Aw E H S)(K:BA P t=some sz)
  (h:Aw E H (S.set j [(bk,.cells (Be c off v.cells.toList) e (0,0))])->JL J Q b n (AG L d undef) ds (Ah ops rest k) cs (Ao E H (S.set j [(bk,.cells (Be c off v.cells.toList) e (0,0))])))
  (O:F9 b n L ops i=some ⟨d,.store t x y,ty,p,af,g⟩:=by exact rfl) (U:ev L x=some (.pointer (some ⟨bk,off,none⟩)):=by exact rfl) (Y:ev L y=some v:=by exact rfl) (Z:S[j]?=some [(bk,.cells c e (0,0))]:=by exact rfl)
  (ac:sz=v.cells.size:=by exact rfl) (hle:off+v.cells.size<=c.size:=by exact sZ rfl) (ag:v.cells.toList.all Dz=true:=by first | exact rfl | simp[Value.cells,Dz]):
  JL J Q b n L ds (Ag ops i rest k) cs (Ao E H S):=Y5 j I (by rw[← ac];exact K) O U Y Z h hle (td.1 ag)
abbrev BX:=@JS.sx
theorem BS{bk o o1:Nat}{I:Array Field}{ws:Lv_}(j:Nat)(O:At E bk o ws)(ht:P.underlying t=some (.struct I))(U:BA P ft=some (sz+1))(Y:DD P t2=some false)
  (Z:JL J Q b n (AG (AG L d (.pointer (some ⟨bk,o1+off,none⟩))) d2 v) ds (Ah ops rest k) cs (Ao E H S))
  (ac:F9 b n L ops i=some ⟨d,.fieldAddr t x c2,ty,p,af,g⟩:=by exact rfl) (ag:ev L x=some (.pointer (some ⟨bk,o1,none⟩)):=by exact rfl) (ai:OO I c2=some (off,ft):=by exact rfl)
  (aj:F9 b n (AG L d (.pointer (some ⟨bk,o1+off,none⟩))) ops i2=some ⟨d2,.load t2 x2,ty2,p2,af2,g2⟩:=by exact rfl) (al:ev (AG L d (.pointer (some ⟨bk,o1+off,none⟩))) x2=some (.pointer (some ⟨bk,o+j,none⟩)):=by exact rfl) (am:ws[j]?=some v:=by exact rfl):
  JL J Q b n L ds (.inRegion ops (i::i2::rest)::k) cs (Ao E H S):=Cf ht U ac ag ai (CX j O Y aj al am Z)
theorem JS.ix{α:Type}{pp:Rp α}{a:Option Addr}{c:Nat}{xs:List α}{xv:α}{m:Int}{kd:IntKind}(I:Aq pp E a c xs)(hm:ix xs m=some xv)(ht:P.underlying t=some (.slice e))(K:BA P e=some pp.n)
  (h:∀bk o ws,pp.r E ws xv->At E bk o ws->JL J Q b n (AG L d (.pointer (some ⟨bk,o,none⟩))) ds (Ah ops rest k) cs (Ao E H S))
  (O:F9 b n L ops i=some ⟨d,.indexAddr t x y,ty,p,af,g⟩:=by exact rfl) (U:ev L x=some (.slice a xs.length c):=by exact rfl) (Y:ev L y=some (.int kd m):=by exact rfl):
  JL J Q b n L ds (Ag ops i rest k) cs (Ao E H S):=by
 let⟨Z,ac,ag⟩:=Mf O;exact XT I hm Z ac ag U Y ht K h
abbrev B7:=@JS.ix
theorem FE(S0:List Seg)(I:Env){c:Code}(K:∀E',Le E E'->Aw E' H S0->JL J Q b n I ds todo cs (Ao E' H S0))
  (h:(∀{E':LH}{L:Env},Le E E'->Aw E' H S0->JJ L I=JV I->JL J Q b n L ds todo cs (Ao E' H S0))->JL J Q b n L ds (.code c::todo) cs (Ao E H S)):JL J Q b n L ds (.code c::todo) cs (Ao E H S):=
 h λO U Y=>AF (K _ O U) Y
theorem Gn{K:List Nat}(O U:Nat)(S0:List Seg)(I:Env)(Y:∀E',Le E E'->Aw E' H S0->JL J Q b n I ds (.inRegion ops (List.range' O U)::todo) cs (Ao E' H S0))
  (h:(∀{E':LH}{L:Env},Le E E'->Aw E' H S0->JJ L I=JV I->JL J Q b n L ds (.inRegion ops (List.range' O U)::todo) cs (Ao E' H S0))->JL J Q b n L ds (.inRegion ops K::todo) cs (Ao E H S)):JL J Q b n L ds (.inRegion ops K::todo) cs (Ao E H S):=
 h λZ ac ag=>AF (Y _ Z ac) ag
theorem Dc{Z:Type}{c:Code}{body:β->Option (Bn β Z)}{f:Nat}{O:β}{a:Z}{U:LH}{k:Li_}(ag:iter body f O=some a)(S0:β->List Seg)(K:β->Env)(hle:Le U E)(ai:Aw E H (S0 O))
  (round:∀x E',Le U E'->Aw E' H (S0 x)->(∀ac,body x=some (.done ac)->ac=a)->(∃st,body x=some st)->(∀{L':Env}{Y:LH}(x':β),Le U Y->Aw Y H (S0 x')->JJ L' (K x')=JV (K x')->body x=some (.more x')->JL J Q b n L' ds (.inLoop c::k) cs (Ao Y H (S0 x')))->JL J Q b n (K x) ds (.code c:: .inLoop c::k) cs (Ao E' H (S0 x)))
  (aj:JJ L (K O)=JV (K O):=by exact rfl) (al:Ao E H S=Ao E H (S0 O):=by exact rfl):JL J Q b n L ds (.code (.loop c)::k) cs (Ao E H S):=by
 rw[al];refine FC _ aj (W2 ag (λL s x=>∃E',Jm U H E' (S0 x) (K x) L s) ⟨E,V,V,hle,ai⟩ ?_);rintro _ _ x ⟨E',rfl,rfl,am,ap⟩ hd hb aq;exact round x E' am ap hd hb λx' g1 g2 av aw=>AF (aq _ _ x' ⟨_,V,V,g1,g2⟩ aw) av
theorem Bq{f:FuncId}{c:Code}{E:LH}{B:Seg}(K:P.funcs[f]?=some fn)
  (h:∀(Q:Gs_) (I:Frame) (cs:Lf_) (H:LH),Aw E H [B]->(∀{v:Value}{E':LH}{S':List Seg}{B':Seg},Le E E'->S'.flatten=B'->R v E' B'->Aw E' H S'->J.ok Q (G (I.finish v) cs) (Ao E' H S'))->JL J Q (base f) fn.ntmps (HD 0 vs) [] [.code c] (I::cs) (Ao E H [B]))
  (hb:fn.body=some c:=by exact rfl) (O:Nat.ble vs.length fn.ntmps=true:=by exact rfl):A2 J f vs E B R:=
 Ub K hb O λQ I cs H U Y=>h Q I cs H U λZ ac ag ai=>Y _ _ _ _ Z ac ag ai
variable {fuel:Nat}{listed:Array Bool}
theorem ID{bk:Nat}{c:Av_}{f:Nat×Nat}(i:Nat)(I:Fg ops m=true)(o:Nat)(j:Nat)(K:Aw E H S)(O:DD P t=some false)
  (U:AU J Q b n ds ops k cs m (AO bks) fuel (Bp listed i) (AG L d w) (Ao E H S)) (Y:GB n L ops i=some ⟨d,.load t x,ty,p,af,g⟩:=by exact rfl) (Z:ev L x=some (.pointer (some ⟨bk,o,none⟩)):=by exact rfl)
  (ac:S[j]?=some [(bk,.cells c e f)]:=by exact rfl) (hw:c[o]?=some w:=by exact rfl) (ag:AO bks bk=true:=by simp[AO]) (ai:He ops listed m i=true:=by decide+kernel):AU J Q b n ds ops k cs m (AO bks) (fuel+1) listed L (Ao E H S):=
 Bj i I V Y (λ_ h s' hs=>Az O (h _ _ Z) (ES (o:=o) j K ac ag hs hw)) U ai
theorem JG.lp{bk o:Nat}{ws:Lv_}(i:Nat)(I:Fg ops m=true)(j:Nat)(K:At E bk o ws)(O:Aw E H S)(U:IA S bks)(Y:DD P t=some false)
  (Z:AU J Q b n ds ops k cs m (AO bks) fuel (Bp listed i) (AG L d w) (Ao E H S)) (ac:GB n L ops i=some ⟨d,.load t x,ty,p,af,g⟩:=by exact rfl) (ag:ev L x=some (.pointer (some ⟨bk,o+j,none⟩)):=by exact rfl)
  (hw:ws[j]?=some w:=by exact rfl) (ai:He ops listed m i=true:=by decide+kernel):AU J Q b n ds ops k cs m (AO bks) (fuel+1) listed L (Ao E H S):=
 Bj i I V ac (λ_ h s' hs=>Az Y (h _ _ ag) (Eh (j:=j) K (lO O hs U) hw)) Z ai
abbrev Fb:=@JG.lp
theorem RR{bk o:Nat}{c:Av_}{f:Nat×Nat}(i:Nat)(I:Fg ops m=true)(vs:Lv_)(j:Nat)(K:Aw E H S)(hw:∀(q:Nat) w,vs[q]?=some w->c[o+q]?=some w)(O:DD P t=some true)(U:BA P t=some sz)
  (Y:AU J Q b n ds ops k cs m (AO bks) fuel (Bp listed i) (AG L d (.agg vs.toArray)) (Ao E H S)) (Z:GB n L ops i=some ⟨d,.load t x,ty,p,af,g⟩:=by exact rfl) (ac:ev L x=some (.pointer (some ⟨bk,o,none⟩)):=by exact rfl)
  (ag:S[j]?=some [(bk,.cells c e f)]:=by exact rfl) (ai:sz=vs.length:=by exact rfl) (aj:AO bks bk=true:=by simp[AO]) (al:He ops listed m i=true:=by decide+kernel):AU J Q b n ds ops k cs m (AO bks) (fuel+1) listed L (Ao E H S):=
 Bj i I V Z (λ_ h s' hs=>I1 (vs:=vs) O (by rw[← ai];exact U) (h _ _ ac) (λq w am=>by rw[EO rfl];exact ES j K ag aj hs (hw q w am))) Y al
theorem JG.ix{D:Nat->Bool}{α:Type}{xs:List α}{xv:α}{bk c:Nat}{kd:IntKind}(i:Nat)(I:Fg ops m=true)(K:xs.length=c2)(hm:ix xs p1=some xv)(ht:P.underlying t=some (.slice e))(O:BA P e=some sz)
  (U:AU J Q b n ds ops k cs m D fuel (Bp listed i) (AG L d (.pointer (some ⟨bk,p1.toNat*sz,none⟩))) s) (Y:s.q=false:=by exact rfl) (Z:GB n L ops i=some ⟨d,.indexAddr t x y,ty,p,af,g⟩:=by exact rfl)
  (ac:ev L x=some (.slice (some ⟨bk,0,none⟩) c2 c):=by exact rfl) (ag:ev L y=some (.int kd p1):=by exact rfl) (ai:He ops listed m i=true:=by decide+kernel):AU J Q b n ds ops k cs m D (fuel+1) listed L s:=
 Bj i I Y Z (λ_ h s' hs=>I5 K hm ht O (h _ _ ac) (h _ _ ag)) U ai
abbrev GK:=@JG.ix
theorem JB.ix{l0 bks:List Nat}{α:Type}{xs:List α}{xv:α}{bk c:Nat}{kd:IntKind}(i:Nat)(I:xs.length=c2)(hm:ix xs p1=some xv)(ht:P.underlying t=some (.slice e))(K:BA P e=some sz)
  (O:FH J Q b n ds ops k cs (AO xl) (AO (l0++bks)) (AO l0) fuel (Bp listed i) (AG L d (.pointer (some ⟨bk,p1.toNat*sz,none⟩))) s) (U:s.q=false:=by exact rfl) (Y:GB n L ops i=some ⟨d,.indexAddr t x y,ty,p,af,g⟩:=by exact rfl)
  (Z:ev L x=some (.slice (some ⟨bk,0,none⟩) c2 c):=by exact rfl) (ac:ev L y=some (.int kd p1):=by exact rfl) (ag:II ops listed xl true i=true:=by decide+kernel):FH J Q b n ds ops k cs (AO xl) (AO (l0++bks)) (AO l0) (fuel+1) listed L s:=
 CG i true U Y (λ_ h s' hs=>I5 I hm ht K (h _ _ Z) (h _ _ ac)) O ag
abbrev DM:=@JB.ix
theorem RD{l0:List Nat}{bk o:Nat}{c:Av_}{f:Nat×Nat}(i:Nat)(vs:Lv_)(j:Nat)(I:Aw E H S)(hw:∀(q:Nat) w,vs[q]?=some w->c[o+q]?=some w)(K:DD P t=some true)(O:BA P t=some sz)
  (U:FH J Q b n ds ops k cs (AO xl) (AO (l0++bks)) (AO l0) fuel (Bp listed i) (AG L d (.agg vs.toArray)) (Ao E H S)) (Y:GB n L ops i=some ⟨d,.load t x,ty,p,af,g⟩:=by exact rfl) (Z:ev L x=some (.pointer (some ⟨bk,o,none⟩)):=by exact rfl)
  (ac:S[j]?=some [(bk,.cells c e f)]:=by exact rfl) (ag:sz=vs.length:=by exact rfl) (ai:AO (l0++bks) bk=true:=by simp[AO]) (aj:II ops listed xl false i=true:=by decide+kernel):FH J Q b n ds ops k cs (AO xl) (AO (l0++bks)) (AO l0) (fuel+1) listed L (Ao E H S):=
 CG i false V Y (λ_ h s' hs=>I1 (vs:=vs) K (by rw[← ag];exact O) (h _ _ Z) (λq w al=>by rw[EO rfl];exact ES j I ac ai (hs rfl) (hw q w al))) U aj
theorem JB.sx{l0 bks:List Nat}{bk:Nat}{c:Av_}(i j:Nat)(I:Aw E H S)(K:BA P t=some sz)(O:Pf S j l0)(hle:off+sz<=c.size)
  (h:Aw E H (S.set j [(bk,.cells (Be c off v.cells.toList) e (0,0))])->FH J Q b n ds ops k cs (AO xl) (AO (l0++bks)) (AO l0) fuel (Bp listed i) (AG L d undef) (Ao E H (S.set j [(bk,.cells (Be c off v.cells.toList) e (0,0))])))
  (U:GB n L ops i=some ⟨d,.store t x y,ty,p,af,g⟩:=by exact rfl) (Y:ev L x=some (.pointer (some ⟨bk,off,none⟩)):=by exact rfl) (Z:ev L y=some v:=by exact rfl) (ac:S[j]?=some [(bk,.cells c e (0,0))]:=by exact rfl)
  (ag:sz=v.cells.size:=by exact rfl) (ai:v.cells.toList.all Dz=true:=by first | exact rfl | simp[Value.cells,Dz]) (aj:Region.ready .any ops listed=[i]:=by decide+kernel) (al:AO xl i=true:=by decide+kernel):
  FH J Q b n ds ops k cs (AO xl) (AO (l0++bks)) (AO l0) (fuel+1) listed L (Ao E H S):=by
 let⟨am,ap,aq⟩:=S4 U;subst ag;exact JB.store i j aj al am ap aq I Y Z K (td.1 ai) ac O hle h
abbrev E3:=@JB.sx
end
variable {y2:Operand}
variable {q:Rp α}{xs:List (List α)}{xv:List α}{mm:Int}{c c1 n':Nat}{f:Av_}{kd:IntKind}
section
variable {b:Frame}
variable {x y:Operand}{e:TypeId}
variable {fuel:Nat}{listed:Array Bool}{bk:Nat}
theorem FU(i:Nat)(K:Fg ops m=true)(W:WL e (rL q) E bk c n' f xs)(hm:Pal.ix xs mm=some xv)(O:Aw E H S)(ht:P.underlying t=some (.slice e))(U:BA P e=some 1)(Y:DD P e=some false)
  (Z:∀a I,Aq q E a I xv->AU J Q b n ds ops k cs m (AO bks) fuel (Bp (Bp listed i) (i+1)) (AG (AG L d (.pointer (some ⟨bk,mm.toNat*1,none⟩))) d2 (.slice a xv.length I)) (Ao E H S))
  (ac:GB n L ops i=some ⟨d,.indexAddr t x y,ty,p,af,g⟩:=by exact rfl) (ag:ev L x=some (.slice (some ⟨bk,0,none⟩) n' c1):=by exact rfl) (ai:ev L y=some (.int kd mm):=by exact rfl) (aj:He ops listed m i=true:=by decide+kernel)
  (al:GB n (AG L d (.pointer (some ⟨bk,mm.toNat*1,none⟩))) ops (i+1)=some ⟨d2,.load e x2,ty2,p2,af2,g2⟩:=by exact rfl) (am:ev (AG L d (.pointer (some ⟨bk,mm.toNat*1,none⟩))) x2=some (.pointer (some ⟨bk,mm.toNat*1,none⟩)):=by exact rfl)
  (ap:S[0]?=some [(bk,.cells f e (0,0))]:=by exact rfl) (aq:AO bks bk=true:=by simp[AO]) (av:He ops (Bp listed i) m (i+1)=true:=by decide+kernel):
  AU J Q b n ds ops k cs m (AO bks) (fuel+2) listed L (Ao E H S):=by
 obtain⟨_,⟨a,I,rfl,aw⟩,hw⟩:=W.at hm;refine Bj i K V ac (λ_ h s' hs=>I5 W.2 hm ht U (h _ _ ag) (h _ _ ai)) ?_ aj;exact Bj (i+1) K V al (λ_ h s' hs=>Az Y (h _ _ am) (ES 0 O ap aq hs (hw 0 _ V))) (Z a I aw) av
theorem Fh(i:Nat)(W:WL e (rL q) E bk c n' f xs)(hm:Pal.ix xs mm=some xv)(K:Aw E H S)(ht:P.underlying t=some (.slice e))(O:BA P e=some 1)(U:DD P e=some false)
  (Y:∀a I,Aq q E a I xv->FH J Q b n ds ops k cs (AO xl) (AO (l0++bks)) (AO l0) fuel (Bp (Bp listed i) (i+1)) (AG (AG L d (.pointer (some ⟨bk,mm.toNat*1,none⟩))) d2 (.slice a xv.length I)) (Ao E H S))
  (Z:GB n L ops i=some ⟨d,.indexAddr t x y,ty,p,af,g⟩:=by exact rfl) (ac:ev L x=some (.slice (some ⟨bk,0,none⟩) n' c1):=by exact rfl) (ag:ev L y=some (.int kd mm):=by exact rfl) (ai:II ops listed xl true i=true:=by decide+kernel)
  (aj:GB n (AG L d (.pointer (some ⟨bk,mm.toNat*1,none⟩))) ops (i+1)=some ⟨d2,.load e x2,ty2,p2,af2,g2⟩:=by exact rfl) (al:ev (AG L d (.pointer (some ⟨bk,mm.toNat*1,none⟩))) x2=some (.pointer (some ⟨bk,mm.toNat*1,none⟩)):=by exact rfl)
  (am:S[0]?=some [(bk,.cells f e (0,0))]:=by exact rfl) (ap:AO (l0++bks) bk=true:=by simp[AO]) (aq:II ops (Bp listed i) xl false (i+1)=true:=by decide+kernel):
  FH J Q b n ds ops k cs (AO xl) (AO (l0++bks)) (AO l0) (fuel+2) listed L (Ao E H S):=by
 obtain⟨_,⟨a,I,rfl,av⟩,hw⟩:=W.at hm;refine CG i true V Z (λ_ h s' hs=>I5 W.2 hm ht O (h _ _ ac) (h _ _ ag)) ?_ ai;exact CG (i+1) false V aj (λ_ h s' hs=>Az U (h _ _ al) (ES 0 K am ap (hs V) (hw 0 _ V))) (Y a I av) aq
theorem ER{K:List (List α)}{x0:List α}{a:Option Addr}(i:Nat)(W:WL e (rL q) E bk c n' f xs)(O:K.length=n')(hm:Pal.ix K mm=some x0)(Z:Aq q E a c2 xv)(ac:Aw E H S)(ht:P.underlying t=some (.slice e))(U:BA P e=some 1)
  (h:WL e (rL q) E bk c n' (Be f (mm.toNat*1) [.slice a xv.length c2]) (xs.set mm.toNat xv)/\mm.toNat*1+1<=f.size->Aw E H (S.set 0 [(bk,.cells (Be f (mm.toNat*1) [.slice a xv.length c2]) e (0,0))])->
   FH J Q b n ds ops k cs (AO xl) (AO ([]++bks)) (AO []) fuel (Bp (Bp listed i) (i+1)) (AG (AG L d (.pointer (some ⟨bk,mm.toNat*1,none⟩))) d2 undef) (Ao E H (S.set 0 [(bk,.cells (Be f (mm.toNat*1) [.slice a xv.length c2]) e (0,0))])))
  (ag:GB n L ops i=some ⟨d,.indexAddr t x y,ty,p,af,g⟩:=by exact rfl) (ai:ev L x=some (.slice (some ⟨bk,0,none⟩) n' c1):=by exact rfl) (aj:ev L y=some (.int kd mm):=by exact rfl) (al:II ops listed xl true i=true:=by decide+kernel)
  (am:GB n (AG L d (.pointer (some ⟨bk,mm.toNat*1,none⟩))) ops (i+1)=some ⟨d2,.store e x2 y2,ty2,p2,af2,g2⟩:=by exact rfl) (ap:ev (AG L d (.pointer (some ⟨bk,mm.toNat*1,none⟩))) x2=some (.pointer (some ⟨bk,mm.toNat*1,none⟩)):=by exact rfl)
  (aq:ev (AG L d (.pointer (some ⟨bk,mm.toNat*1,none⟩))) y2=some (.slice a xv.length c2):=by exact rfl)
  (av:S[0]?=some [(bk,.cells f e (0,0))]:=by exact rfl) (aw:Region.ready .any ops (Bp listed i)=[i+1]:=by decide+kernel) (ay:AO xl (i+1)=true:=by decide+kernel):
  FH J Q b n ds ops k cs (AO xl) (AO ([]++bks)) (AO []) (fuel+2) listed L (Ao E H S):=by
 refine have Y:=D8 (x':=xv) (ws':=[.slice a xv.length c2]) W O hm ⟨_,_,V,Z⟩;CG (l0:=[]) i true V ag (λ_ h s' hs=>I5 O hm ht U (h _ _ ai) (h _ _ aj)) ?_ al;exact E3 (l0:=[]) (v:=.slice a xv.length c2) (off:=mm.toNat*1) (i+1) 0 ac U trivial Y.2 (h Y) am ap aq av V V aw ay
end
def Zs(n:Nat)(ops:Ao_):List Nat->Nat->Env->Option (Nat×Env)
 | [],f,L=>some (f,L)
 | i::l,f+1,L=>(Se n L ops i).bind (Zs n ops l f)
 | _::_,0,_=>none
def UB(ops:Ao_)(xl:List Nat):Array Bool->List Nat->Bool
 | _,[]=>true
 | listed,i::l=>II ops listed xl true i&&UB ops xl (Bp listed i) l
theorem Dp{P:Program}{J:Judge P}{Q:Gs_}{b:Frame}{n:Nat}{ds:Ld_}{k:Li_}{cs:Lf_}{s:St}{ops:Ao_}{l0 bks xl:List Nat}{L':Env}{O:Nat}(U:s.q=false):
  ∀(l:List Nat) {fuel:Nat}{listed:Array Bool}{L:Env},Zs n ops l fuel L=some (O,L')->FH J Q b n ds ops k cs (AO xl) (AO (l0++bks)) (AO l0) O (Uv listed l) L' s->(I:UB ops xl listed l=true:=by decide+kernel)->FH J Q b n ds ops k cs (AO xl) (AO (l0++bks)) (AO l0) fuel listed L s
 | [],fuel,listed,L,h,K,_=>by cases h;exact K
 | i::l,fuel,listed,L,h,K,I=>by
  cases fuel with
  | zero=>cases h
  | succ fuel=>
   unfold UB at I;rw[f6] at I;let⟨Y,e,h⟩:=uD.1 h;exact CL i U e (Dp U l h K I.2) I.1
def IN(I:Bool)(ws:Lv_):Value:=if I then .agg ws.toArray else ws.headD undef
def Vr{α:Type}(pp:Rp α)(I:Bool)(E:LH)(v:Value)(x:α):Prop:=∃ws,pp.r E ws x/\v=IN I ws
variable{I:Bool}
theorem Vr.Aj{α:Type}{pp:Rp α}{E E':LH}{v:Value}{x:α}(h:Vr pp I E v x)(hle:Le E E'):Vr pp I E' v x:=
 let ⟨ws,K,O⟩:=h;⟨ws,pp.Aj hle K,O⟩
structure HX (P:Program) (t:TypeId) {κ:Type} [DecidableEq κ] (pk:Rp κ) (ka:Bool):Prop where
 Cd:∀{em:Bool}{E:LH}{v:Value}{x:κ}{s:St}{Q:Unit->St->Prop}{X:Halt->St->Prop},Vr pk ka E v x->Q () s->lp P (Instr.checkKey em 10000 t v) s Q X
 kind:∃kd,P.underlying t=some kd/\((∀v w,Instr.sameNow kd v w=none)∨∀{E:LH}{v w:Value}{x y:κ},Vr pk ka E v x->Vr pk ka E w y->Instr.sameNow kd v w=some (decide (x=y)))
 eq:∀{E:LH}{v w:Value}{x y:κ}{s:St}{Q:Bool->St->Prop}{X:Halt->St->Prop},Vr pk ka E v x->Vr pk ka E w y->Q (decide (x=y)) s->lp P (Op.equal t v w) s Q X
 same:∀{E:LH}{v:Value}{x:κ},Vr pk ka E v x->Instr.sameBits 10000 v v=true
 uniq:∀{E:LH}{v w:Value}{x:κ},Vr pk ka E v x->Vr pk ka E w x->v=w
variable {κ ν:Type}{pk:Rp κ}{pv:Rp ν}{ka va:Bool}{E':LH}
variable {tm te:TypeId}{X:Halt->St->Prop}
section
variable [DecidableEq κ]
def Fl(pk:Rp κ)(ka:Bool)(pv:Rp ν)(va:Bool)(E:LH):List MapEntry->List (κ×ν)->Prop
 | [],[]=>True
 | e::es,x::xs=>Vr pk ka E e.key x.1/\Vr pv va E e.val x.2/\Fl pk ka pv va E es xs
 | _,_=>False
theorem Fl.Aj(hle:Le E E'):∀{es:List MapEntry}{xs:List (κ×ν)},Fl pk ka pv va E es xs->Fl pk ka pv va E' es xs
 | [],[],_=>trivial
 | e::es,x::xs,h=>⟨h.1.Aj hle,h.2.1.Aj hle,Fl.Aj hle h.2.2⟩
 | [],_::_,h=>h.elim
 | _::_,[],h=>h.elim
theorem Fl.len:∀{es:List MapEntry}{xs:List (κ×ν)},Fl pk ka pv va E es xs->es.length=xs.length
 | [],[],_=>rfl
 | e::es,x::xs,h=>by simp[Fl.len h.2.2]
 | [],_::_,h=>h.elim
 | _::_,[],h=>h.elim
def HJ(x:κ):List MapEntry->List (κ×ν)->Nat->Option (Nat×Value)
 | e::es,y::ys,i=>if x=y.1 then some (i,e.val) else HJ x es ys (i+1)
 | _,_,_=>none
def Bz(xs:List (κ×ν))(x:κ):Option ν:=(xs.find? λy=>decide (x=y.1)).map (·.2)
def CQ(xs:List (κ×ν))(x:κ)(v:ν):List (κ×ν):=match xs with
 | []=>[(x,v)]
 | y::ys=>if x=y.1 then(x,v)::ys else y::CQ ys x v
theorem XC{x:κ}:∀{es:List MapEntry}{xs:List (κ×ν)}{i:Nat},Fl pk ka pv va E es xs->(HJ x es xs i=none/\Bz xs x=none)∨∃j w v0,HJ x es xs i=some (j,w)/\Bz xs x=some v0/\Vr pv va E w v0
 | [],[],i,_=>.inl ⟨rfl,rfl⟩
 | e::es,y::ys,i,h=>by
  unfold HJ Bz
  by_cases I:x=y.1;exact .inr ⟨i,e.val,y.2,by rw[d9 I],by simp[I],h.2.1⟩;rcases XC (x:=x) (i:=i+1) h.2.2 with⟨K,O⟩ | ⟨j,w,v0,K,O,U⟩;exact .inl ⟨by rw[d0 I];exact K,by simpa [I,Bz] using O⟩;exact .inr ⟨j,w,v0,by rw[d0 I];exact K,by simpa [I,Bz] using O,U⟩
 | [],_::_,_,h=>h.elim
 | _::_,[],_,h=>h.elim
theorem Fl.put{x:κ}{v0:ν}{K w:Value}(O:Vr pk ka E K x)(hw:Vr pv va E w v0)(Y:Nat):∀{es:List MapEntry}{xs:List (κ×ν)}{i:Nat},Fl pk ka pv va E es xs->
  (HJ x es xs i=none/\Fl pk ka pv va E (es++ [{key:=K,val:=w,born:=Y}]) (CQ xs x v0))∨
  ∃j u,HJ x es xs i=some (i+j,u)/\j<es.length/\(∀e,es[j]?=some e->Vr pk ka E e.key x)/\Fl pk ka pv va E (es.modify j λe=>{e with key:=K,val:=w}) (CQ xs x v0)
 | [],[],i,_=>.inl ⟨rfl,O,hw,trivial⟩
 | e::es,y::ys,i,h=>by
  unfold HJ CQ
  by_cases I:x=y.1;refine .inr ⟨0,e.val,by rw[d9 I];rfl,AM,λZ he=>?_,?_⟩;simp at he;subst he;rw[I];exact h.1;rw[d9 I];exact⟨O,hw,h.2.2⟩;rcases Fl.put O hw Y (i:=i+1) h.2.2 with⟨U,ac⟩ | ⟨j,u,U,ac,ag,ai⟩;exact .inl ⟨by rw[d0 I];exact U,by rw[d0 I];exact⟨h.1,h.2.1,ac⟩⟩;refine .inr ⟨j+1,u,by rw[d0 I,U];congr 2;omega,by simp;omega,λZ he=>ag Z (by simpa using he),?_⟩;rw[d0 I];exact⟨h.1,h.2.1,ai⟩
 | [],_::_,_,h=>h.elim
 | _::_,[],_,h=>h.elim
def MF(pk:Rp κ)(ka:Bool)(pv:Rp ν)(va:Bool)(E:LH)(o:Obj)(xs:List (κ×ν)):Prop:=
 ∃es clock,o=.map es clock/\Fl pk ka pv va E es.toList xs/\(es.toList.map (·.born)).Pairwise (·<·)/\∀e∈es.toList,e.born<clock
theorem MF.Aj{o:Obj}{xs:List (κ×ν)}(h:MF pk ka pv va E o xs)(hle:Le E E'):MF pk ka pv va E' o xs:=
 let ⟨es,c,I,K,O⟩:=h;⟨es,c,I,K.Aj hle,O⟩
theorem Vd(O:HX P t pk ka){k:Value}{x:κ}(U:Vr pk ka E k x){Q:Option (Nat×Value)->St->Prop}:∀{es:List MapEntry}{xs:List (κ×ν)}{i:Nat},Fl pk ka pv va E es xs->Q (HJ x es xs i) s->lp P (Instr.findAsking t k es i) s Q X
 | [],[],i,_,h=>h
 | e::es,y::ys,i,h,I=>by
  unfold Instr.findAsking
  refine AH _ _ (O.eq U h.1 ?_)
  unfold HJ at I
  by_cases K:x=y.1
  .rw [th K]
   rw[d9 K] at I;exact I
  .rw [tA K];rw[d0 K] at I;exact Vd O U h.2.2 I
 | [],_::_,_,h,_=>h.elim
 | _::_,[],_,h,_=>h.elim
theorem Vt{kd:TypeDesc}{k:Value}{x:κ}(K:Vr pk ka E k x)(hs:∀{E:LH}{v w:Value}{x y:κ},Vr pk ka E v x->Vr pk ka E w y->Instr.sameNow kd v w=some (decide (x=y))):∀{es:List MapEntry}{xs:List (κ×ν)}{i:Nat},Fl pk ka pv va E es xs->Instr.findNow kd k es i=some (HJ x es xs i)
 | [],[],i,_=>rfl
 | e::es,y::ys,i,h=>by
  unfold Instr.findNow HJ
  rw[hs K h.1]
  by_cases I:x=y.1;simp[I];simp only[tA I,d0 I];exact Vt K hs h.2.2
 | [],_::_,_,h=>h.elim
 | _::_,[],_,h=>h.elim
theorem SK(K:HX P t pk ka){k:Value}{x:κ}(O:Vr pk ka E k x){Q:Option (Nat×Value)->St->Prop}{es:List MapEntry}{xs:List (κ×ν)}(h:Fl pk ka pv va E es xs)(I:Q (HJ x es xs 0) s):lp P (Instr.findKey t k es) s Q X:=by
 unfold Instr.findKey;obtain⟨kd,U,Y | hs⟩:=K.kind
 .refine AH _ _ (C4 U ?_);cases es with
  | nil=>
   cases xs with
   | nil=>exact I
   | cons y ys=>exact h.elim
  | cons e es=>
   have Z:Instr.findNow kd k (e::es) 0=none:=by unfold Instr.findNow;rw[Y]
   rw[Z];exact Vd K O h I
 .refine AH _ _ (C4 U ?_);rw[Vt O hs h];exact I
theorem bj(K:HX P t pk ka)(hm:P.underlying tm=some (.map t te)){z:Value}{z0:ν}(Y:zeroOf P te=some z)(Z:Vr pv va E z z0){bk:Nat}{o:Obj}{xs:List (κ×ν)}{k:Value}{x:κ}(hg:s.get bk=some o)(ac:MF pk ka pv va E o xs)(O:Vr pk ka E k x)(ok:Bool){Q:Value->St->Prop}
  (h:∀w,Vr pv va E w ((Bz xs x).getD z0)->Q (if ok then .tuple #[w,.bool (Bz xs x).isSome] else w) s):lp P (Instr.lookup tm (.map (some bk)) k ok) s Q X:=by
 obtain⟨es,c,rfl,U,ai,aj⟩:=ac;unfold Instr.lookup;refine AH _ _ (C4 hm (AH _ _ ?_));unfold getObj;simp only[bind,Sem.bind,lp];refine ⟨_,hg,V,AH (x:=Instr.checkKey _ 10000 t k) _ (K.Cd O (AH (x:=Instr.findKey t k es.toList) _ (SK K O U ?_)))⟩;rcases XC (x:=x) (i:=0) U with⟨I,e2⟩ | ⟨j,w,v0,I,e2,ag⟩;rw[I];simp only;refine AH (x:=zeroValue te) _ (Is Y ?_);have:=h z (by rw[e2];exact Z);rw[e2] at this;exact this;rw[I];have:=h w (by rw[e2];exact ag);rw[e2] at this;exact this
theorem ZT(K:HX P t pk ka)(hm:P.underlying tm=some (.map t te)){bk:Nat}{o:Obj}{xs:List (κ×ν)}{k w:Value}{x:κ}{v0:ν}(hg:s.get bk=some o)(Y:s.H bk=some o)(ai:MF pk ka pv va E o xs)(I:Vr pk ka E k x)(hw:Vr pv va E w v0){Q:Unit->St->Prop}
  (h:∀o',MF pk ka pv va E o' (CQ xs x v0)->Q () (s.upd bk o')):lp P (Instr.mapUpdate tm (.map (some bk)) k w) s Q X:=by
 obtain⟨es,c,rfl,Z,ac,O⟩:=ai;unfold Instr.mapUpdate;refine AH _ _ (C4 hm ?_);unfold getObj;simp only[bind,Sem.bind,lp];refine ⟨_,hg,V,AH (x:=Instr.checkKey false 10000 t k) _ (K.Cd I (AH (x:=Instr.findKey t k es.toList) _ (SK K I Z ?_)))⟩;rcases Fl.put I hw c (i:=0) Z with⟨U,e2⟩ | ⟨j,u,U,e2,aj,al⟩;rw[U];simp only[setObj,lp];refine⟨⟨_,Y,V⟩,V,h _ ⟨es.push {key:=k,val:=w,born:=c},c+1,V,by simpa using e2,?_,?_⟩⟩;rw[Array.toList_push,tE,vF];refine⟨ac,AM,λa am b hb=>?_⟩;simp at hb;subst hb;obtain⟨e,he,rfl⟩:=tn.1 am;exact O e he;intro e he;rw[Array.toList_push] at he;rcases sO.1 he with he | he;have:=O e he;omega;simp at he;subst he;simp
 .rw [U];have ag:es[j]?=some (es[j]'(by simpa using e2)):=tl (by simpa using e2);have ap:(es[j]'(by simpa using e2)).key=k:=K.uniq (aj _ (by rw[tN];exact ag)) I;simp only[uo,ag,uf,Option.getD_some,ap];refine AH (x:=Instr.keyThatStays k k) _ ?_;unfold Instr.keyThatStays;rw[d9 (K.same I)];simp only[lp,pure,setObj];refine⟨⟨_,Y,V⟩,V,h _ ⟨_,c,V,by simpa using al,?_,?_⟩⟩
  .have:(es.modify j λe=>{e with key:=k,val:=w}).toList.map (·.born)=es.toList.map (·.born):=by
    rw[Array.toList_modify];apply ud;intro q;simp only[tV,List.getElem?_modify];split<;>cases es.toList[q]?<;>rfl
   rw[this];exact ac
  .intro e he;rw[Array.toList_modify] at he;obtain⟨q,aq,rfl⟩:=uC.1 he;rw[List.getElem_modify];have av:q<es.toList.length:=by simpa using aq
   split;show(es.toList[q]'av).born<c;exact O _ (f5 _);exact O _ (f5 _)
end
variable{us:Lv_}
theorem XO{l r:Lv_}:∀j w,us[j]?=some w->(l++us++r).toArray[l.length+j]?=some w:=λj w h=>by
 have I:j<us.length:=(d7.1 h).1
 rw[tq,lZ,sQ AB,show l.length+j - l.length=j by omega,sX I]
 exact h
section
variable {e:TypeId}
theorem Nl{c:Av_}{K:Bool}(O:DD P e=some K)(U:BA P e=some us.length)(Y:K=false->us.length=1)(hw:∀j w,us[j]?=some w->c[off+j]?=some w)
  {Q:Value->St->Prop}(k:Q (IN K us) s):lp P (Go.part e c off) s Q X:=by
 unfold Go.part;refine AH (x:=isAgg e) _ (Ow O ?_);cases K with
 | true=>
  simp only[tS];refine AH (x:=Go.sizeOf e) _ (F4 U ?_);have Z:c.extract off (off+us.length)=us.toArray:=by
   apply tY;intro j;by_cases hj:j<us.length;have I:=hw j us[j] (bZ hj);have ac:off+j<c.size:=(f7.1 I).1;simp only[wc];rw[d9 AB,I];simp[hj];simp only[wc];rw[d0 AB];simp;omega
  show Q (.agg (c.extract off (off+us.length))) s;rw[Z];exact k
 | false=>
  obtain⟨w,rfl⟩:∃w,us=[w]:=by
   match us,Y rfl with
   | [w],_=>exact⟨w,rfl⟩
  have I:=hw 0 w V;rw[tQ] at I;simp only[s5,tP,I];exact k
end
structure CM (P:Program) (t:TypeId) {α:Type} [DecidableEq α] (pp:Rp α) (I:Bool) (dep:Nat):Prop where
 agg:DD P t=some I
 size:BA P t=some pp.n
 one:I=false->pp.n=1
 eq:∀{n:Nat}{E E':LH}{ws ws':Lv_}{x y:α}{s:St}{Q:Bool->St->Prop}{X:Halt->St->Prop},dep<=n->pp.r E ws x->pp.r E' ws' y->Q (decide (x=y)) s->lp P (Op.equalIn n t (IN I ws) (IN I ws')) s Q X
 Cd:∀{n:Nat}{em:Bool}{E:LH}{ws:Lv_}{x:α}{s:St}{Q:Unit->St->Prop}{X:Halt->St->Prop},dep<=n->pp.r E ws x->Q () s->lp P (Instr.checkKey em n t (IN I ws)) s Q X
 uniq:∀{E E':LH}{ws ws':Lv_}{x:α},pp.r E ws x->pp.r E' ws' x->ws=ws'
 same:∀{E:LH}{ws:Lv_}{x:α},pp.r E ws x->∀w∈ws,∀m,Instr.sameBits (m+1) w w=true
 now:∃kd,P.underlying t=some kd/\((∀v w,Instr.sameNow kd v w=none)∨∀{E E':LH}{ws ws':Lv_}{x y:α},pp.r E ws x->pp.r E' ws' y->Instr.sameNow kd (IN I ws) (IN I ws')=some (decide (x=y)))
variable {ρ:Operand->Value}{ws ws':Lv_}
variable{dep:Nat}{cx:Av_}{f1 f2:Field}
section
variable {e:TypeId}
theorem CM.int{kd:IntKind}(ht:P.underlying t=some (.int kd))(O:BA P t=some 1):CM P t (rK kd) false 1 where
 agg:=by unfold DD;rw[ht]
 size:=O
 one _:=rfl
 eq {n E E' ws ws' x y s Q X} U I K k:=by
  obtain⟨m,rfl⟩:∃m,n=m+1:=⟨n - 1,AB⟩;have I:ws=[.int kd x]:=I;have K:ws'=[.int kd y]:=K;subst I K;refine YD ht ?_;have e:(x==y)=decide (x=y):=by by_cases h:x=y<;>simp[h]
  rw[e];exact k
 Cd {n em E ws x s Q X} U I k:=by
  obtain⟨m,rfl⟩:∃m,n=m+1:=⟨n - 1,AB⟩;have I:ws=[.int kd x]:=I;subst I;unfold Instr.checkKey;exact AH _ _ (C4 ht k)
 uniq I K:=by
  have I:_=[Value.int kd _]:=I;have K:_=[Value.int kd _]:=K;rw[I,K]
 same {E ws x} h w hw m:=by
  have h:ws=[Value.int kd x]:=h;subst h;simp at hw;subst hw;simp[Instr.sameBits]
 now:=⟨_,ht,.inr λ{E E' ws ws' x y} I K=>by
  have I:ws=[.int kd x]:=I
  have K:ws'=[.int kd y]:=K
  subst I K
  have e:(x==y)=decide (x=y):=by by_cases h:x=y<;>simp[h]
  show(if kd=kd then some (x==y) else none)=_
  rw[d9 rfl,e]⟩
abbrev Fp:=@CM.int
theorem CM.nat{kd:IntKind}(ht:P.underlying t=some (.int kd))(U:BA P t=some 1):CM P t (rN kd) false 1 where
 agg:=by unfold DD;rw[ht]
 size:=U
 one _:=rfl
 eq {n E E' ws ws' x y s Q X} Y I K k:=by
  obtain⟨m,rfl⟩:∃m,n=m+1:=⟨n - 1,AB⟩;have I:ws=[.int kd ((x:Nat):Int)]:=I;have K:ws'=[.int kd ((y:Nat):Int)]:=K;subst I K;refine YD ht ?_;have e:((x:Int)==(y:Int))=decide (x=y):=by
   by_cases h:x=y;simp[h]
   .have O:¬(x:Int)=(y:Int):=by omega
    simp[h,O]
  rw[e];exact k
 Cd {n em E ws x s Q X} Y I k:=by
  obtain⟨m,rfl⟩:∃m,n=m+1:=⟨n - 1,AB⟩;have I:ws=[.int kd ((x:Nat):Int)]:=I;subst I;unfold Instr.checkKey;exact AH _ _ (C4 ht k)
 uniq I K:=by
  have I:_=[Value.int kd _]:=I;have K:_=[Value.int kd _]:=K;rw[I,K]
 same {E ws x} h w hw m:=by
  have h:ws=[Value.int kd ((x:Nat):Int)]:=h;subst h;simp at hw;subst hw;simp[Instr.sameBits]
 now:=⟨_,ht,.inr λ{E E' ws ws' x y} I K=>by
  have I:ws=[.int kd ((x:Nat):Int)]:=I
  have K:ws'=[.int kd ((y:Nat):Int)]:=K
  subst I K
  have e:((x:Int)==(y:Int))=decide (x=y):=by
   by_cases h:x=y;simp[h]
   .have O:¬(x:Int)=(y:Int):=by omega
    simp[h,O]
  show(if kd=kd then some ((x:Int)==(y:Int)) else none)=_
  rw[d9 rfl,e]⟩
theorem CM.up{α:Type} [DecidableEq α] {pp:Rp α}{K:Bool}(h:CM P t pp K dep)(hd:dep<=O):CM P t pp K O:=
 ⟨h.agg,h.size,h.one,λI=>h.eq (s3 hd I),λI=>h.Cd (s3 hd I),h.uniq,h.same,h.now⟩
theorem TM{α:Type}{kk:Nat}{pp:Rp α}{E:LH}{ws:Lv_}{xs:List α}(I:(rA kk pp).r E ws xs){i:Nat}(hi:i<kk):∃x us,xs[i]?=some x/\pp.r E us x/\us.length=pp.n/\∀j w,us[j]?=some w->ws.toArray[i*pp.n+j]?=some w:=by
 have K:xs[i]?=some (xs[i]'(by rw[I.1];exact hi)):=bZ (by rw[I.1];exact hi);have U:ix xs (i:Int)=some (xs[i]'(by rw[I.1];exact hi)):=by unfold ix;rw[d9 AB];simpa using K
 let⟨us,O,_,_,Y⟩:=IZ (m:=(i:Int)) I U;exact⟨_,us,K,O,pp.len O,λj w hj=>by have:=Y j w hj;rw[tq];simpa using this⟩
theorem CM.arr{α:Type} [DecidableEq α] {pp:Rp α}{a2:Bool}{kk:Nat}(h:CM P e pp a2 dep)(ht:P.underlying t=some (.array kk e))(a3:BA P t=some (kk*pp.n)):CM P t (rA kk pp) true (dep+1) where
 agg:=by unfold DD;rw[ht]
 size:=a3
 one:=λh=>by cases h
 eq {n E E' ws ws' xs ys s Q X} a4 Y av k:=by
  obtain⟨n,rfl⟩:∃m,n=m+1:=⟨n - 1,AB⟩;have bi:=Y.1;have bn:=av.1;unfold Op.equalIn;refine AH _ _ (C4 ht (AH (x:=Go.sizeOf e) _ (F4 h.size ?_)));simp only[IN,tS];simp only[vL,Std.Legacy.Range.size,uO,Nat.add_one_sub_one,Nat.div_one];let bd:Nat->Option Bool×Unit->Sem (ForInStep (Option Bool×Unit)):=λi _=>do
   if !(← Op.equalIn n e (← Go.part e ws.toArray (i*pp.n)) (← Go.part e ws'.toArray (i*pp.n))) then pure (ForInStep.done (some false,())) else pure (ForInStep.yield (none,()))
  have key:∀(m st:Nat),st+m=kk->(∀i,i<st->xs[i]?=ys[i]?)->∀{K:Option Bool×Unit->St->Prop},K (if xs=ys then(none,()) else(some false,())) s->lp P (forIn (List.range' st m) (none,()) bd:Sem _) s K X:=by
   intro m
   induction m with
   | zero=>
    intro st ac ag K I;have O:xs=ys:=by
     apply ud;intro i;rcases mt i st with hi | hi;exact ag i hi;rw[tK AB,tK AB]
    rw[d9 O] at I;simp only[List.range'_zero,vg];exact I
   | succ m ai=>
    intro st ac ag K I;simp only[wT,u6];obtain⟨a,us,Z,aj,U,al⟩:=TM Y (i:=st) AB;obtain⟨c,bo,am,a5,aw,a6⟩:=TM av (i:=st) AB;refine AH _ _ (AH _ _ (Nl h.agg (by rw[U];exact h.size) (λq=>by rw[U];exact h.one q) al (AH _ _ (Nl h.agg (by rw[aw];exact h.size) (λq=>by rw[aw];exact h.one q) a6 (AH _ _ (h.eq AB aj a5 ?_))))));by_cases ap:a=c
    .subst ap;simp only[decide_true,wI,s5,tP,lp,pure];exact ai (st+1) AB (λi hi=>by
      rcases mt i st with ay | ay;exact ag i ay
      .obtain rfl:i=st:=by omega
       rw[Z,am]) I
    .have a7:¬xs=ys:=λq=>ap (by rw[q] at Z;rw[Z] at am;exact f8 am);rw[d0 a7] at I;simp only[ap,decide_false,w8,tS,lp,pure];exact I
  refine AH _ _ (key kk 0 AB (λi hi=>by omega) ?_);by_cases O:xs=ys;rw[d9 O];simpa [lp,pure,O] using k;rw[d0 O];simpa [lp,pure,O] using k
 Cd {n em E ws xs s Q X} a4 Y k:=by
  obtain⟨n,rfl⟩:∃m,n=m+1:=⟨n - 1,AB⟩;unfold Instr.checkKey;refine AH _ _ (C4 ht ?_);simp only[IN,tS];simp only[vL,Std.Legacy.Range.size,uO,Nat.add_one_sub_one,Nat.div_one];let bd:Nat->Unit->Sem (ForInStep Unit):=λi _=>do
   Instr.checkKey em n e (← Go.part e ws.toArray (i*(← Go.sizeOf e)))
   pure (ForInStep.yield ())
  have key:∀(m st:Nat),st+m=kk->∀{K:Unit->St->Prop},K () s->lp P (forIn (List.range' st m) () bd:Sem _) s K X:=by
   intro m
   induction m with
   | zero=>
    intro st ac K I;simp only[List.range'_zero,vg];exact I
   | succ m ai=>
    intro st ac K I;simp only[wT,u6];obtain⟨a,us,Z,aj,U,al⟩:=TM Y (i:=st) AB;exact AH _ _ (AH (x:=Go.sizeOf e) _ (F4 h.size (AH _ _ (Nl h.agg (by rw[U];exact h.size) (λq=>by rw[U];exact h.one q) al (AH _ _ (h.Cd AB aj (ai (st+1) AB I)))))))
  exact AH _ _ (key kk 0 AB k)
 uniq {E E' ws ws' xs} aq a8:=by
  obtain⟨a1,wss,rfl,az,c1⟩:=aq;obtain⟨bv,a9,rfl,bw,c2⟩:=a8;have:wss=a9:=by
   apply List.ext_getElem AB;intro i hi bb;have a0:xs[i]?=some (xs[i]'AB):=bZ AB;exact h.uniq (c1 i _ _ a0 (bZ hi)) (c2 i _ _ a0 (bZ bb))
  rw[this]
 same {E ws xs} aq w hw m:=by
  obtain⟨a1,wss,rfl,az,c1⟩:=aq;let⟨us,be,hw⟩:=uW.1 hw;let⟨i,hi⟩:=tj.1 be;have bg:i<xs.length:=by rw[a1,← az];exact(d7.1 hi).1
  exact h.same (c1 i _ us (bZ bg) hi) w hw m
 now:=⟨_,ht,.inl λv w=>rfl⟩
theorem CM.field{α:Type} [DecidableEq α] {pp:Rp α}{Z:Bool}{n:Nat}{f:Field}{s:St}{X:Halt->St->Prop}(h:CM P f.type pp Z dep)(hd:dep<=n)(ac:f.name≠ "_"){E E':LH}{U:Lv_}{x y:α}(r1:pp.r E us x)(r2:pp.r E' U y){Y:Av_}
  (w1:∀j w,us[j]?=some w->cx[f.offset+j]?=some w) (w2:∀j w,U[j]?=some w->Y[f.offset+j]?=some w) {K:ForInStep (Option Bool×Unit)->St->Prop}(I:K (if x=y then .yield (none,()) else .done (some false,())) s):
  lp P (if f.name≠ "_" then do
   if !(← Op.equalIn n f.type (← Go.part f.type cx f.offset) (← Go.part f.type Y f.offset)) then pure (ForInStep.done (some false,())) else pure (ForInStep.yield (none,()))
   else pure (ForInStep.yield (none,()))) s K X:=by
 rw[d9 ac]
 refine AH _ _ (Nl h.agg (by rw[pp.len r1];exact h.size) (λq=>by rw[pp.len r1];exact h.one q) w1 ?_)
 refine AH _ _ (Nl h.agg (by rw[pp.len r2];exact h.size) (λq=>by rw[pp.len r2];exact h.one q) w2 ?_)
 refine AH _ _ (h.eq hd r1 r2 ?_)
 by_cases O:x=y;rw[d9 O] at I;simpa [lp,pure,O] using I;rw[d0 O] at I;simpa [lp,pure,O] using I
theorem CM.OM{α:Type} [DecidableEq α] {pp:Rp α}{em:Bool}{n:Nat}{f:Field}{s:St}{X:Halt->St->Prop}(h:CM P f.type pp I dep)(hd:dep<=n)(O:f.name≠ "_"){E:LH}{x:α}(r1:pp.r E us x)
  (w1:∀j w,us[j]?=some w->cx[f.offset+j]?=some w) {K:ForInStep Unit->St->Prop}(U:K (.yield ()) s):
  lp P (if f.name≠ "_" then do
   Instr.checkKey em n f.type (← Go.part f.type cx f.offset)
   pure (ForInStep.yield ())
   else pure (ForInStep.yield ())) s K X:=by
 rw[d9 O]
 refine AH _ _ (Nl h.agg (by rw[pp.len r1];exact h.size) (λq=>by rw[pp.len r1];exact h.one q) w1 ?_)
 refine AH _ _ (h.Cd hd r1 ?_)
 exact U
theorem NI{r:Lv_}{o:Nat}(I:o=0):∀j w,us[j]?=some w->(us++r).toArray[o+j]?=some w:=λj w h=>by subst I;exact XO (l:=[]) j w h
theorem RU{l r:Lv_}{o:Nat}(I:o=l.length):∀j w,us[j]?=some w->(l++(us++r)).toArray[o+j]?=some w:=λj w h=>by
 subst I
 have:=XO (l:=l) (r:=r) j w h
 rwa[lZ] at this
theorem RP{l:Lv_}{o:Nat}(I:o=l.length):∀j w,us[j]?=some w->(l++us).toArray[o+j]?=some w:=λj w h=>by
 have:=RU (r:=[]) I j w h
 rwa[s6] at this
theorem Ug{l m:Lv_}{o:Nat}(I:o=l.length+m.length):∀j w,us[j]?=some w->(l++(m++us)).toArray[o+j]?=some w:=λj w h=>by
 have:=RP (l:=l++m) (o:=o) (by simp[I]) j w h
 rwa[lZ] at this
theorem CM.two{α:Type} [DecidableEq α] [DecidableEq β] {p1:Rp α}{p2:Rp β}{a1 ac:Bool}(ht:P.underlying t=some (.struct #[f1,f2]))(I:CM P f1.type p1 a1 dep)(K:CM P f2.type p2 ac dep)(hs:P.stoodInHeld t=false)
  (n1:f1.name≠ "_") (n2:f2.name≠ "_") (o1:f1.offset=0) (o2:f2.offset=p1.n) (ag:BA P t=some (p1.n+p2.n)):CM P t (rP p1 p2) true (dep+1) where
 agg:=by unfold DD;rw[ht]
 size:=ag
 one:=λh=>by cases h
 eq {n E E' ws ws' x y s Q X} ai Y aj k:=by
  obtain⟨n,rfl⟩:∃m,n=m+1:=⟨n - 1,AB⟩;obtain⟨u1,u2,rfl,r1,r2⟩:=Y;obtain⟨v1,v2,rfl,O,Z⟩:=aj;simp only[IN,tS];unfold Op.equalIn;refine AH _ _ (C4 ht (AH (x:=program) _ ?_));show lp P (if P.stoodInHeld t=true then _ else _) s _ _
  rw[d0 (by rw[hs];exact uz)]
  dsimp only;rw[← vy];simp only[u6,vg];refine AH _ _ (AH _ _ (I.field AB n1 r1 O (NI o1) (NI o1) ?_));by_cases U:x.1=y.1;rw[d9 U];refine AH _ _ (K.field AB n2 r2 Z (RP (o2.trans (p1.len r1).symm)) (RP (o2.trans (p1.len O).symm)) ?_);by_cases e2:x.2=y.2;have e:x=y:=wh U e2;rw[d9 e2];simpa [lp,pure,e] using k;have e:¬x=y:=λq=>e2 (by rw[q]);rw[d0 e2];simpa [lp,pure,e] using k;have e:¬x=y:=λq=>U (by rw[q]);rw[d0 U];simpa [lp,pure,e] using k
 Cd {n em E ws x s Q X} ai Y k:=by
  obtain⟨n,rfl⟩:∃m,n=m+1:=⟨n - 1,AB⟩;obtain⟨u1,u2,rfl,r1,r2⟩:=Y;simp only[IN,tS];unfold Instr.checkKey;refine AH _ _ (C4 ht ?_)
  dsimp only;rw[← vy];simp only[u6,vg];exact AH _ _ (AH _ _ (I.OM AB n1 r1 (NI o1) (AH _ _ (K.OM AB n2 r2 (RP (o2.trans (p1.len r1).symm)) k))))
 uniq {E E' ws ws' x} a b:=by
  obtain⟨u1,u2,rfl,r1,r2⟩:=a;obtain⟨v1,v2,rfl,O,Z⟩:=b;rw[I.uniq r1 O,K.uniq r2 Z]
 same {E ws x} a w hw m:=by
  obtain⟨u1,u2,rfl,r1,r2⟩:=a;rcases sO.1 hw with hw | hw;exact I.same r1 w hw m;exact K.same r2 w hw m
 now:=⟨_,ht,.inl λv w=>rfl⟩
theorem CM.three{α am:Type} [DecidableEq α] [DecidableEq β] [DecidableEq am] {p1:Rp α}{p2:Rp β}{p3:Rp am}{a1 aq av:Bool}{f3:Field}(ht:P.underlying t=some (.struct #[f1,f2,f3]))(K:CM P f1.type p1 a1 dep)(O:CM P f2.type p2 aq dep)(U:CM P f3.type p3 av dep)(hs:P.stoodInHeld t=false)
  (n1:f1.name≠ "_") (n2:f2.name≠ "_") (ap:f3.name≠ "_") (o1:f1.offset=0) (o2:f2.offset=p1.n) (ag:f3.offset=p1.n+p2.n) (aw:BA P t=some (p1.n+(p2.n+p3.n))):CM P t (rP p1 (rP p2 p3)) true (dep+1) where
 agg:=by unfold DD;rw[ht]
 size:=aw
 one:=λh=>by cases h
 eq {n E E' ws ws' x y s Q X} ay ai az k:=by
  obtain⟨n,rfl⟩:∃m,n=m+1:=⟨n - 1,AB⟩;obtain⟨u1,_,rfl,r1,u2,aj,rfl,r2,r3⟩:=ai;obtain⟨v1,_,rfl,I,v2,a0,rfl,Y,al⟩:=az;simp only[IN,tS];unfold Op.equalIn;refine AH _ _ (C4 ht (AH (x:=program) _ ?_));show lp P (if P.stoodInHeld t=true then _ else _) s _ _
  rw[d0 (by rw[hs];exact uz)]
  dsimp only;rw[← vy];simp only[u6,vg];refine AH _ _ (AH _ _ (K.field AB n1 r1 I (NI o1) (NI o1) ?_));by_cases Z:x.1=y.1;rw[d9 Z];refine AH _ _ (O.field AB n2 r2 Y (RU (o2.trans (p1.len r1).symm)) (RU (o2.trans (p1.len I).symm)) ?_);by_cases e2:x.2.1=y.2.1;rw[d9 e2];refine AH _ _ (U.field AB ap r3 al (Ug (by rw[ag,p1.len r1,p2.len r2])) (Ug (by rw[ag,p1.len I,p2.len Y])) ?_);by_cases ac:x.2.2=y.2.2;have e:x=y:=wh Z (wh e2 ac);rw[d9 ac];simpa [lp,pure,e] using k;have e:¬x=y:=λq=>ac (by rw[q]);rw[d0 ac];simpa [lp,pure,e] using k;have e:¬x=y:=λq=>e2 (by rw[q]);rw[d0 e2];simpa [lp,pure,e] using k;have e:¬x=y:=λq=>Z (by rw[q]);rw[d0 Z];simpa [lp,pure,e] using k
 Cd {n em E ws x s Q X} ay ai k:=by
  obtain⟨n,rfl⟩:∃m,n=m+1:=⟨n - 1,AB⟩;obtain⟨u1,_,rfl,r1,u2,aj,rfl,r2,r3⟩:=ai;simp only[IN,tS];unfold Instr.checkKey;refine AH _ _ (C4 ht ?_)
  dsimp only;rw[← vy];simp only[u6,vg];exact AH _ _ (AH _ _ (K.OM AB n1 r1 (NI o1) (AH _ _ (O.OM AB n2 r2 (RU (o2.trans (p1.len r1).symm)) (AH _ _ (U.OM AB ap r3 (Ug (by rw[ag,p1.len r1,p2.len r2])) k))))))
 uniq {E E' ws ws' x} a b:=by
  obtain⟨u1,_,rfl,r1,u2,aj,rfl,r2,r3⟩:=a;obtain⟨v1,_,rfl,I,v2,a0,rfl,Y,al⟩:=b;rw[K.uniq r1 I,O.uniq r2 Y,U.uniq r3 al]
 same {E ws x} a w hw m:=by
  obtain⟨u1,_,rfl,r1,u2,aj,rfl,r2,r3⟩:=a;rcases sO.1 hw with hw | hw;exact K.same r1 w hw m;rcases sO.1 hw with hw | hw;exact O.same r2 w hw m;exact U.same r3 w hw m
 now:=⟨_,ht,.inl λv w=>rfl⟩
theorem CM.key{α:Type} [DecidableEq α] {pp:Rp α}(h:CM P t pp I dep)(hd:dep<=10000):HX P t pp I where
 Cd:=by
  rintro em E v x s Q X ⟨ws,U,rfl⟩ k;exact h.Cd hd U k
 kind:=by
  obtain⟨kd,K,Y⟩:=h.now;refine⟨kd,K,Y.imp id λZ=>?_⟩;rintro E v w x y ⟨ws,r1,rfl⟩ ⟨ws',r2,rfl⟩;exact Z r1 r2
 eq:=by
  rintro E v w x y s Q X ⟨ws,r1,rfl⟩ ⟨ws',r2,rfl⟩ k;exact h.eq hd r1 r2 k
 same:=by
  rintro E v x ⟨ws,r1,rfl⟩;cases I with
  | false=>
   obtain⟨w,rfl⟩:∃w,ws=[w]:=by
    have:=(pp.len r1).trans (h.one V)
    match ws,this with
    | [w],_=>exact⟨w,rfl⟩
   exact h.same r1 w AM 9999
  | true=>
   show(ws.toArray.size==ws.toArray.size&&(ws.toArray.toList.zip ws.toArray.toList).all λ(x,y)=>Instr.sameBits 9999 x y)=true;rw[f6];refine⟨AM,td.2 ?_⟩;rintro⟨a,b⟩ ac;have K:∀(l:Lv_) a b,(a,b)∈l.zip l->a=b/\a∈l:=by
    intro l
    induction l with
    | nil=>intro a b h;simp at h
    | cons c l O=>
     intro a b h;simp only[vX,ja,f4] at h;rcases h with⟨rfl,rfl⟩ | h;exact⟨V,AM⟩;exact⟨(O a b h).1,kW _ (O a b h).2⟩
   obtain⟨rfl,hm⟩:=K _ a b ac;exact h.same r1 a (by simpa using hm) 9998
 uniq:=by
  rintro E v w x ⟨ws,r1,rfl⟩ ⟨ws',r2,rfl⟩;rw[h.uniq r1 r2]
section
variable {x y:Operand}
theorem TC{α:Type} [DecidableEq α] {pp:Rp α}{a b:α}(h:CM P t pp true dep)(hd:dep<=10000)(hg:P.eqGuardType P.depth t=false)(r1:pp.r E ws a)(r2:pp.r E' ws' b)(I:ρ x=.agg ws.toArray)(K:ρ y=.agg ws'.toArray):Yl P ⟨d,.binOp .neq t x y u,ty,p,af,g⟩ ρ s (.bool (decide (a≠b))):=by
 refine G7 (sm:=do eqGuard .neq t x y (ρ x) (ρ y);binOp .neq t (ρ x) (ρ y)) V ?_
 rw[I,K];refine AH _ _ (V5 (.inr V) hg ?_);have hb:binOp .neq t (.agg ws.toArray) (.agg ws'.toArray)=(do pure (.bool (!(← Op.equal t (.agg ws.toArray) (.agg ws'.toArray))))):=V
 rw[hb];exact AH (x:=Op.equal t _ _) _ (h.eq hd r1 r2 ⟨AM,V⟩)
end
end
theorem ZU{E H:LH}{B:List (Nat×Obj)}(i:Nat){bk:Nat}{o:Obj}(I:Nd E H B)(h:B[i]?=some (bk,o)):∃E',Le E E'/\E' bk=some o/\Nd E' H (B.eraseIdx i)/\C7 (mk E H B) (mk E' H (B.eraseIdx i)):=by
 have aj:=sU h;have al:E bk=none/\H bk=none:=by
  have:∀{B:List (Nat×Obj)},Nd E H B->(bk,o)∈B->E bk=none/\H bk=none:=by
   intro B I K
   induction B with
   | nil=>simp at K
   | cons q B U=>
    rcases ja.1 K with rfl | K;exact⟨I.1,I.2.1⟩;exact U I.2.2.2 K
  exact this I aj
 let E':LH:=λx=>if x=bk then some o else E x
 have ac:E' bk=some o:=by simp[E']
 have hle:Le E E':=λx u O=>by
  have:x≠bk:=λe=>by subst e;rw[al.1] at O;cases O
  simp[E',this,O]
 have am:Nd E' H (B.eraseIdx i):=by
  have:∀{B:List (Nat×Obj)}{i:Nat},Nd E H B->B[i]?=some (bk,o)->Nd E' H (B.eraseIdx i)/\∀p∈B.eraseIdx i,p.1≠bk:=by
   intro B
   induction B with
   | nil=>intro i _ h;simp at h
   | cons q B U=>
    obtain⟨c,v⟩:=q;intro i I h;have up:∀{B:List (Nat×Obj)},Nd E H B->(∀p∈B,p.1≠bk)->Nd E' H B:=by
     intro B I ag
     induction B with
     | nil=>trivial
     | cons q B ap=>exact⟨by simpa [E',ag q AM] using I.1,I.2.1,I.2.2.1,ap I.2.2.2 λp K=>ag p (kW _ K)⟩
    cases i with
    | zero=>
     simp at h;obtain⟨rfl,rfl⟩:=h;exact⟨up I.2.2.2 I.2.2.1,I.2.2.1⟩
    | succ i=>
     simp at h;let⟨Y,Z⟩:=U I.2.2.2 h;have ai:c≠bk:=λe=>I.2.2.1 (bk,o) (sU h) e.symm;refine⟨⟨by simpa [E',ai] using I.1,I.2.1,λp K=>I.2.2.1 p (uy K),Y⟩,λp K=>?_⟩;rcases ja.1 K with rfl | K;exact ai;exact Z p K
  exact(this I h).1
 refine⟨E',hle,ac,am,⟨λx u O=>hle x u O,λx u O=>(Of I h O).2,λx u O=>?_,V⟩⟩;by_cases e:x=bk
 .subst e;right;have:u=o:=by have:E' x=some u:=O;rw[ac] at this;exact(f8 this).symm
  subst this;refine⟨KU I h,?_⟩;cases aq:(mk E' H (B.eraseIdx i)).H x with
  | none=>rfl
  | some y=>exact absurd rfl (Of I h aq).1
 .left;have Y:E' x=some u:=O;have Z:E' x=E x:=by simp[E',e]
  show E x=some u;rw[← Z];exact Y
theorem ZN{E H:LH}{B0:List (Nat×Obj)}{e:TypeId}{l c:Nat}{a:Option Addr}{blk:List (Nat×Obj)}{xs:Lv_}(hg:GS e sz a l c blk xs)(I:Nd E H (B0++blk)):∃E',Le E E'/\Sd E' sz (.slice a l c) l xs/\Nd E' H B0/\C7 (mk E H (B0++blk)) (mk E' H B0):=by
 rcases hg with⟨rfl,rfl,rfl,rfl,rfl⟩ | ⟨bk,f,rfl,rfl,Y,K,rfl⟩;simp only[s6] at I ⊢;exact⟨E,BQ _,.nil,I,.refl _⟩
 .have Z:(B0++ [(bk,Obj.cells f e (0,0))])[B0.length]?=some (bk,Obj.cells f e (0,0)):=by simp
  let⟨E',hle,ac,O,U⟩:=ZU B0.length I Z;have ag:(B0++ [(bk,Obj.cells f e (0,0))]).eraseIdx B0.length=B0:=by rw[uH (jK _)];simp
  rw[ag] at O U;refine⟨E',hle,⟨_,c,V,K,?_,.inr ⟨bk,0,f,e,(0,0),V,ac,λj w hj=>?_⟩⟩,O,U⟩;have:l*sz<=c*sz:=tJ _ K;simp[Y,uN this];rw[ue] at hj;split at hj;simpa using hj;cases hj
theorem ZS{α:Type}{pp:Rp α}{E H:LH}{S:List Seg}{e:TypeId}{a:Option Addr}{c:Nat}{xs:List α}(j:Nat)(hg:OL e pp E a c seg xs)(ai:Aw E H S)(aj:S[j]?=some seg):∃E',Le E E'/\Aq pp E' a c xs/\Aw E' H (S.set j [])/\C7 (Ao E H S) (Ao E' H (S.set j [])):=by
 obtain⟨wss,hg,Y,Z⟩:=hg;have al:∀ad:Addr,a=some ad->ad.spot=none:=λad I=>by
  rcases hg with⟨K,_⟩ | ⟨bk,f,K,_⟩;rw[K] at I;cases I;rw[K] at I;cases I;rfl
 let⟨K,am⟩:=HS ai aj;let⟨E',hle,ap,aq,ac⟩:=ZN hg am;rw[← K] at ac;refine⟨E',hle,?_,aq,ac⟩;obtain⟨av,aw,O,ay,a2,U⟩:=ap;obtain⟨rfl,-,rfl⟩:a=av/\xs.length=xs.length/\c=aw:=by
  simp only[Value.slice.injEq] at O;exact⟨O.1,V,O.2.2⟩
 refine⟨ay,?_⟩;rcases U with U | ⟨bk,off,f,az,fr,g1,g2,a0⟩;exact .inl ⟨tg U,λad I=>.inl (al ad I)⟩
 .refine .inr ⟨bk,off,g1,λi x ag=>?_⟩;have a1:i<wss.length:=by rw[Y];exact(d7.1 ag).1
  refine have hw:=bZ a1;⟨wss[i],pp.Aj hle (Z i x _ ag hw),f,az,fr,g2,λm w hm=>?_⟩;rw[uS];exact a0 _ w (Mb (JF Y Z) hw m w hm)
variable{s₀:St}
theorem C7.get{s:St}(h:C7 s s₀){b:Nat}{o:Obj}(hg:s₀.get b=some o):s.get b=some o:=by
 unfold St.get at hg ⊢;cases I:s₀.E b with
 | some o'=>
  rw[I] at hg;simp only at hg;cases hg;rcases h.F8 _ _ I with K | ⟨K,_⟩;rw[K]
  .cases he:s.E b with
   | none=>exact K
   | some O=>
    have:=h.ext _ _ he;rw[I] at this;cases this;rfl
 | none=>
  rw[I] at hg;simp only at hg;cases he:s.E b with
  | none=>exact h.own _ _ hg
  | some O=>
   have:=h.ext _ _ he;rw[I] at this;cases this
theorem C7.upd{s:St}(h:C7 s s₀){b:Nat}(o:Obj)(hb:(∃u,s₀.H b=some u)∨s₀.E b=none):C7 (s.upd b o) (s₀.upd b o):=by
 refine⟨h.ext,λx u I=>?_,λx u I=>?_,h.q⟩;simp only[St.upd] at I ⊢;by_cases e:x=b;rw[d9 e] at I ⊢;exact I;rw[d0 e] at I ⊢;exact h.own _ _ I
 .have K:s₀.E x=some u:=I;rcases h.F8 _ _ K with O | ⟨O,U⟩;exact .inl O
  .refine .inr ?_;have e:x≠b:=λe=>by
    subst e;rcases hb with⟨w,hw⟩ | hb;rw[hw] at U;cases U;rw[hb] at K;cases K
   simp only[St.upd,d0 e];exact⟨O,U⟩
theorem C7.none{s:St}(h:C7 s s₀){b:Nat}(O:s.E b=none)(K:s.H b=none):s₀.E b=none/\s₀.H b=none:=by
 constructor
 .cases he:s₀.E b with
  | none=>rfl
  | some o=>
   rcases h.F8 _ _ he with I | ⟨I,_⟩;rw[O] at I;cases I;rw[K] at I;cases I
 .cases he:s₀.H b with
  | none=>rfl
  | some o=>have:=h.own _ _ he;rw[K] at this;cases this
theorem fj{P:Program}{α:Type}(x:Sem α):∀{s s₀:St}{Q:α->St->Prop}{X:Halt->St->Prop},C7 s s₀->lp P x s₀ Q X->lp P x s (λa s'=>∃Y,C7 s' Y/\Q a Y) (λh s'=>∃Y,C7 s' Y/\X h Y):=by
 induction x with
 | pure a=>intro s s₀ Q X g h;exact⟨s₀,g,h⟩
 | load m a k I=>
  intro s s₀ Q X g h;obtain⟨K,v,O,U⟩:=h;let⟨o,ag,ai⟩:=uD.1 O;exact⟨K,v,by unfold St.cell?;rw[g.get ag];exact ai,I v g U⟩
 | store m a v k I=>
  intro s s₀ Q X g h;obtain⟨K,O,o,U,aj,al,am⟩:=h;exact⟨K,O,o,g.own _ _ U,aj,al,I (g.upd _ (.inl ⟨o,U⟩)) am⟩
 | new o k I=>
  intro s s₀ Q X g h;refine⟨by rw[← g.q];exact h.1,λr K O=>?_⟩;exact let⟨ac,e2⟩:=g.none K O;I r (g.upd _ (.inr ac)) (h.2 r ac e2)
 | shape r k I=>intro s s₀ Q X g h;obtain⟨o,K,O⟩:=h;exact⟨o,g.get K,I _ g O⟩
 | freeze a n k I=>intro s s₀ Q X g h;exact h.elim
 | frozen a k I=>intro s s₀ Q X g h;obtain⟨o,K,O⟩:=h;exact⟨o,g.get K,I _ g O⟩
 | getObj r k I=>intro s s₀ Q X g h;obtain⟨o,K,O,U⟩:=h;exact⟨o,g.get K,O,I _ g U⟩
 | setObj r o k I=>
  intro s s₀ Q X g h;obtain⟨⟨o',K,ap⟩,O,U⟩:=h;exact⟨⟨o',g.own _ _ K,ap⟩,O,I (g.upd _ (.inl ⟨o',K⟩)) U⟩
 | choose q k I=>
  intro s s₀ Q X g h;simp only[lp] at h ⊢;split;rename_i Z;rw[d9 Z] at h;exact I _ g h;rename_i Z;rw[d0 Z] at h;exact⟨by rw[← g.q];exact h.1,λt=>I _ g (h.2 t)⟩
 | sys c k I=>intro s s₀ Q X g h;exact h.elim
 | program k I=>intro s s₀ Q X g h;exact I _ g h
 | mark m k I=>
  intro s s₀ Q X g h;refine⟨?_,I g h.2⟩;rcases h.1 with⟨K,O⟩ | K;exact .inl ⟨by rw[← g.q];exact K,O⟩;exact .inr K
 | halt h=>intro s s₀ Q X g aq;exact⟨s₀,g,aq⟩
variable{S':List Seg}
section
variable {b:Frame}{fuel:Nat}{listed:Array Bool}
variable {x y:Operand}{e:TypeId}{i:Nat}
theorem Ws{f:FuncId}(j:Nat)(av:∀x,D x=true->∃(K:Nat) (o:Obj),(S.set j [])[K]?=some [(x,o)])(aw:A2 J f vs E seg R)(ay:Region.ready .any ops listed=[i])
  (az:ops[i]?=some ⟨d,.call ⟨.value (.func f),args,ats⟩,ty,p,af,g⟩) (a0:BC n d=true) (hw:A9 L ops ⟨d,.call ⟨.value (.func f),args,ats⟩,ty,p,af,g⟩=some true) (hb:ET P f=true) (a1:evs L args.toList=some vs) (U:Aw E H S) (Y:S[j]?=some seg)
  (a2:∀v E' seg',Le E E'->R v E' seg'->Aw E' H (S.set j seg')->AU J Q b n ds ops k cs m D fuel (Bp listed i) (AG L d v) (Ao E' H (S.set j seg'))):
  AU J Q b n ds ops k cs m D (fuel+1) listed L (Ao E H S):=by
 have ac:S.flatten.Perm (seg++(S.set j []).flatten):=(CB (seg':=seg) Y).1.trans lF;have ag:Nd E H (seg++(S.set j []).flatten):=Cj U ac;have a3:Ao E H S=mk E (Bu (S.set j []).flatten H) seg:=by
  rw[show Ao E H S=mk E H S.flatten from rfl,Gk U ac];unfold mk;rw[G8]
 have ai:=Id (aw (Bu (S.set j []).flatten H) (Ef ag)) (by rintro v s' ⟨E',B',_,_,_,rfl⟩;rfl);rw[← a3] at ai;refine AU.call V ay az a0 hw hb a1 ai ?_;rintro v bg ⟨⟨E',B',hle,a4,a5,rfl⟩,w,a6⟩;have e2:mk E' (Bu (S.set j []).flatten H) B'=mk E' H (B'++(S.set j []).flatten):=by unfold mk;rw[G8]
 have a7:Nd E H (S.set j []).flatten:=by
  have:=ag;rw[Ea] at this ⊢;rw[tE,tU] at this;exact⟨this.1.2.1,λq a8=>this.2 q (tG _ a8)⟩
 have a9:Nd E' H (S.set j []).flatten:=a7.grow λx O=>by
  have bb:=a6.d x O;have Z:Bu B' (Bu (S.set j []).flatten H) x=none:=bb;exact(IW Z).1
 have aj:Nd E' H (B'++(S.set j []).flatten):=EQ a5 a9;have al:(B'++(S.set j []).flatten).Perm (S.set j B').flatten:=lF.trans (CB Y).2.symm;have am:Aw E' H (S.set j B'):=Cj aj al;rw[e2,Gk aj al];refine⟨V,λx o O=>?_,a2 v E' B' hle a4 am⟩;by_cases hd:D x=true
 .let⟨K,o',hj⟩:=av x hd;have ap:j≠K:=λh=>by
   subst h;rw[tC (d7.1 Y).1] at hj;cases hj
  have aq:S[K]?=some [(x,o')]:=by rw[s0 ap] at hj;exact hj
  have Z:(Ao E H S).get x=some o':=Ew (i:=0) U aq V;have be:(Ao E' H (S.set j B')).get x=some o':=Ew (i:=0) am (by rw[s0 ap];exact aq) rfl;have I:(if D x then(Ao E H S).get x else E x)=some o:=O
  show(if D x then(Ao E' H (S.set j B')).get x else E' x)=some o
  rw[d9 hd] at I ⊢;rw[be,← Z];exact I
 .have I:(if D x then(Ao E H S).get x else E x)=some o:=O
  show(if D x then(Ao E' H (S.set j B')).get x else E' x)=some o
  rw[d0 hd] at I ⊢;exact hle _ _ I
theorem AU.perm(I:S.flatten.Perm S'.flatten)(K:Aw E H S)(h:Aw E H S'->AU J Q b n ds ops k cs m D fuel listed L (Ao E H S')):AU J Q b n ds ops k cs m D fuel listed L (Ao E H S):=by
 have e:Ao E H S=Ao E H S':=Gk K I;rw[e];exact h (Cj K I)
abbrev Cp:=@AU.perm
theorem Hs{A B:Seg}(j:Nat)(I:S[j]?=some (A++B))(K:Aw E H S)(h:Aw E H (S.set j A++ [B])->AU J Q b n ds ops k cs m D fuel listed L (Ao E H (S.set j A++ [B]))):AU J Q b n ds ops k cs m D fuel listed L (Ao E H S):=by
 refine Cp ?_ K h;have O:=(CB (seg':=A) I).1;have U:=(CB (seg':=A) I).2;rw[Gx];refine O.trans ?_;have Y:=U.symm.append_right B
 rwa[lZ] at Y
theorem JA.ghost:∀(fuel:Nat) {listed:Array Bool}{T:Av_}{s s₀:St},C7 s s₀->JA J Q b ds ops k cs m En fuel listed T s₀->JA J Q b ds ops k cs m En fuel listed T s
 | 0,listed,T,s,s₀,g,h=>⟨h.1,J.ghost g h.2⟩
 | fuel+1,listed,T,s,s₀,g,h=>by
  rcases h with⟨K,O⟩ | ⟨K,O,Y⟩;exact .inl ⟨K,λt=>J.ghost g (O t)⟩
  .refine .inr ⟨K,by rw[← g.q];exact O,λi hi o Z=>?_⟩;refine let⟨a1,ac,ag⟩:=Y i hi o Z;⟨a1,λe=>JA.ghost fuel g (ac e),λe=>have ai:=fj _ (s:=BK En s) (s₀:=BK En s₀) g (ag e);Fy _ ai ?_ (λ_ s' ⟨_,_,h⟩=>h)⟩;intro aj s' I;obtain⟨U,g1,I⟩:=I;cases aj with
   | value v=>exact JA.ghost fuel (s:=s') (s₀:=U) g1 I
   | skip=>exact JA.ghost fuel (s:=s') (s₀:=U) g1 I
   | enter f args=>
    obtain⟨R,al,am⟩:=I;exact ⟨R,λQ c cs ap=>J.ghost (s:=s') (s₀:=U) g1 (al Q c cs ap),λv aq av=>let⟨aw,ay,az⟩:=am v aq av;⟨aw,λx o I=>ay x o (g.ext x o I),az⟩⟩
   | _=>exact I.elim
abbrev IQ:=@JA.ghost
theorem FJ{α:Type}{pp:Rp α}{a:Option Addr}{c:Nat}{xs:List α}(j:Nat)(hg:OL e pp E a c seg xs)(I:Aw E H S)(K:S[j]?=some seg)
  (h:∀E',Le E E'->Aq pp E' a c xs->Aw E' H (S.set j [])->AU J Q b n ds ops k cs m En fuel listed L (Ao E' H (S.set j []))):AU J Q b n ds ops k cs m En fuel listed L (Ao E H S):=λT O=>by
 let⟨E',U,Y,Z,ac⟩:=ZS j hg I K
 exact IQ _ ac (h E' U Y Z T O)
end
theorem Dg{P:Program}{J:Judge P}{Q:Gs_}{b:Frame}{n:Nat}{ds:Ld_}{ops:Ao_}{k:Li_}{cs:Lf_}{m:Nat}{D:Nat->Bool}{listed:Array Bool}{L L':Env}{s:St}(k':AU J Q b n ds ops k cs m D c2 listed L' s)(h:JJ L L'=JV L'):AU J Q b n ds ops k cs m D c2 listed L s:=Da (Rg h) k'
def UZ{α:Type}(p:Rp α):Rp (List α):=⟨1,λE ws xs=>(xs=[]/\ws=[.slice none 0 0])∨(xs≠ []/\(rL p).r E ws xs),
 λhle h=>h.imp id λh=>⟨h.1,(rL p).Aj hle h.2⟩,λh=>by
  rcases h with⟨_,rfl⟩ | ⟨_,h⟩
  .rfl
  .exact(rL p).len h,λh w hw=>by
  rcases h with⟨_,rfl⟩ | ⟨_,h⟩
  .simp at hw;subst hw;rfl
  .exact(rL p).one h w hw⟩
instance {α:Type} [DecidableEq α] (xs:List α):Decidable (xs=[]):=inferInstance
section
variable {b:Frame}{i:Nat}
variable {x y:Operand}{e:TypeId}
end
variable{j:Nat}
section
variable {b:Frame}{fuel:Nat}{listed:Array Bool}
variable {x y:Operand}{e:TypeId}{i:Nat}
theorem Take.JU{α:Type}{pp:Rp α}(K:Aw E H S)(O:ops[i]?=some ⟨d,.buildSlice t 0 #[],ty,p,af,g⟩)(hw:A9 L ops ⟨d,.buildSlice t 0 #[],ty,p,af,g⟩=some true)(U:BC n d=true)
  (ht:P.underlying t=some (.slice e)) (Y:BA P e=some pp.n)
  (h:∀r seg,OL e pp E (some ⟨r,0,none⟩) 0 seg ([]:List α)->Aw E H (S++ [seg])->AU J Q b n ds ops k cs m En fuel (Bp listed i) (AG L d (.slice (some ⟨r,0,none⟩) 0 0)) (Ao E H (S++ [seg]))):
  Take J Q b n ds ops k cs m En fuel listed L (Ao E H S) i:=
 Fa O (by simp[EP,U]) hw λρ ac=>by
  rw[SZ]
  refine AH _ _ ?_
  unfold Instr.buildSlice
  refine AH _ _ (C4 ht ?_)
  refine AH _ _ (F4 Y ?_)
  rw[d0 AB,d9 AB]
  refine AH (x:=pure #[]) _ ?_
  simp only[lp,pure,List.map_toArray,wR,Instr.fill]
  refine AH _ _ (JC K λr I=>?_)
  rw[(Gb I).1]
  exact h r _ ⟨[],.inr ⟨r,_,rfl,rfl,AM,jK _,AM⟩,rfl,λi x ws Z=>by simp at Z⟩ (Gb I).2
abbrev EB:=@Take.JU
theorem Take.Hd{α:Type}{pp:Rp α}{t1:TypeId}{c cx:Nat}{a ax:Option Addr}{xs ys U:List α}{z:Value}(j:Nat)(Z:Aw E H S)(ac:CK xs ys=some U)
  (ag:ops[i]?=some ⟨d,.call ⟨.builtin .append,#[x,y],ats⟩,ty,p,af,g⟩) (hw:A9 L ops ⟨d,.call ⟨.builtin .append,#[x,y],ats⟩,ty,p,af,g⟩=some true) (ai:BC n d=true)
  (aj:ev L x=some (.slice a xs.length c)) (al:ev L y=some (.slice ax ys.length cx)) (am:ats[0]?=some t) (ap:ats[1]?=some t1) (ht:P.underlying t=some (.slice e)) (aq:P.underlying t1=some (.slice e)) (av:BA P e=some pp.n) (hb:GC P e=some O) (aw:zeroOf P e=some z) (ay:z.cells.size=pp.n)
  (az:0<O) (a0:O<=64) (hg:OL e pp E a c seg xs) (a1:Aq pp E ax cx ys) (a2:S[j]?=some seg)
  (h:∀I K g seg',OL e pp E I K seg' U->Aw E H (S.set j (g++seg'))->AU J Q b n ds ops k cs m En fuel (Bp listed i) (AG L d (.slice I U.length K)) (Ao E H (S.set j (g++seg')))):
  Take J Q b n ds ops k cs m En fuel listed L (Ao E H S) i:=
 Fa ag (by simp[EP,ai]) hw λρ Y=>Xs j ac (Y _ _ aj) (Y _ _ al) am ap ht aq av hb aw ay az a0 hg (by
  let⟨a3,a4,a5,a6,_⟩:=a1.Np (H:=H) (B:=S.flatten)
  exact⟨a3,a6,a4,a5⟩) Z a2 λI K a7 seg' a8 a9=>h I K a7 seg' a8 a9
abbrev C1:=@Take.Hd
theorem Nj{s:St}{D:Nat->Bool}{i l:Nat}(I:s.q=false)(K:Region.ready .any ops listed=[i,j,l])(hi:Take J Q b n ds ops k cs m D fuel listed L s i)(hj:Take J Q b n ds ops k cs m D fuel listed L s j)(O:Take J Q b n ds ops k cs m D fuel listed L s l):AU J Q b n ds ops k cs m D (fuel+1) listed L s:=
 SG I K AM (by intro q I;simp at I;rcases I with rfl | rfl | rfl<;>assumption)
end
theorem Aq.cut{α:Type}{pp:Rp α}{E:LH}{a:Option Addr}{c:Nat}{xs ys:List α}{lo hi:Int}(U:Aq pp E a c xs)(hC:Gr xs lo hi=some ys):
  ∃Y Z,Aq pp E Y Z ys/\∀{P:Program}{ρ:Operand->Value}{s:St}{d:Option Tmp}{x:Operand}{t ty e:TypeId}{p:String}{af:Ae_}{g:On_}{olo ohi:Option Operand},P.underlying t=some (.slice e)->BA P e=some pp.n->ρ x=.slice a xs.length c->
   (match ohi with | some w=>ρ w=iV hi | none=>hi=xs.length)->(match olo with | some w=>ρ w=iV lo | none=>lo=0)->Yl P ⟨d,.slice t x olo ohi none,ty,p,af,g⟩ ρ s (.slice Y ys.length Z):=by
 unfold Gr at hC;split at hC
 rotate_left
 .cases hC
 rename_i hb;obtain⟨aw,ay,aj⟩:=hb;cases hC;obtain⟨lo,rfl⟩:∃l:Nat,lo=l:=⟨lo.toNat,AB⟩;obtain⟨hi,rfl⟩:∃l:Nat,hi=l:=⟨hi.toNat,AB⟩;simp only[tt] at*;have az:=U.1;have hlen:((xs.take hi).drop lo).length=hi - lo:=by simp;omega
 have ac:∀ad:Addr,a=some ad->ad.spot=none∨c=0:=λad I=>by
  rcases U.2 with⟨_,h⟩ | ⟨bk,off,h,_⟩;exact h ad I;rw[h] at I;cases I;exact .inl V
 refine⟨if c=lo then a else a.map (·.add (lo*pp.n)),c - lo,⟨by rw[hlen];omega,?_⟩,?_⟩
 .by_cases al:hi - lo=0
  .left;refine⟨tg (by rw[hlen];exact al),λad I=>?_⟩;split at I;(exact(ac ad I).imp id λh=>by omega)
   .cases a with
    | none=>cases I
    | some am=>
     simp only[uf,tT] at I;subst I;exact .inl (by rw[EO ((ac am rfl).resolve_right (by omega))])
  .right;rcases U.2 with⟨h,_⟩ | ⟨bk,off,rfl,K⟩;subst h;simp at aj;omega;refine⟨bk,off+lo*pp.n,?_,λq z O=>?_⟩;rw[d0 AB,uf,EO rfl];rw[vW,ue] at O;split at O;refine let⟨ws,ap,ag⟩:=K _ z O;⟨ws,ap,?_⟩;rw[uG] at ag;rw[uS];exact ag;cases O
 .intro P ρ s d x t ty e p af g olo ohi ht aq av K ai;rw[hlen];refine Hn (mx:=c) (hi:=hi) (lo:=lo) ht aq av V ?_ ?_ (jK _) AB AB
  .cases ohi with
   | none=>exact⟨by simp only at K;omega,rfl⟩
   | some w=>exact K
  .cases olo with
   | none=>simp only at ai;show lo=0;omega
   | some w=>exact ai
section
variable {b:Frame}{fuel:Nat}{listed:Array Bool}
theorem Lr{I:List Seg}(K:S=I)(O:I.Perm S')(U:Aw E H S)(h:Aw E H S'->AU J Q b n ds ops k cs m D fuel listed L (Ao E H S')):AU J Q b n ds ops k cs m D fuel listed L (Ao E H S):=by
 subst K;exact Cp O.flatten U h
end
def Ct{α:Type}(e e2:TypeId)(p:Rp α)(E:LH)(a:Option Addr)(c:Nat)(seg:Seg)(I:List (List α)):Prop:=
 ∃(g0:Seg) (hs:Lv_) (rows:List Seg),seg=g0++rows.flatten/\OL e rV E a c g0 hs/\hs.length=I.length/\rows.length=I.length/\
  ∀(i:Nat) xs r h,I[i]?=some xs->rows[i]?=some r->hs[i]?=some h->∃K ci,h=.slice K xs.length ci/\OL e2 p E K ci r xs
theorem Ct.Aj{α:Type}{e e2:TypeId}{p:Rp α}{E E':LH}{a:Option Addr}{c:Nat}{I:List (List α)}(h:Ct e e2 p E a c seg I)(hle:Le E E'):Ct e e2 p E' a c seg I:=
 let ⟨g0,hs,rows,K,O,U,Y,Z⟩:=h
 ⟨g0,hs,rows,K,O.Aj hle,U,Y,λi xs r q a b c=>let ⟨ac,ci,k1,ag⟩:=Z i xs r q a b c;⟨ac,ci,k1,ag.Aj hle⟩⟩
theorem Ct.make{α:Type}{e e2:TypeId}{p:Rp α}{E:LH}{a:Option Addr}{c:Nat}{m:Int}{I:List (List α)}(K:GQ m ([]:List α)=some I)(h:OL e (UZ p) E a c seg I):Ct e e2 p E a c seg I:=by
 have O:∀xs∈I,xs=[]:=by
  unfold GQ at K;split at K;cases K;intro xs Z;exact(vz.1 Z).2;cases K
 obtain⟨wss,ac,U,ag⟩:=h;have key:∀(i:Nat) ws,wss[i]?=some ws->ws=[.slice none 0 0]:=λi ws hw=>by
  have Y:i<I.length:=by rw[← U];exact(d7.1 hw).1
  have ai:=bZ Y;rcases ag i _ ws ai hw with⟨_,h⟩ | ⟨h,_⟩;exact h;exact absurd (O _ (f5 Y)) h
 refine⟨seg,List.replicate I.length (.slice none 0 0),List.replicate I.length [],AM,⟨wss,?_,by simpa using U,λi x ws aj hw=>?_⟩,AM,AM,λi xs r q a b c=>?_⟩;rw[uw];exact ac;rw[key i ws hw];obtain rfl:=(vz.1 (sU aj)).2;exact⟨V,V⟩;obtain rfl:=(vz.1 (sU b)).2;obtain rfl:=(vz.1 (sU c)).2;obtain rfl:=O xs (sU a);exact⟨none,0,V,Cv⟩
variable{rows:List Seg}
theorem Xr{m:Nat}{r:Seg}(h:rows[m]?=some r):rows.flatten=(rows.take m).flatten++r++(rows.drop (m+1)).flatten:=by
 have I:=(d7.1 h).1;have e:rows=rows.take m++r::rows.drop (m+1):=by
  rw[(d7.1 h).2.symm];rw[← tF I,w9]
 conv=>lhs;rw[e]
 simp
theorem Wl{m:Nat}{r:Seg}(h:m<rows.length):(rows.set m r).flatten=(rows.take m).flatten++r++(rows.drop (m+1)).flatten:=by
 rw[Xr (rows:=rows.set m r) (m:=m) (r:=r) (by rw[tC h]),List.take_set_of_le (jK _),List.drop_set_of_lt AB]
theorem Ct.row{α:Type}{e e2:TypeId}{p:Rp α}{E:LH}{a:Option Addr}{c:Nat}{Y:List (List α)}{m:Int}{xs:List α}(h:Ct e e2 p E a c seg Y)(hm:ix Y m=some xs):
  ∃(bk:Nat) (f:Av_) (K:Option Addr) (ci:Nat) (g1 r g2:Seg),a=some ⟨bk,0,none⟩/\seg=(bk,.cells f e (0,0))::(g1++r++g2)/\f[m.toNat*1]?=some (.slice K xs.length ci)/\m.toNat*1+1<=f.size/\OL e2 p E K ci r xs/\
   (∀E' r' I,Le E E'->I.length=xs.length->OL e2 p E' K ci r' I->Ct e e2 p E' a c ((bk,.cells f e (0,0))::(g1++r'++g2)) (Y.set m.toNat I))/\
   (∀E' O U r' I,Le E E'->OL e2 p E' O U r' I->Ct e e2 p E' a c ((bk,.cells (Be f (m.toNat*1) [.slice O I.length U]) e (0,0))::(g1++r'++g2)) (Y.set m.toNat I)):=by
 obtain⟨g0,hs,rows,rfl,aj,al,am,Z⟩:=h;obtain⟨mm,rfl,ap⟩:=Ge hm;have a4:=(d7.1 ap).1;have aq:rows[mm]?=some rows[mm]:=bZ AB;have hh:hs[mm]?=some hs[mm]:=bZ AB;let⟨K,ci,ay,az⟩:=Z mm xs _ _ ap aq hh;rw[ay] at hh;obtain⟨bk,f,ws,rfl,rfl,a0,av,a1,aw⟩:=E8 aj hh;obtain⟨rfl,-⟩:=a0;have a2:(rV).n=1:=V;rw[a2] at av a1 aw;simp only[tt];refine⟨bk,f,K,ci,(rows.take mm).flatten,rows[mm],(rows.drop (mm+1)).flatten,V,by rw[Xr aq];rfl,by have:=av 0 _ rfl;simpa using this,AB,az,λE' r' I hle a3 ac=>?_,λE' O U r' I hle ac=>?_⟩;refine⟨_,hs,rows.set mm r',by rw[Wl AB];rfl,aj.Aj hle,by simpa using al,by simpa using am,λi ys q v a b c=>?_⟩;rw[tD] at a b;by_cases e:mm=i;subst e;rw[d9 rfl,d9 AB] at a b;cases a;cases b;rw[hh] at c;cases c;exact⟨K,ci,by rw[a3],ac⟩;rw[d0 e] at a b;exact let⟨ag,ai,l1,l2⟩:=Z i ys q v a b c;⟨ag,ai,l1,l2.Aj hle⟩;refine⟨_,hs.set mm (.slice O I.length U),rows.set mm r',by rw[Wl AB];rfl,(aw _ _ ⟨V,V⟩).Aj hle,by simpa using al,by simpa using am,λi ys q v a b c=>?_⟩;rw[tD] at a b c;by_cases e:mm=i;subst e;rw[d9 rfl,d9 AB] at a b c;cases a;cases b;cases c;exact⟨O,U,V,ac⟩;rw[d0 e] at a b c;exact let⟨ag,ai,l1,l2⟩:=Z i ys q v a b c;⟨ag,ai,l1,l2.Aj hle⟩
theorem eV{E H:LH}{S:List Seg}{bk:Nat}{o:Obj}(I:Aw E H S)(hj:S[j]?=some seg)(h:(bk,o)∈seg):(Ao E H S).get bk=some o:=by
 let⟨i,hi⟩:=tj.1 h;exact Ew I hj hi
theorem VA{E H:LH}{S:List Seg}{bk:Nat}{c:Av_}{e:TypeId}{f:Nat×Nat}{v:Value}(I:Aw E H S)(hj:S[j]?=some seg)(h:(bk,.cells c e f)∈seg)(K:c[off]?=some v):(Ao E H S).cell? ⟨bk,off,none⟩=some v:=by
 unfold St.cell?;rw[eV I hj h];exact K
variable {e2:TypeId}
variable{g1 r0 seg':Seg}{ci:Nat}{a1:Av}{s':St}
section
variable {b:Frame}{i:Nat}
variable {x y:Operand}{e:TypeId}
theorem U9{S:List Seg}{A B seg':Seg}{q:Nat×Obj}(hj:S[j]?=some seg)(h:seg.Perm (q::A)):S.flatten.Perm (S.set j A++ [[q]]).flatten:=by
 have I:=(CB (seg':=A) hj).1;have K:=(CB (seg':=A) hj).2;rw[Gx];refine I.trans ((h.append_left _).trans (List.Perm.trans ?_ (K.symm.append_right [q])));rw[lZ];exact(lF (l₁:=[q]) (l₂:=A)).append_left _
theorem Ye{bk:Nat}{c:Av_}{A:Seg}(j:Nat)(O:Aw E H S)(I:S[j]?=some seg)(U:seg.Perm ((bk,.cells c e (0,0))::A))(Y:seg'.Perm ((bk,.cells (Be c off v.cells.toList) e (0,0))::A))(Z:BA P t=some v.cells.size)(ac:F9 b n L ops i=some ⟨d,.store t x y,ty,p,af,g⟩)
  (ag:ev L x=some (.pointer (some ⟨bk,off,none⟩))) (ai:ev L y=some v)
  (hle:off+v.cells.size<=c.size) (aj:∀u∈v.cells.toList,Dz u=true)
  (h:Aw E H (S.set j seg')->JL J Q b n (AG L d undef) ds (Ah ops rest k) cs (Ao E H (S.set j seg'))):
  JL J Q b n L ds (Ag ops i rest k) cs (Ao E H S):=by
 have al:=(d7.1 I).1;have key:∀q:Nat×Obj,∀g',g'.Perm (q::A)->(S.set j A++ [[q]]).flatten.Perm (S.set j g').flatten:=λq g' hg=>by
  have:=U9 (B:=[]) (seg':=[]) (S:=S.set j g') (j:=j) (seg:=g') (A:=A) (q:=q) (by rw[tC al]) hg;rw[uF] at this;exact this.symm
 refine Cw (S':=S.set j A++ [[(bk,.cells c e (0,0))]]) (U9 (B:=[]) (seg':=[]) I U) O λam=>?_;have hlen:(S.set j A++ [[(bk,Obj.cells c e (0,0))]])[(S.set j A).length]?=some [(bk,.cells c e (0,0))]:=by simp
 refine Y5 (S.set j A).length am Z ac ag ai hlen (λK=>?_) hle aj;rw[I2] at K ⊢;exact Cw (key _ _ Y) K h
theorem et{q:Nat×Obj}{r g2:Seg}:(q::(g1++r0++g2)++r).Perm (q::(g1++r++g2)++r0):=by
 simp only[tH,lZ];refine List.Perm.cons _ (tL _ ((lF (l₁:=r0) (l₂:=g2++r)).trans ?_));rw[← lZ];exact(lF (l₁:=g2) (l₂:=r)).append_right r0
theorem WV{p q:Nat×Obj}{g2:Seg}:(q::(g1++ [p]++g2)).Perm (p::q::(g1++g2)):=by
 refine List.Perm.trans ?_ (List.Perm.swap p q _);rw[lZ];exact List.Perm.cons _ tM
theorem fG{K g' r:Seg}{S:List Seg}(hj:j<S.length)(O:j≠c2)(Z:S[c2]?=some r)(ac:(K++r).Perm (g'++r0)):(S.set j K).flatten.Perm (((S.set j g').set c2 [])++ [r0]).flatten:=by
 have ag:(S.set j K)[c2]?=some r:=by rw[s0 O];exact Z
 have ai:=(CB (seg':=([]:Seg)) ag).1;have U:((S.set j K).set c2 [])[j]?=some K:=by rw[s0 (ti O),tC hj]
 have aj:=(CB (seg':=g') U).1;have Y:=(CB (seg':=g') U).2;have e:((S.set j K).set c2 []).set j g'=(S.set j g').set c2 []:=by rw[uT _ _ (ti O),uF]
 rw[e] at Y;rw[Gx];refine ai.trans ((aj.append_right r).trans (List.Perm.trans ?_ (Y.symm.append_right r0)));rw[lZ,lZ];exact ac.append_left _
structure OZ {α:Type}(e e2:TypeId) (pp:Rp α) (E:LH) (a:Av) (c bk:Nat) (f:Av_) (K:Av) (ci:Nat) (g1 r g2:Seg) (O:List (List α)) (m:Int) (xs:List α):Prop where
 ad:a=some ⟨bk,0,none⟩
 hd:f[m.toNat*1]?=some (.slice K xs.length ci)
 sz:m.toNat*1+1<=f.size
 ol:OL e2 pp E K ci r xs
 set:∀E' r' I,Le E E'->I.length=xs.length->OL e2 pp E' K ci r' I->Ct e e2 pp E' a c ((bk,.cells f e (0,0))::(g1++r'++g2)) (O.set m.toNat I)
 put:∀E' U Y r' I,Le E E'->OL e2 pp E' U Y r' I->Ct e e2 pp E' a c ((bk,.cells (Be f (m.toNat*1) [.slice U I.length Y]) e (0,0))::(g1++r'++g2)) (O.set m.toNat I)
theorem Ct.rowOf{α:Type}{pp:Rp α}{a:Av}{c:Nat}{I:List (List α)}{m:Int}{xs:List α}(h:Ct e e2 pp E a c seg I)(hm:ix I m=some xs):
  ∃(bk:Nat) (f:Av_) (K:Av) (ci:Nat) (g1 r g2:Seg),seg=(bk,.cells f e (0,0))::(g1++r++g2)/\OZ e e2 pp E a c bk f K ci g1 r g2 I m xs:=by
 let⟨bk,f,K,ci,g1,r,g2,U,Y,Z,ac,ag,O⟩:=h.row hm;exact⟨bk,f,K,ci,g1,r,g2,Y,U,Z,ac,ag,O.1,O.2⟩
theorem Xl{α:Type}{pp:Rp α}{c bk:Nat}{a K ag:Av}{f:Av_}{g2 r:Seg}{U:List (List α)}{m:Int}{xs ys:List α}(j O:Nat)(Y:OZ e e2 pp E a c bk f ag ci g1 r0 g2 U m xs)(ai:OL e2 pp E K c2 r ys)(aj:Aw E H S)(Z:S[j]?=some ((bk,.cells f e (0,0))::(g1++r0++g2)))(al:j≠O)(am:S[O]?=some r)
  (ap:BA P t=some 1) (aq:F9 b n L ops i=some ⟨d,.store t x y,ty,p,af,g⟩) (av:ev L x=some (.pointer (some ⟨bk,m.toNat*1,none⟩))) (aw:ev L y=some (.slice K ys.length c2))
  (h:∀g',Ct e e2 pp E a c g' (U.set m.toNat ys)->Aw E H ((S.set j g').set O [])->JL J Q b n (AG L d undef) ds (Ah ops rest k) cs (Ao E H ((S.set j g').set O []))):
  JL J Q b n L ds (Ag ops i rest k) cs (Ao E H S):=by
 refine have ay:=(d7.1 Z).1;Ye (v:=.slice K ys.length c2) (c:=f) (e:=e) (off:=m.toNat*1) (A:=g1++r0++g2) (seg':=(bk,.cells (Be f (m.toNat*1) [.slice K ys.length c2]) e (0,0))::(g1++r0++g2)) j aj Z (tu _) (tu _) ap aq av aw Y.sz (by simp[Value.cells,Dz]) λaz=>Cw (fG (g':=(bk,.cells (Be f (m.toNat*1) [.slice K ys.length c2]) e (0,0))::(g1++r++g2)) (r:=r) (r0:=r0) ay al am et) az λa0=>BO _ a0 (wF) λac=>?_;rw[show ∀(T:List Seg),(T++ [r0]).set T.length []=T++ [[]] from λT=>I2 _ _ _ _] at ac ⊢;exact I0 (S':=(S.set j ((bk,.cells (Be f (m.toNat*1) [.slice K ys.length c2]) e (0,0))::(g1++r++g2))).set O []) AM ac λa1=>h _ (Y.put _ _ _ _ _ (BQ _) ai) a1
theorem OZ.elem{α:Type}{pp:Rp α}{a:Av}{c bk:Nat}{f:Av_}{r g2:Seg}{O:List (List α)}{m q:Int}{xs:List α}{x0:α}(h:OZ e e2 pp E a c bk f a1 ci g1 r g2 O m xs)(Z:ix xs q=some x0):
  ∃(bk2:Nat) (f2:Av_) (ws:Lv_),a1=some ⟨bk2,0,none⟩/\r=[(bk2,.cells f2 e2 (0,0))]/\pp.r E ws x0/\(∀(j:Nat) w,ws[j]?=some w->f2[q.toNat*pp.n+j]?=some w)/\(q.toNat+1)*pp.n<=f2.size/\
   ∀E' x' ws',Le E E'->pp.r E' ws' x'->Ct e e2 pp E' a c ((bk,.cells f e (0,0))::(g1++ [(bk2,.cells (Be f2 (q.toNat*pp.n) ws') e2 (0,0))]++g2)) (O.set m.toNat (xs.set q.toNat x')):=by
 obtain⟨mm,rfl,U⟩:=Ge Z;refine let⟨bk2,f2,ws,ac,Y,ag,ai,aj,_⟩:=E8 h.ol U;⟨bk2,f2,ws,ac,Y,ag,ai,aj,λE' x' ws' hle al=>?_⟩;let⟨ap,f3,_,_,I,_,_,_,am⟩:=E8 (h.ol.Aj hle) U;rw[Y] at I;simp only[vx,f4,Obj.cells.injEq,wQ] at I;obtain⟨rfl,rfl⟩:=I;exact h.set E' _ _ hle AM (am x' ws' al)
theorem Kk{α:Type}{s:St}{ρ:Operand->Value}{x y:Operand}{d:Option Tmp}{t ty e:TypeId}{p:String}{af:Ae_}{g:On_}{kd:IntKind}{xs:List α}{xv:α}{m:Int}{a:Av}{bk c:Nat}(I:a=some ⟨bk,0,none⟩)(hm:ix xs m=some xv)(ht:P.underlying t=some (.slice e))(K:BA P e=some sz)(O:ρ x=.slice a xs.length c)(U:ρ y=.int kd m):
  Yl P ⟨d,.indexAddr t x y,ty,p,af,g⟩ ρ s (.pointer (some ⟨bk,m.toNat*sz,none⟩)):=by
 subst I;exact Tj hm ht K O U
def LK(E:LH):Nat->Bool:=λx=>(E x).isNone
theorem lK(x:Nat):(BK (LK E) (Ao E H S)).E x=(Ao E H S).get x:=by
 show(if LK E x then(Ao E H S).get x else E x)=_
 unfold LK;cases h:E x with
 | none=>simp
 | some o=>
  rw[d0 AM];unfold St.get;rw[show(Ao E H S).E x=some o from h]
theorem UY(hs:∀x o,(BK (LK E) (Ao E H S)).E x=some o->s'.E x=some o){x:Nat}{o:Obj}(h:(Ao E H S).get x=some o):s'.get x=some o:=by
 have:=hs x o (by rw[lK];exact h);unfold St.get;rw[this]
theorem K4(hs:∀x o,(BK (LK E) (Ao E H S)).E x=some o->s'.E x=some o){a:Addr}{v:Value}(h:(Ao E H S).cell? a=some v):s'.cell? a=some v:=by
 let⟨o,I,K⟩:=uD.1 h;unfold St.cell?;rw[UY hs I];exact K
theorem Yo(hs:∀x o,(BK (LK E) (Ao E H S)).E x=some o->s'.E x=some o){a:Addr}(h:∀(i:Nat) v,vs[i]?=some v->(Ao E H S).cell? (Addr.add a i)=some v):∀(i:Nat) v,vs[i]?=some v->s'.cell? (Addr.add a i)=some v:=λi v I=>K4 hs (h i v I)
theorem RH(m:Nat){id:Nat}(h:Fg ops m=true->AU J Q b n ds ops k cs m (LK E) ops.size (Array.replicate ops.size false) L (Ao E H S))(hm:P.follows .mixedOrders=true:=by exact rfl)(I:(b.kind != .early)=true:=by exact rfl)(ht:Fg ops m=true:=by decide+kernel):
  JL J Q b n L ds (.code (.region id ops true)::k) cs (Ao E H S):=Tk m (LK E) V hm I (h ht)
abbrev rs(q:Nat×Obj)(g1:Seg)(p:Nat×Obj)(g2:Seg):Seg:=q::(g1++ [p]++g2)
theorem iM{p q:Nat×Obj}{g2:Seg}:p∈q::(g1++ [p]++g2):=by simp
theorem fJ{bk bk2:Nat}{f f2:Av_}{g2:Seg}(j:Nat)(I:Aw E H S)(K:S[j]?=some ((bk,.cells f e (0,0))::(g1++ [(bk2,.cells f2 e2 (0,0))]++g2)))
  (O:BA P t=some v.cells.size) (U:F9 b n L ops i=some ⟨d,.store t x y,ty,p,af,g⟩) (Y:ev L x=some (.pointer (some ⟨bk2,off,none⟩))) (Z:ev L y=some v)
  (hle:off+v.cells.size<=f2.size) (ac:∀u∈v.cells.toList,Dz u=true)
  (h:Aw E H (S.set j ((bk,.cells f e (0,0))::(g1++ [(bk2,.cells (Be f2 off v.cells.toList) e2 (0,0))]++g2)))->JL J Q b n (AG L d undef) ds (Ah ops rest k) cs (Ao E H (S.set j ((bk,.cells f e (0,0))::(g1++ [(bk2,.cells (Be f2 off v.cells.toList) e2 (0,0))]++g2))))):
  JL J Q b n L ds (Ag ops i rest k) cs (Ao E H S):=
 Ye j I K WV WV O U Y Z hle ac h
end
variable {o:Obj}{v0:ν}
variable {kk:Li_}
variable {z:Operand}{x0:κ}
variable{es:Array MapEntry}{seen:Array Nat}
section
variable [DecidableEq κ]
def KN(xs:List (κ×ν)):Prop:=(xs.map (·.1)).Nodup
theorem KN.perm{xs ys:List (κ×ν)}(h:KN xs)(p:ys.Perm xs):KN ys:=((p.map (λq:κ×ν=>q.1)).nodup_iff).2 h
theorem W8{xs:List (κ×ν)}(h:KN xs){x:κ}{v:ν}:Bz xs x=some v↔(x,v)∈xs:=by
 induction xs with
 | nil=>simp[Bz]
 | cons y ys O=>
  have K:y.1 ∉ ys.map (·.1)/\KN ys:=by simpa [KN] using h
  by_cases e:x=y.1
  .subst e;have I:Bz (y::ys) y.1=some y.2:=by simp[Bz]
   rw[I];constructor;intro q;cases q;simp;intro q;rcases ja.1 q with q | q;rw[← q];exact absurd (tn.2 ⟨_,q,V⟩) K.1
  .have I:Bz (y::ys) x=Bz ys x:=by simp[Bz,e]
   rw[I,O K.2];constructor;intro q;exact kW _ q;intro q;rcases ja.1 q with q | q;exact absurd (by rw[← q]) e;exact q
theorem V3{xs ys:List (κ×ν)}(h:KN xs)(p:ys.Perm xs)(x:κ):Bz ys x=Bz xs x:=by
 apply Option.ext;intro v;rw[W8 h,W8 (h.perm p),p.mem_iff]
def EM(xs:List (κ×ν))(x:κ):List (κ×ν):=xs.filter λy=>decide (x≠y.1)
theorem Wk{xs:List (κ×ν)}{x:κ}(h:∀y∈xs,x≠y.1):EM xs x=xs:=vM.2 λy I=>by simpa using h y I
theorem PS{x:κ}{v:ν}:∀{xs:List (κ×ν)},KN xs->(CQ xs x v).Perm ((x,v)::EM xs x)
 | [],_=>.refl _
 | y::ys,h=>by
  have I:y.1 ∉ ys.map (·.1)/\KN ys:=by simpa [KN] using h
  unfold CQ;by_cases e:x=y.1
  .rw [d9 e];have e2:EM (y::ys) x=ys:=by
    have:EM (y::ys) x=EM ys x:=by simp[EM,e]
    rw[this];exact Wk λz K q=>I.1 (tn.2 ⟨z,K,by rw[← q,e]⟩)
   rw[e2]
  .rw [d0 e];have e2:EM (y::ys) x=y::EM ys x:=by simp[EM,e]
   rw[e2];exact((PS I.2).cons y).trans (List.Perm.swap _ _ _)
theorem Tb{xs ys:List (κ×ν)}(p:ys.Perm xs)(x:κ):(EM ys x).Perm (EM xs x):=p.filter _
theorem aF{xs ys:List (κ×ν)}(h:KN xs)(p:ys.Perm xs)(x:κ)(v:ν):(CQ ys x v).Perm (CQ xs x v):=
 (PS (h.perm p)).trans (((Tb p x).cons _).trans (PS h).symm)
theorem KN.del{xs:List (κ×ν)}(h:KN xs)(x:κ):KN (EM xs x):=by
 grind [KN,EM]
theorem KN.put{xs:List (κ×ν)}(h:KN xs)(x:κ)(v:ν):KN (CQ xs x v):=by
 refine KN.perm ?_ (PS h);unfold KN;simp only[tX,vw];refine⟨λq=>?_,h.del x⟩;let⟨z,I,e⟩:=tn.1 q;have:=(uu.1 I).2;simp at this;exact this e.symm
def Ck(pk:Rp κ)(ka:Bool)(pv:Rp ν)(va:Bool)(E:LH)(o:Obj)(xs:List (κ×ν)):Prop:=KN xs/\∃ys,ys.Perm xs/\MF pk ka pv va E o ys
theorem Ck.Aj{o:Obj}{xs:List (κ×ν)}(h:Ck pk ka pv va E o xs)(hle:Le E E'):Ck pk ka pv va E' o xs:=
 let ⟨I,ys,K,O⟩:=h;⟨I,ys,K,O.Aj hle⟩
theorem Ck.perm{o:Obj}{xs ys:List (κ×ν)}(h:Ck pk ka pv va E o xs)(p:ys.Perm xs):Ck pk ka pv va E o ys:=
 let ⟨I,K,O,U⟩:=h;⟨I.perm p,K,O.trans p.symm,U⟩
theorem Ck.nil:Ck pk ka pv va E (.map #[] 0) []:=⟨wE,[],.refl _,⟨#[],0,V,trivial,.nil,AM⟩⟩
def rM(pk:Rp κ)(ka:Bool)(pv:Rp ν)(va:Bool):Rp (List (κ×ν)):=⟨1,λE ws xs=>∃bk o,ws=[.map (some bk)]/\E bk=some o/\Ck pk ka pv va E o xs,
 λhle ⟨bk,o,h,I,K⟩=>⟨bk,o,h,hle _ _ I,K.Aj hle⟩,λ⟨bk,o,h,_,_⟩=>by subst h;rfl,λ⟨bk,o,h,_,_⟩ w hw=>by subst h;simp at hw;subst hw;rfl⟩
section
variable {bk:Nat}{xs:List (κ×ν)}{k:Value}{x:κ}
theorem aO(I:HX P t pk ka)(hm:P.underlying tm=some (.map t te)){z:Value}{z0:ν}(K:zeroOf P te=some z)(O:Vr pv va E z z0)(hg:s.get bk=some o)(U:Ck pk ka pv va E o xs)(Y:Vr pk ka E k x)(ok:Bool){Q:Value->St->Prop}
  (h:∀w,Vr pv va E w ((Bz xs x).getD z0)->Q (if ok then .tuple #[w,.bool (Bz xs x).isSome] else w) s):lp P (Instr.lookup tm (.map (some bk)) k ok) s Q X:=by
 obtain⟨Z,ys,ac,ag⟩:=U;refine bj I hm K O hg ag Y ok ?_;rw[V3 Z ac];exact h
theorem ZR(K:HX P t pk ka)(hm:P.underlying tm=some (.map t te))(hg:s.get bk=some o)(O:s.H bk=some o)(U:Ck pk ka pv va E o xs)(Y:Vr pk ka E k x)(hw:Vr pv va E w v0){Q:Unit->St->Prop}
  (h:∀o',Ck pk ka pv va E o' (CQ xs x v0)->Q () (s.upd bk o')):lp P (Instr.mapUpdate tm (.map (some bk)) k w) s Q X:=by
 obtain⟨I,ys,Z,ac⟩:=U;exact ZT K hm hg O ac Y hw λo' ag=>h o' ⟨I.put _ _,_,aF I Z _ _,ag⟩
theorem Fl.erase(U:Vr pk ka E k x):∀{es:List MapEntry}{ys:List (κ×ν)}{i:Nat},Fl pk ka pv va E es ys->KN ys->
  (HJ x es ys i=none/\EM ys x=ys)∨∃j u,HJ x es ys i=some (i+j,u)/\Fl pk ka pv va E (es.eraseIdx j) (EM ys x)
 | [],[],i,_,_=>.inl ⟨rfl,rfl⟩
 | e::es,y::ys,i,h,Y=>by
  have O:y.1 ∉ ys.map (·.1)/\KN ys:=by simpa [KN] using Y
  unfold HJ;by_cases I:x=y.1
  .refine .inr ⟨0,e.val,by rw[d9 I];rfl,?_⟩;have e2:EM (y::ys) x=ys:=by
    have:EM (y::ys) x=EM ys x:=by simp[EM,I]
    rw[this];exact Wk λz Z q=>O.1 (tn.2 ⟨z,Z,by rw[← q,I]⟩)
   rw[e2];exact h.2.2
  .have e2:EM (y::ys) x=y::EM ys x:=by simp[EM,I]
   rcases Fl.erase U (i:=i+1) h.2.2 O.2 with⟨a1,K⟩ | ⟨j,u,a1,K⟩;exact .inl ⟨by rw[d0 I];exact a1,by rw[e2,K]⟩;refine .inr ⟨j+1,u,by rw[d0 I,a1];congr 2;omega,?_⟩;rw[e2];exact⟨h.1,h.2.1,K⟩
 | [],_::_,_,h,_=>h.elim
 | _::_,[],_,h,_=>h.elim
theorem aD(ac:HX P t pk ka)(hm:P.underlying tm=some (.map t te))(hg:s.get bk=some o)(ag:s.H bk=some o)(am:Ck pk ka pv va E o xs)(I:Vr pk ka E k x){u:TypeId}{Q:Value->St->Prop}
  (h:∀o',Ck pk ka pv va E o' (EM xs x)->Q (.tuple #[]) (s.upd bk o')):lp P (Builtin.delete_ #[tm,t] u #[.map (some bk),k]) s Q X:=by
 obtain⟨K,ys,O,es,c,rfl,U,ai,aj⟩:=am;unfold Builtin.delete_;simp only[tq,ub,uE];refine AH _ _ (C4 hm ?_)
 dsimp only;refine AH _ _ ?_;unfold getObj;simp only[bind,Sem.bind,lp];refine ⟨_,hg,V,AH (x:=Instr.checkKey _ 10000 t k) _ (ac.Cd I (AH (x:=Instr.findKey t k es.toList) _ (SK ac I U ?_)))⟩;rcases Fl.erase I (i:=0) U (K.perm O) with⟨Y,e2⟩ | ⟨j,u,Y,e2⟩;rw[Y];simp only[setObj,lp,pure];refine⟨⟨_,ag,V⟩,V,h _ ⟨K.del _,_,Tb O x,es,c,V,by rw[e2];exact U,ai,aj⟩⟩
 .rw [Y];simp only[setObj,lp,pure];have al:(es.toList.eraseIdx j).Sublist es.toList:=List.eraseIdx_sublist _ _;have Z:(es.eraseIdxIfInBounds (0+j)).toList=es.toList.eraseIdx j:=by rw[uo];simp
  refine⟨⟨_,ag,V⟩,V,h _ ⟨K.del _,_,Tb O x,_,c,V,by rw[Z];exact e2,?_,?_⟩⟩;rw[Z];exact ai.sublist (al.map _);rw[Z];exact λe he=>aj e (al.subset he)
end
section
variable {b:Frame}
variable {x y:Operand}{e:TypeId}{i bk:Nat}{xs:List (κ×ν)}{k:Value}
theorem Yl.lookup{zv v:Value}{z0:ν}{ok:Bool}(I:HX P t pk ka)(hm:P.underlying tm=some (.map t te))(K:zeroOf P te=some zv)(O:Vr pv va E zv z0)(U:Ck pk ka pv va E o xs)(Y:Vr pk ka E k x0)
  (Z:∀w,Vr pv va E w ((Bz xs x0).getD z0)->(if ok then .tuple #[w,.bool (Bz xs x0).isSome] else w)=v) (ac:ρ x=.map (some bk)) (ag:ρ y=k) (hg:s.get bk=some o):Yl P ⟨d,.lookup tm x y ok,ty,p,af,g⟩ ρ s v:=by
 refine G7 (sm:=Instr.lookup tm (ρ x) (ρ y) ok) V ?_;rw[ac,ag];exact aO I hm K O hg U Y ok λw hw=>⟨Z w hw,V⟩
abbrev Du:=@Yl.lookup
theorem JS.makeMap(I:ops[i]?=some ⟨d,.makeMap t none,ty,p,af,g⟩)(hw:A9 L ops ⟨d,.makeMap t none,ty,p,af,g⟩=some true)(K:Cd b n ⟨d,.makeMap t none,ty,p,af,g⟩=true)(O:Aw E H S)
  (h:∀r,Aw E H (S++ [[(r,.map #[] 0)]])->JL J Q b n (AG L d (.map (some r))) ds (.inRegion ops rest::kk) cs (Ao E H (S++ [[(r,.map #[] 0)]]))):
  JL J Q b n L ds (.inRegion ops (i::rest)::kk) cs (Ao E H S):=
 EH I hw K λρ ai=>by
  show lp P (do pure (Next.value (← Instr.makeMap t none))) _ _ _
  refine AH _ _ ?_
  unfold Instr.makeMap
  simp only[newObj,bind,Sem.bind,pure,lp]
  refine⟨rfl,λr U Y=>?_⟩
  let⟨Z,ac⟩:=Mg U Y (.map #[] 0) O
  let⟨p1,p2⟩:=Gb Z
  have ag:(Ao E H S).upd r (.map #[] 0)=Ao E H (S++ [[(r,.map #[] 0)]]):=by rw[← p1,← ac];rfl
  show JL J Q b n (AG L d (.map (some r))) ds (.inRegion ops rest::kk) cs ((Ao E H S).upd r (.map #[] 0));rw[ag];exact h r p2
abbrev E1:=@JS.makeMap
theorem JS.mapUpdate(j:Nat)(U:HX P t pk ka)(hm:P.underlying tm=some (.map t te))(Y:Ck pk ka pv va E o xs)(Z:Vr pk ka E k x0)(ac:Vr pv va E w v0)(I:Aw E H S)(K:S[j]?=some [(bk,o)])
  (ag:ops[i]?=some ⟨d,.mapUpdate tm x y z,ty,p,af,g⟩) (hw:A9 L ops ⟨d,.mapUpdate tm x y z,ty,p,af,g⟩=some true) (ai:Cd b n ⟨d,.mapUpdate tm x y z,ty,p,af,g⟩=true) (aj:ev L x=some (.map (some bk))) (al:ev L y=some k) (am:ev L z=some w)
  (h:∀o',Ck pk ka pv va E o' (CQ xs x0 v0)->Aw E H (S.set j [(bk,o')])->JL J Q b n (AG L d undef) ds (.inRegion ops rest::kk) cs (Ao E H (S.set j [(bk,o')]))):
  JL J Q b n L ds (.inRegion ops (i::rest)::kk) cs (Ao E H S):=
 EH ag hw ai λρ O=>by
  show lp P (do Instr.mapUpdate tm (ρ x) (ρ y) (ρ z);pure Next.skip) _ _ _
  rw[O _ _ aj,O _ _ al,O _ _ am]
  refine AH _ _ (ZR U hm (Ew (i:=0) I K rfl) (LQ I K) Y Z ac λo' ap=>?_)
  let⟨aq,av⟩:=Mk I K o'
  rw[aq]
  exact h o' ap av
abbrev Df:=@JS.mapUpdate
theorem ZY{at1:TypeId}(j:Nat)(U:HX P t pk ka)(hm:P.underlying tm=some (.map t te))(Y:Ck pk ka pv va E o xs)(Z:Vr pk ka E k x0)(I:Aw E H S)(K:S[j]?=some [(bk,o)])
  (ac:ops[i]?=some ⟨d,.call ⟨.builtin .delete,#[x,y],#[tm,t]⟩,ty,p,af,g⟩) (hw:A9 L ops ⟨d,.call ⟨.builtin .delete,#[x,y],#[tm,t]⟩,ty,p,af,g⟩=some true) (ag:Cd b n ⟨d,.call ⟨.builtin .delete,#[x,y],#[tm,t]⟩,ty,p,af,g⟩=true) (ai:ev L x=some (.map (some bk))) (aj:ev L y=some k)
  (h:∀o',Ck pk ka pv va E o' (EM xs x0)->Aw E H (S.set j [(bk,o')])->JL J Q b n (AG L d (.tuple #[])) ds (.inRegion ops rest::kk) cs (Ao E H (S.set j [(bk,o')]))):
  JL J Q b n L ds (.inRegion ops (i::rest)::kk) cs (Ao E H S):=
 EH ac hw ag λρ O=>by
  have al:execOp ρ ⟨d,.call ⟨.builtin .delete,#[x,y],#[tm,t]⟩,ty,p,af,g⟩=(do pure (Next.value (← Builtin.delete_ #[tm,t] ty #[ρ x,ρ y]))):=by
   simp[execOp,resolve,Deferred.ofValue,invoke,bind,Sem.bind,pure,Go.builtin]
  rw[al,O _ _ ai,O _ _ aj];refine AH _ _ (aD U hm (Ew (i:=0) I K rfl) (LQ I K) Y Z λo' am=>?_);let⟨ap,aq⟩:=Mk I K o';rw[ap];exact h o' am aq
theorem SI(j:Nat)(K:Aw E H S)(O:S[j]?=some [(bk,o)])
  (h:∀E',Le E E'->E' bk=some o->Aw E' H (S.set j [])->JL J Q b n L ds todo cs (Ao E' H (S.set j []))):JL J Q b n L ds todo cs (Ao E H S):=by
 let⟨U,Y⟩:=HS K O;rw[U];have Z:((S.set j []).flatten++ [(bk,o)])[(S.set j []).flatten.length]?=some (bk,o):=by simp
 refine IT (S.set j []).flatten.length Y Z λE' hle ac I=>?_;have ag:((S.set j []).flatten++ [(bk,o)]).eraseIdx (S.set j []).flatten.length=(S.set j []).flatten:=by rw[uH (jK _)];simp
 rw[ag] at I ⊢;exact h E' hle ac I
theorem V7{α:Type}{m:Nat}{f:Nat->Sem α}{s:St}{Q:α->St->Prop}{X:Halt->St->Prop}(hm:0<m)(I:s.q=false)(h:∀i,i<m->lp P (f i) s Q X):lp P ((choose (.mapNext m)).bind f) s Q X:=by
 simp only[choose,Sem.bind,lp];split;exact h 0 hm;exact⟨I,λt=>h _ (wn _ hm)⟩
theorem JS.range{c:Nat}(hm:P.underlying tm=some (.map t te))(hg:(Ao E H S).get bk=some (.map es c))(I:ops[i]?=some ⟨d,.range tm x,ty,p,af,g⟩)(hw:A9 L ops ⟨d,.range tm x,ty,p,af,g⟩=some true)(K:Cd b n ⟨d,.range tm x,ty,p,af,g⟩=true)(O:Aw E H S)
  (U:ev L x=some (.map (some bk)))
  (h:∀r,Aw E H (S++ [[(r,.mapIter (some bk) c #[] c)]])->JL J Q b n (AG L d (.pointer (some ⟨r,0,none⟩))) ds (.inRegion ops rest::kk) cs (Ao E H (S++ [[(r,.mapIter (some bk) c #[] c)]]))):
  JL J Q b n L ds (.inRegion ops (i::rest)::kk) cs (Ao E H S):=
 EH I hw K λρ Y=>by
  show lp P (do pure (Next.value (← Instr.range tm (ρ x)))) _ _ _
  rw[Y _ _ U]
  refine AH _ _ ?_
  unfold Instr.range
  refine AH _ _ (C4 hm ?_)
  simp only[getObj,newObj,bind,Sem.bind,pure,lp]
  refine⟨_,hg,rfl,rfl,λr Z ac=>?_⟩
  let⟨ag,ai⟩:=Mg Z ac (.mapIter (some bk) c #[] c) O
  let⟨p1,p2⟩:=Gb ag
  have aj:(Ao E H S).upd r (.mapIter (some bk) c #[] c)=Ao E H (S++ [[(r,.mapIter (some bk) c #[] c)]]):=by rw[← p1,← ai];rfl
  show JL J Q b n (AG L d (.pointer (some ⟨r,0,none⟩))) ds (.inRegion ops rest::kk) cs ((Ao E H S).upd r (.mapIter (some bk) c #[] c));rw[aj];exact h r p2
theorem JS.next{c r:Nat}(j:Nat)(hg:(Ao E H S).get bk=some (.map es c))(hb:∀e∈es.toList,e.born<c)(I:Aw E H S)(K:S[j]?=some [(r,.mapIter (some bk) c seen c)])
  (ag:ops[i]?=some ⟨d,.next x false,ty,p,af,g⟩) (hw:A9 L ops ⟨d,.next x false,ty,p,af,g⟩=some true) (ai:Cd b n ⟨d,.next x false,ty,p,af,g⟩=true) (O:ev L x=some (.pointer (some ⟨r,0,none⟩)))
  (aj:∀e∈es.toList,e.born ∉ seen->Aw E H (S.set j [(r,.mapIter (some bk) c (seen.push e.born) c)])->JL J Q b n (AG L d (.tuple #[.bool true,e.key,e.val])) ds (.inRegion ops rest::kk) cs (Ao E H (S.set j [(r,.mapIter (some bk) c (seen.push e.born) c)])))
  (al:(∀e∈es.toList,e.born∈seen)->JL J Q b n (AG L d (.tuple #[.bool false])) ds (.inRegion ops rest::kk) cs (Ao E H S)):
  JL J Q b n L ds (.inRegion ops (i::rest)::kk) cs (Ao E H S):=
 EH ag hw ai λρ am=>by
  show lp P (do pure (Next.value (← Instr.next (ρ x) false ty))) _ _ _
  rw[am _ _ O]
  refine AH _ _ ?_
  unfold Instr.next
  simp only[getObj,setObj,bind,Sem.bind,pure,lp]
  refine⟨_,Ew (i:=0) I K rfl,rfl,?_⟩
  simp only[lp]
  refine⟨_,hg,rfl,?_⟩
  have ap:(!seen.isEmpty&& !es.isEmpty&&es.all (λe=>decide (e.born>=c)))=false:=by
   by_cases he:es.toList=[]
   .have:es.isEmpty=true:=by simpa [Array.isEmpty_iff] using he
    simp[this]
   .let⟨e,ac⟩:=wM _ he;have a7:=hb e ac;have:es.all (λe=>decide (e.born>=c))=false:=by
     cases O:es.all (λe=>decide (e.born>=c)) with
     | false=>rfl
     | true=>
      have:=u3.1 O e (vD.1 ac);simp at this;omega
    simp[this]
  have aq:Array.filter (λx:MapEntry=>decide (x.born<c)) (Array.filter (λe=> !seen.contains e.born) es)=Array.filter (λe=> !seen.contains e.born) es:=by
   apply wU.1;rw[vm,vM];intro e he;rw[vm] at he;simpa using hb e (uu.1 he).1
  have e2:Array.filter (λx:MapEntry=>decide (x.born>=c)) (Array.filter (λe=> !seen.contains e.born) es)=#[]:=by
   apply wU.1;rw[vm,List.filter_eq_nil_iff];intro e he;rw[vm] at he;have:=hb e (uu.1 he).1;simp;omega
  dsimp only;rw[d0 (by rw[ap];exact uz),aq,e2];have U:∀e,e∈(Array.filter (λe=> !seen.contains e.born) es).toList↔e∈es.toList/\e.born ∉ seen:=by
   intro e;rw[vm,uu];simp
  generalize Array.filter (λe:MapEntry=> !seen.contains e.born) es=left at U ⊢;by_cases Y:left.toList=[]
  .have av:left=#[]:=wU.1 Y;subst av;refine V7 AM rfl λi hi=>?_;obtain rfl:i=0:=by simp at hi;exact hi
   have aw:((if(#[]:Array MapEntry).isEmpty=true then #[none] else #[])++Array.map some ((#[]:Array MapEntry)++ #[]))[0]?=some none:=by simp
   rw[aw];refine al λe he=>?_;by_cases hs:e.born∈seen;exact hs;have:=(U e).2 ⟨he,hs⟩;simp at this
  .have ay:left.isEmpty=false:=by
    cases az:left.isEmpty with
    | false=>rfl
    | true=>exact absurd (by simpa [Array.isEmpty_iff] using az) Y
   rw[ay];simp only[s5,tP,vR,Array.empty_append];have a0:0<left.size:=by
    rcases tO left.size with Z | Z;exact absurd (by simpa using Array.eq_empty_of_size_eq_zero Z) Y;exact Z
   refine V7 (by simpa using a0) rfl λi hi=>?_;have a1:i<left.size:=by simpa using hi
   have a2:(Array.map some left)[i]?=some (some left[i]):=by simp[a1]
   rw[a2];simp only[lp];refine let⟨a3,a4⟩:=(U left[i]).1 (Array.getElem_mem_toList _);⟨⟨_,LQ I K,rfl⟩,rfl,?_⟩;let⟨a5,a6⟩:=Mk I K (.mapIter (some bk) c (seen.push left[i].born) c);rw[a5];exact aj _ a3 a4 a6
theorem JS.entry{c r:Nat}{e:MapEntry}(j:Nat)(hg:(Ao E H S).get bk=some (.map es c))(he:e∈es.toList)(hb:(es.toList.map (·.born)).Pairwise (·<·))(O:Aw E H S)(U:S[j]?=some [(r,.mapIter (some bk) c (seen.push e.born) c)])
  (Y:ops[i]?=some ⟨d,.entry x,ty,p,af,g⟩) (hw:A9 L ops ⟨d,.entry x,ty,p,af,g⟩=some true) (Z:Cd b n ⟨d,.entry x,ty,p,af,g⟩=true) (ac:ev L x=some (.pointer (some ⟨r,0,none⟩)))
  (h:JL J Q b n (AG L d (.tuple #[e.key,e.val])) ds (.inRegion ops rest::kk) cs (Ao E H S)):
  JL J Q b n L ds (.inRegion ops (i::rest)::kk) cs (Ao E H S):=
 EH Y hw Z λρ ag=>by
  show lp P (do pure (Next.value (← Instr.entry (ρ x)))) _ _ _
  rw[ag _ _ ac]
  refine AH _ _ ?_
  unfold Instr.entry
  simp only[getObj,bind,Sem.bind,pure,lp]
  refine⟨_,Ew (i:=0) O U rfl,rfl,?_⟩
  simp only[Array.back?_push,bne_self_eq_false,lp]
  refine⟨_,hg,rfl,?_⟩
  have ai:es.find? (λx=>x.born==e.born)=some e:=by
   rw[← Array.find?_toList];have key:∀(l:List MapEntry),e∈l->(l.map (·.born)).Pairwise (·<·)->l.find? (λx=>x.born==e.born)=some e:=by
    intro l
    induction l with
    | nil=>intro h;cases h
    | cons y l aj=>
     intro hm I;rw[tX,uL] at I;by_cases K:y.born=e.born;rcases ja.1 hm with rfl | hm;simp;have:=I.1 e.born (tn.2 ⟨e,hm,rfl⟩);omega;rw[uX (by simpa using K)];rcases ja.1 hm with rfl | hm;exact absurd rfl K;exact aj hm I.2
   exact key _ he hb
  simp only[bne_self_eq_false,s5,tP,ai,lp];exact h
end
end
theorem L8{E H:LH}{S:List Seg}{bk:Nat}{o:Obj}(h:E bk=some o):(Ao E H S).get bk=some o:=by
 show(match E bk with | some o=>some o | none=>_)=some o
 rw[h]
theorem Vf{α:Type}(f:α->β){l:List α}(h:(l.map f).Nodup):l.Nodup:=by
 unfold List.Nodup at h ⊢;rw[List.pairwise_map] at h;exact h.imp λh e=>h (by rw[e])
theorem WO{α:Type}:∀{l l':List α},l.Nodup->(∀x∈l,x∈l')->l.length<=l'.length
 | [],_,_,_=>tz _
 | x::l,l',h,hs=>by
  obtain⟨a,b,rfl⟩:=List.append_of_mem (hs x AM)
  have K:=vw.1 h
  have:=WO (l:=l) (l':=a++b) K.2 (λy O=>by
   have I:=hs y (kW _ O)
   have U:y≠x:=λe=>K.1 (e▸O)
   simp at I ⊢
   rcases I with I | I | I;exact .inl I;exact absurd I U
   .exact .inr I)
  simp at this ⊢;omega
variable {ys:List (κ×ν)}
section
variable [DecidableEq κ]
def Kp(es:Array MapEntry)(ys:List (κ×ν))(seen:Array Nat)(done:List (κ×ν)):Prop:=
 ∃dn:List (MapEntry×(κ×ν)),done=dn.map (·.2)/\seen.toList=dn.map (·.1.born)/\dn.Nodup/\∀q∈dn,q∈es.toList.zip ys
theorem Kp.nil{ys:List (κ×ν)}:Kp es ys #[] []:=⟨[],V,V,.nil,AM⟩
theorem WN:∀{es:List MapEntry}{ys:List (κ×ν)},(es.map (·.born)).Pairwise (·<·)->∀{p q:MapEntry×(κ×ν)},p∈es.zip ys->q∈es.zip ys->p.1.born=q.1.born->p=q
 | [],_,_,_,_,h,_,_=>by simp at h
 | _::_,[],_,_,_,h,_,_=>by simp at h
 | e::es,y::ys,O,p,q,I,K,hb=>by
  rw[tX,uL] at O
  rw[vX] at I K
  have U:∀{z:MapEntry×(κ×ν)},z∈es.zip ys->z.1.born∈es.map (·.born):=λ{z} Y=>by
   have:=(wZ Y).1
   exact tn.2 ⟨z.1,this,V⟩
  rcases ja.1 I with rfl | I<;>rcases ja.1 K with rfl | K;rfl;have:=O.1 _ (U K);simp at hb;omega;have:=O.1 _ (U I);simp at hb;omega;exact WN O.2 I K hb
theorem Fl.zip:∀{es:List MapEntry}{ys:List (κ×ν)},Fl pk ka pv va E es ys->∀{q:MapEntry×(κ×ν)},q∈es.zip ys->Vr pk ka E q.1.key q.2.1/\Vr pv va E q.1.val q.2.2
 | [],[],_,_,h=>by simp at h
 | e::es,y::ys,h,q,I=>by
  rw[vX] at I
  rcases ja.1 I with rfl | I;exact⟨h.1,h.2.1⟩;exact Fl.zip h.2.2 I
 | [],_::_,h,_,_=>h.elim
 | _::_,[],h,_,_=>h.elim
theorem WR:∀{es:List MapEntry}{ys:List (κ×ν)},KN ys->(es.map (·.born)).Pairwise (·<·)->∀{p q:MapEntry×(κ×ν)},p∈es.zip ys->q∈es.zip ys->p.2.1=q.2.1->p=q
 | [],_,_,_,_,_,h,_,_=>by simp at h
 | _::_,[],_,_,_,_,h,_,_=>by simp at h
 | e::es,y::ys,Z,U,p,q,I,K,hb=>by
  have O:y.1 ∉ ys.map (·.1)/\KN ys:=by simpa [KN] using Z
  rw[tX,uL] at U;rw[vX] at I K;have Y:∀{z:MapEntry×(κ×ν)},z∈es.zip ys->z.2.1∈ys.map (·.1):=λ{z} ac=>tn.2 ⟨z.2,(wZ ac).2,rfl⟩;rcases ja.1 I with rfl | I<;>rcases ja.1 K with rfl | K;rfl;have:=Y K;simp only at hb;rw[← hb] at this;exact absurd this O.1;have:=Y I;simp only at hb;rw[hb] at this;exact absurd this O.1;exact WR O.2 U.2 I K hb
theorem Kp.len{ys:List (κ×ν)}{done:List (κ×ν)}(h:Kp es ys seen done):done.length<=ys.length:=by
 obtain⟨dn,rfl,U,I,K⟩:=h;rw[t9];have O:=WO I K;exact s3 O (by rw[List.length_zip];exact Nat.min_le_right _ _)
section
variable {b:Frame}
variable {x y:Operand}{e:TypeId}{i bk:Nat}{xs:List (κ×ν)}
theorem WQ{c r:Nat}{done:List (κ×ν)}(j:Nat)(Z:Fl pk ka pv va E es.toList ys)(Y:(es.toList.map (·.born)).Pairwise (·<·))(hb:∀e∈es.toList,e.born<c)(al:KN ys)(hs:Kp es ys seen done)(hg:(Ao E' H S).get bk=some (.map es c))(am:Aw E' H S)(ap:S[j]?=some [(r,.mapIter (some bk) c seen c)])
  (aq:ops[i]?=some ⟨d,.next x false,ty,p,af,g⟩) (hw:A9 L ops ⟨d,.next x false,ty,p,af,g⟩=some true) (av:Cd b n ⟨d,.next x false,ty,p,af,g⟩=true) (aw:ev L x=some (.pointer (some ⟨r,0,none⟩)))
  (ay:∀e K,Vr pk ka E e.key K.1->Vr pv va E e.val K.2->K∈ys->K.1 ∉ done.map (·.1)->e∈es.toList->Kp es ys (seen.push e.born) (done++ [K])->Aw E' H (S.set j [(r,.mapIter (some bk) c (seen.push e.born) c)])->
   JL J Q b n (AG L d (.tuple #[.bool true,e.key,e.val])) ds (.inRegion ops rest::kk) cs (Ao E' H (S.set j [(r,.mapIter (some bk) c (seen.push e.born) c)])))
  (az:done.Perm ys->JL J Q b n (AG L d (.tuple #[.bool false])) ds (.inRegion ops rest::kk) cs (Ao E' H S)):
  JL J Q b n L ds (.inRegion ops (i::rest)::kk) cs (Ao E' H S):=by
 obtain⟨dn,rfl,a1,ac,U⟩:=hs;refine have hlen:=Z.len;JS.next j hg hb am ap aq hw av aw (λe he a0 a2=>?_) (λa3=>?_)
 .let⟨m,hm,a4⟩:=uC.1 he;have O:(e,ys[m]'AB)∈es.toList.zip ys:=by
   rw[← a4];have:(es.toList.zip ys)[m]'(by rw[List.length_zip];omega)=(es.toList[m],ys[m]'AB):=List.getElem_zip;rw[← this];exact f5 _
  let⟨k1,a5⟩:=Z.zip O;have ag:(e,ys[m]'AB) ∉ dn:=λq=>a0 (by
   rw[← vD,a1]
   exact tn.2 ⟨_,q,V⟩)
  refine ay e _ k1 a5 (f5 _) (λq=>?_) he ⟨dn++ [(e,ys[m]'AB)],AM,by simp[a1],?_,λq I=>?_⟩ a2;let⟨K,a6,a7⟩:=tn.1 q;obtain⟨z,ai,rfl⟩:=tn.1 a6;have:=WR al Y (U z ai) O a7;exact ag (this▸ai);rw[tU];exact⟨ac,AM,by intro q I z aj a8;simp at aj;subst aj a8;exact ag I⟩;rcases sO.1 I with I | I;exact U q I;simp at I;subst I;exact O
 .refine az ?_;have a9:dn.Perm (es.toList.zip ys):=by
   have bb:(es.toList.zip ys).Nodup:=by
    have:((es.toList.zip ys).map (·.1)).Nodup:=by
     rw[List.map_fst_zip AB];exact Vf (λe:MapEntry=>e.born) (Y.imp (λh=>xf h))
    exact Vf _ this
   refine(List.perm_ext_iff_of_nodup ac bb).2 λq=>⟨λI=>U q I,λI=>?_⟩;have:=a3 q.1 (wZ I).1;rw[← vD,a1] at this;let⟨z,O,be⟩:=tn.1 this;have:=WN Y (U z O) I be;exact this▸O
  have:=a9.map (·.2)
  rwa[List.map_snd_zip AB] at this
end
end
abbrev s8(s:Nat):Value:=.int .u8 (s:Int)
def NP(a:Nat)(n:Int):Option Nat:=if 0<=n/\n<=8 then some (a>>>n.toNat) else none
def MH(a b:Nat):Option Nat:=if a<256/\b<256 then some (a|||b) else none
def NN(a b:Nat):Option Nat:=if a<256/\b<256 then some (a&&& b) else none
variable {a:Nat}
section
variable {x y:Operand}{b r:Nat}{m:Int}
theorem Y1{m:Nat}(h:m<256):IntKind.u8.wrap (m:Int)=m:=by
 simp only[IntKind.wrap,IntKind.bits,IntKind.signed];simp;omega
theorem Sa{m:Nat}(h:m<256):(BitVec.ofInt IntKind.u8.bits (m:Int)).toNat=m:=by
 simp[IntKind.bits,wG];omega
theorem mz{k:Nat}(a c:Nat)(I:c<=k):((a:Int).fdiv (2^(min c k)))=((a>>>c:Nat):Int):=by
 rw[uN I,vf,u9 _ (Int.pow_nonneg AD),Int.natCast_ediv]
 rfl
theorem WI(I:ρ x=s8 a)(K:ρ y=iV m)(h:NP a m=some r):Yl P ⟨d,.binOp .shr t x y u,ty,p,af,g⟩ ρ s (s8 r):=by
 unfold NP at h;split at h;rename_i O;cases h;have h:=E7 (P:=P) (s:=s) (d:=d) (t:=t) (u:=u) (ty:=ty) (p:=p) (af:=af) (g:=g) I K O.1;rw[show IntKind.u8.bits=8 from rfl,mz a m.toNat AB] at h;exact h;cases h
theorem Qm(K:ρ x=s8 a)(O:ρ y=s8 b)(h:MH a b=some r):Yl P ⟨d,.binOp .or t x y u,ty,p,af,g⟩ ρ s (s8 r):=by
 unfold MH at h;split at h;rename_i I;cases h;have h:=Yl.or (P:=P) (s:=s) (d:=d) (t:=t) (u:=u) (ty:=ty) (p:=p) (af:=af) (g:=g) K O;rw[BitVec.toNat_or,Sa I.1,Sa I.2,Y1 (wb (n:=8) I.1 I.2)] at h;exact h;cases h
theorem Xc(K:ρ x=s8 a)(O:ρ y=s8 b)(h:NN a b=some r):Yl P ⟨d,.binOp .and t x y u,ty,p,af,g⟩ ρ s (s8 r):=by
 unfold NN at h;split at h;rename_i I;cases h;have h:=Dt (P:=P) (s:=s) (d:=d) (t:=t) (u:=u) (ty:=ty) (p:=p) (af:=af) (g:=g) K O;rw[vG,Sa I.1,Sa I.2,Y1 (uB w5 I.1)] at h;exact h;cases h
end
def Up(a b:Nat):Option Nat:=if a<4294967296/\b<4294967296 then some (a&&& b) else none
def Uh(a:Nat)(n:Int):Option Nat:=if 0<=n/\n<=32/\a*2^n.toNat<4294967296 then some (a*2^n.toNat) else none
def JX(n:Int):Option Nat:=if 0<=n/\n<=8 then some ((1<<<n.toNat)%256) else none
section
variable {e:TypeId}{x y:Operand}{b r:Nat}{m:Int}
theorem wrap32{m:Nat}(h:m<4294967296):IntKind.u32.wrap (m:Int)=m:=by
 simp only[IntKind.wrap,IntKind.bits,IntKind.signed];simp;omega
theorem Zq{m:Nat}(h:m<4294967296):(BitVec.ofInt IntKind.u32.bits (m:Int)).toNat=m:=by
 simp[IntKind.bits,wG];omega
theorem bC(K:ρ x=.int .u32 (a:Int))(O:ρ y=.int .u32 (b:Int))(h:Up a b=some r):Yl P ⟨d,.binOp .and t x y u,ty,p,af,g⟩ ρ s (.int .u32 (r:Int)):=by
 unfold Up at h;split at h;rename_i I;cases h;have h:=Dt (P:=P) (s:=s) (d:=d) (t:=t) (u:=u) (ty:=ty) (p:=p) (af:=af) (g:=g) K O;rw[vG,Zq I.1,Zq I.2,wrap32 (uB w5 I.1)] at h;exact h;cases h
theorem cO(K:ρ x=.int .u32 (a:Int))(O:ρ y=iV m)(h:Uh a m=some r):Yl P ⟨d,.binOp .shl t x y u,ty,p,af,g⟩ ρ s (.int .u32 (r:Int)):=by
 unfold Uh at h;split at h
 .rename_i I;cases h;have h:=Ho (P:=P) (s:=s) (d:=d) (t:=t) (u:=u) (ty:=ty) (p:=p) (af:=af) (g:=g) K O I.1;have e:IntKind.u32.wrap ((a:Int)*2^(min m.toNat IntKind.u32.bits))=((a*2^m.toNat:Nat):Int):=by
   have U:min m.toNat IntKind.u32.bits=m.toNat:=by simp[IntKind.bits];omega
   rw[U,← wrap32 I.2.2];simp
  rw[e] at h;exact h
 .cases h
theorem Oq(I:ρ x=s8 1)(K:ρ y=iV m)(h:JX m=some r):Yl P ⟨d,.binOp .shl t x y u,ty,p,af,g⟩ ρ s (s8 r):=by
 unfold JX at h;split at h
 .rename_i O;cases h;have h:=Ho (P:=P) (s:=s) (d:=d) (t:=t) (u:=u) (ty:=ty) (p:=p) (af:=af) (g:=g) I K O.1;have e:IntKind.u8.wrap (((1:Nat):Int)*2^(min m.toNat IntKind.u8.bits))=(((1<<<m.toNat)%256:Nat):Int):=
   (by decide:∀k:Fin 9,IntKind.u8.wrap (((1:Nat):Int)*2^(min k.1 IntKind.u8.bits))=(((1<<<k.1)%256:Nat):Int)) ⟨m.toNat,AB⟩
  rw[e] at h;exact h
 .cases h
theorem e9(I:ρ x=s8 a)(K:ρ y=s8 b)(hb:b<=256):Yl P ⟨d,.binOp .sub t x y u,ty,p,af,g⟩ ρ s (s8 ((a+(256 - b))%256)):=by
 have h:=D3 (P:=P) (s:=s) (d:=d) (t:=t) (u:=u) (ty:=ty) (p:=p) (af:=af) (g:=g) I K;have e:IntKind.u8.wrap ((a:Int) - (b:Int))=(((a+(256 - b))%256:Nat):Int):=by
  simp only[IntKind.wrap,IntKind.bits,IntKind.signed];simp;omega
 rw[e] at h;exact h
theorem iq{kd:IntKind}{E:LH}(xs:List Nat):(rA xs.length (rN kd)).r E (xs.map λx=>Value.int kd ((x:Nat):Int)) xs:=by
 refine⟨V,xs.map λx=>[Value.int kd ((x:Nat):Int)],?_,AM,λi x us I hu=>?_⟩
 .induction xs with
  | nil=>rfl
  | cons x xs K=>simp[← K]
 .rw [tV,I] at hu;exact(f8 hu).symm
theorem P7{α:Type}{kk:Nat}{pp:Rp α}{E:LH}{x:α}(h:pp.r E us x):(rA kk pp).r E (List.replicate kk us).flatten (List.replicate kk x):=
 ⟨AM,List.replicate kk us,V,AM,λi y ws I hw=>by
  rw[vq] at I hw
  split at I
  .rename_i K
   rw[d9 K] at hw
   cases I;cases hw
   exact h
  .cases I⟩
theorem dE{k:Nat}{z v:Value}(ht:P.underlying t=some (.array k e))(I:zeroOf P t=some z)(K:BA P e=some sz)(O: .agg z.cells=v):Yl P ⟨d,.build t #[],ty,p,af,g⟩ ρ s v:=by
 refine G7 Ta ?_;unfold Instr.build;refine AH (x:=zeroValue t) _ (Is I (AH _ _ (C4 ht (AH (x:=Go.sizeOf e) _ (F4 K ?_)))));subst O;simp[Instr.fill,lp,pure]
theorem gZ{k:Nat}{z v:Value}{L:Env}{ps:Array (Nat×Operand)}{vs:List (Nat×Value)}(h:FV L ρ)(ht:P.underlying t=some (.array k e))(O:zeroOf P t=some z)(U:BA P e=some sz)(Y:ps.toList.mapM (λq=>(ev L q.2).map λv=>(q.1,v))=some vs)(I:(Instr.fill (λi=>some (i*sz,sz)) z.cells vs).map Value.agg=some v):Yl P ⟨d,.build t ps,ty,p,af,g⟩ ρ s v:=by
 refine G7 Ta ?_;unfold Instr.build;refine AH (x:=zeroValue t) _ (Is O (AH _ _ (C4 ht (AH (x:=Go.sizeOf e) _ (F4 U ?_)))));have Z:=SS h Y;have ac:(ps.map λ(j,x)=>(j,ρ x)).toList=vs:=by rw[← Z,we]
 rw[ac];cases K:Instr.fill (λi=>some (i*sz,sz)) z.cells vs with
 | none=>rw[K] at I;cases I
 | some cells=>rw[K] at I;cases I;exact⟨rfl,rfl⟩
end
section
variable {e:TypeId}
end
section
variable {b:Frame}{fuel:Nat}{listed:Array Bool}
variable {x y:Operand}{e:TypeId}{i:Nat}
end
def Ii(b:Frame)(T:Av_)(ds:Ld_)(todo:Li_)(ch:List PanicEntry):Frame:={b with tmps:=T,todo:=todo,defers:=ds,mode:=.panicking ch}
def raised(v:Value):List PanicEntry:=[{v,recovered:=false}]
def taken(v:Value):List PanicEntry:=[{v,recovered:=true}]
section
variable (J:Judge P)(Q:Gs_)
def JP(b:Frame)(n:Nat)(L:Env)(ds:Ld_)(cs:Lf_)(ch:List PanicEntry)(s:St):Prop:=
 ∀T,Has n L T->∀todo,J.ok Q (G (Ii b T ds todo ch) cs) s
end
variable {bc:Frame}{dsc:Ld_}{ch:List PanicEntry}{T Tc:Av_}{todoc:Li_}
section
variable {b:Frame}
variable {i:Nat}{x:Operand}
theorem JL.panic{t:TypeId}(K:ops[i]?=some ⟨d,.panic x,ty,p,af,g⟩)(O:b.roundOf=none)(hw:A9 L ops ⟨d,.panic x,ty,p,af,g⟩=some true)(U:ev L x=some (.iface t v))
  (h:JP J Q b n L ds cs (raised (.iface t v)) s):JL J Q b n L ds (Ag ops i rest k) cs s:=λT I=>
 Bk V (λw=>by
  have he:execOp (BZ T) ⟨d,.panic x,ty,p,af,g⟩=.halt (.panic (.iface t v)):=by
   simp[execOp,Instr.panic,I.ev U,goPanic,bind,Sem.bind]
  rw[stepG_op K (CI I hw)]
  simp[O,stepG.apply,he,Sem.run,Sem.runT,Sem.events,GStep.after,fr,Ii,Frame.raise,G,raised,seen_none]) (h T I (Ag ops i rest k))
theorem JP.pop(I:P.funcs[b.fn]?=some fn)(h:J.ok Q (G (Ii bc Tc dsc todoc ch) cs) s):JP J Q b n L [] (fr bc Tc dsc todoc::cs) ch s:=λT K todo=>
 Bk V (λw=>by simp[G,stepG,unwind,Ii,fr,Frame.raise,Frame.catches,I]) h
theorem JP.Un{f:FuncId}{c:Code}{caps:Lv_}(ai:b.roundOf=none)(K:P.funcs[f]?=some fn)(U:(fn.name== "runtime.NumGoroutine")=false)(hb:fn.body=some c)(Y:(vs++caps).length<=fn.ntmps)
  (h:∀T,Has n L T->∀todo,JL J Q (baseD f) fn.ntmps (HD 0 (vs++caps)) [] [.code c] (Ii b T ds todo ch::cs) s):JP J Q b n L (MG f vs.toArray caps.toArray::ds) cs ch s:=λT Z todo=>by
 have ac:¬fn.name= "runtime.NumGoroutine" :=by simpa using U
 refine Bk rfl (λw=>?_) (h T Z todo ((vs++caps).toArray++Array.replicate (fn.ntmps - (vs++caps).length) undef) ⟨by simp;simp at Y;omega,λt v ht=>?_⟩);rw[Ci (b:=baseD f) rfl];have:=enter_atD (P:=P) (vs++caps).toArray K hb;simp only[uR] at this;rw[← this];simp[G,stepG,unwind,callDeferred,Ii,MG,invoke,callFunc,K,ac,hb,GStep.after,seen_none]
 .let⟨_,I⟩:=Ln ht;have ag:t<(vs++caps).length:=by
   rcases mt t (vs++caps).length with O | O;exact O;simp only[uO] at I;have:=(d7.1 I).1;omega
  rw[no,ua (by simpa using ag)];simp only[uO] at I;rw[tq,I];rfl
theorem ah{I:List PanicEntry}(K:ops[i]?=some ⟨d,.call ⟨.builtin .recover,#[],ats⟩,ty,p,af,g⟩)(O:b.roundOf=none)(U:b.kind=.deferred)(ac:BC n d=true)(hw:A9 L ops ⟨d,.call ⟨.builtin .recover,#[],ats⟩,ty,p,af,g⟩=some true)
  (h:JL J Q b n (AG L d v) ds (Ah ops rest k) (Ii bc Tc dsc todoc ({v,recovered:=true}::I)::cs) s):
  JL J Q b n L ds (Ag ops i rest k) (Ii bc Tc dsc todoc ({v,recovered:=false}::I)::cs) s:=λT Y=>
 Bk V (λw=>by
  have he:execOp (BZ T) ⟨d,.call ⟨.builtin .recover,#[],ats⟩,ty,p,af,g⟩=.pure .recover:=by
   simp[execOp,resolve,Deferred.ofValue,invoke,bind,Sem.bind,pure,Go.builtin]
  have Z:=HQ (b:=b) (ds:=ds) (k:=k) T ops i rest v _ K
  simp only[fr,O,U] at Z
  rw[stepG_op K (CI Y hw)]
  simp[O,U,stepG.apply,he,Sem.run,Sem.runT,Sem.events,GStep.after,fr,Ii,tryRecover,G,seen_none,Z]) (h _ (Y.put ac _))
theorem ab(I:ops[i]?=some ⟨d,.call ⟨.builtin .recover,#[],ats⟩,ty,p,af,g⟩)(K:b.roundOf=none)(O:b.kind=.deferred)(Z:BC n d=true)(hw:A9 L ops ⟨d,.call ⟨.builtin .recover,#[],ats⟩,ty,p,af,g⟩=some true)
  (h:JL J Q b n (AG L d .nilIface) ds (Ah ops rest k) (FL bc Tc dsc todoc::cs) s):
  JL J Q b n L ds (Ag ops i rest k) (FL bc Tc dsc todoc::cs) s:=λT U=>
 Bk V (λw=>by
  have he:execOp (BZ T) ⟨d,.call ⟨.builtin .recover,#[],ats⟩,ty,p,af,g⟩=.pure .recover:=by
   simp[execOp,resolve,Deferred.ofValue,invoke,bind,Sem.bind,pure,Go.builtin]
  have Y:=HQ (b:=b) (ds:=ds) (k:=k) T ops i rest .nilIface _ I
  simp only[fr,K,O] at Y
  rw[stepG_op I (CI U hw)]
  simp[K,O,stepG.apply,he,Sem.run,Sem.runT,Sem.events,GStep.after,fr,FL,tryRecover,G,seen_none,Y]) (h _ (U.put Z _))
theorem JO.lj(K:b.kind=.deferred)(O:P.funcs[b.fn]?=some fn)(I:fn.results=#[])(h:J.ok Q (G (FL bc Tc dsc todoc) cs) s):JO J Q b n L [] (Ii bc Tc dsc todoc (taken v)::cs) s:=λT Y todo=>by
 refine Bk rfl (λw=>?_) h
 have U:=results_none I T P w
 have e2:=λ(x:Array Event)=>events_results_none (P:=P) (w:=w) I T x
 simp[G,stepG,unwind,FL,Ii,O,U,e2,doReturn,K,GStep.after,seen_none,taken]
end
open Go.Proofs
abbrev Dq:=Int×Int×Int
abbrev AK:=List Dq
abbrev AS:=List AK
abbrev A6:=List (List Int)
abbrev Bf:=A6×AK
abbrev AI:=rP rI De
open Go.Proofs.Tryz
abbrev A5:=@Go.Proofs.Tryz.type3
def AE:=Bg A5
abbrev DH:=@Go.Proofs.Tryz.type27
def Bc:=Bg DH
abbrev IS:=@Go.Proofs.Tryz.type91
def Hr:=Bg IS
abbrev E4:=@Go.Proofs.Tryz.type85
def KO:=Bg E4
abbrev Fq:=@Go.Proofs.Tryz.type201
def PF:=Bg Fq
def A7:=Dv BT
def N6:=A8 Tryz.func54 rfl
def Eo:=Bg Tryz.type22
def EJ:=Dv Ar
def Ej:=Bg Tryz.type23
def Fe:=Dv Am
def Dl:=Dv An
def BU:=Es DH
abbrev D6:=@Go.Proofs.Tryz.type28
def CU:=Bg D6
def Fw:=Dv Ak
def M8:=Es E4
abbrev HN:=@Go.Proofs.Tryz.type25
def B8:=Bg HN
abbrev CD:=@Go.Proofs.Tryz.underlying85
def Kg:=Dv CD
def KM:=Es IS
def Jv:=Es Tryz.type61
def C8:=Dv A0
def Fx:=Bg Tryz.type61
abbrev Cg:=@Go.Proofs.Tryz.underlying61
def Hy:=Dv Cg
def Ca:=Es A5
def M5:=A8 Tryz.func31 rfl
def So:=A8 Tryz.func43 rfl
def HO:=A8 Tryz.func35 rfl
def Oc:=Bg Tryz.type4
def Sk:=Dv Tryz.underlying4
def By:=Bg Tryz.type64
abbrev BE:=@Go.Proofs.Tryz.underlying64
def BP:=Dv BE
def IV:=Bg Tryz.type170
def IU:=A8 Tryz.func47 rfl
def Kh:=Es D6
def Ob:=Es Tryz.type4
def N9:=A8 Tryz.func62 rfl
def M6:=Es Tryz.type175
def Ju:=A8 Tryz.func142 rfl
def Sw:=Es Tryz.type64
abbrev BR:=@Go.Proofs.Tryz.underlying139
def Ps:=Dv BR
abbrev Al:=@Go.Proofs.Tryz.underlying67
def Sj:=Dv Al
def Sq:=A8 Tryz.func32 rfl
def Sm:=A8 Tryz.func146 rfl
def Sl:=A8 Tryz.func127 rfl
def L5:=Dv Tryz.underlying186
def PE:=Bg Tryz.type186
abbrev Hm:=@Go.Proofs.Tryz.func61
def Pw:=A8 Hm rfl
abbrev CC:=@Go.Proofs.Tryz.underlying170
def L4:=Dv CC
def Su:=Es Fq
abbrev IR:=@Go.Proofs.Tryz.underlying201
def Pt:=Dv IR
abbrev Hj:=@Go.Proofs.Tryz.type130
def Ll:=Bg Hj
def Pz:=Es Hj
abbrev B5:=@Go.Proofs.Tryz.underlying130
def Pr:=Dv B5
def Ir:=Dv Tryz.underlying21
def PG:=Bg Tryz.type69
def H4:=Es HN
def PC:=A8 Tryz.func25 rfl
def Sp:=A8 Tryz.func45 rfl
def Px:=A8 Tryz.func19 rfl
def M3:=A8 Tryz.func16 rfl
def N7:=A8 Tryz.func13 rfl
def Py:=A8 Tryz.func58 rfl
def Lm:=Bg Tryz.type56
abbrev EI:=@Go.Proofs.Tryz.underlying56
def Pv:=Dv EI
def M7:=A8 Tryz.func49 rfl
def Sn:=A8 Tryz.func48 rfl
abbrev C3:=@Go.Proofs.Tryz.underlying107
def Pu:=Dv C3
abbrev FQ:=@Go.Proofs.Tryz.type107
def Gw:=Bg FQ
def KJ:=Es FQ
def Oa:=Bg Tryz.type182
def Sv:=Es Tryz.type182
def N8:=A8 Tryz.func73 rfl
abbrev E5:=@Go.Proofs.Tryz.func40
def KL:=A8 E5 rfl
abbrev Fk:=@Go.Proofs.Tryz.func36
def Ss:=A8 Fk rfl
def Sr:=A8 Tryz.func37 rfl
theorem mixed:Tryz.prog.follows .mixedOrders=true:=rfl
theorem Zk:CM Tryz.prog 27 (rP rI (rP rI rI)) true 2:=CM.three An (Fp BT AE) (Fp BT AE) (Fp BT AE) AC AD AD AD V V V Bc
abbrev CZ:=@Go.Proofs.Tryz.underlying91
theorem iX:CM Tryz.prog 91 (rP rI rI) true 2:=CM.two CZ (Fp BT AE) (Fp BT AE) AC AD AD V V Hr
theorem jx:CM Tryz.prog 85 (rA 5 rI) true 2:=CM.arr (kk:=5) (Fp BT AE) CD KO
theorem iZ:CM Tryz.prog 199 (rA 10 rI) true 2:=CM.arr (kk:=10) (Fp BT AE) underlying199 (Bg type199)
theorem YE:CM Tryz.prog 201 (rA 5 (rA 10 rI)) true 3:=CM.arr (kk:=5) iZ IR PF
abbrev GL:=@Go.Proofs.Tryz.underlying221
theorem k8:CM Tryz.prog 221 (rP (rN .u8) (rA 5 (rA 10 rI))) true 4:=CM.two GL ((CM.nat underlying5 (Bg type5)).up AD) YE AC AD AD V V (Bg type221)
theorem Kw:HX Tryz.prog 3 rI false:=(Fp BT AE).key AD
theorem Ut:HX Tryz.prog 91 (rP rI rI) true:=iX.key AD
theorem Yk:HX Tryz.prog 201 (rA 5 (rA 10 rI)) true:=YE.key AD
theorem Yz:HX Tryz.prog 221 (rP (rN .u8) (rA 5 (rA 10 rI))) true:=k8.key AD
variable {J:Judge Tryz.prog}
def f91(fu_:Nat)(p0:Int)(p1:Int)(p2:Int):Option Bool:=Option.bind (if p1<=p0 then(some (decide (p0<=p2))) else(some false)) λx1=>some x1
variable{p3:Int}{fu_:Nat}
theorem O5{p2:Int}{r:Bool}(I:f91 fu_ p3 p1 p2=some r):A2 J 54 [iV p3,iV p1,iV p2] E [] (λw E' B'=>w=.bool r/\B'=[]):=by
 refine Bq func54 λQ am cs H K U=>?_;unfold f91 at I;refine Ai I λx1 Y Z=>C 10 V (Gn 8 1 [] [(14,.bool x1)] (λap ac ag=>?_) (λO=>?_));refine C 2 V ?_;cases Z;exact AX func54 V V (U ac V ⟨V,V⟩ ag);refine Hb 10 Y (λai aj=>?_) (λai al=>?_);refine C 4 V ?_;cases aj;exact O AL K V;refine C 4 V ?_;cases al;exact O AL K V
def f86(fu_:Nat)(p0:Int×Int×Int)(p1:Int)(p2:Int):Option Int:=(Ax (p1 - 1)).bind λI=>(f91 fu_ p0.1 0 I).bind λK=>Option.bind (if(!K)=true then(some true) else((Ax (p1 - 1)).bind λO=>(f91 fu_ p0.2.1 0 O).bind λU=>some (!U))) λY=>if Y=true then(some 3) else(if p0.1=p0.2.1 then(some 8) else((f91 fu_ p0.2.2 1 p2).bind λZ=>if(!Z)=true then(some 1) else(some 0)))
theorem mG{p0:Int×Int×Int}{r:Int}(ac:f86 fu_ p0 p1 p3=some r):A2 J 77 [.agg #[iV p0.1,iV p0.2.1,iV p0.2.2],iV p1,iV p3] E [] (λw E' B'=>w=iV r/\B'=[]):=by
 refine Bq func77 λQ b2 cs H am U=>?_;unfold f86 at ac;refine C 2 V (Cx am λr2 b3 Y O ap=>?_);refine C 6 V (BS 0 O An AE A7 ?_);refine Ai ac λb4 aq av=>C 1 V (B9 aq V V V (Ai av λb5 aw ay=>Cs (O5 aw) V V N6 ap λb6 I ag=>As V (λ_ h=>CN (h _ _ V)) (Ai ay λaz a0 a1=>C 1 V (Gn 14 1 [] [(2,iV p3),(3,AA r2 0),(21,.bool az)] (λca K Z=>?_) (λai=>?_)))));refine C 2 V (Co a1 (λa2 a3=>?_) (λa2 a4=>?_));refine C 4 V ?_;cases a3;exact AX func77 V V (U ((Y.Ae I).Ae K) V ⟨V,V⟩ Z);refine C 2 V (BS 0 (O.Aj (I.Ae K)) An AE A7 ?_);refine BS 1 (O.Aj (I.Ae K)) An AE A7 ?_;refine C 3 V (AW a4 (λa5 a6=>?_) (λa5 a7=>?_));refine C 4 V ?_;cases a6;exact AX func77 V V (U ((Y.Ae I).Ae K) V ⟨V,V⟩ Z);refine C 2 V (BS 2 (O.Aj (I.Ae K)) An AE A7 ?_);refine Ai a7 λcc a8 a9=>C 1 V (Cs (O5 a8) V V N6 Z λce aj al=>As V (λ_ h=>CN (h _ _ V)) (C 2 V (Co a9 (λbb be=>?_) (λbb bg=>?_))));refine C 4 V ?_;cases be;exact AX func77 V V (U (((Y.Ae I).Ae K).Ae aj) V ⟨V,V⟩ al);refine C 6 V ?_;cases bg;exact AX func77 V V (U (((Y.Ae I).Ae K).Ae aj) V ⟨V,V⟩ al);refine FX 14 a0 (λbi bn=>?_) (λbi bo=>?_);refine C 7 V ?_;cases bn;exact ai AL ag V;refine BS 1 (O.Aj I) An AE A7 ?_;refine Ai bo λci bv bw=>C 1 V (B9 bv V V V (Ai bw λco bx bz=>Cs (O5 bx) V V N6 ag λcp b0 b1=>As V (λ_ h=>CN (h _ _ V)) (C 1 V ?_)));cases bz;exact ai b0 b1 V
def Q1(fu_:Nat)(K:List Int)(I:Int):Option (Bn Int ((Int)⊕(Unit))):=if I<(K.length:Int) then((ix K I).bind λO=>(f91 fu_ O 1 9).bind λU=>if(!U)=true then(some (.done (Sum.inl 1))) else((Ax (I+1)).bind λY=>some (.more Y))) else(some (.done (Sum.inr ())))
def Rf(fu_:Nat)(p0:Bf)(I:Int):Option (Bn Int ((Int)⊕(Unit))):=if I<(p0.1.length:Int) then((ix p0.1 I).bind λK=>if 3<(K.length:Int) then(some (.done (Sum.inl 6))) else(Option.bind (iter (Q1 fu_ K) fu_ 0) λO=>Sum.elim (λr=>some (.done (Sum.inl r))) (λY=>(Ax (I+1)).bind λU=>some (.more U)) O)) else(some (.done (Sum.inr ())))
def YI(fu_:Nat)(p0:Bf)(I:Int):Option (Bn Int ((Int)⊕(Unit))):=if I<(p0.2.length:Int) then((ix p0.2 I).bind λO=>(f86 fu_ O (p0.1.length:Int) 9).bind λK=>if K≠0 then(some (.done (Sum.inl K))) else((Ax (I+1)).bind λU=>some (.more U))) else(some (.done (Sum.inr ())))
def f47(fu_:Nat)(p0:Bf):Option Int:=if(p0.1.length:Int)<2 then(some 7) else(if 5<(p0.1.length:Int) then(some 6) else(Option.bind (iter (Rf fu_ p0) fu_ 0) λI=>Sum.elim (λr=>some r) (λO=>if 8<(p0.2.length:Int) then(some 6) else(Option.bind (iter (YI fu_ p0) fu_ 0) λK=>Sum.elim (λr=>some r) (λU=>some 0) K)) I))
variable{p0:Bf}
abbrev G1:=@Go.Proofs.Tryz.func53
theorem mU{ap:Av}(ci:Aq (rL rI) E a1 c2 p0.1)(co:Aq AI E ap sz p0.2){r:Int}(a5:f47 fu_ p0=some r):A2 J 53 [.agg #[sV a1 p0.1 c2,sV ap p0.2 sz]] E [] (λw E' B'=>w=iV r/\B'=[]):=by
 refine Bq G1 λQ hz cs H cp K=>?_;unfold f47 at a5;refine C 2 V (Cx cp λU ct I Y av=>?_);refine C 5 V (BS 0 Y A0 Eo EJ ?_);refine BB Ar V V V (C 9 V (AW a5 (λcw cy=>?_) (λcw c0=>?_)));refine C 4 V ?_;cases cy;exact AX G1 V V (K I V ⟨V,V⟩ av);refine C 6 V (AW c0 (λc3 c4=>?_) (λc3 c5=>?_));refine C 4 V ?_;cases c4;exact AX G1 V V (K I V ⟨V,V⟩ av);refine C 5 V (BS 0 Y A0 Eo EJ ?_);refine BB Ar V V V ?_;let⟨a6,c6,aw⟩:=bs c5;refine C 2 V (Bs (λL s=>∃(a7:Unit) (ay:LH),a6=Sum.inr a7/\Jm ct H ay [] [(1,AA U 0)] L s) ?_ ?_);rintro _ _ ⟨a7,ay,rfl,rfl,rfl,O,a8⟩;refine have c7:=elim_inr aw;C 3 V (BS 1 (Y.Aj O) A0 Ej Fe ?_);refine BB Am V V V (C 2 V (AW c7 (λc8 c9=>?_) (λc8 dd=>?_)));refine C 4 V ?_;cases c9;exact AX G1 V V (K (I.Ae O) V ⟨V,V⟩ a8);refine C 4 V (BS 1 (Y.Aj O) A0 Ej Fe ?_);refine BB Am V V V ?_;let⟨a9,dj,bb⟩:=bs dd;refine C 2 V (Bs (λL s=>∃(be:Unit) (bg:LH),a9=Sum.inr be/\Jm ay H bg [] [] L s) ?_ ?_);rintro _ _ ⟨be,bg,rfl,rfl,rfl,ea,eb⟩;refine have ec:=elim_inr bb;C 4 V ?_;cases ec;exact AX G1 V V (K ((I.Ae O).Ae ea) V ⟨V,V⟩ eb);intro ed;refine Ay (Dc dj (λaz=>[]) (λaz=>[(1,AA U 0),(46,sV ap p0.2 sz),(47,iV (p0.2.length:Int)),(48,iV az)]) AL a8 ?_);rintro az ee Z bi bn ⟨hA,aj⟩ ef;have bo:=aj;unfold YI at bo;refine C 5 V (AW bo (λeg ej=>?_) (λeg ek=>?_));refine Ai ej λhB el em=>C 5 V (B7 (co.Aj ((I.Ae O).Ae Z)) el Am Bc ?_);rintro hC hD _ ⟨_,_,rfl,rfl,⟨_,_,rfl,rfl,rfl⟩⟩ eo;refine Ch eo Dl Bc V V (Cq bi BU λhE er=>?_);refine BX 0 er Bc λeu=>?_;refine Ff 0 eu V λhF a0 ew ex=>C 3 V (Ch ew Dl Bc V V (BS 0 (Y.Aj ((O.Ae Z).Ae a0)) A0 Eo EJ ?_));refine BB Ar V V V (Ai em λhG ey eA=>Cs (mG ey) V V (A8 func77 V) ex λhH bv bw=>C 7 V (AW eA (λeC eN=>?_) (λeC e0=>?_)));refine C 5 V ?_;cases eN;obtain rfl:=bn _ aj;have e1:=elim_inl bb;cases e1;exact AX G1 V V (K ((((I.Ae O).Ae Z).Ae a0).Ae bv) V ⟨V,V⟩ bw);refine Ai e0 λe3 e4 e5=>C 3 V (Br e4 V V V (C 2 V ?_));cases e5;exact ef e3 ((Z.Ae a0).Ae bv) bw V aj;refine A3 V ?_;cases ek;have e6:a9=(Sum.inr ()):=(bn _ aj).symm;exact AF (ed _ _ ⟨(),ee,e6,V,V,Z,bi⟩) V;intro e7;refine Ay (Dc c6 (λac=>[]) (λac=>[(1,AA U 0),(21,sV a1 p0.1 c2),(22,iV (p0.1.length:Int)),(23,iV ac)]) AL av ?_);rintro ac bx ag a2 a3 ⟨hI,ai⟩ e8;have bz:=ai;unfold Rf at bz;refine C 5 V (AW bz (λff fk=>?_) (λff fl=>?_));refine Ai fk λb0 fm fo=>C 5 V (B7 (ci.Aj (I.Ae ag)) fm Ar CU ?_);rintro hJ hK _ ⟨fs,fv,rfl,fw⟩ fN;refine CX 0 fN Fw V V V (C 6 V (BB Ak V V V (C 2 V (AW fo (λgc ge=>?_) (λgc gg=>?_)))));refine C 4 V ?_;cases ge;obtain rfl:=a3 _ ai;have gh:=elim_inl aw;cases gh;exact AX G1 V V (K (I.Ae ag) V ⟨V,V⟩ a2);refine C 4 V (BB Ak V V V ?_);let⟨b1,gt,b2⟩:=bs gg;refine C 2 V (Bs (λL s=>∃(b3:Unit) (b4:LH),b1=Sum.inr b3/\Jm bx H b4 [] [(1,AA U 0),(21,sV a1 p0.1 c2),(22,iV (p0.1.length:Int)),(23,iV ac)] L s) ?_ ?_);rintro _ _ ⟨b3,b4,rfl,rfl,rfl,gB,gE⟩;refine have gO:=elim_inr b2;Ai gO λg3 g4 g5=>C 2 V (Br g4 V V V (C 2 V ?_));cases g5;exact e8 g3 (ag.Ae gB) gE V ai;intro g6;refine Ay (Dc gt (λa4=>[]) (λa4=>[(1,AA U 0),(21,sV a1 p0.1 c2),(22,iV (p0.1.length:Int)),(23,iV ac),(30,sV fs b0 fv),(31,iV (b0.length:Int)),(32,iV a4)]) AL a2 ?_);rintro a4 g7 al b5 b6 ⟨hL,am⟩ g8;have ca:=am;unfold Q1 at ca;refine C 5 V (AW ca (λha hb=>?_) (λha hc=>?_));refine Ai hb λhM he hf=>C 5 V (B7 (fw.Aj al) he Ak AE ?_);rintro hN hO _ rfl hk;refine CX 0 hk A7 V V V (Ai hf λhP hl hm=>C 5 V (Cs (O5 hl) V V N6 b5 λhQ cc ce=>As V (λ_ h=>CN (h _ _ V)) (A1 (Co hm (λhn ho=>?_) (λhn hp=>?_)))));refine C 4 V ?_;cases ho;obtain rfl:=b6 _ am;have hq:=elim_inl b2;cases hq;obtain rfl:=a3 _ ai;have hr:=elim_inl aw;cases hr;exact AX G1 V V (K (((I.Ae ag).Ae al).Ae cc) V ⟨V,V⟩ ce);refine Ai hp λhu hv hw=>C 3 V (Br hv V V V (C 2 V ?_));cases hw;exact g8 hu (al.Ae cc) ce V am;refine A3 V ?_;cases hc;have hx:b1=(Sum.inr ()):=(b6 _ am).symm;exact AF (g6 _ _ ⟨(),g7,hx,V,V,al,b5⟩) V;refine A3 V ?_;cases fl;have hy:a6=(Sum.inr ()):=(a3 _ ai).symm;exact AF (e7 _ _ ⟨(),bx,hy,V,V,ag,a2⟩) V
def Q7(fu_:Nat)(p0:Bf)(K:(List Int)×Int):Option (Bn ((List Int)×Int) ((List Int))):=if K.2<(p0.2.length:Int) then((ix p0.2 K.2).bind λI=>(ix K.1 I.2.1).bind λU=>(Ax (U+I.2.2)).bind λO=>(ix K.1 I.2.1).bind λag=>(ix (K.1.set (Int.toNat I.2.1) O) I.1).bind λY=>(Ax (Y - I.2.2)).bind λZ=>(ix (K.1.set (Int.toNat I.2.1) O) I.1).bind λai=>(Ax (K.2+1)).bind λac=>some (.more (((K.1.set (Int.toNat I.2.1) O).set (Int.toNat I.1) Z),ac))) else(some (.done K.1))
def f84(fu_:Nat)(p0:Bf):Option ((List Int)):=Option.bind (iter (Q7 fu_ p0) fu_ ((List.replicate 5 (0:Int)),0)) λI=>some I
theorem UD{a2:Av}{a3:Nat}(ey:Aq (rL rI) E a1 c2 p0.1)(b3:Aq AI E a2 a3 p0.2){r:(List Int)}(bb:f84 fu_ p0=some r):A2 J 43 [.agg #[sV a1 p0.1 c2,sV a2 p0.2 a3]] E [] (λw E' B'=>∃(be:Lv_),w=.agg be.toArray/\B'=[]/\(rA 5 rI).r E' be r):=by
 refine Bq func43 λQ eA cs H b4 b5=>?_;unfold f84 at bb;refine C 2 V (Cx b4 λeC a4 bg b6 ca=>?_);refine Cq ca M8 λav cc=>?_;refine C 3 V (Cq cc M8 λU ce=>?_);refine C 4 V (Cf Cg B8 V V V (BS 1 b6 A0 Ej Fe ?_));refine BB Am V V V ?_;let⟨ci,co,cp⟩:=bs bb;refine C 2 V (Bs (λL s=>∃(al:LH) (Y:Lv_),Jn a4 H al [bX av (([]:Lv_)++(List.replicate 5 (iV 0):Lv_)).toArray 85,bX U (([]:Lv_)++Y).toArray 85] [(2,AA av 0),(3,AA U 0)] L s ((rA 5 rI).r al Y ci)) ?_ ?_);rintro _ _ ⟨al,Y,rfl,rfl,ct,bi,K⟩;refine C 2 V (As V (λ_ h=>JE K Kg KO (h _ _ V) (H5 1 bi V)) (IY (us:=Y) (o:=0) 0 V V V bi V V V (by rw[C5 (kk:=5) (pp:=rI) K];exact Bg E4) ((rA 5 rI).one K) V (by rw[C5 (kk:=5) (pp:=rI) K,C5 (kk:=5) (pp:=rI) (H9 (E:=al) (pp:=rI) rfl)];omega) λbn=>?_));rw[Lu (by rw[C5 (kk:=5) (pp:=rI) K,C5 (kk:=5) (pp:=rI) (H9 (E:=al) (pp:=rI) rfl)])] at bn ⊢;refine A1 (BO 1 bn V λbo=>?_);cases cp;exact CT V V (Bm func43 V (vs:=[.agg Y.toArray]) ⟨⟨_,V,DQ Kg (by rw[C5 (pp:=rI) K];exact Bg E4) (H5 (l:=[]) 0 bo V)⟩,trivial⟩) (FA 0 bo V λcw=>b5 (bg.Ae ct) V ⟨Y,V,V,K⟩ cw)
 .intro cy;refine Ay (Cm co (λL s Z=>∃(aw:LH) (am:Lv_),Jn a4 H aw [bX av (([]:Lv_)++(List.replicate 5 (iV 0):Lv_)).toArray 85,bX U (([]:Lv_)++am).toArray 85] [(2,AA av 0),(3,AA U 0),(8,sV a2 p0.2 a3),(9,iV (p0.2.length:Int)),(10,iV Z.2)] L s ((rA 5 rI).r aw am Z.1)) ⟨a4,(List.replicate 5 (iV 0):Lv_),V,V,AL,ce,(H9 V)⟩ ?_);rintro _ _ Z ⟨aw,am,rfl,rfl,a5,bv,ac⟩ c0 ⟨eN,a6⟩ c3;have bw:=a6;unfold Q7 at bw;refine C 5 V (AW bw (λc4 c5=>?_) (λc4 c6=>?_))
  .refine Ai c5 λI c7 c8=>C 5 V (B7 (b3.Aj (bg.Ae a5)) c7 Am Bc ?_);rintro e0 e1 _ ⟨_,_,rfl,rfl,⟨_,_,rfl,rfl,rfl⟩⟩ c9;refine Ch c9 Dl Bc V V (Cq bv BU λe3 dd=>?_);refine BX 2 dd Bc λdj=>?_;refine Ff 2 dj V λa7 ag ay ap=>C 2 V (EW 6 [U] ⟨⟨1,_,V⟩,trivial⟩ ap λht=>?_);refine Cz 0 ht An AE V V V V (Fb 1 ht 1 ay ap ⟨⟨1,_,V⟩,trivial⟩ A7 ?_);let⟨e4,bx,ea⟩:=bs c8;obtain⟨_,rfl,_,_,eb⟩:=IZ (kk:=5) (pp:=rI) (Rp.Aj _ ag ac) bx;refine Bj 2 ht V V (λ_ h s' hs=>KV (Rp.Aj _ ag ac) bx CD AE (h _ _ V) (h _ _ V)) (Bj 3 ht V V (λ_ h s' hs=>Az A7 (h _ _ V) (PW 1 ap V AV hs (eb 0 _ V))) (Cz 4 ht An AE V V V V (Fb 5 ht 2 ay ap ⟨⟨1,_,V⟩,trivial⟩ A7 ?_)));refine CJ [6,7,8] (Ai ea λO ec ed=>Br ec V V V ?_);let⟨e5,a8,ee⟩:=bs ed;obtain⟨_,rfl,_,_,e6⟩:=IZ (kk:=5) (pp:=rI) (Rp.Aj _ ag ac) a8;refine As V (λ_ h=>KV (Rp.Aj _ ag ac) a8 CD AE (h _ _ V) (h _ _ V)) (have az:=Rh (us:=[iV O]) (y:=O) (Rp.Aj _ ag ac) a8 V;IY (us:=[iV O]) (o:=Int.toNat (I.2.1)*1) 1 V V V ap V V V AE (by simp[Value.cells,Dz]) V az.2 λai=>?_);replace az:=az.1;generalize ef:JY am (Int.toNat (I.2.1)*1) [iV O]=bz at ai ⊢;have aq:(rA 5 rI).r a7 bz (Z.1.set (Int.toNat I.2.1) O):=by rw[← ef];exact az
   refine A1 (EW 6 [U] ⟨⟨1,_,V⟩,trivial⟩ ai λht=>?_);refine Cz 0 ht An AE V V V V (Fb 1 ht 0 ay ai ⟨⟨1,_,V⟩,trivial⟩ A7 ?_);let⟨e7,b0,eg⟩:=bs ee;obtain⟨_,rfl,_,_,ej⟩:=IZ (kk:=5) (pp:=rI) aq b0;refine Bj 2 ht V V (λ_ h s' hs=>KV aq b0 CD AE (h _ _ V) (h _ _ V)) (Bj 3 ht V V (λ_ h s' hs=>Az A7 (h _ _ V) (PW 1 ai V AV hs (ej 0 _ V))) (Cz 4 ht An AE V V V V (Fb 5 ht 2 ay ai ⟨⟨1,_,V⟩,trivial⟩ A7 ?_)));refine CJ [6,7,8] (Ai eg λaj ek el=>B9 ek V V V ?_);let⟨e8,a9,em⟩:=bs el;obtain⟨_,rfl,_,_,ff⟩:=IZ (kk:=5) (pp:=rI) aq a9;refine As V (λ_ h=>KV aq a9 CD AE (h _ _ V) (h _ _ V)) (have a0:=Rh (us:=[iV aj]) (y:=aj) aq a9 V;IY (us:=[iV aj]) (o:=Int.toNat (I.1)*1) 1 V V V ai V V V AE (by simp[Value.cells,Dz]) V a0.2 λb1=>?_);replace a0:=a0.1;generalize eo:JY bz (Int.toNat (I.1)*1) [iV aj]=b2 at b1 ⊢;have er:(rA 5 rI).r a7 b2 ((Z.1.set (Int.toNat I.2.1) O).set (Int.toNat I.1) aj):=by rw[← eo];exact a0
   refine Ai em λeu ew ex=>C 3 V (Br ew V V V (C 2 V ?_));cases ex;exact AF (c3 _ _ (((Z.1.set (Int.toNat I.2.1) O).set (Int.toNat I.1) aj),eu) ⟨a7,b2,V,V,(a5.Ae ag),b1,er⟩ a6) V
  .refine A3 V ?_;cases c6;obtain rfl:=c0 _ a6;exact AF (cy _ _ ⟨aw,am,V,V,a5,bv,ac⟩) V
def Pa(fu_:Nat)(p0:List Int)(p1:Int×Int×Int):Option ((List Int)):=(ix p0 p1.1).bind λK=>(Ax (K+p1.2.2)).bind λI=>(ix p0 p1.1).bind λY=>(ix (p0.set (Int.toNat p1.1) I) p1.2.1).bind λO=>(Ax (O - p1.2.2)).bind λU=>(ix (p0.set (Int.toNat p1.1) I) p1.2.1).bind λZ=>some ((p0.set (Int.toNat p1.1) I).set (Int.toNat p1.2.1) U)
theorem JI{w1:Lv_}{p0:List Int}{p1:Int×Int×Int}(Y:(rA 5 rI).r E w1 p0){r:(List Int)}(ay:Pa fu_ p0 p1=some r):A2 J 142 [.agg w1.toArray,.agg #[iV p1.1,iV p1.2.1,iV p1.2.2]] E [] (λw E' B'=>∃(az:Lv_),w=.agg az.toArray/\B'=[]/\(rA 5 rI).r E' az r):=by
 refine Bq func142 λQ b2 cs H a5 a6=>?_;unfold Pa at ay;refine C 2 V (JS.box (v:=.agg w1.toArray) V V V a5 V λr3 a7=>Cx a7 λb3 ai K aj a8=>?_);refine Cq a8 M8 λb4 Z=>?_;refine C 2 V (EW 6 [r3] ⟨⟨1,_,V⟩,trivial⟩ Z λht=>?_);refine Cz 0 ht An AE V V V V (Fb 1 ht 0 aj Z ⟨⟨1,_,V⟩,trivial⟩ A7 ?_);let⟨b5,a0,a9⟩:=bs ay;obtain⟨_,rfl,_,_,bb⟩:=IZ (kk:=5) (pp:=rI) (Rp.Aj _ K Y) a0;refine Bj 2 ht V V (λ_ h s' hs=>KV (kk:=5) (Rp.Aj _ K Y) a0 CD AE (h _ _ V) (h _ _ V)) (Bj 3 ht V V (λ_ h s' hs=>Az A7 (h _ _ V) (PW (l:=[]) 1 Z V AV hs (bb 0 _ V))) (Cz 4 ht An AE V V V V (Fb 5 ht 2 aj Z ⟨⟨1,_,V⟩,trivial⟩ A7 ?_)));refine CJ [6,7,8] (Ai a9 λO be bg=>Br be V V V ?_);let⟨b6,aq,bi⟩:=bs bg;obtain⟨_,rfl,_,_,ca⟩:=IZ (kk:=5) (pp:=rI) (Rp.Aj _ K Y) aq;refine As V (λ_ h=>KV (kk:=5) (Rp.Aj _ K Y) aq CD AE (h _ _ V) (h _ _ V)) (have al:=Rh (us:=[iV O]) (y:=O) (Rp.Aj _ K Y) aq V;IY (l:=[]) (us:=[iV O]) (o:=Int.toNat (p1.1)*1) 1 V V V Z V V V AE (by simp[Value.cells,Dz]) V al.2 λU=>?_);replace al:=al.1;generalize bn:JY w1 (Int.toNat (p1.1)*1) [iV O]=a1 at U ⊢;have ac:(rA 5 rI).r ai a1 (p0.set (Int.toNat p1.1) O):=by rw[← bn];exact al
 refine C 2 V (EW 6 [r3] ⟨⟨1,_,V⟩,trivial⟩ U λht=>?_);refine Cz 0 ht An AE V V V V (Fb 1 ht 1 aj U ⟨⟨1,_,V⟩,trivial⟩ A7 ?_);let⟨cc,a2,bo⟩:=bs bi;obtain⟨_,rfl,_,_,bv⟩:=IZ (kk:=5) (pp:=rI) ac a2;refine Bj 2 ht V V (λ_ h s' hs=>KV (kk:=5) ac a2 CD AE (h _ _ V) (h _ _ V)) (Bj 3 ht V V (λ_ h s' hs=>Az A7 (h _ _ V) (PW (l:=[]) 1 U V AV hs (bv 0 _ V))) (Cz 4 ht An AE V V V V (Fb 5 ht 2 aj U ⟨⟨1,_,V⟩,trivial⟩ A7 ?_)));refine CJ [6,7,8] (Ai bo λag bw bx=>B9 bw V V V ?_);let⟨ce,av,bz⟩:=bs bx;obtain⟨_,rfl,_,_,ci⟩:=IZ (kk:=5) (pp:=rI) ac av;refine As V (λ_ h=>KV (kk:=5) ac av CD AE (h _ _ V) (h _ _ V)) (have am:=Rh (us:=[iV ag]) (y:=ag) ac av V;IY (l:=[]) (us:=[iV ag]) (o:=Int.toNat (p1.2.1)*1) 1 V V V U V V V AE (by simp[Value.cells,Dz]) V am.2 λaw=>?_);replace am:=am.1;generalize b0:JY a1 (Int.toNat (p1.2.1)*1) [iV ag]=ap at aw ⊢;have I:(rA 5 rI).r ai ap ((p0.set (Int.toNat p1.1) O).set (Int.toNat p1.2.1) ag):=by rw[← b0];exact am
 refine C 3 V (As V (λ_ h=>JE (kk:=5) I Kg KO (h _ _ V) (H5 (l:=[]) 1 aw V)) (IY (l:=[]) (ws:=(List.replicate 5 (iV 0):Lv_)) (us:=ap) (o:=0) 3 V V V aw V V V (by rw[C5 (kk:=5) (pp:=rI) I];exact Bg E4) ((rA 5 rI).one I) V (by rw[C5 (kk:=5) (pp:=rI) I,C5 (kk:=5) (pp:=rI) (H9 (E:=ai) (pp:=rI) rfl)];omega) λa3=>?_));rw[Lu (by rw[C5 (kk:=5) (pp:=rI) I,C5 (kk:=5) (pp:=rI) (H9 (E:=ai) (pp:=rI) rfl)])] at a3 ⊢;refine A1 (BO 1 a3 V λa4=>?_);cases bz;exact CT V V (Bm func142 V (vs:=[.agg ap.toArray]) ⟨⟨_,V,DQ Kg (by rw[C5 (kk:=5) (pp:=rI) I];exact Bg E4) (H5 (l:=[]) 3 a4 V)⟩,trivial⟩) (FA 3 a4 V λb1=>a6 K V ⟨ap,V,V,I⟩ b1)
def f106(fu_:Nat)(p0:Int)(p1:Int):Option Nat:=(Ax (max p0 p1 - 1)).bind λx1=>(ix ([1,2,4,8]:List Nat) x1).bind λI=>(Ax (4*(min p0 p1))).bind λK=>(Uh I K).bind λO=>some O
theorem jZ{r:Nat}(I:f106 fu_ p3 p1=some r):A2 J 118 [iV p3,iV p1] E [] (λw E' B'=>w=.int .u32 ((r:Nat):Int)/\B'=[]):=by
 refine Bq func118 λQ ap cs H K O=>?_;unfold f106 at I;refine C 8 V (As (v:=iV (min p3 p1)) V (λ_ h=>Yl.min2 (h _ _ V) (h _ _ V)) (C 2 V (As (v:=iV (max p3 p1)) V (λ_ h=>Yl.max2 (h _ _ V) (h _ _ V)) (C 5 V (As (v:=.agg (([1,2,4,8]:List Nat).map λx=>Value.int .u32 ((x:Nat):Int)).toArray) V (λ_ h=>gZ h underlying213 (Es type213) (Bg type70) V V) (Ai I λx1 U Y=>C 1 V (B9 U V V V (Ai Y λaq Z ac=>Yx (iq (E:=E) ([1,2,4,8]:List Nat)) Z V V V V V underlying213 (Bg type70) (Dv underlying70) ?_ (λ_=>V)))))))));rintro _ rfl;refine Ai ac λav ag ai=>C 1 V (As V (λ_ h=>LA (h _ _ V) (h _ _ V) ag) (Ai ai λaj al am=>As (v:=.int .u32 ((aj:Nat):Int)) V (λ_ h=>cO (h _ _ V) (h _ _ V) al) (C 2 V ?_)));cases am;exact AX func118 V V (O AL V ⟨V,V⟩ K)
def f136(fu_:Nat)(p0:Nat)(p1:Int)(p2:Int):Option Bool:=(f106 fu_ p1 p2).bind λx1=>(Up p0 x1).bind λI=>some (decide ((((I):Nat):Int)≠(((0):Nat):Int)))
theorem kq{r:Bool}(I:f136 fu_ c2 p1 p3=some r):A2 J 82 [.int .u32 ((c2:Nat):Int),iV p1,iV p3] E [] (λw E' B'=>w=.bool r/\B'=[]):=by
 refine Bq func82 λQ aj cs H K O=>?_;unfold f136 at I;refine Ai I λx1 U Y=>C 9 V (Cs (jZ U) V V (A8 func118 V) K λal Z ac=>Ai Y λam ag ai=>As V (λ_ h=>bC (h _ _ V) (h _ _ V) ag) (C 3 V ?_));cases ai;exact AX func82 V V (O Z V ⟨V,V⟩ ac)
def P8(fu_:Nat)(K:(AQ)×Int)(I:(AQ)×Int):Option (Bn ((AQ)×Int) ((AQ))):=if I.2<K.2 then((room I.1 (I.2,K.2)).bind λO=>(Ax (I.2+1)).bind λU=>some (.more (O,U))) else(some (.done I.1))
def Qh(fu_:Nat)(p0:Bf)(I:(AQ)×Int):Option (Bn ((AQ)×Int) ((AQ))):=if I.2<(p0.1.length:Int) then(Option.bind (iter (P8 fu_ I) fu_ (I.1,0)) λK=>(Ax (I.2+1)).bind λO=>some (.more (K,O))) else(some (.done I.1))
def f133(fu_:Nat)(p0:Bf):Option ((AQ)):=Option.bind (iter (Qh fu_ p0) fu_ ([],0)) λI=>some I
theorem jP{a5:Av}{a6:Nat}(eA:Aq (rL rI) E a1 c2 p0.1)(eC:Aq AI E a5 a6 p0.2){r:(AQ)}(a7:f133 fu_ p0=some r):A2 J 79 [.agg #[sV a1 p0.1 c2,sV a5 p0.2 a6]] E [] (λw E' B'=>∃(a8:Av) (a9:Nat),w= sV a8 r a9/\B'=[]/\Aq De E' a8 a9 r):=by
 refine Bq func79 λQ eN cs H bz b0=>?_;unfold f133 at a7;refine C 2 V (Cx bz λe0 ay b1 b2 b3=>?_);refine C 9 V (Cf Cg B8 V V V (BS 0 b2 A0 Eo EJ ?_));refine BB Ar V V V ?_;let⟨bb,b4,b5⟩:=bs a7;refine C 2 V (Bs (λL s=>∃(az:LH) (ac:Av) (ag:Nat) (a0:Seg),Jn ay H az [a0] [(3,sV ac bb ag)] L s (OL 91 De az ac ag a0 bb)) ?_ ?_);rintro _ _ ⟨az,ac,ag,a0,rfl,rfl,b6,ca,cc⟩;refine C 5 V (Cl 0 cc ca V λe1 ce ci co=>?_);cases b5;exact AX func79 V V (b0 ((b1.Ae b6).Ae ce) V ⟨ac,ag,V,V,ci⟩ co);intro cp;refine Ay (Cm b4 (λL s I=>∃(K:LH) (O:Av) (U:Nat) (Y:Seg),Jn ay H K [Y] [(3,sV O I.1 U),(9,iV (p0.1.length:Int)),(10,iV I.2)] L s (OL 91 De K O U Y I.1)) ⟨ay,none,0,[],V,V,AL,b3,Cv⟩ ?_);rintro _ _ I ⟨K,O,U,Y,rfl,rfl,be,bg,bi⟩ ct ⟨e3,a2⟩ cw;have bn:=a2;unfold Qh at bn;refine C 5 V (AW bn (λcy c0=>?_) (λcy c3=>?_));let⟨a3,c4,c5⟩:=bs c0;refine C 13 V (Bs (λL s=>∃(ai:LH) (aj:Av) (al:Nat) (am:Seg),Jn K H ai [am] [(3,sV aj a3 al),(9,iV (p0.1.length:Int)),(10,iV I.2)] L s (OL 91 De ai aj al am a3)) ?_ ?_);rintro _ _ ⟨ai,aj,al,am,rfl,rfl,c6,c7,c8⟩;refine Ai c5 λc9 dd dj=>C 2 V (Br dd V V V (C 2 V ?_));cases dj;exact AF (cw _ _ (a3,c9) ⟨ai,aj,al,am,V,V,(be.Ae c6),c7,c8⟩ a2) V;intro ea;refine Ay (Cm c4 (λL s ap=>∃(Z:LH) (aq:Av) (av:Nat) (aw:Seg),Jn K H Z [aw] [(3,sV aq ap.1 av),(4,iV I.2),(9,iV (p0.1.length:Int)),(10,iV I.2),(13,iV I.2),(14,iV ap.2)] L s (OL 91 De Z aq av aw ap.1)) ⟨K,O,U,Y,V,V,AL,bg,bi⟩ ?_);rintro _ _ ap ⟨Z,aq,av,aw,rfl,rfl,bo,bv,bw⟩ eb ⟨e4,a4⟩ ec;have bx:=a4;unfold P8 at bx;refine C 5 V (AW bx (λed ee=>?_) (λed ef=>?_));refine C 12 V (As V (λ_ h=>DZ [(0,1),(1,1)] h KM CZ ⟨V,Bg A5,V,Bg A5,trivial⟩ V V) (Ai ee λeg ej ek=>D9 0 ej V V V V (λ_=>V) V (λ_=>V) V V V BR BR BR Hr (B3 IS) KM V AD AD AD AD bw ⟨_,_,V,V,V⟩ bv V λe5 el em eo er eu=>Ai ek λew ex ey=>C 4 V (Br ex V V V (C 2 V ?_))));cases ey;exact AF (ec _ _ (eg,ew) ⟨Z,el,em,eo,V,V,bo,eu,er⟩ a4) V;refine A3 V ?_;cases ef;obtain rfl:=eb _ a4;exact AF (ea _ _ ⟨Z,aq,av,aw,V,V,bo,bv,bw⟩) V;refine A3 V ?_;cases c3;obtain rfl:=ct _ a2;exact AF (cp _ _ ⟨K,O,U,Y,V,V,be,bg,bi⟩) V
def f113(fu_:Nat)(p0:Int×Int×Int)(p1:Int×Int×Int):Option Int:=if p0.1≠p1.1 then((Ax (p0.1 - p1.1)).bind λI=>some I) else(if p0.2.1≠p1.2.1 then((Ax (p0.2.1 - p1.2.1)).bind λK=>some K) else((Ax (p0.2.2 - p1.2.2)).bind λO=>some O))
theorem Yj{p0 p1:Int×Int×Int}{r:Int}(ac:f113 fu_ p0 p1=some r):A2 J 57 [.agg #[iV p0.1,iV p0.2.1,iV p0.2.2],.agg #[iV p1.1,iV p1.2.1,iV p1.2.2]] E [] (λw E' B'=>w=iV r/\B'=[]):=by
 refine Bq func57 λQ a3 cs H ag U=>?_;unfold f113 at ac;refine C 2 V (Cx ag λr2 a4 Y K ai=>?_);refine Cx ai λa5 a6 I O Z=>?_;refine C 6 V (BS 0 (K.Aj I) An AE A7 ?_);refine BS 0 O An AE A7 ?_;refine C 3 V (AW ac (λaj al=>?_) (λaj am=>?_));refine C 2 V (BS 0 (K.Aj I) An AE A7 ?_);refine BS 0 O An AE A7 ?_;refine Ai al λa7 ap aq=>B9 ap V V V (C 2 V ?_);cases aq;exact AX func57 V V (U (Y.Ae I) V ⟨V,V⟩ Z);refine C 2 V (BS 1 (K.Aj I) An AE A7 ?_);refine BS 1 O An AE A7 ?_;refine C 3 V (AW am (λav aw=>?_) (λav ay=>?_));refine C 2 V (BS 1 (K.Aj I) An AE A7 ?_);refine BS 1 O An AE A7 ?_;refine Ai aw λa8 az a0=>B9 az V V V (C 2 V ?_);cases a0;exact AX func57 V V (U (Y.Ae I) V ⟨V,V⟩ Z);refine C 4 V (BS 2 (K.Aj I) An AE A7 ?_);refine BS 2 O An AE A7 ?_;refine Ai ay λa9 a1 a2=>B9 a1 V V V (C 2 V ?_);cases a2;exact AX func57 V V (U (Y.Ae I) V ⟨V,V⟩ Z)
def Rj(fu_:Nat)(p0:List Int)(I:Int×Int):Option (Bn (Int×Int) Int):=if I.2<(p0.length:Int) then((ix p0 I.2).bind λK=>(Ax (I.1+K)).bind λO=>(Ax (I.2+1)).bind λU=>some (.more (O,U))) else(some (.done I.1))
def f85(fu_:Nat)(p0:List Int):Option Int:=Option.bind (iter (Rj fu_ p0) fu_ (0,0)) λI=>some I
theorem Je{p0:List Int}(ac:Aq rI E a1 c2 p0){r:Int}(U:f85 fu_ p0=some r):A2 J 47 [sV a1 p0 c2] E [] (λw E' B'=>w=iV r/\B'=[]):=by
 refine Bq func47 λQ bg cs H ag ai=>?_;unfold f85 at U;refine C 12 V (BB Ak V V V (Ai U λaj al am=>C 2 V (FE [] [(3,iV aj)] (λbi ap aq=>?_) (λav=>?_))));refine C 5 V ?_;cases am;exact AX func47 V V (ai ap V ⟨V,V⟩ aq);refine Ay (Dc al (λI=>[]) (λI=>[(3,iV I.1),(6,sV a1 p0 c2),(7,iV (p0.length:Int)),(8,iV I.2)]) AL ag ?_);rintro I bn K Y aw ⟨bo,O⟩ ay;have Z:=O;unfold Rj at Z;refine C 5 V (AW Z (λaz a0=>?_) (λaz a2=>?_));refine Ai a0 λbv a3 a4=>C 5 V (B7 (ac.Aj K) a3 Ak AE ?_);rintro bw bx _ rfl a5;refine CX 0 a5 A7 V V V (Ai a4 λa6 a7 a8=>C 5 V (Br a7 V V V (Ai a8 λa9 bb be=>C 4 V (Br bb V V V (C 2 V ?_)))));cases be;exact ay (a6,a9) K Y V O;refine A3 V ?_;cases a2;obtain rfl:=aw _ O;exact av K Y V
end Pal
namespace Pal
open Go Go.Conc
variable {P:Program}{Q:Gs_}{n:Nat}{ds:Ld_}{ops:Ao_}{k:Li_}{cs:Lf_}{L:Env}{E H:LH}{S:List Seg}
variable {d:Option Tmp}{w:Operand}{t u ty:TypeId}{p:String}{af:Ae_}{g:On_}{rest:List Nat}{s:St}{ρ:Operand->Value}
variable{α:Type}{bk c kk o:Nat}{ws:Lv_}{hi:Int}
section
variable {J:Judge P}{b:Frame}
variable {x y:Operand}{e:TypeId}{i:Nat}
theorem Aq.nG{pp:Rp α}{xs ys:List α}(O:At E bk o ws)(K:(rA kk pp).r E ws xs)(hC:Gr xs 0 hi=some ys):Aq pp E (some ⟨bk,o,none⟩) kk ys:=by
 have ac:=K.1;unfold Gr at hC;split at hC
 .rename_i hb;cases hC;refine⟨by simp;omega,.inr ⟨bk,o,V,λq z I=>?_⟩⟩;simp only[Int.toNat_zero,wD,ue] at I;split at I
  .have U:ix xs (q:Int)=some z:=by unfold ix;rw[d9 AB];simpa using I
   let⟨us,Y,Z,_,_⟩:=mW K O U;exact⟨us,Y,by simpa using Z⟩
  .cases I
 .cases hC
theorem gq{pp:Rp α}{xs ys:List α}(O:At E bk o ws)(I:(rA kk pp).r E ws xs)(hC:Gr xs 0 hi=some ys)
  (U:ops[i]?=some ⟨d,.slice t x none (some w) none,ty,p,af,g⟩) (hw:A9 L ops ⟨d,.slice t x none (some w) none,ty,p,af,g⟩=some true) (Y:Cd b n ⟨d,.slice t x none (some w) none,ty,p,af,g⟩=true)
  (Z:ev L x=some (.pointer (some ⟨bk,o,none⟩))) (ac:ev L w=some (iV hi)) (ht:P.underlying t=some (.array kk e)) (ag:BA P e=some pp.n)
  (h:Aq pp E (some ⟨bk,o,none⟩) kk ys->JL J Q b n (AG L d (.slice (some ⟨bk,o,none⟩) ys.length kk)) ds (Ah ops rest k) cs s):
  JL J Q b n L ds (Ag ops i rest k) cs s:=by
 refine have ai:=Aq.nG O I hC;have am:=I.1;Bv U hw Y (λρ K=>?_) (h ai);refine G7 (sm:=Instr.sliceAt t (ρ x) none (some (ρ w)) none) V ?_;rw[K _ _ Z,K _ _ ac];unfold Gr at hC;split at hC
 .rename_i hb;cases hC;obtain⟨ap,aq,av⟩:=hb;unfold Instr.sliceAt;refine AH _ _ (C4 ht ?_);simp only[Instr.sureAddr,bind,Sem.bind,pure];have aj:Instr.sliceBounds false kk kk none (some (iV hi)) none=(pure (0,hi.toNat,kk):Sem _):=by
   simp only[Instr.sliceBounds,Instr.sliceBound,asIntOf,bind,Sem.bind,pure];rw[d9 AB];rfl
  rw[aj];simp only[pure,Sem.bind];refine AH (x:=Go.sizeOf e) _ (F4 ag ?_);have al:(if kk=0 then(⟨bk,o,none⟩:Addr) else Addr.add ⟨bk,o,none⟩ (0*pp.n))=⟨bk,o,none⟩:=by
   split;rfl;rw[EO rfl];simp
  rw[al];have e2:((xs.take hi.toNat).drop (0:Int).toNat).length=hi.toNat - 0:=by simp;omega
  rw[e2];exact⟨V,V⟩
 .cases hC
theorem cD{a:Option Addr}{l:Nat}(ht:P.underlying t=some (.slice e))(I:ρ x=.slice a l c)(K:ρ (.const (.slice none 0 0))=.slice none 0 0):Yl P ⟨d,.binOp .neq t x (.const (.slice none 0 0)) u,ty,p,af,g⟩ ρ s (.bool (!a.isNone)):=by
 have O:∀o,eqGuard o t x (.const (.slice none 0 0)) (.slice a l c) (.slice none 0 0)=Sem.pure ():=λo=>by cases o<;>rfl
 refine G7 (sm:=do eqGuard .neq t x (.const (.slice none 0 0)) (ρ x) (ρ (.const (.slice none 0 0)));binOp .neq t (ρ x) (ρ (.const (.slice none 0 0)))) V ?_
 rw[I,K,O];simp only[bind,Sem.bind];have hb:binOp .neq t (.slice a l c) (.slice none 0 0)=(do pure (.bool (!(← Op.equal t (.slice a l c) (.slice none 0 0))))):=V
 rw[hb];refine AH (x:=Op.equal t _ _) _ ?_;unfold Op.equal Op.maxDepth Op.equalIn;refine AH _ _ (C4 ht ?_);cases a with
 | none=>exact⟨rfl,rfl⟩
 | some ad=>exact⟨rfl,rfl⟩
end
open Go.Proofs Go.Proofs.Tryz
variable {J:Judge Tryz.prog}
def YA(fu_:Nat)(p0:Bf)(p1:List Int)(I:Int):Option (Bn Int ((Bf×Int)⊕(Unit))):=if I<(p1.length:Int) then((ix p1 I).bind λK=>(Ax ((p0.1.length:Int) - 1)).bind λO=>(f91 fu_ K 0 O).bind λU=>if(!U)=true then(some (.done (Sum.inl (([],[]),3)))) else((Ax (I+1)).bind λY=>some (.more Y))) else(some (.done (Sum.inr ())))
def f70(fu_:Nat)(p0:Bf)(p1:List Int):Option (Bf×Int):=(f47 fu_ p0).bind λI=>if I≠0 then(some (([],[]),I)) else(Option.bind (iter (YA fu_ p0 p1) fu_ 0) λK=>Sum.elim (λr=>some r) (λZ=>Option.bind (if(p1.length:Int)=2 then((ix p1 (0)).bind λO=>(ix p1 (1)).bind λU=>some (decide (O=U))) else(some false)) λY=>if Y=true then(some (([],[]),8)) else(some (p0,0))) K)
variable{Y a1:Av}{Z c2 fu_ sz:Nat}
theorem NK{ag:Av}{p0:Bf}{p1:List Int}(az:Aq (rL rI) E a1 c2 p0.1)(a0:Aq AI E ag sz p0.2)(am:Aq rI E Y Z p1){r:Bf×Int}(a2:f70 fu_ p0 p1=some r):A2 J 31 [.agg #[sV a1 p0.1 c2,sV ag p0.2 sz],sV Y p1 Z] E [] (λw E' B'=>∃(a3:Av) (a4:Nat) (a5:Av) (a6:Nat),w=.tuple #[.agg #[sV a3 r.1.1 a4,sV a5 r.1.2 a6],iV r.2]/\B'=[]/\Aq (rL rI) E' a3 a4 r.1.1/\Aq AI E' a5 a6 r.1.2):=by
 refine Bq func31 λQ e8 cs H b3 aj=>?_;unfold f70 at a2;refine C 2 V (Cx b3 λap ff I aq b4=>?_);refine Cq b4 Jv λU b5=>?_;refine C 5 V (Ch aq C8 B8 V V (Ai a2 λb6 ca cc=>Cs (mU (az.Aj I) (a0.Aj I) ca) V V (A8 G1 V) b5 λce K a7=>C 7 V (AW cc (λci co=>?_) (λci cp=>?_))));refine C 2 V (As V (λ_ h=>DZ [(0,2)] h Jv Cg ⟨V,Bg HN,trivial⟩ V V) (C 1 V (BX 2 a7 Fx λa8=>?_)));refine C 2 V ?_;cases co;exact CT V V (Bm func31 V (vs:=[.agg #[nS,nS],iV b6]) ⟨⟨_,V,DQ Hy Fx (G6 2 a8 V V)⟩,V,trivial⟩) (FA 2 a8 V λct=>aj (I.Ae K) V ⟨none,0,none,0,V,V,Ba,Ba⟩ ct);refine C 5 V (BB Ak V V V ?_);let⟨a9,cw,bb⟩:=bs cp;refine C 2 V (Bs (λL s=>∃(be:Unit) (av:LH),a9=Sum.inr be/\Jm ce H av [bX U #[nS,nS] 61] [(1,sV Y p1 Z),(2,AA ap 0),(4,AA U 0)] L s) ?_ ?_);rintro _ _ ⟨be,av,rfl,rfl,rfl,O,bg⟩;refine have cy:=elim_inr bb;C 2 V (Eu 12 λht=>?_);refine Db 0 ht V V (Bj 1 ht V V (λ_ h s' hs=>Fo V Ak (h _ _ V)) (AY ht V [2,3] V (Ai cy λc0 bi c3=>FK 0 (tR_ 12 0) (λL s=>L=[(2,AA ap 0),(4,AA U 0),(41,.bool c0)]/\s=Ao av H [bX U #[nS,nS] 61]) ?_ ?_)));rintro _ _ ⟨rfl,rfl⟩;refine DP AC (Co c3 (λc4 c5=>?_) (λc4 c6=>?_));refine C 2 V (As V (λ_ h=>DZ [(0,2)] h Jv Cg ⟨V,Bg HN,trivial⟩ V V) (BX 0 bg Fx λbn=>?_));refine C 2 V ?_;cases c5;exact CT V V (Bm func31 V (vs:=[.agg #[nS,nS],iV 8]) ⟨⟨_,V,DQ Hy Fx (G6 0 bn V V)⟩,V,trivial⟩) (FA 0 bn V λc7=>aj ((I.Ae K).Ae O) V ⟨none,0,none,0,V,V,Ba,Ba⟩ c7);refine C 3 V (Ch (aq.Aj (K.Ae O)) C8 B8 V V (As V (λ_ h=>DZ [(0,2)] h Jv Cg ⟨V,Bg HN,trivial⟩ V V) (BX 0 bg Fx λbo=>?_)));refine C 2 V ?_;cases c6;exact CT V V (Bm func31 V (vs:=[.agg #[sV a1 p0.1 c2,sV ag p0.2 sz],iV 0]) ⟨⟨_,V,DQ Hy Fx (G6 0 bo V V)⟩,V,trivial⟩) (FA 0 bo V λc8=>aj ((I.Ae K).Ae O) V ⟨a1,c2,ag,sz,V,V,(az.Aj ((I.Ae K).Ae O)),(a0.Aj ((I.Ae K).Ae O))⟩ c8);intro bv;refine GM (i:=33) V (λaw=>?_) (λaw=>?_);refine have c9:=ip bi aw;Db 4 ht V V (Ai c9 λfk dd dj=>Dd 5 (am.Aj ((I.Ae K).Ae O)) dd ht Ak AE ?_);rintro fl fm _ rfl ea;refine Ec 6 ht 0 ea A7 V V V V (Db 7 ht V V (Ai dj λfo eb ec=>Dd 8 (am.Aj ((I.Ae K).Ae O)) eb ht Ak AE ?_));rintro fs fv _ rfl ed;refine Ec 9 ht 0 ed A7 V V V V (AY ht V [10,11] V ?_);cases ec;refine Da ?_ (bv _ _ ⟨V,V⟩);exact Ad;refine have ee:=im bi aw;AY ht V [4,5,6,7,8,9,10,11] V ?_;cases ee;refine Da ?_ (bv _ _ ⟨V,V⟩);exact Ad;intro ef;refine Ay (Dc cw (λay=>[bX U #[nS,nS] 61]) (λay=>[(1,sV Y p1 Z),(2,AA ap 0),(4,AA U 0),(15,sV Y p1 Z),(16,iV (p1.length:Int)),(17,iV ay)]) AL a7 ?_);rintro ay eg ac bw bx ⟨fw,al⟩ ej;have bz:=al;unfold YA at bz;refine C 5 V (AW bz (λek el=>?_) (λek em=>?_));refine Ai el λfN eo er=>C 5 V (B7 (am.Aj ((I.Ae K).Ae ac)) eo Ak AE ?_);rintro gc ge _ rfl eu;refine CX 0 eu A7 V V V (C 5 V (BS 0 (aq.Aj (K.Ae ac)) A0 Eo EJ ?_));refine BB Ar V V V (Ai er λgg ew ex=>B9 ew V V V (Ai ex λgh ey eA=>Cs (O5 ey) V V N6 bw λgt b0 b1=>As V (λ_ h=>CN (h _ _ V)) (A1 (Co eA (λeC eN=>?_) (λeC e0=>?_)))));refine C 2 V (As V (λ_ h=>DZ [(0,2)] h Jv Cg ⟨V,Bg HN,trivial⟩ V V) (BX 0 b1 Fx λb2=>?_));refine C 2 V ?_;cases eN;obtain rfl:=bx _ al;have e1:=elim_inl bb;cases e1;exact CT V V (Bm func31 V (vs:=[.agg #[nS,nS],iV 3]) ⟨⟨_,V,DQ Hy Fx (G6 0 b2 V V)⟩,V,trivial⟩) (FA 0 b2 V λe3=>aj (((I.Ae K).Ae ac).Ae b0) V ⟨none,0,none,0,V,V,Ba,Ba⟩ e3);refine Ai e0 λe4 e5 e6=>C 3 V (Br e5 V V V (C 2 V ?_));cases e6;exact ej e4 (ac.Ae b0) b1 V al;refine A3 V ?_;cases em;have e7:a9=(Sum.inr ()):=(bx _ al).symm;exact AF (ef _ _ ⟨(),eg,e7,V,V,ac,bw⟩) V
def R4(fu_:Nat)(p0:List Int):Option ((List Int)):=(CK ([]:List Int) p0).bind λI=>some I
variable{ad:Addr}
theorem iP{p0:List Int}(U:Aq rI E (some ad) c2 p0){r:(List Int)}(I:R4 fu_ p0=some r):A2 J 44 [.slice (some ad) p0.length c2] E [] (λw E' B'=>∃(K:Av) (O:Nat) (g0:Seg),w= sV K r O/\B'=g0/\OL 3 rI E' K O g0 r):=by
 refine Bq func44 λQ aw cs H Y Z=>?_;unfold R4 at I;refine C 8 V (As V (λ_ h=>PT Ak (h _ _ V) (h _ _ V)) (C 5 V (Mo (pp:=rI) V V V Ak AE Y λr1 g2 ac ag=>Ai I λay ai aj=>C 1 V (HB 1 ai V V V V V V V Ak Ak AE (B3 A5) Ca V AD AD ac U ag V λal am ap aq av=>C 2 V ?_))));cases aj;exact AX func44 V V (Z AL V ⟨al,am,ap,V,Ab,aq⟩ av)
def Zo(fu_:Nat)(p0:List Int):Option ((List Int)):=some ([])
theorem jC{p0:List Int}(Z:Aq rI E none c2 p0){r:(List Int)}(I:Zo fu_ p0=some r):A2 J 44 [sV none p0 c2] E [] (λw E' B'=>∃(K:Av) (O:Nat) (g0:Seg),w= sV K r O/\B'=g0/\OL 3 rI E' K O g0 r):=by
 refine Bq func44 λQ ac cs H U Y=>?_;unfold Zo at I;refine C 8 V (As V (λ_ h=>PT Ak (h _ _ V) (h _ _ V)) (C 6 V ?_));cases I;exact AX func44 V V (Y AL V ⟨none,0,[],V,V,Cv⟩ U)
def f87(fu_:Nat)(p0:List Int):Option (List Int):=R4 fu_ p0
theorem mP{p0:List Int}(K:Aq rI E a1 c2 p0){r:List Int}(I:f87 fu_ p0=some r):A2 J 44 [.slice a1 p0.length c2] E [] (λw E' B'=>∃(O:Av) (U:Nat) (g0:Seg),w=.slice O r.length U/\B'=g0/\OL 3 rI E' O U g0 r):=by
 cases a1 with
 | some ad=>exact iP K I
 | none=>
  have Y:p0=[]:=by
   rcases K.2 with h | ⟨_,_,h,_⟩;exact h.1;cases h
  subst Y;have Z:r=[]:=by
   have ac:R4 fu_ []=some []:=V;unfold f87 at I;rw[ac] at I;exact(f8 I).symm
  subst Z;exact jC (fu_:=fu_) K V
def O6(fu_:Nat)(p0:AK):Option (AK):=(CK ([]:AK) p0).bind λI=>some I
variable{p0 r:AK}
theorem iH(U:Aq AI E (some ad) c2 p0)(I:O6 fu_ p0=some r):A2 J 156 [.slice (some ad) p0.length c2] E [] (λw E' B'=>∃(K:Av) (O:Nat) (g0:Seg),w= sV K r O/\B'=g0/\OL 27 AI E' K O g0 r):=by
 refine Bq func156 λQ aw cs H Y Z=>?_;unfold O6 at I;refine C 8 V (As V (λ_ h=>PT BE (h _ _ V) (h _ _ V)) (C 5 V (Mo (pp:=AI) V V V BE Bc Y λr1 g2 ac ag=>Ai I λay ai aj=>C 1 V (HB 1 ai V V V V V V V BE BE Bc (B3 DH) BU V AD AD ac U ag V λal am ap aq av=>C 2 V ?_))));cases aj;exact AX func156 V V (Z AL V ⟨al,am,ap,V,Ab,aq⟩ av)
def Zh(fu_:Nat)(p0:AK):Option (AK):=some ([])
theorem gw(Z:Aq AI E none c2 p0)(I:Zh fu_ p0=some r):A2 J 156 [sV none p0 c2] E [] (λw E' B'=>∃(K:Av) (O:Nat) (g0:Seg),w= sV K r O/\B'=g0/\OL 27 AI E' K O g0 r):=by
 refine Bq func156 λQ ac cs H U Y=>?_;unfold Zh at I;refine C 8 V (As V (λ_ h=>PT BE (h _ _ V) (h _ _ V)) (C 6 V ?_));cases I;exact AX func156 V V (Y AL V ⟨none,0,[],V,V,Cv⟩ U)
def f129(fu_:Nat)(p0:AK):Option AK:=O6 fu_ p0
theorem lb(K:Aq AI E a1 c2 p0)(I:f129 fu_ p0=some r):A2 J 156 [.slice a1 p0.length c2] E [] (λw E' B'=>∃(O:Av) (U:Nat) (g0:Seg),w=.slice O r.length U/\B'=g0/\OL 27 AI E' O U g0 r):=by
 cases a1 with
 | some ad=>exact iH K I
 | none=>
  have Y:p0=[]:=by
   rcases K.2 with h | ⟨_,_,h,_⟩;exact h.1;cases h
  subst Y;have Z:r=[]:=by
   have ac:O6 fu_ []=some []:=V;unfold f129 at I;rw[ac] at I;exact(f8 I).symm
  subst Z;exact gw (fu_:=fu_) K V
def f43(fu_:Nat)(p0:Bf):Option ((List Int)×Int):=(f70 fu_ p0 ([])).bind λI=>if I.2≠0 then(some ([],I.2)) else((f84 fu_ I.1).bind λK=>(Gr K 0 (p0.1.length:Int)).bind λO=>(f87 fu_ O).bind λU=>some (U,0))
theorem mD{p0:Bf}(ay:Aq (rL rI) E a1 c2 p0.1)(az:Aq AI E Y Z p0.2){r:(List Int)×Int}(ac:f43 fu_ p0=some r):A2 J 18 [.agg #[sV a1 p0.1 c2,sV Y p0.2 Z]] E [] (λw E' B'=>∃(ag:Av) (ai:Nat),w=.tuple #[sV ag r.1 ai,iV r.2]/\B'=[]/\Aq rI E' ag ai r.1):=by
 refine Bq func18 λQ cw cs H a0 aj=>?_;unfold f43 at ac;refine C 2 V (Cx a0 λcy c0 O al a2=>?_);refine C 5 V (Ch al C8 B8 V V (Ai ac λc3 a3 a4=>Cb (NK (ay.Aj O) (az.Aj O) Ba a3) V V M5 a2 ?_));rintro _ c4 _ U ⟨c5,c6,c7,c8,rfl,rfl,a5,a6⟩ a7;refine C 3 V (Cq a7 Jv λc9 a8=>?_);refine BX 3 a8 Fx λa9=>?_;refine Ff 3 a9 V λdd I bb am=>C 8 V (AW a4 (λbe bg=>?_) (λbe bi=>?_));refine C 6 V ?_;cases bg;exact AX func18 V V (aj ((O.Ae U).Ae I) V ⟨none,0,V,V,Ba⟩ am);refine C 3 V (Ch bb Hy Fx V V (Ai bi λdj bn bo=>Cb (UD (a5.Aj I) (a6.Aj I) bn) V V So am ?_));rintro _ ap _ aq ⟨bv,rfl,rfl,K⟩ bw;refine Cq bw M8 λea bx=>?_;refine IY (l:=[]) (ws:=(List.replicate 5 (iV 0):Lv_)) (us:=bv) (o:=0) 5 V V V bx V V V (by rw[C5 (kk:=5) (pp:=rI) K];exact Bg E4) ((rA 5 rI).one K) V (by rw[C5 (kk:=5) (pp:=rI) K,C5 (kk:=5) (pp:=rI) (H9 (E:=ap) (pp:=rI) rfl)];omega) λav=>?_;rw[Lu (by rw[C5 (kk:=5) (pp:=rI) K,C5 (kk:=5) (pp:=rI) (H9 (E:=ap) (pp:=rI) rfl)])] at av ⊢;refine C 3 V (BS 0 (al.Aj ((U.Ae I).Ae aq)) A0 Eo EJ ?_);refine BB Ar V V V (Ff 5 av V λeb aw bz b0=>Ai bo λec b1 b2=>gq bz (Rp.Aj _ aw K) b1 V V V V V CD AE λb3=>Ai b2 λed b4 b5=>Cb (mP b3 b4) V V (A8 func44 V) b0 ?_);rintro _ ee ef b6 ⟨ca,cc,_,rfl,rfl,ce⟩ ci;refine C 3 V (Cl 6 ce ci V λeg co cp ct=>?_);cases b5;exact AX func18 V V (aj ((((((O.Ae U).Ae I).Ae aq).Ae aw).Ae b6).Ae co) V ⟨ca,cc,V,V,cp⟩ ct)
def QT(fu_:Nat)(p0:AK)(p1:AK)(I:Int):Option (Bn Int ((Int)⊕(Unit))):=if I<(p0.length:Int) then((ix p0 I).bind λO=>if(p1.length:Int)<=I then(some (.done (Sum.inl 1))) else((ix p1 I).bind λU=>(f113 fu_ O U).bind λK=>if K≠0 then(some (.done (Sum.inl K))) else((Ax (I+1)).bind λY=>some (.more Y)))) else(some (.done (Sum.inr ())))
def f112(fu_:Nat)(p0:AK)(p1:AK):Option Int:=Option.bind (iter (QT fu_ p0 p1) fu_ 0) λI=>Sum.elim (λr=>some r) (λK=>if(p0.length:Int)<(p1.length:Int) then(some (-1)) else(some 0)) I
theorem kN{O:Av}{p1:AK}(a4:Aq AI E a1 c2 p0)(a5:Aq AI E O sz p1){r:Int}(al:f112 fu_ p0 p1=some r):A2 J 56 [sV a1 p0 c2,sV O p1 sz,(fV 57)] E [] (λw E' B'=>w=iV r/\B'=[]):=by
 refine Bq func56 λQ dj cs H a6 Y=>?_;unfold f112 at al;refine C 8 V (BB BE V V V ?_);let⟨am,a7,ac⟩:=bs al;refine C 2 V (Bs (λL s=>∃(ap:Unit) (aq:LH),am=Sum.inr ap/\Jm E H aq [] [(0,sV a1 p0 c2),(1,sV O p1 sz)] L s) ?_ ?_);rintro _ _ ⟨ap,aq,rfl,rfl,rfl,av,aw⟩;refine have a8:=elim_inr ac;C 4 V (BB BE V V V (C 1 V (BB BE V V V (C 2 V (AW a8 (λa9 bb=>?_) (λa9 be=>?_))))));refine C 4 V ?_;cases bb;exact AX func56 V V (Y av V ⟨V,V⟩ aw);refine C 5 V ?_;cases be;exact AX func56 V V (Y av V ⟨V,V⟩ aw);intro bg;refine Ay (Dc a7 (λag=>[]) (λag=>[(0,sV a1 p0 c2),(1,sV O p1 sz),(2,(fV 57)),(11,sV a1 p0 c2),(12,iV (p0.length:Int)),(13,iV ag)]) AL a6 ?_);rintro ag bi I ay ai ⟨ea,K⟩ bn;have az:=K;unfold QT at az;refine C 5 V (AW az (λbo bv=>?_) (λbo bw=>?_));refine Ai bv λeb bx bz=>C 6 V (B7 (a4.Aj I) bx BE Bc ?_);rintro ec ed _ ⟨_,_,rfl,rfl,⟨_,_,rfl,rfl,rfl⟩⟩ b0;refine Ch b0 Dl Bc V V (Cq ay BU λee b1=>?_);refine C 1 V (BX 0 b1 Bc λb2=>?_);refine Ff 0 b2 V λef Z b3 a0=>C 6 V (BB BE V V V (C 2 V (AW bz (λb4 b5=>?_) (λb4 b6=>?_))));refine C 4 V ?_;cases b5;obtain rfl:=ai _ K;have ca:=elim_inl ac;cases ca;exact AX func56 V V (Y (I.Ae Z) V ⟨V,V⟩ a0);refine Ai b6 λeg cc ce=>C 5 V (B7 (a5.Aj (I.Ae Z)) cc BE Bc ?_);rintro ej ek _ ⟨_,_,rfl,rfl,⟨_,_,rfl,rfl,rfl⟩⟩ ci;refine Ch ci Dl Bc V V (Cq a0 BU λel co=>?_);refine BX 1 co Bc λcp=>?_;refine Ff 1 cp V λem aj ct cw=>C 4 V (Ch (b3.Aj aj) Dl Bc V V (Ch ct Dl Bc V V (Ai ce λeo cy c0=>Mh (Yj cy) V V V V (A8 func57 V) V cw ?_)));rintro _ er _ a2 ⟨rfl,rfl⟩ a3;refine C 7 V (AW c0 (λc3 c4=>?_) (λc3 c5=>?_));refine C 5 V ?_;cases c4;obtain rfl:=ai _ K;have c6:=elim_inl ac;cases c6;exact AX func56 V V (Y (((I.Ae Z).Ae aj).Ae a2) V ⟨V,V⟩ a3);refine Ai c5 λc7 c8 c9=>C 3 V (Br c8 V V V (C 2 V ?_));cases c9;exact bn c7 (((I.Ae Z).Ae aj).Ae a2) a3 V K;refine A3 V ?_;cases bw;have dd:am=(Sum.inr ()):=(ai _ K).symm;exact AF (bg _ _ ⟨(),bi,dd,V,V,I,ay⟩) V
def f74(fu_:Nat)(p0:AK)(p1:AK):Option Int:=(f112 fu_ p0 p1).bind λI=>some I
variable{I:Av}
theorem HV{p1:AK}(U:Aq AI E a1 c2 p0)(Y:Aq AI E I sz p1){r:Int}(O:f74 fu_ p0 p1=some r):A2 J 35 [sV a1 p0 c2,sV I p1 sz] E [] (λw E' B'=>w=iV r/\B'=[]):=by
 refine Bq func35 λQ am cs H Z ac=>?_;unfold f74 at O;refine Ai O λap ag ai=>C 8 V (Cs (kN U Y ag) V V (A8 func56 V) Z λaq aj al=>C 2 V ?_);cases ai;exact AX func35 V V (ac aj V ⟨V,V⟩ al)
def f73(fu_:Nat)(p0:AK)(p1:AK):Option Bool:=(f74 fu_ p0 p1).bind λI=>some (decide (I<0))
theorem mh{p1:AK}(U:Aq AI E a1 c2 p0)(Y:Aq AI E I sz p1){r:Bool}(O:f73 fu_ p0 p1=some r):A2 J 34 [sV a1 p0 c2,sV I p1 sz] E [] (λw E' B'=>w=.bool r/\B'=[]):=by
 refine Bq func34 λQ am cs H Z ac=>?_;unfold f73 at O;refine Ai O λap ag ai=>C 8 V (Cs (HV U Y ag) V V HO Z λaq aj al=>C 3 V ?_);cases ai;exact AX func34 V V (ac aj V ⟨V,V⟩ al)
def f72(fu_:Nat)(p0:AK×Bool)(p1:AK):Option ((AK×Bool)):=Option.bind (if(!p0.2)=true then(some true) else((f73 fu_ p1 p0.1).bind λI=>some I)) λK=>Option.bind (if K=true then(some (p1,true)) else(some p0)) λO=>some O
variable{O:Nat}
abbrev FP:=@Go.Proofs.Tryz.underlying66
theorem mE{K:Av}{p0:AK×Bool}{p1:AK}(aj:Aq AI E a1 c2 p0.1)(al:Aq AI E K O p1){r:(AK×Bool)}(am:f72 fu_ p0 p1=some r):A2 J 33 [AA bk 0,sV K p1 O,(fV 34)] E [(bk,.cells #[sV a1 p0.1 c2,.bool p0.2] 66 (0,0))] (λw E' B'=>∃(ap:Av) (aq:Nat),w=.tuple #[]/\B'=[(bk,.cells #[sV ap r.1 aq,.bool r.2] 66 (0,0))]/\Aq AI E' ap aq r.1):=by
 refine Bq func33 λQ b2 cs H U az=>?_;unfold f72 at am;refine C 4 V (Cf FP Oc V V V (As V (λ_ h=>Az Sk (h _ _ V) (Cc (j:=0) U V V)) (As V (λ_ h=>CN (h _ _ V)) ?_)));let⟨a0,a2,a3⟩:=bs am;refine C 1 V (HA [] (λL s=>∃(I:LH),Jm E H I [bX bk #[sV a1 p0.1 c2,.bool p0.2] 66] [(0,AA bk 0),(1,sV K p1 O),(19,.bool a0)] L s) ?_ ?_);rintro _ _ ⟨I,rfl,rfl,ac,av⟩;let⟨ag,a4,a5⟩:=bs a3;refine A1 (Bs (λL s=>∃(ai:LH) (Y:Av) (Z:Nat),Jn I H ai [bX bk #[sV Y ag.1 Z,.bool ag.2] 66] [] L s (Aq AI ai Y Z ag.1)) ?_ ?_);rintro _ _ ⟨ai,Y,Z,rfl,rfl,a6,a7,a8⟩;cases a5;exact DA V V (Bm func33 V (vs:=[]) trivial) (az (ac.Ae a6) V ⟨Y,Z,V,V,a8⟩ a7);intro aw;refine Co a4 (λa9 bb=>?_) (λa9 be=>?_);refine C 5 V (Cf FP By V V V (BX 0 av By λbg=>?_));refine C 1 V (Cf FP Oc V V V (BX 0 bg Oc λbi=>?_));refine A1 ?_;cases bb;exact AF (aw _ _ ⟨I,K,O,V,V,AL,bi,(al.Aj ac)⟩) V;refine Bl ?_;cases be;exact AF (aw _ _ ⟨I,a1,c2,V,V,AL,av,(aj.Aj ac)⟩) V;intro ay;refine FX 11 a2 (λbn bo=>?_) (λbn bv=>?_);refine C 8 V ?_;cases bo;exact AF (ay _ _ ⟨E,V,V,AL,U⟩) V;refine C 4 V (Cf FP By V V V (As V (λ_ h=>Az BP (h _ _ V) (Cc (j:=0) U V V)) (Ai bv λb3 bw bx=>Mh (mh al aj bw) V V V V (A8 func34 V) V U ?_)));rintro _ bz _ b0 ⟨rfl,rfl⟩ b1;refine C 1 V ?_;cases bx;exact AF (ay _ _ ⟨bz,V,V,b0,b1⟩) V
variable {J:Judge Tryz.prog}
def QH(fu_:Nat)(K:List Int)(I:(AQ)×Int):Option (Bn ((AQ)×Int) ((AQ))):=if I.2<(K.length:Int) then((ix K I.2).bind λO=>(Ax (((Bz I.1 O).getD 0)+1)).bind λU=>(Ax (I.2+1)).bind λY=>some (.more ((CQ I.1 O U),Y))) else(some (.done I.1))
def QE(fu_:Nat)(p0:Bf)(I:(List AQ)×Int):Option (Bn ((List AQ)×Int) ((List AQ))):=if I.2<(p0.1.length:Int) then((ix p0.1 I.2).bind λK=>Option.bind (iter (QH fu_ K) fu_ (([]:AQ),0)) λO=>(room I.1 O).bind λU=>(Ax (I.2+1)).bind λY=>some (.more (U,Y))) else(some (.done I.1))
def f120(fu_:Nat)(p0:Bf):Option ((List AQ)):=Option.bind (iter (QE fu_ p0) fu_ ([],0)) λI=>some I
theorem jD{a6:Av}{a7:Nat}{p0:Bf}(b1:Aq (rL rI) E a1 c2 p0.1)(ge:Aq AI E a6 a7 p0.2){r:(List AQ)}(a8:f120 fu_ p0=some r):A2 J 67 [.agg #[sV a1 p0.1 c2,sV a6 p0.2 a7]] E [] (λw E' B'=>∃(a9:Av) (bb:Nat),w= sV a9 r bb/\B'=[]/\Aq (rM rI false rI false) E' a9 bb r):=by
 refine Bq func67 λQ gg cs H b2 b3=>?_;unfold f120 at a8;refine C 2 V (Cx b2 λgh ap be b4 b5=>?_);refine C 9 V (Cf Cg B8 V V V (BS 0 b4 A0 Eo EJ ?_));refine BB Ar V V V ?_;let⟨bg,b6,ca⟩:=bs a8;refine C 2 V (Bs (λL s=>∃(aq:LH) (ac:Av) (ag:Nat) (av:Seg),Jn ap H aq [av] [(3,sV ac bg ag)] L s (OL 170 (rM rI false rI false) aq ac ag av bg)) ?_ ?_);rintro _ _ ⟨aq,ac,ag,av,rfl,rfl,cc,ce,ci⟩;refine C 5 V (Cl 0 ci ce V λgt co cp ct=>?_);cases ca;exact AX func67 V V (b3 ((be.Ae cc).Ae co) V ⟨ac,ag,V,V,cp⟩ ct);intro cw;refine Ay (Cm b6 (λL s I=>∃(K:LH) (O:Av) (U:Nat) (Y:Seg),Jn ap H K [Y] [(3,sV O I.1 U),(11,sV a1 p0.1 c2),(12,iV (p0.1.length:Int)),(13,iV I.2)] L s (OL 170 (rM rI false rI false) K O U Y I.1)) ⟨ap,none,0,[],V,V,AL,b5,Cv⟩ ?_);rintro _ _ I ⟨K,O,U,Y,rfl,rfl,aw,bi,bn⟩ cy ⟨gB,ay⟩ c0;have bo:=ay;unfold QE at bo;refine C 5 V (AW bo (λc3 c4=>?_) (λc3 c5=>?_));refine Ai c4 λbv c6 c7=>C 5 V (B7 (b1.Aj (be.Ae aw)) c6 Ar CU ?_);rintro gE gO _ ⟨c8,c9,rfl,dd⟩ dj;refine CX 0 dj Fw V V V (C 4 V (E1 V V V bi λai ea=>C 6 V (BB Ak V V V ?_)));let⟨bw,eb,ec⟩:=bs c7;refine C 2 V (Bs (λL s=>∃(az:LH) (aj:Obj),Jn K H az [Y,[(ai,aj)]] [(3,sV O I.1 U),(6,.map (some ai)),(11,sV a1 p0.1 c2),(12,iV (p0.1.length:Int)),(13,iV I.2)] L s (Ck rI false rI false az aj bw)) ?_ ?_);rintro _ _ ⟨az,aj,rfl,rfl,bx,ed,ee⟩;refine C 3 V (SI 1 ed V λbz a0 ef eg=>?_);have ej:Ck rI false rI false bz aj bw:=(ee.Aj a0);refine Ai ec λek el em=>D9 0 el V V V V (λ_=>V) V (λ_=>V) V V V B5 B5 B5 IV (B3 type170) (Es type170) V AD AD AD AD (bn.Aj (bx.Ae a0)) ⟨_,_,V,ef,ej⟩ eg V λg3 eo er eu ew ex=>Ai em λey eA eC=>C 4 V (Br eA V V V (C 2 V ?_));cases eC;exact AF (c0 _ _ (ek,ey) ⟨bz,eo,er,eu,V,V,((aw.Ae bx).Ae a0),ex,ew⟩ ay) V;intro eN;refine Ay (Cm eb (λL s al=>∃(Z:LH) (am:Obj),Jn K H Z [Y,[(ai,am)]] [(3,sV O I.1 U),(6,.map (some ai)),(11,sV a1 p0.1 c2),(12,iV (p0.1.length:Int)),(13,iV I.2),(18,sV c8 bv c9),(19,iV (bv.length:Int)),(20,iV al.2)] L s (Ck rI false rI false Z am al.1)) ⟨K,(.map #[] 0),V,V,AL,ea,Ck.nil⟩ ?_);rintro _ _ al ⟨Z,am,rfl,rfl,a2,a3,a4⟩ e0 ⟨g4,a5⟩ e1;have b0:=a5;unfold QH at b0;refine C 5 V (AW b0 (λe3 e4=>?_) (λe3 e5=>?_));refine Ai e4 λe6 e7 e8=>C 5 V (B7 (dd.Aj a2) e7 Ak AE ?_);rintro g5 g6 _ rfl ff;refine CX 0 ff A7 V V V (C 5 V (As V (λ_ h=>Du Kw CC Ca ⟨_,V,V⟩ a4 ⟨_,V,V⟩ (by rintro _ ⟨_,rfl,rfl⟩;rfl) (h _ _ V) (h _ _ V) (Ew (j:=1) (i:=0) a3 V V)) (Ai e8 λfk fl fm=>Br fl V V V (Df 1 Kw CC a4 ⟨_,V,V⟩ ⟨_,V,V⟩ a3 V V V V V V V λfo fs fv=>Ai fm λfw fN gc=>C 3 V (Br fN V V V (C 2 V ?_))))));cases gc;exact AF (e1 _ _ ((CQ al.1 e6 fk),fw) ⟨Z,fo,V,V,a2,fv,fs⟩ a5) V;refine A3 V ?_;cases e5;obtain rfl:=e0 _ a5;exact AF (eN _ _ ⟨Z,am,V,V,a2,a3,a4⟩) V;refine A3 V ?_;cases c5;obtain rfl:=cy _ ay;exact AF (cw _ _ ⟨K,O,U,Y,V,V,aw,bi,bn⟩) V
def Yt(fu_:Nat)(p0:Bf)(K:(List Int))(I:(List Int)×Int):Option (Bn ((List Int)×Int) ((List Int))):=if I.2<5 then((ix K I.2).bind λO=>Option.bind (if I.2<(p0.1.length:Int) then((ix p0.1 I.2).bind λU=>(f85 fu_ U).bind λY=>(Ax (-(O))).bind λZ=>some (decide (Y<Z))) else(some false)) λac=>Option.bind (if ac=true then((room I.1 I.2).bind λag=>some ag) else(some I.1)) λai=>(Ax (I.2+1)).bind λaj=>some (.more (ai,aj))) else(some (.done I.1))
def f39(fu_:Nat)(p0:Bf):Option ((List Int)×Int):=(f70 fu_ p0 ([])).bind λI=>if I.2≠0 then(some ([],I.2)) else((f84 fu_ I.1).bind λK=>Option.bind (iter (Yt fu_ p0 K) fu_ ([],0)) λO=>some (O,0))
theorem lQ{be:Av}{bg:Nat}{p0:Bf}(bi:Aq (rL rI) E a1 c2 p0.1)(b4:Aq AI E be bg p0.2){r:(List Int)×Int}(bn:f39 fu_ p0=some r):A2 J 21 [.agg #[sV a1 p0.1 c2,sV be p0.2 bg]] E [] (λw E' B'=>∃(bo:Av) (bv:Nat),w=.tuple #[sV bo r.1 bv,iV r.2]/\B'=[]/\Aq rI E' bo bv r.1):=by
 refine Bq func21 λQ g5 cs H b5 bw=>?_;unfold f39 at bn;refine C 2 V (Cx b5 λaz g6 ag a0 b6=>?_);refine C 5 V (Ch a0 C8 B8 V V (Ai bn λg7 ca cc=>Cb (NK (bi.Aj ag) (b4.Aj ag) Ba ca) V V M5 b6 ?_));rintro _ g8 _ ai ⟨ha,hb,hc,he,rfl,rfl,ce,ci⟩ co;refine C 3 V (Cq co Jv λhf cp=>?_);refine BX 3 cp Fx λct=>?_;refine Ff 3 ct V λhk K cw bx=>C 8 V (AW cc (λcy c0=>?_) (λcy c3=>?_));refine C 6 V ?_;cases c0;exact AX func21 V V (bw ((ag.Ae ai).Ae K) V ⟨none,0,V,V,Ba⟩ bx);refine C 8 V (Ch cw Hy Fx V V (Ai c3 λhl c4 c5=>Cb (UD (ce.Aj K) (ci.Aj K) c4) V V So bx ?_));rintro _ a2 _ al ⟨a3,rfl,rfl,c6⟩ c7;let⟨bz,c8,c9⟩:=bs c5;refine C 2 V (Bs (λL s=>∃(a4:LH) (am:Av) (ap:Nat) (a5:Seg),Jn a2 H a4 [a5] [(6,sV am bz ap)] L s (OL 3 rI a4 am ap a5 bz)) ?_ ?_);rintro _ _ ⟨a4,am,ap,a5,rfl,rfl,dd,dj,ea⟩;refine C 6 V (Cl 0 ea dj V λhm eb ec ed=>?_);cases c9;exact AX func21 V V (bw (((((ag.Ae ai).Ae K).Ae al).Ae dd).Ae eb) V ⟨am,ap,V,V,ec⟩ ed);intro ee;refine Ay (Cm c8 (λL s I=>∃(O:LH) (U:Av) (Y:Nat) (Z:Seg),Jn a2 H O [Z] [(1,AA az 0),(6,sV U I.1 Y),(18,.agg a3.toArray),(19,iV I.2)] L s (OL 3 rI O U Y Z I.1)) ⟨a2,none,0,[],V,V,AL,c7,Cv⟩ ?_);rintro _ _ I ⟨O,U,Y,Z,rfl,rfl,ac,a6,a7⟩ ef ⟨hn,a8⟩ eg;have b0:=a8;unfold Yt at b0;refine C 5 V (AW b0 (λej ek=>?_) (λej el=>?_));refine Ai ek λho em eo=>C 6 V (Yx (Rp.Aj _ ac c6) em V V V V V CD AE A7 ?_ (λ_=>V));rintro _ rfl;refine C 6 V (BS 0 (a0.Aj (((ai.Ae K).Ae al).Ae ac)) A0 Eo EJ ?_);refine BB Ar V V V ?_;let⟨er,eu,ew⟩:=bs eo;refine C 2 V (HA [] (λL s=>∃(aj:LH),Jm O H aj [Z] [(1,AA az 0),(6,sV U I.1 Y),(7,iV I.2),(18,.agg a3.toArray),(19,iV I.2),(38,.bool er)] L s) ?_ ?_);rintro _ _ ⟨aj,rfl,rfl,a9,b1⟩;let⟨bb,ex,ey⟩:=bs ew;refine A1 (Bs (λL s=>∃(aq:LH) (av:Av) (aw:Nat) (ay:Seg),Jn aj H aq [ay] [(1,AA az 0),(6,sV av bb aw),(18,.agg a3.toArray),(19,iV I.2)] L s (OL 3 rI aq av aw ay bb)) ?_ ?_);rintro _ _ ⟨aq,av,aw,ay,rfl,rfl,eA,eC,eN⟩;refine Ai ey λe0 e1 e3=>C 2 V (Br e1 V V V (C 2 V ?_));cases e3;exact AF (eg _ _ (bb,e0) ⟨aq,av,aw,ay,V,V,((ac.Ae a9).Ae eA),eC,eN⟩ a8) V;intro b2;refine Co ex (λe4 e5=>?_) (λe4 e6=>?_);refine Ai e5 λhp e7 e8=>C 3 V (D9 0 e7 V V V V (λ_=>V) V (λ_=>V) V V V Ak Ak Ak AE (B3 A5) Ca V AD AD AD AD (a7.Aj a9) V b1 V λhq ff fk fl fm fo=>C 2 V ?_);cases e8;exact AF (b2 _ _ ⟨aj,ff,fk,fl,V,V,AL,fo,fm⟩) V;refine Bl ?_;cases e6;exact AF (b2 _ _ ⟨aj,U,Y,Z,V,V,AL,b1,(a7.Aj a9)⟩) V;intro b3;refine Hb 28 eu (λfs fv=>?_) (λfs fw=>?_);refine BS 0 (a0.Aj (((ai.Ae K).Ae al).Ae ac)) A0 Eo EJ ?_;refine Ai fv λhr fN gc=>C 1 V (B7 (bi.Aj ((((ag.Ae ai).Ae K).Ae al).Ae ac)) fN Ar CU ?_);rintro hu hv _ ⟨hw,hx,rfl,ge⟩ gg;refine CX 0 gg Fw V V V (Ai gc λhy gh gt=>Cs (Je ge gh) V V IU a6 λgB gE gO=>Ai gt λhz g3 g4=>C 1 V (As V (λ_ h=>Ix (h _ _ V) g3) (C 2 V ?_)));cases g4;exact AF (b3 _ _ ⟨gB,V,V,gE,gO⟩) V;refine C 10 V ?_;cases fw;exact AF (b3 _ _ ⟨O,V,V,AL,a6⟩) V;refine A3 V ?_;cases el;obtain rfl:=ef _ a8;exact AF (ee _ _ ⟨O,U,Y,Z,V,V,ac,a6,a7⟩) V
def XG(fu_:Nat)(p0:List Int)(p1:Int)(I:Int):Option (Bn Int ((Int)⊕(Unit))):=if I<(p0.length:Int) then((ix p0 I).bind λK=>if p1=K then(some (.done (Sum.inl I))) else((Ax (I+1)).bind λO=>some (.more O))) else(some (.done (Sum.inr ())))
def f128(fu_:Nat)(p0:List Int)(p1:Int):Option Int:=Option.bind (iter (XG fu_ p0 p1) fu_ 0) λI=>Sum.elim (λr=>some r) (λK=>some (-1)) I
variable{p1:Int}
theorem kl{p0:List Int}(ap:Aq rI E a1 c2 p0){r:Int}(Y:f128 fu_ p0 p1=some r):A2 J 75 [sV a1 p0 c2,iV p1] E [] (λw E' B'=>w=iV r/\B'=[]):=by
 refine Bq func75 λQ bx cs H aq Z=>?_;unfold f128 at Y;refine C 8 V (BB Ak V V V ?_);let⟨ac,av,ag⟩:=bs Y;refine C 2 V (Bs (λL s=>∃(ai:Unit) (aj:LH),ac=Sum.inr ai/\Jm E H aj [] [] L s) ?_ ?_);rintro _ _ ⟨ai,aj,rfl,rfl,rfl,aw,ay⟩;refine have az:=elim_inr ag;C 4 V ?_;cases az;exact AX func75 V V (Z aw V ⟨V,V⟩ ay);intro a0;refine Ay (Dc av (λO=>[]) (λO=>[(0,sV a1 p0 c2),(1,iV p1),(7,iV (p0.length:Int)),(8,iV O)]) AL aq ?_);rintro O a2 I U al ⟨bz,K⟩ a3;have am:=K;unfold XG at am;refine C 5 V (AW am (λa4 a5=>?_) (λa4 a6=>?_));refine Ai a5 λb0 a7 a8=>C 13 V (B7 (ap.Aj I) a7 Ak AE ?_);rintro b1 b2 _ rfl a9;refine CX 0 a9 A7 V V V (C 2 V (AW a8 (λbb be=>?_) (λbb bg=>?_)));refine C 5 V ?_;cases be;obtain rfl:=al _ K;have bi:=elim_inl ag;cases bi;exact AX func75 V V (Z I V ⟨V,V⟩ U);refine Ai bg λbn bo bv=>C 3 V (Br bo V V V (C 2 V ?_));cases bv;exact a3 bn I U V K;refine A3 V ?_;cases a6;have bw:ac=(Sum.inr ()):=(al _ K).symm;exact AF (a0 _ _ ⟨(),a2,bw,V,V,I,U⟩) V
def f82(fu_:Nat)(p0:List Int)(p1:Int):Option Bool:=(f128 fu_ p0 p1).bind λI=>some (decide (0<=I))
theorem mO{p0:List Int}(K:Aq rI E a1 c2 p0){r:Bool}(I:f82 fu_ p0 p1=some r):A2 J 46 [sV a1 p0 c2,iV p1] E [] (λw E' B'=>w=.bool r/\B'=[]):=by
 refine Bq func46 λQ ai cs H O U=>?_;unfold f82 at I;refine Ai I λaj Y Z=>C 8 V (Cs (kl K Y) V V (A8 func75 V) O λal ac ag=>C 3 V ?_);cases Z;exact AX func46 V V (U ac V ⟨V,V⟩ ag)
def YC(fu_:Nat)(K:Bf×Int)(I:(List ((Int×Int)×Bool))×Int):Option (Bn ((List ((Int×Int)×Bool))×Int) ((List ((Int×Int)×Bool)))):=if I.2<(K.1.2.length:Int) then((ix K.1.2 I.2).bind λO=>(Ax (I.2+1)).bind λU=>some (.more ((CQ I.1 (O.1,O.2.1) true),U))) else(some (.done I.1))
def XZ(fu_:Nat)(O:Bf×Int)(U:(List ((Int×Int)×Bool)))(K:List Int)(I:A6×Int):Option (Bn (A6×Int) (A6)):=if I.2<(O.1.1.length:Int) then(Option.bind ((f82 fu_ K I.2).bind λY=>Option.bind (if Y=true then(some true) else(if 0<(K.length:Int) then((Ax ((K.length:Int) - 1)).bind λZ=>(ix K Z).bind λac=>some (!((Bz U (ac,I.2)).getD false))) else(some false))) λag=>if ag=true then(some I.1) else((CK K ([I.2]:List Int)).bind λai=>(room I.1 ai).bind λaj=>some aj)) λal=>(Ax (I.2+1)).bind λam=>some (.more (al,am))) else(some (.done I.1))
def YN(fu_:Nat)(Y:Bf×Int)(O:(List ((Int×Int)×Bool)))(U:A6)(K:A6×Int):Option (Bn (A6×Int) (((List Int)×Int)⊕(A6))):=if K.2<(U.length:Int) then((ix U K.2).bind λI=>Option.bind (if 1<(I.length:Int) then((Ax ((I.length:Int) - 1)).bind λZ=>(ix I Z).bind λac=>(ix I (0)).bind λag=>some ((Bz O (ac,ag)).getD false)) else(some false)) λai=>if ai=true then(some (.done (Sum.inl (I,0)))) else(Option.bind (iter (XZ fu_ Y O I) fu_ (K.1,0)) λaj=>(Ax (K.2+1)).bind λal=>some (.more (aj,al)))) else(some (.done (Sum.inr K.1)))
def X2(fu_:Nat)(O:Bf×Int)(U:(List ((Int×Int)×Bool)))(I:A6):Option (Bn (A6) (((List Int)×Int)⊕(Unit))):=if 0<(I.length:Int) then(Option.bind (iter (YN fu_ O U I) fu_ ([],0)) λY=>Sum.elim (λr=>some (.done (Sum.inl r))) (λK=>if(K.length:Int)=0 then(some (.done (Sum.inr ()))) else(some (.more K))) Y) else(some (.done (Sum.inr ())))
def f33(fu_:Nat)(p0:Bf):Option ((List Int)×Int):=(f70 fu_ p0 ([])).bind λI=>if I.2≠0 then(some ([],I.2)) else(Option.bind (iter (YC fu_ I) fu_ (([]:List ((Int×Int)×Bool)),0)) λK=>Option.bind (iter (X2 fu_ I K) fu_ ([[]]:A6)) λO=>Sum.elim (λr=>some r) (λU=>some ([],11)) O)
theorem l9{eg:Av}{ej:Nat}{p0:Bf}(gg:Aq (rL rI) E a1 c2 p0.1)(gh:Aq AI E eg ej p0.2){r:(List Int)×Int}(ek:f33 fu_ p0=some r):A2 J 20 [.agg #[sV a1 p0.1 c2,sV eg p0.2 ej]] E [] (λw E' B'=>∃(el:Av) (em:Nat),w=.tuple #[sV el r.1 em,iV r.2]/\B'=[]/\Aq rI E' el em r.1):=by
 refine Bq func20 λQ od cs H gt c0=>?_;unfold f33 at ek;refine C 2 V (Cx gt λoe og a7 gB gE=>?_);refine C 6 V (Ch gB C8 B8 V V (Ai ek λa8 gO g3=>Cb (NK (gg.Aj a7) (gh.Aj a7) Ba gO) V V M5 gE ?_));rintro _ oh _ c3 ⟨om,oo,g4,g5,rfl,rfl,oq,g6⟩ g7;refine C 3 V (Cq g7 Jv λZ g8=>?_);refine BX 3 g8 Fx λha=>?_;refine Ff 3 ha V λc4 bv eo er=>C 8 V (AW g3 (λhb hc=>?_) (λhb he=>?_));refine C 6 V ?_;cases hc;exact AX func20 V V (c0 ((a7.Ae c3).Ae bv) V ⟨none,0,V,V,Ba⟩ er);refine C 3 V (E1 V V V er λI hf=>C 5 V (Cf Cg B8 V V V (BS 1 eo A0 Ej Fe ?_)));refine BB Am V V V ?_;let⟨hk,hl,hm⟩:=bs he;refine C 2 V (Bs (λL s=>∃(az:LH) (U:Obj),Jn c4 H az [[(I,U)]] [(4,AA Z 0),(6,.map (some I))] L s (Ck De true rB false az U hk)) ?_ ?_);rintro _ _ ⟨az,U,rfl,rfl,c5,hn,eu⟩;refine C 2 V (Gz (pp:=(rL rI)) [nS] [[]] V V V Ar CU Kh AD V V V ⟨⟨_,_,V,Ba⟩,trivial⟩ hn λho hp hq hr=>C 3 V (JL.label ?_));let⟨c6,hu,ew⟩:=bs hm;refine D5 (Bs (λL s=>∃(ex:Unit) (ey:LH),c6=Sum.inr ex/\Jm az H ey [] [] L s) ?_ ?_);rintro _ _ ⟨ex,ey,rfl,rfl,rfl,hv,hw⟩;refine have hx:=elim_inr ew;C 5 V ?_;cases hx;exact AX func20 V V (c0 ((((a7.Ae c3).Ae bv).Ae c5).Ae hv) V ⟨none,0,V,V,Ba⟩ hw);intro eA;refine Ay (Cm hu (λL s K=>∃(aq:LH) (ac:Av) (ag:Nat) (ai:Seg),Jn az H aq [[(I,U)],ai] [(4,AA Z 0),(6,.map (some I)),(9,sV ac K ag)] L s (OL 28 (rL rI) aq ac ag ai K)) ⟨az,(Bd ho),1,hp,V,V,AL,hr,hq⟩ ?_);rintro _ _ K ⟨aq,ac,ag,ai,rfl,rfl,av,eC,hy⟩ c7 ⟨ot,a9⟩ hz;have eN:=a9;unfold X2 at eN;refine C 4 V (BB Ar V V V (C 2 V (AW eN (λhA hB=>?_) (λhA hC=>?_))));refine C 10 V (BB Ar V V V ?_);let⟨e0,hD,e1⟩:=bs hB;refine C 2 V (Bs (λL s=>∃(bb:A6) (be:LH) (bw:Av) (bx:Nat) (bz:Seg),e0=Sum.inr bb/\Jn aq H be [[(I,U)],bz] [(4,AA Z 0),(6,.map (some I)),(10,sV bw bb bx)] L s (OL 28 (rL rI) be bw bx bz bb)) ?_ ?_);rintro _ _ ⟨bb,be,bw,bx,bz,rfl,rfl,rfl,e3,e4,hE⟩;refine have hF:=elim_inr e1;C 8 V (BB Ar V V V (C 2 V (AW hF (λhG hH=>?_) (λhG hI=>?_))));refine A3 V (BO 0 e4 V λhJ=>BO 1 hJ V λhK=>?_);cases hH;have hL:c6=(Sum.inr ()):=(c7 _ a9).symm;exact AF (eA _ _ ⟨(),be,hL,V,V,(av.Ae e3),hK⟩) V;refine C 2 V ?_;cases hI;exact AF (hz _ _ bb ⟨be,bw,bx,bz,V,V,(av.Ae e3),e4,hE⟩ a9) V;intro hM;refine Ay (Cm hD (λL s O=>∃(al:LH) (a0:Av) (a2:Nat) (a3:Seg),Jn aq H al [[(I,U)],ai,a3] [(4,AA Z 0),(6,.map (some I)),(10,sV a0 O.1 a2),(43,sV ac K ag),(44,iV (K.length:Int)),(45,iV O.2)] L s (OL 28 (rL rI) al a0 a2 a3 O.1)) ⟨aq,none,0,[],V,V,AL,eC,Cv⟩ ?_);rintro _ _ O ⟨al,a0,a2,a3,rfl,rfl,aw,bg,e5⟩ e6 ⟨ou,b0⟩ hN;have e7:=b0;unfold YN at e7;refine C 5 V (AW e7 (λhO hP=>?_) (λhO hQ=>?_));refine Ai hP λb1 hR hS=>C 5 V (Ml 1 (hy.Aj aw) hR V V V V V V Ar CU ?_);rintro ov ow f155 _ hT ⟨bi,bn,rfl,am⟩ hU ox oy oz oA;refine As V (λ_ h=>Az Fw (h _ _ V) (Cc bg hT (hU 0 _ V))) (C 6 V (BB Ak V V V (C 3 V (RH 15 λht=>AY ht V [0,1,2] V ?_))));obtain⟨hV,e8,hW⟩:=bs hS;refine FK 0 (tR_ 15 0) (λL s=>L=[(4,AA Z 0),(6,.map (some I)),(10,sV a0 O.1 a2),(12,sV bi b1 bn),(43,sV ac K ag),(44,iV (K.length:Int)),(45,iV O.2),(65,.bool hV)]/\s=Ao al H [[(I,U)],ai,a3]) ?_ ?_;rintro _ _ ⟨rfl,rfl⟩;refine DP AC (Co hW (λhX hY=>?_) (λhX h0=>?_));refine C 6 V (BO 0 bg V λh1=>BO 1 h1 V λh2=>BO 2 h2 V λh3=>?_);cases hY;obtain rfl:=e6 _ b0;have h4:=elim_inl e1;cases h4;obtain rfl:=c7 _ a9;have h5:=elim_inl ew;cases h5;exact AX func20 V V (c0 (((((a7.Ae c3).Ae bv).Ae c5).Ae av).Ae aw) V ⟨bi,bn,V,V,am⟩ h3);refine C 3 V (Cf Cg B8 V V V (BS 0 (eo.Aj ((c5.Ae av).Ae aw)) A0 Eo EJ ?_));refine BB Ar V V V ?_;let⟨c8,h6,h7⟩:=bs h0;refine C 2 V (Bs (λL s=>∃(b2:LH) (b3:Av) (b4:Nat) (b5:Seg),Jn al H b2 [[(I,U)],ai,b5] [(4,AA Z 0),(6,.map (some I)),(10,sV b3 c8 b4),(43,sV ac K ag),(44,iV (K.length:Int)),(45,iV O.2)] L s (OL 28 (rL rI) b2 b3 b4 b5 c8)) ?_ ?_);rintro _ _ ⟨b2,b3,b4,b5,rfl,rfl,h8,h9,ia⟩;refine Ai h7 λih ii io=>C 2 V (Br ii V V V (C 2 V ?_));cases io;exact AF (hN _ _ (c8,ih) ⟨b2,b3,b4,b5,V,V,(aw.Ae h8),h9,ia⟩ b0) V;intro it;refine Ay (Cm h6 (λL s Y=>∃(bo:LH) (a4:Av) (a5:Nat) (a6:Seg),Jn al H bo [[(I,U)],ai,a6] [(4,AA Z 0),(6,.map (some I)),(10,sV a4 Y.1 a5),(12,sV bi b1 bn),(43,sV ac K ag),(44,iV (K.length:Int)),(45,iV O.2),(70,iV (a8.1.1.length:Int)),(71,iV Y.2)] L s (OL 28 (rL rI) bo a4 a5 a6 Y.1)) ⟨al,a0,a2,a3,V,V,AL,bg,e5⟩ ?_);rintro _ _ Y ⟨bo,a4,a5,a6,rfl,rfl,ap,ff,c9⟩ i0 ⟨oB,dd⟩ i1;have fk:=dd;unfold XZ at fk;refine C 5 V (AW fk (λi3 i4=>?_) (λi3 i5=>?_));let⟨dj,i6,i7⟩:=bs i4;refine C 2 V (Bs (λL s=>∃(b6:LH) (ca:Av) (cc:Nat) (ce:Seg),Jn bo H b6 [[(I,U)],ai,ce] [(4,AA Z 0),(6,.map (some I)),(10,sV ca dj cc),(12,sV bi b1 bn),(43,sV ac K ag),(44,iV (K.length:Int)),(45,iV O.2),(70,iV (a8.1.1.length:Int)),(71,iV Y.2)] L s (OL 28 (rL rI) b6 ca cc ce dj)) ?_ ?_);rintro _ _ ⟨b6,ca,cc,ce,rfl,rfl,i8,i9,jg⟩;refine Ai i7 λji jj jr=>CA (Br jj V V V (C 2 V ?_));cases jr;exact AF (i1 _ _ (dj,ji) ⟨b6,ca,cc,ce,V,V,(ap.Ae i8),i9,jg⟩ dd) V;intro fl;refine Ai i6 λoD jt jy=>C 11 V (Cs (mO (am.Aj ap) jt) V V (A8 func46 V) ff λci aj co=>?_);let⟨kb,kc,ke⟩:=bs jy;refine C 1 V (HA [] (λL s=>∃(ea:LH),Jm ci H ea [[(I,U)],ai,a6] [(4,AA Z 0),(6,.map (some I)),(10,sV a4 Y.1 a5),(12,sV bi b1 bn),(14,iV Y.2),(43,sV ac K ag),(44,iV (K.length:Int)),(45,iV O.2),(70,iV (a8.1.1.length:Int)),(71,iV Y.2),(94,.bool kb)] L s) ?_ ?_);rintro _ _ ⟨ea,rfl,rfl,ay,fm⟩;refine A1 (Co ke (λkf ki=>?_) (λkf kn=>?_));refine A3 V ?_;cases ki;exact AF (fl _ _ ⟨ea,a4,a5,a6,V,V,(aj.Ae ay),fm,(c9.Aj (aj.Ae ay))⟩) V;refine C 5 V (BB Ak V V V (C 1 V (BB Ak V V V (As V (λ_ h=>VM (Aq.spot (am.Aj ((ap.Ae aj).Ae ay))) (And.left (am.Aj ((ap.Ae aj).Ae ay))) Ak AE (h _ _ V) (h _ _ V) (h _ _ V)) (C 1 V (Gz (pp:=rI) [iV Y.2] [Y.2] V V V Ak AE Ca AD V V V Ad fm λoE oF ko kp=>Cl 3 ko kp V λoG eb ks kv=>Ai kn λoH k0 k1=>ba k0 V V V V V V V Ak Ak AE (B3 A5) Ca V AD AD (am.Aj (((ap.Ae aj).Ae ay).Ae eb)) ks kv λk2 oI oJ fo k3 k4=>Ai k1 λoK k5 k6=>D9 2 k5 V V V V (λ_=>V) V (λ_=>V) V V V Ar Ar Ar CU (B3 D6) Kh V AD AD AD AD (c9.Aj (((aj.Ae ay).Ae eb).Ae fo)) ⟨_,_,V,k3⟩ k4 V λoL k7 la ld li lm=>C 3 V ?_))))));cases k6;exact AF (fl _ _ ⟨k2,k7,la,ld,V,V,(((aj.Ae ay).Ae eb).Ae fo),lm,li⟩) V;intro ec;refine FX 77 kc (λlq ls=>?_) (λlq lw=>?_);refine C 17 V ?_;cases ls;exact AF (ec _ _ ⟨ci,V,V,AL,co⟩) V;refine C 1 V (BB Ak V V V (C 2 V (Hb 81 lw (λly l3=>?_) (λly l4=>?_))));refine C 3 V (BB Ak V V V (Ai l3 λoM l5 l6=>B9 l5 V V V (Ai l6 λma mb mp=>B7 (am.Aj (ap.Ae aj)) mb Ak AE ?_)));rintro oN oO _ rfl ms;refine CX 0 ms A7 V V V (C 1 V (As V (λ_ h=>DZ [(0,1),(1,1)] h KM CZ ⟨V,Bg A5,V,Bg A5,trivial⟩ V V) (As V (λ_ h=>Du (x0:=(ma,Y.2)) (z0:=false) Ut underlying89 Ob ⟨_,V,V⟩ (eu.Aj (((av.Ae aw).Ae ap).Ae aj)) ⟨_,⟨_,_,V,V,V⟩,V⟩ (by rintro _ ⟨_,rfl,rfl⟩;rfl) (h _ _ V) (h _ _ V) (Ew (j:=0) (i:=0) co V V)) (As V (λ_ h=>CN (h _ _ V)) (C 2 V ?_)))));cases mp;exact AF (ec _ _ ⟨ci,V,V,AL,co⟩) V;refine C 13 V ?_;cases l4;exact AF (ec _ _ ⟨ci,V,V,AL,co⟩) V;refine A3 V ?_;cases i5;obtain rfl:=i0 _ dd;exact AF (it _ _ ⟨bo,a4,a5,a6,V,V,ap,ff,c9⟩) V;intro fs;refine GM (i:=53) V (λed=>?_) (λed=>?_);refine have mv:=ip e8 ed;AY ht V [3,4,5] V (Ai mv λoP m0 m1=>Bj 6 ht V V (λ_ h s' hs=>Ep (h _ _ V) (h _ _ V) m0) (Ai m1 λm2 m3 m5=>Dd 7 am m3 ht Ak AE ?_));rintro oQ oR _ rfl nc;refine Bj 8 ht V V (λ_ h s' hs=>Az A7 (h _ _ V) (K4 hs (HM (j:=0) nc V))) (Db 9 ht V V (Ai m5 λnl nr nx=>Dd 10 am nr ht Ak AE ?_));rintro oS oT _ rfl ny;refine Bj 11 ht V V (λ_ h s' hs=>Az A7 (h _ _ V) (K4 hs (HM (j:=0) ny V))) (Bj 12 ht V V (λ_ h s' hs=>DZ [(0,1),(1,1)] h KM CZ ⟨V,Bg A5,V,Bg A5,trivial⟩ V V) (Bj 13 ht V V (λ_ h s' hs=>Du (x0:=(m2,nl)) (z0:=false) Ut underlying89 Ob ⟨_,V,V⟩ (eu.Aj (av.Ae aw)) ⟨_,⟨_,_,V,V,V⟩,V⟩ (by rintro _ ⟨_,rfl,rfl⟩;rfl) (h _ _ V) (h _ _ V) (UY hs (Ew (j:=0) (i:=0) bg V V))) (Db 14 ht V V ?_)));cases nx;refine Da ?_ (fs _ _ ⟨V,V⟩);exact Ad;refine have nE:=im e8 ed;AY ht V [3,4,5,6,7,8,9,10,11,12,13,14] V ?_;cases nE;refine Da ?_ (fs _ _ ⟨V,V⟩);exact Ad;refine A3 V (BO 1 bg V λnH=>?_);cases hQ;have nM:e0=(Sum.inr O.1):=(e6 _ b0).symm;exact AF (hM _ _ ⟨O.1,al,a0,a2,a3,nM,V,V,aw,nH,e5⟩) V;refine A3 V (BO 0 eC V λnN=>BO 1 nN V λnO=>?_);cases hC;have nP:c6=(Sum.inr ()):=(c7 _ a9).symm;exact AF (eA _ _ ⟨(),aq,nP,V,V,av,nO⟩) V;intro nQ;refine Ay (Cm hl (λL s cp=>∃(ct:LH) (cw:Obj),Jn c4 H ct [[(I,cw)]] [(4,AA Z 0),(6,.map (some I)),(26,sV g4 a8.1.2 g5),(27,iV (a8.1.2.length:Int)),(28,iV cp.2)] L s (Ck De true rB false ct cw cp.1)) ⟨c4,(.map #[] 0),V,V,AL,hf,Ck.nil⟩ ?_);rintro _ _ cp ⟨ct,cw,rfl,rfl,ee,fv,fw⟩ nR ⟨oU,ef⟩ nT;have fN:=ef;unfold YC at fN;refine C 5 V (AW fN (λnU nV=>?_) (λnU nW=>?_));refine Ai nV λcy nX nY=>C 5 V (B7 (g6.Aj (bv.Ae ee)) nX Am Bc ?_);rintro oV oW _ ⟨_,_,rfl,rfl,⟨_,_,rfl,rfl,rfl⟩⟩ nZ;refine Ch nZ Dl Bc V V (Cq fv BU λoX n0=>?_);refine BX 1 n0 Bc λn3=>?_;refine Ff 1 n3 V λn4 gc ge n6=>C 3 V (BS 0 ge An AE A7 ?_);refine BS 1 ge An AE A7 ?_;refine As V (λ_ h=>DZ [(0,1),(1,1)] h KM CZ ⟨V,Bg A5,V,Bg A5,trivial⟩ V V) (Df (x0:=(cy.1,cy.2.1)) (v0:=true) 0 Ut underlying89 (fw.Aj gc) ⟨_,⟨_,_,V,V,V⟩,V⟩ ⟨_,V,V⟩ n6 V V V V V V V λn7 n8 n9=>Ai nY λoa ob oc=>C 3 V (Br ob V V V (C 2 V ?_)));cases oc;exact AF (nT _ _ ((CQ cp.1 (cy.1,cy.2.1) true),oa) ⟨n4,n7,V,V,(ee.Ae gc),n9,n8⟩ ef) V;refine A3 V ?_;cases nW;obtain rfl:=nR _ ef;exact AF (nQ _ _ ⟨ct,cw,V,V,ee,fv,fw⟩) V
variable {J:Judge Tryz.prog}
def kP:List Nat:=[0,1,2,2,3,3,3,3,4,4,4,4,4,4,4,4,5,5,5,5,5,5,5,5,5,5,5,5,5,5,5,5,6,6,6,6,6,6,6,6,6,6,6,6,6,6,6,6,6,6,6,6,6,6,6,6,6,6,6,6,6,6,6,6,7,7,7,7,7,7,7,7,7,7,7,7,7,7,7,7,7,7,7,7,7,7,7,7,7,7,7,7,7,7,7,7,7,7,7,7,7,7,7,7,7,7,7,7,7,7,7,7,7,7,7,7,7,7,7,7,7,7,7,7,7,7,7,7,8,8,8,8,8,8,8,8,8,8,8,8,8,8,8,8,8,8,8,8,8,8,8,8,8,8,8,8,8,8,8,8,8,8,8,8,8,8,8,8,8,8,8,8,8,8,8,8,8,8,8,8,8,8,8,8,8,8,8,8,8,8,8,8,8,8,8,8,8,8,8,8,8,8,8,8,8,8,8,8,8,8,8,8,8,8,8,8,8,8,8,8,8,8,8,8,8,8,8,8,8,8,8,8,8,8,8,8,8,8,8,8,8,8,8,8,8,8,8,8,8,8,8,8,8,8,8,8]
def f146(fu_:Nat)(p0:Nat):Option Int:=Option.bind (if(((4294967296):Nat):Int)<=(((p0):Nat):Int) then(some (p0>>>32,32)) else(some (p0,0))) λx1=>Option.bind (if(((65536):Nat):Int)<=(((x1.1):Nat):Int) then((Ax (x1.2+16)).bind λO=>some (x1.1>>>16,O)) else(some x1)) λI=>Option.bind (if(((256):Nat):Int)<=(((I.1):Nat):Int) then((Ax (I.2+8)).bind λU=>some (I.1>>>8,U)) else(some I)) λK=>(UX kP (((((K.1)%256):Nat):Int))).bind λY=>(Ax (((Y):Nat):Int)).bind λZ=>(Ax (K.2+Z)).bind λac=>some ac
theorem jV{r:Int}(I:f146 fu_ c2=some r):A2 J 93 [.int .u64 ((c2:Nat):Int)] E [] (λw E' B'=>w=iV r/\B'=[]):=by
 refine Bq func93 λQ b1 cs H K aj=>?_;unfold f146 at I;refine Ai I λx1 al am=>C 10 V (FE [] [(0,.int .u64 ((x1.1:Nat):Int)),(2,iV x1.2)] (λb2 ap O=>?_) (λU=>?_));refine Ai am λY aq av=>C 6 V (FE [] [(0,.int .u64 ((Y.1:Nat):Int)),(2,iV Y.2)] (λb3 aw Z=>?_) (λac=>?_));refine Ai av λag ay az=>C 6 V (FE [] [(0,.int .u64 ((ag.1:Nat):Int)),(2,iV ag.2)] (λb4 a0 a1=>?_) (λai=>?_));refine C 4 V (As V (λ_ h=>gp EI underlying5 (h _ _ V)) (Ai az λb5 a2 a3=>As V (λ_ h=>bJ AC underlying9 (h _ _ V) (h _ _ V) a2) (Ai a3 λb6 a4 a5=>As V (λ_ h=>fy underlying5 BT (h _ _ V) a4) (Ai a5 λca a6 a7=>Br a6 V V V (C 2 V ?_)))));cases a7;exact AX func93 V V (aj ((ap.Ae aw).Ae a0) V ⟨V,V⟩ a1);refine AW ay (λa8 a9=>?_) (λa8 bb=>?_);refine C 3 V (As V (λ_ h=>Mi 8 (h _ _ V) (h _ _ V) AD) (Ai a9 λcc be bg=>C 4 V (Br be V V V (C 2 V ?_))));cases bg;exact ai AL Z V;refine Bl ?_;cases bb;exact ai AL Z V;refine AW aq (λbi bn=>?_) (λbi bo=>?_);refine C 3 V (As V (λ_ h=>Mi 16 (h _ _ V) (h _ _ V) AD) (Ai bn λce bv bw=>C 4 V (Br bv V V V (C 2 V ?_))));cases bw;exact ac AL O V;refine Bl ?_;cases bo;exact ac AL O V;refine AW al (λbx bz=>?_) (λbx b0=>?_);refine C 3 V (As V (λ_ h=>Mi 32 (h _ _ V) (h _ _ V) AD) (C 5 V ?_));cases bz;exact U AL K V;refine Bl ?_;cases b0;exact U AL K V
def f115(fu_:Nat)(p0:Nat):Option Int:=(f146 fu_ p0).bind λx1=>some x1
theorem OP{r:Int}(I:f115 fu_ c2=some r):A2 J 62 [.int .u64 ((c2:Nat):Int)] E [] (λw E' B'=>w=iV r/\B'=[]):=by
 refine Bq func62 λQ ag cs H K O=>?_;unfold f115 at I;refine Ai I λx1 U Y=>C 10 V (Cs (jV U) V V (A8 func93 V) K λai Z ac=>C 2 V ?_);cases Y;exact AX func62 V V (O Z V ⟨V,V⟩ ac)
def Ql(fu_:Nat)(p1:Int)(I:Int×AK):Option (Bn (Int×AK) (AK)):=Option.bind (if p1<I.1 then((ix I.2 I.1).bind λU=>(Ax (I.1 - 1)).bind λY=>(ix I.2 Y).bind λZ=>(f113 fu_ U Z).bind λac=>some (decide (ac<0))) else(some false)) λag=>if ag=true then((Ax (I.1 - 1)).bind λK=>(Ax (I.1 - 1)).bind λai=>(ix I.2 ai).bind λO=>(ix I.2 I.1).bind λaj=>(ix (I.2.set (Int.toNat I.1) O) K).bind λam=>(Ax (I.1 - 1)).bind λal=>some (.more (al,((I.2.set (Int.toNat I.1) O).set (Int.toNat K) aj)))) else(some (.done I.2))
def QS(fu_:Nat)(p1:Int)(p2:Int)(I:Int×AK):Option (Bn (Int×AK) (AK)):=if I.1<p2 then(Option.bind (iter (Ql fu_ p1) fu_ I) λK=>(Ax (I.1+1)).bind λO=>some (.more (O,K))) else(some (.done I.2))
def NR(fu_:Nat)(p0:AK)(p1:Int)(p2:Int):Option (AK):=(Ax (p1+1)).bind λx1=>Option.bind (iter (QS fu_ p1 p2) fu_ (x1,p0)) λI=>some I
variable{nw:Nat}{p3:Int}
theorem jJ{ay:Av_}(hW:WL 27 AI E sz O nw ay p0)(a6:NR fu_ p0 p1 p3=some r):A2 J 159 [.slice (Bd sz) nw O,iV p1,iV p3,(fV 57)] E [(sz,.cells ay 27 (0,0))] (λw E' B'=>∃(a7:Av_),w=.tuple #[]/\B'=[(sz,.cells a7 27 (0,0))]/\WL 27 AI E' sz O nw a7 r):=by
 refine Bq func159 λQ fv cs H b2 b3=>?_;unfold NR at a6;refine Ai a6 λx1 b4 b5=>C 3 V (Br b4 V V V ?_);let⟨b6,ca,cc⟩:=bs b5;refine C 2 V (Bs (λL s=>∃(az:LH) (f17:Av_),Jn E H az [bX sz f17 27] [] L s (WL 27 AI az sz O nw f17 b6)) ?_ ?_);rintro _ _ ⟨az,f17,rfl,rfl,ce,ci,co⟩;cases cc;exact DA V V (Bm func159 V (vs:=[]) trivial) (b3 ce V ⟨f17,V,Ab,co⟩ ci);intro cp;refine Ay (Cm ca (λL s ag=>∃(Z:LH) (f25:Av_),Jn E H Z [bX sz f25 27] [(0,.slice (Bd sz) nw O),(1,iV p1),(2,iV p3),(3,(fV 57)),(8,iV ag.1)] L s (WL 27 AI Z sz O nw f25 ag.2)) ⟨E,ay,V,V,AL,b2,hW⟩ ?_);rintro _ _ ag ⟨Z,f25,rfl,rfl,a8,a9,bb⟩ ct ⟨fw,a0⟩ cw;have be:=a0;unfold QS at be;refine C 7 V (AW be (λcy c0=>?_) (λcy c2=>?_));let⟨bg,c3,c4⟩:=bs c0;refine C 8 V (Bs (λL s=>∃(ap:LH) (f48:Av_),Jn Z H ap [bX sz f48 27] [(0,.slice (Bd sz) nw O),(1,iV p1),(2,iV p3),(3,(fV 57)),(8,iV ag.1)] L s (WL 27 AI ap sz O nw f48 bg)) ?_ ?_);rintro _ _ ⟨ap,f48,rfl,rfl,c5,c6,c7⟩;refine Ai c4 λc8 c9 dd=>C 3 V (Br c9 V V V (C 2 V ?_));cases dd;exact AF (cw _ _ (c8,bg) ⟨ap,f48,V,V,(a8.Ae c5),c6,c7⟩ a0) V;intro dj;refine Ay (Cm c3 (λL s ac=>∃(aj:LH) (f58:Av_),Jn Z H aj [bX sz f58 27] [(0,.slice (Bd sz) nw O),(1,iV p1),(2,iV p3),(3,(fV 57)),(8,iV ag.1),(9,iV ac.1)] L s (WL 27 AI aj sz O nw f58 ac.2)) ⟨Z,f25,V,V,AL,a9,bb⟩ ?_);rintro _ _ ac ⟨aj,f58,rfl,rfl,bi,al,K⟩ ea ⟨fN,a1⟩ eb;have bn:=a1;unfold Ql at bn;refine C 2 V (EW 17 [sz] ⟨⟨0,_,V⟩,trivial⟩ al λht=>?_);refine AY ht V [0,1,2,3] V ?_;let⟨ec,bo,ed⟩:=bs bn;refine FK 0 (tR_ 17 0) (λL s=>∃(aq:LH),Jm aj H aq [bX sz f58 27] [(0,.slice (Bd sz) nw O),(1,iV p1),(2,iV p3),(3,(fV 57)),(8,iV ag.1),(9,iV ac.1),(34,.bool ec)] L s) ?_ ?_;rintro _ _ ⟨aq,rfl,rfl,ai,av⟩;refine DP AC (Co ed (λee ef=>?_) (λee eg=>?_));refine C 3 V (Gl [15,17] [sz] [] mixed V (CL 0 V V (CL 1 V V (CL 2 V V (CL 3 V V (Ai ef λbv ej ek=>CG 4 true V V (λ_ h s' hs=>Ep (h _ _ V) (h _ _ V) ej) (CL 5 V V (CL 6 V V (Ai ek λgc el em=>CG 7 true V V (λ_ h s' hs=>Ep (h _ _ V) (h _ _ V) el) ?_)))))))));let⟨U,bw,eo⟩:=bs em;obtain⟨_,⟨_,_,rfl,rfl,⟨_,_,rfl,rfl,rfl⟩⟩,er⟩:=Cr (K.Aj ai) bw;refine DM 8 K.2 bw Am Bc ?_;refine RD 9 [iV U.1,iV U.2.1,iV U.2.2] 0 av er Dl Bc ?_;refine CL 10 V V (CL 11 V V ?_);let⟨Y,aw,eu⟩:=bs eo;obtain⟨_,⟨_,_,rfl,rfl,⟨_,_,rfl,rfl,rfl⟩⟩,ew⟩:=Cr (K.Aj ai) aw;refine DM 12 K.2 aw Am Bc ?_;refine RD 13 [iV Y.1,iV Y.2.1,iV Y.2.2] 0 av ew Dl Bc ?_;refine DM 14 K.2 aw Am Bc ?_;refine have am:=D8 (x':=U) (ws':=[iV U.1,iV U.2.1,iV U.2.2]) (K.Aj ai) K.2 aw ⟨_,_,V,V,⟨_,_,V,V,V⟩⟩;E3 15 0 av Bc trivial am.2 λex=>?_;let⟨ge,a2,ey⟩:=bs eu;obtain⟨_,⟨_,_,rfl,rfl,⟨_,_,rfl,rfl,rfl⟩⟩,gg⟩:=Cr am.1 a2;refine DM 16 (am.1).2 a2 Am Bc ?_;refine have bx:=D8 (x':=Y) (ws':=[iV Y.1,iV Y.2.1,iV Y.2.2]) am.1 (am.1).2 a2 ⟨_,_,V,V,⟨_,_,V,V,V⟩⟩;E3 17 0 ex Bc trivial bx.2 λeA=>?_;refine DG AC (Ai ey λeC eN e0=>C 3 V (B9 eN V V V (C 2 V ?_)));cases e0;exact AF (eb _ _ (eC,((ac.2.set (Int.toNat ac.1) U).set (Int.toNat bv) Y)) ⟨aq,(Be (Be f58 (Int.toNat (ac.1)*3) [iV U.1,iV U.2.1,iV U.2.2]) (Int.toNat (bv)*3) [iV Y.1,iV Y.2.1,iV Y.2.2]),V,V,(bi.Ae ai),eA,bx.1⟩ a1) V;refine A3 V ?_;cases eg;obtain rfl:=ea _ a1;exact AF (dj _ _ ⟨aq,f58,V,V,(bi.Ae ai),av,(K.Aj ai)⟩) V;intro bz;refine GM (i:=21) V (λa3=>?_) (λa3=>?_);refine have e1:=ip bo a3;AY ht V [4,5,6] V ?_;let⟨a4,b0,e3⟩:=bs e1;obtain⟨_,⟨_,_,rfl,rfl,⟨_,_,rfl,rfl,rfl⟩⟩,e4⟩:=Cr K b0;refine GK 7 ht (K).2 b0 Am Bc ?_;refine RR 8 ht [iV a4.1,iV a4.2.1,iV a4.2.2] 0 al e4 Dl Bc ?_;refine AY ht V [9,10] V (Ai e3 λgh e5 e6=>Bj 11 ht V V (λ_ h s' hs=>Ep (h _ _ V) (h _ _ V) e5) ?_);let⟨a5,b1,e7⟩:=bs e6;obtain⟨_,⟨_,_,rfl,rfl,⟨_,_,rfl,rfl,rfl⟩⟩,e8⟩:=Cr K b1;refine GK 12 ht (K).2 b1 Am Bc ?_;refine RR 13 ht [iV a5.1,iV a5.2.1,iV a5.2.2] 0 al e8 Dl Bc ?_;refine Ai e7 λgt ff fk=>Jz (i:=14) ⟨⟨0,_,V⟩,trivial⟩ (Yj ff) AC V V V V (A8 func57 V) V al ?_;rintro _ fl _ fm ⟨rfl,rfl⟩ fo;refine AY ht V [15,16] V ?_;cases fk;refine Da ?_ (bz _ _ ⟨fl,V,V,fm,fo⟩);exact Ad;refine have fs:=im bo a3;AY ht V [4,5,6,7,8,9,10,11,12,13,14,15,16] V ?_;cases fs;refine Da ?_ (bz _ _ ⟨aj,V,V,AL,al⟩);exact Ad;refine A3 V ?_;cases c2;obtain rfl:=ct _ a0;exact AF (cp _ _ ⟨Z,f25,V,V,a8,a9,bb⟩) V
def TS(fu_:Nat)(p0:AK)(p1:Int)(p2:Int)(p3:Int)(O:Unit):Option (Bn Unit ((AK)⊕(Unit))):=(Ax (p2 - p1)).bind λI=>if I<=12 then((NR fu_ p0 p1 p2).bind λK=>some (.done (Sum.inl K))) else(if p3=0 then(none) else(none))
def f169(fu_:Nat)(p0:AK)(p1:Int)(p2:Int)(p3:Int):Option (AK):=Option.bind (iter (TS fu_ p0 p1 p2 p3) fu_ ()) λI=>Sum.elim (λr=>some r) (λK=>none) I
variable{p2:Int}
theorem ku{O:Av_}(hW:WL 27 AI E c2 sz nw O p0)(U:f169 fu_ p0 p1 p2 p3=some r):A2 J 158 [.slice (Bd c2) nw sz,iV p1,iV p2,iV p3,(fV 57)] E [(c2,.cells O 27 (0,0))] (λw E' B'=>∃(Y:Av_),w=.tuple #[]/\B'=[(c2,.cells Y 27 (0,0))]/\WL 27 AI E' c2 sz nw Y r):=by
 refine Bq func158 λQ bg cs H aj al=>?_;unfold f169 at U;refine Ai U λbi am ap=>C 8 V (Bs (λL s=>False) ?_ ?_);intro _ _ aq;exact aq.elim;intro bn;refine Ay (Dc am (λZ=>[bX c2 O 27]) (λZ=>[(0,.slice (Bd c2) nw sz),(1,iV p1),(2,iV p2),(3,iV p3),(4,(fV 57)),(10,.bool true),(11,.bool true)]) AL aj ?_);rintro Z bo ac av aw ⟨bv,ag⟩ bw;have ai:=ag;unfold TS at ai;refine Ai ai λbx ay az=>C 5 V (B9 ay V V V (C 8 V (AW az (λa0 a1=>?_) (λa0 a2=>?_))));refine Ai a1 λbz a3 a4=>C 6 V (CO 0 (jJ (hW.Aj ac) a3) V V (A8 func159 V) av V ?_);rintro _ b0 _ a5 ⟨f32,rfl,rfl,a6⟩ a7;refine A1 ?_;cases a4;obtain rfl:=aw _ ag;have a8:=elim_inl ap;cases a8;exact AX func158 V V (al (ac.Ae a5) V ⟨f32,V,Ab,a6⟩ a7);refine C 7 V (AW a2 (λa9 bb=>?_) (λa9 be=>?_));refine C 6 V ?_;cases bb;refine C 5 V (As V (λ_ h=>CN (h _ _ V)) (C 9 V ?_));cases be
def f130(fu_:Nat)(p0:AK):Option (AK):=(f115 fu_ (EG (p0.length:Int))).bind λx1=>(f169 fu_ p0 0 (p0.length:Int) x1).bind λI=>some I
abbrev D2:=@Go.Proofs.Tryz.underlying110
theorem kK{O:Av_}(hW:WL 27 AI E c2 sz nw O p0)(U:f130 fu_ p0=some r):A2 J 157 [.slice (Bd c2) nw sz,(fV 57)] E [(c2,.cells O 27 (0,0))] (λw E' B'=>∃(Y:Av_),w=.tuple #[]/\B'=[(c2,.cells Y 27 (0,0))]/\WL 27 AI E' c2 sz nw Y r):=by
 refine Bq func157 λQ ay cs H ac ag=>?_;unfold f130 at U;refine C 3 V (As (v:=iV (p0.length:Int)) V (λ_ h=>Qj (hW).2 V BE (h _ _ V)) (C 6 V (As (v:=.int .u64 ((EG (p0.length:Int):Nat):Int)) V (λ_ h=>G4 BT D2 (h _ _ V)) (Ai U λx1 ai aj=>Cs (OP ai) V V N9 ac λaz Z al=>Ai aj λa0 am ap=>C 1 V (CO 0 (ku (hW.Aj Z) am) V V (A8 func158 V) al V ?_)))));rintro _ a1 _ aq ⟨f12,rfl,rfl,av⟩ aw;refine A1 ?_;cases ap;exact DA V V (Bm func157 V (vs:=[]) trivial) (ag (Z.Ae aq) V ⟨f12,V,Ab,av⟩ aw)
def Xg(fu_:Nat)(p1:Int)(I:Int)(O:Unit):Option (Bn Unit Unit):=Option.bind (if p1<I then(none) else(some false)) λK=>if K=true then((Ax (I - 1)).bind λU=>(Ax (I - 1)).bind λY=>none) else(some (.done ()))
def Xd(fu_:Nat)(p1:Int)(p2:Int)(I:Int):Option (Bn Int Unit):=if I<p2 then(Option.bind (iter (Xg fu_ p1 I) fu_ ()) λO=>(Ax (I+1)).bind λK=>some (.more K)) else(some (.done ()))
def UL(fu_:Nat)(p1:Int)(p2:Int):Option Unit:=(Ax (p1+1)).bind λx1=>Option.bind (iter (Xd fu_ p1 p2) fu_ x1) λI=>some ()
theorem gF{r:Unit}(U:UL fu_ p1 p3=some r):A2 J 159 [nS,iV p1,iV p3,(fV 57)] E [] (λw E' B'=>w=.tuple #[]/\B'=[]):=by
 refine Bq func159 λQ cw cs H aq av=>?_;unfold UL at U;refine Ai U λx1 aw ay=>C 3 V (Br aw V V V (Ai ay λcy az a0=>C 2 V (FE [] [] (λc0 a1 a2=>?_) (λa3=>?_))));cases a0;exact DA V V (Bm func159 V (vs:=[]) trivial) (av a1 V ⟨V,V⟩ a2);refine Ay (Dc az (λI=>[]) (λI=>[(0,.slice none 0 0),(1,iV p1),(2,iV p3),(3,(fV 57)),(8,iV I)]) AL aq ?_);rintro I c2 Y Z a4 ⟨c3,K⟩ a5;have ac:=K;unfold Xd at ac;refine C 7 V (AW ac (λa6 a7=>?_) (λa6 a8=>?_));refine Ai a7 λc4 a9 bb=>C 8 V (FE [] [(0,.slice none 0 0),(1,iV p1),(2,iV p3),(3,(fV 57)),(8,iV I)] (λc5 be bg=>?_) (λbi=>?_));refine Ai bb λbn bo bv=>C 3 V (Br bo V V V (C 2 V ?_));cases bv;exact a5 bn (Y.Ae be) bg V K;refine Ay (Dc a9 (λag=>[]) (λag=>[(0,.slice none 0 0),(1,iV p1),(2,iV p3),(3,(fV 57)),(8,iV I),(9,iV I)]) AL Z ?_);rintro ag ai bw bx bz ⟨c6,aj⟩ c7;have al:=aj;unfold Xg at al;refine C 2 V (Eu 17 λht=>?_);refine AY ht V [0,1,2,3] V ?_;let⟨b0,am,b1⟩:=bs al;refine FK 0 (tR_ 17 0) (λL s=>∃(ap:LH),Jm ai H ap [] [(0,.slice none 0 0),(1,iV p1),(2,iV p3),(3,(fV 57)),(8,iV I),(9,iV I),(34,.bool b0)] L s) ?_ ?_;rintro _ _ ⟨ap,rfl,rfl,b2,b3⟩;refine DP AC (Co b1 (λb4 b5=>?_) (λb4 b6=>?_));refine C 3 V (Eu 16 λht=>?_);refine AY ht V [0,1,2,3] V (Ai b5 λc8 ca cc=>Bj 4 ht V V (λ_ h s' hs=>Ep (h _ _ V) (h _ _ V) ca) (AY ht V [5,6] V (Ai cc λc9 ce ci=>Bj 7 ht V V (λ_ h s' hs=>Ep (h _ _ V) (h _ _ V) ce) ?_)));cases ci;refine A3 V ?_;cases b6;obtain rfl:=bz _ aj;exact bi (bw.Ae b2) b3 V;intro co;refine GM (i:=21) V (λO=>?_) (λO=>?_);refine have cp:=ip am O;AY ht V [4,5,6] V ?_;cases cp;refine have ct:=im am O;AY ht V [4,5,6,7,8,9,10,11,12,13,14,15,16] V ?_;cases ct;refine Da ?_ (co _ _ ⟨ai,V,V,AL,bx⟩);exact Ad;refine A3 V ?_;cases a8;obtain rfl:=a4 _ K;exact a3 Y Z V
def Xe(fu_:Nat)(p1:Int)(p2:Int)(p3:Int)(K:Unit):Option (Bn Unit ((Unit)⊕(Unit))):=(Ax (p2 - p1)).bind λI=>if I<=12 then((UL fu_ p1 p2).bind λO=>some (.done (Sum.inl ()))) else(if p3=0 then(none) else(none))
def Uw(fu_:Nat)(p1:Int)(p2:Int)(p3:Int):Option Unit:=Option.bind (iter (Xe fu_ p1 p2 p3) fu_ ()) λI=>Sum.elim (λr=>some r) (λK=>none) I
theorem iy{r:Unit}(I:Uw fu_ p1 p2 p3=some r):A2 J 158 [nS,iV p1,iV p2,iV p3,(fV 57)] E [] (λw E' B'=>w=.tuple #[]/\B'=[]):=by
 refine Bq func158 λQ a7 cs H Y Z=>?_;unfold Uw at I;refine Ai I λa8 ac ag=>C 8 V (Bs (λL s=>False) ?_ ?_);intro _ _ ai;exact ai.elim;intro a9;refine Ay (Dc ac (λK=>[]) (λK=>[(0,.slice none 0 0),(1,iV p1),(2,iV p2),(3,iV p3),(4,(fV 57)),(10,.bool true),(11,.bool true)]) AL Y ?_);rintro K bb aj al am ⟨be,O⟩ bg;have U:=O;unfold Xe at U;refine Ai U λbi ap aq=>C 5 V (B9 ap V V V (C 8 V (AW aq (λav aw=>?_) (λav ay=>?_))));refine Ai aw λbn az a0=>C 6 V (Cs (gF az) V V (A8 func159 V) al λbo a1 a2=>A1 ?_);cases a0;obtain rfl:=am _ O;have a3:=elim_inl ag;cases a3;exact AX func158 V V (Z (aj.Ae a1) V ⟨V,V⟩ a2);refine C 7 V (AW ay (λa4 a5=>?_) (λa4 a6=>?_));refine C 6 V ?_;cases a5;refine C 5 V (As V (λ_ h=>CN (h _ _ V)) (C 9 V ?_));cases a6
def Zg(fu_:Nat):Option Unit:=(f115 fu_ (EG ((0:Nat):Int))).bind λx1=>(Uw fu_ 0 ((0:Nat):Int) x1).bind λI=>some ()
theorem gy{r:Unit}(I:Zg fu_=some r):A2 J 157 [nS,(fV 57)] E [] (λw E' B'=>w=.tuple #[]/\B'=[]):=by
 refine Bq func157 λQ am cs H K O=>?_;unfold Zg at I;refine C 3 V (BB BE V V V (C 6 V (As (v:=.int .u64 ((EG ((0:Nat):Int):Nat):Int)) V (λ_ h=>G4 BT D2 (h _ _ V)) (Ai I λx1 U Y=>Cs (OP U) V V N9 K λap Z ac=>Ai Y λaq ag ai=>C 1 V (Cs (iy ag) V V (A8 func158 V) ac λav aj al=>A1 ?_)))));cases ai;exact DA V V (Bm func157 V (vs:=[]) trivial) (O (Z.Ae aj) V ⟨V,V⟩ al)
theorem gX{J:Judge Tryz.prog}{E:LH}{a:Av}{g:Seg}(U:OL 27 AI E a c g p0)(I:f130 fu_ p0=some r):
  A2 J 157 [.slice a p0.length c,.func (.func 57) #[] #[]] E g (λw E' B'=>w=.tuple #[]/\OL 27 AI E' a c B' r/\r.length=p0.length):=by
 rcases U.cases with⟨rfl,rfl,rfl,rfl⟩ | ⟨bk,f,rfl,rfl,hW⟩
 .have Y:r=[]:=by
   cases fu_ with
   | zero=>exact absurd I (by simp[f130,f169,NR,iter])
   | succ fu_=>
    cases fu_ with
    | zero=>exact(f8 (I.symm.trans (by rfl:f130 1 []=some []))).trans rfl
    | succ fu_=>exact(f8 (I.symm.trans (by rfl:f130 (fu_+2) []=some []))).trans rfl
  subst Y;refine(gy (fu_:=10) V).Aj ?_;rintro w E' B' hle ⟨K,rfl⟩;exact⟨K,Cv,V⟩
 .refine(kK hW I).Aj ?_;rintro w E' B' hle ⟨Z,K,rfl,O⟩;exact⟨K,O.1,O.2⟩
def f90(fu_:Nat)(p0:AK):Option (AK):=(f129 fu_ p0).bind λI=>(f130 fu_ I).bind λK=>some K
theorem mY(ag:Aq AI E a1 c2 p0)(Y:f90 fu_ p0=some r):A2 J 143 [sV a1 p0 c2] E [] (λw E' B'=>∃(Z:Av) (ac:Nat),w= sV Z r ac/\B'=[]/\Aq AI E' Z ac r):=by
 refine Bq func143 λQ a6 cs H ai aj=>?_;unfold f90 at Y;refine Ai Y λa7 al am=>C 7 V (Cb (lb ag al) V V (A8 func156 V) ai ?_);rintro _ a8 a9 ap ⟨I,K,_,rfl,rfl,aq⟩ av;refine Ai am λO aw ay=>C 5 V (CO 1 (gX aq aw) V V (A8 func157 V) av V ?_);rintro _ bb be az ⟨rfl,a0,U⟩ a2;refine EU (L':=[(6,.tuple #[]),(0,.slice I O.length K),(2,.slice none 0 0),(3,.slice a1 p0.length c2),(4,.slice I O.length K),(5,.slice I O.length K)]) ⟨V,by rw[U];rfl,V,V,by rw[U];rfl,by rw[U];rfl,trivial⟩ (C 6 V (Cl 1 a0 a2 V λbg a3 a4 a5=>?_));cases ay;exact AX func143 V V (aj ((ap.Ae az).Ae a3) V ⟨I,K,V,V,a4⟩ a5)
end Pal
namespace Pal
open Go Go.Conc
variable {P:Program}{Q:Gs_}{n:Nat}{ds:Ld_}{ops:Ao_}{k:Li_}{cs:Lf_}{m:Nat}{L:Env}{s:St}{E H:LH}{S:List Seg}
variable {d:Option Tmp}{t ty:TypeId}{p:String}{af:Ae_}{g:On_}{v:Value}
section
variable {J:Judge P}{b:Frame}{fuel:Nat}{listed:Array Bool}
variable {x y:Operand}{e:TypeId}{i:Nat}
theorem Take.y0{oi:Oper}(hi:ops[i]?=some oi)(I:(!EP oi.op&&BC n oi.dst)=true)(hw:A9 L ops oi=some true)(K:∀ρ,FV L ρ->Yl P oi ρ s v)
  (h:AU J Q b n ds ops k cs m En fuel (Bp listed i) (AG L oi.dst v) s):Take J Q b n ds ops k cs m En fuel listed L s i:=
 Fa hi I hw λρ O=>by
  have:=K ρ O
  unfold Yl at this
  refine Fy _ this ?_ (λ_ _ h=>h)
  rintro U s' ⟨rfl,rfl⟩
  exact h
abbrev B6:=@Take.y0
end
end Pal
