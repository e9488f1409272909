/- ToothMore. Part 3 of 8. -/
import Derived.Test.YtboibffcmhheiaaGreatDoorTra
import Derived.Test.YtboibffcmhheiaaGreatDoorTrb
import Derived.Test.YtboibffcmhheiaaGreatDoorRows
import Derived.Test.YtboibffcmhheiaaGreatDoorChecked
import Derived.Conc.LeavingOf
import Derived.Conc.Holds
import Derived.Carry
import Derived.ChangeSame
import Derived.ChangeVars
import Derived.JoinedOf
import Derived.RowKit
import Derived.LaidLaws
import Derived.LaidHandle
import Derived.Stop.Joined
import Derived.Test.YtboibffcmhheiaaGreatDoorProg
import Derived.Conc.WgGenN3
set_option linter.all false
set_option maxRecDepth 100000
namespace Pal
open Go Go.Conc
section
variable {P:Program}(J:Judge P)(Q:Gs_)(b:Frame)(ds:Ld_)(ops:Ao_)(k:Li_)(cs:Lf_)(X D:Nat→Bool)
def JB:Nat→Array Bool→Ay→St→Prop
 | 0,listed,T,s=>Region.ready .any ops listed= []∧J.ok Q (G (fr b T ds (.inRegion ops []::k)) cs) s
 | fuel+1,listed,T,s=>
  Region.ready .any ops listed≠ []∧s.q=false∧∀i∈Region.ready .any ops listed,∀o,ops[i]? =some o→(∀c,o.op≠ .defer c)∧
   (Region.wanted o (yielded ops T)=false→JB fuel (A4 listed i) (Co T o.dst undef) s)∧
   (Region.wanted o (yielded ops T)=true→X i=true→lp P (execOp (By T) o) s (fun nx s'=>match nx with
    | .value v=>JB fuel (A4 listed i) (Co T o.dst v) s'
    | .skip=>JB fuel (A4 listed i) (Co T o.dst undef) s'
    | _=>False) (fun _ _=>False))∧
   (Region.wanted o (yielded ops T)=true→X i=false→lp P (execOp (By T) o) (Bv D s) (fun nx s'=>match nx with
    | .value v=>JB fuel (A4 listed i) (Co T o.dst v) (Cj D s s')
    | .skip=>JB fuel (A4 listed i) (Co T o.dst undef) (Cj D s s')
    | _=>False) (fun _ _=>False))
variable {J Q b ds ops k cs X D}
theorem Tn(V:b.kind≠ .early):∀(fuel t:Nat) (listed:Array Bool) (T:Ay) (s:St),JB J Q b ds ops k cs X D fuel listed T s→
  J.ok Q (G (fr b T ds (.inRegion ops (Region.linearise.go .any ops fuel t listed [])::k)) cs) s:=by
 intro fuel
 induction fuel with
 | zero=>intro t listed T s h;simpa [Region.linearise.go] using h.2
 | succ fuel O=>
  intro t listed T s h;obtain⟨aa,ab,h⟩:=h;obtain⟨i,hi⟩:∃i,(Region.ready .any ops listed)[t % (Region.ready .any ops listed).length]? =some i:=by
   have:0<(Region.ready .any ops listed).length:=List.length_pos_iff.2 aa;exact⟨_,List.getElem?_eq_getElem (Nat.mod_lt _ this)⟩
  have W:=List.mem_of_getElem? hi;have hgo:Region.linearise.go .any ops (fuel+1) t listed []=i::Region.linearise.go .any ops fuel (t / (Region.ready .any ops listed).length) (A4 listed i) []:=by
   simp only [Region.linearise.go];change (match(Region.ready .any ops listed)[t % (Region.ready .any ops listed).length]? with
    | some i=>Region.linearise.go .any ops fuel (t / (Region.ready .any ops listed).length) (listed.setIfInBounds i true) [i]
    | none=> [].reverse)=_
   rw [hi];simp only;rw [linearise_go_acc];rfl
  rw [hgo];obtain⟨_,o,U,_⟩:=mem_ready.1 W;obtain⟨Y,ae,ag,ah⟩:=h i W o U;cases hw:Region.wanted o (yielded ops T) with
  | false=>exact Judge.unwanted U hw (O _ _ _ _ (ae hw))
  | true=>
   cases Z:X i with
   | true=>
    refine Judge.oper U hw V (.inr Y) (Da _ (ag hw Z) ?_ (fun _ _ h=>h.elim));intro nx s' K;cases nx with
    | value v=>exact O _ _ _ _ K
    | skip=>exact O _ _ _ _ K
    | _=>exact K.elim
   | false=>
    refine Judge.Px D U hw V Y ab (Da _ (ah hw Z) ?_ (fun _ _ h=>h));intro nx s' K;cases nx with
    | value v=>exact O _ _ _ _ K
    | skip=>exact O _ _ _ _ K
    | _=>exact K.elim
def waitAll(ops:Ao_)(X:Nat→Bool)(i:Nat):Bool:=(List.range ops.size).all fun j=> !X j || waits ops ops.size j i
theorem JB.take{i:Nat}{oi:Oper}{w pure:Bool}{v:Value}(hi:ops[i]? =some oi)(aU:X i=false)(aL:(pure || waitAll ops X i)=true)(aV:Region.noSelect ops=true)(aW:∀c,oi.op≠ .defer c):
  ∀(fuel:Nat) (listed:Array Bool) (T:Ay) (s:St),Hh ops listed i oi=true→Gt ops listed=true→listed.size=ops.size→i∈Region.ready .any ops listed→s.q=false→Region.wanted oi (yielded ops T)=w→
   (w=true→∀s',s'.q=false→(pure=false→∀x o,(Bv D s).E x=some o→s'.E x=some o)→Yl P oi (By T) s' v)→
   JB J Q b ds ops k cs X D fuel (A4 listed i) (Co T oi.dst (if w then v else undef)) s→JB J Q b ds ops k cs X D (fuel+1) listed T s:=by
 have aa:∀(j:Nat) (W:Oper),ops[j]? =some W→∀cs b,W.op≠Op.select cs b:=fun j W h cs b=>Region.noSelect_spec aV j W cs b h;intro fuel
 induction fuel with
 | zero=>?_
 | succ fuel ai=>?_
 all_goals
  intro listed T s aM aN aj az ak hw ab h;refine⟨fun e=>(by rw [e] at az;cases az),ak,fun j aO W O=>?_⟩;by_cases al:j=i
  ·subst al;obtain rfl:W=oi:=by rw [hi] at O;exact(Option.some.inj O).symm
   refine⟨aW,fun aC=>?_,fun ae K=>?_,fun ae K=>?_⟩
   ·rw [aC] at hw;subst hw;exact h
   ·rw [aU] at K;cases K
   ·rw [ae] at hw;subst hw;refine Da _ (ab rfl (Bv D s) ak fun _ _ _ h=>h).out ?_ (fun _ _ h=>h);rintro nx s' ⟨rfl,rfl⟩;rw [Ji];exact h
  ·
   have aP:j∈Region.ready .any ops (A4 listed i):=ready_mono aO al;obtain⟨ag,U,aQ,aD⟩:=mem_ready.1 aO;obtain rfl:U=W:=by rw [O] at aQ;exact(Option.some.inj aQ).symm
   have aE:=(mem_ready.1 az).1;have aX:(U.after.any fun e=>Region.binds .any e&&e.on==i)=false:=by
    rw [Array.any_eq_false];intro e he K;simp only [Bool.and_eq_true,beq_iff_eq] at K;have:=aD _ (Array.getElem_mem he) K.1;rw [K.2] at this;have ah:listed.getD i true=listed.getD i false∨listed.size≤i:=by
     rcases Nat.lt_or_ge i listed.size with q | q
     ·left;simp [Array.getD_eq_getD_getElem?,q]
     ·exact .inr q
    rcases ah with ah | ah
    ·rw [aE,this] at ah;cases ah
    ·rw [Array.getD_eq_getD_getElem?,Array.getElem?_eq_none ah] at this;simp at this
   have aY:oi.apart ops U=true:=by
    have aF:j<ops.size:=(Array.getElem?_eq_some_iff.1 O).1;have:=List.all_eq_true.1 aM j (List.mem_range.2 aF);simp only [Bool.or_eq_true,beq_iff_eq] at this;rcases this with(q | q) | q
    ·exact absurd q al
    ·rw [ag] at q;cases q
    ·rw [O] at q;simp only [Bool.or_eq_true] at q;rw [aX] at q;exact q.resolve_left (by simp)
   obtain⟨aZ,am,an⟩:=Oper.apart_spec aY;obtain⟨p1,p2⟩:=Gn (ops:=ops) (T:=T) (v:=if w then v else undef) (aa j U O) aZ
   first
    | exact absurd aP (by rw [h.1];simp)
    | (
     obtain⟨ba,_,h⟩:=h
     obtain⟨a0,aC,a1,a2⟩:=h j aP U O
     have ao:A4 (A4 listed i) j=A4 (A4 listed j) i:=by
      unfold A4;exact Array.setIfInBounds_comm _ _ (Ne.symm al)
     have ap:i∈Region.ready .any ops (A4 listed j):=ready_mono az (Ne.symm al)
     have aq:Hh ops (A4 listed j) i oi=true:=by
      refine List.all_eq_true.2 fun x K=>?_
      have:=List.all_eq_true.1 aM x K
      simp only [Bool.or_eq_true,beq_iff_eq] at this ⊢
      rcases this with(q | q) | q
      ·exact .inl (.inl q)
      ·left;right
       by_cases e:j=x
       ·subst e;rw [ag] at q;cases q
       ·rw [A4,getD_set_ne true e];exact q
      ·exact .inr q
     have ar:(A4 listed j).size=ops.size:=by unfold A4;simpa using aj
     have au:Gt ops (A4 listed j)=true:=by
      refine List.all_eq_true.2 fun x K=>?_
      cases aG:ops[x]? with
      | none=>simp
      | some a3=>
       simp only [Bool.or_eq_true,Bool.not_eq_true']
       by_cases e:j=x
       ·subst e
        obtain rfl:a3=U:=by rw [O] at aG;exact(Option.some.inj aG).symm
        right
        refine Array.all_eq_true'.2 fun e he=>?_
        cases hb:Region.binds .any e with
        | false=>simp
        | true=>
         have:=aD e he hb
         by_cases av:j=e.on
         ·rw [← av] at this
          have aH:j<listed.size:=by rw [aj];exact(Array.getElem?_eq_some_iff.1 O).1
          simp [Array.getD_eq_getD_getElem?,aH] at this ag
          rw [ag] at this;cases this
         ·rw [A4,getD_set_ne false av];simpa using this
       ·cases aR:(A4 listed j).getD x false with
        | false=>exact .inl rfl
        | true=>
         right
         have a4:listed.getD x false=true:=by rw [A4,getD_set_ne false e] at aR;exact aR
         refine Array.all_eq_true'.2 fun aI he=>?_
         cases hb:Region.binds .any aI with
         | false=>simp
         | true=>
          have:=Mv aN aG a4 aI he hb
          by_cases av:j=aI.on
          ·rw [← av] at this
           have aH:j<listed.size:=by rw [aj];exact(Array.getElem?_eq_some_iff.1 O).1
           simp [Array.getD_eq_getD_getElem?,aH] at this ag
           rw [ag] at this;cases this
          ·rw [A4,getD_set_ne false av];simpa using this
     refine⟨a0,fun a5=>?_,fun aJ aA=>?_,fun aJ aA=>?_⟩
     ·have:=aC (by rw [p2];exact a5)
      rw [ao,Hc am] at this
      obtain⟨q1,q2⟩:=Gn (ops:=ops) (T:=T) (d:=U.dst) (v:=undef) (o:=oi) (aa i oi hi) an
      exact ai _ _ _ aq au ar ap ak (by rw [q2];exact hw) (fun V s' a6 aB=>by unfold Yl;rw [q1];exact(ab V s' a6 aB).out) this
     ·
      have a7:pure=true:=by
       cases a8:pure with
       | true=>rfl
       | false=>
        exfalso
        rw [a8,Bool.false_or] at aL
        have aF:j<ops.size:=(Array.getElem?_eq_some_iff.1 O).1
        have ae:=List.all_eq_true.1 aL j (List.mem_range.2 aF)
        rw [aA] at ae
        simp only [Bool.not_true,Bool.false_or] at ae
        rcases N1 aN _ j U O (fun e he hb=>aD e he hb) ae with q | ⟨x,q1,q2⟩
        ·have a9:i<listed.size:=by rw [aj];exact(Array.getElem?_eq_some_iff.1 hi).1
         simp [Array.getD_eq_getD_getElem?,a9] at q aE
         rw [aE] at q;cases q
        ·have:¬x<listed.size:=by rw [aj];intro K;simp [K] at q1
         simp [Array.getD_eq_getD_getElem?,this] at q2
      have aw:=Mb _ (a1 (by rw [p2];exact aJ) aA)
      rw [p1] at aw
      refine Da _ aw ?_ (fun _ _ h=>h)
      rintro nx s' ⟨K,aB,aK⟩
      have ay:s'.q=false:=aK.trans ak
      have aS:pure=false→∀{α:Prop},α:=fun e=>by rw [a7] at e;cases e
      cases nx with
      | value u=>
       simp only at K ⊢
       rw [ao,Hc am] at K
       obtain⟨q1,q2⟩:=Gn (ops:=ops) (T:=T) (d:=U.dst) (v:=u) (o:=oi) (aa i oi hi) an
       exact ai _ _ _ aq au ar ap ay (by rw [q2];exact hw) (fun V s2 Y Z=>by unfold Yl;rw [q1];exact(ab V s2 Y (fun e=>aS e)).out) K
      | skip=>
       simp only at K ⊢
       rw [ao,Hc am] at K
       obtain⟨q1,q2⟩:=Gn (ops:=ops) (T:=T) (d:=U.dst) (v:=undef) (o:=oi) (aa i oi hi) an
       exact ai _ _ _ aq au ar ap ay (by rw [q2];exact hw) (fun V s2 Y Z=>by unfold Yl;rw [q1];exact(ab V s2 Y (fun e=>aS e)).out) K
      | _=>exact K.elim
     ·have aw:=Mb _ (a2 (by rw [p2];exact aJ) aA)
      rw [p1] at aw
      refine Da _ aw ?_ (fun _ _ h=>h)
      rintro nx s' ⟨K,aB,aK⟩
      have aT:=N8 (D:=D) aB
      have ay:(Cj D s s').q=false:=by show s'.q=false;rw [aK];exact ak
      cases nx with
      | value u=>
       simp only at K ⊢
       rw [ao,Hc am] at K
       obtain⟨q1,q2⟩:=Gn (ops:=ops) (T:=T) (d:=U.dst) (v:=u) (o:=oi) (aa i oi hi) an
       exact ai _ _ _ aq au ar ap ay (by rw [q2];exact hw) (fun V s2 Y Z=>by unfold Yl;rw [q1];exact(ab V s2 Y (fun e=>by rw [aT] at Z;exact Z e)).out) K
      | skip=>
       simp only at K ⊢
       rw [ao,Hc am] at K
       obtain⟨q1,q2⟩:=Gn (ops:=ops) (T:=T) (d:=U.dst) (v:=undef) (o:=oi) (aa i oi hi) an
       exact ai _ _ _ aq au ar ap ay (by rw [q2];exact hw) (fun V s2 Y Z=>by unfold Yl;rw [q1];exact(ab V s2 Y (fun e=>by rw [aT] at Z;exact Z e)).out) K
      | _=>exact K.elim)
end
section
variable {P:Program}(J:Judge P)(Q:Gs_)(b:Frame)(n:Nat)(ds:Ld_)(ops:Ao_)(k:Li_)(cs:Lf_)(X D:Nat→Bool)
def ET(fuel:Nat)(listed:Array Bool)(L:Env)(s:St):Prop:=∀T,Has n L T→JB J Q b ds ops k cs X D fuel listed T s
end
def I4(ops:Ao_)(listed:Array Bool)(xs:List Nat)(pure:Bool)(i:Nat):Bool:=match ops[i]? with
 | some oi=> !AV xs i&&(pure || waitAll ops (AV xs) i)&&Region.noSelect ops&& !Dc oi.op&&Hh ops listed i oi&&Gt ops listed&&listed.size==ops.size&&(Region.ready .any ops listed).contains i
 | none=>false
section
variable {P:Program}{J:Judge P}{Q:Gs_}{b:Frame}{n:Nat}{ds:Ld_}{ops:Ao_}{k:Li_}{cs:Lf_}{fuel:Nat}{X D:Nat→Bool}{listed:Array Bool}{L:Env}{s:St}{E H:LH}{S:List Seg}{xl bks:List Nat}
variable {d:Option Tmp}{x y:Operand}{t u ty e:TypeId}{p:String}{af:Ae_}{g:On_}{v:Value}{i:Nat}{kd:IntKind}
theorem Gq(xl bks:List Nat){id:Nat}(hm:P.follows .mixedOrders=true)(K:(b.kind != .early)=true)
  (h:ET J Q b n ds ops k cs (AV xl) (AV bks) ops.size (Array.replicate ops.size false) L (Al E H S)):JL J Q b n L ds (.code (.region id ops true)::k) cs (Al E H S):=
 Pt rfl hm fun t T O=>Tn (by simpa using K) ops.size t _ T _ (h T O)
theorem QJ{oi:Oper}(i:Nat)(pure:Bool)(hi:ops[i]? =some oi)(K:I4 ops listed xl pure i=true)(V:s.q=false)
  (hw:A5 L ops oi=some true) (W:Br n oi.dst=true) (Y:∀ρ,D9 L ρ→∀s':St,(pure=false→∀x o,(Bv D s).E x=some o→s'.E x=some o)→Yl P oi ρ s' v)
  (h:ET J Q b n ds ops k cs (AV xl) D fuel (A4 listed i) (AA L oi.dst v) s):ET J Q b n ds ops k cs (AV xl) D (fuel+1) listed L s:=fun T O=>by
 simp only [I4,hi,Bool.and_eq_true] at K
 obtain⟨⟨⟨⟨⟨⟨⟨Z,aa⟩,ab⟩,U⟩,ae⟩,ag⟩,ah⟩,ai⟩:=K
 refine JB.take (w:=true) (v:=v) (pure:=pure) hi (by simpa using Z) aa ab (fun c K=>by rw [K] at U;simp [Dc] at U) fuel listed T s ae ag (by simpa using ah) (by simpa using ai) V (CL O hw) (fun _ s' ak aj=>Y _ O.FP s' aj) ?_
 exact h _ (O.put W v)
theorem JB.fin(K:Region.ready .any ops listed= [])(h:JL J Q b n L ds k cs s):ET J Q b n ds ops k cs X D 0 listed L s:=fun T O=>⟨K,JL.done h T O⟩
theorem JB.store{bk off:Nat}{c:Ay}(i j:Nat)(U:Region.ready .any ops listed= [i])(Z:AV xl i=true)(aa:ops[i]? =some ⟨d,.store t x y,ty,p,af,g⟩)(hw:A5 L ops ⟨d,.store t x y,ty,p,af,g⟩=some true)(ab:Br n d=true)(ae:As E H S)
  (ag:ev L x=some (.pointer (some ⟨bk,off,none⟩))) (ah:ev L y=some v) (ai:Bq P t=some v.cells.size) (aj:∀u∈v.cells.toList,CG u=true) (V:S[j]? =some [(bk,.cells c e (0,0))]) (hle:off+v.cells.size≤c.size)
  (h:As E H (S.set j [(bk,.cells (Ba c off v.cells.toList) e (0,0))])→ET J Q b n ds ops k cs (AV xl) D fuel (A4 listed i) (AA L d undef) (Al E H (S.set j [(bk,.cells (Ba c off v.cells.toList) e (0,0))]))):
  ET J Q b n ds ops k cs (AV xl) D (fuel+1) listed L (Al E H S):=fun T K=>by
 refine⟨by rw [U];simp,rfl,fun ar O o' W=>?_⟩
 rw [U] at O
 simp at O
 subst O
 obtain rfl:o'=⟨d,.store t x y,ty,p,af,g⟩:=by rw [aa] at W;exact(Option.some.inj W).symm
 have ak:=CL K hw;refine⟨fun c al=>(by cases al),fun e=>?_,fun _ _=>?_,fun _ e=>?_⟩
 ·rw [ak] at e;cases e
 ·obtain⟨am,an⟩:=F2 ae V;rw [am];show lp P (do Instr.storeAt t (By T x) (By T y);pure Next.skip) _ _ _
  rw [K.ev ag,K.ev ah];refine AF _ _ ?_;unfold Instr.storeAt;simp only [Instr.sureAddr,bind,Sem.bind,pure];refine N7 (pl:=(S.set j []).flatten.length) ai aj an (c:=c) (e:=e) (by simp) hle fun Y=>?_;have ao:((S.set j []).flatten++ [(bk,Obj.cells c e (0,0))]).set (S.set j []).flatten.length (bk,.cells (Ba c off v.cells.toList) e (0,0))=(S.set j []).flatten++ [(bk,.cells (Ba c off v.cells.toList) e (0,0))]:=HI _ _ _ _;rw [ao] at Y ⊢;obtain⟨ap,aq⟩:=Hg V Y;rw [ap];exact h aq _ (K.put ab undef)
 ·rw [Z] at e;cases e
end
end Pal
namespace Pal
open Go Go.Conc
theorem SB{E H:LH}{S:List Seg}{bks:List Nat}{bk o:Nat}{l ws:Lv_}{e:TypeId}{f:Nat×Nat}{s':St}{w:Value}(j:Nat)(K:As E H S)(O:S[j]? =some [(bk,.cells (l++ws).toArray e f)])(U:AV bks bk=true)(hs:∀x o,(Bv (AV bks) (Al E H S)).E x=some o→s'.E x=some o)(V:ws[o]? =some w):s'.cell? ⟨bk,l.length+o,none⟩=some w:=by
 have:=MP j K O U hs o w V
 rwa [DG rfl] at this
section
variable {P:Program}{E H:LH}{B:List (Nat×Obj)}{t e ty:TypeId}
theorem Rq{ats:Array TypeId}{a:Option Addr}{l K O m cx:Nat}{ax:Option Addr}{xs ys:Lv_}{z:Value}{Q:Value→St→Prop}{X:Halt→St→Prop}
  (al:ats[0]? =some t) {t1 am:TypeId} (an:ats[1]? =some t1) (ao:P.underlying t1=some (.slice am)) (ht:P.underlying t=some (.slice e)) (ap:Bq P e=some K) (hb:Ed P e=some O) (aq:zeroOf P e=some z) (ar:z.cells.size=K)
  (au:Nd E H B) (aa:F8 (mk E H B) (.slice a l l) K xs)
  (W:F8 (mk E H B) (.slice ax m cx) K ys) (aE:∀w∈ys,CG w=true) (aF:0<O) (aG:l+m≤2 ^ 40) (av:O≤64)
  (aj:m=0→Q (.slice a (l+m) l) (mk E H B))
  (aw:∀r Y ab,l+m≤ab→Y.size=ab*K→Y.toList.take ((l+m)*K)=xs++ys→Nd E H (B++ [(r,.cells Y e (0,0))])→Q (.slice (some ⟨r,0,none⟩) (l+m) ab) (mk E H (B++ [(r,.cells Y e (0,0))]))):
  lp P (Builtin.append_ ats ty #[.slice a l l,.slice ax m cx]) (mk E H B) Q X:=by
 unfold Builtin.append_;simp only [al,an,List.getElem?_toArray,List.getElem?_cons_zero,List.getElem?_cons_succ];refine AF _ _ (C8 ht ?_);refine AF _ _ (Ex ap ?_);refine AF _ _ (C8 ao ?_);simp only [GM,Bool.false_eq_true,if_false,Builtin.lenOf,Bool.not_false,if_true];have Z:ys.length=m*K:=by
  cases ax with
  | none=>obtain⟨U,V⟩:=W;subst U V;simp
  | some ad=>exact W.2.1
 have ae:xs.length=l*K:=by
  cases a with
  | none=>obtain⟨U,V⟩:=aa;subst U V;simp
  | some ad=>exact aa.2.1
 obtain⟨c,aH⟩:∃c,c=l:=⟨_,rfl⟩;split
 ·rename_i aI;have hm:m=0:=by omega
  have ay:ys= []:=List.eq_nil_of_length_eq_zero (by rw [Z,hm];simp);refine AF _ _ (Iu ⟨ax,cx,rfl⟩ W ?_);subst ay;cases a with
  | none=>exact aj hm
  | some ad=>exact aj hm
 ·rename_i aJ;have U:¬(((l+m:Nat):Int)>IntKind.i64.max∧(False∨O=0)):=by rintro⟨_,h | h⟩ <;> omega
  have V:¬(Builtin.nextslicecap (l+m) l*O>2 ^ 48):=by
   have:=Oi (need:=l+m) (old:=l) (by omega);have aK:Builtin.nextslicecap (l+m) l*O≤(2*(l+m)+768)*64:=Nat.mul_le_mul this av;omega
  obtain⟨inf,ag,ah⟩:=KG hb;refine AF _ _ (Hy ag ?_);rw [ah,if_neg U];refine AF _ _ (Hy ag ?_);rw [ah,if_neg V];refine AF _ _ ?_;simp only [choose,lp,Question.forced,Bool.false_eq_true,if_false];refine⟨rfl,fun az=>?_⟩;generalize aA:(Question.appendCap (l+m) l e).cut az=ai;have aB:l+m≤ai:=by rw [← aA];simp [Question.cut]
  refine AF _ _ (Hy ag ?_);rw [ah];have aC:∀{α:Type} {f:Unit→Sem α} {Q:α→St→Prop},lp P (f ()) (mk E H B) Q X→lp P (askRoom (ai*O)>>=f) (mk E H B) Q X:=by
   intro α f Q ak;refine AF _ _ ?_;unfold askRoom;split
   ·exact⟨.inl ⟨rfl,rfl⟩,ak⟩
   ·exact ak
  refine aC (AF _ _ (Iu ⟨a,l,rfl⟩ aa ?_));refine AF _ _ (Iu ⟨ax,cx,rfl⟩ W ?_);refine AF _ _ (FJ aq ?_);refine AF _ _ (GQ au fun r aD=>?_);refine aw r _ ai aB ?_ ?_ aD
  ·simp only [Array.size_append,List.size_toArray,NT,ar,ae,Z];rw [← Nat.add_mul,← Nat.add_mul];congr 1;omega
  ·simp only [Array.toList_append];rw [List.take_append_of_le_length (by simp [ae,Z,Nat.add_mul])];rw [List.take_of_length_le (by simp [ae,Z,Nat.add_mul])]
end
theorem An.spot{α:Type}{pp:Rp α}{E:LH}{a:Option Addr}{c:Nat}{xs:List α}(h:An pp E a c xs):∀ad,a=some ad→ad.spot=none∨c=0:=fun ad K=>by
 rcases h.2 with⟨_,h⟩ | ⟨bk,off,h,_⟩
 ·exact h ad K
 ·rw [h] at K;cases K;exact .inl rfl
theorem An.full{α:Type}{pp:Rp α}{E:LH}{a:Option Addr}{c:Nat}{xs:List α}(h:An pp E a c xs):An pp E a xs.length xs:=⟨Nat.le_refl _,h.2.imp (fun⟨h,_⟩=>⟨h,fun _ _=> .inr (by rw [h];rfl)⟩) id⟩
theorem An.Pp{α:Type}{pp:Rp α}{E H:LH}{B:List (Nat×Obj)}{a:Option Addr}{c:Nat}{ys:List α}(Y:An pp E a c ys):
  ∃K:List (Lv_),K.length=ys.length∧(∀(i:Nat) x ws,ys[i]? =some x→K[i]? =some ws→pp.r E ws x)∧F8 (mk E H B) (.slice a ys.length c) pp.n K.flatten∧∀w∈K.flatten,CG w=true:=by
 obtain⟨K,U,W,V⟩:=Y.rows;have Z:=HC U W;refine⟨K,U,W,?_,fun w hw=>?_⟩
 ·rcases V with⟨V,ai⟩ | ⟨bk,off,rfl,V⟩
  ·subst V;have:K= []:=List.eq_nil_of_length_eq_zero U;subst this;cases a with
   | none=>exact⟨rfl,rfl⟩
   | some ad=>exact⟨.inr rfl,by simp,Nat.zero_le _,fun q w O=>by simp at O⟩
  ·refine⟨.inl rfl,by rw [Kx Z,U],Y.1,fun q w O=>?_⟩;obtain⟨q1,m,ws,aa,ab,ae⟩:=Ms Z O;have:=(V q1 ws aa).cell (H:=H) (B:=B) ab;subst ae;rw [← Nat.add_assoc];exact this
 ·obtain⟨us,ag,hw⟩:=List.mem_flatten.1 hw;obtain⟨q,O⟩:=List.mem_iff_getElem?.1 ag;have ah:q<ys.length:=by rw [← U];exact(List.getElem?_eq_some_iff.1 O).1
  exact pp.one (W q _ us (List.getElem?_eq_getElem ah) O) w hw
section
variable {P:Program}{J:Judge P}{Q:Gs_}{b:Frame}{n:Nat}{ds:Ld_}{ops:Ao_}{k:Li_}{cs:Lf_}{L:Env}{s:St}{E E' H:LH}{S:List Seg}
variable {d:Option Tmp}{x y z1:Operand}{t u ty e:TypeId}{p:String}{af:Ae_}{g:On_}{v:Value}{i:Nat}{rest:List Nat}{kd:IntKind}{ρ:Operand→Value}
theorem R0{a:Option Addr}{l c K:Nat}(O:∀ad,a=some ad→ad.spot=none∨c=0)(U:l≤c)(ht:P.underlying t=some (.slice e))(V:Bq P e=some K)(W:ρ x= .slice a l c)(Y:ρ y=iV (l:Int))(Z:ρ z1=iV (l:Int)):
  Yl P ⟨d,.slice t x none (some y) (some z1),ty,p,af,g⟩ ρ s (.slice a l l):=by
 have h:=Yl.slice (P:=P) (s:=s) (d:=d) (ty:=ty) (p:=p) (af:=af) (g:=g) (olo:=none) (ohi:=some y) (omx:=some z1) (lo:=0) (hi:=l) (mx:=l) ht V W Z Y rfl U (Nat.le_refl _) (Nat.zero_le _);have aa:(if l=0 then a else a.map (·.add (0*K)))=a:=by
  split
  ·rfl
  ·cases a with
   | none=>rfl
   | some ad=>
    have:=(O ad rfl).resolve_right (by omega);simp only [Option.map_some,Nat.zero_mul];rw [DG this];obtain⟨b,o,sp⟩:=ad;simp only at this;subst this;simp
 rw [aa] at h;simpa using h
theorem RZ{α:Type}{pp:Rp α}{t1:TypeId}{V c cx:Nat}{a ax:Option Addr}{xs ys W:List α}{ats:Array TypeId}{z:Value}(U:Ds xs ys=some W)
  (ai:ops[i]? =some ⟨d,.call ⟨.builtin .append,#[x,y],ats⟩,ty,p,af,g⟩) (hw:A5 L ops ⟨d,.call ⟨.builtin .append,#[x,y],ats⟩,ty,p,af,g⟩=some true) (aj:Cw b n ⟨d,.call ⟨.builtin .append,#[x,y],ats⟩,ty,p,af,g⟩=true)
  (ak:ev L x=some (.slice a xs.length xs.length)) (al:ev L y=some (.slice ax ys.length cx)) (am:ats[0]? =some t) (an:ats[1]? =some t1) (ht:P.underlying t=some (.slice e)) (ao:P.underlying t1=some (.slice e)) (ap:Bq P e=some pp.n) (hb:Ed P e=some V) (aq:zeroOf P e=some z) (ar:z.cells.size=pp.n)
  (au:0<V) (av:V≤64) (Y:An pp E a c xs) (aw:An pp E ax cx ys) (Z:As E H S)
  (h:∀E' aa K,Le E E'→An pp E' aa K W→As E' H (S++ [[]])→JL J Q b n (AA L d (.slice aa W.length K)) ds (.inRegion ops rest::k) cs (Al E' H (S++ [[]]))):
  JL J Q b n L ds (.inRegion ops (i::rest)::k) cs (Al E H S):=by
 unfold Ds at U;split at U
 rotate_left
 ·cases U
 rename_i ay;cases U;obtain⟨wss,ab,az,aA,aQ⟩:=An.Pp (H:=H) (B:=S.flatten) Y.full;obtain⟨aB,aC,aD,aE,aF⟩:=An.Pp (H:=H) (B:=S.flatten) aw;have hlen:(xs++ys).length=xs.length+ys.length:=by simp
 show JL J Q b n L ds (.inRegion ops (i::rest)::k) cs (mk E H S.flatten);refine JL.op ai hw aj fun ρ ae=>?_;rw [Kv,ae x _ ak,ae y _ al];refine AF _ _ (Rq am an ao ht ap hb aq ar Z aA aE aF au ay av ?_ ?_)
 ·intro hm;have aG:ys= []:=List.eq_nil_of_length_eq_zero hm;subst aG;have aH:As E H (S++ [[]]):=by unfold As at*;rw [F1,List.append_nil];exact Z
  have aI:mk E H S.flatten=Al E H (S++ [[]]):=by unfold Al;rw [F1,List.append_nil]
  rw [aI];have:=h E a xs.length (Le.refl _) (by rw [List.append_nil];exact Y.full) aH;rw [hlen] at this;exact this
 ·intro r O K aJ aK aL aM;have aN:OL e pp E (some ⟨r,0,none⟩) K [(r,.cells O e (0,0))] (xs++ys):=
   ⟨wss++aB,.inr ⟨r,O,rfl,rfl,aK,by rw [hlen];exact aJ,by rw [hlen,List.flatten_append];exact aL.symm⟩,by simp [ab,aC],Mz ab az aD⟩
  have ag:=Em (S:=S) (seg:= [(r,.cells O e (0,0))]) aM;show JL J Q b n _ ds _ cs (mk E H (S.flatten++ [(r,.cells O e (0,0))]));rw [ag.1];refine Cb S.length aN ag.2 (by simp) fun E' hle aO ah=>?_;have aP:(S++ [[(r,Obj.cells O e (0,0))]]).set S.length []=S++ [[]]:=HI _ _ _ _;rw [aP] at ah ⊢;have:=h E' (some ⟨r,0,none⟩) K hle aO ah;rw [hlen] at this;exact this
end
end Pal
namespace Pal
open Go Go.Conc
open Go.ConcN (sumTo upd sumTo_upd upd_ne upd_same)
def Jy(P:Program)(R:Value→St→Prop):GP:=fun g s=>
 g.status= .running∧∃v,R v s∧∀w,stepG P true g w= .ended (.done v) w #[]
section
variable {P:Program}{R:Value→St→Prop}{J:Judge P}{n:Nat}{L:Env}{s:St}{b:Frame}
theorem JO.end{fn:Func}{t:Tmp}{v:Value}(K:b.kind= .normal)(hi:P.inits.idxOf? b.fn=none)(O:P.funcs[b.fn]? =some fn)(U:fn.results= #[.tmp t])(V:look L t=some v)(W:R v s):JO J (Jy P R) b n L [] [] s:=fun T Y todo=>by
 refine J.stop ⟨rfl,v,W,fun w=>?_⟩
 have e:results fn T=Sem.pure v:=by
  have:=Y.at_ t v V;simp only [results,U,Array.mapM_eq_mapM_toList];show Sem.pure (T.getD t undef)=_;rw [this]
 have Z:(results fn T).run P w= .ok v w:=by rw [e];rfl
 have aa:(results fn T).events P w #[]= #[]:=by rw [e];simp [Sem.events_pure']
 simp [G,stepG,unwind,D1,O,Z,aa,doReturn,K,GStep.after,hi,seen_none]
end
section
variable {P:Program}{R:Value→St→Prop}
def JM(P:Program)(R:Value→St→Prop)(K:World)(s₀:St)(v:Value)(w':World):Prop:=
 ∃s,R v s∧Fits s w'∧(∀b o,s₀.E b=some o→s.E b=some o)∧w'.tape=K.tape∧w'.os=K.os∧w'.output=K.output
def ND(P:Program)(R:Value→St→Prop)(K:World)(s₀:St)(O:Nat)(m:Machine)(t:Trace):Prop:=
 ∃gs w sl q Sh g s,m=crowd gs w sl∧FU P gs w t q Sh g s∧Jy P R g s∧O=sumTo gs.size q∧(∀b o,s₀.E b=some o→s.E b=some o)∧w.tape=K.tape∧w.os=K.os∧w.output=K.output
theorem TC{ae:World}{s₀:St}(aj:Nat)(m:Machine)(t:Trace)(h:ND P R ae s₀ aj m t):
  (∃o w ops,stepT P m=(.ended o w,ops)∧Good P (JM P R ae s₀) m o w (t++ops))∨(∃m' ops ak,stepT P m=(.next m',ops)∧ak<aj∧ND P R ae s₀ ak m' (t++ops)):=by
 obtain⟨gs,w,sl,q,Sh,g,s,rfl,hC,aA,rfl,al,am,an,ao⟩:=h;obtain⟨Y,v,ap,aq⟩:=aA;have aB:∀x∈gs,awake x:=by
  intro x V;obtain⟨i,hi,rfl⟩:=Array.mem_iff_getElem.1 V;rcases Nat.eq_zero_or_pos i with rfl | ag
  ·have:gs[0]=g:=by simpa [Array.getElem?_eq_getElem hi] using hC.main
   rw [this];exact awake_of (.inl Y)
  ·exact awake_of ((hC.lv.old i _ ag (Array.getElem?_eq_getElem hi)).status.elim .inl fun x=> .inr (.inr x))
 obtain⟨i,x,d,ar,hi,V,au⟩:=crowd_pick (P:=P) (w:=w) (sl:=sl) aB ⟨0,g,hC.main,Y⟩;have av:=hC.at_ d;have aC:0<gs.size:=(Array.getElem?_eq_some_iff.1 hC.main).1;have aD:∀(a:Nat) (fn:FuncId) (pos:String),MemOp.ofEvents a fn pos #[]= #[]:=fun a fn pos=>by rw [ofEvents_eq];simp
 rcases Nat.eq_zero_or_pos i with rfl | ag
 ·obtain rfl:x=g:=by rw [hC.main] at hi;exact(Option.some.inj hi).symm
  have Z:=runT_many_ended (P:=P) (sl:=ar) (i:=0) hi (show stepG P (0==0) x (w.at d)=_ from aq (w.at d));rw [aD] at Z;refine .inl ⟨_,_,_,au.trans Z,v,rfl,⟨s,ap,av.Cu.fits 0 aC,al,am,an,ao⟩,?_,?_,⟨fun y K=>?_,rfl⟩,fun j y K O=>?_⟩
  ·simpa using hC.Cu.clean
  ·simpa using hC.over
  ·obtain⟨j,O⟩:=List.mem_iff_getElem?.1 K;rw [List.getElem?_drop] at O;exact⟨_,(hC.lv.old (1+j) y (by omega) (by simpa [crowd] using O)).leaves⟩
  ·have W:=hC.lv.old j y (by omega) K;exact⟨q j,by simp only [Array.append_empty];exact W.hears w⟩
 ·have W:=hC.lv.old i x ag hi;have aE:(i==0)=false:=by simp;omega
  have aw:i<gs.size:=(Array.getElem?_eq_some_iff.1 hi).1;cases ah:q i with
  | zero=>rw [ah] at W;rw [W.1] at V;cases V
  | succ k=>
   rw [ah] at W;rcases W with⟨aF,_⟩ | ⟨_,x',es,hm,aG,aH⟩
   ·rw [aF] at V;cases V
   have aL:sumTo gs.size (upd q i k)+(k+1)=sumTo gs.size q+k:=by
    have:=sumTo_upd q k id aw;simpa [ah] using this
   have Z:=runT_crowd_go (P:=P) (sl:=ar) (i:=i) hi (by rw [aE];exact aG (w.at d));have ai:((gs.map (woken P x x' (w.at d))).setIfInBounds i x').size=gs.size:=by simp
   have aa:∀op∈MemOp.ofEvents i x.frame.fn x.frame.place es,op.g=i:=fun op U=>by obtain⟨e,_,rfl⟩:=mem_ofEvents U;rfl
   have ay:∀op∈MemOp.ofEvents i x.frame.fn x.frame.place es,op.act.touch? =none:=fun op U=>by obtain⟨e,he,rfl⟩:=mem_ofEvents U;exact touch_mute (hm e he)
   have aI:FU P ((gs.map (woken P x x' (w.at d))).setIfInBounds i x') (w.at d) (t++MemOp.ofEvents i x.frame.fn x.frame.place es) (upd q i k) Sh g s:=by
    refine⟨?_,⟨fun j y O K=>?_,fun j O=>?_⟩,?_,?_,?_⟩
    ·have aJ:i≠0:=by omega
     rw [Array.getElem?_setIfInBounds_ne aJ,Array.getElem?_map,hC.main];simp [woken_run Y]
    ·by_cases ab:i=j
     ·subst ab;rw [Array.getElem?_setIfInBounds_self_of_lt (by simpa using aw)] at K;obtain rfl:=Option.some.inj K;rw [upd_same,Deaf_own];exact aH
     ·rw [Array.getElem?_setIfInBounds_ne ab,Array.getElem?_map] at K;obtain⟨z,aK,rfl⟩:=Option.map_eq_some_iff.1 K;have az:=hC.lv.old j z O aK;rw [woken_quitsD az,upd_ne q k (Ne.symm ab),Deaf_other t ab _ aa];exact az
    ·rw [Deaf_other t (g':=i) (by simp at O;omega) _ aa];exact hC.lv.above j (by simpa using O)
    ·rw [ai];exact av.Cu.mute aa ay (fun op U=>by obtain⟨e,he,rfl⟩:=mem_ofEvents U;exact low_mute (hm e he) _) rfl
    ·exact handedOver_app hC.over fun op U=> .inr (ay op U)
    ·rw [Deaf_other t (by omega) _ aa];exact hC.hears
   exact .inr ⟨_,_,_,au.trans Z,by rw [← ai];rw [ai];omega,_,_,_,_,_,_,_,rfl,aI,⟨Y,v,ap,aq⟩,rfl,al,am,an,ao⟩
theorem ends{gs:Array Goroutine}{w:World}{sl:Option (Nat×Nat)}{t:Trace}{q:Nat→Nat}{Sh:Nat→Prop}{g:Goroutine}{s:St}(hC:FU P gs w t q Sh g s)(O:Jy P R g s):
  ∃N last o w' K,runNT P (N+1) (crowd gs w sl) t=(.ended o w',K)∧runN P N (crowd gs w sl)= .next last∧step P last= .ended o w'∧Good P (JM P R w s) last o w' K:=
 run_of_inv Nat.lt_wfRel.wf (ND P R w s) (Good P (JM P R w s)) TC _ _ _ ⟨gs,w,sl,q,Sh,g,s,rfl,hC,O,rfl,fun _ _ h=>h,rfl,rfl,rfl⟩
theorem RJ{m m':Machine}{t K:Trace}{n:Nat}(h:runNT P n m t=(.next m',K)):runN P n m= .next m':=by rw [← runNT_fst P n m t,h]
def HZ(W:World):St:=⟨fun b=>W.heap[b]?,fun _=>none,false⟩
theorem Tq{W:World}{g:Goroutine}(h:(Dv P).ok (Jy P R) g (HZ W)):
  ∃M last o w' K,runNT P (M+1) (solo g W) #[]=(.ended o w',K)∧runN P M (solo g W)= .next last∧step P last= .ended o w'∧Good P (JM P R W (HZ W)) last o w' K:=by
 have hC:FU P #[g] W #[] (fun _=>0) (fun _=>False) g (HZ W):=by
  have V:∀{i:Nat} {a:Touch},touchAt #[] i=some a→False:=fun {i a} h=>by simp [touchAt,Trace.act?] at h
  refine⟨rfl,leavers_one P g,⟨fun i hi=>?_,fun i j hi Z aB=>by simp at hi Z;omega,fun i hi b hb=>hb.elim,fun b hb=>hb.elim,fun said=>?_,by simp,fun i _ b _ x a O=>(V O).elim,fun i _ b _ x a O=>(V O).elim⟩,fun i g aa=>by simp [Trace.g?] at aa,rfl⟩
  ·have:i=0:=by simp at hi;exact hi
   subst this;exact⟨fun b o U=>U,fun b o U=>(by cases U),fun b _=>rfl⟩
  ·rintro⟨i,j,_,⟨a,b,ab,_⟩,_⟩;simp [Trace.act?] at ab
 obtain⟨n,gs',w',ae,K,aC,aD,g',s',Y,ag,ah,ai,aj,ak,al⟩:=h #[g] W none #[] _ _ hC;obtain⟨N,last,o,am,an,k1,ao,ap,aq⟩:=ends (sl:=ae) ag ah;refine⟨n+N,last,o,am,an,?_,?_,ap,?_⟩
 ·rw [solo_eq_crowd,Nat.add_assoc,runNT_add,Y];exact k1
 ·have ar:=RJ Y;rw [solo_eq_crowd,runN_add,ar];exact ao
 ·obtain⟨v,e,⟨s2,au,av,aw,ay,az,aA⟩,r⟩:=aq;exact⟨v,e,⟨s2,au,av,fun b o hb=>aw b o (ai b o hb),ay.trans aj,az.trans ak,aA.trans al⟩,r⟩
end
end Pal
namespace Pal
open Go Go.Conc
theorem Sg{P:Program}{Q:Gs_}{E H:LH}{f:FuncId}{fn:Func}{c:Code}{vs:Lv_}(U:P.funcs[f]? =some fn)(hb:fn.body=some c)(Y:fn.ntmps=fn.ntmps)(Z:vs.length≤fn.ntmps)
  (h:JL (Dv P) Q (base f) fn.ntmps (Fe 0 vs) [] [.code c] [] (Al E H [[]])):(Dv P).ok Q (G (Frame.enter P f vs.toArray .normal) []) (mk E H []):=by
 have he:Frame.enter P f vs.toArray .normal=fr (base f) (vs.toArray++Array.replicate (fn.ntmps - vs.length) undef) [] [.code c]:=by
  simp [Frame.enter,fr,U,hb,base];rfl
 rw [he];have V:mk E H []=Al E H [[]]:=by unfold Al;simp
 rw [V];refine h _ ⟨by simp;omega,fun t v ht=>?_⟩;obtain⟨_,K⟩:=Ix ht;have W:t<vs.length:=by
  rcases Nat.lt_or_ge t vs.length with O | O
  ·exact O
  ·simp at K;have:=(List.getElem?_eq_some_iff.1 K).1;omega
 rw [Array.getD_eq_getD_getElem?,Array.getElem?_append_left (by simpa using W)];simp at K;simp [K]
end Pal
namespace Pal
open Go Go.Conc Go.Proofs Go.ChangeShapes Go.WideShapes Go.ChangeAt Go.RowKit
open Go.Proofs.YtboibffcmhheiaaGreatDoor (Rows.laid_errors_errorType)
theorem Tryz.own:ownKnob Tryz.prog.godebug=none:=by kernel_rfl
theorem Tryz.laidOut:laidOutB Tryz.prog=true:=by kernel_rfl
theorem Tryz.VE:Tryz.prog.cellsOf 3=1:=by kernel_rfl
theorem S9{W:World}{a:Addr}{len cap:Nat}{K:List Int}(V:a.spot=none)(ag:len≤cap)(aa:len≤K.length)(ab:∀i,i<K.length→W.cell? (a.add i)=some (.int .i64 (K.getD i 0))):
  An rI (HZ W).E (some a) cap (K.take len)∧(K.take len).length=len:=by
 have Z:(K.take len).length=len:=by simp [Nat.min_eq_left aa]
 refine⟨⟨by omega,.inr ⟨a.block,a.off,?_,fun i x Y=>⟨[iV x],rfl,?_⟩⟩⟩,Z⟩
 ·obtain⟨b,o,s⟩:=a;simp only at V;subst V;rfl
 ·have hi:i<len:=by rw [← Z];exact(List.getElem?_eq_some_iff.1 Y).1
  have O:=ab i (by omega);have ae:K.getD i 0=x:=by
   rw [List.getElem?_take_of_lt hi] at Y;rw [List.getD_eq_getElem?_getD,Y];rfl
  rw [ae,DG V] at O;unfold World.cell? at O;split at O
  ·rename_i c e f hW;simp only [Option.isSome_none,Bool.false_eq_true,if_false] at O;refine⟨c,e,f,hW,fun j w U=>?_⟩
   match j,U with
   | 0,U=>
    simp at U;subst U;show c[a.off+i*1+0]? =some (.int .i64 x);simpa using O
   | j+1,U=>simp at U
  ·cases O
theorem Ry{W:World}{base:Nat}{t e:TypeId}{a:Addr}{len cap:Nat}(ht:Tryz.prog.underlying t=some (.slice e))(h:Value.okWide Tryz.prog W .any base t (.slice (some a) len cap)):a.spot=none∧len≤cap:=by
 simp only [Value.okWide,ht,Cell.okWide,Cell.ok] at h;exact⟨h.2.2.2.1,h.1⟩
theorem RE{R:Value→St→Prop}{W w':World}{v:Value}(h:JM Tryz.prog R W (HZ W) v w'):(∃s,R v s)∧Below W.heap.size W w':=by
 obtain⟨s,V,Y,Z,ht,aa,ab⟩:=h;have hb:∀k,k<W.heap.size→w'.heap[k]? =W.heap[k]? :=fun k O=>by
  have K:(HZ W).E k=some W.heap[k]:=Array.getElem?_eq_getElem O;have U:=Y.e k _ (Z k _ K);rw [U,Array.getElem?_eq_getElem O]
 refine⟨⟨s,V⟩,⟨aa,ht,ab,?_,hb⟩⟩;rcases Nat.eq_zero_or_pos W.heap.size with ae | ae
 ·omega
 ·have K:=hb (W.heap.size - 1) (by omega);have ag:W.heap[W.heap.size - 1]? =some W.heap[W.heap.size - 1]:=Array.getElem?_eq_getElem (by omega);rw [ag] at K;have U:=(Array.getElem?_eq_some_iff.1 K).1;omega
noncomputable def On(os:Os):World:=
 let w0:=World.holding Tryz.prog os ⟨#[],#[],[]⟩
 {w0 with heap:=w0.heap.modify 0 fun
   | .cells _ t frozen=> .cells #[.iface 240 (.agg #[.pointer (some ⟨1,149,none⟩)])] t frozen
   | o=>o}
theorem Ro(os:Os)(args:Ay):laidMetH Tryz.prog [("errors.errorType",Go.Proofs.YtboibffcmhheiaaGreatDoor.Rows.laid_errors_errorType)] ((On os).forCall (fun _ _=>0) ⟨#[],args,[]⟩).memory:=
 laidMetH_of_parts (laidMet_nil _ _) (by kernel_rfl)
end Pal
namespace Pal
open Go Go.Conc
theorem oi{α:Type}{a b:α}(h:some a=some b):a=b:=Option.some.inj h
theorem bs{α β:Type}{o:Option α}{f:α→Option β}{r:β}(h:o.bind f=some r):∃x,o=some x∧f x=some r:=bind_some h
def Gv(L:Env):Env→List (Option Value)
 | []=> []
 | (t,_)::L'=>look L t::Gv L L'
def Gw:Env→List (Option Value)
 | []=> []
 | (_,v)::L'=>some v::Gw L'
theorem LA{L:Env}:∀{L':Env},Gv L L'=Gw L'→Sub L' L
 | [],_=>trivial
 | (t,v)::L',h=>by
  simp only [Gv,Gw,List.cons.injEq] at h
  exact⟨h.1,LA h.2⟩
section
variable {P:Program}{J:Judge P}{Q:Gs_}{b:Frame}{n:Nat}{L L':Env}{ds:Ld_}{k k':Li_}{cs:Lf_}{s:St}{ops:Ao_}{i:Nat}{rest:List Nat}{v:Value}
variable {d:Option Tmp}{op:Op}{ty:TypeId}{p:String}{af:Ae_}{g:On_}
theorem HP(L':Env)(h:Gv L L'=Gw L')(k':JL J Q b n L' ds k cs s):JL J Q b n L ds k cs s:=Hf (LA h) k'
theorem AB(k':JL J Q b n L' ds k cs s)(h:Gv L L'=Gw L'):JL J Q b n L ds k cs s:=Hf (LA h) k'
def Ei(b:Frame)(n:Nat)(L:Env)(ops:Ao_)(i:Nat):Option Oper:=
 match Hm ops.toList i with
 | some ⟨d,op,ty,p,af,g⟩=>match A5 L ops ⟨d,op,ty,p,af,g⟩ with
  | some true=>match Cw b n ⟨d,op,ty,p,af,g⟩ with
   | true=>some ⟨d,op,ty,p,af,g⟩
   | false=>none
  | _=>none
 | none=>none
theorem H9{o:Oper}(h:Ei b n L ops i=some o):ops[i]? =some o∧A5 L ops o=some true∧Cw b n o=true:=by
 unfold Ei at h;split at h
 ·rename_i K;rw [IH,Array.getElem?_toList] at K;split at h
  ·rename_i hw;split at h
   ·rename_i O;cases h;exact⟨K,hw,O⟩
   ·cases h
  ·cases h
 ·cases h
theorem Az(K:Ei b n L ops i=some ⟨d,op,ty,p,af,g⟩)(h:∀ρ,D9 L ρ→Yl P ⟨d,op,ty,p,af,g⟩ ρ s v)(O:JL J Q b n (AA L d v) ds (.inRegion ops rest::k) cs s):
  JL J Q b n L ds (.inRegion ops (i::rest)::k) cs s:=
 let ⟨U,V,W⟩:=H9 K
 AW U V W h O
theorem Nn{f:FuncId}{fn:Func}{c:Code}{E:LH}{vs:Lv_}{B:Seg}{R:Value→LH→Seg→Prop}(O:P.funcs[f]? =some fn)(hb:fn.body=some c)(U:Nat.ble vs.length fn.ntmps=true)
  (h:∀(Q:Gs_) (K:Frame) (cs:Lf_) (H:LH),As E H [B]→(∀v E' S' B',Le E E'→S'.flatten=B'→R v E' B'→As E' H S'→J.ok Q (G (K.finish v) cs) (Al E' H S'))→JL J Q (base f) fn.ntmps (Fe 0 vs) [] [.code c] (K::cs) (Al E H [B])):AP J f vs E B R:=
 AP.enter O hb (Nat.le_of_ble_eq_true U) h
def Me(n:Nat)(L:Env)(ops:Ao_)(i:Nat):Option Env:=
 match Hm ops.toList i with
 | some ⟨d,op,ty,p,af,g⟩=>match A5 L ops ⟨d,op,ty,p,af,g⟩ with
  | some true=>match Br n d with
   | true=>match Im L op with
    | some v=>match d with
     | some d=>some ((d,v)::L)
     | none=>some L
    | none=>none
   | false=>none
  | some false=>match Br n d with
   | true=>match d with
    | some d=>some ((d,undef)::L)
    | none=>some L
   | false=>none
  | none=>none
 | none=>none
def FD(n:Nat)(L:Env)(ops:Ao_)(i:Nat):Option Oper:=
 match Hm ops.toList i with
 | some ⟨d,op,ty,p,af,g⟩=>match A5 L ops ⟨d,op,ty,p,af,g⟩ with
  | some true=>match Br n d with
   | true=>some ⟨d,op,ty,p,af,g⟩
   | false=>none
  | _=>none
 | none=>none
theorem MI{o:Oper}(h:FD n L ops i=some o):ops[i]? =some o∧A5 L ops o=some true∧Br n o.dst=true:=by
 unfold FD at h;split at h
 ·rename_i K;rw [IH,Array.getElem?_toList] at K;split at h
  ·rename_i hw;split at h
   ·rename_i O;cases h;exact⟨K,hw,O⟩
   ·cases h
  ·cases h
 ·cases h
theorem Ti(h:Me n L ops i=some L'):∃o,ops[i]? =some o∧Br n o.dst=true∧((∃v,A5 L ops o=some true∧Im L o.op=some v∧L'=AA L o.dst v)∨(A5 L ops o=some false∧L'=AA L o.dst undef)):=by
 unfold Me at h;split at h
 ·rename_i d op ty p af g O;rw [IH,Array.getElem?_toList] at O;refine⟨_,O,?_⟩;split at h
  ·rename_i hw;split at h
   ·rename_i K;refine⟨K,.inl ?_⟩;split at h
    ·rename_i v U;refine⟨v,hw,U,?_⟩;cases d with
     | none=>cases h;rfl
     | some d=>cases h;rfl
    ·cases h
   ·cases h
  ·rename_i hw;split at h
   ·rename_i K;refine⟨K,.inr ⟨hw,?_⟩⟩;cases d with
    | none=>cases h;rfl
    | some d=>cases h;rfl
   ·cases h
  ·cases h
 ·cases h
variable {m:Nat}{D:Nat→Bool}{fuel:Nat}{listed:Array Bool}
theorem Ct(i:Nat)(K:Dm ops m=true)(O:s.q=false)(h:Me n L ops i=some L')
  (U:AO J Q b n ds ops k cs m D fuel (A4 listed i) L' s) (V:ES ops listed m i=true:=by decide+kernel):AO J Q b n ds ops k cs m D (fuel+1) listed L s:=by
 obtain⟨o,W,Y,⟨v,hw,Z,rfl⟩ | ⟨hw,rfl⟩⟩:=Ti h
 ·exact M9 i W K V O hw Y (fun ρ aa s' _=>La aa Z) U
 ·exact V5 i W K V O hw Y U
theorem BC(i:Nat)(K:Dm ops m=true)(O:s.q=false)(U:FD n L ops i=some ⟨d,op,ty,p,af,g⟩)
  (V:∀ρ,D9 L ρ→∀s':St,(∀x o,(Bv D s).E x=some o→s'.E x=some o)→Yl P ⟨d,op,ty,p,af,g⟩ ρ s' v)
  (W:AO J Q b n ds ops k cs m D fuel (A4 listed i) (AA L d v) s) (Y:ES ops listed m i=true:=by decide+kernel):AO J Q b n ds ops k cs m D (fuel+1) listed L s:=by
 obtain⟨Z,aa,ab⟩:=MI U;exact M9 i Z K Y O aa ab V W
end
end Pal
namespace Pal
open Go Go.Conc
abbrev Jn(E H E':LH)(S:List Seg)(K L:Env)(s:St)(R:Prop):Prop:=L=K∧s=Al E' H S∧Le E E'∧As E' H S∧R
abbrev Jm(E H E':LH)(S:List Seg)(K L:Env)(s:St):Prop:=L=K∧s=Al E' H S∧Le E E'∧As E' H S
def L9(L:Env):List ResultVar→Option (Lv_)
 | []=>some []
 | .tmp t::rs=>match look L t with
  | some v=>match L9 L rs with
   | some vs=>some (v::vs)
   | none=>none
  | none=>none
 | _=>none
theorem Pr{P:Program}{L:Env}{s:St}:∀{rs:List ResultVar} {vs:Lv_},L9 L rs=some vs→RV P L s rs vs
 | [],vs,h=>by cases h;trivial
 | .tmp t::rs,vs,h=>by
  unfold L9 at h
  split at h
  ·rename_i v K
   split at h
   ·rename_i ws hw;cases h;exact⟨K,Pr hw⟩
   ·cases h
  ·cases h
 | .cell _ _::_,_,h=>by cases h
section
variable {P:Program}{J:Judge P}{Q:Gs_}{b:Frame}{n:Nat}{L L':Env}{ds:Ld_}{k k':Li_}{cs:Lf_}{s:St}{ops:Ao_}{i:Nat}{rest:List Nat}{v:Value}{E H:LH}{S:List Seg}
variable {d:Option Tmp}{op:Op}{x y:Operand}{t ft ty e:TypeId}{p:String}{af:Ae_}{g:On_}
theorem AN{c:Frame}{fn:Func}{vs:Lv_}(O:P.funcs[b.fn]? =some fn)(K:(b.kind== .normal&&b.roundOf.isNone)=true)(U:L9 L fn.results.toList=some vs)(h:J.ok Q (G (c.finish (Lp vs)) cs) s):JL J Q b n L [] (.code .ret::k) (c::cs) s:=by
 simp only [Bool.and_eq_true,beq_iff_eq,Option.isNone_iff_eq_none] at K;exact JL.ret K.1 K.2 (BR.list O rfl (Pr U)) h
theorem BH{f:FuncId}{args:Array Operand}{ats:Array TypeId}{vs:Lv_}{R:Value→LH→Seg→Prop}
  (O:AP J f vs E [] R) (U:Ei b n L ops i=some ⟨d,.call ⟨.value (.func f),args,ats⟩,ty,p,af,g⟩) (V:evs L args.toList=some vs) (hb:Dk P f=true)
  (W:As E H S) (Y:∀v E' seg',Le E E'→R v E' seg'→As E' H (S++ [seg'])→JL J Q b n (AA L d v) ds (.inRegion ops rest::k) cs (Al E' H (S++ [seg']))):
  JL J Q b n L ds (.inRegion ops (i::rest)::k) cs (Al E H S):=by
 obtain⟨Z,aa,K⟩:=H9 U;refine JS.call O Z aa ?_ hb V W Y;simp only [Cw,Bool.and_eq_true] at K ⊢;exact⟨K.1,K.2.1⟩
theorem BK{f:FuncId}{args:Array Operand}{ats:Array TypeId}{vs:Lv_}{v:Value}
  (O:AP J f vs E [] (fun w E' B'=>w=v∧B'= [])) (U:Ei b n L ops i=some ⟨d,.call ⟨.value (.func f),args,ats⟩,ty,p,af,g⟩) (V:evs L args.toList=some vs) (hb:Dk P f=true)
  (K:As E H S) (W:∀E',Le E E'→As E' H (S++ [[]])→JL J Q b n (AA L d v) ds (.inRegion ops rest::k) cs (Al E' H (S++ [[]]))):
  JL J Q b n L ds (.inRegion ops (i::rest)::k) cs (Al E H S):=BH O U V hb K (by rintro _ E' _ hle ⟨rfl,rfl⟩ K;exact W E' hle K)
theorem BP{f:FuncId}{args:Array Operand}{ats:Array TypeId}{vs:Lv_}{seg:Seg}{R:Value→LH→Seg→Prop}(j:Nat)
  (O:AP J f vs E seg R) (U:Ei b n L ops i=some ⟨d,.call ⟨.value (.func f),args,ats⟩,ty,p,af,g⟩) (V:evs L args.toList=some vs) (hb:Dk P f=true)
  (W:As E H S) (Y:S[j]? =some seg) (Z:∀v E' seg',Le E E'→R v E' seg'→As E' H (S.set j seg')→JL J Q b n (AA L d v) ds (.inRegion ops rest::k) cs (Al E' H (S.set j seg'))):
  JL J Q b n L ds (.inRegion ops (i::rest)::k) cs (Al E H S):=by
 obtain⟨aa,ab,K⟩:=H9 U;refine MR j O aa ab ?_ hb V W Y Z;simp only [Cw,Bool.and_eq_true] at K ⊢;exact⟨K.1,K.2.1⟩
def JE(K:Array Field)(i:Nat):Option (Nat×TypeId):=match K[i]? with
 | some f=>some (f.offset,f.type)
 | none=>none
theorem Bg{r m m':Int}{u:TypeId}(h:Av (m+m')=some r)(K:Ei b n L ops i=some ⟨d,.binOp .add t x y u,ty,p,af,g⟩)(O:ev L x=some (iV m))(U:ev L y=some (iV m'))
  (V:JL J Q b n (AA L d (iV r)) ds (.inRegion ops rest::k) cs s):JL J Q b n L ds (.inRegion ops (i::rest)::k) cs s:=Az K (fun _ q=>TU (q _ _ O) (q _ _ U) h) V
theorem BW{r m m':Int}{u:TypeId}(h:Av (m - m')=some r)(K:Ei b n L ops i=some ⟨d,.binOp .sub t x y u,ty,p,af,g⟩)(O:ev L x=some (iV m))(U:ev L y=some (iV m'))
  (V:JL J Q b n (AA L d (iV r)) ds (.inRegion ops rest::k) cs s):JL J Q b n L ds (.inRegion ops (i::rest)::k) cs s:=Az K (fun _ q=>CY (q _ _ O) (q _ _ U) h) V
theorem Bx{a:Option Addr}{e:TypeId}{l c:Nat}{ats:Array TypeId}(ht:P.underlying t=some (.slice e))(K:Ei b n L ops i=some ⟨d,.call ⟨.builtin .len,#[x],ats⟩,ty,p,af,g⟩)(O:ats[0]? =some t)(U:ev L x=some (.slice a l c))
  (V:JL J Q b n (AA L d (.int .i64 l)) ds (.inRegion ops rest::k) cs s):JL J Q b n L ds (.inRegion ops (i::rest)::k) cs s:=Az K (fun _ q=>Yl.len O ht (q _ _ U)) V
theorem Bu{bk o O off:Nat}{U:Array Field}{V:Nat}(ht:P.underlying t=some (.struct U))(W:Bq P ft=some (O+1))(Y:Ei b n L ops i=some ⟨d,.fieldAddr t x V,ty,p,af,g⟩)(Z:ev L x=some (.pointer (some ⟨bk,o,none⟩)))(K:JE U V=some (off,ft))
  (aa:JL J Q b n (AA L d (.pointer (some ⟨bk,o+off,none⟩))) ds (.inRegion ops rest::k) cs s):
  JL J Q b n L ds (.inRegion ops (i::rest)::k) cs s:=by
 unfold JE at K;split at K
 ·rename_i f ab;cases K;refine Az Y (fun ρ h=>Qi (a:=⟨bk,o,none⟩) O f.offset ht W ab rfl rfl (h _ _ Z)) ?_;rw [DG rfl];exact aa
 ·cases K
theorem BV{bk o:Nat}{ws:Lv_}(j:Nat)(K:At E bk o ws)(ht:Dd P t=some false)(O:Ei b n L ops i=some ⟨d,.load t x,ty,p,af,g⟩)(U:ev L x=some (.pointer (some ⟨bk,o+j,none⟩)))(V:ws[j]? =some v)
  (W:JL J Q b n (AA L d v) ds (.inRegion ops rest::k) cs (Al E H S)):
  JL J Q b n L ds (.inRegion ops (i::rest)::k) cs (Al E H S):=
 Az O (fun _ h=>Yl.load ht (h _ _ U) (At.QR K V)) W
theorem V3{bk off:Nat}{c:Ay}(j:Nat)(K:As E H S)(O:Bq P t=some v.cells.size)(U:Ei b n L ops i=some ⟨d,.store t x y,ty,p,af,g⟩)
  (V:ev L x=some (.pointer (some ⟨bk,off,none⟩))) (W:ev L y=some v) (Y:S[j]? =some [(bk,.cells c e (0,0))])
  (h:As E H (S.set j [(bk,.cells (Ba c off v.cells.toList) e (0,0))])→JL J Q b n (AA L d undef) ds (.inRegion ops rest::k) cs (Al E H (S.set j [(bk,.cells (Ba c off v.cells.toList) e (0,0))])))
  (hle:off+v.cells.size≤c.size:=by exact Nat.le_of_ble_eq_true rfl) (Z:∀u∈v.cells.toList,CG u=true:=by simp [Value.cells,CG]):
  JL J Q b n L ds (.inRegion ops (i::rest)::k) cs (Al E H S):=by
 obtain⟨aa,ab,ae⟩:=H9 U;exact JS.store j aa ab ae K V W O Z Y hle h
theorem Cl{bk o:Nat}{ws:Lv_}(K:At E bk o ws)(ht:Dd P t=some true)(O:Bq P t=some ws.length)(U:Ei b n L ops i=some ⟨d,.load t x,ty,p,af,g⟩)(V:ev L x=some (.pointer (some ⟨bk,o,none⟩)))
  (W:JL J Q b n (AA L d (.agg ws.toArray)) ds (.inRegion ops rest::k) cs (Al E H S)):
  JL J Q b n L ds (.inRegion ops (i::rest)::k) cs (Al E H S):=
 Az U (fun _ h=>EK ht O (h _ _ V) (At.Vj K)) W
variable {m:Nat}{D:Nat→Bool}{fuel:Nat}{listed:Array Bool}
theorem Ce{bk o O off:Nat}{U:Array Field}{V:Nat}(i:Nat)(W:Dm ops m=true)(ht:P.underlying t=some (.struct U))(Y:Bq P ft=some (O+1))(Z:s.q=false)(aa:FD n L ops i=some ⟨d,.fieldAddr t x V,ty,p,af,g⟩)(ab:ev L x=some (.pointer (some ⟨bk,o,none⟩)))(K:JE U V=some (off,ft))
  (ae:AO J Q b n ds ops k cs m D fuel (A4 listed i) (AA L d (.pointer (some ⟨bk,o+off,none⟩))) s) (ag:ES ops listed m i=true:=by decide+kernel):AO J Q b n ds ops k cs m D (fuel+1) listed L s:=by
 unfold JE at K;split at K
 ·rename_i f ah;cases K;refine BC i W Z aa (fun ρ h _ _=>Qi (a:=⟨bk,o,none⟩) O f.offset ht Y ah rfl rfl (h _ _ ab)) ?_ ag;rw [DG rfl];exact ae
 ·cases K
theorem DR{bk o:Nat}{ws:Lv_}(i:Nat)(K:Dm ops m=true)(j:Nat)(O:At (Bv D s).E bk o ws)(ht:Dd P t=some false)(U:s.q=false)(V:FD n L ops i=some ⟨d,.load t x,ty,p,af,g⟩)(W:ev L x=some (.pointer (some ⟨bk,o+j,none⟩)))(Y:ws[j]? =some v)
  (Z:AO J Q b n ds ops k cs m D fuel (A4 listed i) (AA L d v) s) (aa:ES ops listed m i=true:=by decide+kernel):AO J Q b n ds ops k cs m D (fuel+1) listed L s:=
 BC i K U V (fun _ h _ hs=>Yl.load ht (h _ _ W) (At.Ns O hs Y)) Z aa
theorem Ii{bk o:Nat}{ws:Lv_}(i:Nat)(K:Dm ops m=true)(O:At (Bv D s).E bk o ws)(ht:Dd P t=some true)(U:Bq P t=some ws.length)(V:s.q=false)(W:FD n L ops i=some ⟨d,.load t x,ty,p,af,g⟩)(Y:ev L x=some (.pointer (some ⟨bk,o,none⟩)))
  (Z:AO J Q b n ds ops k cs m D fuel (A4 listed i) (AA L d (.agg ws.toArray)) s) (aa:ES ops listed m i=true:=by decide+kernel):AO J Q b n ds ops k cs m D (fuel+1) listed L s:=
 BC i K V W (fun _ h _ hs=>EK ht U (h _ _ Y) (At.Nb O hs)) Z aa
end
end Pal
namespace Pal
open Go Go.Conc
abbrev BI:=List (List Int)×List (List Int)
abbrev BJ:=List (List Int)×List (List Int)×List Nat
abbrev BS:=Int×List Int×Nat
abbrev Be:=Int×Int×List BS
abbrev AY:=List (Int×Int)
abbrev B4:=List Int×Int×Nat
abbrev Ap:=Option Addr
abbrev CV:Rp BS:=rP rI (rP (rL rI) (rN .u16))
abbrev Cc:Rp Be:=rP rI (rP rI (rL CV))
abbrev BE:Rp (Int×Int):=rP rI rI
theorem ip{α:Type}{p:Prop} [Decidable p] {A B:Option α}{r:α}(h:(if p then A else B)=some r)(c:p):A=some r:=by rwa [if_pos c] at h
theorem im{α:Type}{p:Prop} [Decidable p] {A B:Option α}{r:α}(h:(if p then A else B)=some r)(c:¬p):B=some r:=by rwa [if_neg c] at h
theorem ib{α:Type}{c:Bool}{A B:Option α}{r:α}(h:(if c=true then A else B)=some r)(K:c=false):B=some r:=by subst K;simpa using h
def NH(n:Nat)(ops:Ao_):List Nat→Nat→Env→Option (Nat×Env)
 | [],f,L=>some (f,L)
 | i::l,f+1,L=>match Me n L ops i with
  | some L'=>NH n ops l f L'
  | none=>none
 | _::_,0,_=>none
def Nw(ops:Ao_)(m:Nat):Array Bool→List Nat→Bool
 | _,[]=>true
 | listed,i::l=>ES ops listed m i&&Nw ops m (A4 listed i) l
def QM:Array Bool→List Nat→Array Bool
 | listed,[]=>listed
 | listed,i::l=>QM (A4 listed i) l
theorem Bp{P:Program}{J:Judge P}{Q:Gs_}{b:Frame}{n:Nat}{ds:Ld_}{k:Li_}{cs:Lf_}{s:St}{ops:Ao_}{m:Nat}{D:Nat→Bool}{L':Env}{U:Nat}(V:Dm ops m=true)(W:s.q=false):
  ∀(l:List Nat) {fuel:Nat} {listed:Array Bool} {L:Env},NH n ops l fuel L=some (U,L')→AO J Q b n ds ops k cs m D U (QM listed l) L' s→(K:Nw ops m listed l=true:=by decide+kernel)→AO J Q b n ds ops k cs m D fuel listed L s
 | [],fuel,listed,L,h,O,_=>by cases h;exact O
 | i::l,fuel,listed,L,h,O,K=>by
  cases fuel with
  | zero=>cases h
  | succ fuel=>
   unfold Nw at K;rw [Bool.and_eq_true] at K;unfold NH at h;split at h
   ·rename_i Y e;exact Ct i V W e (Bp V W l h O K.2) K.1
   ·cases h
theorem zg{P:Program}{J:Judge P}{Q:Gs_}{b:Frame}{n:Nat}{L L':Env}{ds:Ld_}{k k':Li_}{cs:Lf_}{s:St}(m:Nat)(h:Ly b n m k L=some (k',L'))(K:JL J Q b n L' ds k' cs s):JL J Q b n L ds k cs s:=JL.go m h K
abbrev bX(r:Nat)(c:Ay)(t:TypeId):Seg:= [(r,.cells c t (0,0))]
end Pal
namespace Pal
open Go Go.Conc
section
variable {P:Program}{J:Judge P}{Q:Gs_}{b:Frame}{n:Nat}{L L':Env}{ds:Ld_}{k:Li_}{cs:Lf_}{s:St}{ops:Ao_}{E H:LH}{S:List Seg}
variable {α:Type}{A B:Option α}{r:α}
theorem AS{c:Operand}{x y:Code}{p:Prop} [Decidable p] (K:(if p then A else B)=some r)(O:p→A=some r→JL J Q b n L ds (.code x::k) cs s)(U:¬p→B=some r→JL J Q b n L ds (.code y::k) cs s)
  (V:ev L c=some (.bool (decide p)):=by exact rfl):JL J Q b n L ds (.code (.cond c x y)::k) cs s:=Ni V (fun h=>O h (ip K h)) fun h=>U h (im K h)
theorem BL{c:Operand}{x y:Code}{t:Bool}(K:(if t=true then A else B)=some r)(O:t=true→A=some r→JL J Q b n L ds (.code x::k) cs s)(U:t=false→B=some r→JL J Q b n L ds (.code y::k) cs s)
  (V:ev L c=some (.bool t):=by exact rfl):JL J Q b n L ds (.code (.cond c x y)::k) cs s:=OU V (fun h=>O h (ip K h)) fun h=>U h (ib K h)
theorem Er{q:Prop} [Decidable q] (i:Nat)(K:(if q then A else B)=some r)(O:q→A=some r→JL J Q b n (AA L (some i) (.bool true)) ds k cs s)(U:¬q→B=some r→JL J Q b n (AA L (some i) (.bool false)) ds k cs s)
  (V:look L i=some (.bool (decide q)):=by exact rfl):JL J Q b n L ds k cs s:=Sy V (fun h=>O h (ip K h)) fun h=>U h (im K h)
theorem Dr{t:Bool}(i:Nat)(K:(if t=true then A else B)=some r)(O:t=true→A=some r→JL J Q b n (AA L (some i) (.bool true)) ds k cs s)(U:t=false→B=some r→JL J Q b n (AA L (some i) (.bool false)) ds k cs s)
  (V:look L i=some (.bool t):=by exact rfl):JL J Q b n L ds k cs s:=SI V (fun h=>O h (ip K h)) fun h=>U h (ib K h)
theorem CP{K O:Type}{c:Code}{body:K→Option (Bi K O)}{f:Nat}{U:K}{a:O}(W:iter body f U=some a)(I:Env→St→K→Prop)(Y:I L' s U)
  (round:∀L s x,I L s x→(∀V,body x=some (.done V)→V=a)→(∃st,body x=some st)→(∀L' s' x',I L' s' x'→body x=some (.more x')→JL J Q b n L' ds (.inLoop c::k) cs s')→JL J Q b n L ds (.code c:: .inLoop c::k) cs s)
  (Z:Gv L L'=Gw L':=by exact rfl):JL J Q b n L ds (.code (.loop c)::k) cs s:=HP L' Z (O9 W I Y round)
variable {m:Nat}{D:Nat→Bool}{fuel:Nat}{listed:Array Bool}
def LZ(ops:Ao_):Array Bool→List Nat→Bool
 | _,[]=>true
 | l,i::t=>Region.ready .any ops l== [i]&&LZ ops (A4 l i) t
theorem PO:∀{t:List Nat} {l:Array Bool},LZ ops l t=true→∀u,Region.linearise.go .any ops t.length u l []=t
 | [],_,_,_=>rfl
 | i::t,l,h,u=>by
  unfold LZ at h
  rw [Bool.and_eq_true,beq_iff_eq] at h
  exact U8 h.1 (PO h.2) u
theorem Cp(t:List Nat)(O:JL J Q b n L ds (.inRegion ops t::k) cs s)(K:(Nt m listed&&LZ ops listed t&&(fuel+1==t.length))=true:=by decide+kernel):AO J Q b n ds ops k cs m D (fuel+1) listed L s:=by
 rw [Bool.and_eq_true,Bool.and_eq_true,beq_iff_eq] at K;exact AO.leaf K.1.1 (by rw [K.2];exact PO K.1.2) O
theorem Ep(m:Nat){id:Nat}(h:Dm ops m=true→AO J Q b n ds ops k cs m Ef ops.size (Array.replicate ops.size false) L (Al E H S))(hm:P.follows .mixedOrders=true:=by exact rfl)(K:(b.kind != .early)=true:=by exact rfl)(ht:Dm ops m=true:=by decide+kernel):
  JL J Q b n L ds (.code (.region id ops true)::k) cs (Al E H S):=Tj m hm K ht h
theorem CZ(m:Nat)(bks:List Nat){id:Nat}(K:FO S bks)(O:As E H S)(h:Dm ops m=true→AO J Q b n ds ops k cs m (AV bks) ops.size (Array.replicate ops.size false) L (Al E H S))(hm:P.follows .mixedOrders=true:=by exact rfl)(U:(b.kind != .early)=true:=by exact rfl)(ht:Dm ops m=true:=by decide+kernel):
  JL J Q b n L ds (.code (.region id ops true)::k) cs (Al E H S):=Tg m bks K O hm U ht h
theorem Hk{α:Type}{pp:Rp α}{a:Option Addr}{c:Nat}{xs:List α}{xv:α}{K:Int}{d:Option Tmp}{x y:Operand}{t ty e:TypeId}{p:String}{af:Ae_}{g:On_}{kd:IntKind}(i:Nat)(O:An pp E a c xs)(U:ix xs K=some xv)(V:Dm ops m=true)(ht:P.underlying t=some (.slice e))(W:Bq P e=some pp.n)
  (h:∀bk o ws,pp.r E ws xv→At E bk o ws→AO J Q b n ds ops k cs m D fuel (A4 listed i) (AA L d (.pointer (some ⟨bk,o,none⟩))) s)
  (Y:ops[i]? =some ⟨d,.indexAddr t x y,ty,p,af,g⟩:=by exact rfl) (Z:ES ops listed m i=true:=by decide+kernel) (aa:s.q=false:=by exact rfl)
  (hw:A5 L ops ⟨d,.indexAddr t x y,ty,p,af,g⟩=some true:=by exact rfl) (ab:Br n d=true:=by exact rfl)
  (ae:ev L x=some (.slice a xs.length c):=by exact rfl) (ag:ev L y=some (.int kd K):=by exact rfl):
  AO J Q b n ds ops k cs m D (fuel+1) listed L s:=VT i O U Y V Z aa hw ab ae ag ht W h
end
end Pal
namespace Pal
open Go Go.Conc
section
variable {P:Program}{J:Judge P}{Q:Gs_}{b:Frame}{n:Nat}{ds:Ld_}{ops:Ao_}{k:Li_}{cs:Lf_}{fuel:Nat}{D:Nat→Bool}{listed:Array Bool}{L L':Env}{s:St}{xl:List Nat}
variable {d:Option Tmp}{op:Op}{ty:TypeId}{p:String}{af:Ae_}{g:On_}{v:Value}
theorem Gc(i:Nat)(pure:Bool)(K:s.q=false)(O:FD n L ops i=some ⟨d,op,ty,p,af,g⟩)
  (U:∀ρ,D9 L ρ→∀s':St,(pure=false→∀x o,(Bv D s).E x=some o→s'.E x=some o)→Yl P ⟨d,op,ty,p,af,g⟩ ρ s' v)
  (V:ET J Q b n ds ops k cs (AV xl) D fuel (A4 listed i) (AA L d v) s) (W:I4 ops listed xl pure i=true:=by decide+kernel):ET J Q b n ds ops k cs (AV xl) D (fuel+1) listed L s:=by
 obtain⟨Y,Z,aa⟩:=MI O;exact QJ i pure Y W K Z aa U V
def NO(n:Nat)(L:Env)(ops:Ao_)(i:Nat):Option Env:=
 match Hm ops.toList i with
 | some ⟨d,op,ty,p,af,g⟩=>match A5 L ops ⟨d,op,ty,p,af,g⟩ with
  | some true=>match Br n d with
   | true=>match Im L op with
    | some v=>match d with
     | some d=>some ((d,v)::L)
     | none=>some L
    | none=>none
   | false=>none
  | _=>none
 | none=>none
theorem SX{i:Nat}(h:NO n L ops i=some L'):∃o v,ops[i]? =some o∧Br n o.dst=true∧A5 L ops o=some true∧Im L o.op=some v∧L'=AA L o.dst v:=by
 unfold NO at h;split at h
 ·rename_i d op ty p af g K;rw [IH,Array.getElem?_toList] at K;split at h
  ·rename_i hw;split at h
   ·rename_i O;split at h
    ·rename_i v U;refine⟨_,v,K,O,hw,U,?_⟩;cases d with
     | none=>cases h;rfl
     | some d=>cases h;rfl
    ·cases h
   ·cases h
  ·cases h
 ·cases h
theorem Bd(i:Nat)(K:s.q=false)(h:NO n L ops i=some L')
  (O:ET J Q b n ds ops k cs (AV xl) D fuel (A4 listed i) L' s) (U:I4 ops listed xl true i=true:=by decide+kernel):ET J Q b n ds ops k cs (AV xl) D (fuel+1) listed L s:=by
 obtain⟨o,v,V,W,hw,Y,rfl⟩:=SX h;exact QJ i true V U K hw W (fun ρ Z s' _=>La Z Y) O
end
end Pal
namespace Pal
open Go Go.Conc
section
variable {P:Program}{J:Judge P}{Q:Gs_}{b:Frame}{n:Nat}{L L':Env}{ds:Ld_}{k:Li_}{cs:Lf_}{s:St}{ops:Ao_}{E H:LH}{S:List Seg}{i i2:Nat}{rest:List Nat}
variable {d d2:Option Tmp}{x y x2:Operand}{t t2 ft u ty ty2 e:TypeId}{p p2:String}{af af2:Ae_}{g g2:On_}{v w:Value}
theorem CB(O:As E H S)(h:∀r E',Le E E'→At E' r 0 v.cells.toList→As E' H (S++ [[]])→JL J Q b n (AA L d (.pointer (some ⟨r,0,none⟩))) ds (.inRegion ops rest::k) cs (Al E' H (S++ [[]])))
  (U:Ei b n L ops i=some ⟨d,.box e x,ty,p,af,g⟩:=by exact rfl) (V:ev L x=some v:=by exact rfl):JL J Q b n L ds (.inRegion ops (i::rest)::k) cs (Al E H S):=by
 obtain⟨W,Y,Z⟩:=H9 U;refine JS.box W Y Z O V fun r aa=>C9 (bk:=r) (c:=v.cells) (e:=e) (f:=(0,0)) S.length aa (by simp) fun E' hle ab K=>?_;have ae:(S++ [[(r,Obj.cells v.cells e (0,0))]]).set S.length []=S++ [[]]:=by simp
 rw [ae] at K ⊢;exact h r E' hle ab K
theorem Cr{z:Value}(K:As E H S)(O:zeroOf P e=some z)(h:∀r,As E H (S++ [[(r,.cells z.cells e (0,0))]])→JL J Q b n (AA L d (.pointer (some ⟨r,0,none⟩))) ds (.inRegion ops rest::k) cs (Al E H (S++ [[(r,.cells z.cells e (0,0))]])))
  (U:Ei b n L ops i=some ⟨d,.alloc e,ty,p,af,g⟩:=by exact rfl):JL J Q b n L ds (.inRegion ops (i::rest)::k) cs (Al E H S):=by
 obtain⟨V,W,Y⟩:=H9 U;exact JS.alloc V W Y K O h
theorem BF{bk off K:Nat}{c:Ay}(j:Nat)(O:As E H S)(U:Bq P t=some K)
  (h:As E H (S.set j [(bk,.cells (Ba c off v.cells.toList) e (0,0))])→JL J Q b n (AA L d undef) ds (.inRegion ops rest::k) cs (Al E H (S.set j [(bk,.cells (Ba c off v.cells.toList) e (0,0))])))
  (V:Ei b n L ops i=some ⟨d,.store t x y,ty,p,af,g⟩:=by exact rfl) (W:ev L x=some (.pointer (some ⟨bk,off,none⟩)):=by exact rfl) (Y:ev L y=some v:=by exact rfl) (Z:S[j]? =some [(bk,.cells c e (0,0))]:=by exact rfl)
  (aa:K=v.cells.size:=by exact rfl) (hle:off+v.cells.size≤c.size:=by exact Nat.le_of_ble_eq_true rfl) (ab:v.cells.toList.all CG=true:=by first | exact rfl | simp [Value.cells,CG]):
  JL J Q b n L ds (.inRegion ops (i::rest)::k) cs (Al E H S):=V3 j O (by rw [← aa];exact U) V W Y Z h hle (List.all_eq_true.1 ab)
theorem JL.fl{bk o o1 U off:Nat}{K:Array Field}{O:Nat}{ws:Lv_}(j:Nat)(V:At E bk o ws)(ht:P.underlying t=some (.struct K))(W:Bq P ft=some (U+1))(Y:Dd P t2=some false)
  (Z:JL J Q b n (AA (AA L d (.pointer (some ⟨bk,o1+off,none⟩))) d2 v) ds (.inRegion ops rest::k) cs (Al E H S))
  (aa:Ei b n L ops i=some ⟨d,.fieldAddr t x O,ty,p,af,g⟩:=by exact rfl) (ab:ev L x=some (.pointer (some ⟨bk,o1,none⟩)):=by exact rfl) (ae:JE K O=some (off,ft):=by exact rfl)
  (ag:Ei b n (AA L d (.pointer (some ⟨bk,o1+off,none⟩))) ops i2=some ⟨d2,.load t2 x2,ty2,p2,af2,g2⟩:=by exact rfl) (ah:ev (AA L d (.pointer (some ⟨bk,o1+off,none⟩))) x2=some (.pointer (some ⟨bk,o+j,none⟩)):=by exact rfl) (ai:ws[j]? =some v:=by exact rfl):
  JL J Q b n L ds (.inRegion ops (i::i2::rest)::k) cs (Al E H S):=Bu ht W aa ab ae (BV j V Y ag ah ai Z)
theorem Cf{α:Type}{pp:Rp α}{a:Option Addr}{c:Nat}{xs:List α}{xv:α}{m:Int}{kd:IntKind}(K:An pp E a c xs)(hm:ix xs m=some xv)(ht:P.underlying t=some (.slice e))(O:Bq P e=some pp.n)
  (h:∀bk o ws,pp.r E ws xv→At E bk o ws→JL J Q b n (AA L d (.pointer (some ⟨bk,o,none⟩))) ds (.inRegion ops rest::k) cs (Al E H S))
  (U:Ei b n L ops i=some ⟨d,.indexAddr t x y,ty,p,af,g⟩:=by exact rfl) (V:ev L x=some (.slice a xs.length c):=by exact rfl) (W:ev L y=some (.int kd m):=by exact rfl):
  JL J Q b n L ds (.inRegion ops (i::rest)::k) cs (Al E H S):=by
 obtain⟨Y,Z,aa⟩:=H9 U;exact TM K hm Y Z aa V W ht O h
theorem Cq(K:List Seg)(O:Env){todo:Li_}{c:Code}(U:∀E',Le E E'→As E' H K→JL J Q b n O ds todo cs (Al E' H K))
  (h:(∀{E':LH} {L:Env},Le E E'→As E' H K→Gv L O=Gw O→JL J Q b n L ds todo cs (Al E' H K))→JL J Q b n L ds (.code c::todo) cs (Al E H S)):JL J Q b n L ds (.code c::todo) cs (Al E H S):=
 h fun V W Y=>AB (U _ V W) Y
theorem C3{U:List Nat}(V W:Nat)(K:List Seg)(O:Env){todo:Li_}(Y:∀E',Le E E'→As E' H K→JL J Q b n O ds (.inRegion ops (List.range' V W)::todo) cs (Al E' H K))
  (h:(∀{E':LH} {L:Env},Le E E'→As E' H K→Gv L O=Gw O→JL J Q b n L ds (.inRegion ops (List.range' V W)::todo) cs (Al E' H K))→JL J Q b n L ds (.inRegion ops U::todo) cs (Al E H S)):JL J Q b n L ds (.inRegion ops U::todo) cs (Al E H S):=
 h fun Z aa ab=>AB (Y _ Z aa) ab
theorem Cs{O Z:Type}{c:Code}{body:O→Option (Bi O Z)}{f:Nat}{V:O}{a:Z}{W:LH}{k:Li_}(ab:iter body f V=some a)(K:O→List Seg)(U:O→Env)(hle:Le W E)(ae:As E H (K V))
  (round:∀x E',Le W E'→As E' H (K x)→(∀aa,body x=some (.done aa)→aa=a)→(∃st,body x=some st)→(∀{L':Env} {Y:LH} (x':O),Le W Y→As Y H (K x')→Gv L' (U x')=Gw (U x')→body x=some (.more x')→JL J Q b n L' ds (.inLoop c::k) cs (Al Y H (K x')))→JL J Q b n (U x) ds (.code c:: .inLoop c::k) cs (Al E' H (K x)))
  (ag:Gv L (U V)=Gw (U V):=by exact rfl) (ah:Al E H S=Al E H (K V):=by exact rfl):JL J Q b n L ds (.code (.loop c)::k) cs (Al E H S):=by
 rw [ah];refine HP _ ag (O9 ab (fun L s x=>∃E',Jm W H E' (K x) (U x) L s) ⟨E,rfl,rfl,hle,ae⟩ ?_);rintro _ _ x ⟨E',rfl,rfl,ai,aj⟩ ak hb al;exact round x E' ai aj ak hb fun x' am g2 an ao=>AB (al _ _ x' ⟨_,rfl,rfl,am,g2⟩ ao) an
theorem A9{f:FuncId}{fn:Func}{c:Code}{E:LH}{vs:Lv_}{B:Seg}{R:Value→LH→Seg→Prop}(O:P.funcs[f]? =some fn)
  (h:∀(Q:Gs_) (K:Frame) (cs:Lf_) (H:LH),As E H [B]→(∀{v:Value} {E':LH} {S':List Seg} {B':Seg},Le E E'→S'.flatten=B'→R v E' B'→As E' H S'→J.ok Q (G (K.finish v) cs) (Al E' H S'))→JL J Q (base f) fn.ntmps (Fe 0 vs) [] [.code c] (K::cs) (Al E H [B]))
  (hb:fn.body=some c:=by exact rfl) (U:Nat.ble vs.length fn.ntmps=true:=by exact rfl):AP J f vs E B R:=
 Nn O hb U fun Q K cs H V W=>h Q K cs H V fun Y Z aa ab=>W _ _ _ _ Y Z aa ab
variable {m:Nat}{fuel:Nat}{listed:Array Bool}{bks xl:List Nat}
theorem EB{bk:Nat}{c:Ay}{f:Nat×Nat}(i:Nat)(K:Dm ops m=true)(o:Nat)(j:Nat)(O:As E H S)(U:Dd P t=some false)
  (V:AO J Q b n ds ops k cs m (AV bks) fuel (A4 listed i) (AA L d w) (Al E H S)) (W:FD n L ops i=some ⟨d,.load t x,ty,p,af,g⟩:=by exact rfl) (Y:ev L x=some (.pointer (some ⟨bk,o,none⟩)):=by exact rfl)
  (Z:S[j]? =some [(bk,.cells c e f)]:=by exact rfl) (hw:c[o]? =some w:=by exact rfl) (aa:AV bks bk=true:=by simp [AV]) (ab:ES ops listed m i=true:=by decide+kernel):AO J Q b n ds ops k cs m (AV bks) (fuel+1) listed L (Al E H S):=
 BC i K rfl W (fun ρ h s' hs=>Yl.load U (h _ _ Y) (Js (o:=o) j O Z aa hs hw)) V ab
theorem JG.lp{bk o:Nat}{ws:Lv_}(i:Nat)(K:Dm ops m=true)(j:Nat)(O:At E bk o ws)(U:As E H S)(V:FO S bks)(W:Dd P t=some false)
  (Y:AO J Q b n ds ops k cs m (AV bks) fuel (A4 listed i) (AA L d w) (Al E H S)) (Z:FD n L ops i=some ⟨d,.load t x,ty,p,af,g⟩:=by exact rfl) (aa:ev L x=some (.pointer (some ⟨bk,o+j,none⟩)):=by exact rfl)
  (hw:ws[j]? =some w:=by exact rfl) (ab:ES ops listed m i=true:=by decide+kernel):AO J Q b n ds ops k cs m (AV bks) (fuel+1) listed L (Al E H S):=
 BC i K rfl Z (fun ρ h s' hs=>Yl.load W (h _ _ aa) (At.Ns (j:=j) O (Nz U hs V) hw)) Y ab
theorem Dw{bk o K:Nat}{c:Ay}{f:Nat×Nat}(i:Nat)(O:Dm ops m=true)(vs:Lv_)(j:Nat)(U:As E H S)(hw:∀(q:Nat) w,vs[q]? =some w→c[o+q]? =some w)(V:Dd P t=some true)(W:Bq P t=some K)
  (Y:AO J Q b n ds ops k cs m (AV bks) fuel (A4 listed i) (AA L d (.agg vs.toArray)) (Al E H S)) (Z:FD n L ops i=some ⟨d,.load t x,ty,p,af,g⟩:=by exact rfl) (aa:ev L x=some (.pointer (some ⟨bk,o,none⟩)):=by exact rfl)
  (ab:S[j]? =some [(bk,.cells c e f)]:=by exact rfl) (ae:K=vs.length:=by exact rfl) (ag:AV bks bk=true:=by simp [AV]) (ah:ES ops listed m i=true:=by decide+kernel):AO J Q b n ds ops k cs m (AV bks) (fuel+1) listed L (Al E H S):=
 BC i O rfl Z (fun ρ h s' hs=>EK (vs:=vs) V (by rw [← ae];exact W) (h _ _ aa) (fun q w ai=>by rw [DG rfl];exact Js j U ab ag hs (hw q w ai))) Y ah
theorem FB{D:Nat→Bool}{α:Type}{xs:List α}{xv:α}{K:Int}{bk c O U:Nat}{kd:IntKind}(i:Nat)(V:Dm ops m=true)(W:xs.length=U)(hm:ix xs K=some xv)(ht:P.underlying t=some (.slice e))(Y:Bq P e=some O)
  (Z:AO J Q b n ds ops k cs m D fuel (A4 listed i) (AA L d (.pointer (some ⟨bk,K.toNat*O,none⟩))) s) (aa:s.q=false:=by exact rfl) (ab:FD n L ops i=some ⟨d,.indexAddr t x y,ty,p,af,g⟩:=by exact rfl)
  (ae:ev L x=some (.slice (some ⟨bk,0,none⟩) U c):=by exact rfl) (ag:ev L y=some (.int kd K):=by exact rfl) (ah:ES ops listed m i=true:=by decide+kernel):AO J Q b n ds ops k cs m D (fuel+1) listed L s:=
 BC i V aa ab (fun ρ h s' hs=>F3 W hm ht Y (h _ _ ae) (h _ _ ag)) Z ah
theorem Cd{D:Nat→Bool}{α:Type}{xs:List α}{xv:α}{K:Int}{bk c O U:Nat}{kd:IntKind}(i:Nat)(V:xs.length=U)(hm:ix xs K=some xv)(ht:P.underlying t=some (.slice e))(W:Bq P e=some O)
  (Y:ET J Q b n ds ops k cs (AV xl) D fuel (A4 listed i) (AA L d (.pointer (some ⟨bk,K.toNat*O,none⟩))) s) (Z:s.q=false:=by exact rfl) (aa:FD n L ops i=some ⟨d,.indexAddr t x y,ty,p,af,g⟩:=by exact rfl)
  (ab:ev L x=some (.slice (some ⟨bk,0,none⟩) U c):=by exact rfl) (ae:ev L y=some (.int kd K):=by exact rfl) (ag:I4 ops listed xl true i=true:=by decide+kernel):ET J Q b n ds ops k cs (AV xl) D (fuel+1) listed L s:=
 Gc i true Z aa (fun ρ h s' hs=>F3 V hm ht W (h _ _ ab) (h _ _ ae)) Y ag
theorem DK{bk o K:Nat}{c:Ay}{f:Nat×Nat}(i:Nat)(vs:Lv_)(j:Nat)(O:As E H S)(hw:∀(q:Nat) w,vs[q]? =some w→c[o+q]? =some w)(U:Dd P t=some true)(V:Bq P t=some K)
  (W:ET J Q b n ds ops k cs (AV xl) (AV bks) fuel (A4 listed i) (AA L d (.agg vs.toArray)) (Al E H S)) (Y:FD n L ops i=some ⟨d,.load t x,ty,p,af,g⟩:=by exact rfl) (Z:ev L x=some (.pointer (some ⟨bk,o,none⟩)):=by exact rfl)
  (aa:S[j]? =some [(bk,.cells c e f)]:=by exact rfl) (ab:K=vs.length:=by exact rfl) (ae:AV bks bk=true:=by simp [AV]) (ag:I4 ops listed xl false i=true:=by decide+kernel):ET J Q b n ds ops k cs (AV xl) (AV bks) (fuel+1) listed L (Al E H S):=
 Gc i false rfl Y (fun ρ h s' hs=>EK (vs:=vs) U (by rw [← ab];exact V) (h _ _ Z) (fun q w ah=>by rw [DG rfl];exact Js j O aa ae (hs rfl) (hw q w ah))) W ag
theorem DJ{bk off K:Nat}{c:Ay}{D:Nat→Bool}(i j:Nat)(O:As E H S)(U:Bq P t=some K)(hle:off+K≤c.size)
  (h:As E H (S.set j [(bk,.cells (Ba c off v.cells.toList) e (0,0))])→ET J Q b n ds ops k cs (AV xl) D fuel (A4 listed i) (AA L d undef) (Al E H (S.set j [(bk,.cells (Ba c off v.cells.toList) e (0,0))])))
  (V:FD n L ops i=some ⟨d,.store t x y,ty,p,af,g⟩:=by exact rfl) (W:ev L x=some (.pointer (some ⟨bk,off,none⟩)):=by exact rfl) (Y:ev L y=some v:=by exact rfl) (Z:S[j]? =some [(bk,.cells c e (0,0))]:=by exact rfl)
  (aa:K=v.cells.size:=by exact rfl) (ab:v.cells.toList.all CG=true:=by first | exact rfl | simp [Value.cells,CG]) (ae:Region.ready .any ops listed= [i]:=by decide+kernel) (ag:AV xl i=true:=by decide+kernel):
  ET J Q b n ds ops k cs (AV xl) D (fuel+1) listed L (Al E H S):=by
 obtain⟨ah,ai,aj⟩:=MI V;subst aa;exact JB.store i j ae ag ah ai aj O W Y U (List.all_eq_true.1 ab) Z hle h
end
end Pal
namespace Pal
open Go Go.Conc Go.Proofs
end Pal
namespace Pal
open Go Go.Conc Go.Proofs
end Pal
namespace Pal
open Go Go.Conc Go.Proofs
open Go.Proofs.Tryz
variable {J:Judge Tryz.prog}{E:LH}
def A3:=Bm Tryz.type3
def Bw:=DO Tryz.underlying3
def B7:=Bm Tryz.type28
def DC:=DO Tryz.underlying28
def Hx:=Bm Tryz.type90
def Kk:=DO Tryz.underlying90
def Gl:=AX Tryz.func41 rfl
def Cn:=DW Tryz.type3
def Dh:=DW Tryz.type24
def Fv:=DW Tryz.type28
def Ca:=Bm Tryz.type24
def Cx:=DO Tryz.underlying24
def FG:=DW Tryz.type27
def CK:=Bm Tryz.type27
def Mg:=AX Tryz.func103 rfl
def Ko:=AX Tryz.func90 rfl
def Ck:=Bm Tryz.type22
def C6:=DO Tryz.underlying22
def H2:=AX Tryz.func101 rfl
def Fu:=DW Tryz.type183
def H0:=DO Tryz.underlying27
def Mf:=AX Tryz.func112 rfl
def H3:=AX Tryz.func89 rfl
def It:=AX Tryz.func120 rfl
def DN:=Bm Tryz.type102
def Gj:=DO Tryz.underlying102
def B9:=Bm Tryz.type104
def Ft:=DO Tryz.underlying104
def Gm:=DW Tryz.type104
def FI:=Bm Tryz.type139
def Hw:=Bm Tryz.type138
def Kh:=DO Tryz.underlying139
def Kq:=AX Tryz.func92 rfl
def Kt:=Bm Tryz.type25
def Jb:=DO Tryz.underlying25
def Mn:=Bm Tryz.type94
def Kj:=DO Tryz.underlying94
def C7:=Bm Tryz.type95
def El:=DO Tryz.underlying95
def Fb:=DO Tryz.underlying173
def CW:=Bm Tryz.type97
def Hu:=DW Tryz.type133
def AK:=Bm Tryz.type133
def Ki:=DO Tryz.underlying162
def B6:=DO Tryz.underlying133
def Gk:=AX Tryz.func134 rfl
def Mh:=AX Tryz.func200 rfl
def Mi:=AX Tryz.func178 rfl
def Km:=AX Tryz.func162 rfl
def FH:=DW Tryz.type97
def Ht:=DO Tryz.underlying97
def Jd:=AX Tryz.func69 rfl
def Ks:=AX Tryz.func93 rfl
def Kr:=AX Tryz.func78 rfl
def Kl:=AX Tryz.func168 rfl
def Hv:=AX Tryz.func71 rfl
def Mk:=AX Tryz.func72 rfl
def Kp:=AX Tryz.func43 rfl
def Ml:=AX Tryz.func32 rfl
def Mj:=AX Tryz.func96 rfl
def Jc:=AX Tryz.func97 rfl
def Kn:=AX Tryz.func99 rfl
def Mm:=AX Tryz.func44 rfl
def EF:=AX Tryz.func26 rfl
theorem mixed:Tryz.prog.follows .mixedOrders=true:=rfl
def f101(fuel:Nat)(p0:Int)(p1:Int)(p2:Int):Option Bool:= Option.bind (if p0<p1 then(some true) else(some (decide (p2<p0)))) fun K=> some K
theorem Ih{p0:Int}{p1:Int}{p2:Int}{fuel:Nat}{r:Bool}(K:f101 fuel p0 p1 p2=some r):AP J 101 [iV p0,iV p1,iV p2] E [] (fun w E' B'=>w= .bool r∧B'= []):=by
 refine A9 func101 fun Q ai cs H O V=>?_;unfold f101 at K;obtain⟨W,Y,Z⟩:=bs K;refine zg 10 rfl (C3 8 1 [] [(14,.bool W)] (fun aj aa ab=>?_) (fun U=>?_))
 ·refine zg 2 rfl ?_;obtain rfl:=oi Z;exact AN func101 rfl rfl (V aa rfl ⟨rfl,rfl⟩ ab)
 ·refine Er 10 Y (fun ae ag=>?_) (fun ae ah=>?_)
  ·refine zg 4 rfl ?_;obtain rfl:=oi ag;exact U Aq O rfl
  ·refine zg 4 rfl ?_;obtain rfl:=oi ah;exact U Aq O rfl
def K1(fuel:Nat)(p0:List Int)(p1:Int)(K:Int):Option (Bi Int ((Int)⊕(Unit))):= if K<(p0.length:Int) then((ix p0 K).bind fun O=> if O=p1 then(some (.done (Sum.inl K))) else((Av (K+1)).bind fun U=> some (.more U))) else(some (.done (Sum.inr ())))
def f107(fuel:Nat)(p0:List Int)(p1:Int):Option Int:= Option.bind (iter (K1 fuel p0 p1) fuel 0) fun K=> Sum.elim (fun r=>some r) (fun O=> some (-1)) K
theorem VH{U:Ap}{c2:Nat}{p0:List Int}{p1:Int}(aj:An rI E U c2 p0){fuel:Nat}{r:Int}(Y:f107 fuel p0 p1=some r):AP J 107 [sV U p0 c2,iV p1] E [] (fun w E' B'=>w=iV r∧B'= []):=by
 refine A9 func107 fun Q aJ cs H ak Z=>?_;unfold f107 at Y;obtain⟨aa,al,ab⟩:=bs Y;refine zg 9 rfl (Bs (fun L s=>∃(ae:Unit) (ag:LH),aa=Sum.inr ae∧Jm E H ag [] [] L s) ?_ ?_)
 ·rintro _ _ ⟨ae,ag,rfl,rfl,rfl,am,an⟩;have ao:=elim_inr ab;refine zg 4 rfl ?_;obtain rfl:=oi ao;exact AN func107 rfl rfl (Z am rfl ⟨rfl,rfl⟩ an)
 ·intro ap;refine JL.block (Cs al (fun V=> []) (fun V=> [(0,sV U p0 c2),(1,iV p1),(5,iV V)]) Aq ak ?_);rintro V aq K W ah ⟨aK,O⟩ ar;have ai:=O;unfold K1 at ai;refine zg 5 rfl (Bx underlying28 rfl rfl rfl ?_);refine zg 2 rfl (AS ai (fun au av=>?_) (fun au aw=>?_))
  ·obtain⟨aL,ay,az⟩:=bs av;refine zg 7 rfl (Cf (aj.Ag K) ay underlying28 A3 ?_);rintro aM aN _ rfl aA;refine BV 0 aA Bw rfl rfl rfl (zg 3 rfl ?_);refine AS az (fun aB aC=>?_) (fun aB aD=>?_)
   ·refine zg 5 rfl ?_;obtain rfl:=oi aC;obtain rfl:=ah _ O;have aE:=elim_inl ab;obtain rfl:=oi aE;exact AN func107 rfl rfl (Z K rfl ⟨rfl,rfl⟩ W)
   ·obtain⟨aF,aG,aH⟩:=bs aD;refine zg 4 rfl (Bg aG rfl rfl rfl ?_);refine zg 2 rfl ?_;obtain rfl:=oi aH;exact ar aF K W rfl O
  ·refine JL.exit rfl ?_;obtain rfl:=oi aw;have aI:aa=(Sum.inr ()):=(ah _ O).symm;exact AB (ap _ _ ⟨(),aq,aI,rfl,rfl,K,W⟩) rfl
def f53(fuel:Nat)(p0:List Int)(p1:Int):Option Bool:= (f107 fuel p0 p1).bind fun K=> some (decide (0≤K))
theorem V7{K:Ap}{c2:Nat}{p0:List Int}{p1:Int}(U:An rI E K c2 p0){fuel:Nat}{r:Bool}(O:f53 fuel p0 p1=some r):AP J 53 [sV K p0 c2,iV p1] E [] (fun w E' B'=>w= .bool r∧B'= []):=by
 refine A9 func53 fun Q ae cs H V W=>?_;unfold f53 at O;obtain⟨ag,Y,Z⟩:=bs O;refine zg 8 rfl (BK (VH U Y) rfl rfl (AX func107 rfl) V fun ah aa ab=>?_);refine zg 3 rfl ?_;obtain rfl:=oi Z;exact AN func53 rfl rfl (W aa rfl ⟨rfl,rfl⟩ ab)
def Ql(fuel:Nat)(p0:List Int)(p1:List Int)(K:Int):Option (Bi Int ((Bool)⊕(Unit))):= Option.bind (if K<(p0.length:Int) then(some (decide (K<(p1.length:Int)))) else(some false)) fun O=> if O=true then((ix p0 K).bind fun U=> (ix p1 K).bind fun V=> if U≠V then(some (.done (Sum.inl false))) else((Av (K+1)).bind fun W=> some (.more W))) else(some (.done (Sum.inr ())))
def f32(fuel:Nat)(p0:List Int)(p1:List Int):Option Bool:= Option.bind (iter (Ql fuel p0 p1) fuel 0) fun K=> Sum.elim (fun r=>some r) (fun O=> some (decide ((p0.length:Int)=(p1.length:Int)))) K
theorem NA{K:Ap}{c2:Nat}{O:Ap}{U:Nat}{p0:List Int}{p1:List Int}(aq:An rI E K c2 p0)(ar:An rI E O U p1){fuel:Nat}{r:Bool}(ag:f32 fuel p0 p1=some r):AP J 32 [sV K p0 c2,sV O p1 U] E [] (fun w E' B'=>w= .bool r∧B'= []):=by
 refine A9 func32 fun Q aZ cs H au ah=>?_;unfold f32 at ag;obtain⟨ai,av,aj⟩:=bs ag;refine zg 9 rfl (Bs (fun L s=>∃(ak:Unit) (al:LH),ai=Sum.inr ak∧Jm E H al [] [(0,sV K p0 c2),(1,sV O p1 U)] L s) ?_ ?_)
 ·rintro _ _ ⟨ak,al,rfl,rfl,rfl,aw,ay⟩;have az:=elim_inr aj;refine zg 3 rfl (Bx underlying28 rfl rfl rfl ?_);refine zg 1 rfl (Bx underlying28 rfl rfl rfl ?_);refine zg 3 rfl ?_;obtain rfl:=oi az;exact AN func32 rfl rfl (ah aw rfl ⟨rfl,rfl⟩ ay)
 ·intro aA;refine JL.block (Cs av (fun Y=> []) (fun Y=> [(0,sV K p0 c2),(1,sV O p1 U),(5,iV Y)]) Aq au ?_);rintro Y aa V am an ⟨a0,Z⟩ aB;have ao:=Z;unfold Ql at ao;refine zg 5 rfl (Bx underlying28 rfl rfl rfl ?_);obtain⟨aC,aD,aE⟩:=bs ao;refine zg 2 rfl (Fx [] (fun L s=>∃(ab:LH),Jm aa H ab [] [(0,sV K p0 c2),(1,sV O p1 U),(5,iV Y),(15,.bool aC)] L s) ?_ ?_)
  ·rintro _ _ ⟨ab,rfl,rfl,W,ae⟩;refine JL.done (BL aE (fun aF aG=>?_) (fun aF aH=>?_))
   ·refine zg 4 rfl (Ep 8 fun ht=>?_);refine Bp ht rfl [0,1] rfl ?_;obtain⟨a1,aI,aJ⟩:=bs aG;refine Hk 2 (aq.Ag (V.Ab W)) aI ht underlying28 A3 ?_;rintro a2 a3 _ rfl aK;refine DR 3 ht 0 aK Bw rfl rfl rfl rfl (Bp ht rfl [4,5] rfl ?_);obtain⟨a4,aL,aM⟩:=bs aJ;refine Hk 6 (ar.Ag (V.Ab W)) aL ht underlying28 A3 ?_;rintro a5 a6 _ rfl aN;refine DR 7 ht 0 aN Bw rfl rfl rfl rfl (Cp [8] ?_);refine zg 2 rfl (AS aM (fun aO aP=>?_) (fun aO aQ=>?_))
    ·refine zg 4 rfl ?_;obtain rfl:=oi aP;obtain rfl:=an _ Z;have aR:=elim_inl aj;obtain rfl:=oi aR;exact AN func32 rfl rfl (ah (V.Ab W) rfl ⟨rfl,rfl⟩ ae)
    ·obtain⟨aS,aT,aU⟩:=bs aQ;refine zg 4 rfl (Bg aT rfl rfl rfl ?_);refine zg 2 rfl ?_;obtain rfl:=oi aU;exact aB aS (V.Ab W) ae rfl Z
   ·refine JL.exit rfl ?_;obtain rfl:=oi aH;have aV:ai=(Sum.inr ()):=(an _ Z).symm;exact AB (aA _ _ ⟨(),ab,aV,rfl,rfl,(V.Ab W),ae⟩) rfl
  ·intro ap;refine Er 10 aD (fun aW aX=>?_) (fun aW aY=>?_)
   ·refine zg 2 rfl (Bx underlying28 rfl rfl rfl ?_);refine zg 2 rfl ?_;obtain rfl:=oi aX;exact AB (ap _ _ ⟨aa,rfl,rfl,Aq,am⟩) rfl
   ·refine zg 5 rfl ?_;obtain rfl:=oi aY;exact AB (ap _ _ ⟨aa,rfl,rfl,Aq,am⟩) rfl
def f23(fuel:Nat)(p0:List Int):Option ((B4)):= some (p0,0,2685821657736338717)
theorem Wn{K:Ap}{c2:Nat}{p0:List Int}(Y:An rI E K c2 p0){fuel:Nat}{r:(B4)}(O:f23 fuel p0=some r):AP J 23 [sV K p0 c2] E [] (fun w E' B'=>∃(U:Nat) (V:Ap) (W:Nat),w= pV U 0∧B'= [(U,.cells #[sV V r.1 W,iV r.2.1,.int .u64 ((r.2.2:Nat):Int)] 92 (0,0))]∧An rI E' V W r.1):=by
 refine A9 func23 fun Q ag cs H Z aa=>?_;unfold f23 at O;refine zg 7 rfl (Az (v:= .agg #[sV K p0 c2,iV 0,.int .u64 ((2685821657736338717:Nat):Int)]) rfl (fun ρ h=>CO [(0,1),(1,1),(2,1)] h (DW type92) underlying92 ⟨rfl,Bm type28,rfl,Bm type3,rfl,Bm type90,trivial⟩ rfl rfl) ?_);refine JS.box (v:= .agg #[sV K p0 c2,iV 0,.int .u64 ((2685821657736338717:Nat):Int)]) rfl rfl rfl Z rfl fun ab ae=>zg 2 rfl ?_;obtain rfl:=oi O;exact AN func23 rfl rfl (aa Aq rfl ⟨ab,K,c2,rfl,(by first | rfl | simp | (simp [Value.cells])),Y⟩ ae)
def f100(fuel:Nat)(p0:B4):Option (Nat×(B4)):= (Av (p0.2.1+1)).bind fun O=> Option.bind (if O≤(p0.1.length:Int) then((Av (O - 1)).bind fun U=> (ix p0.1 U).bind fun V=> some (((((CN O)*11400714819323198485) % 2 ^ 64) ^^^ (((CN V)*14029467366897019727) % 2 ^ 64)) % 2 ^ 64)) else(some (((CN O)*11400714819323198485) % 2 ^ 64))) fun K=> some (((((((((((p0.2.2 ^^^ K) % 2 ^ 64)*18397679294719823053) % 2 ^ 64) ^^^ (((((p0.2.2 ^^^ K) % 2 ^ 64)*18397679294719823053) % 2 ^ 64)>>>33)) % 2 ^ 64)*14181476777654086739) % 2 ^ 64) ^^^ (((((((((p0.2.2 ^^^ K) % 2 ^ 64)*18397679294719823053) % 2 ^ 64) ^^^ (((((p0.2.2 ^^^ K) % 2 ^ 64)*18397679294719823053) % 2 ^ 64)>>>33)) % 2 ^ 64)*14181476777654086739) % 2 ^ 64)>>>29)) % 2 ^ 64)>>>11,(p0.1,O,(((((p0.2.2 ^^^ K) % 2 ^ 64)*18397679294719823053) % 2 ^ 64) ^^^ (((((p0.2.2 ^^^ K) % 2 ^ 64)*18397679294719823053) % 2 ^ 64)>>>33)) % 2 ^ 64))
theorem Vs{bk:Nat}{V:Ap}{c2:Nat}{p0:B4}(Z:An rI E V c2 p0.1){fuel:Nat}{r:Nat×(B4)}(aa:f100 fuel p0=some r):AP J 100 [pV bk 0] E [(bk,.cells #[sV V p0.1 c2,iV p0.2.1,.int .u64 ((p0.2.2:Nat):Int)] 92 (0,0))] (fun w E' B'=>∃(ab:Ap) (ae:Nat),w= .int .u64 ((r.1:Nat):Int)∧B'= [(bk,.cells #[sV ab r.2.1 ae,iV r.2.2.1,.int .u64 ((r.2.2.2:Nat):Int)] 92 (0,0))]∧An rI E' ab ae r.2.1):=by
 refine A9 func100 fun Q aB cs H ag al=>?_;unfold f100 at aa;refine zg 8 rfl (Bu underlying92 A3 rfl rfl rfl ?_);refine Az (v:=iV p0.2.1) rfl (fun ρ h=>Yl.load Bw (h _ _ rfl) (Di (j:=0) (off:=1) ag rfl rfl)) ?_;obtain⟨U,am,an⟩:=bs aa;refine Bg am rfl rfl rfl (zg 1 rfl ?_);refine Bu underlying92 A3 rfl rfl rfl (BF 0 ag A3 fun O=>?_);refine zg 5 rfl (Bu underlying92 A3 rfl rfl rfl ?_);refine Az (v:=iV U) rfl (fun ρ h=>Yl.load Bw (h _ _ rfl) (Di (j:=0) (off:=1) O rfl rfl)) (Az (v:= .int .u64 ((CN U:Nat):Int)) rfl (fun ρ h=>Yl.CN underlying3 underlying90 (h _ _ rfl)) ?_);refine Az (v:= .int .u64 ((((CN U)*11400714819323198485) % 2 ^ 64:Nat):Int)) rfl (fun ρ h=>Ln (h _ _ rfl) (h _ _ rfl)) (zg 4 rfl ?_);refine CZ 9 [bk] ⟨⟨0,_,rfl⟩,trivial⟩ O fun ht=>Bp ht rfl [0,1] rfl (Ce 2 ht underlying92 A3 rfl rfl rfl rfl ?_);refine EB 3 ht 1 0 O Bw ?_;refine Bp ht rfl [4,5] rfl (Ce 6 ht underlying92 B7 rfl rfl rfl rfl ?_);refine EB 7 ht 0 0 O DC ?_;refine BC 8 ht rfl rfl (fun ρ h s' hs=>Yl.len rfl underlying28 (h _ _ rfl)) (Cp [9] ?_);obtain⟨K,ao,ap⟩:=bs an;refine zg 2 rfl (Cq [bX bk #[sV V p0.1 c2,iV U,.int .u64 ((p0.2.2:Nat):Int)] 92] [(0,pV bk 0),(3,.int .u64 ((K:Nat):Int))] (fun aC ah ai=>?_) (fun aj=>?_))
 ·refine zg 5 rfl (Bu underlying92 Hx rfl rfl rfl ?_);refine Az (v:= .int .u64 ((p0.2.2:Nat):Int)) rfl (fun ρ h=>Yl.load Kk (h _ _ rfl) (Di (j:=0) (off:=2) ai rfl rfl)) (zg 1 rfl ?_);refine Az (v:= .int .u64 (((p0.2.2 ^^^ K) % 2 ^ 64:Nat):Int)) rfl (fun ρ h=>K8 (h _ _ rfl) (h _ _ rfl)) (Az (v:= .int .u64 (((((p0.2.2 ^^^ K) % 2 ^ 64)*18397679294719823053) % 2 ^ 64:Nat):Int)) rfl (fun ρ h=>Ln (h _ _ rfl) (h _ _ rfl)) ?_);refine zg 1 rfl (Bu underlying92 Hx rfl rfl rfl ?_);refine BF 0 ai Hx fun W=>?_;refine zg 2 rfl (CZ 11 [bk] ⟨⟨0,_,rfl⟩,trivial⟩ W fun ht=>?_);refine Bp ht rfl [0,1,2] rfl (Ce 3 ht underlying92 Hx rfl rfl rfl rfl ?_);refine EB 4 ht 2 0 W Kk ?_;refine Bp ht rfl [5,6] rfl (Ce 7 ht underlying92 Hx rfl rfl rfl rfl ?_);refine EB 8 ht 2 0 W Kk ?_;refine BC (v:= .int .u64 ((((((p0.2.2 ^^^ K) % 2 ^ 64)*18397679294719823053) % 2 ^ 64)>>>33:Nat):Int)) 9 ht rfl rfl (fun ρ h s' hs=>IL 33 (h _ _ rfl) (h _ _ rfl) (by decide)) (BC (v:= .int .u64 (((((((p0.2.2 ^^^ K) % 2 ^ 64)*18397679294719823053) % 2 ^ 64) ^^^ (((((p0.2.2 ^^^ K) % 2 ^ 64)*18397679294719823053) % 2 ^ 64)>>>33)) % 2 ^ 64:Nat):Int)) 10 ht rfl rfl (fun ρ h s' hs=>K8 (h _ _ rfl) (h _ _ rfl)) ?_);refine Cp [11,12,13] (zg 1 rfl ?_);refine Bu underlying92 Hx rfl rfl rfl (BF 0 W Hx fun ak=>?_);refine zg 5 rfl (Bu underlying92 Hx rfl rfl rfl ?_);refine Az (v:= .int .u64 (((((((p0.2.2 ^^^ K) % 2 ^ 64)*18397679294719823053) % 2 ^ 64) ^^^ (((((p0.2.2 ^^^ K) % 2 ^ 64)*18397679294719823053) % 2 ^ 64)>>>33)) % 2 ^ 64:Nat):Int)) rfl (fun ρ h=>Yl.load Kk (h _ _ rfl) (Di (j:=0) (off:=2) ak rfl rfl)) (Az (v:= .int .u64 (((((((((p0.2.2 ^^^ K) % 2 ^ 64)*18397679294719823053) % 2 ^ 64) ^^^ (((((p0.2.2 ^^^ K) % 2 ^ 64)*18397679294719823053) % 2 ^ 64)>>>33)) % 2 ^ 64)*14181476777654086739) % 2 ^ 64:Nat):Int)) rfl (fun ρ h=>Ln (h _ _ rfl) (h _ _ rfl)) ?_);refine zg 6 rfl (Az (v:= .int .u64 ((((((((((p0.2.2 ^^^ K) % 2 ^ 64)*18397679294719823053) % 2 ^ 64) ^^^ (((((p0.2.2 ^^^ K) % 2 ^ 64)*18397679294719823053) % 2 ^ 64)>>>33)) % 2 ^ 64)*14181476777654086739) % 2 ^ 64)>>>29:Nat):Int)) rfl (fun ρ h=>IL 29 (h _ _ rfl) (h _ _ rfl) (by decide)) ?_);refine Az (v:= .int .u64 (((((((((((p0.2.2 ^^^ K) % 2 ^ 64)*18397679294719823053) % 2 ^ 64) ^^^ (((((p0.2.2 ^^^ K) % 2 ^ 64)*18397679294719823053) % 2 ^ 64)>>>33)) % 2 ^ 64)*14181476777654086739) % 2 ^ 64) ^^^ (((((((((p0.2.2 ^^^ K) % 2 ^ 64)*18397679294719823053) % 2 ^ 64) ^^^ (((((p0.2.2 ^^^ K) % 2 ^ 64)*18397679294719823053) % 2 ^ 64)>>>33)) % 2 ^ 64)*14181476777654086739) % 2 ^ 64)>>>29)) % 2 ^ 64:Nat):Int)) rfl (fun ρ h=>K8 (h _ _ rfl) (h _ _ rfl)) (Az (v:= .int .u64 ((((((((((((p0.2.2 ^^^ K) % 2 ^ 64)*18397679294719823053) % 2 ^ 64) ^^^ (((((p0.2.2 ^^^ K) % 2 ^ 64)*18397679294719823053) % 2 ^ 64)>>>33)) % 2 ^ 64)*14181476777654086739) % 2 ^ 64) ^^^ (((((((((p0.2.2 ^^^ K) % 2 ^ 64)*18397679294719823053) % 2 ^ 64) ^^^ (((((p0.2.2 ^^^ K) % 2 ^ 64)*18397679294719823053) % 2 ^ 64)>>>33)) % 2 ^ 64)*14181476777654086739) % 2 ^ 64)>>>29)) % 2 ^ 64)>>>11:Nat):Int)) rfl (fun ρ h=>IL 11 (h _ _ rfl) (h _ _ rfl) (by decide)) ?_);refine zg 2 rfl ?_;obtain rfl:=oi ap;exact AN func100 rfl rfl (al ah rfl ⟨V,c2,rfl,rfl,(Z.Ag ah)⟩ ak)
 ·refine AS ao (fun aq ar=>?_) (fun aq au=>?_)
  ·refine CZ 14 [bk] ⟨⟨0,_,rfl⟩,trivial⟩ O fun ht=>Bp ht rfl [0,1,2] rfl (Ce 3 ht underlying92 B7 rfl rfl rfl rfl ?_);refine EB 4 ht 0 0 O DC ?_;refine Bp ht rfl [5,6] rfl (Ce 7 ht underlying92 A3 rfl rfl rfl rfl ?_);refine EB 8 ht 1 0 O Bw ?_;obtain⟨aD,av,aw⟩:=bs ar;refine BC 9 ht rfl rfl (fun ρ h s' hs=>CY (h _ _ rfl) (h _ _ rfl) av) ?_;obtain⟨Y,ay,az⟩:=bs aw;refine Hk 10 Z ay ht underlying28 A3 ?_;rintro aE aF _ rfl aA;refine JG.lp 11 ht 0 aA O ⟨⟨0,_,rfl⟩,trivial⟩ Bw ?_;refine BC (v:= .int .u64 ((CN Y:Nat):Int)) 12 ht rfl rfl (fun ρ h s' hs=>Yl.CN underlying3 underlying90 (h _ _ rfl)) (BC (v:= .int .u64 ((((CN Y)*14029467366897019727) % 2 ^ 64:Nat):Int)) 13 ht rfl rfl (fun ρ h s' hs=>Ln (h _ _ rfl) (h _ _ rfl)) ?_);refine Cp [14,15] (Az (v:= .int .u64 ((((((CN U)*11400714819323198485) % 2 ^ 64) ^^^ (((CN Y)*14029467366897019727) % 2 ^ 64)) % 2 ^ 64:Nat):Int)) rfl (fun ρ h=>K8 (h _ _ rfl) (h _ _ rfl)) ?_);refine zg 2 rfl ?_;obtain rfl:=oi az;exact aj Aq O rfl
  ·refine JL.skip ?_;obtain rfl:=oi au;exact aj Aq O rfl
def f41(fuel:Nat)(p0:B4)(p1:Int):Option (Int×(B4)):= (f100 fuel p0).bind fun K=> if p1<1 then(some (0,K.2)) else((LV K.1 ((CN p1+1) % 2 ^ 64)).bind fun O=> some (Kb O,K.2))
theorem Gy{bk:Nat}{K:Ap}{c2:Nat}{p0:B4}{p1:Int}(ah:An rI E K c2 p0.1){fuel:Nat}{r:Int×(B4)}(O:f41 fuel p0 p1=some r):AP J 41 [pV bk 0,iV p1] E [(bk,.cells #[sV K p0.1 c2,iV p0.2.1,.int .u64 ((p0.2.2:Nat):Int)] 92 (0,0))] (fun w E' B'=>∃(U:Ap) (V:Nat),w=iV r.1∧B'= [(bk,.cells #[sV U r.2.1 V,iV r.2.2.1,.int .u64 ((r.2.2.2:Nat):Int)] 92 (0,0))]∧An rI E' U V r.2.1):=by
 refine A9 func41 fun Q aq cs H ai W=>?_;unfold f41 at O;obtain⟨ar,aj,ak⟩:=bs O;refine zg 7 rfl (BP 0 (Vs ah aj) rfl rfl (AX func100 rfl) ai rfl ?_);rintro _ au _ Y ⟨Z,aa,rfl,rfl,ab⟩ ae;refine zg 8 rfl (AS ak (fun al am=>?_) (fun al an=>?_))
 ·refine zg 4 rfl ?_;obtain rfl:=oi am;exact AN func41 rfl rfl (W Y rfl ⟨Z,aa,rfl,rfl,ab⟩ ae)
 ·refine zg 5 rfl (Az (v:= .int .u64 ((CN p1:Nat):Int)) rfl (fun ρ h=>Yl.CN underlying3 underlying90 (h _ _ rfl)) ?_);refine Az (v:= .int .u64 (((CN p1+1) % 2 ^ 64:Nat):Int)) rfl (fun ρ h=>UK (h _ _ rfl) (h _ _ rfl)) ?_;obtain⟨ag,ao,ap⟩:=bs an;refine Az (v:= .int .u64 ((ag:Nat):Int)) rfl (fun ρ h=>Ta (h _ _ rfl) (h _ _ rfl) ao) (Az (v:=iV (Kb ag)) rfl (fun ρ h=>Vi underlying90 underlying3 (h _ _ rfl)) ?_);refine zg 2 rfl ?_;obtain rfl:=oi ap;exact AN func41 rfl rfl (W Y rfl ⟨Z,aa,rfl,rfl,ab⟩ ae)
def f96(fuel:Nat)(p0:B4)(p1:Int)(p2:Int):Option (Int×(B4)):= (Av (p2 - p1)).bind fun O=> (f41 fuel p0 O).bind fun K=> (Av (p1+K.1)).bind fun U=> some (U,K.2)
theorem Nu{bk:Nat}{K:Ap}{c2:Nat}{p0:B4}{p1:Int}{p2:Int}(W:An rI E K c2 p0.1){fuel:Nat}{r:Int×(B4)}(O:f96 fuel p0 p1 p2=some r):AP J 96 [pV bk 0,iV p1,iV p2] E [(bk,.cells #[sV K p0.1 c2,iV p0.2.1,.int .u64 ((p0.2.2:Nat):Int)] 92 (0,0))] (fun w E' B'=>∃(U:Ap) (V:Nat),w=iV r.1∧B'= [(bk,.cells #[sV U r.2.1 V,iV r.2.2.1,.int .u64 ((r.2.2.2:Nat):Int)] 92 (0,0))]∧An rI E' U V r.2.1):=by
 refine A9 func96 fun Q ao cs H Y Z=>?_;unfold f96 at O;obtain⟨ap,aa,ab⟩:=bs O;refine zg 10 rfl (BW aa rfl rfl rfl ?_);obtain⟨aq,ae,ag⟩:=bs ab;refine BP 0 (Gy W ae) rfl rfl Gl Y rfl ?_;rintro _ ar _ ah ⟨ai,aj,rfl,rfl,ak⟩ al;obtain⟨au,am,an⟩:=bs ag;refine Bg am rfl rfl rfl (zg 2 rfl ?_);obtain rfl:=oi an;exact AN func96 rfl rfl (Z ah rfl ⟨ai,aj,rfl,rfl,ak⟩ al)
def f97(fuel:Nat)(p0:B4)(p1:Int):Option (Bool×(B4)):= (Av (p1 - 1)).bind fun O=> (f41 fuel p0 O).bind fun K=> some (decide (K.1=0),K.2)
theorem JR{bk:Nat}{K:Ap}{c2:Nat}{p0:B4}{p1:Int}(W:An rI E K c2 p0.1){fuel:Nat}{r:Bool×(B4)}(O:f97 fuel p0 p1=some r):AP J 97 [pV bk 0,iV p1] E [(bk,.cells #[sV K p0.1 c2,iV p0.2.1,.int .u64 ((p0.2.2:Nat):Int)] 92 (0,0))] (fun w E' B'=>∃(U:Ap) (V:Nat),w= .bool r.1∧B'= [(bk,.cells #[sV U r.2.1 V,iV r.2.2.1,.int .u64 ((r.2.2.2:Nat):Int)] 92 (0,0))]∧An rI E' U V r.2.1):=by
 refine A9 func97 fun Q am cs H Y Z=>?_;unfold f97 at O;obtain⟨an,aa,ab⟩:=bs O;refine zg 8 rfl (BW aa rfl rfl rfl ?_);obtain⟨ao,ae,ag⟩:=bs ab;refine BP 0 (Gy W ae) rfl rfl Gl Y rfl ?_;rintro _ ap _ ah ⟨ai,aj,rfl,rfl,ak⟩ al;refine zg 3 rfl ?_;obtain rfl:=oi ag;exact AN func97 rfl rfl (Z ah rfl ⟨ai,aj,rfl,rfl,ak⟩ al)
def f99(fuel:Nat)(p0:B4)(p1:List Int):Option (Int×(B4)):= (Av ((p1.length:Int) - 1)).bind fun O=> (f41 fuel p0 O).bind fun K=> (ix p1 K.1).bind fun U=> some (U,K.2)
theorem LU{bk:Nat}{K:Ap}{c2:Nat}{O:Ap}{U:Nat}{p0:B4}{p1:List Int}(aa:An rI E K c2 p0.1)(ab:An rI E O U p1){fuel:Nat}{r:Int×(B4)}(V:f99 fuel p0 p1=some r):AP J 99 [pV bk 0,sV O p1 U] E [(bk,.cells #[sV K p0.1 c2,iV p0.2.1,.int .u64 ((p0.2.2:Nat):Int)] 92 (0,0))] (fun w E' B'=>∃(W:Ap) (Y:Nat),w=iV r.1∧B'= [(bk,.cells #[sV W r.2.1 Y,iV r.2.2.1,.int .u64 ((r.2.2.2:Nat):Int)] 92 (0,0))]∧An rI E' W Y r.2.1):=by
 refine A9 func99 fun Q au cs H ae ag=>?_;unfold f99 at V;refine zg 9 rfl (Bx underlying28 rfl rfl rfl ?_);obtain⟨av,ah,ai⟩:=bs V;refine BW ah rfl rfl rfl ?_;obtain⟨aw,aj,ak⟩:=bs ai;refine BP 0 (Gy aa aj) rfl rfl Gl ae rfl ?_;rintro _ ay _ Z ⟨al,am,rfl,rfl,an⟩ ao;obtain⟨az,ap,aq⟩:=bs ak;refine Cf (ab.Ag Z) ap underlying28 A3 ?_;rintro aA aB _ rfl ar;refine BV 0 ar Bw rfl rfl rfl (zg 2 rfl ?_);obtain rfl:=oi aq;exact AN func99 rfl rfl (ag Z rfl ⟨al,am,rfl,rfl,an⟩ ao)
def IT(fuel:Nat)(p0:List Int)(p1:Int)(K:(List Int)×Bool×Int):Option (Bi ((List Int)×Bool×Int) ((List Int)×Bool)):= if K.2.2<(p0.length:Int) then((ix p0 K.2.2).bind fun U=> Option.bind (if p1≤U then(some (!K.2.1)) else(some false)) fun V=> Option.bind (if V=true then((room K.1 p1).bind fun W=> some (W,true)) else(some (K.1,K.2.1))) fun O=> (ix p0 K.2.2).bind fun Y=> Option.bind (if Y≠p1 then((ix p0 K.2.2).bind fun Z=> (room O.1 Z).bind fun aa=> some aa) else(some O.1)) fun ab=> (Av (K.2.2+1)).bind fun ae=> some (.more (ab,O.2,ae))) else(some (.done (K.1,K.2.1)))
def f98(fuel:Nat)(p0:List Int)(p1:Int):Option ((List Int)):= Option.bind (iter (IT fuel p0 p1) fuel ([],false,0)) fun K=> Option.bind (if(!K.2)=true then((room K.1 p1).bind fun O=> some O) else(some K.1)) fun U=> some U
theorem QQ{W:Ap}{c2:Nat}{p0:List Int}{p1:Int}(ay:An rI E W c2 p0){fuel:Nat}{r:(List Int)}(aG:f98 fuel p0 p1=some r):AP J 98 [sV W p0 c2,iV p1] E [] (fun w E' B'=>∃(aH:Ap) (aI:Nat),w= sV aH r aI∧B'= []∧An rI E' aH aI r):=by
 refine A9 func98 fun Q cc cs H aU aV=>?_;unfold f98 at aG;obtain⟨am,aW,aX⟩:=bs aG;refine zg 17 rfl (Bs (fun L s=>∃(Y:LH) (ab:Ap) (ae:Nat) (an:Seg),Jn E H Y [an] [(1,iV p1),(5,sV ab am.1 ae),(6,.bool am.2)] L s (OL 3 rI Y ab ae an am.1)) ?_ ?_)
 ·rintro _ _ ⟨Y,ab,ae,an,rfl,rfl,aY,aJ,aK⟩;refine zg 4 rfl (Az (v:= .bool (!am.2)) rfl (fun ρ h=>Yl.not (h _ _ rfl)) ?_);obtain⟨aL,aZ,a0⟩:=bs aX;refine JL.done (Bs (fun L s=>∃(az:LH) (ao:Ap) (ap:Nat) (aA:Seg),Jn Y H az [aA] [(5,sV ao aL ap)] L s (OL 3 rI az ao ap aA aL)) ?_ ?_)
  ·rintro _ _ ⟨az,ao,ap,aA,rfl,rfl,a1,a2,a3⟩;refine zg 5 rfl (Cb 0 a3 a2 rfl fun cd a4 a5 a6=>?_);obtain rfl:=oi a0;exact AN func98 rfl rfl (aV ((aY.Ab a1).Ab a4) rfl ⟨ao,ap,rfl,rfl,a5⟩ a6)
  ·intro aM;refine BL aZ (fun a7 a8=>?_) (fun a7 a9=>?_)
   ·obtain⟨ce,ba,bb⟩:=bs a8;refine zg 3 rfl (JS.app (pp:=rI) (v:=iV p1) (a:=ab) (c:=ae) 0 ba rfl rfl rfl rfl (fun _=>rfl) rfl (fun _=>rfl) rfl rfl rfl underlying28 underlying28 underlying28 A3 (CX type3) Cn rfl (by decide) (by decide) (by decide) (by decide) aK rfl aJ rfl fun cf bc bd be bf bg=>?_);refine zg 2 rfl ?_;obtain rfl:=oi bb;exact AB (aM _ _ ⟨Y,bc,bd,be,rfl,rfl,Aq,bg,bf⟩) rfl
   ·refine JL.skip ?_;obtain rfl:=oi a9;exact AB (aM _ _ ⟨Y,ab,ae,an,rfl,rfl,Aq,aJ,aK⟩) rfl
 ·intro bh;refine JL.block (CP aW (fun L s K=>∃(O:LH) (U:Ap) (V:Nat) (Z:Seg),Jn E H O [Z] [(0,sV W p0 c2),(1,iV p1),(5,sV U K.1 V),(6,.bool K.2.1),(7,iV K.2.2)] L s (OL 3 rI O U V Z K.1)) ⟨E,none,0,[],rfl,rfl,Aq,aU,OL.nil⟩ ?_);rintro _ _ K ⟨O,U,V,Z,rfl,rfl,ag,aB,aC⟩ bi ⟨cg,aD⟩ bj;have aN:=aD;unfold IT at aN;refine zg 5 rfl (Bx underlying28 rfl rfl rfl ?_);refine zg 2 rfl (AS aN (fun bl bm=>?_) (fun bl bn=>?_))
  ·obtain⟨ci,bo,bp⟩:=bs bm;refine zg 8 rfl (Cf (ay.Ag ag) bo underlying28 A3 ?_);rintro ck cm _ rfl bq;refine BV 0 bq Bw rfl rfl rfl ?_;obtain⟨br,bu,bv⟩:=bs bp;refine zg 3 rfl (Fx [] (fun L s=>∃(ah:LH),Jm O H ah [Z] [(0,sV W p0 c2),(1,iV p1),(5,sV U K.1 V),(6,.bool K.2.1),(7,iV K.2.2),(23,.bool br)] L s) ?_ ?_)
   ·rintro _ _ ⟨ah,rfl,rfl,ai,aO⟩;obtain⟨aj,bw,bx⟩:=bs bv;refine JL.done (Bs (fun L s=>∃(aa:LH) (ak:Ap) (al:Nat) (aq:Seg),Jn ah H aa [aq] [(0,sV W p0 c2),(1,iV p1),(5,sV ak aj.1 al),(6,.bool aj.2),(7,iV K.2.2)] L s (OL 3 rI aa ak al aq aj.1)) ?_ ?_)
    ·rintro _ _ ⟨aa,ak,al,aq,rfl,rfl,aE,aP,aQ⟩;obtain⟨cn,bz,bA⟩:=bs bx;refine zg 4 rfl (Cf (ay.Ag ((ag.Ab ai).Ab aE)) bz underlying28 A3 ?_);rintro co cp _ rfl bB;refine BV 0 bB Bw rfl rfl rfl ?_;obtain⟨aF,bC,bD⟩:=bs bA;refine zg 3 rfl (Bs (fun L s=>∃(ar:LH) (au:Ap) (av:Nat) (aw:Seg),Jn aa H ar [aw] [(0,sV W p0 c2),(1,iV p1),(5,sV au aF av),(6,.bool aj.2),(7,iV K.2.2)] L s (OL 3 rI ar au av aw aF)) ?_ ?_)
     ·rintro _ _ ⟨ar,au,av,aw,rfl,rfl,bE,bF,bG⟩;obtain⟨bH,bI,bJ⟩:=bs bD;refine zg 3 rfl (Bg bI rfl rfl rfl ?_);refine zg 2 rfl ?_;obtain rfl:=oi bJ;exact AB (bj _ _ (aF,aj.2,bH) ⟨ar,au,av,aw,rfl,rfl,(((ag.Ab ai).Ab aE).Ab bE),bF,bG⟩ aD) rfl
     ·intro aR;refine AS bC (fun bK bL=>?_) (fun bK bM=>?_)
      ·obtain⟨bN,bO,bP⟩:=bs bL;refine zg 4 rfl (Cf (ay.Ag ((ag.Ab ai).Ab aE)) bO underlying28 A3 ?_);rintro cq cr _ rfl bQ;refine BV 0 bQ Bw rfl rfl rfl ?_;obtain⟨ct,bR,bS⟩:=bs bP;refine JS.app (pp:=rI) (v:=iV bN) (a:=ak) (c:=al) 0 bR rfl rfl rfl rfl (fun _=>rfl) rfl (fun _=>rfl) rfl rfl rfl underlying28 underlying28 underlying28 A3 (CX type3) Cn rfl (by decide) (by decide) (by decide) (by decide) aQ rfl aP rfl fun cu bT bU bV bW bY=>zg 2 rfl ?_;obtain rfl:=oi bS;exact AB (aR _ _ ⟨aa,bT,bU,bV,rfl,rfl,Aq,bY,bW⟩) rfl
      ·refine JL.skip ?_;obtain rfl:=oi bM;exact AB (aR _ _ ⟨aa,ak,al,aq,rfl,rfl,Aq,aP,aQ⟩) rfl
    ·intro aS;refine BL bw (fun bZ b0=>?_) (fun bZ b1=>?_)
     ·obtain⟨cv,b2,b3⟩:=bs b0;refine zg 3 rfl (JS.app (pp:=rI) (v:=iV p1) (a:=U) (c:=V) 0 b2 rfl rfl rfl rfl (fun _=>rfl) rfl (fun _=>rfl) rfl rfl rfl underlying28 underlying28 underlying28 A3 (CX type3) Cn rfl (by decide) (by decide) (by decide) (by decide) (aC.Ag ai) rfl aO rfl fun cw b4 b5 b6 b7 b8=>?_);refine zg 3 rfl ?_;obtain rfl:=oi b3;exact AB (aS _ _ ⟨ah,b4,b5,b6,rfl,rfl,Aq,b8,b7⟩) rfl
     ·refine JL.skip ?_;obtain rfl:=oi b1;exact AB (aS _ _ ⟨ah,U,V,Z,rfl,rfl,Aq,aO,(aC.Ag ai)⟩) rfl
   ·intro aT;refine Er 20 bu (fun b9 ca=>?_) (fun b9 cb=>?_)
    ·refine zg 1 rfl (Az (v:= .bool (!K.2.1)) rfl (fun ρ h=>Yl.not (h _ _ rfl)) ?_);refine zg 1 rfl ?_;obtain rfl:=oi ca;exact AB (aT _ _ ⟨O,rfl,rfl,Aq,aB⟩) rfl
    ·refine zg 3 rfl ?_;obtain rfl:=oi cb;exact AB (aT _ _ ⟨O,rfl,rfl,Aq,aB⟩) rfl
  ·refine JL.exit rfl ?_;obtain rfl:=oi bn;obtain rfl:=bi _ aD;exact AB (bh _ _ ⟨O,U,V,Z,rfl,rfl,ag,aB,aC⟩) rfl
def f108(fuel:Nat)(p0:List Int):Option ((List Int)):= (Ds ([]:List Int) p0).bind fun K=> some K
theorem Vm{K:Ap}{c2:Nat}{p0:List Int}(W:An rI E K c2 p0){fuel:Nat}{r:(List Int)}(O:f108 fuel p0=some r):AP J 108 [sV K p0 c2] E [] (fun w E' B'=>∃(U:Ap) (V:Nat),w= sV U r V∧B'= []∧An rI E' U V r):=by
 refine A9 func108 fun Q ao cs H Y Z=>?_;unfold f108 at O;refine zg 6 rfl (MT (pp:=rI) rfl rfl rfl underlying28 A3 Y fun ap aq aa ab=>?_);obtain⟨ar,ae,ag⟩:=bs O;refine zg 1 rfl (MW (pp:=rI) 1 ae rfl rfl rfl rfl rfl rfl rfl underlying28 underlying28 A3 (CX type3) Cn rfl (by decide) (by decide) aa W ab rfl fun ah ai au aj ak=>?_);refine zg 2 rfl (Cb 1 aj ak rfl fun av al am an=>?_);obtain rfl:=oi ag;exact AN func108 rfl rfl (Z al rfl ⟨ah,ai,rfl,rfl,am⟩ an)
def Nm(fuel:Nat)(p0:List (List Int))(K:(List (List Int))×Int):Option (Bi ((List (List Int))×Int) ((List (List Int)))):= if K.2<(p0.length:Int) then((ix p0 K.2).bind fun O=> (f108 fuel O).bind fun U=> (ix K.1 K.2).bind fun W=> (Av (K.2+1)).bind fun V=> some (.more ((K.1.set (Int.toNat K.2) U),V))) else(some (.done K.1))
def f77(fuel:Nat)(p0:List (List Int)):Option ((List (List Int))):= (JJ (p0.length:Int) ([]:List Int)).bind fun K=> Option.bind (iter (Nm fuel p0) fuel (K,0)) fun O=> some O
def f26(fuel:Nat)(p0:BI):Option ((BI)):= (f77 fuel p0.1).bind fun K=> (f77 fuel p0.2).bind fun O=> some (K,O)
def Ng(fuel:Nat)(p0:List Int)(p1:Int)(K:(List Int)×Int):Option (Bi ((List Int)×Int) ((List Int))):= Option.bind (if K.2<(p0.length:Int) then((ix p0 K.2).bind fun O=> some (decide (O<p1))) else(some false)) fun U=> if U=true then((ix p0 K.2).bind fun V=> (room K.1 V).bind fun W=> (Av (K.2+1)).bind fun Y=> some (.more (W,Y))) else(some (.done K.1))
def Lt(fuel:Nat)(p0:List Int)(p1:Int)(K:(List Int)×Int):Option (Bi ((List Int)×Int) ((List Int))):= if K.2<(p0.length:Int) then((ix p0 K.2).bind fun O=> Option.bind (if p1<O then((ix p0 K.2).bind fun U=> (room K.1 U).bind fun V=> some V) else(some K.1)) fun W=> (Av (K.2+1)).bind fun Y=> some (.more (W,Y))) else(some (.done K.1))
def f42(fuel:Nat)(p0:List Int)(p1:Int):Option ((List Int)):= Option.bind (iter (Ng fuel p0 p1) fuel ([],0)) fun K=> (room K p1).bind fun O=> Option.bind (iter (Lt fuel p0 p1) fuel (O,0)) fun U=> some U
theorem QV{K:Ap}{c2:Nat}{p0:List Int}{p1:Int}(aj:An rI E K c2 p0){fuel:Nat}{r:(List Int)}(aH:f42 fuel p0 p1=some r):AP J 42 [sV K p0 c2,iV p1] E [] (fun w E' B'=>∃(aI:Ap) (aJ:Nat),w= sV aI r aJ∧B'= []∧An rI E' aI aJ r):=by
 refine A9 func42 fun Q ck cs H aT aU=>?_;unfold f42 at aH;obtain⟨aK,aV,aW⟩:=bs aH;refine zg 13 rfl (Bs (fun L s=>∃(U:LH) (ak:Ap) (al:Nat) (ay:Seg),Jn E H U [ay] [(0,sV K p0 c2),(1,iV p1),(5,sV ak aK al)] L s (OL 3 rI U ak al ay aK)) ?_ ?_)
 ·rintro _ _ ⟨U,ak,al,ay,rfl,rfl,az,aX,aY⟩;obtain⟨cm,aZ,a0⟩:=bs aW;refine zg 4 rfl (JS.app (pp:=rI) (v:=iV p1) (a:=ak) (c:=al) 0 aZ rfl rfl rfl rfl (fun _=>rfl) rfl (fun _=>rfl) rfl rfl rfl underlying28 underlying28 underlying28 A3 (CX type3) Cn rfl (by decide) (by decide) (by decide) (by decide) aY rfl aX rfl fun cn a1 a2 a3 a4 a5=>?_);obtain⟨aL,a6,a7⟩:=bs a0;refine zg 7 rfl (Bs (fun L s=>∃(aA:LH) (am:Ap) (an:Nat) (aB:Seg),Jn U H aA [aB] [(5,sV am aL an)] L s (OL 3 rI aA am an aB aL)) ?_ ?_)
  ·rintro _ _ ⟨aA,am,an,aB,rfl,rfl,a8,a9,ba⟩;refine zg 5 rfl (Cb 0 ba a9 rfl fun co bb bc bd=>?_);obtain rfl:=oi a7;exact AN func42 rfl rfl (aU ((az.Ab a8).Ab bb) rfl ⟨am,an,rfl,rfl,bc⟩ bd)
  ·intro be;refine JL.block (CP a6 (fun L s ae=>∃(O:LH) (V:Ap) (W:Nat) (ag:Seg),Jn U H O [ag] [(0,sV K p0 c2),(1,iV p1),(5,sV V ae.1 W),(7,iV ae.2)] L s (OL 3 rI O V W ag ae.1)) ⟨U,a1,a2,a3,rfl,rfl,Aq,a5,a4⟩ ?_);rintro _ _ ae ⟨O,V,W,ag,rfl,rfl,ao,aC,aD⟩ bf ⟨cp,aE⟩ bg;have aM:=aE;unfold Lt at aM;refine zg 5 rfl (Bx underlying28 rfl rfl rfl ?_);refine zg 2 rfl (AS aM (fun bh bi=>?_) (fun bh bj=>?_))
   ·obtain⟨cq,bl,bm⟩:=bs bi;refine zg 7 rfl (Cf (aj.Ag (az.Ab ao)) bl underlying28 A3 ?_);rintro cr ct _ rfl bn;refine BV 0 bn Bw rfl rfl rfl ?_;obtain⟨aF,bo,bp⟩:=bs bm;refine zg 3 rfl (Bs (fun L s=>∃(ap:LH) (aq:Ap) (ar:Nat) (au:Seg),Jn O H ap [au] [(0,sV K p0 c2),(1,iV p1),(5,sV aq aF ar),(7,iV ae.2)] L s (OL 3 rI ap aq ar au aF)) ?_ ?_)
    ·rintro _ _ ⟨ap,aq,ar,au,rfl,rfl,bq,br,bu⟩;obtain⟨bv,bw,bx⟩:=bs bp;refine zg 3 rfl (Bg bw rfl rfl rfl ?_);refine zg 2 rfl ?_;obtain rfl:=oi bx;exact AB (bg _ _ (aF,bv) ⟨ap,aq,ar,au,rfl,rfl,(ao.Ab bq),br,bu⟩ aE) rfl
    ·intro aN;refine AS bo (fun bz bA=>?_) (fun bz bB=>?_)
     ·obtain⟨bC,bD,bE⟩:=bs bA;refine zg 4 rfl (Cf (aj.Ag (az.Ab ao)) bD underlying28 A3 ?_);rintro cu cv _ rfl bF;refine BV 0 bF Bw rfl rfl rfl ?_;obtain⟨cw,bG,bH⟩:=bs bE;refine JS.app (pp:=rI) (v:=iV bC) (a:=V) (c:=W) 0 bG rfl rfl rfl rfl (fun _=>rfl) rfl (fun _=>rfl) rfl rfl rfl underlying28 underlying28 underlying28 A3 (CX type3) Cn rfl (by decide) (by decide) (by decide) (by decide) aD rfl aC rfl fun cy bI bJ bK bL bM=>zg 2 rfl ?_;obtain rfl:=oi bH;exact AB (aN _ _ ⟨O,bI,bJ,bK,rfl,rfl,Aq,bM,bL⟩) rfl
     ·refine JL.skip ?_;obtain rfl:=oi bB;exact AB (aN _ _ ⟨O,V,W,ag,rfl,rfl,Aq,aC,aD⟩) rfl
   ·refine JL.exit rfl ?_;obtain rfl:=oi bj;obtain rfl:=bf _ aE;exact AB (be _ _ ⟨O,V,W,ag,rfl,rfl,ao,aC,aD⟩) rfl
 ·intro bN;refine JL.block (CP aV (fun L s Y=>∃(Z:LH) (aa:Ap) (ab:Nat) (ah:Seg),Jn E H Z [ah] [(0,sV K p0 c2),(1,iV p1),(5,sV aa Y.1 ab),(6,iV Y.2)] L s (OL 3 rI Z aa ab ah Y.1)) ⟨E,none,0,[],rfl,rfl,Aq,aT,OL.nil⟩ ?_);rintro _ _ Y ⟨Z,aa,ab,ah,rfl,rfl,av,aO,aP⟩ bO ⟨cz,aG⟩ bP;have aQ:=aG;unfold Ng at aQ;refine zg 5 rfl (Bx underlying28 rfl rfl rfl ?_);obtain⟨bQ,bR,bS⟩:=bs aQ;refine zg 2 rfl (Fx [] (fun L s=>∃(aw:LH),Jm Z H aw [ah] [(0,sV K p0 c2),(1,iV p1),(5,sV aa Y.1 ab),(6,iV Y.2),(19,.bool bQ)] L s) ?_ ?_)
  ·rintro _ _ ⟨aw,rfl,rfl,ai,aR⟩;refine JL.done (BL bS (fun bT bU=>?_) (fun bT bV=>?_))
   ·obtain⟨bW,bY,bZ⟩:=bs bU;refine zg 7 rfl (Cf (aj.Ag (av.Ab ai)) bY underlying28 A3 ?_);rintro cA cB _ rfl b0;refine BV 0 b0 Bw rfl rfl rfl ?_;obtain⟨b1,b2,b3⟩:=bs bZ;refine JS.app (pp:=rI) (v:=iV bW) (a:=aa) (c:=ab) 0 b2 rfl rfl rfl rfl (fun _=>rfl) rfl (fun _=>rfl) rfl rfl rfl underlying28 underlying28 underlying28 A3 (CX type3) Cn rfl (by decide) (by decide) (by decide) (by decide) (aP.Ag ai) rfl aR rfl fun HR b4 b5 b6 b7 b8=>?_;obtain⟨b9,ca,cb⟩:=bs b3;refine zg 5 rfl (Bg ca rfl rfl rfl ?_);refine zg 2 rfl ?_;obtain rfl:=oi cb;exact AB (bP _ _ (b1,b9) ⟨aw,b4,b5,b6,rfl,rfl,(av.Ab ai),b8,b7⟩ aG) rfl
   ·refine JL.exit rfl ?_;obtain rfl:=oi bV;obtain rfl:=bO _ aG;exact AB (bN _ _ ⟨aw,aa,ab,ah,rfl,rfl,(av.Ab ai),aR,(aP.Ag ai)⟩) rfl
  ·intro aS;refine Er 12 bR (fun cc cd=>?_) (fun cc ce=>?_)
   ·obtain⟨cC,cf,cg⟩:=bs cd;refine zg 2 rfl (Cf (aj.Ag av) cf underlying28 A3 ?_);rintro cD cE _ rfl ci;refine BV 0 ci Bw rfl rfl rfl (zg 3 rfl ?_);obtain rfl:=oi cg;exact AB (aS _ _ ⟨Z,rfl,rfl,Aq,aO⟩) rfl
   ·refine zg 7 rfl ?_;obtain rfl:=oi ce;exact AB (aS _ _ ⟨Z,rfl,rfl,Aq,aO⟩) rfl
def Lz(fuel:Nat)(p0:List Int)(p1:List Int)(K:Int):Option (Bi Int ((Bool)⊕(Unit))):= if K<(p0.length:Int) then((ix p0 K).bind fun O=> (f53 fuel p1 O).bind fun U=> if(!U)=true then(some (.done (Sum.inl false))) else((Av (K+1)).bind fun V=> some (.more V))) else(some (.done (Sum.inr ())))
def f44(fuel:Nat)(p0:List Int)(p1:List Int):Option Bool:= Option.bind (iter (Lz fuel p0 p1) fuel 0) fun K=> Sum.elim (fun r=>some r) (fun O=> some true) K
theorem No{U:Ap}{c2:Nat}{V:Ap}{W:Nat}{p0:List Int}{p1:List Int}(an:An rI E U c2 p0)(ao:An rI E V W p1){fuel:Nat}{r:Bool}(Z:f44 fuel p0 p1=some r):AP J 44 [sV U p0 c2,sV V p1 W] E [] (fun w E' B'=>w= .bool r∧B'= []):=by
 refine A9 func44 fun Q aR cs H ap aa=>?_;unfold f44 at Z;obtain⟨ab,aq,ae⟩:=bs Z;refine zg 9 rfl (Bs (fun L s=>∃(ag:Unit) (ah:LH),ab=Sum.inr ag∧Jm E H ah [] [] L s) ?_ ?_)
 ·rintro _ _ ⟨ag,ah,rfl,rfl,rfl,ar,au⟩;have av:=elim_inr ae;refine zg 4 rfl ?_;obtain rfl:=oi av;exact AN func44 rfl rfl (aa ar rfl ⟨rfl,rfl⟩ au)
 ·intro aw;refine JL.block (Cs aq (fun Y=> []) (fun Y=> [(0,sV U p0 c2),(1,sV V p1 W),(5,iV Y)]) Aq ap ?_);rintro Y ay K ai aj ⟨aS,O⟩ az;have ak:=O;unfold Lz at ak;refine zg 5 rfl (Bx underlying28 rfl rfl rfl ?_);refine zg 2 rfl (AS ak (fun aA aB=>?_) (fun aA aC=>?_))
  ·obtain⟨aT,aD,aE⟩:=bs aB;refine zg 8 rfl (Cf (an.Ag K) aD underlying28 A3 ?_);rintro aU aV _ rfl aF;refine BV 0 aF Bw rfl rfl rfl ?_;obtain⟨aG,aH,aI⟩:=bs aE;refine BK (V7 (ao.Ag K) aH) rfl rfl (AX func53 rfl) ai fun aW al am=>Az (v:= .bool (!aG)) rfl (fun ρ h=>Yl.not (h _ _ rfl)) (JL.done ?_);refine BL aI (fun aJ aK=>?_) (fun aJ aL=>?_)
   ·refine zg 4 rfl ?_;obtain rfl:=oi aK;obtain rfl:=aj _ O;have aM:=elim_inl ae;obtain rfl:=oi aM;exact AN func44 rfl rfl (aa (K.Ab al) rfl ⟨rfl,rfl⟩ am)
   ·obtain⟨aN,aO,aP⟩:=bs aL;refine zg 4 rfl (Bg aO rfl rfl rfl ?_);refine zg 2 rfl ?_;obtain rfl:=oi aP;exact az aN (K.Ab al) am rfl O
  ·refine JL.exit rfl ?_;obtain rfl:=oi aC;have aQ:ab=(Sum.inr ()):=(aj _ O).symm;exact AB (aw _ _ ⟨(),ay,aQ,rfl,rfl,K,ai⟩) rfl
def f71(fuel:Nat):Option ((BI)):= some (([([1]:List Int),([2]:List Int),([3,4]:List Int),([4]:List Int),([5]:List Int),([5]:List Int)]:List (List Int)),([[],[],[],([2]:List Int),([2,3]:List Int),([3,4]:List Int)]:List (List Int)))
theorem HO{fuel:Nat}{r:(BI)}(aj:f71 fuel=some r):AP J 71 [] E [] (fun w E' B'=>∃(ak:Ap) (al:Nat) (am:Ap) (an:Nat),w= .agg #[sV ak r.1 al,sV am r.2 an]∧B'= []∧An (rL rI) E' ak al r.1∧An (rL rI) E' am an r.2):=by
 refine A9 func71 fun Q bL cs H aA aB=>?_;unfold f71 at aj;refine zg 2 rfl (Cr aA Dh fun K aC=>?_);refine zg 3 rfl (JS.lit (pp:=rI) [iV 1] [1] rfl rfl rfl underlying28 A3 Cn (by decide) rfl rfl rfl ⟨rfl,trivial⟩ aC fun aD ao aE aF=>?_);refine JS.lit (pp:=rI) [iV 2] [2] rfl rfl rfl underlying28 A3 Cn (by decide) rfl rfl rfl ⟨rfl,trivial⟩ aF fun aG ap aH aI=>Cg (S':= [[],[(K,.cells #[nS,nS] 24 (0,0))],ao,ap]) rfl aI fun aJ=>JS.lit (pp:=rI) [iV 3,iV 4] [3,4] rfl rfl rfl underlying28 A3 Cn (by decide) rfl rfl rfl ⟨rfl,rfl,trivial⟩ aJ fun aK aq aL aM=>JS.lit (pp:=rI) [iV 4] [4] rfl rfl rfl underlying28 A3 Cn (by decide) rfl rfl rfl ⟨rfl,trivial⟩ aM fun aN ar aO aP=>JS.lit (pp:=rI) [iV 5] [5] rfl rfl rfl underlying28 A3 Cn (by decide) rfl rfl rfl ⟨rfl,trivial⟩ aP fun aQ au aR aS=>Cg (S':= [[],[(K,.cells #[nS,nS] 24 (0,0))],ao,ap,aq,ar,au]) rfl aS fun aT=>JS.lit (pp:=rI) [iV 5] [5] rfl rfl rfl underlying28 A3 Cn (by decide) rfl rfl rfl ⟨rfl,trivial⟩ aT fun aU av aV aW=>Cb 2 aE aW rfl fun bM O aX aY=>Cb 3 (aH.Ag O) aY rfl fun bN U aZ a0=>Cg (S':= [[],[(K,.cells #[nS,nS] 24 (0,0))],[],[],aq,ar,au,av]) rfl a0 fun a1=>Cb 4 (aL.Ag (O.Ab U)) a1 rfl fun bO V a2 a3=>Cb 5 (aO.Ag ((O.Ab U).Ab V)) a3 rfl fun bP W a4 a5=>Cb 6 (aR.Ag (((O.Ab U).Ab V).Ab W)) a5 rfl fun bQ Y a6 a7=>Cg (S':= [[],[(K,.cells #[nS,nS] 24 (0,0))],[],[],[],[],[],av]) rfl a7 fun a8=>Cb 7 (aV.Ag ((((O.Ab U).Ab V).Ab W).Ab Y)) a8 rfl fun bR Z a9 ba=>JS.lit (pp:=(rL rI)) [.slice (Bc aD) (([1]:List Int)).length 1,.slice (Bc aG) (([2]:List Int)).length 1,.slice (Bc aK) (([3,4]:List Int)).length 2,.slice (Bc aN) (([4]:List Int)).length 1,.slice (Bc aQ) (([5]:List Int)).length 1,.slice (Bc aU) (([5]:List Int)).length 1] [([1]:List Int),([2]:List Int),([3,4]:List Int),([4]:List Int),([5]:List Int),([5]:List Int)] rfl rfl rfl underlying22 B7 Fv (by decide) rfl rfl rfl ⟨⟨_,_,rfl,(aX.Ag ((((U.Ab V).Ab W).Ab Y).Ab Z))⟩,⟨_,_,rfl,(aZ.Ag (((V.Ab W).Ab Y).Ab Z))⟩,⟨_,_,rfl,(a2.Ag ((W.Ab Y).Ab Z))⟩,⟨_,_,rfl,(a4.Ag (Y.Ab Z))⟩,⟨_,_,rfl,(a6.Ag Z)⟩,⟨_,_,rfl,a9⟩,trivial⟩ ba fun aa ai bb bc=>JS.lit (pp:=rI) [iV 2] [2] rfl rfl rfl underlying28 A3 Cn (by decide) rfl rfl rfl ⟨rfl,trivial⟩ bc fun bd be bf bg=>Cg (S':= [[],[(K,.cells #[nS,nS] 24 (0,0))],[],[],[],[],[],[],ai,be]) rfl bg fun bh=>JS.lit (pp:=rI) [iV 2,iV 3] [2,3] rfl rfl rfl underlying28 A3 Cn (by decide) rfl rfl rfl ⟨rfl,rfl,trivial⟩ bh fun bi bj bl bm=>JS.lit (pp:=rI) [iV 3,iV 4] [3,4] rfl rfl rfl underlying28 A3 Cn (by decide) rfl rfl rfl ⟨rfl,rfl,trivial⟩ bm fun bn bo bp bq=>Cb 9 bf bq rfl fun bS ae br bu=>?_;refine Cg (S':= [[],[(K,.cells #[nS,nS] 24 (0,0))],[],[],[],[],[],[],ai,[],bj,bo]) rfl bu fun bv=>Cb 10 (bl.Ag ae) bv rfl fun bT ag bw bx=>Cb 11 (bp.Ag (ae.Ab ag)) bx rfl fun bU ah bz bA=>JS.lit (pp:=(rL rI)) [nS,nS,nS,.slice (Bc bd) (([2]:List Int)).length 1,.slice (Bc bi) (([2,3]:List Int)).length 2,.slice (Bc bn) (([3,4]:List Int)).length 2] [[],[],[],([2]:List Int),([2,3]:List Int),([3,4]:List Int)] rfl rfl rfl underlying22 B7 Fv (by decide) rfl rfl rfl ⟨⟨_,_,rfl,An.nil⟩,⟨_,_,rfl,An.nil⟩,⟨_,_,rfl,An.nil⟩,⟨_,_,rfl,(br.Ag (ag.Ab ah))⟩,⟨_,_,rfl,(bw.Ag ah)⟩,⟨_,_,rfl,bz⟩,trivial⟩ bA fun ab bB bC bD=>Cg (S':= [[],[(K,.cells #[nS,nS] 24 (0,0))],[],[],[],[],[],[],ai,[],[],[],bB]) rfl bD fun bE=>Az (v:= .agg #[.slice (Bc aa) (([([1]:List Int),([2]:List Int),([3,4]:List Int),([4]:List Int),([5]:List Int),([5]:List Int)]:List (List Int))).length 6,.slice (Bc ab) (([[],[],[],([2]:List Int),([2,3]:List Int),([3,4]:List Int)]:List (List Int))).length 6]) rfl (fun ρ h=>CO [(0,1),(1,1)] h Dh underlying24 ⟨rfl,Bm type22,rfl,Bm type22,trivial⟩ rfl rfl) (BF 1 bE Ca fun bF=>?_);refine JL.done (Cb 8 (bb.Ag ((ae.Ab ag).Ab ah)) bF rfl fun bV aw bG bH=>?_);refine Cb 12 (bC.Ag aw) bH rfl fun bW ay bI bJ=>Cg (S':= [[],[(K,.cells #[.slice (Bc aa) (([([1]:List Int),([2]:List Int),([3,4]:List Int),([4]:List Int),([5]:List Int),([5]:List Int)]:List (List Int))).length 6,.slice (Bc ab) (([[],[],[],([2]:List Int),([2,3]:List Int),([3,4]:List Int)]:List (List Int))).length 6] 24 (0,0))],[],[],[],[],[],[],[],[],[],[],[]]) rfl bJ fun az=>?_;obtain rfl:=oi aj;refine JL.ret (v:= .agg #[.slice (Bc aa) (([([1]:List Int),([2]:List Int),([3,4]:List Int),([4]:List Int),([5]:List Int),([5]:List Int)]:List (List Int))).length 6,.slice (Bc ab) (([[],[],[],([2]:List Int),([2,3]:List Int),([3,4]:List Int)]:List (List Int))).length 6]) rfl rfl (BR.list func71 rfl (vs:= [.agg #[.slice (Bc aa) (([([1]:List Int),([2]:List Int),([3,4]:List Int),([4]:List Int),([5]:List Int),([5]:List Int)]:List (List Int))).length 6,.slice (Bc ab) (([[],[],[],([2]:List Int),([2,3]:List Int),([3,4]:List Int)]:List (List Int))).length 6]]) ⟨⟨_,rfl,Ld.many (vs:= [.slice (Bc aa) (([([1]:List Int),([2]:List Int),([3,4]:List Int),([4]:List Int),([5]:List Int),([5]:List Int)]:List (List Int))).length 6,.slice (Bc ab) (([[],[],[],([2]:List Int),([2,3]:List Int),([3,4]:List Int)]:List (List Int))).length 6]) Cx Ca (EG (off:=0) 1 az rfl rfl)⟩,trivial⟩) (HH 1 az rfl fun bK=>?_);exact aB ((((((((((O.Ab U).Ab V).Ab W).Ab Y).Ab Z).Ab ae).Ab ag).Ab ah).Ab aw).Ab ay) rfl ⟨(Bc aa),6,(Bc ab),6,rfl,rfl,(bG.Ag ay),bI⟩ bK
def f72(fuel:Nat):Option ((AY)):= some ([(0,2),(1,4)]:AY)
theorem Ny{fuel:Nat}{r:(AY)}(K:f72 fuel=some r):AP J 72 [] E [] (fun w E' B'=>∃(O:Ap) (U:Nat),w= sV O r U∧B'= []∧An BE E' O U r):=by
 refine A9 func72 fun Q ah cs H V W=>?_;unfold f72 at K;refine zg 6 rfl (Az (v:= .agg #[iV 0,iV 2]) rfl (fun ρ h=>CO [(0,1),(1,1)] h FG underlying27 ⟨rfl,Bm type3,rfl,Bm type3,trivial⟩ rfl rfl) ?_);refine Az (v:= .agg #[iV 1,iV 4]) rfl (fun ρ h=>CO [(0,1),(1,1)] h FG underlying27 ⟨rfl,Bm type3,rfl,Bm type3,trivial⟩ rfl rfl) (JS.lit (pp:=BE) [.agg #[iV 0,iV 2],.agg #[iV 1,iV 4]] [(0,2),(1,4)] rfl rfl rfl underlying25 CK FG (by decide) rfl rfl rfl ⟨⟨_,_,rfl,rfl,rfl⟩,⟨_,_,rfl,rfl,rfl⟩,trivial⟩ V fun Y g2 Z aa=>?_);refine zg 2 rfl (Cb 1 Z aa rfl fun ai ab ae ag=>?_);obtain rfl:=oi K;exact AN func72 rfl rfl (W ab rfl ⟨(Bc Y),2,rfl,rfl,ae⟩ ag)
def f73(fuel:Nat):Option ((AY)):= some ([(0,3),(1,3)]:AY)
theorem QS{fuel:Nat}{r:(AY)}(K:f73 fuel=some r):AP J 73 [] E [] (fun w E' B'=>∃(O:Ap) (U:Nat),w= sV O r U∧B'= []∧An BE E' O U r):=by
 refine A9 func73 fun Q ah cs H V W=>?_;unfold f73 at K;refine zg 6 rfl (Az (v:= .agg #[iV 0,iV 3]) rfl (fun ρ h=>CO [(0,1),(1,1)] h FG underlying27 ⟨rfl,Bm type3,rfl,Bm type3,trivial⟩ rfl rfl) ?_);refine Az (v:= .agg #[iV 1,iV 3]) rfl (fun ρ h=>CO [(0,1),(1,1)] h FG underlying27 ⟨rfl,Bm type3,rfl,Bm type3,trivial⟩ rfl rfl) (JS.lit (pp:=BE) [.agg #[iV 0,iV 3],.agg #[iV 1,iV 3]] [(0,3),(1,3)] rfl rfl rfl underlying25 CK FG (by decide) rfl rfl rfl ⟨⟨_,_,rfl,rfl,rfl⟩,⟨_,_,rfl,rfl,rfl⟩,trivial⟩ V fun Y g2 Z aa=>?_);refine zg 2 rfl (Cb 1 Z aa rfl fun ai ab ae ag=>?_);obtain rfl:=oi K;exact AN func73 rfl rfl (W ab rfl ⟨(Bc Y),2,rfl,rfl,ae⟩ ag)
end Pal
namespace Pal
open Go Go.Conc Go.Proofs
open Go.Proofs.Tryz
variable {J:Judge Tryz.prog}{E:LH}
def f103(fuel:Nat)(p0:Nat)(p1:Int):Option Bool:= (J2 p0 p1).bind fun K=> (I0 K (1)).bind fun O=> some (decide ((((O):Nat):Int)=(((1):Nat):Int)))
theorem M5{p0:Nat}{p1:Int}{fuel:Nat}{r:Bool}(K:f103 fuel p0 p1=some r):AP J 103 [uV p0,iV p1] E [] (fun w E' B'=>w= .bool r∧B'= []):=by
 refine A9 func103 fun Q ae cs H O U=>?_;unfold f103 at K;obtain⟨V,W,Y⟩:=bs K;refine zg 8 rfl (Az (v:= uV V) rfl (fun ρ h=>Ux (h _ _ rfl) (h _ _ rfl) W) ?_);obtain⟨Z,aa,ab⟩:=bs Y;refine Az (v:= uV Z) rfl (fun ρ h=>MK (h _ _ rfl) (h _ _ rfl) aa) (zg 3 rfl ?_);obtain rfl:=oi ab;exact AN func103 rfl rfl (U Aq rfl ⟨rfl,rfl⟩ O)
def f90(fuel:Nat)(p0:Nat)(p1:Int):Option Nat:= (JI p1).bind fun K=> (Ir p0 K).bind fun O=> some O
theorem LN{p0:Nat}{p1:Int}{fuel:Nat}{r:Nat}(K:f90 fuel p0 p1=some r):AP J 90 [uV p0,iV p1] E [] (fun w E' B'=>w= uV r∧B'= []):=by
 refine A9 func90 fun Q ae cs H O U=>?_;unfold f90 at K;obtain⟨V,W,Y⟩:=bs K;refine zg 8 rfl (Az (v:= uV V) rfl (fun ρ h=>UF (h _ _ rfl) (h _ _ rfl) W) ?_);obtain⟨Z,aa,ab⟩:=bs Y;refine Az (v:= uV Z) rfl (fun ρ h=>Jo (h _ _ rfl) (h _ _ rfl) aa) (zg 2 rfl ?_);obtain rfl:=oi ab;exact AN func90 rfl rfl (U Aq rfl ⟨rfl,rfl⟩ O)
def LC(fuel:Nat)(p0:Nat)(K:(List Int)×Int):Option (Bi ((List Int)×Int) ((List Int))):= if K.2<16 then((f103 fuel p0 K.2).bind fun O=> Option.bind (if O=true then((room K.1 K.2).bind fun U=> some U) else(some K.1)) fun V=> (Av (K.2+1)).bind fun W=> some (.more (V,W))) else(some (.done K.1))
def f89(fuel:Nat)(p0:Nat):Option ((List Int)):= Option.bind (iter (LC fuel p0) fuel ([],0)) fun K=> some K
theorem Ij{p0:Nat}{fuel:Nat}{r:(List Int)}(ao:f89 fuel p0=some r):AP J 89 [uV p0] E [] (fun w E' B'=>∃(ap:Ap) (aq:Nat),w= sV ap r aq∧B'= []∧An rI E' ap aq r):=by
 refine A9 func89 fun Q ba cs H aA aB=>?_;unfold f89 at ao;obtain⟨ar,aC,aD⟩:=bs ao;refine zg 13 rfl (Bs (fun L s=>∃(ah:LH) (W:Ap) (Y:Nat) (ai:Seg),Jn E H ah [ai] [(3,sV W ar Y)] L s (OL 3 rI ah W Y ai ar)) ?_ ?_)
 ·rintro _ _ ⟨ah,W,Y,ai,rfl,rfl,aE,aF,aG⟩;refine zg 5 rfl (Cb 0 aG aF rfl fun bb aH aI aJ=>?_);obtain rfl:=oi aD;exact AN func89 rfl rfl (aB (aE.Ab aH) rfl ⟨W,Y,rfl,rfl,aI⟩ aJ)
 ·intro aK;refine JL.block (CP aC (fun L s K=>∃(Z:LH) (O:Ap) (U:Nat) (V:Seg),Jn E H Z [V] [(0,uV p0),(3,sV O K.1 U),(5,iV K.2)] L s (OL 3 rI Z O U V K.1)) ⟨E,none,0,[],rfl,rfl,Aq,aA,OL.nil⟩ ?_);rintro _ _ K ⟨Z,O,U,V,rfl,rfl,au,av,aj⟩ aL ⟨bc,ak⟩ aM;have aw:=ak;unfold LC at aw;refine zg 5 rfl (AS aw (fun aN aO=>?_) (fun aN aP=>?_))
  ·obtain⟨bd,aQ,aR⟩:=bs aO;refine zg 12 rfl (BK (M5 aQ) rfl rfl Mg av fun al am ay=>?_);obtain⟨an,aS,aT⟩:=bs aR;refine JL.done (Bs (fun L s=>∃(aa:LH) (ab:Ap) (ae:Nat) (ag:Seg),Jn al H aa [ag] [(0,uV p0),(3,sV ab an ae),(5,iV K.2)] L s (OL 3 rI aa ab ae ag an)) ?_ ?_)
   ·rintro _ _ ⟨aa,ab,ae,ag,rfl,rfl,aU,aV,aW⟩;obtain⟨aX,aY,aZ⟩:=bs aT;refine zg 2 rfl (Bg aY rfl rfl rfl ?_);refine zg 2 rfl ?_;obtain rfl:=oi aZ;exact AB (aM _ _ (an,aX) ⟨aa,ab,ae,ag,rfl,rfl,((au.Ab am).Ab aU),aV,aW⟩ ak) rfl
   ·intro az;refine BL aS (fun a0 a1=>?_) (fun a0 a2=>?_)
    ·obtain⟨be,a3,a4⟩:=bs a1;refine zg 3 rfl (JS.app (pp:=rI) (v:=iV K.2) (a:=O) (c:=U) 0 a3 rfl rfl rfl rfl (fun _=>rfl) rfl (fun _=>rfl) rfl rfl rfl underlying28 underlying28 underlying28 A3 (CX type3) Cn rfl (by decide) (by decide) (by decide) (by decide) (aj.Ag am) rfl ay rfl fun bf a5 a6 a7 a8 a9=>?_);refine zg 2 rfl ?_;obtain rfl:=oi a4;exact AB (az _ _ ⟨al,a5,a6,a7,rfl,rfl,Aq,a9,a8⟩) rfl
    ·refine JL.skip ?_;obtain rfl:=oi a2;exact AB (az _ _ ⟨al,O,U,V,rfl,rfl,Aq,ay,(aj.Ag am)⟩) rfl
  ·refine JL.exit rfl ?_;obtain rfl:=oi aP;obtain rfl:=aL _ ak;exact AB (aK _ _ ⟨Z,O,U,V,rfl,rfl,au,av,aj⟩) rfl
def Lb(fuel:Nat)(p0:List Int)(K:Nat×Int):Option (Bi (Nat×Int) Nat):= if K.2<(p0.length:Int) then((ix p0 K.2).bind fun O=> (f90 fuel K.1 O).bind fun U=> (Av (K.2+1)).bind fun V=> some (.more (U,V))) else(some (.done K.1))
def f120(fuel:Nat)(p0:List Int):Option Nat:= Option.bind (iter (Lb fuel p0) fuel (0,0)) fun K=> some K
theorem IQ{O:Ap}{c2:Nat}{p0:List Int}(aa:An rI E O c2 p0){fuel:Nat}{r:Nat}(W:f120 fuel p0=some r):AP J 120 [sV O p0 c2] E [] (fun w E' B'=>w= uV r∧B'= []):=by
 refine A9 func120 fun Q aF cs H ab ae=>?_;unfold f120 at W;refine zg 12 rfl (Bx underlying28 rfl rfl rfl ?_);obtain⟨ag,ah,ai⟩:=bs W;refine zg 2 rfl (Cq [] [(3,uV ag)] (fun aG aj ak=>?_) (fun al=>?_))
 ·refine zg 5 rfl ?_;obtain rfl:=oi ai;exact AN func120 rfl rfl (ae aj rfl ⟨rfl,rfl⟩ ak)
 ·refine JL.block (Cs ah (fun K=> []) (fun K=> [(3,uV K.1),(6,sV O p0 c2),(7,iV (p0.length:Int)),(8,iV K.2)]) Aq ab ?_);rintro K aH U Y am ⟨aI,V⟩ an;have Z:=V;unfold Lb at Z;refine zg 5 rfl (AS Z (fun ao ap=>?_) (fun ao aq=>?_))
  ·obtain⟨aJ,ar,au⟩:=bs ap;refine zg 5 rfl (Cf (aa.Ag U) ar underlying28 A3 ?_);rintro aK aL _ rfl av;refine BV 0 av Bw rfl rfl rfl ?_;obtain⟨aw,ay,az⟩:=bs au;refine zg 5 rfl (BK (LN ay) rfl rfl Ko Y fun aM aA aB=>?_);obtain⟨aC,aD,aE⟩:=bs az;refine zg 4 rfl (Bg aD rfl rfl rfl ?_);refine zg 2 rfl ?_;obtain rfl:=oi aE;exact an (aw,aC) (U.Ab aA) aB rfl V
  ·refine JL.exit rfl ?_;obtain rfl:=oi aq;obtain rfl:=am _ V;exact al U Y rfl
def Lr(fuel:Nat)(p0:BI)(p1:Int)(p2:List Int)(p3:Bool)(K:Int):Option (Bi Int (((Option (Int×Int)))⊕(Unit))):= if K<(p2.length:Int) then((ix p2 K).bind fun O=> (Av ((p0.1.length:Int) - 1)).bind fun U=> (f101 fuel O 0 U).bind fun V=> if V=true then(some (.done (Sum.inl (some (3,p1))))) else(Option.bind (if O=p1 then(some (!p3)) else(some false)) fun W=> if W=true then(some (.done (Sum.inl (some (8,p1))))) else(Option.bind (if 0<K then((Av (K - 1)).bind fun Y=> (ix p2 Y).bind fun Z=> some (decide (O≤Z))) else(some false)) fun aa=> if aa=true then(some (.done (Sum.inl (some (5,p1))))) else((Av (K+1)).bind fun ab=> some (.more ab))))) else(some (.done (Sum.inr ())))
def f136(fuel:Nat)(p0:BI)(p1:Int)(p2:List Int)(p3:Bool):Option ((Option (Int×Int))):= Option.bind (iter (Lr fuel p0 p1 p2 p3) fuel 0) fun K=> Sum.elim (fun r=>some r) (fun O=> some none) K
theorem Qt{ak:Ap}{c2:Nat}{al:Ap}{am:Nat}{K:Ap}{O:Nat}{p0:BI}{p1:Int}{p2:List Int}{p3:Bool}(bz:An (rL rI) E ak c2 p0.1)(bA:An (rL rI) E al am p0.2)(an:An rI E K O p2){fuel:Nat}{r:(Option (Int×Int))}(ao:f136 fuel p0 p1 p2 p3=some r):AP J 136 [.agg #[sV ak p0.1 c2,sV al p0.2 am],iV p1,sV K p2 O,.bool p3] E [] (fun w E' B'=>∃(ap:Value),w=ap∧B'= []∧HX 183 ap r):=by
 refine A9 func136 fun Q bB cs H aC aa=>?_;unfold f136 at ao;refine zg 2 rfl (CB aC fun ah aD V aE aF=>?_);refine zg 6 rfl (Bx underlying28 rfl rfl rfl ?_);obtain⟨aq,aG,ab⟩:=bs ao;refine zg 2 rfl (Bs (fun L s=>∃(ar:Unit) (au:LH),aq=Sum.inr ar∧Jm aD H au [] [] L s) ?_ ?_)
 ·rintro _ _ ⟨ar,au,rfl,rfl,rfl,aH,aI⟩;have aJ:=elim_inr ab;refine zg 4 rfl ?_;obtain rfl:=oi aJ;exact AN func136 rfl rfl (aa (V.Ab aH) rfl ⟨.nilIface,rfl,rfl,rfl⟩ aI)
 ·intro aK;refine JL.block (Cs aG (fun W=> []) (fun W=> [(1,iV p1),(2,sV K p2 O),(3,.bool p3),(4,pV ah 0),(11,sV K p2 O),(12,iV (p2.length:Int)),(13,iV W)]) Aq aF ?_);rintro W aL U av ae ⟨bC,Y⟩ aM;have aw:=Y;unfold Lr at aw;refine zg 5 rfl (AS aw (fun aN aO=>?_) (fun aN aP=>?_))
  ·obtain⟨aQ,aR,aS⟩:=bs aO;refine zg 6 rfl (Cf (an.Ag (V.Ab U)) aR underlying28 A3 ?_);rintro bD bE _ rfl aT;refine BV 0 aT Bw rfl rfl rfl (zg 7 rfl ?_);refine JL.fl 0 (aE.Ag U) underlying24 Ck C6 ?_;refine Bx underlying22 rfl rfl rfl ?_;obtain⟨bF,aU,aV⟩:=bs aS;refine BW aU rfl rfl rfl ?_;obtain⟨bG,aW,aX⟩:=bs aV;refine BK (Ih aW) rfl rfl H2 av fun bH Z ai=>zg 2 rfl (BL aX (fun aY aZ=>?_) (fun aY a0=>?_))
   ·refine zg 3 rfl (Az (v:= .agg #[iV 3,iV p1]) rfl (fun ρ h=>CO [(0,1),(1,1)] h Fu underlying183 ⟨rfl,Bm type39,rfl,Bm type3,trivial⟩ rfl rfl) ?_);refine Az (v:= .iface 183 (.agg #[iV 3,iV p1])) rfl (fun ρ h=>EI underlying183 (fun _ h=>by cases h) (h _ _ rfl)) (zg 2 rfl ?_);obtain rfl:=oi aZ;obtain rfl:=ae _ Y;have a1:=elim_inl ab;obtain rfl:=oi a1;exact AN func136 rfl rfl (aa ((V.Ab U).Ab Z) rfl ⟨.iface 183 (.agg #[iV 3,iV p1]),rfl,rfl,rfl⟩ ai)
   ·obtain⟨a2,a3,a4⟩:=bs a0;refine zg 6 rfl (C3 7 1 [] [(1,iV p1),(2,sV K p2 O),(3,.bool p3),(4,pV ah 0),(9,iV W),(10,iV aQ),(11,sV K p2 O),(12,iV (p2.length:Int)),(13,iV W),(35,.bool a2)] (fun bI ag aj=>?_) (fun ay=>?_))
    ·refine zg 2 rfl (BL a4 (fun a5 a6=>?_) (fun a5 a7=>?_))
     ·refine zg 3 rfl (Az (v:= .agg #[iV 8,iV p1]) rfl (fun ρ h=>CO [(0,1),(1,1)] h Fu underlying183 ⟨rfl,Bm type39,rfl,Bm type3,trivial⟩ rfl rfl) ?_);refine Az (v:= .iface 183 (.agg #[iV 8,iV p1])) rfl (fun ρ h=>EI underlying183 (fun _ h=>by cases h) (h _ _ rfl)) (zg 2 rfl ?_);obtain rfl:=oi a6;obtain rfl:=ae _ Y;have a8:=elim_inl ab;obtain rfl:=oi a8;exact AN func136 rfl rfl (aa (((V.Ab U).Ab Z).Ab ag) rfl ⟨.iface 183 (.agg #[iV 8,iV p1]),rfl,rfl,rfl⟩ aj)
     ·obtain⟨a9,ba,bb⟩:=bs a7;refine zg 5 rfl (C3 11 1 [] [(1,iV p1),(2,sV K p2 O),(3,.bool p3),(4,pV ah 0),(11,sV K p2 O),(12,iV (p2.length:Int)),(13,iV W),(50,.bool a9)] (fun bJ az aA=>?_) (fun aB=>?_))
      ·refine zg 2 rfl (BL bb (fun bc bd=>?_) (fun bc be=>?_))
       ·refine zg 3 rfl (Az (v:= .agg #[iV 5,iV p1]) rfl (fun ρ h=>CO [(0,1),(1,1)] h Fu underlying183 ⟨rfl,Bm type39,rfl,Bm type3,trivial⟩ rfl rfl) ?_);refine Az (v:= .iface 183 (.agg #[iV 5,iV p1])) rfl (fun ρ h=>EI underlying183 (fun _ h=>by cases h) (h _ _ rfl)) (zg 2 rfl ?_);obtain rfl:=oi bd;obtain rfl:=ae _ Y;have bf:=elim_inl ab;obtain rfl:=oi bf;exact AN func136 rfl rfl (aa ((((V.Ab U).Ab Z).Ab ag).Ab az) rfl ⟨.iface 183 (.agg #[iV 5,iV p1]),rfl,rfl,rfl⟩ aA)
       ·obtain⟨bg,bh,bi⟩:=bs be;refine zg 4 rfl (Bg bh rfl rfl rfl ?_);refine zg 2 rfl ?_;obtain rfl:=oi bi;exact aM bg (((U.Ab Z).Ab ag).Ab az) aA rfl Y
      ·refine Er 42 ba (fun bj bl=>?_) (fun bj bm=>?_)
       ·obtain⟨bK,bn,bo⟩:=bs bl;refine zg 3 rfl (BW bn rfl rfl rfl ?_);obtain⟨bL,bp,bq⟩:=bs bo;refine Cf (an.Ag (((V.Ab U).Ab Z).Ab ag)) bp underlying28 A3 ?_;rintro bM bN _ rfl br;refine BV 0 br Bw rfl rfl rfl (zg 2 rfl ?_);obtain rfl:=oi bq;exact aB Aq aj rfl
       ·refine zg 8 rfl ?_;obtain rfl:=oi bm;exact aB Aq aj rfl
    ·refine Er 32 a3 (fun bu bv=>?_) (fun bu bw=>?_)
     ·refine zg 1 rfl (Az (v:= .bool (!p3)) rfl (fun ρ h=>Yl.not (h _ _ rfl)) ?_);refine zg 1 rfl ?_;obtain rfl:=oi bv;exact ay Aq ai rfl
     ·refine zg 3 rfl ?_;obtain rfl:=oi bw;exact ay Aq ai rfl
  ·refine JL.exit rfl ?_;obtain rfl:=oi aP;have bx:aq=(Sum.inr ()):=(ae _ Y).symm;exact AB (aK _ _ ⟨(),aL,bx,rfl,rfl,U,av⟩) rfl
def Lm(fuel:Nat)(p0:BI)(K:Int):Option (Bi Int (((Option (Int×Int)))⊕(Unit))):= if K<(p0.1.length:Int) then((ix p0.1 K).bind fun O=> if(O.length:Int)=0 then(some (.done (Sum.inl (some (7,K))))) else(if 3<(O.length:Int) then(some (.done (Sum.inl (some (6,K))))) else((f136 fuel p0 K O true).bind fun U=> if U.isSome=true then(some (.done (Sum.inl U))) else((ix p0.2 K).bind fun W=> if 3<(W.length:Int) then(some (.done (Sum.inl (some (6,K))))) else((ix p0.2 K).bind fun Y=> (f136 fuel p0 K Y false).bind fun V=> if V.isSome=true then(some (.done (Sum.inl V))) else((Av (K+1)).bind fun Z=> some (.more Z))))))) else(some (.done (Sum.inr ())))
def f113(fuel:Nat)(p0:BI):Option ((Option (Int×Int))):= if(p0.1.length:Int)=0 then(some (some (7,0))) else(if 8<(p0.1.length:Int) then(some (some (6,0))) else(if(p0.2.length:Int)≠(p0.1.length:Int) then(some (some (9,0))) else(Option.bind (iter (Lm fuel p0) fuel 0) fun K=> Sum.elim (fun r=>some r) (fun O=> some none) K)))
theorem P3{ai:Ap}{c2:Nat}{al:Ap}{am:Nat}{p0:BI}(aj:An (rL rI) E ai c2 p0.1)(ae:An (rL rI) E al am p0.2){fuel:Nat}{r:(Option (Int×Int))}(an:f113 fuel p0=some r):AP J 113 [.agg #[sV ai p0.1 c2,sV al p0.2 am]] E [] (fun w E' B'=>∃(ao:Value),w=ao∧B'= []∧HX 183 ao r):=by
 refine A9 func113 fun Q bH cs H aA W=>?_;unfold f113 at an;refine zg 2 rfl (CB aA fun aB aC O Z ag=>?_);refine zg 5 rfl (JL.fl 0 Z underlying24 Ck C6 ?_);refine Bx underlying22 rfl rfl rfl (zg 9 rfl ?_);refine AS an (fun aD aE=>?_) (fun aD aF=>?_)
 ·refine zg 2 rfl (Az (v:= .agg #[iV 7,iV 0]) rfl (fun ρ h=>CO [(0,1),(1,1)] h Fu underlying183 ⟨rfl,Bm type39,rfl,Bm type3,trivial⟩ rfl rfl) ?_);refine Az (v:= .iface 183 (.agg #[iV 7,iV 0])) rfl (fun ρ h=>EI underlying183 (fun _ h=>by cases h) (h _ _ rfl)) (zg 2 rfl ?_);obtain rfl:=oi aE;exact AN func113 rfl rfl (W O rfl ⟨.iface 183 (.agg #[iV 7,iV 0]),rfl,rfl,rfl⟩ ag)
 ·refine zg 6 rfl (AS aF (fun aG aH=>?_) (fun aG aI=>?_))
  ·refine zg 2 rfl (Az (v:= .agg #[iV 6,iV 0]) rfl (fun ρ h=>CO [(0,1),(1,1)] h Fu underlying183 ⟨rfl,Bm type39,rfl,Bm type3,trivial⟩ rfl rfl) ?_);refine Az (v:= .iface 183 (.agg #[iV 6,iV 0])) rfl (fun ρ h=>EI underlying183 (fun _ h=>by cases h) (h _ _ rfl)) (zg 2 rfl ?_);obtain rfl:=oi aH;exact AN func113 rfl rfl (W O rfl ⟨.iface 183 (.agg #[iV 6,iV 0]),rfl,rfl,rfl⟩ ag)
  ·refine zg 2 rfl (JL.fl 1 Z underlying24 Ck C6 ?_);refine Bx underlying22 rfl rfl rfl (zg 4 rfl ?_);refine AS aI (fun aJ aK=>?_) (fun aJ aL=>?_)
   ·refine zg 2 rfl (Az (v:= .agg #[iV 9,iV 0]) rfl (fun ρ h=>CO [(0,1),(1,1)] h Fu underlying183 ⟨rfl,Bm type39,rfl,Bm type3,trivial⟩ rfl rfl) ?_);refine Az (v:= .iface 183 (.agg #[iV 9,iV 0])) rfl (fun ρ h=>EI underlying183 (fun _ h=>by cases h) (h _ _ rfl)) (zg 2 rfl ?_);obtain rfl:=oi aK;exact AN func113 rfl rfl (W O rfl ⟨.iface 183 (.agg #[iV 9,iV 0]),rfl,rfl,rfl⟩ ag)
   ·refine zg 5 rfl (JL.fl 0 Z underlying24 Ck C6 ?_);refine Bx underlying22 rfl rfl rfl ?_;obtain⟨ap,aM,aa⟩:=bs aL;refine zg 2 rfl (Bs (fun L s=>∃(aq:Unit) (ar:LH),ap=Sum.inr aq∧Jm aC H ar [] [] L s) ?_ ?_)
    ·rintro _ _ ⟨aq,ar,rfl,rfl,rfl,aN,aO⟩;have aP:=elim_inr aa;refine zg 4 rfl ?_;obtain rfl:=oi aP;exact AN func113 rfl rfl (W (O.Ab aN) rfl ⟨.nilIface,rfl,rfl,rfl⟩ aO)
    ·intro aQ;refine JL.block (Cs aM (fun U=> []) (fun U=> [(1,pV aB 0),(30,sV ai p0.1 c2),(31,iV (p0.1.length:Int)),(32,iV U)]) Aq ag ?_);rintro U aR K ah ab ⟨bI,Y⟩ aS;have au:=Y;unfold Lm at au;refine zg 5 rfl (AS au (fun aT aU=>?_) (fun aT aV=>?_))
     ·obtain⟨bJ,aW,aX⟩:=bs aU;refine zg 6 rfl (Cf (aj.Ag (O.Ab K)) aW underlying22 B7 ?_);rintro bK bL _ ⟨bM,bN,rfl,aY⟩ aZ;refine BV 0 aZ DC rfl rfl rfl (zg 7 rfl ?_);refine Bx underlying28 rfl rfl rfl (zg 2 rfl ?_);refine AS aX (fun a0 a1=>?_) (fun a0 a2=>?_)
      ·refine zg 3 rfl (Az (v:= .agg #[iV 7,iV U]) rfl (fun ρ h=>CO [(0,1),(1,1)] h Fu underlying183 ⟨rfl,Bm type39,rfl,Bm type3,trivial⟩ rfl rfl) ?_);refine Az (v:= .iface 183 (.agg #[iV 7,iV U])) rfl (fun ρ h=>EI underlying183 (fun _ h=>by cases h) (h _ _ rfl)) (zg 2 rfl ?_);obtain rfl:=oi a1;obtain rfl:=ab _ Y;have a3:=elim_inl aa;obtain rfl:=oi a3;exact AN func113 rfl rfl (W (O.Ab K) rfl ⟨.iface 183 (.agg #[iV 7,iV U]),rfl,rfl,rfl⟩ ah)
      ·refine zg 5 rfl (Bx underlying28 rfl rfl rfl ?_);refine zg 2 rfl (AS a2 (fun a4 a5=>?_) (fun a4 a6=>?_))
       ·refine zg 3 rfl (Az (v:= .agg #[iV 6,iV U]) rfl (fun ρ h=>CO [(0,1),(1,1)] h Fu underlying183 ⟨rfl,Bm type39,rfl,Bm type3,trivial⟩ rfl rfl) ?_);refine Az (v:= .iface 183 (.agg #[iV 6,iV U])) rfl (fun ρ h=>EI underlying183 (fun _ h=>by cases h) (h _ _ rfl)) (zg 2 rfl ?_);obtain rfl:=oi a5;obtain rfl:=ab _ Y;have a7:=elim_inl aa;obtain rfl:=oi a7;exact AN func113 rfl rfl (W (O.Ab K) rfl ⟨.iface 183 (.agg #[iV 6,iV U]),rfl,rfl,rfl⟩ ah)
       ·refine zg 4 rfl (Cl (Z.Ag K) Cx Ca rfl rfl ?_);obtain⟨a8,a9,ba⟩:=bs a6;refine zg 2 rfl (BH (Qt (aj.Ag (O.Ab K)) (ae.Ag (O.Ab K)) aY a9) rfl rfl (AX func136 rfl) ah ?_);rintro bb bO _ V ⟨_,rfl,rfl,av⟩ ak;refine zg 5 rfl (Az (v:= .bool a8.isSome) rfl (fun ρ h=>MM underlying149 av (h _ _ rfl) (h _ _ rfl)) ?_);refine JL.done (BL ba (fun bc bd=>?_) (fun bc be=>?_))
        ·refine zg 5 rfl ?_;obtain rfl:=oi bd;obtain rfl:=ab _ Y;have bf:=elim_inl aa;obtain rfl:=oi bf;exact AN func113 rfl rfl (W ((O.Ab K).Ab V) rfl ⟨bb,rfl,rfl,av⟩ ak)
        ·refine zg 4 rfl (JL.fl 1 (Z.Ag (K.Ab V)) underlying24 Ck C6 ?_);obtain⟨bP,bg,bh⟩:=bs be;refine zg 1 rfl (Cf (ae.Ag ((O.Ab K).Ab V)) bg underlying22 B7 ?_);rintro bQ bR _ ⟨bS,bT,rfl,bU⟩ bi;refine BV 0 bi DC rfl rfl rfl (Bx underlying28 rfl rfl rfl ?_);refine zg 2 rfl (AS bh (fun bj bl=>?_) (fun bj bm=>?_))
         ·refine zg 3 rfl (Az (v:= .agg #[iV 6,iV U]) rfl (fun ρ h=>CO [(0,1),(1,1)] h Fu underlying183 ⟨rfl,Bm type39,rfl,Bm type3,trivial⟩ rfl rfl) ?_);refine Az (v:= .iface 183 (.agg #[iV 6,iV U])) rfl (fun ρ h=>EI underlying183 (fun _ h=>by cases h) (h _ _ rfl)) (zg 2 rfl ?_);obtain rfl:=oi bl;obtain rfl:=ab _ Y;have bn:=elim_inl aa;obtain rfl:=oi bn;exact AN func113 rfl rfl (W ((O.Ab K).Ab V) rfl ⟨.iface 183 (.agg #[iV 6,iV U]),rfl,rfl,rfl⟩ ak)
         ·refine zg 2 rfl (Ep 7 fun ht=>?_);refine Ii 0 ht (Z.Ag (K.Ab V)) Cx Ca rfl rfl rfl (Ct 1 ht rfl rfl ?_);refine Ce 2 ht underlying24 Ck rfl rfl rfl rfl (DR 3 ht 1 (Z.Ag (K.Ab V)) C6 rfl rfl rfl rfl ?_);refine Ct 4 ht rfl rfl ?_;obtain⟨bV,bo,bp⟩:=bs bm;refine Hk 5 (ae.Ag ((O.Ab K).Ab V)) bo ht underlying22 B7 ?_;rintro bW bY _ ⟨bZ,b0,rfl,bq⟩ br;refine DR 6 ht 0 br DC rfl rfl rfl rfl (Cp [7,8] ?_);obtain⟨bu,bv,bw⟩:=bs bp;refine BH (Qt (aj.Ag ((O.Ab K).Ab V)) (ae.Ag ((O.Ab K).Ab V)) bq bv) rfl rfl (AX func136 rfl) ak ?_;rintro bx b1 _ aw ⟨_,rfl,rfl,ay⟩ az;refine zg 5 rfl (Az (v:= .bool bu.isSome) rfl (fun ρ h=>MM underlying149 ay (h _ _ rfl) (h _ _ rfl)) ?_);refine JL.done (BL bw (fun bz bA=>?_) (fun bz bB=>?_))
          ·refine zg 5 rfl ?_;obtain rfl:=oi bA;obtain rfl:=ab _ Y;have bC:=elim_inl aa;obtain rfl:=oi bC;exact AN func113 rfl rfl (W (((O.Ab K).Ab V).Ab aw) rfl ⟨bx,rfl,rfl,ay⟩ az)
          ·obtain⟨bD,bE,bF⟩:=bs bB;refine zg 3 rfl (Bg bE rfl rfl rfl ?_);refine zg 2 rfl ?_;obtain rfl:=oi bF;exact aS bD ((K.Ab V).Ab aw) az rfl Y
     ·refine JL.exit rfl ?_;obtain rfl:=oi aV;have bG:ap=(Sum.inr ()):=(ab _ Y).symm;exact AB (aQ _ _ ⟨(),aR,bG,rfl,rfl,K,ah⟩) rfl
def Lo(fuel:Nat)(p0:BI)(p1:AY)(K:Int):Option (Bi Int (((Option (Int×Int)))⊕(Unit))):= if K<(p1.length:Int) then((ix p1 K).bind fun O=> (f101 fuel O.1 0 6).bind fun U=> if U=true then(some (.done (Sum.inl (some (1,K))))) else(Option.bind (if 0<K then((Av (K - 1)).bind fun V=> (ix p1 V).bind fun W=> some (decide (O.1<W.1))) else(some false)) fun Y=> if Y=true then(some (.done (Sum.inl (some (5,K))))) else((Av ((p0.1.length:Int) - 1)).bind fun Z=> (f101 fuel O.2 0 Z).bind fun aa=> if aa=true then(some (.done (Sum.inl (some (3,K))))) else((Av (K+1)).bind fun ab=> some (.more ab))))) else(some (.done (Sum.inr ())))
def f116(fuel:Nat)(p0:BI)(p1:AY):Option ((Option (Int×Int))):= if 4<(p1.length:Int) then(some (some (6,0))) else(Option.bind (iter (Lo fuel p0 p1) fuel 0) fun K=> Sum.elim (fun r=>some r) (fun O=> some none) K)
theorem Vr{ak:Ap}{c2:Nat}{al:Ap}{am:Nat}{W:Ap}{Y:Nat}{p0:BI}{p1:AY}(bB:An (rL rI) E ak c2 p0.1)(bC:An (rL rI) E al am p0.2)(an:An BE E W Y p1){fuel:Nat}{r:(Option (Int×Int))}(ao:f116 fuel p0 p1=some r):AP J 116 [.agg #[sV ak p0.1 c2,sV al p0.2 am],sV W p1 Y] E [] (fun w E' B'=>∃(ap:Value),w=ap∧B'= []∧HX 183 ap r):=by
 refine A9 func116 fun Q bD cs H aE ab=>?_;unfold f116 at ao;refine zg 2 rfl (CB aE fun aq aF V aG ar=>?_);refine zg 6 rfl (Bx underlying25 rfl rfl rfl ?_);refine zg 2 rfl (AS ao (fun aH aI=>?_) (fun aH aJ=>?_))
 ·refine zg 2 rfl (Az (v:= .agg #[iV 6,iV 0]) rfl (fun ρ h=>CO [(0,1),(1,1)] h Fu underlying183 ⟨rfl,Bm type39,rfl,Bm type3,trivial⟩ rfl rfl) ?_);refine Az (v:= .iface 183 (.agg #[iV 6,iV 0])) rfl (fun ρ h=>EI underlying183 (fun _ h=>by cases h) (h _ _ rfl)) (zg 2 rfl ?_);obtain rfl:=oi aI;exact AN func116 rfl rfl (ab V rfl ⟨.iface 183 (.agg #[iV 6,iV 0]),rfl,rfl,rfl⟩ ar)
 ·refine zg 5 rfl (Bx underlying25 rfl rfl rfl ?_);obtain⟨au,aK,ae⟩:=bs aJ;refine zg 2 rfl (Bs (fun L s=>∃(av:Unit) (aw:LH),au=Sum.inr av∧Jm aF H aw [] [] L s) ?_ ?_)
  ·rintro _ _ ⟨av,aw,rfl,rfl,rfl,aL,aM⟩;have aN:=elim_inr ae;refine zg 4 rfl ?_;obtain rfl:=oi aN;exact AN func116 rfl rfl (ab (V.Ab aL) rfl ⟨.nilIface,rfl,rfl,rfl⟩ aM)
  ·intro aO;refine JL.block (Cs aK (fun K=> []) (fun K=> [(1,sV W p1 Y),(2,pV aq 0),(12,sV W p1 Y),(13,iV (p1.length:Int)),(14,iV K)]) Aq ar ?_);rintro K aP O ay ag ⟨bE,Z⟩ aQ;have az:=Z;unfold Lo at az;refine zg 5 rfl (AS az (fun aR aS=>?_) (fun aR aT=>?_))
   ·obtain⟨bF,aU,aV⟩:=bs aS;refine zg 6 rfl (Cf (an.Ag (V.Ab O)) aU underlying25 CK ?_);rintro bG bH _ ⟨_,_,rfl,rfl,rfl⟩ aW;refine Cl aW H0 CK rfl rfl (Cr ay FG fun aX aY=>?_);refine zg 1 rfl (BF 0 aY CK fun aZ=>?_);refine C9 0 aZ rfl fun bI aa ah a0=>zg 4 rfl (JL.fl 0 ah underlying27 A3 Bw ?_);obtain⟨bJ,a1,a2⟩:=bs aV;refine BK (Ih a1) rfl rfl H2 a0 fun a3 U ai=>zg 2 rfl (BL a2 (fun a4 a5=>?_) (fun a4 a6=>?_))
    ·refine zg 3 rfl (Az (v:= .agg #[iV 1,iV K]) rfl (fun ρ h=>CO [(0,1),(1,1)] h Fu underlying183 ⟨rfl,Bm type39,rfl,Bm type3,trivial⟩ rfl rfl) ?_);refine Az (v:= .iface 183 (.agg #[iV 1,iV K])) rfl (fun ρ h=>EI underlying183 (fun _ h=>by cases h) (h _ _ rfl)) (zg 2 rfl ?_);obtain rfl:=oi a5;obtain rfl:=ag _ Z;have a7:=elim_inl ae;obtain rfl:=oi a7;exact AN func116 rfl rfl (ab (((V.Ab O).Ab aa).Ab U) rfl ⟨.iface 183 (.agg #[iV 1,iV K]),rfl,rfl,rfl⟩ ai)
    ·refine JL.seq (Ep 13 fun ht=>?_);refine Bp ht rfl [0,1,2] rfl ?_;obtain⟨a8,aA,a9⟩:=bs a6;refine FL 1 #[true,true,true,true,true,true,true,true,true,true,true,true,true,false] (fun L s=>L= [(1,sV W p1 Y),(2,pV aq 0),(5,iV K),(6,pV aX 0),(12,sV W p1 Y),(13,iV (p1.length:Int)),(14,iV K),(39,.bool a8)]∧s=Al a3 H [[],[]]) ?_ ?_
     ·rintro _ _ ⟨rfl,rfl⟩;refine Cp [13] (zg 2 rfl ?_);refine BL a9 (fun ba bb=>?_) (fun ba bc=>?_)
      ·refine zg 3 rfl (Az (v:= .agg #[iV 5,iV K]) rfl (fun ρ h=>CO [(0,1),(1,1)] h Fu underlying183 ⟨rfl,Bm type39,rfl,Bm type3,trivial⟩ rfl rfl) ?_);refine Az (v:= .iface 183 (.agg #[iV 5,iV K])) rfl (fun ρ h=>EI underlying183 (fun _ h=>by cases h) (h _ _ rfl)) (zg 2 rfl ?_);obtain rfl:=oi bb;obtain rfl:=ag _ Z;have bd:=elim_inl ae;obtain rfl:=oi bd;exact AN func116 rfl rfl (ab (((V.Ab O).Ab aa).Ab U) rfl ⟨.iface 183 (.agg #[iV 5,iV K]),rfl,rfl,rfl⟩ ai)
      ·refine zg 2 rfl (JL.fl 1 (ah.Ag U) underlying27 A3 Bw ?_);refine JL.fl 0 (aG.Ag ((O.Ab aa).Ab U)) underlying24 Ck C6 ?_;refine Bx underlying22 rfl rfl rfl ?_;obtain⟨bK,be,bf⟩:=bs bc;refine BW be rfl rfl rfl ?_;obtain⟨bL,bg,bh⟩:=bs bf;refine BK (Ih bg) rfl rfl H2 ai fun bM aB aC=>zg 2 rfl (BL bh (fun bi bj=>?_) (fun bi bl=>?_))
       ·refine zg 3 rfl (Az (v:= .agg #[iV 3,iV K]) rfl (fun ρ h=>CO [(0,1),(1,1)] h Fu underlying183 ⟨rfl,Bm type39,rfl,Bm type3,trivial⟩ rfl rfl) ?_);refine Az (v:= .iface 183 (.agg #[iV 3,iV K])) rfl (fun ρ h=>EI underlying183 (fun _ h=>by cases h) (h _ _ rfl)) (zg 2 rfl ?_);obtain rfl:=oi bj;obtain rfl:=ag _ Z;have bm:=elim_inl ae;obtain rfl:=oi bm;exact AN func116 rfl rfl (ab ((((V.Ab O).Ab aa).Ab U).Ab aB) rfl ⟨.iface 183 (.agg #[iV 3,iV K]),rfl,rfl,rfl⟩ aC)
       ·obtain⟨bn,bo,bp⟩:=bs bl;refine zg 4 rfl (Bg bo rfl rfl rfl ?_);refine zg 2 rfl ?_;obtain rfl:=oi bp;exact aQ bn (((O.Ab aa).Ab U).Ab aB) aC rfl Z
     ·intro aD;refine FY (q:=0<K) (i:=29) rfl (fun aj=>?_) (fun aj=>?_)
      ·have bq:=ip aA aj;refine Ce 3 ht underlying27 A3 rfl rfl rfl rfl ?_;refine DR 4 ht 0 (ah.Ag U) Bw rfl rfl rfl rfl ?_;refine Bp ht rfl [5,6] rfl ?_;obtain⟨bN,br,bu⟩:=bs bq;refine BC 7 ht rfl rfl (fun ρ h s' hs=>CY (h _ _ rfl) (h _ _ rfl) br) ?_;obtain⟨bO,bv,bw⟩:=bs bu;refine Hk 8 (an.Ag (((V.Ab O).Ab aa).Ab U)) bv ht underlying25 CK ?_;rintro bP bQ _ ⟨_,_,rfl,rfl,rfl⟩ bx;refine Ce 9 ht underlying27 A3 rfl rfl rfl rfl ?_;refine DR 10 ht 0 bx Bw rfl rfl rfl rfl ?_;refine Bp ht rfl [11,12] rfl ?_;obtain rfl:=oi bw;refine DD ?_ (aD _ _ ⟨rfl,rfl⟩);exact⟨rfl,rfl,rfl,rfl,rfl,rfl,rfl,rfl,trivial⟩
      ·have bz:=im aA aj;refine Bp ht rfl [3,4,5,6,7,8,9,10,11,12] rfl ?_;obtain rfl:=oi bz;refine DD ?_ (aD _ _ ⟨rfl,rfl⟩);exact⟨rfl,rfl,rfl,rfl,rfl,rfl,rfl,rfl,trivial⟩
   ·refine JL.exit rfl ?_;obtain rfl:=oi aT;have bA:au=(Sum.inr ()):=(ag _ Z).symm;exact AB (aO _ _ ⟨(),aP,bA,rfl,rfl,O,ay⟩) rfl
end Pal
namespace Pal
open Go Go.Conc Go.Proofs
open Go.Proofs.Tryz
variable {J:Judge Tryz.prog}{E:LH}
def f135(fuel:Nat):Option Bool:= some false
theorem VA{O:Value}{fuel:Nat}{r:Bool}(K:f135 fuel=some r):AP J 135 [.nilIface,O] E [] (fun w E' B'=>w= .bool r∧B'= []):=by
 refine A9 func135 fun Q W cs H U V=>?_;unfold f135 at K;refine zg 8 rfl ?_;refine Az (v:= .bool true) rfl (fun ρ h=>Tw underlying149 (show HX 0 .nilIface none from rfl) (h _ _ rfl) (h _ _ rfl)) (zg 6 rfl ?_);obtain rfl:=oi K;exact AN func135 rfl rfl (V Aq rfl ⟨rfl,rfl⟩ U)
def f112(fuel:Nat):Option Int:= (f135 fuel).bind fun K=> if K=true then(some 0) else(some 0)
theorem VQ{fuel:Nat}{r:Int}(O:f112 fuel=some r):AP J 112 [.nilIface] E [] (fun w E' B'=>w=iV r∧B'= []):=by
 refine A9 func112 fun Q ak cs H W U=>?_;unfold f112 at O;refine zg 6 rfl (Cr W Fu fun Y Z=>?_);refine zg 5 rfl (Az (v:=(.iface 185 (pV Y 0))) rfl (fun ρ h=>EI underlying185 (fun _ h=>by cases h) (h _ _ rfl)) ?_);obtain⟨al,aa,ab⟩:=bs O;refine BK (VA aa) rfl rfl (AX func135 rfl) Z fun am V K=>JL.done (BL ab (fun ae ag=>?_) (fun ae ah=>?_))
 ·refine zg 2 rfl (Bu underlying183 (Bm type39) rfl rfl rfl ?_);refine Az (v:=iV 0) rfl (fun ρ h=>Yl.load (DO underlying39) (h _ _ rfl) (Di (j:=1) (off:=0) K rfl rfl)) (zg 2 rfl ?_);refine JS.drop 1 K rfl fun ai=>?_;obtain rfl:=oi ag;exact AN func112 rfl rfl (U V rfl ⟨rfl,rfl⟩ ai)
 ·refine zg 5 rfl (JS.drop 1 K rfl fun aj=>?_);obtain rfl:=oi ah;exact AN func112 rfl rfl (U V rfl ⟨rfl,rfl⟩ aj)
def IX(fuel:Nat)(p0:Option (Int×Int)):Option Int:=match p0 with
 | none=>f112 fuel
 | some _=>none
theorem Nf{v:Value}{p0:Option (Int×Int)}(h:HX 183 v p0){fuel:Nat}{r:Int}(K:IX fuel p0=some r):AP J 112 [v] E [] (fun w E' B'=>w=iV r∧B'= []):=by
 cases p0 with
 | none=>obtain rfl:v= .nilIface:=h;exact VQ K
 | some _=>cases K
end Pal
namespace Pal
open Go Go.Conc Go.Proofs
open Go.Proofs.Tryz
variable {J:Judge Tryz.prog}{E:LH}
def f67(fuel:Nat)(p0:BI):Option Int:= (f113 fuel p0).bind fun K=> (IX fuel K).bind fun O=> some O
theorem Wa{O:Ap}{c2:Nat}{U:Ap}{V:Nat}{p0:BI}(Y:An (rL rI) E O c2 p0.1)(Z:An (rL rI) E U V p0.2){fuel:Nat}{r:Int}(W:f67 fuel p0=some r):AP J 67 [.agg #[sV O p0.1 c2,sV U p0.2 V]] E [] (fun w E' B'=>w=iV r∧B'= []):=by
 refine A9 func67 fun Q aq cs H aa ab=>?_;unfold f67 at W;refine zg 2 rfl (CB aa fun ar au K ae ag=>?_);refine zg 4 rfl (Cl ae Cx Ca rfl rfl ?_);obtain⟨av,ah,ai⟩:=bs W;refine BH (P3 (Y.Ag K) (Z.Ag K) ah) rfl rfl (AX func113 rfl) ag ?_;rintro aw ay _ aj ⟨_,rfl,rfl,ak⟩ al;obtain⟨az,am,an⟩:=bs ai;refine BK (Nf ak am) rfl rfl Mf al fun aA ao ap=>zg 2 rfl ?_;obtain rfl:=oi an;exact AN func67 rfl rfl (ab ((K.Ab aj).Ab ao) rfl ⟨rfl,rfl⟩ ap)
def f69(fuel:Nat)(p0:BI)(p1:AY):Option Int:= (f113 fuel p0).bind fun K=> if K.isSome=true then((IX fuel K).bind fun O=> some O) else((f116 fuel p0 p1).bind fun U=> (IX fuel U).bind fun V=> some V)
theorem JP{U:Ap}{c2:Nat}{V:Ap}{W:Nat}{Y:Ap}{Z:Nat}{p0:BI}{p1:AY}(aa:An (rL rI) E U c2 p0.1)(ab:An (rL rI) E V W p0.2)(ak:An BE E Y Z p1){fuel:Nat}{r:Int}(ae:f69 fuel p0 p1=some r):AP J 69 [.agg #[sV U p0.1 c2,sV V p0.2 W],sV Y p1 Z] E [] (fun w E' B'=>w=iV r∧B'= []):=by
 refine A9 func69 fun Q aJ cs H al ag=>?_;unfold f69 at ae;refine zg 2 rfl (CB al fun aK aL K ah am=>?_);refine zg 5 rfl (Cl ah Cx Ca rfl rfl ?_);obtain⟨an,ao,ap⟩:=bs ae;refine BH (P3 (aa.Ag K) (ab.Ag K) ao) rfl rfl (AX func113 rfl) am ?_;rintro aM aN _ O ⟨_,rfl,rfl,ai⟩ aj;refine zg 5 rfl (Az (v:= .bool an.isSome) rfl (fun ρ h=>MM underlying149 ai (h _ _ rfl) (h _ _ rfl)) ?_);refine JL.done (BL ap (fun aq ar=>?_) (fun aq au=>?_))
 ·obtain⟨aO,av,aw⟩:=bs ar;refine zg 3 rfl (BK (Nf ai av) rfl rfl Mf aj fun aP ay az=>?_);refine zg 2 rfl ?_;obtain rfl:=oi aw;exact AN func69 rfl rfl (ag ((K.Ab O).Ab ay) rfl ⟨rfl,rfl⟩ az)
 ·refine zg 3 rfl (Cl (ah.Ag O) Cx Ca rfl rfl ?_);obtain⟨aQ,aA,aB⟩:=bs au;refine zg 1 rfl (BH (Vr (aa.Ag (K.Ab O)) (ab.Ag (K.Ab O)) (ak.Ag (K.Ab O)) aA) rfl rfl (AX func116 rfl) aj ?_);rintro aR aS _ aC ⟨_,rfl,rfl,aD⟩ aE;obtain⟨aT,aF,aG⟩:=bs aB;refine BK (Nf aD aF) rfl rfl Mf aE fun aU aH aI=>zg 2 rfl ?_;obtain rfl:=oi aG;exact AN func69 rfl rfl (ag (((K.Ab O).Ab aC).Ab aH) rfl ⟨rfl,rfl⟩ aI)
def PE(fuel:Nat)(p0:BJ)(O:(List Int))(K:Nat×Int):Option (Bi (Nat×Int) Nat):= if K.2<(O.length:Int) then((ix O K.2).bind fun U=> (ix p0.1 U).bind fun V=> (f120 fuel V).bind fun W=> (Ir K.1 W).bind fun Y=> (Av (K.2+1)).bind fun Z=> some (.more (Y,Z))) else(some (.done K.1))
def f121(fuel:Nat)(p0:BJ)(p1:Nat):Option Nat:= (f89 fuel p1).bind fun K=> Option.bind (iter (PE fuel p0 K) fuel (0,0)) fun O=> some O
theorem UW{k1:Nat}{U:Nat}{Y:Ap}{Z:Nat}{aa:Ap}{ab:Nat}{ae:Lv_}{p0:BJ}{p1:Nat}(al:At E k1 U (([sV Y p0.1 Z,sV aa p0.2.1 ab]:Lv_)++ae))(am:An (rL rI) E Y Z p0.1)(aZ:An (rL rI) E aa ab p0.2.1)(a0:(rA 13 (rN .u16)).r E ae p0.2.2){fuel:Nat}{r:Nat}(ag:f121 fuel p0 p1=some r):AP J 121 [pV k1 U,uV p1] E [] (fun w E' B'=>w= uV r∧B'= []):=by
 refine A9 func121 fun Q a1 cs H an ao=>?_;unfold f121 at ag;obtain⟨ah,ap,aq⟩:=bs ag;refine zg 12 rfl (BH (Ij ap) rfl rfl H3 an ?_);rintro _ a2 _ V ⟨ar,au,rfl,rfl,av⟩ aw;refine Bx underlying28 rfl rfl rfl ?_;obtain⟨ay,az,aA⟩:=bs aq;refine zg 2 rfl (Cq [] [(5,uV ay)] (fun a3 aB aC=>?_) (fun aD=>?_))
 ·refine zg 5 rfl ?_;obtain rfl:=oi aA;exact AN func121 rfl rfl (ao (V.Ab aB) rfl ⟨rfl,rfl⟩ aC)
 ·refine JL.block (Cs az (fun O=> []) (fun O=> [(0,pV k1 U),(5,uV O.1),(9,sV ar ah au),(10,iV (ah.length:Int)),(11,iV O.2)]) Aq aw ?_);rintro O a4 K ai aE ⟨a5,W⟩ aF;have aj:=W;unfold PE at aj;refine zg 5 rfl (AS aj (fun aG aH=>?_) (fun aG aI=>?_))
  ·obtain⟨a6,aJ,aK⟩:=bs aH;refine zg 5 rfl (Cf (av.Ag K) aJ underlying28 A3 ?_);rintro a7 a8 _ rfl aL;refine BV 0 aL Bw rfl rfl rfl (zg 6 rfl ?_);refine Bu underlying141 Ca rfl rfl rfl (JL.fl 0 (al.Ag (V.Ab K)) underlying24 Ck C6 ?_);obtain⟨a9,aM,aN⟩:=bs aK;refine zg 1 rfl (Cf (am.Ag (V.Ab K)) aM underlying22 B7 ?_);rintro ba bb _ ⟨bc,bd,rfl,aO⟩ aP;refine BV 0 aP DC rfl rfl rfl ?_;obtain⟨be,aQ,aR⟩:=bs aN;refine BK (IQ aO aQ) rfl rfl It ai fun bf aS aT=>?_;obtain⟨ak,aU,aV⟩:=bs aR;refine Az (v:= uV ak) rfl (fun ρ h=>Jo (h _ _ rfl) (h _ _ rfl) aU) ?_;obtain⟨aW,aX,aY⟩:=bs aV;refine zg 4 rfl (Bg aX rfl rfl rfl ?_);refine zg 2 rfl ?_;obtain rfl:=oi aY;exact aF (ak,aW) (K.Ab aS) aT rfl W
  ·refine JL.exit rfl ?_;obtain rfl:=oi aI;obtain rfl:=aE _ W;exact aD K ai rfl
def f130(fuel:Nat)(p0:BS):Option Int:= (f89 fuel p0.2.2).bind fun K=> some (K.length:Int)
theorem Vq{K:Ap}{c2:Nat}{p0:BS}(ah:An rI E K c2 p0.2.1){fuel:Nat}{r:Int}(O:f130 fuel p0=some r):AP J 130 [.agg #[iV p0.1,sV K p0.2.1 c2,uV p0.2.2]] E [] (fun w E' B'=>w=iV r∧B'= []):=by
 refine A9 func130 fun Q ai cs H U V=>?_;unfold f130 at O;refine zg 2 rfl (CB U fun aj ak W Y Z=>?_);refine zg 4 rfl (JL.fl 2 Y underlying104 DN Gj ?_);obtain⟨al,aa,ab⟩:=bs O;refine BH (Ij aa) rfl rfl H3 Z ?_;rintro _ am _ ae ⟨an,ao,rfl,rfl,ap⟩ ag;refine Bx underlying28 rfl rfl rfl (zg 2 rfl ?_);obtain rfl:=oi ab;exact AN func130 rfl rfl (V (W.Ab ae) rfl ⟨rfl,rfl⟩ ag)
def P4(fuel:Nat)(p0:List BS)(K:Nat×Int):Option (Bi (Nat×Int) Nat):= if K.2<(p0.length:Int) then((ix p0 K.2).bind fun O=> (f90 fuel K.1 O.1).bind fun U=> (Av (K.2+1)).bind fun V=> some (.more (U,V))) else(some (.done K.1))
def f87(fuel:Nat)(p0:List BS):Option Nat:= Option.bind (iter (P4 fuel p0) fuel (0,0)) fun K=> some K
theorem VY{O:Ap}{c2:Nat}{p0:List (BS)}(aa:An CV E O c2 p0){fuel:Nat}{r:Nat}(W:f87 fuel p0=some r):AP J 87 [sV O p0 c2] E [] (fun w E' B'=>w= uV r∧B'= []):=by
 refine A9 func87 fun Q aK cs H ab ae=>?_;unfold f87 at W;refine zg 12 rfl (Bx underlying95 rfl rfl rfl ?_);obtain⟨ag,ah,ai⟩:=bs W;refine zg 2 rfl (Cq [] [(3,uV ag)] (fun aL aj ak=>?_) (fun al=>?_))
 ·refine zg 5 rfl ?_;obtain rfl:=oi ai;exact AN func87 rfl rfl (ae aj rfl ⟨rfl,rfl⟩ ak)
 ·refine JL.block (Cs ah (fun K=> []) (fun K=> [(3,uV K.1),(6,sV O p0 c2),(7,iV (p0.length:Int)),(8,iV K.2)]) Aq ab ?_);rintro K aM U Y am ⟨aN,V⟩ an;have Z:=V;unfold P4 at Z;refine zg 5 rfl (AS Z (fun ao ap=>?_) (fun ao aq=>?_))
  ·obtain⟨aO,ar,au⟩:=bs ap;refine zg 5 rfl (Cf (aa.Ag U) ar underlying95 B9 ?_);rintro aP aQ _ ⟨_,_,rfl,rfl,⟨_,_,rfl,⟨aR,aS,rfl,aT⟩,rfl⟩⟩ av;refine Cl av Ft B9 rfl rfl (Cr Y Gm fun aU aw=>?_);refine BF 0 aw B9 fun ay=>?_;refine C9 0 ay rfl fun aV az aA aB=>zg 3 rfl (JL.fl 0 aA underlying104 A3 Bw ?_);obtain⟨aC,aD,aE⟩:=bs au;refine BK (LN aD) rfl rfl Ko aB fun aW aF aG=>?_;obtain⟨aH,aI,aJ⟩:=bs aE;refine zg 4 rfl (Bg aI rfl rfl rfl ?_);refine zg 2 rfl ?_;obtain rfl:=oi aJ;exact an (aC,aH) ((U.Ab az).Ab aF) aG rfl V
  ·refine JL.exit rfl ?_;obtain rfl:=oi aq;obtain rfl:=am _ V;exact al U Y rfl
def QC(fuel:Nat)(p0:BJ)(O:Int)(K:Nat×Int):Option (Bi (Nat×Int) Nat):= if K.2<O then((f121 fuel p0 K.1).bind fun U=> (Av (K.2+1)).bind fun V=> some (.more (U,V))) else(some (.done K.1))
def f88(fuel:Nat)(p0:BJ)(p1:BS)(p2:Int):Option Nat:= (Av ((p1.2.1.length:Int) - 1)).bind fun K=> if p2≤K then((ix p1.2.1 p2).bind fun O=> (f120 fuel ([O]:List Int)).bind fun U=> some U) else((ix p1.2.1 K).bind fun V=> (f120 fuel ([V]:List Int)).bind fun W=> (Av (p2 - K)).bind fun Y=> Option.bind (iter (QC fuel p0 Y) fuel (W,0)) fun Z=> some Z)
theorem VX{k1:Nat}{Y:Nat}{ab:Ap}{ae:Nat}{ag:Ap}{ah:Nat}{ai:Lv_}{aj:Ap}{ak:Nat}{p0:BJ}{p1:BS}{p2:Int}(av:At E k1 Y (([sV ab p0.1 ae,sV ag p0.2.1 ah]:Lv_)++ai))(aw:An (rL rI) E ab ae p0.1)(ay:An (rL rI) E ag ah p0.2.1)(az:(rA 13 (rN .u16)).r E ai p0.2.2)(al:An rI E aj ak p1.2.1){fuel:Nat}{r:Nat}(am:f88 fuel p0 p1 p2=some r):AP J 88 [pV k1 Y,.agg #[iV p1.1,sV aj p1.2.1 ak,uV p1.2.2],iV p2] E [] (fun w E' B'=>w= uV r∧B'= []):=by
 refine A9 func88 fun Q bp cs H aA an=>?_;unfold f88 at am;refine zg 2 rfl (CB aA fun bq br K Z ao=>?_);refine zg 4 rfl (JL.fl 1 Z underlying104 B7 DC ?_);refine Bx underlying28 rfl rfl rfl ?_;obtain⟨bu,aB,aC⟩:=bs am;refine BW aB rfl rfl rfl (zg 9 rfl ?_);refine AS aC (fun aD aE=>?_) (fun aD aF=>?_)
 ·refine zg 2 rfl (JL.fl 1 Z underlying104 B7 DC ?_);obtain⟨ap,aG,aH⟩:=bs aE;refine zg 1 rfl (Cf (al.Ag K) aG underlying28 A3 ?_);rintro bv bw _ rfl aI;refine BV 0 aI Bw rfl rfl rfl (JS.lit (pp:=rI) [iV ap] [ap] rfl rfl rfl underlying28 A3 Cn (by decide) rfl rfl rfl ⟨rfl,trivial⟩ ao fun bx bz aJ aK=>?_);refine Cb 2 aJ aK rfl fun bA aL aM aN=>?_;obtain⟨bB,aO,aP⟩:=bs aH;refine BK (IQ aM aO) rfl rfl It aN fun bC aQ aR=>zg 2 rfl ?_;obtain rfl:=oi aP;exact AN func88 rfl rfl (an ((K.Ab aL).Ab aQ) rfl ⟨rfl,rfl⟩ aR)
 ·refine zg 3 rfl (JL.fl 1 Z underlying104 B7 DC ?_);obtain⟨aq,aS,aT⟩:=bs aF;refine zg 1 rfl (Cf (al.Ag K) aS underlying28 A3 ?_);rintro bD bE _ rfl aU;refine BV 0 aU Bw rfl rfl rfl (JS.lit (pp:=rI) [iV aq] [aq] rfl rfl rfl underlying28 A3 Cn (by decide) rfl rfl rfl ⟨rfl,trivial⟩ ao fun bF bG aV aW=>?_);refine Cb 2 aV aW rfl fun bH U aX aY=>?_;obtain⟨bI,aZ,a0⟩:=bs aT;refine BK (IQ aX aZ) rfl rfl It aY fun bJ V a1=>?_;obtain⟨a2,a3,a4⟩:=bs a0;refine zg 7 rfl (BW a3 rfl rfl rfl ?_);obtain⟨a5,a6,a7⟩:=bs a4;refine zg 2 rfl (Cq [] [(8,uV a5)] (fun bK a8 a9=>?_) (fun ba=>?_))
  ·refine zg 5 rfl ?_;obtain rfl:=oi a7;exact AN func88 rfl rfl (an (((K.Ab U).Ab V).Ab a8) rfl ⟨rfl,rfl⟩ a9)
  ·refine JL.block (Cs a6 (fun W=> []) (fun W=> [(0,pV k1 Y),(8,uV W.1),(32,iV a2),(33,iV W.2)]) Aq a1 ?_);rintro W bL O ar bb ⟨bM,aa⟩ bc;have au:=aa;unfold QC at au;refine zg 5 rfl (AS au (fun bd be=>?_) (fun bd bf=>?_))
   ·obtain⟨bg,bh,bi⟩:=bs be;refine zg 6 rfl (BK (UW (av.Ag (((K.Ab U).Ab V).Ab O)) (aw.Ag (((K.Ab U).Ab V).Ab O)) (ay.Ag (((K.Ab U).Ab V).Ab O)) (Rp.Ag _ (((K.Ab U).Ab V).Ab O) az) bh) rfl rfl (AX func121 rfl) ar fun bN bj bl=>?_);obtain⟨bm,bn,bo⟩:=bs bi;refine zg 4 rfl (Bg bn rfl rfl rfl ?_);refine zg 2 rfl ?_;obtain rfl:=oi bo;exact bc (bg,bm) (O.Ab bj) bl rfl aa
   ·refine JL.exit rfl ?_;obtain rfl:=oi bf;obtain rfl:=bb _ aa;exact ba O ar rfl
end Pal
namespace Pal
open Go Go.Conc Go.Proofs
open Go.Proofs.Tryz
variable {J:Judge Tryz.prog}{E:LH}
def KM(fuel:Nat)(p0:BJ)(O:(List Int))(K:Nat×Int):Option (Bi (Nat×Int) Nat):= if K.2<(O.length:Int) then((ix O K.2).bind fun U=> (ix p0.1 U).bind fun V=> (f120 fuel V).bind fun W=> (Ir K.1 W).bind fun Y=> (Av (K.2+1)).bind fun Z=> some (.more (Y,Z))) else(some (.done K.1))
def JU(fuel:Nat)(p0:BJ)(p1:Nat):Option (Nat×(BJ)):= (f89 fuel p1).bind fun K=> Option.bind (iter (KM fuel p0 K) fuel (0,0)) fun O=> some (O,p0)
theorem Ur{bk:Nat}{K:Ap}{c2:Nat}{O:Ap}{U:Nat}{V:Lv_}{p0:BJ}{p1:Nat}(ag:An (rL rI) E K c2 p0.1)(aq:An (rL rI) E O U p0.2.1)(ar:(rA 13 (rN .u16)).r E V p0.2.2){fuel:Nat}{r:Nat×(BJ)}(ah:JU fuel p0 p1=some r):AP J 121 [pV bk 0,uV p1] E [(bk,.cells (([sV K p0.1 c2,sV O p0.2.1 U]:Lv_)++V).toArray 141 (0,0))] (fun w E' B'=>∃(ai:Ap) (aj:Nat) (ak:Ap) (al:Nat) (am:Lv_),w= uV r.1∧B'= [(bk,.cells (([sV ai r.2.1 aj,sV ak r.2.2.1 al]:Lv_)++am).toArray 141 (0,0))]∧An (rL rI) E' ai aj r.2.1∧An (rL rI) E' ak al r.2.2.1∧(rA 13 (rN .u16)).r E' am r.2.2.2):=by
 refine A9 func121 fun Q a3 cs H au av=>?_;unfold JU at ah;obtain⟨an,aw,ay⟩:=bs ah;refine zg 12 rfl (BH (Ij aw) rfl rfl H3 au ?_);rintro _ a4 _ W ⟨az,aA,rfl,rfl,aB⟩ aC;refine Bx underlying28 rfl rfl rfl ?_;obtain⟨aD,aE,aF⟩:=bs ay;refine zg 2 rfl (Cq [bX bk (([sV K p0.1 c2,sV O p0.2.1 U]:Lv_)++V).toArray 141] [(5,uV aD)] (fun a5 Y aG=>?_) (fun aH=>?_))
 ·refine zg 5 rfl ?_;obtain rfl:=oi aF;exact AN func121 rfl rfl (av (W.Ab Y) rfl ⟨K,c2,O,U,V,rfl,rfl,(ag.Ag (W.Ab Y)),(aq.Ag (W.Ab Y)),(Rp.Ag _ (W.Ab Y) ar)⟩ aG)
 ·refine JL.block (Cs aE (fun Z=> [bX bk (([sV K p0.1 c2,sV O p0.2.1 U]:Lv_)++V).toArray 141]) (fun Z=> [(0,pV bk 0),(5,uV Z.1),(9,sV az an aA),(10,iV (an.length:Int)),(11,iV Z.2)]) Aq aC ?_);rintro Z a6 aa ab aI ⟨a7,ae⟩ aJ;have ao:=ae;unfold KM at ao;refine zg 5 rfl (AS ao (fun aK aL=>?_) (fun aK aM=>?_))
  ·obtain⟨a8,aN,aO⟩:=bs aL;refine zg 5 rfl (Cf (aB.Ag aa) aN underlying28 A3 ?_);rintro a9 ba _ rfl aP;refine BV 0 aP Bw rfl rfl rfl (zg 6 rfl ?_);refine Bu underlying141 Ca rfl rfl rfl (Bu underlying24 Ck rfl rfl rfl ?_);refine Az (v:= sV K p0.1 c2) rfl (fun ρ h=>Yl.load C6 (h _ _ rfl) (S8 (o:=0) (l:= [sV K p0.1 c2,sV O p0.2.1 U]) 0 ab rfl rfl)) ?_;obtain⟨bb,aQ,aR⟩:=bs aO;refine zg 1 rfl (Cf (ag.Ag (W.Ab aa)) aQ underlying22 B7 ?_);rintro bc bd _ ⟨be,bf,rfl,aS⟩ aT;refine BV 0 aT DC rfl rfl rfl ?_;obtain⟨bg,aU,aV⟩:=bs aR;refine BK (IQ aS aU) rfl rfl It ab fun bh aW aX=>?_;obtain⟨ap,aY,aZ⟩:=bs aV;refine Az (v:= uV ap) rfl (fun ρ h=>Jo (h _ _ rfl) (h _ _ rfl) aY) ?_;obtain⟨a0,a1,a2⟩:=bs aZ;refine zg 4 rfl (Bg a1 rfl rfl rfl ?_);refine zg 2 rfl ?_;obtain rfl:=oi a2;exact aJ (ap,a0) (aa.Ab aW) aX rfl ae
  ·refine JL.exit rfl ?_;obtain rfl:=oi aM;obtain rfl:=aI _ ae;exact aH aa ab rfl
end Pal
namespace Pal
open Go Go.Conc Go.Proofs
open Go.Proofs.Tryz
variable {J:Judge Tryz.prog}{E:LH}
theorem VW:QZ Tryz.prog 138 .u16:=⟨_,underlying138,by decide+kernel,by decide,underlying102,rfl⟩
def JH(fuel:Nat)(K:(List (List Int))×(List (List Int))×(List Nat)×(List Nat)×Int):Option (Bi ((List (List Int))×(List (List Int))×(List Nat)×(List Nat)×Int) ((List (List Int))×(List (List Int))×(List Nat)×(List Nat))):= if K.2.2.2.2<12 then((Av (K.2.2.2.2+1)).bind fun U=> (ix K.2.2.1 K.2.2.2.2).bind fun V=> (JU fuel (K.1,K.2.1,K.2.2.1) V).bind fun O=> (ix K.2.2.2.1 U).bind fun Y=> (Av (K.2.2.2.2+1)).bind fun W=> some (.more (O.2.1,O.2.2.1,O.2.2.2,(K.2.2.2.1.set (Int.toNat U) O.1),W))) else(some (.done (K.1,K.2.1,K.2.2.1,K.2.2.2.1)))
def LK(fuel:Nat)(O:BJ):Option (Bi BJ (((Option BJ))⊕Unit)):= Option.bind (iter (JH fuel) fuel (O.1,O.2.1,O.2.2,O.2.2,0)) fun K=> if K.2.2.2≠K.2.2.1 then(some (.more (K.1,K.2.1,K.2.2.2))) else(some (.done (Sum.inl (some (K.1,K.2.1,K.2.2.1)))))
def f92(fuel:Nat)(p0:BI):Option ((Option BJ)):= (ix (List.replicate 13 (0:Nat)) (0)).bind fun O=> Option.bind (iter (LK fuel) fuel (p0.1,p0.2,((List.replicate 13 (0:Nat)).set (Int.toNat 0) 1))) fun K=> Sum.elim (fun r=>some r) (fun U=>none) K
theorem L4{an:Ap}{c2:Nat}{ao:Ap}{ap:Nat}{p0:BI}(be:An (rL rI) E an c2 p0.1)(bf:An (rL rI) E ao ap p0.2){fuel:Nat}{r:(Option BJ)}(aU:f92 fuel p0=some r):AP J 92 [.agg #[sV an p0.1 c2,sV ao p0.2 ap]] E [] (fun w E' B'=>∃(aV:Value),w=aV∧B'= []∧I6 (rP (rL (rL rI)) (rP (rL (rL rI)) (rA 13 (rN .u16)))) E' aV r):=by
 refine A9 func92 fun Q cb cs H bg bh=>?_;unfold f92 at aU;refine zg 2 rfl (CB bg fun cc aq aO bi bj=>?_);refine zg 5 rfl (Cl bi Cx Ca rfl rfl ?_);refine Az (v:= .agg (([sV an p0.1 c2,sV ao p0.2 ap]:Lv_)++(List.replicate 13 (uV 0):Lv_)).toArray) rfl (fun ρ h=>CO [(0,2),(2,13)] h (DW type141) underlying141 ⟨rfl,Bm type24,rfl,Bm type139,trivial⟩ rfl rfl) (JS.box (v:= .agg (([sV an p0.1 c2,sV ao p0.2 ap]:Lv_)++(List.replicate 13 (uV 0):Lv_)).toArray) rfl rfl rfl bj rfl fun U bl=>?_);refine zg 6 rfl (Bu underlying141 FI rfl rfl rfl ?_);obtain⟨cd,aP,bm⟩:=bs aU;obtain⟨_,rfl,_,_,ce⟩:=HE (kk:=13) (pp:=(rN .u16)) (IU (E:=aq) (pp:=(rN .u16)) rfl) aP;refine Az (v:= .pointer (some ⟨U,2+Int.toNat (0)*1,none⟩)) rfl (fun ρ h=>IA (kk:=13) (pp:=(rN .u16)) (IU (E:=aq) (pp:=(rN .u16)) rfl) aP underlying139 Hw (h _ _ rfl) (h _ _ rfl)) (Bu underlying138 DN rfl rfl rfl ?_);have aH:=M4 (us:= [uV 1]) (y:=1) (IU (E:=aq) (pp:=(rN .u16)) rfl) aP rfl;refine Jh (v:= uV 1) (l:= [sV an p0.1 c2,sV ao p0.2 ap]) (ws:=(List.replicate 13 (uV 0):Lv_)) (us:= [uV 1]) (o:=Int.toNat (0)*1) 2 rfl rfl rfl bl rfl rfl rfl DN (by simp [Value.cells,CG]) rfl aH.2 fun aW=>?_;replace aH:=aH.1;generalize bn:G3 (List.replicate 13 (uV 0):Lv_) (Int.toNat (0)*1) [uV 1]=aX at aW ⊢;have bo:(rA 13 (rN .u16)).r aq aX ((List.replicate 13 (0:Nat)).set (Int.toNat 0) 1):=by rw [← bn];exact aH
 refine zg 2 rfl (JL.label ?_);obtain⟨cf,bp,bq⟩:=bs bm;refine HP [(3,pV U 0)] rfl (Tf bp (fun L s Y=>∃(V:LH) (aw:Ap) (ay:Nat) (az:Ap) (aA:Nat) (Z:Lv_),Jn aq H V [[(U,.cells (([sV aw Y.1 ay,sV az Y.2.1 aA]:Lv_)++Z).toArray 141 (0,0))]] [(3,pV U 0)] L s (An (rL rI) V aw ay Y.1∧An (rL rI) V az aA Y.2.1∧(rA 13 (rN .u16)).r V Z Y.2.2)) ⟨aq,an,c2,ao,ap,aX,rfl,rfl,Aq,aW,(be.Ag aO),(bf.Ag aO),bo⟩ ?_);rintro _ _ Y ⟨V,aw,ay,az,aA,Z,rfl,rfl,aY,aZ,br,bu,ah⟩ bv ⟨cg,aQ⟩ bw;have a0:=aQ;unfold LK at a0;refine zg 4 rfl (Bu underlying141 FI rfl rfl rfl ?_);refine Az (v:= .agg Z.toArray) rfl (fun ρ h=>Jl (kk:=13) (pp:=(rN .u16)) ah Kh FI (h _ _ rfl) (KN (l:= [sV aw Y.1 ay,sV az Y.2.1 aA]) 0 aZ rfl)) (Cr aZ (DW type139) fun ar bx=>?_);refine Jh (v:= .agg Z.toArray) (l:= []) (ws:=(List.replicate 13 (uV 0):Lv_)) (us:=Z) (o:=0) 1 rfl rfl rfl bx rfl rfl rfl (by rw [FN (kk:=13) (pp:=(rN .u16)) ah];exact Bm type139) ((rA 13 (rN .u16)).one ah) rfl (by rw [FN (kk:=13) (pp:=(rN .u16)) ah,FN (kk:=13) (pp:=(rN .u16)) (IU (E:=V) (pp:=(rN .u16)) rfl)];omega) fun a1=>?_;rw [O3 (by rw [FN (kk:=13) (pp:=(rN .u16)) ah,FN (kk:=13) (pp:=(rN .u16)) (IU (E:=V) (pp:=(rN .u16)) rfl)])] at a1 ⊢;obtain⟨K,bz,bA⟩:=bs a0;refine zg 6 rfl (Bs (fun L s=>∃(ai:LH) (aj:Ap) (ak:Nat) (aa:Ap) (ab:Nat) (al:Lv_) (ae:Lv_),Jn V H ai [bX U (([sV aj K.1 ak,sV aa K.2.1 ab]:Lv_)++al).toArray 141,bX ar (([]:Lv_)++ae).toArray 139] [(3,pV U 0),(4,pV ar 0)] L s (An (rL rI) ai aj ak K.1∧An (rL rI) ai aa ab K.2.1∧(rA 13 (rN .u16)).r ai al K.2.2.1∧(rA 13 (rN .u16)).r ai ae K.2.2.2)) ?_ ?_)
 ·rintro _ _ ⟨ai,aj,ak,aa,ab,al,ae,rfl,rfl,a2,au,a3,a4,aB,ag⟩;refine zg 2 rfl (CZ 5 [ar,U] ⟨⟨1,_,rfl⟩,⟨0,_,rfl⟩,trivial⟩ au fun ht=>?_);refine BC (v:= .agg ae.toArray) 0 ht rfl rfl (fun ρ h s' hs=>Jl (kk:=13) (pp:=(rN .u16)) ag Kh FI (h _ _ rfl) (MP (l:= []) 1 au rfl (by simp [AV]) hs)) (Bp ht rfl [1,2] rfl ?_);refine Ce 3 ht underlying141 FI rfl rfl rfl rfl (BC (v:= .agg al.toArray) 4 ht rfl rfl (fun ρ h s' hs=>Jl (kk:=13) (pp:=(rN .u16)) aB Kh FI (h _ _ rfl) (MP (l:= [sV aj K.1 ak,sV aa K.2.1 ab]) 0 au rfl (by simp [AV]) hs)) ?_);refine Cp [5] (Az (v:= .bool (decide (K.2.2.2≠K.2.2.1))) rfl (fun ρ h=>Tt underlying139 (by decide+kernel) VW Hw ag aB (h _ _ rfl) (h _ _ rfl)) ?_);refine JL.done (AS bA (fun bB bC=>?_) (fun bB bD=>?_))
  ·refine zg 3 rfl (Az (v:= .agg ae.toArray) rfl (fun ρ h=>Jl (kk:=13) (pp:=(rN .u16)) ag Kh FI (h _ _ rfl) (KN (l:= []) 1 au rfl)) ?_);refine zg 1 rfl (Bu underlying141 FI rfl rfl rfl ?_);refine Jh (v:= .agg ae.toArray) (l:= [sV aj K.1 ak,sV aa K.2.1 ab]) (ws:=al) (us:=ae) (o:=0) 0 rfl rfl rfl au rfl rfl rfl (by rw [FN (kk:=13) (pp:=(rN .u16)) ag];exact Bm type139) ((rA 13 (rN .u16)).one ag) rfl (by rw [FN (kk:=13) (pp:=(rN .u16)) ag,FN (kk:=13) (pp:=(rN .u16)) aB];omega) fun a5=>?_;rw [O3 (by rw [FN (kk:=13) (pp:=(rN .u16)) ag,FN (kk:=13) (pp:=(rN .u16)) aB])] at a5 ⊢;refine JL.done (JL.goto rfl ?_);refine zg 2 rfl (JS.drop 1 a5 rfl fun bE=>?_);obtain rfl:=oi bC;exact AB (bw _ _ (K.1,K.2.1,K.2.2.2) ⟨ai,aj,ak,aa,ab,ae,rfl,rfl,(aY.Ab a2),bE,a3,a4,ag⟩ aQ) rfl
  ·refine zg 6 rfl (C9 0 au rfl fun ci aI bF bG=>?_);refine JS.drop 1 bG rfl fun bH=>?_;obtain rfl:=oi bD;obtain rfl:=bv _ aQ;have bI:=elim_inl bq;obtain rfl:=oi bI;exact AN func92 rfl rfl (bh (((aO.Ab aY).Ab a2).Ab aI) rfl ⟨pV U 0,rfl,rfl,⟨_,_,_,rfl,bF,⟨[sV aj K.1 ak],(([sV aa K.2.1 ab]:Lv_)++al),rfl,⟨_,_,rfl,(a3.Ag aI)⟩,⟨[sV aa K.2.1 ab],al,rfl,⟨_,_,rfl,(a4.Ag aI)⟩,(Rp.Ag _ aI aB)⟩⟩⟩⟩ bH)
 ·intro bJ;refine JL.block (CP bz (fun L s O=>∃(am:LH) (aC:Ap) (aD:Nat) (aE:Ap) (aF:Nat) (aJ:Lv_) (av:Lv_),Jn V H am [bX U (([sV aC O.1 aD,sV aE O.2.1 aF]:Lv_)++aJ).toArray 141,bX ar (([]:Lv_)++av).toArray 139] [(3,pV U 0),(4,pV ar 0),(18,iV O.2.2.2.2)] L s (An (rL rI) am aC aD O.1∧An (rL rI) am aE aF O.2.1∧(rA 13 (rN .u16)).r am aJ O.2.2.1∧(rA 13 (rN .u16)).r am av O.2.2.2.1)) ⟨V,aw,ay,az,aA,Z,Z,rfl,rfl,Aq,a1,br,bu,ah,ah⟩ ?_);rintro _ _ O ⟨am,aC,aD,aE,aF,aJ,av,rfl,rfl,a6,aR,a7,a8,aK,aL⟩ bK ⟨ck,aS⟩ bL;have a9:=aS;unfold JH at a9;refine zg 5 rfl (AS a9 (fun bM bN=>?_) (fun bM bO=>?_))
  ·obtain⟨aG,bP,bQ⟩:=bs bN;refine zg 10 rfl (Bg bP rfl rfl rfl ?_);refine zg 4 rfl (Bu underlying141 FI rfl rfl rfl ?_);obtain⟨bR,ba,bS⟩:=bs bQ;obtain⟨_,rfl,_,_,bT⟩:=HE (kk:=13) (pp:=(rN .u16)) aK ba;refine Az (v:= .pointer (some ⟨U,2+Int.toNat (O.2.2.2.2)*1,none⟩)) rfl (fun ρ h=>IA (kk:=13) (pp:=(rN .u16)) aK ba underlying139 Hw (h _ _ rfl) (h _ _ rfl)) (Bu underlying138 DN rfl rfl rfl ?_);refine Az (v:= uV bR) rfl (fun ρ h=>Yl.load Gj (h _ _ rfl) (Sc (l:= [sV aC O.1 aD,sV aE O.2.1 aF]) 0 aR rfl (bT 0 _ rfl))) ?_;obtain⟨W,bU,bV⟩:=bs bS;refine BP 0 (Ur a7 a8 aK bU) rfl rfl (AX func121 rfl) aR rfl ?_;rintro _ bb _ aM ⟨bW,bY,bZ,b0,I3,rfl,rfl,b1,b2,b3⟩ b4;obtain⟨cm,aT,b5⟩:=bs bV;obtain⟨_,rfl,_,_,cn⟩:=HE (kk:=13) (pp:=(rN .u16)) (Rp.Ag _ aM aL) aT;refine Az (v:= .pointer (some ⟨ar,0+Int.toNat (aG)*1,none⟩)) rfl (fun ρ h=>IA (kk:=13) (pp:=(rN .u16)) (Rp.Ag _ aM aL) aT underlying139 Hw (h _ _ rfl) (h _ _ rfl)) (Bu underlying138 DN rfl rfl rfl ?_);have aN:=M4 (us:= [uV W.1]) (y:=W.1) (Rp.Ag _ aM aL) aT rfl;refine Jh (v:= uV W.1) (l:= []) (ws:=av) (us:= [uV W.1]) (o:=Int.toNat (aG)*1) 1 rfl rfl rfl b4 rfl rfl rfl DN (by simp [Value.cells,CG]) rfl aN.2 fun bc=>?_;replace aN:=aN.1;generalize b6:G3 av (Int.toNat (aG)*1) [uV W.1]=bd at bc ⊢;have b7:(rA 13 (rN .u16)).r bb bd (O.2.2.2.1.set (Int.toNat aG) W.1):=by rw [← b6];exact aN
   obtain⟨b8,b9,ca⟩:=bs b5;refine zg 3 rfl (Bg b9 rfl rfl rfl ?_);refine zg 2 rfl ?_;obtain rfl:=oi ca;exact AB (bL _ _ (W.2.1,W.2.2.1,W.2.2.2,(O.2.2.2.1.set (Int.toNat aG) W.1),b8) ⟨bb,bW,bY,bZ,b0,I3,bd,rfl,rfl,(a6.Ab aM),bc,b1,b2,b3,b7⟩ aS) rfl
  ·refine JL.exit rfl ?_;obtain rfl:=oi bO;obtain rfl:=bK _ aS;exact AB (bJ _ _ ⟨am,aC,aD,aE,aF,aJ,av,rfl,rfl,a6,aR,a7,a8,aK,aL⟩) rfl
end Pal
namespace Pal
open Go Go.Conc Go.Proofs
open Go.Proofs.Tryz
variable {J:Judge Tryz.prog}{E:LH}
def Pu(fuel:Nat)(p1:List Int)(K:Int):Option (Bi Int (((Option BJ)×Int)⊕(Unit))):= if K<(p1.length:Int) then((ix p1 K).bind fun O=> (f101 fuel O 0 12).bind fun U=> if U=true then(some (.done (Sum.inl (none,1)))) else((Av (K+1)).bind fun V=> some (.more V))) else(some (.done (Sum.inr ())))
def f106(fuel:Nat)(p0:BI)(p1:List Int):Option ((Option BJ)×Int):= (f67 fuel p0).bind fun K=> if K≠0 then(some (none,K)) else(Option.bind (iter (Pu fuel p1) fuel 0) fun O=> Sum.elim (fun r=>some r) (fun V=> (f92 fuel p0).bind fun U=> some (U,0)) O)
theorem Qv{ae:Ap}{c2:Nat}{ag:Ap}{ah:Nat}{Y:Ap}{Z:Nat}{p0:BI}{p1:List Int}(ai:An (rL rI) E ae c2 p0.1)(aj:An (rL rI) E ag ah p0.2)(aB:An rI E Y Z p1){fuel:Nat}{r:(Option BJ)×Int}(ak:f106 fuel p0 p1=some r):AP J 106 [.agg #[sV ae p0.1 c2,sV ag p0.2 ah],sV Y p1 Z] E [] (fun w E' B'=>∃(al:Value),w= .tuple #[al,iV r.2]∧B'= []∧I6 (rP (rL (rL rI)) (rP (rL (rL rI)) (rA 13 (rN .u16)))) E' al r.1):=by
 refine A9 func106 fun Q bc cs H aC aa=>?_;unfold f106 at ak;refine zg 2 rfl (CB aC fun am bd K an aD=>?_);refine zg 6 rfl (Cl an Cx Ca rfl rfl ?_);obtain⟨be,aE,aF⟩:=bs ak;refine BK (Wa (ai.Ag K) (aj.Ag K) aE) rfl rfl (AX func67 rfl) aD fun aG O ao=>zg 7 rfl (AS aF (fun aH aI=>?_) (fun aH aJ=>?_))
 ·refine zg 6 rfl ?_;obtain rfl:=oi aI;exact AN func106 rfl rfl (aa (K.Ab O) rfl ⟨.pointer none,rfl,rfl,rfl⟩ ao)
 ·refine zg 5 rfl (Bx underlying28 rfl rfl rfl ?_);obtain⟨ap,aK,aq⟩:=bs aJ;refine zg 2 rfl (Bs (fun L s=>∃(ar:Unit) (au:LH),ap=Sum.inr ar∧Jm aG H au [] [(2,pV am 0)] L s) ?_ ?_)
  ·rintro _ _ ⟨ar,au,rfl,rfl,rfl,U,aL⟩;have aM:=elim_inr aq;refine zg 2 rfl (Cl (an.Ag (O.Ab U)) Cx Ca rfl rfl ?_);obtain⟨bf,aN,aO⟩:=bs aM;refine BH (L4 (ai.Ag ((K.Ab O).Ab U)) (aj.Ag ((K.Ab O).Ab U)) aN) rfl rfl Kq aL ?_;rintro aP bg _ aQ ⟨_,rfl,rfl,aR⟩ aS;refine zg 3 rfl ?_;obtain rfl:=oi aO;exact AN func106 rfl rfl (aa (((K.Ab O).Ab U).Ab aQ) rfl ⟨aP,rfl,rfl,aR⟩ aS)
  ·intro aT;refine JL.block (Cs aK (fun ab=> []) (fun ab=> [(2,pV am 0),(14,sV Y p1 Z),(15,iV (p1.length:Int)),(16,iV ab)]) Aq ao ?_);rintro ab aU V av aw ⟨bh,W⟩ aV;have ay:=W;unfold Pu at ay;refine zg 5 rfl (AS ay (fun aW aX=>?_) (fun aW aY=>?_))
   ·obtain⟨bi,aZ,a0⟩:=bs aX;refine zg 5 rfl (Cf (aB.Ag ((K.Ab O).Ab V)) aZ underlying28 A3 ?_);rintro bj bl _ rfl a1;refine BV 0 a1 Bw rfl rfl rfl ?_;obtain⟨bm,a2,a3⟩:=bs a0;refine zg 5 rfl (BK (Ih a2) rfl rfl H2 av fun bn az aA=>?_);refine JL.done (BL a3 (fun a4 a5=>?_) (fun a4 a6=>?_))
    ·refine zg 5 rfl ?_;obtain rfl:=oi a5;obtain rfl:=aw _ W;have a7:=elim_inl aq;obtain rfl:=oi a7;exact AN func106 rfl rfl (aa (((K.Ab O).Ab V).Ab az) rfl ⟨.pointer none,rfl,rfl,rfl⟩ aA)
    ·obtain⟨a8,a9,ba⟩:=bs a6;refine zg 3 rfl (Bg a9 rfl rfl rfl ?_);refine zg 2 rfl ?_;obtain rfl:=oi ba;exact aV a8 (V.Ab az) aA rfl W
   ·refine JL.exit rfl ?_;obtain rfl:=oi aY;have bb:ap=(Sum.inr ()):=(aw _ W).symm;exact AB (aT _ _ ⟨(),aU,bb,rfl,rfl,V,av⟩) rfl
def f51(fuel:Nat)(p0:BI)(p1:Int):Option ((List Int)×Int):= (f106 fuel p0 ([p1]:List Int)).bind fun K=> if K.2≠0 then(some ([],K.2)) else((K.1).bind fun O=> (ix O.2.2 p1).bind fun U=> (f89 fuel U).bind fun V=> some (V,0))
theorem V9{U:Ap}{c2:Nat}{V:Ap}{W:Nat}{p0:BI}{p1:Int}(aj:An (rL rI) E U c2 p0.1)(ak:An (rL rI) E V W p0.2){fuel:Nat}{r:(List Int)×Int}(Y:f51 fuel p0 p1=some r):AP J 51 [.agg #[sV U p0.1 c2,sV V p0.2 W],iV p1] E [] (fun w E' B'=>∃(Z:Ap) (aa:Nat),w= .tuple #[sV Z r.1 aa,iV r.2]∧B'= []∧An rI E' Z aa r.1):=by
 refine A9 func51 fun Q aT cs H al ab=>?_;unfold f51 at Y;refine zg 2 rfl (CB al fun aU aV K am an=>?_);refine zg 5 rfl (Cl am Cx Ca rfl rfl ?_);refine zg 1 rfl (JS.lit (pp:=rI) [iV p1] [p1] rfl rfl rfl underlying28 A3 Cn (by decide) rfl rfl rfl ⟨rfl,trivial⟩ an fun aW aX ao ap=>?_);refine Cb 2 ao ap rfl fun aY O aq ar=>?_;obtain⟨aZ,au,av⟩:=bs Y;refine BH (Qv (aj.Ag (K.Ab O)) (ak.Ag (K.Ab O)) aq au) rfl rfl (AX func106 rfl) ar ?_;rintro _ a0 _ ae ⟨a1,rfl,rfl,aw⟩ ag;refine zg 12 rfl (AS av (fun ay az=>?_) (fun ay aA=>?_))
 ·refine zg 6 rfl ?_;obtain rfl:=oi az;exact AN func51 rfl rfl (ab ((K.Ab O).Ab ae) rfl ⟨none,0,rfl,rfl,An.nil⟩ ag)
 ·obtain⟨ah,aB,aC⟩:=bs aA;have ai:=aw;refine zg 5 rfl ?_;rw [aB] at ai;obtain⟨a2,a3,_,rfl,aD,⟨_,_,rfl,⟨aE,aF,rfl,a4⟩,⟨_,a5,rfl,⟨aG,aH,rfl,a6⟩,aI⟩⟩⟩:=ai;refine zg 1 rfl (Bu underlying141 FI rfl rfl rfl ?_);obtain⟨a7,aJ,aK⟩:=bs aC;refine MV (l:= [sV aE ah.1 aF,sV aG ah.2.1 aH]) aD aI aJ rfl rfl rfl rfl rfl underlying139 Hw ?_;rintro a8 _ rfl aL;refine JL.fl 0 aL underlying138 DN Gj ?_;obtain⟨a9,aM,aN⟩:=bs aK;refine BH (Ij aM) rfl rfl H3 ag ?_;rintro _ ba _ aO ⟨aP,aQ,rfl,rfl,aR⟩ aS;refine zg 3 rfl ?_;obtain rfl:=oi aN;exact AN func51 rfl rfl (ab (((K.Ab O).Ab ae).Ab aO) rfl ⟨aP,aQ,rfl,rfl,aR⟩ aS)
def PQ(fuel:Nat)(p0:BJ)(O:Nat)(U:(List Int))(K:Int):Option (Bi Int ((Bool)⊕(Unit))):= if K<(U.length:Int) then((ix U K).bind fun V=> (f103 fuel O V).bind fun W=> Option.bind (if W=true then(some true) else((ix p0.2.1 V).bind fun Y=> (f120 fuel Y).bind fun Z=> (I0 O Z).bind fun aa=> some (decide ((((aa):Nat):Int)≠(((0):Nat):Int))))) fun ab=> if ab=true then(some (.done (Sum.inl true))) else((Av (K+1)).bind fun ae=> some (.more ae))) else(some (.done (Sum.inr ())))
def f109(fuel:Nat)(p0:BJ)(p1:Int)(p2:Int):Option Bool:= (ix p0.2.2 p2).bind fun K=> (ix p0.2.2 p1).bind fun O=> (f89 fuel O).bind fun U=> Option.bind (iter (PQ fuel p0 K U) fuel 0) fun V=> Sum.elim (fun r=>some r) (fun W=> some false) V
theorem VF{k1:Nat}{O:Nat}{U:Ap}{V:Nat}{W:Ap}{Y:Nat}{ai:Lv_}{p0:BJ}{p1:Int}{p2:Int}(ah:At E k1 O (([sV U p0.1 V,sV W p0.2.1 Y]:Lv_)++ai))(bB:An (rL rI) E U V p0.1)(aF:An (rL rI) E W Y p0.2.1)(aj:(rA 13 (rN .u16)).r E ai p0.2.2){fuel:Nat}{r:Bool}(ak:f109 fuel p0 p1 p2=some r):AP J 109 [pV k1 O,iV p1,iV p2] E [] (fun w E' B'=>w= .bool r∧B'= []):=by
 refine A9 func109 fun Q bC cs H aG al=>?_;unfold f109 at ak;refine zg 9 rfl (Bu underlying141 FI rfl rfl rfl ?_);obtain⟨am,aH,aI⟩:=bs ak;refine MV (l:= [sV U p0.1 V,sV W p0.2.1 Y]) ah aj aH rfl rfl rfl rfl rfl underlying139 Hw ?_;rintro bD _ rfl aJ;refine JL.fl 0 aJ underlying138 DN Gj ?_;refine zg 8 rfl (Bu underlying141 FI rfl rfl rfl ?_);obtain⟨bE,aK,aL⟩:=bs aI;refine MV (l:= [sV U p0.1 V,sV W p0.2.1 Y]) ah aj aK rfl rfl rfl rfl rfl underlying139 Hw ?_;rintro bF _ rfl aM;refine JL.fl 0 aM underlying138 DN Gj ?_;obtain⟨Z,aN,aO⟩:=bs aL;refine BH (Ij aN) rfl rfl H3 aG ?_;rintro _ aP _ aa ⟨an,ao,rfl,rfl,aQ⟩ aR;refine Bx underlying28 rfl rfl rfl ?_;obtain⟨ap,aS,aq⟩:=bs aO;refine zg 2 rfl (Bs (fun L s=>∃(ar:Unit) (au:LH),ap=Sum.inr ar∧Jm aP H au [] [] L s) ?_ ?_)
 ·rintro _ _ ⟨ar,au,rfl,rfl,rfl,aT,aU⟩;have aV:=elim_inr aq;refine zg 4 rfl ?_;obtain rfl:=oi aV;exact AN func109 rfl rfl (al (aa.Ab aT) rfl ⟨rfl,rfl⟩ aU)
 ·intro aW;refine JL.block (Cs aS (fun ab=> []) (fun ab=> [(0,pV k1 O),(7,uV am),(24,sV an Z ao),(25,iV (Z.length:Int)),(26,iV ab)]) Aq aR ?_);rintro ab aX K av aw ⟨bG,ae⟩ aY;have ay:=ae;unfold PQ at ay;refine zg 5 rfl (AS ay (fun aZ a0=>?_) (fun aZ a1=>?_))
  ·obtain⟨bH,a2,a3⟩:=bs a0;refine zg 5 rfl (Cf (aQ.Ag K) a2 underlying28 A3 ?_);rintro bI bJ _ rfl a4;refine BV 0 a4 Bw rfl rfl rfl ?_;obtain⟨bK,a5,a6⟩:=bs a3;refine zg 6 rfl (BK (M5 a5) rfl rfl Mg av fun az ag aA=>?_);obtain⟨a7,a8,a9⟩:=bs a6;refine zg 1 rfl (Fx [] (fun L s=>∃(aB:LH),Jm az H aB [] [(0,pV k1 O),(7,uV am),(24,sV an Z ao),(25,iV (Z.length:Int)),(26,iV ab),(46,.bool a7)] L s) ?_ ?_)
   ·rintro _ _ ⟨aB,rfl,rfl,aC,aD⟩;refine JL.done (BL a9 (fun ba bb=>?_) (fun ba bc=>?_))
    ·refine zg 4 rfl ?_;obtain rfl:=oi bb;obtain rfl:=aw _ ae;have bd:=elim_inl aq;obtain rfl:=oi bd;exact AN func109 rfl rfl (al (((aa.Ab K).Ab ag).Ab aC) rfl ⟨rfl,rfl⟩ aD)
    ·obtain⟨be,bf,bg⟩:=bs bc;refine zg 3 rfl (Bg bf rfl rfl rfl ?_);refine zg 2 rfl ?_;obtain rfl:=oi bg;exact aY be ((K.Ab ag).Ab aC) aD rfl ae
   ·intro aE;refine Dr 33 a8 (fun bh bi=>?_) (fun bh bj=>?_)
    ·refine zg 13 rfl ?_;obtain rfl:=oi bi;exact AB (aE _ _ ⟨az,rfl,rfl,Aq,aA⟩) rfl
    ·refine zg 3 rfl (Bu underlying141 Ca rfl rfl rfl ?_);refine JL.fl 1 (ah.Ag ((aa.Ab K).Ab ag)) underlying24 Ck C6 ?_;obtain⟨bL,bl,bm⟩:=bs bj;refine zg 1 rfl (Cf (aF.Ag ((aa.Ab K).Ab ag)) bl underlying22 B7 ?_);rintro bM bN _ ⟨bO,bP,rfl,bn⟩ bo;refine BV 0 bo DC rfl rfl rfl ?_;obtain⟨bQ,bp,bq⟩:=bs bm;refine BK (IQ bn bp) rfl rfl It aA fun br bu bv=>?_;obtain⟨bw,bx,bz⟩:=bs bq;refine Az (v:= uV bw) rfl (fun ρ h=>MK (h _ _ rfl) (h _ _ rfl) bx) (zg 2 rfl ?_);obtain rfl:=oi bz;exact AB (aE _ _ ⟨br,rfl,rfl,bu,bv⟩) rfl
  ·refine JL.exit rfl ?_;obtain rfl:=oi a1;have bA:ap=(Sum.inr ()):=(aw _ ae).symm;exact AB (aW _ _ ⟨(),aX,bA,rfl,rfl,K,av⟩) rfl
def Qa(fuel:Nat)(p1:Int)(O:BJ)(K:Int):Option (Bi Int Int):= (f109 fuel O p1 K).bind fun U=> if(!U)=true then((Av (K+1)).bind fun V=> some (.more V)) else(some (.done K))
def f57(fuel:Nat)(p0:BI)(p1:Int):Option (Int×Int):= (f106 fuel p0 ([p1]:List Int)).bind fun K=> if K.2≠0 then(some (0,K.2)) else((K.1).bind fun O=> Option.bind (iter (Qa fuel p1 O) fuel 0) fun U=> some (U,0))
theorem V2{Y:Ap}{c2:Nat}{Z:Ap}{aa:Nat}{p0:BI}{p1:Int}(am:An (rL rI) E Y c2 p0.1)(an:An (rL rI) E Z aa p0.2){fuel:Nat}{r:Int×Int}(ab:f57 fuel p0 p1=some r):AP J 57 [.agg #[sV Y p0.1 c2,sV Z p0.2 aa],iV p1] E [] (fun w E' B'=>w= .tuple #[iV r.1,iV r.2]∧B'= []):=by
 refine A9 func57 fun Q a4 cs H ao ae=>?_;unfold f57 at ab;refine zg 2 rfl (CB ao fun a5 a6 O ap aq=>?_);refine zg 5 rfl (Cl ap Cx Ca rfl rfl ?_);refine zg 1 rfl (JS.lit (pp:=rI) [iV p1] [p1] rfl rfl rfl underlying28 A3 Cn (by decide) rfl rfl rfl ⟨rfl,trivial⟩ aq fun a7 a8 ar au=>?_);refine Cb 2 ar au rfl fun a9 U av aw=>?_;obtain⟨ba,ay,az⟩:=bs ab;refine BH (Qv (am.Ag (O.Ab U)) (an.Ag (O.Ab U)) av ay) rfl rfl (AX func106 rfl) aw ?_;rintro _ bb _ ag ⟨bc,rfl,rfl,aA⟩ ah;refine zg 12 rfl (AS az (fun aB aC=>?_) (fun aB aD=>?_))
 ·refine zg 6 rfl ?_;obtain rfl:=oi aC;exact AN func57 rfl rfl (ae ((O.Ab U).Ab ag) rfl ⟨rfl,rfl⟩ ah)
 ·obtain⟨bd,aE,aF⟩:=bs aD;have ai:=aA;refine zg 6 rfl ?_;rw [aE] at ai;obtain⟨aG,aH,_,rfl,aI,⟨_,_,rfl,⟨be,bf,rfl,aJ⟩,⟨_,bg,rfl,⟨bh,bi,rfl,aK⟩,aL⟩⟩⟩:=ai;obtain⟨aM,aN,aO⟩:=bs aF;refine Cq [] [(8,iV aM)] (fun bj aP aQ=>?_) (fun aR=>?_)
  ·refine zg 6 rfl ?_;obtain rfl:=oi aO;exact AN func57 rfl rfl (ae (((O.Ab U).Ab ag).Ab aP) rfl ⟨rfl,rfl⟩ aQ)
  ·refine JL.block (Cs aN (fun V=> []) (fun V=> [(1,iV p1),(6,pV aG aH),(8,iV V)]) Aq ah ?_);rintro V bl K aS aT ⟨bm,W⟩ aU;have aj:=W;unfold Qa at aj;obtain⟨aV,aW,aX⟩:=bs aj;refine zg 6 rfl (BK (VF (aI.Ag K) (aJ.Ag K) (aK.Ag K) (Rp.Ag _ K aL) aW) rfl rfl (AX func109 rfl) aS fun bn ak al=>?_);refine Az (v:= .bool (!aV)) rfl (fun ρ h=>Yl.not (h _ _ rfl)) (JL.done ?_);refine BL aX (fun aY aZ=>?_) (fun aY a0=>?_)
   ·obtain⟨a1,a2,a3⟩:=bs aZ;refine zg 4 rfl (Bg a2 rfl rfl rfl ?_);refine zg 3 rfl ?_;obtain rfl:=oi a3;exact aU a1 (K.Ab ak) al rfl W
   ·refine JL.exit rfl ?_;obtain rfl:=oi a0;obtain rfl:=aT _ W;exact aR (K.Ab ak) al rfl
end Pal
namespace Pal
open Go Go.Conc Go.Proofs
open Go.Proofs.Tryz
variable {J:Judge Tryz.prog}{E:LH}
def Li(fuel:Nat)(p0:List Int)(p1:Int)(K:Int):Option (Bi Int ((Int)⊕(Unit))):= if K<(p0.length:Int) then((ix p0 K).bind fun O=> if p1=O then(some (.done (Sum.inl K))) else((Av (K+1)).bind fun U=> some (.more U))) else(some (.done (Sum.inr ())))
def f201(fuel:Nat)(p0:List Int)(p1:Int):Option Int:= Option.bind (iter (Li fuel p0 p1) fuel 0) fun K=> Sum.elim (fun r=>some r) (fun O=> some (-1)) K
theorem Vy{U:Ap}{c2:Nat}{p0:List Int}{p1:Int}(aj:An rI E U c2 p0){fuel:Nat}{r:Int}(Y:f201 fuel p0 p1=some r):AP J 201 [sV U p0 c2,iV p1] E [] (fun w E' B'=>w=iV r∧B'= []):=by
 refine A9 func201 fun Q aJ cs H ak Z=>?_;unfold f201 at Y;refine zg 8 rfl (Bx underlying28 rfl rfl rfl ?_);obtain⟨aa,al,ab⟩:=bs Y;refine zg 2 rfl (Bs (fun L s=>∃(ae:Unit) (ag:LH),aa=Sum.inr ae∧Jm E H ag [] [] L s) ?_ ?_)
 ·rintro _ _ ⟨ae,ag,rfl,rfl,rfl,am,an⟩;have ao:=elim_inr ab;refine zg 4 rfl ?_;obtain rfl:=oi ao;exact AN func201 rfl rfl (Z am rfl ⟨rfl,rfl⟩ an)
 ·intro ap;refine JL.block (Cs al (fun V=> []) (fun V=> [(0,sV U p0 c2),(1,iV p1),(7,iV (p0.length:Int)),(8,iV V)]) Aq ak ?_);rintro V aq K W ah ⟨aK,O⟩ ar;have ai:=O;unfold Li at ai;refine zg 5 rfl (AS ai (fun au av=>?_) (fun au aw=>?_))
  ·obtain⟨aL,ay,az⟩:=bs av;refine zg 13 rfl (Cf (aj.Ag K) ay underlying28 A3 ?_);rintro aM aN _ rfl aA;refine BV 0 aA Bw rfl rfl rfl (zg 2 rfl ?_);refine AS az (fun aB aC=>?_) (fun aB aD=>?_)
   ·refine zg 5 rfl ?_;obtain rfl:=oi aC;obtain rfl:=ah _ O;have aE:=elim_inl ab;obtain rfl:=oi aE;exact AN func201 rfl rfl (Z K rfl ⟨rfl,rfl⟩ W)
   ·obtain⟨aF,aG,aH⟩:=bs aD;refine zg 3 rfl (Bg aG rfl rfl rfl ?_);refine zg 2 rfl ?_;obtain rfl:=oi aH;exact ar aF K W rfl O
  ·refine JL.exit rfl ?_;obtain rfl:=oi aw;have aI:aa=(Sum.inr ()):=(ah _ O).symm;exact AB (ap _ _ ⟨(),aq,aI,rfl,rfl,K,W⟩) rfl
def f199(fuel:Nat)(p0:List Int)(p1:Int):Option Bool:= (f201 fuel p0 p1).bind fun K=> some (decide (0≤K))
theorem Vh{K:Ap}{c2:Nat}{p0:List Int}{p1:Int}(U:An rI E K c2 p0){fuel:Nat}{r:Bool}(O:f199 fuel p0 p1=some r):AP J 199 [sV K p0 c2,iV p1] E [] (fun w E' B'=>w= .bool r∧B'= []):=by
 refine A9 func199 fun Q ae cs H V W=>?_;unfold f199 at O;obtain⟨ag,Y,Z⟩:=bs O;refine zg 8 rfl (BK (Vy U Y) rfl rfl (AX func201 rfl) V fun ah aa ab=>?_);refine zg 3 rfl ?_;obtain rfl:=oi Z;exact AN func199 rfl rfl (W aa rfl ⟨rfl,rfl⟩ ab)
def f192(fuel:Nat)(p0:BJ)(p1:Int)(p2:Int):Option ((Option (Int×Option Int))):= if p1=p2 then(some (some (p1,none))) else((ix p0.2.1 p1).bind fun K=> (f199 fuel K p2).bind fun O=> if O=true then(some (some (p1,some p2))) else(some none))
theorem Vx{k1:Nat}{O:Nat}{U:Ap}{V:Nat}{W:Ap}{Y:Nat}{Z:Lv_}{p0:BJ}{p1:Int}{p2:Int}(ai:At E k1 O (([sV U p0.1 V,sV W p0.2.1 Y]:Lv_)++Z))(az:An (rL rI) E U V p0.1)(aj:An (rL rI) E W Y p0.2.1)(aA:(rA 13 (rN .u16)).r E Z p0.2.2){fuel:Nat}{r:(Option (Int×Option Int))}(aa:f192 fuel p0 p1 p2=some r):AP J 192 [pV k1 O,iV p1,iV p2] E [] (fun w E' B'=>∃(ab:Value),w=ab∧B'= []∧NM 257 259 ab r):=by
 refine A9 func192 fun Q aB cs H ae K=>?_;unfold f192 at aa;refine zg 13 rfl (AS aa (fun ak al=>?_) (fun ak am=>?_))
 ·refine zg 3 rfl (Az (v:= .agg #[iV p1]) rfl (fun ρ h=>CO [(0,1)] h (DW type257) underlying257 ⟨rfl,Bm type3,trivial⟩ rfl rfl) ?_);refine Az (v:= .iface 257 (.agg #[iV p1])) rfl (fun ρ h=>EI underlying257 (fun _ h=>by cases h) (h _ _ rfl)) (zg 2 rfl ?_);obtain rfl:=oi al;exact AN func192 rfl rfl (K Aq rfl ⟨.iface 257 (.agg #[iV p1]),rfl,rfl,rfl⟩ ae)
 ·refine zg 4 rfl (Bu underlying141 Ca rfl rfl rfl ?_);refine JL.fl 1 ai underlying24 Ck C6 ?_;obtain⟨aC,an,ao⟩:=bs am;refine zg 1 rfl (Cf aj an underlying22 B7 ?_);rintro aD aE _ ⟨aF,aG,rfl,ap⟩ aq;refine BV 0 aq DC rfl rfl rfl ?_;obtain⟨aH,ar,au⟩:=bs ao;refine zg 1 rfl (BK (Vh ap ar) rfl rfl (AX func199 rfl) ae fun aI ag ah=>?_);refine zg 2 rfl (BL au (fun av aw=>?_) (fun av ay=>?_))
  ·refine zg 4 rfl (Az (v:= .agg #[iV p1,iV p2]) rfl (fun ρ h=>CO [(0,1),(1,1)] h (DW type259) underlying259 ⟨rfl,Bm type3,rfl,Bm type3,trivial⟩ rfl rfl) ?_);refine Az (v:= .iface 259 (.agg #[iV p1,iV p2])) rfl (fun ρ h=>EI underlying259 (fun _ h=>by cases h) (h _ _ rfl)) (zg 2 rfl ?_);obtain rfl:=oi aw;exact AN func192 rfl rfl (K ag rfl ⟨.iface 259 (.agg #[iV p1,iV p2]),rfl,rfl,rfl⟩ ah)
  ·refine zg 6 rfl ?_;obtain rfl:=oi ay;exact AN func192 rfl rfl (K ag rfl ⟨.nilIface,rfl,rfl,rfl⟩ ah)
end Pal
namespace Pal
open Go Go.Conc Go.Proofs
open Go.Proofs.Tryz
variable {J:Judge Tryz.prog}{E:LH}
def JK(fuel:Nat)(p0:(BJ)×(AY)×BS):Option Int:= if(p0.2.1.length:Int)=0 then(some 0) else((Av ((p0.2.1.length:Int) - 1)).bind fun K=> (ix p0.2.1 K).bind fun O=> some O.1)
theorem TW{bk:Nat}{k1:Nat}{V:Nat}{Z:Ap}{aa:Nat}{ab:Ap}{ae:Nat}{ag:Lv_}{O:Ap}{U:Nat}{W:Ap}{Y:Nat}{p0:(BJ)×(AY)×BS}(au:At E k1 V (([sV Z p0.1.1 aa,sV ab p0.1.2.1 ae]:Lv_)++ag))(av:An (rL rI) E Z aa p0.1.1)(aw:An (rL rI) E ab ae p0.1.2.1)(ay:(rA 13 (rN .u16)).r E ag p0.1.2.2)(aj:An BE E O U p0.2.1)(az:An rI E W Y p0.2.2.2.1){fuel:Nat}{r:Int}(ah:JK fuel p0=some r):AP J 154 [pV bk 0] E [(bk,.cells #[pV k1 V,sV O p0.2.1 U,iV p0.2.2.1,sV W p0.2.2.2.1 Y,uV p0.2.2.2.2] 175 (0,0))] (fun w E' B'=>w=iV r∧B'= [(bk,.cells #[pV k1 V,sV O p0.2.1 U,iV p0.2.2.1,sV W p0.2.2.2.1 Y,uV p0.2.2.2.2] 175 (0,0))]):=by
 refine A9 func154 fun Q aA cs H K ai=>?_;unfold JK at ah;refine zg 9 rfl (Bu underlying175 Kt rfl rfl rfl ?_);refine Az (v:= sV O p0.2.1 U) rfl (fun ρ h=>Yl.load Jb (h _ _ rfl) (Di (j:=0) (off:=1) K rfl rfl)) (Bx underlying25 rfl rfl rfl ?_);refine zg 2 rfl (AS ah (fun ak al=>?_) (fun ak am=>?_))
 ·refine zg 4 rfl ?_;obtain rfl:=oi al;exact AN func154 rfl rfl (ai Aq rfl ⟨rfl,rfl⟩ K)
 ·refine zg 2 rfl (CZ 10 [bk] ⟨⟨0,_,rfl⟩,trivial⟩ K fun ht=>?_);refine Bp ht rfl [0,1] rfl (Ce 2 ht underlying175 Kt rfl rfl rfl rfl ?_);refine EB 3 ht 1 0 K Jb ?_;refine Bp ht rfl [4,5] rfl (Ce 6 ht underlying175 Kt rfl rfl rfl rfl ?_);refine EB 7 ht 1 0 K Jb ?_;refine BC 8 ht rfl rfl (fun ρ h s' hs=>Yl.len rfl underlying25 (h _ _ rfl)) ?_;obtain⟨aB,an,ao⟩:=bs am;refine BC 9 ht rfl rfl (fun ρ h s' hs=>CY (h _ _ rfl) (h _ _ rfl) an) (Cp [10,11,12,13] ?_);obtain⟨aC,ap,aq⟩:=bs ao;refine Cf aj ap underlying25 CK ?_;rintro aD aE _ ⟨_,_,rfl,rfl,rfl⟩ ar;refine JL.fl 0 ar underlying27 A3 Bw ?_;refine zg 2 rfl ?_;obtain rfl:=oi aq;exact AN func154 rfl rfl (ai Aq rfl ⟨rfl,rfl⟩ K)
def KV(fuel:Nat)(p0:(BJ)×(AY)×BS)(p1:Int)(p2:Int)(K:Nat×Int):Option (Bi (Nat×Int) ((Nat×Bool)⊕(Nat))):= if K.2<(p0.2.1.length:Int) then(Option.bind ((ix p0.2.1 K.2).bind fun O=> if O.1≠p1 then(some (Sum.inr K.1)) else((f192 fuel p0.1 p2 O.2).bind fun U=> Option.bind (if I2 U=true then(some (Sum.inr K.1)) else(if J5 U=true then((f90 fuel K.1 K.2).bind fun V=> some (Sum.inr V)) else(some (Sum.inl (0,false))))) fun W=>Sum.elim (fun r=>some (Sum.inl r)) (fun Y=> some (Sum.inr Y)) W)) fun Z=>Sum.elim (fun r=>some (.done (Sum.inl r))) (fun aa=> (Av (K.2+1)).bind fun ab=> some (.more (aa,ab))) Z) else(some (.done (Sum.inr K.1)))
def JX(fuel:Nat)(p0:(BJ)×(AY)×BS)(p1:Int)(p2:Int):On_:= Option.bind (iter (KV fuel p0 p1 p2) fuel (0,0)) fun K=> Sum.elim (fun r=>some r) (fun O=> some (O,true)) K
theorem Ul{bk:Nat}{k1:Nat}{W:Nat}{am:Ap}{an:Nat}{ao:Ap}{ap:Nat}{aq:Lv_}{K:Ap}{O:Nat}{Y:Ap}{Z:Nat}{p0:(BJ)×(AY)×BS}{p1:Int}{p2:Int}(aN:At E k1 W (([sV am p0.1.1 an,sV ao p0.1.2.1 ap]:Lv_)++aq))(aO:An (rL rI) E am an p0.1.1)(aP:An (rL rI) E ao ap p0.1.2.1)(aQ:(rA 13 (rN .u16)).r E aq p0.1.2.2)(aR:An BE E K O p0.2.1)(bJ:An rI E Y Z p0.2.2.2.1){fuel:Nat}{r:Nat×Bool}(ar:JX fuel p0 p1 p2=some r):AP J 174 [pV bk 0,iV p1,iV p2] E [(bk,.cells #[pV k1 W,sV K p0.2.1 O,iV p0.2.2.1,sV Y p0.2.2.2.1 Z,uV p0.2.2.2.2] 175 (0,0))] (fun w E' B'=>w= .tuple #[uV r.1,.bool r.2]∧B'= [(bk,.cells #[pV k1 W,sV K p0.2.1 O,iV p0.2.2.1,sV Y p0.2.2.2.1 Z,uV p0.2.2.2.2] 175 (0,0))]):=by
 refine A9 func174 fun Q bK cs H au av=>?_;unfold JX at ar;refine zg 11 rfl (JL.label ?_);refine zg 5 rfl (Bu underlying175 Kt rfl rfl rfl ?_);refine Az (v:= sV K p0.2.1 O) rfl (fun ρ h=>Yl.load Jb (h _ _ rfl) (Di (j:=0) (off:=1) au rfl rfl)) (Bx underlying25 rfl rfl rfl ?_);obtain⟨aw,aS,ay⟩:=bs ar;refine zg 2 rfl (Bs (fun L s=>∃(aj:Nat) (az:LH),aw=Sum.inr aj∧Jm E H az [bX bk #[pV k1 W,sV K p0.2.1 O,iV p0.2.2.1,sV Y p0.2.2.2.1 Z,uV p0.2.2.2.2] 175] [(8,uV aj)] L s) ?_ ?_)
 ·rintro _ _ ⟨aj,az,rfl,rfl,rfl,aT,aU⟩;have aV:=elim_inr ay;refine zg 6 rfl ?_;obtain rfl:=oi aV;exact AN func174 rfl rfl (av aT rfl ⟨rfl,rfl⟩ aU)
 ·intro aW;refine JL.block (Cs aS (fun U=> [bX bk #[pV k1 W,sV K p0.2.1 O,iV p0.2.2.1,sV Y p0.2.2.2.1 Z,uV p0.2.2.2.2] 175]) (fun U=> [(0,pV bk 0),(1,iV p1),(2,iV p2),(8,uV U.1),(14,sV K p0.2.1 O),(15,iV (p0.2.1.length:Int)),(16,iV U.2)]) Aq au ?_);rintro U aA V aB aC ⟨bL,ae⟩ aX;have aD:=ae;unfold KV at aD;refine zg 5 rfl (AS aD (fun aY aZ=>?_) (fun aY a0=>?_))
  ·obtain⟨a1,a2,aE⟩:=bs aZ;refine zg 2 rfl (Bs (fun L s=>∃(ag:Nat) (aF:LH),a1=Sum.inr ag∧Jm aA H aF [bX bk #[pV k1 W,sV K p0.2.1 O,iV p0.2.2.1,sV Y p0.2.2.2.1 Z,uV p0.2.2.2.2] 175] [(0,pV bk 0),(1,iV p1),(2,iV p2),(8,uV ag),(14,sV K p0.2.1 O),(15,iV (p0.2.1.length:Int)),(16,iV U.2)] L s) ?_ ?_)
   ·rintro _ _ ⟨ag,aF,rfl,rfl,rfl,a3,a4⟩;have a5:=elim_inr aE;obtain⟨a6,a7,a8⟩:=bs a5;refine JL.region (Bg a7 rfl rfl rfl ?_);refine zg 2 rfl ?_;obtain rfl:=oi a8;exact aX (ag,a6) (V.Ab a3) a4 rfl ae
   ·intro aG;obtain⟨bM,a9,ba⟩:=bs a2;refine zg 4 rfl (Cf (aR.Ag V) a9 underlying25 CK ?_);rintro bN bO _ ⟨_,_,rfl,rfl,rfl⟩ bb;refine Cl bb H0 CK rfl rfl (Cr aB FG fun bP bc=>?_);refine zg 1 rfl (BF 1 bc CK fun bd=>?_);refine C9 1 bd rfl fun be aa aH ab=>zg 4 rfl (JL.fl 0 aH underlying27 A3 Bw ?_);refine zg 3 rfl (AS ba (fun bf bg=>?_) (fun bf bh=>?_))
    ·exact JL.exit rfl (AB (aG _ _ ⟨U.1,be,(Option.some.inj bg).symm,rfl,rfl,aa,ab⟩) rfl)
    ·refine zg 2 rfl (CZ 7 [bk] ⟨⟨0,_,rfl⟩,trivial⟩ ab fun ht=>?_);refine Bp ht rfl [0,1] rfl (Ce 2 ht underlying175 Mn rfl rfl rfl rfl ?_);refine EB 3 ht 0 0 ab Kj ?_;refine Ct 4 ht rfl rfl (Ce 5 ht underlying27 A3 rfl rfl rfl rfl ?_);refine JG.lp 6 ht 1 aH ab ⟨⟨0,_,rfl⟩,trivial⟩ Bw ?_;refine Cp [7] ?_;obtain⟨ah,bi,bj⟩:=bs bh;refine BH (Vx (aN.Ag (V.Ab aa)) (aO.Ag (V.Ab aa)) (aP.Ag (V.Ab aa)) (Rp.Ag _ (V.Ab aa) aQ) bi) rfl rfl (AX func192 rfl) ab ?_;rintro _ aI _ aJ ⟨bQ,rfl,rfl,aK⟩ ak;refine zg 4 rfl (Az (v:= .tuple #[(NK ah),.bool (I2 ah)]) rfl (fun ρ h=>Sa (t2:=259) underlying257 (DW type257) (by decide) aK (h _ _ rfl)) ?_);obtain⟨bl,bm,aL⟩:=bs bj;refine zg 3 rfl (Bs (fun L s=>∃(ai:Nat) (al:LH),bl=Sum.inr ai∧Jm aI H al [bX bk #[pV k1 W,sV K p0.2.1 O,iV p0.2.2.1,sV Y p0.2.2.2.1 Z,uV p0.2.2.2.2] 175] [(0,pV bk 0),(1,iV p1),(2,iV p2),(8,uV ai),(14,sV K p0.2.1 O),(15,iV (p0.2.1.length:Int)),(16,iV U.2)] L s) ?_ ?_)
     ·rintro _ _ ⟨ai,al,rfl,rfl,rfl,bn,bo⟩;have bp:=elim_inr aL;exact zg 2 rfl (AB (aG _ _ ⟨ai,al,(Option.some.inj bp).symm,rfl,rfl,((aa.Ab aJ).Ab bn),bo⟩) rfl)
     ·intro aM;refine BL bm (fun bq br=>?_) (fun bq bu=>?_)
      ·exact JL.skip (AB (aM _ _ ⟨U.1,aI,(Option.some.inj br).symm,rfl,rfl,Aq,ak⟩) rfl)
      ·refine zg 2 rfl (Az (v:= .tuple #[(NJ ah),.bool (J5 ah)]) rfl (fun ρ h=>RR (t1:=257) underlying259 (DW type259) (by decide) aK (h _ _ rfl)) ?_);refine zg 3 rfl (BL bu (fun bv bw=>?_) (fun bv bx=>?_))
       ·obtain⟨bz,bA,bB⟩:=bs bw;refine zg 3 rfl (BK (LN bA) rfl rfl Ko ak fun bC bD bE=>?_);exact zg 2 rfl (AB (aM _ _ ⟨bz,bC,(Option.some.inj bB).symm,rfl,rfl,bD,bE⟩) rfl)
       ·refine zg 5 rfl ?_;obtain rfl:=oi bx;have bF:=elim_inl aL;obtain rfl:=oi bF;have bG:=elim_inl aE;obtain rfl:=oi bG;obtain rfl:=aC _ ae;have bH:=elim_inl ay;obtain rfl:=oi bH;exact AN func174 rfl rfl (av ((V.Ab aa).Ab aJ) rfl ⟨rfl,rfl⟩ ak)
  ·refine JL.exit rfl ?_;obtain rfl:=oi a0;have bI:aw=(Sum.inr U.1):=(aC _ ae).symm;exact AB (aW _ _ ⟨U.1,aA,bI,rfl,rfl,V,aB⟩) rfl
end Pal
namespace Pal
open Go Go.Conc Go.Proofs
open Go.Proofs.Tryz
variable {J:Judge Tryz.prog}{E:LH}
def JN(fuel:Nat)(p0:List Int):Option ((List Int)):= (Ds ([]:List Int) p0).bind fun K=> some K
theorem T4{ad:Addr}{c2:Nat}{p0:List Int}(V:An rI E (some ad) c2 p0){fuel:Nat}{r:(List Int)}(K:JN fuel p0=some r):AP J 175 [.slice (some ad) p0.length c2] E [] (fun w E' B'=>∃(O:Ap) (U:Nat) (g0:Seg),w= sV O r U∧B'=g0∧OL 3 rI E' O U g0 r):=by
 refine A9 func175 fun Q al cs H W Y=>?_;unfold JN at K;refine zg 8 rfl (Az (v:= .bool false) rfl (fun ρ h=>KD (a:=(some ad)) underlying28 (h _ _ rfl) (h _ _ rfl)) ?_);refine zg 5 rfl (MT (pp:=rI) rfl rfl rfl underlying28 A3 W fun am g2 Z aa=>?_);obtain⟨an,ab,ae⟩:=bs K;refine zg 1 rfl (MW (pp:=rI) 1 ab rfl rfl rfl rfl rfl rfl rfl underlying28 underlying28 A3 (CX type3) Cn rfl (by decide) (by decide) Z V aa rfl fun ag ah ai aj ak=>?_);refine zg 2 rfl ?_;obtain rfl:=oi ae;exact AN func175 rfl rfl (Y Aq rfl ⟨ag,ah,ai,rfl,(by first | rfl | simp | (simp [Value.cells])),aj⟩ ak)
def QP(fuel:Nat)(p0:List Int):Option ((List Int)):= some ([])
theorem Uw{c2:Nat}{p0:List Int}(Y:An rI E none c2 p0){fuel:Nat}{r:(List Int)}(K:QP fuel p0=some r):AP J 175 [sV none p0 c2] E [] (fun w E' B'=>∃(O:Ap) (U:Nat) (g0:Seg),w= sV O r U∧B'=g0∧OL 3 rI E' O U g0 r):=by
 refine A9 func175 fun Q Z cs H V W=>?_;unfold QP at K;refine zg 8 rfl (Az (v:= .bool true) rfl (fun ρ h=>KD (a:=none) underlying28 (h _ _ rfl) (h _ _ rfl)) ?_);refine zg 6 rfl ?_;obtain rfl:=oi K;exact AN func175 rfl rfl (W Aq rfl ⟨none,0,[],rfl,rfl,OL.nil⟩ V)
def f175(fuel:Nat)(p0:List Int):Option (List Int):=JN fuel p0
theorem P2{O:Ap}{c2:Nat}{p0:List Int}(U:An rI E O c2 p0){fuel:Nat}{r:List Int}(K:f175 fuel p0=some r):AP J 175 [.slice O p0.length c2] E [] (fun w E' B'=>∃(V:Ap) (W:Nat) (g0:Seg),w= .slice V r.length W∧B'=g0∧OL 3 rI E' V W g0 r):=by
 cases O with
 | some ad=>exact T4 U K
 | none=>
  have Y:p0= []:=by
   rcases U.2 with h | ⟨_,_,h,_⟩
   ·exact h.1
   ·cases h
  subst Y;have Z:r= []:=by
   have aa:JN fuel []=some []:=rfl;unfold f175 at K;rw [aa] at K;exact(Option.some.inj K).symm
  subst Z;exact Uw (fuel:=fuel) U rfl
end Pal
namespace Pal
open Go Go.Conc Go.Proofs
open Go.Proofs.Tryz
def HS(fuel:Nat)(le:Int)(all:List (BS))(tr:(BS))(O:Int):Option (Int×List (BS)):=
 Option.bind (
  if((all).length:Int)=0 then(
   some true
  ) else(
   some (decide (O<le))
  )
 ) fun U=>
 Option.bind (
  if U=true then(
   some (O,[])
  ) else(
   some (le,all)
  )
 ) fun K=>
 Option.bind (
  if O=K.1 then(
   (Ds K.2 ([tr]:List (BS))).bind fun V=>
   some V
  ) else(
   some K.2
  )
 ) fun W=>
 some (K.1,W)
theorem U2{J:Judge Tryz.prog}{E:LH}{bk:Nat}{age:Int}{le:Int}{a:Ap}{c:Nat}{g:Seg}{all:List (BS)}(aD:OL 104 CV E a c g all){W:Ap}{Y:Nat}{tr:(BS)}(aE:An rI E W Y tr.2.1){Z:Int}{fuel:Nat}{r:Int×List (BS)}(aq:HS fuel le all tr Z=some r):
  AP J 122 [pV bk 1,.agg #[iV tr.1,.slice W tr.2.1.length Y,uV tr.2.2],iV Z] E ([(bk,.cells #[iV age,iV le,.slice a all.length c] 133 (0,0))]++g) (fun w E' B'=>∃ar au g',w= .tuple #[]∧B'= [(bk,.cells #[iV age,iV r.1,.slice ar r.2.length au] 133 (0,0))]++g'∧OL 104 CV E' ar au g' r.2):=by
 refine A9 func122 fun Q bg cs H al aF=>?_;refine Dj (S':= [[(bk,.cells #[iV age,iV le,.slice a all.length c] 133 (0,0))],g]) (by simp) al fun al=>?_;unfold HS at aq;refine zg 2 rfl (CB al fun av am an aG aa=>?_);refine zg 6 rfl (Bu underlying97 C7 rfl rfl rfl ?_);refine Az (v:= sV a all c) rfl (fun ρ h=>Yl.load El (h _ _ rfl) (Di (j:=0) (off:=2) aa rfl rfl)) (Bx underlying95 rfl rfl rfl ?_);obtain⟨aH,aI,aJ⟩:=bs aq;refine zg 2 rfl (Fx [] (fun L s=>∃(U:LH),Jm am H U [bX bk #[iV age,iV le,sV a all c] 133,g] [(0,pV bk 1),(2,iV Z),(4,pV av 0),(19,.bool aH)] L s) ?_ ?_)
 ·rintro _ _ ⟨U,rfl,rfl,ab,aw⟩;obtain⟨V,aK,aL⟩:=bs aJ;refine JL.done (Bs (fun L s=>∃(K:LH) (ae:Ap) (ag:Nat) (ah:Seg),Jn U H K [bX bk #[iV age,iV V.1,sV ae V.2 ag] 133,ah] [(0,pV bk 1),(2,iV Z),(4,pV av 0)] L s (OL 104 CV K ae ag ah V.2)) ?_ ?_)
  ·rintro _ _ ⟨K,ae,ag,ah,rfl,rfl,ao,O,ay⟩;refine zg 5 rfl (Bu underlying97 A3 rfl rfl rfl ?_);refine Az (v:=iV V.1) rfl (fun ρ h=>Yl.load Bw (h _ _ rfl) (Di (j:=0) (off:=1) O rfl rfl)) ?_;obtain⟨az,aM,aN⟩:=bs aL;refine zg 2 rfl (Bs (fun L s=>∃(ap:LH) (ai:Ap) (aj:Nat) (ak:Seg),Jn K H ap [bX bk #[iV age,iV V.1,sV ai az aj] 133,ak] [] L s (OL 104 CV ap ai aj ak az)) ?_ ?_)
   ·rintro _ _ ⟨ap,ai,aj,ak,rfl,rfl,aO,aP,aQ⟩;obtain rfl:=oi aN;exact JL.fin (v:= .tuple #[]) rfl rfl (BR.list func122 rfl (vs:= []) trivial) (aF (((an.Ab ab).Ab ao).Ab aO) rfl ⟨ai,aj,ak,rfl,by simp,aQ⟩ aP)
   ·intro aA;refine AS aM (fun aR aS=>?_) (fun aR aT=>?_)
    ·refine CZ 8 [bk] ⟨⟨0,_,rfl⟩,trivial⟩ O fun ht=>Bp ht rfl [0,1,2] rfl (Ce 3 ht underlying97 C7 rfl rfl rfl rfl ?_);refine EB 4 ht 2 0 O El ?_;refine BC 5 ht rfl rfl (fun ρ h s' hs=>EK (vs:= [iV tr.1,sV W tr.2.1 Y,uV tr.2.2]) Ft B9 (h _ _ rfl) (At.Nb (aG.Ag (ab.Ab ao)) (Nz O hs ⟨⟨0,_,rfl⟩,trivial⟩))) ?_;obtain⟨bh,aU,aV⟩:=bs aS;refine JG.one (i:=6) rfl (by decide+kernel) (Take.lit (pp:=CV) (jp:=0) [.agg #[iV tr.1,sV W tr.2.1 Y,uV tr.2.2]] ([tr]:List BS) O rfl rfl rfl rfl underlying95 B9 Gm (by decide) rfl rfl rfl ⟨⟨_,_,rfl,rfl,⟨_,_,rfl,⟨_,_,rfl,(aE.Ag ((an.Ab ab).Ab ao))⟩,rfl⟩⟩,trivial⟩ fun bi bj aW aX=>?_);refine JG.one (i:=7) rfl (by decide+kernel) (Take.app (pp:=CV) (jp:=0) 1 2 aX rfl aU rfl rfl rfl rfl rfl rfl rfl underlying95 underlying95 B9 (CX type104) Gm rfl (by decide) (by decide) ay aW rfl rfl rfl rfl fun aY aZ bl a0 a1 a2=>?_);refine Cp [8,9,10] (EM 1 rfl a2 fun a3=>?_);refine JS.drop 1 a3 rfl fun a4=>zg 1 rfl (Bu underlying97 C7 rfl rfl rfl ?_);refine BF 0 a4 C7 fun a5=>?_;refine JL.done (JS.drop 2 a5 rfl fun a6=>?_);obtain rfl:=oi aV;exact AB (aA _ _ ⟨K,aY,aZ,a0,rfl,rfl,Aq,a6,a1⟩) rfl
    ·refine JL.skip ?_;obtain rfl:=oi aT;exact AB (aA _ _ ⟨K,ae,ag,ah,rfl,rfl,Aq,O,ay⟩) rfl
  ·intro aB;refine BL aK (fun a7 a8=>?_) (fun a7 a9=>?_)
   ·refine zg 5 rfl (Bu underlying97 A3 rfl rfl rfl ?_);refine BF 0 aw A3 fun ba=>?_;refine zg 1 rfl (Bu underlying97 C7 rfl rfl rfl ?_);refine BF 0 ba C7 fun bb=>?_;refine JL.done (JS.drop 1 bb rfl fun bc=>?_);obtain rfl:=oi a8;exact AB (aB _ _ ⟨U,none,0,[],rfl,rfl,Aq,bc,OL.nil⟩) rfl
   ·refine JL.skip ?_;obtain rfl:=oi a9;exact AB (aB _ _ ⟨U,a,c,g,rfl,rfl,Aq,aw,(aD.Ag (an.Ab ab))⟩) rfl
 ·intro aC;refine Er 12 aI (fun bd be=>?_) (fun bd bf=>?_)
  ·refine zg 7 rfl ?_;obtain rfl:=oi be;exact AB (aC _ _ ⟨am,rfl,rfl,Aq,aa⟩) rfl
  ·refine zg 3 rfl (Bu underlying97 A3 rfl rfl rfl ?_);refine Az (v:=iV le) rfl (fun ρ h=>Yl.load Bw (h _ _ rfl) (Di (j:=0) (off:=1) aa rfl rfl)) (zg 2 rfl ?_);obtain rfl:=oi bf;exact AB (aC _ _ ⟨am,rfl,rfl,Aq,aa⟩) rfl
theorem UY{J:Judge Tryz.prog}{E:LH}{bk:Nat}{age:Int}{le:Int}{a:Ap}{c:Nat}{g:Seg}{all:List (BS)}(aD:OL 104 CV E a c g all){W:Ap}{Y:Nat}{tr:(BS)}(aE:An rI E W Y tr.2.1){Z:Int}{fuel:Nat}{r:Int×List (BS)}(aq:HS fuel le all tr Z=some r):
  AP J 122 [pV bk 0,.agg #[iV tr.1,.slice W tr.2.1.length Y,uV tr.2.2],iV Z] E ([(bk,.cells #[iV le,.slice a all.length c] 97 (0,0))]++g) (fun w E' B'=>∃ar au g',w= .tuple #[]∧B'= [(bk,.cells #[iV r.1,.slice ar r.2.length au] 97 (0,0))]++g'∧OL 104 CV E' ar au g' r.2):=by
 refine A9 func122 fun Q bg cs H al aF=>?_;refine Dj (S':= [[(bk,.cells #[iV le,.slice a all.length c] 97 (0,0))],g]) (by simp) al fun al=>?_;unfold HS at aq;refine zg 2 rfl (CB al fun av am an aG aa=>?_);refine zg 6 rfl (Bu underlying97 C7 rfl rfl rfl ?_);refine Az (v:= sV a all c) rfl (fun ρ h=>Yl.load El (h _ _ rfl) (Di (j:=0) (off:=1) aa rfl rfl)) (Bx underlying95 rfl rfl rfl ?_);obtain⟨aH,aI,aJ⟩:=bs aq;refine zg 2 rfl (Fx [] (fun L s=>∃(U:LH),Jm am H U [bX bk #[iV le,sV a all c] 97,g] [(0,pV bk 0),(2,iV Z),(4,pV av 0),(19,.bool aH)] L s) ?_ ?_)
 ·rintro _ _ ⟨U,rfl,rfl,ab,aw⟩;obtain⟨V,aK,aL⟩:=bs aJ;refine JL.done (Bs (fun L s=>∃(K:LH) (ae:Ap) (ag:Nat) (ah:Seg),Jn U H K [bX bk #[iV V.1,sV ae V.2 ag] 97,ah] [(0,pV bk 0),(2,iV Z),(4,pV av 0)] L s (OL 104 CV K ae ag ah V.2)) ?_ ?_)
  ·rintro _ _ ⟨K,ae,ag,ah,rfl,rfl,ao,O,ay⟩;refine zg 5 rfl (Bu underlying97 A3 rfl rfl rfl ?_);refine Az (v:=iV V.1) rfl (fun ρ h=>Yl.load Bw (h _ _ rfl) (Di (j:=0) (off:=0) O rfl rfl)) ?_;obtain⟨az,aM,aN⟩:=bs aL;refine zg 2 rfl (Bs (fun L s=>∃(ap:LH) (ai:Ap) (aj:Nat) (ak:Seg),Jn K H ap [bX bk #[iV V.1,sV ai az aj] 97,ak] [] L s (OL 104 CV ap ai aj ak az)) ?_ ?_)
   ·rintro _ _ ⟨ap,ai,aj,ak,rfl,rfl,aO,aP,aQ⟩;obtain rfl:=oi aN;exact JL.fin (v:= .tuple #[]) rfl rfl (BR.list func122 rfl (vs:= []) trivial) (aF (((an.Ab ab).Ab ao).Ab aO) rfl ⟨ai,aj,ak,rfl,by simp,aQ⟩ aP)
   ·intro aA;refine AS aM (fun aR aS=>?_) (fun aR aT=>?_)
    ·refine CZ 8 [bk] ⟨⟨0,_,rfl⟩,trivial⟩ O fun ht=>Bp ht rfl [0,1,2] rfl (Ce 3 ht underlying97 C7 rfl rfl rfl rfl ?_);refine EB 4 ht 1 0 O El ?_;refine BC 5 ht rfl rfl (fun ρ h s' hs=>EK (vs:= [iV tr.1,sV W tr.2.1 Y,uV tr.2.2]) Ft B9 (h _ _ rfl) (At.Nb (aG.Ag (ab.Ab ao)) (Nz O hs ⟨⟨0,_,rfl⟩,trivial⟩))) ?_;obtain⟨bh,aU,aV⟩:=bs aS;refine JG.one (i:=6) rfl (by decide+kernel) (Take.lit (pp:=CV) (jp:=0) [.agg #[iV tr.1,sV W tr.2.1 Y,uV tr.2.2]] ([tr]:List BS) O rfl rfl rfl rfl underlying95 B9 Gm (by decide) rfl rfl rfl ⟨⟨_,_,rfl,rfl,⟨_,_,rfl,⟨_,_,rfl,(aE.Ag ((an.Ab ab).Ab ao))⟩,rfl⟩⟩,trivial⟩ fun bi bj aW aX=>?_);refine JG.one (i:=7) rfl (by decide+kernel) (Take.app (pp:=CV) (jp:=0) 1 2 aX rfl aU rfl rfl rfl rfl rfl rfl rfl underlying95 underlying95 B9 (CX type104) Gm rfl (by decide) (by decide) ay aW rfl rfl rfl rfl fun aY aZ bl a0 a1 a2=>?_);refine Cp [8,9,10] (EM 1 rfl a2 fun a3=>?_);refine JS.drop 1 a3 rfl fun a4=>zg 1 rfl (Bu underlying97 C7 rfl rfl rfl ?_);refine BF 0 a4 C7 fun a5=>?_;refine JL.done (JS.drop 2 a5 rfl fun a6=>?_);obtain rfl:=oi aV;exact AB (aA _ _ ⟨K,aY,aZ,a0,rfl,rfl,Aq,a6,a1⟩) rfl
    ·refine JL.skip ?_;obtain rfl:=oi aT;exact AB (aA _ _ ⟨K,ae,ag,ah,rfl,rfl,Aq,O,ay⟩) rfl
  ·intro aB;refine BL aK (fun a7 a8=>?_) (fun a7 a9=>?_)
   ·refine zg 5 rfl (Bu underlying97 A3 rfl rfl rfl ?_);refine BF 0 aw A3 fun ba=>?_;refine zg 1 rfl (Bu underlying97 C7 rfl rfl rfl ?_);refine BF 0 ba C7 fun bb=>?_;refine JL.done (JS.drop 1 bb rfl fun bc=>?_);obtain rfl:=oi a8;exact AB (aB _ _ ⟨U,none,0,[],rfl,rfl,Aq,bc,OL.nil⟩) rfl
   ·refine JL.skip ?_;obtain rfl:=oi a9;exact AB (aB _ _ ⟨U,a,c,g,rfl,rfl,Aq,aw,(aD.Ag (an.Ab ab))⟩) rfl
 ·intro aC;refine Er 12 aI (fun bd be=>?_) (fun bd bf=>?_)
  ·refine zg 7 rfl ?_;obtain rfl:=oi be;exact AB (aC _ _ ⟨am,rfl,rfl,Aq,aa⟩) rfl
  ·refine zg 3 rfl (Bu underlying97 A3 rfl rfl rfl ?_);refine Az (v:=iV le) rfl (fun ρ h=>Yl.load Bw (h _ _ rfl) (Di (j:=0) (off:=0) aa rfl rfl)) (zg 2 rfl ?_);obtain rfl:=oi bf;exact AB (aC _ _ ⟨am,rfl,rfl,Aq,aa⟩) rfl
end Pal
namespace Pal
open Go Go.Conc Go.Proofs
open Go.Proofs.Tryz
def JY(fuel:Nat)(O:BJ)(lk:AY)(age:Int)(ms:List Int)(fl:Nat)(m:Int):Option (Option (List Int×Nat)):=
 (JX fuel (O,lk,age,ms,fl) ((ms).length:Int) m).bind fun K=>
 if(!K.2)=true then(
  some none
 ) else(
  (f175 fuel ms).bind fun U=>
  (Ds U ([m]:List Int)).bind fun V=>
  (Ir (fl) (K.1)).bind fun W=>
  some (some (V,W))
 )
theorem VP{J:Judge Tryz.prog}{A:Type}{I:A→LH→Seg→Prop}(a5:∀x E E' X,Le E E'→I x E X→I x E' X){E:LH}{bk k1 K:Nat}{aK aL O Z:Ap}{aM aN U aa:Nat}{aO:Lv_}{ah:BJ}{lk:AY}{age:Int}{ms:List Int}{fl:Nat}(a6:At E k1 K (([sV aK ah.1 aM,sV aL ah.2.1 aN]:Lv_)++aO))(a7:An (rL rI) E aK aM ah.1)(a8:An (rL rI) E aL aN ah.2.1)(a9:(rA 13 (rN .u16)).r E aO ah.2.2)(ba:An BE E O U lk)(ay:An rI E Z aa ms){aP:Value}{X:Seg}{acc acc':A}(bb:I acc E X){m:Int}{fuel:Nat}{r:Option (List Int×Nat)}(aQ:JY fuel ah lk age ms fl m=some r)
  (bc:r=none→acc'=acc)
  (aR:∀q,r=some q→∀E' a c,Le E E'→An rI E' a c q.1→Et J aP [] E' ([(bk,.cells #[pV k1 K,.slice O lk.length U,iV age,.slice a q.1.length c,uV q.2] 175 (0,0))]++X) (fun w bd be=>∃am an ao Y,w= .bool true∧be= [(bk,.cells #[pV k1 K,.slice O lk.length U,am,an,ao] 175 (0,0))]++Y∧I acc' bd Y)):
  AP J 155 [pV bk 0,iV m,aP] E ([(bk,.cells #[pV k1 K,.slice O lk.length U,iV age,.slice Z ms.length aa,uV fl] 175 (0,0))]++X) (fun w E' B'=>∃Y,w= .bool true∧B'= [(bk,.cells #[pV k1 K,.slice O lk.length U,iV age,.slice Z ms.length aa,uV fl] 175 (0,0))]++Y∧I acc' E' Y):=by
 refine A9 func155 fun Q aS cs H az aA=>?_;refine Dj (S':= [[(bk,.cells #[pV k1 K,.slice O lk.length U,iV age,.slice Z ms.length aa,uV fl] 175 (0,0))],X]) (by simp) az fun az=>?_;unfold JY at aQ;refine zg 2 rfl (CB az fun ai b3 V ae ap=>?_);refine zg 3 rfl (CZ 13 [bk] ⟨⟨0,_,rfl⟩,trivial⟩ ap fun ht=>?_);refine JG.lp 0 ht 0 ae ap ⟨⟨0,_,rfl⟩,trivial⟩ Fb ?_;refine JG.lp 1 ht 0 ae ap ⟨⟨0,_,rfl⟩,trivial⟩ Fb ?_;refine Ct 2 ht rfl rfl (Ce 3 ht underlying175 B9 rfl rfl rfl rfl ?_);refine Ce 4 ht underlying104 B7 rfl rfl rfl rfl (EB 5 ht 3 0 ap DC ?_);refine BC 6 ht rfl rfl (fun ρ h s' hs=>Yl.len rfl underlying28 (h _ _ rfl)) (Ct 7 ht rfl rfl ?_);obtain⟨bf,bg,bh⟩:=bs aQ;refine OC (i:=8) (vs:= [pV bk 0,iV (ms.length:Int),iV m]) 0 ⟨⟨0,_,rfl⟩,trivial⟩ (Ul (a6.Ag V) (a7.Ag V) (a8.Ag V) (Rp.Ag _ V a9) (ba.Ag V) (ay.Ag V) bg) (fun _ _ _ h=>h.2) (by decide+kernel) rfl rfl rfl (AX func174 rfl) rfl ap rfl ?_;rintro _ b4 W ⟨rfl,_⟩ aB;refine Bp ht rfl [9,10,11,12] rfl (Cp [13] ?_);refine zg 6 rfl (Az (v:= .bool (!bf.2)) rfl (fun ρ h=>Yl.not (h _ _ rfl)) ?_);refine JL.done (BL bh (fun bi bj=>?_) (fun bi bl=>?_))
 ·refine zg 4 rfl ?_;obtain rfl:=oi bj;exact AN func155 rfl rfl (aA (V.Ab W) rfl ⟨X,rfl,by simp,by rw [bc rfl];exact a5 _ _ _ _ (V.Ab W) bb⟩ aB)
 ·refine zg 3 rfl (BV 0 (ae.Ag W) Fb rfl rfl rfl ?_);refine zg 1 rfl (Bu underlying175 B9 rfl rfl rfl ?_);refine Az rfl (fun ρ h=>EK (vs:= [iV age,sV Z ms aa,uV fl]) Ft B9 (h _ _ rfl) (EG (off:=2) 0 aB rfl rfl)) (Cr aB Gm fun aj bm=>?_);refine BF 3 bm B9 fun bn=>?_;refine C9 3 bn rfl fun b5 ab aC bo=>Cg (S':= [[(bk,.cells #[pV k1 K,sV O lk U,iV age,sV Z ms aa,uV fl] 175 (0,0))],X,[],[]]) rfl bo fun aT=>zg 2 rfl (Ep 7 fun ht=>?_);refine DR 0 ht 0 (ae.Ag (W.Ab ab)) Fb rfl rfl rfl rfl (Ce 1 ht underlying104 B7 rfl rfl rfl rfl ?_);refine DR 2 ht 1 aC DC rfl rfl rfl rfl (Ct 4 ht rfl rfl ?_);obtain⟨b6,aU,bp⟩:=bs bl;obtain⟨ak,aV,aW⟩:=bs bp;refine Gu (i:=3) (j:=5) rfl (by decide+kernel) ?_ ?_
  ·refine Take.Eo (vs:= [sV Z ms aa]) aT (P2 (ay.Ag ((V.Ab W).Ab ab)) aU) rfl rfl rfl (AX func175 rfl) rfl ?_;rintro _ b7 _ aq ⟨b8,b9,ca,rfl,rfl,bq⟩ br;refine JG.one (i:=5) rfl (by decide+kernel) (Take.Q2 (pp:=rI) [iV m] ([m]:List Int) br rfl rfl rfl underlying28 A3 Cn (by decide) rfl rfl rfl ⟨rfl,trivial⟩ fun cb aX bu bv=>?_);refine JG.one (i:=6) rfl (by decide+kernel) (Take.app0 (pp:=rI) 4 5 bv aV rfl rfl rfl rfl rfl rfl rfl underlying28 underlying28 A3 (CX type3) Cn rfl (by decide) (by decide) bq bu rfl rfl fun aY aZ cc bw bx bz=>?_);refine Cp [7,8,9,10] (EM 4 rfl bz fun bA=>?_);refine JS.drop 4 bA rfl fun bB=>Cg (S':= [[(bk,.cells #[pV k1 K,sV O lk U,iV age,sV Z ms aa,uV fl] 175 (0,0))],X,[],[],[],aX,bw]) rfl bB fun bC=>zg 1 rfl (Bu underlying175 B9 rfl rfl rfl ?_);refine Bu underlying104 B7 rfl rfl rfl (BF 0 bC B7 fun a0=>?_);refine zg 3 rfl (BV 0 (ae.Ag ((W.Ab ab).Ab aq)) Fb rfl rfl rfl ?_);refine zg 1 rfl (Bu underlying175 B9 rfl rfl rfl ?_);refine Bu underlying104 DN rfl rfl rfl (Az (v:= uV fl) rfl (fun ρ h=>Yl.load Gj (h _ _ rfl) (Di (j:=0) (off:=4) a0 rfl rfl)) ?_);obtain⟨ar,bD,bE⟩:=bs aW;refine zg 1 rfl (Az (v:= uV ar) rfl (fun ρ h=>Jo (h _ _ rfl) (h _ _ rfl) bD) ?_);refine zg 1 rfl (Bu underlying175 B9 rfl rfl rfl ?_);refine Bu underlying104 DN rfl rfl rfl (BF 0 a0 DN fun bF=>?_);refine zg 2 rfl (Cb 6 bx bF rfl fun cd au bG bH=>?_);refine Cg (S':= [[(bk,.cells #[pV k1 K,sV O lk U,iV age,sV aY ak aZ,uV ar] 175 (0,0))],X,[],[],[],aX,[]]) rfl bH fun bI=>JS.drop 5 bI rfl fun bJ=>?_;obtain rfl:=oi bE;refine JL.region (Az (v:= .func (.func 176) #[] [pV aj 0,pV ai 0].toArray) rfl (fun ρ h=>H6 (by simp) (by simp [h (.tmp 9) _ rfl,h (.tmp 3) _ rfl])) ?_);refine OI (vs:= []) (caps:= [pV aj 0,pV ai 0]) rfl rfl rfl rfl rfl rfl (zg 4 rfl ?_);refine Dj (S':= [[(bk,.cells #[pV k1 K,sV O lk U,iV age,sV aY ak aZ,uV ar] 175 (0,0))]++X]) (by simp) bJ fun aD=>IG (vs:= []) 0 (aR (ak,ar) rfl _ _ _ ((((V.Ab W).Ab ab).Ab aq).Ab au) bG) rfl rfl rfl rfl rfl aD rfl ?_;rintro _ bK _ ag ⟨am,an,ao,Y,rfl,rfl,aE⟩ aF;refine zg 2 rfl (GO rfl ?_);refine JO.P6 (vs:= []) (caps:= [pV aj 0,pV ai 0]) rfl func176 rfl rfl (Nat.le_of_ble_eq_true rfl) fun T aG todo=>Dj (S':= [[(bk,.cells #[pV k1 K,.slice O lk.length U,am,an,ao] 175 (0,0))],Y]) (by simp) aF fun aH=>JL.region (BV 0 (ae.Ag ((((W.Ab ab).Ab aq).Ab au).trans ag)) Fb rfl rfl rfl ?_);refine Cl (aC.Ag ((aq.Ab au).trans ag)) Ft B9 rfl rfl (zg 1 rfl ?_);refine Bu underlying175 B9 rfl rfl rfl (BF 0 aH B9 fun aI=>?_);refine Cg (S':= [[(bk,.cells #[pV k1 K,.slice O lk.length U,iV age,.slice Z ms.length aa,uV fl] 175 (0,0))],Y]) rfl aI fun aJ=>JL.done (JL.out rfl ?_);refine JO.leaveD rfl func176 rfl (.inl rfl) ?_;refine(?_:JO J Q (base 155) Tryz.f155.ntmps _ [] (aS::cs) _) T aG todo;exact JO.leave (v:= .bool true) rfl (BR.list func155 rfl (vs:= [.bool true]) ⟨rfl,trivial⟩) (aA (((((V.Ab W).Ab ab).Ab aq).Ab au).trans ag) rfl ⟨Y,rfl,by simp,aE⟩ aJ)
  ·refine Take.Q2 (pp:=rI) [iV m] ([m]:List Int) aT rfl rfl rfl underlying28 A3 Cn (by decide) rfl rfl rfl ⟨rfl,trivial⟩ fun ce a1 bL bM=>JG.one (i:=3) rfl (by decide+kernel) (Take.Eo (vs:= [sV Z ms aa]) bM (P2 (ay.Ag ((V.Ab W).Ab ab)) aU) rfl rfl rfl (AX func175 rfl) rfl ?_);rintro _ cf _ al ⟨cg,ci,ck,rfl,rfl,bN⟩ bO;refine JG.one (i:=6) rfl (by decide+kernel) (Take.app0 (pp:=rI) 5 4 bO aV rfl rfl rfl rfl rfl rfl rfl underlying28 underlying28 A3 (CX type3) Cn rfl (by decide) (by decide) bN (bL.Ag al) rfl rfl fun a2 a3 cm bP bQ bR=>?_);refine Cp [7,8,9,10] (EM 5 rfl bR fun bS=>?_);refine JS.drop 5 bS rfl fun bT=>Cg (S':= [[(bk,.cells #[pV k1 K,sV O lk U,iV age,sV Z ms aa,uV fl] 175 (0,0))],X,[],[],a1,[],bP]) rfl bT fun bU=>zg 1 rfl (Bu underlying175 B9 rfl rfl rfl ?_);refine Bu underlying104 B7 rfl rfl rfl (BF 0 bU B7 fun a4=>?_);refine zg 3 rfl (BV 0 (ae.Ag ((W.Ab ab).Ab al)) Fb rfl rfl rfl ?_);refine zg 1 rfl (Bu underlying175 B9 rfl rfl rfl ?_);refine Bu underlying104 DN rfl rfl rfl (Az (v:= uV fl) rfl (fun ρ h=>Yl.load Gj (h _ _ rfl) (Di (j:=0) (off:=4) a4 rfl rfl)) ?_);obtain⟨av,bV,bW⟩:=bs aW;refine zg 1 rfl (Az (v:= uV av) rfl (fun ρ h=>Jo (h _ _ rfl) (h _ _ rfl) bV) ?_);refine zg 1 rfl (Bu underlying175 B9 rfl rfl rfl ?_);refine Bu underlying104 DN rfl rfl rfl (BF 0 a4 DN fun bY=>?_);refine zg 2 rfl (Cb 6 bQ bY rfl fun cn aw bZ b0=>?_);refine Cg (S':= [[(bk,.cells #[pV k1 K,sV O lk U,iV age,sV a2 ak a3,uV av] 175 (0,0))],X,[],[],a1,[],[]]) rfl b0 fun b1=>JS.drop 4 b1 rfl fun b2=>?_;obtain rfl:=oi bW;refine JL.region (Az (v:= .func (.func 176) #[] [pV aj 0,pV ai 0].toArray) rfl (fun ρ h=>H6 (by simp) (by simp [h (.tmp 9) _ rfl,h (.tmp 3) _ rfl])) ?_);refine OI (vs:= []) (caps:= [pV aj 0,pV ai 0]) rfl rfl rfl rfl rfl rfl (zg 4 rfl ?_);refine Dj (S':= [[(bk,.cells #[pV k1 K,sV O lk U,iV age,sV a2 ak a3,uV av] 175 (0,0))]++X]) (by simp) b2 fun aD=>IG (vs:= []) 0 (aR (ak,av) rfl _ _ _ ((((V.Ab W).Ab ab).Ab al).Ab aw) bZ) rfl rfl rfl rfl rfl aD rfl ?_;rintro _ bK _ ag ⟨am,an,ao,Y,rfl,rfl,aE⟩ aF;refine zg 2 rfl (GO rfl ?_);refine JO.P6 (vs:= []) (caps:= [pV aj 0,pV ai 0]) rfl func176 rfl rfl (Nat.le_of_ble_eq_true rfl) fun T aG todo=>Dj (S':= [[(bk,.cells #[pV k1 K,.slice O lk.length U,am,an,ao] 175 (0,0))],Y]) (by simp) aF fun aH=>JL.region (BV 0 (ae.Ag ((((W.Ab ab).Ab al).Ab aw).trans ag)) Fb rfl rfl rfl ?_);refine Cl (aC.Ag ((al.Ab aw).trans ag)) Ft B9 rfl rfl (zg 1 rfl ?_);refine Bu underlying175 B9 rfl rfl rfl (BF 0 aH B9 fun aI=>?_);refine Cg (S':= [[(bk,.cells #[pV k1 K,.slice O lk.length U,iV age,.slice Z ms.length aa,uV fl] 175 (0,0))],Y]) rfl aI fun aJ=>JL.done (JL.out rfl ?_);refine JO.leaveD rfl func176 rfl (.inl rfl) ?_;refine(?_:JO J Q (base 155) Tryz.f155.ntmps _ [] (aS::cs) _) T aG todo;exact JO.leave (v:= .bool true) rfl (BR.list func155 rfl (vs:= [.bool true]) ⟨rfl,trivial⟩) (aA (((((V.Ab W).Ab ab).Ab al).Ab aw).trans ag) rfl ⟨Y,rfl,by simp,aE⟩ aJ)
end Pal
namespace Pal
open Go Go.Conc Go.Proofs
open Go.Proofs.Tryz
def J4(fuel:Nat)(K:BJ)(lk:AY)(age:Int)(ms:List Int)(fl:Nat)(n:Int):Option (Nat):=
 (ix K.1 (n)).bind fun O=>
 (f120 fuel O).bind fun U=>
 some U
theorem Wu{J:Judge Tryz.prog}{E:LH}{bk k1 O:Nat}{ai aj U V:Ap}{ak al W Y:Nat}{am:Lv_}{Z:BJ}{lk:AY}{age:Int}{ms:List Int}{fl:Nat}(aq:At E k1 O (([sV ai Z.1 ak,sV aj Z.2.1 al]:Lv_)++am))(ar:An (rL rI) E ai ak Z.1)(aR:An (rL rI) E aj al Z.2.1)(aS:(rA 13 (rN .u16)).r E am Z.2.2)(aT:An BE E U W lk)(aU:An rI E V Y ms){aa ab:Nat}(au:At E aa ab [pV bk 0]){ag ah kf ae:Nat}(av:At E kf ae [.func (.func 153) #[] [pV aa ab,pV ag ah,pV kf ae].toArray]){an on:Nat}{n:Int}(aw:At E an on [iV n]){X:Seg}{fuel:Nat}{r:Nat}(ao:J4 fuel Z lk age ms fl n=some r){R:Value→LH→Seg→Prop}
  (ay:∀E',Le E E'→AP J 153 [uV r,pV aa ab,pV ag ah,pV kf ae] E' ([(bk,.cells #[pV k1 O,.slice U lk.length W,iV age,.slice V ms.length Y,uV fl] 175 (0,0))]++X) R):
  AP J 156 [pV kf ae,pV aa ab,pV an on] E ([(bk,.cells #[pV k1 O,.slice U lk.length W,iV age,.slice V ms.length Y,uV fl] 175 (0,0))]++X) R:=by
 refine Nn func156 rfl rfl fun Q aV cs H K az=>Dj (S':= [[(bk,.cells #[pV k1 O,.slice U lk.length W,iV age,.slice V ms.length Y,uV fl] 175 (0,0))],X]) (by simp) K fun K=>?_;unfold J4 at ao;refine zg 5 rfl (CZ 13 [bk] ⟨⟨0,_,rfl⟩,trivial⟩ K fun ht=>?_);refine JG.lp 0 ht 0 av K ⟨⟨0,_,rfl⟩,trivial⟩ (DO underlying201) ?_;refine JG.lp 1 ht 0 au K ⟨⟨0,_,rfl⟩,trivial⟩ Fb ?_;refine Ct 2 ht rfl rfl (Ce 3 ht underlying175 Mn rfl rfl rfl rfl ?_);refine EB 4 ht 0 0 K Kj ?_;refine Ct 5 ht rfl rfl (Ce 6 ht underlying141 Ca rfl rfl rfl rfl ?_);refine Ce 7 ht underlying24 Ck rfl rfl rfl rfl (JG.lp 8 ht 0 aq K ⟨⟨0,_,rfl⟩,trivial⟩ C6 ?_);refine JG.lp 9 ht 0 aw K ⟨⟨0,_,rfl⟩,trivial⟩ Bw ?_;obtain⟨aA,aB,aC⟩:=bs ao;refine Hk 10 ar aB ht underlying22 B7 ?_;rintro aW aX _ ⟨aD,c4,rfl,aE⟩ aF;refine JG.lp 11 ht 0 aF K ⟨⟨0,_,rfl⟩,trivial⟩ DC ?_;obtain⟨aG,aH,aI⟩:=bs aC;refine Pk (i:=12) ⟨⟨0,_,rfl⟩,trivial⟩ (vs:= [sV aD aA c4]) (IQ aE aH) (by decide+kernel) rfl rfl rfl It rfl K ?_;rintro _ aJ _ ap ⟨rfl,rfl⟩ aK;refine Cp [13,14] ?_;obtain rfl:=oi aI;refine Dj (S':= [[(bk,.cells #[pV k1 O,.slice U lk.length W,iV age,.slice V ms.length Y,uV fl] 175 (0,0))]++X]) (by simp) aK fun aL=>?_;have aM:Et J (.func (.func 153) #[] [pV aa ab,pV ag ah,pV kf ae].toArray) [uV aG] aJ ([(bk,.cells #[pV k1 O,.slice U lk.length W,iV age,.slice V ms.length Y,uV fl] 175 (0,0))]++X) R:=Et.ofFn (caps:= [pV aa ab,pV ag ah,pV kf ae]) (AX func153 rfl) (ay _ ap);refine IG 0 aM rfl rfl rfl rfl rfl aL rfl ?_;rintro w aY aN aO aP aQ;refine zg 2 rfl (AN func156 rfl rfl ?_);exact az _ _ _ aN (ap.Ab aO) (by simp) aP aQ
end Pal
namespace Pal
open Go Go.Conc Go.Proofs
open Go.Proofs.Tryz
def HR(fuel:Nat)(K:BJ)(lk:AY)(age:Int)(ms:List Int)(fl:Nat)(sm:Nat):Option (Option (List Int)):=
 (JK fuel (K,lk,age,ms,fl)).bind fun O=>
 if O<((ms).length:Int) then(
  some none
 ) else(
  (f89 fuel sm).bind fun U=>
  some (some U)
 )
def NG(rec:Nat→List Int→Nat→List (List Int×Nat)→Option (List (List Int×Nat)))(fuel:Nat)(K:BJ)(lk:AY)(age:Int)(ms:List Int)(fl:Nat)(ac:List (List Int×Nat))(n:Int):Option (List (List Int×Nat)):=
 (JY fuel K lk age ms fl n).bind fun r=>match r with
  | none=>some ac
  | some q=>(J4 fuel K lk age q.1 q.2 n).bind fun s'=>rec s' q.1 q.2 ac
def IZ(ok:List (List Int×Nat)→Bool)(rec:Nat→List Int→Nat→List (List Int×Nat)→Option (List (List Int×Nat)))(fuel:Nat)(K:BJ)(lk:AY)(age:Int)(ms:List Int)(fl:Nat)(ac:List (List Int×Nat)):Option (List Int)→Option (List (List Int×Nat))
 | none=>if ok (ac++ [(ms,fl)])=true then some (ac++ [(ms,fl)]) else none
 | some l=>if l.length≤1000 then EO (NG rec fuel K lk age ms fl) l ac else none
def HU(ok:List (List Int×Nat)→Bool)(fuel:Nat)(K:BJ)(lk:AY)(age:Int):Nat→Nat→List Int→Nat→List (List Int×Nat)→Option (List (List Int×Nat))
 | 0,_,_,_,_=>none
 | g+1,sm,ms,fl,ac=>(HR fuel K lk age ms fl sm).bind fun r=>IZ ok (HU ok fuel K lk age g) fuel K lk age ms fl ac r
theorem Vp{J:Judge Tryz.prog}{I:List (List Int×Nat)→LH→Seg→Prop}(ao:∀x E E' X,Le E E'→I x E X→I x E' X){E:LH}{bk k1 W:Nat}{aN aO Y U:Ap}{aP aQ Z V:Nat}{aR:Lv_}{ag:BJ}{lk:AY}{age:Int}{ms:List Int}{fl:Nat}(aC:At E k1 W (([sV aN ag.1 aP,sV aO ag.2.1 aQ]:Lv_)++aR))(aD:An (rL rI) E aN aP ag.1)(aE:An (rL rI) E aO aQ ag.2.1)(aF:(rA 13 (rN .u16)).r E aR ag.2.2)(aG:An BE E Y Z lk)(aH:An rI E U V ms){ak al:Nat}(ar:At E ak al [pV bk 0]){av aw kf am:Nat}(a4:At E kf am [.func (.func 153) #[] [pV ak al,pV av aw,pV kf am].toArray]){aS:Value}(a5:At E av aw [aS]){X:Seg}{acc acc':List (List Int×Nat)}{ok:List (List Int×Nat)→Bool}(aT:I acc E X){rec:Nat→List Int→Nat→List (List Int×Nat)→Option (List (List Int×Nat))}(a6:∀s' ah ap ac ay,rec s' ah ap ac=some ay→∀E' K a c,Le E E'→An rI E' a c ah→I ac E' K→AP J 153 [uV s',pV ak al,pV av aw,pV kf am] E' ([(bk,.cells #[pV k1 W,.slice Y lk.length Z,iV age,(.slice a ah.length c),(uV ap)] 175 (0,0))]++K) (fun w E' B'=>∃aI aJ aK K,w= .bool true∧B'= [(bk,.cells #[pV k1 W,.slice Y lk.length Z,aI,aJ,aK] 175 (0,0))]++K∧I ay E' K))(a7:∀(E':LH) (K:Seg) (ac:List (List Int×Nat)) (ah:List Int) (ap:Nat) (a:Ap) (c:Nat),Le E E'→An rI E' a c ah→I ac E' K→ok (ac++ [(ah,ap)])=true→Et J aS [.agg #[iV age,.slice a ah.length c,uV ap]] E' K (fun w aU a8=>w= .bool true∧I (ac++ [(ah,ap)]) aU a8)){sm:Nat}{fuel:Nat}{r:Option (List Int)}(aV:HR fuel ag lk age ms fl sm=some r)(aa:IZ ok rec fuel ag lk age ms fl acc r=some acc'):
  AP J 153 [uV sm,pV ak al,pV av aw,pV kf am] E ([(bk,.cells #[pV k1 W,.slice Y lk.length Z,iV age,.slice U ms.length V,uV fl] 175 (0,0))]++X) (fun w E' B'=>∃aI aJ aK K,w= .bool true∧B'= [(bk,.cells #[pV k1 W,.slice Y lk.length Z,aI,aJ,aK] 175 (0,0))]++K∧I acc' E' K):=by
 refine A9 func153 fun Q bL cs H an aW=>?_;refine Dj (S':= [[(bk,.cells #[pV k1 W,.slice Y lk.length Z,iV age,.slice U ms.length V,uV fl] 175 (0,0))],X]) (by simp) an fun an=>?_;unfold HR at aV;refine zg 6 rfl (CZ 8 [bk] ⟨⟨0,_,rfl⟩,trivial⟩ an fun ht=>?_);refine JG.lp 0 ht 0 ar an ⟨⟨0,_,rfl⟩,trivial⟩ Fb ?_;refine Ct 1 ht rfl rfl (Ce 2 ht underlying175 B9 rfl rfl rfl rfl ?_);refine Ce 3 ht underlying104 B7 rfl rfl rfl rfl (EB 4 ht 3 0 an DC ?_);refine BC 5 ht rfl rfl (fun ρ h s' hs=>Yl.len rfl underlying28 (h _ _ rfl)) (JG.lp 6 ht 0 ar an ⟨⟨0,_,rfl⟩,trivial⟩ Fb ?_);obtain⟨bM,a9,ba⟩:=bs aV;refine OC (i:=7) (vs:= [pV bk 0]) 0 ⟨⟨0,_,rfl⟩,trivial⟩ (TW aC aD aE aF aG aH a9) (fun _ _ _ h=>h.2) (by decide+kernel) rfl rfl rfl (AX func154 rfl) rfl an rfl ?_;rintro _ aX O ⟨rfl,_⟩ ai;refine Cp [8] (zg 2 rfl ?_);refine AS ba (fun bb bc=>?_) (fun bb bd=>?_)
 ·refine JL.seq (CZ 5 [bk] ⟨⟨0,_,rfl⟩,trivial⟩ ai fun ht=>?_);refine JG.lp 0 ht 0 (a5.Ag O) ai ⟨⟨0,_,rfl⟩,trivial⟩ (DO underlying200) ?_;refine JG.lp 1 ht 0 (ar.Ag O) ai ⟨⟨0,_,rfl⟩,trivial⟩ Fb ?_;refine Ct 2 ht rfl rfl (Ce 3 ht underlying175 B9 rfl rfl rfl rfl ?_);refine BC 4 ht rfl rfl (fun ρ h s' hs=>EK (vs:= [iV age,sV U ms V,uV fl]) Ft B9 (h _ _ rfl) (Sv (o:=2) 0 ai rfl (by simp [AV]) hs rfl)) (Cp [5,6] ?_);obtain rfl:=oi bc;have aY:ok (acc++ [(ms,fl)])=true∧acc++ [(ms,fl)]=acc':=by
   simp only [IZ] at aa;split at aa
   ·exact⟨by assumption,Option.some.inj aa⟩
   ·cases aa
  obtain⟨be,aY⟩:=aY;subst acc';refine IG (vs:= [.agg #[iV age,.slice U ms.length V,uV fl]]) 1 (a7 _ _ _ _ _ _ _ O (aH.Ag O) (ao _ _ _ _ O aT) be) rfl rfl rfl rfl rfl ai rfl ?_;rintro _ bN bf bg ⟨rfl,bh⟩ bi;refine zg 2 rfl (AN func153 rfl rfl ?_);exact aW (O.Ab bg) rfl ⟨iV age,.slice U ms.length V,uV fl,bf,rfl,by simp,bh⟩ bi
 ·obtain⟨ae,bj,bl⟩:=bs bd;refine zg 5 rfl (BH (Ij bj) rfl rfl H3 ai ?_);rintro _ bm _ aL ⟨aZ,a0,rfl,rfl,bn⟩ bo;refine Bx underlying28 rfl rfl rfl (zg 2 rfl ?_);obtain rfl:=oi bl;have bp:ae.length≤1000∧EO (NG rec fuel ag lk age ms fl) ae acc=some acc':=by
   simp only [IZ] at aa;split at aa
   ·exact⟨by assumption,aa⟩
   ·cases aa
  obtain⟨hlen,aa⟩:=bp;refine JL.block (HP [(1,pV ak al),(3,pV kf am),(24,sV aZ ae a0),(25,iV (ae.length:Int)),(26,iV 0)] rfl ?_);refine Dj (S':= [[(bk,.cells #[pV k1 W,.slice Y lk.length Z,iV age,.slice U ms.length V,uV fl] 175 (0,0))],X]) (by simp) bo fun bq=>Rv (l:=ae) aa (fun L s i ac=>∃az aq,Jn bm H az [[(bk,.cells #[pV k1 W,.slice Y lk.length Z,iV age,.slice U ms.length V,uV fl] 175 (0,0))],aq] [(1,pV ak al),(3,pV kf am),(24,sV aZ ae a0),(25,iV (ae.length:Int)),(26,iV ((i:Nat):Int))] L s (I ac az aq)) ⟨_,X,rfl,rfl,Le.refl _,bq,ao _ _ _ _ (O.Ab aL) aT⟩ ?_ ?_
  ·rintro _ _ i ac n ay ⟨az,aq,rfl,rfl,au,aM,aA⟩ br bO bu bv;have bw:=(O.Ab aL).Ab au;refine zg 5 rfl ?_;rw [decide_eq_true (show((i:Nat):Int)<(ae.length:Int) by omega)];refine zg 6 rfl ?_;have bx:ix ae ((i:Nat):Int)=some n:=by unfold ix;rw [if_pos (by omega)];exact br
   refine Cf (bn.Ag au) bx underlying28 A3 ?_;rintro kk bP _ rfl bz;refine BV 0 bz Bw rfl rfl rfl (Cr aM Cn fun bA bB=>?_);refine BF 2 bB A3 fun bC=>?_;refine C9 2 bC rfl fun bQ aB a1 bD=>?_;have aj:=bw.trans aB;refine zg 3 rfl (BV 0 (ar.Ag aj) Fb rfl rfl rfl ?_);refine BV 0 a1 Bw rfl rfl rfl (Az (v:= .func (.func 156) #[] [pV kf am,pV ak al,pV bA 0].toArray) rfl (fun ρ h=>H6 (by simp) (by simp [h (.tmp 3) _ rfl,h (.tmp 1) _ rfl,h (.tmp 7) _ rfl])) ?_);refine Dj (S':= [[(bk,.cells #[pV k1 W,.slice Y lk.length Z,iV age,.slice U ms.length V,uV fl] 175 (0,0))]++aq]) (by simp) bD fun ai=>?_;obtain⟨q,bE,a2⟩:=Option.bind_eq_some_iff.1 bu;refine BP 0 (VP ao (aC.Ag aj) (aD.Ag aj) (aE.Ag aj) (Rp.Ag _ aj aF) (aG.Ag aj) (aH.Ag aj) (acc':=ay) (ao _ _ _ _ aB aA) bE (fun e=>by subst e;exact(Option.some.inj a2).symm) (fun p e E' a c hle a3=>?_)) rfl rfl (AX func155 rfl) ai rfl ?_
   ·subst e;obtain⟨s',bF,bG⟩:=Option.bind_eq_some_iff.1 a2;have ab:=aj.trans hle;exact Et.ofFn (AX func156 rfl) (Wu (aC.Ag ab) (aD.Ag ab) (aE.Ag ab) (Rp.Ag _ ab aF) (aG.Ag ab) a3 (ar.Ag ab) (a4.Ag ab) (a1.Ag hle) bF fun aU O=>a6 _ _ _ _ _ bG _ _ _ _ (ab.Ab O) (a3.Ag O) (ao _ _ _ _ (hle.trans O) (ao _ _ _ _ aB aA)))
   rintro _ aX _ ab ⟨K,rfl,rfl,bH⟩ bI;refine Az (v:= .bool (!true)) rfl (fun ρ h=>Yl.not (h _ _ rfl)) (zg 5 rfl ?_);have bJ:Av (((i:Nat):Int)+1)=some (((i+1:Nat)):Int):=by unfold Av;rw [if_pos (by omega)];simp
   refine Bg bJ rfl rfl rfl (zg 2 rfl ?_);exact Dj (S':= [[(bk,.cells #[pV k1 W,.slice Y lk.length Z,iV age,.slice U ms.length V,uV fl] 175 (0,0))],K]) (by simp) bI fun bK=>AB (bv _ _ ⟨aX,K,rfl,rfl,(au.Ab aB).Ab ab,bK,bH⟩) rfl
  ·rintro _ _ ⟨az,aq,rfl,rfl,au,aM,aA⟩;refine zg 5 rfl ?_;rw [decide_eq_false (Int.lt_irrefl _)];refine zg 6 rfl (AN func153 rfl rfl ?_);exact aW ((O.Ab aL).Ab au) rfl ⟨iV age,.slice U ms.length V,uV fl,aq,rfl,by simp,aA⟩ aM
end Pal
namespace Pal
open Go Go.Conc Go.Proofs
open Go.Proofs.Tryz
theorem T6{J:Judge Tryz.prog}{I:List (List Int×Nat)→LH→Seg→Prop}(ay:∀x E E' X,Le E E'→I x E X→I x E' X){E:LH}{bk k1 Y:Nat}{ap aq Z:Ap}{ar au aa:Nat}{av:Lv_}{O:BJ}{lk:AY}{age:Int}(az:At E k1 Y (([sV ap O.1 ar,sV aq O.2.1 au]:Lv_)++av))(aA:An (rL rI) E ap ar O.1)(aB:An (rL rI) E aq au O.2.1)(aC:(rA 13 (rN .u16)).r E av O.2.2)(aD:An BE E Z aa lk){ab ae:Nat}(aE:At E ab ae [pV bk 0]){ag ah kf ai:Nat}(aF:At E kf ai [.func (.func 153) #[] [pV ab ae,pV ag ah,pV kf ai].toArray]){aw:Value}(aG:At E ag ah [aw]){fuel:Nat}{ok:List (List Int×Nat)→Bool}(aH:∀(E':LH) (W:Seg) (ac:List (List Int×Nat)) (K:List Int) (U:Nat) (a:Ap) (c:Nat),Le E E'→An rI E' a c K→I ac E' W→ok (ac++ [(K,U)])=true→Et J aw [.agg #[iV age,.slice a K.length c,uV U]] E' W (fun w aI aJ=>w= .bool true∧I (ac++ [(K,U)]) aI aJ)):
  ∀(g sm:Nat) (ms:List Int) (fl:Nat) (ac V:List (List Int×Nat)),HU ok fuel O lk age g sm ms fl ac=some V→∀E' X a c,Le E E'→An rI E' a c ms→I ac E' X→AP J 153 [uV sm,pV ab ae,pV ag ah,pV kf ai] E' ([(bk,.cells #[pV k1 Y,.slice Z lk.length aa,iV age,(.slice a ms.length c),uV fl] 175 (0,0))]++X) (fun w E' B'=>∃aK aL aM W,w= .bool true∧B'= [(bk,.cells #[pV k1 Y,.slice Z lk.length aa,aK,aL,aM] 175 (0,0))]++W∧I V E' W):=by
 intro g
 induction g with
 | zero=>intro sm ms fl ac V h;cases h
 | succ g aN=>
  intro sm ms fl ac V h E' X a c hle aO aP;obtain⟨r,aQ,aR⟩:=Option.bind_eq_some_iff.1 h;exact Vp ay (az.Ag hle) (aA.Ag hle) (aB.Ag hle) (Rp.Ag _ hle aC) (aD.Ag hle) aO (aE.Ag hle) (aF.Ag hle) (aG.Ag hle) aP (rec:=HU ok fuel O lk age g) (fun s' K U ac V aS aj ak al c2 am an ao=>aN s' K U ac V aS aj ak al c2 (hle.trans am) an ao) (fun aj ak ac K U al c2 am an ao aT=>aH aj ak ac K U al c2 (hle.trans am) an ao aT) aQ aR
def I3(fuel:Nat)(K:BJ)(lk:AY)(age:Int):Option Nat:=
 (ix K.2.2 (age)).bind fun O=>
 some O
theorem Pe{J:Judge Tryz.prog}{I:List (List Int×Nat)→LH→Seg→Prop}(aw:∀x E E' X,Le E E'→I x E X→I x E' X){E:LH}{bk k1 V:Nat}{al am Y:Ap}{an ao Z:Nat}{ay:Lv_}{W:BJ}{lk:AY}{age:Int}(az:At E k1 V (([sV al W.1 an,sV am W.2.1 ao]:Lv_)++ay))(aH:An (rL rI) E al an W.1)(aI:An (rL rI) E am ao W.2.1)(ap:(rA 13 (rN .u16)).r E ay W.2.2)(aJ:An BE E Y Z lk){ah ai:Nat}(aq:At E ah ai [pV bk 0]){aA aB:Nat}(aC:At E aA aB [iV age]){ab ae ag:Value}{aD:Go.Fn}{X:Seg}{acc acc':List (List Int×Nat)}(aK:I acc E X){ok:List (List Int×Nat)→Bool}{fuel:Nat}(aL:∀(E':LH) (U:Seg) (ac:List (List Int×Nat)) (aj:List Int) (ar:Nat) (a:Ap) (c:Nat),Le E E'→An rI E' a c aj→I ac E' U→ok (ac++ [(aj,ar)])=true→Et J (.func aD #[] #[]) [.agg #[iV age,.slice a aj.length c,uV ar]] E' U (fun w aM aN=>w= .bool true∧I (ac++ [(aj,ar)]) aM aN)){r:Nat}(aE:I3 fuel W lk age=some r)(aO:HU ok fuel W lk age fuel r [] 0 acc=some acc'):
  AP J 152 [.func aD #[] #[],pV aA aB,pV ah ai] E ([(bk,.cells #[pV k1 V,.slice Y lk.length Z,ab,ae,ag] 175 (0,0))]++X) (fun w E' B'=>∃ab ae ag U,w= .tuple #[]∧B'= [(bk,.cells #[pV k1 V,.slice Y lk.length Z,ab,ae,ag] 175 (0,0))]++U∧I acc' E' U):=by
 refine A9 func152 fun Q bh cs H au aP=>?_;refine Dj (S':= [[(bk,.cells #[pV k1 V,.slice Y lk.length Z,ab,ae,ag] 175 (0,0))],X]) (by simp) au fun au=>?_;unfold I3 at aE;refine zg 2 rfl (CB au fun av bi K aQ aR=>?_);refine zg 3 rfl (BV 0 (aq.Ag K) Fb rfl rfl rfl ?_);refine BV 0 (aC.Ag K) Bw rfl rfl rfl (Az (v:= .agg #[iV age,nS,uV 0]) rfl (fun ρ h=>CO [(0,1),(1,1),(2,1)] h Gm underlying104 ⟨rfl,Bm type3,rfl,Bm type28,rfl,Bm type102,trivial⟩ rfl rfl) ?_);refine zg 1 rfl (Bu underlying175 B9 rfl rfl rfl ?_);refine BF 0 aR B9 fun aS=>?_;refine zg 3 rfl (Cr aS (DW type201) fun ak aT=>?_);refine Cg (S':= [[(bk,.cells #[pV k1 V,sV Y lk Z,iV age,nS,uV 0] 175 (0,0))],X,[],[(ak,.cells #[.nilFunc] 201 (0,0))]]) rfl aT fun aU=>zg 3 rfl (Az (v:= .func (.func 153) #[] ([pV ah ai,pV av 0,pV ak 0]:Lv_).toArray) rfl (fun ρ h=>H6 (by simp) (by simp [h (.tmp 2) _ rfl,h (.tmp 3) _ rfl,h (.tmp 4) _ rfl])) ?_);refine BF 3 aU (Bm type201) fun aV=>?_;refine C9 3 aV rfl fun aW O aF aa=>JL.done (CZ 11 [bk] ⟨⟨0,_,rfl⟩,trivial⟩ aa fun ht=>?_);refine JG.lp 0 ht 0 aF aa ⟨⟨0,_,rfl⟩,trivial⟩ (DO underlying201) ?_;refine JG.lp 1 ht 0 (aq.Ag (K.Ab O)) aa ⟨⟨0,_,rfl⟩,trivial⟩ Fb ?_;refine Ct 2 ht rfl rfl (Ce 3 ht underlying175 Mn rfl rfl rfl rfl ?_);refine EB 4 ht 0 0 aa Kj ?_;refine JG.lp 5 ht 0 (aC.Ag (K.Ab O)) aa ⟨⟨0,_,rfl⟩,trivial⟩ Bw ?_;refine Ct 6 ht rfl rfl (Ce 7 ht underlying141 FI rfl rfl rfl rfl ?_);obtain⟨aX,aG,aY⟩:=bs aE;obtain⟨_,rfl,aZ,_,_⟩:=QK (kk:=13) (pp:=(rN .u16)) (Rp.Ag _ (K.Ab O) ap) (At.tail (l:= [sV al W.1 an,sV am W.2.1 ao]) (az.Ag (K.Ab O))) aG;refine BC (v:= .pointer (some ⟨k1,(V+2+Int.toNat (age)*1),none⟩)) 8 ht rfl rfl (fun ρ h s' hs=>IA (kk:=13) (pp:=(rN .u16)) (Rp.Ag _ (K.Ab O) ap) aG underlying139 Hw (h _ _ rfl) (h _ _ rfl)) (Ce 9 ht underlying138 DN rfl rfl rfl rfl ?_);refine JG.lp 10 ht 0 aZ aa ⟨⟨0,_,rfl⟩,trivial⟩ Gj ?_;refine Cp [11] ?_;obtain rfl:=oi aY;have a0:Et J (.func (.func 153) #[] [pV ah ai,pV av 0,pV ak 0].toArray) [uV aX] aW ([(bk,.cells #[pV k1 V,.slice Y lk.length Z,iV age,nS,uV 0] 175 (0,0))]++X) (fun w E' B'=>∃ab ae ag U,w= .bool true∧B'= [(bk,.cells #[pV k1 V,.slice Y lk.length Z,ab,ae,ag] 175 (0,0))]++U∧I acc' E' U):=Et.ofFn (caps:= [pV ah ai,pV av 0,pV ak 0]) (AX func153 rfl) (T6 aw (az.Ag (K.Ab O)) (aH.Ag (K.Ab O)) (aI.Ag (K.Ab O)) (Rp.Ag _ (K.Ab O) ap) (aJ.Ag (K.Ab O)) (aq.Ag (K.Ab O)) aF (aQ.Ag O) (fun a1 a2 ac a3 a4 a5 c2 a6 a7 a8 a9=>aL a1 a2 ac a3 a4 a5 c2 (((K.Ab O)).Ab a6) a7 a8 a9) _ _ _ _ _ _ aO _ _ _ _ Aq An.nil (aw _ _ _ _ (K.Ab O) aK));refine Dj (S':= [[(bk,.cells #[pV k1 V,.slice Y lk.length Z,iV age,nS,uV 0] 175 (0,0))]++X]) (by simp) aa fun ba=>IG 0 a0 rfl rfl rfl rfl rfl ba rfl ?_;rintro w bj _ bb ⟨bc,bd,be,U,rfl,rfl,bf⟩ bg;refine JL.done (JL.fin (v:= .tuple #[]) rfl rfl (BR.list func152 rfl (vs:= []) trivial) ?_);exact aP ((K.Ab O).trans bb) rfl ⟨bc,bd,be,U,rfl,by simp,bf⟩ bg
end Pal
namespace Pal
open Go Go.Conc Go.Proofs
open Go.Proofs.Tryz
noncomputable def HJ:Code:=match Tryz.f127.body with | some (.seq _ (.seq _ (.seq (.seq _ (.block _ (.rangeFunc _ _ a _))) _)))=>a | _=> .skip
noncomputable def HK:Code:=match Tryz.f127.body with | some (.seq _ (.seq _ (.seq (.seq _ (.block _ (.rangeFunc _ _ _ b))) _)))=>b | _=> .skip
def add1(fuel:Nat)(age:Int)(q:Int×List (BS))(x:List Int×Nat):Option (Int×List (BS)):=
 (f130 fuel (age,x.1,x.2)).bind fun n=>HS fuel q.1 q.2 (age,x.1,x.2) n
def GX(fuel:Nat)(age:Int)(ac:List (List Int×Nat)):Option (Int×List (BS)):=EO (add1 fuel age) ac (0,[])
def IP(fuel:Nat)(age:Int)(l K O:Nat)(T:Ay)(ac:List (List Int×Nat))(E:LH)(X:Seg):Prop:=
 ∃q a c g,GX fuel age ac=some q∧X=(l,.loop ⟨.ready,none,127,T,#[17],HJ,HK,O⟩)::([(K,.cells #[iV age,iV q.1,.slice a q.2.length c] 133 (0,0))]++g)∧OL 104 CV E a c g q.2
theorem IP.Ag{fuel:Nat}{age:Int}{l K O:Nat}{T:Ay}:∀(ac:List (List Int×Nat)) (E E':LH) (X:Seg),Le E E'→IP fuel age l K O T ac E X→IP fuel age l K O T ac E' X:=
 fun ac E E' X hle ⟨q,a,c,g,U,V,W⟩=>⟨q,a,c,g,U,V,W.Ag hle⟩
theorem Od{α B:Type}{step:B→α→Option B}:∀{l:List α} {x:α} {b:B},EO step (l++ [x]) b=(EO step l b).bind fun K=>step K x
 | [],x,b=>by simp [EO]
 | y::l,x,b=>by
  simp only [List.cons_append,EO]
  cases step b y with
  | none=>rfl
  | some K=>exact Od
theorem PL{J:Judge Tryz.prog}{fuel:Nat}{age:Int}{l K O:Nat}{T:Ay}(ai:Has Tryz.f127.ntmps [(6,pV K 0)] T){E:LH}{X:Seg}{ac:List (List Int×Nat)}{ms:List Int}{fl:Nat}{U:Ap}{V:Nat}(ab:An rI E U V ms)(aj:IP fuel age l K O T ac E X)(ak:(GX fuel age (ac++ [(ms,fl)])).isSome=true):
  Et J (.func (.yield l) #[] #[]) [.agg #[iV age,.slice U ms.length V,uV fl]] E X (fun w E' al=>w= .bool true∧IP fuel age l K O T (ac++ [(ms,fl)]) E' al):=by
 obtain⟨q,a,c,g,ae,rfl,am⟩:=aj;obtain⟨r,he⟩:=Option.isSome_iff_exists.1 ak;have ag:add1 fuel age q (ms,fl)=some r:=by
  have Y:=he;unfold GX at Y ae;rw [Od,ae] at Y;exact Y
 refine Et.yield (i:=0) (t:=17) rfl rfl fun Q an cs H Z ao=>?_;refine(?_:JL J Q (QW l 127) Tryz.f127.ntmps [(17,.agg #[iV age,.slice U ms.length V,uV fl]),(6,pV K 0)] [] [.code HJ,.beginRound,.code HK] (an::cs) _) _ (ai.put (d:=some 17) rfl _);refine Dj (S':= [[(l,.loop ⟨.ready,none,127,T,#[17],HJ,HK,O⟩)],[(K,.cells #[iV age,iV q.1,.slice a q.2.length c] 133 (0,0))],g]) (by simp) Z fun Z=>?_;unfold add1 at ag;refine JL.region (Cr Z Gm fun aG ap=>?_);refine BF 3 ap B9 fun aq=>?_;refine C9 3 aq rfl fun aH W ah ar=>JL.done (JL.beginRound 0 rfl rfl ar rfl rfl fun au=>?_);refine JL.block (Ep 4 fun ht=>?_);refine Ce 0 ht underlying133 CW rfl rfl rfl rfl (Ii 1 ht ah Ft B9 rfl rfl rfl ?_);refine Ii 2 ht ah Ft B9 rfl rfl rfl ?_;obtain⟨aI,av,aw⟩:=bs ag;refine JG.call (i:=3) (vs:= [.agg #[iV age,sV U ms V,uV fl]]) (Vq (p0:=(age,ms,fl)) (ab.Ag W) av) (by decide+kernel) rfl rfl rfl (AX func130 rfl) rfl au ?_;rintro _ aJ _ aa ⟨rfl,rfl⟩ ay;refine Cp [4] (Dj (S':= [[(l,.loop ⟨.busy,none,127,T,#[17],HJ,HK,O⟩)],[(K,.cells #[iV age,iV q.1,.slice a q.2.length c] 133 (0,0))]++g]) (by simp) ay fun az=>?_);refine BP 1 (U2 ((am.Ag (W.Ab aa))) (tr:=(age,ms,fl)) (ab.Ag (W.Ab aa)) aw) rfl rfl (AX func122 rfl) az rfl ?_;rintro _ aK _ aA ⟨aB,aC,g',rfl,rfl,aD⟩ aE;refine zg 2 rfl (JL.endRound 0 rfl rfl aE rfl fun aF=>?_);exact ao _ _ _ _ ((W.Ab aa).trans aA) rfl ⟨rfl,r,aB,aC,g',he,by simp,aD⟩ aF
end Pal
namespace Pal
open Go Go.Conc Go.Proofs
open Go.Proofs.Tryz
open Go.Conc.Lib Go.ConcR.Gen
theorem Ov{J:Judge Tryz.prog}{E:LH}{bk:Nat}{age:Int}:AP J 129 [pV bk 0,iV age] E [] (fun w E' B'=>∃K O,w= .func (.func 152) #[] [pV K 0,pV O 0].toArray∧B'= []∧At E' K 0 [iV age]∧At E' O 0 [pV bk 0]):=by
 refine A9 func129 fun Q ai cs H Y Z=>?_;refine zg 2 rfl (CB Y fun U aj aa ab ae=>?_);refine CB ae fun V ak W ag ah=>?_;refine zg 4 rfl (Az (v:= .func (.func 152) #[] ([pV V 0,pV U 0]:Lv_).toArray) rfl (fun ρ h=>H6 (by simp) (by simp [h (.tmp 3) _ rfl,h (.tmp 2) _ rfl])) ?_);refine zg 2 rfl (AN func129 rfl rfl ?_);exact Z (aa.Ab W) rfl ⟨V,U,rfl,by simp,ag,(ab.Ag W)⟩ ah
def Gb(fuel:Nat)(K:BJ)(lk:AY)(age:Int):Option (Int×List (BS)):=
 (I3 fuel K lk age).bind fun s=>(HU (fun ac=>(GX fuel age ac).isSome) fuel K lk age fuel s [] 0 []).bind fun tr=>GX fuel age tr
theorem S3{L:WgLink}(ay:WgLib Tryz.prog L)(a4:L.done=128){F:Fam}{j:Nat}{E:LH}{k1 O:Nat}{a5 a6 U:Ap}{a7 a8 V:Nat}{a9:Lv_}{ah:BJ}{lk:AY}{age:Int}(ba:At E k1 O (([sV a5 ah.1 a7,sV a6 ah.2.1 a8]:Lv_)++a9))(bb:An (rL rI) E a5 a7 ah.1)(bc:An (rL rI) E a6 a8 ah.2.1)(bd:(rA 13 (rN .u16)).r E a9 ah.2.2)(be:An BE E U V lk){az aA aB ol ka ai kc aa:Nat}(bi:At E az aA [pV k1 O])(bj:At E aB ol [.slice U lk.length V])(aE:At E ka ai [iV age])(bf:At E kc aa [.chan (some F.ch)])
  {fuel:Nat} {q:Int×List (BS)} (aC:Gb fuel ah lk age=some q) (aD:F.has j=decide (0<q.2.length)) (bg:∀E' a c,Le E E'→An CV E' a c q.2→F.msg j (.agg #[iV age,iV q.1,.slice a q.2.length c]) E'):
  Way Tryz.prog false (Stop Tryz.prog F (F.start j)) (born Tryz.prog ⟨.fn (.func 127) [.pointer (some F.sA),pV az aA,pV aB ol,pV ka ai,pV kc aa].toArray,#[]⟩) ⟨E,fun _=>none,false⟩:=by
 refine Pg (fn:=Tryz.f127) (vs:= [.pointer (some F.sA),pV az aA,pV aB ol,pV ka ai,pV kc aa]) func127 rfl rfl (by simp) (Nat.le_of_ble_eq_true rfl) ?_;obtain⟨H,bl⟩:∃H:LH,H=fun _=>none:=⟨_,rfl⟩;rw [← bl];have bh:As E H []:=trivial;refine(?_:JL (Bn Tryz.prog false) (Stop Tryz.prog F (F.start j)) (baseD 127) Tryz.f127.ntmps (Fe 0 [.pointer (some F.sA),pV az aA,pV aB ol,pV ka ai,pV kc aa]) [] [.code _] [Hl Tryz.prog] (Al E H []));refine zg 2 rfl (JL.defer (vs:= [.pointer (some F.sA)]) rfl rfl rfl rfl rfl ?_);refine zg 2 rfl (Ep 8 fun ht=>?_);refine DR 0 ht 0 bi Kj rfl rfl rfl rfl (DR 1 ht 0 bj Jb rfl rfl rfl rfl ?_);refine BC (v:= .agg #[pV k1 O,sV U lk V,iV 0,nS,uV 0]) 2 ht rfl rfl (fun ρ h s' hs=>CO [(0,1),(1,1),(2,3)] h (DW type175) underlying175 ⟨rfl,Bm type94,rfl,Bm type25,rfl,Bm type104,trivial⟩ rfl rfl) (DR 4 ht 0 aE Bw rfl rfl rfl rfl ?_);refine BC (v:= .agg #[iV age,iV 0,nS]) 5 ht rfl rfl (fun ρ h s' hs=>CO [(0,1),(1,2)] h Hu underlying133 ⟨rfl,Bm type3,rfl,Bm type97,trivial⟩ rfl rfl) (Gu (i:=3) (j:=6) rfl (by decide+kernel) ?_ ?_)
 ·refine Take.Q4 (v:= .agg #[pV k1 O,sV U lk V,iV 0,nS,uV 0]) bh rfl rfl rfl rfl fun aj al=>JG.one (i:=6) rfl (by decide+kernel) (Take.DZ al rfl rfl rfl Hu fun ab am=>?_);refine Ct 7 ht rfl rfl (Cp [8] ?_);refine Cg (S':= [[(aj,.cells #[pV k1 O,sV U lk V,iV 0,nS,uV 0] 175 (0,0))],[(ab,.cells #[iV 0,iV 0,nS] 133 (0,0))]]) rfl am fun an=>BF 1 an AK fun Z=>?_;refine zg 3 rfl (Cg (S':= [[(aj,.cells #[pV k1 O,.slice U lk.length V,iV 0,nS,uV 0] 175 (0,0))],[(ab,.cells #[iV age,iV 0,nS] 133 (0,0))]]) rfl Z fun aF=>?_);refine HP [(3,pV ka ai),(4,pV kc aa),(5,pV aj 0),(6,pV ab 0)] rfl ?_;have ao:Le E E:=Aq;refine zg 2 rfl (BV 0 (aE.Ag ao) Bw rfl rfl rfl ?_);refine BH Ov rfl rfl (AX func129 rfl) aF ?_;rintro _ bm _ aG ⟨ap,aq,rfl,rfl,aH,aI⟩ al;have W:=ao.Ab aG;refine zg 2 rfl (Dj (S':= [[(aj,.cells #[pV k1 O,.slice U lk.length V,iV 0,nS,uV 0] 175 (0,0))],[(ab,.cells #[iV age,iV 0,nS] 133 (0,0))]]) (by simp) al fun aJ=>?_);refine JL.rangeFunc (caps:= [pV ap 0,pV aq 0]) rfl (by intro e;cases e) rfl (AX func152 rfl) aJ fun Y l T ar aK=>M1 (S':= [[(aj,.cells #[pV k1 O,.slice U lk.length V,iV 0,nS,uV 0] 175 (0,0))]++([(l,.loop ⟨.ready,none,127,T,#[17],HJ,HK,Y⟩)]++ [(ab,.cells #[iV age,iV 0,nS] 133 (0,0))]),[(Y,.deferred (some []))]]) Qr aK fun am=>?_;unfold Gb at aC;obtain⟨bn,aL,aM⟩:=Option.bind_eq_some_iff.1 aC;obtain⟨tr,aN,aO⟩:=Option.bind_eq_some_iff.1 aM;refine OQ (vs:= [.func (.yield l) #[] #[],pV ap 0,pV aq 0]) 0 (Pe (I:=IP fuel age l ab Y T) (ok:=fun ac=>(GX fuel age ac).isSome) (acc:= []) IP.Ag (ba.Ag W) (bb.Ag W) (bc.Ag W) (Rp.Ag _ W bd) (be.Ag W) aI aH ⟨(0,[]),none,0,[],rfl,rfl,OL.nil⟩ (fun E' aP ac bo bp a c hle aQ aR aS=>PL (ar.sub ⟨rfl,trivial⟩) aQ aR aS) aL aN) am rfl ?_;rintro _ bq _ aT ⟨aU,aV,aW,aP,rfl,rfl,K,a,c,g,aX,rfl,aY⟩ aZ;obtain rfl:K=q:=Option.some.inj (aX.symm.trans aO);refine PR (S':= [[(aj,.cells #[pV k1 O,.slice U lk.length V,aU,aV,aW] 175 (0,0))],[(l,.loop ⟨.ready,none,127,T,#[17],HJ,HK,Y⟩)],[(ab,.cells #[iV age,iV K.1,.slice a K.2.length c] 133 (0,0))],g,[(Y,.deferred (some []))]]) (by simp) aZ fun an=>N4 1 an rfl rfl rfl fun Z=>?_;refine(?_:JL (Bn Tryz.prog false) (Stop Tryz.prog F (F.start j)) (baseD 127) Tryz.f127.ntmps [(4,pV kc aa),(6,pV ab 0)] [⟨.collected Y,#[]⟩,dcall 128 #[.pointer (some F.sA)]] _ [Hl Tryz.prog] _) T (ar.sub ⟨rfl,rfl,trivial⟩);have au:=W.Ab aT;have a0:dcall 128 #[.pointer (some F.sA)]=dcall L.done #[.pointer (some F.sA)]:=by rw [a4]
  rw [a0];refine zg 3 rfl (Bu underlying133 CW rfl rfl rfl ?_);refine Bu underlying97 C7 rfl rfl rfl (Az (v:= .slice a K.2.length c) rfl (fun ρ h=>Yl.load El (h _ _ rfl) (Di (j:=2) (off:=2) Z rfl rfl)) ?_);refine Bx underlying95 rfl rfl rfl (zg 2 rfl ?_);refine Ni (p:=0<((K.2).length:Int)) rfl (fun a1=>?_) (fun a1=>?_)
  ·have ag:F.start j= .Ch j:=by unfold Fam.start;rw [aD,decide_eq_true (show 0<K.2.length by omega)];rfl
   rw [ag];refine JL.region (BV 0 (bf.Ag au) Ki rfl rfl rfl ?_);refine Cb 3 aY Z rfl fun br a2 a3 av=>Az rfl (fun ρ h=>EK (vs:= [iV age,iV K.1,.slice a K.2.length c]) B6 AK (h _ _ rfl) (EG (off:=0) 2 av rfl rfl)) (OP rfl rfl rfl rfl rfl rfl rfl (bg _ _ _ (au.Ab a2) a3) ?_);exact JL.done (JL.out rfl (JO.collected 4 rfl av rfl fun aw=>JO.L2 ay rfl rfl (JO.leaveD rfl func127 rfl (.inr rfl) Jf)))
  ·have ag:F.start j= .CH:=by unfold Fam.start;rw [aD,decide_eq_false (show ¬0<K.2.length by omega)];rfl
   rw [ag];exact JL.skip (JL.out rfl (JO.collected 4 rfl Z rfl fun aw=>JO.L2 ay rfl rfl (JO.leaveD rfl func127 rfl (.inr rfl) Jf)))
 ·refine Take.DZ bh rfl rfl rfl Hu fun ae aw=>JG.one (i:=3) rfl (by decide+kernel) (Take.Q4 (v:= .agg #[pV k1 O,sV U lk V,iV 0,nS,uV 0]) aw rfl rfl rfl rfl fun ak bu=>?_);refine Ct 7 ht rfl rfl (Cp [8] ?_);refine Cg (S':= [[(ae,.cells #[iV 0,iV 0,nS] 133 (0,0))],[(ak,.cells #[pV k1 O,sV U lk V,iV 0,nS,uV 0] 175 (0,0))]]) rfl bu fun bv=>BF 0 bv AK fun bw=>?_;refine zg 3 rfl (JS.perm (S':= [[(ak,.cells #[pV k1 O,.slice U lk.length V,iV 0,nS,uV 0] 175 (0,0))],[(ae,.cells #[iV age,iV 0,nS] 133 (0,0))]]) (List.Perm.swap _ _ _) bw fun aF=>?_);refine HP [(3,pV ka ai),(4,pV kc aa),(5,pV ak 0),(6,pV ae 0)] rfl ?_;have ao:Le E E:=Aq;refine zg 2 rfl (BV 0 (aE.Ag ao) Bw rfl rfl rfl ?_);refine BH Ov rfl rfl (AX func129 rfl) aF ?_;rintro _ bm _ aG ⟨ap,aq,rfl,rfl,aH,aI⟩ al;have W:=ao.Ab aG;refine zg 2 rfl (Dj (S':= [[(ak,.cells #[pV k1 O,.slice U lk.length V,iV 0,nS,uV 0] 175 (0,0))],[(ae,.cells #[iV age,iV 0,nS] 133 (0,0))]]) (by simp) al fun aJ=>?_);refine JL.rangeFunc (caps:= [pV ap 0,pV aq 0]) rfl (by intro e;cases e) rfl (AX func152 rfl) aJ fun Y l T ar aK=>M1 (S':= [[(ak,.cells #[pV k1 O,.slice U lk.length V,iV 0,nS,uV 0] 175 (0,0))]++([(l,.loop ⟨.ready,none,127,T,#[17],HJ,HK,Y⟩)]++ [(ae,.cells #[iV age,iV 0,nS] 133 (0,0))]),[(Y,.deferred (some []))]]) Qr aK fun am=>?_;unfold Gb at aC;obtain⟨bn,aL,aM⟩:=Option.bind_eq_some_iff.1 aC;obtain⟨tr,aN,aO⟩:=Option.bind_eq_some_iff.1 aM;refine OQ (vs:= [.func (.yield l) #[] #[],pV ap 0,pV aq 0]) 0 (Pe (I:=IP fuel age l ae Y T) (ok:=fun ac=>(GX fuel age ac).isSome) (acc:= []) IP.Ag (ba.Ag W) (bb.Ag W) (bc.Ag W) (Rp.Ag _ W bd) (be.Ag W) aI aH ⟨(0,[]),none,0,[],rfl,rfl,OL.nil⟩ (fun E' aP ac bo bp a c hle aQ aR aS=>PL (ar.sub ⟨rfl,trivial⟩) aQ aR aS) aL aN) am rfl ?_;rintro _ bq _ aT ⟨aU,aV,aW,aP,rfl,rfl,K,a,c,g,aX,rfl,aY⟩ aZ;obtain rfl:K=q:=Option.some.inj (aX.symm.trans aO);refine PR (S':= [[(ak,.cells #[pV k1 O,.slice U lk.length V,aU,aV,aW] 175 (0,0))],[(l,.loop ⟨.ready,none,127,T,#[17],HJ,HK,Y⟩)],[(ae,.cells #[iV age,iV K.1,.slice a K.2.length c] 133 (0,0))],g,[(Y,.deferred (some []))]]) (by simp) aZ fun an=>N4 1 an rfl rfl rfl fun Z=>?_;refine(?_:JL (Bn Tryz.prog false) (Stop Tryz.prog F (F.start j)) (baseD 127) Tryz.f127.ntmps [(4,pV kc aa),(6,pV ae 0)] [⟨.collected Y,#[]⟩,dcall 128 #[.pointer (some F.sA)]] _ [Hl Tryz.prog] _) T (ar.sub ⟨rfl,rfl,trivial⟩);have au:=W.Ab aT;have a0:dcall 128 #[.pointer (some F.sA)]=dcall L.done #[.pointer (some F.sA)]:=by rw [a4]
  rw [a0];refine zg 3 rfl (Bu underlying133 CW rfl rfl rfl ?_);refine Bu underlying97 C7 rfl rfl rfl (Az (v:= .slice a K.2.length c) rfl (fun ρ h=>Yl.load El (h _ _ rfl) (Di (j:=2) (off:=2) Z rfl rfl)) ?_);refine Bx underlying95 rfl rfl rfl (zg 2 rfl ?_);refine Ni (p:=0<((K.2).length:Int)) rfl (fun a1=>?_) (fun a1=>?_)
  ·have ag:F.start j= .Ch j:=by unfold Fam.start;rw [aD,decide_eq_true (show 0<K.2.length by omega)];rfl
   rw [ag];refine JL.region (BV 0 (bf.Ag au) Ki rfl rfl rfl ?_);refine Cb 3 aY Z rfl fun br a2 a3 av=>Az rfl (fun ρ h=>EK (vs:= [iV age,iV K.1,.slice a K.2.length c]) B6 AK (h _ _ rfl) (EG (off:=0) 2 av rfl rfl)) (OP rfl rfl rfl rfl rfl rfl rfl (bg _ _ _ (au.Ab a2) a3) ?_);exact JL.done (JL.out rfl (JO.collected 4 rfl av rfl fun aw=>JO.L2 ay rfl rfl (JO.leaveD rfl func127 rfl (.inr rfl) Jf)))
  ·have ag:F.start j= .CH:=by unfold Fam.start;rw [aD,decide_eq_false (show ¬0<K.2.length by omega)];rfl
   rw [ag];exact JL.skip (JL.out rfl (JO.collected 4 rfl Z rfl fun aw=>JO.L2 ay rfl rfl (JO.leaveD rfl func127 rfl (.inr rfl) Jf)))
end Pal
namespace Go.Proofs
abbrev Tryz.link:Go.Conc.Lib.WgLink:={add:=126,done:=128,wait:=132,relMerge:=139,disable:=140,enable:=141,inBubble:=142,associate:=143,fatal:=144,uOr:=145,uAdd:=146,raceRead:=147,uLoad:=148,uStore:=149,disassociate:=150,semrelease:=151,acquire:=157,isAssociated:=158,uCas:=159,raceWrite:=160,semacquire:=161,orU64:=170,addU64:=171,loadU64:=172,storeU64:=173,casU64:=177,tWgP:=189,tUP:=191,tAssoc:=192,tWg:=171,tAU:=168,tU64:=90,tUint:=156,tU32:=169,tPU32:=196,tPAU:=221,tPU64:=223,tNoCopy:=164,tANoCopy:=165,tAlign64:=166}
theorem Tryz.Nv:Go.Conc.Lib.WgLib Tryz.prog Tryz.link:=
 ⟨Tryz.func126,Tryz.func128,Tryz.func132,Tryz.func139,Tryz.func140,Tryz.func141,Tryz.func142,Tryz.func143,Tryz.func144,Tryz.func145,Tryz.func146,Tryz.func147,Tryz.func148,Tryz.func149,Tryz.func150,Tryz.func151,Tryz.func157,Tryz.func158,Tryz.func159,Tryz.func160,Tryz.func161,Tryz.func170,Tryz.func171,Tryz.func172,Tryz.func173,Tryz.func177,Tryz.underlying189,Tryz.runUnderlying189,Tryz.sizeOf189,Tryz.isAgg189,Tryz.zeroValue189,Tryz.underlying191,Tryz.runUnderlying191,Tryz.sizeOf191,Tryz.isAgg191,Tryz.zeroValue191,Tryz.underlying192,Tryz.runUnderlying192,Tryz.sizeOf192,Tryz.isAgg192,Tryz.zeroValue192,Tryz.underlying171,Tryz.runUnderlying171,Tryz.sizeOf171,Tryz.isAgg171,Tryz.zeroValue171,Tryz.underlying168,Tryz.runUnderlying168,Tryz.sizeOf168,Tryz.isAgg168,Tryz.zeroValue168,Tryz.underlying90,Tryz.runUnderlying90,Tryz.sizeOf90,Tryz.isAgg90,Tryz.zeroValue90,Tryz.underlying156,Tryz.runUnderlying156,Tryz.sizeOf156,Tryz.isAgg156,Tryz.zeroValue156,Tryz.underlying169,Tryz.runUnderlying169,Tryz.sizeOf169,Tryz.isAgg169,Tryz.zeroValue169,Tryz.underlying196,Tryz.runUnderlying196,Tryz.sizeOf196,Tryz.isAgg196,Tryz.zeroValue196,Tryz.underlying221,Tryz.runUnderlying221,Tryz.sizeOf221,Tryz.isAgg221,Tryz.zeroValue221,Tryz.underlying223,Tryz.runUnderlying223,Tryz.sizeOf223,Tryz.isAgg223,Tryz.zeroValue223,Tryz.underlying0,Tryz.runUnderlying0,Tryz.sizeOf0,Tryz.isAgg0,Tryz.zeroValue0,Tryz.underlying3,Tryz.runUnderlying3,Tryz.sizeOf3,Tryz.isAgg3,Tryz.zeroValue3,Tryz.underlying4,Tryz.runUnderlying4,Tryz.sizeOf4,Tryz.isAgg4,Tryz.zeroValue4,Tryz.underlying9,Tryz.runUnderlying9,Tryz.sizeOf9,Tryz.isAgg9,Tryz.zeroValue9,Tryz.underlying20,Tryz.runUnderlying20,Tryz.sizeOf20,Tryz.isAgg20,Tryz.zeroValue20,Tryz.underlying21,Tryz.runUnderlying21,Tryz.sizeOf21,Tryz.isAgg21,Tryz.zeroValue21,(by decide+kernel),(by decide+kernel)⟩
end Go.Proofs
namespace Pal
open Go Go.Conc Go.Proofs Go.Conc.Lib Go.ConcR.Gen
theorem SV{F:Fam}(O:F.n<2147483648){E:LH}{kc K:Nat}(U:At E kc K [.chan (some F.ch)]):Way Tryz.prog false (Stop Tryz.prog F .CJ) (born Tryz.prog ⟨.fn (.func 131) [.pointer (some F.sA),pV kc K].toArray,#[]⟩) ⟨E,fun _=>none,false⟩:=by
 refine Pg (fn:=Tryz.f131) (vs:= [.pointer (some F.sA),pV kc K]) Tryz.func131 rfl rfl (by simp) (Nat.le_of_ble_eq_true rfl) ?_;obtain⟨H,V⟩:∃H:LH,H=fun _=>none:=⟨_,rfl⟩;rw [← V];refine(?_:JL (Bn Tryz.prog false) (Stop Tryz.prog F .CJ) (baseD 131) Tryz.f131.ntmps (Fe 0 [.pointer (some F.sA),pV kc K]) [] [.code _] [Hl Tryz.prog] (Al E H []));refine zg 2 rfl (JL.wait Tryz.Nv O rfl rfl rfl rfl rfl ?_);refine zg 2 rfl (BV 0 U Ki rfl rfl rfl ?_);refine Sm rfl rfl rfl rfl rfl rfl rfl (JL.done ?_);exact JL.out rfl (JO.leaveD rfl Tryz.func131 rfl (.inr rfl) Jf)
end Pal
namespace Pal
open Go Go.Conc Go.Proofs
open Go.Proofs.Tryz
open Go.Conc.Lib Go.ConcR.Gen
noncomputable def Il:Code:=match Tryz.f102.body with | some (.seq _ (.seq _ (.seq _ (.seq (.seq _ (.block _ (.loop c))) _))))=>c | _=> .skip
theorem R6{F:Fam}(aM:F.n=13){E:LH}{k1 ae:Nat}{ag ah ai:Ap}{aj ak al:Nat}{am:Lv_}{O:BJ}{lk:AY}(ao:At E k1 ae (([sV ag O.1 aj,sV ah O.2.1 ak]:Lv_)++am))(ap:An (rL rI) E ag aj O.1)(aq:An (rL rI) E ah ak O.2.1)(ar:(rA 13 (rN .u16)).r E am O.2.2)(au:An BE E ai al lk){V W Y ol kc Z:Nat}(av:At E V W [pV k1 ae])(aw:At E Y ol [.slice ai lk.length al])(ay:At E kc Z [.chan (some F.ch)]){fuel:Nat}{qs:Nat→Int×List (BS)}(az:∀j,j<13→Gb fuel O lk ((j:Nat):Int)=some (qs j))(aA:∀j,j<13→F.has j=decide (0<(qs j).2.length))(aB:∀j,j<13→∀E' a c,An CV E' a c (qs j).2→F.msg j (.agg #[iV ((j:Nat):Int),iV (qs j).1,.slice a (qs j).2.length c]) E'){j:Nat}(aa:j<13){ab H:LH}(hle:Le E ab)(aC:As ab H []){k:Li_}{cs:Lf_}
  (h:∀U,Le E U→As U H []→JL (Bn Tryz.prog true) (Stop Tryz.prog F (F.Dq j)) (base 102) Tryz.f102.ntmps [(2,pV V W),(3,pV Y ol),(5,pV kc Z),(6,.pointer (some F.sA)),(11,iV ((j+1:Nat):Int))] [] (.inLoop Il::k) cs (Al U H [])):
  JL (Bn Tryz.prog true) (Stop Tryz.prog F (.ER j)) (base 102) Tryz.f102.ntmps [(2,pV V W),(3,pV Y ol),(5,pV kc Z),(6,.pointer (some F.sA)),(11,iV ((j:Nat):Int))] [] (.code Il:: .inLoop Il::k) cs (Al ab H []):=by
 refine zg 5 rfl ?_;rw [decide_eq_true (show((j:Nat):Int)<13 by omega)];refine zg 7 rfl (Cr aC Cn fun aD aE=>?_);refine BF 0 aE A3 fun aF=>?_;refine C9 0 aF rfl fun U aG aH aI=>Dj (S':= []) (by simp) aI fun aJ=>?_;have K:=hle.trans aG;refine zg 3 rfl (Sx Tryz.Nv rfl rfl rfl rfl rfl rfl ?_);refine zg 2 rfl (Az (v:= .func (.func 127) #[] ([.pointer (some F.sA),pV V W,pV Y ol,pV aD 0,pV kc Z]:Lv_).toArray) rfl (fun ρ h=>H6 (by simp) (by simp [h (.tmp 6) _ rfl,h (.tmp 2) _ rfl,h (.tmp 3) _ rfl,h (.tmp 7) _ rfl,h (.tmp 5) _ rfl])) ?_);have an:=S3 Tryz.Nv rfl (F:=F) (j:=j) (ao.Ag K) (ap.Ag K) (aq.Ag K) (Rp.Ag _ K ar) (au.Ag K) (av.Ag K) (aw.Ag K) aH (ay.Ag K) (az j aa) (aA j aa) (fun E' a c _ aK=>aB j aa E' a c aK);refine Vf (fi:= #[]) rfl rfl rfl rfl rfl rfl rfl (by first | exact an | (simp only [List.append_toArray,List.nil_append,Array.append_empty,Array.empty_append];exact an)) ?_
 refine zg 3 rfl ?_;have aL:Av (((j:Nat):Int)+1)=some (((j+1:Nat)):Int):=by unfold Av;rw [if_pos (by omega)];simp
 refine Bg aL rfl rfl rfl (zg 2 rfl ?_);exact AB (h U K aJ) rfl
theorem SS{F:Fam}(V:F.n=13){E:LH}{k1 ab:Nat}{ae ag ah:Ap}{ai aj ak:Nat}{al:Lv_}{K:BJ}{lk:AY}(ao:At E k1 ab (([sV ae K.1 ai,sV ag K.2.1 aj]:Lv_)++al))(ap:An (rL rI) E ae ai K.1)(aq:An (rL rI) E ag aj K.2.1)(ar:(rA 13 (rN .u16)).r E al K.2.2)(au:An BE E ah ak lk){W Y Z ol kc aa:Nat}(av:At E W Y [pV k1 ab])(aw:At E Z ol [.slice ah lk.length ak])(ay:At E kc aa [.chan (some F.ch)]){fuel:Nat}{qs:Nat→Int×List (BS)}(az:∀j,j<13→Gb fuel K lk ((j:Nat):Int)=some (qs j))(aA:∀j,j<13→F.has j=decide (0<(qs j).2.length))(aB:∀j,j<13→∀E' a c,An CV E' a c (qs j).2→F.msg j (.agg #[iV ((j:Nat):Int),iV (qs j).1,.slice a (qs j).2.length c]) E'){H:LH}{k:Li_}{cs:Lf_}
  (h:∀O,Le E O→As O H []→JL (Bn Tryz.prog true) (Stop Tryz.prog F .Fi) (base 102) Tryz.f102.ntmps [(2,pV W Y),(3,pV Z ol),(5,pV kc aa),(6,.pointer (some F.sA)),(11,iV 13)] [] (.code Il:: .inLoop Il::k) cs (Al O H [])):
  ∀(m j:Nat),j+m=13→0<m→∀U,Le E U→As U H []→JL (Bn Tryz.prog true) (Stop Tryz.prog F (.ER j)) (base 102) Tryz.f102.ntmps [(2,pV W Y),(3,pV Z ol),(5,pV kc aa),(6,.pointer (some F.sA)),(11,iV ((j:Nat):Int))] [] (.code Il:: .inLoop Il::k) cs (Al U H []):=by
 intro m
 induction m with
 | zero=>intro j _ aC;cases aC
 | succ m aD=>
  intro j aG _ U hle aE;refine R6 V ao ap aq ar au av aw ay az aA aB (by omega) hle aE fun O am an=>JL.again ?_;by_cases hm:m=0
  ·subst hm;have aF:j=12:=by omega
   subst aF;have e:F.Dq 12= .Fi:=by unfold Fam.Dq;rw [V];rfl
   rw [e];exact h O am an
  ·have e:F.Dq j= .ER (j+1):=by unfold Fam.Dq;rw [V,if_neg (by omega)]
   rw [e];exact aD (j+1) (by omega) (by omega) O am an
end Pal
namespace Pal
open Go Go.Conc Go.Proofs
open Go.Proofs.Tryz
open Go.Conc.Lib Go.ConcR.Gen
noncomputable def QY:Code:=match Tryz.f102.body with | some (.seq _ (.seq _ (.seq _ (.seq _ (.seq _ (.seq _ (.seq (.seq _ (.block _ (.loop c))) _)))))))=>c | _=> .skip
def partOf(qs:Nat→Int×List (BS))(k:Nat):(Be):=(((k:Nat):Int),(qs k).1,(qs k).2)
theorem Vn{K:List Nat}{kk n:Nat}(O:kk<n)(U:kk ∉ K):((List.range n).filter (fun x=> !(K++ [kk]).contains x)).length<((List.range n).filter (fun x=> !K.contains x)).length:=by
 have e:(List.range n).filter (fun x=> !(K++ [kk]).contains x)=((List.range n).filter (fun x=> !K.contains x)).filter (fun x=>x != kk):=by
  rw [List.filter_filter];apply List.filter_congr;intro x _;by_cases V:x∈K <;> by_cases W:x=kk <;> simp [V,W]
 rw [e];apply List.length_filter_lt_length_iff_exists.2;exact⟨kk,by simp [O,U],by simp⟩
theorem SG{F:Fam}(Z:F.n=13){Q:GP}(an:∀g s,(Dv Tryz.prog).ok Q g s→F.fin g s){qs:Nat→Int×List (BS)}(ao:∀kk v E',F.msg kk v E'→∃a c,v= .agg #[iV ((kk:Nat):Int),iV (qs kk).1,.slice a (qs kk).2.length c]∧An CV E' a c (qs kk).2)
  {E H:LH} {k:Li_} {cs:Lf_}
  (ap:∀(K:List Nat) (V:LH) (a:Ap) (c:Nat) (g:Seg),Le E V→K.Nodup→(∀x∈K,x<13∧F.has x=true)→(∀x,x<13→F.has x=true→x∈K)→OL 133 Cc V a c g (K.map (partOf qs))→As V H [g]→JL (Dv Tryz.prog) Q (base 102) Tryz.f102.ntmps [(8,.slice a (K.map (partOf qs)).length c)] [] k cs (Al V H [g])):
  ∀(m:Nat) (K:List Nat) (vs:Lv_) (U:LH) (a:Ap) (c:Nat) (g:Seg),((List.range 13).filter (fun x=> !K.contains x)).length=m→K.Nodup→(∀x∈K,x<13∧F.has x=true)→K.length+m≤13→Le E U→OL 133 Cc U a c g (K.map (partOf qs))→As U H [g]→
   JL (Bn Tryz.prog true) (Stop Tryz.prog F (.BX K vs)) (base 102) Tryz.f102.ntmps [(8,.slice a (K.map (partOf qs)).length c),(18,.chan (some F.ch))] [] (.code QY:: .inLoop QY:: .inBlock 2::k) cs (Al U H [g]):=by
 intro m
 induction m using Nat.strongRecOn with
 | _ m aq=>
  intro K vs U a c g hm aa ab hlen hle ae ag;refine zg 2 rfl (Ty rfl rfl rfl rfl rfl rfl underlying162 Hu ?_ ?_)
  ·intro kk v E' W ar ah ai au av;rw [Z] at W;obtain⟨aK,aL,rfl,aw⟩:=ao kk v E' av;have ay:As E' H [g]:=ag.up au;refine(?_:JL (Bn Tryz.prog true) (Stop Tryz.prog F (.BX (K++ [kk]) (vs++ [_]))) (base 102) Tryz.f102.ntmps _ [] _ cs (Al E' H [g]));refine zg 9 rfl (JS.alloc rfl rfl rfl ay Hu fun aM az=>?_);refine BF 1 az AK fun aA=>?_;refine C9 1 aA rfl fun aB Y aC aD=>Dj (S':= [g]) (by simp) aD fun aE=>zg 3 rfl (Cl aC B6 AK rfl rfl ?_);have aF:(K.map (partOf qs)).length+1≤2 ^ 40:=by rw [List.length_map];omega
   refine Og (pp:=Cc) (xv:=partOf qs kk) 0 rfl rfl rfl rfl (fun w=>rfl) rfl (fun w=>rfl) rfl rfl rfl underlying130 underlying130 underlying130 AK (CX type133) Hu rfl (by decide) (by decide) (by decide) (by decide) aF (ae.Ag (ai.trans Y)) ⟨_,_,rfl,rfl,⟨_,_,rfl,rfl,⟨_,_,rfl,aw.Ag Y⟩⟩⟩ aE rfl fun w aj ak g' al aG=>?_;have em:K.map (partOf qs)++ [partOf qs kk]=(K++ [kk]).map (partOf qs):=by simp
   rw [em] at al;refine AW (v:= .slice aj ((K++ [kk]).map (partOf qs)).length ak) rfl rfl rfl (fun ρ h=>by rw [← em];exact Yl.assign (h _ _ rfl)) (zg 2 rfl ?_);refine JL.again ?_;have aH:((List.range 13).filter (fun x=> !(K++ [kk]).contains x)).length<m:=by rw [← hm];exact Vn W ah
   exact AB (aq _ aH (K++ [kk]) (vs++ [_]) aB aj ak g' rfl (by rw [List.nodup_append];exact⟨aa,by simp,by intro x O y am;simp at am;subst am;intro e;exact ah (e▸O)⟩) (by intro x O;simp at O;rcases O with O | rfl;exact ab x O;exact⟨W,ar⟩) (by simp only [List.length_append,List.length_cons,List.length_nil];omega) ((hle.trans ai).Ab Y) al aG) rfl
  ·intro aI T aJ;refine an _ _ ?_;refine(?_:JL (Dv Tryz.prog) Q (base 102) Tryz.f102.ntmps _ [] _ cs (Al U H [g])) T aJ;exact zg 5 rfl (AB (ap K U a c g hle aa ab (fun x O hh=>aI x (by rw [Z];exact O) hh) ae ag) rfl)
end Pal
namespace Pal
open Go Go.Conc Go.Proofs
open Go.Proofs.Tryz
variable {J:Judge Tryz.prog}{E:LH}
def Qw:List Nat:= [0,1,2,2,3,3,3,3,4,4,4,4,4,4,4,4,5,5,5,5,5,5,5,5,5,5,5,5,5,5,5,5,6,6,6,6,6,6,6,6,6,6,6,6,6,6,6,6,6,6,6,6,6,6,6,6,6,6,6,6,6,6,6,6,7,7,7,7,7,7,7,7,7,7,7,7,7,7,7,7,7,7,7,7,7,7,7,7,7,7,7,7,7,7,7,7,7,7,7,7,7,7,7,7,7,7,7,7,7,7,7,7,7,7,7,7,7,7,7,7,7,7,7,7,7,7,7,7,8,8,8,8,8,8,8,8,8,8,8,8,8,8,8,8,8,8,8,8,8,8,8,8,8,8,8,8,8,8,8,8,8,8,8,8,8,8,8,8,8,8,8,8,8,8,8,8,8,8,8,8,8,8,8,8,8,8,8,8,8,8,8,8,8,8,8,8,8,8,8,8,8,8,8,8,8,8,8,8,8,8,8,8,8,8,8,8,8,8,8,8,8,8,8,8,8,8,8,8,8,8,8,8,8,8,8,8,8,8,8,8,8,8,8,8,8,8,8,8,8,8,8,8,8,8,8,8]
def f187(fuel:Nat)(p0:Nat):Option Int:= Option.bind (if(((4294967296):Nat):Int)≤(((p0):Nat):Int) then(some (p0>>>32,32)) else(some (p0,0))) fun K=> Option.bind (if(((65536):Nat):Int)≤(((K.1):Nat):Int) then((Av (K.2+16)).bind fun V=> some (K.1>>>16,V)) else(some K)) fun O=> Option.bind (if(((256):Nat):Int)≤(((O.1):Nat):Int) then((Av (O.2+8)).bind fun W=> some (O.1>>>8,W)) else(some O)) fun U=> (J3 Qw (((((U.1) % 256):Nat):Int))).bind fun Y=> (Av (((Y):Nat):Int)).bind fun Z=> (Av (U.2+Z)).bind fun aa=> some aa
theorem U6{p0:Nat}{fuel:Nat}{r:Int}(V:f187 fuel p0=some r):AP J 187 [.int .u64 ((p0:Nat):Int)] E [] (fun w E' B'=>w=iV r∧B'= []):=by
 refine A9 func187 fun Q aP cs H W ag=>?_;unfold f187 at V;obtain⟨K,ah,ai⟩:=bs V;refine zg 10 rfl (Cq [] [(0,.int .u64 ((K.1:Nat):Int)),(2,iV K.2)] (fun aQ aj Y=>?_) (fun Z=>?_))
 ·obtain⟨O,ak,al⟩:=bs ai;refine zg 6 rfl (Cq [] [(0,.int .u64 ((O.1:Nat):Int)),(2,iV O.2)] (fun aR am aa=>?_) (fun ab=>?_))
  ·obtain⟨U,an,ao⟩:=bs al;refine zg 6 rfl (Cq [] [(0,.int .u64 ((U.1:Nat):Int)),(2,iV U.2)] (fun aS ap aq=>?_) (fun ae=>?_))
   ·refine zg 4 rfl (Az (v:= .int .u8 (((U.1) % 256:Nat):Int)) rfl (fun ρ h=>UN underlying90 underlying5 (h _ _ rfl)) ?_);obtain⟨ar,au,av⟩:=bs ao;refine Az (v:= .int .u8 ((ar:Nat):Int)) rfl (fun ρ h=>MF (l:=Qw) (by decide+kernel) underlying9 (h _ _ rfl) (h _ _ rfl) au) ?_;obtain⟨aw,ay,az⟩:=bs av;refine Az (v:=iV aw) rfl (fun ρ h=>PN underlying5 underlying3 (h _ _ rfl) ay) ?_;obtain⟨aT,aA,aB⟩:=bs az;refine Bg aA rfl rfl rfl (zg 2 rfl ?_);obtain rfl:=oi aB;exact AN func187 rfl rfl (ag ((aj.Ab am).Ab ap) rfl ⟨rfl,rfl⟩ aq)
   ·refine AS an (fun aC aD=>?_) (fun aC aE=>?_)
    ·refine zg 3 rfl (Az (v:= .int .u64 ((O.1>>>8:Nat):Int)) rfl (fun ρ h=>IL 8 (h _ _ rfl) (h _ _ rfl) (by decide)) ?_);obtain⟨aU,aF,aG⟩:=bs aD;refine zg 4 rfl (Bg aF rfl rfl rfl ?_);refine zg 2 rfl ?_;obtain rfl:=oi aG;exact ae Aq aa rfl
    ·refine JL.skip ?_;obtain rfl:=oi aE;exact ae Aq aa rfl
  ·refine AS ak (fun aH aI=>?_) (fun aH aJ=>?_)
   ·refine zg 3 rfl (Az (v:= .int .u64 ((K.1>>>16:Nat):Int)) rfl (fun ρ h=>IL 16 (h _ _ rfl) (h _ _ rfl) (by decide)) ?_);obtain⟨aV,aK,aL⟩:=bs aI;refine zg 4 rfl (Bg aK rfl rfl rfl ?_);refine zg 2 rfl ?_;obtain rfl:=oi aL;exact ab Aq Y rfl
   ·refine JL.skip ?_;obtain rfl:=oi aJ;exact ab Aq Y rfl
 ·refine AS ah (fun aM aN=>?_) (fun aM aO=>?_)
  ·refine zg 3 rfl (Az (v:= .int .u64 ((p0>>>32:Nat):Int)) rfl (fun ρ h=>IL 32 (h _ _ rfl) (h _ _ rfl) (by decide)) ?_);refine zg 5 rfl ?_;obtain rfl:=oi aN;exact Z Aq W rfl
  ·refine JL.skip ?_;obtain rfl:=oi aO;exact Z Aq W rfl
def f163(fuel:Nat)(p0:Nat):Option Int:= (f187 fuel p0).bind fun K=> some K
theorem Qx{p0:Nat}{fuel:Nat}{r:Int}(K:f163 fuel p0=some r):AP J 163 [.int .u64 ((p0:Nat):Int)] E [] (fun w E' B'=>w=iV r∧B'= []):=by
 refine A9 func163 fun Q aa cs H O U=>?_;unfold f163 at K;obtain⟨ab,V,W⟩:=bs K;refine zg 10 rfl (BK (U6 V) rfl rfl (AX func187 rfl) O fun ae Y Z=>?_);refine zg 2 rfl ?_;obtain rfl:=oi W;exact AN func163 rfl rfl (U Y rfl ⟨rfl,rfl⟩ Z)
def f134(fuel:Nat)(p0:Be)(p1:Be):Option Int:= (Av (p0.1 - p1.1)).bind fun K=> some K
theorem Gs{K:Ap}{c2:Nat}{O:Ap}{U:Nat}{p0:Be}{p1:Be}(ak:An CV E K c2 p0.2.2)(al:An CV E O U p1.2.2){fuel:Nat}{r:Int}(V:f134 fuel p0 p1=some r):AP J 134 [.agg #[iV p0.1,iV p0.2.1,sV K p0.2.2 c2],.agg #[iV p1.1,iV p1.2.1,sV O p1.2.2 U]] E [] (fun w E' B'=>w=iV r∧B'= []):=by
 refine A9 func134 fun Q am cs H Y Z=>?_;unfold f134 at V;refine zg 2 rfl (CB Y fun an ao aa ab ae=>?_);refine CB ae fun ap aq W ag ah=>?_;refine zg 4 rfl (JL.fl 0 (ab.Ag W) underlying133 A3 Bw ?_);refine JL.fl 0 ag underlying133 A3 Bw ?_;obtain⟨ar,ai,aj⟩:=bs V;refine BW ai rfl rfl rfl (zg 2 rfl ?_);obtain rfl:=oi aj;exact AN func134 rfl rfl (Z (aa.Ab W) rfl ⟨rfl,rfl⟩ ah)
def IM(fuel:Nat)(p1:Int)(K:Int×(List Be)):Option (Bi (Int×(List Be)) ((List Be))):= Option.bind (if p1<K.1 then((ix K.2 K.1).bind fun V=> (Av (K.1 - 1)).bind fun W=> (ix K.2 W).bind fun Y=> (f134 fuel V Y).bind fun Z=> some (decide (Z<0))) else(some false)) fun aa=> if aa=true then((Av (K.1 - 1)).bind fun O=> (Av (K.1 - 1)).bind fun ab=> (ix K.2 ab).bind fun U=> (ix K.2 K.1).bind fun ae=> (ix (K.2.set (Int.toNat K.1) U) O).bind fun ah=> (Av (K.1 - 1)).bind fun ag=> some (.more (ag,((K.2.set (Int.toNat K.1) U).set (Int.toNat O) ae)))) else(some (.done K.2))
def Ic(fuel:Nat)(p1:Int)(p2:Int)(K:Int×(List Be)):Option (Bi (Int×(List Be)) ((List Be))):= if K.1<p2 then(Option.bind (iter (IM fuel p1) fuel K) fun O=> (Av (K.1+1)).bind fun U=> some (.more (U,O))) else(some (.done K.2))
def f178(fuel:Nat)(p0:List Be)(p1:Int)(p2:Int):Option ((List Be)):= (Av (p1+1)).bind fun K=> Option.bind (iter (Ic fuel p1 p2) fuel (K,p0)) fun O=> some O
theorem QE{K:Nat}{U:Nat}{V:Nat}{ap:Ay}{p0:List (Be)}{p1:Int}{p2:Int}(hW:WL 133 Cc E K U V ap p0){fuel:Nat}{r:(List Be)}(aC:f178 fuel p0 p1 p2=some r):AP J 178 [.slice (Bc K) V U,iV p1,iV p2,(fV 134)] E [(K,.cells ap 133 (0,0))] (fun w E' B'=>∃(aD:Ay),w= .tuple #[]∧B'= [(K,.cells aD 133 (0,0))]∧WL 133 Cc E' K U V aD r):=by
 refine A9 func178 fun Q b2 cs H aW aX=>?_;unfold f178 at aC;obtain⟨b3,aY,aZ⟩:=bs aC;refine zg 3 rfl (Bg aY rfl rfl rfl ?_);obtain⟨a0,a1,a2⟩:=bs aZ;refine zg 2 rfl (Bs (fun L s=>∃(aq:LH) (f17:Ay),Jn E H aq [bX K f17 133] [] L s (WL 133 Cc aq K U V f17 a0)) ?_ ?_)
 ·rintro _ _ ⟨aq,f17,rfl,rfl,a3,a4,a5⟩;obtain rfl:=oi a2;exact JL.fin (v:= .tuple #[]) rfl rfl (BR.list func178 rfl (vs:= []) trivial) (aX a3 rfl ⟨f17,rfl,(by first | rfl | simp | (simp [Value.cells])),a5⟩ a4)
 ·intro a6;refine JL.block (CP a1 (fun L s ab=>∃(aa:LH) (f25:Ay),Jn E H aa [bX K f25 133] [(0,.slice (Bc K) V U),(1,iV p1),(2,iV p2),(3,(fV 134)),(8,iV ab.1)] L s (WL 133 Cc aa K U V f25 ab.2)) ⟨E,ap,rfl,rfl,Aq,aW,hW⟩ ?_);rintro _ _ ab ⟨aa,f25,rfl,rfl,aE,aF,aG⟩ a7 ⟨b4,ar⟩ a8;have aH:=ar;unfold Ic at aH;refine zg 7 rfl (AS aH (fun a9 ba=>?_) (fun a9 bb=>?_))
  ·obtain⟨aI,bc,bd⟩:=bs ba;refine zg 8 rfl (Bs (fun L s=>∃(al:LH) (f48:Ay),Jn aa H al [bX K f48 133] [(0,.slice (Bc K) V U),(1,iV p1),(2,iV p2),(3,(fV 134)),(8,iV ab.1)] L s (WL 133 Cc al K U V f48 aI)) ?_ ?_)
   ·rintro _ _ ⟨al,f48,rfl,rfl,be,bf,bg⟩;obtain⟨bh,bi,bj⟩:=bs bd;refine zg 3 rfl (Bg bi rfl rfl rfl ?_);refine zg 2 rfl ?_;obtain rfl:=oi bj;exact AB (a8 _ _ (bh,aI) ⟨al,f48,rfl,rfl,(aE.Ab be),bf,bg⟩ ar) rfl
   ·intro bl;refine JL.block (CP bc (fun L s Z=>∃(ai:LH) (f58:Ay),Jn aa H ai [bX K f58 133] [(0,.slice (Bc K) V U),(1,iV p1),(2,iV p2),(3,(fV 134)),(8,iV ab.1),(9,iV Z.1)] L s (WL 133 Cc ai K U V f58 Z.2)) ⟨aa,f25,rfl,rfl,Aq,aF,aG⟩ ?_);rintro _ _ Z ⟨ai,f58,rfl,rfl,aJ,aj,O⟩ bm ⟨b5,au⟩ bn;have aK:=au;unfold IM at aK;refine zg 2 rfl (CZ 17 [K] ⟨⟨0,_,rfl⟩,trivial⟩ aj fun ht=>?_);refine Bp ht rfl [0,1,2,3] rfl ?_;obtain⟨bo,aL,bp⟩:=bs aK;refine FL 0 #[true,true,true,true,true,true,true,true,true,true,true,true,true,true,true,true,true] (fun L s=>∃(am:LH),Jm ai H am [bX K f58 133] [(0,.slice (Bc K) V U),(1,iV p1),(2,iV p2),(3,(fV 134)),(8,iV ab.1),(9,iV Z.1),(34,.bool bo)] L s) ?_ ?_
    ·rintro _ _ ⟨am,rfl,rfl,ae,an⟩;refine AO.fin (by decide+kernel) (BL bp (fun bq br=>?_) (fun bq bu=>?_))
     ·refine zg 3 rfl (Gq [15,17] [K] mixed rfl ?_);refine Bd 0 rfl rfl (Bd 1 rfl rfl ?_);refine Bd 2 rfl rfl (Bd 3 rfl rfl ?_);obtain⟨aM,bv,bw⟩:=bs br;refine Gc 4 true rfl rfl (fun ρ h s' hs=>CY (h _ _ rfl) (h _ _ rfl) bv) (Bd 5 rfl rfl ?_);refine Bd 6 rfl rfl ?_;obtain⟨b6,bx,bz⟩:=bs bw;refine Gc 7 true rfl rfl (fun ρ h s' hs=>CY (h _ _ rfl) (h _ _ rfl) bx) ?_;obtain⟨W,aN,bA⟩:=bs bz;obtain⟨_,⟨_,_,rfl,rfl,⟨_,_,rfl,rfl,⟨av,aw,rfl,bB⟩⟩⟩,bC⟩:=WL.at (O.Ag ae) aN;refine Cd 8 O.2 aN underlying130 AK ?_;refine DK 9 [iV W.1,iV W.2.1,sV av W.2.2 aw] 0 an bC B6 AK ?_;refine Bd 10 rfl rfl (Bd 11 rfl rfl ?_);obtain⟨Y,ao,bD⟩:=bs bA;obtain⟨_,⟨_,_,rfl,rfl,⟨_,_,rfl,rfl,⟨ay,az,rfl,bE⟩⟩⟩,bF⟩:=WL.at (O.Ag ae) ao;refine Cd 12 O.2 ao underlying130 AK ?_;refine DK 13 [iV Y.1,iV Y.2.1,sV ay Y.2.2 az] 0 an bF B6 AK ?_;refine Cd 14 O.2 ao underlying130 AK ?_;have ak:=WL.put (x':=W) (ws':= [iV W.1,iV W.2.1,sV av W.2.2 aw]) (O.Ag ae) O.2 ao ⟨_,_,rfl,rfl,⟨_,_,rfl,rfl,⟨_,_,rfl,bB⟩⟩⟩;refine DJ 15 0 an AK ak.2 fun bG=>?_;obtain⟨b7,aA,bH⟩:=bs bD;obtain⟨_,⟨_,_,rfl,rfl,⟨_,_,rfl,rfl,⟨b8,b9,rfl,ca⟩⟩⟩,cb⟩:=WL.at ak.1 aA;refine Cd 16 (ak.1).2 aA underlying130 AK ?_;have aO:=WL.put (x':=Y) (ws':= [iV Y.1,iV Y.2.1,sV ay Y.2.2 az]) ak.1 (ak.1).2 aA ⟨_,_,rfl,rfl,⟨_,_,rfl,rfl,⟨_,_,rfl,bE⟩⟩⟩;refine DJ 17 0 bG AK aO.2 fun bI=>?_;refine JB.fin (by decide+kernel) ?_;obtain⟨bJ,bK,bL⟩:=bs bH;refine zg 3 rfl (BW bK rfl rfl rfl ?_);refine zg 2 rfl ?_;obtain rfl:=oi bL;exact AB (bn _ _ (bJ,((Z.2.set (Int.toNat Z.1) W).set (Int.toNat aM) Y)) ⟨am,(Ba (Ba f58 (Int.toNat (Z.1)*3) [iV W.1,iV W.2.1,sV av W.2.2 aw]) (Int.toNat (aM)*3) [iV Y.1,iV Y.2.1,sV ay Y.2.2 az]),rfl,rfl,(aJ.Ab ae),bI,aO.1⟩ au) rfl
     ·refine JL.exit rfl ?_;obtain rfl:=oi bu;obtain rfl:=bm _ au;exact AB (bl _ _ ⟨am,f58,rfl,rfl,(aJ.Ab ae),an,(O.Ag ae)⟩) rfl
    ·intro aP;refine FY (q:=p1<Z.1) (i:=21) rfl (fun aB=>?_) (fun aB=>?_)
     ·have bM:=ip aL aB;refine Bp ht rfl [4,5,6] rfl ?_;obtain⟨ag,aQ,bN⟩:=bs bM;obtain⟨_,⟨_,_,rfl,rfl,⟨_,_,rfl,rfl,⟨aR,aS,rfl,bO⟩⟩⟩,bP⟩:=WL.at O aQ;refine FB 7 ht (O).2 aQ underlying130 AK ?_;refine Dw 8 ht [iV ag.1,iV ag.2.1,sV aR ag.2.2 aS] 0 aj bP B6 AK ?_;refine Bp ht rfl [9,10] rfl ?_;obtain⟨cc,bQ,bR⟩:=bs bN;refine BC 11 ht rfl rfl (fun ρ h s' hs=>CY (h _ _ rfl) (h _ _ rfl) bQ) ?_;obtain⟨ah,aT,bS⟩:=bs bR;obtain⟨_,⟨_,_,rfl,rfl,⟨_,_,rfl,rfl,⟨aU,aV,rfl,bT⟩⟩⟩,bU⟩:=WL.at O aT;refine FB 12 ht (O).2 aT underlying130 AK ?_;refine Dw 13 ht [iV ah.1,iV ah.2.1,sV aU ah.2.2 aV] 0 aj bU B6 AK ?_;obtain⟨cd,bV,bW⟩:=bs bS;refine Hb (i:=14) ⟨⟨0,_,rfl⟩,trivial⟩ (vs:= [.agg #[iV ag.1,iV ag.2.1,sV aR ag.2.2 aS],.agg #[iV ah.1,iV ah.2.1,sV aU ah.2.2 aV]]) (Gs bO bT bV) (by decide+kernel) rfl rfl rfl rfl Gk rfl aj ?_;rintro _ bY _ bZ ⟨rfl,rfl⟩ b0;refine Bp ht rfl [15,16] rfl ?_;obtain rfl:=oi bW;refine DD ?_ (aP _ _ ⟨bY,rfl,rfl,bZ,b0⟩);exact⟨rfl,rfl,rfl,rfl,rfl,rfl,rfl,trivial⟩
     ·have b1:=im aL aB;refine Bp ht rfl [4,5,6,7,8,9,10,11,12,13,14,15,16] rfl ?_;obtain rfl:=oi b1;refine DD ?_ (aP _ _ ⟨ai,rfl,rfl,Aq,aj⟩);exact⟨rfl,rfl,rfl,rfl,rfl,rfl,rfl,trivial⟩
  ·refine JL.exit rfl ?_;obtain rfl:=oi bb;obtain rfl:=a7 _ ar;exact AB (a6 _ _ ⟨aa,f25,rfl,rfl,aE,aF,aG⟩) rfl
def f200(fuel:Nat)(p0:List Be)(p1:Int)(p2:Int)(p3:Int):Option (Int×Int×Int):= (ix p0 p2).bind fun K=> (ix p0 p1).bind fun O=> (f134 fuel K O).bind fun U=> if U<0 then((Av (p3+1)).bind fun V=> some (p2,p1,V)) else(some (p1,p2,p3))
theorem Nj{K:Nat}{Z:Nat}{aa:Nat}{W:Ay}{bk:Nat}{p0:List (Be)}{p1:Int}{p2:Int}{p3:Int}(hW:WL 133 Cc E K Z aa W p0){fuel:Nat}{r:Int×Int×Int}(ab:f200 fuel p0 p1 p2 p3=some r):AP J 200 [.slice (Bc K) aa Z,iV p1,iV p2,pV bk 0,(fV 134)] E ([(bk,.cells #[iV p3] 3 (0,0))]++ [(K,.cells W 133 (0,0))]) (fun w E' B'=>w= .tuple #[iV r.1,iV r.2.1]∧B'= [(bk,.cells #[iV r.2.2] 3 (0,0))]++ [(K,.cells W 133 (0,0))]):=by
 refine A9 func200 fun Q aD cs H O ae=>?_;unfold f200 at ab;refine Dj (S':= [[(bk,.cells #[iV p3] 3 (0,0))],[(K,.cells W 133 (0,0))]]) (by simp) O fun O=>zg 7 rfl (CZ 9 [K] ⟨⟨1,_,rfl⟩,trivial⟩ O fun ht=>?_);refine Bp ht rfl [0,1,2] rfl ?_;obtain⟨U,ag,am⟩:=bs ab;obtain⟨_,⟨_,_,rfl,rfl,⟨_,_,rfl,rfl,⟨ah,c4,rfl,an⟩⟩⟩,ao⟩:=WL.at hW ag;refine FB 3 ht (hW).2 ag underlying130 AK ?_;refine Dw 4 ht [iV U.1,iV U.2.1,sV ah U.2.2 c4] 1 O ao B6 AK ?_;refine Bp ht rfl [5,6] rfl ?_;obtain⟨V,ai,ap⟩:=bs am;obtain⟨_,⟨_,_,rfl,rfl,⟨_,_,rfl,rfl,⟨aj,ak,rfl,aq⟩⟩⟩,ar⟩:=WL.at hW ai;refine FB 7 ht (hW).2 ai underlying130 AK ?_;refine Dw 8 ht [iV V.1,iV V.2.1,sV aj V.2.2 ak] 1 O ar B6 AK ?_;refine Cp [9,10] ?_;obtain⟨aE,au,av⟩:=bs ap;refine Jq (vs:= [.agg #[iV U.1,iV U.2.1,sV ah U.2.2 c4],.agg #[iV V.1,iV V.2.1,sV aj V.2.2 ak]]) (Gs an aq au) rfl rfl rfl rfl Gk rfl O ?_;rintro _ aF _ al ⟨rfl,rfl⟩ Y;refine zg 2 rfl (AS av (fun aw ay=>?_) (fun aw az=>?_))
 ·refine zg 4 rfl (Az (v:=iV p3) rfl (fun ρ h=>Yl.load Bw (h _ _ rfl) (Di (j:=0) (off:=0) Y rfl rfl)) ?_);obtain⟨aG,aA,aB⟩:=bs ay;refine Bg aA rfl rfl rfl (zg 1 rfl ?_);refine BF 0 Y A3 fun aC=>?_;refine zg 8 rfl ?_;obtain rfl:=oi aB;exact AN func200 rfl rfl (ae al rfl ⟨rfl,(by first | rfl | simp | (simp [Value.cells]))⟩ aC)
 ·refine zg 8 rfl ?_;obtain rfl:=oi az;exact AN func200 rfl rfl (ae al rfl ⟨rfl,(by first | rfl | simp | (simp [Value.cells]))⟩ Y)
def f197(fuel:Nat)(p0:List Be)(p1:Int)(p2:Int)(p3:Int)(p4:Int):Option (Int×Int):= (f200 fuel p0 p1 p2 p4).bind fun K=> (f200 fuel p0 K.2.1 p3 K.2.2).bind fun O=> (f200 fuel p0 K.1 O.1 O.2.2).bind fun U=> some U.2
theorem Vd{K:Nat}{W:Nat}{Y:Nat}{O:Ay}{bk:Nat}{p0:List (Be)}{p1:Int}{p2:Int}{p3:Int}{p4:Int}(hW:WL 133 Cc E K W Y O p0){fuel:Nat}{r:Int×Int}(Z:f197 fuel p0 p1 p2 p3 p4=some r):AP J 197 [.slice (Bc K) Y W,iV p1,iV p2,iV p3,pV bk 0,(fV 134)] E ([(bk,.cells #[iV p4] 3 (0,0))]++ [(K,.cells O 133 (0,0))]) (fun w E' B'=>w=iV r.1∧B'= [(bk,.cells #[iV r.2] 3 (0,0))]++ [(K,.cells O 133 (0,0))]):=by
 refine A9 func197 fun Q aF cs H U ae=>?_;unfold f197 at Z;refine Dj (S':= [[(bk,.cells #[iV p4] 3 (0,0))],[(K,.cells O 133 (0,0))]]) (by simp) U fun U=>?_;obtain⟨ag,ah,ai⟩:=bs Z;refine zg 11 rfl (Jp 0 1 rfl rfl U fun aj=>?_);refine BP 0 (Nj hW ah) rfl rfl Mh aj rfl ?_;rintro _ aG _ V ⟨rfl,rfl⟩ ak;refine EM 0 rfl ak fun al=>Cg (S':= [[(bk,.cells #[iV ag.2.2] 3 (0,0))],[],[(K,.cells O 133 (0,0))]]) rfl al fun am=>?_;obtain⟨an,ao,ap⟩:=bs ai;refine zg 13 rfl (Jp 0 2 rfl rfl am fun aq=>?_);refine BP 0 (Nj (hW.Ag V) ao) rfl rfl Mh aq rfl ?_;rintro _ aH _ aa ⟨rfl,rfl⟩ ar;refine EM 0 rfl ar fun au=>Cg (S':= [[(bk,.cells #[iV an.2.2] 3 (0,0))],[],[],[(K,.cells O 133 (0,0))]]) rfl au fun av=>?_;obtain⟨ab,aw,ay⟩:=bs ap;refine zg 13 rfl (Jp 0 3 rfl rfl av fun az=>?_);refine BP 0 (Nj (hW.Ag (V.Ab aa)) aw) rfl rfl Mh az rfl ?_;rintro _ aI _ aA ⟨rfl,rfl⟩ aB;refine EM 0 rfl aB fun aC=>Cg (S':= [[(bk,.cells #[iV ab.2.2] 3 (0,0))],[],[],[],[(K,.cells O 133 (0,0))]]) rfl aC fun aD=>zg 11 rfl (Cg (S':= [[(bk,.cells #[iV ab.2.2] 3 (0,0))],[],[],[],[(K,.cells O 133 (0,0))]]) rfl aD fun aE=>?_);obtain rfl:=oi ay;exact AN func197 rfl rfl (ae ((V.Ab aa).Ab aA) rfl ⟨rfl,(by first | rfl | simp | (simp [Value.cells]))⟩ aE)
def f181(fuel:Nat)(p0:List Be)(p1:Int)(p2:Int):Option (Int×Int):= (Av (p2 - p1)).bind fun K=> (G1 K (4)).bind fun V=> (Av (V*1)).bind fun W=> (Av (p1+W)).bind fun Y=> (G1 K (4)).bind fun Z=> (Av (Z*2)).bind fun aa=> (Av (p1+aa)).bind fun U=> (G1 K (4)).bind fun ab=> (Av (ab*3)).bind fun ae=> (Av (p1+ae)).bind fun ag=> Option.bind (if 8≤K then(Option.bind (if 50≤K then(none) else(some ())) fun ai=> (f197 fuel p0 Y U ag 0).bind fun ah=> some ah) else(some (U,0))) fun O=> if O.2=0 then(some (O.1,1)) else(if O.2=12 then(some (O.1,2)) else(some (O.1,0)))
theorem Qe{K:Nat}{W:Nat}{Y:Nat}{O:Ay}{p0:List (Be)}{p1:Int}{p2:Int}(hW:WL 133 Cc E K W Y O p0){fuel:Nat}{r:Int×Int}(ae:f181 fuel p0 p1 p2=some r):AP J 181 [.slice (Bc K) Y W,iV p1,iV p2,(fV 134)] E [(K,.cells O 133 (0,0))] (fun w E' B'=>w= .tuple #[iV r.1,iV r.2]∧B'= [(K,.cells O 133 (0,0))]):=by
 refine A9 func181 fun Q bh cs H aj Z=>?_;unfold f181 at ae;obtain⟨bi,ak,al⟩:=bs ae;refine zg 9 rfl (BW ak rfl rfl rfl ?_);refine zg 4 rfl (Cr aj Cn fun U ag=>?_);obtain⟨am,an,ao⟩:=bs al;refine zg 5 rfl (Az (v:=iV am) rfl (fun ρ h=>Jv (h _ _ rfl) (h _ _ rfl) an) ?_);obtain⟨bj,ap,aq⟩:=bs ao;refine Az rfl (fun ρ h=>Ie (h _ _ rfl) (h _ _ rfl) ap) ?_;obtain⟨ar,au,av⟩:=bs aq;refine Bg au rfl rfl rfl ?_;obtain⟨aw,ay,az⟩:=bs av;refine zg 6 rfl (Az (v:=iV aw) rfl (fun ρ h=>Jv (h _ _ rfl) (h _ _ rfl) ay) ?_);obtain⟨bl,aA,aB⟩:=bs az;refine Az rfl (fun ρ h=>Ie (h _ _ rfl) (h _ _ rfl) aA) ?_;obtain⟨aC,aD,aE⟩:=bs aB;refine Bg aD rfl rfl rfl ?_;obtain⟨aF,aG,aH⟩:=bs aE;refine zg 6 rfl (Az (v:=iV aF) rfl (fun ρ h=>Jv (h _ _ rfl) (h _ _ rfl) aG) ?_);obtain⟨bm,aI,aJ⟩:=bs aH;refine Az rfl (fun ρ h=>Ie (h _ _ rfl) (h _ _ rfl) aI) ?_;obtain⟨aK,aL,aM⟩:=bs aJ;refine Bg aL rfl rfl rfl ?_;obtain⟨aa,aN,aO⟩:=bs aM;refine zg 8 rfl (Cq [bX K O 133,bX U #[iV aa.2] 3] [(11,pV U 0),(13,iV aa.1)] (fun bn ab V=>?_) (fun ah=>?_))
 ·refine zg 2 rfl (Az (v:=iV aa.2) rfl (fun ρ h=>Yl.load Bw (h _ _ rfl) (Di (j:=1) (off:=0) V rfl rfl)) ?_);refine zg 7 rfl (AS aO (fun aP aQ=>?_) (fun aP aR=>?_))
  ·refine zg 6 rfl (JS.drop 1 V rfl fun aS=>?_);obtain rfl:=oi aQ;exact AN func181 rfl rfl (Z ab rfl ⟨rfl,(by first | rfl | simp | (simp [Value.cells]))⟩ aS)
  ·refine zg 5 rfl (AS aR (fun aT aU=>?_) (fun aT aV=>?_))
   ·refine zg 6 rfl (JS.drop 1 V rfl fun aW=>?_);obtain rfl:=oi aU;exact AN func181 rfl rfl (Z ab rfl ⟨rfl,(by first | rfl | simp | (simp [Value.cells]))⟩ aW)
   ·refine zg 6 rfl (JS.drop 1 V rfl fun aX=>?_);obtain rfl:=oi aV;exact AN func181 rfl rfl (Z ab rfl ⟨rfl,(by first | rfl | simp | (simp [Value.cells]))⟩ aX)
 ·refine AS aN (fun aY aZ=>?_) (fun aY a0=>?_)
  ·obtain⟨bo,a1,a2⟩:=bs aZ;refine zg 6 rfl (Cq [bX K O 133,bX U #[iV 0] 3] [(0,.slice (Bc K) Y W),(3,(fV 134)),(8,iV 0),(9,iV 0),(11,pV U 0),(12,iV ar),(13,iV aC),(14,iV aK)] (fun bp ai a3=>?_) (fun a4=>?_))
   ·obtain⟨a5,a6,a7⟩:=bs a2;refine zg 6 rfl (Jp 1 0 rfl rfl a3 fun a8=>?_);refine BP 1 (Vd (hW.Ag ai) a6) rfl rfl (AX func197 rfl) a8 rfl ?_;rintro _ bq _ a9 ⟨rfl,rfl⟩ ba;refine EM 1 rfl ba fun bb=>Cg (S':= [[],[(U,.cells #[iV a5.2] 3 (0,0))],[(K,.cells O 133 (0,0))]]) rfl bb fun bc=>zg 2 rfl (JS.swap 1 2 rfl rfl rfl bc fun bd=>?_);obtain rfl:=oi a7;exact ah (ai.Ab a9) bd rfl
   ·refine AS a1 (fun be bf=>?_) (fun be bg=>?_)
    ·refine zg 5 rfl ?_;cases bf
    ·refine JL.skip ?_;obtain rfl:=oi bg;exact a4 Aq ag rfl
  ·refine JL.skip ?_;obtain rfl:=oi a0;exact ah Aq ag rfl
end Pal
