/- ToothHonest answers true for every list of numbers, on every schedule; without a condition beyond those of the given row and card. Part 3 of 8. -/
import Derived.Test.YtboibffcmhheiaaGreatDoorHoa
import Derived.Test.YtboibffcmhheiaaGreatDoorHob
import Derived.Test.YtboibffcmhheiaaGreatDoorRows
import Derived.Test.YtboibffcmhheiaaGreatDoorChecked
import Derived.Conc.LeavingOf
import Derived.Conc.Holds
import Derived.Carry
import Derived.ChangeSame
import Derived.ChangeVars
import Derived.JoinedOf
import Derived.RowKit
import Derived.LaidLaws
import Derived.LaidHandle
import Derived.Stop.Joined
import Derived.Test.YtboibffcmhheiaaGreatDoorProg
set_option linter.all false
set_option maxRecDepth 100000
namespace Pal
open Go Go.Conc
section
variable {P:Program}(J:Judge P)(Q:Goroutine→St→Prop)(b:Frame)(ds:List Deferred)(ops:Array Oper)(k:List Item)(cs:List Frame)(X D:Nat→Bool)
def JB:Nat→Array Bool→Array Value→St→Prop
 | 0,listed,T,s=>Region.ready .any ops listed= []∧J.ok Q (G (fr b T ds (.inRegion ops []::k)) cs) s
 | fuel+1,listed,T,s=>
  Region.ready .any ops listed≠ []∧s.q=false∧∀i∈Region.ready .any ops listed,∀o,ops[i]? =some o→(∀c,o.op≠ .defer c)∧
   (Region.wanted o (yielded ops T)=false→JB fuel (AY listed i) (BH T o.dst undef) s)∧
   (Region.wanted o (yielded ops T)=true→X i=true→lp P (execOp (Ba T) o) s (fun nx s'=>match nx with
    | .value v=>JB fuel (AY listed i) (BH T o.dst v) s'
    | .skip=>JB fuel (AY listed i) (BH T o.dst undef) s'
    | _=>False) (fun _ _=>False))∧
   (Region.wanted o (yielded ops T)=true→X i=false→lp P (execOp (Ba T) o) (A9 D s) (fun nx s'=>match nx with
    | .value v=>JB fuel (AY listed i) (BH T o.dst v) (BD D s s')
    | .skip=>JB fuel (AY listed i) (BH T o.dst undef) (BD D s s')
    | _=>False) (fun _ _=>False))
variable {J Q b ds ops k cs X D}
theorem JB.sound(W:b.kind≠ .early):∀(fuel t:Nat) (listed:Array Bool) (T:Array Value) (s:St),JB J Q b ds ops k cs X D fuel listed T s→
  J.ok Q (G (fr b T ds (.inRegion ops (Region.linearise.go .any ops fuel t listed [])::k)) cs) s:=by
 intro fuel
 induction fuel with
 | zero=>intro t listed T s h;simpa [Region.linearise.go] using h.2
 | succ fuel O=>
  intro t listed T s h;obtain⟨ae,ag,h⟩:=h;obtain⟨i,hi⟩:∃i,(Region.ready .any ops listed)[t % (Region.ready .any ops listed).length]? =some i:=by
   have:0<(Region.ready .any ops listed).length:=List.length_pos_iff.2 ae;exact⟨_,List.getElem?_eq_getElem (Nat.mod_lt _ this)⟩
  have Z:=List.mem_of_getElem? hi;have hgo:Region.linearise.go .any ops (fuel+1) t listed []=i::Region.linearise.go .any ops fuel (t / (Region.ready .any ops listed).length) (AY listed i) []:=by
   simp only [Region.linearise.go];change (match(Region.ready .any ops listed)[t % (Region.ready .any ops listed).length]? with
    | some i=>Region.linearise.go .any ops fuel (t / (Region.ready .any ops listed).length) (listed.setIfInBounds i true) [i]
    | none=> [].reverse)=_
   rw [hi];simp only;rw [linearise_go_acc];rfl
  rw [hgo];obtain⟨_,o,U,_⟩:=mem_ready.1 Z;obtain⟨aa,ah,ai,aj⟩:=h i Z o U;cases hw:Region.wanted o (yielded ops T) with
  | false=>exact Judge.unwanted U hw (O _ _ _ _ (ah hw))
  | true=>
   cases ab:X i with
   | true=>
    refine Judge.oper U hw W (.inr aa) (Ce _ (ai hw ab) ?_ (fun _ _ h=>h.elim));intro nx s' K;cases nx with
    | value v=>exact O _ _ _ _ K
    | skip=>exact O _ _ _ _ K
    | _=>exact K.elim
   | false=>
    refine Judge.MM D U hw W aa ag (Ce _ (aj hw ab) ?_ (fun _ _ h=>h));intro nx s' K;cases nx with
    | value v=>exact O _ _ _ _ K
    | skip=>exact O _ _ _ _ K
    | _=>exact K.elim
def waitAll(ops:Array Oper)(X:Nat→Bool)(i:Nat):Bool:=(List.range ops.size).all fun j=> !X j || waits ops ops.size j i
theorem JB.take{i:Nat}{oi:Oper}{w pure:Bool}{v:Value}(hi:ops[i]? =some oi)(aW:X i=false)(aN:(pure || waitAll ops X i)=true)(aX:Region.noSelect ops=true)(aY:∀c,oi.op≠ .defer c):
  ∀(fuel:Nat) (listed:Array Bool) (T:Array Value) (s:St),Ft ops listed i oi=true→Ew ops listed=true→listed.size=ops.size→i∈Region.ready .any ops listed→s.q=false→Region.wanted oi (yielded ops T)=w→
   (w=true→∀s',s'.q=false→(pure=false→∀x o,(A9 D s).E x=some o→s'.E x=some o)→Yl P oi (Ba T) s' v)→
   JB J Q b ds ops k cs X D fuel (AY listed i) (BH T oi.dst (if w then v else undef)) s→JB J Q b ds ops k cs X D (fuel+1) listed T s:=by
 have ae:∀(j:Nat) (Z:Oper),ops[j]? =some Z→∀cs b,Z.op≠Op.select cs b:=fun j Z h cs b=>Region.noSelect_spec aX j Z cs b h;intro fuel
 induction fuel with
 | zero=>?_
 | succ fuel ak=>?_
 all_goals
  intro listed T s aO aP al aB am hw ag h;refine⟨fun e=>(by rw [e] at aB;cases aB),am,fun j aQ Z O=>?_⟩;by_cases an:j=i
  ·subst an;obtain rfl:Z=oi:=by rw [hi] at O;exact(Option.some.inj O).symm
   refine⟨aY,fun aE=>?_,fun ah K=>?_,fun ah K=>?_⟩
   ·rw [aE] at hw;subst hw;exact h
   ·rw [aW] at K;cases K
   ·rw [ah] at hw;subst hw;refine Ce _ (ag rfl (A9 D s) am fun _ _ _ h=>h).out ?_ (fun _ _ h=>h);rintro nx s' ⟨rfl,rfl⟩;rw [Hf];exact h
  ·
   have aR:j∈Region.ready .any ops (AY listed i):=ready_mono aQ an;obtain⟨ai,U,aS,aF⟩:=mem_ready.1 aQ;obtain rfl:U=Z:=by rw [O] at aS;exact(Option.some.inj aS).symm
   have aG:=(mem_ready.1 aB).1;have aZ:(U.after.any fun e=>Region.binds .any e&&e.on==i)=false:=by
    rw [Array.any_eq_false];intro e he K;simp only [Bool.and_eq_true,beq_iff_eq] at K;have:=aF _ (Array.getElem_mem he) K.1;rw [K.2] at this;have aj:listed.getD i true=listed.getD i false∨listed.size≤i:=by
     rcases Nat.lt_or_ge i listed.size with q | q
     ·left;simp [Array.getD_eq_getD_getElem?,q]
     ·exact .inr q
    rcases aj with aj | aj
    ·rw [aG,this] at aj;cases aj
    ·rw [Array.getD_eq_getD_getElem?,Array.getElem?_eq_none aj] at this;simp at this
   have a0:oi.apart ops U=true:=by
    have aH:j<ops.size:=(Array.getElem?_eq_some_iff.1 O).1;have:=List.all_eq_true.1 aO j (List.mem_range.2 aH);simp only [Bool.or_eq_true,beq_iff_eq] at this;rcases this with(q | q) | q
    ·exact absurd q an
    ·rw [ai] at q;cases q
    ·rw [O] at q;simp only [Bool.or_eq_true] at q;rw [aZ] at q;exact q.resolve_left (by simp)
   obtain⟨a1,ao,ap⟩:=Oper.apart_spec a0;obtain⟨p1,p2⟩:=Er (ops:=ops) (T:=T) (v:=if w then v else undef) (ae j U O) a1
   first
    | exact absurd aR (by rw [h.1];simp)
    | (
     obtain⟨bc,_,h⟩:=h
     obtain⟨a2,aE,a3,a4⟩:=h j aR U O
     have aq:AY (AY listed i) j=AY (AY listed j) i:=by
      unfold AY;exact Array.setIfInBounds_comm _ _ (Ne.symm an)
     have ar:i∈Region.ready .any ops (AY listed j):=ready_mono aB (Ne.symm an)
     have au:Ft ops (AY listed j) i oi=true:=by
      refine List.all_eq_true.2 fun x K=>?_
      have:=List.all_eq_true.1 aO x K
      simp only [Bool.or_eq_true,beq_iff_eq] at this ⊢
      rcases this with(q | q) | q
      ·exact .inl (.inl q)
      ·left;right
       by_cases e:j=x
       ·subst e;rw [ai] at q;cases q
       ·rw [AY,getD_set_ne true e];exact q
      ·exact .inr q
     have av:(AY listed j).size=ops.size:=by unfold AY;simpa using al
     have aw:Ew ops (AY listed j)=true:=by
      refine List.all_eq_true.2 fun x K=>?_
      cases aI:ops[x]? with
      | none=>simp
      | some a5=>
       simp only [Bool.or_eq_true,Bool.not_eq_true']
       by_cases e:j=x
       ·subst e
        obtain rfl:a5=U:=by rw [O] at aI;exact(Option.some.inj aI).symm
        right
        refine Array.all_eq_true'.2 fun e he=>?_
        cases hb:Region.binds .any e with
        | false=>simp
        | true=>
         have:=aF e he hb
         by_cases ay:j=e.on
         ·rw [← ay] at this
          have aJ:j<listed.size:=by rw [al];exact(Array.getElem?_eq_some_iff.1 O).1
          simp [Array.getD_eq_getD_getElem?,aJ] at this ai
          rw [ai] at this;cases this
         ·rw [AY,getD_set_ne false ay];simpa using this
       ·cases aT:(AY listed j).getD x false with
        | false=>exact .inl rfl
        | true=>
         right
         have a6:listed.getD x false=true:=by rw [AY,getD_set_ne false e] at aT;exact aT
         refine Array.all_eq_true'.2 fun aK he=>?_
         cases hb:Region.binds .any aK with
         | false=>simp
         | true=>
          have:=Jy aP aI a6 aK he hb
          by_cases ay:j=aK.on
          ·rw [← ay] at this
           have aJ:j<listed.size:=by rw [al];exact(Array.getElem?_eq_some_iff.1 O).1
           simp [Array.getD_eq_getD_getElem?,aJ] at this ai
           rw [ai] at this;cases this
          ·rw [AY,getD_set_ne false ay];simpa using this
     refine⟨a2,fun a7=>?_,fun aL aC=>?_,fun aL aC=>?_⟩
     ·have:=aE (by rw [p2];exact a7)
      rw [aq,Fg ao] at this
      obtain⟨q1,q2⟩:=Er (ops:=ops) (T:=T) (d:=U.dst) (v:=undef) (o:=oi) (ae i oi hi) ap
      exact ak _ _ _ au aw av ar am (by rw [q2];exact hw) (fun W s' a8 aD=>by unfold Yl;rw [q1];exact(ag W s' a8 aD).out) this
     ·
      have a9:pure=true:=by
       cases ba:pure with
       | true=>rfl
       | false=>
        exfalso
        rw [ba,Bool.false_or] at aN
        have aH:j<ops.size:=(Array.getElem?_eq_some_iff.1 O).1
        have ah:=List.all_eq_true.1 aN j (List.mem_range.2 aH)
        rw [aC] at ah
        simp only [Bool.not_true,Bool.false_or] at ah
        rcases K7 aP _ j U O (fun e he hb=>aF e he hb) ah with q | ⟨x,q1,q2⟩
        ·have bb:i<listed.size:=by rw [al];exact(Array.getElem?_eq_some_iff.1 hi).1
         simp [Array.getD_eq_getD_getElem?,bb] at q aG
         rw [aG] at q;cases q
        ·have:¬x<listed.size:=by rw [al];intro K;simp [K] at q1
         simp [Array.getD_eq_getD_getElem?,this] at q2
      have az:=Jg _ (a3 (by rw [p2];exact aL) aC)
      rw [p1] at az
      refine Ce _ az ?_ (fun _ _ h=>h)
      rintro nx s' ⟨K,aD,aM⟩
      have aA:s'.q=false:=aM.trans am
      have aU:pure=false→∀{α:Prop},α:=fun e=>by rw [a9] at e;cases e
      cases nx with
      | value u=>
       simp only at K ⊢
       rw [aq,Fg ao] at K
       obtain⟨q1,q2⟩:=Er (ops:=ops) (T:=T) (d:=U.dst) (v:=u) (o:=oi) (ae i oi hi) ap
       exact ak _ _ _ au aw av ar aA (by rw [q2];exact hw) (fun W s2 aa ab=>by unfold Yl;rw [q1];exact(ag W s2 aa (fun e=>aU e)).out) K
      | skip=>
       simp only at K ⊢
       rw [aq,Fg ao] at K
       obtain⟨q1,q2⟩:=Er (ops:=ops) (T:=T) (d:=U.dst) (v:=undef) (o:=oi) (ae i oi hi) ap
       exact ak _ _ _ au aw av ar aA (by rw [q2];exact hw) (fun W s2 aa ab=>by unfold Yl;rw [q1];exact(ag W s2 aa (fun e=>aU e)).out) K
      | _=>exact K.elim
     ·have az:=Jg _ (a4 (by rw [p2];exact aL) aC)
      rw [p1] at az
      refine Ce _ az ?_ (fun _ _ h=>h)
      rintro nx s' ⟨K,aD,aM⟩
      have aV:=Lf (D:=D) aD
      have aA:(BD D s s').q=false:=by show s'.q=false;rw [aM];exact am
      cases nx with
      | value u=>
       simp only at K ⊢
       rw [aq,Fg ao] at K
       obtain⟨q1,q2⟩:=Er (ops:=ops) (T:=T) (d:=U.dst) (v:=u) (o:=oi) (ae i oi hi) ap
       exact ak _ _ _ au aw av ar aA (by rw [q2];exact hw) (fun W s2 aa ab=>by unfold Yl;rw [q1];exact(ag W s2 aa (fun e=>by rw [aV] at ab;exact ab e)).out) K
      | skip=>
       simp only at K ⊢
       rw [aq,Fg ao] at K
       obtain⟨q1,q2⟩:=Er (ops:=ops) (T:=T) (d:=U.dst) (v:=undef) (o:=oi) (ae i oi hi) ap
       exact ak _ _ _ au aw av ar aA (by rw [q2];exact hw) (fun W s2 aa ab=>by unfold Yl;rw [q1];exact(ag W s2 aa (fun e=>by rw [aV] at ab;exact ab e)).out) K
      | _=>exact K.elim)
end
section
variable {P:Program}(J:Judge P)(Q:Goroutine→St→Prop)(b:Frame)(n:Nat)(ds:List Deferred)(ops:Array Oper)(k:List Item)(cs:List Frame)(X D:Nat→Bool)
def Fb(fuel:Nat)(listed:Array Bool)(L:Env)(s:St):Prop:=∀T,Has n L T→JB J Q b ds ops k cs X D fuel listed T s
end
def Jd(ops:Array Oper)(listed:Array Bool)(xs:List Nat)(pure:Bool)(i:Nat):Bool:=match ops[i]? with
 | some oi=> !AD xs i&&(pure || waitAll ops (AD xs) i)&&Region.noSelect ops&& !Ch oi.op&&Ft ops listed i oi&&Ew ops listed&&listed.size==ops.size&&(Region.ready .any ops listed).contains i
 | none=>false
section
variable {P:Program}{J:Judge P}{Q:Goroutine→St→Prop}{b:Frame}{n:Nat}{ds:List Deferred}{ops:Array Oper}{k:List Item}{cs:List Frame}{fuel:Nat}{X D:Nat→Bool}{listed:Array Bool}{L:Env}{s:St}{E H:LH}{S:List Seg}{xl bks:List Nat}
variable {d:Option Tmp}{x y:Operand}{t u ty e:TypeId}{p:String}{af:Array Edge}{g:Option (Nat×Bool)}{v:Value}{i:Nat}{kd:IntKind}
theorem JB.draw(xl bks:List Nat){id:Nat}(hm:P.follows .mixedOrders=true)(K:(b.kind != .early)=true)
  (h:Fb J Q b n ds ops k cs (AD xl) (AD bks) ops.size (Array.replicate ops.size false) L (Ap E H S)):JL J Q b n L ds (.code (.region id ops true)::k) cs (Ap E H S):=
 JL.draw rfl hm fun t T O=>JB.sound (by simpa using K) ops.size t _ T _ (h T O)
theorem JB.val{oi:Oper}(i:Nat)(pure:Bool)(hi:ops[i]? =some oi)(K:Jd ops listed xl pure i=true)(W:s.q=false)
  (hw:AT L ops oi=some true) (Z:A6 n oi.dst=true) (aa:∀ρ,CJ L ρ→∀s':St,(pure=false→∀x o,(A9 D s).E x=some o→s'.E x=some o)→Yl P oi ρ s' v)
  (h:Fb J Q b n ds ops k cs (AD xl) D fuel (AY listed i) (AH L oi.dst v) s):Fb J Q b n ds ops k cs (AD xl) D (fuel+1) listed L s:=fun T O=>by
 simp only [Jd,hi,Bool.and_eq_true] at K
 obtain⟨⟨⟨⟨⟨⟨⟨ab,ae⟩,ag⟩,U⟩,ah⟩,ai⟩,aj⟩,ak⟩:=K
 refine JB.take (w:=true) (v:=v) (pure:=pure) hi (by simpa using ab) ae ag (fun c K=>by rw [K] at U;simp [Ch] at U) fuel listed T s ah ai (by simpa using aj) (by simpa using ak) W (BS O hw) (fun _ s' am al=>aa _ O.DR s' al) ?_
 exact h _ (O.put Z v)
theorem JB.fin(K:Region.ready .any ops listed= [])(h:JL J Q b n L ds k cs s):Fb J Q b n ds ops k cs X D 0 listed L s:=fun T O=>⟨K,JL.done h T O⟩
theorem JB.store{K off:Nat}{c:Array Value}(i j:Nat)(W:Region.ready .any ops listed= [i])(ae:AD xl i=true)(ag:ops[i]? =some ⟨d,.store t x y,ty,p,af,g⟩)(hw:AT L ops ⟨d,.store t x y,ty,p,af,g⟩=some true)(ah:A6 n d=true)(ai:Az E H S)
  (aj:ev L x=some (.pointer (some ⟨K,off,none⟩))) (ak:ev L y=some v) (al:Bg P t=some v.cells.size) (am:∀u∈v.cells.toList,Bx u=true) (Z:S[j]? =some [(K,.cells c e (0,0))]) (hle:off+v.cells.size≤c.size)
  (h:Az E H (S.set j [(K,.cells (AN c off v.cells.toList) e (0,0))])→Fb J Q b n ds ops k cs (AD xl) D fuel (AY listed i) (AH L d undef) (Ap E H (S.set j [(K,.cells (AN c off v.cells.toList) e (0,0))]))):
  Fb J Q b n ds ops k cs (AD xl) D (fuel+1) listed L (Ap E H S):=fun T O=>by
 refine⟨by rw [W];simp,rfl,fun aw U o' aa=>?_⟩
 rw [W] at U
 simp at U
 subst U
 obtain rfl:o'=⟨d,.store t x y,ty,p,af,g⟩:=by rw [ag] at aa;exact(Option.some.inj aa).symm
 have an:=BS O hw;refine⟨fun c ao=>(by cases ao),fun e=>?_,fun _ _=>?_,fun _ e=>?_⟩
 ·rw [an] at e;cases e
 ·obtain⟨ap,aq⟩:=Ec ai Z;rw [ap];show lp P (do Instr.storeAt t (Ba T x) (Ba T y);pure Next.skip) _ _ _
  rw [O.ev aj,O.ev ak];refine AF _ _ ?_;unfold Instr.storeAt;simp only [Instr.sureAddr,bind,Sem.bind,pure];refine K9 (pl:=(S.set j []).flatten.length) al am aq (c:=c) (e:=e) (by simp) hle fun ab=>?_;have ar:((S.set j []).flatten++ [(K,Obj.cells c e (0,0))]).set (S.set j []).flatten.length (K,.cells (AN c off v.cells.toList) e (0,0))=(S.set j []).flatten++ [(K,.cells (AN c off v.cells.toList) e (0,0))]:=FN _ _ _ _;rw [ar] at ab ⊢;obtain⟨au,av⟩:=Fp Z ab;rw [au];exact h av _ (O.put ah undef)
 ·rw [ae] at e;cases e
end
end Pal
namespace Pal
open Go Go.Conc
theorem Pk{E H:LH}{S:List Seg}{bks:List Nat}{K o:Nat}{l ws:List Value}{e:TypeId}{f:Nat×Nat}{s':St}{w:Value}(j:Nat)(O:Az E H S)(U:S[j]? =some [(K,.cells (l++ws).toArray e f)])(W:AD bks K=true)(hs:∀x o,(A9 (AD bks) (Ap E H S)).E x=some o→s'.E x=some o)(Z:ws[o]? =some w):s'.cell? ⟨K,l.length+o,none⟩=some w:=by
 have:=JM j O U W hs o w Z
 rwa [Bb rfl] at this
section
variable {P:Program}{E H:LH}{B:List (Nat×Obj)}{t e ty:TypeId}
theorem On{ats:Array TypeId}{a:Option Addr}{l K O m cx:Nat}{ax:Option Addr}{xs ys:List Value}{z:Value}{Q:Value→St→Prop}{X:Halt→St→Prop}
  (an:ats[0]? =some t) {t1 ao:TypeId} (ap:ats[1]? =some t1) (aq:P.underlying t1=some (.slice ao)) (ht:P.underlying t=some (.slice e)) (ar:Bg P e=some K) (hb:CU P e=some O) (au:zeroOf P e=some z) (av:z.cells.size=K)
  (aw:Nd E H B) (ae:D4 (mk E H B) (.slice a l l) K xs)
  (Z:D4 (mk E H B) (.slice ax m cx) K ys) (aG:∀w∈ys,Bx w=true) (aH:0<O) (aI:l+m≤2 ^ 40) (ay:O≤64)
  (al:m=0→Q (.slice a (l+m) l) (mk E H B))
  (az:∀r aa ag,l+m≤ag→aa.size=ag*K→aa.toList.take ((l+m)*K)=xs++ys→Nd E H (B++ [(r,.cells aa e (0,0))])→Q (.slice (some ⟨r,0,none⟩) (l+m) ag) (mk E H (B++ [(r,.cells aa e (0,0))]))):
  lp P (Builtin.append_ ats ty #[.slice a l l,.slice ax m cx]) (mk E H B) Q X:=by
 unfold Builtin.append_;simp only [an,ap,List.getElem?_toArray,List.getElem?_cons_zero,List.getElem?_cons_succ];refine AF _ _ (Cc ht ?_);refine AF _ _ (C4 ar ?_);refine AF _ _ (Cc aq ?_);simp only [EI,Bool.false_eq_true,if_false,Builtin.lenOf,Bool.not_false,if_true];have ab:ys.length=m*K:=by
  cases ax with
  | none=>obtain⟨U,W⟩:=Z;subst U W;simp
  | some ad=>exact Z.2.1
 have ah:xs.length=l*K:=by
  cases a with
  | none=>obtain⟨U,W⟩:=ae;subst U W;simp
  | some ad=>exact ae.2.1
 obtain⟨c,aJ⟩:∃c,c=l:=⟨_,rfl⟩;split
 ·rename_i aK;have hm:m=0:=by omega
  have aA:ys= []:=List.eq_nil_of_length_eq_zero (by rw [ab,hm];simp);refine AF _ _ (Gw ⟨ax,cx,rfl⟩ Z ?_);subst aA;cases a with
  | none=>exact al hm
  | some ad=>exact al hm
 ·rename_i aL;have U:¬(((l+m:Nat):Int)>IntKind.i64.max∧(False∨O=0)):=by rintro⟨_,h | h⟩ <;> omega
  have W:¬(Builtin.nextslicecap (l+m) l*O>2 ^ 48):=by
   have:=Li (need:=l+m) (old:=l) (by omega);have aM:Builtin.nextslicecap (l+m) l*O≤(2*(l+m)+768)*64:=Nat.mul_le_mul this ay;omega
  obtain⟨inf,ai,aj⟩:=H8 hb;refine AF _ _ (FG ai ?_);rw [aj,if_neg U];refine AF _ _ (FG ai ?_);rw [aj,if_neg W];refine AF _ _ ?_;simp only [choose,lp,Question.forced,Bool.false_eq_true,if_false];refine⟨rfl,fun aB=>?_⟩;generalize aC:(Question.appendCap (l+m) l e).cut aB=ak;have aD:l+m≤ak:=by rw [← aC];simp [Question.cut]
  refine AF _ _ (FG ai ?_);rw [aj];have aE:∀{α:Type} {f:Unit→Sem α} {Q:α→St→Prop},lp P (f ()) (mk E H B) Q X→lp P (askRoom (ak*O)>>=f) (mk E H B) Q X:=by
   intro α f Q am;refine AF _ _ ?_;unfold askRoom;split
   ·exact⟨.inl ⟨rfl,rfl⟩,am⟩
   ·exact am
  refine aE ?_;refine AF _ _ (Gw ⟨a,l,rfl⟩ ae ?_);refine AF _ _ (Gw ⟨ax,cx,rfl⟩ Z ?_);refine AF _ _ (DY au ?_);refine AF _ _ (EK aw fun r aF=>?_);refine az r _ ak aD ?_ ?_ aF
  ·simp only [Array.size_append,List.size_toArray,KS,av,ah,ab];rw [← Nat.add_mul,← Nat.add_mul];congr 1;omega
  ·simp only [Array.toList_append];rw [List.take_append_of_le_length (by simp [ah,ab,Nat.add_mul])];rw [List.take_of_length_le (by simp [ah,ab,Nat.add_mul])]
end
theorem Aq.spot{α:Type}{pp:Rp α}{E:LH}{a:Option Addr}{c:Nat}{xs:List α}(h:Aq pp E a c xs):∀ad,a=some ad→ad.spot=none:=fun ad K=>by
 rcases h.2 with⟨_,h⟩ | ⟨O,off,h,_⟩
 ·exact h ad K
 ·rw [h] at K;cases K;rfl
theorem Aq.full{α:Type}{pp:Rp α}{E:LH}{a:Option Addr}{c:Nat}{xs:List α}(h:Aq pp E a c xs):Aq pp E a xs.length xs:=⟨Nat.le_refl _,h.2⟩
theorem Aq.Mx{α:Type}{pp:Rp α}{E H:LH}{B:List (Nat×Obj)}{a:Option Addr}{c:Nat}{ys:List α}(aa:Aq pp E a c ys):
  ∃K:List (List Value),K.length=ys.length∧(∀(i:Nat) x ws,ys[i]? =some x→K[i]? =some ws→pp.r E ws x)∧D4 (mk E H B) (.slice a ys.length c) pp.n K.flatten∧∀w∈K.flatten,Bx w=true:=by
 obtain⟨K,U,Z,W⟩:=aa.rows;have ab:=FK U Z;refine⟨K,U,Z,?_,fun w hw=>?_⟩
 ·rcases W with⟨W,ae⟩ | ⟨al,off,rfl,W⟩
  ·subst W;have:K= []:=List.eq_nil_of_length_eq_zero U;subst this;cases a with
   | none=>exact⟨rfl,rfl⟩
   | some ad=>exact⟨ae ad rfl,by simp,Nat.zero_le _,fun q w O=>by simp at O⟩
  ·refine⟨rfl,by rw [H2 ab,U],aa.1,fun q w O=>?_⟩;obtain⟨q1,m,ws,ag,ah,ai⟩:=Jw ab O;have:=(W q1 ws ag).cell (H:=H) (B:=B) ah;subst ai;rw [← Nat.add_assoc];exact this
 ·obtain⟨us,aj,hw⟩:=List.mem_flatten.1 hw;obtain⟨q,O⟩:=List.mem_iff_getElem?.1 aj;have ak:q<ys.length:=by rw [← U];exact(List.getElem?_eq_some_iff.1 O).1
  exact pp.one (Z q _ us (List.getElem?_eq_getElem ak) O) w hw
section
variable {P:Program}{J:Judge P}{Q:Goroutine→St→Prop}{b:Frame}{n:Nat}{ds:List Deferred}{ops:Array Oper}{k:List Item}{cs:List Frame}{L:Env}{s:St}{E E' H:LH}{S:List Seg}
variable {d:Option Tmp}{x y z1:Operand}{t u ty e:TypeId}{p:String}{af:Array Edge}{g:Option (Nat×Bool)}{v:Value}{i:Nat}{rest:List Nat}{kd:IntKind}{ρ:Operand→Value}
theorem Yl.QX{a:Option Addr}{l c K:Nat}(O:∀ad,a=some ad→ad.spot=none)(U:l≤c)(ht:P.underlying t=some (.slice e))(W:Bg P e=some K)(Z:ρ x= .slice a l c)(aa:ρ y=iV (l:Int))(ab:ρ z1=iV (l:Int)):
  Yl P ⟨d,.slice t x none (some y) (some z1),ty,p,af,g⟩ ρ s (.slice a l l):=by
 have h:=Yl.slice (P:=P) (s:=s) (d:=d) (ty:=ty) (p:=p) (af:=af) (g:=g) (olo:=none) (ohi:=some y) (omx:=some z1) (lo:=0) (hi:=l) (mx:=l) ht W Z ab aa rfl U (Nat.le_refl _) (Nat.zero_le _);have ae:(if l=0 then a else a.map (·.add (0*K)))=a:=by
  split
  ·rfl
  ·cases a with
   | none=>rfl
   | some ad=>
    have:=O ad rfl;simp only [Option.map_some,Nat.zero_mul];rw [Bb this];obtain⟨b,o,sp⟩:=ad;simp only at this;subst this;simp
 rw [ae] at h;simpa using h
theorem JS.Re{α:Type}{pp:Rp α}{t1:TypeId}{W c cx:Nat}{a ax:Option Addr}{xs ys Z:List α}{ats:Array TypeId}{z:Value}(U:Cv xs ys=some Z)
  (ak:ops[i]? =some ⟨d,.call ⟨.builtin .append,#[x,y],ats⟩,ty,p,af,g⟩) (hw:AT L ops ⟨d,.call ⟨.builtin .append,#[x,y],ats⟩,ty,p,af,g⟩=some true) (al:BJ b n ⟨d,.call ⟨.builtin .append,#[x,y],ats⟩,ty,p,af,g⟩=true)
  (am:ev L x=some (.slice a xs.length xs.length)) (an:ev L y=some (.slice ax ys.length cx)) (ao:ats[0]? =some t) (ap:ats[1]? =some t1) (ht:P.underlying t=some (.slice e)) (aq:P.underlying t1=some (.slice e)) (ar:Bg P e=some pp.n) (hb:CU P e=some W) (au:zeroOf P e=some z) (av:z.cells.size=pp.n)
  (aw:0<W) (ay:W≤64) (aa:Aq pp E a c xs) (az:Aq pp E ax cx ys) (ab:Az E H S)
  (h:∀E' ae K,Le E E'→Aq pp E' ae K Z→Az E' H (S++ [[]])→JL J Q b n (AH L d (.slice ae Z.length K)) ds (.inRegion ops rest::k) cs (Ap E' H (S++ [[]]))):
  JL J Q b n L ds (.inRegion ops (i::rest)::k) cs (Ap E H S):=by
 unfold Cv at U;split at U
 rotate_left
 ·cases U
 rename_i aA;cases U;obtain⟨wss,ag,aB,aC,aS⟩:=Aq.Mx (H:=H) (B:=S.flatten) aa.full;obtain⟨aD,aE,aF,aG,aH⟩:=Aq.Mx (H:=H) (B:=S.flatten) az;have hlen:(xs++ys).length=xs.length+ys.length:=by simp
 show JL J Q b n L ds (.inRegion ops (i::rest)::k) cs (mk E H S.flatten);refine JL.op ak hw al fun ρ ah=>?_;rw [HZ,ah x _ am,ah y _ an];refine AF _ _ (On ao ap aq ht ar hb au av ab aC aG aH aw aA ay ?_ ?_)
 ·intro hm;have aI:ys= []:=List.eq_nil_of_length_eq_zero hm;subst aI;have aJ:Az E H (S++ [[]]):=by unfold Az at*;rw [Es,List.append_nil];exact ab
  have aK:mk E H S.flatten=Ap E H (S++ [[]]):=by unfold Ap;rw [Es,List.append_nil]
  rw [aK];have:=h E a xs.length (Le.refl _) (by rw [List.append_nil];exact aa.full) aJ;rw [hlen] at this;exact this
 ·intro r O K aL aM aN aO;have aP:OL e pp E (some ⟨r,0,none⟩) K [(r,.cells O e (0,0))] (xs++ys):=
   ⟨wss++aD,.inr ⟨r,O,rfl,rfl,aM,by rw [hlen];exact aL,by rw [hlen,List.flatten_append];exact aN.symm⟩,by simp [ag,aE],JC ag aB aF⟩
  have ai:=CQ (S:=S) (seg:= [(r,.cells O e (0,0))]) aO;show JL J Q b n _ ds _ cs (mk E H (S.flatten++ [(r,.cells O e (0,0))]));rw [ai.1];refine JS.BC S.length aP ai.2 (by simp) fun E' hle aQ aj=>?_;have aR:(S++ [[(r,Obj.cells O e (0,0))]]).set S.length []=S++ [[]]:=FN _ _ _ _;rw [aR] at aj ⊢;have:=h E' (some ⟨r,0,none⟩) K hle aQ aj;rw [hlen] at this;exact this
end
end Pal
namespace Pal
open Go Go.Conc
open Go.ConcN (sumTo upd sumTo_upd upd_ne upd_same)
def Hl(P:Program)(R:Value→St→Prop):GP:=fun g s=>
 g.status= .running∧∃v,R v s∧∀w,stepG P true g w= .ended (.done v) w #[]
section
variable {P:Program}{R:Value→St→Prop}{J:Judge P}{n:Nat}{L:Env}{s:St}{b:Frame}
theorem JO.end{fn:Func}{t:Tmp}{v:Value}(K:b.kind= .normal)(hi:P.inits.idxOf? b.fn=none)(O:P.funcs[b.fn]? =some fn)(U:fn.results= #[.tmp t])(W:look L t=some v)(Z:R v s):JO J (Hl P R) b n L [] [] s:=fun T aa todo=>by
 refine J.stop ⟨rfl,v,Z,fun w=>?_⟩
 have e:results fn T=Sem.pure v:=by
  have:=aa.at_ t v W;simp only [results,U,Array.mapM_eq_mapM_toList];show Sem.pure (T.getD t undef)=_;rw [this]
 have ab:(results fn T).run P w= .ok v w:=by rw [e];rfl
 have ae:(results fn T).events P w #[]= #[]:=by rw [e];simp [Sem.events_pure']
 simp [G,stepG,unwind,CC,O,ab,ae,doReturn,K,GStep.after,hi,seen_none]
end
section
variable {P:Program}{R:Value→St→Prop}
def HE(P:Program)(R:Value→St→Prop)(K:World)(s₀:St)(v:Value)(w':World):Prop:=
 ∃s,R v s∧Fits s w'∧(∀b o,s₀.E b=some o→s.E b=some o)∧w'.tape=K.tape∧w'.os=K.os∧w'.output=K.output
def Kx(P:Program)(R:Value→St→Prop)(K:World)(s₀:St)(O:Nat)(m:Machine)(t:Trace):Prop:=
 ∃gs w sl q Sh g s,m=crowd gs w sl∧D6 P gs w t q Sh g s∧Hl P R g s∧O=sumTo gs.size q∧(∀b o,s₀.E b=some o→s.E b=some o)∧w.tape=K.tape∧w.os=K.os∧w.output=K.output
theorem PK{ah:World}{s₀:St}(al:Nat)(m:Machine)(t:Trace)(h:Kx P R ah s₀ al m t):
  (∃o w ops,stepT P m=(.ended o w,ops)∧Good P (HE P R ah s₀) m o w (t++ops))∨(∃m' ops am,stepT P m=(.next m',ops)∧am<al∧Kx P R ah s₀ am m' (t++ops)):=by
 obtain⟨gs,w,sl,q,Sh,g,s,rfl,hC,aC,rfl,an,ao,ap,aq⟩:=h;obtain⟨aa,v,ar,au⟩:=aC;have aD:∀x∈gs,awake x:=by
  intro x W;obtain⟨i,hi,rfl⟩:=Array.mem_iff_getElem.1 W;rcases Nat.eq_zero_or_pos i with rfl | ai
  ·have:gs[0]=g:=by simpa [Array.getElem?_eq_getElem hi] using hC.main
   rw [this];exact awake_of (.inl aa)
  ·exact awake_of ((hC.lv.old i _ ai (Array.getElem?_eq_getElem hi)).status.elim .inl fun x=> .inr (.inr x))
 obtain⟨i,x,d,av,hi,W,aw⟩:=crowd_pick (P:=P) (w:=w) (sl:=sl) aD ⟨0,g,hC.main,aa⟩;have ay:=hC.at_ d;have aE:0<gs.size:=(Array.getElem?_eq_some_iff.1 hC.main).1;have aF:∀(a:Nat) (fn:FuncId) (pos:String),MemOp.ofEvents a fn pos #[]= #[]:=fun a fn pos=>by rw [ofEvents_eq];simp
 rcases Nat.eq_zero_or_pos i with rfl | ai
 ·obtain rfl:x=g:=by rw [hC.main] at hi;exact(Option.some.inj hi).symm
  have ab:=runT_many_ended (P:=P) (sl:=av) (i:=0) hi (show stepG P (0==0) x (w.at d)=_ from au (w.at d));rw [aF] at ab;refine .inl ⟨_,_,_,aw.trans ab,v,rfl,⟨s,ar,ay.BK.fits 0 aE,an,ao,ap,aq⟩,?_,?_,⟨fun y K=>?_,rfl⟩,fun j y K O=>?_⟩
  ·simpa using hC.BK.clean
  ·simpa using hC.over
  ·obtain⟨j,O⟩:=List.mem_iff_getElem?.1 K;rw [List.getElem?_drop] at O;exact⟨_,(hC.lv.old (1+j) y (by omega) (by simpa [crowd] using O)).leaves⟩
  ·have Z:=hC.lv.old j y (by omega) K;exact⟨q j,by simp only [Array.append_empty];exact Z.hears w⟩
 ·have Z:=hC.lv.old i x ai hi;have aG:(i==0)=false:=by simp;omega
  have az:i<gs.size:=(Array.getElem?_eq_some_iff.1 hi).1;cases aj:q i with
  | zero=>rw [aj] at Z;rw [Z.1] at W;cases W
  | succ k=>
   rw [aj] at Z;rcases Z with⟨aH,_⟩ | ⟨_,x',es,hm,aI,aJ⟩
   ·rw [aH] at W;cases W
   have aN:sumTo gs.size (upd q i k)+(k+1)=sumTo gs.size q+k:=by
    have:=sumTo_upd q k id az;simpa [aj] using this
   have ab:=runT_crowd_go (P:=P) (sl:=av) (i:=i) hi (by rw [aG];exact aI (w.at d));have ak:((gs.map (woken P x x' (w.at d))).setIfInBounds i x').size=gs.size:=by simp
   have ae:∀op∈MemOp.ofEvents i x.frame.fn x.frame.place es,op.g=i:=fun op U=>by obtain⟨e,_,rfl⟩:=mem_ofEvents U;rfl
   have aA:∀op∈MemOp.ofEvents i x.frame.fn x.frame.place es,op.act.touch? =none:=fun op U=>by obtain⟨e,he,rfl⟩:=mem_ofEvents U;exact touch_mute (hm e he)
   have aK:D6 P ((gs.map (woken P x x' (w.at d))).setIfInBounds i x') (w.at d) (t++MemOp.ofEvents i x.frame.fn x.frame.place es) (upd q i k) Sh g s:=by
    refine⟨?_,⟨fun j y O K=>?_,fun j O=>?_⟩,?_,?_,?_⟩
    ·have aL:i≠0:=by omega
     rw [Array.getElem?_setIfInBounds_ne aL,Array.getElem?_map,hC.main];simp [woken_run aa]
    ·by_cases ag:i=j
     ·subst ag;rw [Array.getElem?_setIfInBounds_self_of_lt (by simpa using az)] at K;obtain rfl:=Option.some.inj K;rw [upd_same,Deaf_own];exact aJ
     ·rw [Array.getElem?_setIfInBounds_ne ag,Array.getElem?_map] at K;obtain⟨z,aM,rfl⟩:=Option.map_eq_some_iff.1 K;have aB:=hC.lv.old j z O aM;rw [woken_quitsD aB,upd_ne q k (Ne.symm ag),Deaf_other t ag _ ae];exact aB
    ·rw [Deaf_other t (g':=i) (by simp at O;omega) _ ae];exact hC.lv.above j (by simpa using O)
    ·rw [ak];exact ay.BK.mute ae aA (fun op U=>by obtain⟨e,he,rfl⟩:=mem_ofEvents U;exact low_mute (hm e he) _) rfl
    ·exact handedOver_app hC.over fun op U=> .inr (aA op U)
    ·rw [Deaf_other t (by omega) _ ae];exact hC.hears
   exact .inr ⟨_,_,_,aw.trans ab,by rw [← ak];rw [ak];omega,_,_,_,_,_,_,_,rfl,aK,⟨aa,v,ar,au⟩,rfl,an,ao,ap,aq⟩
theorem ends{gs:Array Goroutine}{w:World}{sl:Option (Nat×Nat)}{t:Trace}{q:Nat→Nat}{Sh:Nat→Prop}{g:Goroutine}{s:St}(hC:D6 P gs w t q Sh g s)(O:Hl P R g s):
  ∃N last o w' K,runNT P (N+1) (crowd gs w sl) t=(.ended o w',K)∧runN P N (crowd gs w sl)= .next last∧step P last= .ended o w'∧Good P (HE P R w s) last o w' K:=
 run_of_inv Nat.lt_wfRel.wf (Kx P R w s) (Good P (HE P R w s)) PK _ _ _ ⟨gs,w,sl,q,Sh,g,s,rfl,hC,O,rfl,fun _ _ h=>h,rfl,rfl,rfl⟩
theorem OO{m m':Machine}{t K:Trace}{n:Nat}(h:runNT P n m t=(.next m',K)):runN P n m= .next m':=by rw [← runNT_fst P n m t,h]
def F4(W:World):St:=⟨fun b=>W.heap[b]?,fun _=>none,false⟩
theorem PC{W:World}{g:Goroutine}(h:(Cd P).ok (Hl P R) g (F4 W)):
  ∃M last o w' K,runNT P (M+1) (solo g W) #[]=(.ended o w',K)∧runN P M (solo g W)= .next last∧step P last= .ended o w'∧Good P (HE P R W (F4 W)) last o w' K:=by
 have hC:D6 P #[g] W #[] (fun _=>0) (fun _=>False) g (F4 W):=by
  have Z:∀{i:Nat} {a:Touch},touchAt #[] i=some a→False:=fun {i a} h=>by simp [touchAt,Trace.act?] at h
  refine⟨rfl,leavers_one P g,⟨fun i hi=>?_,fun i j hi ab aD=>by simp at hi ab;omega,fun i hi b hb=>hb.elim,fun b hb=>hb.elim,fun said=>?_,by simp,fun i _ b _ x a O=>(Z O).elim,fun i _ b _ x a O=>(Z O).elim⟩,fun i g ae=>by simp [Trace.g?] at ae,rfl⟩
  ·have:i=0:=by simp at hi;exact hi
   subst this;exact⟨fun b o U=>U,fun b o U=>(by cases U),fun b _=>rfl⟩
  ·rintro⟨i,j,_,⟨a,b,ag,_⟩,_⟩;simp [Trace.act?] at ag
 obtain⟨n,gs',w',ah,K,aE,aF,g',s',aa,ai,aj,ak,al,am,an⟩:=h #[g] W none #[] _ _ hC;obtain⟨N,last,o,ao,ap,k1,aq,ar,au⟩:=ends (sl:=ah) ai aj;refine⟨n+N,last,o,ao,ap,?_,?_,ar,?_⟩
 ·rw [solo_eq_crowd,Nat.add_assoc,runNT_add,aa];exact k1
 ·have av:=OO aa;rw [solo_eq_crowd,runN_add,av];exact aq
 ·obtain⟨v,e,⟨s2,aw,ay,az,aA,aB,aC⟩,r⟩:=au;exact⟨v,e,⟨s2,aw,ay,fun b o hb=>az b o (ak b o hb),aA.trans al,aB.trans am,aC.trans an⟩,r⟩
end
end Pal
namespace Pal
open Go Go.Conc
theorem Ps{P:Program}{Q:Goroutine→St→Prop}{E H:LH}{f:FuncId}{fn:Func}{c:Code}{vs:List Value}(U:P.funcs[f]? =some fn)(hb:fn.body=some c)(aa:fn.ntmps=fn.ntmps)(ab:vs.length≤fn.ntmps)
  (h:JL (Cd P) Q (base f) fn.ntmps (DO 0 vs) [] [.code c] [] (Ap E H [[]])):(Cd P).ok Q (G (Frame.enter P f vs.toArray .normal) []) (mk E H []):=by
 have he:Frame.enter P f vs.toArray .normal=fr (base f) (vs.toArray++Array.replicate (fn.ntmps - vs.length) undef) [] [.code c]:=by
  simp [Frame.enter,fr,U,hb,base];rfl
 rw [he];have W:mk E H []=Ap E H [[]]:=by unfold Ap;simp
 rw [W];refine h _ ⟨by simp;omega,fun t v ht=>?_⟩;obtain⟨_,K⟩:=Gx ht;have Z:t<vs.length:=by
  rcases Nat.lt_or_ge t vs.length with O | O
  ·exact O
  ·simp at K;have:=(List.getElem?_eq_some_iff.1 K).1;omega
 rw [Array.getD_eq_getD_getElem?,Array.getElem?_append_left (by simpa using Z)];simp at K;simp [K]
end Pal
namespace Pal
open Go Go.Conc Go.Proofs Go.ChangeShapes Go.WideShapes Go.ChangeAt Go.RowKit
open Go.Proofs.YtboibffcmhheiaaGreatDoor (Rows.laid_errors_errorType)
theorem Tryz.own:ownKnob Tryz.prog.godebug=none:=by kernel_rfl
theorem Tryz.laidOut:laidOutB Tryz.prog=true:=by kernel_rfl
theorem Tryz.RH:Tryz.prog.cellsOf 3=1:=by kernel_rfl
theorem P1{W:World}{a:Addr}{len cap:Nat}{K:List Int}(Z:a.spot=none)(ai:len≤cap)(ae:len≤K.length)(ag:∀i,i<K.length→W.cell? (a.add i)=some (.int .i64 (K.getD i 0))):
  Aq rI (F4 W).E (some a) cap (K.take len)∧(K.take len).length=len:=by
 have ab:(K.take len).length=len:=by simp [Nat.min_eq_left ae]
 refine⟨⟨by omega,.inr ⟨a.block,a.off,?_,fun i x aa=>⟨[iV x],rfl,?_⟩⟩⟩,ab⟩
 ·obtain⟨b,o,s⟩:=a;simp only at Z;subst Z;rfl
 ·have hi:i<len:=by rw [← ab];exact(List.getElem?_eq_some_iff.1 aa).1
  have O:=ag i (by omega);have ah:K.getD i 0=x:=by
   rw [List.getElem?_take_of_lt hi] at aa;rw [List.getD_eq_getElem?_getD,aa];rfl
  rw [ah,Bb Z] at O;unfold World.cell? at O;split at O
  ·rename_i c e f hW;simp only [Option.isSome_none,Bool.false_eq_true,if_false] at O;refine⟨c,e,f,hW,fun j w U=>?_⟩
   match j,U with
   | 0,U=>
    simp at U;subst U;show c[a.off+i*1+0]? =some (.int .i64 x);simpa using O
   | j+1,U=>simp at U
  ·cases O
theorem OE{W:World}{base:Nat}{t e:TypeId}{a:Addr}{len cap:Nat}(ht:Tryz.prog.underlying t=some (.slice e))(h:Value.okWide Tryz.prog W .any base t (.slice (some a) len cap)):a.spot=none∧len≤cap:=by
 simp only [Value.okWide,ht,Cell.okWide,Cell.ok] at h;exact⟨h.2.2.2.1,h.1⟩
theorem Oy{R:Value→St→Prop}{W w':World}{v:Value}(h:HE Tryz.prog R W (F4 W) v w'):(∃s,R v s)∧Below W.heap.size W w':=by
 obtain⟨s,Z,aa,ab,ht,ae,ag⟩:=h;have hb:∀k,k<W.heap.size→w'.heap[k]? =W.heap[k]? :=fun k O=>by
  have K:(F4 W).E k=some W.heap[k]:=Array.getElem?_eq_getElem O;have U:=aa.e k _ (ab k _ K);rw [U,Array.getElem?_eq_getElem O]
 refine⟨⟨s,Z⟩,⟨ae,ht,ag,?_,hb⟩⟩;rcases Nat.eq_zero_or_pos W.heap.size with ah | ah
 ·omega
 ·have K:=hb (W.heap.size - 1) (by omega);have ai:W.heap[W.heap.size - 1]? =some W.heap[W.heap.size - 1]:=Array.getElem?_eq_getElem (by omega);rw [ai] at K;have U:=(Array.getElem?_eq_some_iff.1 K).1;omega
noncomputable def LI(os:Os):World:=
 let w0:=World.holding Tryz.prog os ⟨#[],#[],[]⟩
 {w0 with heap:=w0.heap.modify 0 fun
   | .cells _ t frozen=> .cells #[.iface 240 (.agg #[.pointer (some ⟨1,149,none⟩)])] t frozen
   | o=>o}
theorem Oo(os:Os)(args:Array Value):laidMetH Tryz.prog [("errors.errorType",Go.Proofs.YtboibffcmhheiaaGreatDoor.Rows.laid_errors_errorType)] ((LI os).forCall (fun _ _=>0) ⟨#[],args,[]⟩).memory:=
 laidMetH_of_parts (laidMet_nil _ _) (by kernel_rfl)
end Pal
namespace Pal
open Go Go.Conc
theorem oi{α:Type}{a b:α}(h:some a=some b):a=b:=Option.some.inj h
theorem bs{α β:Type}{o:Option α}{f:α→Option β}{r:β}(h:o.bind f=some r):∃x,o=some x∧f x=some r:=bind_some h
def Hm(L:Env):Env→List (Option Value)
 | []=> []
 | (t,_)::L'=>look L t::Hm L L'
def Hv:Env→List (Option Value)
 | []=> []
 | (_,v)::L'=>some v::Hv L'
theorem J2{L:Env}:∀{L':Env},Hm L L'=Hv L'→Sub L' L
 | [],_=>trivial
 | (t,v)::L',h=>by
  simp only [Hm,Hv,List.cons.injEq] at h
  exact⟨h.1,J2 h.2⟩
section
variable {P:Program}{J:Judge P}{Q:Goroutine→St→Prop}{b:Frame}{n:Nat}{L L':Env}{ds:List Deferred}{k k':List Item}{cs:List Frame}{s:St}{ops:Array Oper}{i:Nat}{rest:List Nat}{v:Value}
variable {d:Option Tmp}{op:Op}{ty:TypeId}{p:String}{af:Array Edge}{g:Option (Nat×Bool)}
theorem JL.wk(L':Env)(h:Hm L L'=Hv L')(k':JL J Q b n L' ds k cs s):JL J Q b n L ds k cs s:=JL.B6 (J2 h) k'
theorem JL.kw(k':JL J Q b n L' ds k cs s)(h:Hm L L'=Hv L'):JL J Q b n L ds k cs s:=JL.B6 (J2 h) k'
def FA(b:Frame)(n:Nat)(L:Env)(ops:Array Oper)(i:Nat):Option Oper:=
 match Fv ops.toList i with
 | some ⟨d,op,ty,p,af,g⟩=>match AT L ops ⟨d,op,ty,p,af,g⟩ with
  | some true=>match BJ b n ⟨d,op,ty,p,af,g⟩ with
   | true=>some ⟨d,op,ty,p,af,g⟩
   | false=>none
  | _=>none
 | none=>none
theorem Ib{o:Oper}(h:FA b n L ops i=some o):ops[i]? =some o∧AT L ops o=some true∧BJ b n o=true:=by
 unfold FA at h;split at h
 ·rename_i K;rw [GL,Array.getElem?_toList] at K;split at h
  ·rename_i hw;split at h
   ·rename_i O;cases h;exact⟨K,hw,O⟩
   ·cases h
  ·cases h
 ·cases h
theorem JL.Y(K:FA b n L ops i=some ⟨d,op,ty,p,af,g⟩)(h:∀ρ,CJ L ρ→Yl P ⟨d,op,ty,p,af,g⟩ ρ s v)(O:JL J Q b n (AH L d v) ds (.inRegion ops rest::k) cs s):
  JL J Q b n L ds (.inRegion ops (i::rest)::k) cs s:=
 let ⟨U,W,Z⟩:=Ib K
 JL.y U W Z h O
theorem Au.en{f:FuncId}{fn:Func}{c:Code}{E:LH}{vs:List Value}{B:Seg}{R:Value→LH→Seg→Prop}(O:P.funcs[f]? =some fn)(hb:fn.body=some c)(U:Nat.ble vs.length fn.ntmps=true)
  (h:∀(Q:Goroutine→St→Prop) (K:Frame) (cs:List Frame) (H:LH),Az E H [B]→(∀v E' S' B',Le E E'→S'.flatten=B'→R v E' B'→Az E' H S'→J.ok Q (G (K.finish v) cs) (Ap E' H S'))→JL J Q (base f) fn.ntmps (DO 0 vs) [] [.code c] (K::cs) (Ap E H [B])):Au J f vs E B R:=
 Au.enter O hb (Nat.le_of_ble_eq_true U) h
def KE(n:Nat)(L:Env)(ops:Array Oper)(i:Nat):Option Env:=
 match Fv ops.toList i with
 | some ⟨d,op,ty,p,af,g⟩=>match AT L ops ⟨d,op,ty,p,af,g⟩ with
  | some true=>match A6 n d with
   | true=>match Gq L op with
    | some v=>match d with
     | some d=>some ((d,v)::L)
     | none=>some L
    | none=>none
   | false=>none
  | some false=>match A6 n d with
   | true=>match d with
    | some d=>some ((d,undef)::L)
    | none=>some L
   | false=>none
  | none=>none
 | none=>none
def Gn(n:Nat)(L:Env)(ops:Array Oper)(i:Nat):Option Oper:=
 match Fv ops.toList i with
 | some ⟨d,op,ty,p,af,g⟩=>match AT L ops ⟨d,op,ty,p,af,g⟩ with
  | some true=>match A6 n d with
   | true=>some ⟨d,op,ty,p,af,g⟩
   | false=>none
  | _=>none
 | none=>none
theorem LR{o:Oper}(h:Gn n L ops i=some o):ops[i]? =some o∧AT L ops o=some true∧A6 n o.dst=true:=by
 unfold Gn at h;split at h
 ·rename_i K;rw [GL,Array.getElem?_toList] at K;split at h
  ·rename_i hw;split at h
   ·rename_i O;cases h;exact⟨K,hw,O⟩
   ·cases h
  ·cases h
 ·cases h
theorem PF(h:KE n L ops i=some L'):∃o,ops[i]? =some o∧A6 n o.dst=true∧((∃v,AT L ops o=some true∧Gq L o.op=some v∧L'=AH L o.dst v)∨(AT L ops o=some false∧L'=AH L o.dst undef)):=by
 unfold KE at h;split at h
 ·rename_i d op ty p af g O;rw [GL,Array.getElem?_toList] at O;refine⟨_,O,?_⟩;split at h
  ·rename_i hw;split at h
   ·rename_i K;refine⟨K,.inl ?_⟩;split at h
    ·rename_i v U;refine⟨v,hw,U,?_⟩;cases d with
     | none=>cases h;rfl
     | some d=>cases h;rfl
    ·cases h
   ·cases h
  ·rename_i hw;split at h
   ·rename_i K;refine⟨K,.inr ⟨hw,?_⟩⟩;cases d with
    | none=>cases h;rfl
    | some d=>cases h;rfl
   ·cases h
  ·cases h
 ·cases h
variable {m:Nat}{D:Nat→Bool}{fuel:Nat}{listed:Array Bool}
theorem JG.mv(i:Nat)(K:Dw ops m=true)(O:s.q=false)(h:KE n L ops i=some L')
  (U:Aw J Q b n ds ops k cs m D fuel (AY listed i) L' s) (W:Fa ops listed m i=true:=by decide+kernel):Aw J Q b n ds ops k cs m D (fuel+1) listed L s:=by
 obtain⟨o,Z,aa,⟨v,hw,ab,rfl⟩ | ⟨hw,rfl⟩⟩:=PF h
 ·exact JG.val i Z K W O hw aa (fun ρ ae s' _=>Iz ae ab) U
 ·exact JG.no i Z K W O hw aa U
theorem JG.V(i:Nat)(K:Dw ops m=true)(O:s.q=false)(U:Gn n L ops i=some ⟨d,op,ty,p,af,g⟩)
  (W:∀ρ,CJ L ρ→∀s':St,(∀x o,(A9 D s).E x=some o→s'.E x=some o)→Yl P ⟨d,op,ty,p,af,g⟩ ρ s' v)
  (Z:Aw J Q b n ds ops k cs m D fuel (AY listed i) (AH L d v) s) (aa:Fa ops listed m i=true:=by decide+kernel):Aw J Q b n ds ops k cs m D (fuel+1) listed L s:=by
 obtain⟨ab,ae,ag⟩:=LR U;exact JG.val i ab K aa O ae ag W Z
end
end Pal
namespace Pal
open Go Go.Conc
abbrev Jn(E H E':LH)(S:List Seg)(K L:Env)(s:St)(R:Prop):Prop:=L=K∧s=Ap E' H S∧Le E E'∧Az E' H S∧R
abbrev Jm(E H E':LH)(S:List Seg)(K L:Env)(s:St):Prop:=L=K∧s=Ap E' H S∧Le E E'∧Az E' H S
def Je(L:Env):List ResultVar→Option (List Value)
 | []=>some []
 | .tmp t::rs=>match look L t with
  | some v=>match Je L rs with
   | some vs=>some (v::vs)
   | none=>none
  | none=>none
 | _=>none
theorem MH{P:Program}{L:Env}{s:St}:∀{rs:List ResultVar} {vs:List Value},Je L rs=some vs→RV P L s rs vs
 | [],vs,h=>by cases h;trivial
 | .tmp t::rs,vs,h=>by
  unfold Je at h
  split at h
  ·rename_i v K
   split at h
   ·rename_i ws hw;cases h;exact⟨K,MH hw⟩
   ·cases h
  ·cases h
 | .cell _ _::_,_,h=>by cases h
section
variable {P:Program}{J:Judge P}{Q:Goroutine→St→Prop}{b:Frame}{n:Nat}{L L':Env}{ds:List Deferred}{k k':List Item}{cs:List Frame}{s:St}{ops:Array Oper}{i:Nat}{rest:List Nat}{v:Value}{E H:LH}{S:List Seg}
variable {d:Option Tmp}{op:Op}{x y:Operand}{t ft ty e:TypeId}{p:String}{af:Array Edge}{g:Option (Nat×Bool)}
theorem JL.rt{c:Frame}{fn:Func}{vs:List Value}(O:P.funcs[b.fn]? =some fn)(K:(b.kind== .normal&&b.roundOf.isNone)=true)(U:Je L fn.results.toList=some vs)(h:J.ok Q (G (c.finish (Ir vs)) cs) s):JL J Q b n L [] (.code .ret::k) (c::cs) s:=by
 simp only [Bool.and_eq_true,beq_iff_eq,Option.isNone_iff_eq_none] at K;exact JL.ret K.1 K.2 (Bm.list O rfl (MH U)) h
theorem JS.cl{f:FuncId}{args:Array Operand}{ats:Array TypeId}{vs:List Value}{R:Value→LH→Seg→Prop}
  (O:Au J f vs E [] R) (U:FA b n L ops i=some ⟨d,.call ⟨.value (.func f),args,ats⟩,ty,p,af,g⟩) (W:evs L args.toList=some vs) (hb:Cp P f=true)
  (Z:Az E H S) (aa:∀v E' seg',Le E E'→R v E' seg'→Az E' H (S++ [seg'])→JL J Q b n (AH L d v) ds (.inRegion ops rest::k) cs (Ap E' H (S++ [seg']))):
  JL J Q b n L ds (.inRegion ops (i::rest)::k) cs (Ap E H S):=by
 obtain⟨ab,ae,K⟩:=Ib U;refine JS.call O ab ae ?_ hb W Z aa;simp only [BJ,Bool.and_eq_true] at K ⊢;exact⟨K.1,K.2.1⟩
theorem JS.Bv{f:FuncId}{args:Array Operand}{ats:Array TypeId}{vs:List Value}{seg:Seg}{R:Value→LH→Seg→Prop}(j:Nat)
  (O:Au J f vs E seg R) (U:FA b n L ops i=some ⟨d,.call ⟨.value (.func f),args,ats⟩,ty,p,af,g⟩) (W:evs L args.toList=some vs) (hb:Cp P f=true)
  (Z:Az E H S) (aa:S[j]? =some seg) (ab:∀v E' seg',Le E E'→R v E' seg'→Az E' H (S.set j seg')→JL J Q b n (AH L d v) ds (.inRegion ops rest::k) cs (Ap E' H (S.set j seg'))):
  JL J Q b n L ds (.inRegion ops (i::rest)::k) cs (Ap E H S):=by
 obtain⟨ae,ag,K⟩:=Ib U;refine JS.Ko j O ae ag ?_ hb W Z aa ab;simp only [BJ,Bool.and_eq_true] at K ⊢;exact⟨K.1,K.2.1⟩
def IU(K:Array Field)(i:Nat):Option (Nat×TypeId):=match K[i]? with
 | some f=>some (f.offset,f.type)
 | none=>none
theorem JL.fd{O o U off:Nat}{W:Array Field}{Z:Nat}(ht:P.underlying t=some (.struct W))(aa:Bg P ft=some (U+1))(ab:FA b n L ops i=some ⟨d,.fieldAddr t x Z,ty,p,af,g⟩)(ae:ev L x=some (.pointer (some ⟨O,o,none⟩)))(K:IU W Z=some (off,ft))
  (ag:JL J Q b n (AH L d (.pointer (some ⟨O,o+off,none⟩))) ds (.inRegion ops rest::k) cs s):
  JL J Q b n L ds (.inRegion ops (i::rest)::k) cs s:=by
 unfold IU at K;split at K
 ·rename_i f ah;cases K;refine JL.Y ab (fun ρ h=>Yl.N9 (a:=⟨O,o,none⟩) U f.offset ht aa ah rfl rfl (h _ _ ae)) ?_;rw [Bb rfl];exact ag
 ·cases K
theorem JL.ld{K o:Nat}{ws:List Value}(j:Nat)(O:At E K o ws)(ht:Cx P t=some false)(U:FA b n L ops i=some ⟨d,.load t x,ty,p,af,g⟩)(W:ev L x=some (.pointer (some ⟨K,o+j,none⟩)))(Z:ws[j]? =some v)
  (aa:JL J Q b n (AH L d v) ds (.inRegion ops rest::k) cs (Ap E H S)):
  JL J Q b n L ds (.inRegion ops (i::rest)::k) cs (Ap E H S):=
 JL.Y U (fun _ h=>Yl.load ht (h _ _ W) (At.NC O Z)) aa
theorem JS.st{K off:Nat}{c:Array Value}(j:Nat)(O:Az E H S)(U:Bg P t=some v.cells.size)(W:FA b n L ops i=some ⟨d,.store t x y,ty,p,af,g⟩)
  (Z:ev L x=some (.pointer (some ⟨K,off,none⟩))) (aa:ev L y=some v) (ab:S[j]? =some [(K,.cells c e (0,0))])
  (h:Az E H (S.set j [(K,.cells (AN c off v.cells.toList) e (0,0))])→JL J Q b n (AH L d undef) ds (.inRegion ops rest::k) cs (Ap E H (S.set j [(K,.cells (AN c off v.cells.toList) e (0,0))])))
  (hle:off+v.cells.size≤c.size:=by exact Nat.le_of_ble_eq_true rfl) (ae:∀u∈v.cells.toList,Bx u=true:=by simp [Value.cells,Bx]):
  JL J Q b n L ds (.inRegion ops (i::rest)::k) cs (Ap E H S):=by
 obtain⟨ag,ah,ai⟩:=Ib W;exact JS.store j ag ah ai O Z aa U ae ab hle h
theorem JL.Bw{K o:Nat}{ws:List Value}(O:At E K o ws)(ht:Cx P t=some true)(U:Bg P t=some ws.length)(W:FA b n L ops i=some ⟨d,.load t x,ty,p,af,g⟩)(Z:ev L x=some (.pointer (some ⟨K,o,none⟩)))
  (aa:JL J Q b n (AH L d (.agg ws.toArray)) ds (.inRegion ops rest::k) cs (Ap E H S)):
  JL J Q b n L ds (.inRegion ops (i::rest)::k) cs (Ap E H S):=
 JL.Y W (fun _ h=>Yl.Bj ht U (h _ _ Z) (At.Rn O)) aa
variable {m:Nat}{D:Nat→Bool}{fuel:Nat}{listed:Array Bool}
theorem JG.fd{O o U off:Nat}{W:Array Field}{Z:Nat}(i:Nat)(aa:Dw ops m=true)(ht:P.underlying t=some (.struct W))(ab:Bg P ft=some (U+1))(ae:s.q=false)(ag:Gn n L ops i=some ⟨d,.fieldAddr t x Z,ty,p,af,g⟩)(ah:ev L x=some (.pointer (some ⟨O,o,none⟩)))(K:IU W Z=some (off,ft))
  (ai:Aw J Q b n ds ops k cs m D fuel (AY listed i) (AH L d (.pointer (some ⟨O,o+off,none⟩))) s) (aj:Fa ops listed m i=true:=by decide+kernel):Aw J Q b n ds ops k cs m D (fuel+1) listed L s:=by
 unfold IU at K;split at K
 ·rename_i f ak;cases K;refine JG.V i aa ae ag (fun ρ h _ _=>Yl.N9 (a:=⟨O,o,none⟩) U f.offset ht ab ak rfl rfl (h _ _ ah)) ?_ aj;rw [Bb rfl];exact ai
 ·cases K
theorem JG.ld{K o:Nat}{ws:List Value}(i:Nat)(O:Dw ops m=true)(j:Nat)(U:At (A9 D s).E K o ws)(ht:Cx P t=some false)(W:s.q=false)(Z:Gn n L ops i=some ⟨d,.load t x,ty,p,af,g⟩)(aa:ev L x=some (.pointer (some ⟨K,o+j,none⟩)))(ab:ws[j]? =some v)
  (ae:Aw J Q b n ds ops k cs m D fuel (AY listed i) (AH L d v) s) (ag:Fa ops listed m i=true:=by decide+kernel):Aw J Q b n ds ops k cs m D (fuel+1) listed L s:=
 JG.V i O W Z (fun _ h _ hs=>Yl.load ht (h _ _ aa) (At.CF U hs ab)) ae ag
theorem JG.Bw{K o:Nat}{ws:List Value}(i:Nat)(O:Dw ops m=true)(U:At (A9 D s).E K o ws)(ht:Cx P t=some true)(W:Bg P t=some ws.length)(Z:s.q=false)(aa:Gn n L ops i=some ⟨d,.load t x,ty,p,af,g⟩)(ab:ev L x=some (.pointer (some ⟨K,o,none⟩)))
  (ae:Aw J Q b n ds ops k cs m D fuel (AY listed i) (AH L d (.agg ws.toArray)) s) (ag:Fa ops listed m i=true:=by decide+kernel):Aw J Q b n ds ops k cs m D (fuel+1) listed L s:=
 JG.V i O Z aa (fun _ h _ hs=>Yl.Bj ht W (h _ _ ab) (At.Kd U hs)) ae ag
end
end Pal
namespace Pal
open Go Go.Conc Go.Proofs
end Pal
namespace Pal
open Go Go.Conc Go.Proofs
end Pal
namespace Pal
open Go Go.Conc Go.Proofs
open Go.Proofs.Tryz
variable {J:Judge Tryz.prog}{E:LH}
theorem mixed:Tryz.prog.follows .mixedOrders=true:=rfl
def f101(fuel:Nat)(p0:Int)(p1:Int)(p2:Int):Option (Bool):=
 Option.bind (
  if p0<p1 then(
   some true
  ) else(
   some (decide (p2<p0))
  )
 ) fun K=>
 some K
theorem Gf{p0:Int}{p1:Int}{p2:Int}{fuel:Nat}{r:Bool}(O:f101 fuel p0 p1 p2=some r):Au J 101 [iV p0,iV p1,iV p2] E [] (fun w E' B'=>w= .bool r∧B'= []):=by
 refine Au.en func101 rfl rfl fun Q al cs H U ag=>?_;unfold f101 at O;obtain⟨ah,W,ai⟩:=bs O;refine JL.go 10 rfl ?_;refine JL.BA [8] (fun L s=>∃(Z:LH),Jm E H Z [] [(14,.bool ah)] L s) ?_ ?_
 ·rintro _ _ ⟨Z,rfl,rfl,aj,ak⟩;refine JL.go 2 rfl ?_;obtain rfl:=oi ai;refine JL.rt func101 rfl rfl ?_;exact ag _ _ _ _ aj rfl ⟨rfl,rfl⟩ ak
 ·intro aa;refine JL.B5 (q:=p0<p1) (i:=10) rfl (fun K=>?_) (fun K=>?_)
  ·have ab:=W;rw [if_pos K] at ab;refine JL.go 4 rfl ?_;obtain rfl:=oi ab;exact JL.kw (aa _ _ ⟨E,rfl,rfl,(Le.refl _),U⟩) rfl
  ·have ae:=W;rw [if_neg K] at ae;refine JL.go 4 rfl ?_;obtain rfl:=oi ae;exact JL.kw (aa _ _ ⟨E,rfl,rfl,(Le.refl _),U⟩) rfl
def f104(fuel:Nat)(p0:Int)(p1:Int)(p2:Int):Option (Bool):=
 Option.bind (
  if p1≤p0 then(
   some (decide (p0≤p2))
  ) else(
   some false
  )
 ) fun K=>
 some K
def Il(fuel:Nat)(p0:List Int)(p1:Int)(K:Int):Option (AV (Int) ((Int)⊕(Unit))):=
 if K<((p0).length:Int) then(
  (ix p0 (K)).bind fun O=>
  if O=p1 then(
   some (.done (Sum.inl K))
  ) else(
   (Av (K+1)).bind fun U=>
   some (.more U)
  )
 ) else(
  some (.done (Sum.inr ()))
 )
def f107(fuel:Nat)(p0:List Int)(p1:Int):Option (Int):=
 Option.bind (iter (Il fuel p0 p1) fuel 0) fun K=>
 Sum.elim (fun r=>some r) (fun O=>
 some (-1)
 ) K
theorem Sf{O:Option Addr}{c2:Nat}{p0:List Int}{p1:Int}(ay:Aq rI E O c2 (p0)){fuel:Nat}{r:Int}(ai:f107 fuel p0 p1=some r):Au J 107 [.slice O (p0).length c2,iV p1] E [] (fun w E' B'=>w=iV r∧B'= []):=by
 refine Au.en func107 rfl rfl fun Q aO cs H az aj=>?_;unfold f107 at ai;obtain⟨ak,aA,al⟩:=bs ai;refine JL.go 9 rfl ?_;refine JL.join (fun L s=>∃(am:Unit) (an:LH),ak=Sum.inr am∧Jm E H an [] [] L s) ?_ ?_
 ·rintro _ _ ⟨am,an,rfl,rfl,rfl,aB,aC⟩;have aD:=elim_inr al;refine JL.go 4 rfl ?_;obtain rfl:=oi aD;refine JL.rt func107 rfl rfl ?_;exact aj _ _ _ _ aB rfl ⟨rfl,rfl⟩ aC
 ·intro aE;refine JL.block ?_;refine JL.wk [(0,.slice O (p0).length c2),(1,iV p1),(5,iV 0)] rfl ?_;refine JL.Bi aA (fun L s Z=>∃(K:LH),Jm E H K [] [(0,.slice O (p0).length c2),(1,iV p1),(5,iV Z)] L s) ⟨E,rfl,rfl,(Le.refl _),az⟩ ?_;rintro _ _ Z ⟨K,rfl,rfl,U,aa⟩ ao ⟨aP,W⟩ aF;have ab:=W;unfold Il at ab;refine JL.go 5 rfl ?_;refine JL.Y rfl (fun ρ h=>Yl.len rfl underlying28 (h _ _ rfl)) ?_;refine JL.go 2 rfl ?_;refine JL.ifs (p:=Z<((p0).length:Int)) rfl (fun ae=>?_) (fun ae=>?_)
  ·have ap:=ab;rw [if_pos ae] at ap;obtain⟨aq,aG,ar⟩:=bs ap;refine JL.go 7 rfl ?_;refine JS.BI (ay.mono U) aG rfl rfl rfl rfl rfl underlying28 (Ah type3) ?_;rintro aH aI _ rfl ag;replace ag:At K aH aI [iV aq]:=ag;refine JL.ld 0 ag (Ao underlying3) rfl rfl rfl ?_;refine JL.go 3 rfl ?_;refine JL.ifs (p:=aq=p1) rfl (fun ah=>?_) (fun ah=>?_)
   ·have au:=ar;rw [if_pos ah] at au;refine JL.go 5 rfl ?_;obtain rfl:=oi au;obtain rfl:=ao _ W;have aJ:=elim_inl al;obtain rfl:=oi aJ;refine JL.rt func107 rfl rfl ?_;exact aj _ _ _ _ U rfl ⟨rfl,rfl⟩ aa
   ·have av:=ar;rw [if_neg ah] at av;obtain⟨aK,aL,aM⟩:=bs av;refine JL.go 4 rfl ?_;refine JL.Y rfl (fun ρ h=>Yl.A0 (h _ _ rfl) (h _ _ rfl) aL) ?_;refine JL.go 2 rfl ?_;obtain rfl:=oi aM;exact JL.kw (aF _ _ aK ⟨K,rfl,rfl,U,aa⟩ W) rfl
  ·have aw:=ab;rw [if_neg ae] at aw;refine JL.exit rfl ?_;obtain rfl:=oi aw;have aN:ak=(Sum.inr ()):=(ao _ W).symm;exact JL.kw (aE _ _ ⟨(),K,aN,rfl,rfl,U,aa⟩) rfl
def f53(fuel:Nat)(p0:List Int)(p1:Int):Option (Bool):=
 (f107 fuel p0 p1).bind fun K=>
 some (decide (0≤K))
theorem S3{K:Option Addr}{c2:Nat}{p0:List Int}{p1:Int}(U:Aq rI E K c2 (p0)){fuel:Nat}{r:Bool}(O:f53 fuel p0 p1=some r):Au J 53 [.slice K (p0).length c2,iV p1] E [] (fun w E' B'=>w= .bool r∧B'= []):=by
 refine Au.en func53 rfl rfl fun Q ah cs H W Z=>?_;unfold f53 at O;obtain⟨ai,aa,ab⟩:=bs O;refine JL.go 8 rfl ?_;refine JS.cl (Sf U aa) rfl rfl (Ay func107 rfl) W ?_;rintro _ aj _ ae ⟨rfl,rfl⟩ ag;refine JL.go 3 rfl ?_;obtain rfl:=oi ab;refine JL.rt func53 rfl rfl ?_;exact Z _ _ _ _ ae rfl ⟨rfl,rfl⟩ ag
def Nb(fuel:Nat)(p0:List Int)(p1:List Int)(K:Int):Option (AV (Int) ((Bool)⊕(Unit))):=
 Option.bind (
  if K<((p0).length:Int) then(
   some (decide (K<((p1).length:Int)))
  ) else(
   some false
  )
 ) fun O=>
 if O=true then(
  (ix p0 (K)).bind fun U=>
  (ix p1 (K)).bind fun W=>
  if U≠W then(
   some (.done (Sum.inl false))
  ) else(
   (Av (K+1)).bind fun Z=>
   some (.more Z)
  )
 ) else(
  some (.done (Sum.inr ()))
 )
def f32(fuel:Nat)(p0:List Int)(p1:List Int):Option (Bool):=
 Option.bind (iter (Nb fuel p0 p1) fuel 0) fun K=>
 Sum.elim (fun r=>some r) (fun O=>
 some (decide (((p0).length:Int)=((p1).length:Int)))
 ) K
theorem Kl{K:Option Addr}{c2:Nat}{O:Option Addr}{U:Nat}{p0:List Int}{p1:List Int}(aM:Aq rI E K c2 (p0))(aN:Aq rI E O U (p1)){fuel:Nat}{r:Bool}(an:f32 fuel p0 p1=some r):Au J 32 [.slice K (p0).length c2,.slice O (p1).length U] E [] (fun w E' B'=>w= .bool r∧B'= []):=by
 refine Au.en func32 rfl rfl fun Q a7 cs H aO ao=>?_;unfold f32 at an;obtain⟨ap,aP,aq⟩:=bs an;refine JL.go 9 rfl ?_;refine JL.join (fun L s=>∃(ar:Unit) (au:LH),ap=Sum.inr ar∧Jm E H au [] [(0,.slice K (p0).length c2),(1,.slice O (p1).length U)] L s) ?_ ?_
 ·rintro _ _ ⟨ar,au,rfl,rfl,rfl,aQ,aR⟩;have aS:=elim_inr aq;refine JL.go 3 rfl ?_;refine JL.Y rfl (fun ρ h=>Yl.len rfl underlying28 (h _ _ rfl)) ?_;refine JL.go 1 rfl ?_;refine JL.Y rfl (fun ρ h=>Yl.len rfl underlying28 (h _ _ rfl)) ?_;refine JL.go 3 rfl ?_;obtain rfl:=oi aS;refine JL.rt func32 rfl rfl ?_;exact ao _ _ _ _ aQ rfl ⟨rfl,rfl⟩ aR
 ·intro aT;refine JL.block ?_;refine JL.wk [(0,.slice K (p0).length c2),(1,.slice O (p1).length U),(5,iV 0)] rfl ?_;refine JL.Bi aP (fun L s ae=>∃(Z:LH),Jm E H Z [] [(0,.slice K (p0).length c2),(1,.slice O (p1).length U),(5,iV ae)] L s) ⟨E,rfl,rfl,(Le.refl _),aO⟩ ?_;rintro _ _ ae ⟨Z,rfl,rfl,aa,av⟩ aw ⟨a8,ag⟩ aU;have ay:=ag;unfold Nb at ay;refine JL.go 5 rfl ?_;refine JL.Y rfl (fun ρ h=>Yl.len rfl underlying28 (h _ _ rfl)) ?_;obtain⟨az,aA,aB⟩:=bs ay;refine JL.go 2 rfl ?_;refine JL.BA [] (fun L s=>∃(W:LH),Jm Z H W [] [(0,.slice K (p0).length c2),(1,.slice O (p1).length U),(5,iV ae),(15,.bool az)] L s) ?_ ?_
  ·rintro _ _ ⟨W,rfl,rfl,ab,ah⟩;refine JL.done ?_;refine JL.split (t:=az) rfl (fun ai=>?_) (fun ai=>?_)
   ·have aC:=aB;rw [if_pos ai] at aC;refine JL.go 4 rfl ?_;refine JG.Di 8 mixed rfl (by decide+kernel) fun ht=>?_;refine JG.mv 0 ht rfl rfl ?_;refine JG.mv 1 ht rfl rfl ?_;obtain⟨aD,aV,aW⟩:=bs aC;refine JG.idx 2 (aM.mono (aa.trans ab)) aV rfl ht (by decide+kernel) rfl rfl rfl rfl rfl underlying28 (Ah type3) ?_;rintro aX aY _ rfl aj;replace aj:At W aX aY [iV aD]:=aj;refine JG.ld 3 ht 0 aj (Ao underlying3) rfl rfl rfl rfl ?_;refine JG.mv 4 ht rfl rfl ?_;refine JG.mv 5 ht rfl rfl ?_;obtain⟨aE,aZ,aF⟩:=bs aW;refine JG.idx 6 (aN.mono (aa.trans ab)) aZ rfl ht (by decide+kernel) rfl rfl rfl rfl rfl underlying28 (Ah type3) ?_;rintro a0 a1 _ rfl ak;replace ak:At W a0 a1 [iV aE]:=ak;refine JG.ld 7 ht 0 ak (Ao underlying3) rfl rfl rfl rfl ?_;refine Aw.leaf (tail:= [8]) (by decide+kernel) (fun t=>A3 (by decide+kernel) BL t) ?_;refine JL.go 2 rfl ?_;refine JL.ifs (p:=aD≠aE) rfl (fun al=>?_) (fun al=>?_)
    ·have aG:=aF;rw [if_pos al] at aG;refine JL.go 4 rfl ?_;obtain rfl:=oi aG;obtain rfl:=aw _ ag;have a2:=elim_inl aq;obtain rfl:=oi a2;refine JL.rt func32 rfl rfl ?_;exact ao _ _ _ _ (aa.trans ab) rfl ⟨rfl,rfl⟩ ah
    ·have aH:=aF;rw [if_neg al] at aH;obtain⟨a3,a4,a5⟩:=bs aH;refine JL.go 4 rfl ?_;refine JL.Y rfl (fun ρ h=>Yl.A0 (h _ _ rfl) (h _ _ rfl) a4) ?_;refine JL.go 2 rfl ?_;obtain rfl:=oi a5;exact JL.kw (aU _ _ a3 ⟨W,rfl,rfl,(aa.trans ab),ah⟩ ag) rfl
   ·have aI:=aB;rw [if_neg (by rw [ai];exact Bool.false_ne_true)] at aI;refine JL.exit rfl ?_;obtain rfl:=oi aI;have a6:ap=(Sum.inr ()):=(aw _ ag).symm;exact JL.kw (aT _ _ ⟨(),W,a6,rfl,rfl,(aa.trans ab),ah⟩) rfl
  ·intro aJ;refine JL.B5 (q:=ae<((p0).length:Int)) (i:=10) rfl (fun am=>?_) (fun am=>?_)
   ·have aK:=aA;rw [if_pos am] at aK;refine JL.go 2 rfl ?_;refine JL.Y rfl (fun ρ h=>Yl.len rfl underlying28 (h _ _ rfl)) ?_;refine JL.go 2 rfl ?_;obtain rfl:=oi aK;exact JL.kw (aJ _ _ ⟨Z,rfl,rfl,(Le.refl _),av⟩) rfl
   ·have aL:=aA;rw [if_neg am] at aL;refine JL.go 5 rfl ?_;obtain rfl:=oi aL;exact JL.kw (aJ _ _ ⟨Z,rfl,rfl,(Le.refl _),av⟩) rfl
def RQ(fuel:Nat)(p0:List (List Int))(p1:List (List Int))(K:Int):Option (AV (Int) ((Bool)⊕(Unit))):=
 Option.bind (
  if K<((p0).length:Int) then(
   some (decide (K<((p1).length:Int)))
  ) else(
   some false
  )
 ) fun O=>
 if O=true then(
  (ix p0 (K)).bind fun U=>
  (ix p1 (K)).bind fun W=>
  (f32 fuel U W).bind fun Z=>
  if(!Z)=true then(
   some (.done (Sum.inl false))
  ) else(
   (Av (K+1)).bind fun aa=>
   some (.more aa)
  )
 ) else(
  some (.done (Sum.inr ()))
 )
def f84(fuel:Nat)(p0:List (List Int))(p1:List (List Int)):Option (Bool):=
 Option.bind (iter (RQ fuel p0 p1) fuel 0) fun K=>
 Sum.elim (fun r=>some r) (fun O=>
 some (decide (((p0).length:Int)=((p1).length:Int)))
 ) K
def f23(fuel:Nat)(p0:List Int):Option (((List Int)×Int×Nat)):=
 some (p0,0,2685821657736338717)
theorem S8{K:Option Addr}{c2:Nat}{p0:List Int}(aa:Aq rI E K c2 (p0)){fuel:Nat}{r:((List Int)×Int×Nat)}(O:f23 fuel p0=some r):Au J 23 [.slice K (p0).length c2] E [] (fun w E' B'=>∃(U:Nat) (W:Option Addr) (Z:Nat),w= .pointer (some ⟨U,0,none⟩)∧B'= [(U,.cells #[.slice W (r.1).length Z,iV r.2.1,.int .u64 ((r.2.2:Nat):Int)] 92 (0,0))]∧Aq rI E' W Z (r.1)):=by
 refine Au.en func23 rfl rfl fun Q ai cs H ab ae=>?_;unfold f23 at O;refine JL.go 7 rfl ?_;refine JL.Y (v:= .agg #[.slice K (p0).length c2,iV 0,.int .u64 ((2685821657736338717:Nat):Int)]) rfl (fun ρ h=>Yl.BW [(0,1),(1,1),(2,1)] h (AM type92) underlying92 ⟨rfl,Ah type28,rfl,Ah type3,rfl,Ah type90,trivial⟩ rfl rfl) ?_;refine JS.box (v:= .agg #[.slice K (p0).length c2,iV 0,.int .u64 ((2685821657736338717:Nat):Int)]) rfl rfl rfl ab rfl fun ag ah=>?_;refine JL.go 2 rfl ?_;obtain rfl:=oi O;refine JL.rt func23 rfl rfl ?_;exact ae _ _ _ _ (Le.refl _) rfl ⟨ag,K,c2,rfl,(by first | rfl | simp | (simp [Value.cells])),aa⟩ ah
def f100(fuel:Nat)(p0:(List Int)×Int×Nat):Option (Nat×((List Int)×Int×Nat)):=
 (Av (p0.2.1+1)).bind fun O=>
 Option.bind (
  if O≤((p0.1).length:Int) then(
   (Av (O - 1)).bind fun U=>
   (ix p0.1 (U)).bind fun W=>
   some (((((BV O)*11400714819323198485) % 2 ^ 64) ^^^ (((BV W)*14029467366897019727) % 2 ^ 64)) % 2 ^ 64)
  ) else(
   some (((BV O)*11400714819323198485) % 2 ^ 64)
  )
 ) fun K=>
 some (((((((((((p0.2.2 ^^^ K) % 2 ^ 64)*18397679294719823053) % 2 ^ 64) ^^^ (((((p0.2.2 ^^^ K) % 2 ^ 64)*18397679294719823053) % 2 ^ 64)>>>33)) % 2 ^ 64)*14181476777654086739) % 2 ^ 64) ^^^ (((((((((p0.2.2 ^^^ K) % 2 ^ 64)*18397679294719823053) % 2 ^ 64) ^^^ (((((p0.2.2 ^^^ K) % 2 ^ 64)*18397679294719823053) % 2 ^ 64)>>>33)) % 2 ^ 64)*14181476777654086739) % 2 ^ 64)>>>29)) % 2 ^ 64)>>>11,(p0.1,O,(((((p0.2.2 ^^^ K) % 2 ^ 64)*18397679294719823053) % 2 ^ 64) ^^^ (((((p0.2.2 ^^^ K) % 2 ^ 64)*18397679294719823053) % 2 ^ 64)>>>33)) % 2 ^ 64))
theorem Sd{W:Nat}{Z:Option Addr}{c2:Nat}{p0:(List Int)×Int×Nat}(ah:Aq rI E Z c2 (p0.1)){fuel:Nat}{r:Nat×((List Int)×Int×Nat)}(ai:f100 fuel p0=some r):Au J 100 [.pointer (some ⟨W,0,none⟩)] E [(W,.cells #[.slice Z (p0.1).length c2,iV p0.2.1,.int .u64 ((p0.2.2:Nat):Int)] 92 (0,0))] (fun w E' B'=>∃(aj:Option Addr) (ak:Nat),w= .int .u64 ((r.1:Nat):Int)∧B'= [(W,.cells #[.slice aj (r.2.1).length ak,iV r.2.2.1,.int .u64 ((r.2.2.2:Nat):Int)] 92 (0,0))]∧Aq rI E' aj ak (r.2.1)):=by
 refine Au.en func100 rfl rfl fun Q aI cs H al aw=>?_;unfold f100 at ai;refine JL.go 8 rfl ?_;refine JL.fd underlying92 (Ah type3) rfl rfl rfl ?_;refine JL.Y (v:=iV p0.2.1) rfl (fun ρ h=>Yl.load (Ao underlying3) (h _ _ rfl) (Cs (j:=0) (off:=1) al rfl rfl)) ?_;obtain⟨O,ay,az⟩:=bs ai;refine JL.Y rfl (fun ρ h=>Yl.A0 (h _ _ rfl) (h _ _ rfl) ay) ?_;refine JL.go 1 rfl ?_;refine JL.fd underlying92 (Ah type3) rfl rfl rfl ?_;refine JS.st (v:=iV O) (off:=1) 0 al (Ah type3) rfl rfl rfl rfl fun U=>?_;refine JL.go 5 rfl ?_;refine JL.fd underlying92 (Ah type3) rfl rfl rfl ?_;refine JL.Y (v:=iV O) rfl (fun ρ h=>Yl.load (Ao underlying3) (h _ _ rfl) (Cs (j:=0) (off:=1) U rfl rfl)) ?_;refine JL.Y (v:= .int .u64 ((BV O:Nat):Int)) rfl (fun ρ h=>Yl.BV underlying3 underlying90 (h _ _ rfl)) ?_;refine JL.Y (v:= .int .u64 ((((BV O)*11400714819323198485) % 2 ^ 64:Nat):Int)) rfl (fun ρ h=>Yl.Jf (h _ _ rfl) (h _ _ rfl)) ?_;refine JL.go 4 rfl ?_;refine JG.B8 9 [W] ⟨⟨0,_,rfl⟩,trivial⟩ U mixed rfl (by decide+kernel) fun ht=>?_;refine JG.mv 0 ht rfl rfl ?_;refine JG.mv 1 ht rfl rfl ?_;refine JG.fd 2 ht underlying92 (Ah type3) rfl rfl rfl rfl ?_;refine JG.V (v:=iV O) 3 ht rfl rfl (fun ρ h s' hs=>Yl.load (Ao underlying3) (h _ _ rfl) (Bd (o:=1) 0 U rfl (by simp [AD]) hs rfl)) ?_;refine JG.mv 4 ht rfl rfl ?_;refine JG.mv 5 ht rfl rfl ?_;refine JG.fd 6 ht underlying92 (Ah type28) rfl rfl rfl rfl ?_;refine JG.V (v:= .slice Z (p0.1).length c2) 7 ht rfl rfl (fun ρ h s' hs=>Yl.load (Ao underlying28) (h _ _ rfl) (Bd (o:=0) 0 U rfl (by simp [AD]) hs rfl)) ?_;refine JG.V 8 ht rfl rfl (fun ρ h s' hs=>Yl.len rfl underlying28 (h _ _ rfl)) ?_;refine Aw.leaf (tail:= [9]) (by decide+kernel) (fun t=>A3 (by decide+kernel) BL t) ?_;obtain⟨K,am,aA⟩:=bs az;refine JL.go 2 rfl ?_;refine JL.join (fun L s=>∃(an:LH),Jm E H an [[(W,.cells #[.slice Z (p0.1).length c2,iV O,.int .u64 ((p0.2.2:Nat):Int)] 92 (0,0))]] [(0,.pointer (some ⟨W,0,none⟩)),(3,.int .u64 ((K:Nat):Int))] L s) ?_ ?_
 ·rintro _ _ ⟨an,rfl,rfl,ao,ap⟩;refine JL.go 5 rfl ?_;refine JL.fd underlying92 (Ah type90) rfl rfl rfl ?_;refine JL.Y (v:= .int .u64 ((p0.2.2:Nat):Int)) rfl (fun ρ h=>Yl.load (Ao underlying90) (h _ _ rfl) (Cs (j:=0) (off:=2) ap rfl rfl)) ?_;refine JL.go 1 rfl ?_;refine JL.Y (v:= .int .u64 (((p0.2.2 ^^^ K) % 2 ^ 64:Nat):Int)) rfl (fun ρ h=>Yl.Jj (h _ _ rfl) (h _ _ rfl)) ?_;refine JL.Y (v:= .int .u64 (((((p0.2.2 ^^^ K) % 2 ^ 64)*18397679294719823053) % 2 ^ 64:Nat):Int)) rfl (fun ρ h=>Yl.Jf (h _ _ rfl) (h _ _ rfl)) ?_;refine JL.go 1 rfl ?_;refine JL.fd underlying92 (Ah type90) rfl rfl rfl ?_;refine JS.st (v:= .int .u64 (((((p0.2.2 ^^^ K) % 2 ^ 64)*18397679294719823053) % 2 ^ 64:Nat):Int)) (off:=2) 0 ap (Ah type90) rfl rfl rfl rfl fun ab=>?_;refine JL.go 2 rfl ?_;refine JG.B8 11 [W] ⟨⟨0,_,rfl⟩,trivial⟩ ab mixed rfl (by decide+kernel) fun ht=>?_;refine JG.mv 0 ht rfl rfl ?_;refine JG.mv 1 ht rfl rfl ?_;refine JG.mv 2 ht rfl rfl ?_;refine JG.fd 3 ht underlying92 (Ah type90) rfl rfl rfl rfl ?_;refine JG.V (v:= .int .u64 (((((p0.2.2 ^^^ K) % 2 ^ 64)*18397679294719823053) % 2 ^ 64:Nat):Int)) 4 ht rfl rfl (fun ρ h s' hs=>Yl.load (Ao underlying90) (h _ _ rfl) (Bd (o:=2) 0 ab rfl (by simp [AD]) hs rfl)) ?_;refine JG.mv 5 ht rfl rfl ?_;refine JG.mv 6 ht rfl rfl ?_;refine JG.fd 7 ht underlying92 (Ah type90) rfl rfl rfl rfl ?_;refine JG.V (v:= .int .u64 (((((p0.2.2 ^^^ K) % 2 ^ 64)*18397679294719823053) % 2 ^ 64:Nat):Int)) 8 ht rfl rfl (fun ρ h s' hs=>Yl.load (Ao underlying90) (h _ _ rfl) (Bd (o:=2) 0 ab rfl (by simp [AD]) hs rfl)) ?_;refine JG.V (v:= .int .u64 ((((((p0.2.2 ^^^ K) % 2 ^ 64)*18397679294719823053) % 2 ^ 64)>>>33:Nat):Int)) 9 ht rfl rfl (fun ρ h s' hs=>Yl.G1 33 (h _ _ rfl) (h _ _ rfl) (by decide)) ?_;refine JG.V (v:= .int .u64 (((((((p0.2.2 ^^^ K) % 2 ^ 64)*18397679294719823053) % 2 ^ 64) ^^^ (((((p0.2.2 ^^^ K) % 2 ^ 64)*18397679294719823053) % 2 ^ 64)>>>33)) % 2 ^ 64:Nat):Int)) 10 ht rfl rfl (fun ρ h s' hs=>Yl.Jj (h _ _ rfl) (h _ _ rfl)) ?_;refine Aw.leaf (tail:= [11,12,13]) (by decide+kernel) (fun t=>A3 (by decide+kernel) (A3 (by decide+kernel) (A3 (by decide+kernel) BL)) t) ?_;refine JL.go 1 rfl ?_;refine JL.fd underlying92 (Ah type90) rfl rfl rfl ?_;refine JS.st (v:= .int .u64 (((((((p0.2.2 ^^^ K) % 2 ^ 64)*18397679294719823053) % 2 ^ 64) ^^^ (((((p0.2.2 ^^^ K) % 2 ^ 64)*18397679294719823053) % 2 ^ 64)>>>33)) % 2 ^ 64:Nat):Int)) (off:=2) 0 ab (Ah type90) rfl rfl rfl rfl fun aB=>?_;refine JS.norm (S':= [[(W,.cells #[.slice Z (p0.1).length c2,iV O,.int .u64 (((((((p0.2.2 ^^^ K) % 2 ^ 64)*18397679294719823053) % 2 ^ 64) ^^^ (((((p0.2.2 ^^^ K) % 2 ^ 64)*18397679294719823053) % 2 ^ 64)>>>33)) % 2 ^ 64:Nat):Int)] 92 (0,0))]]) rfl aB fun aq=>?_;refine JL.go 5 rfl ?_;refine JL.fd underlying92 (Ah type90) rfl rfl rfl ?_;refine JL.Y (v:= .int .u64 (((((((p0.2.2 ^^^ K) % 2 ^ 64)*18397679294719823053) % 2 ^ 64) ^^^ (((((p0.2.2 ^^^ K) % 2 ^ 64)*18397679294719823053) % 2 ^ 64)>>>33)) % 2 ^ 64:Nat):Int)) rfl (fun ρ h=>Yl.load (Ao underlying90) (h _ _ rfl) (Cs (j:=0) (off:=2) aq rfl rfl)) ?_;refine JL.Y (v:= .int .u64 (((((((((p0.2.2 ^^^ K) % 2 ^ 64)*18397679294719823053) % 2 ^ 64) ^^^ (((((p0.2.2 ^^^ K) % 2 ^ 64)*18397679294719823053) % 2 ^ 64)>>>33)) % 2 ^ 64)*14181476777654086739) % 2 ^ 64:Nat):Int)) rfl (fun ρ h=>Yl.Jf (h _ _ rfl) (h _ _ rfl)) ?_;refine JL.go 6 rfl ?_;refine JL.Y (v:= .int .u64 ((((((((((p0.2.2 ^^^ K) % 2 ^ 64)*18397679294719823053) % 2 ^ 64) ^^^ (((((p0.2.2 ^^^ K) % 2 ^ 64)*18397679294719823053) % 2 ^ 64)>>>33)) % 2 ^ 64)*14181476777654086739) % 2 ^ 64)>>>29:Nat):Int)) rfl (fun ρ h=>Yl.G1 29 (h _ _ rfl) (h _ _ rfl) (by decide)) ?_;refine JL.Y (v:= .int .u64 (((((((((((p0.2.2 ^^^ K) % 2 ^ 64)*18397679294719823053) % 2 ^ 64) ^^^ (((((p0.2.2 ^^^ K) % 2 ^ 64)*18397679294719823053) % 2 ^ 64)>>>33)) % 2 ^ 64)*14181476777654086739) % 2 ^ 64) ^^^ (((((((((p0.2.2 ^^^ K) % 2 ^ 64)*18397679294719823053) % 2 ^ 64) ^^^ (((((p0.2.2 ^^^ K) % 2 ^ 64)*18397679294719823053) % 2 ^ 64)>>>33)) % 2 ^ 64)*14181476777654086739) % 2 ^ 64)>>>29)) % 2 ^ 64:Nat):Int)) rfl (fun ρ h=>Yl.Jj (h _ _ rfl) (h _ _ rfl)) ?_;refine JL.Y (v:= .int .u64 ((((((((((((p0.2.2 ^^^ K) % 2 ^ 64)*18397679294719823053) % 2 ^ 64) ^^^ (((((p0.2.2 ^^^ K) % 2 ^ 64)*18397679294719823053) % 2 ^ 64)>>>33)) % 2 ^ 64)*14181476777654086739) % 2 ^ 64) ^^^ (((((((((p0.2.2 ^^^ K) % 2 ^ 64)*18397679294719823053) % 2 ^ 64) ^^^ (((((p0.2.2 ^^^ K) % 2 ^ 64)*18397679294719823053) % 2 ^ 64)>>>33)) % 2 ^ 64)*14181476777654086739) % 2 ^ 64)>>>29)) % 2 ^ 64)>>>11:Nat):Int)) rfl (fun ρ h=>Yl.G1 11 (h _ _ rfl) (h _ _ rfl) (by decide)) ?_;refine JL.go 2 rfl ?_;obtain rfl:=oi aA;refine JL.rt func100 rfl rfl ?_;exact aw _ _ _ _ ao rfl ⟨Z,c2,rfl,rfl,(ah.mono ao)⟩ aq
 ·intro ar;refine JL.ifs (p:=O≤((p0.1).length:Int)) rfl (fun ae=>?_) (fun ae=>?_)
  ·have au:=am;rw [if_pos ae] at au;refine JG.B8 14 [W] ⟨⟨0,_,rfl⟩,trivial⟩ U mixed rfl (by decide+kernel) fun ht=>?_;refine JG.mv 0 ht rfl rfl ?_;refine JG.mv 1 ht rfl rfl ?_;refine JG.mv 2 ht rfl rfl ?_;refine JG.fd 3 ht underlying92 (Ah type28) rfl rfl rfl rfl ?_;refine JG.V (v:= .slice Z (p0.1).length c2) 4 ht rfl rfl (fun ρ h s' hs=>Yl.load (Ao underlying28) (h _ _ rfl) (Bd (o:=0) 0 U rfl (by simp [AD]) hs rfl)) ?_;refine JG.mv 5 ht rfl rfl ?_;refine JG.mv 6 ht rfl rfl ?_;refine JG.fd 7 ht underlying92 (Ah type3) rfl rfl rfl rfl ?_;refine JG.V (v:=iV O) 8 ht rfl rfl (fun ρ h s' hs=>Yl.load (Ao underlying3) (h _ _ rfl) (Bd (o:=1) 0 U rfl (by simp [AD]) hs rfl)) ?_;obtain⟨aJ,aC,aD⟩:=bs au;refine JG.V 9 ht rfl rfl (fun ρ h s' hs=>Yl.A4 (h _ _ rfl) (h _ _ rfl) aC) ?_;obtain⟨aa,aE,aF⟩:=bs aD;refine JG.idx 10 ah aE rfl ht (by decide+kernel) rfl rfl rfl rfl rfl underlying28 (Ah type3) ?_;rintro aG aH _ rfl ag;replace ag:At E aG aH [iV aa]:=ag;refine JG.V (v:=iV aa) 11 ht rfl rfl (fun ρ h s' hs=>Yl.load (Ao underlying3) (h _ _ rfl) (At.CF (j:=0) ag (CE U hs ⟨⟨0,_,rfl⟩,trivial⟩) rfl)) ?_;refine JG.V (v:= .int .u64 ((BV aa:Nat):Int)) 12 ht rfl rfl (fun ρ h s' hs=>Yl.BV underlying3 underlying90 (h _ _ rfl)) ?_;refine JG.V (v:= .int .u64 ((((BV aa)*14029467366897019727) % 2 ^ 64:Nat):Int)) 13 ht rfl rfl (fun ρ h s' hs=>Yl.Jf (h _ _ rfl) (h _ _ rfl)) ?_;refine Aw.leaf (tail:= [14,15]) (by decide+kernel) (fun t=>A3 (by decide+kernel) (A3 (by decide+kernel) BL) t) ?_;refine JL.Y (v:= .int .u64 ((((((BV O)*11400714819323198485) % 2 ^ 64) ^^^ (((BV aa)*14029467366897019727) % 2 ^ 64)) % 2 ^ 64:Nat):Int)) rfl (fun ρ h=>Yl.Jj (h _ _ rfl) (h _ _ rfl)) ?_;refine JL.go 2 rfl ?_;obtain rfl:=oi aF;exact JL.kw (ar _ _ ⟨E,rfl,rfl,(Le.refl _),U⟩) rfl
  ·have av:=am;rw [if_neg ae] at av;refine JL.skip ?_;obtain rfl:=oi av;exact JL.kw (ar _ _ ⟨E,rfl,rfl,(Le.refl _),U⟩) rfl
def f41(fuel:Nat)(p0:(List Int)×Int×Nat)(p1:Int):Option (Int×((List Int)×Int×Nat)):=
 (f100 fuel p0).bind fun K=>
 if p1<1 then(
  some (0,K.2)
 ) else(
  (I3 (K.1) ((BV p1+1) % 2 ^ 64)).bind fun O=>
  some (Gu O,K.2)
 )
theorem FX{K:Nat}{U:Option Addr}{c2:Nat}{p0:(List Int)×Int×Nat}{p1:Int}(ao:Aq rI E U c2 (p0.1)){fuel:Nat}{r:Int×((List Int)×Int×Nat)}(W:f41 fuel p0 p1=some r):Au J 41 [.pointer (some ⟨K,0,none⟩),iV p1] E [(K,.cells #[.slice U (p0.1).length c2,iV p0.2.1,.int .u64 ((p0.2.2:Nat):Int)] 92 (0,0))] (fun w E' B'=>∃(Z:Option Addr) (aa:Nat),w=iV r.1∧B'= [(K,.cells #[.slice Z (r.2.1).length aa,iV r.2.2.1,.int .u64 ((r.2.2.2:Nat):Int)] 92 (0,0))]∧Aq rI E' Z aa (r.2.1)):=by
 refine Au.en func41 rfl rfl fun Q av cs H ap ab=>?_;unfold f41 at W;obtain⟨aw,aq,ae⟩:=bs W;refine JL.go 7 rfl ?_;refine JS.Bv 0 (Sd ao aq) rfl rfl (Ay func100 rfl) ap rfl ?_;rintro _ ay _ ag ⟨ah,ai,rfl,rfl,aj⟩ ak;refine JL.go 8 rfl ?_;refine JL.ifs (p:=p1<1) rfl (fun O=>?_) (fun O=>?_)
 ·have al:=ae;rw [if_pos O] at al;refine JL.go 4 rfl ?_;obtain rfl:=oi al;refine JL.rt func41 rfl rfl ?_;exact ab _ _ _ _ ag rfl ⟨ah,ai,rfl,rfl,aj⟩ ak
 ·have am:=ae;rw [if_neg O] at am;refine JL.go 5 rfl ?_;refine JL.Y (v:= .int .u64 ((BV p1:Nat):Int)) rfl (fun ρ h=>Yl.BV underlying3 underlying90 (h _ _ rfl)) ?_;refine JL.Y (v:= .int .u64 (((BV p1+1) % 2 ^ 64:Nat):Int)) rfl (fun ρ h=>Yl.Tg (h _ _ rfl) (h _ _ rfl)) ?_;obtain⟨an,ar,au⟩:=bs am;refine JL.Y (v:= .int .u64 ((an:Nat):Int)) rfl (fun ρ h=>Yl.SD (h _ _ rfl) (h _ _ rfl) ar) ?_;refine JL.Y (v:=iV (Gu an)) rfl (fun ρ h=>Yl.Gu underlying90 underlying3 (h _ _ rfl)) ?_;refine JL.go 2 rfl ?_;obtain rfl:=oi au;refine JL.rt func41 rfl rfl ?_;exact ab _ _ _ _ ag rfl ⟨ah,ai,rfl,rfl,aj⟩ ak
def f96(fuel:Nat)(p0:(List Int)×Int×Nat)(p1:Int)(p2:Int):Option (Int×((List Int)×Int×Nat)):=
 (Av (p2 - p1)).bind fun O=>
 (f41 fuel p0 O).bind fun K=>
 (Av (p1+K.1)).bind fun U=>
 some (U,K.2)
theorem Kr{K:Nat}{O:Option Addr}{c2:Nat}{p0:(List Int)×Int×Nat}{p1:Int}{p2:Int}(aa:Aq rI E O c2 (p0.1)){fuel:Nat}{r:Int×((List Int)×Int×Nat)}(U:f96 fuel p0 p1 p2=some r):Au J 96 [.pointer (some ⟨K,0,none⟩),iV p1,iV p2] E [(K,.cells #[.slice O (p0.1).length c2,iV p0.2.1,.int .u64 ((p0.2.2:Nat):Int)] 92 (0,0))] (fun w E' B'=>∃(W:Option Addr) (Z:Nat),w=iV r.1∧B'= [(K,.cells #[.slice W (r.2.1).length Z,iV r.2.2.1,.int .u64 ((r.2.2.2:Nat):Int)] 92 (0,0))]∧Aq rI E' W Z (r.2.1)):=by
 refine Au.en func96 rfl rfl fun Q ar cs H ab ae=>?_;unfold f96 at U;obtain⟨au,ag,ah⟩:=bs U;refine JL.go 10 rfl ?_;refine JL.Y rfl (fun ρ h=>Yl.A4 (h _ _ rfl) (h _ _ rfl) ag) ?_;obtain⟨av,ai,aj⟩:=bs ah;refine JS.Bv 0 (FX aa ai) rfl rfl (Ay func41 rfl) ab rfl ?_;rintro _ aw _ ak ⟨al,am,rfl,rfl,an⟩ ao;obtain⟨ay,ap,aq⟩:=bs aj;refine JL.Y rfl (fun ρ h=>Yl.A0 (h _ _ rfl) (h _ _ rfl) ap) ?_;refine JL.go 2 rfl ?_;obtain rfl:=oi aq;refine JL.rt func96 rfl rfl ?_;exact ae _ _ _ _ ak rfl ⟨al,am,rfl,rfl,an⟩ ao
def f97(fuel:Nat)(p0:(List Int)×Int×Nat)(p1:Int):Option (Bool×((List Int)×Int×Nat)):=
 (Av (p1 - 1)).bind fun O=>
 (f41 fuel p0 O).bind fun K=>
 some (decide (K.1=0),K.2)
theorem I5{K:Nat}{O:Option Addr}{c2:Nat}{p0:(List Int)×Int×Nat}{p1:Int}(aa:Aq rI E O c2 (p0.1)){fuel:Nat}{r:Bool×((List Int)×Int×Nat)}(U:f97 fuel p0 p1=some r):Au J 97 [.pointer (some ⟨K,0,none⟩),iV p1] E [(K,.cells #[.slice O (p0.1).length c2,iV p0.2.1,.int .u64 ((p0.2.2:Nat):Int)] 92 (0,0))] (fun w E' B'=>∃(W:Option Addr) (Z:Nat),w= .bool r.1∧B'= [(K,.cells #[.slice W (r.2.1).length Z,iV r.2.2.1,.int .u64 ((r.2.2.2:Nat):Int)] 92 (0,0))]∧Aq rI E' W Z (r.2.1)):=by
 refine Au.en func97 rfl rfl fun Q ap cs H ab ae=>?_;unfold f97 at U;obtain⟨aq,ag,ah⟩:=bs U;refine JL.go 8 rfl ?_;refine JL.Y rfl (fun ρ h=>Yl.A4 (h _ _ rfl) (h _ _ rfl) ag) ?_;obtain⟨ar,ai,aj⟩:=bs ah;refine JS.Bv 0 (FX aa ai) rfl rfl (Ay func41 rfl) ab rfl ?_;rintro _ au _ ak ⟨al,am,rfl,rfl,an⟩ ao;refine JL.go 3 rfl ?_;obtain rfl:=oi aj;refine JL.rt func97 rfl rfl ?_;exact ae _ _ _ _ ak rfl ⟨al,am,rfl,rfl,an⟩ ao
def f99(fuel:Nat)(p0:(List Int)×Int×Nat)(p1:List Int):Option (Int×((List Int)×Int×Nat)):=
 (Av (((p1).length:Int) - 1)).bind fun O=>
 (f41 fuel p0 O).bind fun K=>
 (ix p1 (K.1)).bind fun U=>
 some (U,K.2)
theorem I2{K:Nat}{U:Option Addr}{c2:Nat}{W:Option Addr}{Z:Nat}{p0:(List Int)×Int×Nat}{p1:List Int}(ah:Aq rI E U c2 (p0.1))(ai:Aq rI E W Z (p1)){fuel:Nat}{r:Int×((List Int)×Int×Nat)}(aa:f99 fuel p0 p1=some r):Au J 99 [.pointer (some ⟨K,0,none⟩),.slice W (p1).length Z] E [(K,.cells #[.slice U (p0.1).length c2,iV p0.2.1,.int .u64 ((p0.2.2:Nat):Int)] 92 (0,0))] (fun w E' B'=>∃(ab:Option Addr) (ae:Nat),w=iV r.1∧B'= [(K,.cells #[.slice ab (r.2.1).length ae,iV r.2.2.1,.int .u64 ((r.2.2.2:Nat):Int)] 92 (0,0))]∧Aq rI E' ab ae (r.2.1)):=by
 refine Au.en func99 rfl rfl fun Q aC cs H aj ak=>?_;unfold f99 at aa;refine JL.go 9 rfl ?_;refine JL.Y rfl (fun ρ h=>Yl.len rfl underlying28 (h _ _ rfl)) ?_;obtain⟨aD,al,am⟩:=bs aa;refine JL.Y rfl (fun ρ h=>Yl.A4 (h _ _ rfl) (h _ _ rfl) al) ?_;obtain⟨aE,an,ao⟩:=bs am;refine JS.Bv 0 (FX ah an) rfl rfl (Ay func41 rfl) aj rfl ?_;rintro _ ap _ ag ⟨aq,ar,rfl,rfl,au⟩ av;obtain⟨aw,ay,az⟩:=bs ao;refine JS.BI (ai.mono ag) ay rfl rfl rfl rfl rfl underlying28 (Ah type3) ?_;rintro aA aB _ rfl O;replace O:At ap aA aB [iV aw]:=O;refine JL.ld 0 O (Ao underlying3) rfl rfl rfl ?_;refine JL.go 2 rfl ?_;obtain rfl:=oi az;refine JL.rt func99 rfl rfl ?_;exact ak _ _ _ _ ag rfl ⟨aq,ar,rfl,rfl,au⟩ av
def GQ(fuel:Nat)(p0:List Int)(p1:Int)(K:(List Int)×Bool×Int):Option (AV ((List Int)×Bool×Int) ((List Int)×Bool)):=
 if K.2.2<((p0).length:Int) then(
  (ix p0 (K.2.2)).bind fun U=>
  Option.bind (
   if p1≤U then(
    some (!K.2.1)
   ) else(
    some false
   )
  ) fun W=>
  Option.bind (
   if W=true then(
    (room K.1 p1).bind fun Z=>
    some (Z,true)
   ) else(
    some (K.1,K.2.1)
   )
  ) fun O=>
  (ix p0 (K.2.2)).bind fun aa=>
  Option.bind (
   if aa≠p1 then(
    (ix p0 (K.2.2)).bind fun ab=>
    (room O.1 ab).bind fun ae=>
    some ae
   ) else(
    some O.1
   )
  ) fun ag=>
  (Av (K.2.2+1)).bind fun ah=>
  some (.more (ag,O.2,ah))
 ) else(
  some (.done (K.1,K.2.1))
 )
def f98(fuel:Nat)(p0:List Int)(p1:Int):Option ((List Int)):=
 Option.bind (iter (GQ fuel p0 p1) fuel ([],false,0)) fun K=>
 Option.bind (
  if(!K.2)=true then(
   (room K.1 p1).bind fun O=>
   some O
  ) else(
   some K.1
  )
 ) fun U=>
 some U
theorem ND{W:Option Addr}{c2:Nat}{p0:List Int}{p1:Int}(aA:Aq rI E W c2 (p0)){fuel:Nat}{r:(List Int)}(aR:f98 fuel p0 p1=some r):Au J 98 [.slice W (p0).length c2,iV p1] E [] (fun w E' B'=>∃(aS:Option Addr) (aT:Nat),w= .slice aS (r).length aT∧B'= []∧Aq rI E' aS aT (r)):=by
 refine Au.en func98 rfl rfl fun Q co cs H bn bo=>?_;unfold f98 at aR;obtain⟨ag,bp,bq⟩:=bs aR;refine JL.go 17 rfl ?_;refine JL.join (fun L s=>∃(ab:LH) (ah:Option Addr) (ai:Nat) (ap:Seg),Jn E H ab [ap] [(1,iV p1),(5,.slice ah (ag.1).length ai),(6,.bool ag.2)] L s (OL 3 rI ab ah ai ap (ag.1))) ?_ ?_
 ·rintro _ _ ⟨ab,ah,ai,ap,rfl,rfl,br,aU,aV⟩;refine JL.go 4 rfl ?_;refine JL.Y (v:= .bool (!ag.2)) rfl (fun ρ h=>Yl.not (h _ _ rfl)) ?_;obtain⟨aW,aX,bu⟩:=bs bq;refine JL.done ?_;refine JL.join (fun L s=>∃(aB:LH) (aq:Option Addr) (ar:Nat) (aC:Seg),Jn ab H aB [aC] [(5,.slice aq (aW).length ar)] L s (OL 3 rI aB aq ar aC (aW))) ?_ ?_
  ·rintro _ _ ⟨aB,aq,ar,aC,rfl,rfl,bv,bw,bx⟩;refine JL.go 5 rfl ?_;refine JS.BC 0 bx bw rfl fun cp bz bA bB=>?_;obtain rfl:=oi bu;refine JL.rt func98 rfl rfl ?_;exact bo _ _ _ _ ((br.trans bv).trans bz) rfl ⟨aq,ar,rfl,rfl,bA⟩ bB
  ·intro aY;refine JL.split (t:=(!ag.2)) rfl (fun aD=>?_) (fun aD=>?_)
   ·have aZ:=aX;rw [if_pos aD] at aZ;obtain⟨cq,bC,bD⟩:=bs aZ;refine JL.go 3 rfl ?_;refine JS.app (pp:=rI) (v:=iV p1) (a:=ah) (c:=ai) 0 bC rfl rfl rfl rfl (fun _=>rfl) rfl (fun _=>rfl) rfl rfl rfl underlying28 underlying28 underlying28 (Ah type3) (Ct type3) (AM type3) rfl (by decide) (by decide) (by decide) (by decide) aV rfl aU rfl fun cr bE bF bG bH bI=>?_;refine JL.go 2 rfl ?_;obtain rfl:=oi bD;exact JL.kw (aY _ _ ⟨ab,bE,bF,bG,rfl,rfl,(Le.refl _),bI,bH⟩) rfl
   ·have a0:=aX;rw [if_neg (by rw [aD];exact Bool.false_ne_true)] at a0;refine JL.skip ?_;obtain rfl:=oi a0;exact JL.kw (aY _ _ ⟨ab,ah,ai,ap,rfl,rfl,(Le.refl _),aU,aV⟩) rfl
 ·intro bJ;refine JL.block ?_;refine JL.wk [(0,.slice W (p0).length c2),(1,iV p1),(5,.slice none 0 0),(6,.bool false),(7,iV 0)] rfl ?_;refine JL.Bi bp (fun L s K=>∃(O:LH) (Z:Option Addr) (aa:Nat) (ae:Seg),Jn E H O [ae] [(0,.slice W (p0).length c2),(1,iV p1),(5,.slice Z (K.1).length aa),(6,.bool K.2.1),(7,iV K.2.2)] L s (OL 3 rI O Z aa ae (K.1))) ⟨E,none,0,[],rfl,rfl,(Le.refl _),bn,OL.nil⟩ ?_;rintro _ _ K ⟨O,Z,aa,ae,rfl,rfl,aj,aE,aF⟩ bK ⟨ct,aG⟩ bL;have aH:=aG;unfold GQ at aH;refine JL.go 5 rfl ?_;refine JL.Y rfl (fun ρ h=>Yl.len rfl underlying28 (h _ _ rfl)) ?_;refine JL.go 2 rfl ?_;refine JL.ifs (p:=K.2.2<((p0).length:Int)) rfl (fun aI=>?_) (fun aI=>?_)
  ·have a1:=aH;rw [if_pos aI] at a1;obtain⟨a2,bM,bN⟩:=bs a1;refine JL.go 8 rfl ?_;refine JS.BI (aA.mono aj) bM rfl rfl rfl rfl rfl underlying28 (Ah type3) ?_;rintro bO bP _ rfl aJ;replace aJ:At O bO bP [iV a2]:=aJ;refine JL.ld 0 aJ (Ao underlying3) rfl rfl rfl ?_;obtain⟨a3,a4,bQ⟩:=bs bN;refine JL.go 3 rfl ?_;refine JL.BA [] (fun L s=>∃(ak:LH),Jm O H ak [ae] [(0,.slice W (p0).length c2),(1,iV p1),(5,.slice Z (K.1).length aa),(6,.bool K.2.1),(7,iV K.2.2),(23,.bool a3)] L s) ?_ ?_
   ·rintro _ _ ⟨ak,rfl,rfl,al,a5⟩;obtain⟨am,a6,bR⟩:=bs bQ;refine JL.done ?_;refine JL.join (fun L s=>∃(U:LH) (an:Option Addr) (ao:Nat) (au:Seg),Jn ak H U [au] [(0,.slice W (p0).length c2),(1,iV p1),(5,.slice an (am.1).length ao),(6,.bool am.2),(7,iV K.2.2)] L s (OL 3 rI U an ao au (am.1))) ?_ ?_
    ·rintro _ _ ⟨U,an,ao,au,rfl,rfl,aK,a7,a8⟩;obtain⟨a9,bS,bT⟩:=bs bR;refine JL.go 4 rfl ?_;refine JS.BI (aA.mono ((aj.trans al).trans aK)) bS rfl rfl rfl rfl rfl underlying28 (Ah type3) ?_;rintro bU bV _ rfl aL;replace aL:At U bU bV [iV a9]:=aL;refine JL.ld 0 aL (Ao underlying3) rfl rfl rfl ?_;obtain⟨aM,ba,bW⟩:=bs bT;refine JL.go 3 rfl ?_;refine JL.join (fun L s=>∃(av:LH) (aw:Option Addr) (ay:Nat) (az:Seg),Jn U H av [az] [(0,.slice W (p0).length c2),(1,iV p1),(5,.slice aw (aM).length ay),(6,.bool am.2),(7,iV K.2.2)] L s (OL 3 rI av aw ay az (aM))) ?_ ?_
     ·rintro _ _ ⟨av,aw,ay,az,rfl,rfl,bX,bY,bZ⟩;obtain⟨b0,b1,b2⟩:=bs bW;refine JL.go 3 rfl ?_;refine JL.Y rfl (fun ρ h=>Yl.A0 (h _ _ rfl) (h _ _ rfl) b1) ?_;refine JL.go 2 rfl ?_;obtain rfl:=oi b2;exact JL.kw (bL _ _ (aM,am.2,b0) ⟨av,aw,ay,az,rfl,rfl,(((aj.trans al).trans aK).trans bX),bY,bZ⟩ aG) rfl
     ·intro bb;refine JL.ifs (p:=a9≠p1) rfl (fun aN=>?_) (fun aN=>?_)
      ·have bc:=ba;rw [if_pos aN] at bc;obtain⟨bd,b3,b4⟩:=bs bc;refine JL.go 4 rfl ?_;refine JS.BI (aA.mono ((aj.trans al).trans aK)) b3 rfl rfl rfl rfl rfl underlying28 (Ah type3) ?_;rintro b5 b6 _ rfl aO;replace aO:At U b5 b6 [iV bd]:=aO;refine JL.ld 0 aO (Ao underlying3) rfl rfl rfl ?_;obtain⟨cu,b7,b8⟩:=bs b4;refine JS.app (pp:=rI) (v:=iV bd) (a:=an) (c:=ao) 0 b7 rfl rfl rfl rfl (fun _=>rfl) rfl (fun _=>rfl) rfl rfl rfl underlying28 underlying28 underlying28 (Ah type3) (Ct type3) (AM type3) rfl (by decide) (by decide) (by decide) (by decide) a8 rfl a7 rfl fun cv b9 ca cb cc cd=>?_;refine JL.go 2 rfl ?_;obtain rfl:=oi b8;exact JL.kw (bb _ _ ⟨U,b9,ca,cb,rfl,rfl,(Le.refl _),cd,cc⟩) rfl
      ·have bf:=ba;rw [if_neg aN] at bf;refine JL.skip ?_;obtain rfl:=oi bf;exact JL.kw (bb _ _ ⟨U,an,ao,au,rfl,rfl,(Le.refl _),a7,a8⟩) rfl
    ·intro bg;refine JL.split (t:=a3) rfl (fun aP=>?_) (fun aP=>?_)
     ·have bh:=a6;rw [if_pos aP] at bh;obtain⟨cw,ce,cf⟩:=bs bh;refine JL.go 3 rfl ?_;refine JS.app (pp:=rI) (v:=iV p1) (a:=Z) (c:=aa) 0 ce rfl rfl rfl rfl (fun _=>rfl) rfl (fun _=>rfl) rfl rfl rfl underlying28 underlying28 underlying28 (Ah type3) (Ct type3) (AM type3) rfl (by decide) (by decide) (by decide) (by decide) (aF.mono al) rfl a5 rfl fun cy cg ci ck cm cn=>?_;refine JL.go 3 rfl ?_;obtain rfl:=oi cf;exact JL.kw (bg _ _ ⟨ak,cg,ci,ck,rfl,rfl,(Le.refl _),cn,cm⟩) rfl
     ·have bi:=a6;rw [if_neg (by rw [aP];exact Bool.false_ne_true)] at bi;refine JL.skip ?_;obtain rfl:=oi bi;exact JL.kw (bg _ _ ⟨ak,Z,aa,ae,rfl,rfl,(Le.refl _),a5,(aF.mono al)⟩) rfl
   ·intro bj;refine JL.B5 (q:=p1≤a2) (i:=20) rfl (fun aQ=>?_) (fun aQ=>?_)
    ·have bk:=a4;rw [if_pos aQ] at bk;refine JL.go 1 rfl ?_;refine JL.Y (v:= .bool (!K.2.1)) rfl (fun ρ h=>Yl.not (h _ _ rfl)) ?_;refine JL.go 1 rfl ?_;obtain rfl:=oi bk;exact JL.kw (bj _ _ ⟨O,rfl,rfl,(Le.refl _),aE⟩) rfl
    ·have bl:=a4;rw [if_neg aQ] at bl;refine JL.go 3 rfl ?_;obtain rfl:=oi bl;exact JL.kw (bj _ _ ⟨O,rfl,rfl,(Le.refl _),aE⟩) rfl
  ·have bm:=aH;rw [if_neg aI] at bm;refine JL.exit rfl ?_;obtain rfl:=oi bm;obtain rfl:=bK _ aG;exact JL.kw (bJ _ _ ⟨O,Z,aa,ae,rfl,rfl,aj,aE,aF⟩) rfl
def f27(fuel:Nat)(p0:List (Int×Int)):Option ((List (Int×Int))):=
 (Cv ([]:List (Int×Int)) p0).bind fun K=>
 some K
def Ri(fuel:Nat)(p1:Int)(K:(List Int)×Int×Nat×(List Int)×Int):Option (AV ((List Int)×Int×Nat×(List Int)×Int) ((List Int)×(List Int)×Int×Nat)):=
 if K.2.2.2.2<p1 then(
  (f41 fuel (K.1,K.2.1,K.2.2.1) K.2.2.2.2).bind fun O=>
  (room K.2.2.2.1 K.2.2.2.2).bind fun U=>
  (ix U (O.1)).bind fun W=>
  (ix U (K.2.2.2.2)).bind fun aa=>
  (ix (U.set (Int.toNat K.2.2.2.2) W) (O.1)).bind fun ab=>
  (Av (K.2.2.2.2+1)).bind fun Z=>
  some (.more (O.2.1,O.2.2.1,O.2.2.2,((U.set (Int.toNat K.2.2.2.2) W).set (Int.toNat O.1) K.2.2.2.2),Z))
 ) else(
  some (.done (K.2.2.2.1,K.1,K.2.1,K.2.2.1))
 )
def f56(fuel:Nat)(p0:(List Int)×Int×Nat)(p1:Int):Option ((List Int)×((List Int)×Int×Nat)):=
 Option.bind (iter (Ri fuel p1) fuel (p0.1,p0.2.1,p0.2.2,[],0)) fun K=>
 some K
def f52(fuel:Nat)(p0:List (Int×Int)):Option (Int):=
 if((p0).length:Int)=0 then(
  some 1
 ) else(
  (Av (((p0).length:Int) - 1)).bind fun K=>
  (ix p0 (K)).bind fun O=>
  (Av (O.1+1)).bind fun U=>
  some U
 )
def QY(fuel:Nat)(p0:(List (List Int))×(List (List Int)))(p1:List Int)(K:Int):Option (AV (Int) ((Int)⊕(Unit))):=
 if K<((p1).length:Int) then(
  (ix p1 (K)).bind fun O=>
  (Av (((p0.1).length:Int) - 1)).bind fun U=>
  (f104 fuel O 0 U).bind fun W=>
  if(!W)=true then(
   some (.done (Sum.inl 3))
  ) else(
   Option.bind (
    if 0<K then(
     (ix p1 (K)).bind fun Z=>
     (Av (K - 1)).bind fun aa=>
     (ix p1 (aa)).bind fun ab=>
     some (decide (Z≤ab))
    ) else(
     some false
    )
   ) fun ae=>
   if ae=true then(
    some (.done (Sum.inl 5))
   ) else(
    (Av (K+1)).bind fun ag=>
    some (.more ag)
   )
  )
 ) else(
  some (.done (Sum.inr ()))
 )
def f114(fuel:Nat)(p0:(List (List Int))×(List (List Int)))(p1:List Int):Option (Int):=
 if((p1).length:Int)=0 then(
  some 7
 ) else(
  if 3<((p1).length:Int) then(
   some 6
  ) else(
   Option.bind (iter (QY fuel p0 p1) fuel 0) fun K=>
   Sum.elim (fun r=>some r) (fun O=>
   some 0
   ) K
  )
 )
def QO(fuel:Nat)(p0:(List (List Int))×(List (List Int)))(p1:Int)(p2:List Int)(K:Int):Option (AV (Int) ((Int)⊕(Unit))):=
 if K<((p2).length:Int) then(
  (ix p2 (K)).bind fun O=>
  (Av (((p0.1).length:Int) - 1)).bind fun U=>
  (f104 fuel O 0 U).bind fun W=>
  if(!W)=true then(
   some (.done (Sum.inl 3))
  ) else(
   (ix p2 (K)).bind fun Z=>
   if Z=p1 then(
    some (.done (Sum.inl 8))
   ) else(
    Option.bind (
     if 0<K then(
      (ix p2 (K)).bind fun aa=>
      (Av (K - 1)).bind fun ab=>
      (ix p2 (ab)).bind fun ae=>
      some (decide (aa≤ae))
     ) else(
      some false
     )
    ) fun ag=>
    if ag=true then(
     some (.done (Sum.inl 5))
    ) else(
     (Av (K+1)).bind fun ah=>
     some (.more ah)
    )
   )
  )
 ) else(
  some (.done (Sum.inr ()))
 )
def f115(fuel:Nat)(p0:(List (List Int))×(List (List Int)))(p1:Int)(p2:List Int):Option (Int):=
 if 3<((p2).length:Int) then(
  some 6
 ) else(
  Option.bind (iter (QO fuel p0 p1 p2) fuel 0) fun K=>
  Sum.elim (fun r=>some r) (fun O=>
  some 0
  ) K
 )
def Ru(fuel:Nat)(p0:(List (List Int))×(List (List Int)))(K:Int):Option (AV (Int) ((Int)⊕(Unit))):=
 if K<((p0.1).length:Int) then(
  (ix p0.1 (K)).bind fun W=>
  (f114 fuel p0 W).bind fun O=>
  if O≠0 then(
   some (.done (Sum.inl O))
  ) else(
   (ix p0.2 (K)).bind fun Z=>
   (f115 fuel p0 K Z).bind fun U=>
   if U≠0 then(
    some (.done (Sum.inl U))
   ) else(
    (Av (K+1)).bind fun aa=>
    some (.more aa)
   )
  )
 ) else(
  some (.done (Sum.inr ()))
 )
def f68(fuel:Nat)(p0:(List (List Int))×(List (List Int))):Option (Int):=
 if((p0.1).length:Int)=0 then(
  some 7
 ) else(
  if 8<((p0.1).length:Int) then(
   some 6
  ) else(
   if((p0.2).length:Int)≠((p0.1).length:Int) then(
    some 9
   ) else(
    Option.bind (iter (Ru fuel p0) fuel 0) fun K=>
    Sum.elim (fun r=>some r) (fun O=>
    some 0
    ) K
   )
  )
 )
def QE(fuel:Nat)(p0:(List (List Int))×(List (List Int)))(p1:List Bool)(O:(List Bool)×Int)(K:(List Bool)×Int):Option (AV ((List Bool)×Int) ((List Bool))):=
 (ix p0.1 (O.2)).bind fun W=>
 Option.bind (
  if K.2<((W).length:Int) then(
   (ix p1 (O.2)).bind fun Z=>
   some Z
  ) else(
   some false
  )
 ) fun aa=>
 if aa=true then(
  (ix p0.1 (O.2)).bind fun ab=>
  (ix ab (K.2)).bind fun U=>
  (ix K.1 (U)).bind fun ag=>
  (Av (K.2+1)).bind fun ae=>
  some (.more ((K.1.set (Int.toNat U) true),ae))
 ) else(
  some (.done K.1)
 )
def Q8(fuel:Nat)(p0:(List (List Int))×(List (List Int)))(p1:List Bool)(K:(List Bool)×Int):Option (AV ((List Bool)×Int) ((List Bool))):=
 if K.2<((p1).length:Int) then(
  Option.bind (iter (QE fuel p0 p1 K) fuel (K.1,0)) fun O=>
  (Av (K.2+1)).bind fun U=>
  some (.more (O,U))
 ) else(
  some (.done K.1)
 )
def f119(fuel:Nat)(p0:(List (List Int))×(List (List Int)))(p1:List Bool):Option ((List Bool)):=
 (I8 ((p1).length:Int) (false:Bool)).bind fun K=>
 Option.bind (iter (Q8 fuel p0 p1) fuel (K,0)) fun O=>
 some O
def RX(fuel:Nat)(p0:(List (List Int))×(List (List Int)))(p1:Int)(K:(List Bool)×Int):Option (AV ((List Bool)×Int) ((List Bool))):=
 if K.2<p1 then(
  (f119 fuel p0 K.1).bind fun O=>
  (Av (K.2+1)).bind fun U=>
  some (.more (O,U))
 ) else(
  some (.done K.1)
 )
def f82(fuel:Nat)(p0:(List (List Int))×(List (List Int)))(p1:Int):Option ((List Bool)):=
 (I8 ((p0.1).length:Int) (false:Bool)).bind fun K=>
 (ix K (0)).bind fun U=>
 Option.bind (iter (RX fuel p0 p1) fuel ((K.set (Int.toNat 0) true),0)) fun O=>
 some O
def Qc(fuel:Nat)(p0:List Int)(p1:Int)(K:Int):Option (AV (Int) ((Bool)⊕(Unit))):=
 if K<((p0).length:Int) then(
  (ix p0 (K)).bind fun O=>
  if O=p1 then(
   some (.done (Sum.inl true))
  ) else(
   (Av (K+1)).bind fun U=>
   some (.more U)
  )
 ) else(
  some (.done (Sum.inr ()))
 )
def f137(fuel:Nat)(p0:List Int)(p1:Int):Option (Bool):=
 Option.bind (iter (Qc fuel p0 p1) fuel 0) fun K=>
 Sum.elim (fun r=>some r) (fun O=>
 some false
 ) K
def Q9(fuel:Nat)(p0:(List (List Int))×(List (List Int)))(p1:List (Int×Int))(p2:Int)(p3:Int)(p4:Int)(K:Int×Int):Option (AV (Int×Int) ((Int)⊕(Int))):=
 if K.2<((p1).length:Int) then(
  Option.bind (
   (ix p1 (K.2)).bind fun O=>
   Option.bind (
    if O.1≠p3 then(
     some true
    ) else(
     some (decide (O.2=p4))
    )
   ) fun U=>
   if U=true then(
    some (Sum.inr K.1)
   ) else(
    Option.bind (
     if K.2=p2 then(
      some true
     ) else(
      (ix p0.2 (p4)).bind fun W=>
      (f137 fuel W O.2).bind fun Z=>
      some (!Z)
     )
    ) fun aa=>
    if aa=true then(
     some (Sum.inl 100)
    ) else(
     (Av (K.1+1)).bind fun ab=>
     some (Sum.inr ab)
    )
   )
  ) fun ae=>Sum.elim (fun r=>some (.done (Sum.inl r))) (fun ag=>
  (Av (K.2+1)).bind fun ah=>
  some (.more (ag,ah))
  ) ae
 ) else(
  some (.done (Sum.inr K.1))
 )
def f118(fuel:Nat)(p0:(List (List Int))×(List (List Int)))(p1:List (Int×Int))(p2:Int)(p3:Int)(p4:Int):Option (Int):=
 Option.bind (iter (Q9 fuel p0 p1 p2 p3 p4) fuel (0,0)) fun K=>
 Sum.elim (fun r=>some r) (fun O=>
 some O
 ) K
def Q5(fuel:Nat)(p0:(List (List Int))×(List (List Int)))(U:(List Bool))(W:(List Bool))(K:Int)(O:Int):Option (AV (Int) ((Bool)⊕(Unit))):=
 (ix p0.2 (K)).bind fun Z=>
 if O<((Z).length:Int) then(
  (ix U (K)).bind fun aa=>
  Option.bind (
   if aa=true then(
    (ix p0.2 (K)).bind fun ab=>
    (ix ab (O)).bind fun ae=>
    (ix W (ae)).bind fun ag=>
    some ag
   ) else(
    some false
   )
  ) fun ah=>
  if ah=true then(
   some (.done (Sum.inl true))
  ) else(
   (Av (O+1)).bind fun ai=>
   some (.more ai)
  )
 ) else(
  some (.done (Sum.inr ()))
 )
def Qg(fuel:Nat)(p0:(List (List Int))×(List (List Int)))(O:(List Bool))(U:(List Bool))(K:Int):Option (AV (Int) ((Bool)⊕(Unit))):=
 if K<((O).length:Int) then(
  (ix O (K)).bind fun W=>
  Option.bind (
   if W=true then(
    (ix U (K)).bind fun Z=>
    some Z
   ) else(
    some false
   )
  ) fun aa=>
  if aa=true then(
   some (.done (Sum.inl true))
  ) else(
   Option.bind (iter (Q5 fuel p0 O U K) fuel 0) fun ab=>
   Sum.elim (fun r=>some (.done (Sum.inl r))) (fun ag=>
   (Av (K+1)).bind fun ae=>
   some (.more ae)
   ) ab
  )
 ) else(
  some (.done (Sum.inr ()))
 )
def f110(fuel:Nat)(p0:(List (List Int))×(List (List Int)))(p1:Int)(p2:Int):Option (Bool):=
 (f82 fuel p0 p1).bind fun K=>
 (f82 fuel p0 p2).bind fun O=>
 Option.bind (iter (Qg fuel p0 K O) fuel 0) fun U=>
 Sum.elim (fun r=>some r) (fun W=>
 some false
 ) U
def RI(fuel:Nat)(p0:(List (List Int))×(List (List Int)))(p1:Int)(K:Int):Option (AV (Int) (Int)):=
 (f110 fuel p0 p1 K).bind fun O=>
 if(!O)=true then(
  (Av (K+1)).bind fun U=>
  some (.more U)
 ) else(
  some (.done K)
 )
def f58(fuel:Nat)(p0:(List (List Int))×(List (List Int)))(p1:Int):Option (Int×Int):=
 (f68 fuel p0).bind fun K=>
 if K≠0 then(
  some (0,K)
 ) else(
  (f104 fuel p1 0 12).bind fun O=>
  if(!O)=true then(
   some (0,1)
  ) else(
   Option.bind (iter (RI fuel p0 p1) fuel 0) fun U=>
   some (U,0)
  )
 )
def RE(fuel:Nat)(p0:(List (List Int))×(List (List Int)))(p2:List (List (List Int)))(K:Int×Int×(List Int)×Int)(W:Int)(O:Int):Option (AV (Int) (Int)):=
 (ix p0.1 (K.1)).bind fun Z=>
 if O<((Z).length:Int) then(
  (ix p0.1 (K.1)).bind fun aa=>
  (ix aa (O)).bind fun U=>
  (ix p2 (K.2.2.2)).bind fun ab=>
  (ix ab (U)).bind fun ae=>
  (ix ae (W)).bind fun ag=>
  if 0<ag then(
   some (.done U)
  ) else(
   (Av (O+1)).bind fun ah=>
   some (.more ah)
  )
 ) else(
  some (.done K.1)
 )
def Sm(fuel:Nat)(p0:(List (List Int))×(List (List Int)))(p1:List (Int×Int))(p2:List (List (List Int)))(K:Int×Int×(List Int)×Int):Option (AV (Int×Int×(List Int)×Int) ((List Int))):=
 if K.2.2.2<((p2).length:Int) then(
  (Av (K.2.2.2 - 1)).bind fun W=>
  (f118 fuel p0 p1 (-1) W K.1).bind fun Z=>
  (Av (K.2.1 - Z)).bind fun O=>
  Option.bind (iter (RE fuel p0 p2 K O) fuel 0) fun U=>
  (room K.2.2.1 U).bind fun aa=>
  (Av (K.2.2.2+1)).bind fun ab=>
  some (.more (U,O,aa,ab))
 ) else(
  some (.done K.2.2.1)
 )
def f83(fuel:Nat)(p0:(List (List Int))×(List (List Int)))(p1:List (Int×Int))(p2:List (List (List Int)))(p3:Int)(p4:Int):Option ((List Int)):=
 Option.bind (iter (Sm fuel p0 p1 p2) fuel (p3,p4,([p3]:List Int),1)) fun K=>
 some K
def Qx(fuel:Nat)(p0:List (List Int))(p1:Int)(K:Int×Int):Option (AV (Int×Int) (Int)):=
 if K.2<((p0).length:Int) then(
  (ix p0 (K.2)).bind fun O=>
  (ix O (p1)).bind fun U=>
  (Av (K.1+U)).bind fun W=>
  (Av (K.2+1)).bind fun Z=>
  some (.more (W,Z))
 ) else(
  some (.done K.1)
 )
def f105(fuel:Nat)(p0:List (List Int))(p1:Int):Option (Int):=
 Option.bind (iter (Qx fuel p0 p1) fuel (0,0)) fun K=>
 some K
def f71(fuel:Nat):Option (((List (List Int))×(List (List Int)))):=
 some (([([1]:List Int),([2]:List Int),([3,4]:List Int),([4]:List Int),([5]:List Int),([5]:List Int)]:List (List Int)),([[],[],[],([2]:List Int),([2,3]:List Int),([3,4]:List Int)]:List (List Int)))
theorem FY{fuel:Nat}{r:((List (List Int))×(List (List Int)))}(al:f71 fuel=some r):Au J 71 [] E [] (fun w E' B'=>∃(am:Option Addr) (an:Nat) (ao:Option Addr) (ap:Nat),w= .agg #[.slice am (r.1).length an,.slice ao (r.2).length ap]∧B'= []∧Aq (rL rI) E' am an (r.1)∧Aq (rL rI) E' ao ap (r.2)):=by
 refine Au.en func71 rfl rfl fun Q bN cs H aC aD=>?_;unfold f71 at al;refine JL.go 2 rfl ?_;refine JS.alloc rfl rfl rfl aC (AM type24) fun K aE=>?_;refine JL.go 3 rfl ?_;refine JS.lit (pp:=rI) [iV 1] [1] rfl rfl rfl underlying28 (Ah type3) (AM type3) (by decide) rfl rfl rfl ⟨rfl,trivial⟩ aE fun aF aq aG aH=>?_;refine JS.lit (pp:=rI) [iV 2] [2] rfl rfl rfl underlying28 (Ah type3) (AM type3) (by decide) rfl rfl rfl ⟨rfl,trivial⟩ aH fun aI ar aJ aK=>?_;refine JS.norm (S':= [[],[(K,.cells #[.slice none 0 0,.slice none 0 0] 24 (0,0))],aq,ar]) rfl aK fun aL=>?_;refine JS.lit (pp:=rI) [iV 3,iV 4] [3,4] rfl rfl rfl underlying28 (Ah type3) (AM type3) (by decide) rfl rfl rfl ⟨rfl,rfl,trivial⟩ aL fun aM au aN aO=>?_;refine JS.lit (pp:=rI) [iV 4] [4] rfl rfl rfl underlying28 (Ah type3) (AM type3) (by decide) rfl rfl rfl ⟨rfl,trivial⟩ aO fun aP av aQ aR=>?_;refine JS.lit (pp:=rI) [iV 5] [5] rfl rfl rfl underlying28 (Ah type3) (AM type3) (by decide) rfl rfl rfl ⟨rfl,trivial⟩ aR fun aS aw aT aU=>?_;refine JS.norm (S':= [[],[(K,.cells #[.slice none 0 0,.slice none 0 0] 24 (0,0))],aq,ar,au,av,aw]) rfl aU fun aV=>?_;refine JS.lit (pp:=rI) [iV 5] [5] rfl rfl rfl underlying28 (Ah type3) (AM type3) (by decide) rfl rfl rfl ⟨rfl,trivial⟩ aV fun aW ay aX aY=>?_;refine JS.BC 2 aG aY rfl fun bO W aZ a0=>?_;refine JS.BC 3 (aJ.mono W) a0 rfl fun bP Z a1 a2=>?_;refine JS.norm (S':= [[],[(K,.cells #[.slice none 0 0,.slice none 0 0] 24 (0,0))],[],[],au,av,aw,ay]) rfl a2 fun a3=>?_;refine JS.BC 4 (aN.mono (W.trans Z)) a3 rfl fun bQ aa a4 a5=>?_;refine JS.BC 5 (aQ.mono ((W.trans Z).trans aa)) a5 rfl fun bR ab a6 a7=>?_;refine JS.BC 6 (aT.mono (((W.trans Z).trans aa).trans ab)) a7 rfl fun bS ae a8 a9=>?_;refine JS.norm (S':= [[],[(K,.cells #[.slice none 0 0,.slice none 0 0] 24 (0,0))],[],[],[],[],[],ay]) rfl a9 fun ba=>?_;refine JS.BC 7 (aX.mono ((((W.trans Z).trans aa).trans ab).trans ae)) ba rfl fun bT ag bb bc=>?_;refine JS.lit (pp:=(rL rI)) [.slice (some ⟨aF,0,none⟩) (([1]:List Int)).length 1,.slice (some ⟨aI,0,none⟩) (([2]:List Int)).length 1,.slice (some ⟨aM,0,none⟩) (([3,4]:List Int)).length 2,.slice (some ⟨aP,0,none⟩) (([4]:List Int)).length 1,.slice (some ⟨aS,0,none⟩) (([5]:List Int)).length 1,.slice (some ⟨aW,0,none⟩) (([5]:List Int)).length 1] [([1]:List Int),([2]:List Int),([3,4]:List Int),([4]:List Int),([5]:List Int),([5]:List Int)] rfl rfl rfl underlying22 (Ah type28) (AM type28) (by decide) rfl rfl rfl ⟨⟨_,_,rfl,(aZ.mono ((((Z.trans aa).trans ab).trans ae).trans ag))⟩,⟨_,_,rfl,(a1.mono (((aa.trans ab).trans ae).trans ag))⟩,⟨_,_,rfl,(a4.mono ((ab.trans ae).trans ag))⟩,⟨_,_,rfl,(a6.mono (ae.trans ag))⟩,⟨_,_,rfl,(a8.mono ag)⟩,⟨_,_,rfl,bb⟩,trivial⟩ bc fun O ak bd bf=>?_;refine JS.lit (pp:=rI) [iV 2] [2] rfl rfl rfl underlying28 (Ah type3) (AM type3) (by decide) rfl rfl rfl ⟨rfl,trivial⟩ bf fun bg bh bi bj=>?_;refine JS.norm (S':= [[],[(K,.cells #[.slice none 0 0,.slice none 0 0] 24 (0,0))],[],[],[],[],[],[],ak,bh]) rfl bj fun bk=>?_;refine JS.lit (pp:=rI) [iV 2,iV 3] [2,3] rfl rfl rfl underlying28 (Ah type3) (AM type3) (by decide) rfl rfl rfl ⟨rfl,rfl,trivial⟩ bk fun bl bm bn bo=>?_;refine JS.lit (pp:=rI) [iV 3,iV 4] [3,4] rfl rfl rfl underlying28 (Ah type3) (AM type3) (by decide) rfl rfl rfl ⟨rfl,rfl,trivial⟩ bo fun bp bq br bu=>?_;refine JS.BC 9 bi bu rfl fun bU ah bv bw=>?_;refine JS.norm (S':= [[],[(K,.cells #[.slice none 0 0,.slice none 0 0] 24 (0,0))],[],[],[],[],[],[],ak,[],bm,bq]) rfl bw fun bx=>?_;refine JS.BC 10 (bn.mono ah) bx rfl fun bV ai bz bA=>?_;refine JS.BC 11 (br.mono (ah.trans ai)) bA rfl fun bW aj bB bC=>?_;refine JS.lit (pp:=(rL rI)) [.slice none 0 0,.slice none 0 0,.slice none 0 0,.slice (some ⟨bg,0,none⟩) (([2]:List Int)).length 1,.slice (some ⟨bl,0,none⟩) (([2,3]:List Int)).length 2,.slice (some ⟨bp,0,none⟩) (([3,4]:List Int)).length 2] [[],[],[],([2]:List Int),([2,3]:List Int),([3,4]:List Int)] rfl rfl rfl underlying22 (Ah type28) (AM type28) (by decide) rfl rfl rfl ⟨⟨_,_,rfl,Aq.nil⟩,⟨_,_,rfl,Aq.nil⟩,⟨_,_,rfl,Aq.nil⟩,⟨_,_,rfl,(bv.mono (ai.trans aj))⟩,⟨_,_,rfl,(bz.mono aj)⟩,⟨_,_,rfl,bB⟩,trivial⟩ bC fun U bD bE bF=>?_;refine JS.norm (S':= [[],[(K,.cells #[.slice none 0 0,.slice none 0 0] 24 (0,0))],[],[],[],[],[],[],ak,[],[],[],bD]) rfl bF fun bG=>?_;refine JL.Y (v:= .agg #[.slice (some ⟨O,0,none⟩) (([([1]:List Int),([2]:List Int),([3,4]:List Int),([4]:List Int),([5]:List Int),([5]:List Int)]:List (List Int))).length 6,.slice (some ⟨U,0,none⟩) (([[],[],[],([2]:List Int),([2,3]:List Int),([3,4]:List Int)]:List (List Int))).length 6]) rfl (fun ρ h=>Yl.BW [(0,1),(1,1)] h (AM type24) underlying24 ⟨rfl,Ah type22,rfl,Ah type22,trivial⟩ rfl rfl) ?_;refine JS.st (v:= .agg #[.slice (some ⟨O,0,none⟩) (([([1]:List Int),([2]:List Int),([3,4]:List Int),([4]:List Int),([5]:List Int),([5]:List Int)]:List (List Int))).length 6,.slice (some ⟨U,0,none⟩) (([[],[],[],([2]:List Int),([2,3]:List Int),([3,4]:List Int)]:List (List Int))).length 6]) (off:=0) 1 bG (Ah type24) rfl rfl rfl rfl fun bH=>?_;refine JL.done ?_;refine JS.BC 8 (bd.mono ((ah.trans ai).trans aj)) bH rfl fun bX az bI bJ=>?_;refine JS.BC 12 (bE.mono az) bJ rfl fun bY aA bK bL=>?_;refine JS.norm (S':= [[],[(K,.cells #[.slice (some ⟨O,0,none⟩) (([([1]:List Int),([2]:List Int),([3,4]:List Int),([4]:List Int),([5]:List Int),([5]:List Int)]:List (List Int))).length 6,.slice (some ⟨U,0,none⟩) (([[],[],[],([2]:List Int),([2,3]:List Int),([3,4]:List Int)]:List (List Int))).length 6] 24 (0,0))],[],[],[],[],[],[],[],[],[],[],[]]) rfl bL fun aB=>?_;obtain rfl:=oi al;refine JL.ret (v:= .agg #[.slice (some ⟨O,0,none⟩) (([([1]:List Int),([2]:List Int),([3,4]:List Int),([4]:List Int),([5]:List Int),([5]:List Int)]:List (List Int))).length 6,.slice (some ⟨U,0,none⟩) (([[],[],[],([2]:List Int),([2,3]:List Int),([3,4]:List Int)]:List (List Int))).length 6]) rfl rfl (Bm.list func71 rfl (vs:= [.agg #[.slice (some ⟨O,0,none⟩) (([([1]:List Int),([2]:List Int),([3,4]:List Int),([4]:List Int),([5]:List Int),([5]:List Int)]:List (List Int))).length 6,.slice (some ⟨U,0,none⟩) (([[],[],[],([2]:List Int),([2,3]:List Int),([3,4]:List Int)]:List (List Int))).length 6]]) ⟨⟨_,rfl,Ld.many (vs:= [.slice (some ⟨O,0,none⟩) (([([1]:List Int),([2]:List Int),([3,4]:List Int),([4]:List Int),([5]:List Int),([5]:List Int)]:List (List Int))).length 6,.slice (some ⟨U,0,none⟩) (([[],[],[],([2]:List Int),([2,3]:List Int),([3,4]:List Int)]:List (List Int))).length 6]) (Ao underlying24) (Ah type24) (Dv (off:=0) 1 aB rfl rfl)⟩,trivial⟩) ?_;refine Fj 1 aB rfl fun bM=>?_;exact aD _ _ _ _ ((((((((((W.trans Z).trans aa).trans ab).trans ae).trans ag).trans ah).trans ai).trans aj).trans az).trans aA) rfl ⟨(some ⟨O,0,none⟩),6,(some ⟨U,0,none⟩),6,rfl,rfl,(bI.mono aA),bK⟩ bM
def f72(fuel:Nat):Option ((List (Int×Int))):=
 some ([(0,2),(1,4)]:List (Int×Int))
theorem Kk{fuel:Nat}{r:(List (Int×Int))}(K:f72 fuel=some r):Au J 72 [] E [] (fun w E' B'=>∃(O:Option Addr) (U:Nat),w= .slice O (r).length U∧B'= []∧Aq (rP rI rI) E' O U (r)):=by
 refine Au.en func72 rfl rfl fun Q aj cs H W Z=>?_;unfold f72 at K;refine JL.go 6 rfl ?_;refine JL.Y (v:= .agg #[iV 0,iV 2]) rfl (fun ρ h=>Yl.BW [(0,1),(1,1)] h (AM type27) underlying27 ⟨rfl,Ah type3,rfl,Ah type3,trivial⟩ rfl rfl) ?_;refine JL.Y (v:= .agg #[iV 1,iV 4]) rfl (fun ρ h=>Yl.BW [(0,1),(1,1)] h (AM type27) underlying27 ⟨rfl,Ah type3,rfl,Ah type3,trivial⟩ rfl rfl) ?_;refine JS.lit (pp:=(rP rI rI)) [.agg #[iV 0,iV 2],.agg #[iV 1,iV 4]] [(0,2),(1,4)] rfl rfl rfl underlying25 (Ah type27) (AM type27) (by decide) rfl rfl rfl ⟨⟨_,_,rfl,rfl,rfl⟩,⟨_,_,rfl,rfl,rfl⟩,trivial⟩ W fun aa ak ab ae=>?_;refine JL.go 2 rfl ?_;refine JS.BC 1 ab ae rfl fun al ag ah ai=>?_;obtain rfl:=oi K;refine JL.rt func72 rfl rfl ?_;exact Z _ _ _ _ ag rfl ⟨(some ⟨aa,0,none⟩),2,rfl,rfl,ah⟩ ai
def f73(fuel:Nat):Option ((List (Int×Int))):=
 some ([(0,3),(1,3)]:List (Int×Int))
theorem NF{fuel:Nat}{r:(List (Int×Int))}(K:f73 fuel=some r):Au J 73 [] E [] (fun w E' B'=>∃(O:Option Addr) (U:Nat),w= .slice O (r).length U∧B'= []∧Aq (rP rI rI) E' O U (r)):=by
 refine Au.en func73 rfl rfl fun Q aj cs H W Z=>?_;unfold f73 at K;refine JL.go 6 rfl ?_;refine JL.Y (v:= .agg #[iV 0,iV 3]) rfl (fun ρ h=>Yl.BW [(0,1),(1,1)] h (AM type27) underlying27 ⟨rfl,Ah type3,rfl,Ah type3,trivial⟩ rfl rfl) ?_;refine JL.Y (v:= .agg #[iV 1,iV 3]) rfl (fun ρ h=>Yl.BW [(0,1),(1,1)] h (AM type27) underlying27 ⟨rfl,Ah type3,rfl,Ah type3,trivial⟩ rfl rfl) ?_;refine JS.lit (pp:=(rP rI rI)) [.agg #[iV 0,iV 3],.agg #[iV 1,iV 3]] [(0,3),(1,3)] rfl rfl rfl underlying25 (Ah type27) (AM type27) (by decide) rfl rfl rfl ⟨⟨_,_,rfl,rfl,rfl⟩,⟨_,_,rfl,rfl,rfl⟩,trivial⟩ W fun aa ak ab ae=>?_;refine JL.go 2 rfl ?_;refine JS.BC 1 ab ae rfl fun al ag ah ai=>?_;obtain rfl:=oi K;refine JL.rt func73 rfl rfl ?_;exact Z _ _ _ _ ag rfl ⟨(some ⟨aa,0,none⟩),2,rfl,rfl,ah⟩ ai
end Pal
namespace Pal
open Go Go.Conc Go.Proofs
open Go.Proofs.Tryz
variable {J:Judge Tryz.prog}{E:LH}
def f103(fuel:Nat)(p0:Nat)(p1:Int):Option (Bool):=
 (HR p0 p1).bind fun K=>
 (G3 (K) (1)).bind fun O=>
 some (decide ((((O):Nat):Int)=(((1):Nat):Int)))
theorem Kc{p0:Nat}{p1:Int}{fuel:Nat}{r:Bool}(K:f103 fuel p0 p1=some r):Au J 103 [.int .u16 ((p0:Nat):Int),iV p1] E [] (fun w E' B'=>w= .bool r∧B'= []):=by
 refine Au.en func103 rfl rfl fun Q ah cs H O U=>?_;unfold f103 at K;obtain⟨W,Z,aa⟩:=bs K;refine JL.go 8 rfl ?_;refine JL.Y (v:= .int .u16 ((W:Nat):Int)) rfl (fun ρ h=>Yl.Tl (h _ _ rfl) (h _ _ rfl) Z) ?_;obtain⟨ab,ae,ag⟩:=bs aa;refine JL.Y (v:= .int .u16 ((ab:Nat):Int)) rfl (fun ρ h=>Yl.Ke (h _ _ rfl) (h _ _ rfl) ae) ?_;refine JL.go 3 rfl ?_;obtain rfl:=oi ag;refine JL.rt func103 rfl rfl ?_;exact U _ _ _ _ (Le.refl _) rfl ⟨rfl,rfl⟩ O
def f90(fuel:Nat)(p0:Nat)(p1:Int):Option (Nat):=
 (HD p1).bind fun K=>
 (Gv (p0) (K)).bind fun O=>
 some O
theorem Jc{p0:Nat}{p1:Int}{fuel:Nat}{r:Nat}(K:f90 fuel p0 p1=some r):Au J 90 [.int .u16 ((p0:Nat):Int),iV p1] E [] (fun w E' B'=>w= .int .u16 ((r:Nat):Int)∧B'= []):=by
 refine Au.en func90 rfl rfl fun Q ah cs H O U=>?_;unfold f90 at K;obtain⟨W,Z,aa⟩:=bs K;refine JL.go 8 rfl ?_;refine JL.Y (v:= .int .u16 ((W:Nat):Int)) rfl (fun ρ h=>Yl.Tq (h _ _ rfl) (h _ _ rfl) Z) ?_;obtain⟨ab,ae,ag⟩:=bs aa;refine JL.Y (v:= .int .u16 ((ab:Nat):Int)) rfl (fun ρ h=>Yl.Hu (h _ _ rfl) (h _ _ rfl) ae) ?_;refine JL.go 2 rfl ?_;obtain rfl:=oi ag;refine JL.rt func90 rfl rfl ?_;exact U _ _ _ _ (Le.refl _) rfl ⟨rfl,rfl⟩ O
def ID(fuel:Nat)(p0:Nat)(K:(List Int)×Int):Option (AV ((List Int)×Int) ((List Int))):=
 if K.2<16 then(
  (f103 fuel p0 K.2).bind fun O=>
  Option.bind (
   if O=true then(
    (room K.1 K.2).bind fun U=>
    some U
   ) else(
    some K.1
   )
  ) fun W=>
  (Av (K.2+1)).bind fun Z=>
  some (.more (W,Z))
 ) else(
  some (.done K.1)
 )
def f89(fuel:Nat)(p0:Nat):Option ((List Int)):=
 Option.bind (iter (ID fuel p0) fuel ([],0)) fun K=>
 some K
theorem FZ{p0:Nat}{fuel:Nat}{r:(List Int)}(av:f89 fuel p0=some r):Au J 89 [.int .u16 ((p0:Nat):Int)] E [] (fun w E' B'=>∃(aw:Option Addr) (ay:Nat),w= .slice aw (r).length ay∧B'= []∧Aq rI E' aw ay (r)):=by
 refine Au.en func89 rfl rfl fun Q bd cs H aJ aK=>?_;unfold f89 at av;obtain⟨az,aL,aM⟩:=bs av;refine JL.go 13 rfl ?_;refine JL.join (fun L s=>∃(aj:LH) (Z:Option Addr) (aa:Nat) (ak:Seg),Jn E H aj [ak] [(3,.slice Z (az).length aa)] L s (OL 3 rI aj Z aa ak (az))) ?_ ?_
 ·rintro _ _ ⟨aj,Z,aa,ak,rfl,rfl,aN,aO,aP⟩;refine JL.go 5 rfl ?_;refine JS.BC 0 aP aO rfl fun bf aQ aR aS=>?_;obtain rfl:=oi aM;refine JL.rt func89 rfl rfl ?_;exact aK _ _ _ _ (aN.trans aQ) rfl ⟨Z,aa,rfl,rfl,aR⟩ aS
 ·intro aT;refine JL.block ?_;refine JL.wk [(0,.int .u16 ((p0:Nat):Int)),(3,.slice none 0 0),(5,iV 0)] rfl ?_;refine JL.Bi aL (fun L s K=>∃(ab:LH) (O:Option Addr) (U:Nat) (W:Seg),Jn E H ab [W] [(0,.int .u16 ((p0:Nat):Int)),(3,.slice O (K.1).length U),(5,iV K.2)] L s (OL 3 rI ab O U W (K.1))) ⟨E,none,0,[],rfl,rfl,(Le.refl _),aJ,OL.nil⟩ ?_;rintro _ _ K ⟨ab,O,U,W,rfl,rfl,aA,aB,al⟩ aU ⟨bg,am⟩ aV;have an:=am;unfold ID at an;refine JL.go 5 rfl ?_;refine JL.ifs (p:=K.2<16) rfl (fun ao=>?_) (fun ao=>?_)
  ·have aC:=an;rw [if_pos ao] at aC;obtain⟨aW,aX,aY⟩:=bs aC;refine JL.go 12 rfl ?_;refine JS.cl (Kc aX) rfl rfl (Ay func103 rfl) aB ?_;rintro _ ap _ aq ⟨rfl,rfl⟩ aD;obtain⟨ar,aE,aZ⟩:=bs aY;refine JL.done ?_;refine JL.join (fun L s=>∃(ae:LH) (ag:Option Addr) (ah:Nat) (ai:Seg),Jn ap H ae [ai] [(0,.int .u16 ((p0:Nat):Int)),(3,.slice ag (ar).length ah),(5,iV K.2)] L s (OL 3 rI ae ag ah ai (ar))) ?_ ?_
   ·rintro _ _ ⟨ae,ag,ah,ai,rfl,rfl,a0,a1,a2⟩;obtain⟨a3,a4,a5⟩:=bs aZ;refine JL.go 2 rfl ?_;refine JL.Y rfl (fun ρ h=>Yl.A0 (h _ _ rfl) (h _ _ rfl) a4) ?_;refine JL.go 2 rfl ?_;obtain rfl:=oi a5;exact JL.kw (aV _ _ (ar,a3) ⟨ae,ag,ah,ai,rfl,rfl,((aA.trans aq).trans a0),a1,a2⟩ am) rfl
   ·intro aF;refine JL.split (t:=aW) rfl (fun au=>?_) (fun au=>?_)
    ·have aG:=aE;rw [if_pos au] at aG;obtain⟨bh,a6,a7⟩:=bs aG;refine JL.go 3 rfl ?_;refine JS.app (pp:=rI) (v:=iV K.2) (a:=O) (c:=U) 0 a6 rfl rfl rfl rfl (fun _=>rfl) rfl (fun _=>rfl) rfl rfl rfl underlying28 underlying28 underlying28 (Ah type3) (Ct type3) (AM type3) rfl (by decide) (by decide) (by decide) (by decide) (al.mono aq) rfl aD rfl fun bi a8 a9 ba bb bc=>?_;refine JL.go 2 rfl ?_;obtain rfl:=oi a7;exact JL.kw (aF _ _ ⟨ap,a8,a9,ba,rfl,rfl,(Le.refl _),bc,bb⟩) rfl
    ·have aH:=aE;rw [if_neg (by rw [au];exact Bool.false_ne_true)] at aH;refine JL.skip ?_;obtain rfl:=oi aH;exact JL.kw (aF _ _ ⟨ap,O,U,W,rfl,rfl,(Le.refl _),aD,(al.mono aq)⟩) rfl
  ·have aI:=an;rw [if_neg ao] at aI;refine JL.exit rfl ?_;obtain rfl:=oi aI;obtain rfl:=aU _ am;exact JL.kw (aT _ _ ⟨ab,O,U,W,rfl,rfl,aA,aB,al⟩) rfl
def IA(fuel:Nat)(p0:List Int)(K:Nat×Int):Option (AV (Nat×Int) (Nat)):=
 if K.2<((p0).length:Int) then(
  (ix p0 (K.2)).bind fun O=>
  (f90 fuel K.1 O).bind fun U=>
  (Av (K.2+1)).bind fun W=>
  some (.more (U,W))
 ) else(
  some (.done K.1)
 )
def f120(fuel:Nat)(p0:List Int):Option (Nat):=
 Option.bind (iter (IA fuel p0) fuel (0,0)) fun K=>
 some K
theorem GN{K:Option Addr}{c2:Nat}{p0:List Int}(al:Aq rI E K c2 (p0)){fuel:Nat}{r:Nat}(ag:f120 fuel p0=some r):Au J 120 [.slice K (p0).length c2] E [] (fun w E' B'=>w= .int .u16 ((r:Nat):Int)∧B'= []):=by
 refine Au.en func120 rfl rfl fun Q aN cs H am an=>?_;unfold f120 at ag;refine JL.go 12 rfl ?_;refine JL.Y rfl (fun ρ h=>Yl.len rfl underlying28 (h _ _ rfl)) ?_;obtain⟨ao,ap,aq⟩:=bs ag;refine JL.go 2 rfl ?_;refine JL.join (fun L s=>∃(ah:LH),Jm E H ah [] [(3,.int .u16 ((ao:Nat):Int))] L s) ?_ ?_
 ·rintro _ _ ⟨ah,rfl,rfl,ar,au⟩;refine JL.go 5 rfl ?_;obtain rfl:=oi aq;refine JL.rt func120 rfl rfl ?_;exact an _ _ _ _ ar rfl ⟨rfl,rfl⟩ au
 ·intro av;refine JL.block ?_;refine JL.wk [(3,.int .u16 ((0:Nat):Int)),(6,.slice K (p0).length c2),(7,iV ((p0).length:Int)),(8,iV 0)] rfl ?_;refine JL.Bi ap (fun L s O=>∃(U:LH),Jm E H U [] [(3,.int .u16 ((O.1:Nat):Int)),(6,.slice K (p0).length c2),(7,iV ((p0).length:Int)),(8,iV O.2)] L s) ⟨E,rfl,rfl,(Le.refl _),am⟩ ?_;rintro _ _ O ⟨U,rfl,rfl,W,ai⟩ aw ⟨aO,Z⟩ ay;have aa:=Z;unfold IA at aa;refine JL.go 5 rfl ?_;refine JL.ifs (p:=O.2<((p0).length:Int)) rfl (fun ab=>?_) (fun ab=>?_)
  ·have aj:=aa;rw [if_pos ab] at aj;obtain⟨az,aA,aB⟩:=bs aj;refine JL.go 5 rfl ?_;refine JS.BI (al.mono W) aA rfl rfl rfl rfl rfl underlying28 (Ah type3) ?_;rintro aC aD _ rfl ae;replace ae:At U aC aD [iV az]:=ae;refine JL.ld 0 ae (Ao underlying3) rfl rfl rfl ?_;obtain⟨aE,aF,aG⟩:=bs aB;refine JL.go 5 rfl ?_;refine JS.cl (Jc aF) rfl rfl (Ay func90 rfl) ai ?_;rintro _ aH _ aI ⟨rfl,rfl⟩ aJ;obtain⟨aK,aL,aM⟩:=bs aG;refine JL.go 4 rfl ?_;refine JL.Y rfl (fun ρ h=>Yl.A0 (h _ _ rfl) (h _ _ rfl) aL) ?_;refine JL.go 2 rfl ?_;obtain rfl:=oi aM;exact JL.kw (ay _ _ (aE,aK) ⟨aH,rfl,rfl,(W.trans aI),aJ⟩ Z) rfl
  ·have ak:=aa;rw [if_neg ab] at ak;refine JL.exit rfl ?_;obtain rfl:=oi ak;obtain rfl:=aw _ Z;exact JL.kw (av _ _ ⟨U,rfl,rfl,W,ai⟩) rfl
def Iv(fuel:Nat)(p0:(List (List Int))×(List (List Int)))(p1:Int)(p2:List Int)(p3:Bool)(K:Int):Option (AV (Int) (((Option (Int×Int)))⊕(Unit))):=
 if K<((p2).length:Int) then(
  (ix p2 (K)).bind fun O=>
  (Av (((p0.1).length:Int) - 1)).bind fun U=>
  (f101 fuel O 0 U).bind fun W=>
  if W=true then(
   some (.done (Sum.inl (some (3,p1))))
  ) else(
   Option.bind (
    if O=p1 then(
     some (!p3)
    ) else(
     some false
    )
   ) fun Z=>
   if Z=true then(
    some (.done (Sum.inl (some (8,p1))))
   ) else(
    Option.bind (
     if 0<K then(
      (Av (K - 1)).bind fun aa=>
      (ix p2 (aa)).bind fun ab=>
      some (decide (O≤ab))
     ) else(
      some false
     )
    ) fun ae=>
    if ae=true then(
     some (.done (Sum.inl (some (5,p1))))
    ) else(
     (Av (K+1)).bind fun ag=>
     some (.more ag)
    )
   )
  )
 ) else(
  some (.done (Sum.inr ()))
 )
def f136(fuel:Nat)(p0:(List (List Int))×(List (List Int)))(p1:Int)(p2:List Int)(p3:Bool):Option ((Option (Int×Int))):=
 Option.bind (iter (Iv fuel p0 p1 p2 p3) fuel 0) fun K=>
 Sum.elim (fun r=>some r) (fun O=>
 some none
 ) K
theorem MX{ah:Option Addr}{c2:Nat}{ai:Option Addr}{aj:Nat}{K:Option Addr}{O:Nat}{p0:(List (List Int))×(List (List Int))}{p1:Int}{p2:List Int}{p3:Bool}(bL:Aq (rL rI) E ah c2 (p0.1))(bM:Aq (rL rI) E ai aj (p0.2))(aI:Aq rI E K O (p2)){fuel:Nat}{r:(Option (Int×Int))}(aJ:f136 fuel p0 p1 p2 p3=some r):Au J 136 [.agg #[.slice ah (p0.1).length c2,.slice ai (p0.2).length aj],iV p1,.slice K (p2).length O,.bool p3] E [] (fun w E' B'=>∃(aK:Value),w=aK∧B'= []∧F5 183 aK (r)):=by
 refine Au.en func136 rfl rfl fun Q bN cs H bc ak=>?_;unfold f136 at aJ;refine JL.go 2 rfl ?_;refine JS.box (v:= .agg #[.slice ah (p0.1).length c2,.slice ai (p0.2).length aj]) rfl rfl rfl bc rfl fun ae bd=>?_;refine JS.Bf 1 bd rfl fun al Z aq bf=>?_;replace aq:At al ae 0 [.slice ah (p0.1).length c2,.slice ai (p0.2).length aj]:=aq;refine JL.go 6 rfl ?_;refine JL.Y rfl (fun ρ h=>Yl.len rfl underlying28 (h _ _ rfl)) ?_;obtain⟨aL,bg,am⟩:=bs aJ;refine JL.go 2 rfl ?_;refine JL.join (fun L s=>∃(aM:Unit) (aN:LH),aL=Sum.inr aM∧Jm al H aN [] [] L s) ?_ ?_
 ·rintro _ _ ⟨aM,aN,rfl,rfl,rfl,bh,bi⟩;have bj:=elim_inr am;refine JL.go 4 rfl ?_;obtain rfl:=oi bj;refine JL.rt func136 rfl rfl ?_;exact ak _ _ _ _ (Z.trans bh) rfl ⟨.nilIface,rfl,rfl,rfl⟩ bi
 ·intro bk;refine JL.block ?_;refine JL.wk [(1,iV p1),(2,.slice K (p2).length O),(3,.bool p3),(4,.pointer (some ⟨ae,0,none⟩)),(11,.slice K (p2).length O),(12,iV ((p2).length:Int)),(13,iV 0)] rfl ?_;refine JL.Bi bg (fun L s W=>∃(an:LH),Jm al H an [] [(1,iV p1),(2,.slice K (p2).length O),(3,.bool p3),(4,.pointer (some ⟨ae,0,none⟩)),(11,.slice K (p2).length O),(12,iV ((p2).length:Int)),(13,iV W)] L s) ⟨al,rfl,rfl,(Le.refl _),bf⟩ ?_;rintro _ _ W ⟨an,rfl,rfl,U,aO⟩ ao ⟨bO,aa⟩ bl;have ar:=aa;unfold Iv at ar;refine JL.go 5 rfl ?_;refine JL.ifs (p:=W<((p2).length:Int)) rfl (fun au=>?_) (fun au=>?_)
  ·have aP:=ar;rw [if_pos au] at aP;obtain⟨av,bm,bn⟩:=bs aP;refine JL.go 6 rfl ?_;refine JS.BI (aI.mono (Z.trans U)) bm rfl rfl rfl rfl rfl underlying28 (Ah type3) ?_;rintro bo bp _ rfl aw;replace aw:At an bo bp [iV av]:=aw;refine JL.ld 0 aw (Ao underlying3) rfl rfl rfl ?_;refine JL.go 7 rfl ?_;refine JL.fd underlying24 (Ah type22) rfl rfl rfl ?_;refine JL.ld 0 (aq.mono U) (Ao underlying22) rfl rfl rfl ?_;refine JL.Y rfl (fun ρ h=>Yl.len rfl underlying22 (h _ _ rfl)) ?_;obtain⟨bP,bq,br⟩:=bs bn;refine JL.Y rfl (fun ρ h=>Yl.A4 (h _ _ rfl) (h _ _ rfl) bq) ?_;obtain⟨bu,bv,aQ⟩:=bs br;refine JS.cl (Gf bv) rfl rfl (Ay func101 rfl) aO ?_;rintro _ ay _ ag ⟨rfl,rfl⟩ az;refine JL.go 2 rfl ?_;refine JL.split (t:=bu) rfl (fun aA=>?_) (fun aA=>?_)
   ·have aR:=aQ;rw [if_pos aA] at aR;refine JL.go 3 rfl ?_;refine JL.Y (v:= .agg #[iV 3,iV p1]) rfl (fun ρ h=>Yl.BW [(0,1),(1,1)] h (AM type183) underlying183 ⟨rfl,Ah type39,rfl,Ah type3,trivial⟩ rfl rfl) ?_;refine JL.Y (v:= .iface 183 (.agg #[iV 3,iV p1])) rfl (fun ρ h=>Yl.De underlying183 (fun _ h=>by cases h) (h _ _ rfl)) ?_;refine JL.go 2 rfl ?_;obtain rfl:=oi aR;obtain rfl:=ao _ aa;have bw:=elim_inl am;obtain rfl:=oi bw;refine JL.rt func136 rfl rfl ?_;exact ak _ _ _ _ ((Z.trans U).trans ag) rfl ⟨.iface 183 (.agg #[iV 3,iV p1]),rfl,rfl,rfl⟩ az
   ·have aS:=aQ;rw [if_neg (by rw [aA];exact Bool.false_ne_true)] at aS;obtain⟨aT,aU,aV⟩:=bs aS;refine JL.go 6 rfl ?_;refine JL.BA [7] (fun L s=>∃(ab:LH),Jm ay H ab [] [(1,iV p1),(2,.slice K (p2).length O),(3,.bool p3),(4,.pointer (some ⟨ae,0,none⟩)),(9,iV W),(10,iV av),(11,.slice K (p2).length O),(12,iV ((p2).length:Int)),(13,iV W),(35,.bool aT)] L s) ?_ ?_
    ·rintro _ _ ⟨ab,rfl,rfl,ap,aB⟩;refine JL.go 2 rfl ?_;refine JL.split (t:=aT) rfl (fun aC=>?_) (fun aC=>?_)
     ·have aW:=aV;rw [if_pos aC] at aW;refine JL.go 3 rfl ?_;refine JL.Y (v:= .agg #[iV 8,iV p1]) rfl (fun ρ h=>Yl.BW [(0,1),(1,1)] h (AM type183) underlying183 ⟨rfl,Ah type39,rfl,Ah type3,trivial⟩ rfl rfl) ?_;refine JL.Y (v:= .iface 183 (.agg #[iV 8,iV p1])) rfl (fun ρ h=>Yl.De underlying183 (fun _ h=>by cases h) (h _ _ rfl)) ?_;refine JL.go 2 rfl ?_;obtain rfl:=oi aW;obtain rfl:=ao _ aa;have bx:=elim_inl am;obtain rfl:=oi bx;refine JL.rt func136 rfl rfl ?_;exact ak _ _ _ _ (((Z.trans U).trans ag).trans ap) rfl ⟨.iface 183 (.agg #[iV 8,iV p1]),rfl,rfl,rfl⟩ aB
     ·have aX:=aV;rw [if_neg (by rw [aC];exact Bool.false_ne_true)] at aX;obtain⟨aY,aZ,a0⟩:=bs aX;refine JL.go 5 rfl ?_;refine JL.BA [11] (fun L s=>∃(aD:LH),Jm ab H aD [] [(1,iV p1),(2,.slice K (p2).length O),(3,.bool p3),(4,.pointer (some ⟨ae,0,none⟩)),(11,.slice K (p2).length O),(12,iV ((p2).length:Int)),(13,iV W),(50,.bool aY)] L s) ?_ ?_
      ·rintro _ _ ⟨aD,rfl,rfl,a1,a2⟩;refine JL.go 2 rfl ?_;refine JL.split (t:=aY) rfl (fun aE=>?_) (fun aE=>?_)
       ·have a3:=a0;rw [if_pos aE] at a3;refine JL.go 3 rfl ?_;refine JL.Y (v:= .agg #[iV 5,iV p1]) rfl (fun ρ h=>Yl.BW [(0,1),(1,1)] h (AM type183) underlying183 ⟨rfl,Ah type39,rfl,Ah type3,trivial⟩ rfl rfl) ?_;refine JL.Y (v:= .iface 183 (.agg #[iV 5,iV p1])) rfl (fun ρ h=>Yl.De underlying183 (fun _ h=>by cases h) (h _ _ rfl)) ?_;refine JL.go 2 rfl ?_;obtain rfl:=oi a3;obtain rfl:=ao _ aa;have bz:=elim_inl am;obtain rfl:=oi bz;refine JL.rt func136 rfl rfl ?_;exact ak _ _ _ _ ((((Z.trans U).trans ag).trans ap).trans a1) rfl ⟨.iface 183 (.agg #[iV 5,iV p1]),rfl,rfl,rfl⟩ a2
       ·have a4:=a0;rw [if_neg (by rw [aE];exact Bool.false_ne_true)] at a4;obtain⟨bA,bB,bC⟩:=bs a4;refine JL.go 4 rfl ?_;refine JL.Y rfl (fun ρ h=>Yl.A0 (h _ _ rfl) (h _ _ rfl) bB) ?_;refine JL.go 2 rfl ?_;obtain rfl:=oi bC;exact JL.kw (bl _ _ bA ⟨aD,rfl,rfl,(((U.trans ag).trans ap).trans a1),a2⟩ aa) rfl
      ·intro a5;refine JL.B5 (q:=0<W) (i:=42) rfl (fun aF=>?_) (fun aF=>?_)
       ·have a6:=aZ;rw [if_pos aF] at a6;obtain⟨bQ,bD,bE⟩:=bs a6;refine JL.go 3 rfl ?_;refine JL.Y rfl (fun ρ h=>Yl.A4 (h _ _ rfl) (h _ _ rfl) bD) ?_;obtain⟨bF,bG,bH⟩:=bs bE;refine JS.BI (aI.mono (((Z.trans U).trans ag).trans ap)) bG rfl rfl rfl rfl rfl underlying28 (Ah type3) ?_;rintro bI bJ _ rfl aG;replace aG:At ab bI bJ [iV bF]:=aG;refine JL.ld 0 aG (Ao underlying3) rfl rfl rfl ?_;refine JL.go 2 rfl ?_;obtain rfl:=oi bH;exact JL.kw (a5 _ _ ⟨ab,rfl,rfl,(Le.refl _),aB⟩) rfl
       ·have a7:=aZ;rw [if_neg aF] at a7;refine JL.go 8 rfl ?_;obtain rfl:=oi a7;exact JL.kw (a5 _ _ ⟨ab,rfl,rfl,(Le.refl _),aB⟩) rfl
    ·intro a8;refine JL.B5 (q:=av=p1) (i:=32) rfl (fun aH=>?_) (fun aH=>?_)
     ·have a9:=aU;rw [if_pos aH] at a9;refine JL.go 1 rfl ?_;refine JL.Y (v:= .bool (!p3)) rfl (fun ρ h=>Yl.not (h _ _ rfl)) ?_;refine JL.go 1 rfl ?_;obtain rfl:=oi a9;exact JL.kw (a8 _ _ ⟨ay,rfl,rfl,(Le.refl _),az⟩) rfl
     ·have ba:=aU;rw [if_neg aH] at ba;refine JL.go 3 rfl ?_;obtain rfl:=oi ba;exact JL.kw (a8 _ _ ⟨ay,rfl,rfl,(Le.refl _),az⟩) rfl
  ·have bb:=ar;rw [if_neg au] at bb;refine JL.exit rfl ?_;obtain rfl:=oi bb;have bK:aL=(Sum.inr ()):=(ao _ aa).symm;exact JL.kw (bk _ _ ⟨(),an,bK,rfl,rfl,U,aO⟩) rfl
def Iq(fuel:Nat)(p0:(List (List Int))×(List (List Int)))(K:Int):Option (AV (Int) (((Option (Int×Int)))⊕(Unit))):=
 if K<((p0.1).length:Int) then(
  (ix p0.1 (K)).bind fun O=>
  if((O).length:Int)=0 then(
   some (.done (Sum.inl (some (7,K))))
  ) else(
   if 3<((O).length:Int) then(
    some (.done (Sum.inl (some (6,K))))
   ) else(
    (f136 fuel p0 K O true).bind fun U=>
    if U.isSome=true then(
     some (.done (Sum.inl U))
    ) else(
     (ix p0.2 (K)).bind fun Z=>
     if 3<((Z).length:Int) then(
      some (.done (Sum.inl (some (6,K))))
     ) else(
      (ix p0.2 (K)).bind fun aa=>
      (f136 fuel p0 K aa false).bind fun W=>
      if W.isSome=true then(
       some (.done (Sum.inl W))
      ) else(
       (Av (K+1)).bind fun ab=>
       some (.more ab)
      )
     )
    )
   )
  )
 ) else(
  some (.done (Sum.inr ()))
 )
def f113(fuel:Nat)(p0:(List (List Int))×(List (List Int))):Option ((Option (Int×Int))):=
 if((p0.1).length:Int)=0 then(
  some (some (7,0))
 ) else(
  if 8<((p0.1).length:Int) then(
   some (some (6,0))
  ) else(
   if((p0.2).length:Int)≠((p0.1).length:Int) then(
    some (some (9,0))
   ) else(
    Option.bind (iter (Iq fuel p0) fuel 0) fun K=>
    Sum.elim (fun r=>some r) (fun O=>
    some none
    ) K
   )
  )
 )
theorem Nl{ae:Option Addr}{c2:Nat}{ai:Option Addr}{aj:Nat}{p0:(List (List Int))×(List (List Int))}(ap:Aq (rL rI) E ae c2 (p0.1))(ak:Aq (rL rI) E ai aj (p0.2)){fuel:Nat}{r:(Option (Int×Int))}(aq:f113 fuel p0=some r):Au J 113 [.agg #[.slice ae (p0.1).length c2,.slice ai (p0.2).length aj]] E [] (fun w E' B'=>∃(aN:Value),w=aN∧B'= []∧F5 183 aN (r)):=by
 refine Au.en func113 rfl rfl fun Q b2 cs H bj Z=>?_;unfold f113 at aq;refine JL.go 2 rfl ?_;refine JS.box (v:= .agg #[.slice ae (p0.1).length c2,.slice ai (p0.2).length aj]) rfl rfl rfl bj rfl fun ar bk=>?_;refine JS.Bf 1 bk rfl fun al O aa am=>?_;replace aa:At al ar 0 [.slice ae (p0.1).length c2,.slice ai (p0.2).length aj]:=aa;refine JL.go 5 rfl ?_;refine JL.fd underlying24 (Ah type22) rfl rfl rfl ?_;refine JL.ld 0 aa (Ao underlying22) rfl rfl rfl ?_;refine JL.Y rfl (fun ρ h=>Yl.len rfl underlying22 (h _ _ rfl)) ?_;refine JL.go 9 rfl ?_;refine JL.ifs (p:=((p0.1).length:Int)=0) rfl (fun au=>?_) (fun au=>?_)
 ·have aO:=aq;rw [if_pos au] at aO;refine JL.go 2 rfl ?_;refine JL.Y (v:= .agg #[iV 7,iV 0]) rfl (fun ρ h=>Yl.BW [(0,1),(1,1)] h (AM type183) underlying183 ⟨rfl,Ah type39,rfl,Ah type3,trivial⟩ rfl rfl) ?_;refine JL.Y (v:= .iface 183 (.agg #[iV 7,iV 0])) rfl (fun ρ h=>Yl.De underlying183 (fun _ h=>by cases h) (h _ _ rfl)) ?_;refine JL.go 2 rfl ?_;obtain rfl:=oi aO;refine JL.rt func113 rfl rfl ?_;exact Z _ _ _ _ O rfl ⟨.iface 183 (.agg #[iV 7,iV 0]),rfl,rfl,rfl⟩ am
 ·have av:=aq;rw [if_neg au] at av;refine JL.go 6 rfl ?_;refine JL.ifs (p:=8<((p0.1).length:Int)) rfl (fun aw=>?_) (fun aw=>?_)
  ·have aP:=av;rw [if_pos aw] at aP;refine JL.go 2 rfl ?_;refine JL.Y (v:= .agg #[iV 6,iV 0]) rfl (fun ρ h=>Yl.BW [(0,1),(1,1)] h (AM type183) underlying183 ⟨rfl,Ah type39,rfl,Ah type3,trivial⟩ rfl rfl) ?_;refine JL.Y (v:= .iface 183 (.agg #[iV 6,iV 0])) rfl (fun ρ h=>Yl.De underlying183 (fun _ h=>by cases h) (h _ _ rfl)) ?_;refine JL.go 2 rfl ?_;obtain rfl:=oi aP;refine JL.rt func113 rfl rfl ?_;exact Z _ _ _ _ O rfl ⟨.iface 183 (.agg #[iV 6,iV 0]),rfl,rfl,rfl⟩ am
  ·have ay:=av;rw [if_neg aw] at ay;refine JL.go 2 rfl ?_;refine JL.fd underlying24 (Ah type22) rfl rfl rfl ?_;refine JL.ld 1 aa (Ao underlying22) rfl rfl rfl ?_;refine JL.Y rfl (fun ρ h=>Yl.len rfl underlying22 (h _ _ rfl)) ?_;refine JL.go 4 rfl ?_;refine JL.ifs (p:=((p0.2).length:Int)≠((p0.1).length:Int)) rfl (fun az=>?_) (fun az=>?_)
   ·have aQ:=ay;rw [if_pos az] at aQ;refine JL.go 2 rfl ?_;refine JL.Y (v:= .agg #[iV 9,iV 0]) rfl (fun ρ h=>Yl.BW [(0,1),(1,1)] h (AM type183) underlying183 ⟨rfl,Ah type39,rfl,Ah type3,trivial⟩ rfl rfl) ?_;refine JL.Y (v:= .iface 183 (.agg #[iV 9,iV 0])) rfl (fun ρ h=>Yl.De underlying183 (fun _ h=>by cases h) (h _ _ rfl)) ?_;refine JL.go 2 rfl ?_;obtain rfl:=oi aQ;refine JL.rt func113 rfl rfl ?_;exact Z _ _ _ _ O rfl ⟨.iface 183 (.agg #[iV 9,iV 0]),rfl,rfl,rfl⟩ am
   ·have aR:=ay;rw [if_neg az] at aR;refine JL.go 5 rfl ?_;refine JL.fd underlying24 (Ah type22) rfl rfl rfl ?_;refine JL.ld 0 aa (Ao underlying22) rfl rfl rfl ?_;refine JL.Y rfl (fun ρ h=>Yl.len rfl underlying22 (h _ _ rfl)) ?_;obtain⟨aS,bl,ag⟩:=bs aR;refine JL.go 2 rfl ?_;refine JL.join (fun L s=>∃(aT:Unit) (aU:LH),aS=Sum.inr aT∧Jm al H aU [] [] L s) ?_ ?_
    ·rintro _ _ ⟨aT,aU,rfl,rfl,rfl,bm,bn⟩;have bo:=elim_inr ag;refine JL.go 4 rfl ?_;obtain rfl:=oi bo;refine JL.rt func113 rfl rfl ?_;exact Z _ _ _ _ (O.trans bm) rfl ⟨.nilIface,rfl,rfl,rfl⟩ bn
    ·intro bp;refine JL.block ?_;refine JL.wk [(1,.pointer (some ⟨ar,0,none⟩)),(30,.slice ae (p0.1).length c2),(31,iV ((p0.1).length:Int)),(32,iV 0)] rfl ?_;refine JL.Bi bl (fun L s U=>∃(an:LH),Jm al H an [] [(1,.pointer (some ⟨ar,0,none⟩)),(30,.slice ae (p0.1).length c2),(31,iV ((p0.1).length:Int)),(32,iV U)] L s) ⟨al,rfl,rfl,(Le.refl _),am⟩ ?_;rintro _ _ U ⟨an,rfl,rfl,K,ao⟩ ah ⟨b3,ab⟩ bq;have aA:=ab;unfold Iq at aA;refine JL.go 5 rfl ?_;refine JL.ifs (p:=U<((p0.1).length:Int)) rfl (fun aB=>?_) (fun aB=>?_)
     ·have aV:=aA;rw [if_pos aB] at aV;obtain⟨aC,br,aW⟩:=bs aV;refine JL.go 6 rfl ?_;refine JS.BI (ap.mono (O.trans K)) br rfl rfl rfl rfl rfl underlying22 (Ah type28) ?_;rintro bu bv _ ⟨bw,bx,rfl,bz⟩ aD;replace aD:At an bu bv [.slice bw (aC).length bx]:=aD;refine JL.ld 0 aD (Ao underlying28) rfl rfl rfl ?_;refine JL.go 7 rfl ?_;refine JL.Y rfl (fun ρ h=>Yl.len rfl underlying28 (h _ _ rfl)) ?_;refine JL.go 2 rfl ?_;refine JL.ifs (p:=((aC).length:Int)=0) rfl (fun aE=>?_) (fun aE=>?_)
      ·have aX:=aW;rw [if_pos aE] at aX;refine JL.go 3 rfl ?_;refine JL.Y (v:= .agg #[iV 7,iV U]) rfl (fun ρ h=>Yl.BW [(0,1),(1,1)] h (AM type183) underlying183 ⟨rfl,Ah type39,rfl,Ah type3,trivial⟩ rfl rfl) ?_;refine JL.Y (v:= .iface 183 (.agg #[iV 7,iV U])) rfl (fun ρ h=>Yl.De underlying183 (fun _ h=>by cases h) (h _ _ rfl)) ?_;refine JL.go 2 rfl ?_;obtain rfl:=oi aX;obtain rfl:=ah _ ab;have bA:=elim_inl ag;obtain rfl:=oi bA;refine JL.rt func113 rfl rfl ?_;exact Z _ _ _ _ (O.trans K) rfl ⟨.iface 183 (.agg #[iV 7,iV U]),rfl,rfl,rfl⟩ ao
      ·have aF:=aW;rw [if_neg aE] at aF;refine JL.go 5 rfl ?_;refine JL.Y rfl (fun ρ h=>Yl.len rfl underlying28 (h _ _ rfl)) ?_;refine JL.go 2 rfl ?_;refine JL.ifs (p:=3<((aC).length:Int)) rfl (fun aG=>?_) (fun aG=>?_)
       ·have aY:=aF;rw [if_pos aG] at aY;refine JL.go 3 rfl ?_;refine JL.Y (v:= .agg #[iV 6,iV U]) rfl (fun ρ h=>Yl.BW [(0,1),(1,1)] h (AM type183) underlying183 ⟨rfl,Ah type39,rfl,Ah type3,trivial⟩ rfl rfl) ?_;refine JL.Y (v:= .iface 183 (.agg #[iV 6,iV U])) rfl (fun ρ h=>Yl.De underlying183 (fun _ h=>by cases h) (h _ _ rfl)) ?_;refine JL.go 2 rfl ?_;obtain rfl:=oi aY;obtain rfl:=ah _ ab;have bB:=elim_inl ag;obtain rfl:=oi bB;refine JL.rt func113 rfl rfl ?_;exact Z _ _ _ _ (O.trans K) rfl ⟨.iface 183 (.agg #[iV 6,iV U]),rfl,rfl,rfl⟩ ao
       ·have aZ:=aF;rw [if_neg aG] at aZ;refine JL.go 4 rfl ?_;refine JL.Bw (aa.mono K) (Ao underlying24) (Ah type24) rfl rfl ?_;obtain⟨a0,bC,a1⟩:=bs aZ;refine JL.go 2 rfl ?_;refine JS.cl (MX (ap.mono (O.trans K)) (ak.mono (O.trans K)) bz bC) rfl rfl (Ay func136 rfl) ao ?_;rintro bD a2 _ W ⟨_,rfl,rfl,a3⟩ aH;refine JL.go 5 rfl ?_;refine JL.Y (v:= .bool a0.isSome) rfl (fun ρ h=>Yl.Kp underlying149 a3 (h _ _ rfl) (h _ _ rfl)) ?_;refine JL.done ?_;refine JL.split (t:=a0.isSome) rfl (fun aI=>?_) (fun aI=>?_)
        ·have a4:=a1;rw [if_pos aI] at a4;refine JL.go 5 rfl ?_;obtain rfl:=oi a4;obtain rfl:=ah _ ab;have bE:=elim_inl ag;obtain rfl:=oi bE;refine JL.rt func113 rfl rfl ?_;exact Z _ _ _ _ ((O.trans K).trans W) rfl ⟨bD,rfl,rfl,a3⟩ aH
        ·have a5:=a1;rw [if_neg (by rw [aI];exact Bool.false_ne_true)] at a5;refine JL.go 4 rfl ?_;refine JL.fd underlying24 (Ah type22) rfl rfl rfl ?_;refine JL.ld 1 (aa.mono (K.trans W)) (Ao underlying22) rfl rfl rfl ?_;obtain⟨a6,bF,a7⟩:=bs a5;refine JL.go 1 rfl ?_;refine JS.BI (ak.mono ((O.trans K).trans W)) bF rfl rfl rfl rfl rfl underlying22 (Ah type28) ?_;rintro bG bH _ ⟨bI,bJ,rfl,b4⟩ aJ;replace aJ:At a2 bG bH [.slice bI (a6).length bJ]:=aJ;refine JL.ld 0 aJ (Ao underlying28) rfl rfl rfl ?_;refine JL.Y rfl (fun ρ h=>Yl.len rfl underlying28 (h _ _ rfl)) ?_;refine JL.go 2 rfl ?_;refine JL.ifs (p:=3<((a6).length:Int)) rfl (fun aK=>?_) (fun aK=>?_)
         ·have a8:=a7;rw [if_pos aK] at a8;refine JL.go 3 rfl ?_;refine JL.Y (v:= .agg #[iV 6,iV U]) rfl (fun ρ h=>Yl.BW [(0,1),(1,1)] h (AM type183) underlying183 ⟨rfl,Ah type39,rfl,Ah type3,trivial⟩ rfl rfl) ?_;refine JL.Y (v:= .iface 183 (.agg #[iV 6,iV U])) rfl (fun ρ h=>Yl.De underlying183 (fun _ h=>by cases h) (h _ _ rfl)) ?_;refine JL.go 2 rfl ?_;obtain rfl:=oi a8;obtain rfl:=ah _ ab;have bK:=elim_inl ag;obtain rfl:=oi bK;refine JL.rt func113 rfl rfl ?_;exact Z _ _ _ _ ((O.trans K).trans W) rfl ⟨.iface 183 (.agg #[iV 6,iV U]),rfl,rfl,rfl⟩ aH
         ·have a9:=a7;rw [if_neg aK] at a9;refine JL.go 2 rfl ?_;refine JG.Di 7 mixed rfl (by decide+kernel) fun ht=>?_;refine JG.Bw 0 ht (aa.mono (K.trans W)) (Ao underlying24) (Ah type24) rfl rfl rfl ?_;refine JG.mv 1 ht rfl rfl ?_;refine JG.fd 2 ht underlying24 (Ah type22) rfl rfl rfl rfl ?_;refine JG.ld 3 ht 1 (aa.mono (K.trans W)) (Ao underlying22) rfl rfl rfl rfl ?_;refine JG.mv 4 ht rfl rfl ?_;obtain⟨bL,bM,bN⟩:=bs a9;refine JG.idx 5 (ak.mono ((O.trans K).trans W)) bM rfl ht (by decide+kernel) rfl rfl rfl rfl rfl underlying22 (Ah type28) ?_;rintro bO bP _ ⟨bQ,bR,rfl,bS⟩ aL;replace aL:At a2 bO bP [.slice bQ (bL).length bR]:=aL;refine JG.ld 6 ht 0 aL (Ao underlying28) rfl rfl rfl rfl ?_;refine Aw.leaf (tail:= [7,8]) (by decide+kernel) (fun t=>A3 (by decide+kernel) (A3 (by decide+kernel) BL) t) ?_;obtain⟨ba,bT,bb⟩:=bs bN;refine JS.cl (MX (ap.mono ((O.trans K).trans W)) (ak.mono ((O.trans K).trans W)) bS bT) rfl rfl (Ay func136 rfl) aH ?_;rintro bU bV _ bc ⟨_,rfl,rfl,bd⟩ bW;refine JS.norm (S':= [[],[]]) rfl bW fun bf=>?_;refine JL.go 5 rfl ?_;refine JL.Y (v:= .bool ba.isSome) rfl (fun ρ h=>Yl.Kp underlying149 bd (h _ _ rfl) (h _ _ rfl)) ?_;refine JL.done ?_;refine JL.split (t:=ba.isSome) rfl (fun aM=>?_) (fun aM=>?_)
          ·have bg:=bb;rw [if_pos aM] at bg;refine JL.go 5 rfl ?_;obtain rfl:=oi bg;obtain rfl:=ah _ ab;have bX:=elim_inl ag;obtain rfl:=oi bX;refine JL.rt func113 rfl rfl ?_;exact Z _ _ _ _ (((O.trans K).trans W).trans bc) rfl ⟨bU,rfl,rfl,bd⟩ bf
          ·have bh:=bb;rw [if_neg (by rw [aM];exact Bool.false_ne_true)] at bh;obtain⟨bY,bZ,b0⟩:=bs bh;refine JL.go 3 rfl ?_;refine JL.Y rfl (fun ρ h=>Yl.A0 (h _ _ rfl) (h _ _ rfl) bZ) ?_;refine JL.go 2 rfl ?_;obtain rfl:=oi b0;exact JL.kw (bq _ _ bY ⟨bV,rfl,rfl,((K.trans W).trans bc),bf⟩ ab) rfl
     ·have bi:=aA;rw [if_neg aB] at bi;refine JL.exit rfl ?_;obtain rfl:=oi bi;have b1:aS=(Sum.inr ()):=(ah _ ab).symm;exact JL.kw (bp _ _ ⟨(),an,b1,rfl,rfl,K,ao⟩) rfl
def Iy(fuel:Nat)(p0:(List (List Int))×(List (List Int)))(p1:List (Int×Int))(K:Int):Option (AV (Int) (((Option (Int×Int)))⊕(Unit))):=
 if K<((p1).length:Int) then(
  (ix p1 (K)).bind fun O=>
  (f101 fuel O.1 0 6).bind fun U=>
  if U=true then(
   some (.done (Sum.inl (some (1,K))))
  ) else(
   Option.bind (
    if 0<K then(
     (Av (K - 1)).bind fun W=>
     (ix p1 (W)).bind fun Z=>
     some (decide (O.1<Z.1))
    ) else(
     some false
    )
   ) fun aa=>
   if aa=true then(
    some (.done (Sum.inl (some (5,K))))
   ) else(
    (Av (((p0.1).length:Int) - 1)).bind fun ab=>
    (f101 fuel O.2 0 ab).bind fun ae=>
    if ae=true then(
     some (.done (Sum.inl (some (3,K))))
    ) else(
     (Av (K+1)).bind fun ag=>
     some (.more ag)
    )
   )
  )
 ) else(
  some (.done (Sum.inr ()))
 )
def f116(fuel:Nat)(p0:(List (List Int))×(List (List Int)))(p1:List (Int×Int)):Option ((Option (Int×Int))):=
 if 4<((p1).length:Int) then(
  some (some (6,0))
 ) else(
  Option.bind (iter (Iy fuel p0 p1) fuel 0) fun K=>
  Sum.elim (fun r=>some r) (fun O=>
  some none
  ) K
 )
theorem R9{aj:Option Addr}{c2:Nat}{ak:Option Addr}{al:Nat}{O:Option Addr}{U:Nat}{p0:(List (List Int))×(List (List Int))}{p1:List (Int×Int)}(bP:Aq (rL rI) E aj c2 (p0.1))(bQ:Aq (rL rI) E ak al (p0.2))(aG:Aq (rP rI rI) E O U (p1)){fuel:Nat}{r:(Option (Int×Int))}(ar:f116 fuel p0 p1=some r):Au J 116 [.agg #[.slice aj (p0.1).length c2,.slice ak (p0.2).length al],.slice O (p1).length U] E [] (fun w E' B'=>∃(aH:Value),w=aH∧B'= []∧F5 183 aH (r)):=by
 refine Au.en func116 rfl rfl fun Q bR cs H ba ah=>?_;unfold f116 at ar;refine JL.go 2 rfl ?_;refine JS.box (v:= .agg #[.slice aj (p0.1).length c2,.slice ak (p0.2).length al]) rfl rfl rfl ba rfl fun am bb=>?_;refine JS.Bf 1 bb rfl fun an aa au aI=>?_;replace au:At an am 0 [.slice aj (p0.1).length c2,.slice ak (p0.2).length al]:=au;refine JL.go 6 rfl ?_;refine JL.Y rfl (fun ρ h=>Yl.len rfl underlying25 (h _ _ rfl)) ?_;refine JL.go 2 rfl ?_;refine JL.ifs (p:=4<((p1).length:Int)) rfl (fun av=>?_) (fun av=>?_)
 ·have aJ:=ar;rw [if_pos av] at aJ;refine JL.go 2 rfl ?_;refine JL.Y (v:= .agg #[iV 6,iV 0]) rfl (fun ρ h=>Yl.BW [(0,1),(1,1)] h (AM type183) underlying183 ⟨rfl,Ah type39,rfl,Ah type3,trivial⟩ rfl rfl) ?_;refine JL.Y (v:= .iface 183 (.agg #[iV 6,iV 0])) rfl (fun ρ h=>Yl.De underlying183 (fun _ h=>by cases h) (h _ _ rfl)) ?_;refine JL.go 2 rfl ?_;obtain rfl:=oi aJ;refine JL.rt func116 rfl rfl ?_;exact ah _ _ _ _ aa rfl ⟨.iface 183 (.agg #[iV 6,iV 0]),rfl,rfl,rfl⟩ aI
 ·have aK:=ar;rw [if_neg av] at aK;refine JL.go 5 rfl ?_;refine JL.Y rfl (fun ρ h=>Yl.len rfl underlying25 (h _ _ rfl)) ?_;obtain⟨aL,bc,ao⟩:=bs aK;refine JL.go 2 rfl ?_;refine JL.join (fun L s=>∃(aM:Unit) (aN:LH),aL=Sum.inr aM∧Jm an H aN [] [] L s) ?_ ?_
  ·rintro _ _ ⟨aM,aN,rfl,rfl,rfl,bd,bf⟩;have bg:=elim_inr ao;refine JL.go 4 rfl ?_;obtain rfl:=oi bg;refine JL.rt func116 rfl rfl ?_;exact ah _ _ _ _ (aa.trans bd) rfl ⟨.nilIface,rfl,rfl,rfl⟩ bf
  ·intro bh;refine JL.block ?_;refine JL.wk [(1,.slice O (p1).length U),(2,.pointer (some ⟨am,0,none⟩)),(12,.slice O (p1).length U),(13,iV ((p1).length:Int)),(14,iV 0)] rfl ?_;refine JL.Bi bc (fun L s K=>∃(ap:LH),Jm an H ap [] [(1,.slice O (p1).length U),(2,.pointer (some ⟨am,0,none⟩)),(12,.slice O (p1).length U),(13,iV ((p1).length:Int)),(14,iV K)] L s) ⟨an,rfl,rfl,(Le.refl _),aI⟩ ?_;rintro _ _ K ⟨ap,rfl,rfl,W,aO⟩ aq ⟨bS,ab⟩ bi;have aw:=ab;unfold Iy at aw;refine JL.go 5 rfl ?_;refine JL.ifs (p:=K<((p1).length:Int)) rfl (fun ay=>?_) (fun ay=>?_)
   ·have aP:=aw;rw [if_pos ay] at aP;obtain⟨ae,bj,bk⟩:=bs aP;refine JL.go 6 rfl ?_;refine JS.BI (aG.mono (aa.trans W)) bj rfl rfl rfl rfl rfl underlying25 (Ah type27) ?_;rintro bl bm _ ⟨_,_,rfl,rfl,rfl⟩ az;replace az:At ap bl bm [iV ae.1,iV ae.2]:=az;refine JL.Bw az (Ao underlying27) (Ah type27) rfl rfl ?_;refine JS.alloc rfl rfl rfl aO (AM type27) fun aQ bn=>?_;refine JL.go 1 rfl ?_;refine JS.st (v:= .agg #[iV ae.1,iV ae.2]) (off:=0) 0 bn (Ah type27) rfl rfl rfl rfl fun bo=>?_;refine JS.Bf 0 bo rfl fun bp ag ai bq=>?_;replace ai:At bp aQ 0 [iV ae.1,iV ae.2]:=ai;refine JS.norm (S':= [[]]) rfl bq fun br=>?_;refine JL.go 4 rfl ?_;refine JL.fd underlying27 (Ah type3) rfl rfl rfl ?_;refine JL.ld 0 ai (Ao underlying3) rfl rfl rfl ?_;obtain⟨bu,bv,aR⟩:=bs bk;refine JS.cl (Gf bv) rfl rfl (Ay func101 rfl) br ?_;rintro _ aS _ Z ⟨rfl,rfl⟩ aA;refine JL.go 2 rfl ?_;refine JL.split (t:=bu) rfl (fun aB=>?_) (fun aB=>?_)
    ·have aT:=aR;rw [if_pos aB] at aT;refine JL.go 3 rfl ?_;refine JL.Y (v:= .agg #[iV 1,iV K]) rfl (fun ρ h=>Yl.BW [(0,1),(1,1)] h (AM type183) underlying183 ⟨rfl,Ah type39,rfl,Ah type3,trivial⟩ rfl rfl) ?_;refine JL.Y (v:= .iface 183 (.agg #[iV 1,iV K])) rfl (fun ρ h=>Yl.De underlying183 (fun _ h=>by cases h) (h _ _ rfl)) ?_;refine JL.go 2 rfl ?_;obtain rfl:=oi aT;obtain rfl:=aq _ ab;have bw:=elim_inl ao;obtain rfl:=oi bw;refine JL.rt func116 rfl rfl ?_;exact ah _ _ _ _ (((aa.trans W).trans ag).trans Z) rfl ⟨.iface 183 (.agg #[iV 1,iV K]),rfl,rfl,rfl⟩ aA
    ·have aU:=aR;rw [if_neg (by rw [aB];exact Bool.false_ne_true)] at aU;refine JL.seq ?_;refine JG.Di 13 mixed rfl (by decide+kernel) fun ht=>?_;refine JG.mv 0 ht rfl rfl ?_;refine JG.mv 1 ht rfl rfl ?_;refine JG.mv 2 ht rfl rfl ?_;obtain⟨aV,aW,aX⟩:=bs aU;refine Aw.join 1 #[true,true,true,true,true,true,true,true,true,true,true,true,true,false] (fun L s=>L= [(1,.slice O (p1).length U),(2,.pointer (some ⟨am,0,none⟩)),(5,iV K),(6,.pointer (some ⟨aQ,0,none⟩)),(12,.slice O (p1).length U),(13,iV ((p1).length:Int)),(14,iV K),(39,.bool aV)]∧s=Ap aS H [[],[]]) ?_ ?_
     ·rintro _ _ ⟨rfl,rfl⟩;refine Aw.leaf (tail:= [13]) (by decide+kernel) (fun t=>A3 (by decide+kernel) BL t) ?_;refine JL.go 2 rfl ?_;refine JL.split (t:=aV) rfl (fun aC=>?_) (fun aC=>?_)
      ·have aY:=aX;rw [if_pos aC] at aY;refine JL.go 3 rfl ?_;refine JL.Y (v:= .agg #[iV 5,iV K]) rfl (fun ρ h=>Yl.BW [(0,1),(1,1)] h (AM type183) underlying183 ⟨rfl,Ah type39,rfl,Ah type3,trivial⟩ rfl rfl) ?_;refine JL.Y (v:= .iface 183 (.agg #[iV 5,iV K])) rfl (fun ρ h=>Yl.De underlying183 (fun _ h=>by cases h) (h _ _ rfl)) ?_;refine JL.go 2 rfl ?_;obtain rfl:=oi aY;obtain rfl:=aq _ ab;have bx:=elim_inl ao;obtain rfl:=oi bx;refine JL.rt func116 rfl rfl ?_;exact ah _ _ _ _ (((aa.trans W).trans ag).trans Z) rfl ⟨.iface 183 (.agg #[iV 5,iV K]),rfl,rfl,rfl⟩ aA
      ·have aZ:=aX;rw [if_neg (by rw [aC];exact Bool.false_ne_true)] at aZ;refine JL.go 2 rfl ?_;refine JL.fd underlying27 (Ah type3) rfl rfl rfl ?_;refine JL.ld 1 (ai.mono Z) (Ao underlying3) rfl rfl rfl ?_;refine JL.fd underlying24 (Ah type22) rfl rfl rfl ?_;refine JL.ld 0 (au.mono ((W.trans ag).trans Z)) (Ao underlying22) rfl rfl rfl ?_;refine JL.Y rfl (fun ρ h=>Yl.len rfl underlying22 (h _ _ rfl)) ?_;obtain⟨bT,bz,bA⟩:=bs aZ;refine JL.Y rfl (fun ρ h=>Yl.A4 (h _ _ rfl) (h _ _ rfl) bz) ?_;obtain⟨bB,bC,a0⟩:=bs bA;refine JS.cl (Gf bC) rfl rfl (Ay func101 rfl) aA ?_;rintro _ bD _ a1 ⟨rfl,rfl⟩ a2;refine JL.go 2 rfl ?_;refine JL.split (t:=bB) rfl (fun aD=>?_) (fun aD=>?_)
       ·have a3:=a0;rw [if_pos aD] at a3;refine JL.go 3 rfl ?_;refine JL.Y (v:= .agg #[iV 3,iV K]) rfl (fun ρ h=>Yl.BW [(0,1),(1,1)] h (AM type183) underlying183 ⟨rfl,Ah type39,rfl,Ah type3,trivial⟩ rfl rfl) ?_;refine JL.Y (v:= .iface 183 (.agg #[iV 3,iV K])) rfl (fun ρ h=>Yl.De underlying183 (fun _ h=>by cases h) (h _ _ rfl)) ?_;refine JL.go 2 rfl ?_;obtain rfl:=oi a3;obtain rfl:=aq _ ab;have bE:=elim_inl ao;obtain rfl:=oi bE;refine JL.rt func116 rfl rfl ?_;exact ah _ _ _ _ ((((aa.trans W).trans ag).trans Z).trans a1) rfl ⟨.iface 183 (.agg #[iV 3,iV K]),rfl,rfl,rfl⟩ a2
       ·have a4:=a0;rw [if_neg (by rw [aD];exact Bool.false_ne_true)] at a4;obtain⟨bF,bG,bH⟩:=bs a4;refine JL.go 4 rfl ?_;refine JL.Y rfl (fun ρ h=>Yl.A0 (h _ _ rfl) (h _ _ rfl) bG) ?_;refine JL.go 2 rfl ?_;obtain rfl:=oi bH;exact JL.kw (bi _ _ bF ⟨bD,rfl,rfl,(((W.trans ag).trans Z).trans a1),a2⟩ ab) rfl
     ·intro a5;refine Aw.B5 (q:=0<K) (i:=29) rfl (fun aE=>?_) (fun aE=>?_)
      ·have a6:=aW;rw [if_pos aE] at a6;refine JG.fd 3 ht underlying27 (Ah type3) rfl rfl rfl rfl ?_;refine JG.ld 4 ht 0 (ai.mono Z) (Ao underlying3) rfl rfl rfl rfl ?_;refine JG.mv 5 ht rfl rfl ?_;refine JG.mv 6 ht rfl rfl ?_;obtain⟨bU,bI,bJ⟩:=bs a6;refine JG.V 7 ht rfl rfl (fun ρ h s' hs=>Yl.A4 (h _ _ rfl) (h _ _ rfl) bI) ?_;obtain⟨a7,bK,bL⟩:=bs bJ;refine JG.idx 8 (aG.mono (((aa.trans W).trans ag).trans Z)) bK rfl ht (by decide+kernel) rfl rfl rfl rfl rfl underlying25 (Ah type27) ?_;rintro bM bN _ ⟨_,_,rfl,rfl,rfl⟩ aF;replace aF:At aS bM bN [iV a7.1,iV a7.2]:=aF;refine JG.fd 9 ht underlying27 (Ah type3) rfl rfl rfl rfl ?_;refine JG.ld 10 ht 0 aF (Ao underlying3) rfl rfl rfl rfl ?_;refine JG.mv 11 ht rfl rfl ?_;refine JG.mv 12 ht rfl rfl ?_;obtain rfl:=oi bL;refine Aw.B6 ?_ (a5 _ _ ⟨rfl,rfl⟩);exact⟨rfl,rfl,rfl,rfl,rfl,rfl,rfl,rfl,trivial⟩
      ·have a8:=aW;rw [if_neg aE] at a8;refine JG.mv 3 ht rfl rfl ?_;refine JG.mv 4 ht rfl rfl ?_;refine JG.mv 5 ht rfl rfl ?_;refine JG.mv 6 ht rfl rfl ?_;refine JG.mv 7 ht rfl rfl ?_;refine JG.mv 8 ht rfl rfl ?_;refine JG.mv 9 ht rfl rfl ?_;refine JG.mv 10 ht rfl rfl ?_;refine JG.mv 11 ht rfl rfl ?_;refine JG.mv 12 ht rfl rfl ?_;obtain rfl:=oi a8;refine Aw.B6 ?_ (a5 _ _ ⟨rfl,rfl⟩);exact⟨rfl,rfl,rfl,rfl,rfl,rfl,rfl,rfl,trivial⟩
   ·have a9:=aw;rw [if_neg ay] at a9;refine JL.exit rfl ?_;obtain rfl:=oi a9;have bO:aL=(Sum.inr ()):=(aq _ ab).symm;exact JL.kw (bh _ _ ⟨(),ap,bO,rfl,rfl,W,aO⟩) rfl
end Pal
namespace Pal
open Go Go.Conc Go.Proofs
open Go.Proofs.Tryz
variable {J:Judge Tryz.prog}{E:LH}
def f135(fuel:Nat):Option (Bool):=
 some false
theorem Sw{O:Value}{fuel:Nat}{r:Bool}(K:f135 fuel=some r):Au J 135 [.nilIface,O] E [] (fun w E' B'=>w= .bool r∧B'= []):=by
 refine Au.en func135 rfl rfl fun Q Z cs H U W=>?_;unfold f135 at K;refine JL.go 8 rfl ?_;refine JL.Y (v:= .bool true) rfl (fun ρ h=>Yl.S6 underlying149 (show F5 0 .nilIface none from rfl) (h _ _ rfl) (h _ _ rfl)) ?_;refine JL.go 6 rfl ?_;obtain rfl:=oi K;refine JL.rt func135 rfl rfl ?_;exact W _ _ _ _ (Le.refl _) rfl ⟨rfl,rfl⟩ U
def f112(fuel:Nat):Option (Int):=
 (f135 fuel).bind fun K=>
 if K=true then(
  some 0
 ) else(
  some 0
 )
theorem So{fuel:Nat}{r:Int}(U:f112 fuel=some r):Au J 112 [.nilIface] E [] (fun w E' B'=>w=iV r∧B'= []):=by
 refine Au.en func112 rfl rfl fun Q an cs H ag W=>?_;unfold f112 at U;refine JL.go 6 rfl ?_;refine JS.alloc rfl rfl rfl ag (AM type183) fun ah ai=>?_;refine JL.go 5 rfl ?_;refine JL.Y (v:=(.iface 185 (.pointer (some ⟨ah,0,none⟩)))) rfl (fun ρ h=>Yl.De underlying185 (fun _ h=>by cases h) (h _ _ rfl)) ?_;obtain⟨aj,ak,Z⟩:=bs U;refine JS.cl (Sw ak) rfl rfl (Ay func135 rfl) ai ?_;rintro _ ao _ aa ⟨rfl,rfl⟩ K;refine JL.done ?_;refine JL.split (t:=aj) rfl (fun O=>?_) (fun O=>?_)
 ·have ab:=Z;rw [if_pos O] at ab;refine JL.go 2 rfl ?_;refine JL.fd underlying183 (Ah type39) rfl rfl rfl ?_;refine JL.Y (v:=iV 0) rfl (fun ρ h=>Yl.load (Ao underlying39) (h _ _ rfl) (Cs (j:=1) (off:=0) K rfl rfl)) ?_;refine JL.go 2 rfl ?_;refine JS.drop 1 K rfl fun al=>?_;obtain rfl:=oi ab;refine JL.rt func112 rfl rfl ?_;exact W _ _ _ _ aa rfl ⟨rfl,rfl⟩ al
 ·have ae:=Z;rw [if_neg (by rw [O];exact Bool.false_ne_true)] at ae;refine JL.go 5 rfl ?_;refine JS.drop 1 K rfl fun am=>?_;obtain rfl:=oi ae;refine JL.rt func112 rfl rfl ?_;exact W _ _ _ _ aa rfl ⟨rfl,rfl⟩ am
def GW(fuel:Nat)(p0:Option (Int×Int)):Option Int:=match p0 with
 | none=>f112 fuel
 | some _=>none
theorem Ki{v:Value}{p0:Option (Int×Int)}(h:F5 183 v p0){fuel:Nat}{r:Int}(K:GW fuel p0=some r):Au J 112 [v] E [] (fun w E' B'=>w=iV r∧B'= []):=by
 cases p0 with
 | none=>obtain rfl:v= .nilIface:=h;exact So K
 | some _=>cases K
end Pal
namespace Pal
open Go Go.Conc Go.Proofs
open Go.Proofs.Tryz
variable {J:Judge Tryz.prog}{E:LH}
def f67(fuel:Nat)(p0:(List (List Int))×(List (List Int))):Option (Int):=
 (f113 fuel p0).bind fun K=>
 (GW fuel K).bind fun O=>
 some O
theorem SI{K:Option Addr}{c2:Nat}{O:Option Addr}{U:Nat}{p0:(List (List Int))×(List (List Int))}(ab:Aq (rL rI) E K c2 (p0.1))(ae:Aq (rL rI) E O U (p0.2)){fuel:Nat}{r:Int}(aa:f67 fuel p0=some r):Au J 67 [.agg #[.slice K (p0.1).length c2,.slice O (p0.2).length U]] E [] (fun w E' B'=>w=iV r∧B'= []):=by
 refine Au.en func67 rfl rfl fun Q az cs H ag ah=>?_;unfold f67 at aa;refine JL.go 2 rfl ?_;refine JS.box (v:= .agg #[.slice K (p0.1).length c2,.slice O (p0.2).length U]) rfl rfl rfl ag rfl fun ai aj=>?_;refine JS.Bf 1 aj rfl fun ak W Z al=>?_;replace Z:At ak ai 0 [.slice K (p0.1).length c2,.slice O (p0.2).length U]:=Z;refine JL.go 4 rfl ?_;refine JL.Bw Z (Ao underlying24) (Ah type24) rfl rfl ?_;obtain⟨aA,am,an⟩:=bs aa;refine JS.cl (Nl (ab.mono W) (ae.mono W) am) rfl rfl (Ay func113 rfl) al ?_;rintro aB aC _ ao ⟨_,rfl,rfl,ap⟩ aq;obtain⟨aD,ar,au⟩:=bs an;refine JS.cl (Ki ap ar) rfl rfl (Ay func112 rfl) aq ?_;rintro _ aE _ av ⟨rfl,rfl⟩ aw;refine JS.norm (S':= [[],[],[],[]]) rfl aw fun ay=>?_;refine JL.go 2 rfl ?_;obtain rfl:=oi au;refine JL.rt func67 rfl rfl ?_;exact ah _ _ _ _ ((W.trans ao).trans av) rfl ⟨rfl,rfl⟩ ay
def f69(fuel:Nat)(p0:(List (List Int))×(List (List Int)))(p1:List (Int×Int)):Option (Int):=
 (f113 fuel p0).bind fun K=>
 if K.isSome=true then(
  (GW fuel K).bind fun O=>
  some O
 ) else(
  (f116 fuel p0 p1).bind fun U=>
  (GW fuel U).bind fun W=>
  some W
 )
theorem Hy{U:Option Addr}{c2:Nat}{W:Option Addr}{Z:Nat}{ae:Option Addr}{ag:Nat}{p0:(List (List Int))×(List (List Int))}{p1:List (Int×Int)}(ah:Aq (rL rI) E U c2 (p0.1))(ai:Aq (rL rI) E W Z (p0.2))(ar:Aq (rP rI rI) E ae ag (p1)){fuel:Nat}{r:Int}(aj:f69 fuel p0 p1=some r):Au J 69 [.agg #[.slice U (p0.1).length c2,.slice W (p0.2).length Z],.slice ae (p1).length ag] E [] (fun w E' B'=>w=iV r∧B'= []):=by
 refine Au.en func69 rfl rfl fun Q aQ cs H au ak=>?_;unfold f69 at aj;refine JL.go 2 rfl ?_;refine JS.box (v:= .agg #[.slice U (p0.1).length c2,.slice W (p0.2).length Z]) rfl rfl rfl au rfl fun av aw=>?_;refine JS.Bf 1 aw rfl fun ay K aa az=>?_;replace aa:At ay av 0 [.slice U (p0.1).length c2,.slice W (p0.2).length Z]:=aa;refine JL.go 5 rfl ?_;refine JL.Bw aa (Ao underlying24) (Ah type24) rfl rfl ?_;obtain⟨al,aA,am⟩:=bs aj;refine JS.cl (Nl (ah.mono K) (ai.mono K) aA) rfl rfl (Ay func113 rfl) az ?_;rintro aR aS _ O ⟨_,rfl,rfl,an⟩ ao;refine JL.go 5 rfl ?_;refine JL.Y (v:= .bool al.isSome) rfl (fun ρ h=>Yl.Kp underlying149 an (h _ _ rfl) (h _ _ rfl)) ?_;refine JL.done ?_;refine JL.split (t:=al.isSome) rfl (fun ab=>?_) (fun ab=>?_)
 ·have ap:=am;rw [if_pos ab] at ap;obtain⟨aT,aB,aC⟩:=bs ap;refine JL.go 3 rfl ?_;refine JS.cl (Ki an aB) rfl rfl (Ay func112 rfl) ao ?_;rintro _ aU _ aD ⟨rfl,rfl⟩ aE;refine JS.norm (S':= [[],[],[],[]]) rfl aE fun aF=>?_;refine JL.go 2 rfl ?_;obtain rfl:=oi aC;refine JL.rt func69 rfl rfl ?_;exact ak _ _ _ _ ((K.trans O).trans aD) rfl ⟨rfl,rfl⟩ aF
 ·have aq:=am;rw [if_neg (by rw [ab];exact Bool.false_ne_true)] at aq;refine JL.go 3 rfl ?_;refine JL.Bw (aa.mono O) (Ao underlying24) (Ah type24) rfl rfl ?_;obtain⟨aV,aG,aH⟩:=bs aq;refine JL.go 1 rfl ?_;refine JS.cl (R9 (ah.mono (K.trans O)) (ai.mono (K.trans O)) (ar.mono (K.trans O)) aG) rfl rfl (Ay func116 rfl) ao ?_;rintro aW aX _ aI ⟨_,rfl,rfl,aJ⟩ aK;refine JS.norm (S':= [[],[],[],[]]) rfl aK fun aL=>?_;obtain⟨aY,aM,aN⟩:=bs aH;refine JS.cl (Ki aJ aM) rfl rfl (Ay func112 rfl) aL ?_;rintro _ aZ _ aO ⟨rfl,rfl⟩ aP;refine JL.go 2 rfl ?_;obtain rfl:=oi aN;refine JL.rt func69 rfl rfl ?_;exact ak _ _ _ _ (((K.trans O).trans aI).trans aO) rfl ⟨rfl,rfl⟩ aP
def MJ(fuel:Nat)(p0:(List (List Int))×(List (List Int))×(List Nat))(O:(List Int))(K:Nat×Int):Option (AV (Nat×Int) (Nat)):=
 if K.2<((O).length:Int) then(
  (ix O (K.2)).bind fun U=>
  (ix p0.1 (U)).bind fun W=>
  (f120 fuel W).bind fun Z=>
  (Gv (K.1) (Z)).bind fun aa=>
  (Av (K.2+1)).bind fun ab=>
  some (.more (aa,ab))
 ) else(
  some (.done K.1)
 )
def f121(fuel:Nat)(p0:(List (List Int))×(List (List Int))×(List Nat))(p1:Nat):Option (Nat):=
 (f89 fuel p1).bind fun K=>
 Option.bind (iter (MJ fuel p0 K) fuel (0,0)) fun O=>
 some O
theorem Rj{k1:Nat}{W:Nat}{ak:Option Addr}{al:Nat}{am:Option Addr}{an:Nat}{ao:List Value}{p0:(List (List Int))×(List (List Int))×(List Nat)}{p1:Nat}(aA:At E k1 W (([.slice ak (p0.1).length al,.slice am (p0.2.1).length an]:List Value)++ao))(aB:Aq (rL rI) E ak al (p0.1))(bd:Aq (rL rI) E am an (p0.2.1))(bf:(rA 13 (rN .u16)).r E ao (p0.2.2)){fuel:Nat}{r:Nat}(ap:f121 fuel p0 p1=some r):Au J 121 [.pointer (some ⟨k1,W,none⟩),.int .u16 ((p1:Nat):Int)] E [] (fun w E' B'=>w= .int .u16 ((r:Nat):Int)∧B'= []):=by
 refine Au.en func121 rfl rfl fun Q bg cs H aC aD=>?_;unfold f121 at ap;obtain⟨K,aE,aF⟩:=bs ap;refine JL.go 12 rfl ?_;refine JS.cl (FZ aE) rfl rfl (Ay func89 rfl) aC ?_;rintro _ aa _ ab ⟨aq,ar,rfl,rfl,aG⟩ aH;refine JL.Y rfl (fun ρ h=>Yl.len rfl underlying28 (h _ _ rfl)) ?_;obtain⟨aI,aJ,aK⟩:=bs aF;refine JL.go 2 rfl ?_;refine JL.join (fun L s=>∃(au:LH),Jm aa H au [] [(5,.int .u16 ((aI:Nat):Int))] L s) ?_ ?_
 ·rintro _ _ ⟨au,rfl,rfl,aL,aM⟩;refine JL.go 5 rfl ?_;obtain rfl:=oi aK;refine JL.rt func121 rfl rfl ?_;exact aD _ _ _ _ (ab.trans aL) rfl ⟨rfl,rfl⟩ aM
 ·intro aN;refine JL.block ?_;refine JL.wk [(0,.pointer (some ⟨k1,W,none⟩)),(5,.int .u16 ((0:Nat):Int)),(9,.slice aq (K).length ar),(10,iV ((K).length:Int)),(11,iV 0)] rfl ?_;refine JL.Bi aJ (fun L s Z=>∃(O:LH),Jm aa H O [] [(0,.pointer (some ⟨k1,W,none⟩)),(5,.int .u16 ((Z.1:Nat):Int)),(9,.slice aq (K).length ar),(10,iV ((K).length:Int)),(11,iV Z.2)] L s) ⟨aa,rfl,rfl,(Le.refl _),aH⟩ ?_;rintro _ _ Z ⟨O,rfl,rfl,U,av⟩ aO ⟨bh,ae⟩ aP;have ag:=ae;unfold MJ at ag;refine JL.go 5 rfl ?_;refine JL.ifs (p:=Z.2<((K).length:Int)) rfl (fun ah=>?_) (fun ah=>?_)
  ·have aw:=ag;rw [if_pos ah] at aw;obtain⟨aQ,aR,aS⟩:=bs aw;refine JL.go 5 rfl ?_;refine JS.BI (aG.mono U) aR rfl rfl rfl rfl rfl underlying28 (Ah type3) ?_;rintro aT aU _ rfl ai;replace ai:At O aT aU [iV aQ]:=ai;refine JL.ld 0 ai (Ao underlying3) rfl rfl rfl ?_;refine JL.go 6 rfl ?_;refine JL.fd underlying141 (Ah type24) rfl rfl rfl ?_;refine JL.fd underlying24 (Ah type22) rfl rfl rfl ?_;refine JL.ld 0 (aA.mono (ab.trans U)) (Ao underlying22) rfl rfl rfl ?_;obtain⟨aV,aW,aX⟩:=bs aS;refine JL.go 1 rfl ?_;refine JS.BI (aB.mono (ab.trans U)) aW rfl rfl rfl rfl rfl underlying22 (Ah type28) ?_;rintro aY aZ _ ⟨a0,a1,rfl,a2⟩ aj;replace aj:At O aY aZ [.slice a0 (aV).length a1]:=aj;refine JL.ld 0 aj (Ao underlying28) rfl rfl rfl ?_;obtain⟨bi,a3,a4⟩:=bs aX;refine JS.cl (GN a2 a3) rfl rfl (Ay func120 rfl) av ?_;rintro _ a5 _ a6 ⟨rfl,rfl⟩ a7;obtain⟨ay,a8,a9⟩:=bs a4;refine JL.Y (v:= .int .u16 ((ay:Nat):Int)) rfl (fun ρ h=>Yl.Hu (h _ _ rfl) (h _ _ rfl) a8) ?_;obtain⟨ba,bb,bc⟩:=bs a9;refine JL.go 4 rfl ?_;refine JL.Y rfl (fun ρ h=>Yl.A0 (h _ _ rfl) (h _ _ rfl) bb) ?_;refine JL.go 2 rfl ?_;obtain rfl:=oi bc;exact JL.kw (aP _ _ (ay,ba) ⟨a5,rfl,rfl,(U.trans a6),a7⟩ ae) rfl
  ·have az:=ag;rw [if_neg ah] at az;refine JL.exit rfl ?_;obtain rfl:=oi az;obtain rfl:=aO _ ae;exact JL.kw (aN _ _ ⟨O,rfl,rfl,U,av⟩) rfl
def f130(fuel:Nat)(p0:Int×(List Int)×Nat):Option (Int):=
 (f89 fuel p0.2.2).bind fun K=>
 some ((K).length:Int)
theorem Rx{K:Option Addr}{c2:Nat}{p0:Int×(List Int)×Nat}(am:Aq rI E K c2 (p0.2.1)){fuel:Nat}{r:Int}(U:f130 fuel p0=some r):Au J 130 [.agg #[iV p0.1,.slice K (p0.2.1).length c2,.int .u16 ((p0.2.2:Nat):Int)]] E [] (fun w E' B'=>w=iV r∧B'= []):=by
 refine Au.en func130 rfl rfl fun Q an cs H W Z=>?_;unfold f130 at U;refine JL.go 2 rfl ?_;refine JS.box (v:= .agg #[iV p0.1,.slice K (p0.2.1).length c2,.int .u16 ((p0.2.2:Nat):Int)]) rfl rfl rfl W rfl fun aa ab=>?_;refine JS.Bf 1 ab rfl fun ae ag O ah=>?_;replace O:At ae aa 0 [iV p0.1,.slice K (p0.2.1).length c2,.int .u16 ((p0.2.2:Nat):Int)]:=O;refine JL.go 4 rfl ?_;refine JL.fd underlying104 (Ah type102) rfl rfl rfl ?_;refine JL.ld 2 O (Ao underlying102) rfl rfl rfl ?_;obtain⟨ao,ai,aj⟩:=bs U;refine JS.cl (FZ ai) rfl rfl (Ay func89 rfl) ah ?_;rintro _ ap _ ak ⟨aq,ar,rfl,rfl,au⟩ al;refine JL.Y rfl (fun ρ h=>Yl.len rfl underlying28 (h _ _ rfl)) ?_;refine JL.go 2 rfl ?_;obtain rfl:=oi aj;refine JL.rt func130 rfl rfl ?_;exact Z _ _ _ _ (ag.trans ak) rfl ⟨rfl,rfl⟩ al
def II(fuel:Nat)(p0:List (Int×(List Int)×Nat))(K:Nat×Int):Option (AV (Nat×Int) (Nat)):=
 if K.2<((p0).length:Int) then(
  (ix p0 (K.2)).bind fun O=>
  (f90 fuel K.1 O.1).bind fun U=>
  (Av (K.2+1)).bind fun W=>
  some (.more (U,W))
 ) else(
  some (.done K.1)
 )
def f87(fuel:Nat)(p0:List (Int×(List Int)×Nat)):Option (Nat):=
 Option.bind (iter (II fuel p0) fuel (0,0)) fun K=>
 some K
theorem NQ{O:Option Addr}{c2:Nat}{p0:List (Int×(List Int)×Nat)}(ap:Aq (rP rI (rP (rL rI) (rN .u16))) E O c2 (p0)){fuel:Nat}{r:Nat}(ak:f87 fuel p0=some r):Au J 87 [.slice O (p0).length c2] E [] (fun w E' B'=>w= .int .u16 ((r:Nat):Int)∧B'= []):=by
 refine Au.en func87 rfl rfl fun Q aX cs H aq ar=>?_;unfold f87 at ak;refine JL.go 12 rfl ?_;refine JL.Y rfl (fun ρ h=>Yl.len rfl underlying95 (h _ _ rfl)) ?_;obtain⟨au,av,aw⟩:=bs ak;refine JL.go 2 rfl ?_;refine JL.join (fun L s=>∃(al:LH),Jm E H al [] [(3,.int .u16 ((au:Nat):Int))] L s) ?_ ?_
 ·rintro _ _ ⟨al,rfl,rfl,ay,az⟩;refine JL.go 5 rfl ?_;obtain rfl:=oi aw;refine JL.rt func87 rfl rfl ?_;exact ar _ _ _ _ ay rfl ⟨rfl,rfl⟩ az
 ·intro aA;refine JL.block ?_;refine JL.wk [(3,.int .u16 ((0:Nat):Int)),(6,.slice O (p0).length c2),(7,iV ((p0).length:Int)),(8,iV 0)] rfl ?_;refine JL.Bi av (fun L s U=>∃(W:LH),Jm E H W [] [(3,.int .u16 ((U.1:Nat):Int)),(6,.slice O (p0).length c2),(7,iV ((p0).length:Int)),(8,iV U.2)] L s) ⟨E,rfl,rfl,(Le.refl _),aq⟩ ?_;rintro _ _ U ⟨W,rfl,rfl,Z,am⟩ aB ⟨aY,aa⟩ aC;have ab:=aa;unfold II at ab;refine JL.go 5 rfl ?_;refine JL.ifs (p:=U.2<((p0).length:Int)) rfl (fun ae=>?_) (fun ae=>?_)
  ·have an:=ab;rw [if_pos ae] at an;obtain⟨K,aD,aE⟩:=bs an;refine JL.go 5 rfl ?_;refine JS.BI (ap.mono Z) aD rfl rfl rfl rfl rfl underlying95 (Ah type104) ?_;rintro aF aG _ ⟨_,_,rfl,rfl,⟨_,_,rfl,⟨ag,ah,rfl,aZ⟩,rfl⟩⟩ ai;replace ai:At W aF aG [iV K.1,.slice ag (K.2.1).length ah,.int .u16 ((K.2.2:Nat):Int)]:=ai;refine JL.Bw ai (Ao underlying104) (Ah type104) rfl rfl ?_;refine JS.alloc rfl rfl rfl am (AM type104) fun aH aI=>?_;refine JS.st (v:= .agg #[iV K.1,.slice ag (K.2.1).length ah,.int .u16 ((K.2.2:Nat):Int)]) (off:=0) 0 aI (Ah type104) rfl rfl rfl rfl fun aJ=>?_;refine JS.Bf 0 aJ rfl fun aK aL aj aM=>?_;replace aj:At aK aH 0 [iV K.1,.slice ag (K.2.1).length ah,.int .u16 ((K.2.2:Nat):Int)]:=aj;refine JL.go 3 rfl ?_;refine JL.fd underlying104 (Ah type3) rfl rfl rfl ?_;refine JL.ld 0 aj (Ao underlying3) rfl rfl rfl ?_;obtain⟨aN,aO,aP⟩:=bs aE;refine JS.cl (Jc aO) rfl rfl (Ay func90 rfl) aM ?_;rintro _ aQ _ aR ⟨rfl,rfl⟩ aS;refine JS.norm (S':= [[],[]]) rfl aS fun aT=>?_;obtain⟨aU,aV,aW⟩:=bs aP;refine JL.go 4 rfl ?_;refine JL.Y rfl (fun ρ h=>Yl.A0 (h _ _ rfl) (h _ _ rfl) aV) ?_;refine JL.go 2 rfl ?_;obtain rfl:=oi aW;exact JL.kw (aC _ _ (aN,aU) ⟨aQ,rfl,rfl,((Z.trans aL).trans aR),aT⟩ aa) rfl
  ·have ao:=ab;rw [if_neg ae] at ao;refine JL.exit rfl ?_;obtain rfl:=oi ao;obtain rfl:=aB _ aa;exact JL.kw (aA _ _ ⟨W,rfl,rfl,Z,am⟩) rfl
def Ni(fuel:Nat)(p0:(List (List Int))×(List (List Int))×(List Nat))(O:Int)(K:Nat×Int):Option (AV (Nat×Int) (Nat)):=
 if K.2<O then(
  (f121 fuel p0 K.1).bind fun U=>
  (Av (K.2+1)).bind fun W=>
  some (.more (U,W))
 ) else(
  some (.done K.1)
 )
def f88(fuel:Nat)(p0:(List (List Int))×(List (List Int))×(List Nat))(p1:Int×(List Int)×Nat)(p2:Int):Option (Nat):=
 (Av (((p1.2.1).length:Int) - 1)).bind fun K=>
 if p2≤K then(
  (ix p1.2.1 (p2)).bind fun O=>
  (f120 fuel ([O]:List Int)).bind fun U=>
  some U
 ) else(
  (ix p1.2.1 (K)).bind fun W=>
  (f120 fuel ([W]:List Int)).bind fun Z=>
  (Av (p2 - K)).bind fun aa=>
  Option.bind (iter (Ni fuel p0 aa) fuel (Z,0)) fun ab=>
  some ab
 )
theorem Td{k1:Nat}{aa:Nat}{av:Option Addr}{aw:Nat}{ay:Option Addr}{az:Nat}{aA:List Value}{ab:Option Addr}{ae:Nat}{p0:(List (List Int))×(List (List Int))×(List Nat)}{p1:Int×(List Int)×Nat}{p2:Int}(aM:At E k1 aa (([.slice av (p0.1).length aw,.slice ay (p0.2.1).length az]:List Value)++aA))(aN:Aq (rL rI) E av aw (p0.1))(aO:Aq (rL rI) E ay az (p0.2.1))(aP:(rA 13 (rN .u16)).r E aA (p0.2.2))(aB:Aq rI E ab ae (p1.2.1)){fuel:Nat}{r:Nat}(aC:f88 fuel p0 p1 p2=some r):Au J 88 [.pointer (some ⟨k1,aa,none⟩),.agg #[iV p1.1,.slice ab (p1.2.1).length ae,.int .u16 ((p1.2.2:Nat):Int)],iV p2] E [] (fun w E' B'=>w= .int .u16 ((r:Nat):Int)∧B'= []):=by
 refine Au.en func88 rfl rfl fun Q bJ cs H aQ aD=>?_;unfold f88 at aC;refine JL.go 2 rfl ?_;refine JS.box (v:= .agg #[iV p1.1,.slice ab (p1.2.1).length ae,.int .u16 ((p1.2.2:Nat):Int)]) rfl rfl rfl aQ rfl fun aR aS=>?_;refine JS.Bf 1 aS rfl fun ah K U aE=>?_;replace U:At ah aR 0 [iV p1.1,.slice ab (p1.2.1).length ae,.int .u16 ((p1.2.2:Nat):Int)]:=U;refine JL.go 4 rfl ?_;refine JL.fd underlying104 (Ah type28) rfl rfl rfl ?_;refine JL.ld 1 U (Ao underlying28) rfl rfl rfl ?_;refine JL.Y rfl (fun ρ h=>Yl.len rfl underlying28 (h _ _ rfl)) ?_;obtain⟨aT,aU,aF⟩:=bs aC;refine JL.Y rfl (fun ρ h=>Yl.A4 (h _ _ rfl) (h _ _ rfl) aU) ?_;refine JL.go 9 rfl ?_;refine JL.ifs (p:=p2≤aT) rfl (fun ai=>?_) (fun ai=>?_)
 ·have aG:=aF;rw [if_pos ai] at aG;refine JL.go 2 rfl ?_;refine JL.fd underlying104 (Ah type28) rfl rfl rfl ?_;refine JL.ld 1 U (Ao underlying28) rfl rfl rfl ?_;obtain⟨aj,aV,aW⟩:=bs aG;refine JL.go 1 rfl ?_;refine JS.BI (aB.mono K) aV rfl rfl rfl rfl rfl underlying28 (Ah type3) ?_;rintro aX aY _ rfl ak;replace ak:At ah aX aY [iV aj]:=ak;refine JL.ld 0 ak (Ao underlying3) rfl rfl rfl ?_;refine JS.lit (pp:=rI) [iV aj] [aj] rfl rfl rfl underlying28 (Ah type3) (AM type3) (by decide) rfl rfl rfl ⟨rfl,trivial⟩ aE fun bK bL aZ a0=>?_;refine JS.BC 2 aZ a0 rfl fun bM a1 a2 a3=>?_;refine JS.norm (S':= [[],[],[]]) rfl a3 fun a4=>?_;obtain⟨bN,a5,a6⟩:=bs aW;refine JS.cl (GN a2 a5) rfl rfl (Ay func120 rfl) a4 ?_;rintro _ bO _ a7 ⟨rfl,rfl⟩ a8;refine JL.go 2 rfl ?_;obtain rfl:=oi a6;refine JL.rt func88 rfl rfl ?_;exact aD _ _ _ _ ((K.trans a1).trans a7) rfl ⟨rfl,rfl⟩ a8
 ·have aH:=aF;rw [if_neg ai] at aH;refine JL.go 3 rfl ?_;refine JL.fd underlying104 (Ah type28) rfl rfl rfl ?_;refine JL.ld 1 U (Ao underlying28) rfl rfl rfl ?_;obtain⟨al,a9,ba⟩:=bs aH;refine JL.go 1 rfl ?_;refine JS.BI (aB.mono K) a9 rfl rfl rfl rfl rfl underlying28 (Ah type3) ?_;rintro bb bc _ rfl am;replace am:At ah bb bc [iV al]:=am;refine JL.ld 0 am (Ao underlying3) rfl rfl rfl ?_;refine JS.lit (pp:=rI) [iV al] [al] rfl rfl rfl underlying28 (Ah type3) (AM type3) (by decide) rfl rfl rfl ⟨rfl,trivial⟩ aE fun bP bQ bd bf=>?_;refine JS.BC 2 bd bf rfl fun bR W bg bh=>?_;refine JS.norm (S':= [[],[],[]]) rfl bh fun bi=>?_;obtain⟨bj,bk,bl⟩:=bs ba;refine JS.cl (GN bg bk) rfl rfl (Ay func120 rfl) bi ?_;rintro _ an _ Z ⟨rfl,rfl⟩ bm;obtain⟨ao,bn,bo⟩:=bs bl;refine JL.go 7 rfl ?_;refine JL.Y rfl (fun ρ h=>Yl.A4 (h _ _ rfl) (h _ _ rfl) bn) ?_;obtain⟨bp,bq,br⟩:=bs bo;refine JL.go 2 rfl ?_;refine JL.join (fun L s=>∃(aI:LH),Jm an H aI [] [(8,.int .u16 ((bp:Nat):Int))] L s) ?_ ?_
  ·rintro _ _ ⟨aI,rfl,rfl,bu,bv⟩;refine JL.go 5 rfl ?_;obtain rfl:=oi br;refine JL.rt func88 rfl rfl ?_;exact aD _ _ _ _ (((K.trans W).trans Z).trans bu) rfl ⟨rfl,rfl⟩ bv
  ·intro bw;refine JL.block ?_;refine JL.wk [(0,.pointer (some ⟨k1,aa,none⟩)),(8,.int .u16 ((bj:Nat):Int)),(32,iV ao),(33,iV 0)] rfl ?_;refine JL.Bi bq (fun L s ag=>∃(ap:LH),Jm an H ap [] [(0,.pointer (some ⟨k1,aa,none⟩)),(8,.int .u16 ((ag.1:Nat):Int)),(32,iV ao),(33,iV ag.2)] L s) ⟨an,rfl,rfl,(Le.refl _),bm⟩ ?_;rintro _ _ ag ⟨ap,rfl,rfl,O,aJ⟩ bx ⟨bS,aq⟩ bz;have ar:=aq;unfold Ni at ar;refine JL.go 5 rfl ?_;refine JL.ifs (p:=ag.2<ao) rfl (fun au=>?_) (fun au=>?_)
   ·have aK:=ar;rw [if_pos au] at aK;obtain⟨bA,bB,bC⟩:=bs aK;refine JL.go 6 rfl ?_;refine JS.cl (Rj (aM.mono (((K.trans W).trans Z).trans O)) (aN.mono (((K.trans W).trans Z).trans O)) (aO.mono (((K.trans W).trans Z).trans O)) (Rp.mono _ (((K.trans W).trans Z).trans O) aP) bB) rfl rfl (Ay func121 rfl) aJ ?_;rintro _ bD _ bE ⟨rfl,rfl⟩ bF;obtain⟨bG,bH,bI⟩:=bs bC;refine JL.go 4 rfl ?_;refine JL.Y rfl (fun ρ h=>Yl.A0 (h _ _ rfl) (h _ _ rfl) bH) ?_;refine JL.go 2 rfl ?_;obtain rfl:=oi bI;exact JL.kw (bz _ _ (bA,bG) ⟨bD,rfl,rfl,(O.trans bE),bF⟩ aq) rfl
   ·have aL:=ar;rw [if_neg au] at aL;refine JL.exit rfl ?_;obtain rfl:=oi aL;obtain rfl:=bx _ aq;exact JL.kw (bw _ _ ⟨ap,rfl,rfl,O,aJ⟩) rfl
end Pal
namespace Pal
open Go Go.Conc Go.Proofs
open Go.Proofs.Tryz
variable {J:Judge Tryz.prog}{E:LH}
def H9(fuel:Nat)(p0:(List (List Int))×(List (List Int))×(List Nat))(O:(List Int))(K:Nat×Int):Option (AV (Nat×Int) (Nat)):=
 if K.2<((O).length:Int) then(
  (ix O (K.2)).bind fun U=>
  (ix p0.1 (U)).bind fun W=>
  (f120 fuel W).bind fun Z=>
  (Gv (K.1) (Z)).bind fun aa=>
  (Av (K.2+1)).bind fun ab=>
  some (.more (aa,ab))
 ) else(
  some (.done K.1)
 )
def HC(fuel:Nat)(p0:(List (List Int))×(List (List Int))×(List Nat))(p1:Nat):Option (Nat×((List (List Int))×(List (List Int))×(List Nat))):=
 (f89 fuel p1).bind fun K=>
 Option.bind (iter (H9 fuel p0 K) fuel (0,0)) fun O=>
 some (O,p0)
theorem QW{K:Nat}{O:Option Addr}{c2:Nat}{U:Option Addr}{W:Nat}{Z:List Value}{p0:(List (List Int))×(List (List Int))×(List Nat)}{p1:Nat}(aq:Aq (rL rI) E O c2 (p0.1))(aG:Aq (rL rI) E U W (p0.2.1))(aH:(rA 13 (rN .u16)).r E Z (p0.2.2)){fuel:Nat}{r:Nat×((List (List Int))×(List (List Int))×(List Nat))}(ar:HC fuel p0 p1=some r):Au J 121 [.pointer (some ⟨K,0,none⟩),.int .u16 ((p1:Nat):Int)] E [(K,.cells (([.slice O (p0.1).length c2,.slice U (p0.2.1).length W]:List Value)++Z).toArray 141 (0,0))] (fun w E' B'=>∃(au:Option Addr) (av:Nat) (aw:Option Addr) (ay:Nat) (az:List Value),w= .int .u16 ((r.1:Nat):Int)∧B'= [(K,.cells (([.slice au (r.2.1).length av,.slice aw (r.2.2.1).length ay]:List Value)++az).toArray 141 (0,0))]∧Aq (rL rI) E' au av (r.2.1)∧Aq (rL rI) E' aw ay (r.2.2.1)∧(rA 13 (rN .u16)).r E' az (r.2.2.2)):=by
 refine Au.en func121 rfl rfl fun Q bj cs H aI aJ=>?_;unfold HC at ar;obtain⟨aa,aK,aL⟩:=bs ar;refine JL.go 12 rfl ?_;refine JS.cl (FZ aK) rfl rfl (Ay func89 rfl) aI ?_;rintro _ aj _ ab ⟨aA,aB,rfl,rfl,aM⟩ aN;refine JL.Y rfl (fun ρ h=>Yl.len rfl underlying28 (h _ _ rfl)) ?_;obtain⟨aO,aP,aQ⟩:=bs aL;refine JL.go 2 rfl ?_;refine JL.join (fun L s=>∃(aC:LH),Jm aj H aC [[(K,.cells (([.slice O (p0.1).length c2,.slice U (p0.2.1).length W]:List Value)++Z).toArray 141 (0,0))]] [(5,.int .u16 ((aO:Nat):Int))] L s) ?_ ?_
 ·rintro _ _ ⟨aC,rfl,rfl,ag,aR⟩;refine JL.go 5 rfl ?_;obtain rfl:=oi aQ;refine JL.rt func121 rfl rfl ?_;exact aJ _ _ _ _ (ab.trans ag) rfl ⟨O,c2,U,W,Z,rfl,rfl,(aq.mono (ab.trans ag)),(aG.mono (ab.trans ag)),(Rp.mono _ (ab.trans ag) aH)⟩ aR
 ·intro aS;refine JL.block ?_;refine JL.wk [(0,.pointer (some ⟨K,0,none⟩)),(5,.int .u16 ((0:Nat):Int)),(9,.slice aA (aa).length aB),(10,iV ((aa).length:Int)),(11,iV 0)] rfl ?_;refine JL.Bi aP (fun L s ah=>∃(ae:LH),Jm aj H ae [[(K,.cells (([.slice O (p0.1).length c2,.slice U (p0.2.1).length W]:List Value)++Z).toArray 141 (0,0))]] [(0,.pointer (some ⟨K,0,none⟩)),(5,.int .u16 ((ah.1:Nat):Int)),(9,.slice aA (aa).length aB),(10,iV ((aa).length:Int)),(11,iV ah.2)] L s) ⟨aj,rfl,rfl,(Le.refl _),aN⟩ ?_;rintro _ _ ah ⟨ae,rfl,rfl,ai,ak⟩ aT ⟨bk,al⟩ aU;have am:=al;unfold H9 at am;refine JL.go 5 rfl ?_;refine JL.ifs (p:=ah.2<((aa).length:Int)) rfl (fun an=>?_) (fun an=>?_)
  ·have aD:=am;rw [if_pos an] at aD;obtain⟨aV,aW,aX⟩:=bs aD;refine JL.go 5 rfl ?_;refine JS.BI (aM.mono ai) aW rfl rfl rfl rfl rfl underlying28 (Ah type3) ?_;rintro aY aZ _ rfl ao;replace ao:At ae aY aZ [iV aV]:=ao;refine JL.ld 0 ao (Ao underlying3) rfl rfl rfl ?_;refine JL.go 6 rfl ?_;refine JL.fd underlying141 (Ah type24) rfl rfl rfl ?_;refine JL.fd underlying24 (Ah type22) rfl rfl rfl ?_;refine JL.Y (v:= .slice O (p0.1).length c2) rfl (fun ρ h=>Yl.load (Ao underlying22) (h _ _ rfl) (P9 (o:=0) (l:= [.slice O (p0.1).length c2,.slice U (p0.2.1).length W]) 0 ak rfl rfl)) ?_;obtain⟨a0,a1,a2⟩:=bs aX;refine JL.go 1 rfl ?_;refine JS.BI (aq.mono (ab.trans ai)) a1 rfl rfl rfl rfl rfl underlying22 (Ah type28) ?_;rintro a3 a4 _ ⟨a5,a6,rfl,a7⟩ ap;replace ap:At ae a3 a4 [.slice a5 (a0).length a6]:=ap;refine JL.ld 0 ap (Ao underlying28) rfl rfl rfl ?_;obtain⟨bl,a8,a9⟩:=bs a2;refine JS.cl (GN a7 a8) rfl rfl (Ay func120 rfl) ak ?_;rintro _ ba _ bb ⟨rfl,rfl⟩ bc;obtain⟨aE,bd,bf⟩:=bs a9;refine JL.Y (v:= .int .u16 ((aE:Nat):Int)) rfl (fun ρ h=>Yl.Hu (h _ _ rfl) (h _ _ rfl) bd) ?_;obtain⟨bg,bh,bi⟩:=bs bf;refine JL.go 4 rfl ?_;refine JL.Y rfl (fun ρ h=>Yl.A0 (h _ _ rfl) (h _ _ rfl) bh) ?_;refine JL.go 2 rfl ?_;obtain rfl:=oi bi;exact JL.kw (aU _ _ (aE,bg) ⟨ba,rfl,rfl,(ai.trans bb),bc⟩ al) rfl
  ·have aF:=am;rw [if_neg an] at aF;refine JL.exit rfl ?_;obtain rfl:=oi aF;obtain rfl:=aT _ al;exact JL.kw (aS _ _ ⟨ae,rfl,rfl,ai,ak⟩) rfl
end Pal
namespace Pal
open Go Go.Conc Go.Proofs
open Go.Proofs.Tryz
variable {J:Judge Tryz.prog}{E:LH}
theorem RF:N2 Tryz.prog 138 .u16:=⟨_,underlying138,by decide+kernel,by decide,underlying102,rfl⟩
def Hn(fuel:Nat)(K:(List (List Int))×(List (List Int))×(List Nat)×(List Nat)×Int):Option (AV ((List (List Int))×(List (List Int))×(List Nat)×(List Nat)×Int) ((List (List Int))×(List (List Int))×(List Nat)×(List Nat))):=
 if K.2.2.2.2<12 then(
  (Av (K.2.2.2.2+1)).bind fun U=>
  (ix K.2.2.1 (K.2.2.2.2)).bind fun W=>
  (HC fuel (K.1,K.2.1,K.2.2.1) W).bind fun O=>
  (ix K.2.2.2.1 (U)).bind fun aa=>
  (Av (K.2.2.2.2+1)).bind fun Z=>
  some (.more (O.2.1,O.2.2.1,O.2.2.2,(K.2.2.2.1.set (Int.toNat U) O.1),Z))
 ) else(
  some (.done (K.1,K.2.1,K.2.2.1,K.2.2.2.1))
 )
def IK(fuel:Nat)(O:(List (List Int))×(List (List Int))×(List Nat)):Option (AV ((List (List Int))×(List (List Int))×(List Nat)) (((Option ((List (List Int))×(List (List Int))×(List Nat))))⊕Unit)):=
 Option.bind (iter (Hn fuel) fuel (O.1,O.2.1,O.2.2,O.2.2,0)) fun K=>
 if K.2.2.2≠K.2.2.1 then(
  some (.more (K.1,K.2.1,K.2.2.2))
 ) else(
  some (.done (Sum.inl (some (K.1,K.2.1,K.2.2.1))))
 )
def f92(fuel:Nat)(p0:(List (List Int))×(List (List Int))):Option ((Option ((List (List Int))×(List (List Int))×(List Nat)))):=
 (ix (List.replicate 13 (0:Nat)) (0)).bind fun O=>
 Option.bind (iter (IK fuel) fuel (p0.1,p0.2,((List.replicate 13 (0:Nat)).set (Int.toNat 0) 1))) fun K=>
 Sum.elim (fun r=>some r) (fun U=>none) K
theorem I0{ae:Option Addr}{c2:Nat}{ag:Option Addr}{ah:Nat}{p0:(List (List Int))×(List (List Int))}(bw:Aq (rL rI) E ae c2 (p0.1))(bx:Aq (rL rI) E ag ah (p0.2)){fuel:Nat}{r:(Option ((List (List Int))×(List (List Int))×(List Nat)))}(a3:f92 fuel p0=some r):Au J 92 [.agg #[.slice ae (p0.1).length c2,.slice ag (p0.2).length ah]] E [] (fun w E' B'=>∃(a4:Value),w=a4∧B'= []∧G8 (rP (rL (rL rI)) (rP (rL (rL rI)) (rA 13 (rN .u16)))) E' a4 (r)):=by
 refine Au.en func92 rfl rfl fun Q co cs H bz bA=>?_;unfold f92 at a3;refine JL.go 2 rfl ?_;refine JS.box (v:= .agg #[.slice ae (p0.1).length c2,.slice ag (p0.2).length ah]) rfl rfl rfl bz rfl fun bB bC=>?_;refine JS.Bf 1 bC rfl fun aq aQ aR bD=>?_;replace aR:At aq bB 0 [.slice ae (p0.1).length c2,.slice ag (p0.2).length ah]:=aR;refine JL.go 5 rfl ?_;refine JL.Bw aR (Ao underlying24) (Ah type24) rfl rfl ?_;refine JL.Y (v:= .agg (([.slice ae (p0.1).length c2,.slice ag (p0.2).length ah]:List Value)++(List.replicate 13 (.int .u16 ((0:Nat):Int)):List Value)).toArray) rfl (fun ρ h=>Yl.BW [(0,2),(2,13)] h (AM type141) underlying141 ⟨rfl,Ah type24,rfl,Ah type139,trivial⟩ rfl rfl) ?_;refine JS.box (v:= .agg (([.slice ae (p0.1).length c2,.slice ag (p0.2).length ah]:List Value)++(List.replicate 13 (.int .u16 ((0:Nat):Int)):List Value)).toArray) rfl rfl rfl bD rfl fun O bE=>?_;refine JS.norm (S':= [[],[],[(O,.cells (([.slice ae (p0.1).length c2,.slice ag (p0.2).length ah]:List Value)++(List.replicate 13 (.int .u16 ((0:Nat):Int)):List Value)).toArray 141 (0,0))]]) rfl bE fun bF=>?_;refine JL.go 6 rfl ?_;refine JL.fd underlying141 (Ah type139) rfl rfl rfl ?_;obtain⟨cp,aS,bG⟩:=bs a3;obtain⟨_,rfl,_,_,cq⟩:=FL (kk:=13) (pp:=(rN .u16)) (GO (E:=aq) (pp:=(rN .u16)) rfl) aS;refine JL.Y (v:= .pointer (some ⟨O,2+Int.toNat (0)*1,none⟩)) rfl (fun ρ h=>Yl.GV (kk:=13) (pp:=(rN .u16)) (GO (E:=aq) (pp:=(rN .u16)) rfl) aS underlying139 (Ah type138) (h _ _ rfl) (h _ _ rfl)) ?_;refine JL.fd underlying138 (Ah type102) rfl rfl rfl ?_;have aJ:=J6 (us:= [.int .u16 ((1:Nat):Int)]) (y:=1) (GO (E:=aq) (pp:=(rN .u16)) rfl) aS rfl;refine JS.Ho (v:= .int .u16 ((1:Nat):Int)) (l:= [.slice ae (p0.1).length c2,.slice ag (p0.2).length ah]) (ws:=(List.replicate 13 (.int .u16 ((0:Nat):Int)):List Value)) (us:= [.int .u16 ((1:Nat):Int)]) (o:=Int.toNat (0)*1) 2 rfl rfl rfl bF rfl rfl rfl (Ah type102) (by simp [Value.cells,Bx]) rfl aJ.2 fun a5=>?_;replace aJ:=aJ.1;generalize bH:EW (List.replicate 13 (.int .u16 ((0:Nat):Int)):List Value) (Int.toNat (0)*1) [.int .u16 ((1:Nat):Int)]=aT at a5 ⊢;have bI:(rA 13 (rN .u16)).r aq aT ((List.replicate 13 (0:Nat)).set (Int.toNat 0) 1):=by rw [← bH];exact aJ
 refine JS.norm (S':= [[],[],[(O,.cells (([.slice ae (p0.1).length c2,.slice ag (p0.2).length ah]:List Value)++aT).toArray 141 (0,0))]]) rfl a5 fun bJ=>?_;refine JL.go 2 rfl ?_;refine JL.label ?_;obtain⟨cr,bK,bL⟩:=bs bG;refine JL.wk [(3,.pointer (some ⟨O,0,none⟩))] rfl ?_;refine JL.SX bK (fun L s W=>∃(ai:LH) (ar:Option Addr) (au:Nat) (av:Option Addr) (aw:Nat) (aa:List Value),Jn aq H ai [[(O,.cells (([.slice ar (W.1).length au,.slice av (W.2.1).length aw]:List Value)++aa).toArray 141 (0,0))]] [(3,.pointer (some ⟨O,0,none⟩))] L s (Aq (rL rI) ai ar au (W.1)∧Aq (rL rI) ai av aw (W.2.1)∧(rA 13 (rN .u16)).r ai aa (W.2.2))) ⟨aq,ae,c2,ag,ah,aT,rfl,rfl,(Le.refl _),bJ,(bw.mono aQ),(bx.mono aQ),bI⟩ ?_;rintro _ _ W ⟨ai,ar,au,av,aw,aa,rfl,rfl,a6,a7,bM,bN,ay⟩ bO ⟨ct,aU⟩ bP;have a8:=aU;unfold IK at a8;refine JL.go 4 rfl ?_;refine JL.fd underlying141 (Ah type139) rfl rfl rfl ?_;refine JL.Y (v:= .agg aa.toArray) rfl (fun ρ h=>Yl.Hs (kk:=13) (pp:=(rN .u16)) ay (Ao underlying139) (Ah type139) (h _ _ rfl) (Ig (l:= [.slice ar (W.1).length au,.slice av (W.2.1).length aw]) 0 a7 rfl)) ?_;refine JS.alloc rfl rfl rfl a7 (AM type139) fun ab bQ=>?_;refine JS.norm (S':= [[(O,.cells (([.slice ar (W.1).length au,.slice av (W.2.1).length aw]:List Value)++aa).toArray 141 (0,0))],[(ab,.cells (([]:List Value)++(List.replicate 13 (.int .u16 ((0:Nat):Int)):List Value)).toArray 139 (0,0))]]) rfl bQ fun bR=>?_;refine JS.Ho (v:= .agg aa.toArray) (l:= []) (ws:=(List.replicate 13 (.int .u16 ((0:Nat):Int)):List Value)) (us:=aa) (o:=0) 1 rfl rfl rfl bR rfl rfl rfl (by rw [D2 (kk:=13) (pp:=(rN .u16)) ay];exact Ah type139) ((rA 13 (rN .u16)).one ay) rfl (by rw [D2 (kk:=13) (pp:=(rN .u16)) ay,D2 (kk:=13) (pp:=(rN .u16)) (GO (E:=ai) (pp:=(rN .u16)) rfl)];omega) fun a9=>?_;rw [Mg (by rw [D2 (kk:=13) (pp:=(rN .u16)) ay,D2 (kk:=13) (pp:=(rN .u16)) (GO (E:=ai) (pp:=(rN .u16)) rfl)])] at a9 ⊢;refine JS.norm (S':= [[(O,.cells (([.slice ar (W.1).length au,.slice av (W.2.1).length aw]:List Value)++aa).toArray 141 (0,0))],[(ab,.cells (([]:List Value)++aa).toArray 139 (0,0))]]) rfl a9 fun bS=>?_;obtain⟨K,bT,ba⟩:=bs a8;refine JL.go 6 rfl ?_;refine JL.join (fun L s=>∃(az:LH) (am:Option Addr) (an:Nat) (aj:Option Addr) (ak:Nat) (ao:List Value) (al:List Value),Jn ai H az [[(O,.cells (([.slice am (K.1).length an,.slice aj (K.2.1).length ak]:List Value)++ao).toArray 141 (0,0))],[(ab,.cells (([]:List Value)++al).toArray 139 (0,0))]] [(3,.pointer (some ⟨O,0,none⟩)),(4,.pointer (some ⟨ab,0,none⟩))] L s (Aq (rL rI) az am an (K.1)∧Aq (rL rI) az aj ak (K.2.1)∧(rA 13 (rN .u16)).r az ao (K.2.2.1)∧(rA 13 (rN .u16)).r az al (K.2.2.2))) ?_ ?_
 ·rintro _ _ ⟨az,am,an,aj,ak,ao,al,rfl,rfl,bb,aB,bc,bd,aD,ap⟩;refine JL.go 2 rfl ?_;refine JG.B8 5 [ab,O] ⟨⟨1,_,rfl⟩,⟨0,_,rfl⟩,trivial⟩ aB mixed rfl (by decide+kernel) fun ht=>?_;refine JG.V (v:= .agg al.toArray) 0 ht rfl rfl (fun ρ h s' hs=>Yl.Hs (kk:=13) (pp:=(rN .u16)) ap (Ao underlying139) (Ah type139) (h _ _ rfl) (JM (l:= []) 1 aB rfl (by simp [AD]) hs)) ?_;refine JG.mv 1 ht rfl rfl ?_;refine JG.mv 2 ht rfl rfl ?_;refine JG.fd 3 ht underlying141 (Ah type139) rfl rfl rfl rfl ?_;refine JG.V (v:= .agg ao.toArray) 4 ht rfl rfl (fun ρ h s' hs=>Yl.Hs (kk:=13) (pp:=(rN .u16)) aD (Ao underlying139) (Ah type139) (h _ _ rfl) (JM (l:= [.slice am (K.1).length an,.slice aj (K.2.1).length ak]) 0 aB rfl (by simp [AD]) hs)) ?_;refine Aw.leaf (tail:= [5]) (by decide+kernel) (fun t=>A3 (by decide+kernel) BL t) ?_;refine JL.Y (v:= .bool (decide (K.2.2.2≠K.2.2.1))) rfl (fun ρ h=>Yl.S4 underlying139 (by decide+kernel) RF (Ah type138) ap aD (h _ _ rfl) (h _ _ rfl)) ?_;refine JL.done ?_;refine JL.ifs (p:=K.2.2.2≠K.2.2.1) rfl (fun aV=>?_) (fun aV=>?_)
  ·have bf:=ba;rw [if_pos aV] at bf;refine JL.go 3 rfl ?_;refine JL.Y (v:= .agg al.toArray) rfl (fun ρ h=>Yl.Hs (kk:=13) (pp:=(rN .u16)) ap (Ao underlying139) (Ah type139) (h _ _ rfl) (Ig (l:= []) 1 aB rfl)) ?_;refine JL.go 1 rfl ?_;refine JL.fd underlying141 (Ah type139) rfl rfl rfl ?_;refine JS.Ho (v:= .agg al.toArray) (l:= [.slice am (K.1).length an,.slice aj (K.2.1).length ak]) (ws:=ao) (us:=al) (o:=0) 0 rfl rfl rfl aB rfl rfl rfl (by rw [D2 (kk:=13) (pp:=(rN .u16)) ap];exact Ah type139) ((rA 13 (rN .u16)).one ap) rfl (by rw [D2 (kk:=13) (pp:=(rN .u16)) ap,D2 (kk:=13) (pp:=(rN .u16)) aD];omega) fun bg=>?_;rw [Mg (by rw [D2 (kk:=13) (pp:=(rN .u16)) ap,D2 (kk:=13) (pp:=(rN .u16)) aD])] at bg ⊢;refine JS.norm (S':= [[(O,.cells (([.slice am (K.1).length an,.slice aj (K.2.1).length ak]:List Value)++al).toArray 141 (0,0))],[(ab,.cells (([]:List Value)++al).toArray 139 (0,0))]]) rfl bg fun bU=>?_;refine JL.done ?_;refine JL.goto rfl ?_;refine JL.go 2 rfl ?_;refine JS.drop 1 bU rfl fun bV=>?_;obtain rfl:=oi bf;exact JL.kw (bP _ _ (K.1,K.2.1,K.2.2.2) ⟨az,am,an,aj,ak,al,rfl,rfl,(a6.trans bb),bV,bc,bd,ap⟩ aU) rfl
  ·have bh:=ba;rw [if_neg aV] at bh;refine JL.go 6 rfl ?_;refine JS.Bf 0 aB rfl fun bW aK aW bX=>?_;replace aW:At bW O 0 (([.slice am (K.1).length an,.slice aj (K.2.1).length ak]:List Value)++ao):=aW;refine JS.drop 1 bX rfl fun bY=>?_;obtain rfl:=oi bh;obtain rfl:=bO _ aU;have bZ:=elim_inl bL;obtain rfl:=oi bZ;refine JL.rt func92 rfl rfl ?_;exact bA _ _ _ _ (((aQ.trans a6).trans bb).trans aK) rfl ⟨.pointer (some ⟨O,0,none⟩),rfl,rfl,⟨_,_,_,rfl,aW,⟨[.slice am (K.1).length an],(([.slice aj (K.2.1).length ak]:List Value)++ao),rfl,⟨_,_,rfl,(bc.mono aK)⟩,⟨[.slice aj (K.2.1).length ak],ao,rfl,⟨_,_,rfl,(bd.mono aK)⟩,(Rp.mono _ aK aD)⟩⟩⟩⟩ bY
 ·intro b0;refine JL.block ?_;refine JL.wk [(3,.pointer (some ⟨O,0,none⟩)),(4,.pointer (some ⟨ab,0,none⟩)),(18,iV 0)] rfl ?_;refine JL.Bi bT (fun L s U=>∃(aA:LH) (aE:Option Addr) (aF:Nat) (aG:Option Addr) (aH:Nat) (aL:List Value) (aC:List Value),Jn ai H aA [[(O,.cells (([.slice aE (U.1).length aF,.slice aG (U.2.1).length aH]:List Value)++aL).toArray 141 (0,0))],[(ab,.cells (([]:List Value)++aC).toArray 139 (0,0))]] [(3,.pointer (some ⟨O,0,none⟩)),(4,.pointer (some ⟨ab,0,none⟩)),(18,iV U.2.2.2.2)] L s (Aq (rL rI) aA aE aF (U.1)∧Aq (rL rI) aA aG aH (U.2.1)∧(rA 13 (rN .u16)).r aA aL (U.2.2.1)∧(rA 13 (rN .u16)).r aA aC (U.2.2.2.1))) ⟨ai,ar,au,av,aw,aa,aa,rfl,rfl,(Le.refl _),bS,bM,bN,ay,ay⟩ ?_;rintro _ _ U ⟨aA,aE,aF,aG,aH,aL,aC,rfl,rfl,bi,aX,bj,bk,aM,aN⟩ b1 ⟨cu,aY⟩ b2;have aZ:=aY;unfold Hn at aZ;refine JL.go 5 rfl ?_;refine JL.ifs (p:=U.2.2.2.2<12) rfl (fun a0=>?_) (fun a0=>?_)
  ·have bl:=aZ;rw [if_pos a0] at bl;obtain⟨aI,b3,b4⟩:=bs bl;refine JL.go 10 rfl ?_;refine JL.Y rfl (fun ρ h=>Yl.A0 (h _ _ rfl) (h _ _ rfl) b3) ?_;refine JL.go 4 rfl ?_;refine JL.fd underlying141 (Ah type139) rfl rfl rfl ?_;obtain⟨b5,bm,b6⟩:=bs b4;obtain⟨_,rfl,_,_,b7⟩:=FL (kk:=13) (pp:=(rN .u16)) aM bm;refine JL.Y (v:= .pointer (some ⟨O,2+Int.toNat (U.2.2.2.2)*1,none⟩)) rfl (fun ρ h=>Yl.GV (kk:=13) (pp:=(rN .u16)) aM bm underlying139 (Ah type138) (h _ _ rfl) (h _ _ rfl)) ?_;refine JL.fd underlying138 (Ah type102) rfl rfl rfl ?_;refine JL.Y (v:= .int .u16 ((b5:Nat):Int)) rfl (fun ρ h=>Yl.load (Ao underlying102) (h _ _ rfl) (O5 (l:= [.slice aE (U.1).length aF,.slice aG (U.2.1).length aH]) 0 aX rfl (b7 0 _ rfl))) ?_;obtain⟨Z,b8,b9⟩:=bs b6;refine JS.Bv 0 (QW bj bk aM b8) rfl rfl (Ay func121 rfl) aX rfl ?_;rintro _ bn _ aO ⟨bo,bp,bq,br,Gl,rfl,rfl,ca,cb,cc⟩ cd;obtain⟨cv,a1,ce⟩:=bs b9;obtain⟨_,rfl,_,_,cw⟩:=FL (kk:=13) (pp:=(rN .u16)) (Rp.mono _ aO aN) a1;refine JL.Y (v:= .pointer (some ⟨ab,0+Int.toNat (aI)*1,none⟩)) rfl (fun ρ h=>Yl.GV (kk:=13) (pp:=(rN .u16)) (Rp.mono _ aO aN) a1 underlying139 (Ah type138) (h _ _ rfl) (h _ _ rfl)) ?_;refine JL.fd underlying138 (Ah type102) rfl rfl rfl ?_;have aP:=J6 (us:= [.int .u16 ((Z.1:Nat):Int)]) (y:=Z.1) (Rp.mono _ aO aN) a1 rfl;refine JS.Ho (v:= .int .u16 ((Z.1:Nat):Int)) (l:= []) (ws:=aC) (us:= [.int .u16 ((Z.1:Nat):Int)]) (o:=Int.toNat (aI)*1) 1 rfl rfl rfl cd rfl rfl rfl (Ah type102) (by simp [Value.cells,Bx]) rfl aP.2 fun bu=>?_;replace aP:=aP.1;generalize cf:EW aC (Int.toNat (aI)*1) [.int .u16 ((Z.1:Nat):Int)]=a2 at bu ⊢;have cg:(rA 13 (rN .u16)).r bn a2 (U.2.2.2.1.set (Int.toNat aI) Z.1):=by rw [← cf];exact aP
   refine JS.norm (S':= [[(O,.cells (([.slice bo (Z.2.1).length bp,.slice bq (Z.2.2.1).length br]:List Value)++Gl).toArray 141 (0,0))],[(ab,.cells (([]:List Value)++a2).toArray 139 (0,0))]]) rfl bu fun ci=>?_;obtain⟨ck,cm,cn⟩:=bs ce;refine JL.go 3 rfl ?_;refine JL.Y rfl (fun ρ h=>Yl.A0 (h _ _ rfl) (h _ _ rfl) cm) ?_;refine JL.go 2 rfl ?_;obtain rfl:=oi cn;exact JL.kw (b2 _ _ (Z.2.1,Z.2.2.1,Z.2.2.2,(U.2.2.2.1.set (Int.toNat aI) Z.1),ck) ⟨bn,bo,bp,bq,br,Gl,a2,rfl,rfl,(bi.trans aO),ci,ca,cb,cc,cg⟩ aY) rfl
  ·have bv:=aZ;rw [if_neg a0] at bv;refine JL.exit rfl ?_;obtain rfl:=oi bv;obtain rfl:=b1 _ aY;exact JL.kw (b0 _ _ ⟨aA,aE,aF,aG,aH,aL,aC,rfl,rfl,bi,aX,bj,bk,aM,aN⟩) rfl
end Pal
namespace Pal
open Go Go.Conc Go.Proofs
open Go.Proofs.Tryz
variable {J:Judge Tryz.prog}{E:LH}
def ML(fuel:Nat)(p1:List Int)(K:Int):Option (AV (Int) (((Option ((List (List Int))×(List (List Int))×(List Nat)))×Int)⊕(Unit))):=
 if K<((p1).length:Int) then(
  (ix p1 (K)).bind fun O=>
  (f101 fuel O 0 12).bind fun U=>
  if U=true then(
   some (.done (Sum.inl (none,1)))
  ) else(
   (Av (K+1)).bind fun W=>
   some (.more W)
  )
 ) else(
  some (.done (Sum.inr ()))
 )
def f106(fuel:Nat)(p0:(List (List Int))×(List (List Int)))(p1:List Int):Option ((Option ((List (List Int))×(List (List Int))×(List Nat)))×Int):=
 (f67 fuel p0).bind fun K=>
 if K≠0 then(
  some (none,K)
 ) else(
  Option.bind (iter (ML fuel p1) fuel 0) fun O=>
  Sum.elim (fun r=>some r) (fun W=>
  (f92 fuel p0).bind fun U=>
  some (U,0)
  ) O
 )
theorem Na{U:Option Addr}{c2:Nat}{W:Option Addr}{Z:Nat}{aa:Option Addr}{ab:Nat}{p0:(List (List Int))×(List (List Int))}{p1:List Int}(av:Aq (rL rI) E U c2 (p0.1))(aw:Aq (rL rI) E W Z (p0.2))(aR:Aq rI E aa ab (p1)){fuel:Nat}{r:(Option ((List (List Int))×(List (List Int))×(List Nat)))×Int}(ay:f106 fuel p0 p1=some r):Au J 106 [.agg #[.slice U (p0.1).length c2,.slice W (p0.2).length Z],.slice aa (p1).length ab] E [] (fun w E' B'=>∃(az:Value),w= .tuple #[az,iV r.2]∧B'= []∧G8 (rP (rL (rL rI)) (rP (rL (rL rI)) (rA 13 (rN .u16)))) E' az (r.1)):=by
 refine Au.en func106 rfl rfl fun Q bp cs H aS al=>?_;unfold f106 at ay;refine JL.go 2 rfl ?_;refine JS.box (v:= .agg #[.slice U (p0.1).length c2,.slice W (p0.2).length Z]) rfl rfl rfl aS rfl fun ae aT=>?_;refine JS.Bf 1 aT rfl fun aU K ag aV=>?_;replace ag:At aU ae 0 [.slice U (p0.1).length c2,.slice W (p0.2).length Z]:=ag;refine JL.go 6 rfl ?_;refine JL.Bw ag (Ao underlying24) (Ah type24) rfl rfl ?_;obtain⟨aW,aX,aA⟩:=bs ay;refine JS.cl (SI (av.mono K) (aw.mono K) aX) rfl rfl (Ay func67 rfl) aV ?_;rintro _ am _ O ⟨rfl,rfl⟩ aB;refine JL.go 7 rfl ?_;refine JL.ifs (p:=aW≠0) rfl (fun an=>?_) (fun an=>?_)
 ·have aC:=aA;rw [if_pos an] at aC;refine JL.go 6 rfl ?_;obtain rfl:=oi aC;refine JL.rt func106 rfl rfl ?_;exact al _ _ _ _ (K.trans O) rfl ⟨.pointer none,rfl,rfl,rfl⟩ aB
 ·have aD:=aA;rw [if_neg an] at aD;refine JL.go 5 rfl ?_;refine JL.Y rfl (fun ρ h=>Yl.len rfl underlying28 (h _ _ rfl)) ?_;obtain⟨aE,aY,aF⟩:=bs aD;refine JL.go 2 rfl ?_;refine JL.join (fun L s=>∃(aG:Unit) (aH:LH),aE=Sum.inr aG∧Jm am H aH [] [(2,.pointer (some ⟨ae,0,none⟩))] L s) ?_ ?_
  ·rintro _ _ ⟨aG,aH,rfl,rfl,rfl,ah,aZ⟩;have a0:=elim_inr aF;refine JL.go 2 rfl ?_;refine JL.Bw (ag.mono (O.trans ah)) (Ao underlying24) (Ah type24) rfl rfl ?_;obtain⟨bq,a1,a2⟩:=bs a0;refine JS.cl (I0 (av.mono ((K.trans O).trans ah)) (aw.mono ((K.trans O).trans ah)) a1) rfl rfl (Ay func92 rfl) aZ ?_;rintro a3 br _ a4 ⟨_,rfl,rfl,a5⟩ a6;refine JS.norm (S':= [[]]) rfl a6 fun a7=>?_;refine JL.go 3 rfl ?_;obtain rfl:=oi a2;refine JL.rt func106 rfl rfl ?_;exact al _ _ _ _ (((K.trans O).trans ah).trans a4) rfl ⟨a3,rfl,rfl,a5⟩ a7
  ·intro a8;refine JL.block ?_;refine JL.wk [(2,.pointer (some ⟨ae,0,none⟩)),(14,.slice aa (p1).length ab),(15,iV ((p1).length:Int)),(16,iV 0)] rfl ?_;refine JL.Bi aY (fun L s ao=>∃(ai:LH),Jm am H ai [] [(2,.pointer (some ⟨ae,0,none⟩)),(14,.slice aa (p1).length ab),(15,iV ((p1).length:Int)),(16,iV ao)] L s) ⟨am,rfl,rfl,(Le.refl _),aB⟩ ?_;rintro _ _ ao ⟨ai,rfl,rfl,aj,aI⟩ aJ ⟨bu,ak⟩ a9;have ap:=ak;unfold ML at ap;refine JL.go 5 rfl ?_;refine JL.ifs (p:=ao<((p1).length:Int)) rfl (fun aq=>?_) (fun aq=>?_)
   ·have aK:=ap;rw [if_pos aq] at aK;obtain⟨ba,bb,bc⟩:=bs aK;refine JL.go 5 rfl ?_;refine JS.BI (aR.mono ((K.trans O).trans aj)) bb rfl rfl rfl rfl rfl underlying28 (Ah type3) ?_;rintro bd bf _ rfl ar;replace ar:At ai bd bf [iV ba]:=ar;refine JL.ld 0 ar (Ao underlying3) rfl rfl rfl ?_;obtain⟨bg,bh,aL⟩:=bs bc;refine JL.go 5 rfl ?_;refine JS.cl (Gf bh) rfl rfl (Ay func101 rfl) aI ?_;rintro _ bi _ aM ⟨rfl,rfl⟩ bj;refine JS.norm (S':= [[]]) rfl bj fun aN=>?_;refine JL.done ?_;refine JL.split (t:=bg) rfl (fun au=>?_) (fun au=>?_)
    ·have aO:=aL;rw [if_pos au] at aO;refine JL.go 5 rfl ?_;obtain rfl:=oi aO;obtain rfl:=aJ _ ak;have bk:=elim_inl aF;obtain rfl:=oi bk;refine JL.rt func106 rfl rfl ?_;exact al _ _ _ _ (((K.trans O).trans aj).trans aM) rfl ⟨.pointer none,rfl,rfl,rfl⟩ aN
    ·have aP:=aL;rw [if_neg (by rw [au];exact Bool.false_ne_true)] at aP;obtain⟨bl,bm,bn⟩:=bs aP;refine JL.go 3 rfl ?_;refine JL.Y rfl (fun ρ h=>Yl.A0 (h _ _ rfl) (h _ _ rfl) bm) ?_;refine JL.go 2 rfl ?_;obtain rfl:=oi bn;exact JL.kw (a9 _ _ bl ⟨bi,rfl,rfl,(aj.trans aM),aN⟩ ak) rfl
   ·have aQ:=ap;rw [if_neg aq] at aQ;refine JL.exit rfl ?_;obtain rfl:=oi aQ;have bo:aE=(Sum.inr ()):=(aJ _ ak).symm;exact JL.kw (a8 _ _ ⟨(),ai,bo,rfl,rfl,aj,aI⟩) rfl
def f51(fuel:Nat)(p0:(List (List Int))×(List (List Int)))(p1:Int):Option ((List Int)×Int):=
 (f106 fuel p0 ([p1]:List Int)).bind fun K=>
 if K.2≠0 then(
  some ([],K.2)
 ) else(
  (K.1).bind fun O=>
  (ix O.2.2 (p1)).bind fun U=>
  (f89 fuel U).bind fun W=>
  some (W,0)
 )
theorem Tb{K:Option Addr}{c2:Nat}{O:Option Addr}{U:Nat}{p0:(List (List Int))×(List (List Int))}{p1:Int}(aB:Aq (rL rI) E K c2 (p0.1))(aC:Aq (rL rI) E O U (p0.2)){fuel:Nat}{r:(List Int)×Int}(ai:f51 fuel p0 p1=some r):Au J 51 [.agg #[.slice K (p0.1).length c2,.slice O (p0.2).length U],iV p1] E [] (fun w E' B'=>∃(aj:Option Addr) (ak:Nat),w= .tuple #[.slice aj (r.1).length ak,iV r.2]∧B'= []∧Aq rI E' aj ak (r.1)):=by
 refine Au.en func51 rfl rfl fun Q a6 cs H aD al=>?_;unfold f51 at ai;refine JL.go 2 rfl ?_;refine JS.box (v:= .agg #[.slice K (p0.1).length c2,.slice O (p0.2).length U]) rfl rfl rfl aD rfl fun aE aF=>?_;refine JS.Bf 1 aF rfl fun aG W ab aH=>?_;replace ab:At aG aE 0 [.slice K (p0.1).length c2,.slice O (p0.2).length U]:=ab;refine JL.go 5 rfl ?_;refine JL.Bw ab (Ao underlying24) (Ah type24) rfl rfl ?_;refine JL.go 1 rfl ?_;refine JS.lit (pp:=rI) [iV p1] [p1] rfl rfl rfl underlying28 (Ah type3) (AM type3) (by decide) rfl rfl rfl ⟨rfl,trivial⟩ aH fun a7 a8 aI aJ=>?_;refine JS.BC 2 aI aJ rfl fun a9 Z aK aL=>?_;refine JS.norm (S':= [[],[],[]]) rfl aL fun aM=>?_;obtain⟨aN,aO,am⟩:=bs ai;refine JS.cl (Na (aB.mono (W.trans Z)) (aC.mono (W.trans Z)) aK aO) rfl rfl (Ay func106 rfl) aM ?_;rintro _ an _ ao ⟨ba,rfl,rfl,aP⟩ ap;refine JL.go 12 rfl ?_;refine JL.ifs (p:=aN.2≠0) rfl (fun ae=>?_) (fun ae=>?_)
 ·have aq:=am;rw [if_pos ae] at aq;refine JL.go 6 rfl ?_;obtain rfl:=oi aq;refine JL.rt func51 rfl rfl ?_;exact al _ _ _ _ ((W.trans Z).trans ao) rfl ⟨none,0,rfl,rfl,Aq.nil⟩ ap
 ·have ar:=am;rw [if_neg ae] at ar;obtain⟨aa,aQ,aR⟩:=bs ar;have au:=aP;refine JL.go 5 rfl ?_;rw [aQ] at au;obtain⟨av,aS,_,rfl,ag,⟨_,_,rfl,⟨aw,ay,rfl,bb⟩,⟨_,aT,rfl,⟨az,aA,rfl,bc⟩,aU⟩⟩⟩:=au;replace ag:At an av aS (([.slice aw (aa.1).length ay,.slice az (aa.2.1).length aA]:List Value)++aT):=ag;refine JL.go 1 rfl ?_;refine JL.fd underlying141 (Ah type139) rfl rfl rfl ?_;obtain⟨aV,aW,aX⟩:=bs aR;refine JS.Ku (l:= [.slice aw (aa.1).length ay,.slice az (aa.2.1).length aA]) ag aU aW rfl rfl rfl rfl rfl underlying139 (Ah type138) ?_;rintro aY _ rfl ah;replace ah:At an av aY [.int .u16 ((aV:Nat):Int)]:=ah;refine JL.fd underlying138 (Ah type102) rfl rfl rfl ?_;refine JL.ld 0 ah (Ao underlying102) rfl rfl rfl ?_;obtain⟨bd,aZ,a0⟩:=bs aX;refine JS.cl (FZ aZ) rfl rfl (Ay func89 rfl) ap ?_;rintro _ bf _ a1 ⟨a2,a3,rfl,rfl,a4⟩ a5;refine JL.go 3 rfl ?_;obtain rfl:=oi a0;refine JL.rt func51 rfl rfl ?_;exact al _ _ _ _ (((W.trans Z).trans ao).trans a1) rfl ⟨a2,a3,rfl,rfl,a4⟩ a5
def Ry(fuel:Nat)(p1:Int)(O:(List (List Int))×(List (List Int))×(List Nat))(K:(List Int)×Int):Option (AV ((List Int)×Int) ((List Int))):=
 if K.2<13 then(
  (ix O.2.2 (K.2)).bind fun U=>
  (f103 fuel U p1).bind fun W=>
  Option.bind (
   if W=true then(
    (room K.1 K.2).bind fun Z=>
    some Z
   ) else(
    some K.1
   )
  ) fun aa=>
  (Av (K.2+1)).bind fun ab=>
  some (.more (aa,ab))
 ) else(
  some (.done K.1)
 )
def f65(fuel:Nat)(p0:(List (List Int))×(List (List Int)))(p1:Int):Option ((List Int)×Int):=
 (f106 fuel p0 ([])).bind fun K=>
 if K.2≠0 then(
  some ([],K.2)
 ) else(
  (Av (((p0.1).length:Int) - 1)).bind fun O=>
  (f101 fuel p1 0 O).bind fun U=>
  if U=true then(
   some ([],3)
  ) else(
   (K.1).bind fun W=>
   Option.bind (iter (Ry fuel p1 W) fuel ([],0)) fun Z=>
   some (Z,0)
  )
 )
def MC(fuel:Nat)(p0:(List (List Int))×(List (List Int))×(List Nat))(O:Nat)(U:(List Int))(K:Int):Option (AV (Int) ((Bool)⊕(Unit))):=
 if K<((U).length:Int) then(
  (ix U (K)).bind fun W=>
  (f103 fuel O W).bind fun Z=>
  Option.bind (
   if Z=true then(
    some true
   ) else(
    (ix p0.2.1 (W)).bind fun aa=>
    (f120 fuel aa).bind fun ab=>
    (G3 (O) (ab)).bind fun ae=>
    some (decide ((((ae):Nat):Int)≠(((0):Nat):Int)))
   )
  ) fun ag=>
  if ag=true then(
   some (.done (Sum.inl true))
  ) else(
   (Av (K+1)).bind fun ah=>
   some (.more ah)
  )
 ) else(
  some (.done (Sum.inr ()))
 )
def f109(fuel:Nat)(p0:(List (List Int))×(List (List Int))×(List Nat))(p1:Int)(p2:Int):Option (Bool):=
 (ix p0.2.2 (p2)).bind fun K=>
 (ix p0.2.2 (p1)).bind fun O=>
 (f89 fuel O).bind fun U=>
 Option.bind (iter (MC fuel p0 K U) fuel 0) fun W=>
 Sum.elim (fun r=>some r) (fun Z=>
 some false
 ) W
theorem Sp{k1:Nat}{U:Nat}{W:Option Addr}{Z:Nat}{aa:Option Addr}{ab:Nat}{aC:List Value}{p0:(List (List Int))×(List (List Int))×(List Nat)}{p1:Int}{p2:Int}(al:At E k1 U (([.slice W (p0.1).length Z,.slice aa (p0.2.1).length ab]:List Value)++aC))(bQ:Aq (rL rI) E W Z (p0.1))(aZ:Aq (rL rI) E aa ab (p0.2.1))(aD:(rA 13 (rN .u16)).r E aC (p0.2.2)){fuel:Nat}{r:Bool}(aE:f109 fuel p0 p1 p2=some r):Au J 109 [.pointer (some ⟨k1,U,none⟩),iV p1,iV p2] E [] (fun w E' B'=>w= .bool r∧B'= []):=by
 refine Au.en func109 rfl rfl fun Q bR cs H a0 aF=>?_;unfold f109 at aE;refine JL.go 9 rfl ?_;refine JL.fd underlying141 (Ah type139) rfl rfl rfl ?_;obtain⟨ae,a1,a2⟩:=bs aE;refine JS.Ku (l:= [.slice W (p0.1).length Z,.slice aa (p0.2.1).length ab]) al aD a1 rfl rfl rfl rfl rfl underlying139 (Ah type138) ?_;rintro a3 _ rfl am;replace am:At E k1 a3 [.int .u16 ((ae:Nat):Int)]:=am;refine JL.fd underlying138 (Ah type102) rfl rfl rfl ?_;refine JL.ld 0 am (Ao underlying102) rfl rfl rfl ?_;refine JL.go 8 rfl ?_;refine JL.fd underlying141 (Ah type139) rfl rfl rfl ?_;obtain⟨a4,a5,a6⟩:=bs a2;refine JS.Ku (l:= [.slice W (p0.1).length Z,.slice aa (p0.2.1).length ab]) al aD a5 rfl rfl rfl rfl rfl underlying139 (Ah type138) ?_;rintro a7 _ rfl an;replace an:At E k1 a7 [.int .u16 ((a4:Nat):Int)]:=an;refine JL.fd underlying138 (Ah type102) rfl rfl rfl ?_;refine JL.ld 0 an (Ao underlying102) rfl rfl rfl ?_;obtain⟨K,a8,a9⟩:=bs a6;refine JS.cl (FZ a8) rfl rfl (Ay func89 rfl) a0 ?_;rintro _ ao _ ag ⟨ap,aq,rfl,rfl,ba⟩ bb;refine JL.Y rfl (fun ρ h=>Yl.len rfl underlying28 (h _ _ rfl)) ?_;obtain⟨aG,bc,aH⟩:=bs a9;refine JL.go 2 rfl ?_;refine JL.join (fun L s=>∃(aI:Unit) (aJ:LH),aG=Sum.inr aI∧Jm ao H aJ [] [] L s) ?_ ?_
 ·rintro _ _ ⟨aI,aJ,rfl,rfl,rfl,bd,bf⟩;have bg:=elim_inr aH;refine JL.go 4 rfl ?_;obtain rfl:=oi bg;refine JL.rt func109 rfl rfl ?_;exact aF _ _ _ _ (ag.trans bd) rfl ⟨rfl,rfl⟩ bf
 ·intro bh;refine JL.block ?_;refine JL.wk [(0,.pointer (some ⟨k1,U,none⟩)),(7,.int .u16 ((ae:Nat):Int)),(24,.slice ap (K).length aq),(25,iV ((K).length:Int)),(26,iV 0)] rfl ?_;refine JL.Bi bc (fun L s ah=>∃(ai:LH),Jm ao H ai [] [(0,.pointer (some ⟨k1,U,none⟩)),(7,.int .u16 ((ae:Nat):Int)),(24,.slice ap (K).length aq),(25,iV ((K).length:Int)),(26,iV ah)] L s) ⟨ao,rfl,rfl,(Le.refl _),bb⟩ ?_;rintro _ _ ah ⟨ai,rfl,rfl,O,aK⟩ aL ⟨bS,aj⟩ bi;have ar:=aj;unfold MC at ar;refine JL.go 5 rfl ?_;refine JL.ifs (p:=ah<((K).length:Int)) rfl (fun au=>?_) (fun au=>?_)
  ·have aM:=ar;rw [if_pos au] at aM;obtain⟨bj,bk,bl⟩:=bs aM;refine JL.go 5 rfl ?_;refine JS.BI (ba.mono O) bk rfl rfl rfl rfl rfl underlying28 (Ah type3) ?_;rintro bm bn _ rfl av;replace av:At ai bm bn [iV bj]:=av;refine JL.ld 0 av (Ao underlying3) rfl rfl rfl ?_;obtain⟨bo,bp,bq⟩:=bs bl;refine JL.go 6 rfl ?_;refine JS.cl (Kc bp) rfl rfl (Ay func103 rfl) aK ?_;rintro _ aw _ ak ⟨rfl,rfl⟩ aN;obtain⟨aO,aP,aQ⟩:=bs bq;refine JL.go 1 rfl ?_;refine JL.BA [] (fun L s=>∃(ay:LH),Jm aw H ay [] [(0,.pointer (some ⟨k1,U,none⟩)),(7,.int .u16 ((ae:Nat):Int)),(24,.slice ap (K).length aq),(25,iV ((K).length:Int)),(26,iV ah),(46,.bool aO)] L s) ?_ ?_
   ·rintro _ _ ⟨ay,rfl,rfl,aR,aS⟩;refine JL.done ?_;refine JL.split (t:=aO) rfl (fun az=>?_) (fun az=>?_)
    ·have aT:=aQ;rw [if_pos az] at aT;refine JL.go 4 rfl ?_;obtain rfl:=oi aT;obtain rfl:=aL _ aj;have br:=elim_inl aH;obtain rfl:=oi br;refine JL.rt func109 rfl rfl ?_;exact aF _ _ _ _ (((ag.trans O).trans ak).trans aR) rfl ⟨rfl,rfl⟩ aS
    ·have aU:=aQ;rw [if_neg (by rw [az];exact Bool.false_ne_true)] at aU;obtain⟨bu,bv,bw⟩:=bs aU;refine JL.go 3 rfl ?_;refine JL.Y rfl (fun ρ h=>Yl.A0 (h _ _ rfl) (h _ _ rfl) bv) ?_;refine JL.go 2 rfl ?_;obtain rfl:=oi bw;exact JL.kw (bi _ _ bu ⟨ay,rfl,rfl,((O.trans ak).trans aR),aS⟩ aj) rfl
   ·intro aV;refine JL.Cg (c:=bo) (i:=33) rfl (fun aA=>?_) (fun aA=>?_)
    ·have aW:=aP;rw [if_pos aA] at aW;refine JL.go 13 rfl ?_;obtain rfl:=oi aW;exact JL.kw (aV _ _ ⟨aw,rfl,rfl,(Le.refl _),aN⟩) rfl
    ·have aX:=aP;rw [if_neg (by rw [aA];exact Bool.false_ne_true)] at aX;refine JL.go 3 rfl ?_;refine JL.fd underlying141 (Ah type24) rfl rfl rfl ?_;refine JL.fd underlying24 (Ah type22) rfl rfl rfl ?_;refine JL.ld 1 (al.mono ((ag.trans O).trans ak)) (Ao underlying22) rfl rfl rfl ?_;obtain⟨bx,bz,bA⟩:=bs aX;refine JL.go 1 rfl ?_;refine JS.BI (aZ.mono ((ag.trans O).trans ak)) bz rfl rfl rfl rfl rfl underlying22 (Ah type28) ?_;rintro bB bC _ ⟨bD,bE,rfl,bF⟩ aB;replace aB:At aw bB bC [.slice bD (bx).length bE]:=aB;refine JL.ld 0 aB (Ao underlying28) rfl rfl rfl ?_;obtain⟨bT,bG,bH⟩:=bs bA;refine JS.cl (GN bF bG) rfl rfl (Ay func120 rfl) aN ?_;rintro _ bI _ bJ ⟨rfl,rfl⟩ bK;refine JS.norm (S':= [[],[]]) rfl bK fun bL=>?_;obtain⟨bM,bN,bO⟩:=bs bH;refine JL.Y (v:= .int .u16 ((bM:Nat):Int)) rfl (fun ρ h=>Yl.Ke (h _ _ rfl) (h _ _ rfl) bN) ?_;refine JL.go 2 rfl ?_;obtain rfl:=oi bO;exact JL.kw (aV _ _ ⟨bI,rfl,rfl,bJ,bL⟩) rfl
  ·have aY:=ar;rw [if_neg au] at aY;refine JL.exit rfl ?_;obtain rfl:=oi aY;have bP:aG=(Sum.inr ()):=(aL _ aj).symm;exact JL.kw (bh _ _ ⟨(),ai,bP,rfl,rfl,O,aK⟩) rfl
def NA(fuel:Nat)(p1:Int)(O:(List (List Int))×(List (List Int))×(List Nat))(K:Int):Option (AV (Int) (Int)):=
 (f109 fuel O p1 K).bind fun U=>
 if(!U)=true then(
  (Av (K+1)).bind fun W=>
  some (.more W)
 ) else(
  some (.done K)
 )
def f57(fuel:Nat)(p0:(List (List Int))×(List (List Int)))(p1:Int):Option (Int×Int):=
 (f106 fuel p0 ([p1]:List Int)).bind fun K=>
 if K.2≠0 then(
  some (0,K.2)
 ) else(
  (K.1).bind fun O=>
  Option.bind (iter (NA fuel p1 O) fuel 0) fun U=>
  some (U,0)
 )
theorem SJ{O:Option Addr}{c2:Nat}{U:Option Addr}{W:Nat}{p0:(List (List Int))×(List (List Int))}{p1:Int}(aJ:Aq (rL rI) E O c2 (p0.1))(aK:Aq (rL rI) E U W (p0.2)){fuel:Nat}{r:Int×Int}(am:f57 fuel p0 p1=some r):Au J 57 [.agg #[.slice O (p0.1).length c2,.slice U (p0.2).length W],iV p1] E [] (fun w E' B'=>w= .tuple #[iV r.1,iV r.2]∧B'= []):=by
 refine Au.en func57 rfl rfl fun Q bm cs H aL an=>?_;unfold f57 at am;refine JL.go 2 rfl ?_;refine JS.box (v:= .agg #[.slice O (p0.1).length c2,.slice U (p0.2).length W]) rfl rfl rfl aL rfl fun aM aN=>?_;refine JS.Bf 1 aN rfl fun aO Z ae aP=>?_;replace ae:At aO aM 0 [.slice O (p0.1).length c2,.slice U (p0.2).length W]:=ae;refine JL.go 5 rfl ?_;refine JL.Bw ae (Ao underlying24) (Ah type24) rfl rfl ?_;refine JL.go 1 rfl ?_;refine JS.lit (pp:=rI) [iV p1] [p1] rfl rfl rfl underlying28 (Ah type3) (AM type3) (by decide) rfl rfl rfl ⟨rfl,trivial⟩ aP fun bn bo aQ aR=>?_;refine JS.BC 2 aQ aR rfl fun bp aa aS aT=>?_;refine JS.norm (S':= [[],[],[]]) rfl aT fun aU=>?_;obtain⟨aV,aW,ao⟩:=bs am;refine JS.cl (Na (aJ.mono (Z.trans aa)) (aK.mono (Z.trans aa)) aS aW) rfl rfl (Ay func106 rfl) aU ?_;rintro _ ab _ ap ⟨bq,rfl,rfl,aX⟩ aq;refine JL.go 12 rfl ?_;refine JL.ifs (p:=aV.2≠0) rfl (fun ag=>?_) (fun ag=>?_)
 ·have ar:=ao;rw [if_pos ag] at ar;refine JL.go 6 rfl ?_;obtain rfl:=oi ar;refine JL.rt func57 rfl rfl ?_;exact an _ _ _ _ ((Z.trans aa).trans ap) rfl ⟨rfl,rfl⟩ aq
 ·have au:=ao;rw [if_neg ag] at au;obtain⟨av,aY,aZ⟩:=bs au;have aw:=aX;refine JL.go 6 rfl ?_;rw [aY] at aw;obtain⟨ah,ai,_,rfl,aj,⟨_,_,rfl,⟨a0,a1,rfl,a2⟩,⟨_,a3,rfl,⟨a4,a5,rfl,a6⟩,a7⟩⟩⟩:=aw;replace aj:At ab ah ai (([.slice a0 (av.1).length a1,.slice a4 (av.2.1).length a5]:List Value)++a3):=aj;obtain⟨a8,a9,ba⟩:=bs aZ;refine JL.join (fun L s=>∃(ay:LH),Jm ab H ay [] [(8,iV a8)] L s) ?_ ?_
  ·rintro _ _ ⟨ay,rfl,rfl,bb,bc⟩;refine JL.go 6 rfl ?_;obtain rfl:=oi ba;refine JL.rt func57 rfl rfl ?_;exact an _ _ _ _ (((Z.trans aa).trans ap).trans bb) rfl ⟨rfl,rfl⟩ bc
  ·intro bd;refine JL.block ?_;refine JL.wk [(1,iV p1),(6,.pointer (some ⟨ah,ai,none⟩)),(8,iV 0)] rfl ?_;refine JL.Bi a9 (fun L s az=>∃(aA:LH),Jm ab H aA [] [(1,iV p1),(6,.pointer (some ⟨ah,ai,none⟩)),(8,iV az)] L s) ⟨ab,rfl,rfl,(Le.refl _),aq⟩ ?_;rintro _ _ az ⟨aA,rfl,rfl,K,bf⟩ bg ⟨br,ak⟩ bh;have aB:=ak;unfold NA at aB;obtain⟨aC,bi,aD⟩:=bs aB;refine JL.go 6 rfl ?_;refine JS.cl (Sp (aj.mono K) (a2.mono K) (a6.mono K) (Rp.mono _ K a7) bi) rfl rfl (Ay func109 rfl) bf ?_;rintro _ aE _ aF ⟨rfl,rfl⟩ aG;refine JL.Y (v:= .bool (!aC)) rfl (fun ρ h=>Yl.not (h _ _ rfl)) ?_;refine JL.done ?_;refine JL.split (t:=(!aC)) rfl (fun al=>?_) (fun al=>?_)
   ·have aH:=aD;rw [if_pos al] at aH;obtain⟨bj,bk,bl⟩:=bs aH;refine JL.go 4 rfl ?_;refine JL.Y rfl (fun ρ h=>Yl.A0 (h _ _ rfl) (h _ _ rfl) bk) ?_;refine JL.go 3 rfl ?_;obtain rfl:=oi bl;exact JL.kw (bh _ _ bj ⟨aE,rfl,rfl,(K.trans aF),aG⟩ ak) rfl
   ·have aI:=aD;rw [if_neg (by rw [al];exact Bool.false_ne_true)] at aI;refine JL.exit rfl ?_;obtain rfl:=oi aI;obtain rfl:=bg _ ak;exact JL.kw (bd _ _ ⟨aE,rfl,rfl,(K.trans aF),aG⟩) rfl
end Pal
namespace Pal
open Go Go.Conc Go.Proofs
open Go.Proofs.Tryz
variable {J:Judge Tryz.prog}{E:LH}
def Im(fuel:Nat)(p0:List Int)(p1:Int)(K:Int):Option (AV (Int) ((Int)⊕(Unit))):=
 if K<((p0).length:Int) then(
  (ix p0 (K)).bind fun O=>
  if p1=O then(
   some (.done (Sum.inl K))
  ) else(
   (Av (K+1)).bind fun U=>
   some (.more U)
  )
 ) else(
  some (.done (Sum.inr ()))
 )
def f201(fuel:Nat)(p0:List Int)(p1:Int):Option (Int):=
 Option.bind (iter (Im fuel p0 p1) fuel 0) fun K=>
 Sum.elim (fun r=>some r) (fun O=>
 some (-1)
 ) K
theorem RD{O:Option Addr}{c2:Nat}{p0:List Int}{p1:Int}(ay:Aq rI E O c2 (p0)){fuel:Nat}{r:Int}(ai:f201 fuel p0 p1=some r):Au J 201 [.slice O (p0).length c2,iV p1] E [] (fun w E' B'=>w=iV r∧B'= []):=by
 refine Au.en func201 rfl rfl fun Q aO cs H az aj=>?_;unfold f201 at ai;refine JL.go 8 rfl ?_;refine JL.Y rfl (fun ρ h=>Yl.len rfl underlying28 (h _ _ rfl)) ?_;obtain⟨ak,aA,al⟩:=bs ai;refine JL.go 2 rfl ?_;refine JL.join (fun L s=>∃(am:Unit) (an:LH),ak=Sum.inr am∧Jm E H an [] [] L s) ?_ ?_
 ·rintro _ _ ⟨am,an,rfl,rfl,rfl,aB,aC⟩;have aD:=elim_inr al;refine JL.go 4 rfl ?_;obtain rfl:=oi aD;refine JL.rt func201 rfl rfl ?_;exact aj _ _ _ _ aB rfl ⟨rfl,rfl⟩ aC
 ·intro aE;refine JL.block ?_;refine JL.wk [(0,.slice O (p0).length c2),(1,iV p1),(7,iV ((p0).length:Int)),(8,iV 0)] rfl ?_;refine JL.Bi aA (fun L s Z=>∃(K:LH),Jm E H K [] [(0,.slice O (p0).length c2),(1,iV p1),(7,iV ((p0).length:Int)),(8,iV Z)] L s) ⟨E,rfl,rfl,(Le.refl _),az⟩ ?_;rintro _ _ Z ⟨K,rfl,rfl,U,aa⟩ ao ⟨aP,W⟩ aF;have ab:=W;unfold Im at ab;refine JL.go 5 rfl ?_;refine JL.ifs (p:=Z<((p0).length:Int)) rfl (fun ae=>?_) (fun ae=>?_)
  ·have ap:=ab;rw [if_pos ae] at ap;obtain⟨aq,aG,ar⟩:=bs ap;refine JL.go 13 rfl ?_;refine JS.BI (ay.mono U) aG rfl rfl rfl rfl rfl underlying28 (Ah type3) ?_;rintro aH aI _ rfl ag;replace ag:At K aH aI [iV aq]:=ag;refine JL.ld 0 ag (Ao underlying3) rfl rfl rfl ?_;refine JL.go 2 rfl ?_;refine JL.ifs (p:=p1=aq) rfl (fun ah=>?_) (fun ah=>?_)
   ·have au:=ar;rw [if_pos ah] at au;refine JL.go 5 rfl ?_;obtain rfl:=oi au;obtain rfl:=ao _ W;have aJ:=elim_inl al;obtain rfl:=oi aJ;refine JL.rt func201 rfl rfl ?_;exact aj _ _ _ _ U rfl ⟨rfl,rfl⟩ aa
   ·have av:=ar;rw [if_neg ah] at av;obtain⟨aK,aL,aM⟩:=bs av;refine JL.go 3 rfl ?_;refine JL.Y rfl (fun ρ h=>Yl.A0 (h _ _ rfl) (h _ _ rfl) aL) ?_;refine JL.go 2 rfl ?_;obtain rfl:=oi aM;exact JL.kw (aF _ _ aK ⟨K,rfl,rfl,U,aa⟩ W) rfl
  ·have aw:=ab;rw [if_neg ae] at aw;refine JL.exit rfl ?_;obtain rfl:=oi aw;have aN:ak=(Sum.inr ()):=(ao _ W).symm;exact JL.kw (aE _ _ ⟨(),K,aN,rfl,rfl,U,aa⟩) rfl
def f199(fuel:Nat)(p0:List Int)(p1:Int):Option (Bool):=
 (f201 fuel p0 p1).bind fun K=>
 some (decide (0≤K))
theorem Sl{K:Option Addr}{c2:Nat}{p0:List Int}{p1:Int}(U:Aq rI E K c2 (p0)){fuel:Nat}{r:Bool}(O:f199 fuel p0 p1=some r):Au J 199 [.slice K (p0).length c2,iV p1] E [] (fun w E' B'=>w= .bool r∧B'= []):=by
 refine Au.en func199 rfl rfl fun Q ah cs H W Z=>?_;unfold f199 at O;obtain⟨ai,aa,ab⟩:=bs O;refine JL.go 8 rfl ?_;refine JS.cl (RD U aa) rfl rfl (Ay func201 rfl) W ?_;rintro _ aj _ ae ⟨rfl,rfl⟩ ag;refine JL.go 3 rfl ?_;obtain rfl:=oi ab;refine JL.rt func199 rfl rfl ?_;exact Z _ _ _ _ ae rfl ⟨rfl,rfl⟩ ag
def f192(fuel:Nat)(p0:(List (List Int))×(List (List Int))×(List Nat))(p1:Int)(p2:Int):Option ((Option (Int×Option Int))):=
 if p1=p2 then(
  some (some (p1,none))
 ) else(
  (ix p0.2.1 (p1)).bind fun K=>
  (f199 fuel K p2).bind fun O=>
  if O=true then(
   some (some (p1,some p2))
  ) else(
   some none
  )
 )
theorem Sb{k1:Nat}{aa:Nat}{ab:Option Addr}{ae:Nat}{ag:Option Addr}{ah:Nat}{ai:List Value}{p0:(List (List Int))×(List (List Int))×(List Nat)}{p1:Int}{p2:Int}(au:At E k1 aa (([.slice ab (p0.1).length ae,.slice ag (p0.2.1).length ah]:List Value)++ai))(aH:Aq (rL rI) E ab ae (p0.1))(av:Aq (rL rI) E ag ah (p0.2.1))(aI:(rA 13 (rN .u16)).r E ai (p0.2.2)){fuel:Nat}{r:(Option (Int×Option Int))}(K:f192 fuel p0 p1 p2=some r):Au J 192 [.pointer (some ⟨k1,aa,none⟩),iV p1,iV p2] E [] (fun w E' B'=>∃(aj:Value),w=aj∧B'= []∧KF 257 259 aj (r)):=by
 refine Au.en func192 rfl rfl fun Q aJ cs H ak O=>?_;unfold f192 at K;refine JL.go 13 rfl ?_;refine JL.ifs (p:=p1=p2) rfl (fun U=>?_) (fun U=>?_)
 ·have al:=K;rw [if_pos U] at al;refine JL.go 3 rfl ?_;refine JL.Y (v:= .agg #[iV p1]) rfl (fun ρ h=>Yl.BW [(0,1)] h (AM type257) underlying257 ⟨rfl,Ah type3,trivial⟩ rfl rfl) ?_;refine JL.Y (v:= .iface 257 (.agg #[iV p1])) rfl (fun ρ h=>Yl.De underlying257 (fun _ h=>by cases h) (h _ _ rfl)) ?_;refine JL.go 2 rfl ?_;obtain rfl:=oi al;refine JL.rt func192 rfl rfl ?_;exact O _ _ _ _ (Le.refl _) rfl ⟨.iface 257 (.agg #[iV p1]),rfl,rfl,rfl⟩ ak
 ·have am:=K;rw [if_neg U] at am;refine JL.go 4 rfl ?_;refine JL.fd underlying141 (Ah type24) rfl rfl rfl ?_;refine JL.fd underlying24 (Ah type22) rfl rfl rfl ?_;refine JL.ld 1 au (Ao underlying22) rfl rfl rfl ?_;obtain⟨aw,ay,az⟩:=bs am;refine JL.go 1 rfl ?_;refine JS.BI av ay rfl rfl rfl rfl rfl underlying22 (Ah type28) ?_;rintro aA aB _ ⟨aC,aD,rfl,aE⟩ W;replace W:At E aA aB [.slice aC (aw).length aD]:=W;refine JL.ld 0 W (Ao underlying28) rfl rfl rfl ?_;obtain⟨aF,aG,an⟩:=bs az;refine JL.go 1 rfl ?_;refine JS.cl (Sl aE aG) rfl rfl (Ay func199 rfl) ak ?_;rintro _ aK _ ao ⟨rfl,rfl⟩ ap;refine JL.go 2 rfl ?_;refine JL.split (t:=aF) rfl (fun Z=>?_) (fun Z=>?_)
  ·have aq:=an;rw [if_pos Z] at aq;refine JL.go 4 rfl ?_;refine JL.Y (v:= .agg #[iV p1,iV p2]) rfl (fun ρ h=>Yl.BW [(0,1),(1,1)] h (AM type259) underlying259 ⟨rfl,Ah type3,rfl,Ah type3,trivial⟩ rfl rfl) ?_;refine JL.Y (v:= .iface 259 (.agg #[iV p1,iV p2])) rfl (fun ρ h=>Yl.De underlying259 (fun _ h=>by cases h) (h _ _ rfl)) ?_;refine JL.go 2 rfl ?_;obtain rfl:=oi aq;refine JL.rt func192 rfl rfl ?_;exact O _ _ _ _ ao rfl ⟨.iface 259 (.agg #[iV p1,iV p2]),rfl,rfl,rfl⟩ ap
  ·have ar:=an;rw [if_neg (by rw [Z];exact Bool.false_ne_true)] at ar;refine JL.go 6 rfl ?_;obtain rfl:=oi ar;refine JL.rt func192 rfl rfl ?_;exact O _ _ _ _ ao rfl ⟨.nilIface,rfl,rfl,rfl⟩ ap
end Pal
namespace Pal
open Go Go.Conc Go.Proofs
open Go.Proofs.Tryz
variable {J:Judge Tryz.prog}{E:LH}
def Hz(fuel:Nat)(p0:((List (List Int))×(List (List Int))×(List Nat))×(List (Int×Int))×Int×(List Int)×Nat):Option (Int):=
 if((p0.2.1).length:Int)=0 then(
  some 0
 ) else(
  (Av (((p0.2.1).length:Int) - 1)).bind fun K=>
  (ix p0.2.1 (K)).bind fun O=>
  some O.1
 )
theorem QC{W:Nat}{k1:Nat}{Z:Nat}{ai:Option Addr}{aj:Nat}{ak:Option Addr}{al:Nat}{am:List Value}{K:Option Addr}{O:Nat}{aa:Option Addr}{ab:Nat}{p0:((List (List Int))×(List (List Int))×(List Nat))×(List (Int×Int))×Int×(List Int)×Nat}(aB:At E k1 Z (([.slice ai (p0.1.1).length aj,.slice ak (p0.1.2.1).length al]:List Value)++am))(aC:Aq (rL rI) E ai aj (p0.1.1))(aD:Aq (rL rI) E ak al (p0.1.2.1))(aE:(rA 13 (rN .u16)).r E am (p0.1.2.2))(ar:Aq (rP rI rI) E K O (p0.2.1))(aF:Aq rI E aa ab (p0.2.2.2.1)){fuel:Nat}{r:Int}(ae:Hz fuel p0=some r):Au J 154 [.pointer (some ⟨W,0,none⟩)] E [(W,.cells #[.pointer (some ⟨k1,Z,none⟩),.slice K (p0.2.1).length O,iV p0.2.2.1,.slice aa (p0.2.2.2.1).length ab,.int .u16 ((p0.2.2.2.2:Nat):Int)] 175 (0,0))] (fun w E' B'=>w=iV r∧B'= [(W,.cells #[.pointer (some ⟨k1,Z,none⟩),.slice K (p0.2.1).length O,iV p0.2.2.1,.slice aa (p0.2.2.2.1).length ab,.int .u16 ((p0.2.2.2.2:Nat):Int)] 175 (0,0))]):=by
 refine Au.en func154 rfl rfl fun Q aG cs H U an=>?_;unfold Hz at ae;refine JL.go 9 rfl ?_;refine JL.fd underlying175 (Ah type25) rfl rfl rfl ?_;refine JL.Y (v:= .slice K (p0.2.1).length O) rfl (fun ρ h=>Yl.load (Ao underlying25) (h _ _ rfl) (Cs (j:=0) (off:=1) U rfl rfl)) ?_;refine JL.Y rfl (fun ρ h=>Yl.len rfl underlying25 (h _ _ rfl)) ?_;refine JL.go 2 rfl ?_;refine JL.ifs (p:=((p0.2.1).length:Int)=0) rfl (fun ag=>?_) (fun ag=>?_)
 ·have ao:=ae;rw [if_pos ag] at ao;refine JL.go 4 rfl ?_;obtain rfl:=oi ao;refine JL.rt func154 rfl rfl ?_;exact an _ _ _ _ (Le.refl _) rfl ⟨rfl,rfl⟩ U
 ·have ap:=ae;rw [if_neg ag] at ap;refine JL.go 2 rfl ?_;refine JG.B8 10 [W] ⟨⟨0,_,rfl⟩,trivial⟩ U mixed rfl (by decide+kernel) fun ht=>?_;refine JG.mv 0 ht rfl rfl ?_;refine JG.mv 1 ht rfl rfl ?_;refine JG.fd 2 ht underlying175 (Ah type25) rfl rfl rfl rfl ?_;refine JG.V (v:= .slice K (p0.2.1).length O) 3 ht rfl rfl (fun ρ h s' hs=>Yl.load (Ao underlying25) (h _ _ rfl) (Bd (o:=1) 0 U rfl (by simp [AD]) hs rfl)) ?_;refine JG.mv 4 ht rfl rfl ?_;refine JG.mv 5 ht rfl rfl ?_;refine JG.fd 6 ht underlying175 (Ah type25) rfl rfl rfl rfl ?_;refine JG.V (v:= .slice K (p0.2.1).length O) 7 ht rfl rfl (fun ρ h s' hs=>Yl.load (Ao underlying25) (h _ _ rfl) (Bd (o:=1) 0 U rfl (by simp [AD]) hs rfl)) ?_;refine JG.V 8 ht rfl rfl (fun ρ h s' hs=>Yl.len rfl underlying25 (h _ _ rfl)) ?_;obtain⟨aH,au,av⟩:=bs ap;refine JG.V 9 ht rfl rfl (fun ρ h s' hs=>Yl.A4 (h _ _ rfl) (h _ _ rfl) au) ?_;refine Aw.leaf (tail:= [10,11,12,13]) (by decide+kernel) (fun t=>A3 (by decide+kernel) (A3 (by decide+kernel) (A3 (by decide+kernel) (A3 (by decide+kernel) BL))) t) ?_;obtain⟨aq,aw,ay⟩:=bs av;refine JS.BI ar aw rfl rfl rfl rfl rfl underlying25 (Ah type27) ?_;rintro az aA _ ⟨_,_,rfl,rfl,rfl⟩ ah;replace ah:At E az aA [iV aq.1,iV aq.2]:=ah;refine JL.fd underlying27 (Ah type3) rfl rfl rfl ?_;refine JL.ld 0 ah (Ao underlying3) rfl rfl rfl ?_;refine JL.go 2 rfl ?_;obtain rfl:=oi ay;refine JL.rt func154 rfl rfl ?_;exact an _ _ _ _ (Le.refl _) rfl ⟨rfl,rfl⟩ U
def Ie(fuel:Nat)(p0:((List (List Int))×(List (List Int))×(List Nat))×(List (Int×Int))×Int×(List Int)×Nat)(p1:Int)(p2:Int)(K:Nat×Int):Option (AV (Nat×Int) ((Nat×Bool)⊕(Nat))):=
 if K.2<((p0.2.1).length:Int) then(
  Option.bind (
   (ix p0.2.1 (K.2)).bind fun O=>
   if O.1≠p1 then(
    some (Sum.inr K.1)
   ) else(
    (f192 fuel p0.1 p2 O.2).bind fun U=>
    Option.bind (
     if Gr U=true then(
      some (Sum.inr K.1)
     ) else(
      if G4 U=true then(
       (f90 fuel K.1 K.2).bind fun W=>
       some (Sum.inr W)
      ) else(
       some (Sum.inl (0,false))
      )
     )
    ) fun Z=>Sum.elim (fun r=>some (Sum.inl r)) (fun aa=>
    some (Sum.inr aa)
    ) Z
   )
  ) fun ab=>Sum.elim (fun r=>some (.done (Sum.inl r))) (fun ae=>
  (Av (K.2+1)).bind fun ag=>
  some (.more (ae,ag))
  ) ab
 ) else(
  some (.done (Sum.inr K.1))
 )
def Hx(fuel:Nat)(p0:((List (List Int))×(List (List Int))×(List Nat))×(List (Int×Int))×Int×(List Int)×Nat)(p1:Int)(p2:Int):Option (Nat×Bool):=
 Option.bind (iter (Ie fuel p0 p1 p2) fuel (0,0)) fun K=>
 Sum.elim (fun r=>some r) (fun O=>
 some (O,true)
 ) K
theorem Qo{K:Nat}{k1:Nat}{Z:Nat}{aD:Option Addr}{aE:Nat}{aF:Option Addr}{aG:Nat}{aH:List Value}{O:Option Addr}{U:Nat}{aa:Option Addr}{ab:Nat}{p0:((List (List Int))×(List (List Int))×(List Nat))×(List (Int×Int))×Int×(List Int)×Nat}{p1:Int}{p2:Int}(a7:At E k1 Z (([.slice aD (p0.1.1).length aE,.slice aF (p0.1.2.1).length aG]:List Value)++aH))(a8:Aq (rL rI) E aD aE (p0.1.1))(a9:Aq (rL rI) E aF aG (p0.1.2.1))(ba:(rA 13 (rN .u16)).r E aH (p0.1.2.2))(bb:Aq (rP rI rI) E O U (p0.2.1))(bR:Aq rI E aa ab (p0.2.2.2.1)){fuel:Nat}{r:Nat×Bool}(aI:Hx fuel p0 p1 p2=some r):Au J 174 [.pointer (some ⟨K,0,none⟩),iV p1,iV p2] E [(K,.cells #[.pointer (some ⟨k1,Z,none⟩),.slice O (p0.2.1).length U,iV p0.2.2.1,.slice aa (p0.2.2.2.1).length ab,.int .u16 ((p0.2.2.2.2:Nat):Int)] 175 (0,0))] (fun w E' B'=>w= .tuple #[.int .u16 ((r.1:Nat):Int),.bool r.2]∧B'= [(K,.cells #[.pointer (some ⟨k1,Z,none⟩),.slice O (p0.2.1).length U,iV p0.2.2.1,.slice aa (p0.2.2.2.1).length ab,.int .u16 ((p0.2.2.2.2:Nat):Int)] 175 (0,0))]):=by
 refine Au.en func174 rfl rfl fun Q bS cs H aJ aK=>?_;unfold Hx at aI;refine JL.go 11 rfl ?_;refine JL.label ?_;refine JL.go 5 rfl ?_;refine JL.fd underlying175 (Ah type25) rfl rfl rfl ?_;refine JL.Y (v:= .slice O (p0.2.1).length U) rfl (fun ρ h=>Yl.load (Ao underlying25) (h _ _ rfl) (Cs (j:=0) (off:=1) aJ rfl rfl)) ?_;refine JL.Y rfl (fun ρ h=>Yl.len rfl underlying25 (h _ _ rfl)) ?_;obtain⟨aL,bc,aM⟩:=bs aI;refine JL.go 2 rfl ?_;refine JL.join (fun L s=>∃(ap:Nat) (aN:LH),aL=Sum.inr ap∧Jm E H aN [[(K,.cells #[.pointer (some ⟨k1,Z,none⟩),.slice O (p0.2.1).length U,iV p0.2.2.1,.slice aa (p0.2.2.2.1).length ab,.int .u16 ((p0.2.2.2.2:Nat):Int)] 175 (0,0))]] [(8,.int .u16 ((ap:Nat):Int))] L s) ?_ ?_
 ·rintro _ _ ⟨ap,aN,rfl,rfl,rfl,bd,bf⟩;have bg:=elim_inr aM;refine JL.go 6 rfl ?_;obtain rfl:=oi bg;refine JL.rt func174 rfl rfl ?_;exact aK _ _ _ _ bd rfl ⟨rfl,rfl⟩ bf
 ·intro bh;refine JL.block ?_;refine JL.wk [(0,.pointer (some ⟨K,0,none⟩)),(1,iV p1),(2,iV p2),(8,.int .u16 ((0:Nat):Int)),(14,.slice O (p0.2.1).length U),(15,iV ((p0.2.1).length:Int)),(16,iV 0)] rfl ?_;refine JL.Bi bc (fun L s W=>∃(aj:LH),Jm E H aj [[(K,.cells #[.pointer (some ⟨k1,Z,none⟩),.slice O (p0.2.1).length U,iV p0.2.2.1,.slice aa (p0.2.2.2.1).length ab,.int .u16 ((p0.2.2.2.2:Nat):Int)] 175 (0,0))]] [(0,.pointer (some ⟨K,0,none⟩)),(1,iV p1),(2,iV p2),(8,.int .u16 ((W.1:Nat):Int)),(14,.slice O (p0.2.1).length U),(15,iV ((p0.2.1).length:Int)),(16,iV W.2)] L s) ⟨E,rfl,rfl,(Le.refl _),aJ⟩ ?_;rintro _ _ W ⟨aj,rfl,rfl,ae,aO⟩ aP ⟨bT,al⟩ bi;have aq:=al;unfold Ie at aq;refine JL.go 5 rfl ?_;refine JL.ifs (p:=W.2<((p0.2.1).length:Int)) rfl (fun ar=>?_) (fun ar=>?_)
  ·have aQ:=aq;rw [if_pos ar] at aQ;obtain⟨bj,bk,aR⟩:=bs aQ;refine JL.go 2 rfl ?_;refine JL.join (fun L s=>∃(am:Nat) (au:LH),bj=Sum.inr am∧Jm aj H au [[(K,.cells #[.pointer (some ⟨k1,Z,none⟩),.slice O (p0.2.1).length U,iV p0.2.2.1,.slice aa (p0.2.2.2.1).length ab,.int .u16 ((p0.2.2.2.2:Nat):Int)] 175 (0,0))]] [(0,.pointer (some ⟨K,0,none⟩)),(1,iV p1),(2,iV p2),(8,.int .u16 ((am:Nat):Int)),(14,.slice O (p0.2.1).length U),(15,iV ((p0.2.1).length:Int)),(16,iV W.2)] L s) ?_ ?_
   ·rintro _ _ ⟨am,au,rfl,rfl,rfl,bl,bm⟩;have bn:=elim_inr aR;obtain⟨bo,bp,bq⟩:=bs bn;refine JL.region ?_;refine JL.Y rfl (fun ρ h=>Yl.A0 (h _ _ rfl) (h _ _ rfl) bp) ?_;refine JL.go 2 rfl ?_;obtain rfl:=oi bq;exact JL.kw (bi _ _ (am,bo) ⟨au,rfl,rfl,(ae.trans bl),bm⟩ al) rfl
   ·intro aS;obtain⟨ag,br,aT⟩:=bs bk;refine JL.go 4 rfl ?_;refine JS.BI (bb.mono ae) br rfl rfl rfl rfl rfl underlying25 (Ah type27) ?_;rintro bu bv _ ⟨_,_,rfl,rfl,rfl⟩ av;replace av:At aj bu bv [iV ag.1,iV ag.2]:=av;refine JL.Bw av (Ao underlying27) (Ah type27) rfl rfl ?_;refine JS.alloc rfl rfl rfl aO (AM type27) fun bw bx=>?_;refine JL.go 1 rfl ?_;refine JS.st (v:= .agg #[iV ag.1,iV ag.2]) (off:=0) 1 bx (Ah type27) rfl rfl rfl rfl fun bz=>?_;refine JS.Bf 1 bz rfl fun aU ah an ak=>?_;replace an:At aU bw 0 [iV ag.1,iV ag.2]:=an;refine JL.go 4 rfl ?_;refine JL.fd underlying27 (Ah type3) rfl rfl rfl ?_;refine JL.ld 0 an (Ao underlying3) rfl rfl rfl ?_;refine JL.go 3 rfl ?_;refine JL.ifs (p:=ag.1≠p1) rfl (fun aw=>?_) (fun aw=>?_)
    ·have aV:=aT;rw [if_pos aw] at aV;refine JL.exit rfl ?_;exact JL.kw (aS _ _ ⟨W.1,aU,(Option.some.inj aV).symm,rfl,rfl,ah,ak⟩) rfl
    ·have aW:=aT;rw [if_neg aw] at aW;refine JL.go 2 rfl ?_;refine JG.B8 7 [K] ⟨⟨0,_,rfl⟩,trivial⟩ ak mixed rfl (by decide+kernel) fun ht=>?_;refine JG.mv 0 ht rfl rfl ?_;refine JG.mv 1 ht rfl rfl ?_;refine JG.fd 2 ht underlying175 (Ah type94) rfl rfl rfl rfl ?_;refine JG.V (v:= .pointer (some ⟨k1,Z,none⟩)) 3 ht rfl rfl (fun ρ h s' hs=>Yl.load (Ao underlying94) (h _ _ rfl) (Bd (o:=0) 0 ak rfl (by simp [AD]) hs rfl)) ?_;refine JG.mv 4 ht rfl rfl ?_;refine JG.fd 5 ht underlying27 (Ah type3) rfl rfl rfl rfl ?_;refine JG.V (v:=iV ag.2) 6 ht rfl rfl (fun ρ h s' hs=>Yl.load (Ao underlying3) (h _ _ rfl) (At.CF (j:=1) an (CE ak hs ⟨⟨0,_,rfl⟩,trivial⟩) rfl)) ?_;refine Aw.leaf (tail:= [7]) (by decide+kernel) (fun t=>A3 (by decide+kernel) BL t) ?_;obtain⟨ai,bA,bB⟩:=bs aW;refine JS.cl (Sb (a7.mono (ae.trans ah)) (a8.mono (ae.trans ah)) (a9.mono (ae.trans ah)) (Rp.mono _ (ae.trans ah) ba) bA) rfl rfl (Ay func192 rfl) ak ?_;rintro _ aX _ aY ⟨bU,rfl,rfl,aZ⟩ bC;refine JS.norm (S':= [[(K,.cells #[.pointer (some ⟨k1,Z,none⟩),.slice O (p0.2.1).length U,iV p0.2.2.1,.slice aa (p0.2.2.2.1).length ab,.int .u16 ((p0.2.2.2.2:Nat):Int)] 175 (0,0))],[],[]]) rfl bC fun ay=>?_;refine JL.go 4 rfl ?_;refine JL.Y (v:= .tuple #[(Kz ai),.bool (Gr ai)]) rfl (fun ρ h=>Yl.Q1 (t2:=259) underlying257 (AM type257) (by decide) aZ (h _ _ rfl)) ?_;obtain⟨bD,a0,a1⟩:=bs bB;refine JL.go 3 rfl ?_;refine JL.join (fun L s=>∃(ao:Nat) (az:LH),bD=Sum.inr ao∧Jm aX H az [[(K,.cells #[.pointer (some ⟨k1,Z,none⟩),.slice O (p0.2.1).length U,iV p0.2.2.1,.slice aa (p0.2.2.2.1).length ab,.int .u16 ((p0.2.2.2.2:Nat):Int)] 175 (0,0))]] [(0,.pointer (some ⟨K,0,none⟩)),(1,iV p1),(2,iV p2),(8,.int .u16 ((ao:Nat):Int)),(14,.slice O (p0.2.1).length U),(15,iV ((p0.2.1).length:Int)),(16,iV W.2)] L s) ?_ ?_
     ·rintro _ _ ⟨ao,az,rfl,rfl,rfl,bE,bF⟩;have bG:=elim_inr a1;refine JL.go 2 rfl ?_;exact JL.kw (aS _ _ ⟨ao,az,(Option.some.inj bG).symm,rfl,rfl,((ah.trans aY).trans bE),bF⟩) rfl
     ·intro a2;refine JL.split (t:=Gr ai) rfl (fun aA=>?_) (fun aA=>?_)
      ·have a3:=a0;rw [if_pos aA] at a3;refine JL.skip ?_;exact JL.kw (a2 _ _ ⟨W.1,aX,(Option.some.inj a3).symm,rfl,rfl,(Le.refl _),ay⟩) rfl
      ·have aB:=a0;rw [if_neg (by rw [aA];exact Bool.false_ne_true)] at aB;refine JL.go 2 rfl ?_;refine JL.Y (v:= .tuple #[(KG ai),.bool (G4 ai)]) rfl (fun ρ h=>Yl.Q4 (t1:=257) underlying259 (AM type259) (by decide) aZ (h _ _ rfl)) ?_;refine JL.go 3 rfl ?_;refine JL.split (t:=G4 ai) rfl (fun aC=>?_) (fun aC=>?_)
       ·have a4:=aB;rw [if_pos aC] at a4;obtain⟨bH,bI,bJ⟩:=bs a4;refine JL.go 3 rfl ?_;refine JS.cl (Jc bI) rfl rfl (Ay func90 rfl) ay ?_;rintro _ bK _ bL ⟨rfl,rfl⟩ bM;refine JL.go 2 rfl ?_;exact JL.kw (a2 _ _ ⟨bH,bK,(Option.some.inj bJ).symm,rfl,rfl,bL,bM⟩) rfl
       ·have a5:=aB;rw [if_neg (by rw [aC];exact Bool.false_ne_true)] at a5;refine JL.go 5 rfl ?_;obtain rfl:=oi a5;have bN:=elim_inl a1;obtain rfl:=oi bN;have bO:=elim_inl aR;obtain rfl:=oi bO;obtain rfl:=aP _ al;have bP:=elim_inl aM;obtain rfl:=oi bP;refine JL.rt func174 rfl rfl ?_;exact aK _ _ _ _ ((ae.trans ah).trans aY) rfl ⟨rfl,rfl⟩ ay
  ·have a6:=aq;rw [if_neg ar] at a6;refine JL.exit rfl ?_;obtain rfl:=oi a6;have bQ:aL=(Sum.inr W.1):=(aP _ al).symm;exact JL.kw (bh _ _ ⟨W.1,aj,bQ,rfl,rfl,ae,aO⟩) rfl
end Pal
namespace Pal
open Go Go.Conc Go.Proofs
open Go.Proofs.Tryz
variable {J:Judge Tryz.prog}{E:LH}
def HA(fuel:Nat)(p0:List Int):Option ((List Int)):=
 (Cv ([]:List Int) p0).bind fun K=>
 some K
theorem Qn{ad:Addr}{c2:Nat}{p0:List Int}(W:Aq rI E (some ad) c2 p0){fuel:Nat}{r:(List Int)}(K:HA fuel p0=some r):Au J 175 [.slice (some ad) (p0).length c2] E [] (fun w E' B'=>∃(O:Option Addr) (U:Nat) (g0:Seg),w= .slice O (r).length U∧B'=g0∧OL 3 rI E' O U g0 (r)):=by
 refine Au.en func175 rfl rfl fun Q an cs H Z aa=>?_;unfold HA at K;refine JL.go 8 rfl ?_;refine JL.Y (v:= .bool false) rfl (fun ρ h=>Yl.IJ (a:=(some ad)) underlying28 (h _ _ rfl) (h _ _ rfl)) ?_;refine JL.go 5 rfl ?_;refine JS.HF (pp:=rI) rfl rfl rfl underlying28 (Ah type3) Z fun ao ap ab ae=>?_;obtain⟨aq,ag,ah⟩:=bs K;refine JL.go 1 rfl ?_;refine JS.NZ (pp:=rI) 1 ag rfl rfl rfl rfl rfl rfl rfl underlying28 underlying28 (Ah type3) (Ct type3) (AM type3) rfl (by decide) (by decide) ab W ae rfl fun ai aj ak al am=>?_;refine JL.go 2 rfl ?_;obtain rfl:=oi ah;refine JL.rt func175 rfl rfl ?_;exact aa _ _ _ _ (Le.refl _) rfl ⟨ai,aj,ak,rfl,(by first | rfl | simp | (simp [Value.cells])),al⟩ am
def NO(fuel:Nat)(p0:List Int):Option ((List Int)):=
 some ([])
theorem Ra{c2:Nat}{p0:List Int}(aa:Aq rI E none c2 p0){fuel:Nat}{r:(List Int)}(K:NO fuel p0=some r):Au J 175 [.slice none (p0).length c2] E [] (fun w E' B'=>∃(O:Option Addr) (U:Nat) (g0:Seg),w= .slice O (r).length U∧B'=g0∧OL 3 rI E' O U g0 (r)):=by
 refine Au.en func175 rfl rfl fun Q ab cs H W Z=>?_;unfold NO at K;refine JL.go 8 rfl ?_;refine JL.Y (v:= .bool true) rfl (fun ρ h=>Yl.IJ (a:=none) underlying28 (h _ _ rfl) (h _ _ rfl)) ?_;refine JL.go 6 rfl ?_;obtain rfl:=oi K;refine JL.rt func175 rfl rfl ?_;exact Z _ _ _ _ (Le.refl _) rfl ⟨none,0,[],rfl,rfl,OL.nil⟩ W
def f175(fuel:Nat)(p0:List Int):Option (List Int):=HA fuel p0
theorem Nj{O:Option Addr}{c2:Nat}{p0:List Int}(U:Aq rI E O c2 p0){fuel:Nat}{r:List Int}(K:f175 fuel p0=some r):Au J 175 [.slice O p0.length c2] E [] (fun w E' B'=>∃(W:Option Addr) (Z:Nat) (g0:Seg),w= .slice W r.length Z∧B'=g0∧OL 3 rI E' W Z g0 r):=by
 cases O with
 | some ad=>exact Qn U K
 | none=>
  have aa:p0= []:=by
   rcases U.2 with h | ⟨_,_,h,_⟩
   ·exact h.1
   ·cases h
  subst aa;have ab:r= []:=by
   have ae:HA fuel []=some []:=rfl;unfold f175 at K;rw [ae] at K;exact(Option.some.inj K).symm
  subst ab;exact Ra (fuel:=fuel) U rfl
end Pal
namespace Pal
open Go Go.Conc Go.Proofs
open Go.Proofs.Tryz
def F0(fuel:Nat)(le:Int)(all:List (Int×(List Int)×Nat))(tr:(Int×(List Int)×Nat))(O:Int):Option (Int×List (Int×(List Int)×Nat)):=
 Option.bind (
  if((all).length:Int)=0 then(
   some true
  ) else(
   some (decide (O<le))
  )
 ) fun U=>
 Option.bind (
  if U=true then(
   some (O,[])
  ) else(
   some (le,all)
  )
 ) fun K=>
 Option.bind (
  if O=K.1 then(
   (Cv K.2 ([tr]:List (Int×(List Int)×Nat))).bind fun W=>
   some W
  ) else(
   some K.2
  )
 ) fun Z=>
 some (K.1,Z)
theorem R5{J:Judge Tryz.prog}{E:LH}{K:Nat}{age:Int}{le:Int}{a:Option Addr}{c:Nat}{g:Seg}{all:List (Int×(List Int)×Nat)}(aX:OL 104 (rP rI (rP (rL rI) (rN .u16))) E a c g all){W:Option Addr}{Z:Nat}{tr:(Int×(List Int)×Nat)}(aY:Aq rI E W Z tr.2.1){U:Int}{fuel:Nat}{r:Int×List (Int×(List Int)×Nat)}(aB:F0 fuel le all tr U=some r):
  Au J 122 [.pointer (some ⟨K,1,none⟩),.agg #[iV tr.1,.slice W tr.2.1.length Z,.int .u16 ((tr.2.2:Nat):Int)],iV U] E ([(K,.cells #[iV age,iV le,.slice a all.length c] 133 (0,0))]++g) (fun w E' B'=>∃aC aD g',w= .tuple #[]∧B'= [(K,.cells #[iV age,iV r.1,.slice aC r.2.length aD] 133 (0,0))]++g'∧OL 104 (rP rI (rP (rL rI) (rN .u16))) E' aC aD g' r.2):=by
 refine Au.en func122 rfl rfl fun Q bp cs H ap aZ=>?_;refine JS.split (S':= [[(K,.cells #[iV age,iV le,.slice a all.length c] 133 (0,0))],g]) (by simp) ap fun ap=>?_;unfold F0 at aB;refine JL.go 2 rfl ?_;refine JS.box (v:= .agg #[iV tr.1,.slice W (tr.2.1).length Z,.int .u16 ((tr.2.2:Nat):Int)]) rfl rfl rfl ap rfl fun aq a0=>?_;refine JS.Bf 2 a0 rfl fun ai ar au aj=>?_;replace au:At ai aq 0 [iV tr.1,.slice W (tr.2.1).length Z,.int .u16 ((tr.2.2:Nat):Int)]:=au;refine JL.go 6 rfl ?_;refine JL.fd underlying97 (Ah type95) rfl rfl rfl ?_;refine JL.Y (v:= .slice a (all).length c) rfl (fun ρ h=>Yl.load (Ao underlying95) (h _ _ rfl) (Cs (j:=0) (off:=2) aj rfl rfl)) ?_;refine JL.Y rfl (fun ρ h=>Yl.len rfl underlying95 (h _ _ rfl)) ?_;obtain⟨aE,aF,a1⟩:=bs aB;refine JL.go 2 rfl ?_;refine JL.BA [] (fun L s=>∃(ah:LH),Jm ai H ah [[(K,.cells #[iV age,iV le,.slice a (all).length c] 133 (0,0))],g] [(0,.pointer (some ⟨K,1,none⟩)),(2,iV U),(4,.pointer (some ⟨aq,0,none⟩)),(19,.bool aE)] L s) ?_ ?_
 ·rintro _ _ ⟨ah,rfl,rfl,ak,aG⟩;obtain⟨O,aH,a2⟩:=bs a1;refine JL.done ?_;refine JL.join (fun L s=>∃(aa:LH) (ab:Option Addr) (ae:Nat) (al:Seg),Jn ah H aa [[(K,.cells #[iV age,iV O.1,.slice ab (O.2).length ae] 133 (0,0))],al] [(0,.pointer (some ⟨K,1,none⟩)),(2,iV U),(4,.pointer (some ⟨aq,0,none⟩))] L s (OL 104 (rP rI (rP (rL rI) (rN .u16))) aa ab ae al (O.2))) ?_ ?_
  ·rintro _ _ ⟨aa,ab,ae,al,rfl,rfl,av,ag,aI⟩;refine JL.go 5 rfl ?_;refine JL.fd underlying97 (Ah type3) rfl rfl rfl ?_;refine JL.Y (v:=iV O.1) rfl (fun ρ h=>Yl.load (Ao underlying3) (h _ _ rfl) (Cs (j:=0) (off:=1) ag rfl rfl)) ?_;obtain⟨aJ,aK,a3⟩:=bs a2;refine JL.go 2 rfl ?_;refine JL.join (fun L s=>∃(aw:LH) (am:Option Addr) (an:Nat) (ao:Seg),Jn aa H aw [[(K,.cells #[iV age,iV O.1,.slice am (aJ).length an] 133 (0,0))],ao] [] L s (OL 104 (rP rI (rP (rL rI) (rN .u16))) aw am an ao (aJ))) ?_ ?_
   ·rintro _ _ ⟨aw,am,an,ao,rfl,rfl,a4,a5,a6⟩;obtain rfl:=oi a3;refine JL.fin (v:= .tuple #[]) rfl rfl (Bm.list func122 rfl (vs:= []) trivial) ?_;exact aZ _ _ _ _ (((ar.trans ak).trans av).trans a4) rfl ⟨am,an,ao,rfl,by simp,a6⟩ a5
   ·intro aL;refine JL.ifs (p:=U=O.1) rfl (fun ay=>?_) (fun ay=>?_)
    ·have aM:=aK;rw [if_pos ay] at aM;refine JG.B8 8 [K] ⟨⟨0,_,rfl⟩,trivial⟩ ag mixed rfl (by decide+kernel) fun ht=>?_;refine JG.mv 0 ht rfl rfl ?_;refine JG.mv 1 ht rfl rfl ?_;refine JG.mv 2 ht rfl rfl ?_;refine JG.fd 3 ht underlying97 (Ah type95) rfl rfl rfl rfl ?_;refine JG.V (v:= .slice ab (O.2).length ae) 4 ht rfl rfl (fun ρ h s' hs=>Yl.load (Ao underlying95) (h _ _ rfl) (Bd (o:=2) 0 ag rfl (by simp [AD]) hs rfl)) ?_;refine JG.V 5 ht rfl rfl (fun ρ h s' hs=>Yl.Bj (vs:= [iV tr.1,.slice W (tr.2.1).length Z,.int .u16 ((tr.2.2:Nat):Int)]) (Ao underlying104) (Ah type104) (h _ _ rfl) (At.Kd (au.mono (ak.trans av)) (CE ag hs ⟨⟨0,_,rfl⟩,trivial⟩))) ?_;obtain⟨a7,a8,a9⟩:=bs aM;refine JG.one (i:=6) rfl (by decide+kernel) ?_;refine Take.lit (pp:=(rP rI (rP (rL rI) (rN .u16)))) (jp:=0) [.agg #[iV tr.1,.slice W (tr.2.1).length Z,.int .u16 ((tr.2.2:Nat):Int)]] ([tr]:List (Int×(List Int)×Nat)) ag rfl rfl rfl rfl underlying95 (Ah type104) (AM type104) (by decide) rfl rfl rfl ⟨⟨_,_,rfl,rfl,⟨_,_,rfl,⟨_,_,rfl,(aY.mono ((ar.trans ak).trans av))⟩,rfl⟩⟩,trivial⟩ fun bq ba bb bc=>?_;refine JG.one (i:=7) rfl (by decide+kernel) ?_;refine Take.app (pp:=(rP rI (rP (rL rI) (rN .u16)))) (jp:=0) 1 2 bc rfl a8 rfl rfl rfl rfl rfl rfl rfl underlying95 underlying95 (Ah type104) (Ct type104) (AM type104) rfl (by decide) (by decide) aI bb rfl rfl rfl rfl fun aN aO br aP bd bf=>?_;refine Aw.leaf (tail:= [8,9,10]) (by decide+kernel) (fun t=>A3 (by decide+kernel) (A3 (by decide+kernel) (A3 (by decide+kernel) BL)) t) ?_;refine JS.part 1 rfl bf fun bg=>?_;refine JS.drop 1 bg rfl fun bh=>?_;refine JS.norm (S':= [[(K,.cells #[iV age,iV O.1,.slice ab (O.2).length ae] 133 (0,0))],[],ba,aP]) rfl bh fun bi=>?_;refine JL.go 1 rfl ?_;refine JL.fd underlying97 (Ah type95) rfl rfl rfl ?_;refine JS.st (v:= .slice aN (a7).length aO) (off:=2) 0 bi (Ah type95) rfl rfl rfl rfl fun bj=>?_;refine JL.done ?_;refine JS.drop 2 bj rfl fun bk=>?_;obtain rfl:=oi a9;exact JL.kw (aL _ _ ⟨aa,aN,aO,aP,rfl,rfl,(Le.refl _),bk,bd⟩) rfl
    ·have aQ:=aK;rw [if_neg ay] at aQ;refine JL.skip ?_;obtain rfl:=oi aQ;exact JL.kw (aL _ _ ⟨aa,ab,ae,al,rfl,rfl,(Le.refl _),ag,aI⟩) rfl
  ·intro aR;refine JL.split (t:=aE) rfl (fun az=>?_) (fun az=>?_)
   ·have aS:=aH;rw [if_pos az] at aS;refine JL.go 5 rfl ?_;refine JL.fd underlying97 (Ah type3) rfl rfl rfl ?_;refine JS.st (v:=iV U) (off:=1) 0 aG (Ah type3) rfl rfl rfl rfl fun bl=>?_;refine JL.go 1 rfl ?_;refine JL.fd underlying97 (Ah type95) rfl rfl rfl ?_;refine JS.st (v:= .slice none 0 0) (off:=2) 0 bl (Ah type95) rfl rfl rfl rfl fun bm=>?_;refine JS.norm (S':= [[(K,.cells #[iV age,iV U,.slice none 0 0] 133 (0,0))],g]) rfl bm fun bn=>?_;refine JL.done ?_;refine JS.drop 1 bn rfl fun bo=>?_;obtain rfl:=oi aS;exact JL.kw (aR _ _ ⟨ah,none,0,[],rfl,rfl,(Le.refl _),bo,OL.nil⟩) rfl
   ·have aT:=aH;rw [if_neg (by rw [az];exact Bool.false_ne_true)] at aT;refine JL.skip ?_;obtain rfl:=oi aT;exact JL.kw (aR _ _ ⟨ah,a,c,g,rfl,rfl,(Le.refl _),aG,(aX.mono (ar.trans ak))⟩) rfl
 ·intro aU;refine JL.B5 (q:=((all).length:Int)=0) (i:=12) rfl (fun aA=>?_) (fun aA=>?_)
  ·have aV:=aF;rw [if_pos aA] at aV;refine JL.go 7 rfl ?_;obtain rfl:=oi aV;exact JL.kw (aU _ _ ⟨ai,rfl,rfl,(Le.refl _),aj⟩) rfl
  ·have aW:=aF;rw [if_neg aA] at aW;refine JL.go 3 rfl ?_;refine JL.fd underlying97 (Ah type3) rfl rfl rfl ?_;refine JL.Y (v:=iV le) rfl (fun ρ h=>Yl.load (Ao underlying3) (h _ _ rfl) (Cs (j:=0) (off:=1) aj rfl rfl)) ?_;refine JL.go 2 rfl ?_;obtain rfl:=oi aW;exact JL.kw (aU _ _ ⟨ai,rfl,rfl,(Le.refl _),aj⟩) rfl
theorem Rh{J:Judge Tryz.prog}{E:LH}{K:Nat}{age:Int}{le:Int}{a:Option Addr}{c:Nat}{g:Seg}{all:List (Int×(List Int)×Nat)}(aX:OL 104 (rP rI (rP (rL rI) (rN .u16))) E a c g all){W:Option Addr}{Z:Nat}{tr:(Int×(List Int)×Nat)}(aY:Aq rI E W Z tr.2.1){U:Int}{fuel:Nat}{r:Int×List (Int×(List Int)×Nat)}(aB:F0 fuel le all tr U=some r):
  Au J 122 [.pointer (some ⟨K,0,none⟩),.agg #[iV tr.1,.slice W tr.2.1.length Z,.int .u16 ((tr.2.2:Nat):Int)],iV U] E ([(K,.cells #[iV le,.slice a all.length c] 97 (0,0))]++g) (fun w E' B'=>∃aC aD g',w= .tuple #[]∧B'= [(K,.cells #[iV r.1,.slice aC r.2.length aD] 97 (0,0))]++g'∧OL 104 (rP rI (rP (rL rI) (rN .u16))) E' aC aD g' r.2):=by
 refine Au.en func122 rfl rfl fun Q bp cs H ap aZ=>?_;refine JS.split (S':= [[(K,.cells #[iV le,.slice a all.length c] 97 (0,0))],g]) (by simp) ap fun ap=>?_;unfold F0 at aB;refine JL.go 2 rfl ?_;refine JS.box (v:= .agg #[iV tr.1,.slice W (tr.2.1).length Z,.int .u16 ((tr.2.2:Nat):Int)]) rfl rfl rfl ap rfl fun aq a0=>?_;refine JS.Bf 2 a0 rfl fun ai ar au aj=>?_;replace au:At ai aq 0 [iV tr.1,.slice W (tr.2.1).length Z,.int .u16 ((tr.2.2:Nat):Int)]:=au;refine JL.go 6 rfl ?_;refine JL.fd underlying97 (Ah type95) rfl rfl rfl ?_;refine JL.Y (v:= .slice a (all).length c) rfl (fun ρ h=>Yl.load (Ao underlying95) (h _ _ rfl) (Cs (j:=0) (off:=1) aj rfl rfl)) ?_;refine JL.Y rfl (fun ρ h=>Yl.len rfl underlying95 (h _ _ rfl)) ?_;obtain⟨aE,aF,a1⟩:=bs aB;refine JL.go 2 rfl ?_;refine JL.BA [] (fun L s=>∃(ah:LH),Jm ai H ah [[(K,.cells #[iV le,.slice a (all).length c] 97 (0,0))],g] [(0,.pointer (some ⟨K,0,none⟩)),(2,iV U),(4,.pointer (some ⟨aq,0,none⟩)),(19,.bool aE)] L s) ?_ ?_
 ·rintro _ _ ⟨ah,rfl,rfl,ak,aG⟩;obtain⟨O,aH,a2⟩:=bs a1;refine JL.done ?_;refine JL.join (fun L s=>∃(aa:LH) (ab:Option Addr) (ae:Nat) (al:Seg),Jn ah H aa [[(K,.cells #[iV O.1,.slice ab (O.2).length ae] 97 (0,0))],al] [(0,.pointer (some ⟨K,0,none⟩)),(2,iV U),(4,.pointer (some ⟨aq,0,none⟩))] L s (OL 104 (rP rI (rP (rL rI) (rN .u16))) aa ab ae al (O.2))) ?_ ?_
  ·rintro _ _ ⟨aa,ab,ae,al,rfl,rfl,av,ag,aI⟩;refine JL.go 5 rfl ?_;refine JL.fd underlying97 (Ah type3) rfl rfl rfl ?_;refine JL.Y (v:=iV O.1) rfl (fun ρ h=>Yl.load (Ao underlying3) (h _ _ rfl) (Cs (j:=0) (off:=0) ag rfl rfl)) ?_;obtain⟨aJ,aK,a3⟩:=bs a2;refine JL.go 2 rfl ?_;refine JL.join (fun L s=>∃(aw:LH) (am:Option Addr) (an:Nat) (ao:Seg),Jn aa H aw [[(K,.cells #[iV O.1,.slice am (aJ).length an] 97 (0,0))],ao] [] L s (OL 104 (rP rI (rP (rL rI) (rN .u16))) aw am an ao (aJ))) ?_ ?_
   ·rintro _ _ ⟨aw,am,an,ao,rfl,rfl,a4,a5,a6⟩;obtain rfl:=oi a3;refine JL.fin (v:= .tuple #[]) rfl rfl (Bm.list func122 rfl (vs:= []) trivial) ?_;exact aZ _ _ _ _ (((ar.trans ak).trans av).trans a4) rfl ⟨am,an,ao,rfl,by simp,a6⟩ a5
   ·intro aL;refine JL.ifs (p:=U=O.1) rfl (fun ay=>?_) (fun ay=>?_)
    ·have aM:=aK;rw [if_pos ay] at aM;refine JG.B8 8 [K] ⟨⟨0,_,rfl⟩,trivial⟩ ag mixed rfl (by decide+kernel) fun ht=>?_;refine JG.mv 0 ht rfl rfl ?_;refine JG.mv 1 ht rfl rfl ?_;refine JG.mv 2 ht rfl rfl ?_;refine JG.fd 3 ht underlying97 (Ah type95) rfl rfl rfl rfl ?_;refine JG.V (v:= .slice ab (O.2).length ae) 4 ht rfl rfl (fun ρ h s' hs=>Yl.load (Ao underlying95) (h _ _ rfl) (Bd (o:=1) 0 ag rfl (by simp [AD]) hs rfl)) ?_;refine JG.V 5 ht rfl rfl (fun ρ h s' hs=>Yl.Bj (vs:= [iV tr.1,.slice W (tr.2.1).length Z,.int .u16 ((tr.2.2:Nat):Int)]) (Ao underlying104) (Ah type104) (h _ _ rfl) (At.Kd (au.mono (ak.trans av)) (CE ag hs ⟨⟨0,_,rfl⟩,trivial⟩))) ?_;obtain⟨a7,a8,a9⟩:=bs aM;refine JG.one (i:=6) rfl (by decide+kernel) ?_;refine Take.lit (pp:=(rP rI (rP (rL rI) (rN .u16)))) (jp:=0) [.agg #[iV tr.1,.slice W (tr.2.1).length Z,.int .u16 ((tr.2.2:Nat):Int)]] ([tr]:List (Int×(List Int)×Nat)) ag rfl rfl rfl rfl underlying95 (Ah type104) (AM type104) (by decide) rfl rfl rfl ⟨⟨_,_,rfl,rfl,⟨_,_,rfl,⟨_,_,rfl,(aY.mono ((ar.trans ak).trans av))⟩,rfl⟩⟩,trivial⟩ fun bq ba bb bc=>?_;refine JG.one (i:=7) rfl (by decide+kernel) ?_;refine Take.app (pp:=(rP rI (rP (rL rI) (rN .u16)))) (jp:=0) 1 2 bc rfl a8 rfl rfl rfl rfl rfl rfl rfl underlying95 underlying95 (Ah type104) (Ct type104) (AM type104) rfl (by decide) (by decide) aI bb rfl rfl rfl rfl fun aN aO br aP bd bf=>?_;refine Aw.leaf (tail:= [8,9,10]) (by decide+kernel) (fun t=>A3 (by decide+kernel) (A3 (by decide+kernel) (A3 (by decide+kernel) BL)) t) ?_;refine JS.part 1 rfl bf fun bg=>?_;refine JS.drop 1 bg rfl fun bh=>?_;refine JS.norm (S':= [[(K,.cells #[iV O.1,.slice ab (O.2).length ae] 97 (0,0))],[],ba,aP]) rfl bh fun bi=>?_;refine JL.go 1 rfl ?_;refine JL.fd underlying97 (Ah type95) rfl rfl rfl ?_;refine JS.st (v:= .slice aN (a7).length aO) (off:=1) 0 bi (Ah type95) rfl rfl rfl rfl fun bj=>?_;refine JL.done ?_;refine JS.drop 2 bj rfl fun bk=>?_;obtain rfl:=oi a9;exact JL.kw (aL _ _ ⟨aa,aN,aO,aP,rfl,rfl,(Le.refl _),bk,bd⟩) rfl
    ·have aQ:=aK;rw [if_neg ay] at aQ;refine JL.skip ?_;obtain rfl:=oi aQ;exact JL.kw (aL _ _ ⟨aa,ab,ae,al,rfl,rfl,(Le.refl _),ag,aI⟩) rfl
  ·intro aR;refine JL.split (t:=aE) rfl (fun az=>?_) (fun az=>?_)
   ·have aS:=aH;rw [if_pos az] at aS;refine JL.go 5 rfl ?_;refine JL.fd underlying97 (Ah type3) rfl rfl rfl ?_;refine JS.st (v:=iV U) (off:=0) 0 aG (Ah type3) rfl rfl rfl rfl fun bl=>?_;refine JL.go 1 rfl ?_;refine JL.fd underlying97 (Ah type95) rfl rfl rfl ?_;refine JS.st (v:= .slice none 0 0) (off:=1) 0 bl (Ah type95) rfl rfl rfl rfl fun bm=>?_;refine JS.norm (S':= [[(K,.cells #[iV U,.slice none 0 0] 97 (0,0))],g]) rfl bm fun bn=>?_;refine JL.done ?_;refine JS.drop 1 bn rfl fun bo=>?_;obtain rfl:=oi aS;exact JL.kw (aR _ _ ⟨ah,none,0,[],rfl,rfl,(Le.refl _),bo,OL.nil⟩) rfl
   ·have aT:=aH;rw [if_neg (by rw [az];exact Bool.false_ne_true)] at aT;refine JL.skip ?_;obtain rfl:=oi aT;exact JL.kw (aR _ _ ⟨ah,a,c,g,rfl,rfl,(Le.refl _),aG,(aX.mono (ar.trans ak))⟩) rfl
 ·intro aU;refine JL.B5 (q:=((all).length:Int)=0) (i:=12) rfl (fun aA=>?_) (fun aA=>?_)
  ·have aV:=aF;rw [if_pos aA] at aV;refine JL.go 7 rfl ?_;obtain rfl:=oi aV;exact JL.kw (aU _ _ ⟨ai,rfl,rfl,(Le.refl _),aj⟩) rfl
  ·have aW:=aF;rw [if_neg aA] at aW;refine JL.go 3 rfl ?_;refine JL.fd underlying97 (Ah type3) rfl rfl rfl ?_;refine JL.Y (v:=iV le) rfl (fun ρ h=>Yl.load (Ao underlying3) (h _ _ rfl) (Cs (j:=0) (off:=0) aj rfl rfl)) ?_;refine JL.go 2 rfl ?_;obtain rfl:=oi aW;exact JL.kw (aU _ _ ⟨ai,rfl,rfl,(Le.refl _),aj⟩) rfl
end Pal
namespace Pal
open Go Go.Conc Go.Proofs
open Go.Proofs.Tryz
def HH(fuel:Nat)(O:(List (List Int))×(List (List Int))×(List Nat))(lk:List (Int×Int))(age:Int)(ms:List Int)(fl:Nat)(m:Int):Option (Option (List Int×Nat)):=
 (Hx fuel (O,lk,age,ms,fl) ((ms).length:Int) m).bind fun K=>
 if(!K.2)=true then(
  some none
 ) else(
  (f175 fuel ms).bind fun U=>
  (Cv U ([m]:List Int)).bind fun W=>
  (Gv (fl) (K.1)).bind fun Z=>
  some (some (W,Z))
 )
theorem Sx{J:Judge Tryz.prog}{A:Type}{I:A→LH→Seg→Prop}(bc:∀x E E' X,Le E E'→I x E X→I x E' X){E:LH}{K k1 O:Nat}{aR aS U W:Option Addr}{aT aU Z aa:Nat}{aV:List Value}{an:(List (List Int))×(List (List Int))×(List Nat)}{lk:List (Int×Int)}{age:Int}{ms:List Int}{fl:Nat}(bd:At E k1 O (([.slice aR (an.1).length aT,.slice aS (an.2.1).length aU]:List Value)++aV))(bf:Aq (rL rI) E aR aT (an.1))(bg:Aq (rL rI) E aS aU (an.2.1))(bh:(rA 13 (rN .u16)).r E aV (an.2.2))(bi:Aq (rP rI rI) E U Z lk)(aB:Aq rI E W aa ms){aW:Value}{X:Seg}{acc acc':A}(bj:I acc E X){m:Int}{fuel:Nat}{r:Option (List Int×Nat)}(aX:HH fuel an lk age ms fl m=some r)
  (bk:r=none→acc'=acc)
  (aY:∀q,r=some q→∀E' a c,Le E E'→Aq rI E' a c q.1→CW J aW [] E' ([(K,.cells #[.pointer (some ⟨k1,O,none⟩),.slice U lk.length Z,iV age,.slice a q.1.length c,.int .u16 ((q.2:Nat):Int)] 175 (0,0))]++X) (fun w bl bm=>∃ap mv aq ag,w= .bool true∧bm= [(K,.cells #[.pointer (some ⟨k1,O,none⟩),.slice U lk.length Z,ap,mv,aq] 175 (0,0))]++ag∧I acc' bl ag)):
  Au J 155 [.pointer (some ⟨K,0,none⟩),iV m,aW] E ([(K,.cells #[.pointer (some ⟨k1,O,none⟩),.slice U lk.length Z,iV age,.slice W ms.length aa,.int .u16 ((fl:Nat):Int)] 175 (0,0))]++X) (fun w E' B'=>∃ag,w= .bool true∧B'= [(K,.cells #[.pointer (some ⟨k1,O,none⟩),.slice U lk.length Z,iV age,.slice W ms.length aa,.int .u16 ((fl:Nat):Int)] 175 (0,0))]++ag∧I acc' E' ag):=by
 refine Au.en func155 rfl rfl fun Q aZ cs H aC aD=>?_;refine JS.split (S':= [[(K,.cells #[.pointer (some ⟨k1,O,none⟩),.slice U lk.length Z,iV age,.slice W ms.length aa,.int .u16 ((fl:Nat):Int)] 175 (0,0))],X]) (by simp) aC fun aC=>?_;unfold HH at aX;refine JL.go 2 rfl ?_;refine JS.box (v:= .pointer (some ⟨K,0,none⟩)) rfl rfl rfl aC rfl fun ak bn=>?_;refine JS.Bf 2 bn rfl fun bo ab ai ar=>?_;replace ai:At bo ak 0 [.pointer (some ⟨K,0,none⟩)]:=ai;refine JL.go 3 rfl ?_;refine JG.B8 13 [K] ⟨⟨0,_,rfl⟩,trivial⟩ ar mixed rfl (by decide+kernel) fun ht=>?_;refine JG.V (v:= .pointer (some ⟨K,0,none⟩)) 0 ht rfl rfl (fun ρ h s' hs=>Yl.load (Ao underlying173) (h _ _ rfl) (At.CF (j:=0) ai (CE ar hs ⟨⟨0,_,rfl⟩,trivial⟩) rfl)) ?_;refine JG.V (v:= .pointer (some ⟨K,0,none⟩)) 1 ht rfl rfl (fun ρ h s' hs=>Yl.load (Ao underlying173) (h _ _ rfl) (At.CF (j:=0) ai (CE ar hs ⟨⟨0,_,rfl⟩,trivial⟩) rfl)) ?_;refine JG.mv 2 ht rfl rfl ?_;refine JG.fd 3 ht underlying175 (Ah type104) rfl rfl rfl rfl ?_;refine JG.fd 4 ht underlying104 (Ah type28) rfl rfl rfl rfl ?_;refine JG.V (v:= .slice W (ms).length aa) 5 ht rfl rfl (fun ρ h s' hs=>Yl.load (Ao underlying28) (h _ _ rfl) (Bd (o:=3) 0 ar rfl (by simp [AD]) hs rfl)) ?_;refine JG.V 6 ht rfl rfl (fun ρ h s' hs=>Yl.len rfl underlying28 (h _ _ rfl)) ?_;refine JG.mv 7 ht rfl rfl ?_;obtain⟨a0,bp,a1⟩:=bs aX;refine JG.Nv (i:=8) (vs:= [.pointer (some ⟨K,0,none⟩),iV ((ms).length:Int),iV m]) 0 ⟨⟨0,_,rfl⟩,trivial⟩ (Qo (bd.mono ab) (bf.mono ab) (bg.mono ab) (Rp.mono _ ab bh) (bi.mono ab) (aB.mono ab) bp) (fun _ _ _ h=>h.2) (by decide+kernel) rfl rfl rfl (Ay func174 rfl) rfl ar rfl ?_;rintro _ b7 ae ⟨rfl,_⟩ aE;refine JG.mv 9 ht rfl rfl ?_;refine JG.mv 10 ht rfl rfl ?_;refine JG.mv 11 ht rfl rfl ?_;refine JG.mv 12 ht rfl rfl ?_;refine Aw.leaf (tail:= [13]) (by decide+kernel) (fun t=>A3 (by decide+kernel) BL t) ?_;refine JL.go 6 rfl ?_;refine JL.Y (v:= .bool (!a0.2)) rfl (fun ρ h=>Yl.not (h _ _ rfl)) ?_;refine JL.done ?_;refine JL.split (t:=(!a0.2)) rfl (fun aF=>?_) (fun aF=>?_)
 ·have a2:=a1;rw [if_pos aF] at a2;refine JL.go 4 rfl ?_;obtain rfl:=oi a2;refine JL.rt func155 rfl rfl ?_;exact aD _ _ _ _ (ab.trans ae) rfl ⟨X,rfl,by simp,by rw [bk rfl];exact bc _ _ _ _ (ab.trans ae) bj⟩ aE
 ·have a3:=a1;rw [if_neg (by rw [aF];exact Bool.false_ne_true)] at a3;refine JL.go 3 rfl ?_;refine JL.ld 0 (ai.mono ae) (Ao underlying173) rfl rfl rfl ?_;refine JL.go 1 rfl ?_;refine JL.fd underlying175 (Ah type104) rfl rfl rfl ?_;refine JL.Y rfl (fun ρ h=>Yl.Bj (vs:= [iV age,.slice W (ms).length aa,.int .u16 ((fl:Nat):Int)]) (Ao underlying104) (Ah type104) (h _ _ rfl) (Dv (off:=2) 0 aE rfl rfl)) ?_;refine JS.alloc rfl rfl rfl aE (AM type104) fun al bq=>?_;refine JS.st (v:= .agg #[iV age,.slice W (ms).length aa,.int .u16 ((fl:Nat):Int)]) (off:=0) 3 bq (Ah type104) rfl rfl rfl rfl fun br=>?_;refine JS.Bf 3 br rfl fun bu ah au bv=>?_;replace au:At bu al 0 [iV age,.slice W (ms).length aa,.int .u16 ((fl:Nat):Int)]:=au;refine JS.norm (S':= [[(K,.cells #[.pointer (some ⟨k1,O,none⟩),.slice U (lk).length Z,iV age,.slice W (ms).length aa,.int .u16 ((fl:Nat):Int)] 175 (0,0))],X,[],[]]) rfl bv fun a4=>?_;refine JL.go 2 rfl ?_;refine JG.Di 7 mixed rfl (by decide+kernel) fun ht=>?_;refine JG.ld 0 ht 0 (ai.mono (ae.trans ah)) (Ao underlying173) rfl rfl rfl rfl ?_;refine JG.fd 1 ht underlying104 (Ah type28) rfl rfl rfl rfl ?_;refine JG.ld 2 ht 1 au (Ao underlying28) rfl rfl rfl rfl ?_;refine JG.mv 4 ht rfl rfl ?_;obtain⟨b8,a5,bw⟩:=bs a3;obtain⟨aj,a6,a7⟩:=bs bw;refine JG.two (i:=3) (j:=5) rfl (by decide+kernel) ?_ ?_
  ·refine Take.NI (vs:= [.slice W (ms).length aa]) a4 (Nj (aB.mono ((ab.trans ae).trans ah)) a5) rfl rfl rfl (Ay func175 rfl) rfl ?_;rintro _ b9 _ av ⟨ca,cb,cc,rfl,rfl,bx⟩ bz;refine JG.one (i:=5) rfl (by decide+kernel) ?_;refine Take.HF (pp:=rI) [iV m] ([m]:List Int) bz rfl rfl rfl underlying28 (Ah type3) (AM type3) (by decide) rfl rfl rfl ⟨rfl,trivial⟩ fun cd a8 bA bB=>?_;refine JG.one (i:=6) rfl (by decide+kernel) ?_;refine Take.app0 (pp:=rI) 4 5 bB a6 rfl rfl rfl rfl rfl rfl rfl underlying28 underlying28 (Ah type3) (Ct type3) (AM type3) rfl (by decide) (by decide) bx bA rfl rfl fun aG aH ce bC bD bE=>?_;refine Aw.leaf (tail:= [7,8,9,10]) (by decide+kernel) (fun t=>A3 (by decide+kernel) (A3 (by decide+kernel) (A3 (by decide+kernel) (A3 (by decide+kernel) BL))) t) ?_;refine JS.part 4 rfl bE fun bF=>?_;refine JS.drop 4 bF rfl fun bG=>?_;refine JS.norm (S':= [[(K,.cells #[.pointer (some ⟨k1,O,none⟩),.slice U (lk).length Z,iV age,.slice W (ms).length aa,.int .u16 ((fl:Nat):Int)] 175 (0,0))],X,[],[],[],a8,bC]) rfl bG fun bH=>?_;refine JL.go 1 rfl ?_;refine JL.fd underlying175 (Ah type104) rfl rfl rfl ?_;refine JL.fd underlying104 (Ah type28) rfl rfl rfl ?_;refine JS.st (v:= .slice aG (aj).length aH) (off:=3) 0 bH (Ah type28) rfl rfl rfl rfl fun a9=>?_;refine JL.go 3 rfl ?_;refine JL.ld 0 (ai.mono ((ae.trans ah).trans av)) (Ao underlying173) rfl rfl rfl ?_;refine JL.go 1 rfl ?_;refine JL.fd underlying175 (Ah type104) rfl rfl rfl ?_;refine JL.fd underlying104 (Ah type102) rfl rfl rfl ?_;refine JL.Y (v:= .int .u16 ((fl:Nat):Int)) rfl (fun ρ h=>Yl.load (Ao underlying102) (h _ _ rfl) (Cs (j:=0) (off:=4) a9 rfl rfl)) ?_;obtain⟨aw,bI,bJ⟩:=bs a7;refine JL.go 1 rfl ?_;refine JL.Y (v:= .int .u16 ((aw:Nat):Int)) rfl (fun ρ h=>Yl.Hu (h _ _ rfl) (h _ _ rfl) bI) ?_;refine JL.go 1 rfl ?_;refine JL.fd underlying175 (Ah type104) rfl rfl rfl ?_;refine JL.fd underlying104 (Ah type102) rfl rfl rfl ?_;refine JS.st (v:= .int .u16 ((aw:Nat):Int)) (off:=4) 0 a9 (Ah type102) rfl rfl rfl rfl fun bK=>?_;refine JL.go 2 rfl ?_;refine JS.BC 6 bD bK rfl fun cf az bL bM=>?_;refine JS.norm (S':= [[(K,.cells #[.pointer (some ⟨k1,O,none⟩),.slice U (lk).length Z,iV age,.slice aG (aj).length aH,.int .u16 ((aw:Nat):Int)] 175 (0,0))],X,[],[],[],a8,[]]) rfl bM fun bN=>?_;refine JS.drop 5 bN rfl fun bO=>?_;obtain rfl:=oi bJ;refine JL.region ?_;refine JL.Y (v:= .func (.func 176) #[] [.pointer (some ⟨al,0,none⟩),.pointer (some ⟨ak,0,none⟩)].toArray) rfl (fun ρ h=>Yl.Gh (by simp) (by simp [h (.tmp 9) _ rfl,h (.tmp 3) _ rfl])) ?_;refine JL.M8 (vs:= []) (caps:= [.pointer (some ⟨al,0,none⟩),.pointer (some ⟨ak,0,none⟩)]) rfl rfl rfl rfl rfl rfl ?_;refine JL.go 4 rfl ?_;refine JS.split (S':= [[(K,.cells #[.pointer (some ⟨k1,O,none⟩),.slice U (lk).length Z,iV age,.slice aG (aj).length aH,.int .u16 ((aw:Nat):Int)] 175 (0,0))]++X]) (by simp) bO fun aI=>?_;refine JS.GZ (vs:= []) 0 (aY (aj,aw) rfl _ _ _ ((((ab.trans ae).trans ah).trans av).trans az) bL) rfl rfl rfl rfl rfl aI rfl ?_;rintro _ bP _ am ⟨ap,mv,aq,ag,rfl,rfl,aJ⟩ aK;refine JL.go 2 rfl ?_;refine JL.EO rfl ?_;refine JO.No (vs:= []) (caps:= [.pointer (some ⟨al,0,none⟩),.pointer (some ⟨ak,0,none⟩)]) rfl func176 rfl rfl (Nat.le_of_ble_eq_true rfl) fun T aL todo=>?_;refine JS.split (S':= [[(K,.cells #[.pointer (some ⟨k1,O,none⟩),.slice U lk.length Z,ap,mv,aq] 175 (0,0))],ag]) (by simp) aK fun aM=>?_;refine JL.region ?_;refine JL.ld 0 (ai.mono ((((ae.trans ah).trans av).trans az).trans am)) (Ao underlying173) rfl rfl rfl ?_;refine JL.Bw (au.mono ((av.trans az).trans am)) (Ao underlying104) (Ah type104) rfl rfl ?_;refine JL.go 1 rfl ?_;refine JL.fd underlying175 (Ah type104) rfl rfl rfl ?_;refine JS.st (v:= .agg #[iV age,.slice W ms.length aa,.int .u16 ((fl:Nat):Int)]) (off:=2) 0 aM (Ah type104) rfl rfl rfl rfl fun aN=>?_;refine JS.norm (S':= [[(K,.cells #[.pointer (some ⟨k1,O,none⟩),.slice U lk.length Z,iV age,.slice W ms.length aa,.int .u16 ((fl:Nat):Int)] 175 (0,0))],ag]) rfl aN fun aO=>?_;refine JL.done ?_;refine JL.out rfl ?_;refine JO.leaveD rfl func176 rfl (.inl rfl) ?_;refine(?_:JO J Q (base 155) Tryz.f155.ntmps _ [] (aZ::cs) _) T aL todo;refine JO.leave (v:= .bool true) rfl (Bm.list func155 rfl (vs:= [.bool true]) ⟨rfl,trivial⟩) ?_;exact aD _ _ _ _ (((((ab.trans ae).trans ah).trans av).trans az).trans am) rfl ⟨ag,rfl,by simp,aJ⟩ aO
  ·refine Take.HF (pp:=rI) [iV m] ([m]:List Int) a4 rfl rfl rfl underlying28 (Ah type3) (AM type3) (by decide) rfl rfl rfl ⟨rfl,trivial⟩ fun cg ba bQ bR=>?_;refine JG.one (i:=3) rfl (by decide+kernel) ?_;refine Take.NI (vs:= [.slice W (ms).length aa]) bR (Nj (aB.mono ((ab.trans ae).trans ah)) a5) rfl rfl rfl (Ay func175 rfl) rfl ?_;rintro _ ci _ ao ⟨ck,cm,cn,rfl,rfl,bS⟩ bT;refine JG.one (i:=6) rfl (by decide+kernel) ?_;refine Take.app0 (pp:=rI) 5 4 bT a6 rfl rfl rfl rfl rfl rfl rfl underlying28 underlying28 (Ah type3) (Ct type3) (AM type3) rfl (by decide) (by decide) bS (bQ.mono ao) rfl rfl fun aP aQ co bU bV bW=>?_;refine Aw.leaf (tail:= [7,8,9,10]) (by decide+kernel) (fun t=>A3 (by decide+kernel) (A3 (by decide+kernel) (A3 (by decide+kernel) (A3 (by decide+kernel) BL))) t) ?_;refine JS.part 5 rfl bW fun bX=>?_;refine JS.drop 5 bX rfl fun bY=>?_;refine JS.norm (S':= [[(K,.cells #[.pointer (some ⟨k1,O,none⟩),.slice U (lk).length Z,iV age,.slice W (ms).length aa,.int .u16 ((fl:Nat):Int)] 175 (0,0))],X,[],[],ba,[],bU]) rfl bY fun bZ=>?_;refine JL.go 1 rfl ?_;refine JL.fd underlying175 (Ah type104) rfl rfl rfl ?_;refine JL.fd underlying104 (Ah type28) rfl rfl rfl ?_;refine JS.st (v:= .slice aP (aj).length aQ) (off:=3) 0 bZ (Ah type28) rfl rfl rfl rfl fun bb=>?_;refine JL.go 3 rfl ?_;refine JL.ld 0 (ai.mono ((ae.trans ah).trans ao)) (Ao underlying173) rfl rfl rfl ?_;refine JL.go 1 rfl ?_;refine JL.fd underlying175 (Ah type104) rfl rfl rfl ?_;refine JL.fd underlying104 (Ah type102) rfl rfl rfl ?_;refine JL.Y (v:= .int .u16 ((fl:Nat):Int)) rfl (fun ρ h=>Yl.load (Ao underlying102) (h _ _ rfl) (Cs (j:=0) (off:=4) bb rfl rfl)) ?_;obtain⟨ay,b0,b1⟩:=bs a7;refine JL.go 1 rfl ?_;refine JL.Y (v:= .int .u16 ((ay:Nat):Int)) rfl (fun ρ h=>Yl.Hu (h _ _ rfl) (h _ _ rfl) b0) ?_;refine JL.go 1 rfl ?_;refine JL.fd underlying175 (Ah type104) rfl rfl rfl ?_;refine JL.fd underlying104 (Ah type102) rfl rfl rfl ?_;refine JS.st (v:= .int .u16 ((ay:Nat):Int)) (off:=4) 0 bb (Ah type102) rfl rfl rfl rfl fun b2=>?_;refine JL.go 2 rfl ?_;refine JS.BC 6 bV b2 rfl fun cp aA b3 b4=>?_;refine JS.norm (S':= [[(K,.cells #[.pointer (some ⟨k1,O,none⟩),.slice U (lk).length Z,iV age,.slice aP (aj).length aQ,.int .u16 ((ay:Nat):Int)] 175 (0,0))],X,[],[],ba,[],[]]) rfl b4 fun b5=>?_;refine JS.drop 4 b5 rfl fun b6=>?_;obtain rfl:=oi b1;refine JL.region ?_;refine JL.Y (v:= .func (.func 176) #[] [.pointer (some ⟨al,0,none⟩),.pointer (some ⟨ak,0,none⟩)].toArray) rfl (fun ρ h=>Yl.Gh (by simp) (by simp [h (.tmp 9) _ rfl,h (.tmp 3) _ rfl])) ?_;refine JL.M8 (vs:= []) (caps:= [.pointer (some ⟨al,0,none⟩),.pointer (some ⟨ak,0,none⟩)]) rfl rfl rfl rfl rfl rfl ?_;refine JL.go 4 rfl ?_;refine JS.split (S':= [[(K,.cells #[.pointer (some ⟨k1,O,none⟩),.slice U (lk).length Z,iV age,.slice aP (aj).length aQ,.int .u16 ((ay:Nat):Int)] 175 (0,0))]++X]) (by simp) b6 fun aI=>?_;refine JS.GZ (vs:= []) 0 (aY (aj,ay) rfl _ _ _ ((((ab.trans ae).trans ah).trans ao).trans aA) b3) rfl rfl rfl rfl rfl aI rfl ?_;rintro _ bP _ am ⟨ap,mv,aq,ag,rfl,rfl,aJ⟩ aK;refine JL.go 2 rfl ?_;refine JL.EO rfl ?_;refine JO.No (vs:= []) (caps:= [.pointer (some ⟨al,0,none⟩),.pointer (some ⟨ak,0,none⟩)]) rfl func176 rfl rfl (Nat.le_of_ble_eq_true rfl) fun T aL todo=>?_;refine JS.split (S':= [[(K,.cells #[.pointer (some ⟨k1,O,none⟩),.slice U lk.length Z,ap,mv,aq] 175 (0,0))],ag]) (by simp) aK fun aM=>?_;refine JL.region ?_;refine JL.ld 0 (ai.mono ((((ae.trans ah).trans ao).trans aA).trans am)) (Ao underlying173) rfl rfl rfl ?_;refine JL.Bw (au.mono ((ao.trans aA).trans am)) (Ao underlying104) (Ah type104) rfl rfl ?_;refine JL.go 1 rfl ?_;refine JL.fd underlying175 (Ah type104) rfl rfl rfl ?_;refine JS.st (v:= .agg #[iV age,.slice W ms.length aa,.int .u16 ((fl:Nat):Int)]) (off:=2) 0 aM (Ah type104) rfl rfl rfl rfl fun aN=>?_;refine JS.norm (S':= [[(K,.cells #[.pointer (some ⟨k1,O,none⟩),.slice U lk.length Z,iV age,.slice W ms.length aa,.int .u16 ((fl:Nat):Int)] 175 (0,0))],ag]) rfl aN fun aO=>?_;refine JL.done ?_;refine JL.out rfl ?_;refine JO.leaveD rfl func176 rfl (.inl rfl) ?_;refine(?_:JO J Q (base 155) Tryz.f155.ntmps _ [] (aZ::cs) _) T aL todo;refine JO.leave (v:= .bool true) rfl (Bm.list func155 rfl (vs:= [.bool true]) ⟨rfl,trivial⟩) ?_;exact aD _ _ _ _ (((((ab.trans ae).trans ah).trans ao).trans aA).trans am) rfl ⟨ag,rfl,by simp,aJ⟩ aO
end Pal
namespace Pal
open Go Go.Conc Go.Proofs
open Go.Proofs.Tryz
def HO(fuel:Nat)(K:(List (List Int))×(List (List Int))×(List Nat))(lk:List (Int×Int))(age:Int)(ms:List Int)(fl:Nat)(n:Int):Option (Nat):=
 (ix K.1 (n)).bind fun O=>
 (f120 fuel O).bind fun U=>
 some U
theorem Ti{J:Judge Tryz.prog}{E:LH}{O k1 U:Nat}{al aq ae ag:Option Addr}{am ar ah ai:Nat}{au:List Value}{W:(List (List Int))×(List (List Int))×(List Nat)}{lk:List (Int×Int)}{age:Int}{ms:List Int}{fl:Nat}(az:At E k1 U (([.slice al (W.1).length am,.slice aq (W.2.1).length ar]:List Value)++au))(aA:Aq (rL rI) E al am (W.1))(aW:Aq (rL rI) E aq ar (W.2.1))(aX:(rA 13 (rN .u16)).r E au (W.2.2))(aY:Aq (rP rI rI) E ae ah lk)(aZ:Aq rI E ag ai ms){Z aa:Nat}(aB:At E Z aa [.pointer (some ⟨O,0,none⟩)]){aj ak kf ab:Nat}(aC:At E kf ab [.func (.func 153) #[] [.pointer (some ⟨Z,aa,none⟩),.pointer (some ⟨aj,ak,none⟩),.pointer (some ⟨kf,ab,none⟩)].toArray]){av on:Nat}{n:Int}(aD:At E av on [iV n]){X:Seg}{fuel:Nat}{r:Nat}(aw:HO fuel W lk age ms fl n=some r){R:Value→LH→Seg→Prop}
  (aE:∀E',Le E E'→Au J 153 [.int .u16 ((r:Nat):Int),.pointer (some ⟨Z,aa,none⟩),.pointer (some ⟨aj,ak,none⟩),.pointer (some ⟨kf,ab,none⟩)] E' ([(O,.cells #[.pointer (some ⟨k1,U,none⟩),.slice ae lk.length ah,iV age,.slice ag ms.length ai,.int .u16 ((fl:Nat):Int)] 175 (0,0))]++X) R):
  Au J 156 [.pointer (some ⟨kf,ab,none⟩),.pointer (some ⟨Z,aa,none⟩),.pointer (some ⟨av,on,none⟩)] E ([(O,.cells #[.pointer (some ⟨k1,U,none⟩),.slice ae lk.length ah,iV age,.slice ag ms.length ai,.int .u16 ((fl:Nat):Int)] 175 (0,0))]++X) R:=by
 refine Au.en func156 rfl rfl fun Q a0 cs H K aF=>?_;refine JS.split (S':= [[(O,.cells #[.pointer (some ⟨k1,U,none⟩),.slice ae lk.length ah,iV age,.slice ag ms.length ai,.int .u16 ((fl:Nat):Int)] 175 (0,0))],X]) (by simp) K fun K=>?_;unfold HO at aw;refine JL.go 5 rfl ?_;refine JG.B8 13 [O] ⟨⟨0,_,rfl⟩,trivial⟩ K mixed rfl (by decide+kernel) fun ht=>?_;refine JG.V (v:= .func (.func 153) #[] [.pointer (some ⟨Z,aa,none⟩),.pointer (some ⟨aj,ak,none⟩),.pointer (some ⟨kf,ab,none⟩)].toArray) 0 ht rfl rfl (fun ρ h s' hs=>Yl.load (Ao underlying201) (h _ _ rfl) (At.CF (j:=0) aC (CE K hs ⟨⟨0,_,rfl⟩,trivial⟩) rfl)) ?_;refine JG.V (v:= .pointer (some ⟨O,0,none⟩)) 1 ht rfl rfl (fun ρ h s' hs=>Yl.load (Ao underlying173) (h _ _ rfl) (At.CF (j:=0) aB (CE K hs ⟨⟨0,_,rfl⟩,trivial⟩) rfl)) ?_;refine JG.mv 2 ht rfl rfl ?_;refine JG.fd 3 ht underlying175 (Ah type94) rfl rfl rfl rfl ?_;refine JG.V (v:= .pointer (some ⟨k1,U,none⟩)) 4 ht rfl rfl (fun ρ h s' hs=>Yl.load (Ao underlying94) (h _ _ rfl) (Bd (o:=0) 0 K rfl (by simp [AD]) hs rfl)) ?_;refine JG.mv 5 ht rfl rfl ?_;refine JG.fd 6 ht underlying141 (Ah type24) rfl rfl rfl rfl ?_;refine JG.fd 7 ht underlying24 (Ah type22) rfl rfl rfl rfl ?_;refine JG.V (v:= .slice al (W.1).length am) 8 ht rfl rfl (fun ρ h s' hs=>Yl.load (Ao underlying22) (h _ _ rfl) (At.CF (j:=0) az (CE K hs ⟨⟨0,_,rfl⟩,trivial⟩) rfl)) ?_;refine JG.V (v:=iV n) 9 ht rfl rfl (fun ρ h s' hs=>Yl.load (Ao underlying3) (h _ _ rfl) (At.CF (j:=0) aD (CE K hs ⟨⟨0,_,rfl⟩,trivial⟩) rfl)) ?_;obtain⟨an,aG,aH⟩:=bs aw;refine JG.idx 10 aA aG rfl ht (by decide+kernel) rfl rfl rfl rfl rfl underlying22 (Ah type28) ?_;rintro aI aJ _ ⟨ao,c4,rfl,aK⟩ ap;replace ap:At E aI aJ [.slice ao (an).length c4]:=ap;refine JG.V (v:= .slice ao (an).length c4) 11 ht rfl rfl (fun ρ h s' hs=>Yl.load (Ao underlying28) (h _ _ rfl) (At.CF (j:=0) ap (CE K hs ⟨⟨0,_,rfl⟩,trivial⟩) rfl)) ?_;obtain⟨aL,aM,aN⟩:=bs aH;refine JG.I9 (i:=12) ⟨⟨0,_,rfl⟩,trivial⟩ (vs:= [.slice ao (an).length c4]) (GN aK aM) (by decide+kernel) rfl rfl rfl (Ay func120 rfl) rfl K ?_;rintro _ aO _ ay ⟨rfl,rfl⟩ aP;refine Aw.leaf (tail:= [13,14]) (by decide+kernel) (fun t=>A3 (by decide+kernel) (A3 (by decide+kernel) BL) t) ?_;obtain rfl:=oi aN;refine JS.split (S':= [[(O,.cells #[.pointer (some ⟨k1,U,none⟩),.slice ae lk.length ah,iV age,.slice ag ms.length ai,.int .u16 ((fl:Nat):Int)] 175 (0,0))]++X]) (by simp) aP fun aQ=>?_;have aR:CW J (.func (.func 153) #[] [.pointer (some ⟨Z,aa,none⟩),.pointer (some ⟨aj,ak,none⟩),.pointer (some ⟨kf,ab,none⟩)].toArray) [.int .u16 ((aL:Nat):Int)] aO ([(O,.cells #[.pointer (some ⟨k1,U,none⟩),.slice ae lk.length ah,iV age,.slice ag ms.length ai,.int .u16 ((fl:Nat):Int)] 175 (0,0))]++X) R:=CW.ofFn (caps:= [.pointer (some ⟨Z,aa,none⟩),.pointer (some ⟨aj,ak,none⟩),.pointer (some ⟨kf,ab,none⟩)]) (Ay func153 rfl) (aE _ ay);refine JS.GZ 0 aR rfl rfl rfl rfl rfl aQ rfl ?_;rintro w a1 aS aT aU aV;refine JL.go 2 rfl ?_;refine JL.rt func156 rfl rfl ?_;exact aF _ _ _ aS (ay.trans aT) (by simp) aU aV
end Pal
namespace Pal
open Go Go.Conc Go.Proofs
open Go.Proofs.Tryz
def Gp(fuel:Nat)(K:(List (List Int))×(List (List Int))×(List Nat))(lk:List (Int×Int))(age:Int)(ms:List Int)(fl:Nat)(sm:Nat):Option (Option (List Int)):=
 (Hz fuel (K,lk,age,ms,fl)).bind fun O=>
 if O<((ms).length:Int) then(
  some none
 ) else(
  (f89 fuel sm).bind fun U=>
  some (some U)
 )
def Kw(rec:Nat→List Int→Nat→List (List Int×Nat)→Option (List (List Int×Nat)))(fuel:Nat)(K:(List (List Int))×(List (List Int))×(List Nat))(lk:List (Int×Int))(age:Int)(ms:List Int)(fl:Nat)(ac:List (List Int×Nat))(n:Int):Option (List (List Int×Nat)):=
 (HH fuel K lk age ms fl n).bind fun r=>match r with
  | none=>some ac
  | some q=>(HO fuel K lk age q.1 q.2 n).bind fun s'=>rec s' q.1 q.2 ac
def G5(ok:List (List Int×Nat)→Bool)(rec:Nat→List Int→Nat→List (List Int×Nat)→Option (List (List Int×Nat)))(fuel:Nat)(K:(List (List Int))×(List (List Int))×(List Nat))(lk:List (Int×Int))(age:Int)(ms:List Int)(fl:Nat)(ac:List (List Int×Nat)):Option (List Int)→Option (List (List Int×Nat))
 | none=>if ok (ac++ [(ms,fl)])=true then some (ac++ [(ms,fl)]) else none
 | some l=>if l.length≤1000 then Dh (Kw rec fuel K lk age ms fl) l ac else none
def F7(ok:List (List Int×Nat)→Bool)(fuel:Nat)(K:(List (List Int))×(List (List Int))×(List Nat))(lk:List (Int×Int))(age:Int):Nat→Nat→List Int→Nat→List (List Int×Nat)→Option (List (List Int×Nat))
 | 0,_,_,_,_=>none
 | g+1,sm,ms,fl,ac=>(Gp fuel K lk age ms fl sm).bind fun r=>G5 ok (F7 ok fuel K lk age g) fuel K lk age ms fl ac r
theorem Rg{J:Judge Tryz.prog}{I:List (List Int×Nat)→LH→Seg→Prop}(ar:∀x E E' X,Le E E'→I x E X→I x E' X){E:LH}{K k1 aa:Nat}{aS aT ab W:Option Addr}{aU aV ae Z:Nat}{aW:List Value}{aj:(List (List Int))×(List (List Int))×(List Nat)}{lk:List (Int×Int)}{age:Int}{ms:List Int}{fl:Nat}(aG:At E k1 aa (([.slice aS (aj.1).length aU,.slice aT (aj.2.1).length aV]:List Value)++aW))(aH:Aq (rL rI) E aS aU (aj.1))(aI:Aq (rL rI) E aT aV (aj.2.1))(aJ:(rA 13 (rN .u16)).r E aW (aj.2.2))(aK:Aq (rP rI rI) E ab ae lk)(aL:Aq rI E W Z ms){an ao:Nat}(aw:At E an ao [.pointer (some ⟨K,0,none⟩)]){az aA kf ap:Nat}(bb:At E kf ap [.func (.func 153) #[] [.pointer (some ⟨an,ao,none⟩),.pointer (some ⟨az,aA,none⟩),.pointer (some ⟨kf,ap,none⟩)].toArray]){aM:Value}(bc:At E az aA [aM]){X:Seg}{acc acc':List (List Int×Nat)}{ok:List (List Int×Nat)→Bool}(aX:I acc E X){rec:Nat→List Int→Nat→List (List Int×Nat)→Option (List (List Int×Nat))}(bd:∀s' ak au ac aB,rec s' ak au ac=some aB→∀E' O a c,Le E E'→Aq rI E' a c ak→I ac E' O→Au J 153 [.int .u16 ((s':Nat):Int),.pointer (some ⟨an,ao,none⟩),.pointer (some ⟨az,aA,none⟩),.pointer (some ⟨kf,ap,none⟩)] E' ([(K,.cells #[.pointer (some ⟨k1,aa,none⟩),.slice ab lk.length ae,iV age,(.slice a ak.length c),(.int .u16 ((au:Nat):Int))] 175 (0,0))]++O) (fun w E' B'=>∃aN mv aO O,w= .bool true∧B'= [(K,.cells #[.pointer (some ⟨k1,aa,none⟩),.slice ab lk.length ae,aN,mv,aO] 175 (0,0))]++O∧I aB E' O))(bf:∀(E':LH) (O:Seg) (ac:List (List Int×Nat)) (ak:List Int) (au:Nat) (a:Option Addr) (c:Nat),Le E E'→Aq rI E' a c ak→I ac E' O→ok (ac++ [(ak,au)])=true→CW J aM [.agg #[iV age,.slice a ak.length c,.int .u16 ((au:Nat):Int)]] E' O (fun w aY bg=>w= .bool true∧I (ac++ [(ak,au)]) aY bg)){sm:Nat}{fuel:Nat}{r:Option (List Int)}(aZ:Gp fuel aj lk age ms fl sm=some r)(ag:G5 ok rec fuel aj lk age ms fl acc r=some acc'):
  Au J 153 [.int .u16 ((sm:Nat):Int),.pointer (some ⟨an,ao,none⟩),.pointer (some ⟨az,aA,none⟩),.pointer (some ⟨kf,ap,none⟩)] E ([(K,.cells #[.pointer (some ⟨k1,aa,none⟩),.slice ab lk.length ae,iV age,.slice W ms.length Z,.int .u16 ((fl:Nat):Int)] 175 (0,0))]++X) (fun w E' B'=>∃aN mv aO O,w= .bool true∧B'= [(K,.cells #[.pointer (some ⟨k1,aa,none⟩),.slice ab lk.length ae,aN,mv,aO] 175 (0,0))]++O∧I acc' E' O):=by
 refine Au.en func153 rfl rfl fun Q bP cs H aq a0=>?_;refine JS.split (S':= [[(K,.cells #[.pointer (some ⟨k1,aa,none⟩),.slice ab lk.length ae,iV age,.slice W ms.length Z,.int .u16 ((fl:Nat):Int)] 175 (0,0))],X]) (by simp) aq fun aq=>?_;unfold Gp at aZ;refine JL.go 6 rfl ?_;refine JG.B8 8 [K] ⟨⟨0,_,rfl⟩,trivial⟩ aq mixed rfl (by decide+kernel) fun ht=>?_;refine JG.V (v:= .pointer (some ⟨K,0,none⟩)) 0 ht rfl rfl (fun ρ h s' hs=>Yl.load (Ao underlying173) (h _ _ rfl) (At.CF (j:=0) aw (CE aq hs ⟨⟨0,_,rfl⟩,trivial⟩) rfl)) ?_;refine JG.mv 1 ht rfl rfl ?_;refine JG.fd 2 ht underlying175 (Ah type104) rfl rfl rfl rfl ?_;refine JG.fd 3 ht underlying104 (Ah type28) rfl rfl rfl rfl ?_;refine JG.V (v:= .slice W (ms).length Z) 4 ht rfl rfl (fun ρ h s' hs=>Yl.load (Ao underlying28) (h _ _ rfl) (Bd (o:=3) 0 aq rfl (by simp [AD]) hs rfl)) ?_;refine JG.V 5 ht rfl rfl (fun ρ h s' hs=>Yl.len rfl underlying28 (h _ _ rfl)) ?_;refine JG.V (v:= .pointer (some ⟨K,0,none⟩)) 6 ht rfl rfl (fun ρ h s' hs=>Yl.load (Ao underlying173) (h _ _ rfl) (At.CF (j:=0) aw (CE aq hs ⟨⟨0,_,rfl⟩,trivial⟩) rfl)) ?_;obtain⟨bh,bi,a1⟩:=bs aZ;refine JG.Nv (i:=7) (vs:= [.pointer (some ⟨K,0,none⟩)]) 0 ⟨⟨0,_,rfl⟩,trivial⟩ (QC aG aH aI aJ aK aL bi) (fun _ _ _ h=>h.2) (by decide+kernel) rfl rfl rfl (Ay func154 rfl) rfl aq rfl ?_;rintro _ a2 U ⟨rfl,_⟩ al;refine Aw.leaf (tail:= [8]) (by decide+kernel) (fun t=>A3 (by decide+kernel) BL t) ?_;refine JL.go 2 rfl ?_;refine JL.ifs (p:=bh<((ms).length:Int)) rfl (fun aP=>?_) (fun aP=>?_)
 ·have a3:=a1;rw [if_pos aP] at a3;refine JL.seq ?_;refine JG.B8 5 [K] ⟨⟨0,_,rfl⟩,trivial⟩ al mixed rfl (by decide+kernel) fun ht=>?_;refine JG.V (v:=aM) 0 ht rfl rfl (fun ρ h s' hs=>Yl.load (Ao underlying200) (h _ _ rfl) (At.CF (j:=0) (bc.mono U) (CE al hs ⟨⟨0,_,rfl⟩,trivial⟩) rfl)) ?_;refine JG.V (v:= .pointer (some ⟨K,0,none⟩)) 1 ht rfl rfl (fun ρ h s' hs=>Yl.load (Ao underlying173) (h _ _ rfl) (At.CF (j:=0) (aw.mono U) (CE al hs ⟨⟨0,_,rfl⟩,trivial⟩) rfl)) ?_;refine JG.mv 2 ht rfl rfl ?_;refine JG.fd 3 ht underlying175 (Ah type104) rfl rfl rfl rfl ?_;refine JG.V 4 ht rfl rfl (fun ρ h s' hs=>Yl.Bj (vs:= [iV age,.slice W (ms).length Z,.int .u16 ((fl:Nat):Int)]) (Ao underlying104) (Ah type104) (h _ _ rfl) (Pg (o:=2) 0 al rfl (by simp [AD]) hs rfl)) ?_;refine Aw.leaf (tail:= [5,6]) (by decide+kernel) (fun t=>A3 (by decide+kernel) (A3 (by decide+kernel) BL) t) ?_;obtain rfl:=oi a3;have a4:ok (acc++ [(ms,fl)])=true∧acc++ [(ms,fl)]=acc':=by
   simp only [G5] at ag;split at ag
   ·exact⟨by assumption,Option.some.inj ag⟩
   ·cases ag
  obtain⟨bj,a4⟩:=a4;subst acc';refine JS.GZ (vs:= [.agg #[iV age,.slice W ms.length Z,.int .u16 ((fl:Nat):Int)]]) 1 (bf _ _ _ _ _ _ _ U (aL.mono U) (ar _ _ _ _ U aX) bj) rfl rfl rfl rfl rfl al rfl ?_;rintro _ bQ bk bl ⟨rfl,bm⟩ bn;refine JL.go 2 rfl ?_;refine JL.rt func153 rfl rfl ?_;exact a0 _ _ _ _ (U.trans bl) rfl ⟨iV age,.slice W ms.length Z,.int .u16 ((fl:Nat):Int),bk,rfl,by simp,bm⟩ bn
 ·have a5:=a1;rw [if_neg aP] at a5;obtain⟨ai,bo,bp⟩:=bs a5;refine JL.go 5 rfl ?_;refine JS.cl (FZ bo) rfl rfl (Ay func89 rfl) al ?_;rintro _ bq _ aQ ⟨a6,a7,rfl,rfl,br⟩ bu;refine JL.Y rfl (fun ρ h=>Yl.len rfl underlying28 (h _ _ rfl)) ?_;refine JL.go 2 rfl ?_;obtain rfl:=oi bp;have bv:(ai).length≤1000∧Dh (Kw rec fuel aj lk age ms fl) ai acc=some acc':=by
   simp only [G5] at ag;split at ag
   ·exact⟨by assumption,ag⟩
   ·cases ag
  obtain⟨hlen,ag⟩:=bv;refine JL.block ?_;refine JL.wk [(1,.pointer (some ⟨an,ao,none⟩)),(3,.pointer (some ⟨kf,ap,none⟩)),(24,.slice a6 (ai).length a7),(25,iV ((ai).length:Int)),(26,iV 0)] rfl ?_;refine JS.split (S':= [[(K,.cells #[.pointer (some ⟨k1,aa,none⟩),.slice ab lk.length ae,iV age,.slice W ms.length Z,.int .u16 ((fl:Nat):Int)] 175 (0,0))],X]) (by simp) bu fun bw=>?_;refine JL.Py (l:=ai) ag (fun L s i ac=>∃aC av,Jn bq H aC [[(K,.cells #[.pointer (some ⟨k1,aa,none⟩),.slice ab lk.length ae,iV age,.slice W ms.length Z,.int .u16 ((fl:Nat):Int)] 175 (0,0))],av] [(1,.pointer (some ⟨an,ao,none⟩)),(3,.pointer (some ⟨kf,ap,none⟩)),(24,.slice a6 (ai).length a7),(25,iV ((ai).length:Int)),(26,iV ((i:Nat):Int))] L s (I ac aC av)) ⟨_,X,rfl,rfl,Le.refl _,bw,ar _ _ _ _ (U.trans aQ) aX⟩ ?_ ?_
  ·rintro _ _ i ac n aB ⟨aC,av,rfl,rfl,ay,aR,aD⟩ bx bR bz bA;have bB:=(U.trans aQ).trans ay;refine JL.go 5 rfl ?_;rw [decide_eq_true (show((i:Nat):Int)<((ai).length:Int) by omega)];refine JL.go 6 rfl ?_;have bC:ix ai ((i:Nat):Int)=some n:=by unfold ix;rw [if_pos (by omega)];exact bx
   refine JS.BI (br.mono ay) bC rfl rfl rfl rfl rfl underlying28 (Ah type3) ?_;rintro kk bS _ rfl bD;refine JL.ld 0 bD (Ao underlying3) rfl rfl rfl ?_;refine JS.alloc rfl rfl rfl aR (AM type3) fun a8 bE=>?_;refine JS.st (v:=iV n) (off:=0) 2 bE (Ah type3) rfl rfl rfl rfl fun bF=>?_;refine JS.Bf 2 bF rfl fun bG aE aF bH=>?_;replace aF:At bG a8 0 [iV n]:=aF;have am:=bB.trans aE;refine JL.go 3 rfl ?_;refine JL.ld 0 (aw.mono am) (Ao underlying173) rfl rfl rfl ?_;refine JL.ld 0 aF (Ao underlying3) rfl rfl rfl ?_;refine JL.Y (v:= .func (.func 156) #[] [.pointer (some ⟨kf,ap,none⟩),.pointer (some ⟨an,ao,none⟩),.pointer (some ⟨a8,0,none⟩)].toArray) rfl (fun ρ h=>Yl.Gh (by simp) (by simp [h (.tmp 3) _ rfl,h (.tmp 1) _ rfl,h (.tmp 7) _ rfl])) ?_;refine JS.split (S':= [[(K,.cells #[.pointer (some ⟨k1,aa,none⟩),.slice ab lk.length ae,iV age,.slice W ms.length Z,.int .u16 ((fl:Nat):Int)] 175 (0,0))]++av]) (by simp) bH fun al=>?_;obtain⟨q,bI,a9⟩:=Option.bind_eq_some_iff.1 bz;refine JS.Bv 0 (Sx ar (aG.mono am) (aH.mono am) (aI.mono am) (Rp.mono _ am aJ) (aK.mono am) (aL.mono am) (acc':=aB) (ar _ _ _ _ aE aD) bI (fun e=>by subst e;exact(Option.some.inj a9).symm) (fun p e E' a c hle ba=>?_)) rfl rfl (Ay func155 rfl) al rfl ?_
   ·subst e;obtain⟨s',bJ,bK⟩:=Option.bind_eq_some_iff.1 a9;have ah:=am.trans hle;exact CW.ofFn (Ay func156 rfl) (Ti (aG.mono ah) (aH.mono ah) (aI.mono ah) (Rp.mono _ ah aJ) (aK.mono ah) ba (aw.mono ah) (bb.mono ah) (aF.mono hle) bJ fun aY U=>bd _ _ _ _ _ bK _ _ _ _ (ah.trans U) (ba.mono U) (ar _ _ _ _ (hle.trans U) (ar _ _ _ _ aE aD)))
   rintro _ a2 _ ah ⟨O,rfl,rfl,bL⟩ bM;refine JL.Y (v:= .bool (!true)) rfl (fun ρ h=>Yl.not (h _ _ rfl)) ?_;refine JL.go 5 rfl ?_;have bN:Av (((i:Nat):Int)+1)=some (((i+1:Nat)):Int):=by unfold Av;rw [if_pos (by omega)];simp
   refine JL.Y rfl (fun ρ h=>Yl.A0 (h _ _ rfl) (h _ _ rfl) bN) ?_;refine JL.go 2 rfl ?_;refine JS.split (S':= [[(K,.cells #[.pointer (some ⟨k1,aa,none⟩),.slice ab lk.length ae,iV age,.slice W ms.length Z,.int .u16 ((fl:Nat):Int)] 175 (0,0))],O]) (by simp) bM fun bO=>?_;exact JL.kw (bA _ _ ⟨a2,O,rfl,rfl,(ay.trans aE).trans ah,bO,bL⟩) rfl
  ·rintro _ _ ⟨aC,av,rfl,rfl,ay,aR,aD⟩;refine JL.go 5 rfl ?_;rw [decide_eq_false (Int.lt_irrefl _)];refine JL.go 6 rfl ?_;refine JL.rt func153 rfl rfl ?_;exact a0 _ _ _ _ ((U.trans aQ).trans ay) rfl ⟨iV age,.slice W ms.length Z,.int .u16 ((fl:Nat):Int),av,rfl,by simp,aD⟩ aR
end Pal
namespace Pal
open Go Go.Conc Go.Proofs
open Go.Proofs.Tryz
theorem Qz{J:Judge Tryz.prog}{I:List (List Int×Nat)→LH→Seg→Prop}(aB:∀x E E' X,Le E E'→I x E X→I x E' X){E:LH}{aa k1 ab:Nat}{au av ae:Option Addr}{aw ay ag:Nat}{az:List Value}{O:(List (List Int))×(List (List Int))×(List Nat)}{lk:List (Int×Int)}{age:Int}(aC:At E k1 ab (([.slice au (O.1).length aw,.slice av (O.2.1).length ay]:List Value)++az))(aD:Aq (rL rI) E au aw (O.1))(aE:Aq (rL rI) E av ay (O.2.1))(aF:(rA 13 (rN .u16)).r E az (O.2.2))(aG:Aq (rP rI rI) E ae ag lk){ah ai:Nat}(aH:At E ah ai [.pointer (some ⟨aa,0,none⟩)]){aj ak kf al:Nat}(aI:At E kf al [.func (.func 153) #[] [.pointer (some ⟨ah,ai,none⟩),.pointer (some ⟨aj,ak,none⟩),.pointer (some ⟨kf,al,none⟩)].toArray]){aA:Value}(aJ:At E aj ak [aA]){fuel:Nat}{ok:List (List Int×Nat)→Bool}(aK:∀(E':LH) (Z:Seg) (ac:List (List Int×Nat)) (K:List Int) (U:Nat) (a:Option Addr) (c:Nat),Le E E'→Aq rI E' a c K→I ac E' Z→ok (ac++ [(K,U)])=true→CW J aA [.agg #[iV age,.slice a K.length c,.int .u16 ((U:Nat):Int)]] E' Z (fun w aL aM=>w= .bool true∧I (ac++ [(K,U)]) aL aM)):
  ∀(g sm:Nat) (ms:List Int) (fl:Nat) (ac W:List (List Int×Nat)),F7 ok fuel O lk age g sm ms fl ac=some W→∀E' X a c,Le E E'→Aq rI E' a c ms→I ac E' X→Au J 153 [.int .u16 ((sm:Nat):Int),.pointer (some ⟨ah,ai,none⟩),.pointer (some ⟨aj,ak,none⟩),.pointer (some ⟨kf,al,none⟩)] E' ([(aa,.cells #[.pointer (some ⟨k1,ab,none⟩),.slice ae lk.length ag,iV age,(.slice a ms.length c),.int .u16 ((fl:Nat):Int)] 175 (0,0))]++X) (fun w E' B'=>∃aN mv aO Z,w= .bool true∧B'= [(aa,.cells #[.pointer (some ⟨k1,ab,none⟩),.slice ae lk.length ag,aN,mv,aO] 175 (0,0))]++Z∧I W E' Z):=by
 intro g
 induction g with
 | zero=>intro sm ms fl ac W h;cases h
 | succ g aP=>
  intro sm ms fl ac W h E' X a c hle aQ aR;obtain⟨r,aS,aT⟩:=Option.bind_eq_some_iff.1 h;exact Rg aB (aC.mono hle) (aD.mono hle) (aE.mono hle) (Rp.mono _ hle aF) (aG.mono hle) aQ (aH.mono hle) (aI.mono hle) (aJ.mono hle) aR (rec:=F7 ok fuel O lk age g) (fun s' K U ac W aU am an ao c2 ap aq ar=>aP s' K U ac W aU am an ao c2 (hle.trans ap) aq ar) (fun am an ac K U ao c2 ap aq ar aV=>aK am an ac K U ao c2 (hle.trans ap) aq ar aV) aS aT
def Gl(fuel:Nat)(K:(List (List Int))×(List (List Int))×(List Nat))(lk:List (Int×Int))(age:Int):Option Nat:=
 (ix K.2.2 (age)).bind fun O=>
 some O
theorem LV{J:Judge Tryz.prog}{I:List (List Int×Nat)→LH→Seg→Prop}(aF:∀x E E' X,Le E E'→I x E X→I x E' X){E:LH}{W k1 U:Nat}{aq ar ab:Option Addr}{au av ae:Nat}{aG:List Value}{aa:(List (List Int))×(List (List Int))×(List Nat)}{lk:List (Int×Int)}{age:Int}(aH:At E k1 U (([.slice aq (aa.1).length au,.slice ar (aa.2.1).length av]:List Value)++aG))(aN:Aq (rL rI) E aq au (aa.1))(aO:Aq (rL rI) E ar av (aa.2.1))(aw:(rA 13 (rN .u16)).r E aG (aa.2.2))(aP:Aq (rP rI rI) E ab ae lk){ag ah:Nat}(ay:At E ag ah [.pointer (some ⟨W,0,none⟩)]){aI aJ:Nat}(aK:At E aI aJ [iV age]){al mv am:Value}{an:Go.Fn}{X:Seg}{acc acc':List (List Int×Nat)}(aQ:I acc E X){ok:List (List Int×Nat)→Bool}{fuel:Nat}(aR:∀(E':LH) (Z:Seg) (ac:List (List Int×Nat)) (ao:List Int) (az:Nat) (a:Option Addr) (c:Nat),Le E E'→Aq rI E' a c ao→I ac E' Z→ok (ac++ [(ao,az)])=true→CW J (.func an #[] #[]) [.agg #[iV age,.slice a ao.length c,.int .u16 ((az:Nat):Int)]] E' Z (fun w aS aT=>w= .bool true∧I (ac++ [(ao,az)]) aS aT)){r:Nat}(aL:Gl fuel aa lk age=some r)(aU:F7 ok fuel aa lk age fuel r [] 0 acc=some acc'):
  Au J 152 [.func an #[] #[],.pointer (some ⟨aI,aJ,none⟩),.pointer (some ⟨ag,ah,none⟩)] E ([(W,.cells #[.pointer (some ⟨k1,U,none⟩),.slice ab lk.length ae,al,mv,am] 175 (0,0))]++X) (fun w E' B'=>∃al mv am Z,w= .tuple #[]∧B'= [(W,.cells #[.pointer (some ⟨k1,U,none⟩),.slice ab lk.length ae,al,mv,am] 175 (0,0))]++Z∧I acc' E' Z):=by
 refine Au.en func152 rfl rfl fun Q bm cs H aA aV=>?_;refine JS.split (S':= [[(W,.cells #[.pointer (some ⟨k1,U,none⟩),.slice ab lk.length ae,al,mv,am] 175 (0,0))],X]) (by simp) aA fun aA=>?_;unfold Gl at aL;refine JL.go 2 rfl ?_;refine JS.box (v:= .func an #[] #[]) rfl rfl rfl aA rfl fun aj aW=>?_;refine JS.Bf 2 aW rfl fun aX K aB aY=>?_;replace aB:At aX aj 0 [.func an #[] #[]]:=aB;refine JL.go 3 rfl ?_;refine JL.ld 0 (ay.mono K) (Ao underlying173) rfl rfl rfl ?_;refine JL.ld 0 (aK.mono K) (Ao underlying3) rfl rfl rfl ?_;refine JL.Y (v:= .agg #[iV age,.slice none 0 0,.int .u16 ((0:Nat):Int)]) rfl (fun ρ h=>Yl.BW [(0,1),(1,1),(2,1)] h (AM type104) underlying104 ⟨rfl,Ah type3,rfl,Ah type28,rfl,Ah type102,trivial⟩ rfl rfl) ?_;refine JL.go 1 rfl ?_;refine JL.fd underlying175 (Ah type104) rfl rfl rfl ?_;refine JS.st (v:= .agg #[iV age,.slice none 0 0,.int .u16 ((0:Nat):Int)]) (off:=2) 0 aY (Ah type104) rfl rfl rfl rfl fun aZ=>?_;refine JL.go 3 rfl ?_;refine JS.alloc rfl rfl rfl aZ (AM type201) fun ai a0=>?_;refine JS.norm (S':= [[(W,.cells #[.pointer (some ⟨k1,U,none⟩),.slice ab (lk).length ae,iV age,.slice none 0 0,.int .u16 ((0:Nat):Int)] 175 (0,0))],X,[],[(ai,.cells #[.nilFunc] 201 (0,0))]]) rfl a0 fun a1=>?_;refine JL.go 3 rfl ?_;refine JL.Y (v:= .func (.func 153) #[] ([.pointer (some ⟨ag,ah,none⟩),.pointer (some ⟨aj,0,none⟩),.pointer (some ⟨ai,0,none⟩)]:List Value).toArray) rfl (fun ρ h=>Yl.Gh (by simp) (by simp [h (.tmp 2) _ rfl,h (.tmp 3) _ rfl,h (.tmp 4) _ rfl])) ?_;refine JS.st (v:= .func (.func 153) #[] ([.pointer (some ⟨ag,ah,none⟩),.pointer (some ⟨aj,0,none⟩),.pointer (some ⟨ai,0,none⟩)]:List Value).toArray) (off:=0) 3 a1 (Ah type201) rfl rfl rfl rfl fun a2=>?_;refine JS.Bf 3 a2 rfl fun aC O ap ak=>?_;replace ap:At aC ai 0 [.func (.func 153) #[] ([.pointer (some ⟨ag,ah,none⟩),.pointer (some ⟨aj,0,none⟩),.pointer (some ⟨ai,0,none⟩)]:List Value).toArray]:=ap;refine JL.done ?_;refine JG.B8 11 [W] ⟨⟨0,_,rfl⟩,trivial⟩ ak mixed rfl (by decide+kernel) fun ht=>?_;refine JG.V (v:= .func (.func 153) #[] ([.pointer (some ⟨ag,ah,none⟩),.pointer (some ⟨aj,0,none⟩),.pointer (some ⟨ai,0,none⟩)]:List Value).toArray) 0 ht rfl rfl (fun ρ h s' hs=>Yl.load (Ao underlying201) (h _ _ rfl) (At.CF (j:=0) ap (CE ak hs ⟨⟨0,_,rfl⟩,trivial⟩) rfl)) ?_;refine JG.V (v:= .pointer (some ⟨W,0,none⟩)) 1 ht rfl rfl (fun ρ h s' hs=>Yl.load (Ao underlying173) (h _ _ rfl) (At.CF (j:=0) (ay.mono (K.trans O)) (CE ak hs ⟨⟨0,_,rfl⟩,trivial⟩) rfl)) ?_;refine JG.mv 2 ht rfl rfl ?_;refine JG.fd 3 ht underlying175 (Ah type94) rfl rfl rfl rfl ?_;refine JG.V (v:= .pointer (some ⟨k1,U,none⟩)) 4 ht rfl rfl (fun ρ h s' hs=>Yl.load (Ao underlying94) (h _ _ rfl) (Bd (o:=0) 0 ak rfl (by simp [AD]) hs rfl)) ?_;refine JG.V (v:=iV age) 5 ht rfl rfl (fun ρ h s' hs=>Yl.load (Ao underlying3) (h _ _ rfl) (At.CF (j:=0) (aK.mono (K.trans O)) (CE ak hs ⟨⟨0,_,rfl⟩,trivial⟩) rfl)) ?_;refine JG.mv 6 ht rfl rfl ?_;refine JG.fd 7 ht underlying141 (Ah type139) rfl rfl rfl rfl ?_;obtain⟨aD,aM,a3⟩:=bs aL;obtain⟨_,rfl,aE,_,_⟩:=NT (kk:=13) (pp:=(rN .u16)) (Rp.mono _ (K.trans O) aw) (At.tail (l:= [.slice aq (aa.1).length au,.slice ar (aa.2.1).length av]) (aH.mono (K.trans O))) aM;replace aE:At aC k1 (U+2+Int.toNat (age)*1) [.int .u16 ((aD:Nat):Int)]:=aE;refine JG.V (v:= .pointer (some ⟨k1,(U+2+Int.toNat (age)*1),none⟩)) 8 ht rfl rfl (fun ρ h s' hs=>Yl.GV (kk:=13) (pp:=(rN .u16)) (Rp.mono _ (K.trans O) aw) aM underlying139 (Ah type138) (h _ _ rfl) (h _ _ rfl)) ?_;refine JG.fd 9 ht underlying138 (Ah type102) rfl rfl rfl rfl ?_;refine JG.V (v:= .int .u16 ((aD:Nat):Int)) 10 ht rfl rfl (fun ρ h s' hs=>Yl.load (Ao underlying102) (h _ _ rfl) (At.CF (j:=0) aE (CE ak hs ⟨⟨0,_,rfl⟩,trivial⟩) rfl)) ?_;refine Aw.leaf (tail:= [11]) (by decide+kernel) (fun t=>A3 (by decide+kernel) BL t) ?_;obtain rfl:=oi a3;have a4:CW J (.func (.func 153) #[] [.pointer (some ⟨ag,ah,none⟩),.pointer (some ⟨aj,0,none⟩),.pointer (some ⟨ai,0,none⟩)].toArray) [.int .u16 ((aD:Nat):Int)] aC ([(W,.cells #[.pointer (some ⟨k1,U,none⟩),.slice ab lk.length ae,iV age,.slice none 0 0,.int .u16 ((0:Nat):Int)] 175 (0,0))]++X) (fun w E' B'=>∃al mv am Z,w= .bool true∧B'= [(W,.cells #[.pointer (some ⟨k1,U,none⟩),.slice ab lk.length ae,al,mv,am] 175 (0,0))]++Z∧I acc' E' Z):=CW.ofFn (caps:= [.pointer (some ⟨ag,ah,none⟩),.pointer (some ⟨aj,0,none⟩),.pointer (some ⟨ai,0,none⟩)]) (Ay func153 rfl) (Qz aF (aH.mono (K.trans O)) (aN.mono (K.trans O)) (aO.mono (K.trans O)) (Rp.mono _ (K.trans O) aw) (aP.mono (K.trans O)) (ay.mono (K.trans O)) ap (aB.mono O) (fun a5 a6 ac a7 a8 a9 c2 ba bb bc bd=>aR a5 a6 ac a7 a8 a9 c2 (((K.trans O)).trans ba) bb bc bd) _ _ _ _ _ _ aU _ _ _ _ (Le.refl _) Aq.nil (aF _ _ _ _ (K.trans O) aQ));refine JS.split (S':= [[(W,.cells #[.pointer (some ⟨k1,U,none⟩),.slice ab lk.length ae,iV age,.slice none 0 0,.int .u16 ((0:Nat):Int)] 175 (0,0))]++X]) (by simp) ak fun bf=>?_;refine JS.GZ 0 a4 rfl rfl rfl rfl rfl bf rfl ?_;rintro w bn _ bg ⟨bh,bi,bj,Z,rfl,rfl,bk⟩ bl;refine JL.done ?_;refine JL.fin (v:= .tuple #[]) rfl rfl (Bm.list func152 rfl (vs:= []) trivial) ?_;exact aV _ _ _ _ ((K.trans O).trans bg) rfl ⟨bh,bi,bj,Z,rfl,by simp,bk⟩ bl
end Pal
namespace Pal
open Go Go.Conc Go.Proofs
open Go.Proofs.Tryz
noncomputable def FQ:Code:=match Tryz.f127.body with | some (.seq _ (.seq _ (.seq (.seq _ (.block _ (.rangeFunc _ _ a _))) _)))=>a | _=> .skip
noncomputable def FT:Code:=match Tryz.f127.body with | some (.seq _ (.seq _ (.seq (.seq _ (.block _ (.rangeFunc _ _ _ b))) _)))=>b | _=> .skip
def add1(fuel:Nat)(age:Int)(q:Int×List (Int×(List Int)×Nat))(x:List Int×Nat):Option (Int×List (Int×(List Int)×Nat)):=
 (f130 fuel (age,x.1,x.2)).bind fun n=>F0 fuel q.1 q.2 (age,x.1,x.2) n
def EP(fuel:Nat)(age:Int)(ac:List (List Int×Nat)):Option (Int×List (Int×(List Int)×Nat)):=Dh (add1 fuel age) ac (0,[])
def IP(fuel:Nat)(age:Int)(l K O:Nat)(T:Array Value)(ac:List (List Int×Nat))(E:LH)(X:Seg):Prop:=
 ∃q a c g,EP fuel age ac=some q∧X=(l,.loop ⟨.ready,none,127,T,#[17],FQ,FT,O⟩)::([(K,.cells #[iV age,iV q.1,.slice a q.2.length c] 133 (0,0))]++g)∧OL 104 (rP rI (rP (rL rI) (rN .u16))) E a c g q.2
theorem IP.mono{fuel:Nat}{age:Int}{l K O:Nat}{T:Array Value}:∀(ac:List (List Int×Nat)) (E E':LH) (X:Seg),Le E E'→IP fuel age l K O T ac E X→IP fuel age l K O T ac E' X:=
 fun ac E E' X hle ⟨q,a,c,g,U,W,Z⟩=>⟨q,a,c,g,U,W,Z.mono hle⟩
theorem Lm{α B:Type}{step:B→α→Option B}:∀{l:List α} {x:α} {b:B},Dh step (l++ [x]) b=(Dh step l b).bind fun K=>step K x
 | [],x,b=>by simp [Dh]
 | y::l,x,b=>by
  simp only [List.cons_append,Dh]
  cases step b y with
  | none=>rfl
  | some K=>exact Lm
theorem MN{J:Judge Tryz.prog}{fuel:Nat}{age:Int}{l K W:Nat}{T:Array Value}(ak:Has Tryz.f127.ntmps [(6,.pointer (some ⟨K,0,none⟩))] T){E:LH}{X:Seg}{ac:List (List Int×Nat)}{ms:List Int}{fl:Nat}{O:Option Addr}{U:Nat}(ah:Aq rI E O U ms)(al:IP fuel age l K W T ac E X)(am:(EP fuel age (ac++ [(ms,fl)])).isSome=true):
  CW J (.func (.yield l) #[] #[]) [.agg #[iV age,.slice O ms.length U,.int .u16 ((fl:Nat):Int)]] E X (fun w E' an=>w= .bool true∧IP fuel age l K W T (ac++ [(ms,fl)]) E' an):=by
 obtain⟨q,a,c,g,ai,rfl,ao⟩:=al;obtain⟨r,he⟩:=Option.isSome_iff_exists.1 am;have aj:add1 fuel age q (ms,fl)=some r:=by
  have ab:=he;unfold EP at ab ai;rw [Lm,ai] at ab;exact ab
 refine CW.yield (i:=0) (t:=17) rfl rfl fun Q ap cs H ae aq=>?_;refine(?_:JL J Q (NM l 127) Tryz.f127.ntmps [(17,.agg #[iV age,.slice O ms.length U,.int .u16 ((fl:Nat):Int)]),(6,.pointer (some ⟨K,0,none⟩))] [] [.code FQ,.beginRound,.code FT] (ap::cs) _) _ (ak.put (d:=some 17) rfl _);refine JS.split (S':= [[(l,.loop ⟨.ready,none,127,T,#[17],FQ,FT,W⟩)],[(K,.cells #[iV age,iV q.1,.slice a q.2.length c] 133 (0,0))],g]) (by simp) ae fun ae=>?_;unfold add1 at aj;refine JL.region ?_;refine JS.alloc rfl rfl rfl ae (AM type104) fun ar au=>?_;refine JS.st (v:= .agg #[iV age,.slice O (ms).length U,.int .u16 ((fl:Nat):Int)]) (off:=0) 3 au (Ah type104) rfl rfl rfl rfl fun av=>?_;refine JS.Bf 3 av rfl fun aw Z aa ay=>?_;replace aa:At aw ar 0 [iV age,.slice O (ms).length U,.int .u16 ((fl:Nat):Int)]:=aa;refine JL.done ?_;refine JL.beginRound 0 rfl rfl ay rfl rfl fun az=>?_;refine JL.block ?_;refine JG.Di 4 mixed rfl (by decide+kernel) fun ht=>?_;refine JG.fd 0 ht underlying133 (Ah type97) rfl rfl rfl rfl ?_;refine JG.Bw 1 ht aa (Ao underlying104) (Ah type104) rfl rfl rfl ?_;refine JG.Bw 2 ht aa (Ao underlying104) (Ah type104) rfl rfl rfl ?_;obtain⟨aK,aA,aB⟩:=bs aj;refine JG.call (i:=3) (vs:= [.agg #[iV age,.slice O (ms).length U,.int .u16 ((fl:Nat):Int)]]) (Rx (p0:=(age,ms,fl)) (ah.mono Z) aA) (by decide+kernel) rfl rfl rfl (Ay func130 rfl) rfl az ?_;rintro _ aL _ ag ⟨rfl,rfl⟩ aC;refine Aw.leaf (tail:= [4]) (by decide+kernel) (fun t=>A3 (by decide+kernel) BL t) ?_;refine JS.split (S':= [[(l,.loop ⟨.busy,none,127,T,#[17],FQ,FT,W⟩)],[(K,.cells #[iV age,iV q.1,.slice a q.2.length c] 133 (0,0))]++g]) (by simp) aC fun aD=>?_;refine JS.Bv 1 (R5 ((ao.mono (Z.trans ag))) (tr:=(age,ms,fl)) (ah.mono (Z.trans ag)) aB) rfl rfl (Ay func122 rfl) aD rfl ?_;rintro _ aM _ aE ⟨aF,aG,g',rfl,rfl,aH⟩ aI;refine JL.go 2 rfl ?_;refine JL.endRound 0 rfl rfl aI rfl fun aJ=>?_;exact aq _ _ _ _ ((Z.trans ag).trans aE) rfl ⟨rfl,r,aF,aG,g',he,by simp,aH⟩ aJ
end Pal
namespace Pal
open Go Go.Conc Go.Proofs
open Go.Proofs.Tryz
open Go.Conc.Lib Go.ConcR.Gen
theorem LM{J:Judge Tryz.prog}{E:LH}{K:Nat}{age:Int}:Au J 129 [.pointer (some ⟨K,0,none⟩),iV age] E [] (fun w E' B'=>∃aa ab,w= .func (.func 152) #[] [.pointer (some ⟨aa,0,none⟩),.pointer (some ⟨ab,0,none⟩)].toArray∧B'= []∧At E' aa 0 [iV age]∧At E' ab 0 [.pointer (some ⟨K,0,none⟩)]):=by
 refine Au.en func129 rfl rfl fun Q ap cs H ag ah=>?_;refine JL.go 2 rfl ?_;refine JS.box (v:= .pointer (some ⟨K,0,none⟩)) rfl rfl rfl ag rfl fun O ai=>?_;refine JS.Bf 1 ai rfl fun aj ak U al=>?_;replace U:At aj O 0 [.pointer (some ⟨K,0,none⟩)]:=U;refine JS.box (v:=iV age) rfl rfl rfl al rfl fun W am=>?_;refine JS.Bf 2 am rfl fun an ae Z ao=>?_;replace Z:At an W 0 [iV age]:=Z;refine JL.go 4 rfl ?_;refine JL.Y (v:= .func (.func 152) #[] ([.pointer (some ⟨W,0,none⟩),.pointer (some ⟨O,0,none⟩)]:List Value).toArray) rfl (fun ρ h=>Yl.Gh (by simp) (by simp [h (.tmp 3) _ rfl,h (.tmp 2) _ rfl])) ?_;refine JL.go 2 rfl ?_;refine JL.rt func129 rfl rfl ?_;exact ah _ _ _ _ (ak.trans ae) rfl ⟨W,O,rfl,by simp,Z,(U.mono ae)⟩ ao
def Eg(fuel:Nat)(K:(List (List Int))×(List (List Int))×(List Nat))(lk:List (Int×Int))(age:Int):Option (Int×List (Int×(List Int)×Nat)):=
 (Gl fuel K lk age).bind fun s=>(F7 (fun ac=>(EP fuel age ac).isSome) fuel K lk age fuel s [] 0 []).bind fun tr=>EP fuel age tr
theorem P8{L:WgLink}(aA:WgLib Tryz.prog L)(a5:L.done=128){F:Fam}{j:Nat}{E:LH}{k1 O:Nat}{a6 a7 U:Option Addr}{a8 a9 W:Nat}{ba:List Value}{aj:(List (List Int))×(List (List Int))×(List Nat)}{lk:List (Int×Int)}{age:Int}(bb:At E k1 O (([.slice a6 (aj.1).length a8,.slice a7 (aj.2.1).length a9]:List Value)++ba))(bc:Aq (rL rI) E a6 a8 (aj.1))(bd:Aq (rL rI) E a7 a9 (aj.2.1))(bf:(rA 13 (rN .u16)).r E ba (aj.2.2))(bg:Aq (rP rI rI) E U W lk){aB aC aD ol ka ak kc ae:Nat}(bk:At E aB aC [.pointer (some ⟨k1,O,none⟩)])(bl:At E aD ol [.slice U lk.length W])(aG:At E ka ak [iV age])(bh:At E kc ae [.chan (some F.ch)])
  {fuel:Nat} {q:Int×List (Int×(List Int)×Nat)} (aE:Eg fuel aj lk age=some q) (aF:F.has j=decide (0<q.2.length)) (bi:∀E' a c,Le E E'→Aq (rP rI (rP (rL rI) (rN .u16))) E' a c q.2→F.msg j (.agg #[iV age,iV q.1,.slice a q.2.length c]) E'):
  Way Tryz.prog false (Stop Tryz.prog F (F.start j)) (born Tryz.prog ⟨.fn (.func 127) [.pointer (some F.sA),.pointer (some ⟨aB,aC,none⟩),.pointer (some ⟨aD,ol,none⟩),.pointer (some ⟨ka,ak,none⟩),.pointer (some ⟨kc,ae,none⟩)].toArray,#[]⟩) ⟨E,fun _=>none,false⟩:=by
 refine Me (fn:=Tryz.f127) (vs:= [.pointer (some F.sA),.pointer (some ⟨aB,aC,none⟩),.pointer (some ⟨aD,ol,none⟩),.pointer (some ⟨ka,ak,none⟩),.pointer (some ⟨kc,ae,none⟩)]) func127 rfl rfl (by simp) (Nat.le_of_ble_eq_true rfl) ?_;obtain⟨H,bm⟩:∃H:LH,H=fun _=>none:=⟨_,rfl⟩;rw [← bm];have bj:Az E H []:=trivial;refine(?_:JL (A1 Tryz.prog false) (Stop Tryz.prog F (F.start j)) (baseD 127) Tryz.f127.ntmps (DO 0 [.pointer (some F.sA),.pointer (some ⟨aB,aC,none⟩),.pointer (some ⟨aD,ol,none⟩),.pointer (some ⟨ka,ak,none⟩),.pointer (some ⟨kc,ae,none⟩)]) [] [.code _] [Fu Tryz.prog] (Ap E H []));refine JL.go 2 rfl ?_;refine JL.defer (vs:= [.pointer (some F.sA)]) rfl rfl rfl rfl rfl ?_;refine JL.go 2 rfl ?_;refine JG.Di 8 mixed rfl (by decide+kernel) fun ht=>?_;refine JG.ld 0 ht 0 bk (Ao underlying94) rfl rfl rfl rfl ?_;refine JG.ld 1 ht 0 bl (Ao underlying25) rfl rfl rfl rfl ?_;refine JG.V (v:= .agg #[.pointer (some ⟨k1,O,none⟩),.slice U (lk).length W,iV 0,.slice none 0 0,.int .u16 ((0:Nat):Int)]) 2 ht rfl rfl (fun ρ h s' hs=>Yl.BW [(0,1),(1,1),(2,3)] h (AM type175) underlying175 ⟨rfl,Ah type94,rfl,Ah type25,rfl,Ah type104,trivial⟩ rfl rfl) ?_;refine JG.ld 4 ht 0 aG (Ao underlying3) rfl rfl rfl rfl ?_;refine JG.V (v:= .agg #[iV age,iV 0,.slice none 0 0]) 5 ht rfl rfl (fun ρ h s' hs=>Yl.BW [(0,1),(1,2)] h (AM type133) underlying133 ⟨rfl,Ah type3,rfl,Ah type97,trivial⟩ rfl rfl) ?_;refine JG.two (i:=3) (j:=6) rfl (by decide+kernel) ?_ ?_
 ·refine Take.NX (v:= .agg #[.pointer (some ⟨k1,O,none⟩),.slice U (lk).length W,iV 0,.slice none 0 0,.int .u16 ((0:Nat):Int)]) bj rfl rfl rfl rfl fun al an=>?_;refine JG.one (i:=6) rfl (by decide+kernel) ?_;refine Take.Nn an rfl rfl rfl (AM type133) fun ag ao=>?_;refine JG.mv 7 ht rfl rfl ?_;refine Aw.leaf (tail:= [8]) (by decide+kernel) (fun t=>A3 (by decide+kernel) BL t) ?_;refine JS.norm (S':= [[(al,.cells #[.pointer (some ⟨k1,O,none⟩),.slice U (lk).length W,iV 0,.slice none 0 0,.int .u16 ((0:Nat):Int)] 175 (0,0))],[(ag,.cells #[iV 0,iV 0,.slice none 0 0] 133 (0,0))]]) rfl ao fun ap=>?_;refine JS.st (v:= .agg #[iV age,iV 0,.slice none 0 0]) (off:=0) 1 ap (Ah type133) rfl rfl rfl rfl fun ab=>?_;refine JL.go 3 rfl ?_;refine JS.norm (S':= [[(al,.cells #[.pointer (some ⟨k1,O,none⟩),.slice U lk.length W,iV 0,.slice none 0 0,.int .u16 ((0:Nat):Int)] 175 (0,0))],[(ag,.cells #[iV age,iV 0,.slice none 0 0] 133 (0,0))]]) rfl ab fun aH=>?_;refine JL.wk [(3,.pointer (some ⟨ka,ak,none⟩)),(4,.pointer (some ⟨kc,ae,none⟩)),(5,.pointer (some ⟨al,0,none⟩)),(6,.pointer (some ⟨ag,0,none⟩))] rfl ?_;have aq:Le E E:=(Le.refl _);refine JL.go 2 rfl ?_;refine JL.ld 0 (aG.mono aq) (Ao underlying3) rfl rfl rfl ?_;refine JS.cl LM rfl rfl (Ay func129 rfl) aH ?_;rintro _ bn _ aI ⟨ar,au,rfl,rfl,aJ,aK⟩ an;have Z:=aq.trans aI;refine JL.go 2 rfl ?_;refine JS.split (S':= [[(al,.cells #[.pointer (some ⟨k1,O,none⟩),.slice U lk.length W,iV 0,.slice none 0 0,.int .u16 ((0:Nat):Int)] 175 (0,0))],[(ag,.cells #[iV age,iV 0,.slice none 0 0] 133 (0,0))]]) (by simp) an fun aL=>?_;refine JL.rangeFunc (caps:= [.pointer (some ⟨ar,0,none⟩),.pointer (some ⟨au,0,none⟩)]) rfl (by intro e;cases e) rfl (Ay func152 rfl) aL fun aa l T av aM=>?_;refine JZ (S':= [[(al,.cells #[.pointer (some ⟨k1,O,none⟩),.slice U lk.length W,iV 0,.slice none 0 0,.int .u16 ((0:Nat):Int)] 175 (0,0))]++([(l,.loop ⟨.ready,none,127,T,#[17],FQ,FT,aa⟩)]++ [(ag,.cells #[iV age,iV 0,.slice none 0 0] 133 (0,0))]),[(aa,.deferred (some []))]]) Nu aM fun ao=>?_;unfold Eg at aE;obtain⟨bo,aN,aO⟩:=Option.bind_eq_some_iff.1 aE;obtain⟨tr,aP,aQ⟩:=Option.bind_eq_some_iff.1 aO;refine Mi (vs:= [.func (.yield l) #[] #[],.pointer (some ⟨ar,0,none⟩),.pointer (some ⟨au,0,none⟩)]) 0 (LV (I:=IP fuel age l ag aa T) (ok:=fun ac=>(EP fuel age ac).isSome) (acc:= []) IP.mono (bb.mono Z) (bc.mono Z) (bd.mono Z) (Rp.mono _ Z bf) (bg.mono Z) aK aJ ⟨(0,[]),none,0,[],rfl,rfl,OL.nil⟩ (fun E' aR ac bp bq a c hle aS aT aU=>MN (av.sub ⟨rfl,trivial⟩) aS aT aU) aN aP) ao rfl ?_;rintro _ br _ aV ⟨aW,mv,aX,aR,rfl,rfl,K,a,c,g,aY,rfl,aZ⟩ a0;obtain rfl:K=q:=Option.some.inj (aY.symm.trans aQ);refine Mj (S':= [[(al,.cells #[.pointer (some ⟨k1,O,none⟩),.slice U lk.length W,aW,mv,aX] 175 (0,0))],[(l,.loop ⟨.ready,none,127,T,#[17],FQ,FT,aa⟩)],[(ag,.cells #[iV age,iV K.1,.slice a K.2.length c] 133 (0,0))],g,[(aa,.deferred (some []))]]) (by simp) a0 fun ap=>?_;refine La 1 ap rfl rfl rfl fun ab=>?_;refine(?_:JL (A1 Tryz.prog false) (Stop Tryz.prog F (F.start j)) (baseD 127) Tryz.f127.ntmps [(4,.pointer (some ⟨kc,ae,none⟩)),(6,.pointer (some ⟨ag,0,none⟩))] [⟨.collected aa,#[]⟩,dcall 128 #[.pointer (some F.sA)]] _ [Fu Tryz.prog] _) T (av.sub ⟨rfl,rfl,trivial⟩);have aw:=Z.trans aV;have a1:dcall 128 #[.pointer (some F.sA)]=dcall L.done #[.pointer (some F.sA)]:=by rw [a5]
  rw [a1];refine JL.go 3 rfl ?_;refine JL.fd underlying133 (Ah type97) rfl rfl rfl ?_;refine JL.fd underlying97 (Ah type95) rfl rfl rfl ?_;refine JL.Y (v:= .slice a K.2.length c) rfl (fun ρ h=>Yl.load (Ao underlying95) (h _ _ rfl) (Cs (j:=2) (off:=2) ab rfl rfl)) ?_;refine JL.Y rfl (fun ρ h=>Yl.len rfl underlying95 (h _ _ rfl)) ?_;refine JL.go 2 rfl ?_;refine JL.ifs (p:=0<((K.2).length:Int)) rfl (fun a2=>?_) (fun a2=>?_)
  ·have ai:F.start j= .Bz j:=by unfold Fam.start;rw [aF,decide_eq_true (show 0<K.2.length by omega)];rfl
   rw [ai];refine JL.region ?_;refine JL.ld 0 (bh.mono aw) (Ao underlying162) rfl rfl rfl ?_;refine JS.BC 3 aZ ab rfl fun bu a3 a4 ay=>?_;refine JL.Y rfl (fun ρ h=>Yl.Bj (vs:= [iV age,iV K.1,.slice a K.2.length c]) (Ao underlying133) (Ah type133) (h _ _ rfl) (Dv (off:=0) 2 ay rfl rfl)) ?_;refine JL.NV rfl rfl rfl rfl rfl rfl rfl (bi _ _ _ (aw.trans a3) a4) ?_;refine JL.done ?_;exact JL.out rfl (JO.collected 4 rfl ay rfl fun az=>JO.IY aA rfl rfl (JO.leaveD rfl func127 rfl (.inr rfl) Hd))
  ·have ai:F.start j= .BQ:=by unfold Fam.start;rw [aF,decide_eq_false (show ¬0<K.2.length by omega)];rfl
   rw [ai];refine JL.skip ?_;exact JL.out rfl (JO.collected 4 rfl ab rfl fun az=>JO.IY aA rfl rfl (JO.leaveD rfl func127 rfl (.inr rfl) Hd))
 ·refine Take.Nn bj rfl rfl rfl (AM type133) fun ah az=>?_;refine JG.one (i:=3) rfl (by decide+kernel) ?_;refine Take.NX (v:= .agg #[.pointer (some ⟨k1,O,none⟩),.slice U (lk).length W,iV 0,.slice none 0 0,.int .u16 ((0:Nat):Int)]) az rfl rfl rfl rfl fun am bv=>?_;refine JG.mv 7 ht rfl rfl ?_;refine Aw.leaf (tail:= [8]) (by decide+kernel) (fun t=>A3 (by decide+kernel) BL t) ?_;refine JS.norm (S':= [[(ah,.cells #[iV 0,iV 0,.slice none 0 0] 133 (0,0))],[(am,.cells #[.pointer (some ⟨k1,O,none⟩),.slice U (lk).length W,iV 0,.slice none 0 0,.int .u16 ((0:Nat):Int)] 175 (0,0))]]) rfl bv fun bw=>?_;refine JS.st (v:= .agg #[iV age,iV 0,.slice none 0 0]) (off:=0) 0 bw (Ah type133) rfl rfl rfl rfl fun bx=>?_;refine JL.go 3 rfl ?_;refine JS.perm (S':= [[(am,.cells #[.pointer (some ⟨k1,O,none⟩),.slice U lk.length W,iV 0,.slice none 0 0,.int .u16 ((0:Nat):Int)] 175 (0,0))],[(ah,.cells #[iV age,iV 0,.slice none 0 0] 133 (0,0))]]) (List.Perm.swap _ _ _) bx fun aH=>?_;refine JL.wk [(3,.pointer (some ⟨ka,ak,none⟩)),(4,.pointer (some ⟨kc,ae,none⟩)),(5,.pointer (some ⟨am,0,none⟩)),(6,.pointer (some ⟨ah,0,none⟩))] rfl ?_;have aq:Le E E:=(Le.refl _);refine JL.go 2 rfl ?_;refine JL.ld 0 (aG.mono aq) (Ao underlying3) rfl rfl rfl ?_;refine JS.cl LM rfl rfl (Ay func129 rfl) aH ?_;rintro _ bn _ aI ⟨ar,au,rfl,rfl,aJ,aK⟩ an;have Z:=aq.trans aI;refine JL.go 2 rfl ?_;refine JS.split (S':= [[(am,.cells #[.pointer (some ⟨k1,O,none⟩),.slice U lk.length W,iV 0,.slice none 0 0,.int .u16 ((0:Nat):Int)] 175 (0,0))],[(ah,.cells #[iV age,iV 0,.slice none 0 0] 133 (0,0))]]) (by simp) an fun aL=>?_;refine JL.rangeFunc (caps:= [.pointer (some ⟨ar,0,none⟩),.pointer (some ⟨au,0,none⟩)]) rfl (by intro e;cases e) rfl (Ay func152 rfl) aL fun aa l T av aM=>?_;refine JZ (S':= [[(am,.cells #[.pointer (some ⟨k1,O,none⟩),.slice U lk.length W,iV 0,.slice none 0 0,.int .u16 ((0:Nat):Int)] 175 (0,0))]++([(l,.loop ⟨.ready,none,127,T,#[17],FQ,FT,aa⟩)]++ [(ah,.cells #[iV age,iV 0,.slice none 0 0] 133 (0,0))]),[(aa,.deferred (some []))]]) Nu aM fun ao=>?_;unfold Eg at aE;obtain⟨bo,aN,aO⟩:=Option.bind_eq_some_iff.1 aE;obtain⟨tr,aP,aQ⟩:=Option.bind_eq_some_iff.1 aO;refine Mi (vs:= [.func (.yield l) #[] #[],.pointer (some ⟨ar,0,none⟩),.pointer (some ⟨au,0,none⟩)]) 0 (LV (I:=IP fuel age l ah aa T) (ok:=fun ac=>(EP fuel age ac).isSome) (acc:= []) IP.mono (bb.mono Z) (bc.mono Z) (bd.mono Z) (Rp.mono _ Z bf) (bg.mono Z) aK aJ ⟨(0,[]),none,0,[],rfl,rfl,OL.nil⟩ (fun E' aR ac bp bq a c hle aS aT aU=>MN (av.sub ⟨rfl,trivial⟩) aS aT aU) aN aP) ao rfl ?_;rintro _ br _ aV ⟨aW,mv,aX,aR,rfl,rfl,K,a,c,g,aY,rfl,aZ⟩ a0;obtain rfl:K=q:=Option.some.inj (aY.symm.trans aQ);refine Mj (S':= [[(am,.cells #[.pointer (some ⟨k1,O,none⟩),.slice U lk.length W,aW,mv,aX] 175 (0,0))],[(l,.loop ⟨.ready,none,127,T,#[17],FQ,FT,aa⟩)],[(ah,.cells #[iV age,iV K.1,.slice a K.2.length c] 133 (0,0))],g,[(aa,.deferred (some []))]]) (by simp) a0 fun ap=>?_;refine La 1 ap rfl rfl rfl fun ab=>?_;refine(?_:JL (A1 Tryz.prog false) (Stop Tryz.prog F (F.start j)) (baseD 127) Tryz.f127.ntmps [(4,.pointer (some ⟨kc,ae,none⟩)),(6,.pointer (some ⟨ah,0,none⟩))] [⟨.collected aa,#[]⟩,dcall 128 #[.pointer (some F.sA)]] _ [Fu Tryz.prog] _) T (av.sub ⟨rfl,rfl,trivial⟩);have aw:=Z.trans aV;have a1:dcall 128 #[.pointer (some F.sA)]=dcall L.done #[.pointer (some F.sA)]:=by rw [a5]
  rw [a1];refine JL.go 3 rfl ?_;refine JL.fd underlying133 (Ah type97) rfl rfl rfl ?_;refine JL.fd underlying97 (Ah type95) rfl rfl rfl ?_;refine JL.Y (v:= .slice a K.2.length c) rfl (fun ρ h=>Yl.load (Ao underlying95) (h _ _ rfl) (Cs (j:=2) (off:=2) ab rfl rfl)) ?_;refine JL.Y rfl (fun ρ h=>Yl.len rfl underlying95 (h _ _ rfl)) ?_;refine JL.go 2 rfl ?_;refine JL.ifs (p:=0<((K.2).length:Int)) rfl (fun a2=>?_) (fun a2=>?_)
  ·have ai:F.start j= .Bz j:=by unfold Fam.start;rw [aF,decide_eq_true (show 0<K.2.length by omega)];rfl
   rw [ai];refine JL.region ?_;refine JL.ld 0 (bh.mono aw) (Ao underlying162) rfl rfl rfl ?_;refine JS.BC 3 aZ ab rfl fun bu a3 a4 ay=>?_;refine JL.Y rfl (fun ρ h=>Yl.Bj (vs:= [iV age,iV K.1,.slice a K.2.length c]) (Ao underlying133) (Ah type133) (h _ _ rfl) (Dv (off:=0) 2 ay rfl rfl)) ?_;refine JL.NV rfl rfl rfl rfl rfl rfl rfl (bi _ _ _ (aw.trans a3) a4) ?_;refine JL.done ?_;exact JL.out rfl (JO.collected 4 rfl ay rfl fun az=>JO.IY aA rfl rfl (JO.leaveD rfl func127 rfl (.inr rfl) Hd))
  ·have ai:F.start j= .BQ:=by unfold Fam.start;rw [aF,decide_eq_false (show ¬0<K.2.length by omega)];rfl
   rw [ai];refine JL.skip ?_;exact JL.out rfl (JO.collected 4 rfl ab rfl fun az=>JO.IY aA rfl rfl (JO.leaveD rfl func127 rfl (.inr rfl) Hd))
end Pal
