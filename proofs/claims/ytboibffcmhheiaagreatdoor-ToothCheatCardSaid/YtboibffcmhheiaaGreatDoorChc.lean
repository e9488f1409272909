/- ToothCheat answers true for every list of numbers, on every schedule; without a condition beyond those of the given row and card. Part 3 of 8. -/
import Derived.Test.YtboibffcmhheiaaGreatDoorCha
import Derived.Test.YtboibffcmhheiaaGreatDoorChb
import Derived.Test.YtboibffcmhheiaaGreatDoorRows
import Derived.Test.YtboibffcmhheiaaGreatDoorChecked
import Derived.Conc.LeavingOf
import Derived.Conc.Holds
import Derived.Carry
import Derived.ChangeSame
import Derived.ChangeVars
import Derived.JoinedOf
import Derived.RowKit
import Derived.LaidLaws
import Derived.LaidHandle
import Derived.Stop.Joined
import Derived.Test.YtboibffcmhheiaaGreatDoorProg
set_option linter.all false
set_option maxRecDepth 100000
namespace Pal
open Go Go.Conc
section
variable {P:Program}(J:Judge P)(Q:Goroutine→St→Prop)(b:Frame)(ds:List Deferred)(ops:Array Oper)(k:List Item)(cs:List Frame)(X D:Nat→Bool)
def JB:Nat→Array Bool→Array Value→St→Prop
 | 0,listed,T,s=>Region.ready .any ops listed= []∧J.ok Q (G (fr b T ds (.inRegion ops []::k)) cs) s
 | fuel+1,listed,T,s=>
  Region.ready .any ops listed≠ []∧s.q=false∧∀i∈Region.ready .any ops listed,∀o,ops[i]? =some o→(∀c,o.op≠ .defer c)∧
   (Region.wanted o (yielded ops T)=false→JB fuel (AW listed i) (BB T o.dst undef) s)∧
   (Region.wanted o (yielded ops T)=true→X i=true→lp P (execOp (A9 T) o) s (fun nx s'=>match nx with
    | .value v=>JB fuel (AW listed i) (BB T o.dst v) s'
    | .skip=>JB fuel (AW listed i) (BB T o.dst undef) s'
    | _=>False) (fun _ _=>False))∧
   (Region.wanted o (yielded ops T)=true→X i=false→lp P (execOp (A9 T) o) (A8 D s) (fun nx s'=>match nx with
    | .value v=>JB fuel (AW listed i) (BB T o.dst v) (Bx D s s')
    | .skip=>JB fuel (AW listed i) (BB T o.dst undef) (Bx D s s')
    | _=>False) (fun _ _=>False))
variable {J Q b ds ops k cs X D}
theorem JB.sound(U:b.kind≠ .early):∀(fuel t:Nat) (listed:Array Bool) (T:Array Value) (s:St),JB J Q b ds ops k cs X D fuel listed T s→
  J.ok Q (G (fr b T ds (.inRegion ops (Region.linearise.go .any ops fuel t listed [])::k)) cs) s:=by
 intro fuel
 induction fuel with
 | zero=>intro t listed T s h;simpa [Region.linearise.go] using h.2
 | succ fuel K=>
  intro t listed T s h;obtain⟨ab,ac,h⟩:=h;obtain⟨i,hi⟩:∃i,(Region.ready .any ops listed)[t % (Region.ready .any ops listed).length]? =some i:=by
   have:0<(Region.ready .any ops listed).length:=List.length_pos_iff.2 ab;exact⟨_,List.getElem?_eq_getElem (Nat.mod_lt _ this)⟩
  have W:=List.mem_of_getElem? hi;have hgo:Region.linearise.go .any ops (fuel+1) t listed []=i::Region.linearise.go .any ops fuel (t / (Region.ready .any ops listed).length) (AW listed i) []:=by
   simp only [Region.linearise.go];change (match(Region.ready .any ops listed)[t % (Region.ready .any ops listed).length]? with
    | some i=>Region.linearise.go .any ops fuel (t / (Region.ready .any ops listed).length) (listed.setIfInBounds i true) [i]
    | none=> [].reverse)=_
   rw [hi];simp only;rw [linearise_go_acc];rfl
  rw [hgo];obtain⟨_,o,O,_⟩:=mem_ready.1 W;obtain⟨Z,ae,ag,ah⟩:=h i W o O;cases hw:Region.wanted o (yielded ops T) with
  | false=>exact Judge.unwanted O hw (K _ _ _ _ (ae hw))
  | true=>
   cases aa:X i with
   | true=>
    refine Judge.oper O hw U (.inr Z) (BV _ (ag hw aa) ?_ (fun _ _ h=>h.elim));intro nx s' A;cases nx with
    | value v=>exact K _ _ _ _ A
    | skip=>exact K _ _ _ _ A
    | _=>exact A.elim
   | false=>
    refine Judge.LR D O hw U Z ac (BV _ (ah hw aa) ?_ (fun _ _ h=>h));intro nx s' A;cases nx with
    | value v=>exact K _ _ _ _ A
    | skip=>exact K _ _ _ _ A
    | _=>exact A.elim
def waitAll(ops:Array Oper)(X:Nat→Bool)(i:Nat):Bool:=(List.range ops.size).all fun j=> !X j || waits ops ops.size j i
theorem JB.take{i:Nat}{oi:Oper}{w pure:Bool}{v:Value}(hi:ops[i]? =some oi)(aU:X i=false)(aL:(pure || waitAll ops X i)=true)(aV:Region.noSelect ops=true)(aW:∀c,oi.op≠ .defer c):
  ∀(fuel:Nat) (listed:Array Bool) (T:Array Value) (s:St),ET ops listed i oi=true→D9 ops listed=true→listed.size=ops.size→i∈Region.ready .any ops listed→s.q=false→Region.wanted oi (yielded ops T)=w→
   (w=true→∀s',s'.q=false→(pure=false→∀x o,(A8 D s).E x=some o→s'.E x=some o)→Yl P oi (A9 T) s' v)→
   JB J Q b ds ops k cs X D fuel (AW listed i) (BB T oi.dst (if w then v else undef)) s→JB J Q b ds ops k cs X D (fuel+1) listed T s:=by
 have ab:∀(j:Nat) (W:Oper),ops[j]? =some W→∀cs b,W.op≠Op.select cs b:=fun j W h cs b=>Region.noSelect_spec aV j W cs b h;intro fuel
 induction fuel with
 | zero=>?_
 | succ fuel ai=>?_
 all_goals
  intro listed T s aM aN aj az ak hw ac h;refine⟨fun e=>(by rw [e] at az;cases az),ak,fun j aO W K=>?_⟩;by_cases al:j=i
  ·subst al;obtain rfl:W=oi:=by rw [hi] at K;exact(Option.some.inj K).symm
   refine⟨aW,fun aC=>?_,fun ae A=>?_,fun ae A=>?_⟩
   ·rw [aC] at hw;subst hw;exact h
   ·rw [aU] at A;cases A
   ·rw [ae] at hw;subst hw;refine BV _ (ac rfl (A8 D s) ak fun _ _ _ h=>h).out ?_ (fun _ _ h=>h);rintro nx s' ⟨rfl,rfl⟩;rw [GM];exact h
  ·
   have aP:j∈Region.ready .any ops (AW listed i):=ready_mono aO al;obtain⟨ag,O,aQ,aD⟩:=mem_ready.1 aO;obtain rfl:O=W:=by rw [K] at aQ;exact(Option.some.inj aQ).symm
   have aE:=(mem_ready.1 az).1;have aX:(O.after.any fun e=>Region.binds .any e&&e.on==i)=false:=by
    rw [Array.any_eq_false];intro e he A;simp only [Bool.and_eq_true,beq_iff_eq] at A;have:=aD _ (Array.getElem_mem he) A.1;rw [A.2] at this;have ah:listed.getD i true=listed.getD i false∨listed.size≤i:=by
     rcases Nat.lt_or_ge i listed.size with q | q
     ·left;simp [Array.getD_eq_getD_getElem?,q]
     ·exact .inr q
    rcases ah with ah | ah
    ·rw [aE,this] at ah;cases ah
    ·rw [Array.getD_eq_getD_getElem?,Array.getElem?_eq_none ah] at this;simp at this
   have aY:oi.apart ops O=true:=by
    have aF:j<ops.size:=(Array.getElem?_eq_some_iff.1 K).1;have:=List.all_eq_true.1 aM j (List.mem_range.2 aF);simp only [Bool.or_eq_true,beq_iff_eq] at this;rcases this with(q | q) | q
    ·exact absurd q al
    ·rw [ag] at q;cases q
    ·rw [K] at q;simp only [Bool.or_eq_true] at q;rw [aX] at q;exact q.resolve_left (by simp)
   obtain⟨aZ,am,an⟩:=Oper.apart_spec aY;obtain⟨p1,p2⟩:=D6 (ops:=ops) (T:=T) (v:=if w then v else undef) (ab j O K) aZ
   first
    | exact absurd aP (by rw [h.1];simp)
    | (
     obtain⟨ba,_,h⟩:=h
     obtain⟨a0,aC,a1,a2⟩:=h j aP O K
     have ao:AW (AW listed i) j=AW (AW listed j) i:=by
      unfold AW;exact Array.setIfInBounds_comm _ _ (Ne.symm al)
     have ap:i∈Region.ready .any ops (AW listed j):=ready_mono az (Ne.symm al)
     have aq:ET ops (AW listed j) i oi=true:=by
      refine List.all_eq_true.2 fun x A=>?_
      have:=List.all_eq_true.1 aM x A
      simp only [Bool.or_eq_true,beq_iff_eq] at this ⊢
      rcases this with(q | q) | q
      ·exact .inl (.inl q)
      ·left;right
       by_cases e:j=x
       ·subst e;rw [ag] at q;cases q
       ·rw [AW,getD_set_ne true e];exact q
      ·exact .inr q
     have ar:(AW listed j).size=ops.size:=by unfold AW;simpa using aj
     have au:D9 ops (AW listed j)=true:=by
      refine List.all_eq_true.2 fun x A=>?_
      cases aG:ops[x]? with
      | none=>simp
      | some a3=>
       simp only [Bool.or_eq_true,Bool.not_eq_true']
       by_cases e:j=x
       ·subst e
        obtain rfl:a3=O:=by rw [K] at aG;exact(Option.some.inj aG).symm
        right
        refine Array.all_eq_true'.2 fun e he=>?_
        cases hb:Region.binds .any e with
        | false=>simp
        | true=>
         have:=aD e he hb
         by_cases av:j=e.on
         ·rw [← av] at this
          have aH:j<listed.size:=by rw [aj];exact(Array.getElem?_eq_some_iff.1 K).1
          simp [Array.getD_eq_getD_getElem?,aH] at this ag
          rw [ag] at this;cases this
         ·rw [AW,getD_set_ne false av];simpa using this
       ·cases aR:(AW listed j).getD x false with
        | false=>exact .inl rfl
        | true=>
         right
         have a4:listed.getD x false=true:=by rw [AW,getD_set_ne false e] at aR;exact aR
         refine Array.all_eq_true'.2 fun aI he=>?_
         cases hb:Region.binds .any aI with
         | false=>simp
         | true=>
          have:=ID aN aG a4 aI he hb
          by_cases av:j=aI.on
          ·rw [← av] at this
           have aH:j<listed.size:=by rw [aj];exact(Array.getElem?_eq_some_iff.1 K).1
           simp [Array.getD_eq_getD_getElem?,aH] at this ag
           rw [ag] at this;cases this
          ·rw [AW,getD_set_ne false av];simpa using this
     refine⟨a0,fun a5=>?_,fun aJ aA=>?_,fun aJ aA=>?_⟩
     ·have:=aC (by rw [p2];exact a5)
      rw [ao,EL am] at this
      obtain⟨q1,q2⟩:=D6 (ops:=ops) (T:=T) (d:=O.dst) (v:=undef) (o:=oi) (ab i oi hi) an
      exact ai _ _ _ aq au ar ap ak (by rw [q2];exact hw) (fun U s' a6 aB=>by unfold Yl;rw [q1];exact(ac U s' a6 aB).out) this
     ·
      have a7:pure=true:=by
       cases a8:pure with
       | true=>rfl
       | false=>
        exfalso
        rw [a8,Bool.false_or] at aL
        have aF:j<ops.size:=(Array.getElem?_eq_some_iff.1 K).1
        have ae:=List.all_eq_true.1 aL j (List.mem_range.2 aF)
        rw [aA] at ae
        simp only [Bool.not_true,Bool.false_or] at ae
        rcases J8 aN _ j O K (fun e he hb=>aD e he hb) ae with q | ⟨x,q1,q2⟩
        ·have a9:i<listed.size:=by rw [aj];exact(Array.getElem?_eq_some_iff.1 hi).1
         simp [Array.getD_eq_getD_getElem?,a9] at q aE
         rw [aE] at q;cases q
        ·have:¬x<listed.size:=by rw [aj];intro A;simp [A] at q1
         simp [Array.getD_eq_getD_getElem?,this] at q2
      have aw:=Io _ (a1 (by rw [p2];exact aJ) aA)
      rw [p1] at aw
      refine BV _ aw ?_ (fun _ _ h=>h)
      rintro nx s' ⟨A,aB,aK⟩
      have ay:s'.q=false:=aK.trans ak
      have aS:pure=false→∀{α:Prop},α:=fun e=>by rw [a7] at e;cases e
      cases nx with
      | value u=>
       simp only at A ⊢
       rw [ao,EL am] at A
       obtain⟨q1,q2⟩:=D6 (ops:=ops) (T:=T) (d:=O.dst) (v:=u) (o:=oi) (ab i oi hi) an
       exact ai _ _ _ aq au ar ap ay (by rw [q2];exact hw) (fun U s2 Z aa=>by unfold Yl;rw [q1];exact(ac U s2 Z (fun e=>aS e)).out) A
      | skip=>
       simp only at A ⊢
       rw [ao,EL am] at A
       obtain⟨q1,q2⟩:=D6 (ops:=ops) (T:=T) (d:=O.dst) (v:=undef) (o:=oi) (ab i oi hi) an
       exact ai _ _ _ aq au ar ap ay (by rw [q2];exact hw) (fun U s2 Z aa=>by unfold Yl;rw [q1];exact(ac U s2 Z (fun e=>aS e)).out) A
      | _=>exact A.elim
     ·have aw:=Io _ (a2 (by rw [p2];exact aJ) aA)
      rw [p1] at aw
      refine BV _ aw ?_ (fun _ _ h=>h)
      rintro nx s' ⟨A,aB,aK⟩
      have aT:=Kc (D:=D) aB
      have ay:(Bx D s s').q=false:=by show s'.q=false;rw [aK];exact ak
      cases nx with
      | value u=>
       simp only at A ⊢
       rw [ao,EL am] at A
       obtain⟨q1,q2⟩:=D6 (ops:=ops) (T:=T) (d:=O.dst) (v:=u) (o:=oi) (ab i oi hi) an
       exact ai _ _ _ aq au ar ap ay (by rw [q2];exact hw) (fun U s2 Z aa=>by unfold Yl;rw [q1];exact(ac U s2 Z (fun e=>by rw [aT] at aa;exact aa e)).out) A
      | skip=>
       simp only at A ⊢
       rw [ao,EL am] at A
       obtain⟨q1,q2⟩:=D6 (ops:=ops) (T:=T) (d:=O.dst) (v:=undef) (o:=oi) (ab i oi hi) an
       exact ai _ _ _ aq au ar ap ay (by rw [q2];exact hw) (fun U s2 Z aa=>by unfold Yl;rw [q1];exact(ac U s2 Z (fun e=>by rw [aT] at aa;exact aa e)).out) A
      | _=>exact A.elim)
end
section
variable {P:Program}(J:Judge P)(Q:Goroutine→St→Prop)(b:Frame)(n:Nat)(ds:List Deferred)(ops:Array Oper)(k:List Item)(cs:List Frame)(X D:Nat→Bool)
def EH(fuel:Nat)(listed:Array Bool)(L:Env)(s:St):Prop:=∀T,Has n L T→JB J Q b ds ops k cs X D fuel listed T s
end
def Iq(ops:Array Oper)(listed:Array Bool)(xs:List Nat)(pure:Bool)(i:Nat):Bool:=match ops[i]? with
 | some oi=> !AD xs i&&(pure || waitAll ops (AD xs) i)&&Region.noSelect ops&& !B7 oi.op&&ET ops listed i oi&&D9 ops listed&&listed.size==ops.size&&(Region.ready .any ops listed).contains i
 | none=>false
section
variable {P:Program}{J:Judge P}{Q:Goroutine→St→Prop}{b:Frame}{n:Nat}{ds:List Deferred}{ops:Array Oper}{k:List Item}{cs:List Frame}{fuel:Nat}{X D:Nat→Bool}{listed:Array Bool}{L:Env}{s:St}{E H:LH}{S:List Seg}{xl bks:List Nat}
variable {d:Option Tmp}{x y:Operand}{t u ty e:TypeId}{p:String}{af:Array Edge}{g:Option (Nat×Bool)}{v:Value}{i:Nat}{kd:IntKind}
theorem JB.draw(xl bks:List Nat){id:Nat}(hm:P.follows .mixedOrders=true)(A:(b.kind != .early)=true)
  (h:EH J Q b n ds ops k cs (AD xl) (AD bks) ops.size (Array.replicate ops.size false) L (Ap E H S)):JL J Q b n L ds (.code (.region id ops true)::k) cs (Ap E H S):=
 JL.draw rfl hm fun t T K=>JB.sound (by simpa using A) ops.size t _ T _ (h T K)
theorem JB.val{oi:Oper}(i:Nat)(pure:Bool)(hi:ops[i]? =some oi)(A:Iq ops listed xl pure i=true)(U:s.q=false)
  (hw:AS L ops oi=some true) (W:A2 n oi.dst=true) (Z:∀ρ,Cw L ρ→∀s':St,(pure=false→∀x o,(A8 D s).E x=some o→s'.E x=some o)→Yl P oi ρ s' v)
  (h:EH J Q b n ds ops k cs (AD xl) D fuel (AW listed i) (AH L oi.dst v) s):EH J Q b n ds ops k cs (AD xl) D (fuel+1) listed L s:=fun T K=>by
 simp only [Iq,hi,Bool.and_eq_true] at A
 obtain⟨⟨⟨⟨⟨⟨⟨aa,ab⟩,ac⟩,O⟩,ae⟩,ag⟩,ah⟩,ai⟩:=A
 refine JB.take (w:=true) (v:=v) (pure:=pure) hi (by simpa using aa) ab ac (fun c A=>by rw [A] at O;simp [B7] at O) fuel listed T s ae ag (by simpa using ah) (by simpa using ai) U (BM K hw) (fun _ s' ak aj=>Z _ K.Dr s' aj) ?_
 exact h _ (K.put W v)
theorem JB.fin(A:Region.ready .any ops listed= [])(h:JL J Q b n L ds k cs s):EH J Q b n ds ops k cs X D 0 listed L s:=fun T K=>⟨A,JL.done h T K⟩
theorem JB.store{A off:Nat}{c:Array Value}(i j:Nat)(U:Region.ready .any ops listed= [i])(ab:AD xl i=true)(ac:ops[i]? =some ⟨d,.store t x y,ty,p,af,g⟩)(hw:AS L ops ⟨d,.store t x y,ty,p,af,g⟩=some true)(ae:A2 n d=true)(ag:Az E H S)
  (ah:ev L x=some (.pointer (some ⟨A,off,none⟩))) (ai:ev L y=some v) (aj:Bf P t=some v.cells.size) (ak:∀u∈v.cells.toList,Bs u=true) (W:S[j]? =some [(A,.cells c e (0,0))]) (hle:off+v.cells.size≤c.size)
  (h:Az E H (S.set j [(A,.cells (AL c off v.cells.toList) e (0,0))])→EH J Q b n ds ops k cs (AD xl) D fuel (AW listed i) (AH L d undef) (Ap E H (S.set j [(A,.cells (AL c off v.cells.toList) e (0,0))]))):
  EH J Q b n ds ops k cs (AD xl) D (fuel+1) listed L (Ap E H S):=fun T K=>by
 refine⟨by rw [U];simp,rfl,fun au O o' Z=>?_⟩
 rw [U] at O
 simp at O
 subst O
 obtain rfl:o'=⟨d,.store t x y,ty,p,af,g⟩:=by rw [ac] at Z;exact(Option.some.inj Z).symm
 have al:=BM K hw;refine⟨fun c am=>(by cases am),fun e=>?_,fun _ _=>?_,fun _ e=>?_⟩
 ·rw [al] at e;cases e
 ·obtain⟨an,ao⟩:=DR ag W;rw [an];show lp P (do Instr.storeAt t (A9 T x) (A9 T y);pure Next.skip) _ _ _
  rw [K.ev ah,K.ev ai];refine AF _ _ ?_;unfold Instr.storeAt;simp only [Instr.sureAddr,bind,Sem.bind,pure];refine J9 (pl:=(S.set j []).flatten.length) aj ak ao (c:=c) (e:=e) (by simp) hle fun aa=>?_;have ap:((S.set j []).flatten++ [(A,Obj.cells c e (0,0))]).set (S.set j []).flatten.length (A,.cells (AL c off v.cells.toList) e (0,0))=(S.set j []).flatten++ [(A,.cells (AL c off v.cells.toList) e (0,0))]:=Ft _ _ _ _;rw [ap] at aa ⊢;obtain⟨aq,ar⟩:=ES W aa;rw [aq];exact h ar _ (K.put ae undef)
 ·rw [ab] at e;cases e
end
end Pal
namespace Pal
open Go Go.Conc
theorem N5{E H:LH}{S:List Seg}{bks:List Nat}{A o:Nat}{l ws:List Value}{e:TypeId}{f:Nat×Nat}{s':St}{w:Value}(j:Nat)(K:Az E H S)(O:S[j]? =some [(A,.cells (l++ws).toArray e f)])(U:AD bks A=true)(hs:∀x o,(A8 (AD bks) (Ap E H S)).E x=some o→s'.E x=some o)(W:ws[o]? =some w):s'.cell? ⟨A,l.length+o,none⟩=some w:=by
 have:=IS j K O U hs o w W
 rwa [Ba rfl] at this
section
variable {P:Program}{E H:LH}{B:List (Nat×Obj)}{t e ty:TypeId}
theorem Nw{ats:Array TypeId}{a:Option Addr}{l A K m cx:Nat}{ax:Option Addr}{xs ys:List Value}{z:Value}{Q:Value→St→Prop}{X:Halt→St→Prop}
  (al:ats[0]? =some t) {t1 am:TypeId} (an:ats[1]? =some t1) (ao:P.underlying t1=some (.slice am)) (ht:P.underlying t=some (.slice e)) (ap:Bf P e=some A) (hb:CH P e=some K) (aq:zeroOf P e=some z) (ar:z.cells.size=A)
  (au:Nd E H B) (ab:DG (mk E H B) (.slice a l l) A xs)
  (W:DG (mk E H B) (.slice ax m cx) A ys) (aE:∀w∈ys,Bs w=true) (aF:0<K) (aG:l+m≤2 ^ 40) (av:K≤64)
  (aj:m=0→Q (.slice a (l+m) l) (mk E H B))
  (aw:∀r Z ac,l+m≤ac→Z.size=ac*A→Z.toList.take ((l+m)*A)=xs++ys→Nd E H (B++ [(r,.cells Z e (0,0))])→Q (.slice (some ⟨r,0,none⟩) (l+m) ac) (mk E H (B++ [(r,.cells Z e (0,0))]))):
  lp P (Builtin.append_ ats ty #[.slice a l l,.slice ax m cx]) (mk E H B) Q X:=by
 unfold Builtin.append_;simp only [al,an,List.getElem?_toArray,List.getElem?_cons_zero,List.getElem?_cons_succ];refine AF _ _ (BU ht ?_);refine AF _ _ (CM ap ?_);refine AF _ _ (BU ao ?_);simp only [Eo,Bool.false_eq_true,if_false,Builtin.lenOf,Bool.not_false,if_true];have aa:ys.length=m*A:=by
  cases ax with
  | none=>obtain⟨O,U⟩:=W;subst O U;simp
  | some ad=>exact W.2.1
 have ae:xs.length=l*A:=by
  cases a with
  | none=>obtain⟨O,U⟩:=ab;subst O U;simp
  | some ad=>exact ab.2.1
 obtain⟨c,aH⟩:∃c,c=l:=⟨_,rfl⟩;split
 ·rename_i aI;have hm:m=0:=by omega
  have ay:ys= []:=List.eq_nil_of_length_eq_zero (by rw [aa,hm];simp);refine AF _ _ (F8 ⟨ax,cx,rfl⟩ W ?_);subst ay;cases a with
  | none=>exact aj hm
  | some ad=>exact aj hm
 ·rename_i aJ;have O:¬(((l+m:Nat):Int)>IntKind.i64.max∧(False∨K=0)):=by rintro⟨_,h | h⟩ <;> omega
  have U:¬(Builtin.nextslicecap (l+m) l*K>2 ^ 48):=by
   have:=Kk (need:=l+m) (old:=l) (by omega);have aK:Builtin.nextslicecap (l+m) l*K≤(2*(l+m)+768)*64:=Nat.mul_le_mul this av;omega
  obtain⟨inf,ag,ah⟩:=Hz hb;refine AF _ _ (Fh ag ?_);rw [ah,if_neg O];refine AF _ _ (Fh ag ?_);rw [ah,if_neg U];refine AF _ _ ?_;simp only [choose,lp,Question.forced,Bool.false_eq_true,if_false];refine⟨rfl,fun az=>?_⟩;generalize aA:(Question.appendCap (l+m) l e).cut az=ai;have aB:l+m≤ai:=by rw [← aA];simp [Question.cut]
  refine AF _ _ (Fh ag ?_);rw [ah];have aC:∀{α:Type} {f:Unit→Sem α} {Q:α→St→Prop},lp P (f ()) (mk E H B) Q X→lp P (askRoom (ai*K)>>=f) (mk E H B) Q X:=by
   intro α f Q ak;refine AF _ _ ?_;unfold askRoom;split
   ·exact⟨.inl ⟨rfl,rfl⟩,ak⟩
   ·exact ak
  refine aC ?_;refine AF _ _ (F8 ⟨a,l,rfl⟩ ab ?_);refine AF _ _ (F8 ⟨ax,cx,rfl⟩ W ?_);refine AF _ _ (Dy aq ?_);refine AF _ _ (Es au fun r aD=>?_);refine aw r _ ai aB ?_ ?_ aD
  ·simp only [Array.size_append,List.size_toArray,J1,ar,ae,aa];rw [← Nat.add_mul,← Nat.add_mul];congr 1;omega
  ·simp only [Array.toList_append];rw [List.take_append_of_le_length (by simp [ae,aa,Nat.add_mul])];rw [List.take_of_length_le (by simp [ae,aa,Nat.add_mul])]
end
theorem Ar.spot{α:Type}{pp:Rp α}{E:LH}{a:Option Addr}{c:Nat}{xs:List α}(h:Ar pp E a c xs):∀ad,a=some ad→ad.spot=none:=fun ad A=>by
 rcases h.2 with⟨_,h⟩ | ⟨K,off,h,_⟩
 ·exact h ad A
 ·rw [h] at A;cases A;rfl
theorem Ar.full{α:Type}{pp:Rp α}{E:LH}{a:Option Addr}{c:Nat}{xs:List α}(h:Ar pp E a c xs):Ar pp E a xs.length xs:=⟨Nat.le_refl _,h.2⟩
theorem Ar.LG{α:Type}{pp:Rp α}{E H:LH}{B:List (Nat×Obj)}{a:Option Addr}{c:Nat}{ys:List α}(Z:Ar pp E a c ys):
  ∃A:List (List Value),A.length=ys.length∧(∀(i:Nat) x ws,ys[i]? =some x→A[i]? =some ws→pp.r E ws x)∧DG (mk E H B) (.slice a ys.length c) pp.n A.flatten∧∀w∈A.flatten,Bs w=true:=by
 obtain⟨A,O,W,U⟩:=Z.rows;have aa:=Fq O W;refine⟨A,O,W,?_,fun w hw=>?_⟩
 ·rcases U with⟨U,ab⟩ | ⟨aj,off,rfl,U⟩
  ·subst U;have:A= []:=List.eq_nil_of_length_eq_zero O;subst this;cases a with
   | none=>exact⟨rfl,rfl⟩
   | some ad=>exact⟨ab ad rfl,by simp,Nat.zero_le _,fun q w K=>by simp at K⟩
  ·refine⟨rfl,by rw [Hv aa,O],Z.1,fun q w K=>?_⟩;obtain⟨q1,m,ws,ac,ae,ag⟩:=IC aa K;have:=(U q1 ws ac).cell (H:=H) (B:=B) ae;subst ag;rw [← Nat.add_assoc];exact this
 ·obtain⟨us,ah,hw⟩:=List.mem_flatten.1 hw;obtain⟨q,K⟩:=List.mem_iff_getElem?.1 ah;have ai:q<ys.length:=by rw [← O];exact(List.getElem?_eq_some_iff.1 K).1
  exact pp.one (W q _ us (List.getElem?_eq_getElem ai) K) w hw
theorem QS{P:Program}{s:St}{t:TypeId}{a b:Bool}(ht:P.underlying t=some .bool){Q:Bool→St→Prop}{X:Halt→St→Prop}(h:Q (a==b) s):lp P (Op.equal t (.bool a) (.bool b)) s Q X:=by
 unfold Op.equal Op.maxDepth Op.equalIn;exact AF _ _ (BU ht h)
theorem Yl.Sd{P:Program}{s:St}{ρ:Operand→Value}{x y:Operand}{d:Option Tmp}{t u ty:TypeId}{p:String}{af:Array Edge}{g:Option (Nat×Bool)}{a b:Bool}(ht:P.underlying t=some .bool)(A:ρ x= .bool a)(K:ρ y= .bool b):Yl P ⟨d,.binOp .neq t x y u,ty,p,af,g⟩ ρ s (.bool (a != b)):=by
 refine Yl.Db (sm:=do eqGuard .neq t x y (ρ x) (ρ y);binOp .neq t (ρ x) (ρ y)) rfl ?_
 rw [A,K];have O:lp P (eqGuard .neq t x y (.bool a) (.bool b)) s (fun _ s'=>s'=s) (fun _ _=>False):=by simp [eqGuard,lp,pure]
 refine AF _ _ (BV _ O ?_ (fun _ _ h=>h));rintro _ _ rfl;have hb:binOp .neq t (.bool a) (.bool b)=(do pure (.bool (!(← Op.equal t (.bool a) (.bool b))))):=rfl
 rw [hb];exact AF (x:=Op.equal t (.bool a) (.bool b)) _ (QS ht ⟨rfl,rfl⟩)
section
variable {P:Program}{J:Judge P}{Q:Goroutine→St→Prop}{b:Frame}{n:Nat}{ds:List Deferred}{ops:Array Oper}{k:List Item}{cs:List Frame}{L:Env}{s:St}{E E' H:LH}{S:List Seg}
variable {d:Option Tmp}{x y z1:Operand}{t u ty e:TypeId}{p:String}{af:Array Edge}{g:Option (Nat×Bool)}{v:Value}{i:Nat}{rest:List Nat}{kd:IntKind}{ρ:Operand→Value}
theorem Yl.Pp{a:Option Addr}{l c A:Nat}(K:∀ad,a=some ad→ad.spot=none)(O:l≤c)(ht:P.underlying t=some (.slice e))(U:Bf P e=some A)(W:ρ x= .slice a l c)(Z:ρ y=iV (l:Int))(aa:ρ z1=iV (l:Int)):
  Yl P ⟨d,.slice t x none (some y) (some z1),ty,p,af,g⟩ ρ s (.slice a l l):=by
 have h:=Yl.slice (P:=P) (s:=s) (d:=d) (ty:=ty) (p:=p) (af:=af) (g:=g) (olo:=none) (ohi:=some y) (omx:=some z1) (lo:=0) (hi:=l) (mx:=l) ht U W aa Z rfl O (Nat.le_refl _) (Nat.zero_le _);have ab:(if l=0 then a else a.map (·.add (0*A)))=a:=by
  split
  ·rfl
  ·cases a with
   | none=>rfl
   | some ad=>
    have:=K ad rfl;simp only [Option.map_some,Nat.zero_mul];rw [Ba this];obtain⟨b,o,sp⟩:=ad;simp only at this;subst this;simp
 rw [ab] at h;simpa using h
theorem JS.Pg{α:Type}{pp:Rp α}{t1:TypeId}{U c cx:Nat}{a ax:Option Addr}{xs ys W:List α}{ats:Array TypeId}{z:Value}(O:CY xs ys=some W)
  (ai:ops[i]? =some ⟨d,.call ⟨.builtin .append,#[x,y],ats⟩,ty,p,af,g⟩) (hw:AS L ops ⟨d,.call ⟨.builtin .append,#[x,y],ats⟩,ty,p,af,g⟩=some true) (aj:BC b n ⟨d,.call ⟨.builtin .append,#[x,y],ats⟩,ty,p,af,g⟩=true)
  (ak:ev L x=some (.slice a xs.length xs.length)) (al:ev L y=some (.slice ax ys.length cx)) (am:ats[0]? =some t) (an:ats[1]? =some t1) (ht:P.underlying t=some (.slice e)) (ao:P.underlying t1=some (.slice e)) (ap:Bf P e=some pp.n) (hb:CH P e=some U) (aq:zeroOf P e=some z) (ar:z.cells.size=pp.n)
  (au:0<U) (av:U≤64) (Z:Ar pp E a c xs) (aw:Ar pp E ax cx ys) (aa:Az E H S)
  (h:∀E' ab A,Le E E'→Ar pp E' ab A W→Az E' H (S++ [[]])→JL J Q b n (AH L d (.slice ab W.length A)) ds (.inRegion ops rest::k) cs (Ap E' H (S++ [[]]))):
  JL J Q b n L ds (.inRegion ops (i::rest)::k) cs (Ap E H S):=by
 unfold CY at O;split at O
 rotate_left
 ·cases O
 rename_i ay;cases O;obtain⟨wss,ac,az,aA,aQ⟩:=Ar.LG (H:=H) (B:=S.flatten) Z.full;obtain⟨aB,aC,aD,aE,aF⟩:=Ar.LG (H:=H) (B:=S.flatten) aw;have hlen:(xs++ys).length=xs.length+ys.length:=by simp
 show JL J Q b n L ds (.inRegion ops (i::rest)::k) cs (mk E H S.flatten);refine JL.op ai hw aj fun ρ ae=>?_;rw [Ht,ae x _ ak,ae y _ al];refine AF _ _ (Nw am an ao ht ap hb aq ar aa aA aE aF au ay av ?_ ?_)
 ·intro hm;have aG:ys= []:=List.eq_nil_of_length_eq_zero hm;subst aG;have aH:Az E H (S++ [[]]):=by unfold Az at*;rw [D7,List.append_nil];exact aa
  have aI:mk E H S.flatten=Ap E H (S++ [[]]):=by unfold Ap;rw [D7,List.append_nil]
  rw [aI];have:=h E a xs.length (Le.refl _) (by rw [List.append_nil];exact Z.full) aH;rw [hlen] at this;exact this
 ·intro r K A aJ aK aL aM;have aN:OL e pp E (some ⟨r,0,none⟩) A [(r,.cells K e (0,0))] (xs++ys):=
   ⟨wss++aB,.inr ⟨r,K,rfl,rfl,aK,by rw [hlen];exact aJ,by rw [hlen,List.flatten_append];exact aL.symm⟩,by simp [ac,aC],IH ac az aD⟩
  have ag:=CF (S:=S) (seg:= [(r,.cells K e (0,0))]) aM;show JL J Q b n _ ds _ cs (mk E H (S.flatten++ [(r,.cells K e (0,0))]));rw [ag.1];refine JS.BA S.length aN ag.2 (by simp) fun E' hle aO ah=>?_;have aP:(S++ [[(r,Obj.cells K e (0,0))]]).set S.length []=S++ [[]]:=Ft _ _ _ _;rw [aP] at ah ⊢;have:=h E' (some ⟨r,0,none⟩) A hle aO ah;rw [hlen] at this;exact this
end
end Pal
namespace Pal
open Go Go.Conc
open Go.ConcN (sumTo upd sumTo_upd upd_ne upd_same)
def GO(P:Program)(R:Value→St→Prop):GP:=fun g s=>
 g.status= .running∧∃v,R v s∧∀w,stepG P true g w= .ended (.done v) w #[]
section
variable {P:Program}{R:Value→St→Prop}{J:Judge P}{n:Nat}{L:Env}{s:St}{b:Frame}
theorem JO.end{fn:Func}{t:Tmp}{v:Value}(A:b.kind= .normal)(hi:P.inits.idxOf? b.fn=none)(K:P.funcs[b.fn]? =some fn)(O:fn.results= #[.tmp t])(U:look L t=some v)(W:R v s):JO J (GO P R) b n L [] [] s:=fun T Z todo=>by
 refine J.stop ⟨rfl,v,W,fun w=>?_⟩
 have e:results fn T=Sem.pure v:=by
  have:=Z.at_ t v U;simp only [results,O,Array.mapM_eq_mapM_toList];show Sem.pure (T.getD t undef)=_;rw [this]
 have aa:(results fn T).run P w= .ok v w:=by rw [e];rfl
 have ab:(results fn T).events P w #[]= #[]:=by rw [e];simp [Sem.events_pure']
 simp [G,stepG,unwind,Cr,K,aa,ab,doReturn,A,GStep.after,hi,seen_none]
end
section
variable {P:Program}{R:Value→St→Prop}
def G4(P:Program)(R:Value→St→Prop)(A:World)(s₀:St)(v:Value)(w':World):Prop:=
 ∃s,R v s∧Fits s w'∧(∀b o,s₀.E b=some o→s.E b=some o)∧w'.tape=A.tape∧w'.os=A.os∧w'.output=A.output
def JE(P:Program)(R:Value→St→Prop)(A:World)(s₀:St)(K:Nat)(m:Machine)(t:Trace):Prop:=
 ∃gs w sl q Sh g s,m=crowd gs w sl∧DK P gs w t q Sh g s∧GO P R g s∧K=sumTo gs.size q∧(∀b o,s₀.E b=some o→s.E b=some o)∧w.tape=A.tape∧w.os=A.os∧w.output=A.output
theorem OB{ae:World}{s₀:St}(aj:Nat)(m:Machine)(t:Trace)(h:JE P R ae s₀ aj m t):
  (∃o w ops,stepT P m=(.ended o w,ops)∧Good P (G4 P R ae s₀) m o w (t++ops))∨(∃m' ops ak,stepT P m=(.next m',ops)∧ak<aj∧JE P R ae s₀ ak m' (t++ops)):=by
 obtain⟨gs,w,sl,q,Sh,g,s,rfl,hC,aA,rfl,al,am,an,ao⟩:=h;obtain⟨Z,v,ap,aq⟩:=aA;have aB:∀x∈gs,awake x:=by
  intro x U;obtain⟨i,hi,rfl⟩:=Array.mem_iff_getElem.1 U;rcases Nat.eq_zero_or_pos i with rfl | ag
  ·have:gs[0]=g:=by simpa [Array.getElem?_eq_getElem hi] using hC.main
   rw [this];exact awake_of (.inl Z)
  ·exact awake_of ((hC.lv.old i _ ag (Array.getElem?_eq_getElem hi)).status.elim .inl fun x=> .inr (.inr x))
 obtain⟨i,x,d,ar,hi,U,au⟩:=crowd_pick (P:=P) (w:=w) (sl:=sl) aB ⟨0,g,hC.main,Z⟩;have av:=hC.at_ d;have aC:0<gs.size:=(Array.getElem?_eq_some_iff.1 hC.main).1;have aD:∀(a:Nat) (fn:FuncId) (pos:String),MemOp.ofEvents a fn pos #[]= #[]:=fun a fn pos=>by rw [ofEvents_eq];simp
 rcases Nat.eq_zero_or_pos i with rfl | ag
 ·obtain rfl:x=g:=by rw [hC.main] at hi;exact(Option.some.inj hi).symm
  have aa:=runT_many_ended (P:=P) (sl:=ar) (i:=0) hi (show stepG P (0==0) x (w.at d)=_ from aq (w.at d));rw [aD] at aa;refine .inl ⟨_,_,_,au.trans aa,v,rfl,⟨s,ap,av.BD.fits 0 aC,al,am,an,ao⟩,?_,?_,⟨fun y A=>?_,rfl⟩,fun j y A K=>?_⟩
  ·simpa using hC.BD.clean
  ·simpa using hC.over
  ·obtain⟨j,K⟩:=List.mem_iff_getElem?.1 A;rw [List.getElem?_drop] at K;exact⟨_,(hC.lv.old (1+j) y (by omega) (by simpa [crowd] using K)).leaves⟩
  ·have W:=hC.lv.old j y (by omega) A;exact⟨q j,by simp only [Array.append_empty];exact W.hears w⟩
 ·have W:=hC.lv.old i x ag hi;have aE:(i==0)=false:=by simp;omega
  have aw:i<gs.size:=(Array.getElem?_eq_some_iff.1 hi).1;cases ah:q i with
  | zero=>rw [ah] at W;rw [W.1] at U;cases U
  | succ k=>
   rw [ah] at W;rcases W with⟨aF,_⟩ | ⟨_,x',es,hm,aG,aH⟩
   ·rw [aF] at U;cases U
   have aL:sumTo gs.size (upd q i k)+(k+1)=sumTo gs.size q+k:=by
    have:=sumTo_upd q k id aw;simpa [ah] using this
   have aa:=runT_crowd_go (P:=P) (sl:=ar) (i:=i) hi (by rw [aE];exact aG (w.at d));have ai:((gs.map (woken P x x' (w.at d))).setIfInBounds i x').size=gs.size:=by simp
   have ab:∀op∈MemOp.ofEvents i x.frame.fn x.frame.place es,op.g=i:=fun op O=>by obtain⟨e,_,rfl⟩:=mem_ofEvents O;rfl
   have ay:∀op∈MemOp.ofEvents i x.frame.fn x.frame.place es,op.act.touch? =none:=fun op O=>by obtain⟨e,he,rfl⟩:=mem_ofEvents O;exact touch_mute (hm e he)
   have aI:DK P ((gs.map (woken P x x' (w.at d))).setIfInBounds i x') (w.at d) (t++MemOp.ofEvents i x.frame.fn x.frame.place es) (upd q i k) Sh g s:=by
    refine⟨?_,⟨fun j y K A=>?_,fun j K=>?_⟩,?_,?_,?_⟩
    ·have aJ:i≠0:=by omega
     rw [Array.getElem?_setIfInBounds_ne aJ,Array.getElem?_map,hC.main];simp [woken_run Z]
    ·by_cases ac:i=j
     ·subst ac;rw [Array.getElem?_setIfInBounds_self_of_lt (by simpa using aw)] at A;obtain rfl:=Option.some.inj A;rw [upd_same,Deaf_own];exact aH
     ·rw [Array.getElem?_setIfInBounds_ne ac,Array.getElem?_map] at A;obtain⟨z,aK,rfl⟩:=Option.map_eq_some_iff.1 A;have az:=hC.lv.old j z K aK;rw [woken_quitsD az,upd_ne q k (Ne.symm ac),Deaf_other t ac _ ab];exact az
    ·rw [Deaf_other t (g':=i) (by simp at K;omega) _ ab];exact hC.lv.above j (by simpa using K)
    ·rw [ai];exact av.BD.mute ab ay (fun op O=>by obtain⟨e,he,rfl⟩:=mem_ofEvents O;exact low_mute (hm e he) _) rfl
    ·exact handedOver_app hC.over fun op O=> .inr (ay op O)
    ·rw [Deaf_other t (by omega) _ ab];exact hC.hears
   exact .inr ⟨_,_,_,au.trans aa,by rw [← ai];rw [ai];omega,_,_,_,_,_,_,_,rfl,aI,⟨Z,v,ap,aq⟩,rfl,al,am,an,ao⟩
theorem ends{gs:Array Goroutine}{w:World}{sl:Option (Nat×Nat)}{t:Trace}{q:Nat→Nat}{Sh:Nat→Prop}{g:Goroutine}{s:St}(hC:DK P gs w t q Sh g s)(K:GO P R g s):
  ∃N last o w' A,runNT P (N+1) (crowd gs w sl) t=(.ended o w',A)∧runN P N (crowd gs w sl)= .next last∧step P last= .ended o w'∧Good P (G4 P R w s) last o w' A:=
 run_of_inv Nat.lt_wfRel.wf (JE P R w s) (Good P (G4 P R w s)) OB _ _ _ ⟨gs,w,sl,q,Sh,g,s,rfl,hC,K,rfl,fun _ _ h=>h,rfl,rfl,rfl⟩
theorem NO{m m':Machine}{t A:Trace}{n:Nat}(h:runNT P n m t=(.next m',A)):runN P n m= .next m':=by rw [← runNT_fst P n m t,h]
def FE(W:World):St:=⟨fun b=>W.heap[b]?,fun _=>none,false⟩
theorem Oy{W:World}{g:Goroutine}(h:(Ce P).ok (GO P R) g (FE W)):
  ∃M last o w' A,runNT P (M+1) (solo g W) #[]=(.ended o w',A)∧runN P M (solo g W)= .next last∧step P last= .ended o w'∧Good P (G4 P R W (FE W)) last o w' A:=by
 have hC:DK P #[g] W #[] (fun _=>0) (fun _=>False) g (FE W):=by
  have U:∀{i:Nat} {a:Touch},touchAt #[] i=some a→False:=fun {i a} h=>by simp [touchAt,Trace.act?] at h
  refine⟨rfl,leavers_one P g,⟨fun i hi=>?_,fun i j hi aa aB=>by simp at hi aa;omega,fun i hi b hb=>hb.elim,fun b hb=>hb.elim,fun said=>?_,by simp,fun i _ b _ x a K=>(U K).elim,fun i _ b _ x a K=>(U K).elim⟩,fun i g ab=>by simp [Trace.g?] at ab,rfl⟩
  ·have:i=0:=by simp at hi;exact hi
   subst this;exact⟨fun b o O=>O,fun b o O=>(by cases O),fun b _=>rfl⟩
  ·rintro⟨i,j,_,⟨a,b,ac,_⟩,_⟩;simp [Trace.act?] at ac
 obtain⟨n,gs',w',ae,A,aC,aD,g',s',Z,ag,ah,ai,aj,ak,al⟩:=h #[g] W none #[] _ _ hC;obtain⟨N,last,o,am,an,k1,ao,ap,aq⟩:=ends (sl:=ae) ag ah;refine⟨n+N,last,o,am,an,?_,?_,ap,?_⟩
 ·rw [solo_eq_crowd,Nat.add_assoc,runNT_add,Z];exact k1
 ·have ar:=NO Z;rw [solo_eq_crowd,runN_add,ar];exact ao
 ·obtain⟨v,e,⟨s2,au,av,aw,ay,az,aA⟩,r⟩:=aq;exact⟨v,e,⟨s2,au,av,fun b o hb=>aw b o (ai b o hb),ay.trans aj,az.trans ak,aA.trans al⟩,r⟩
end
end Pal
namespace Pal
open Go Go.Conc
theorem NZ{P:Program}{Q:Goroutine→St→Prop}{E H:LH}{f:FuncId}{fn:Func}{c:Code}{vs:List Value}(O:P.funcs[f]? =some fn)(hb:fn.body=some c)(Z:fn.ntmps=fn.ntmps)(aa:vs.length≤fn.ntmps)
  (h:JL (Ce P) Q (base f) fn.ntmps (Ds 0 vs) [] [.code c] [] (Ap E H [[]])):(Ce P).ok Q (G (Frame.enter P f vs.toArray .normal) []) (mk E H []):=by
 have he:Frame.enter P f vs.toArray .normal=fr (base f) (vs.toArray++Array.replicate (fn.ntmps - vs.length) undef) [] [.code c]:=by
  simp [Frame.enter,fr,O,hb,base];rfl
 rw [he];have U:mk E H []=Ap E H [[]]:=by unfold Ap;simp
 rw [U];refine h _ ⟨by simp;omega,fun t v ht=>?_⟩;obtain⟨_,A⟩:=F9 ht;have W:t<vs.length:=by
  rcases Nat.lt_or_ge t vs.length with K | K
  ·exact K
  ·simp at A;have:=(List.getElem?_eq_some_iff.1 A).1;omega
 rw [Array.getD_eq_getD_getElem?,Array.getElem?_append_left (by simpa using W)];simp at A;simp [A]
end Pal
namespace Pal
open Go Go.Conc Go.Proofs Go.ChangeShapes Go.WideShapes Go.ChangeAt Go.RowKit
open Go.Proofs.YtboibffcmhheiaaGreatDoor (Rows.laid_errors_errorType)
theorem Tryz.own:ownKnob Tryz.prog.godebug=none:=by kernel_rfl
theorem Tryz.laidOut:laidOutB Tryz.prog=true:=by kernel_rfl
theorem Tryz.QQ:Tryz.prog.cellsOf 3=1:=by kernel_rfl
theorem OY{W:World}{a:Addr}{len cap:Nat}{A:List Int}(U:a.spot=none)(ag:len≤cap)(ab:len≤A.length)(ac:∀i,i<A.length→W.cell? (a.add i)=some (.int .i64 (A.getD i 0))):
  Ar rI (FE W).E (some a) cap (A.take len)∧(A.take len).length=len:=by
 have aa:(A.take len).length=len:=by simp [Nat.min_eq_left ab]
 refine⟨⟨by omega,.inr ⟨a.block,a.off,?_,fun i x Z=>⟨[iV x],rfl,?_⟩⟩⟩,aa⟩
 ·obtain⟨b,o,s⟩:=a;simp only at U;subst U;rfl
 ·have hi:i<len:=by rw [← aa];exact(List.getElem?_eq_some_iff.1 Z).1
  have K:=ac i (by omega);have ae:A.getD i 0=x:=by
   rw [List.getElem?_take_of_lt hi] at Z;rw [List.getD_eq_getElem?_getD,Z];rfl
  rw [ae,Ba U] at K;unfold World.cell? at K;split at K
  ·rename_i c e f hW;simp only [Option.isSome_none,Bool.false_eq_true,if_false] at K;refine⟨c,e,f,hW,fun j w O=>?_⟩
   match j,O with
   | 0,O=>
    simp at O;subst O;show c[a.off+i*1+0]? =some (.int .i64 x);simpa using K
   | j+1,O=>simp at O
  ·cases K
theorem Nz{W:World}{base:Nat}{t e:TypeId}{a:Addr}{len cap:Nat}(ht:Tryz.prog.underlying t=some (.slice e))(h:Value.okWide Tryz.prog W .any base t (.slice (some a) len cap)):a.spot=none∧len≤cap:=by
 simp only [Value.okWide,ht,Cell.okWide,Cell.ok] at h;exact⟨h.2.2.2.1,h.1⟩
theorem NF{R:Value→St→Prop}{W w':World}{v:Value}(h:G4 Tryz.prog R W (FE W) v w'):(∃s,R v s)∧Below W.heap.size W w':=by
 obtain⟨s,U,Z,aa,ht,ab,ac⟩:=h;have hb:∀k,k<W.heap.size→w'.heap[k]? =W.heap[k]? :=fun k K=>by
  have A:(FE W).E k=some W.heap[k]:=Array.getElem?_eq_getElem K;have O:=Z.e k _ (aa k _ A);rw [O,Array.getElem?_eq_getElem K]
 refine⟨⟨s,U⟩,⟨ab,ht,ac,?_,hb⟩⟩;rcases Nat.eq_zero_or_pos W.heap.size with ae | ae
 ·omega
 ·have A:=hb (W.heap.size - 1) (by omega);have ag:W.heap[W.heap.size - 1]? =some W.heap[W.heap.size - 1]:=Array.getElem?_eq_getElem (by omega);rw [ag] at A;have O:=(Array.getElem?_eq_some_iff.1 A).1;omega
noncomputable def Kq(os:Os):World:=
 let w0:=World.holding Tryz.prog os ⟨#[],#[],[]⟩
 {w0 with heap:=w0.heap.modify 0 fun
   | .cells _ t frozen=> .cells #[.iface 240 (.agg #[.pointer (some ⟨1,149,none⟩)])] t frozen
   | o=>o}
theorem Ns(os:Os)(args:Array Value):laidMetH Tryz.prog [("errors.errorType",Go.Proofs.YtboibffcmhheiaaGreatDoor.Rows.laid_errors_errorType)] ((Kq os).forCall (fun _ _=>0) ⟨#[],args,[]⟩).memory:=
 laidMetH_of_parts (laidMet_nil _ _) (by kernel_rfl)
end Pal
namespace Pal
open Go Go.Conc
theorem oi{α:Type}{a b:α}(h:some a=some b):a=b:=Option.some.inj h
theorem bs{α β:Type}{o:Option α}{f:α→Option β}{r:β}(h:o.bind f=some r):∃x,o=some x∧f x=some r:=bind_some h
def G1(L:Env):Env→List (Option Value)
 | []=> []
 | (t,_)::L'=>look L t::G1 L L'
def G9:Env→List (Option Value)
 | []=> []
 | (_,v)::L'=>some v::G9 L'
theorem Jg{L:Env}:∀{L':Env},G1 L L'=G9 L'→Sub L' L
 | [],_=>trivial
 | (t,v)::L',h=>by
  simp only [G1,G9,List.cons.injEq] at h
  exact⟨h.1,Jg h.2⟩
section
variable {P:Program}{J:Judge P}{Q:Goroutine→St→Prop}{b:Frame}{n:Nat}{L L':Env}{ds:List Deferred}{k k':List Item}{cs:List Frame}{s:St}{ops:Array Oper}{i:Nat}{rest:List Nat}{v:Value}
variable {d:Option Tmp}{op:Op}{ty:TypeId}{p:String}{af:Array Edge}{g:Option (Nat×Bool)}
theorem JL.wk(L':Env)(h:G1 L L'=G9 L')(k':JL J Q b n L' ds k cs s):JL J Q b n L ds k cs s:=JL.BK (Jg h) k'
theorem JL.kw(k':JL J Q b n L' ds k cs s)(h:G1 L L'=G9 L'):JL J Q b n L ds k cs s:=JL.BK (Jg h) k'
def Fc(b:Frame)(n:Nat)(L:Env)(ops:Array Oper)(i:Nat):Option Oper:=
 match Fa ops.toList i with
 | some ⟨d,op,ty,p,af,g⟩=>match AS L ops ⟨d,op,ty,p,af,g⟩ with
  | some true=>match BC b n ⟨d,op,ty,p,af,g⟩ with
   | true=>some ⟨d,op,ty,p,af,g⟩
   | false=>none
  | _=>none
 | none=>none
theorem HB{o:Oper}(h:Fc b n L ops i=some o):ops[i]? =some o∧AS L ops o=some true∧BC b n o=true:=by
 unfold Fc at h;split at h
 ·rename_i A;rw [Gh,Array.getElem?_toList] at A;split at h
  ·rename_i hw;split at h
   ·rename_i K;cases h;exact⟨A,hw,K⟩
   ·cases h
  ·cases h
 ·cases h
theorem JL.Y(A:Fc b n L ops i=some ⟨d,op,ty,p,af,g⟩)(h:∀ρ,Cw L ρ→Yl P ⟨d,op,ty,p,af,g⟩ ρ s v)(K:JL J Q b n (AH L d v) ds (.inRegion ops rest::k) cs s):
  JL J Q b n L ds (.inRegion ops (i::rest)::k) cs s:=
 let ⟨O,U,W⟩:=HB A
 JL.y O U W h K
theorem Au.en{f:FuncId}{fn:Func}{c:Code}{E:LH}{vs:List Value}{B:Seg}{R:Value→LH→Seg→Prop}(K:P.funcs[f]? =some fn)(hb:fn.body=some c)(O:Nat.ble vs.length fn.ntmps=true)
  (h:∀(Q:Goroutine→St→Prop) (A:Frame) (cs:List Frame) (H:LH),Az E H [B]→(∀v E' S' B',Le E E'→S'.flatten=B'→R v E' B'→Az E' H S'→J.ok Q (G (A.finish v) cs) (Ap E' H S'))→JL J Q (base f) fn.ntmps (Ds 0 vs) [] [.code c] (A::cs) (Ap E H [B])):Au J f vs E B R:=
 Au.enter K hb (Nat.le_of_ble_eq_true O) h
def JX(n:Nat)(L:Env)(ops:Array Oper)(i:Nat):Option Env:=
 match Fa ops.toList i with
 | some ⟨d,op,ty,p,af,g⟩=>match AS L ops ⟨d,op,ty,p,af,g⟩ with
  | some true=>match A2 n d with
   | true=>match F3 L op with
    | some v=>match d with
     | some d=>some ((d,v)::L)
     | none=>some L
    | none=>none
   | false=>none
  | some false=>match A2 n d with
   | true=>match d with
    | some d=>some ((d,undef)::L)
    | none=>some L
   | false=>none
  | none=>none
 | none=>none
def F2(n:Nat)(L:Env)(ops:Array Oper)(i:Nat):Option Oper:=
 match Fa ops.toList i with
 | some ⟨d,op,ty,p,af,g⟩=>match AS L ops ⟨d,op,ty,p,af,g⟩ with
  | some true=>match A2 n d with
   | true=>some ⟨d,op,ty,p,af,g⟩
   | false=>none
  | _=>none
 | none=>none
theorem KB{o:Oper}(h:F2 n L ops i=some o):ops[i]? =some o∧AS L ops o=some true∧A2 n o.dst=true:=by
 unfold F2 at h;split at h
 ·rename_i A;rw [Gh,Array.getElem?_toList] at A;split at h
  ·rename_i hw;split at h
   ·rename_i K;cases h;exact⟨A,hw,K⟩
   ·cases h
  ·cases h
 ·cases h
theorem O1(h:JX n L ops i=some L'):∃o,ops[i]? =some o∧A2 n o.dst=true∧((∃v,AS L ops o=some true∧F3 L o.op=some v∧L'=AH L o.dst v)∨(AS L ops o=some false∧L'=AH L o.dst undef)):=by
 unfold JX at h;split at h
 ·rename_i d op ty p af g K;rw [Gh,Array.getElem?_toList] at K;refine⟨_,K,?_⟩;split at h
  ·rename_i hw;split at h
   ·rename_i A;refine⟨A,.inl ?_⟩;split at h
    ·rename_i v O;refine⟨v,hw,O,?_⟩;cases d with
     | none=>cases h;rfl
     | some d=>cases h;rfl
    ·cases h
   ·cases h
  ·rename_i hw;split at h
   ·rename_i A;refine⟨A,.inr ⟨hw,?_⟩⟩;cases d with
    | none=>cases h;rfl
    | some d=>cases h;rfl
   ·cases h
  ·cases h
 ·cases h
variable {m:Nat}{D:Nat→Bool}{fuel:Nat}{listed:Array Bool}
theorem JG.mv(i:Nat)(A:Dc ops m=true)(K:s.q=false)(h:JX n L ops i=some L')
  (O:Av J Q b n ds ops k cs m D fuel (AW listed i) L' s) (U:EE ops listed m i=true:=by decide+kernel):Av J Q b n ds ops k cs m D (fuel+1) listed L s:=by
 obtain⟨o,W,Z,⟨v,hw,aa,rfl⟩ | ⟨hw,rfl⟩⟩:=O1 h
 ·exact JG.val i W A U K hw Z (fun ρ ab s' _=>HK ab aa) O
 ·exact JG.no i W A U K hw Z O
theorem JG.V(i:Nat)(A:Dc ops m=true)(K:s.q=false)(O:F2 n L ops i=some ⟨d,op,ty,p,af,g⟩)
  (U:∀ρ,Cw L ρ→∀s':St,(∀x o,(A8 D s).E x=some o→s'.E x=some o)→Yl P ⟨d,op,ty,p,af,g⟩ ρ s' v)
  (W:Av J Q b n ds ops k cs m D fuel (AW listed i) (AH L d v) s) (Z:EE ops listed m i=true:=by decide+kernel):Av J Q b n ds ops k cs m D (fuel+1) listed L s:=by
 obtain⟨aa,ab,ac⟩:=KB O;exact JG.val i aa A Z K ab ac U W
end
end Pal
namespace Pal
open Go Go.Conc
abbrev Jn(E H E':LH)(S:List Seg)(A L:Env)(s:St)(R:Prop):Prop:=L=A∧s=Ap E' H S∧Le E E'∧Az E' H S∧R
abbrev Jm(E H E':LH)(S:List Seg)(A L:Env)(s:St):Prop:=L=A∧s=Ap E' H S∧Le E E'∧Az E' H S
def Ix(L:Env):List ResultVar→Option (List Value)
 | []=>some []
 | .tmp t::rs=>match look L t with
  | some v=>match Ix L rs with
   | some vs=>some (v::vs)
   | none=>none
  | none=>none
 | _=>none
theorem LD{P:Program}{L:Env}{s:St}:∀{rs:List ResultVar} {vs:List Value},Ix L rs=some vs→RV P L s rs vs
 | [],vs,h=>by cases h;trivial
 | .tmp t::rs,vs,h=>by
  unfold Ix at h
  split at h
  ·rename_i v A
   split at h
   ·rename_i ws hw;cases h;exact⟨A,LD hw⟩
   ·cases h
  ·cases h
 | .cell _ _::_,_,h=>by cases h
section
variable {P:Program}{J:Judge P}{Q:Goroutine→St→Prop}{b:Frame}{n:Nat}{L L':Env}{ds:List Deferred}{k k':List Item}{cs:List Frame}{s:St}{ops:Array Oper}{i:Nat}{rest:List Nat}{v:Value}{E H:LH}{S:List Seg}
variable {d:Option Tmp}{op:Op}{x y:Operand}{t ft ty e:TypeId}{p:String}{af:Array Edge}{g:Option (Nat×Bool)}
theorem JL.rt{c:Frame}{fn:Func}{vs:List Value}(K:P.funcs[b.fn]? =some fn)(A:(b.kind== .normal&&b.roundOf.isNone)=true)(O:Ix L fn.results.toList=some vs)(h:J.ok Q (G (c.finish (HN vs)) cs) s):JL J Q b n L [] (.code .ret::k) (c::cs) s:=by
 simp only [Bool.and_eq_true,beq_iff_eq,Option.isNone_iff_eq_none] at A;exact JL.ret A.1 A.2 (Bl.list K rfl (LD O)) h
theorem JS.cl{f:FuncId}{args:Array Operand}{ats:Array TypeId}{vs:List Value}{R:Value→LH→Seg→Prop}
  (K:Au J f vs E [] R) (O:Fc b n L ops i=some ⟨d,.call ⟨.value (.func f),args,ats⟩,ty,p,af,g⟩) (U:evs L args.toList=some vs) (hb:Cd P f=true)
  (W:Az E H S) (Z:∀v E' seg',Le E E'→R v E' seg'→Az E' H (S++ [seg'])→JL J Q b n (AH L d v) ds (.inRegion ops rest::k) cs (Ap E' H (S++ [seg']))):
  JL J Q b n L ds (.inRegion ops (i::rest)::k) cs (Ap E H S):=by
 obtain⟨aa,ab,A⟩:=HB O;refine JS.call K aa ab ?_ hb U W Z;simp only [BC,Bool.and_eq_true] at A ⊢;exact⟨A.1,A.2.1⟩
theorem JS.Bw{f:FuncId}{args:Array Operand}{ats:Array TypeId}{vs:List Value}{seg:Seg}{R:Value→LH→Seg→Prop}(j:Nat)
  (K:Au J f vs E seg R) (O:Fc b n L ops i=some ⟨d,.call ⟨.value (.func f),args,ats⟩,ty,p,af,g⟩) (U:evs L args.toList=some vs) (hb:Cd P f=true)
  (W:Az E H S) (Z:S[j]? =some seg) (aa:∀v E' seg',Le E E'→R v E' seg'→Az E' H (S.set j seg')→JL J Q b n (AH L d v) ds (.inRegion ops rest::k) cs (Ap E' H (S.set j seg'))):
  JL J Q b n L ds (.inRegion ops (i::rest)::k) cs (Ap E H S):=by
 obtain⟨ab,ac,A⟩:=HB O;refine JS.Jl j K ab ac ?_ hb U W Z aa;simp only [BC,Bool.and_eq_true] at A ⊢;exact⟨A.1,A.2.1⟩
def H0(A:Array Field)(i:Nat):Option (Nat×TypeId):=match A[i]? with
 | some f=>some (f.offset,f.type)
 | none=>none
theorem JL.fd{K o O off:Nat}{U:Array Field}{W:Nat}(ht:P.underlying t=some (.struct U))(Z:Bf P ft=some (O+1))(aa:Fc b n L ops i=some ⟨d,.fieldAddr t x W,ty,p,af,g⟩)(ab:ev L x=some (.pointer (some ⟨K,o,none⟩)))(A:H0 U W=some (off,ft))
  (ac:JL J Q b n (AH L d (.pointer (some ⟨K,o+off,none⟩))) ds (.inRegion ops rest::k) cs s):
  JL J Q b n L ds (.inRegion ops (i::rest)::k) cs s:=by
 unfold H0 at A;split at A
 ·rename_i f ae;cases A;refine JL.Y aa (fun ρ h=>Yl.Nf (a:=⟨K,o,none⟩) O f.offset ht Z ae rfl rfl (h _ _ ab)) ?_;rw [Ba rfl];exact ac
 ·cases A
theorem JL.ld{A o:Nat}{ws:List Value}(j:Nat)(K:At E A o ws)(ht:Cm P t=some false)(O:Fc b n L ops i=some ⟨d,.load t x,ty,p,af,g⟩)(U:ev L x=some (.pointer (some ⟨A,o+j,none⟩)))(W:ws[j]? =some v)
  (Z:JL J Q b n (AH L d v) ds (.inRegion ops rest::k) cs (Ap E H S)):
  JL J Q b n L ds (.inRegion ops (i::rest)::k) cs (Ap E H S):=
 JL.Y O (fun _ h=>Yl.load ht (h _ _ U) (At.MP K W)) Z
theorem JS.st{A off:Nat}{c:Array Value}(j:Nat)(K:Az E H S)(O:Bf P t=some v.cells.size)(U:Fc b n L ops i=some ⟨d,.store t x y,ty,p,af,g⟩)
  (W:ev L x=some (.pointer (some ⟨A,off,none⟩))) (Z:ev L y=some v) (aa:S[j]? =some [(A,.cells c e (0,0))])
  (h:Az E H (S.set j [(A,.cells (AL c off v.cells.toList) e (0,0))])→JL J Q b n (AH L d undef) ds (.inRegion ops rest::k) cs (Ap E H (S.set j [(A,.cells (AL c off v.cells.toList) e (0,0))])))
  (hle:off+v.cells.size≤c.size:=by exact Nat.le_of_ble_eq_true rfl) (ab:∀u∈v.cells.toList,Bs u=true:=by simp [Value.cells,Bs]):
  JL J Q b n L ds (.inRegion ops (i::rest)::k) cs (Ap E H S):=by
 obtain⟨ac,ae,ag⟩:=HB U;exact JS.store j ac ae ag K W Z O ab aa hle h
theorem JL.Bt{A o:Nat}{ws:List Value}(K:At E A o ws)(ht:Cm P t=some true)(O:Bf P t=some ws.length)(U:Fc b n L ops i=some ⟨d,.load t x,ty,p,af,g⟩)(W:ev L x=some (.pointer (some ⟨A,o,none⟩)))
  (Z:JL J Q b n (AH L d (.agg ws.toArray)) ds (.inRegion ops rest::k) cs (Ap E H S)):
  JL J Q b n L ds (.inRegion ops (i::rest)::k) cs (Ap E H S):=
 JL.Y U (fun _ h=>Yl.Bh ht O (h _ _ W) (At.Q6 K)) Z
variable {m:Nat}{D:Nat→Bool}{fuel:Nat}{listed:Array Bool}
theorem JG.fd{K o O off:Nat}{U:Array Field}{W:Nat}(i:Nat)(Z:Dc ops m=true)(ht:P.underlying t=some (.struct U))(aa:Bf P ft=some (O+1))(ab:s.q=false)(ac:F2 n L ops i=some ⟨d,.fieldAddr t x W,ty,p,af,g⟩)(ae:ev L x=some (.pointer (some ⟨K,o,none⟩)))(A:H0 U W=some (off,ft))
  (ag:Av J Q b n ds ops k cs m D fuel (AW listed i) (AH L d (.pointer (some ⟨K,o+off,none⟩))) s) (ah:EE ops listed m i=true:=by decide+kernel):Av J Q b n ds ops k cs m D (fuel+1) listed L s:=by
 unfold H0 at A;split at A
 ·rename_i f ai;cases A;refine JG.V i Z ab ac (fun ρ h _ _=>Yl.Nf (a:=⟨K,o,none⟩) O f.offset ht aa ai rfl rfl (h _ _ ae)) ?_ ah;rw [Ba rfl];exact ag
 ·cases A
theorem JG.ld{A o:Nat}{ws:List Value}(i:Nat)(K:Dc ops m=true)(j:Nat)(O:At (A8 D s).E A o ws)(ht:Cm P t=some false)(U:s.q=false)(W:F2 n L ops i=some ⟨d,.load t x,ty,p,af,g⟩)(Z:ev L x=some (.pointer (some ⟨A,o+j,none⟩)))(aa:ws[j]? =some v)
  (ab:Av J Q b n ds ops k cs m D fuel (AW listed i) (AH L d v) s) (ac:EE ops listed m i=true:=by decide+kernel):Av J Q b n ds ops k cs m D (fuel+1) listed L s:=
 JG.V i K U W (fun _ h _ hs=>Yl.load ht (h _ _ Z) (At.Cq O hs aa)) ab ac
theorem JG.Bt{A o:Nat}{ws:List Value}(i:Nat)(K:Dc ops m=true)(O:At (A8 D s).E A o ws)(ht:Cm P t=some true)(U:Bf P t=some ws.length)(W:s.q=false)(Z:F2 n L ops i=some ⟨d,.load t x,ty,p,af,g⟩)(aa:ev L x=some (.pointer (some ⟨A,o,none⟩)))
  (ab:Av J Q b n ds ops k cs m D fuel (AW listed i) (AH L d (.agg ws.toArray)) s) (ac:EE ops listed m i=true:=by decide+kernel):Av J Q b n ds ops k cs m D (fuel+1) listed L s:=
 JG.V i K W Z (fun _ h _ hs=>Yl.Bh ht U (h _ _ aa) (At.Ji O hs)) ab ac
end
end Pal
namespace Pal
open Go Go.Conc Go.Proofs
end Pal
namespace Pal
open Go Go.Conc Go.Proofs
end Pal
namespace Pal
open Go Go.Conc Go.Proofs
open Go.Proofs.Tryz
variable {J:Judge Tryz.prog}{E:LH}
theorem mixed:Tryz.prog.follows .mixedOrders=true:=rfl
def f101(fuel:Nat)(p0:Int)(p1:Int)(p2:Int):Option (Bool):=
 Option.bind (
  if p0<p1 then(
   some true
  ) else(
   some (decide (p2<p0))
  )
 ) fun A=>
 some A
theorem FQ{p0:Int}{p1:Int}{p2:Int}{fuel:Nat}{r:Bool}(K:f101 fuel p0 p1 p2=some r):Au J 101 [iV p0,iV p1,iV p2] E [] (fun w E' B'=>w= .bool r∧B'= []):=by
 refine Au.en func101 rfl rfl fun Q aj cs H O ac=>?_;unfold f101 at K;obtain⟨ae,U,ag⟩:=bs K;refine JL.go 10 rfl ?_;refine JL.By [8] (fun L s=>∃(W:LH),Jm E H W [] [(14,.bool ae)] L s) ?_ ?_
 ·rintro _ _ ⟨W,rfl,rfl,ah,ai⟩;refine JL.go 2 rfl ?_;obtain rfl:=oi ag;refine JL.rt func101 rfl rfl ?_;exact ac _ _ _ _ ah rfl ⟨rfl,rfl⟩ ai
 ·intro Z;refine JL.BP (q:=p0<p1) (i:=10) rfl (fun A=>?_) (fun A=>?_)
  ·have aa:=U;rw [if_pos A] at aa;refine JL.go 4 rfl ?_;obtain rfl:=oi aa;exact JL.kw (Z _ _ ⟨E,rfl,rfl,(Le.refl _),O⟩) rfl
  ·have ab:=U;rw [if_neg A] at ab;refine JL.go 4 rfl ?_;obtain rfl:=oi ab;exact JL.kw (Z _ _ ⟨E,rfl,rfl,(Le.refl _),O⟩) rfl
def f104(fuel:Nat)(p0:Int)(p1:Int)(p2:Int):Option (Bool):=
 Option.bind (
  if p1≤p0 then(
   some (decide (p0≤p2))
  ) else(
   some false
  )
 ) fun A=>
 some A
def HJ(fuel:Nat)(p0:List Int)(p1:Int)(A:Int):Option (AU (Int) ((Int)⊕(Unit))):=
 if A<((p0).length:Int) then(
  (ix p0 (A)).bind fun K=>
  if K=p1 then(
   some (.done (Sum.inl A))
  ) else(
   (Aw (A+1)).bind fun O=>
   some (.more O)
  )
 ) else(
  some (.done (Sum.inr ()))
 )
def f107(fuel:Nat)(p0:List Int)(p1:Int):Option (Int):=
 Option.bind (iter (HJ fuel p0 p1) fuel 0) fun A=>
 Sum.elim (fun r=>some r) (fun K=>
 some (-1)
 ) A
theorem Q7{K:Option Addr}{c2:Nat}{p0:List Int}{p1:Int}(av:Ar rI E K c2 (p0)){fuel:Nat}{r:Int}(ag:f107 fuel p0 p1=some r):Au J 107 [.slice K (p0).length c2,iV p1] E [] (fun w E' B'=>w=iV r∧B'= []):=by
 refine Au.en func107 rfl rfl fun Q aM cs H aw ah=>?_;unfold f107 at ag;obtain⟨ai,ay,aj⟩:=bs ag;refine JL.go 9 rfl ?_;refine JL.join (fun L s=>∃(ak:Unit) (al:LH),ai=Sum.inr ak∧Jm E H al [] [] L s) ?_ ?_
 ·rintro _ _ ⟨ak,al,rfl,rfl,rfl,az,aA⟩;have aB:=elim_inr aj;refine JL.go 4 rfl ?_;obtain rfl:=oi aB;refine JL.rt func107 rfl rfl ?_;exact ah _ _ _ _ az rfl ⟨rfl,rfl⟩ aA
 ·intro aC;refine JL.block ?_;refine JL.wk [(0,.slice K (p0).length c2),(1,iV p1),(5,iV 0)] rfl ?_;refine JL.Bg ay (fun L s W=>∃(A:LH),Jm E H A [] [(0,.slice K (p0).length c2),(1,iV p1),(5,iV W)] L s) ⟨E,rfl,rfl,(Le.refl _),aw⟩ ?_;rintro _ _ W ⟨A,rfl,rfl,O,Z⟩ am ⟨aN,U⟩ aD;have aa:=U;unfold HJ at aa;refine JL.go 5 rfl ?_;refine JL.Y rfl (fun ρ h=>Yl.len rfl underlying28 (h _ _ rfl)) ?_;refine JL.go 2 rfl ?_;refine JL.ifs (p:=W<((p0).length:Int)) rfl (fun ab=>?_) (fun ab=>?_)
  ·have an:=aa;rw [if_pos ab] at an;obtain⟨ao,aE,ap⟩:=bs an;refine JL.go 7 rfl ?_;refine JS.BH (av.mono O) aE rfl rfl rfl rfl rfl underlying28 (Ah type3) ?_;rintro aF aG _ rfl ac;replace ac:At A aF aG [iV ao]:=ac;refine JL.ld 0 ac (Ao underlying3) rfl rfl rfl ?_;refine JL.go 3 rfl ?_;refine JL.ifs (p:=ao=p1) rfl (fun ae=>?_) (fun ae=>?_)
   ·have aq:=ap;rw [if_pos ae] at aq;refine JL.go 5 rfl ?_;obtain rfl:=oi aq;obtain rfl:=am _ U;have aH:=elim_inl aj;obtain rfl:=oi aH;refine JL.rt func107 rfl rfl ?_;exact ah _ _ _ _ O rfl ⟨rfl,rfl⟩ Z
   ·have ar:=ap;rw [if_neg ae] at ar;obtain⟨aI,aJ,aK⟩:=bs ar;refine JL.go 4 rfl ?_;refine JL.Y rfl (fun ρ h=>Yl.A1 (h _ _ rfl) (h _ _ rfl) aJ) ?_;refine JL.go 2 rfl ?_;obtain rfl:=oi aK;exact JL.kw (aD _ _ aI ⟨A,rfl,rfl,O,Z⟩ U) rfl
  ·have au:=aa;rw [if_neg ab] at au;refine JL.exit rfl ?_;obtain rfl:=oi au;have aL:ai=(Sum.inr ()):=(am _ U).symm;exact JL.kw (aC _ _ ⟨(),A,aL,rfl,rfl,O,Z⟩) rfl
def f53(fuel:Nat)(p0:List Int)(p1:Int):Option (Bool):=
 (f107 fuel p0 p1).bind fun A=>
 some (decide (0≤A))
theorem MY{A:Option Addr}{c2:Nat}{p0:List Int}{p1:Int}(O:Ar rI E A c2 (p0)){fuel:Nat}{r:Bool}(K:f53 fuel p0 p1=some r):Au J 53 [.slice A (p0).length c2,iV p1] E [] (fun w E' B'=>w= .bool r∧B'= []):=by
 refine Au.en func53 rfl rfl fun Q ae cs H U W=>?_;unfold f53 at K;obtain⟨ag,Z,aa⟩:=bs K;refine JL.go 8 rfl ?_;refine JS.cl (Q7 O Z) rfl rfl (Ay func107 rfl) U ?_;rintro _ ah _ ab ⟨rfl,rfl⟩ ac;refine JL.go 3 rfl ?_;obtain rfl:=oi aa;refine JL.rt func53 rfl rfl ?_;exact W _ _ _ _ ab rfl ⟨rfl,rfl⟩ ac
def Mk(fuel:Nat)(p0:List Int)(p1:List Int)(A:Int):Option (AU (Int) ((Bool)⊕(Unit))):=
 Option.bind (
  if A<((p0).length:Int) then(
   some (decide (A<((p1).length:Int)))
  ) else(
   some false
  )
 ) fun K=>
 if K=true then(
  (ix p0 (A)).bind fun O=>
  (ix p1 (A)).bind fun U=>
  if O≠U then(
   some (.done (Sum.inl false))
  ) else(
   (Aw (A+1)).bind fun W=>
   some (.more W)
  )
 ) else(
  some (.done (Sum.inr ()))
 )
def f32(fuel:Nat)(p0:List Int)(p1:List Int):Option (Bool):=
 Option.bind (iter (Mk fuel p0 p1) fuel 0) fun A=>
 Sum.elim (fun r=>some r) (fun K=>
 some (decide (((p0).length:Int)=((p1).length:Int)))
 ) A
theorem Js{A:Option Addr}{c2:Nat}{K:Option Addr}{O:Nat}{p0:List Int}{p1:List Int}(aK:Ar rI E A c2 (p0))(aL:Ar rI E K O (p1)){fuel:Nat}{r:Bool}(al:f32 fuel p0 p1=some r):Au J 32 [.slice A (p0).length c2,.slice K (p1).length O] E [] (fun w E' B'=>w= .bool r∧B'= []):=by
 refine Au.en func32 rfl rfl fun Q a5 cs H aM am=>?_;unfold f32 at al;obtain⟨an,aN,ao⟩:=bs al;refine JL.go 9 rfl ?_;refine JL.join (fun L s=>∃(ap:Unit) (aq:LH),an=Sum.inr ap∧Jm E H aq [] [(0,.slice A (p0).length c2),(1,.slice K (p1).length O)] L s) ?_ ?_
 ·rintro _ _ ⟨ap,aq,rfl,rfl,rfl,aO,aP⟩;have aQ:=elim_inr ao;refine JL.go 3 rfl ?_;refine JL.Y rfl (fun ρ h=>Yl.len rfl underlying28 (h _ _ rfl)) ?_;refine JL.go 1 rfl ?_;refine JL.Y rfl (fun ρ h=>Yl.len rfl underlying28 (h _ _ rfl)) ?_;refine JL.go 3 rfl ?_;obtain rfl:=oi aQ;refine JL.rt func32 rfl rfl ?_;exact am _ _ _ _ aO rfl ⟨rfl,rfl⟩ aP
 ·intro aR;refine JL.block ?_;refine JL.wk [(0,.slice A (p0).length c2),(1,.slice K (p1).length O),(5,iV 0)] rfl ?_;refine JL.Bg aN (fun L s ab=>∃(W:LH),Jm E H W [] [(0,.slice A (p0).length c2),(1,.slice K (p1).length O),(5,iV ab)] L s) ⟨E,rfl,rfl,(Le.refl _),aM⟩ ?_;rintro _ _ ab ⟨W,rfl,rfl,Z,ar⟩ au ⟨a6,ac⟩ aS;have av:=ac;unfold Mk at av;refine JL.go 5 rfl ?_;refine JL.Y rfl (fun ρ h=>Yl.len rfl underlying28 (h _ _ rfl)) ?_;obtain⟨aw,ay,az⟩:=bs av;refine JL.go 2 rfl ?_;refine JL.By [] (fun L s=>∃(U:LH),Jm W H U [] [(0,.slice A (p0).length c2),(1,.slice K (p1).length O),(5,iV ab),(15,.bool aw)] L s) ?_ ?_
  ·rintro _ _ ⟨U,rfl,rfl,aa,ae⟩;refine JL.done ?_;refine JL.split (t:=aw) rfl (fun ag=>?_) (fun ag=>?_)
   ·have aA:=az;rw [if_pos ag] at aA;refine JL.go 4 rfl ?_;refine JG.CQ 8 mixed rfl (by decide+kernel) fun ht=>?_;refine JG.mv 0 ht rfl rfl ?_;refine JG.mv 1 ht rfl rfl ?_;obtain⟨aB,aT,aU⟩:=bs aA;refine JG.idx 2 (aK.mono (Z.trans aa)) aT rfl ht (by decide+kernel) rfl rfl rfl rfl rfl underlying28 (Ah type3) ?_;rintro aV aW _ rfl ah;replace ah:At U aV aW [iV aB]:=ah;refine JG.ld 3 ht 0 ah (Ao underlying3) rfl rfl rfl rfl ?_;refine JG.mv 4 ht rfl rfl ?_;refine JG.mv 5 ht rfl rfl ?_;obtain⟨aC,aX,aD⟩:=bs aU;refine JG.idx 6 (aL.mono (Z.trans aa)) aX rfl ht (by decide+kernel) rfl rfl rfl rfl rfl underlying28 (Ah type3) ?_;rintro aY aZ _ rfl ai;replace ai:At U aY aZ [iV aC]:=ai;refine JG.ld 7 ht 0 ai (Ao underlying3) rfl rfl rfl rfl ?_;refine Av.leaf (tail:= [8]) (by decide+kernel) (fun t=>A3 (by decide+kernel) BE t) ?_;refine JL.go 2 rfl ?_;refine JL.ifs (p:=aB≠aC) rfl (fun aj=>?_) (fun aj=>?_)
    ·have aE:=aD;rw [if_pos aj] at aE;refine JL.go 4 rfl ?_;obtain rfl:=oi aE;obtain rfl:=au _ ac;have a0:=elim_inl ao;obtain rfl:=oi a0;refine JL.rt func32 rfl rfl ?_;exact am _ _ _ _ (Z.trans aa) rfl ⟨rfl,rfl⟩ ae
    ·have aF:=aD;rw [if_neg aj] at aF;obtain⟨a1,a2,a3⟩:=bs aF;refine JL.go 4 rfl ?_;refine JL.Y rfl (fun ρ h=>Yl.A1 (h _ _ rfl) (h _ _ rfl) a2) ?_;refine JL.go 2 rfl ?_;obtain rfl:=oi a3;exact JL.kw (aS _ _ a1 ⟨U,rfl,rfl,(Z.trans aa),ae⟩ ac) rfl
   ·have aG:=az;rw [if_neg (by rw [ag];exact Bool.false_ne_true)] at aG;refine JL.exit rfl ?_;obtain rfl:=oi aG;have a4:an=(Sum.inr ()):=(au _ ac).symm;exact JL.kw (aR _ _ ⟨(),U,a4,rfl,rfl,(Z.trans aa),ae⟩) rfl
  ·intro aH;refine JL.BP (q:=ab<((p0).length:Int)) (i:=10) rfl (fun ak=>?_) (fun ak=>?_)
   ·have aI:=ay;rw [if_pos ak] at aI;refine JL.go 2 rfl ?_;refine JL.Y rfl (fun ρ h=>Yl.len rfl underlying28 (h _ _ rfl)) ?_;refine JL.go 2 rfl ?_;obtain rfl:=oi aI;exact JL.kw (aH _ _ ⟨W,rfl,rfl,(Le.refl _),ar⟩) rfl
   ·have aJ:=ay;rw [if_neg ak] at aJ;refine JL.go 5 rfl ?_;obtain rfl:=oi aJ;exact JL.kw (aH _ _ ⟨W,rfl,rfl,(Le.refl _),ar⟩) rfl
def QM(fuel:Nat)(p0:List (List Int))(p1:List (List Int))(A:Int):Option (AU (Int) ((Bool)⊕(Unit))):=
 Option.bind (
  if A<((p0).length:Int) then(
   some (decide (A<((p1).length:Int)))
  ) else(
   some false
  )
 ) fun K=>
 if K=true then(
  (ix p0 (A)).bind fun O=>
  (ix p1 (A)).bind fun U=>
  (f32 fuel O U).bind fun W=>
  if(!W)=true then(
   some (.done (Sum.inl false))
  ) else(
   (Aw (A+1)).bind fun Z=>
   some (.more Z)
  )
 ) else(
  some (.done (Sum.inr ()))
 )
def f84(fuel:Nat)(p0:List (List Int))(p1:List (List Int)):Option (Bool):=
 Option.bind (iter (QM fuel p0 p1) fuel 0) fun A=>
 Sum.elim (fun r=>some r) (fun K=>
 some (decide (((p0).length:Int)=((p1).length:Int)))
 ) A
def f23(fuel:Nat)(p0:List Int):Option (((List Int)×Int×Nat)):=
 some (p0,0,2685821657736338717)
theorem Rt{A:Option Addr}{c2:Nat}{p0:List Int}(Z:Ar rI E A c2 (p0)){fuel:Nat}{r:((List Int)×Int×Nat)}(K:f23 fuel p0=some r):Au J 23 [.slice A (p0).length c2] E [] (fun w E' B'=>∃(O:Nat) (U:Option Addr) (W:Nat),w= .pointer (some ⟨O,0,none⟩)∧B'= [(O,.cells #[.slice U (r.1).length W,iV r.2.1,.int .u64 ((r.2.2:Nat):Int)] 92 (0,0))]∧Ar rI E' U W (r.1)):=by
 refine Au.en func23 rfl rfl fun Q ag cs H aa ab=>?_;unfold f23 at K;refine JL.go 7 rfl ?_;refine JL.Y (v:= .agg #[.slice A (p0).length c2,iV 0,.int .u64 ((2685821657736338717:Nat):Int)]) rfl (fun ρ h=>Yl.B4 [(0,1),(1,1),(2,1)] h (AN type92) underlying92 ⟨rfl,Ah type28,rfl,Ah type3,rfl,Ah type90,trivial⟩ rfl rfl) ?_;refine JS.box (v:= .agg #[.slice A (p0).length c2,iV 0,.int .u64 ((2685821657736338717:Nat):Int)]) rfl rfl rfl aa rfl fun ac ae=>?_;refine JL.go 2 rfl ?_;obtain rfl:=oi K;refine JL.rt func23 rfl rfl ?_;exact ab _ _ _ _ (Le.refl _) rfl ⟨ac,A,c2,rfl,(by first | rfl | simp | (simp [Value.cells])),Z⟩ ae
def f100(fuel:Nat)(p0:(List Int)×Int×Nat):Option (Nat×((List Int)×Int×Nat)):=
 (Aw (p0.2.1+1)).bind fun K=>
 Option.bind (
  if K≤((p0.1).length:Int) then(
   (Aw (K - 1)).bind fun O=>
   (ix p0.1 (O)).bind fun U=>
   some (((((BQ K)*11400714819323198485) % 2 ^ 64) ^^^ (((BQ U)*14029467366897019727) % 2 ^ 64)) % 2 ^ 64)
  ) else(
   some (((BQ K)*11400714819323198485) % 2 ^ 64)
  )
 ) fun A=>
 some (((((((((((p0.2.2 ^^^ A) % 2 ^ 64)*18397679294719823053) % 2 ^ 64) ^^^ (((((p0.2.2 ^^^ A) % 2 ^ 64)*18397679294719823053) % 2 ^ 64)>>>33)) % 2 ^ 64)*14181476777654086739) % 2 ^ 64) ^^^ (((((((((p0.2.2 ^^^ A) % 2 ^ 64)*18397679294719823053) % 2 ^ 64) ^^^ (((((p0.2.2 ^^^ A) % 2 ^ 64)*18397679294719823053) % 2 ^ 64)>>>33)) % 2 ^ 64)*14181476777654086739) % 2 ^ 64)>>>29)) % 2 ^ 64)>>>11,(p0.1,K,(((((p0.2.2 ^^^ A) % 2 ^ 64)*18397679294719823053) % 2 ^ 64) ^^^ (((((p0.2.2 ^^^ A) % 2 ^ 64)*18397679294719823053) % 2 ^ 64)>>>33)) % 2 ^ 64))
theorem Qc{U:Nat}{W:Option Addr}{c2:Nat}{p0:(List Int)×Int×Nat}(ae:Ar rI E W c2 (p0.1)){fuel:Nat}{r:Nat×((List Int)×Int×Nat)}(ag:f100 fuel p0=some r):Au J 100 [.pointer (some ⟨U,0,none⟩)] E [(U,.cells #[.slice W (p0.1).length c2,iV p0.2.1,.int .u64 ((p0.2.2:Nat):Int)] 92 (0,0))] (fun w E' B'=>∃(ah:Option Addr) (ai:Nat),w= .int .u64 ((r.1:Nat):Int)∧B'= [(U,.cells #[.slice ah (r.2.1).length ai,iV r.2.2.1,.int .u64 ((r.2.2.2:Nat):Int)] 92 (0,0))]∧Ar rI E' ah ai (r.2.1)):=by
 refine Au.en func100 rfl rfl fun Q aG cs H aj au=>?_;unfold f100 at ag;refine JL.go 8 rfl ?_;refine JL.fd underlying92 (Ah type3) rfl rfl rfl ?_;refine JL.Y (v:=iV p0.2.1) rfl (fun ρ h=>Yl.load (Ao underlying3) (h _ _ rfl) (Ci (j:=0) (off:=1) aj rfl rfl)) ?_;obtain⟨K,av,aw⟩:=bs ag;refine JL.Y rfl (fun ρ h=>Yl.A1 (h _ _ rfl) (h _ _ rfl) av) ?_;refine JL.go 1 rfl ?_;refine JL.fd underlying92 (Ah type3) rfl rfl rfl ?_;refine JS.st (v:=iV K) (off:=1) 0 aj (Ah type3) rfl rfl rfl rfl fun O=>?_;refine JL.go 5 rfl ?_;refine JL.fd underlying92 (Ah type3) rfl rfl rfl ?_;refine JL.Y (v:=iV K) rfl (fun ρ h=>Yl.load (Ao underlying3) (h _ _ rfl) (Ci (j:=0) (off:=1) O rfl rfl)) ?_;refine JL.Y (v:= .int .u64 ((BQ K:Nat):Int)) rfl (fun ρ h=>Yl.BQ underlying3 underlying90 (h _ _ rfl)) ?_;refine JL.Y (v:= .int .u64 ((((BQ K)*11400714819323198485) % 2 ^ 64:Nat):Int)) rfl (fun ρ h=>Yl.Ir (h _ _ rfl) (h _ _ rfl)) ?_;refine JL.go 4 rfl ?_;refine JG.BX 9 [U] ⟨⟨0,_,rfl⟩,trivial⟩ O mixed rfl (by decide+kernel) fun ht=>?_;refine JG.mv 0 ht rfl rfl ?_;refine JG.mv 1 ht rfl rfl ?_;refine JG.fd 2 ht underlying92 (Ah type3) rfl rfl rfl rfl ?_;refine JG.V (v:=iV K) 3 ht rfl rfl (fun ρ h s' hs=>Yl.load (Ao underlying3) (h _ _ rfl) (Bb (o:=1) 0 O rfl (by simp [AD]) hs rfl)) ?_;refine JG.mv 4 ht rfl rfl ?_;refine JG.mv 5 ht rfl rfl ?_;refine JG.fd 6 ht underlying92 (Ah type28) rfl rfl rfl rfl ?_;refine JG.V (v:= .slice W (p0.1).length c2) 7 ht rfl rfl (fun ρ h s' hs=>Yl.load (Ao underlying28) (h _ _ rfl) (Bb (o:=0) 0 O rfl (by simp [AD]) hs rfl)) ?_;refine JG.V 8 ht rfl rfl (fun ρ h s' hs=>Yl.len rfl underlying28 (h _ _ rfl)) ?_;refine Av.leaf (tail:= [9]) (by decide+kernel) (fun t=>A3 (by decide+kernel) BE t) ?_;obtain⟨A,ak,ay⟩:=bs aw;refine JL.go 2 rfl ?_;refine JL.join (fun L s=>∃(al:LH),Jm E H al [[(U,.cells #[.slice W (p0.1).length c2,iV K,.int .u64 ((p0.2.2:Nat):Int)] 92 (0,0))]] [(0,.pointer (some ⟨U,0,none⟩)),(3,.int .u64 ((A:Nat):Int))] L s) ?_ ?_
 ·rintro _ _ ⟨al,rfl,rfl,am,an⟩;refine JL.go 5 rfl ?_;refine JL.fd underlying92 (Ah type90) rfl rfl rfl ?_;refine JL.Y (v:= .int .u64 ((p0.2.2:Nat):Int)) rfl (fun ρ h=>Yl.load (Ao underlying90) (h _ _ rfl) (Ci (j:=0) (off:=2) an rfl rfl)) ?_;refine JL.go 1 rfl ?_;refine JL.Y (v:= .int .u64 (((p0.2.2 ^^^ A) % 2 ^ 64:Nat):Int)) rfl (fun ρ h=>Yl.Im (h _ _ rfl) (h _ _ rfl)) ?_;refine JL.Y (v:= .int .u64 (((((p0.2.2 ^^^ A) % 2 ^ 64)*18397679294719823053) % 2 ^ 64:Nat):Int)) rfl (fun ρ h=>Yl.Ir (h _ _ rfl) (h _ _ rfl)) ?_;refine JL.go 1 rfl ?_;refine JL.fd underlying92 (Ah type90) rfl rfl rfl ?_;refine JS.st (v:= .int .u64 (((((p0.2.2 ^^^ A) % 2 ^ 64)*18397679294719823053) % 2 ^ 64:Nat):Int)) (off:=2) 0 an (Ah type90) rfl rfl rfl rfl fun aa=>?_;refine JL.go 2 rfl ?_;refine JG.BX 11 [U] ⟨⟨0,_,rfl⟩,trivial⟩ aa mixed rfl (by decide+kernel) fun ht=>?_;refine JG.mv 0 ht rfl rfl ?_;refine JG.mv 1 ht rfl rfl ?_;refine JG.mv 2 ht rfl rfl ?_;refine JG.fd 3 ht underlying92 (Ah type90) rfl rfl rfl rfl ?_;refine JG.V (v:= .int .u64 (((((p0.2.2 ^^^ A) % 2 ^ 64)*18397679294719823053) % 2 ^ 64:Nat):Int)) 4 ht rfl rfl (fun ρ h s' hs=>Yl.load (Ao underlying90) (h _ _ rfl) (Bb (o:=2) 0 aa rfl (by simp [AD]) hs rfl)) ?_;refine JG.mv 5 ht rfl rfl ?_;refine JG.mv 6 ht rfl rfl ?_;refine JG.fd 7 ht underlying92 (Ah type90) rfl rfl rfl rfl ?_;refine JG.V (v:= .int .u64 (((((p0.2.2 ^^^ A) % 2 ^ 64)*18397679294719823053) % 2 ^ 64:Nat):Int)) 8 ht rfl rfl (fun ρ h s' hs=>Yl.load (Ao underlying90) (h _ _ rfl) (Bb (o:=2) 0 aa rfl (by simp [AD]) hs rfl)) ?_;refine JG.V (v:= .int .u64 ((((((p0.2.2 ^^^ A) % 2 ^ 64)*18397679294719823053) % 2 ^ 64)>>>33:Nat):Int)) 9 ht rfl rfl (fun ρ h s' hs=>Yl.Gy 33 (h _ _ rfl) (h _ _ rfl) (by decide)) ?_;refine JG.V (v:= .int .u64 (((((((p0.2.2 ^^^ A) % 2 ^ 64)*18397679294719823053) % 2 ^ 64) ^^^ (((((p0.2.2 ^^^ A) % 2 ^ 64)*18397679294719823053) % 2 ^ 64)>>>33)) % 2 ^ 64:Nat):Int)) 10 ht rfl rfl (fun ρ h s' hs=>Yl.Im (h _ _ rfl) (h _ _ rfl)) ?_;refine Av.leaf (tail:= [11,12,13]) (by decide+kernel) (fun t=>A3 (by decide+kernel) (A3 (by decide+kernel) (A3 (by decide+kernel) BE)) t) ?_;refine JL.go 1 rfl ?_;refine JL.fd underlying92 (Ah type90) rfl rfl rfl ?_;refine JS.st (v:= .int .u64 (((((((p0.2.2 ^^^ A) % 2 ^ 64)*18397679294719823053) % 2 ^ 64) ^^^ (((((p0.2.2 ^^^ A) % 2 ^ 64)*18397679294719823053) % 2 ^ 64)>>>33)) % 2 ^ 64:Nat):Int)) (off:=2) 0 aa (Ah type90) rfl rfl rfl rfl fun az=>?_;refine JS.norm (S':= [[(U,.cells #[.slice W (p0.1).length c2,iV K,.int .u64 (((((((p0.2.2 ^^^ A) % 2 ^ 64)*18397679294719823053) % 2 ^ 64) ^^^ (((((p0.2.2 ^^^ A) % 2 ^ 64)*18397679294719823053) % 2 ^ 64)>>>33)) % 2 ^ 64:Nat):Int)] 92 (0,0))]]) rfl az fun ao=>?_;refine JL.go 5 rfl ?_;refine JL.fd underlying92 (Ah type90) rfl rfl rfl ?_;refine JL.Y (v:= .int .u64 (((((((p0.2.2 ^^^ A) % 2 ^ 64)*18397679294719823053) % 2 ^ 64) ^^^ (((((p0.2.2 ^^^ A) % 2 ^ 64)*18397679294719823053) % 2 ^ 64)>>>33)) % 2 ^ 64:Nat):Int)) rfl (fun ρ h=>Yl.load (Ao underlying90) (h _ _ rfl) (Ci (j:=0) (off:=2) ao rfl rfl)) ?_;refine JL.Y (v:= .int .u64 (((((((((p0.2.2 ^^^ A) % 2 ^ 64)*18397679294719823053) % 2 ^ 64) ^^^ (((((p0.2.2 ^^^ A) % 2 ^ 64)*18397679294719823053) % 2 ^ 64)>>>33)) % 2 ^ 64)*14181476777654086739) % 2 ^ 64:Nat):Int)) rfl (fun ρ h=>Yl.Ir (h _ _ rfl) (h _ _ rfl)) ?_;refine JL.go 6 rfl ?_;refine JL.Y (v:= .int .u64 ((((((((((p0.2.2 ^^^ A) % 2 ^ 64)*18397679294719823053) % 2 ^ 64) ^^^ (((((p0.2.2 ^^^ A) % 2 ^ 64)*18397679294719823053) % 2 ^ 64)>>>33)) % 2 ^ 64)*14181476777654086739) % 2 ^ 64)>>>29:Nat):Int)) rfl (fun ρ h=>Yl.Gy 29 (h _ _ rfl) (h _ _ rfl) (by decide)) ?_;refine JL.Y (v:= .int .u64 (((((((((((p0.2.2 ^^^ A) % 2 ^ 64)*18397679294719823053) % 2 ^ 64) ^^^ (((((p0.2.2 ^^^ A) % 2 ^ 64)*18397679294719823053) % 2 ^ 64)>>>33)) % 2 ^ 64)*14181476777654086739) % 2 ^ 64) ^^^ (((((((((p0.2.2 ^^^ A) % 2 ^ 64)*18397679294719823053) % 2 ^ 64) ^^^ (((((p0.2.2 ^^^ A) % 2 ^ 64)*18397679294719823053) % 2 ^ 64)>>>33)) % 2 ^ 64)*14181476777654086739) % 2 ^ 64)>>>29)) % 2 ^ 64:Nat):Int)) rfl (fun ρ h=>Yl.Im (h _ _ rfl) (h _ _ rfl)) ?_;refine JL.Y (v:= .int .u64 ((((((((((((p0.2.2 ^^^ A) % 2 ^ 64)*18397679294719823053) % 2 ^ 64) ^^^ (((((p0.2.2 ^^^ A) % 2 ^ 64)*18397679294719823053) % 2 ^ 64)>>>33)) % 2 ^ 64)*14181476777654086739) % 2 ^ 64) ^^^ (((((((((p0.2.2 ^^^ A) % 2 ^ 64)*18397679294719823053) % 2 ^ 64) ^^^ (((((p0.2.2 ^^^ A) % 2 ^ 64)*18397679294719823053) % 2 ^ 64)>>>33)) % 2 ^ 64)*14181476777654086739) % 2 ^ 64)>>>29)) % 2 ^ 64)>>>11:Nat):Int)) rfl (fun ρ h=>Yl.Gy 11 (h _ _ rfl) (h _ _ rfl) (by decide)) ?_;refine JL.go 2 rfl ?_;obtain rfl:=oi ay;refine JL.rt func100 rfl rfl ?_;exact au _ _ _ _ am rfl ⟨W,c2,rfl,rfl,(ae.mono am)⟩ ao
 ·intro ap;refine JL.ifs (p:=K≤((p0.1).length:Int)) rfl (fun ab=>?_) (fun ab=>?_)
  ·have aq:=ak;rw [if_pos ab] at aq;refine JG.BX 14 [U] ⟨⟨0,_,rfl⟩,trivial⟩ O mixed rfl (by decide+kernel) fun ht=>?_;refine JG.mv 0 ht rfl rfl ?_;refine JG.mv 1 ht rfl rfl ?_;refine JG.mv 2 ht rfl rfl ?_;refine JG.fd 3 ht underlying92 (Ah type28) rfl rfl rfl rfl ?_;refine JG.V (v:= .slice W (p0.1).length c2) 4 ht rfl rfl (fun ρ h s' hs=>Yl.load (Ao underlying28) (h _ _ rfl) (Bb (o:=0) 0 O rfl (by simp [AD]) hs rfl)) ?_;refine JG.mv 5 ht rfl rfl ?_;refine JG.mv 6 ht rfl rfl ?_;refine JG.fd 7 ht underlying92 (Ah type3) rfl rfl rfl rfl ?_;refine JG.V (v:=iV K) 8 ht rfl rfl (fun ρ h s' hs=>Yl.load (Ao underlying3) (h _ _ rfl) (Bb (o:=1) 0 O rfl (by simp [AD]) hs rfl)) ?_;obtain⟨aH,aA,aB⟩:=bs aq;refine JG.V 9 ht rfl rfl (fun ρ h s' hs=>Yl.A4 (h _ _ rfl) (h _ _ rfl) aA) ?_;obtain⟨Z,aC,aD⟩:=bs aB;refine JG.idx 10 ae aC rfl ht (by decide+kernel) rfl rfl rfl rfl rfl underlying28 (Ah type3) ?_;rintro aE aF _ rfl ac;replace ac:At E aE aF [iV Z]:=ac;refine JG.V (v:=iV Z) 11 ht rfl rfl (fun ρ h s' hs=>Yl.load (Ao underlying3) (h _ _ rfl) (At.Cq (j:=0) ac (Cs O hs ⟨⟨0,_,rfl⟩,trivial⟩) rfl)) ?_;refine JG.V (v:= .int .u64 ((BQ Z:Nat):Int)) 12 ht rfl rfl (fun ρ h s' hs=>Yl.BQ underlying3 underlying90 (h _ _ rfl)) ?_;refine JG.V (v:= .int .u64 ((((BQ Z)*14029467366897019727) % 2 ^ 64:Nat):Int)) 13 ht rfl rfl (fun ρ h s' hs=>Yl.Ir (h _ _ rfl) (h _ _ rfl)) ?_;refine Av.leaf (tail:= [14,15]) (by decide+kernel) (fun t=>A3 (by decide+kernel) (A3 (by decide+kernel) BE) t) ?_;refine JL.Y (v:= .int .u64 ((((((BQ K)*11400714819323198485) % 2 ^ 64) ^^^ (((BQ Z)*14029467366897019727) % 2 ^ 64)) % 2 ^ 64:Nat):Int)) rfl (fun ρ h=>Yl.Im (h _ _ rfl) (h _ _ rfl)) ?_;refine JL.go 2 rfl ?_;obtain rfl:=oi aD;exact JL.kw (ap _ _ ⟨E,rfl,rfl,(Le.refl _),O⟩) rfl
  ·have ar:=ak;rw [if_neg ab] at ar;refine JL.skip ?_;obtain rfl:=oi ar;exact JL.kw (ap _ _ ⟨E,rfl,rfl,(Le.refl _),O⟩) rfl
def f41(fuel:Nat)(p0:(List Int)×Int×Nat)(p1:Int):Option (Int×((List Int)×Int×Nat)):=
 (f100 fuel p0).bind fun A=>
 if p1<1 then(
  some (0,A.2)
 ) else(
  (Ij (A.1) ((BQ p1+1) % 2 ^ 64)).bind fun K=>
  some (F5 K,A.2)
 )
theorem FW{A:Nat}{O:Option Addr}{c2:Nat}{p0:(List Int)×Int×Nat}{p1:Int}(am:Ar rI E O c2 (p0.1)){fuel:Nat}{r:Int×((List Int)×Int×Nat)}(U:f41 fuel p0 p1=some r):Au J 41 [.pointer (some ⟨A,0,none⟩),iV p1] E [(A,.cells #[.slice O (p0.1).length c2,iV p0.2.1,.int .u64 ((p0.2.2:Nat):Int)] 92 (0,0))] (fun w E' B'=>∃(W:Option Addr) (Z:Nat),w=iV r.1∧B'= [(A,.cells #[.slice W (r.2.1).length Z,iV r.2.2.1,.int .u64 ((r.2.2.2:Nat):Int)] 92 (0,0))]∧Ar rI E' W Z (r.2.1)):=by
 refine Au.en func41 rfl rfl fun Q ar cs H an aa=>?_;unfold f41 at U;obtain⟨au,ao,ab⟩:=bs U;refine JL.go 7 rfl ?_;refine JS.Bw 0 (Qc am ao) rfl rfl (Ay func100 rfl) an rfl ?_;rintro _ av _ ac ⟨ae,ag,rfl,rfl,ah⟩ ai;refine JL.go 8 rfl ?_;refine JL.ifs (p:=p1<1) rfl (fun K=>?_) (fun K=>?_)
 ·have aj:=ab;rw [if_pos K] at aj;refine JL.go 4 rfl ?_;obtain rfl:=oi aj;refine JL.rt func41 rfl rfl ?_;exact aa _ _ _ _ ac rfl ⟨ae,ag,rfl,rfl,ah⟩ ai
 ·have ak:=ab;rw [if_neg K] at ak;refine JL.go 5 rfl ?_;refine JL.Y (v:= .int .u64 ((BQ p1:Nat):Int)) rfl (fun ρ h=>Yl.BQ underlying3 underlying90 (h _ _ rfl)) ?_;refine JL.Y (v:= .int .u64 (((BQ p1+1) % 2 ^ 64:Nat):Int)) rfl (fun ρ h=>Yl.R0 (h _ _ rfl) (h _ _ rfl)) ?_;obtain⟨al,ap,aq⟩:=bs ak;refine JL.Y (v:= .int .u64 ((al:Nat):Int)) rfl (fun ρ h=>Yl.Rj (h _ _ rfl) (h _ _ rfl) ap) ?_;refine JL.Y (v:=iV (F5 al)) rfl (fun ρ h=>Yl.F5 underlying90 underlying3 (h _ _ rfl)) ?_;refine JL.go 2 rfl ?_;obtain rfl:=oi aq;refine JL.rt func41 rfl rfl ?_;exact aa _ _ _ _ ac rfl ⟨ae,ag,rfl,rfl,ah⟩ ai
def f96(fuel:Nat)(p0:(List Int)×Int×Nat)(p1:Int)(p2:Int):Option (Int×((List Int)×Int×Nat)):=
 (Aw (p2 - p1)).bind fun K=>
 (f41 fuel p0 K).bind fun A=>
 (Aw (p1+A.1)).bind fun x14=>
 some (x14,A.2)
theorem MK{A:Nat}{K:Option Addr}{c2:Nat}{p0:(List Int)×Int×Nat}{p1:Int}{p2:Int}(Z:Ar rI E K c2 (p0.1)){fuel:Nat}{r:Int×((List Int)×Int×Nat)}(O:f96 fuel p0 p1 p2=some r):Au J 96 [.pointer (some ⟨A,0,none⟩),iV p1,iV p2] E [(A,.cells #[.slice K (p0.1).length c2,iV p0.2.1,.int .u64 ((p0.2.2:Nat):Int)] 92 (0,0))] (fun w E' B'=>∃(U:Option Addr) (W:Nat),w=iV r.1∧B'= [(A,.cells #[.slice U (r.2.1).length W,iV r.2.2.1,.int .u64 ((r.2.2.2:Nat):Int)] 92 (0,0))]∧Ar rI E' U W (r.2.1)):=by
 refine Au.en func96 rfl rfl fun Q ap cs H aa ab=>?_;unfold f96 at O;obtain⟨aq,ac,ae⟩:=bs O;refine JL.go 10 rfl ?_;refine JL.Y rfl (fun ρ h=>Yl.A4 (h _ _ rfl) (h _ _ rfl) ac) ?_;obtain⟨ar,ag,ah⟩:=bs ae;refine JS.Bw 0 (FW Z ag) rfl rfl (Ay func41 rfl) aa rfl ?_;rintro _ au _ ai ⟨aj,ak,rfl,rfl,al⟩ am;obtain⟨x14,an,ao⟩:=bs ah;refine JL.Y rfl (fun ρ h=>Yl.A1 (h _ _ rfl) (h _ _ rfl) an) ?_;refine JL.go 2 rfl ?_;obtain rfl:=oi ao;refine JL.rt func96 rfl rfl ?_;exact ab _ _ _ _ ai rfl ⟨aj,ak,rfl,rfl,al⟩ am
def f97(fuel:Nat)(p0:(List Int)×Int×Nat)(p1:Int):Option (Bool×((List Int)×Int×Nat)):=
 (Aw (p1 - 1)).bind fun K=>
 (f41 fuel p0 K).bind fun A=>
 some (decide (A.1=0),A.2)
theorem Jv{A:Nat}{K:Option Addr}{c2:Nat}{p0:(List Int)×Int×Nat}{p1:Int}(Z:Ar rI E K c2 (p0.1)){fuel:Nat}{r:Bool×((List Int)×Int×Nat)}(O:f97 fuel p0 p1=some r):Au J 97 [.pointer (some ⟨A,0,none⟩),iV p1] E [(A,.cells #[.slice K (p0.1).length c2,iV p0.2.1,.int .u64 ((p0.2.2:Nat):Int)] 92 (0,0))] (fun w E' B'=>∃(U:Option Addr) (W:Nat),w= .bool r.1∧B'= [(A,.cells #[.slice U (r.2.1).length W,iV r.2.2.1,.int .u64 ((r.2.2.2:Nat):Int)] 92 (0,0))]∧Ar rI E' U W (r.2.1)):=by
 refine Au.en func97 rfl rfl fun Q an cs H aa ab=>?_;unfold f97 at O;obtain⟨ao,ac,ae⟩:=bs O;refine JL.go 8 rfl ?_;refine JL.Y rfl (fun ρ h=>Yl.A4 (h _ _ rfl) (h _ _ rfl) ac) ?_;obtain⟨ap,ag,ah⟩:=bs ae;refine JS.Bw 0 (FW Z ag) rfl rfl (Ay func41 rfl) aa rfl ?_;rintro _ aq _ ai ⟨aj,ak,rfl,rfl,al⟩ am;refine JL.go 3 rfl ?_;obtain rfl:=oi ah;refine JL.rt func97 rfl rfl ?_;exact ab _ _ _ _ ai rfl ⟨aj,ak,rfl,rfl,al⟩ am
def f99(fuel:Nat)(p0:(List Int)×Int×Nat)(p1:List Int):Option (Int×((List Int)×Int×Nat)):=
 (Aw (((p1).length:Int) - 1)).bind fun K=>
 (f41 fuel p0 K).bind fun A=>
 (ix p1 (A.1)).bind fun O=>
 some (O,A.2)
theorem RI{A:Nat}{O:Option Addr}{c2:Nat}{U:Option Addr}{W:Nat}{p0:(List Int)×Int×Nat}{p1:List Int}(ae:Ar rI E O c2 (p0.1))(ag:Ar rI E U W (p1)){fuel:Nat}{r:Int×((List Int)×Int×Nat)}(Z:f99 fuel p0 p1=some r):Au J 99 [.pointer (some ⟨A,0,none⟩),.slice U (p1).length W] E [(A,.cells #[.slice O (p0.1).length c2,iV p0.2.1,.int .u64 ((p0.2.2:Nat):Int)] 92 (0,0))] (fun w E' B'=>∃(aa:Option Addr) (ab:Nat),w=iV r.1∧B'= [(A,.cells #[.slice aa (r.2.1).length ab,iV r.2.2.1,.int .u64 ((r.2.2.2:Nat):Int)] 92 (0,0))]∧Ar rI E' aa ab (r.2.1)):=by
 refine Au.en func99 rfl rfl fun Q aA cs H ah ai=>?_;unfold f99 at Z;refine JL.go 9 rfl ?_;refine JL.Y rfl (fun ρ h=>Yl.len rfl underlying28 (h _ _ rfl)) ?_;obtain⟨aB,aj,ak⟩:=bs Z;refine JL.Y rfl (fun ρ h=>Yl.A4 (h _ _ rfl) (h _ _ rfl) aj) ?_;obtain⟨aC,al,am⟩:=bs ak;refine JS.Bw 0 (FW ae al) rfl rfl (Ay func41 rfl) ah rfl ?_;rintro _ an _ ac ⟨ao,ap,rfl,rfl,aq⟩ ar;obtain⟨au,av,aw⟩:=bs am;refine JS.BH (ag.mono ac) av rfl rfl rfl rfl rfl underlying28 (Ah type3) ?_;rintro ay az _ rfl K;replace K:At an ay az [iV au]:=K;refine JL.ld 0 K (Ao underlying3) rfl rfl rfl ?_;refine JL.go 2 rfl ?_;obtain rfl:=oi aw;refine JL.rt func99 rfl rfl ?_;exact ai _ _ _ _ ac rfl ⟨ao,ap,rfl,rfl,aq⟩ ar
def Gn(fuel:Nat)(p0:List Int)(p1:Int)(A:(List Int)×Bool×Int):Option (AU ((List Int)×Bool×Int) ((List Int)×Bool)):=
 if A.2.2<((p0).length:Int) then(
  (ix p0 (A.2.2)).bind fun O=>
  Option.bind (
   if p1≤O then(
    some (!A.2.1)
   ) else(
    some false
   )
  ) fun U=>
  Option.bind (
   if U=true then(
    (room A.1 p1).bind fun W=>
    some (W,true)
   ) else(
    some (A.1,A.2.1)
   )
  ) fun K=>
  (ix p0 (A.2.2)).bind fun Z=>
  Option.bind (
   if Z≠p1 then(
    (ix p0 (A.2.2)).bind fun aa=>
    (room K.1 aa).bind fun ab=>
    some ab
   ) else(
    some K.1
   )
  ) fun ac=>
  (Aw (A.2.2+1)).bind fun ae=>
  some (.more (ac,K.2,ae))
 ) else(
  some (.done (A.1,A.2.1))
 )
def f98(fuel:Nat)(p0:List Int)(p1:Int):Option ((List Int)):=
 Option.bind (iter (Gn fuel p0 p1) fuel ([],false,0)) fun A=>
 Option.bind (
  if(!A.2)=true then(
   (room A.1 p1).bind fun K=>
   some K
  ) else(
   some A.1
  )
 ) fun O=>
 some O
theorem M0{U:Option Addr}{c2:Nat}{p0:List Int}{p1:Int}(ay:Ar rI E U c2 (p0)){fuel:Nat}{r:(List Int)}(aP:f98 fuel p0 p1=some r):Au J 98 [.slice U (p0).length c2,iV p1] E [] (fun w E' B'=>∃(aQ:Option Addr) (aR:Nat),w= .slice aQ (r).length aR∧B'= []∧Ar rI E' aQ aR (r)):=by
 refine Au.en func98 rfl rfl fun Q cm cs H bl bm=>?_;unfold f98 at aP;obtain⟨ac,bn,bo⟩:=bs aP;refine JL.go 17 rfl ?_;refine JL.join (fun L s=>∃(aa:LH) (ae:Option Addr) (ag:Nat) (an:Seg),Jn E H aa [an] [(1,iV p1),(5,.slice ae (ac.1).length ag),(6,.bool ac.2)] L s (OL 3 rI aa ae ag an (ac.1))) ?_ ?_
 ·rintro _ _ ⟨aa,ae,ag,an,rfl,rfl,bp,aS,aT⟩;refine JL.go 4 rfl ?_;refine JL.Y (v:= .bool (!ac.2)) rfl (fun ρ h=>Yl.not (h _ _ rfl)) ?_;obtain⟨aU,aV,bq⟩:=bs bo;refine JL.done ?_;refine JL.join (fun L s=>∃(az:LH) (ao:Option Addr) (ap:Nat) (aA:Seg),Jn aa H az [aA] [(5,.slice ao (aU).length ap)] L s (OL 3 rI az ao ap aA (aU))) ?_ ?_
  ·rintro _ _ ⟨az,ao,ap,aA,rfl,rfl,br,bu,bv⟩;refine JL.go 5 rfl ?_;refine JS.BA 0 bv bu rfl fun cn bw bx bz=>?_;obtain rfl:=oi bq;refine JL.rt func98 rfl rfl ?_;exact bm _ _ _ _ ((bp.trans br).trans bw) rfl ⟨ao,ap,rfl,rfl,bx⟩ bz
  ·intro aW;refine JL.split (t:=(!ac.2)) rfl (fun aB=>?_) (fun aB=>?_)
   ·have aX:=aV;rw [if_pos aB] at aX;obtain⟨co,bA,bB⟩:=bs aX;refine JL.go 3 rfl ?_;refine JS.app (pp:=rI) (v:=iV p1) (a:=ae) (c:=ag) 0 bA rfl rfl rfl rfl (fun _=>rfl) rfl (fun _=>rfl) rfl rfl rfl underlying28 underlying28 underlying28 (Ah type3) (Cp type3) (AN type3) rfl (by decide) (by decide) (by decide) (by decide) aT rfl aS rfl fun cp bC bD bE bF bG=>?_;refine JL.go 2 rfl ?_;obtain rfl:=oi bB;exact JL.kw (aW _ _ ⟨aa,bC,bD,bE,rfl,rfl,(Le.refl _),bG,bF⟩) rfl
   ·have aY:=aV;rw [if_neg (by rw [aB];exact Bool.false_ne_true)] at aY;refine JL.skip ?_;obtain rfl:=oi aY;exact JL.kw (aW _ _ ⟨aa,ae,ag,an,rfl,rfl,(Le.refl _),aS,aT⟩) rfl
 ·intro bH;refine JL.block ?_;refine JL.wk [(0,.slice U (p0).length c2),(1,iV p1),(5,.slice none 0 0),(6,.bool false),(7,iV 0)] rfl ?_;refine JL.Bg bn (fun L s A=>∃(K:LH) (W:Option Addr) (Z:Nat) (ab:Seg),Jn E H K [ab] [(0,.slice U (p0).length c2),(1,iV p1),(5,.slice W (A.1).length Z),(6,.bool A.2.1),(7,iV A.2.2)] L s (OL 3 rI K W Z ab (A.1))) ⟨E,none,0,[],rfl,rfl,(Le.refl _),bl,OL.nil⟩ ?_;rintro _ _ A ⟨K,W,Z,ab,rfl,rfl,ah,aC,aD⟩ bI ⟨cq,aE⟩ bJ;have aF:=aE;unfold Gn at aF;refine JL.go 5 rfl ?_;refine JL.Y rfl (fun ρ h=>Yl.len rfl underlying28 (h _ _ rfl)) ?_;refine JL.go 2 rfl ?_;refine JL.ifs (p:=A.2.2<((p0).length:Int)) rfl (fun aG=>?_) (fun aG=>?_)
  ·have aZ:=aF;rw [if_pos aG] at aZ;obtain⟨a0,bK,bL⟩:=bs aZ;refine JL.go 8 rfl ?_;refine JS.BH (ay.mono ah) bK rfl rfl rfl rfl rfl underlying28 (Ah type3) ?_;rintro bM bN _ rfl aH;replace aH:At K bM bN [iV a0]:=aH;refine JL.ld 0 aH (Ao underlying3) rfl rfl rfl ?_;obtain⟨a1,a2,bO⟩:=bs bL;refine JL.go 3 rfl ?_;refine JL.By [] (fun L s=>∃(ai:LH),Jm K H ai [ab] [(0,.slice U (p0).length c2),(1,iV p1),(5,.slice W (A.1).length Z),(6,.bool A.2.1),(7,iV A.2.2),(23,.bool a1)] L s) ?_ ?_
   ·rintro _ _ ⟨ai,rfl,rfl,aj,a3⟩;obtain⟨ak,a4,bP⟩:=bs bO;refine JL.done ?_;refine JL.join (fun L s=>∃(O:LH) (al:Option Addr) (am:Nat) (aq:Seg),Jn ai H O [aq] [(0,.slice U (p0).length c2),(1,iV p1),(5,.slice al (ak.1).length am),(6,.bool ak.2),(7,iV A.2.2)] L s (OL 3 rI O al am aq (ak.1))) ?_ ?_
    ·rintro _ _ ⟨O,al,am,aq,rfl,rfl,aI,a5,a6⟩;obtain⟨a7,bQ,bR⟩:=bs bP;refine JL.go 4 rfl ?_;refine JS.BH (ay.mono ((ah.trans aj).trans aI)) bQ rfl rfl rfl rfl rfl underlying28 (Ah type3) ?_;rintro bS bT _ rfl aJ;replace aJ:At O bS bT [iV a7]:=aJ;refine JL.ld 0 aJ (Ao underlying3) rfl rfl rfl ?_;obtain⟨aK,a8,bU⟩:=bs bR;refine JL.go 3 rfl ?_;refine JL.join (fun L s=>∃(ar:LH) (au:Option Addr) (av:Nat) (aw:Seg),Jn O H ar [aw] [(0,.slice U (p0).length c2),(1,iV p1),(5,.slice au (aK).length av),(6,.bool ak.2),(7,iV A.2.2)] L s (OL 3 rI ar au av aw (aK))) ?_ ?_
     ·rintro _ _ ⟨ar,au,av,aw,rfl,rfl,bV,bW,bX⟩;obtain⟨bY,bZ,b0⟩:=bs bU;refine JL.go 3 rfl ?_;refine JL.Y rfl (fun ρ h=>Yl.A1 (h _ _ rfl) (h _ _ rfl) bZ) ?_;refine JL.go 2 rfl ?_;obtain rfl:=oi b0;exact JL.kw (bJ _ _ (aK,ak.2,bY) ⟨ar,au,av,aw,rfl,rfl,(((ah.trans aj).trans aI).trans bV),bW,bX⟩ aE) rfl
     ·intro a9;refine JL.ifs (p:=a7≠p1) rfl (fun aL=>?_) (fun aL=>?_)
      ·have ba:=a8;rw [if_pos aL] at ba;obtain⟨bb,b1,b2⟩:=bs ba;refine JL.go 4 rfl ?_;refine JS.BH (ay.mono ((ah.trans aj).trans aI)) b1 rfl rfl rfl rfl rfl underlying28 (Ah type3) ?_;rintro b3 b4 _ rfl aM;replace aM:At O b3 b4 [iV bb]:=aM;refine JL.ld 0 aM (Ao underlying3) rfl rfl rfl ?_;obtain⟨cr,b5,b6⟩:=bs b2;refine JS.app (pp:=rI) (v:=iV bb) (a:=al) (c:=am) 0 b5 rfl rfl rfl rfl (fun _=>rfl) rfl (fun _=>rfl) rfl rfl rfl underlying28 underlying28 underlying28 (Ah type3) (Cp type3) (AN type3) rfl (by decide) (by decide) (by decide) (by decide) a6 rfl a5 rfl fun ct b7 b8 b9 ca cb=>?_;refine JL.go 2 rfl ?_;obtain rfl:=oi b6;exact JL.kw (a9 _ _ ⟨O,b7,b8,b9,rfl,rfl,(Le.refl _),cb,ca⟩) rfl
      ·have bc:=a8;rw [if_neg aL] at bc;refine JL.skip ?_;obtain rfl:=oi bc;exact JL.kw (a9 _ _ ⟨O,al,am,aq,rfl,rfl,(Le.refl _),a5,a6⟩) rfl
    ·intro bd;refine JL.split (t:=a1) rfl (fun aN=>?_) (fun aN=>?_)
     ·have bf:=a4;rw [if_pos aN] at bf;obtain⟨cu,cc,cd⟩:=bs bf;refine JL.go 3 rfl ?_;refine JS.app (pp:=rI) (v:=iV p1) (a:=W) (c:=Z) 0 cc rfl rfl rfl rfl (fun _=>rfl) rfl (fun _=>rfl) rfl rfl rfl underlying28 underlying28 underlying28 (Ah type3) (Cp type3) (AN type3) rfl (by decide) (by decide) (by decide) (by decide) (aD.mono aj) rfl a3 rfl fun cv ce cf cg ci ck=>?_;refine JL.go 3 rfl ?_;obtain rfl:=oi cd;exact JL.kw (bd _ _ ⟨ai,ce,cf,cg,rfl,rfl,(Le.refl _),ck,ci⟩) rfl
     ·have bg:=a4;rw [if_neg (by rw [aN];exact Bool.false_ne_true)] at bg;refine JL.skip ?_;obtain rfl:=oi bg;exact JL.kw (bd _ _ ⟨ai,W,Z,ab,rfl,rfl,(Le.refl _),a3,(aD.mono aj)⟩) rfl
   ·intro bh;refine JL.BP (q:=p1≤a0) (i:=20) rfl (fun aO=>?_) (fun aO=>?_)
    ·have bi:=a2;rw [if_pos aO] at bi;refine JL.go 1 rfl ?_;refine JL.Y (v:= .bool (!A.2.1)) rfl (fun ρ h=>Yl.not (h _ _ rfl)) ?_;refine JL.go 1 rfl ?_;obtain rfl:=oi bi;exact JL.kw (bh _ _ ⟨K,rfl,rfl,(Le.refl _),aC⟩) rfl
    ·have bj:=a2;rw [if_neg aO] at bj;refine JL.go 3 rfl ?_;obtain rfl:=oi bj;exact JL.kw (bh _ _ ⟨K,rfl,rfl,(Le.refl _),aC⟩) rfl
  ·have bk:=aF;rw [if_neg aG] at bk;refine JL.exit rfl ?_;obtain rfl:=oi bk;obtain rfl:=bI _ aE;exact JL.kw (bH _ _ ⟨K,W,Z,ab,rfl,rfl,ah,aC,aD⟩) rfl
def f27(fuel:Nat)(p0:List (Int×Int)):Option ((List (Int×Int))):=
 (CY ([]:List (Int×Int)) p0).bind fun A=>
 some A
def Qn(fuel:Nat)(p1:Int)(A:(List Int)×Int×Nat×(List Int)×Int):Option (AU ((List Int)×Int×Nat×(List Int)×Int) ((List Int)×(List Int)×Int×Nat)):=
 if A.2.2.2.2<p1 then(
  (f41 fuel (A.1,A.2.1,A.2.2.1) A.2.2.2.2).bind fun K=>
  (room A.2.2.2.1 A.2.2.2.2).bind fun O=>
  (ix O (K.1)).bind fun U=>
  (ix O (A.2.2.2.2)).bind fun Z=>
  (ix (O.set (Int.toNat A.2.2.2.2) U) (K.1)).bind fun aa=>
  (Aw (A.2.2.2.2+1)).bind fun W=>
  some (.more (K.2.1,K.2.2.1,K.2.2.2,((O.set (Int.toNat A.2.2.2.2) U).set (Int.toNat K.1) A.2.2.2.2),W))
 ) else(
  some (.done (A.2.2.2.1,A.1,A.2.1,A.2.2.1))
 )
def f56(fuel:Nat)(p0:(List Int)×Int×Nat)(p1:Int):Option ((List Int)×((List Int)×Int×Nat)):=
 Option.bind (iter (Qn fuel p1) fuel (p0.1,p0.2.1,p0.2.2,[],0)) fun A=>
 some A
def f52(fuel:Nat)(p0:List (Int×Int)):Option (Int):=
 if((p0).length:Int)=0 then(
  some 1
 ) else(
  (Aw (((p0).length:Int) - 1)).bind fun A=>
  (ix p0 (A)).bind fun K=>
  (Aw (K.1+1)).bind fun O=>
  some O
 )
def Pm(fuel:Nat)(p0:(List (List Int))×(List (List Int)))(p1:List Int)(A:Int):Option (AU (Int) ((Int)⊕(Unit))):=
 if A<((p1).length:Int) then(
  (ix p1 (A)).bind fun K=>
  (Aw (((p0.1).length:Int) - 1)).bind fun O=>
  (f104 fuel K 0 O).bind fun U=>
  if(!U)=true then(
   some (.done (Sum.inl 3))
  ) else(
   Option.bind (
    if 0<A then(
     (ix p1 (A)).bind fun W=>
     (Aw (A - 1)).bind fun Z=>
     (ix p1 (Z)).bind fun aa=>
     some (decide (W≤aa))
    ) else(
     some false
    )
   ) fun ab=>
   if ab=true then(
    some (.done (Sum.inl 5))
   ) else(
    (Aw (A+1)).bind fun ac=>
    some (.more ac)
   )
  )
 ) else(
  some (.done (Sum.inr ()))
 )
def f114(fuel:Nat)(p0:(List (List Int))×(List (List Int)))(p1:List Int):Option (Int):=
 if((p1).length:Int)=0 then(
  some 7
 ) else(
  if 3<((p1).length:Int) then(
   some 6
  ) else(
   Option.bind (iter (Pm fuel p0 p1) fuel 0) fun A=>
   Sum.elim (fun r=>some r) (fun K=>
   some 0
   ) A
  )
 )
def Pt(fuel:Nat)(p0:(List (List Int))×(List (List Int)))(p1:Int)(p2:List Int)(A:Int):Option (AU (Int) ((Int)⊕(Unit))):=
 if A<((p2).length:Int) then(
  (ix p2 (A)).bind fun K=>
  (Aw (((p0.1).length:Int) - 1)).bind fun O=>
  (f104 fuel K 0 O).bind fun U=>
  if(!U)=true then(
   some (.done (Sum.inl 3))
  ) else(
   (ix p2 (A)).bind fun W=>
   if W=p1 then(
    some (.done (Sum.inl 8))
   ) else(
    Option.bind (
     if 0<A then(
      (ix p2 (A)).bind fun Z=>
      (Aw (A - 1)).bind fun aa=>
      (ix p2 (aa)).bind fun ab=>
      some (decide (Z≤ab))
     ) else(
      some false
     )
    ) fun ac=>
    if ac=true then(
     some (.done (Sum.inl 5))
    ) else(
     (Aw (A+1)).bind fun ae=>
     some (.more ae)
    )
   )
  )
 ) else(
  some (.done (Sum.inr ()))
 )
def f115(fuel:Nat)(p0:(List (List Int))×(List (List Int)))(p1:Int)(p2:List Int):Option (Int):=
 if 3<((p2).length:Int) then(
  some 6
 ) else(
  Option.bind (iter (Pt fuel p0 p1 p2) fuel 0) fun A=>
  Sum.elim (fun r=>some r) (fun K=>
  some 0
  ) A
 )
def QW(fuel:Nat)(p0:(List (List Int))×(List (List Int)))(A:Int):Option (AU (Int) ((Int)⊕(Unit))):=
 if A<((p0.1).length:Int) then(
  (ix p0.1 (A)).bind fun U=>
  (f114 fuel p0 U).bind fun K=>
  if K≠0 then(
   some (.done (Sum.inl K))
  ) else(
   (ix p0.2 (A)).bind fun W=>
   (f115 fuel p0 A W).bind fun O=>
   if O≠0 then(
    some (.done (Sum.inl O))
   ) else(
    (Aw (A+1)).bind fun Z=>
    some (.more Z)
   )
  )
 ) else(
  some (.done (Sum.inr ()))
 )
def f68(fuel:Nat)(p0:(List (List Int))×(List (List Int))):Option (Int):=
 if((p0.1).length:Int)=0 then(
  some 7
 ) else(
  if 8<((p0.1).length:Int) then(
   some 6
  ) else(
   if((p0.2).length:Int)≠((p0.1).length:Int) then(
    some 9
   ) else(
    Option.bind (iter (QW fuel p0) fuel 0) fun A=>
    Sum.elim (fun r=>some r) (fun K=>
    some 0
    ) A
   )
  )
 )
def Py(fuel:Nat)(p0:(List (List Int))×(List (List Int)))(p1:List Bool)(K:(List Bool)×Int)(A:(List Bool)×Int):Option (AU ((List Bool)×Int) ((List Bool))):=
 (ix p0.1 (K.2)).bind fun U=>
 Option.bind (
  if A.2<((U).length:Int) then(
   (ix p1 (K.2)).bind fun W=>
   some W
  ) else(
   some false
  )
 ) fun Z=>
 if Z=true then(
  (ix p0.1 (K.2)).bind fun aa=>
  (ix aa (A.2)).bind fun O=>
  (ix A.1 (O)).bind fun ac=>
  (Aw (A.2+1)).bind fun ab=>
  some (.more ((A.1.set (Int.toNat O) true),ab))
 ) else(
  some (.done A.1)
 )
def Pr(fuel:Nat)(p0:(List (List Int))×(List (List Int)))(p1:List Bool)(A:(List Bool)×Int):Option (AU ((List Bool)×Int) ((List Bool))):=
 if A.2<((p1).length:Int) then(
  Option.bind (iter (Py fuel p0 p1 A) fuel (A.1,0)) fun K=>
  (Aw (A.2+1)).bind fun O=>
  some (.more (K,O))
 ) else(
  some (.done A.1)
 )
def f119(fuel:Nat)(p0:(List (List Int))×(List (List Int)))(p1:List Bool):Option ((List Bool)):=
 (H9 ((p1).length:Int) (false:Bool)).bind fun A=>
 Option.bind (iter (Pr fuel p0 p1) fuel (A,0)) fun K=>
 some K
def Qi(fuel:Nat)(p0:(List (List Int))×(List (List Int)))(p1:Int)(A:(List Bool)×Int):Option (AU ((List Bool)×Int) ((List Bool))):=
 if A.2<p1 then(
  (f119 fuel p0 A.1).bind fun K=>
  (Aw (A.2+1)).bind fun O=>
  some (.more (K,O))
 ) else(
  some (.done A.1)
 )
def f82(fuel:Nat)(p0:(List (List Int))×(List (List Int)))(p1:Int):Option ((List Bool)):=
 (H9 ((p0.1).length:Int) (false:Bool)).bind fun A=>
 (ix A (0)).bind fun O=>
 Option.bind (iter (Qi fuel p0 p1) fuel ((A.set (Int.toNat 0) true),0)) fun K=>
 some K
def PY(fuel:Nat)(p0:List Int)(p1:Int)(A:Int):Option (AU (Int) ((Bool)⊕(Unit))):=
 if A<((p0).length:Int) then(
  (ix p0 (A)).bind fun K=>
  if K=p1 then(
   some (.done (Sum.inl true))
  ) else(
   (Aw (A+1)).bind fun O=>
   some (.more O)
  )
 ) else(
  some (.done (Sum.inr ()))
 )
def f137(fuel:Nat)(p0:List Int)(p1:Int):Option (Bool):=
 Option.bind (iter (PY fuel p0 p1) fuel 0) fun A=>
 Sum.elim (fun r=>some r) (fun K=>
 some false
 ) A
def Pq(fuel:Nat)(p0:(List (List Int))×(List (List Int)))(p1:List (Int×Int))(p2:Int)(p3:Int)(p4:Int)(A:Int×Int):Option (AU (Int×Int) ((Int)⊕(Int))):=
 if A.2<((p1).length:Int) then(
  Option.bind (
   (ix p1 (A.2)).bind fun K=>
   Option.bind (
    if K.1≠p3 then(
     some true
    ) else(
     some (decide (K.2=p4))
    )
   ) fun O=>
   if O=true then(
    some (Sum.inr A.1)
   ) else(
    Option.bind (
     if A.2=p2 then(
      some true
     ) else(
      (ix p0.2 (p4)).bind fun U=>
      (f137 fuel U K.2).bind fun W=>
      some (!W)
     )
    ) fun Z=>
    if Z=true then(
     some (Sum.inl 100)
    ) else(
     (Aw (A.1+1)).bind fun aa=>
     some (Sum.inr aa)
    )
   )
  ) fun ab=>Sum.elim (fun r=>some (.done (Sum.inl r))) (fun ac=>
  (Aw (A.2+1)).bind fun ae=>
  some (.more (ac,ae))
  ) ab
 ) else(
  some (.done (Sum.inr A.1))
 )
def f118(fuel:Nat)(p0:(List (List Int))×(List (List Int)))(p1:List (Int×Int))(p2:Int)(p3:Int)(p4:Int):Option (Int):=
 Option.bind (iter (Pq fuel p0 p1 p2 p3 p4) fuel (0,0)) fun A=>
 Sum.elim (fun r=>some r) (fun K=>
 some K
 ) A
def O9(fuel:Nat)(p0:(List (List Int))×(List (List Int)))(O:(List Bool))(U:(List Bool))(A:Int)(K:Int):Option (AU (Int) ((Bool)⊕(Unit))):=
 (ix p0.2 (A)).bind fun W=>
 if K<((W).length:Int) then(
  (ix O (A)).bind fun Z=>
  Option.bind (
   if Z=true then(
    (ix p0.2 (A)).bind fun aa=>
    (ix aa (K)).bind fun ab=>
    (ix U (ab)).bind fun ac=>
    some ac
   ) else(
    some false
   )
  ) fun ae=>
  if ae=true then(
   some (.done (Sum.inl true))
  ) else(
   (Aw (K+1)).bind fun ag=>
   some (.more ag)
  )
 ) else(
  some (.done (Sum.inr ()))
 )
def P3(fuel:Nat)(p0:(List (List Int))×(List (List Int)))(K:(List Bool))(O:(List Bool))(A:Int):Option (AU (Int) ((Bool)⊕(Unit))):=
 if A<((K).length:Int) then(
  (ix K (A)).bind fun U=>
  Option.bind (
   if U=true then(
    (ix O (A)).bind fun W=>
    some W
   ) else(
    some false
   )
  ) fun Z=>
  if Z=true then(
   some (.done (Sum.inl true))
  ) else(
   Option.bind (iter (O9 fuel p0 K O A) fuel 0) fun aa=>
   Sum.elim (fun r=>some (.done (Sum.inl r))) (fun ac=>
   (Aw (A+1)).bind fun ab=>
   some (.more ab)
   ) aa
  )
 ) else(
  some (.done (Sum.inr ()))
 )
def f110(fuel:Nat)(p0:(List (List Int))×(List (List Int)))(p1:Int)(p2:Int):Option (Bool):=
 (f82 fuel p0 p1).bind fun A=>
 (f82 fuel p0 p2).bind fun K=>
 Option.bind (iter (P3 fuel p0 A K) fuel 0) fun O=>
 Sum.elim (fun r=>some r) (fun U=>
 some false
 ) O
def QB(fuel:Nat)(p0:(List (List Int))×(List (List Int)))(p1:Int)(A:Int):Option (AU (Int) (Int)):=
 (f110 fuel p0 p1 A).bind fun K=>
 if(!K)=true then(
  (Aw (A+1)).bind fun O=>
  some (.more O)
 ) else(
  some (.done A)
 )
def f58(fuel:Nat)(p0:(List (List Int))×(List (List Int)))(p1:Int):Option (Int×Int):=
 (f68 fuel p0).bind fun A=>
 if A≠0 then(
  some (0,A)
 ) else(
  (f104 fuel p1 0 12).bind fun K=>
  if(!K)=true then(
   some (0,1)
  ) else(
   Option.bind (iter (QB fuel p0 p1) fuel 0) fun O=>
   some (O,0)
  )
 )
def Qe(fuel:Nat)(p0:(List (List Int))×(List (List Int)))(p2:List (List (List Int)))(A:Int×Int×(List Int)×Int)(U:Int)(K:Int):Option (AU (Int) (Int)):=
 (ix p0.1 (A.1)).bind fun W=>
 if K<((W).length:Int) then(
  (ix p0.1 (A.1)).bind fun Z=>
  (ix Z (K)).bind fun O=>
  (ix p2 (A.2.2.2)).bind fun aa=>
  (ix aa (O)).bind fun ab=>
  (ix ab (U)).bind fun ac=>
  if 0<ac then(
   some (.done O)
  ) else(
   (Aw (K+1)).bind fun ae=>
   some (.more ae)
  )
 ) else(
  some (.done A.1)
 )
def Ql(fuel:Nat)(p0:(List (List Int))×(List (List Int)))(p1:List (Int×Int))(p2:List (List (List Int)))(A:Int×Int×(List Int)×Int):Option (AU (Int×Int×(List Int)×Int) ((List Int))):=
 if A.2.2.2<((p2).length:Int) then(
  (Aw (A.2.2.2 - 1)).bind fun U=>
  (f118 fuel p0 p1 (-1) U A.1).bind fun W=>
  (Aw (A.2.1 - W)).bind fun K=>
  Option.bind (iter (Qe fuel p0 p2 A K) fuel 0) fun O=>
  (room A.2.2.1 O).bind fun Z=>
  (Aw (A.2.2.2+1)).bind fun aa=>
  some (.more (O,K,Z,aa))
 ) else(
  some (.done A.2.2.1)
 )
def f83(fuel:Nat)(p0:(List (List Int))×(List (List Int)))(p1:List (Int×Int))(p2:List (List (List Int)))(p3:Int)(p4:Int):Option ((List Int)):=
 Option.bind (iter (Ql fuel p0 p1 p2) fuel (p3,p4,([p3]:List Int),1)) fun A=>
 some A
def Pj(fuel:Nat)(p0:List (List Int))(p1:Int)(A:Int×Int):Option (AU (Int×Int) (Int)):=
 if A.2<((p0).length:Int) then(
  (ix p0 (A.2)).bind fun K=>
  (ix K (p1)).bind fun O=>
  (Aw (A.1+O)).bind fun U=>
  (Aw (A.2+1)).bind fun W=>
  some (.more (U,W))
 ) else(
  some (.done A.1)
 )
def f105(fuel:Nat)(p0:List (List Int))(p1:Int):Option (Int):=
 Option.bind (iter (Pj fuel p0 p1) fuel (0,0)) fun A=>
 some A
def f71(fuel:Nat):Option (((List (List Int))×(List (List Int)))):=
 some (([([1]:List Int),([2]:List Int),([3,4]:List Int),([4]:List Int),([5]:List Int),([5]:List Int)]:List (List Int)),([[],[],[],([2]:List Int),([2,3]:List Int),([3,4]:List Int)]:List (List Int)))
theorem Fy{fuel:Nat}{r:((List (List Int))×(List (List Int)))}(aj:f71 fuel=some r):Au J 71 [] E [] (fun w E' B'=>∃(ak:Option Addr) (al:Nat) (am:Option Addr) (an:Nat),w= .agg #[.slice ak (r.1).length al,.slice am (r.2).length an]∧B'= []∧Ar (rL rI) E' ak al (r.1)∧Ar (rL rI) E' am an (r.2)):=by
 refine Au.en func71 rfl rfl fun Q bL cs H aA aB=>?_;unfold f71 at aj;refine JL.go 2 rfl ?_;refine JS.alloc rfl rfl rfl aA (AN type24) fun A aC=>?_;refine JL.go 3 rfl ?_;refine JS.lit (pp:=rI) [iV 1] [1] rfl rfl rfl underlying28 (Ah type3) (AN type3) (by decide) rfl rfl rfl ⟨rfl,trivial⟩ aC fun aD ao aE aF=>?_;refine JS.lit (pp:=rI) [iV 2] [2] rfl rfl rfl underlying28 (Ah type3) (AN type3) (by decide) rfl rfl rfl ⟨rfl,trivial⟩ aF fun aG ap aH aI=>?_;refine JS.norm (S':= [[],[(A,.cells #[.slice none 0 0,.slice none 0 0] 24 (0,0))],ao,ap]) rfl aI fun aJ=>?_;refine JS.lit (pp:=rI) [iV 3,iV 4] [3,4] rfl rfl rfl underlying28 (Ah type3) (AN type3) (by decide) rfl rfl rfl ⟨rfl,rfl,trivial⟩ aJ fun aK aq aL aM=>?_;refine JS.lit (pp:=rI) [iV 4] [4] rfl rfl rfl underlying28 (Ah type3) (AN type3) (by decide) rfl rfl rfl ⟨rfl,trivial⟩ aM fun aN ar aO aP=>?_;refine JS.lit (pp:=rI) [iV 5] [5] rfl rfl rfl underlying28 (Ah type3) (AN type3) (by decide) rfl rfl rfl ⟨rfl,trivial⟩ aP fun aQ au aR aS=>?_;refine JS.norm (S':= [[],[(A,.cells #[.slice none 0 0,.slice none 0 0] 24 (0,0))],ao,ap,aq,ar,au]) rfl aS fun aT=>?_;refine JS.lit (pp:=rI) [iV 5] [5] rfl rfl rfl underlying28 (Ah type3) (AN type3) (by decide) rfl rfl rfl ⟨rfl,trivial⟩ aT fun aU av aV aW=>?_;refine JS.BA 2 aE aW rfl fun bM U aX aY=>?_;refine JS.BA 3 (aH.mono U) aY rfl fun bN W aZ a0=>?_;refine JS.norm (S':= [[],[(A,.cells #[.slice none 0 0,.slice none 0 0] 24 (0,0))],[],[],aq,ar,au,av]) rfl a0 fun a1=>?_;refine JS.BA 4 (aL.mono (U.trans W)) a1 rfl fun bO Z a2 a3=>?_;refine JS.BA 5 (aO.mono ((U.trans W).trans Z)) a3 rfl fun bP aa a4 a5=>?_;refine JS.BA 6 (aR.mono (((U.trans W).trans Z).trans aa)) a5 rfl fun bQ ab a6 a7=>?_;refine JS.norm (S':= [[],[(A,.cells #[.slice none 0 0,.slice none 0 0] 24 (0,0))],[],[],[],[],[],av]) rfl a7 fun a8=>?_;refine JS.BA 7 (aV.mono ((((U.trans W).trans Z).trans aa).trans ab)) a8 rfl fun bR ac a9 ba=>?_;refine JS.lit (pp:=(rL rI)) [.slice (some ⟨aD,0,none⟩) (([1]:List Int)).length 1,.slice (some ⟨aG,0,none⟩) (([2]:List Int)).length 1,.slice (some ⟨aK,0,none⟩) (([3,4]:List Int)).length 2,.slice (some ⟨aN,0,none⟩) (([4]:List Int)).length 1,.slice (some ⟨aQ,0,none⟩) (([5]:List Int)).length 1,.slice (some ⟨aU,0,none⟩) (([5]:List Int)).length 1] [([1]:List Int),([2]:List Int),([3,4]:List Int),([4]:List Int),([5]:List Int),([5]:List Int)] rfl rfl rfl underlying22 (Ah type28) (AN type28) (by decide) rfl rfl rfl ⟨⟨_,_,rfl,(aX.mono ((((W.trans Z).trans aa).trans ab).trans ac))⟩,⟨_,_,rfl,(aZ.mono (((Z.trans aa).trans ab).trans ac))⟩,⟨_,_,rfl,(a2.mono ((aa.trans ab).trans ac))⟩,⟨_,_,rfl,(a4.mono (ab.trans ac))⟩,⟨_,_,rfl,(a6.mono ac)⟩,⟨_,_,rfl,a9⟩,trivial⟩ ba fun K ai bb bc=>?_;refine JS.lit (pp:=rI) [iV 2] [2] rfl rfl rfl underlying28 (Ah type3) (AN type3) (by decide) rfl rfl rfl ⟨rfl,trivial⟩ bc fun bd bf bg bh=>?_;refine JS.norm (S':= [[],[(A,.cells #[.slice none 0 0,.slice none 0 0] 24 (0,0))],[],[],[],[],[],[],ai,bf]) rfl bh fun bi=>?_;refine JS.lit (pp:=rI) [iV 2,iV 3] [2,3] rfl rfl rfl underlying28 (Ah type3) (AN type3) (by decide) rfl rfl rfl ⟨rfl,rfl,trivial⟩ bi fun bj bk bl bm=>?_;refine JS.lit (pp:=rI) [iV 3,iV 4] [3,4] rfl rfl rfl underlying28 (Ah type3) (AN type3) (by decide) rfl rfl rfl ⟨rfl,rfl,trivial⟩ bm fun bn bo bp bq=>?_;refine JS.BA 9 bg bq rfl fun bS ae br bu=>?_;refine JS.norm (S':= [[],[(A,.cells #[.slice none 0 0,.slice none 0 0] 24 (0,0))],[],[],[],[],[],[],ai,[],bk,bo]) rfl bu fun bv=>?_;refine JS.BA 10 (bl.mono ae) bv rfl fun bT ag bw bx=>?_;refine JS.BA 11 (bp.mono (ae.trans ag)) bx rfl fun bU ah bz bA=>?_;refine JS.lit (pp:=(rL rI)) [.slice none 0 0,.slice none 0 0,.slice none 0 0,.slice (some ⟨bd,0,none⟩) (([2]:List Int)).length 1,.slice (some ⟨bj,0,none⟩) (([2,3]:List Int)).length 2,.slice (some ⟨bn,0,none⟩) (([3,4]:List Int)).length 2] [[],[],[],([2]:List Int),([2,3]:List Int),([3,4]:List Int)] rfl rfl rfl underlying22 (Ah type28) (AN type28) (by decide) rfl rfl rfl ⟨⟨_,_,rfl,Ar.nil⟩,⟨_,_,rfl,Ar.nil⟩,⟨_,_,rfl,Ar.nil⟩,⟨_,_,rfl,(br.mono (ag.trans ah))⟩,⟨_,_,rfl,(bw.mono ah)⟩,⟨_,_,rfl,bz⟩,trivial⟩ bA fun O bB bC bD=>?_;refine JS.norm (S':= [[],[(A,.cells #[.slice none 0 0,.slice none 0 0] 24 (0,0))],[],[],[],[],[],[],ai,[],[],[],bB]) rfl bD fun bE=>?_;refine JL.Y (v:= .agg #[.slice (some ⟨K,0,none⟩) (([([1]:List Int),([2]:List Int),([3,4]:List Int),([4]:List Int),([5]:List Int),([5]:List Int)]:List (List Int))).length 6,.slice (some ⟨O,0,none⟩) (([[],[],[],([2]:List Int),([2,3]:List Int),([3,4]:List Int)]:List (List Int))).length 6]) rfl (fun ρ h=>Yl.B4 [(0,1),(1,1)] h (AN type24) underlying24 ⟨rfl,Ah type22,rfl,Ah type22,trivial⟩ rfl rfl) ?_;refine JS.st (v:= .agg #[.slice (some ⟨K,0,none⟩) (([([1]:List Int),([2]:List Int),([3,4]:List Int),([4]:List Int),([5]:List Int),([5]:List Int)]:List (List Int))).length 6,.slice (some ⟨O,0,none⟩) (([[],[],[],([2]:List Int),([2,3]:List Int),([3,4]:List Int)]:List (List Int))).length 6]) (off:=0) 1 bE (Ah type24) rfl rfl rfl rfl fun bF=>?_;refine JL.done ?_;refine JS.BA 8 (bb.mono ((ae.trans ag).trans ah)) bF rfl fun bV aw bG bH=>?_;refine JS.BA 12 (bC.mono aw) bH rfl fun bW ay bI bJ=>?_;refine JS.norm (S':= [[],[(A,.cells #[.slice (some ⟨K,0,none⟩) (([([1]:List Int),([2]:List Int),([3,4]:List Int),([4]:List Int),([5]:List Int),([5]:List Int)]:List (List Int))).length 6,.slice (some ⟨O,0,none⟩) (([[],[],[],([2]:List Int),([2,3]:List Int),([3,4]:List Int)]:List (List Int))).length 6] 24 (0,0))],[],[],[],[],[],[],[],[],[],[],[]]) rfl bJ fun az=>?_;obtain rfl:=oi aj;refine JL.ret (v:= .agg #[.slice (some ⟨K,0,none⟩) (([([1]:List Int),([2]:List Int),([3,4]:List Int),([4]:List Int),([5]:List Int),([5]:List Int)]:List (List Int))).length 6,.slice (some ⟨O,0,none⟩) (([[],[],[],([2]:List Int),([2,3]:List Int),([3,4]:List Int)]:List (List Int))).length 6]) rfl rfl (Bl.list func71 rfl (vs:= [.agg #[.slice (some ⟨K,0,none⟩) (([([1]:List Int),([2]:List Int),([3,4]:List Int),([4]:List Int),([5]:List Int),([5]:List Int)]:List (List Int))).length 6,.slice (some ⟨O,0,none⟩) (([[],[],[],([2]:List Int),([2,3]:List Int),([3,4]:List Int)]:List (List Int))).length 6]]) ⟨⟨_,rfl,Ld.many (vs:= [.slice (some ⟨K,0,none⟩) (([([1]:List Int),([2]:List Int),([3,4]:List Int),([4]:List Int),([5]:List Int),([5]:List Int)]:List (List Int))).length 6,.slice (some ⟨O,0,none⟩) (([[],[],[],([2]:List Int),([2,3]:List Int),([3,4]:List Int)]:List (List Int))).length 6]) (Ao underlying24) (Ah type24) (DM (off:=0) 1 az rfl rfl)⟩,trivial⟩) ?_;refine FM 1 az rfl fun bK=>?_;exact aB _ _ _ _ ((((((((((U.trans W).trans Z).trans aa).trans ab).trans ac).trans ae).trans ag).trans ah).trans aw).trans ay) rfl ⟨(some ⟨K,0,none⟩),6,(some ⟨O,0,none⟩),6,rfl,rfl,(bG.mono ay),bI⟩ bK
def f72(fuel:Nat):Option ((List (Int×Int))):=
 some ([(0,2),(1,4)]:List (Int×Int))
theorem Jt{fuel:Nat}{r:(List (Int×Int))}(A:f72 fuel=some r):Au J 72 [] E [] (fun w E' B'=>∃(K:Option Addr) (O:Nat),w= .slice K (r).length O∧B'= []∧Ar (rP rI rI) E' K O (r)):=by
 refine Au.en func72 rfl rfl fun Q ah cs H U W=>?_;unfold f72 at A;refine JL.go 6 rfl ?_;refine JL.Y (v:= .agg #[iV 0,iV 2]) rfl (fun ρ h=>Yl.B4 [(0,1),(1,1)] h (AN type27) underlying27 ⟨rfl,Ah type3,rfl,Ah type3,trivial⟩ rfl rfl) ?_;refine JL.Y (v:= .agg #[iV 1,iV 4]) rfl (fun ρ h=>Yl.B4 [(0,1),(1,1)] h (AN type27) underlying27 ⟨rfl,Ah type3,rfl,Ah type3,trivial⟩ rfl rfl) ?_;refine JS.lit (pp:=(rP rI rI)) [.agg #[iV 0,iV 2],.agg #[iV 1,iV 4]] [(0,2),(1,4)] rfl rfl rfl underlying25 (Ah type27) (AN type27) (by decide) rfl rfl rfl ⟨⟨_,_,rfl,rfl,rfl⟩,⟨_,_,rfl,rfl,rfl⟩,trivial⟩ U fun Z ai aa ab=>?_;refine JL.go 2 rfl ?_;refine JS.BA 1 aa ab rfl fun aj ac ae ag=>?_;obtain rfl:=oi A;refine JL.rt func72 rfl rfl ?_;exact W _ _ _ _ ac rfl ⟨(some ⟨Z,0,none⟩),2,rfl,rfl,ae⟩ ag
def f73(fuel:Nat):Option ((List (Int×Int))):=
 some ([(0,3),(1,3)]:List (Int×Int))
theorem MW{fuel:Nat}{r:(List (Int×Int))}(A:f73 fuel=some r):Au J 73 [] E [] (fun w E' B'=>∃(K:Option Addr) (O:Nat),w= .slice K (r).length O∧B'= []∧Ar (rP rI rI) E' K O (r)):=by
 refine Au.en func73 rfl rfl fun Q ah cs H U W=>?_;unfold f73 at A;refine JL.go 6 rfl ?_;refine JL.Y (v:= .agg #[iV 0,iV 3]) rfl (fun ρ h=>Yl.B4 [(0,1),(1,1)] h (AN type27) underlying27 ⟨rfl,Ah type3,rfl,Ah type3,trivial⟩ rfl rfl) ?_;refine JL.Y (v:= .agg #[iV 1,iV 3]) rfl (fun ρ h=>Yl.B4 [(0,1),(1,1)] h (AN type27) underlying27 ⟨rfl,Ah type3,rfl,Ah type3,trivial⟩ rfl rfl) ?_;refine JS.lit (pp:=(rP rI rI)) [.agg #[iV 0,iV 3],.agg #[iV 1,iV 3]] [(0,3),(1,3)] rfl rfl rfl underlying25 (Ah type27) (AN type27) (by decide) rfl rfl rfl ⟨⟨_,_,rfl,rfl,rfl⟩,⟨_,_,rfl,rfl,rfl⟩,trivial⟩ U fun Z ai aa ab=>?_;refine JL.go 2 rfl ?_;refine JS.BA 1 aa ab rfl fun aj ac ae ag=>?_;obtain rfl:=oi A;refine JL.rt func73 rfl rfl ?_;exact W _ _ _ _ ac rfl ⟨(some ⟨Z,0,none⟩),2,rfl,rfl,ae⟩ ag
end Pal
namespace Pal
open Go Go.Conc Go.Proofs
open Go.Proofs.Tryz
variable {J:Judge Tryz.prog}{E:LH}
def f103(fuel:Nat)(p0:Nat)(p1:Int):Option (Bool):=
 (Hb p0 p1).bind fun A=>
 (Gz (A) (1)).bind fun K=>
 some (decide ((((K):Nat):Int)=(((1):Nat):Int)))
theorem Ja{p0:Nat}{p1:Int}{fuel:Nat}{r:Bool}(A:f103 fuel p0 p1=some r):Au J 103 [.int .u16 ((p0:Nat):Int),iV p1] E [] (fun w E' B'=>w= .bool r∧B'= []):=by
 refine Au.en func103 rfl rfl fun Q ae cs H K O=>?_;unfold f103 at A;obtain⟨U,W,Z⟩:=bs A;refine JL.go 8 rfl ?_;refine JL.Y (v:= .int .u16 ((U:Nat):Int)) rfl (fun ρ h=>Yl.R3 (h _ _ rfl) (h _ _ rfl) W) ?_;obtain⟨aa,ab,ac⟩:=bs Z;refine JL.Y (v:= .int .u16 ((aa:Nat):Int)) rfl (fun ρ h=>Yl.Jc (h _ _ rfl) (h _ _ rfl) ab) ?_;refine JL.go 3 rfl ?_;obtain rfl:=oi ac;refine JL.rt func103 rfl rfl ?_;exact O _ _ _ _ (Le.refl _) rfl ⟨rfl,rfl⟩ K
def f90(fuel:Nat)(p0:Nat)(p1:Int):Option (Nat):=
 (G7 p1).bind fun A=>
 (F6 (p0) (A)).bind fun K=>
 some K
theorem Ii{p0:Nat}{p1:Int}{fuel:Nat}{r:Nat}(A:f90 fuel p0 p1=some r):Au J 90 [.int .u16 ((p0:Nat):Int),iV p1] E [] (fun w E' B'=>w= .int .u16 ((r:Nat):Int)∧B'= []):=by
 refine Au.en func90 rfl rfl fun Q ae cs H K O=>?_;unfold f90 at A;obtain⟨U,W,Z⟩:=bs A;refine JL.go 8 rfl ?_;refine JL.Y (v:= .int .u16 ((U:Nat):Int)) rfl (fun ρ h=>Yl.Sc (h _ _ rfl) (h _ _ rfl) W) ?_;obtain⟨aa,ab,ac⟩:=bs Z;refine JL.Y (v:= .int .u16 ((aa:Nat):Int)) rfl (fun ρ h=>Yl.G5 (h _ _ rfl) (h _ _ rfl) ab) ?_;refine JL.go 2 rfl ?_;obtain rfl:=oi ac;refine JL.rt func90 rfl rfl ?_;exact O _ _ _ _ (Le.refl _) rfl ⟨rfl,rfl⟩ K
def HW(fuel:Nat)(p0:Nat)(A:(List Int)×Int):Option (AU ((List Int)×Int) ((List Int))):=
 if A.2<16 then(
  (f103 fuel p0 A.2).bind fun K=>
  Option.bind (
   if K=true then(
    (room A.1 A.2).bind fun O=>
    some O
   ) else(
    some A.1
   )
  ) fun U=>
  (Aw (A.2+1)).bind fun W=>
  some (.more (U,W))
 ) else(
  some (.done A.1)
 )
def f89(fuel:Nat)(p0:Nat):Option ((List Int)):=
 Option.bind (iter (HW fuel p0) fuel ([],0)) fun A=>
 some A
theorem FY{p0:Nat}{fuel:Nat}{r:(List Int)}(ar:f89 fuel p0=some r):Au J 89 [.int .u16 ((p0:Nat):Int)] E [] (fun w E' B'=>∃(au:Option Addr) (av:Nat),w= .slice au (r).length av∧B'= []∧Ar rI E' au av (r)):=by
 refine Au.en func89 rfl rfl fun Q bb cs H aH aI=>?_;unfold f89 at ar;obtain⟨aw,aJ,aK⟩:=bs ar;refine JL.go 13 rfl ?_;refine JL.join (fun L s=>∃(ah:LH) (W:Option Addr) (Z:Nat) (ai:Seg),Jn E H ah [ai] [(3,.slice W (aw).length Z)] L s (OL 3 rI ah W Z ai (aw))) ?_ ?_
 ·rintro _ _ ⟨ah,W,Z,ai,rfl,rfl,aL,aM,aN⟩;refine JL.go 5 rfl ?_;refine JS.BA 0 aN aM rfl fun bc aO aP aQ=>?_;obtain rfl:=oi aK;refine JL.rt func89 rfl rfl ?_;exact aI _ _ _ _ (aL.trans aO) rfl ⟨W,Z,rfl,rfl,aP⟩ aQ
 ·intro aR;refine JL.block ?_;refine JL.wk [(0,.int .u16 ((p0:Nat):Int)),(3,.slice none 0 0),(5,iV 0)] rfl ?_;refine JL.Bg aJ (fun L s A=>∃(aa:LH) (K:Option Addr) (O:Nat) (U:Seg),Jn E H aa [U] [(0,.int .u16 ((p0:Nat):Int)),(3,.slice K (A.1).length O),(5,iV A.2)] L s (OL 3 rI aa K O U (A.1))) ⟨E,none,0,[],rfl,rfl,(Le.refl _),aH,OL.nil⟩ ?_;rintro _ _ A ⟨aa,K,O,U,rfl,rfl,ay,az,aj⟩ aS ⟨bd,ak⟩ aT;have al:=ak;unfold HW at al;refine JL.go 5 rfl ?_;refine JL.ifs (p:=A.2<16) rfl (fun am=>?_) (fun am=>?_)
  ·have aA:=al;rw [if_pos am] at aA;obtain⟨aU,aV,aW⟩:=bs aA;refine JL.go 12 rfl ?_;refine JS.cl (Ja aV) rfl rfl (Ay func103 rfl) az ?_;rintro _ an _ ao ⟨rfl,rfl⟩ aB;obtain⟨ap,aC,aX⟩:=bs aW;refine JL.done ?_;refine JL.join (fun L s=>∃(ab:LH) (ac:Option Addr) (ae:Nat) (ag:Seg),Jn an H ab [ag] [(0,.int .u16 ((p0:Nat):Int)),(3,.slice ac (ap).length ae),(5,iV A.2)] L s (OL 3 rI ab ac ae ag (ap))) ?_ ?_
   ·rintro _ _ ⟨ab,ac,ae,ag,rfl,rfl,aY,aZ,a0⟩;obtain⟨a1,a2,a3⟩:=bs aX;refine JL.go 2 rfl ?_;refine JL.Y rfl (fun ρ h=>Yl.A1 (h _ _ rfl) (h _ _ rfl) a2) ?_;refine JL.go 2 rfl ?_;obtain rfl:=oi a3;exact JL.kw (aT _ _ (ap,a1) ⟨ab,ac,ae,ag,rfl,rfl,((ay.trans ao).trans aY),aZ,a0⟩ ak) rfl
   ·intro aD;refine JL.split (t:=aU) rfl (fun aq=>?_) (fun aq=>?_)
    ·have aE:=aC;rw [if_pos aq] at aE;obtain⟨bf,a4,a5⟩:=bs aE;refine JL.go 3 rfl ?_;refine JS.app (pp:=rI) (v:=iV A.2) (a:=K) (c:=O) 0 a4 rfl rfl rfl rfl (fun _=>rfl) rfl (fun _=>rfl) rfl rfl rfl underlying28 underlying28 underlying28 (Ah type3) (Cp type3) (AN type3) rfl (by decide) (by decide) (by decide) (by decide) (aj.mono ao) rfl aB rfl fun bg a6 a7 a8 a9 ba=>?_;refine JL.go 2 rfl ?_;obtain rfl:=oi a5;exact JL.kw (aD _ _ ⟨an,a6,a7,a8,rfl,rfl,(Le.refl _),ba,a9⟩) rfl
    ·have aF:=aC;rw [if_neg (by rw [aq];exact Bool.false_ne_true)] at aF;refine JL.skip ?_;obtain rfl:=oi aF;exact JL.kw (aD _ _ ⟨an,K,O,U,rfl,rfl,(Le.refl _),aB,(aj.mono ao)⟩) rfl
  ·have aG:=al;rw [if_neg am] at aG;refine JL.exit rfl ?_;obtain rfl:=oi aG;obtain rfl:=aS _ ak;exact JL.kw (aR _ _ ⟨aa,K,O,U,rfl,rfl,ay,az,aj⟩) rfl
def HM(fuel:Nat)(p0:List Int)(A:Nat×Int):Option (AU (Nat×Int) (Nat)):=
 if A.2<((p0).length:Int) then(
  (ix p0 (A.2)).bind fun K=>
  (f90 fuel A.1 K).bind fun O=>
  (Aw (A.2+1)).bind fun U=>
  some (.more (O,U))
 ) else(
  some (.done A.1)
 )
def f120(fuel:Nat)(p0:List Int):Option (Nat):=
 Option.bind (iter (HM fuel p0) fuel (0,0)) fun A=>
 some A
theorem Gp{A:Option Addr}{c2:Nat}{p0:List Int}(aj:Ar rI E A c2 (p0)){fuel:Nat}{r:Nat}(ac:f120 fuel p0=some r):Au J 120 [.slice A (p0).length c2] E [] (fun w E' B'=>w= .int .u16 ((r:Nat):Int)∧B'= []):=by
 refine Au.en func120 rfl rfl fun Q aL cs H ak al=>?_;unfold f120 at ac;refine JL.go 12 rfl ?_;refine JL.Y rfl (fun ρ h=>Yl.len rfl underlying28 (h _ _ rfl)) ?_;obtain⟨am,an,ao⟩:=bs ac;refine JL.go 2 rfl ?_;refine JL.join (fun L s=>∃(ae:LH),Jm E H ae [] [(3,.int .u16 ((am:Nat):Int))] L s) ?_ ?_
 ·rintro _ _ ⟨ae,rfl,rfl,ap,aq⟩;refine JL.go 5 rfl ?_;obtain rfl:=oi ao;refine JL.rt func120 rfl rfl ?_;exact al _ _ _ _ ap rfl ⟨rfl,rfl⟩ aq
 ·intro ar;refine JL.block ?_;refine JL.wk [(3,.int .u16 ((0:Nat):Int)),(6,.slice A (p0).length c2),(7,iV ((p0).length:Int)),(8,iV 0)] rfl ?_;refine JL.Bg an (fun L s K=>∃(O:LH),Jm E H O [] [(3,.int .u16 ((K.1:Nat):Int)),(6,.slice A (p0).length c2),(7,iV ((p0).length:Int)),(8,iV K.2)] L s) ⟨E,rfl,rfl,(Le.refl _),ak⟩ ?_;rintro _ _ K ⟨O,rfl,rfl,U,ag⟩ au ⟨aM,W⟩ av;have Z:=W;unfold HM at Z;refine JL.go 5 rfl ?_;refine JL.ifs (p:=K.2<((p0).length:Int)) rfl (fun aa=>?_) (fun aa=>?_)
  ·have ah:=Z;rw [if_pos aa] at ah;obtain⟨aw,ay,az⟩:=bs ah;refine JL.go 5 rfl ?_;refine JS.BH (aj.mono U) ay rfl rfl rfl rfl rfl underlying28 (Ah type3) ?_;rintro aA aB _ rfl ab;replace ab:At O aA aB [iV aw]:=ab;refine JL.ld 0 ab (Ao underlying3) rfl rfl rfl ?_;obtain⟨aC,aD,aE⟩:=bs az;refine JL.go 5 rfl ?_;refine JS.cl (Ii aD) rfl rfl (Ay func90 rfl) ag ?_;rintro _ aF _ aG ⟨rfl,rfl⟩ aH;obtain⟨aI,aJ,aK⟩:=bs aE;refine JL.go 4 rfl ?_;refine JL.Y rfl (fun ρ h=>Yl.A1 (h _ _ rfl) (h _ _ rfl) aJ) ?_;refine JL.go 2 rfl ?_;obtain rfl:=oi aK;exact JL.kw (av _ _ (aC,aI) ⟨aF,rfl,rfl,(U.trans aG),aH⟩ W) rfl
  ·have ai:=Z;rw [if_neg aa] at ai;refine JL.exit rfl ?_;obtain rfl:=oi ai;obtain rfl:=au _ W;exact JL.kw (ar _ _ ⟨O,rfl,rfl,U,ag⟩) rfl
def HT(fuel:Nat)(p0:(List (List Int))×(List (List Int)))(p1:Int)(p2:List Int)(p3:Bool)(A:Int):Option (AU (Int) (((Option (Int×Int)))⊕(Unit))):=
 if A<((p2).length:Int) then(
  (ix p2 (A)).bind fun K=>
  (Aw (((p0.1).length:Int) - 1)).bind fun O=>
  (f101 fuel K 0 O).bind fun U=>
  if U=true then(
   some (.done (Sum.inl (some (3,p1))))
  ) else(
   Option.bind (
    if K=p1 then(
     some (!p3)
    ) else(
     some false
    )
   ) fun W=>
   if W=true then(
    some (.done (Sum.inl (some (8,p1))))
   ) else(
    Option.bind (
     if 0<A then(
      (Aw (A - 1)).bind fun Z=>
      (ix p2 (Z)).bind fun aa=>
      some (decide (K≤aa))
     ) else(
      some false
     )
    ) fun ab=>
    if ab=true then(
     some (.done (Sum.inl (some (5,p1))))
    ) else(
     (Aw (A+1)).bind fun ac=>
     some (.more ac)
    )
   )
  )
 ) else(
  some (.done (Sum.inr ()))
 )
def f136(fuel:Nat)(p0:(List (List Int))×(List (List Int)))(p1:Int)(p2:List Int)(p3:Bool):Option ((Option (Int×Int))):=
 Option.bind (iter (HT fuel p0 p1 p2 p3) fuel 0) fun A=>
 Sum.elim (fun r=>some r) (fun K=>
 some none
 ) A
theorem Ml{ae:Option Addr}{c2:Nat}{ag:Option Addr}{ah:Nat}{A:Option Addr}{K:Nat}{p0:(List (List Int))×(List (List Int))}{p1:Int}{p2:List Int}{p3:Bool}(bJ:Ar (rL rI) E ae c2 (p0.1))(bK:Ar (rL rI) E ag ah (p0.2))(aG:Ar rI E A K (p2)){fuel:Nat}{r:(Option (Int×Int))}(aH:f136 fuel p0 p1 p2 p3=some r):Au J 136 [.agg #[.slice ae (p0.1).length c2,.slice ag (p0.2).length ah],iV p1,.slice A (p2).length K,.bool p3] E [] (fun w E' B'=>∃(aI:Value),w=aI∧B'= []∧FF 183 aI (r)):=by
 refine Au.en func136 rfl rfl fun Q bL cs H ba ai=>?_;unfold f136 at aH;refine JL.go 2 rfl ?_;refine JS.box (v:= .agg #[.slice ae (p0.1).length c2,.slice ag (p0.2).length ah]) rfl rfl rfl ba rfl fun ab bb=>?_;refine JS.Bi 1 bb rfl fun aj W ao bc=>?_;replace ao:At aj ab 0 [.slice ae (p0.1).length c2,.slice ag (p0.2).length ah]:=ao;refine JL.go 6 rfl ?_;refine JL.Y rfl (fun ρ h=>Yl.len rfl underlying28 (h _ _ rfl)) ?_;obtain⟨aJ,bd,ak⟩:=bs aH;refine JL.go 2 rfl ?_;refine JL.join (fun L s=>∃(aK:Unit) (aL:LH),aJ=Sum.inr aK∧Jm aj H aL [] [] L s) ?_ ?_
 ·rintro _ _ ⟨aK,aL,rfl,rfl,rfl,bf,bg⟩;have bh:=elim_inr ak;refine JL.go 4 rfl ?_;obtain rfl:=oi bh;refine JL.rt func136 rfl rfl ?_;exact ai _ _ _ _ (W.trans bf) rfl ⟨.nilIface,rfl,rfl,rfl⟩ bg
 ·intro bi;refine JL.block ?_;refine JL.wk [(1,iV p1),(2,.slice A (p2).length K),(3,.bool p3),(4,.pointer (some ⟨ab,0,none⟩)),(11,.slice A (p2).length K),(12,iV ((p2).length:Int)),(13,iV 0)] rfl ?_;refine JL.Bg bd (fun L s U=>∃(al:LH),Jm aj H al [] [(1,iV p1),(2,.slice A (p2).length K),(3,.bool p3),(4,.pointer (some ⟨ab,0,none⟩)),(11,.slice A (p2).length K),(12,iV ((p2).length:Int)),(13,iV U)] L s) ⟨aj,rfl,rfl,(Le.refl _),bc⟩ ?_;rintro _ _ U ⟨al,rfl,rfl,O,aM⟩ am ⟨bM,Z⟩ bj;have ap:=Z;unfold HT at ap;refine JL.go 5 rfl ?_;refine JL.ifs (p:=U<((p2).length:Int)) rfl (fun aq=>?_) (fun aq=>?_)
  ·have aN:=ap;rw [if_pos aq] at aN;obtain⟨ar,bk,bl⟩:=bs aN;refine JL.go 6 rfl ?_;refine JS.BH (aG.mono (W.trans O)) bk rfl rfl rfl rfl rfl underlying28 (Ah type3) ?_;rintro bm bn _ rfl au;replace au:At al bm bn [iV ar]:=au;refine JL.ld 0 au (Ao underlying3) rfl rfl rfl ?_;refine JL.go 7 rfl ?_;refine JL.fd underlying24 (Ah type22) rfl rfl rfl ?_;refine JL.ld 0 (ao.mono O) (Ao underlying22) rfl rfl rfl ?_;refine JL.Y rfl (fun ρ h=>Yl.len rfl underlying22 (h _ _ rfl)) ?_;obtain⟨bN,bo,bp⟩:=bs bl;refine JL.Y rfl (fun ρ h=>Yl.A4 (h _ _ rfl) (h _ _ rfl) bo) ?_;obtain⟨bq,br,aO⟩:=bs bp;refine JS.cl (FQ br) rfl rfl (Ay func101 rfl) aM ?_;rintro _ av _ ac ⟨rfl,rfl⟩ aw;refine JL.go 2 rfl ?_;refine JL.split (t:=bq) rfl (fun ay=>?_) (fun ay=>?_)
   ·have aP:=aO;rw [if_pos ay] at aP;refine JL.go 3 rfl ?_;refine JL.Y (v:= .agg #[iV 3,iV p1]) rfl (fun ρ h=>Yl.B4 [(0,1),(1,1)] h (AN type183) underlying183 ⟨rfl,Ah type39,rfl,Ah type3,trivial⟩ rfl rfl) ?_;refine JL.Y (v:= .iface 183 (.agg #[iV 3,iV p1])) rfl (fun ρ h=>Yl.CX underlying183 (fun _ h=>by cases h) (h _ _ rfl)) ?_;refine JL.go 2 rfl ?_;obtain rfl:=oi aP;obtain rfl:=am _ Z;have bu:=elim_inl ak;obtain rfl:=oi bu;refine JL.rt func136 rfl rfl ?_;exact ai _ _ _ _ ((W.trans O).trans ac) rfl ⟨.iface 183 (.agg #[iV 3,iV p1]),rfl,rfl,rfl⟩ aw
   ·have aQ:=aO;rw [if_neg (by rw [ay];exact Bool.false_ne_true)] at aQ;obtain⟨aR,aS,aT⟩:=bs aQ;refine JL.go 6 rfl ?_;refine JL.By [7] (fun L s=>∃(aa:LH),Jm av H aa [] [(1,iV p1),(2,.slice A (p2).length K),(3,.bool p3),(4,.pointer (some ⟨ab,0,none⟩)),(9,iV U),(10,iV ar),(11,.slice A (p2).length K),(12,iV ((p2).length:Int)),(13,iV U),(35,.bool aR)] L s) ?_ ?_
    ·rintro _ _ ⟨aa,rfl,rfl,an,az⟩;refine JL.go 2 rfl ?_;refine JL.split (t:=aR) rfl (fun aA=>?_) (fun aA=>?_)
     ·have aU:=aT;rw [if_pos aA] at aU;refine JL.go 3 rfl ?_;refine JL.Y (v:= .agg #[iV 8,iV p1]) rfl (fun ρ h=>Yl.B4 [(0,1),(1,1)] h (AN type183) underlying183 ⟨rfl,Ah type39,rfl,Ah type3,trivial⟩ rfl rfl) ?_;refine JL.Y (v:= .iface 183 (.agg #[iV 8,iV p1])) rfl (fun ρ h=>Yl.CX underlying183 (fun _ h=>by cases h) (h _ _ rfl)) ?_;refine JL.go 2 rfl ?_;obtain rfl:=oi aU;obtain rfl:=am _ Z;have bv:=elim_inl ak;obtain rfl:=oi bv;refine JL.rt func136 rfl rfl ?_;exact ai _ _ _ _ (((W.trans O).trans ac).trans an) rfl ⟨.iface 183 (.agg #[iV 8,iV p1]),rfl,rfl,rfl⟩ az
     ·have aV:=aT;rw [if_neg (by rw [aA];exact Bool.false_ne_true)] at aV;obtain⟨aW,aX,aY⟩:=bs aV;refine JL.go 5 rfl ?_;refine JL.By [11] (fun L s=>∃(aB:LH),Jm aa H aB [] [(1,iV p1),(2,.slice A (p2).length K),(3,.bool p3),(4,.pointer (some ⟨ab,0,none⟩)),(11,.slice A (p2).length K),(12,iV ((p2).length:Int)),(13,iV U),(50,.bool aW)] L s) ?_ ?_
      ·rintro _ _ ⟨aB,rfl,rfl,aZ,a0⟩;refine JL.go 2 rfl ?_;refine JL.split (t:=aW) rfl (fun aC=>?_) (fun aC=>?_)
       ·have a1:=aY;rw [if_pos aC] at a1;refine JL.go 3 rfl ?_;refine JL.Y (v:= .agg #[iV 5,iV p1]) rfl (fun ρ h=>Yl.B4 [(0,1),(1,1)] h (AN type183) underlying183 ⟨rfl,Ah type39,rfl,Ah type3,trivial⟩ rfl rfl) ?_;refine JL.Y (v:= .iface 183 (.agg #[iV 5,iV p1])) rfl (fun ρ h=>Yl.CX underlying183 (fun _ h=>by cases h) (h _ _ rfl)) ?_;refine JL.go 2 rfl ?_;obtain rfl:=oi a1;obtain rfl:=am _ Z;have bw:=elim_inl ak;obtain rfl:=oi bw;refine JL.rt func136 rfl rfl ?_;exact ai _ _ _ _ ((((W.trans O).trans ac).trans an).trans aZ) rfl ⟨.iface 183 (.agg #[iV 5,iV p1]),rfl,rfl,rfl⟩ a0
       ·have a2:=aY;rw [if_neg (by rw [aC];exact Bool.false_ne_true)] at a2;obtain⟨bx,bz,bA⟩:=bs a2;refine JL.go 4 rfl ?_;refine JL.Y rfl (fun ρ h=>Yl.A1 (h _ _ rfl) (h _ _ rfl) bz) ?_;refine JL.go 2 rfl ?_;obtain rfl:=oi bA;exact JL.kw (bj _ _ bx ⟨aB,rfl,rfl,(((O.trans ac).trans an).trans aZ),a0⟩ Z) rfl
      ·intro a3;refine JL.BP (q:=0<U) (i:=42) rfl (fun aD=>?_) (fun aD=>?_)
       ·have a4:=aX;rw [if_pos aD] at a4;obtain⟨bO,bB,bC⟩:=bs a4;refine JL.go 3 rfl ?_;refine JL.Y rfl (fun ρ h=>Yl.A4 (h _ _ rfl) (h _ _ rfl) bB) ?_;obtain⟨bD,bE,bF⟩:=bs bC;refine JS.BH (aG.mono (((W.trans O).trans ac).trans an)) bE rfl rfl rfl rfl rfl underlying28 (Ah type3) ?_;rintro bG bH _ rfl aE;replace aE:At aa bG bH [iV bD]:=aE;refine JL.ld 0 aE (Ao underlying3) rfl rfl rfl ?_;refine JL.go 2 rfl ?_;obtain rfl:=oi bF;exact JL.kw (a3 _ _ ⟨aa,rfl,rfl,(Le.refl _),az⟩) rfl
       ·have a5:=aX;rw [if_neg aD] at a5;refine JL.go 8 rfl ?_;obtain rfl:=oi a5;exact JL.kw (a3 _ _ ⟨aa,rfl,rfl,(Le.refl _),az⟩) rfl
    ·intro a6;refine JL.BP (q:=ar=p1) (i:=32) rfl (fun aF=>?_) (fun aF=>?_)
     ·have a7:=aS;rw [if_pos aF] at a7;refine JL.go 1 rfl ?_;refine JL.Y (v:= .bool (!p3)) rfl (fun ρ h=>Yl.not (h _ _ rfl)) ?_;refine JL.go 1 rfl ?_;obtain rfl:=oi a7;exact JL.kw (a6 _ _ ⟨av,rfl,rfl,(Le.refl _),aw⟩) rfl
     ·have a8:=aS;rw [if_neg aF] at a8;refine JL.go 3 rfl ?_;obtain rfl:=oi a8;exact JL.kw (a6 _ _ ⟨av,rfl,rfl,(Le.refl _),aw⟩) rfl
  ·have a9:=ap;rw [if_neg aq] at a9;refine JL.exit rfl ?_;obtain rfl:=oi a9;have bI:aJ=(Sum.inr ()):=(am _ Z).symm;exact JL.kw (bi _ _ ⟨(),al,bI,rfl,rfl,O,aM⟩) rfl
def HU(fuel:Nat)(p0:(List (List Int))×(List (List Int)))(A:Int):Option (AU (Int) (((Option (Int×Int)))⊕(Unit))):=
 if A<((p0.1).length:Int) then(
  (ix p0.1 (A)).bind fun K=>
  if((K).length:Int)=0 then(
   some (.done (Sum.inl (some (7,A))))
  ) else(
   if 3<((K).length:Int) then(
    some (.done (Sum.inl (some (6,A))))
   ) else(
    (f136 fuel p0 A K true).bind fun O=>
    if O.isSome=true then(
     some (.done (Sum.inl O))
    ) else(
     (ix p0.2 (A)).bind fun W=>
     if 3<((W).length:Int) then(
      some (.done (Sum.inl (some (6,A))))
     ) else(
      (ix p0.2 (A)).bind fun Z=>
      (f136 fuel p0 A Z false).bind fun U=>
      if U.isSome=true then(
       some (.done (Sum.inl U))
      ) else(
       (Aw (A+1)).bind fun aa=>
       some (.more aa)
      )
     )
    )
   )
  )
 ) else(
  some (.done (Sum.inr ()))
 )
def f113(fuel:Nat)(p0:(List (List Int))×(List (List Int))):Option ((Option (Int×Int))):=
 if((p0.1).length:Int)=0 then(
  some (some (7,0))
 ) else(
  if 8<((p0.1).length:Int) then(
   some (some (6,0))
  ) else(
   if((p0.2).length:Int)≠((p0.1).length:Int) then(
    some (some (9,0))
   ) else(
    Option.bind (iter (HU fuel p0) fuel 0) fun A=>
    Sum.elim (fun r=>some r) (fun K=>
    some none
    ) A
   )
  )
 )
theorem MD{ab:Option Addr}{c2:Nat}{ag:Option Addr}{ah:Nat}{p0:(List (List Int))×(List (List Int))}(an:Ar (rL rI) E ab c2 (p0.1))(ai:Ar (rL rI) E ag ah (p0.2)){fuel:Nat}{r:(Option (Int×Int))}(ao:f113 fuel p0=some r):Au J 113 [.agg #[.slice ab (p0.1).length c2,.slice ag (p0.2).length ah]] E [] (fun w E' B'=>∃(aL:Value),w=aL∧B'= []∧FF 183 aL (r)):=by
 refine Au.en func113 rfl rfl fun Q b0 cs H bh W=>?_;unfold f113 at ao;refine JL.go 2 rfl ?_;refine JS.box (v:= .agg #[.slice ab (p0.1).length c2,.slice ag (p0.2).length ah]) rfl rfl rfl bh rfl fun ap bi=>?_;refine JS.Bi 1 bi rfl fun aj K Z ak=>?_;replace Z:At aj ap 0 [.slice ab (p0.1).length c2,.slice ag (p0.2).length ah]:=Z;refine JL.go 5 rfl ?_;refine JL.fd underlying24 (Ah type22) rfl rfl rfl ?_;refine JL.ld 0 Z (Ao underlying22) rfl rfl rfl ?_;refine JL.Y rfl (fun ρ h=>Yl.len rfl underlying22 (h _ _ rfl)) ?_;refine JL.go 9 rfl ?_;refine JL.ifs (p:=((p0.1).length:Int)=0) rfl (fun aq=>?_) (fun aq=>?_)
 ·have aM:=ao;rw [if_pos aq] at aM;refine JL.go 2 rfl ?_;refine JL.Y (v:= .agg #[iV 7,iV 0]) rfl (fun ρ h=>Yl.B4 [(0,1),(1,1)] h (AN type183) underlying183 ⟨rfl,Ah type39,rfl,Ah type3,trivial⟩ rfl rfl) ?_;refine JL.Y (v:= .iface 183 (.agg #[iV 7,iV 0])) rfl (fun ρ h=>Yl.CX underlying183 (fun _ h=>by cases h) (h _ _ rfl)) ?_;refine JL.go 2 rfl ?_;obtain rfl:=oi aM;refine JL.rt func113 rfl rfl ?_;exact W _ _ _ _ K rfl ⟨.iface 183 (.agg #[iV 7,iV 0]),rfl,rfl,rfl⟩ ak
 ·have ar:=ao;rw [if_neg aq] at ar;refine JL.go 6 rfl ?_;refine JL.ifs (p:=8<((p0.1).length:Int)) rfl (fun au=>?_) (fun au=>?_)
  ·have aN:=ar;rw [if_pos au] at aN;refine JL.go 2 rfl ?_;refine JL.Y (v:= .agg #[iV 6,iV 0]) rfl (fun ρ h=>Yl.B4 [(0,1),(1,1)] h (AN type183) underlying183 ⟨rfl,Ah type39,rfl,Ah type3,trivial⟩ rfl rfl) ?_;refine JL.Y (v:= .iface 183 (.agg #[iV 6,iV 0])) rfl (fun ρ h=>Yl.CX underlying183 (fun _ h=>by cases h) (h _ _ rfl)) ?_;refine JL.go 2 rfl ?_;obtain rfl:=oi aN;refine JL.rt func113 rfl rfl ?_;exact W _ _ _ _ K rfl ⟨.iface 183 (.agg #[iV 6,iV 0]),rfl,rfl,rfl⟩ ak
  ·have av:=ar;rw [if_neg au] at av;refine JL.go 2 rfl ?_;refine JL.fd underlying24 (Ah type22) rfl rfl rfl ?_;refine JL.ld 1 Z (Ao underlying22) rfl rfl rfl ?_;refine JL.Y rfl (fun ρ h=>Yl.len rfl underlying22 (h _ _ rfl)) ?_;refine JL.go 4 rfl ?_;refine JL.ifs (p:=((p0.2).length:Int)≠((p0.1).length:Int)) rfl (fun aw=>?_) (fun aw=>?_)
   ·have aO:=av;rw [if_pos aw] at aO;refine JL.go 2 rfl ?_;refine JL.Y (v:= .agg #[iV 9,iV 0]) rfl (fun ρ h=>Yl.B4 [(0,1),(1,1)] h (AN type183) underlying183 ⟨rfl,Ah type39,rfl,Ah type3,trivial⟩ rfl rfl) ?_;refine JL.Y (v:= .iface 183 (.agg #[iV 9,iV 0])) rfl (fun ρ h=>Yl.CX underlying183 (fun _ h=>by cases h) (h _ _ rfl)) ?_;refine JL.go 2 rfl ?_;obtain rfl:=oi aO;refine JL.rt func113 rfl rfl ?_;exact W _ _ _ _ K rfl ⟨.iface 183 (.agg #[iV 9,iV 0]),rfl,rfl,rfl⟩ ak
   ·have aP:=av;rw [if_neg aw] at aP;refine JL.go 5 rfl ?_;refine JL.fd underlying24 (Ah type22) rfl rfl rfl ?_;refine JL.ld 0 Z (Ao underlying22) rfl rfl rfl ?_;refine JL.Y rfl (fun ρ h=>Yl.len rfl underlying22 (h _ _ rfl)) ?_;obtain⟨aQ,bj,ac⟩:=bs aP;refine JL.go 2 rfl ?_;refine JL.join (fun L s=>∃(aR:Unit) (aS:LH),aQ=Sum.inr aR∧Jm aj H aS [] [] L s) ?_ ?_
    ·rintro _ _ ⟨aR,aS,rfl,rfl,rfl,bk,bl⟩;have bm:=elim_inr ac;refine JL.go 4 rfl ?_;obtain rfl:=oi bm;refine JL.rt func113 rfl rfl ?_;exact W _ _ _ _ (K.trans bk) rfl ⟨.nilIface,rfl,rfl,rfl⟩ bl
    ·intro bn;refine JL.block ?_;refine JL.wk [(1,.pointer (some ⟨ap,0,none⟩)),(30,.slice ab (p0.1).length c2),(31,iV ((p0.1).length:Int)),(32,iV 0)] rfl ?_;refine JL.Bg bj (fun L s O=>∃(al:LH),Jm aj H al [] [(1,.pointer (some ⟨ap,0,none⟩)),(30,.slice ab (p0.1).length c2),(31,iV ((p0.1).length:Int)),(32,iV O)] L s) ⟨aj,rfl,rfl,(Le.refl _),ak⟩ ?_;rintro _ _ O ⟨al,rfl,rfl,A,am⟩ ae ⟨b1,aa⟩ bo;have ay:=aa;unfold HU at ay;refine JL.go 5 rfl ?_;refine JL.ifs (p:=O<((p0.1).length:Int)) rfl (fun az=>?_) (fun az=>?_)
     ·have aT:=ay;rw [if_pos az] at aT;obtain⟨aA,bp,aU⟩:=bs aT;refine JL.go 6 rfl ?_;refine JS.BH (an.mono (K.trans A)) bp rfl rfl rfl rfl rfl underlying22 (Ah type28) ?_;rintro bq br _ ⟨bu,bv,rfl,bw⟩ aB;replace aB:At al bq br [.slice bu (aA).length bv]:=aB;refine JL.ld 0 aB (Ao underlying28) rfl rfl rfl ?_;refine JL.go 7 rfl ?_;refine JL.Y rfl (fun ρ h=>Yl.len rfl underlying28 (h _ _ rfl)) ?_;refine JL.go 2 rfl ?_;refine JL.ifs (p:=((aA).length:Int)=0) rfl (fun aC=>?_) (fun aC=>?_)
      ·have aV:=aU;rw [if_pos aC] at aV;refine JL.go 3 rfl ?_;refine JL.Y (v:= .agg #[iV 7,iV O]) rfl (fun ρ h=>Yl.B4 [(0,1),(1,1)] h (AN type183) underlying183 ⟨rfl,Ah type39,rfl,Ah type3,trivial⟩ rfl rfl) ?_;refine JL.Y (v:= .iface 183 (.agg #[iV 7,iV O])) rfl (fun ρ h=>Yl.CX underlying183 (fun _ h=>by cases h) (h _ _ rfl)) ?_;refine JL.go 2 rfl ?_;obtain rfl:=oi aV;obtain rfl:=ae _ aa;have bx:=elim_inl ac;obtain rfl:=oi bx;refine JL.rt func113 rfl rfl ?_;exact W _ _ _ _ (K.trans A) rfl ⟨.iface 183 (.agg #[iV 7,iV O]),rfl,rfl,rfl⟩ am
      ·have aD:=aU;rw [if_neg aC] at aD;refine JL.go 5 rfl ?_;refine JL.Y rfl (fun ρ h=>Yl.len rfl underlying28 (h _ _ rfl)) ?_;refine JL.go 2 rfl ?_;refine JL.ifs (p:=3<((aA).length:Int)) rfl (fun aE=>?_) (fun aE=>?_)
       ·have aW:=aD;rw [if_pos aE] at aW;refine JL.go 3 rfl ?_;refine JL.Y (v:= .agg #[iV 6,iV O]) rfl (fun ρ h=>Yl.B4 [(0,1),(1,1)] h (AN type183) underlying183 ⟨rfl,Ah type39,rfl,Ah type3,trivial⟩ rfl rfl) ?_;refine JL.Y (v:= .iface 183 (.agg #[iV 6,iV O])) rfl (fun ρ h=>Yl.CX underlying183 (fun _ h=>by cases h) (h _ _ rfl)) ?_;refine JL.go 2 rfl ?_;obtain rfl:=oi aW;obtain rfl:=ae _ aa;have bz:=elim_inl ac;obtain rfl:=oi bz;refine JL.rt func113 rfl rfl ?_;exact W _ _ _ _ (K.trans A) rfl ⟨.iface 183 (.agg #[iV 6,iV O]),rfl,rfl,rfl⟩ am
       ·have aX:=aD;rw [if_neg aE] at aX;refine JL.go 4 rfl ?_;refine JL.Bt (Z.mono A) (Ao underlying24) (Ah type24) rfl rfl ?_;obtain⟨aY,bA,aZ⟩:=bs aX;refine JL.go 2 rfl ?_;refine JS.cl (Ml (an.mono (K.trans A)) (ai.mono (K.trans A)) bw bA) rfl rfl (Ay func136 rfl) am ?_;rintro bB a0 _ U ⟨_,rfl,rfl,a1⟩ aF;refine JL.go 5 rfl ?_;refine JL.Y (v:= .bool aY.isSome) rfl (fun ρ h=>Yl.Jx underlying149 a1 (h _ _ rfl) (h _ _ rfl)) ?_;refine JL.done ?_;refine JL.split (t:=aY.isSome) rfl (fun aG=>?_) (fun aG=>?_)
        ·have a2:=aZ;rw [if_pos aG] at a2;refine JL.go 5 rfl ?_;obtain rfl:=oi a2;obtain rfl:=ae _ aa;have bC:=elim_inl ac;obtain rfl:=oi bC;refine JL.rt func113 rfl rfl ?_;exact W _ _ _ _ ((K.trans A).trans U) rfl ⟨bB,rfl,rfl,a1⟩ aF
        ·have a3:=aZ;rw [if_neg (by rw [aG];exact Bool.false_ne_true)] at a3;refine JL.go 4 rfl ?_;refine JL.fd underlying24 (Ah type22) rfl rfl rfl ?_;refine JL.ld 1 (Z.mono (A.trans U)) (Ao underlying22) rfl rfl rfl ?_;obtain⟨a4,bD,a5⟩:=bs a3;refine JL.go 1 rfl ?_;refine JS.BH (ai.mono ((K.trans A).trans U)) bD rfl rfl rfl rfl rfl underlying22 (Ah type28) ?_;rintro bE bF _ ⟨bG,bH,rfl,b2⟩ aH;replace aH:At a0 bE bF [.slice bG (a4).length bH]:=aH;refine JL.ld 0 aH (Ao underlying28) rfl rfl rfl ?_;refine JL.Y rfl (fun ρ h=>Yl.len rfl underlying28 (h _ _ rfl)) ?_;refine JL.go 2 rfl ?_;refine JL.ifs (p:=3<((a4).length:Int)) rfl (fun aI=>?_) (fun aI=>?_)
         ·have a6:=a5;rw [if_pos aI] at a6;refine JL.go 3 rfl ?_;refine JL.Y (v:= .agg #[iV 6,iV O]) rfl (fun ρ h=>Yl.B4 [(0,1),(1,1)] h (AN type183) underlying183 ⟨rfl,Ah type39,rfl,Ah type3,trivial⟩ rfl rfl) ?_;refine JL.Y (v:= .iface 183 (.agg #[iV 6,iV O])) rfl (fun ρ h=>Yl.CX underlying183 (fun _ h=>by cases h) (h _ _ rfl)) ?_;refine JL.go 2 rfl ?_;obtain rfl:=oi a6;obtain rfl:=ae _ aa;have bI:=elim_inl ac;obtain rfl:=oi bI;refine JL.rt func113 rfl rfl ?_;exact W _ _ _ _ ((K.trans A).trans U) rfl ⟨.iface 183 (.agg #[iV 6,iV O]),rfl,rfl,rfl⟩ aF
         ·have a7:=a5;rw [if_neg aI] at a7;refine JL.go 2 rfl ?_;refine JG.CQ 7 mixed rfl (by decide+kernel) fun ht=>?_;refine JG.Bt 0 ht (Z.mono (A.trans U)) (Ao underlying24) (Ah type24) rfl rfl rfl ?_;refine JG.mv 1 ht rfl rfl ?_;refine JG.fd 2 ht underlying24 (Ah type22) rfl rfl rfl rfl ?_;refine JG.ld 3 ht 1 (Z.mono (A.trans U)) (Ao underlying22) rfl rfl rfl rfl ?_;refine JG.mv 4 ht rfl rfl ?_;obtain⟨bJ,bK,bL⟩:=bs a7;refine JG.idx 5 (ai.mono ((K.trans A).trans U)) bK rfl ht (by decide+kernel) rfl rfl rfl rfl rfl underlying22 (Ah type28) ?_;rintro bM bN _ ⟨bO,bP,rfl,bQ⟩ aJ;replace aJ:At a0 bM bN [.slice bO (bJ).length bP]:=aJ;refine JG.ld 6 ht 0 aJ (Ao underlying28) rfl rfl rfl rfl ?_;refine Av.leaf (tail:= [7,8]) (by decide+kernel) (fun t=>A3 (by decide+kernel) (A3 (by decide+kernel) BE) t) ?_;obtain⟨a8,bR,a9⟩:=bs bL;refine JS.cl (Ml (an.mono ((K.trans A).trans U)) (ai.mono ((K.trans A).trans U)) bQ bR) rfl rfl (Ay func136 rfl) aF ?_;rintro bS bT _ ba ⟨_,rfl,rfl,bb⟩ bU;refine JS.norm (S':= [[],[]]) rfl bU fun bc=>?_;refine JL.go 5 rfl ?_;refine JL.Y (v:= .bool a8.isSome) rfl (fun ρ h=>Yl.Jx underlying149 bb (h _ _ rfl) (h _ _ rfl)) ?_;refine JL.done ?_;refine JL.split (t:=a8.isSome) rfl (fun aK=>?_) (fun aK=>?_)
          ·have bd:=a9;rw [if_pos aK] at bd;refine JL.go 5 rfl ?_;obtain rfl:=oi bd;obtain rfl:=ae _ aa;have bV:=elim_inl ac;obtain rfl:=oi bV;refine JL.rt func113 rfl rfl ?_;exact W _ _ _ _ (((K.trans A).trans U).trans ba) rfl ⟨bS,rfl,rfl,bb⟩ bc
          ·have bf:=a9;rw [if_neg (by rw [aK];exact Bool.false_ne_true)] at bf;obtain⟨bW,bX,bY⟩:=bs bf;refine JL.go 3 rfl ?_;refine JL.Y rfl (fun ρ h=>Yl.A1 (h _ _ rfl) (h _ _ rfl) bX) ?_;refine JL.go 2 rfl ?_;obtain rfl:=oi bY;exact JL.kw (bo _ _ bW ⟨bT,rfl,rfl,((A.trans U).trans ba),bc⟩ aa) rfl
     ·have bg:=ay;rw [if_neg az] at bg;refine JL.exit rfl ?_;obtain rfl:=oi bg;have bZ:aQ=(Sum.inr ()):=(ae _ aa).symm;exact JL.kw (bn _ _ ⟨(),al,bZ,rfl,rfl,A,am⟩) rfl
def Ly(fuel:Nat)(p0:(List (List Int))×(List (List Int)))(p1:List (Int×Int))(A:Int):Option (AU (Int) (((Option (Int×Int)))⊕(Unit))):=
 if A<((p1).length:Int) then(
  (ix p1 (A)).bind fun K=>
  (f101 fuel K.1 0 6).bind fun O=>
  if O=true then(
   some (.done (Sum.inl (some (1,A))))
  ) else(
   Option.bind (
    if 0<A then(
     (Aw (A - 1)).bind fun U=>
     (ix p1 (U)).bind fun W=>
     some (decide (K.1<W.1))
    ) else(
     some false
    )
   ) fun Z=>
   if Z=true then(
    some (.done (Sum.inl (some (5,A))))
   ) else(
    (Aw (((p0.1).length:Int) - 1)).bind fun aa=>
    (f101 fuel K.2 0 aa).bind fun ab=>
    if ab=true then(
     some (.done (Sum.inl (some (3,A))))
    ) else(
     (Aw (A+1)).bind fun ac=>
     some (.more ac)
    )
   )
  )
 ) else(
  some (.done (Sum.inr ()))
 )
def f116(fuel:Nat)(p0:(List (List Int))×(List (List Int)))(p1:List (Int×Int)):Option ((Option (Int×Int))):=
 if 4<((p1).length:Int) then(
  some (some (6,0))
 ) else(
  Option.bind (iter (Ly fuel p0 p1) fuel 0) fun A=>
  Sum.elim (fun r=>some r) (fun K=>
  some none
  ) A
 )
theorem QF{ah:Option Addr}{c2:Nat}{ai:Option Addr}{aj:Nat}{K:Option Addr}{O:Nat}{p0:(List (List Int))×(List (List Int))}{p1:List (Int×Int)}(bN:Ar (rL rI) E ah c2 (p0.1))(bO:Ar (rL rI) E ai aj (p0.2))(aE:Ar (rP rI rI) E K O (p1)){fuel:Nat}{r:(Option (Int×Int))}(ap:f116 fuel p0 p1=some r):Au J 116 [.agg #[.slice ah (p0.1).length c2,.slice ai (p0.2).length aj],.slice K (p1).length O] E [] (fun w E' B'=>∃(aF:Value),w=aF∧B'= []∧FF 183 aF (r)):=by
 refine Au.en func116 rfl rfl fun Q bP cs H a8 ae=>?_;unfold f116 at ap;refine JL.go 2 rfl ?_;refine JS.box (v:= .agg #[.slice ah (p0.1).length c2,.slice ai (p0.2).length aj]) rfl rfl rfl a8 rfl fun ak a9=>?_;refine JS.Bi 1 a9 rfl fun al Z aq aG=>?_;replace aq:At al ak 0 [.slice ah (p0.1).length c2,.slice ai (p0.2).length aj]:=aq;refine JL.go 6 rfl ?_;refine JL.Y rfl (fun ρ h=>Yl.len rfl underlying25 (h _ _ rfl)) ?_;refine JL.go 2 rfl ?_;refine JL.ifs (p:=4<((p1).length:Int)) rfl (fun ar=>?_) (fun ar=>?_)
 ·have aH:=ap;rw [if_pos ar] at aH;refine JL.go 2 rfl ?_;refine JL.Y (v:= .agg #[iV 6,iV 0]) rfl (fun ρ h=>Yl.B4 [(0,1),(1,1)] h (AN type183) underlying183 ⟨rfl,Ah type39,rfl,Ah type3,trivial⟩ rfl rfl) ?_;refine JL.Y (v:= .iface 183 (.agg #[iV 6,iV 0])) rfl (fun ρ h=>Yl.CX underlying183 (fun _ h=>by cases h) (h _ _ rfl)) ?_;refine JL.go 2 rfl ?_;obtain rfl:=oi aH;refine JL.rt func116 rfl rfl ?_;exact ae _ _ _ _ Z rfl ⟨.iface 183 (.agg #[iV 6,iV 0]),rfl,rfl,rfl⟩ aG
 ·have aI:=ap;rw [if_neg ar] at aI;refine JL.go 5 rfl ?_;refine JL.Y rfl (fun ρ h=>Yl.len rfl underlying25 (h _ _ rfl)) ?_;obtain⟨aJ,ba,am⟩:=bs aI;refine JL.go 2 rfl ?_;refine JL.join (fun L s=>∃(aK:Unit) (aL:LH),aJ=Sum.inr aK∧Jm al H aL [] [] L s) ?_ ?_
  ·rintro _ _ ⟨aK,aL,rfl,rfl,rfl,bb,bc⟩;have bd:=elim_inr am;refine JL.go 4 rfl ?_;obtain rfl:=oi bd;refine JL.rt func116 rfl rfl ?_;exact ae _ _ _ _ (Z.trans bb) rfl ⟨.nilIface,rfl,rfl,rfl⟩ bc
  ·intro bf;refine JL.block ?_;refine JL.wk [(1,.slice K (p1).length O),(2,.pointer (some ⟨ak,0,none⟩)),(12,.slice K (p1).length O),(13,iV ((p1).length:Int)),(14,iV 0)] rfl ?_;refine JL.Bg ba (fun L s A=>∃(an:LH),Jm al H an [] [(1,.slice K (p1).length O),(2,.pointer (some ⟨ak,0,none⟩)),(12,.slice K (p1).length O),(13,iV ((p1).length:Int)),(14,iV A)] L s) ⟨al,rfl,rfl,(Le.refl _),aG⟩ ?_;rintro _ _ A ⟨an,rfl,rfl,U,aM⟩ ao ⟨bQ,aa⟩ bg;have au:=aa;unfold Ly at au;refine JL.go 5 rfl ?_;refine JL.ifs (p:=A<((p1).length:Int)) rfl (fun av=>?_) (fun av=>?_)
   ·have aN:=au;rw [if_pos av] at aN;obtain⟨ab,bh,bi⟩:=bs aN;refine JL.go 6 rfl ?_;refine JS.BH (aE.mono (Z.trans U)) bh rfl rfl rfl rfl rfl underlying25 (Ah type27) ?_;rintro bj bk _ ⟨_,_,rfl,rfl,rfl⟩ aw;replace aw:At an bj bk [iV ab.1,iV ab.2]:=aw;refine JL.Bt aw (Ao underlying27) (Ah type27) rfl rfl ?_;refine JS.alloc rfl rfl rfl aM (AN type27) fun aO bl=>?_;refine JL.go 1 rfl ?_;refine JS.st (v:= .agg #[iV ab.1,iV ab.2]) (off:=0) 0 bl (Ah type27) rfl rfl rfl rfl fun bm=>?_;refine JS.Bi 0 bm rfl fun bn ac ag bo=>?_;replace ag:At bn aO 0 [iV ab.1,iV ab.2]:=ag;refine JS.norm (S':= [[]]) rfl bo fun bp=>?_;refine JL.go 4 rfl ?_;refine JL.fd underlying27 (Ah type3) rfl rfl rfl ?_;refine JL.ld 0 ag (Ao underlying3) rfl rfl rfl ?_;obtain⟨bq,br,aP⟩:=bs bi;refine JS.cl (FQ br) rfl rfl (Ay func101 rfl) bp ?_;rintro _ aQ _ W ⟨rfl,rfl⟩ ay;refine JL.go 2 rfl ?_;refine JL.split (t:=bq) rfl (fun az=>?_) (fun az=>?_)
    ·have aR:=aP;rw [if_pos az] at aR;refine JL.go 3 rfl ?_;refine JL.Y (v:= .agg #[iV 1,iV A]) rfl (fun ρ h=>Yl.B4 [(0,1),(1,1)] h (AN type183) underlying183 ⟨rfl,Ah type39,rfl,Ah type3,trivial⟩ rfl rfl) ?_;refine JL.Y (v:= .iface 183 (.agg #[iV 1,iV A])) rfl (fun ρ h=>Yl.CX underlying183 (fun _ h=>by cases h) (h _ _ rfl)) ?_;refine JL.go 2 rfl ?_;obtain rfl:=oi aR;obtain rfl:=ao _ aa;have bu:=elim_inl am;obtain rfl:=oi bu;refine JL.rt func116 rfl rfl ?_;exact ae _ _ _ _ (((Z.trans U).trans ac).trans W) rfl ⟨.iface 183 (.agg #[iV 1,iV A]),rfl,rfl,rfl⟩ ay
    ·have aS:=aP;rw [if_neg (by rw [az];exact Bool.false_ne_true)] at aS;refine JL.seq ?_;refine JG.CQ 13 mixed rfl (by decide+kernel) fun ht=>?_;refine JG.mv 0 ht rfl rfl ?_;refine JG.mv 1 ht rfl rfl ?_;refine JG.mv 2 ht rfl rfl ?_;obtain⟨aT,aU,aV⟩:=bs aS;refine Av.join 1 #[true,true,true,true,true,true,true,true,true,true,true,true,true,false] (fun L s=>L= [(1,.slice K (p1).length O),(2,.pointer (some ⟨ak,0,none⟩)),(5,iV A),(6,.pointer (some ⟨aO,0,none⟩)),(12,.slice K (p1).length O),(13,iV ((p1).length:Int)),(14,iV A),(39,.bool aT)]∧s=Ap aQ H [[],[]]) ?_ ?_
     ·rintro _ _ ⟨rfl,rfl⟩;refine Av.leaf (tail:= [13]) (by decide+kernel) (fun t=>A3 (by decide+kernel) BE t) ?_;refine JL.go 2 rfl ?_;refine JL.split (t:=aT) rfl (fun aA=>?_) (fun aA=>?_)
      ·have aW:=aV;rw [if_pos aA] at aW;refine JL.go 3 rfl ?_;refine JL.Y (v:= .agg #[iV 5,iV A]) rfl (fun ρ h=>Yl.B4 [(0,1),(1,1)] h (AN type183) underlying183 ⟨rfl,Ah type39,rfl,Ah type3,trivial⟩ rfl rfl) ?_;refine JL.Y (v:= .iface 183 (.agg #[iV 5,iV A])) rfl (fun ρ h=>Yl.CX underlying183 (fun _ h=>by cases h) (h _ _ rfl)) ?_;refine JL.go 2 rfl ?_;obtain rfl:=oi aW;obtain rfl:=ao _ aa;have bv:=elim_inl am;obtain rfl:=oi bv;refine JL.rt func116 rfl rfl ?_;exact ae _ _ _ _ (((Z.trans U).trans ac).trans W) rfl ⟨.iface 183 (.agg #[iV 5,iV A]),rfl,rfl,rfl⟩ ay
      ·have aX:=aV;rw [if_neg (by rw [aA];exact Bool.false_ne_true)] at aX;refine JL.go 2 rfl ?_;refine JL.fd underlying27 (Ah type3) rfl rfl rfl ?_;refine JL.ld 1 (ag.mono W) (Ao underlying3) rfl rfl rfl ?_;refine JL.fd underlying24 (Ah type22) rfl rfl rfl ?_;refine JL.ld 0 (aq.mono ((U.trans ac).trans W)) (Ao underlying22) rfl rfl rfl ?_;refine JL.Y rfl (fun ρ h=>Yl.len rfl underlying22 (h _ _ rfl)) ?_;obtain⟨bR,bw,bx⟩:=bs aX;refine JL.Y rfl (fun ρ h=>Yl.A4 (h _ _ rfl) (h _ _ rfl) bw) ?_;obtain⟨bz,bA,aY⟩:=bs bx;refine JS.cl (FQ bA) rfl rfl (Ay func101 rfl) ay ?_;rintro _ bB _ aZ ⟨rfl,rfl⟩ a0;refine JL.go 2 rfl ?_;refine JL.split (t:=bz) rfl (fun aB=>?_) (fun aB=>?_)
       ·have a1:=aY;rw [if_pos aB] at a1;refine JL.go 3 rfl ?_;refine JL.Y (v:= .agg #[iV 3,iV A]) rfl (fun ρ h=>Yl.B4 [(0,1),(1,1)] h (AN type183) underlying183 ⟨rfl,Ah type39,rfl,Ah type3,trivial⟩ rfl rfl) ?_;refine JL.Y (v:= .iface 183 (.agg #[iV 3,iV A])) rfl (fun ρ h=>Yl.CX underlying183 (fun _ h=>by cases h) (h _ _ rfl)) ?_;refine JL.go 2 rfl ?_;obtain rfl:=oi a1;obtain rfl:=ao _ aa;have bC:=elim_inl am;obtain rfl:=oi bC;refine JL.rt func116 rfl rfl ?_;exact ae _ _ _ _ ((((Z.trans U).trans ac).trans W).trans aZ) rfl ⟨.iface 183 (.agg #[iV 3,iV A]),rfl,rfl,rfl⟩ a0
       ·have a2:=aY;rw [if_neg (by rw [aB];exact Bool.false_ne_true)] at a2;obtain⟨bD,bE,bF⟩:=bs a2;refine JL.go 4 rfl ?_;refine JL.Y rfl (fun ρ h=>Yl.A1 (h _ _ rfl) (h _ _ rfl) bE) ?_;refine JL.go 2 rfl ?_;obtain rfl:=oi bF;exact JL.kw (bg _ _ bD ⟨bB,rfl,rfl,(((U.trans ac).trans W).trans aZ),a0⟩ aa) rfl
     ·intro a3;refine Av.BP (q:=0<A) (i:=29) rfl (fun aC=>?_) (fun aC=>?_)
      ·have a4:=aU;rw [if_pos aC] at a4;refine JG.fd 3 ht underlying27 (Ah type3) rfl rfl rfl rfl ?_;refine JG.ld 4 ht 0 (ag.mono W) (Ao underlying3) rfl rfl rfl rfl ?_;refine JG.mv 5 ht rfl rfl ?_;refine JG.mv 6 ht rfl rfl ?_;obtain⟨bS,bG,bH⟩:=bs a4;refine JG.V 7 ht rfl rfl (fun ρ h s' hs=>Yl.A4 (h _ _ rfl) (h _ _ rfl) bG) ?_;obtain⟨a5,bI,bJ⟩:=bs bH;refine JG.idx 8 (aE.mono (((Z.trans U).trans ac).trans W)) bI rfl ht (by decide+kernel) rfl rfl rfl rfl rfl underlying25 (Ah type27) ?_;rintro bK bL _ ⟨_,_,rfl,rfl,rfl⟩ aD;replace aD:At aQ bK bL [iV a5.1,iV a5.2]:=aD;refine JG.fd 9 ht underlying27 (Ah type3) rfl rfl rfl rfl ?_;refine JG.ld 10 ht 0 aD (Ao underlying3) rfl rfl rfl rfl ?_;refine JG.mv 11 ht rfl rfl ?_;refine JG.mv 12 ht rfl rfl ?_;obtain rfl:=oi bJ;refine Av.BK ?_ (a3 _ _ ⟨rfl,rfl⟩);exact⟨rfl,rfl,rfl,rfl,rfl,rfl,rfl,rfl,trivial⟩
      ·have a6:=aU;rw [if_neg aC] at a6;refine JG.mv 3 ht rfl rfl ?_;refine JG.mv 4 ht rfl rfl ?_;refine JG.mv 5 ht rfl rfl ?_;refine JG.mv 6 ht rfl rfl ?_;refine JG.mv 7 ht rfl rfl ?_;refine JG.mv 8 ht rfl rfl ?_;refine JG.mv 9 ht rfl rfl ?_;refine JG.mv 10 ht rfl rfl ?_;refine JG.mv 11 ht rfl rfl ?_;refine JG.mv 12 ht rfl rfl ?_;obtain rfl:=oi a6;refine Av.BK ?_ (a3 _ _ ⟨rfl,rfl⟩);exact⟨rfl,rfl,rfl,rfl,rfl,rfl,rfl,rfl,trivial⟩
   ·have a7:=au;rw [if_neg av] at a7;refine JL.exit rfl ?_;obtain rfl:=oi a7;have bM:aJ=(Sum.inr ()):=(ao _ aa).symm;exact JL.kw (bf _ _ ⟨(),an,bM,rfl,rfl,U,aM⟩) rfl
end Pal
namespace Pal
open Go Go.Conc Go.Proofs
open Go.Proofs.Tryz
variable {J:Judge Tryz.prog}{E:LH}
def f135(fuel:Nat):Option (Bool):=
 some false
theorem P8{K:Value}{fuel:Nat}{r:Bool}(A:f135 fuel=some r):Au J 135 [.nilIface,K] E [] (fun w E' B'=>w= .bool r∧B'= []):=by
 refine Au.en func135 rfl rfl fun Q W cs H O U=>?_;unfold f135 at A;refine JL.go 8 rfl ?_;refine JL.Y (v:= .bool true) rfl (fun ρ h=>Yl.RU underlying149 (show FF 0 .nilIface none from rfl) (h _ _ rfl) (h _ _ rfl)) ?_;refine JL.go 6 rfl ?_;obtain rfl:=oi A;refine JL.rt func135 rfl rfl ?_;exact U _ _ _ _ (Le.refl _) rfl ⟨rfl,rfl⟩ O
def f112(fuel:Nat):Option (Int):=
 (f135 fuel).bind fun A=>
 if A=true then(
  some 0
 ) else(
  some 0
 )
theorem QR{fuel:Nat}{r:Int}(O:f112 fuel=some r):Au J 112 [.nilIface] E [] (fun w E' B'=>w=iV r∧B'= []):=by
 refine Au.en func112 rfl rfl fun Q al cs H ac U=>?_;unfold f112 at O;refine JL.go 6 rfl ?_;refine JS.alloc rfl rfl rfl ac (AN type183) fun ae ag=>?_;refine JL.go 5 rfl ?_;refine JL.Y (v:=(.iface 185 (.pointer (some ⟨ae,0,none⟩)))) rfl (fun ρ h=>Yl.CX underlying185 (fun _ h=>by cases h) (h _ _ rfl)) ?_;obtain⟨ah,ai,W⟩:=bs O;refine JS.cl (P8 ai) rfl rfl (Ay func135 rfl) ag ?_;rintro _ am _ Z ⟨rfl,rfl⟩ A;refine JL.done ?_;refine JL.split (t:=ah) rfl (fun K=>?_) (fun K=>?_)
 ·have aa:=W;rw [if_pos K] at aa;refine JL.go 2 rfl ?_;refine JL.fd underlying183 (Ah type39) rfl rfl rfl ?_;refine JL.Y (v:=iV 0) rfl (fun ρ h=>Yl.load (Ao underlying39) (h _ _ rfl) (Ci (j:=1) (off:=0) A rfl rfl)) ?_;refine JL.go 2 rfl ?_;refine JS.drop 1 A rfl fun aj=>?_;obtain rfl:=oi aa;refine JL.rt func112 rfl rfl ?_;exact U _ _ _ _ Z rfl ⟨rfl,rfl⟩ aj
 ·have ab:=W;rw [if_neg (by rw [K];exact Bool.false_ne_true)] at ab;refine JL.go 5 rfl ?_;refine JS.drop 1 A rfl fun ak=>?_;obtain rfl:=oi ab;refine JL.rt func112 rfl rfl ?_;exact U _ _ _ _ Z rfl ⟨rfl,rfl⟩ ak
def Gs(fuel:Nat)(p0:Option (Int×Int)):Option Int:=match p0 with
 | none=>f112 fuel
 | some _=>none
theorem I9{v:Value}{p0:Option (Int×Int)}(h:FF 183 v p0){fuel:Nat}{r:Int}(A:Gs fuel p0=some r):Au J 112 [v] E [] (fun w E' B'=>w=iV r∧B'= []):=by
 cases p0 with
 | none=>obtain rfl:v= .nilIface:=h;exact QR A
 | some _=>cases A
end Pal
namespace Pal
open Go Go.Conc Go.Proofs
open Go.Proofs.Tryz
variable {J:Judge Tryz.prog}{E:LH}
def f67(fuel:Nat)(p0:(List (List Int))×(List (List Int))):Option (Int):=
 (f113 fuel p0).bind fun A=>
 (Gs fuel A).bind fun K=>
 some K
theorem RG{A:Option Addr}{c2:Nat}{K:Option Addr}{O:Nat}{p0:(List (List Int))×(List (List Int))}(aa:Ar (rL rI) E A c2 (p0.1))(ab:Ar (rL rI) E K O (p0.2)){fuel:Nat}{r:Int}(Z:f67 fuel p0=some r):Au J 67 [.agg #[.slice A (p0.1).length c2,.slice K (p0.2).length O]] E [] (fun w E' B'=>w=iV r∧B'= []):=by
 refine Au.en func67 rfl rfl fun Q aw cs H ac ae=>?_;unfold f67 at Z;refine JL.go 2 rfl ?_;refine JS.box (v:= .agg #[.slice A (p0.1).length c2,.slice K (p0.2).length O]) rfl rfl rfl ac rfl fun ag ah=>?_;refine JS.Bi 1 ah rfl fun ai U W aj=>?_;replace W:At ai ag 0 [.slice A (p0.1).length c2,.slice K (p0.2).length O]:=W;refine JL.go 4 rfl ?_;refine JL.Bt W (Ao underlying24) (Ah type24) rfl rfl ?_;obtain⟨ay,ak,al⟩:=bs Z;refine JS.cl (MD (aa.mono U) (ab.mono U) ak) rfl rfl (Ay func113 rfl) aj ?_;rintro az aA _ am ⟨_,rfl,rfl,an⟩ ao;obtain⟨aB,ap,aq⟩:=bs al;refine JS.cl (I9 an ap) rfl rfl (Ay func112 rfl) ao ?_;rintro _ aC _ ar ⟨rfl,rfl⟩ au;refine JS.norm (S':= [[],[],[],[]]) rfl au fun av=>?_;refine JL.go 2 rfl ?_;obtain rfl:=oi aq;refine JL.rt func67 rfl rfl ?_;exact ae _ _ _ _ ((U.trans am).trans ar) rfl ⟨rfl,rfl⟩ av
def f69(fuel:Nat)(p0:(List (List Int))×(List (List Int)))(p1:List (Int×Int)):Option (Int):=
 (f113 fuel p0).bind fun A=>
 if A.isSome=true then(
  (Gs fuel A).bind fun K=>
  some K
 ) else(
  (f116 fuel p0 p1).bind fun O=>
  (Gs fuel O).bind fun U=>
  some U
 )
theorem G8{O:Option Addr}{c2:Nat}{U:Option Addr}{W:Nat}{ab:Option Addr}{ac:Nat}{p0:(List (List Int))×(List (List Int))}{p1:List (Int×Int)}(ae:Ar (rL rI) E O c2 (p0.1))(ag:Ar (rL rI) E U W (p0.2))(ap:Ar (rP rI rI) E ab ac (p1)){fuel:Nat}{r:Int}(ah:f69 fuel p0 p1=some r):Au J 69 [.agg #[.slice O (p0.1).length c2,.slice U (p0.2).length W],.slice ab (p1).length ac] E [] (fun w E' B'=>w=iV r∧B'= []):=by
 refine Au.en func69 rfl rfl fun Q aO cs H aq ai=>?_;unfold f69 at ah;refine JL.go 2 rfl ?_;refine JS.box (v:= .agg #[.slice O (p0.1).length c2,.slice U (p0.2).length W]) rfl rfl rfl aq rfl fun ar au=>?_;refine JS.Bi 1 au rfl fun av A Z aw=>?_;replace Z:At av ar 0 [.slice O (p0.1).length c2,.slice U (p0.2).length W]:=Z;refine JL.go 5 rfl ?_;refine JL.Bt Z (Ao underlying24) (Ah type24) rfl rfl ?_;obtain⟨aj,ay,ak⟩:=bs ah;refine JS.cl (MD (ae.mono A) (ag.mono A) ay) rfl rfl (Ay func113 rfl) aw ?_;rintro aP aQ _ K ⟨_,rfl,rfl,al⟩ am;refine JL.go 5 rfl ?_;refine JL.Y (v:= .bool aj.isSome) rfl (fun ρ h=>Yl.Jx underlying149 al (h _ _ rfl) (h _ _ rfl)) ?_;refine JL.done ?_;refine JL.split (t:=aj.isSome) rfl (fun aa=>?_) (fun aa=>?_)
 ·have an:=ak;rw [if_pos aa] at an;obtain⟨aR,az,aA⟩:=bs an;refine JL.go 3 rfl ?_;refine JS.cl (I9 al az) rfl rfl (Ay func112 rfl) am ?_;rintro _ aS _ aB ⟨rfl,rfl⟩ aC;refine JS.norm (S':= [[],[],[],[]]) rfl aC fun aD=>?_;refine JL.go 2 rfl ?_;obtain rfl:=oi aA;refine JL.rt func69 rfl rfl ?_;exact ai _ _ _ _ ((A.trans K).trans aB) rfl ⟨rfl,rfl⟩ aD
 ·have ao:=ak;rw [if_neg (by rw [aa];exact Bool.false_ne_true)] at ao;refine JL.go 3 rfl ?_;refine JL.Bt (Z.mono K) (Ao underlying24) (Ah type24) rfl rfl ?_;obtain⟨aT,aE,aF⟩:=bs ao;refine JL.go 1 rfl ?_;refine JS.cl (QF (ae.mono (A.trans K)) (ag.mono (A.trans K)) (ap.mono (A.trans K)) aE) rfl rfl (Ay func116 rfl) am ?_;rintro aU aV _ aG ⟨_,rfl,rfl,aH⟩ aI;refine JS.norm (S':= [[],[],[],[]]) rfl aI fun aJ=>?_;obtain⟨aW,aK,aL⟩:=bs aF;refine JS.cl (I9 aH aK) rfl rfl (Ay func112 rfl) aJ ?_;rintro _ aX _ aM ⟨rfl,rfl⟩ aN;refine JL.go 2 rfl ?_;obtain rfl:=oi aL;refine JL.rt func69 rfl rfl ?_;exact ai _ _ _ _ (((A.trans K).trans aG).trans aM) rfl ⟨rfl,rfl⟩ aN
def LU(fuel:Nat)(p0:(List (List Int))×(List (List Int))×(List Nat))(K:(List Int))(A:Nat×Int):Option (AU (Nat×Int) (Nat)):=
 if A.2<((K).length:Int) then(
  (ix K (A.2)).bind fun O=>
  (ix p0.1 (O)).bind fun U=>
  (f120 fuel U).bind fun W=>
  (F6 (A.1) (W)).bind fun Z=>
  (Aw (A.2+1)).bind fun aa=>
  some (.more (Z,aa))
 ) else(
  some (.done A.1)
 )
def f121(fuel:Nat)(p0:(List (List Int))×(List (List Int))×(List Nat))(p1:Nat):Option (Nat):=
 (f89 fuel p1).bind fun A=>
 Option.bind (iter (LU fuel p0 A) fuel (0,0)) fun K=>
 some K
theorem Qf{k1:Nat}{U:Nat}{ai:Option Addr}{aj:Nat}{ak:Option Addr}{al:Nat}{am:List Value}{p0:(List (List Int))×(List (List Int))×(List Nat)}{p1:Nat}(ay:At E k1 U (([.slice ai (p0.1).length aj,.slice ak (p0.2.1).length al]:List Value)++am))(az:Ar (rL rI) E ai aj (p0.1))(bb:Ar (rL rI) E ak al (p0.2.1))(bc:(rA 13 (rN .u16)).r E am (p0.2.2)){fuel:Nat}{r:Nat}(an:f121 fuel p0 p1=some r):Au J 121 [.pointer (some ⟨k1,U,none⟩),.int .u16 ((p1:Nat):Int)] E [] (fun w E' B'=>w= .int .u16 ((r:Nat):Int)∧B'= []):=by
 refine Au.en func121 rfl rfl fun Q bd cs H aA aB=>?_;unfold f121 at an;obtain⟨A,aC,aD⟩:=bs an;refine JL.go 12 rfl ?_;refine JS.cl (FY aC) rfl rfl (Ay func89 rfl) aA ?_;rintro _ Z _ aa ⟨ao,ap,rfl,rfl,aE⟩ aF;refine JL.Y rfl (fun ρ h=>Yl.len rfl underlying28 (h _ _ rfl)) ?_;obtain⟨aG,aH,aI⟩:=bs aD;refine JL.go 2 rfl ?_;refine JL.join (fun L s=>∃(aq:LH),Jm Z H aq [] [(5,.int .u16 ((aG:Nat):Int))] L s) ?_ ?_
 ·rintro _ _ ⟨aq,rfl,rfl,aJ,aK⟩;refine JL.go 5 rfl ?_;obtain rfl:=oi aI;refine JL.rt func121 rfl rfl ?_;exact aB _ _ _ _ (aa.trans aJ) rfl ⟨rfl,rfl⟩ aK
 ·intro aL;refine JL.block ?_;refine JL.wk [(0,.pointer (some ⟨k1,U,none⟩)),(5,.int .u16 ((0:Nat):Int)),(9,.slice ao (A).length ap),(10,iV ((A).length:Int)),(11,iV 0)] rfl ?_;refine JL.Bg aH (fun L s W=>∃(K:LH),Jm Z H K [] [(0,.pointer (some ⟨k1,U,none⟩)),(5,.int .u16 ((W.1:Nat):Int)),(9,.slice ao (A).length ap),(10,iV ((A).length:Int)),(11,iV W.2)] L s) ⟨Z,rfl,rfl,(Le.refl _),aF⟩ ?_;rintro _ _ W ⟨K,rfl,rfl,O,ar⟩ aM ⟨bf,ab⟩ aN;have ac:=ab;unfold LU at ac;refine JL.go 5 rfl ?_;refine JL.ifs (p:=W.2<((A).length:Int)) rfl (fun ae=>?_) (fun ae=>?_)
  ·have au:=ac;rw [if_pos ae] at au;obtain⟨aO,aP,aQ⟩:=bs au;refine JL.go 5 rfl ?_;refine JS.BH (aE.mono O) aP rfl rfl rfl rfl rfl underlying28 (Ah type3) ?_;rintro aR aS _ rfl ag;replace ag:At K aR aS [iV aO]:=ag;refine JL.ld 0 ag (Ao underlying3) rfl rfl rfl ?_;refine JL.go 6 rfl ?_;refine JL.fd underlying141 (Ah type24) rfl rfl rfl ?_;refine JL.fd underlying24 (Ah type22) rfl rfl rfl ?_;refine JL.ld 0 (ay.mono (aa.trans O)) (Ao underlying22) rfl rfl rfl ?_;obtain⟨aT,aU,aV⟩:=bs aQ;refine JL.go 1 rfl ?_;refine JS.BH (az.mono (aa.trans O)) aU rfl rfl rfl rfl rfl underlying22 (Ah type28) ?_;rintro aW aX _ ⟨aY,aZ,rfl,a0⟩ ah;replace ah:At K aW aX [.slice aY (aT).length aZ]:=ah;refine JL.ld 0 ah (Ao underlying28) rfl rfl rfl ?_;obtain⟨bg,a1,a2⟩:=bs aV;refine JS.cl (Gp a0 a1) rfl rfl (Ay func120 rfl) ar ?_;rintro _ a3 _ a4 ⟨rfl,rfl⟩ a5;obtain⟨av,a6,a7⟩:=bs a2;refine JL.Y (v:= .int .u16 ((av:Nat):Int)) rfl (fun ρ h=>Yl.G5 (h _ _ rfl) (h _ _ rfl) a6) ?_;obtain⟨a8,a9,ba⟩:=bs a7;refine JL.go 4 rfl ?_;refine JL.Y rfl (fun ρ h=>Yl.A1 (h _ _ rfl) (h _ _ rfl) a9) ?_;refine JL.go 2 rfl ?_;obtain rfl:=oi ba;exact JL.kw (aN _ _ (av,a8) ⟨a3,rfl,rfl,(O.trans a4),a5⟩ ab) rfl
  ·have aw:=ac;rw [if_neg ae] at aw;refine JL.exit rfl ?_;obtain rfl:=oi aw;obtain rfl:=aM _ ab;exact JL.kw (aL _ _ ⟨K,rfl,rfl,O,ar⟩) rfl
def f130(fuel:Nat)(p0:Int×(List Int)×Nat):Option (Int):=
 (f89 fuel p0.2.2).bind fun A=>
 some ((A).length:Int)
theorem Q1{A:Option Addr}{c2:Nat}{p0:Int×(List Int)×Nat}(ak:Ar rI E A c2 (p0.2.1)){fuel:Nat}{r:Int}(O:f130 fuel p0=some r):Au J 130 [.agg #[iV p0.1,.slice A (p0.2.1).length c2,.int .u16 ((p0.2.2:Nat):Int)]] E [] (fun w E' B'=>w=iV r∧B'= []):=by
 refine Au.en func130 rfl rfl fun Q al cs H U W=>?_;unfold f130 at O;refine JL.go 2 rfl ?_;refine JS.box (v:= .agg #[iV p0.1,.slice A (p0.2.1).length c2,.int .u16 ((p0.2.2:Nat):Int)]) rfl rfl rfl U rfl fun Z aa=>?_;refine JS.Bi 1 aa rfl fun ab ac K ae=>?_;replace K:At ab Z 0 [iV p0.1,.slice A (p0.2.1).length c2,.int .u16 ((p0.2.2:Nat):Int)]:=K;refine JL.go 4 rfl ?_;refine JL.fd underlying104 (Ah type102) rfl rfl rfl ?_;refine JL.ld 2 K (Ao underlying102) rfl rfl rfl ?_;obtain⟨am,ag,ah⟩:=bs O;refine JS.cl (FY ag) rfl rfl (Ay func89 rfl) ae ?_;rintro _ an _ ai ⟨ao,ap,rfl,rfl,aq⟩ aj;refine JL.Y rfl (fun ρ h=>Yl.len rfl underlying28 (h _ _ rfl)) ?_;refine JL.go 2 rfl ?_;obtain rfl:=oi ah;refine JL.rt func130 rfl rfl ?_;exact W _ _ _ _ (ac.trans ai) rfl ⟨rfl,rfl⟩ aj
def L6(fuel:Nat)(p0:List (Int×(List Int)×Nat))(A:Nat×Int):Option (AU (Nat×Int) (Nat)):=
 if A.2<((p0).length:Int) then(
  (ix p0 (A.2)).bind fun K=>
  (f90 fuel A.1 K.1).bind fun O=>
  (Aw (A.2+1)).bind fun U=>
  some (.more (O,U))
 ) else(
  some (.done A.1)
 )
def f87(fuel:Nat)(p0:List (Int×(List Int)×Nat)):Option (Nat):=
 Option.bind (iter (L6 fuel p0) fuel (0,0)) fun A=>
 some A
theorem RB{K:Option Addr}{c2:Nat}{p0:List (Int×(List Int)×Nat)}(an:Ar (rP rI (rP (rL rI) (rN .u16))) E K c2 (p0)){fuel:Nat}{r:Nat}(ai:f87 fuel p0=some r):Au J 87 [.slice K (p0).length c2] E [] (fun w E' B'=>w= .int .u16 ((r:Nat):Int)∧B'= []):=by
 refine Au.en func87 rfl rfl fun Q aV cs H ao ap=>?_;unfold f87 at ai;refine JL.go 12 rfl ?_;refine JL.Y rfl (fun ρ h=>Yl.len rfl underlying95 (h _ _ rfl)) ?_;obtain⟨aq,ar,au⟩:=bs ai;refine JL.go 2 rfl ?_;refine JL.join (fun L s=>∃(aj:LH),Jm E H aj [] [(3,.int .u16 ((aq:Nat):Int))] L s) ?_ ?_
 ·rintro _ _ ⟨aj,rfl,rfl,av,aw⟩;refine JL.go 5 rfl ?_;obtain rfl:=oi au;refine JL.rt func87 rfl rfl ?_;exact ap _ _ _ _ av rfl ⟨rfl,rfl⟩ aw
 ·intro ay;refine JL.block ?_;refine JL.wk [(3,.int .u16 ((0:Nat):Int)),(6,.slice K (p0).length c2),(7,iV ((p0).length:Int)),(8,iV 0)] rfl ?_;refine JL.Bg ar (fun L s O=>∃(U:LH),Jm E H U [] [(3,.int .u16 ((O.1:Nat):Int)),(6,.slice K (p0).length c2),(7,iV ((p0).length:Int)),(8,iV O.2)] L s) ⟨E,rfl,rfl,(Le.refl _),ao⟩ ?_;rintro _ _ O ⟨U,rfl,rfl,W,ak⟩ az ⟨aW,Z⟩ aA;have aa:=Z;unfold L6 at aa;refine JL.go 5 rfl ?_;refine JL.ifs (p:=O.2<((p0).length:Int)) rfl (fun ab=>?_) (fun ab=>?_)
  ·have al:=aa;rw [if_pos ab] at al;obtain⟨A,aB,aC⟩:=bs al;refine JL.go 5 rfl ?_;refine JS.BH (an.mono W) aB rfl rfl rfl rfl rfl underlying95 (Ah type104) ?_;rintro aD aE _ ⟨_,_,rfl,rfl,⟨_,_,rfl,⟨ac,ae,rfl,aX⟩,rfl⟩⟩ ag;replace ag:At U aD aE [iV A.1,.slice ac (A.2.1).length ae,.int .u16 ((A.2.2:Nat):Int)]:=ag;refine JL.Bt ag (Ao underlying104) (Ah type104) rfl rfl ?_;refine JS.alloc rfl rfl rfl ak (AN type104) fun aF aG=>?_;refine JS.st (v:= .agg #[iV A.1,.slice ac (A.2.1).length ae,.int .u16 ((A.2.2:Nat):Int)]) (off:=0) 0 aG (Ah type104) rfl rfl rfl rfl fun aH=>?_;refine JS.Bi 0 aH rfl fun aI aJ ah aK=>?_;replace ah:At aI aF 0 [iV A.1,.slice ac (A.2.1).length ae,.int .u16 ((A.2.2:Nat):Int)]:=ah;refine JL.go 3 rfl ?_;refine JL.fd underlying104 (Ah type3) rfl rfl rfl ?_;refine JL.ld 0 ah (Ao underlying3) rfl rfl rfl ?_;obtain⟨aL,aM,aN⟩:=bs aC;refine JS.cl (Ii aM) rfl rfl (Ay func90 rfl) aK ?_;rintro _ aO _ aP ⟨rfl,rfl⟩ aQ;refine JS.norm (S':= [[],[]]) rfl aQ fun aR=>?_;obtain⟨aS,aT,aU⟩:=bs aN;refine JL.go 4 rfl ?_;refine JL.Y rfl (fun ρ h=>Yl.A1 (h _ _ rfl) (h _ _ rfl) aT) ?_;refine JL.go 2 rfl ?_;obtain rfl:=oi aU;exact JL.kw (aA _ _ (aL,aS) ⟨aO,rfl,rfl,((W.trans aJ).trans aP),aR⟩ Z) rfl
  ·have am:=aa;rw [if_neg ab] at am;refine JL.exit rfl ?_;obtain rfl:=oi am;obtain rfl:=az _ Z;exact JL.kw (ay _ _ ⟨U,rfl,rfl,W,ak⟩) rfl
def Mb(fuel:Nat)(p0:(List (List Int))×(List (List Int))×(List Nat))(K:Int)(A:Nat×Int):Option (AU (Nat×Int) (Nat)):=
 if A.2<K then(
  (f121 fuel p0 A.1).bind fun O=>
  (Aw (A.2+1)).bind fun U=>
  some (.more (O,U))
 ) else(
  some (.done A.1)
 )
def f88(fuel:Nat)(p0:(List (List Int))×(List (List Int))×(List Nat))(p1:Int×(List Int)×Nat)(p2:Int):Option (Nat):=
 (Aw (((p1.2.1).length:Int) - 1)).bind fun A=>
 if p2≤A then(
  (ix p1.2.1 (p2)).bind fun K=>
  (f120 fuel ([K]:List Int)).bind fun O=>
  some O
 ) else(
  (ix p1.2.1 (A)).bind fun U=>
  (f120 fuel ([U]:List Int)).bind fun W=>
  (Aw (p2 - A)).bind fun Z=>
  Option.bind (iter (Mb fuel p0 Z) fuel (W,0)) fun aa=>
  some aa
 )
theorem RJ{k1:Nat}{Z:Nat}{ar:Option Addr}{au:Nat}{av:Option Addr}{aw:Nat}{ay:List Value}{aa:Option Addr}{ab:Nat}{p0:(List (List Int))×(List (List Int))×(List Nat)}{p1:Int×(List Int)×Nat}{p2:Int}(aK:At E k1 Z (([.slice ar (p0.1).length au,.slice av (p0.2.1).length aw]:List Value)++ay))(aL:Ar (rL rI) E ar au (p0.1))(aM:Ar (rL rI) E av aw (p0.2.1))(aN:(rA 13 (rN .u16)).r E ay (p0.2.2))(az:Ar rI E aa ab (p1.2.1)){fuel:Nat}{r:Nat}(aA:f88 fuel p0 p1 p2=some r):Au J 88 [.pointer (some ⟨k1,Z,none⟩),.agg #[iV p1.1,.slice aa (p1.2.1).length ab,.int .u16 ((p1.2.2:Nat):Int)],iV p2] E [] (fun w E' B'=>w= .int .u16 ((r:Nat):Int)∧B'= []):=by
 refine Au.en func88 rfl rfl fun Q bH cs H aO aB=>?_;unfold f88 at aA;refine JL.go 2 rfl ?_;refine JS.box (v:= .agg #[iV p1.1,.slice aa (p1.2.1).length ab,.int .u16 ((p1.2.2:Nat):Int)]) rfl rfl rfl aO rfl fun aP aQ=>?_;refine JS.Bi 1 aQ rfl fun ae A O aC=>?_;replace O:At ae aP 0 [iV p1.1,.slice aa (p1.2.1).length ab,.int .u16 ((p1.2.2:Nat):Int)]:=O;refine JL.go 4 rfl ?_;refine JL.fd underlying104 (Ah type28) rfl rfl rfl ?_;refine JL.ld 1 O (Ao underlying28) rfl rfl rfl ?_;refine JL.Y rfl (fun ρ h=>Yl.len rfl underlying28 (h _ _ rfl)) ?_;obtain⟨aR,aS,aD⟩:=bs aA;refine JL.Y rfl (fun ρ h=>Yl.A4 (h _ _ rfl) (h _ _ rfl) aS) ?_;refine JL.go 9 rfl ?_;refine JL.ifs (p:=p2≤aR) rfl (fun ag=>?_) (fun ag=>?_)
 ·have aE:=aD;rw [if_pos ag] at aE;refine JL.go 2 rfl ?_;refine JL.fd underlying104 (Ah type28) rfl rfl rfl ?_;refine JL.ld 1 O (Ao underlying28) rfl rfl rfl ?_;obtain⟨ah,aT,aU⟩:=bs aE;refine JL.go 1 rfl ?_;refine JS.BH (az.mono A) aT rfl rfl rfl rfl rfl underlying28 (Ah type3) ?_;rintro aV aW _ rfl ai;replace ai:At ae aV aW [iV ah]:=ai;refine JL.ld 0 ai (Ao underlying3) rfl rfl rfl ?_;refine JS.lit (pp:=rI) [iV ah] [ah] rfl rfl rfl underlying28 (Ah type3) (AN type3) (by decide) rfl rfl rfl ⟨rfl,trivial⟩ aC fun bI bJ aX aY=>?_;refine JS.BA 2 aX aY rfl fun bK aZ a0 a1=>?_;refine JS.norm (S':= [[],[],[]]) rfl a1 fun a2=>?_;obtain⟨bL,a3,a4⟩:=bs aU;refine JS.cl (Gp a0 a3) rfl rfl (Ay func120 rfl) a2 ?_;rintro _ bM _ a5 ⟨rfl,rfl⟩ a6;refine JL.go 2 rfl ?_;obtain rfl:=oi a4;refine JL.rt func88 rfl rfl ?_;exact aB _ _ _ _ ((A.trans aZ).trans a5) rfl ⟨rfl,rfl⟩ a6
 ·have aF:=aD;rw [if_neg ag] at aF;refine JL.go 3 rfl ?_;refine JL.fd underlying104 (Ah type28) rfl rfl rfl ?_;refine JL.ld 1 O (Ao underlying28) rfl rfl rfl ?_;obtain⟨aj,a7,a8⟩:=bs aF;refine JL.go 1 rfl ?_;refine JS.BH (az.mono A) a7 rfl rfl rfl rfl rfl underlying28 (Ah type3) ?_;rintro a9 ba _ rfl ak;replace ak:At ae a9 ba [iV aj]:=ak;refine JL.ld 0 ak (Ao underlying3) rfl rfl rfl ?_;refine JS.lit (pp:=rI) [iV aj] [aj] rfl rfl rfl underlying28 (Ah type3) (AN type3) (by decide) rfl rfl rfl ⟨rfl,trivial⟩ aC fun bN bO bb bc=>?_;refine JS.BA 2 bb bc rfl fun bP U bd bf=>?_;refine JS.norm (S':= [[],[],[]]) rfl bf fun bg=>?_;obtain⟨bh,bi,bj⟩:=bs a8;refine JS.cl (Gp bd bi) rfl rfl (Ay func120 rfl) bg ?_;rintro _ al _ W ⟨rfl,rfl⟩ bk;obtain⟨am,bl,bm⟩:=bs bj;refine JL.go 7 rfl ?_;refine JL.Y rfl (fun ρ h=>Yl.A4 (h _ _ rfl) (h _ _ rfl) bl) ?_;obtain⟨bn,bo,bp⟩:=bs bm;refine JL.go 2 rfl ?_;refine JL.join (fun L s=>∃(aG:LH),Jm al H aG [] [(8,.int .u16 ((bn:Nat):Int))] L s) ?_ ?_
  ·rintro _ _ ⟨aG,rfl,rfl,bq,br⟩;refine JL.go 5 rfl ?_;obtain rfl:=oi bp;refine JL.rt func88 rfl rfl ?_;exact aB _ _ _ _ (((A.trans U).trans W).trans bq) rfl ⟨rfl,rfl⟩ br
  ·intro bu;refine JL.block ?_;refine JL.wk [(0,.pointer (some ⟨k1,Z,none⟩)),(8,.int .u16 ((bh:Nat):Int)),(32,iV am),(33,iV 0)] rfl ?_;refine JL.Bg bo (fun L s ac=>∃(an:LH),Jm al H an [] [(0,.pointer (some ⟨k1,Z,none⟩)),(8,.int .u16 ((ac.1:Nat):Int)),(32,iV am),(33,iV ac.2)] L s) ⟨al,rfl,rfl,(Le.refl _),bk⟩ ?_;rintro _ _ ac ⟨an,rfl,rfl,K,aH⟩ bv ⟨bQ,ao⟩ bw;have ap:=ao;unfold Mb at ap;refine JL.go 5 rfl ?_;refine JL.ifs (p:=ac.2<am) rfl (fun aq=>?_) (fun aq=>?_)
   ·have aI:=ap;rw [if_pos aq] at aI;obtain⟨bx,bz,bA⟩:=bs aI;refine JL.go 6 rfl ?_;refine JS.cl (Qf (aK.mono (((A.trans U).trans W).trans K)) (aL.mono (((A.trans U).trans W).trans K)) (aM.mono (((A.trans U).trans W).trans K)) (Rp.mono _ (((A.trans U).trans W).trans K) aN) bz) rfl rfl (Ay func121 rfl) aH ?_;rintro _ bB _ bC ⟨rfl,rfl⟩ bD;obtain⟨bE,bF,bG⟩:=bs bA;refine JL.go 4 rfl ?_;refine JL.Y rfl (fun ρ h=>Yl.A1 (h _ _ rfl) (h _ _ rfl) bF) ?_;refine JL.go 2 rfl ?_;obtain rfl:=oi bG;exact JL.kw (bw _ _ (bx,bE) ⟨bB,rfl,rfl,(K.trans bC),bD⟩ ao) rfl
   ·have aJ:=ap;rw [if_neg aq] at aJ;refine JL.exit rfl ?_;obtain rfl:=oi aJ;obtain rfl:=bv _ ao;exact JL.kw (bu _ _ ⟨an,rfl,rfl,K,aH⟩) rfl
end Pal
namespace Pal
open Go Go.Conc Go.Proofs
open Go.Proofs.Tryz
variable {J:Judge Tryz.prog}{E:LH}
def HG(fuel:Nat)(p0:(List (List Int))×(List (List Int))×(List Nat))(K:(List Int))(A:Nat×Int):Option (AU (Nat×Int) (Nat)):=
 if A.2<((K).length:Int) then(
  (ix K (A.2)).bind fun O=>
  (ix p0.1 (O)).bind fun U=>
  (f120 fuel U).bind fun W=>
  (F6 (A.1) (W)).bind fun Z=>
  (Aw (A.2+1)).bind fun aa=>
  some (.more (Z,aa))
 ) else(
  some (.done A.1)
 )
def G2(fuel:Nat)(p0:(List (List Int))×(List (List Int))×(List Nat))(p1:Nat):Option (Nat×((List (List Int))×(List (List Int))×(List Nat))):=
 (f89 fuel p1).bind fun A=>
 Option.bind (iter (HG fuel p0 A) fuel (0,0)) fun K=>
 some (K,p0)
theorem PZ{A:Nat}{K:Option Addr}{c2:Nat}{O:Option Addr}{U:Nat}{W:List Value}{p0:(List (List Int))×(List (List Int))×(List Nat)}{p1:Nat}(ao:Ar (rL rI) E K c2 (p0.1))(aE:Ar (rL rI) E O U (p0.2.1))(aF:(rA 13 (rN .u16)).r E W (p0.2.2)){fuel:Nat}{r:Nat×((List (List Int))×(List (List Int))×(List Nat))}(ap:G2 fuel p0 p1=some r):Au J 121 [.pointer (some ⟨A,0,none⟩),.int .u16 ((p1:Nat):Int)] E [(A,.cells (([.slice K (p0.1).length c2,.slice O (p0.2.1).length U]:List Value)++W).toArray 141 (0,0))] (fun w E' B'=>∃(aq:Option Addr) (ar:Nat) (au:Option Addr) (av:Nat) (aw:List Value),w= .int .u16 ((r.1:Nat):Int)∧B'= [(A,.cells (([.slice aq (r.2.1).length ar,.slice au (r.2.2.1).length av]:List Value)++aw).toArray 141 (0,0))]∧Ar (rL rI) E' aq ar (r.2.1)∧Ar (rL rI) E' au av (r.2.2.1)∧(rA 13 (rN .u16)).r E' aw (r.2.2.2)):=by
 refine Au.en func121 rfl rfl fun Q bh cs H aG aH=>?_;unfold G2 at ap;obtain⟨Z,aI,aJ⟩:=bs ap;refine JL.go 12 rfl ?_;refine JS.cl (FY aI) rfl rfl (Ay func89 rfl) aG ?_;rintro _ ah _ aa ⟨ay,az,rfl,rfl,aK⟩ aL;refine JL.Y rfl (fun ρ h=>Yl.len rfl underlying28 (h _ _ rfl)) ?_;obtain⟨aM,aN,aO⟩:=bs aJ;refine JL.go 2 rfl ?_;refine JL.join (fun L s=>∃(aA:LH),Jm ah H aA [[(A,.cells (([.slice K (p0.1).length c2,.slice O (p0.2.1).length U]:List Value)++W).toArray 141 (0,0))]] [(5,.int .u16 ((aM:Nat):Int))] L s) ?_ ?_
 ·rintro _ _ ⟨aA,rfl,rfl,ac,aP⟩;refine JL.go 5 rfl ?_;obtain rfl:=oi aO;refine JL.rt func121 rfl rfl ?_;exact aH _ _ _ _ (aa.trans ac) rfl ⟨K,c2,O,U,W,rfl,rfl,(ao.mono (aa.trans ac)),(aE.mono (aa.trans ac)),(Rp.mono _ (aa.trans ac) aF)⟩ aP
 ·intro aQ;refine JL.block ?_;refine JL.wk [(0,.pointer (some ⟨A,0,none⟩)),(5,.int .u16 ((0:Nat):Int)),(9,.slice ay (Z).length az),(10,iV ((Z).length:Int)),(11,iV 0)] rfl ?_;refine JL.Bg aN (fun L s ae=>∃(ab:LH),Jm ah H ab [[(A,.cells (([.slice K (p0.1).length c2,.slice O (p0.2.1).length U]:List Value)++W).toArray 141 (0,0))]] [(0,.pointer (some ⟨A,0,none⟩)),(5,.int .u16 ((ae.1:Nat):Int)),(9,.slice ay (Z).length az),(10,iV ((Z).length:Int)),(11,iV ae.2)] L s) ⟨ah,rfl,rfl,(Le.refl _),aL⟩ ?_;rintro _ _ ae ⟨ab,rfl,rfl,ag,ai⟩ aR ⟨bi,aj⟩ aS;have ak:=aj;unfold HG at ak;refine JL.go 5 rfl ?_;refine JL.ifs (p:=ae.2<((Z).length:Int)) rfl (fun al=>?_) (fun al=>?_)
  ·have aB:=ak;rw [if_pos al] at aB;obtain⟨aT,aU,aV⟩:=bs aB;refine JL.go 5 rfl ?_;refine JS.BH (aK.mono ag) aU rfl rfl rfl rfl rfl underlying28 (Ah type3) ?_;rintro aW aX _ rfl am;replace am:At ab aW aX [iV aT]:=am;refine JL.ld 0 am (Ao underlying3) rfl rfl rfl ?_;refine JL.go 6 rfl ?_;refine JL.fd underlying141 (Ah type24) rfl rfl rfl ?_;refine JL.fd underlying24 (Ah type22) rfl rfl rfl ?_;refine JL.Y (v:= .slice K (p0.1).length c2) rfl (fun ρ h=>Yl.load (Ao underlying22) (h _ _ rfl) (OP (o:=0) (l:= [.slice K (p0.1).length c2,.slice O (p0.2.1).length U]) 0 ai rfl rfl)) ?_;obtain⟨aY,aZ,a0⟩:=bs aV;refine JL.go 1 rfl ?_;refine JS.BH (ao.mono (aa.trans ag)) aZ rfl rfl rfl rfl rfl underlying22 (Ah type28) ?_;rintro a1 a2 _ ⟨a3,a4,rfl,a5⟩ an;replace an:At ab a1 a2 [.slice a3 (aY).length a4]:=an;refine JL.ld 0 an (Ao underlying28) rfl rfl rfl ?_;obtain⟨bj,a6,a7⟩:=bs a0;refine JS.cl (Gp a5 a6) rfl rfl (Ay func120 rfl) ai ?_;rintro _ a8 _ a9 ⟨rfl,rfl⟩ ba;obtain⟨aC,bb,bc⟩:=bs a7;refine JL.Y (v:= .int .u16 ((aC:Nat):Int)) rfl (fun ρ h=>Yl.G5 (h _ _ rfl) (h _ _ rfl) bb) ?_;obtain⟨bd,bf,bg⟩:=bs bc;refine JL.go 4 rfl ?_;refine JL.Y rfl (fun ρ h=>Yl.A1 (h _ _ rfl) (h _ _ rfl) bf) ?_;refine JL.go 2 rfl ?_;obtain rfl:=oi bg;exact JL.kw (aS _ _ (aC,bd) ⟨a8,rfl,rfl,(ag.trans a9),ba⟩ aj) rfl
  ·have aD:=ak;rw [if_neg al] at aD;refine JL.exit rfl ?_;obtain rfl:=oi aD;obtain rfl:=aR _ aj;exact JL.kw (aQ _ _ ⟨ab,rfl,rfl,ag,ai⟩) rfl
end Pal
namespace Pal
open Go Go.Conc Go.Proofs
open Go.Proofs.Tryz
variable {J:Judge Tryz.prog}{E:LH}
theorem Q2:M7 Tryz.prog 138 .u16:=⟨_,underlying138,by decide+kernel,by decide,underlying102,rfl⟩
def GZ(fuel:Nat)(A:(List (List Int))×(List (List Int))×(List Nat)×(List Nat)×Int):Option (AU ((List (List Int))×(List (List Int))×(List Nat)×(List Nat)×Int) ((List (List Int))×(List (List Int))×(List Nat)×(List Nat))):=
 if A.2.2.2.2<12 then(
  (Aw (A.2.2.2.2+1)).bind fun O=>
  (ix A.2.2.1 (A.2.2.2.2)).bind fun U=>
  (G2 fuel (A.1,A.2.1,A.2.2.1) U).bind fun K=>
  (ix A.2.2.2.1 (O)).bind fun Z=>
  (Aw (A.2.2.2.2+1)).bind fun W=>
  some (.more (K.2.1,K.2.2.1,K.2.2.2,(A.2.2.2.1.set (Int.toNat O) K.1),W))
 ) else(
  some (.done (A.1,A.2.1,A.2.2.1,A.2.2.2.1))
 )
def H2(fuel:Nat)(K:(List (List Int))×(List (List Int))×(List Nat)):Option (AU ((List (List Int))×(List (List Int))×(List Nat)) (((Option ((List (List Int))×(List (List Int))×(List Nat))))⊕Unit)):=
 Option.bind (iter (GZ fuel) fuel (K.1,K.2.1,K.2.2,K.2.2,0)) fun A=>
 if A.2.2.2≠A.2.2.1 then(
  some (.more (A.1,A.2.1,A.2.2.2))
 ) else(
  some (.done (Sum.inl (some (A.1,A.2.1,A.2.2.1))))
 )
def f92(fuel:Nat)(p0:(List (List Int))×(List (List Int))):Option ((Option ((List (List Int))×(List (List Int))×(List Nat)))):=
 (ix (List.replicate 13 (0:Nat)) (0)).bind fun K=>
 Option.bind (iter (H2 fuel) fuel (p0.1,p0.2,((List.replicate 13 (0:Nat)).set (Int.toNat 0) 1))) fun A=>
 Sum.elim (fun r=>some r) (fun O=>none) A
theorem H7{ab:Option Addr}{c2:Nat}{ac:Option Addr}{ae:Nat}{p0:(List (List Int))×(List (List Int))}(bu:Ar (rL rI) E ab c2 (p0.1))(bv:Ar (rL rI) E ac ae (p0.2)){fuel:Nat}{r:(Option ((List (List Int))×(List (List Int))×(List Nat)))}(a1:f92 fuel p0=some r):Au J 92 [.agg #[.slice ab (p0.1).length c2,.slice ac (p0.2).length ae]] E [] (fun w E' B'=>∃(a2:Value),w=a2∧B'= []∧GD (rP (rL (rL rI)) (rP (rL (rL rI)) (rA 13 (rN .u16)))) E' a2 (r)):=by
 refine Au.en func92 rfl rfl fun Q cm cs H bw bx=>?_;unfold f92 at a1;refine JL.go 2 rfl ?_;refine JS.box (v:= .agg #[.slice ab (p0.1).length c2,.slice ac (p0.2).length ae]) rfl rfl rfl bw rfl fun bz bA=>?_;refine JS.Bi 1 bA rfl fun ao aO aP bB=>?_;replace aP:At ao bz 0 [.slice ab (p0.1).length c2,.slice ac (p0.2).length ae]:=aP;refine JL.go 5 rfl ?_;refine JL.Bt aP (Ao underlying24) (Ah type24) rfl rfl ?_;refine JL.Y (v:= .agg (([.slice ab (p0.1).length c2,.slice ac (p0.2).length ae]:List Value)++(List.replicate 13 (.int .u16 ((0:Nat):Int)):List Value)).toArray) rfl (fun ρ h=>Yl.B4 [(0,2),(2,13)] h (AN type141) underlying141 ⟨rfl,Ah type24,rfl,Ah type139,trivial⟩ rfl rfl) ?_;refine JS.box (v:= .agg (([.slice ab (p0.1).length c2,.slice ac (p0.2).length ae]:List Value)++(List.replicate 13 (.int .u16 ((0:Nat):Int)):List Value)).toArray) rfl rfl rfl bB rfl fun K bC=>?_;refine JS.norm (S':= [[],[],[(K,.cells (([.slice ab (p0.1).length c2,.slice ac (p0.2).length ae]:List Value)++(List.replicate 13 (.int .u16 ((0:Nat):Int)):List Value)).toArray 141 (0,0))]]) rfl bC fun bD=>?_;refine JL.go 6 rfl ?_;refine JL.fd underlying141 (Ah type139) rfl rfl rfl ?_;obtain⟨cn,aQ,bE⟩:=bs a1;obtain⟨_,rfl,_,_,co⟩:=Fj (kk:=13) (pp:=(rN .u16)) (Gm (E:=ao) (pp:=(rN .u16)) rfl) aQ;refine JL.Y (v:= .pointer (some ⟨K,2+Int.toNat (0)*1,none⟩)) rfl (fun ρ h=>Yl.Gt (kk:=13) (pp:=(rN .u16)) (Gm (E:=ao) (pp:=(rN .u16)) rfl) aQ underlying139 (Ah type138) (h _ _ rfl) (h _ _ rfl)) ?_;refine JL.fd underlying138 (Ah type102) rfl rfl rfl ?_;have aH:=Jd (us:= [.int .u16 ((1:Nat):Int)]) (y:=1) (Gm (E:=ao) (pp:=(rN .u16)) rfl) aQ rfl;refine JS.GW (v:= .int .u16 ((1:Nat):Int)) (l:= [.slice ab (p0.1).length c2,.slice ac (p0.2).length ae]) (ws:=(List.replicate 13 (.int .u16 ((0:Nat):Int)):List Value)) (us:= [.int .u16 ((1:Nat):Int)]) (o:=Int.toNat (0)*1) 2 rfl rfl rfl bD rfl rfl rfl (Ah type102) (by simp [Value.cells,Bs]) rfl aH.2 fun a3=>?_;replace aH:=aH.1;generalize bF:EF (List.replicate 13 (.int .u16 ((0:Nat):Int)):List Value) (Int.toNat (0)*1) [.int .u16 ((1:Nat):Int)]=aR at a3 ⊢;have bG:(rA 13 (rN .u16)).r ao aR ((List.replicate 13 (0:Nat)).set (Int.toNat 0) 1):=by rw [← bF];exact aH
 refine JS.norm (S':= [[],[],[(K,.cells (([.slice ab (p0.1).length c2,.slice ac (p0.2).length ae]:List Value)++aR).toArray 141 (0,0))]]) rfl a3 fun bH=>?_;refine JL.go 2 rfl ?_;refine JL.label ?_;obtain⟨cp,bI,bJ⟩:=bs bE;refine JL.wk [(3,.pointer (some ⟨K,0,none⟩))] rfl ?_;refine JL.Rz bI (fun L s U=>∃(ag:LH) (ap:Option Addr) (aq:Nat) (ar:Option Addr) (au:Nat) (Z:List Value),Jn ao H ag [[(K,.cells (([.slice ap (U.1).length aq,.slice ar (U.2.1).length au]:List Value)++Z).toArray 141 (0,0))]] [(3,.pointer (some ⟨K,0,none⟩))] L s (Ar (rL rI) ag ap aq (U.1)∧Ar (rL rI) ag ar au (U.2.1)∧(rA 13 (rN .u16)).r ag Z (U.2.2))) ⟨ao,ab,c2,ac,ae,aR,rfl,rfl,(Le.refl _),bH,(bu.mono aO),(bv.mono aO),bG⟩ ?_;rintro _ _ U ⟨ag,ap,aq,ar,au,Z,rfl,rfl,a4,a5,bK,bL,av⟩ bM ⟨cq,aS⟩ bN;have a6:=aS;unfold H2 at a6;refine JL.go 4 rfl ?_;refine JL.fd underlying141 (Ah type139) rfl rfl rfl ?_;refine JL.Y (v:= .agg Z.toArray) rfl (fun ρ h=>Yl.G3 (kk:=13) (pp:=(rN .u16)) av (Ao underlying139) (Ah type139) (h _ _ rfl) (HD (l:= [.slice ap (U.1).length aq,.slice ar (U.2.1).length au]) 0 a5 rfl)) ?_;refine JS.alloc rfl rfl rfl a5 (AN type139) fun aa bO=>?_;refine JS.norm (S':= [[(K,.cells (([.slice ap (U.1).length aq,.slice ar (U.2.1).length au]:List Value)++Z).toArray 141 (0,0))],[(aa,.cells (([]:List Value)++(List.replicate 13 (.int .u16 ((0:Nat):Int)):List Value)).toArray 139 (0,0))]]) rfl bO fun bP=>?_;refine JS.GW (v:= .agg Z.toArray) (l:= []) (ws:=(List.replicate 13 (.int .u16 ((0:Nat):Int)):List Value)) (us:=Z) (o:=0) 1 rfl rfl rfl bP rfl rfl rfl (by rw [DD (kk:=13) (pp:=(rN .u16)) av];exact Ah type139) ((rA 13 (rN .u16)).one av) rfl (by rw [DD (kk:=13) (pp:=(rN .u16)) av,DD (kk:=13) (pp:=(rN .u16)) (Gm (E:=ag) (pp:=(rN .u16)) rfl)];omega) fun a7=>?_;rw [KX (by rw [DD (kk:=13) (pp:=(rN .u16)) av,DD (kk:=13) (pp:=(rN .u16)) (Gm (E:=ag) (pp:=(rN .u16)) rfl)])] at a7 ⊢;refine JS.norm (S':= [[(K,.cells (([.slice ap (U.1).length aq,.slice ar (U.2.1).length au]:List Value)++Z).toArray 141 (0,0))],[(aa,.cells (([]:List Value)++Z).toArray 139 (0,0))]]) rfl a7 fun bQ=>?_;obtain⟨A,bR,a8⟩:=bs a6;refine JL.go 6 rfl ?_;refine JL.join (fun L s=>∃(aw:LH) (ak:Option Addr) (al:Nat) (ah:Option Addr) (ai:Nat) (am:List Value) (aj:List Value),Jn ag H aw [[(K,.cells (([.slice ak (A.1).length al,.slice ah (A.2.1).length ai]:List Value)++am).toArray 141 (0,0))],[(aa,.cells (([]:List Value)++aj).toArray 139 (0,0))]] [(3,.pointer (some ⟨K,0,none⟩)),(4,.pointer (some ⟨aa,0,none⟩))] L s (Ar (rL rI) aw ak al (A.1)∧Ar (rL rI) aw ah ai (A.2.1)∧(rA 13 (rN .u16)).r aw am (A.2.2.1)∧(rA 13 (rN .u16)).r aw aj (A.2.2.2))) ?_ ?_
 ·rintro _ _ ⟨aw,ak,al,ah,ai,am,aj,rfl,rfl,a9,az,ba,bb,aB,an⟩;refine JL.go 2 rfl ?_;refine JG.BX 5 [aa,K] ⟨⟨1,_,rfl⟩,⟨0,_,rfl⟩,trivial⟩ az mixed rfl (by decide+kernel) fun ht=>?_;refine JG.V (v:= .agg aj.toArray) 0 ht rfl rfl (fun ρ h s' hs=>Yl.G3 (kk:=13) (pp:=(rN .u16)) an (Ao underlying139) (Ah type139) (h _ _ rfl) (IS (l:= []) 1 az rfl (by simp [AD]) hs)) ?_;refine JG.mv 1 ht rfl rfl ?_;refine JG.mv 2 ht rfl rfl ?_;refine JG.fd 3 ht underlying141 (Ah type139) rfl rfl rfl rfl ?_;refine JG.V (v:= .agg am.toArray) 4 ht rfl rfl (fun ρ h s' hs=>Yl.G3 (kk:=13) (pp:=(rN .u16)) aB (Ao underlying139) (Ah type139) (h _ _ rfl) (IS (l:= [.slice ak (A.1).length al,.slice ah (A.2.1).length ai]) 0 az rfl (by simp [AD]) hs)) ?_;refine Av.leaf (tail:= [5]) (by decide+kernel) (fun t=>A3 (by decide+kernel) BE t) ?_;refine JL.Y (v:= .bool (decide (A.2.2.2≠A.2.2.1))) rfl (fun ρ h=>Yl.RR underlying139 (by decide+kernel) Q2 (Ah type138) an aB (h _ _ rfl) (h _ _ rfl)) ?_;refine JL.done ?_;refine JL.ifs (p:=A.2.2.2≠A.2.2.1) rfl (fun aT=>?_) (fun aT=>?_)
  ·have bc:=a8;rw [if_pos aT] at bc;refine JL.go 3 rfl ?_;refine JL.Y (v:= .agg aj.toArray) rfl (fun ρ h=>Yl.G3 (kk:=13) (pp:=(rN .u16)) an (Ao underlying139) (Ah type139) (h _ _ rfl) (HD (l:= []) 1 az rfl)) ?_;refine JL.go 1 rfl ?_;refine JL.fd underlying141 (Ah type139) rfl rfl rfl ?_;refine JS.GW (v:= .agg aj.toArray) (l:= [.slice ak (A.1).length al,.slice ah (A.2.1).length ai]) (ws:=am) (us:=aj) (o:=0) 0 rfl rfl rfl az rfl rfl rfl (by rw [DD (kk:=13) (pp:=(rN .u16)) an];exact Ah type139) ((rA 13 (rN .u16)).one an) rfl (by rw [DD (kk:=13) (pp:=(rN .u16)) an,DD (kk:=13) (pp:=(rN .u16)) aB];omega) fun bd=>?_;rw [KX (by rw [DD (kk:=13) (pp:=(rN .u16)) an,DD (kk:=13) (pp:=(rN .u16)) aB])] at bd ⊢;refine JS.norm (S':= [[(K,.cells (([.slice ak (A.1).length al,.slice ah (A.2.1).length ai]:List Value)++aj).toArray 141 (0,0))],[(aa,.cells (([]:List Value)++aj).toArray 139 (0,0))]]) rfl bd fun bS=>?_;refine JL.done ?_;refine JL.goto rfl ?_;refine JL.go 2 rfl ?_;refine JS.drop 1 bS rfl fun bT=>?_;obtain rfl:=oi bc;exact JL.kw (bN _ _ (A.1,A.2.1,A.2.2.2) ⟨aw,ak,al,ah,ai,aj,rfl,rfl,(a4.trans a9),bT,ba,bb,an⟩ aS) rfl
  ·have bf:=a8;rw [if_neg aT] at bf;refine JL.go 6 rfl ?_;refine JS.Bi 0 az rfl fun bU aI aU bV=>?_;replace aU:At bU K 0 (([.slice ak (A.1).length al,.slice ah (A.2.1).length ai]:List Value)++am):=aU;refine JS.drop 1 bV rfl fun bW=>?_;obtain rfl:=oi bf;obtain rfl:=bM _ aS;have bX:=elim_inl bJ;obtain rfl:=oi bX;refine JL.rt func92 rfl rfl ?_;exact bx _ _ _ _ (((aO.trans a4).trans a9).trans aI) rfl ⟨.pointer (some ⟨K,0,none⟩),rfl,rfl,⟨_,_,_,rfl,aU,⟨[.slice ak (A.1).length al],(([.slice ah (A.2.1).length ai]:List Value)++am),rfl,⟨_,_,rfl,(ba.mono aI)⟩,⟨[.slice ah (A.2.1).length ai],am,rfl,⟨_,_,rfl,(bb.mono aI)⟩,(Rp.mono _ aI aB)⟩⟩⟩⟩ bW
 ·intro bY;refine JL.block ?_;refine JL.wk [(3,.pointer (some ⟨K,0,none⟩)),(4,.pointer (some ⟨aa,0,none⟩)),(18,iV 0)] rfl ?_;refine JL.Bg bR (fun L s O=>∃(ay:LH) (aC:Option Addr) (aD:Nat) (aE:Option Addr) (aF:Nat) (aJ:List Value) (aA:List Value),Jn ag H ay [[(K,.cells (([.slice aC (O.1).length aD,.slice aE (O.2.1).length aF]:List Value)++aJ).toArray 141 (0,0))],[(aa,.cells (([]:List Value)++aA).toArray 139 (0,0))]] [(3,.pointer (some ⟨K,0,none⟩)),(4,.pointer (some ⟨aa,0,none⟩)),(18,iV O.2.2.2.2)] L s (Ar (rL rI) ay aC aD (O.1)∧Ar (rL rI) ay aE aF (O.2.1)∧(rA 13 (rN .u16)).r ay aJ (O.2.2.1)∧(rA 13 (rN .u16)).r ay aA (O.2.2.2.1))) ⟨ag,ap,aq,ar,au,Z,Z,rfl,rfl,(Le.refl _),bQ,bK,bL,av,av⟩ ?_;rintro _ _ O ⟨ay,aC,aD,aE,aF,aJ,aA,rfl,rfl,bg,aV,bh,bi,aK,aL⟩ bZ ⟨cr,aW⟩ b0;have aX:=aW;unfold GZ at aX;refine JL.go 5 rfl ?_;refine JL.ifs (p:=O.2.2.2.2<12) rfl (fun aY=>?_) (fun aY=>?_)
  ·have bj:=aX;rw [if_pos aY] at bj;obtain⟨aG,b1,b2⟩:=bs bj;refine JL.go 10 rfl ?_;refine JL.Y rfl (fun ρ h=>Yl.A1 (h _ _ rfl) (h _ _ rfl) b1) ?_;refine JL.go 4 rfl ?_;refine JL.fd underlying141 (Ah type139) rfl rfl rfl ?_;obtain⟨b3,bk,b4⟩:=bs b2;obtain⟨_,rfl,_,_,b5⟩:=Fj (kk:=13) (pp:=(rN .u16)) aK bk;refine JL.Y (v:= .pointer (some ⟨K,2+Int.toNat (O.2.2.2.2)*1,none⟩)) rfl (fun ρ h=>Yl.Gt (kk:=13) (pp:=(rN .u16)) aK bk underlying139 (Ah type138) (h _ _ rfl) (h _ _ rfl)) ?_;refine JL.fd underlying138 (Ah type102) rfl rfl rfl ?_;refine JL.Y (v:= .int .u16 ((b3:Nat):Int)) rfl (fun ρ h=>Yl.load (Ao underlying102) (h _ _ rfl) (Oq (l:= [.slice aC (O.1).length aD,.slice aE (O.2.1).length aF]) 0 aV rfl (b5 0 _ rfl))) ?_;obtain⟨W,b6,b7⟩:=bs b4;refine JS.Bw 0 (PZ bh bi aK b6) rfl rfl (Ay func121 rfl) aV rfl ?_;rintro _ bl _ aM ⟨bm,bn,bo,bp,GC,rfl,rfl,b8,b9,ca⟩ cb;obtain⟨ct,aZ,cc⟩:=bs b7;obtain⟨_,rfl,_,_,cu⟩:=Fj (kk:=13) (pp:=(rN .u16)) (Rp.mono _ aM aL) aZ;refine JL.Y (v:= .pointer (some ⟨aa,0+Int.toNat (aG)*1,none⟩)) rfl (fun ρ h=>Yl.Gt (kk:=13) (pp:=(rN .u16)) (Rp.mono _ aM aL) aZ underlying139 (Ah type138) (h _ _ rfl) (h _ _ rfl)) ?_;refine JL.fd underlying138 (Ah type102) rfl rfl rfl ?_;have aN:=Jd (us:= [.int .u16 ((W.1:Nat):Int)]) (y:=W.1) (Rp.mono _ aM aL) aZ rfl;refine JS.GW (v:= .int .u16 ((W.1:Nat):Int)) (l:= []) (ws:=aA) (us:= [.int .u16 ((W.1:Nat):Int)]) (o:=Int.toNat (aG)*1) 1 rfl rfl rfl cb rfl rfl rfl (Ah type102) (by simp [Value.cells,Bs]) rfl aN.2 fun bq=>?_;replace aN:=aN.1;generalize cd:EF aA (Int.toNat (aG)*1) [.int .u16 ((W.1:Nat):Int)]=a0 at bq ⊢;have ce:(rA 13 (rN .u16)).r bl a0 (O.2.2.2.1.set (Int.toNat aG) W.1):=by rw [← cd];exact aN
   refine JS.norm (S':= [[(K,.cells (([.slice bm (W.2.1).length bn,.slice bo (W.2.2.1).length bp]:List Value)++GC).toArray 141 (0,0))],[(aa,.cells (([]:List Value)++a0).toArray 139 (0,0))]]) rfl bq fun cf=>?_;obtain⟨cg,ci,ck⟩:=bs cc;refine JL.go 3 rfl ?_;refine JL.Y rfl (fun ρ h=>Yl.A1 (h _ _ rfl) (h _ _ rfl) ci) ?_;refine JL.go 2 rfl ?_;obtain rfl:=oi ck;exact JL.kw (b0 _ _ (W.2.1,W.2.2.1,W.2.2.2,(O.2.2.2.1.set (Int.toNat aG) W.1),cg) ⟨bl,bm,bn,bo,bp,GC,a0,rfl,rfl,(bg.trans aM),cf,b8,b9,ca,ce⟩ aW) rfl
  ·have br:=aX;rw [if_neg aY] at br;refine JL.exit rfl ?_;obtain rfl:=oi br;obtain rfl:=bZ _ aW;exact JL.kw (bY _ _ ⟨ay,aC,aD,aE,aF,aJ,aA,rfl,rfl,bg,aV,bh,bi,aK,aL⟩) rfl
end Pal
namespace Pal
open Go Go.Conc Go.Proofs
open Go.Proofs.Tryz
variable {J:Judge Tryz.prog}{E:LH}
def HO(fuel:Nat)(p1:List Int)(A:Int):Option (AU (Int) (((Option ((List (List Int))×(List (List Int))×(List Nat)))×Int)⊕(Unit))):=
 if A<((p1).length:Int) then(
  (ix p1 (A)).bind fun K=>
  (f101 fuel K 0 12).bind fun O=>
  if O=true then(
   some (.done (Sum.inl (none,1)))
  ) else(
   (Aw (A+1)).bind fun U=>
   some (.more U)
  )
 ) else(
  some (.done (Sum.inr ()))
 )
def f106(fuel:Nat)(p0:(List (List Int))×(List (List Int)))(p1:List Int):Option ((Option ((List (List Int))×(List (List Int))×(List Nat)))×Int):=
 (f67 fuel p0).bind fun A=>
 if A≠0 then(
  some (none,A)
 ) else(
  Option.bind (iter (HO fuel p1) fuel 0) fun K=>
  Sum.elim (fun r=>some r) (fun U=>
  (f92 fuel p0).bind fun O=>
  some (O,0)
  ) K
 )
theorem Jj{O:Option Addr}{c2:Nat}{U:Option Addr}{W:Nat}{Z:Option Addr}{aa:Nat}{p0:(List (List Int))×(List (List Int))}{p1:List Int}(ar:Ar (rL rI) E O c2 (p0.1))(au:Ar (rL rI) E U W (p0.2))(aP:Ar rI E Z aa (p1)){fuel:Nat}{r:(Option ((List (List Int))×(List (List Int))×(List Nat)))×Int}(av:f106 fuel p0 p1=some r):Au J 106 [.agg #[.slice O (p0.1).length c2,.slice U (p0.2).length W],.slice Z (p1).length aa] E [] (fun w E' B'=>∃(aw:Value),w= .tuple #[aw,iV r.2]∧B'= []∧GD (rP (rL (rL rI)) (rP (rL (rL rI)) (rA 13 (rN .u16)))) E' aw (r.1)):=by
 refine Au.en func106 rfl rfl fun Q bn cs H aQ aj=>?_;unfold f106 at av;refine JL.go 2 rfl ?_;refine JS.box (v:= .agg #[.slice O (p0.1).length c2,.slice U (p0.2).length W]) rfl rfl rfl aQ rfl fun ab aR=>?_;refine JS.Bi 1 aR rfl fun aS A ac aT=>?_;replace ac:At aS ab 0 [.slice O (p0.1).length c2,.slice U (p0.2).length W]:=ac;refine JL.go 6 rfl ?_;refine JL.Bt ac (Ao underlying24) (Ah type24) rfl rfl ?_;obtain⟨aU,aV,ay⟩:=bs av;refine JS.cl (RG (ar.mono A) (au.mono A) aV) rfl rfl (Ay func67 rfl) aT ?_;rintro _ ak _ K ⟨rfl,rfl⟩ az;refine JL.go 7 rfl ?_;refine JL.ifs (p:=aU≠0) rfl (fun al=>?_) (fun al=>?_)
 ·have aA:=ay;rw [if_pos al] at aA;refine JL.go 6 rfl ?_;obtain rfl:=oi aA;refine JL.rt func106 rfl rfl ?_;exact aj _ _ _ _ (A.trans K) rfl ⟨.pointer none,rfl,rfl,rfl⟩ az
 ·have aB:=ay;rw [if_neg al] at aB;refine JL.go 5 rfl ?_;refine JL.Y rfl (fun ρ h=>Yl.len rfl underlying28 (h _ _ rfl)) ?_;obtain⟨aC,aW,aD⟩:=bs aB;refine JL.go 2 rfl ?_;refine JL.join (fun L s=>∃(aE:Unit) (aF:LH),aC=Sum.inr aE∧Jm ak H aF [] [(2,.pointer (some ⟨ab,0,none⟩))] L s) ?_ ?_
  ·rintro _ _ ⟨aE,aF,rfl,rfl,rfl,ae,aX⟩;have aY:=elim_inr aD;refine JL.go 2 rfl ?_;refine JL.Bt (ac.mono (K.trans ae)) (Ao underlying24) (Ah type24) rfl rfl ?_;obtain⟨bo,aZ,a0⟩:=bs aY;refine JS.cl (H7 (ar.mono ((A.trans K).trans ae)) (au.mono ((A.trans K).trans ae)) aZ) rfl rfl (Ay func92 rfl) aX ?_;rintro a1 bp _ a2 ⟨_,rfl,rfl,a3⟩ a4;refine JS.norm (S':= [[]]) rfl a4 fun a5=>?_;refine JL.go 3 rfl ?_;obtain rfl:=oi a0;refine JL.rt func106 rfl rfl ?_;exact aj _ _ _ _ (((A.trans K).trans ae).trans a2) rfl ⟨a1,rfl,rfl,a3⟩ a5
  ·intro a6;refine JL.block ?_;refine JL.wk [(2,.pointer (some ⟨ab,0,none⟩)),(14,.slice Z (p1).length aa),(15,iV ((p1).length:Int)),(16,iV 0)] rfl ?_;refine JL.Bg aW (fun L s am=>∃(ag:LH),Jm ak H ag [] [(2,.pointer (some ⟨ab,0,none⟩)),(14,.slice Z (p1).length aa),(15,iV ((p1).length:Int)),(16,iV am)] L s) ⟨ak,rfl,rfl,(Le.refl _),az⟩ ?_;rintro _ _ am ⟨ag,rfl,rfl,ah,aG⟩ aH ⟨bq,ai⟩ a7;have an:=ai;unfold HO at an;refine JL.go 5 rfl ?_;refine JL.ifs (p:=am<((p1).length:Int)) rfl (fun ao=>?_) (fun ao=>?_)
   ·have aI:=an;rw [if_pos ao] at aI;obtain⟨a8,a9,ba⟩:=bs aI;refine JL.go 5 rfl ?_;refine JS.BH (aP.mono ((A.trans K).trans ah)) a9 rfl rfl rfl rfl rfl underlying28 (Ah type3) ?_;rintro bb bc _ rfl ap;replace ap:At ag bb bc [iV a8]:=ap;refine JL.ld 0 ap (Ao underlying3) rfl rfl rfl ?_;obtain⟨bd,bf,aJ⟩:=bs ba;refine JL.go 5 rfl ?_;refine JS.cl (FQ bf) rfl rfl (Ay func101 rfl) aG ?_;rintro _ bg _ aK ⟨rfl,rfl⟩ bh;refine JS.norm (S':= [[]]) rfl bh fun aL=>?_;refine JL.done ?_;refine JL.split (t:=bd) rfl (fun aq=>?_) (fun aq=>?_)
    ·have aM:=aJ;rw [if_pos aq] at aM;refine JL.go 5 rfl ?_;obtain rfl:=oi aM;obtain rfl:=aH _ ai;have bi:=elim_inl aD;obtain rfl:=oi bi;refine JL.rt func106 rfl rfl ?_;exact aj _ _ _ _ (((A.trans K).trans ah).trans aK) rfl ⟨.pointer none,rfl,rfl,rfl⟩ aL
    ·have aN:=aJ;rw [if_neg (by rw [aq];exact Bool.false_ne_true)] at aN;obtain⟨bj,bk,bl⟩:=bs aN;refine JL.go 3 rfl ?_;refine JL.Y rfl (fun ρ h=>Yl.A1 (h _ _ rfl) (h _ _ rfl) bk) ?_;refine JL.go 2 rfl ?_;obtain rfl:=oi bl;exact JL.kw (a7 _ _ bj ⟨bg,rfl,rfl,(ah.trans aK),aL⟩ ai) rfl
   ·have aO:=an;rw [if_neg ao] at aO;refine JL.exit rfl ?_;obtain rfl:=oi aO;have bm:aC=(Sum.inr ()):=(aH _ ai).symm;exact JL.kw (a6 _ _ ⟨(),ag,bm,rfl,rfl,ah,aG⟩) rfl
def f51(fuel:Nat)(p0:(List (List Int))×(List (List Int)))(p1:Int):Option ((List Int)×Int):=
 (f106 fuel p0 ([p1]:List Int)).bind fun A=>
 if A.2≠0 then(
  some ([],A.2)
 ) else(
  (A.1).bind fun K=>
  (ix K.2.2 (p1)).bind fun O=>
  (f89 fuel O).bind fun U=>
  some (U,0)
 )
theorem Jp{A:Option Addr}{c2:Nat}{K:Option Addr}{O:Nat}{p0:(List (List Int))×(List (List Int))}{p1:Int}(az:Ar (rL rI) E A c2 (p0.1))(aA:Ar (rL rI) E K O (p0.2)){fuel:Nat}{r:(List Int)×Int}(ag:f51 fuel p0 p1=some r):Au J 51 [.agg #[.slice A (p0.1).length c2,.slice K (p0.2).length O],iV p1] E [] (fun w E' B'=>∃(ah:Option Addr) (ai:Nat),w= .tuple #[.slice ah (r.1).length ai,iV r.2]∧B'= []∧Ar rI E' ah ai (r.1)):=by
 refine Au.en func51 rfl rfl fun Q a4 cs H aB aj=>?_;unfold f51 at ag;refine JL.go 2 rfl ?_;refine JS.box (v:= .agg #[.slice A (p0.1).length c2,.slice K (p0.2).length O]) rfl rfl rfl aB rfl fun aC aD=>?_;refine JS.Bi 1 aD rfl fun aE U aa aF=>?_;replace aa:At aE aC 0 [.slice A (p0.1).length c2,.slice K (p0.2).length O]:=aa;refine JL.go 5 rfl ?_;refine JL.Bt aa (Ao underlying24) (Ah type24) rfl rfl ?_;refine JL.go 1 rfl ?_;refine JS.lit (pp:=rI) [iV p1] [p1] rfl rfl rfl underlying28 (Ah type3) (AN type3) (by decide) rfl rfl rfl ⟨rfl,trivial⟩ aF fun a5 a6 aG aH=>?_;refine JS.BA 2 aG aH rfl fun a7 W aI aJ=>?_;refine JS.norm (S':= [[],[],[]]) rfl aJ fun aK=>?_;obtain⟨aL,aM,ak⟩:=bs ag;refine JS.cl (Jj (az.mono (U.trans W)) (aA.mono (U.trans W)) aI aM) rfl rfl (Ay func106 rfl) aK ?_;rintro _ al _ am ⟨a8,rfl,rfl,aN⟩ an;refine JL.go 12 rfl ?_;refine JL.ifs (p:=aL.2≠0) rfl (fun ab=>?_) (fun ab=>?_)
 ·have ao:=ak;rw [if_pos ab] at ao;refine JL.go 6 rfl ?_;obtain rfl:=oi ao;refine JL.rt func51 rfl rfl ?_;exact aj _ _ _ _ ((U.trans W).trans am) rfl ⟨none,0,rfl,rfl,Ar.nil⟩ an
 ·have ap:=ak;rw [if_neg ab] at ap;obtain⟨Z,aO,aP⟩:=bs ap;have aq:=aN;refine JL.go 5 rfl ?_;rw [aO] at aq;obtain⟨ar,aQ,_,rfl,ac,⟨_,_,rfl,⟨au,av,rfl,a9⟩,⟨_,aR,rfl,⟨aw,ay,rfl,ba⟩,aS⟩⟩⟩:=aq;replace ac:At al ar aQ (([.slice au (Z.1).length av,.slice aw (Z.2.1).length ay]:List Value)++aR):=ac;refine JL.go 1 rfl ?_;refine JL.fd underlying141 (Ah type139) rfl rfl rfl ?_;obtain⟨aT,aU,aV⟩:=bs aP;refine JS.JF (l:= [.slice au (Z.1).length av,.slice aw (Z.2.1).length ay]) ac aS aU rfl rfl rfl rfl rfl underlying139 (Ah type138) ?_;rintro aW _ rfl ae;replace ae:At al ar aW [.int .u16 ((aT:Nat):Int)]:=ae;refine JL.fd underlying138 (Ah type102) rfl rfl rfl ?_;refine JL.ld 0 ae (Ao underlying102) rfl rfl rfl ?_;obtain⟨bb,aX,aY⟩:=bs aV;refine JS.cl (FY aX) rfl rfl (Ay func89 rfl) an ?_;rintro _ bc _ aZ ⟨a0,a1,rfl,rfl,a2⟩ a3;refine JL.go 3 rfl ?_;obtain rfl:=oi aY;refine JL.rt func51 rfl rfl ?_;exact aj _ _ _ _ (((U.trans W).trans am).trans aZ) rfl ⟨a0,a1,rfl,rfl,a2⟩ a3
def QN(fuel:Nat)(p1:Int)(K:(List (List Int))×(List (List Int))×(List Nat))(A:(List Int)×Int):Option (AU ((List Int)×Int) ((List Int))):=
 if A.2<13 then(
  (ix K.2.2 (A.2)).bind fun O=>
  (f103 fuel O p1).bind fun U=>
  Option.bind (
   if U=true then(
    (room A.1 A.2).bind fun W=>
    some W
   ) else(
    some A.1
   )
  ) fun Z=>
  (Aw (A.2+1)).bind fun aa=>
  some (.more (Z,aa))
 ) else(
  some (.done A.1)
 )
def f65(fuel:Nat)(p0:(List (List Int))×(List (List Int)))(p1:Int):Option ((List Int)×Int):=
 (f106 fuel p0 ([])).bind fun A=>
 if A.2≠0 then(
  some ([],A.2)
 ) else(
  (Aw (((p0.1).length:Int) - 1)).bind fun K=>
  (f101 fuel p1 0 K).bind fun O=>
  if O=true then(
   some ([],3)
  ) else(
   (A.1).bind fun U=>
   Option.bind (iter (QN fuel p1 U) fuel ([],0)) fun W=>
   some (W,0)
  )
 )
def HH(fuel:Nat)(p0:(List (List Int))×(List (List Int))×(List Nat))(K:Nat)(O:(List Int))(A:Int):Option (AU (Int) ((Bool)⊕(Unit))):=
 if A<((O).length:Int) then(
  (ix O (A)).bind fun U=>
  (f103 fuel K U).bind fun W=>
  Option.bind (
   if W=true then(
    some true
   ) else(
    (ix p0.2.1 (U)).bind fun Z=>
    (f120 fuel Z).bind fun aa=>
    (Gz (K) (aa)).bind fun ab=>
    some (decide ((((ab):Nat):Int)≠(((0):Nat):Int)))
   )
  ) fun ac=>
  if ac=true then(
   some (.done (Sum.inl true))
  ) else(
   (Aw (A+1)).bind fun ae=>
   some (.more ae)
  )
 ) else(
  some (.done (Sum.inr ()))
 )
def f109(fuel:Nat)(p0:(List (List Int))×(List (List Int))×(List Nat))(p1:Int)(p2:Int):Option (Bool):=
 (ix p0.2.2 (p2)).bind fun A=>
 (ix p0.2.2 (p1)).bind fun K=>
 (f89 fuel K).bind fun O=>
 Option.bind (iter (HH fuel p0 A O) fuel 0) fun U=>
 Sum.elim (fun r=>some r) (fun W=>
 some false
 ) U
theorem Mh{k1:Nat}{O:Nat}{U:Option Addr}{W:Nat}{Z:Option Addr}{aa:Nat}{aA:List Value}{p0:(List (List Int))×(List (List Int))×(List Nat)}{p1:Int}{p2:Int}(aj:At E k1 O (([.slice U (p0.1).length W,.slice Z (p0.2.1).length aa]:List Value)++aA))(bO:Ar (rL rI) E U W (p0.1))(aX:Ar (rL rI) E Z aa (p0.2.1))(aB:(rA 13 (rN .u16)).r E aA (p0.2.2)){fuel:Nat}{r:Bool}(aC:f109 fuel p0 p1 p2=some r):Au J 109 [.pointer (some ⟨k1,O,none⟩),iV p1,iV p2] E [] (fun w E' B'=>w= .bool r∧B'= []):=by
 refine Au.en func109 rfl rfl fun Q bP cs H aY aD=>?_;unfold f109 at aC;refine JL.go 9 rfl ?_;refine JL.fd underlying141 (Ah type139) rfl rfl rfl ?_;obtain⟨ab,aZ,a0⟩:=bs aC;refine JS.JF (l:= [.slice U (p0.1).length W,.slice Z (p0.2.1).length aa]) aj aB aZ rfl rfl rfl rfl rfl underlying139 (Ah type138) ?_;rintro a1 _ rfl ak;replace ak:At E k1 a1 [.int .u16 ((ab:Nat):Int)]:=ak;refine JL.fd underlying138 (Ah type102) rfl rfl rfl ?_;refine JL.ld 0 ak (Ao underlying102) rfl rfl rfl ?_;refine JL.go 8 rfl ?_;refine JL.fd underlying141 (Ah type139) rfl rfl rfl ?_;obtain⟨a2,a3,a4⟩:=bs a0;refine JS.JF (l:= [.slice U (p0.1).length W,.slice Z (p0.2.1).length aa]) aj aB a3 rfl rfl rfl rfl rfl underlying139 (Ah type138) ?_;rintro a5 _ rfl al;replace al:At E k1 a5 [.int .u16 ((a2:Nat):Int)]:=al;refine JL.fd underlying138 (Ah type102) rfl rfl rfl ?_;refine JL.ld 0 al (Ao underlying102) rfl rfl rfl ?_;obtain⟨A,a6,a7⟩:=bs a4;refine JS.cl (FY a6) rfl rfl (Ay func89 rfl) aY ?_;rintro _ am _ ac ⟨an,ao,rfl,rfl,a8⟩ a9;refine JL.Y rfl (fun ρ h=>Yl.len rfl underlying28 (h _ _ rfl)) ?_;obtain⟨aE,ba,aF⟩:=bs a7;refine JL.go 2 rfl ?_;refine JL.join (fun L s=>∃(aG:Unit) (aH:LH),aE=Sum.inr aG∧Jm am H aH [] [] L s) ?_ ?_
 ·rintro _ _ ⟨aG,aH,rfl,rfl,rfl,bb,bc⟩;have bd:=elim_inr aF;refine JL.go 4 rfl ?_;obtain rfl:=oi bd;refine JL.rt func109 rfl rfl ?_;exact aD _ _ _ _ (ac.trans bb) rfl ⟨rfl,rfl⟩ bc
 ·intro bf;refine JL.block ?_;refine JL.wk [(0,.pointer (some ⟨k1,O,none⟩)),(7,.int .u16 ((ab:Nat):Int)),(24,.slice an (A).length ao),(25,iV ((A).length:Int)),(26,iV 0)] rfl ?_;refine JL.Bg ba (fun L s ae=>∃(ag:LH),Jm am H ag [] [(0,.pointer (some ⟨k1,O,none⟩)),(7,.int .u16 ((ab:Nat):Int)),(24,.slice an (A).length ao),(25,iV ((A).length:Int)),(26,iV ae)] L s) ⟨am,rfl,rfl,(Le.refl _),a9⟩ ?_;rintro _ _ ae ⟨ag,rfl,rfl,K,aI⟩ aJ ⟨bQ,ah⟩ bg;have ap:=ah;unfold HH at ap;refine JL.go 5 rfl ?_;refine JL.ifs (p:=ae<((A).length:Int)) rfl (fun aq=>?_) (fun aq=>?_)
  ·have aK:=ap;rw [if_pos aq] at aK;obtain⟨bh,bi,bj⟩:=bs aK;refine JL.go 5 rfl ?_;refine JS.BH (a8.mono K) bi rfl rfl rfl rfl rfl underlying28 (Ah type3) ?_;rintro bk bl _ rfl ar;replace ar:At ag bk bl [iV bh]:=ar;refine JL.ld 0 ar (Ao underlying3) rfl rfl rfl ?_;obtain⟨bm,bn,bo⟩:=bs bj;refine JL.go 6 rfl ?_;refine JS.cl (Ja bn) rfl rfl (Ay func103 rfl) aI ?_;rintro _ au _ ai ⟨rfl,rfl⟩ aL;obtain⟨aM,aN,aO⟩:=bs bo;refine JL.go 1 rfl ?_;refine JL.By [] (fun L s=>∃(av:LH),Jm au H av [] [(0,.pointer (some ⟨k1,O,none⟩)),(7,.int .u16 ((ab:Nat):Int)),(24,.slice an (A).length ao),(25,iV ((A).length:Int)),(26,iV ae),(46,.bool aM)] L s) ?_ ?_
   ·rintro _ _ ⟨av,rfl,rfl,aP,aQ⟩;refine JL.done ?_;refine JL.split (t:=aM) rfl (fun aw=>?_) (fun aw=>?_)
    ·have aR:=aO;rw [if_pos aw] at aR;refine JL.go 4 rfl ?_;obtain rfl:=oi aR;obtain rfl:=aJ _ ah;have bp:=elim_inl aF;obtain rfl:=oi bp;refine JL.rt func109 rfl rfl ?_;exact aD _ _ _ _ (((ac.trans K).trans ai).trans aP) rfl ⟨rfl,rfl⟩ aQ
    ·have aS:=aO;rw [if_neg (by rw [aw];exact Bool.false_ne_true)] at aS;obtain⟨bq,br,bu⟩:=bs aS;refine JL.go 3 rfl ?_;refine JL.Y rfl (fun ρ h=>Yl.A1 (h _ _ rfl) (h _ _ rfl) br) ?_;refine JL.go 2 rfl ?_;obtain rfl:=oi bu;exact JL.kw (bg _ _ bq ⟨av,rfl,rfl,((K.trans ai).trans aP),aQ⟩ ah) rfl
   ·intro aT;refine JL.BW (c:=bm) (i:=33) rfl (fun ay=>?_) (fun ay=>?_)
    ·have aU:=aN;rw [if_pos ay] at aU;refine JL.go 13 rfl ?_;obtain rfl:=oi aU;exact JL.kw (aT _ _ ⟨au,rfl,rfl,(Le.refl _),aL⟩) rfl
    ·have aV:=aN;rw [if_neg (by rw [ay];exact Bool.false_ne_true)] at aV;refine JL.go 3 rfl ?_;refine JL.fd underlying141 (Ah type24) rfl rfl rfl ?_;refine JL.fd underlying24 (Ah type22) rfl rfl rfl ?_;refine JL.ld 1 (aj.mono ((ac.trans K).trans ai)) (Ao underlying22) rfl rfl rfl ?_;obtain⟨bv,bw,bx⟩:=bs aV;refine JL.go 1 rfl ?_;refine JS.BH (aX.mono ((ac.trans K).trans ai)) bw rfl rfl rfl rfl rfl underlying22 (Ah type28) ?_;rintro bz bA _ ⟨bB,bC,rfl,bD⟩ az;replace az:At au bz bA [.slice bB (bv).length bC]:=az;refine JL.ld 0 az (Ao underlying28) rfl rfl rfl ?_;obtain⟨bR,bE,bF⟩:=bs bx;refine JS.cl (Gp bD bE) rfl rfl (Ay func120 rfl) aL ?_;rintro _ bG _ bH ⟨rfl,rfl⟩ bI;refine JS.norm (S':= [[],[]]) rfl bI fun bJ=>?_;obtain⟨bK,bL,bM⟩:=bs bF;refine JL.Y (v:= .int .u16 ((bK:Nat):Int)) rfl (fun ρ h=>Yl.Jc (h _ _ rfl) (h _ _ rfl) bL) ?_;refine JL.go 2 rfl ?_;obtain rfl:=oi bM;exact JL.kw (aT _ _ ⟨bG,rfl,rfl,bH,bJ⟩) rfl
  ·have aW:=ap;rw [if_neg aq] at aW;refine JL.exit rfl ?_;obtain rfl:=oi aW;have bN:aE=(Sum.inr ()):=(aJ _ ah).symm;exact JL.kw (bf _ _ ⟨(),ag,bN,rfl,rfl,K,aI⟩) rfl
def f59(fuel:Nat)(p0:(List (List Int))×(List (List Int)))(p1:Int)(p2:Int):Option (Bool×Int):=
 (f106 fuel p0 ([p1,p2]:List Int)).bind fun A=>
 if A.2≠0 then(
  some (false,A.2)
 ) else(
  (A.1).bind fun K=>
  (f109 fuel K p1 p2).bind fun O=>
  some (O,0)
 )
theorem Rl{A:Option Addr}{c2:Nat}{K:Option Addr}{O:Nat}{p0:(List (List Int))×(List (List Int))}{p1:Int}{p2:Int}(an:Ar (rL rI) E A c2 (p0.1))(ao:Ar (rL rI) E K O (p0.2)){fuel:Nat}{r:Bool×Int}(ac:f59 fuel p0 p1 p2=some r):Au J 59 [.agg #[.slice A (p0.1).length c2,.slice K (p0.2).length O],iV p1,iV p2] E [] (fun w E' B'=>w= .tuple #[.bool r.1,iV r.2]∧B'= []):=by
 refine Au.en func59 rfl rfl fun Q aW cs H ap ae=>?_;unfold f59 at ac;refine JL.go 2 rfl ?_;refine JS.box (v:= .agg #[.slice A (p0.1).length c2,.slice K (p0.2).length O]) rfl rfl rfl ap rfl fun aq ar=>?_;refine JS.Bi 1 ar rfl fun au U Z av=>?_;replace Z:At au aq 0 [.slice A (p0.1).length c2,.slice K (p0.2).length O]:=Z;refine JL.go 5 rfl ?_;refine JL.Bt Z (Ao underlying24) (Ah type24) rfl rfl ?_;refine JL.go 2 rfl ?_;refine JS.lit (pp:=rI) [iV p1,iV p2] [p1,p2] rfl rfl rfl underlying28 (Ah type3) (AN type3) (by decide) rfl rfl rfl ⟨rfl,rfl,trivial⟩ av fun aX aY aw ay=>?_;refine JS.BA 2 aw ay rfl fun aZ W az aA=>?_;refine JS.norm (S':= [[],[],[]]) rfl aA fun aB=>?_;obtain⟨aC,aD,ag⟩:=bs ac;refine JS.cl (Jj (an.mono (U.trans W)) (ao.mono (U.trans W)) az aD) rfl rfl (Ay func106 rfl) aB ?_;rintro _ aE _ ah ⟨a0,rfl,rfl,aF⟩ ai;refine JL.go 12 rfl ?_;refine JL.ifs (p:=aC.2≠0) rfl (fun aa=>?_) (fun aa=>?_)
 ·have aj:=ag;rw [if_pos aa] at aj;refine JL.go 6 rfl ?_;obtain rfl:=oi aj;refine JL.rt func59 rfl rfl ?_;exact ae _ _ _ _ ((U.trans W).trans ah) rfl ⟨rfl,rfl⟩ ai
 ·have ak:=ag;rw [if_neg aa] at ak;obtain⟨al,aG,aH⟩:=bs ak;have am:=aF;refine JL.go 6 rfl ?_;rw [aG] at am;obtain⟨aI,aJ,_,rfl,ab,⟨_,_,rfl,⟨aK,aL,rfl,aM⟩,⟨_,aN,rfl,⟨aO,aP,rfl,aQ⟩,aR⟩⟩⟩:=am;replace ab:At aE aI aJ (([.slice aK (al.1).length aL,.slice aO (al.2.1).length aP]:List Value)++aN):=ab;obtain⟨a1,aS,aT⟩:=bs aH;refine JS.cl (Mh ab aM aQ aR aS) rfl rfl (Ay func109 rfl) ai ?_;rintro _ a2 _ aU ⟨rfl,rfl⟩ aV;refine JL.go 3 rfl ?_;obtain rfl:=oi aT;refine JL.rt func59 rfl rfl ?_;exact ae _ _ _ _ (((U.trans W).trans ah).trans aU) rfl ⟨rfl,rfl⟩ aV
def Jf(fuel:Nat)(p1:Int)(K:(List (List Int))×(List (List Int))×(List Nat))(A:Int):Option (AU (Int) (Int)):=
 (f109 fuel K p1 A).bind fun O=>
 if(!O)=true then(
  (Aw (A+1)).bind fun U=>
  some (.more U)
 ) else(
  some (.done A)
 )
def f57(fuel:Nat)(p0:(List (List Int))×(List (List Int)))(p1:Int):Option (Int×Int):=
 (f106 fuel p0 ([p1]:List Int)).bind fun A=>
 if A.2≠0 then(
  some (0,A.2)
 ) else(
  (A.1).bind fun K=>
  Option.bind (iter (Jf fuel p1 K) fuel 0) fun O=>
  some (O,0)
 )
theorem MO{K:Option Addr}{c2:Nat}{O:Option Addr}{U:Nat}{p0:(List (List Int))×(List (List Int))}{p1:Int}(aH:Ar (rL rI) E K c2 (p0.1))(aI:Ar (rL rI) E O U (p0.2)){fuel:Nat}{r:Int×Int}(ak:f57 fuel p0 p1=some r):Au J 57 [.agg #[.slice K (p0.1).length c2,.slice O (p0.2).length U],iV p1] E [] (fun w E' B'=>w= .tuple #[iV r.1,iV r.2]∧B'= []):=by
 refine Au.en func57 rfl rfl fun Q bk cs H aJ al=>?_;unfold f57 at ak;refine JL.go 2 rfl ?_;refine JS.box (v:= .agg #[.slice K (p0.1).length c2,.slice O (p0.2).length U]) rfl rfl rfl aJ rfl fun aK aL=>?_;refine JS.Bi 1 aL rfl fun aM W ab aN=>?_;replace ab:At aM aK 0 [.slice K (p0.1).length c2,.slice O (p0.2).length U]:=ab;refine JL.go 5 rfl ?_;refine JL.Bt ab (Ao underlying24) (Ah type24) rfl rfl ?_;refine JL.go 1 rfl ?_;refine JS.lit (pp:=rI) [iV p1] [p1] rfl rfl rfl underlying28 (Ah type3) (AN type3) (by decide) rfl rfl rfl ⟨rfl,trivial⟩ aN fun bl bm aO aP=>?_;refine JS.BA 2 aO aP rfl fun bn Z aQ aR=>?_;refine JS.norm (S':= [[],[],[]]) rfl aR fun aS=>?_;obtain⟨aT,aU,am⟩:=bs ak;refine JS.cl (Jj (aH.mono (W.trans Z)) (aI.mono (W.trans Z)) aQ aU) rfl rfl (Ay func106 rfl) aS ?_;rintro _ aa _ an ⟨bo,rfl,rfl,aV⟩ ao;refine JL.go 12 rfl ?_;refine JL.ifs (p:=aT.2≠0) rfl (fun ac=>?_) (fun ac=>?_)
 ·have ap:=am;rw [if_pos ac] at ap;refine JL.go 6 rfl ?_;obtain rfl:=oi ap;refine JL.rt func57 rfl rfl ?_;exact al _ _ _ _ ((W.trans Z).trans an) rfl ⟨rfl,rfl⟩ ao
 ·have aq:=am;rw [if_neg ac] at aq;obtain⟨ar,aW,aX⟩:=bs aq;have au:=aV;refine JL.go 6 rfl ?_;rw [aW] at au;obtain⟨ae,ag,_,rfl,ah,⟨_,_,rfl,⟨aY,aZ,rfl,a0⟩,⟨_,a1,rfl,⟨a2,a3,rfl,a4⟩,a5⟩⟩⟩:=au;replace ah:At aa ae ag (([.slice aY (ar.1).length aZ,.slice a2 (ar.2.1).length a3]:List Value)++a1):=ah;obtain⟨a6,a7,a8⟩:=bs aX;refine JL.join (fun L s=>∃(av:LH),Jm aa H av [] [(8,iV a6)] L s) ?_ ?_
  ·rintro _ _ ⟨av,rfl,rfl,a9,ba⟩;refine JL.go 6 rfl ?_;obtain rfl:=oi a8;refine JL.rt func57 rfl rfl ?_;exact al _ _ _ _ (((W.trans Z).trans an).trans a9) rfl ⟨rfl,rfl⟩ ba
  ·intro bb;refine JL.block ?_;refine JL.wk [(1,iV p1),(6,.pointer (some ⟨ae,ag,none⟩)),(8,iV 0)] rfl ?_;refine JL.Bg a7 (fun L s aw=>∃(ay:LH),Jm aa H ay [] [(1,iV p1),(6,.pointer (some ⟨ae,ag,none⟩)),(8,iV aw)] L s) ⟨aa,rfl,rfl,(Le.refl _),ao⟩ ?_;rintro _ _ aw ⟨ay,rfl,rfl,A,bc⟩ bd ⟨bp,ai⟩ bf;have az:=ai;unfold Jf at az;obtain⟨aA,bg,aB⟩:=bs az;refine JL.go 6 rfl ?_;refine JS.cl (Mh (ah.mono A) (a0.mono A) (a4.mono A) (Rp.mono _ A a5) bg) rfl rfl (Ay func109 rfl) bc ?_;rintro _ aC _ aD ⟨rfl,rfl⟩ aE;refine JL.Y (v:= .bool (!aA)) rfl (fun ρ h=>Yl.not (h _ _ rfl)) ?_;refine JL.done ?_;refine JL.split (t:=(!aA)) rfl (fun aj=>?_) (fun aj=>?_)
   ·have aF:=aB;rw [if_pos aj] at aF;obtain⟨bh,bi,bj⟩:=bs aF;refine JL.go 4 rfl ?_;refine JL.Y rfl (fun ρ h=>Yl.A1 (h _ _ rfl) (h _ _ rfl) bi) ?_;refine JL.go 3 rfl ?_;obtain rfl:=oi bj;exact JL.kw (bf _ _ bh ⟨aC,rfl,rfl,(A.trans aD),aE⟩ ai) rfl
   ·have aG:=aB;rw [if_neg (by rw [aj];exact Bool.false_ne_true)] at aG;refine JL.exit rfl ?_;obtain rfl:=oi aG;obtain rfl:=bd _ ai;exact JL.kw (bb _ _ ⟨aC,rfl,rfl,(A.trans aD),aE⟩) rfl
end Pal
namespace Pal
open Go Go.Conc Go.Proofs
open Go.Proofs.Tryz
variable {J:Judge Tryz.prog}{E:LH}
def Lu(fuel:Nat)(p0:List Int)(p1:Int)(A:Int):Option (AU (Int) ((Int)⊕(Unit))):=
 if A<((p0).length:Int) then(
  (ix p0 (A)).bind fun K=>
  if p1=K then(
   some (.done (Sum.inl A))
  ) else(
   (Aw (A+1)).bind fun O=>
   some (.more O)
  )
 ) else(
  some (.done (Sum.inr ()))
 )
def f201(fuel:Nat)(p0:List Int)(p1:Int):Option (Int):=
 Option.bind (iter (Lu fuel p0 p1) fuel 0) fun A=>
 Sum.elim (fun r=>some r) (fun K=>
 some (-1)
 ) A
theorem Qb{K:Option Addr}{c2:Nat}{p0:List Int}{p1:Int}(av:Ar rI E K c2 (p0)){fuel:Nat}{r:Int}(ag:f201 fuel p0 p1=some r):Au J 201 [.slice K (p0).length c2,iV p1] E [] (fun w E' B'=>w=iV r∧B'= []):=by
 refine Au.en func201 rfl rfl fun Q aM cs H aw ah=>?_;unfold f201 at ag;refine JL.go 8 rfl ?_;refine JL.Y rfl (fun ρ h=>Yl.len rfl underlying28 (h _ _ rfl)) ?_;obtain⟨ai,ay,aj⟩:=bs ag;refine JL.go 2 rfl ?_;refine JL.join (fun L s=>∃(ak:Unit) (al:LH),ai=Sum.inr ak∧Jm E H al [] [] L s) ?_ ?_
 ·rintro _ _ ⟨ak,al,rfl,rfl,rfl,az,aA⟩;have aB:=elim_inr aj;refine JL.go 4 rfl ?_;obtain rfl:=oi aB;refine JL.rt func201 rfl rfl ?_;exact ah _ _ _ _ az rfl ⟨rfl,rfl⟩ aA
 ·intro aC;refine JL.block ?_;refine JL.wk [(0,.slice K (p0).length c2),(1,iV p1),(7,iV ((p0).length:Int)),(8,iV 0)] rfl ?_;refine JL.Bg ay (fun L s W=>∃(A:LH),Jm E H A [] [(0,.slice K (p0).length c2),(1,iV p1),(7,iV ((p0).length:Int)),(8,iV W)] L s) ⟨E,rfl,rfl,(Le.refl _),aw⟩ ?_;rintro _ _ W ⟨A,rfl,rfl,O,Z⟩ am ⟨aN,U⟩ aD;have aa:=U;unfold Lu at aa;refine JL.go 5 rfl ?_;refine JL.ifs (p:=W<((p0).length:Int)) rfl (fun ab=>?_) (fun ab=>?_)
  ·have an:=aa;rw [if_pos ab] at an;obtain⟨ao,aE,ap⟩:=bs an;refine JL.go 13 rfl ?_;refine JS.BH (av.mono O) aE rfl rfl rfl rfl rfl underlying28 (Ah type3) ?_;rintro aF aG _ rfl ac;replace ac:At A aF aG [iV ao]:=ac;refine JL.ld 0 ac (Ao underlying3) rfl rfl rfl ?_;refine JL.go 2 rfl ?_;refine JL.ifs (p:=p1=ao) rfl (fun ae=>?_) (fun ae=>?_)
   ·have aq:=ap;rw [if_pos ae] at aq;refine JL.go 5 rfl ?_;obtain rfl:=oi aq;obtain rfl:=am _ U;have aH:=elim_inl aj;obtain rfl:=oi aH;refine JL.rt func201 rfl rfl ?_;exact ah _ _ _ _ O rfl ⟨rfl,rfl⟩ Z
   ·have ar:=ap;rw [if_neg ae] at ar;obtain⟨aI,aJ,aK⟩:=bs ar;refine JL.go 3 rfl ?_;refine JL.Y rfl (fun ρ h=>Yl.A1 (h _ _ rfl) (h _ _ rfl) aJ) ?_;refine JL.go 2 rfl ?_;obtain rfl:=oi aK;exact JL.kw (aD _ _ aI ⟨A,rfl,rfl,O,Z⟩ U) rfl
  ·have au:=aa;rw [if_neg ab] at au;refine JL.exit rfl ?_;obtain rfl:=oi au;have aL:ai=(Sum.inr ()):=(am _ U).symm;exact JL.kw (aC _ _ ⟨(),A,aL,rfl,rfl,O,Z⟩) rfl
def f199(fuel:Nat)(p0:List Int)(p1:Int):Option (Bool):=
 (f201 fuel p0 p1).bind fun A=>
 some (decide (0≤A))
theorem QA{A:Option Addr}{c2:Nat}{p0:List Int}{p1:Int}(O:Ar rI E A c2 (p0)){fuel:Nat}{r:Bool}(K:f199 fuel p0 p1=some r):Au J 199 [.slice A (p0).length c2,iV p1] E [] (fun w E' B'=>w= .bool r∧B'= []):=by
 refine Au.en func199 rfl rfl fun Q ae cs H U W=>?_;unfold f199 at K;obtain⟨ag,Z,aa⟩:=bs K;refine JL.go 8 rfl ?_;refine JS.cl (Qb O Z) rfl rfl (Ay func201 rfl) U ?_;rintro _ ah _ ab ⟨rfl,rfl⟩ ac;refine JL.go 3 rfl ?_;obtain rfl:=oi aa;refine JL.rt func199 rfl rfl ?_;exact W _ _ _ _ ab rfl ⟨rfl,rfl⟩ ac
def f192(fuel:Nat)(p0:(List (List Int))×(List (List Int))×(List Nat))(p1:Int)(p2:Int):Option ((Option (Int×Option Int))):=
 if p1=p2 then(
  some (some (p1,none))
 ) else(
  (ix p0.2.1 (p1)).bind fun A=>
  (f199 fuel A p2).bind fun K=>
  if K=true then(
   some (some (p1,some p2))
  ) else(
   some none
  )
 )
theorem Qm{k1:Nat}{Z:Nat}{aa:Option Addr}{ab:Nat}{ac:Option Addr}{ae:Nat}{ag:List Value}{p0:(List (List Int))×(List (List Int))×(List Nat)}{p1:Int}{p2:Int}(aq:At E k1 Z (([.slice aa (p0.1).length ab,.slice ac (p0.2.1).length ae]:List Value)++ag))(aF:Ar (rL rI) E aa ab (p0.1))(ar:Ar (rL rI) E ac ae (p0.2.1))(aG:(rA 13 (rN .u16)).r E ag (p0.2.2)){fuel:Nat}{r:(Option (Int×Option Int))}(A:f192 fuel p0 p1 p2=some r):Au J 192 [.pointer (some ⟨k1,Z,none⟩),iV p1,iV p2] E [] (fun w E' B'=>∃(ah:Value),w=ah∧B'= []∧JV 257 259 ah (r)):=by
 refine Au.en func192 rfl rfl fun Q aH cs H ai K=>?_;unfold f192 at A;refine JL.go 13 rfl ?_;refine JL.ifs (p:=p1=p2) rfl (fun O=>?_) (fun O=>?_)
 ·have aj:=A;rw [if_pos O] at aj;refine JL.go 3 rfl ?_;refine JL.Y (v:= .agg #[iV p1]) rfl (fun ρ h=>Yl.B4 [(0,1)] h (AN type257) underlying257 ⟨rfl,Ah type3,trivial⟩ rfl rfl) ?_;refine JL.Y (v:= .iface 257 (.agg #[iV p1])) rfl (fun ρ h=>Yl.CX underlying257 (fun _ h=>by cases h) (h _ _ rfl)) ?_;refine JL.go 2 rfl ?_;obtain rfl:=oi aj;refine JL.rt func192 rfl rfl ?_;exact K _ _ _ _ (Le.refl _) rfl ⟨.iface 257 (.agg #[iV p1]),rfl,rfl,rfl⟩ ai
 ·have ak:=A;rw [if_neg O] at ak;refine JL.go 4 rfl ?_;refine JL.fd underlying141 (Ah type24) rfl rfl rfl ?_;refine JL.fd underlying24 (Ah type22) rfl rfl rfl ?_;refine JL.ld 1 aq (Ao underlying22) rfl rfl rfl ?_;obtain⟨au,av,aw⟩:=bs ak;refine JL.go 1 rfl ?_;refine JS.BH ar av rfl rfl rfl rfl rfl underlying22 (Ah type28) ?_;rintro ay az _ ⟨aA,aB,rfl,aC⟩ U;replace U:At E ay az [.slice aA (au).length aB]:=U;refine JL.ld 0 U (Ao underlying28) rfl rfl rfl ?_;obtain⟨aD,aE,al⟩:=bs aw;refine JL.go 1 rfl ?_;refine JS.cl (QA aC aE) rfl rfl (Ay func199 rfl) ai ?_;rintro _ aI _ am ⟨rfl,rfl⟩ an;refine JL.go 2 rfl ?_;refine JL.split (t:=aD) rfl (fun W=>?_) (fun W=>?_)
  ·have ao:=al;rw [if_pos W] at ao;refine JL.go 4 rfl ?_;refine JL.Y (v:= .agg #[iV p1,iV p2]) rfl (fun ρ h=>Yl.B4 [(0,1),(1,1)] h (AN type259) underlying259 ⟨rfl,Ah type3,rfl,Ah type3,trivial⟩ rfl rfl) ?_;refine JL.Y (v:= .iface 259 (.agg #[iV p1,iV p2])) rfl (fun ρ h=>Yl.CX underlying259 (fun _ h=>by cases h) (h _ _ rfl)) ?_;refine JL.go 2 rfl ?_;obtain rfl:=oi ao;refine JL.rt func192 rfl rfl ?_;exact K _ _ _ _ am rfl ⟨.iface 259 (.agg #[iV p1,iV p2]),rfl,rfl,rfl⟩ an
  ·have ap:=al;rw [if_neg (by rw [W];exact Bool.false_ne_true)] at ap;refine JL.go 6 rfl ?_;obtain rfl:=oi ap;refine JL.rt func192 rfl rfl ?_;exact K _ _ _ _ am rfl ⟨.nilIface,rfl,rfl,rfl⟩ an
end Pal
namespace Pal
open Go Go.Conc Go.Proofs
open Go.Proofs.Tryz
variable {J:Judge Tryz.prog}{E:LH}
def Jq(fuel:Nat)(p0:((List (List Int))×(List (List Int))×(List Nat))×(List (Int×Int))×Int×(List Int)×Nat):Option (Int):=
 if((p0.2.1).length:Int)=0 then(
  some 0
 ) else(
  (Aw (((p0.2.1).length:Int) - 1)).bind fun A=>
  (ix p0.2.1 (A)).bind fun K=>
  some K.1
 )
theorem PI{U:Nat}{k1:Nat}{W:Nat}{ag:Option Addr}{ah:Nat}{ai:Option Addr}{aj:Nat}{ak:List Value}{A:Option Addr}{K:Nat}{Z:Option Addr}{aa:Nat}{p0:((List (List Int))×(List (List Int))×(List Nat))×(List (Int×Int))×Int×(List Int)×Nat}(az:At E k1 W (([.slice ag (p0.1.1).length ah,.slice ai (p0.1.2.1).length aj]:List Value)++ak))(aA:Ar (rL rI) E ag ah (p0.1.1))(aB:Ar (rL rI) E ai aj (p0.1.2.1))(aC:(rA 13 (rN .u16)).r E ak (p0.1.2.2))(ap:Ar (rP rI rI) E A K (p0.2.1))(aD:Ar rI E Z aa (p0.2.2.2.1)){fuel:Nat}{r:Int}(ab:Jq fuel p0=some r):Au J 154 [.pointer (some ⟨U,0,none⟩)] E [(U,.cells #[.pointer (some ⟨k1,W,none⟩),.slice A (p0.2.1).length K,iV p0.2.2.1,.slice Z (p0.2.2.2.1).length aa,.int .u16 ((p0.2.2.2.2:Nat):Int)] 175 (0,0))] (fun w E' B'=>w=iV r∧B'= [(U,.cells #[.pointer (some ⟨k1,W,none⟩),.slice A (p0.2.1).length K,iV p0.2.2.1,.slice Z (p0.2.2.2.1).length aa,.int .u16 ((p0.2.2.2.2:Nat):Int)] 175 (0,0))]):=by
 refine Au.en func154 rfl rfl fun Q aE cs H O al=>?_;unfold Jq at ab;refine JL.go 9 rfl ?_;refine JL.fd underlying175 (Ah type25) rfl rfl rfl ?_;refine JL.Y (v:= .slice A (p0.2.1).length K) rfl (fun ρ h=>Yl.load (Ao underlying25) (h _ _ rfl) (Ci (j:=0) (off:=1) O rfl rfl)) ?_;refine JL.Y rfl (fun ρ h=>Yl.len rfl underlying25 (h _ _ rfl)) ?_;refine JL.go 2 rfl ?_;refine JL.ifs (p:=((p0.2.1).length:Int)=0) rfl (fun ac=>?_) (fun ac=>?_)
 ·have am:=ab;rw [if_pos ac] at am;refine JL.go 4 rfl ?_;obtain rfl:=oi am;refine JL.rt func154 rfl rfl ?_;exact al _ _ _ _ (Le.refl _) rfl ⟨rfl,rfl⟩ O
 ·have an:=ab;rw [if_neg ac] at an;refine JL.go 2 rfl ?_;refine JG.BX 10 [U] ⟨⟨0,_,rfl⟩,trivial⟩ O mixed rfl (by decide+kernel) fun ht=>?_;refine JG.mv 0 ht rfl rfl ?_;refine JG.mv 1 ht rfl rfl ?_;refine JG.fd 2 ht underlying175 (Ah type25) rfl rfl rfl rfl ?_;refine JG.V (v:= .slice A (p0.2.1).length K) 3 ht rfl rfl (fun ρ h s' hs=>Yl.load (Ao underlying25) (h _ _ rfl) (Bb (o:=1) 0 O rfl (by simp [AD]) hs rfl)) ?_;refine JG.mv 4 ht rfl rfl ?_;refine JG.mv 5 ht rfl rfl ?_;refine JG.fd 6 ht underlying175 (Ah type25) rfl rfl rfl rfl ?_;refine JG.V (v:= .slice A (p0.2.1).length K) 7 ht rfl rfl (fun ρ h s' hs=>Yl.load (Ao underlying25) (h _ _ rfl) (Bb (o:=1) 0 O rfl (by simp [AD]) hs rfl)) ?_;refine JG.V 8 ht rfl rfl (fun ρ h s' hs=>Yl.len rfl underlying25 (h _ _ rfl)) ?_;obtain⟨aF,aq,ar⟩:=bs an;refine JG.V 9 ht rfl rfl (fun ρ h s' hs=>Yl.A4 (h _ _ rfl) (h _ _ rfl) aq) ?_;refine Av.leaf (tail:= [10,11,12,13]) (by decide+kernel) (fun t=>A3 (by decide+kernel) (A3 (by decide+kernel) (A3 (by decide+kernel) (A3 (by decide+kernel) BE))) t) ?_;obtain⟨ao,au,av⟩:=bs ar;refine JS.BH ap au rfl rfl rfl rfl rfl underlying25 (Ah type27) ?_;rintro aw ay _ ⟨_,_,rfl,rfl,rfl⟩ ae;replace ae:At E aw ay [iV ao.1,iV ao.2]:=ae;refine JL.fd underlying27 (Ah type3) rfl rfl rfl ?_;refine JL.ld 0 ae (Ao underlying3) rfl rfl rfl ?_;refine JL.go 2 rfl ?_;obtain rfl:=oi av;refine JL.rt func154 rfl rfl ?_;exact al _ _ _ _ (Le.refl _) rfl ⟨rfl,rfl⟩ O
def KV(fuel:Nat)(p0:((List (List Int))×(List (List Int))×(List Nat))×(List (Int×Int))×Int×(List Int)×Nat)(p1:Int)(p2:Int)(A:Nat×Int):Option (AU (Nat×Int) ((Nat×Bool)⊕(Nat))):=
 if A.2<((p0.2.1).length:Int) then(
  Option.bind (
   (ix p0.2.1 (A.2)).bind fun K=>
   if K.1≠p1 then(
    some (Sum.inr A.1)
   ) else(
    (f192 fuel p0.1 p2 K.2).bind fun O=>
    Option.bind (
     if Hh O=true then(
      some (Sum.inr A.1)
     ) else(
      if Hi O=true then(
       (f90 fuel A.1 A.2).bind fun U=>
       some (Sum.inr U)
      ) else(
       some (Sum.inl (0,false))
      )
     )
    ) fun W=>Sum.elim (fun r=>some (Sum.inl r)) (fun Z=>
    some (Sum.inr Z)
    ) W
   )
  ) fun aa=>Sum.elim (fun r=>some (.done (Sum.inl r))) (fun ab=>
  (Aw (A.2+1)).bind fun ac=>
  some (.more (ab,ac))
  ) aa
 ) else(
  some (.done (Sum.inr A.1))
 )
def Jw(fuel:Nat)(p0:((List (List Int))×(List (List Int))×(List Nat))×(List (Int×Int))×Int×(List Int)×Nat)(p1:Int)(p2:Int):Option (Nat×Bool):=
 Option.bind (iter (KV fuel p0 p1 p2) fuel (0,0)) fun A=>
 Sum.elim (fun r=>some r) (fun K=>
 some (K,true)
 ) A
theorem PE{A:Nat}{k1:Nat}{W:Nat}{aB:Option Addr}{aC:Nat}{aD:Option Addr}{aE:Nat}{aF:List Value}{K:Option Addr}{O:Nat}{Z:Option Addr}{aa:Nat}{p0:((List (List Int))×(List (List Int))×(List Nat))×(List (Int×Int))×Int×(List Int)×Nat}{p1:Int}{p2:Int}(a5:At E k1 W (([.slice aB (p0.1.1).length aC,.slice aD (p0.1.2.1).length aE]:List Value)++aF))(a6:Ar (rL rI) E aB aC (p0.1.1))(a7:Ar (rL rI) E aD aE (p0.1.2.1))(a8:(rA 13 (rN .u16)).r E aF (p0.1.2.2))(a9:Ar (rP rI rI) E K O (p0.2.1))(bP:Ar rI E Z aa (p0.2.2.2.1)){fuel:Nat}{r:Nat×Bool}(aG:Jw fuel p0 p1 p2=some r):Au J 174 [.pointer (some ⟨A,0,none⟩),iV p1,iV p2] E [(A,.cells #[.pointer (some ⟨k1,W,none⟩),.slice K (p0.2.1).length O,iV p0.2.2.1,.slice Z (p0.2.2.2.1).length aa,.int .u16 ((p0.2.2.2.2:Nat):Int)] 175 (0,0))] (fun w E' B'=>w= .tuple #[.int .u16 ((r.1:Nat):Int),.bool r.2]∧B'= [(A,.cells #[.pointer (some ⟨k1,W,none⟩),.slice K (p0.2.1).length O,iV p0.2.2.1,.slice Z (p0.2.2.2.1).length aa,.int .u16 ((p0.2.2.2.2:Nat):Int)] 175 (0,0))]):=by
 refine Au.en func174 rfl rfl fun Q bQ cs H aH aI=>?_;unfold Jw at aG;refine JL.go 11 rfl ?_;refine JL.label ?_;refine JL.go 5 rfl ?_;refine JL.fd underlying175 (Ah type25) rfl rfl rfl ?_;refine JL.Y (v:= .slice K (p0.2.1).length O) rfl (fun ρ h=>Yl.load (Ao underlying25) (h _ _ rfl) (Ci (j:=0) (off:=1) aH rfl rfl)) ?_;refine JL.Y rfl (fun ρ h=>Yl.len rfl underlying25 (h _ _ rfl)) ?_;obtain⟨aJ,ba,aK⟩:=bs aG;refine JL.go 2 rfl ?_;refine JL.join (fun L s=>∃(an:Nat) (aL:LH),aJ=Sum.inr an∧Jm E H aL [[(A,.cells #[.pointer (some ⟨k1,W,none⟩),.slice K (p0.2.1).length O,iV p0.2.2.1,.slice Z (p0.2.2.2.1).length aa,.int .u16 ((p0.2.2.2.2:Nat):Int)] 175 (0,0))]] [(8,.int .u16 ((an:Nat):Int))] L s) ?_ ?_
 ·rintro _ _ ⟨an,aL,rfl,rfl,rfl,bb,bc⟩;have bd:=elim_inr aK;refine JL.go 6 rfl ?_;obtain rfl:=oi bd;refine JL.rt func174 rfl rfl ?_;exact aI _ _ _ _ bb rfl ⟨rfl,rfl⟩ bc
 ·intro bf;refine JL.block ?_;refine JL.wk [(0,.pointer (some ⟨A,0,none⟩)),(1,iV p1),(2,iV p2),(8,.int .u16 ((0:Nat):Int)),(14,.slice K (p0.2.1).length O),(15,iV ((p0.2.1).length:Int)),(16,iV 0)] rfl ?_;refine JL.Bg ba (fun L s U=>∃(ah:LH),Jm E H ah [[(A,.cells #[.pointer (some ⟨k1,W,none⟩),.slice K (p0.2.1).length O,iV p0.2.2.1,.slice Z (p0.2.2.2.1).length aa,.int .u16 ((p0.2.2.2.2:Nat):Int)] 175 (0,0))]] [(0,.pointer (some ⟨A,0,none⟩)),(1,iV p1),(2,iV p2),(8,.int .u16 ((U.1:Nat):Int)),(14,.slice K (p0.2.1).length O),(15,iV ((p0.2.1).length:Int)),(16,iV U.2)] L s) ⟨E,rfl,rfl,(Le.refl _),aH⟩ ?_;rintro _ _ U ⟨ah,rfl,rfl,ab,aM⟩ aN ⟨bR,aj⟩ bg;have ao:=aj;unfold KV at ao;refine JL.go 5 rfl ?_;refine JL.ifs (p:=U.2<((p0.2.1).length:Int)) rfl (fun ap=>?_) (fun ap=>?_)
  ·have aO:=ao;rw [if_pos ap] at aO;obtain⟨bh,bi,aP⟩:=bs aO;refine JL.go 2 rfl ?_;refine JL.join (fun L s=>∃(ak:Nat) (aq:LH),bh=Sum.inr ak∧Jm ah H aq [[(A,.cells #[.pointer (some ⟨k1,W,none⟩),.slice K (p0.2.1).length O,iV p0.2.2.1,.slice Z (p0.2.2.2.1).length aa,.int .u16 ((p0.2.2.2.2:Nat):Int)] 175 (0,0))]] [(0,.pointer (some ⟨A,0,none⟩)),(1,iV p1),(2,iV p2),(8,.int .u16 ((ak:Nat):Int)),(14,.slice K (p0.2.1).length O),(15,iV ((p0.2.1).length:Int)),(16,iV U.2)] L s) ?_ ?_
   ·rintro _ _ ⟨ak,aq,rfl,rfl,rfl,bj,bk⟩;have bl:=elim_inr aP;obtain⟨bm,bn,bo⟩:=bs bl;refine JL.region ?_;refine JL.Y rfl (fun ρ h=>Yl.A1 (h _ _ rfl) (h _ _ rfl) bn) ?_;refine JL.go 2 rfl ?_;obtain rfl:=oi bo;exact JL.kw (bg _ _ (ak,bm) ⟨aq,rfl,rfl,(ab.trans bj),bk⟩ aj) rfl
   ·intro aQ;obtain⟨ac,bp,aR⟩:=bs bi;refine JL.go 4 rfl ?_;refine JS.BH (a9.mono ab) bp rfl rfl rfl rfl rfl underlying25 (Ah type27) ?_;rintro bq br _ ⟨_,_,rfl,rfl,rfl⟩ ar;replace ar:At ah bq br [iV ac.1,iV ac.2]:=ar;refine JL.Bt ar (Ao underlying27) (Ah type27) rfl rfl ?_;refine JS.alloc rfl rfl rfl aM (AN type27) fun bu bv=>?_;refine JL.go 1 rfl ?_;refine JS.st (v:= .agg #[iV ac.1,iV ac.2]) (off:=0) 1 bv (Ah type27) rfl rfl rfl rfl fun bw=>?_;refine JS.Bi 1 bw rfl fun aS ae al ai=>?_;replace al:At aS bu 0 [iV ac.1,iV ac.2]:=al;refine JL.go 4 rfl ?_;refine JL.fd underlying27 (Ah type3) rfl rfl rfl ?_;refine JL.ld 0 al (Ao underlying3) rfl rfl rfl ?_;refine JL.go 3 rfl ?_;refine JL.ifs (p:=ac.1≠p1) rfl (fun au=>?_) (fun au=>?_)
    ·have aT:=aR;rw [if_pos au] at aT;refine JL.exit rfl ?_;exact JL.kw (aQ _ _ ⟨U.1,aS,(Option.some.inj aT).symm,rfl,rfl,ae,ai⟩) rfl
    ·have aU:=aR;rw [if_neg au] at aU;refine JL.go 2 rfl ?_;refine JG.BX 7 [A] ⟨⟨0,_,rfl⟩,trivial⟩ ai mixed rfl (by decide+kernel) fun ht=>?_;refine JG.mv 0 ht rfl rfl ?_;refine JG.mv 1 ht rfl rfl ?_;refine JG.fd 2 ht underlying175 (Ah type94) rfl rfl rfl rfl ?_;refine JG.V (v:= .pointer (some ⟨k1,W,none⟩)) 3 ht rfl rfl (fun ρ h s' hs=>Yl.load (Ao underlying94) (h _ _ rfl) (Bb (o:=0) 0 ai rfl (by simp [AD]) hs rfl)) ?_;refine JG.mv 4 ht rfl rfl ?_;refine JG.fd 5 ht underlying27 (Ah type3) rfl rfl rfl rfl ?_;refine JG.V (v:=iV ac.2) 6 ht rfl rfl (fun ρ h s' hs=>Yl.load (Ao underlying3) (h _ _ rfl) (At.Cq (j:=1) al (Cs ai hs ⟨⟨0,_,rfl⟩,trivial⟩) rfl)) ?_;refine Av.leaf (tail:= [7]) (by decide+kernel) (fun t=>A3 (by decide+kernel) BE t) ?_;obtain⟨ag,bx,bz⟩:=bs aU;refine JS.cl (Qm (a5.mono (ab.trans ae)) (a6.mono (ab.trans ae)) (a7.mono (ab.trans ae)) (Rp.mono _ (ab.trans ae) a8) bx) rfl rfl (Ay func192 rfl) ai ?_;rintro _ aV _ aW ⟨bS,rfl,rfl,aX⟩ bA;refine JS.norm (S':= [[(A,.cells #[.pointer (some ⟨k1,W,none⟩),.slice K (p0.2.1).length O,iV p0.2.2.1,.slice Z (p0.2.2.2.1).length aa,.int .u16 ((p0.2.2.2.2:Nat):Int)] 175 (0,0))],[],[]]) rfl bA fun av=>?_;refine JL.go 4 rfl ?_;refine JL.Y (v:= .tuple #[(JU ag),.bool (Hh ag)]) rfl (fun ρ h=>Yl.PV (t2:=259) underlying257 (AN type257) (by decide) aX (h _ _ rfl)) ?_;obtain⟨bB,aY,aZ⟩:=bs bz;refine JL.go 3 rfl ?_;refine JL.join (fun L s=>∃(am:Nat) (aw:LH),bB=Sum.inr am∧Jm aV H aw [[(A,.cells #[.pointer (some ⟨k1,W,none⟩),.slice K (p0.2.1).length O,iV p0.2.2.1,.slice Z (p0.2.2.2.1).length aa,.int .u16 ((p0.2.2.2.2:Nat):Int)] 175 (0,0))]] [(0,.pointer (some ⟨A,0,none⟩)),(1,iV p1),(2,iV p2),(8,.int .u16 ((am:Nat):Int)),(14,.slice K (p0.2.1).length O),(15,iV ((p0.2.1).length:Int)),(16,iV U.2)] L s) ?_ ?_
     ·rintro _ _ ⟨am,aw,rfl,rfl,rfl,bC,bD⟩;have bE:=elim_inr aZ;refine JL.go 2 rfl ?_;exact JL.kw (aQ _ _ ⟨am,aw,(Option.some.inj bE).symm,rfl,rfl,((ae.trans aW).trans bC),bD⟩) rfl
     ·intro a0;refine JL.split (t:=Hh ag) rfl (fun ay=>?_) (fun ay=>?_)
      ·have a1:=aY;rw [if_pos ay] at a1;refine JL.skip ?_;exact JL.kw (a0 _ _ ⟨U.1,aV,(Option.some.inj a1).symm,rfl,rfl,(Le.refl _),av⟩) rfl
      ·have az:=aY;rw [if_neg (by rw [ay];exact Bool.false_ne_true)] at az;refine JL.go 2 rfl ?_;refine JL.Y (v:= .tuple #[(JN ag),.bool (Hi ag)]) rfl (fun ρ h=>Yl.PU (t1:=257) underlying259 (AN type259) (by decide) aX (h _ _ rfl)) ?_;refine JL.go 3 rfl ?_;refine JL.split (t:=Hi ag) rfl (fun aA=>?_) (fun aA=>?_)
       ·have a2:=az;rw [if_pos aA] at a2;obtain⟨bF,bG,bH⟩:=bs a2;refine JL.go 3 rfl ?_;refine JS.cl (Ii bG) rfl rfl (Ay func90 rfl) av ?_;rintro _ bI _ bJ ⟨rfl,rfl⟩ bK;refine JL.go 2 rfl ?_;exact JL.kw (a0 _ _ ⟨bF,bI,(Option.some.inj bH).symm,rfl,rfl,bJ,bK⟩) rfl
       ·have a3:=az;rw [if_neg (by rw [aA];exact Bool.false_ne_true)] at a3;refine JL.go 5 rfl ?_;obtain rfl:=oi a3;have bL:=elim_inl aZ;obtain rfl:=oi bL;have bM:=elim_inl aP;obtain rfl:=oi bM;obtain rfl:=aN _ aj;have bN:=elim_inl aK;obtain rfl:=oi bN;refine JL.rt func174 rfl rfl ?_;exact aI _ _ _ _ ((ab.trans ae).trans aW) rfl ⟨rfl,rfl⟩ av
  ·have a4:=ao;rw [if_neg ap] at a4;refine JL.exit rfl ?_;obtain rfl:=oi a4;have bO:aJ=(Sum.inr U.1):=(aN _ aj).symm;exact JL.kw (bf _ _ ⟨U.1,ah,bO,rfl,rfl,ab,aM⟩) rfl
end Pal
namespace Pal
open Go Go.Conc Go.Proofs
open Go.Proofs.Tryz
variable {J:Judge Tryz.prog}{E:LH}
def Ih(fuel:Nat)(p0:List Int):Option ((List Int)):=
 (CY ([]:List Int) p0).bind fun A=>
 some A
theorem Po{ad:Addr}{c2:Nat}{p0:List Int}(U:Ar rI E (some ad) c2 p0){fuel:Nat}{r:(List Int)}(A:Ih fuel p0=some r):Au J 175 [.slice (some ad) (p0).length c2] E [] (fun w E' B'=>∃(K:Option Addr) (O:Nat) (g0:Seg),w= .slice K (r).length O∧B'=g0∧OL 3 rI E' K O g0 (r)):=by
 refine Au.en func175 rfl rfl fun Q al cs H W Z=>?_;unfold Ih at A;refine JL.go 8 rfl ?_;refine JL.Y (v:= .bool false) rfl (fun ρ h=>Yl.H4 (a:=(some ad)) underlying28 (h _ _ rfl) (h _ _ rfl)) ?_;refine JL.go 5 rfl ?_;refine JS.Hk (pp:=rI) rfl rfl rfl underlying28 (Ah type3) W fun am an aa ab=>?_;obtain⟨ao,ac,ae⟩:=bs A;refine JL.go 1 rfl ?_;refine JS.M4 (pp:=rI) 1 ac rfl rfl rfl rfl rfl rfl rfl underlying28 underlying28 (Ah type3) (Cp type3) (AN type3) rfl (by decide) (by decide) aa U ab rfl fun ag ah ai aj ak=>?_;refine JL.go 2 rfl ?_;obtain rfl:=oi ae;refine JL.rt func175 rfl rfl ?_;exact Z _ _ _ _ (Le.refl _) rfl ⟨ag,ah,ai,rfl,(by first | rfl | simp | (simp [Value.cells])),aj⟩ ak
def MR(fuel:Nat)(p0:List Int):Option ((List Int)):=
 some ([])
theorem O8{c2:Nat}{p0:List Int}(Z:Ar rI E none c2 p0){fuel:Nat}{r:(List Int)}(A:MR fuel p0=some r):Au J 175 [.slice none (p0).length c2] E [] (fun w E' B'=>∃(K:Option Addr) (O:Nat) (g0:Seg),w= .slice K (r).length O∧B'=g0∧OL 3 rI E' K O g0 (r)):=by
 refine Au.en func175 rfl rfl fun Q aa cs H U W=>?_;unfold MR at A;refine JL.go 8 rfl ?_;refine JL.Y (v:= .bool true) rfl (fun ρ h=>Yl.H4 (a:=none) underlying28 (h _ _ rfl) (h _ _ rfl)) ?_;refine JL.go 6 rfl ?_;obtain rfl:=oi A;refine JL.rt func175 rfl rfl ?_;exact W _ _ _ _ (Le.refl _) rfl ⟨none,0,[],rfl,rfl,OL.nil⟩ U
def f175(fuel:Nat)(p0:List Int):Option (List Int):=Ih fuel p0
theorem Mq{K:Option Addr}{c2:Nat}{p0:List Int}(O:Ar rI E K c2 p0){fuel:Nat}{r:List Int}(A:f175 fuel p0=some r):Au J 175 [.slice K p0.length c2] E [] (fun w E' B'=>∃(U:Option Addr) (W:Nat) (g0:Seg),w= .slice U r.length W∧B'=g0∧OL 3 rI E' U W g0 r):=by
 cases K with
 | some ad=>exact Po O A
 | none=>
  have Z:p0= []:=by
   rcases O.2 with h | ⟨_,_,h,_⟩
   ·exact h.1
   ·cases h
  subst Z;have aa:r= []:=by
   have ab:Ih fuel []=some []:=rfl;unfold f175 at A;rw [ab] at A;exact(Option.some.inj A).symm
  subst aa;exact O8 (fuel:=fuel) O rfl
end Pal
namespace Pal
open Go Go.Conc Go.Proofs
open Go.Proofs.Tryz
def GA(fuel:Nat)(le:Int)(all:List (Int×(List Int)×Nat))(tr:(Int×(List Int)×Nat))(K:Int):Option (Int×List (Int×(List Int)×Nat)):=
 Option.bind (
  if((all).length:Int)=0 then(
   some true
  ) else(
   some (decide (K<le))
  )
 ) fun O=>
 Option.bind (
  if O=true then(
   some (K,[])
  ) else(
   some (le,all)
  )
 ) fun A=>
 Option.bind (
  if K=A.1 then(
   (CY A.2 ([tr]:List (Int×(List Int)×Nat))).bind fun U=>
   some U
  ) else(
   some A.2
  )
 ) fun W=>
 some (A.1,W)
theorem QX{J:Judge Tryz.prog}{E:LH}{A:Nat}{age:Int}{le:Int}{a:Option Addr}{c:Nat}{g:Seg}{all:List (Int×(List Int)×Nat)}(aV:OL 104 (rP rI (rP (rL rI) (rN .u16))) E a c g all){U:Option Addr}{W:Nat}{tr:(Int×(List Int)×Nat)}(aW:Ar rI E U W tr.2.1){O:Int}{fuel:Nat}{r:Int×List (Int×(List Int)×Nat)}(az:GA fuel le all tr O=some r):
  Au J 122 [.pointer (some ⟨A,1,none⟩),.agg #[iV tr.1,.slice U tr.2.1.length W,.int .u16 ((tr.2.2:Nat):Int)],iV O] E ([(A,.cells #[iV age,iV le,.slice a all.length c] 133 (0,0))]++g) (fun w E' B'=>∃aA aB g',w= .tuple #[]∧B'= [(A,.cells #[iV age,iV r.1,.slice aA r.2.length aB] 133 (0,0))]++g'∧OL 104 (rP rI (rP (rL rI) (rN .u16))) E' aA aB g' r.2):=by
 refine Au.en func122 rfl rfl fun Q bn cs H an aX=>?_;refine JS.split (S':= [[(A,.cells #[iV age,iV le,.slice a all.length c] 133 (0,0))],g]) (by simp) an fun an=>?_;unfold GA at az;refine JL.go 2 rfl ?_;refine JS.box (v:= .agg #[iV tr.1,.slice U (tr.2.1).length W,.int .u16 ((tr.2.2:Nat):Int)]) rfl rfl rfl an rfl fun ao aY=>?_;refine JS.Bi 2 aY rfl fun ag ap aq ah=>?_;replace aq:At ag ao 0 [iV tr.1,.slice U (tr.2.1).length W,.int .u16 ((tr.2.2:Nat):Int)]:=aq;refine JL.go 6 rfl ?_;refine JL.fd underlying97 (Ah type95) rfl rfl rfl ?_;refine JL.Y (v:= .slice a (all).length c) rfl (fun ρ h=>Yl.load (Ao underlying95) (h _ _ rfl) (Ci (j:=0) (off:=2) ah rfl rfl)) ?_;refine JL.Y rfl (fun ρ h=>Yl.len rfl underlying95 (h _ _ rfl)) ?_;obtain⟨aC,aD,aZ⟩:=bs az;refine JL.go 2 rfl ?_;refine JL.By [] (fun L s=>∃(ae:LH),Jm ag H ae [[(A,.cells #[iV age,iV le,.slice a (all).length c] 133 (0,0))],g] [(0,.pointer (some ⟨A,1,none⟩)),(2,iV O),(4,.pointer (some ⟨ao,0,none⟩)),(19,.bool aC)] L s) ?_ ?_
 ·rintro _ _ ⟨ae,rfl,rfl,ai,aE⟩;obtain⟨K,aF,a0⟩:=bs aZ;refine JL.done ?_;refine JL.join (fun L s=>∃(Z:LH) (aa:Option Addr) (ab:Nat) (aj:Seg),Jn ae H Z [[(A,.cells #[iV age,iV K.1,.slice aa (K.2).length ab] 133 (0,0))],aj] [(0,.pointer (some ⟨A,1,none⟩)),(2,iV O),(4,.pointer (some ⟨ao,0,none⟩))] L s (OL 104 (rP rI (rP (rL rI) (rN .u16))) Z aa ab aj (K.2))) ?_ ?_
  ·rintro _ _ ⟨Z,aa,ab,aj,rfl,rfl,ar,ac,aG⟩;refine JL.go 5 rfl ?_;refine JL.fd underlying97 (Ah type3) rfl rfl rfl ?_;refine JL.Y (v:=iV K.1) rfl (fun ρ h=>Yl.load (Ao underlying3) (h _ _ rfl) (Ci (j:=0) (off:=1) ac rfl rfl)) ?_;obtain⟨aH,aI,a1⟩:=bs a0;refine JL.go 2 rfl ?_;refine JL.join (fun L s=>∃(au:LH) (ak:Option Addr) (al:Nat) (am:Seg),Jn Z H au [[(A,.cells #[iV age,iV K.1,.slice ak (aH).length al] 133 (0,0))],am] [] L s (OL 104 (rP rI (rP (rL rI) (rN .u16))) au ak al am (aH))) ?_ ?_
   ·rintro _ _ ⟨au,ak,al,am,rfl,rfl,a2,a3,a4⟩;obtain rfl:=oi a1;refine JL.fin (v:= .tuple #[]) rfl rfl (Bl.list func122 rfl (vs:= []) trivial) ?_;exact aX _ _ _ _ (((ap.trans ai).trans ar).trans a2) rfl ⟨ak,al,am,rfl,by simp,a4⟩ a3
   ·intro aJ;refine JL.ifs (p:=O=K.1) rfl (fun av=>?_) (fun av=>?_)
    ·have aK:=aI;rw [if_pos av] at aK;refine JG.BX 8 [A] ⟨⟨0,_,rfl⟩,trivial⟩ ac mixed rfl (by decide+kernel) fun ht=>?_;refine JG.mv 0 ht rfl rfl ?_;refine JG.mv 1 ht rfl rfl ?_;refine JG.mv 2 ht rfl rfl ?_;refine JG.fd 3 ht underlying97 (Ah type95) rfl rfl rfl rfl ?_;refine JG.V (v:= .slice aa (K.2).length ab) 4 ht rfl rfl (fun ρ h s' hs=>Yl.load (Ao underlying95) (h _ _ rfl) (Bb (o:=2) 0 ac rfl (by simp [AD]) hs rfl)) ?_;refine JG.V 5 ht rfl rfl (fun ρ h s' hs=>Yl.Bh (vs:= [iV tr.1,.slice U (tr.2.1).length W,.int .u16 ((tr.2.2:Nat):Int)]) (Ao underlying104) (Ah type104) (h _ _ rfl) (At.Ji (aq.mono (ai.trans ar)) (Cs ac hs ⟨⟨0,_,rfl⟩,trivial⟩))) ?_;obtain⟨a5,a6,a7⟩:=bs aK;refine JG.one (i:=6) rfl (by decide+kernel) ?_;refine Take.lit (pp:=(rP rI (rP (rL rI) (rN .u16)))) (jp:=0) [.agg #[iV tr.1,.slice U (tr.2.1).length W,.int .u16 ((tr.2.2:Nat):Int)]] ([tr]:List (Int×(List Int)×Nat)) ac rfl rfl rfl rfl underlying95 (Ah type104) (AN type104) (by decide) rfl rfl rfl ⟨⟨_,_,rfl,rfl,⟨_,_,rfl,⟨_,_,rfl,(aW.mono ((ap.trans ai).trans ar))⟩,rfl⟩⟩,trivial⟩ fun bo a8 a9 ba=>?_;refine JG.one (i:=7) rfl (by decide+kernel) ?_;refine Take.app (pp:=(rP rI (rP (rL rI) (rN .u16)))) (jp:=0) 1 2 ba rfl a6 rfl rfl rfl rfl rfl rfl rfl underlying95 underlying95 (Ah type104) (Cp type104) (AN type104) rfl (by decide) (by decide) aG a9 rfl rfl rfl rfl fun aL aM bp aN bb bc=>?_;refine Av.leaf (tail:= [8,9,10]) (by decide+kernel) (fun t=>A3 (by decide+kernel) (A3 (by decide+kernel) (A3 (by decide+kernel) BE)) t) ?_;refine JS.part 1 rfl bc fun bd=>?_;refine JS.drop 1 bd rfl fun bf=>?_;refine JS.norm (S':= [[(A,.cells #[iV age,iV K.1,.slice aa (K.2).length ab] 133 (0,0))],[],a8,aN]) rfl bf fun bg=>?_;refine JL.go 1 rfl ?_;refine JL.fd underlying97 (Ah type95) rfl rfl rfl ?_;refine JS.st (v:= .slice aL (a5).length aM) (off:=2) 0 bg (Ah type95) rfl rfl rfl rfl fun bh=>?_;refine JL.done ?_;refine JS.drop 2 bh rfl fun bi=>?_;obtain rfl:=oi a7;exact JL.kw (aJ _ _ ⟨Z,aL,aM,aN,rfl,rfl,(Le.refl _),bi,bb⟩) rfl
    ·have aO:=aI;rw [if_neg av] at aO;refine JL.skip ?_;obtain rfl:=oi aO;exact JL.kw (aJ _ _ ⟨Z,aa,ab,aj,rfl,rfl,(Le.refl _),ac,aG⟩) rfl
  ·intro aP;refine JL.split (t:=aC) rfl (fun aw=>?_) (fun aw=>?_)
   ·have aQ:=aF;rw [if_pos aw] at aQ;refine JL.go 5 rfl ?_;refine JL.fd underlying97 (Ah type3) rfl rfl rfl ?_;refine JS.st (v:=iV O) (off:=1) 0 aE (Ah type3) rfl rfl rfl rfl fun bj=>?_;refine JL.go 1 rfl ?_;refine JL.fd underlying97 (Ah type95) rfl rfl rfl ?_;refine JS.st (v:= .slice none 0 0) (off:=2) 0 bj (Ah type95) rfl rfl rfl rfl fun bk=>?_;refine JS.norm (S':= [[(A,.cells #[iV age,iV O,.slice none 0 0] 133 (0,0))],g]) rfl bk fun bl=>?_;refine JL.done ?_;refine JS.drop 1 bl rfl fun bm=>?_;obtain rfl:=oi aQ;exact JL.kw (aP _ _ ⟨ae,none,0,[],rfl,rfl,(Le.refl _),bm,OL.nil⟩) rfl
   ·have aR:=aF;rw [if_neg (by rw [aw];exact Bool.false_ne_true)] at aR;refine JL.skip ?_;obtain rfl:=oi aR;exact JL.kw (aP _ _ ⟨ae,a,c,g,rfl,rfl,(Le.refl _),aE,(aV.mono (ap.trans ai))⟩) rfl
 ·intro aS;refine JL.BP (q:=((all).length:Int)=0) (i:=12) rfl (fun ay=>?_) (fun ay=>?_)
  ·have aT:=aD;rw [if_pos ay] at aT;refine JL.go 7 rfl ?_;obtain rfl:=oi aT;exact JL.kw (aS _ _ ⟨ag,rfl,rfl,(Le.refl _),ah⟩) rfl
  ·have aU:=aD;rw [if_neg ay] at aU;refine JL.go 3 rfl ?_;refine JL.fd underlying97 (Ah type3) rfl rfl rfl ?_;refine JL.Y (v:=iV le) rfl (fun ρ h=>Yl.load (Ao underlying3) (h _ _ rfl) (Ci (j:=0) (off:=1) ah rfl rfl)) ?_;refine JL.go 2 rfl ?_;obtain rfl:=oi aU;exact JL.kw (aS _ _ ⟨ag,rfl,rfl,(Le.refl _),ah⟩) rfl
theorem Q0{J:Judge Tryz.prog}{E:LH}{A:Nat}{age:Int}{le:Int}{a:Option Addr}{c:Nat}{g:Seg}{all:List (Int×(List Int)×Nat)}(aV:OL 104 (rP rI (rP (rL rI) (rN .u16))) E a c g all){U:Option Addr}{W:Nat}{tr:(Int×(List Int)×Nat)}(aW:Ar rI E U W tr.2.1){O:Int}{fuel:Nat}{r:Int×List (Int×(List Int)×Nat)}(az:GA fuel le all tr O=some r):
  Au J 122 [.pointer (some ⟨A,0,none⟩),.agg #[iV tr.1,.slice U tr.2.1.length W,.int .u16 ((tr.2.2:Nat):Int)],iV O] E ([(A,.cells #[iV le,.slice a all.length c] 97 (0,0))]++g) (fun w E' B'=>∃aA aB g',w= .tuple #[]∧B'= [(A,.cells #[iV r.1,.slice aA r.2.length aB] 97 (0,0))]++g'∧OL 104 (rP rI (rP (rL rI) (rN .u16))) E' aA aB g' r.2):=by
 refine Au.en func122 rfl rfl fun Q bn cs H an aX=>?_;refine JS.split (S':= [[(A,.cells #[iV le,.slice a all.length c] 97 (0,0))],g]) (by simp) an fun an=>?_;unfold GA at az;refine JL.go 2 rfl ?_;refine JS.box (v:= .agg #[iV tr.1,.slice U (tr.2.1).length W,.int .u16 ((tr.2.2:Nat):Int)]) rfl rfl rfl an rfl fun ao aY=>?_;refine JS.Bi 2 aY rfl fun ag ap aq ah=>?_;replace aq:At ag ao 0 [iV tr.1,.slice U (tr.2.1).length W,.int .u16 ((tr.2.2:Nat):Int)]:=aq;refine JL.go 6 rfl ?_;refine JL.fd underlying97 (Ah type95) rfl rfl rfl ?_;refine JL.Y (v:= .slice a (all).length c) rfl (fun ρ h=>Yl.load (Ao underlying95) (h _ _ rfl) (Ci (j:=0) (off:=1) ah rfl rfl)) ?_;refine JL.Y rfl (fun ρ h=>Yl.len rfl underlying95 (h _ _ rfl)) ?_;obtain⟨aC,aD,aZ⟩:=bs az;refine JL.go 2 rfl ?_;refine JL.By [] (fun L s=>∃(ae:LH),Jm ag H ae [[(A,.cells #[iV le,.slice a (all).length c] 97 (0,0))],g] [(0,.pointer (some ⟨A,0,none⟩)),(2,iV O),(4,.pointer (some ⟨ao,0,none⟩)),(19,.bool aC)] L s) ?_ ?_
 ·rintro _ _ ⟨ae,rfl,rfl,ai,aE⟩;obtain⟨K,aF,a0⟩:=bs aZ;refine JL.done ?_;refine JL.join (fun L s=>∃(Z:LH) (aa:Option Addr) (ab:Nat) (aj:Seg),Jn ae H Z [[(A,.cells #[iV K.1,.slice aa (K.2).length ab] 97 (0,0))],aj] [(0,.pointer (some ⟨A,0,none⟩)),(2,iV O),(4,.pointer (some ⟨ao,0,none⟩))] L s (OL 104 (rP rI (rP (rL rI) (rN .u16))) Z aa ab aj (K.2))) ?_ ?_
  ·rintro _ _ ⟨Z,aa,ab,aj,rfl,rfl,ar,ac,aG⟩;refine JL.go 5 rfl ?_;refine JL.fd underlying97 (Ah type3) rfl rfl rfl ?_;refine JL.Y (v:=iV K.1) rfl (fun ρ h=>Yl.load (Ao underlying3) (h _ _ rfl) (Ci (j:=0) (off:=0) ac rfl rfl)) ?_;obtain⟨aH,aI,a1⟩:=bs a0;refine JL.go 2 rfl ?_;refine JL.join (fun L s=>∃(au:LH) (ak:Option Addr) (al:Nat) (am:Seg),Jn Z H au [[(A,.cells #[iV K.1,.slice ak (aH).length al] 97 (0,0))],am] [] L s (OL 104 (rP rI (rP (rL rI) (rN .u16))) au ak al am (aH))) ?_ ?_
   ·rintro _ _ ⟨au,ak,al,am,rfl,rfl,a2,a3,a4⟩;obtain rfl:=oi a1;refine JL.fin (v:= .tuple #[]) rfl rfl (Bl.list func122 rfl (vs:= []) trivial) ?_;exact aX _ _ _ _ (((ap.trans ai).trans ar).trans a2) rfl ⟨ak,al,am,rfl,by simp,a4⟩ a3
   ·intro aJ;refine JL.ifs (p:=O=K.1) rfl (fun av=>?_) (fun av=>?_)
    ·have aK:=aI;rw [if_pos av] at aK;refine JG.BX 8 [A] ⟨⟨0,_,rfl⟩,trivial⟩ ac mixed rfl (by decide+kernel) fun ht=>?_;refine JG.mv 0 ht rfl rfl ?_;refine JG.mv 1 ht rfl rfl ?_;refine JG.mv 2 ht rfl rfl ?_;refine JG.fd 3 ht underlying97 (Ah type95) rfl rfl rfl rfl ?_;refine JG.V (v:= .slice aa (K.2).length ab) 4 ht rfl rfl (fun ρ h s' hs=>Yl.load (Ao underlying95) (h _ _ rfl) (Bb (o:=1) 0 ac rfl (by simp [AD]) hs rfl)) ?_;refine JG.V 5 ht rfl rfl (fun ρ h s' hs=>Yl.Bh (vs:= [iV tr.1,.slice U (tr.2.1).length W,.int .u16 ((tr.2.2:Nat):Int)]) (Ao underlying104) (Ah type104) (h _ _ rfl) (At.Ji (aq.mono (ai.trans ar)) (Cs ac hs ⟨⟨0,_,rfl⟩,trivial⟩))) ?_;obtain⟨a5,a6,a7⟩:=bs aK;refine JG.one (i:=6) rfl (by decide+kernel) ?_;refine Take.lit (pp:=(rP rI (rP (rL rI) (rN .u16)))) (jp:=0) [.agg #[iV tr.1,.slice U (tr.2.1).length W,.int .u16 ((tr.2.2:Nat):Int)]] ([tr]:List (Int×(List Int)×Nat)) ac rfl rfl rfl rfl underlying95 (Ah type104) (AN type104) (by decide) rfl rfl rfl ⟨⟨_,_,rfl,rfl,⟨_,_,rfl,⟨_,_,rfl,(aW.mono ((ap.trans ai).trans ar))⟩,rfl⟩⟩,trivial⟩ fun bo a8 a9 ba=>?_;refine JG.one (i:=7) rfl (by decide+kernel) ?_;refine Take.app (pp:=(rP rI (rP (rL rI) (rN .u16)))) (jp:=0) 1 2 ba rfl a6 rfl rfl rfl rfl rfl rfl rfl underlying95 underlying95 (Ah type104) (Cp type104) (AN type104) rfl (by decide) (by decide) aG a9 rfl rfl rfl rfl fun aL aM bp aN bb bc=>?_;refine Av.leaf (tail:= [8,9,10]) (by decide+kernel) (fun t=>A3 (by decide+kernel) (A3 (by decide+kernel) (A3 (by decide+kernel) BE)) t) ?_;refine JS.part 1 rfl bc fun bd=>?_;refine JS.drop 1 bd rfl fun bf=>?_;refine JS.norm (S':= [[(A,.cells #[iV K.1,.slice aa (K.2).length ab] 97 (0,0))],[],a8,aN]) rfl bf fun bg=>?_;refine JL.go 1 rfl ?_;refine JL.fd underlying97 (Ah type95) rfl rfl rfl ?_;refine JS.st (v:= .slice aL (a5).length aM) (off:=1) 0 bg (Ah type95) rfl rfl rfl rfl fun bh=>?_;refine JL.done ?_;refine JS.drop 2 bh rfl fun bi=>?_;obtain rfl:=oi a7;exact JL.kw (aJ _ _ ⟨Z,aL,aM,aN,rfl,rfl,(Le.refl _),bi,bb⟩) rfl
    ·have aO:=aI;rw [if_neg av] at aO;refine JL.skip ?_;obtain rfl:=oi aO;exact JL.kw (aJ _ _ ⟨Z,aa,ab,aj,rfl,rfl,(Le.refl _),ac,aG⟩) rfl
  ·intro aP;refine JL.split (t:=aC) rfl (fun aw=>?_) (fun aw=>?_)
   ·have aQ:=aF;rw [if_pos aw] at aQ;refine JL.go 5 rfl ?_;refine JL.fd underlying97 (Ah type3) rfl rfl rfl ?_;refine JS.st (v:=iV O) (off:=0) 0 aE (Ah type3) rfl rfl rfl rfl fun bj=>?_;refine JL.go 1 rfl ?_;refine JL.fd underlying97 (Ah type95) rfl rfl rfl ?_;refine JS.st (v:= .slice none 0 0) (off:=1) 0 bj (Ah type95) rfl rfl rfl rfl fun bk=>?_;refine JS.norm (S':= [[(A,.cells #[iV O,.slice none 0 0] 97 (0,0))],g]) rfl bk fun bl=>?_;refine JL.done ?_;refine JS.drop 1 bl rfl fun bm=>?_;obtain rfl:=oi aQ;exact JL.kw (aP _ _ ⟨ae,none,0,[],rfl,rfl,(Le.refl _),bm,OL.nil⟩) rfl
   ·have aR:=aF;rw [if_neg (by rw [aw];exact Bool.false_ne_true)] at aR;refine JL.skip ?_;obtain rfl:=oi aR;exact JL.kw (aP _ _ ⟨ae,a,c,g,rfl,rfl,(Le.refl _),aE,(aV.mono (ap.trans ai))⟩) rfl
 ·intro aS;refine JL.BP (q:=((all).length:Int)=0) (i:=12) rfl (fun ay=>?_) (fun ay=>?_)
  ·have aT:=aD;rw [if_pos ay] at aT;refine JL.go 7 rfl ?_;obtain rfl:=oi aT;exact JL.kw (aS _ _ ⟨ag,rfl,rfl,(Le.refl _),ah⟩) rfl
  ·have aU:=aD;rw [if_neg ay] at aU;refine JL.go 3 rfl ?_;refine JL.fd underlying97 (Ah type3) rfl rfl rfl ?_;refine JL.Y (v:=iV le) rfl (fun ρ h=>Yl.load (Ao underlying3) (h _ _ rfl) (Ci (j:=0) (off:=0) ah rfl rfl)) ?_;refine JL.go 2 rfl ?_;obtain rfl:=oi aU;exact JL.kw (aS _ _ ⟨ag,rfl,rfl,(Le.refl _),ah⟩) rfl
end Pal
namespace Pal
open Go Go.Conc Go.Proofs
open Go.Proofs.Tryz
def JI(fuel:Nat)(K:(List (List Int))×(List (List Int))×(List Nat))(O:List (Int×Int))(age:Int)(ms:List Int)(fl:Nat)(m:Int):Option (Option (List Int×Nat)):=
 (Jw fuel (K,O,age,ms,fl) ((ms).length:Int) m).bind fun A=>
 if(!A.2)=true then(
  some none
 ) else(
  (f175 fuel ms).bind fun U=>
  (CY U ([m]:List Int)).bind fun W=>
  (F6 (fl) (A.1)).bind fun Z=>
  some (some (W,Z))
 )
theorem Q8{J:Judge Tryz.prog}{A:Type}{I:A→LH→Seg→Prop}(bc:∀x E E' X,Le E E'→I x E X→I x E' X){E:LH}{K k1 U:Nat}{aR aS W Z:Option Addr}{aT aU aa ab:Nat}{aV:List Value}{an:(List (List Int))×(List (List Int))×(List Nat)}{O:List (Int×Int)}{age:Int}{ms:List Int}{fl:Nat}(bd:At E k1 U (([.slice aR (an.1).length aT,.slice aS (an.2.1).length aU]:List Value)++aV))(bf:Ar (rL rI) E aR aT (an.1))(bg:Ar (rL rI) E aS aU (an.2.1))(bh:(rA 13 (rN .u16)).r E aV (an.2.2))(bi:Ar (rP rI rI) E W aa O)(aB:Ar rI E Z ab ms){aW:Value}{X:Seg}{acc acc':A}(bj:I acc E X){m:Int}{fuel:Nat}{r:Option (List Int×Nat)}(aX:JI fuel an O age ms fl m=some r)
  (bk:r=none→acc'=acc)
  (aY:∀q,r=some q→∀E' a c,Le E E'→Ar rI E' a c q.1→CJ J aW [] E' ([(K,.cells #[.pointer (some ⟨k1,U,none⟩),.slice W O.length aa,iV age,.slice a q.1.length c,.int .u16 ((q.2:Nat):Int)] 175 (0,0))]++X) (fun w bl bm=>∃ap mv aq ag,w= .bool true∧bm= [(K,.cells #[.pointer (some ⟨k1,U,none⟩),.slice W O.length aa,ap,mv,aq] 175 (0,0))]++ag∧I acc' bl ag)):
  Au J 155 [.pointer (some ⟨K,0,none⟩),iV m,aW] E ([(K,.cells #[.pointer (some ⟨k1,U,none⟩),.slice W O.length aa,iV age,.slice Z ms.length ab,.int .u16 ((fl:Nat):Int)] 175 (0,0))]++X) (fun w E' B'=>∃ag,w= .bool true∧B'= [(K,.cells #[.pointer (some ⟨k1,U,none⟩),.slice W O.length aa,iV age,.slice Z ms.length ab,.int .u16 ((fl:Nat):Int)] 175 (0,0))]++ag∧I acc' E' ag):=by
 refine Au.en func155 rfl rfl fun Q aZ cs H aC aD=>?_;refine JS.split (S':= [[(K,.cells #[.pointer (some ⟨k1,U,none⟩),.slice W O.length aa,iV age,.slice Z ms.length ab,.int .u16 ((fl:Nat):Int)] 175 (0,0))],X]) (by simp) aC fun aC=>?_;unfold JI at aX;refine JL.go 2 rfl ?_;refine JS.box (v:= .pointer (some ⟨K,0,none⟩)) rfl rfl rfl aC rfl fun ak bn=>?_;refine JS.Bi 2 bn rfl fun bo ac ai ar=>?_;replace ai:At bo ak 0 [.pointer (some ⟨K,0,none⟩)]:=ai;refine JL.go 3 rfl ?_;refine JG.BX 13 [K] ⟨⟨0,_,rfl⟩,trivial⟩ ar mixed rfl (by decide+kernel) fun ht=>?_;refine JG.V (v:= .pointer (some ⟨K,0,none⟩)) 0 ht rfl rfl (fun ρ h s' hs=>Yl.load (Ao underlying173) (h _ _ rfl) (At.Cq (j:=0) ai (Cs ar hs ⟨⟨0,_,rfl⟩,trivial⟩) rfl)) ?_;refine JG.V (v:= .pointer (some ⟨K,0,none⟩)) 1 ht rfl rfl (fun ρ h s' hs=>Yl.load (Ao underlying173) (h _ _ rfl) (At.Cq (j:=0) ai (Cs ar hs ⟨⟨0,_,rfl⟩,trivial⟩) rfl)) ?_;refine JG.mv 2 ht rfl rfl ?_;refine JG.fd 3 ht underlying175 (Ah type104) rfl rfl rfl rfl ?_;refine JG.fd 4 ht underlying104 (Ah type28) rfl rfl rfl rfl ?_;refine JG.V (v:= .slice Z (ms).length ab) 5 ht rfl rfl (fun ρ h s' hs=>Yl.load (Ao underlying28) (h _ _ rfl) (Bb (o:=3) 0 ar rfl (by simp [AD]) hs rfl)) ?_;refine JG.V 6 ht rfl rfl (fun ρ h s' hs=>Yl.len rfl underlying28 (h _ _ rfl)) ?_;refine JG.mv 7 ht rfl rfl ?_;obtain⟨a0,bp,a1⟩:=bs aX;refine JG.Mo (i:=8) (vs:= [.pointer (some ⟨K,0,none⟩),iV ((ms).length:Int),iV m]) 0 ⟨⟨0,_,rfl⟩,trivial⟩ (PE (bd.mono ac) (bf.mono ac) (bg.mono ac) (Rp.mono _ ac bh) (bi.mono ac) (aB.mono ac) bp) (fun _ _ _ h=>h.2) (by decide+kernel) rfl rfl rfl (Ay func174 rfl) rfl ar rfl ?_;rintro _ b7 ae ⟨rfl,_⟩ aE;refine JG.mv 9 ht rfl rfl ?_;refine JG.mv 10 ht rfl rfl ?_;refine JG.mv 11 ht rfl rfl ?_;refine JG.mv 12 ht rfl rfl ?_;refine Av.leaf (tail:= [13]) (by decide+kernel) (fun t=>A3 (by decide+kernel) BE t) ?_;refine JL.go 6 rfl ?_;refine JL.Y (v:= .bool (!a0.2)) rfl (fun ρ h=>Yl.not (h _ _ rfl)) ?_;refine JL.done ?_;refine JL.split (t:=(!a0.2)) rfl (fun aF=>?_) (fun aF=>?_)
 ·have a2:=a1;rw [if_pos aF] at a2;refine JL.go 4 rfl ?_;obtain rfl:=oi a2;refine JL.rt func155 rfl rfl ?_;exact aD _ _ _ _ (ac.trans ae) rfl ⟨X,rfl,by simp,by rw [bk rfl];exact bc _ _ _ _ (ac.trans ae) bj⟩ aE
 ·have a3:=a1;rw [if_neg (by rw [aF];exact Bool.false_ne_true)] at a3;refine JL.go 3 rfl ?_;refine JL.ld 0 (ai.mono ae) (Ao underlying173) rfl rfl rfl ?_;refine JL.go 1 rfl ?_;refine JL.fd underlying175 (Ah type104) rfl rfl rfl ?_;refine JL.Y rfl (fun ρ h=>Yl.Bh (vs:= [iV age,.slice Z (ms).length ab,.int .u16 ((fl:Nat):Int)]) (Ao underlying104) (Ah type104) (h _ _ rfl) (DM (off:=2) 0 aE rfl rfl)) ?_;refine JS.alloc rfl rfl rfl aE (AN type104) fun al bq=>?_;refine JS.st (v:= .agg #[iV age,.slice Z (ms).length ab,.int .u16 ((fl:Nat):Int)]) (off:=0) 3 bq (Ah type104) rfl rfl rfl rfl fun br=>?_;refine JS.Bi 3 br rfl fun bu ah au bv=>?_;replace au:At bu al 0 [iV age,.slice Z (ms).length ab,.int .u16 ((fl:Nat):Int)]:=au;refine JS.norm (S':= [[(K,.cells #[.pointer (some ⟨k1,U,none⟩),.slice W (O).length aa,iV age,.slice Z (ms).length ab,.int .u16 ((fl:Nat):Int)] 175 (0,0))],X,[],[]]) rfl bv fun a4=>?_;refine JL.go 2 rfl ?_;refine JG.CQ 7 mixed rfl (by decide+kernel) fun ht=>?_;refine JG.ld 0 ht 0 (ai.mono (ae.trans ah)) (Ao underlying173) rfl rfl rfl rfl ?_;refine JG.fd 1 ht underlying104 (Ah type28) rfl rfl rfl rfl ?_;refine JG.ld 2 ht 1 au (Ao underlying28) rfl rfl rfl rfl ?_;refine JG.mv 4 ht rfl rfl ?_;obtain⟨b8,a5,bw⟩:=bs a3;obtain⟨aj,a6,a7⟩:=bs bw;refine JG.two (i:=3) (j:=5) rfl (by decide+kernel) ?_ ?_
  ·refine Take.MJ (vs:= [.slice Z (ms).length ab]) a4 (Mq (aB.mono ((ac.trans ae).trans ah)) a5) rfl rfl rfl (Ay func175 rfl) rfl ?_;rintro _ b9 _ av ⟨ca,cb,cc,rfl,rfl,bx⟩ bz;refine JG.one (i:=5) rfl (by decide+kernel) ?_;refine Take.Hk (pp:=rI) [iV m] ([m]:List Int) bz rfl rfl rfl underlying28 (Ah type3) (AN type3) (by decide) rfl rfl rfl ⟨rfl,trivial⟩ fun cd a8 bA bB=>?_;refine JG.one (i:=6) rfl (by decide+kernel) ?_;refine Take.app0 (pp:=rI) 4 5 bB a6 rfl rfl rfl rfl rfl rfl rfl underlying28 underlying28 (Ah type3) (Cp type3) (AN type3) rfl (by decide) (by decide) bx bA rfl rfl fun aG aH ce bC bD bE=>?_;refine Av.leaf (tail:= [7,8,9,10]) (by decide+kernel) (fun t=>A3 (by decide+kernel) (A3 (by decide+kernel) (A3 (by decide+kernel) (A3 (by decide+kernel) BE))) t) ?_;refine JS.part 4 rfl bE fun bF=>?_;refine JS.drop 4 bF rfl fun bG=>?_;refine JS.norm (S':= [[(K,.cells #[.pointer (some ⟨k1,U,none⟩),.slice W (O).length aa,iV age,.slice Z (ms).length ab,.int .u16 ((fl:Nat):Int)] 175 (0,0))],X,[],[],[],a8,bC]) rfl bG fun bH=>?_;refine JL.go 1 rfl ?_;refine JL.fd underlying175 (Ah type104) rfl rfl rfl ?_;refine JL.fd underlying104 (Ah type28) rfl rfl rfl ?_;refine JS.st (v:= .slice aG (aj).length aH) (off:=3) 0 bH (Ah type28) rfl rfl rfl rfl fun a9=>?_;refine JL.go 3 rfl ?_;refine JL.ld 0 (ai.mono ((ae.trans ah).trans av)) (Ao underlying173) rfl rfl rfl ?_;refine JL.go 1 rfl ?_;refine JL.fd underlying175 (Ah type104) rfl rfl rfl ?_;refine JL.fd underlying104 (Ah type102) rfl rfl rfl ?_;refine JL.Y (v:= .int .u16 ((fl:Nat):Int)) rfl (fun ρ h=>Yl.load (Ao underlying102) (h _ _ rfl) (Ci (j:=0) (off:=4) a9 rfl rfl)) ?_;obtain⟨aw,bI,bJ⟩:=bs a7;refine JL.go 1 rfl ?_;refine JL.Y (v:= .int .u16 ((aw:Nat):Int)) rfl (fun ρ h=>Yl.G5 (h _ _ rfl) (h _ _ rfl) bI) ?_;refine JL.go 1 rfl ?_;refine JL.fd underlying175 (Ah type104) rfl rfl rfl ?_;refine JL.fd underlying104 (Ah type102) rfl rfl rfl ?_;refine JS.st (v:= .int .u16 ((aw:Nat):Int)) (off:=4) 0 a9 (Ah type102) rfl rfl rfl rfl fun bK=>?_;refine JL.go 2 rfl ?_;refine JS.BA 6 bD bK rfl fun cf az bL bM=>?_;refine JS.norm (S':= [[(K,.cells #[.pointer (some ⟨k1,U,none⟩),.slice W (O).length aa,iV age,.slice aG (aj).length aH,.int .u16 ((aw:Nat):Int)] 175 (0,0))],X,[],[],[],a8,[]]) rfl bM fun bN=>?_;refine JS.drop 5 bN rfl fun bO=>?_;obtain rfl:=oi bJ;refine JL.region ?_;refine JL.Y (v:= .func (.func 176) #[] [.pointer (some ⟨al,0,none⟩),.pointer (some ⟨ak,0,none⟩)].toArray) rfl (fun ρ h=>Yl.FT (by simp) (by simp [h (.tmp 9) _ rfl,h (.tmp 3) _ rfl])) ?_;refine JL.LZ (vs:= []) (caps:= [.pointer (some ⟨al,0,none⟩),.pointer (some ⟨ak,0,none⟩)]) rfl rfl rfl rfl rfl rfl ?_;refine JL.go 4 rfl ?_;refine JS.split (S':= [[(K,.cells #[.pointer (some ⟨k1,U,none⟩),.slice W (O).length aa,iV age,.slice aG (aj).length aH,.int .u16 ((aw:Nat):Int)] 175 (0,0))]++X]) (by simp) bO fun aI=>?_;refine JS.Gw (vs:= []) 0 (aY (aj,aw) rfl _ _ _ ((((ac.trans ae).trans ah).trans av).trans az) bL) rfl rfl rfl rfl rfl aI rfl ?_;rintro _ bP _ am ⟨ap,mv,aq,ag,rfl,rfl,aJ⟩ aK;refine JL.go 2 rfl ?_;refine JL.DV rfl ?_;refine JO.Ma (vs:= []) (caps:= [.pointer (some ⟨al,0,none⟩),.pointer (some ⟨ak,0,none⟩)]) rfl func176 rfl rfl (Nat.le_of_ble_eq_true rfl) fun T aL todo=>?_;refine JS.split (S':= [[(K,.cells #[.pointer (some ⟨k1,U,none⟩),.slice W O.length aa,ap,mv,aq] 175 (0,0))],ag]) (by simp) aK fun aM=>?_;refine JL.region ?_;refine JL.ld 0 (ai.mono ((((ae.trans ah).trans av).trans az).trans am)) (Ao underlying173) rfl rfl rfl ?_;refine JL.Bt (au.mono ((av.trans az).trans am)) (Ao underlying104) (Ah type104) rfl rfl ?_;refine JL.go 1 rfl ?_;refine JL.fd underlying175 (Ah type104) rfl rfl rfl ?_;refine JS.st (v:= .agg #[iV age,.slice Z ms.length ab,.int .u16 ((fl:Nat):Int)]) (off:=2) 0 aM (Ah type104) rfl rfl rfl rfl fun aN=>?_;refine JS.norm (S':= [[(K,.cells #[.pointer (some ⟨k1,U,none⟩),.slice W O.length aa,iV age,.slice Z ms.length ab,.int .u16 ((fl:Nat):Int)] 175 (0,0))],ag]) rfl aN fun aO=>?_;refine JL.done ?_;refine JL.out rfl ?_;refine JO.leaveD rfl func176 rfl (.inl rfl) ?_;refine(?_:JO J Q (base 155) Tryz.f155.ntmps _ [] (aZ::cs) _) T aL todo;refine JO.leave (v:= .bool true) rfl (Bl.list func155 rfl (vs:= [.bool true]) ⟨rfl,trivial⟩) ?_;exact aD _ _ _ _ (((((ac.trans ae).trans ah).trans av).trans az).trans am) rfl ⟨ag,rfl,by simp,aJ⟩ aO
  ·refine Take.Hk (pp:=rI) [iV m] ([m]:List Int) a4 rfl rfl rfl underlying28 (Ah type3) (AN type3) (by decide) rfl rfl rfl ⟨rfl,trivial⟩ fun cg ba bQ bR=>?_;refine JG.one (i:=3) rfl (by decide+kernel) ?_;refine Take.MJ (vs:= [.slice Z (ms).length ab]) bR (Mq (aB.mono ((ac.trans ae).trans ah)) a5) rfl rfl rfl (Ay func175 rfl) rfl ?_;rintro _ ci _ ao ⟨ck,cm,cn,rfl,rfl,bS⟩ bT;refine JG.one (i:=6) rfl (by decide+kernel) ?_;refine Take.app0 (pp:=rI) 5 4 bT a6 rfl rfl rfl rfl rfl rfl rfl underlying28 underlying28 (Ah type3) (Cp type3) (AN type3) rfl (by decide) (by decide) bS (bQ.mono ao) rfl rfl fun aP aQ co bU bV bW=>?_;refine Av.leaf (tail:= [7,8,9,10]) (by decide+kernel) (fun t=>A3 (by decide+kernel) (A3 (by decide+kernel) (A3 (by decide+kernel) (A3 (by decide+kernel) BE))) t) ?_;refine JS.part 5 rfl bW fun bX=>?_;refine JS.drop 5 bX rfl fun bY=>?_;refine JS.norm (S':= [[(K,.cells #[.pointer (some ⟨k1,U,none⟩),.slice W (O).length aa,iV age,.slice Z (ms).length ab,.int .u16 ((fl:Nat):Int)] 175 (0,0))],X,[],[],ba,[],bU]) rfl bY fun bZ=>?_;refine JL.go 1 rfl ?_;refine JL.fd underlying175 (Ah type104) rfl rfl rfl ?_;refine JL.fd underlying104 (Ah type28) rfl rfl rfl ?_;refine JS.st (v:= .slice aP (aj).length aQ) (off:=3) 0 bZ (Ah type28) rfl rfl rfl rfl fun bb=>?_;refine JL.go 3 rfl ?_;refine JL.ld 0 (ai.mono ((ae.trans ah).trans ao)) (Ao underlying173) rfl rfl rfl ?_;refine JL.go 1 rfl ?_;refine JL.fd underlying175 (Ah type104) rfl rfl rfl ?_;refine JL.fd underlying104 (Ah type102) rfl rfl rfl ?_;refine JL.Y (v:= .int .u16 ((fl:Nat):Int)) rfl (fun ρ h=>Yl.load (Ao underlying102) (h _ _ rfl) (Ci (j:=0) (off:=4) bb rfl rfl)) ?_;obtain⟨ay,b0,b1⟩:=bs a7;refine JL.go 1 rfl ?_;refine JL.Y (v:= .int .u16 ((ay:Nat):Int)) rfl (fun ρ h=>Yl.G5 (h _ _ rfl) (h _ _ rfl) b0) ?_;refine JL.go 1 rfl ?_;refine JL.fd underlying175 (Ah type104) rfl rfl rfl ?_;refine JL.fd underlying104 (Ah type102) rfl rfl rfl ?_;refine JS.st (v:= .int .u16 ((ay:Nat):Int)) (off:=4) 0 bb (Ah type102) rfl rfl rfl rfl fun b2=>?_;refine JL.go 2 rfl ?_;refine JS.BA 6 bV b2 rfl fun cp aA b3 b4=>?_;refine JS.norm (S':= [[(K,.cells #[.pointer (some ⟨k1,U,none⟩),.slice W (O).length aa,iV age,.slice aP (aj).length aQ,.int .u16 ((ay:Nat):Int)] 175 (0,0))],X,[],[],ba,[],[]]) rfl b4 fun b5=>?_;refine JS.drop 4 b5 rfl fun b6=>?_;obtain rfl:=oi b1;refine JL.region ?_;refine JL.Y (v:= .func (.func 176) #[] [.pointer (some ⟨al,0,none⟩),.pointer (some ⟨ak,0,none⟩)].toArray) rfl (fun ρ h=>Yl.FT (by simp) (by simp [h (.tmp 9) _ rfl,h (.tmp 3) _ rfl])) ?_;refine JL.LZ (vs:= []) (caps:= [.pointer (some ⟨al,0,none⟩),.pointer (some ⟨ak,0,none⟩)]) rfl rfl rfl rfl rfl rfl ?_;refine JL.go 4 rfl ?_;refine JS.split (S':= [[(K,.cells #[.pointer (some ⟨k1,U,none⟩),.slice W (O).length aa,iV age,.slice aP (aj).length aQ,.int .u16 ((ay:Nat):Int)] 175 (0,0))]++X]) (by simp) b6 fun aI=>?_;refine JS.Gw (vs:= []) 0 (aY (aj,ay) rfl _ _ _ ((((ac.trans ae).trans ah).trans ao).trans aA) b3) rfl rfl rfl rfl rfl aI rfl ?_;rintro _ bP _ am ⟨ap,mv,aq,ag,rfl,rfl,aJ⟩ aK;refine JL.go 2 rfl ?_;refine JL.DV rfl ?_;refine JO.Ma (vs:= []) (caps:= [.pointer (some ⟨al,0,none⟩),.pointer (some ⟨ak,0,none⟩)]) rfl func176 rfl rfl (Nat.le_of_ble_eq_true rfl) fun T aL todo=>?_;refine JS.split (S':= [[(K,.cells #[.pointer (some ⟨k1,U,none⟩),.slice W O.length aa,ap,mv,aq] 175 (0,0))],ag]) (by simp) aK fun aM=>?_;refine JL.region ?_;refine JL.ld 0 (ai.mono ((((ae.trans ah).trans ao).trans aA).trans am)) (Ao underlying173) rfl rfl rfl ?_;refine JL.Bt (au.mono ((ao.trans aA).trans am)) (Ao underlying104) (Ah type104) rfl rfl ?_;refine JL.go 1 rfl ?_;refine JL.fd underlying175 (Ah type104) rfl rfl rfl ?_;refine JS.st (v:= .agg #[iV age,.slice Z ms.length ab,.int .u16 ((fl:Nat):Int)]) (off:=2) 0 aM (Ah type104) rfl rfl rfl rfl fun aN=>?_;refine JS.norm (S':= [[(K,.cells #[.pointer (some ⟨k1,U,none⟩),.slice W O.length aa,iV age,.slice Z ms.length ab,.int .u16 ((fl:Nat):Int)] 175 (0,0))],ag]) rfl aN fun aO=>?_;refine JL.done ?_;refine JL.out rfl ?_;refine JO.leaveD rfl func176 rfl (.inl rfl) ?_;refine(?_:JO J Q (base 155) Tryz.f155.ntmps _ [] (aZ::cs) _) T aL todo;refine JO.leave (v:= .bool true) rfl (Bl.list func155 rfl (vs:= [.bool true]) ⟨rfl,trivial⟩) ?_;exact aD _ _ _ _ (((((ac.trans ae).trans ah).trans ao).trans aA).trans am) rfl ⟨ag,rfl,by simp,aJ⟩ aO
end Pal
namespace Pal
open Go Go.Conc Go.Proofs
open Go.Proofs.Tryz
def JK(fuel:Nat)(A:(List (List Int))×(List (List Int))×(List Nat))(U:List (Int×Int))(age:Int)(ms:List Int)(fl:Nat)(n:Int):Option (Nat):=
 (ix A.1 (n)).bind fun K=>
 (f120 fuel K).bind fun O=>
 some O
theorem Sa{J:Judge Tryz.prog}{E:LH}{K k1 O:Nat}{ak ap ac ae:Option Addr}{al aq ag ah:Nat}{ar:List Value}{U:(List (List Int))×(List (List Int))×(List Nat)}{W:List (Int×Int)}{age:Int}{ms:List Int}{fl:Nat}(ay:At E k1 O (([.slice ak (U.1).length al,.slice ap (U.2.1).length aq]:List Value)++ar))(az:Ar (rL rI) E ak al (U.1))(aV:Ar (rL rI) E ap aq (U.2.1))(aW:(rA 13 (rN .u16)).r E ar (U.2.2))(aX:Ar (rP rI rI) E ac ag W)(aY:Ar rI E ae ah ms){Z aa:Nat}(aA:At E Z aa [.pointer (some ⟨K,0,none⟩)]){ai aj kf ab:Nat}(aB:At E kf ab [.func (.func 153) #[] [.pointer (some ⟨Z,aa,none⟩),.pointer (some ⟨ai,aj,none⟩),.pointer (some ⟨kf,ab,none⟩)].toArray]){au on:Nat}{n:Int}(aC:At E au on [iV n]){X:Seg}{fuel:Nat}{r:Nat}(av:JK fuel U W age ms fl n=some r){R:Value→LH→Seg→Prop}
  (aD:∀E',Le E E'→Au J 153 [.int .u16 ((r:Nat):Int),.pointer (some ⟨Z,aa,none⟩),.pointer (some ⟨ai,aj,none⟩),.pointer (some ⟨kf,ab,none⟩)] E' ([(K,.cells #[.pointer (some ⟨k1,O,none⟩),.slice ac W.length ag,iV age,.slice ae ms.length ah,.int .u16 ((fl:Nat):Int)] 175 (0,0))]++X) R):
  Au J 156 [.pointer (some ⟨kf,ab,none⟩),.pointer (some ⟨Z,aa,none⟩),.pointer (some ⟨au,on,none⟩)] E ([(K,.cells #[.pointer (some ⟨k1,O,none⟩),.slice ac W.length ag,iV age,.slice ae ms.length ah,.int .u16 ((fl:Nat):Int)] 175 (0,0))]++X) R:=by
 refine Au.en func156 rfl rfl fun Q aZ cs H A aE=>?_;refine JS.split (S':= [[(K,.cells #[.pointer (some ⟨k1,O,none⟩),.slice ac W.length ag,iV age,.slice ae ms.length ah,.int .u16 ((fl:Nat):Int)] 175 (0,0))],X]) (by simp) A fun A=>?_;unfold JK at av;refine JL.go 5 rfl ?_;refine JG.BX 13 [K] ⟨⟨0,_,rfl⟩,trivial⟩ A mixed rfl (by decide+kernel) fun ht=>?_;refine JG.V (v:= .func (.func 153) #[] [.pointer (some ⟨Z,aa,none⟩),.pointer (some ⟨ai,aj,none⟩),.pointer (some ⟨kf,ab,none⟩)].toArray) 0 ht rfl rfl (fun ρ h s' hs=>Yl.load (Ao underlying201) (h _ _ rfl) (At.Cq (j:=0) aB (Cs A hs ⟨⟨0,_,rfl⟩,trivial⟩) rfl)) ?_;refine JG.V (v:= .pointer (some ⟨K,0,none⟩)) 1 ht rfl rfl (fun ρ h s' hs=>Yl.load (Ao underlying173) (h _ _ rfl) (At.Cq (j:=0) aA (Cs A hs ⟨⟨0,_,rfl⟩,trivial⟩) rfl)) ?_;refine JG.mv 2 ht rfl rfl ?_;refine JG.fd 3 ht underlying175 (Ah type94) rfl rfl rfl rfl ?_;refine JG.V (v:= .pointer (some ⟨k1,O,none⟩)) 4 ht rfl rfl (fun ρ h s' hs=>Yl.load (Ao underlying94) (h _ _ rfl) (Bb (o:=0) 0 A rfl (by simp [AD]) hs rfl)) ?_;refine JG.mv 5 ht rfl rfl ?_;refine JG.fd 6 ht underlying141 (Ah type24) rfl rfl rfl rfl ?_;refine JG.fd 7 ht underlying24 (Ah type22) rfl rfl rfl rfl ?_;refine JG.V (v:= .slice ak (U.1).length al) 8 ht rfl rfl (fun ρ h s' hs=>Yl.load (Ao underlying22) (h _ _ rfl) (At.Cq (j:=0) ay (Cs A hs ⟨⟨0,_,rfl⟩,trivial⟩) rfl)) ?_;refine JG.V (v:=iV n) 9 ht rfl rfl (fun ρ h s' hs=>Yl.load (Ao underlying3) (h _ _ rfl) (At.Cq (j:=0) aC (Cs A hs ⟨⟨0,_,rfl⟩,trivial⟩) rfl)) ?_;obtain⟨am,aF,aG⟩:=bs av;refine JG.idx 10 az aF rfl ht (by decide+kernel) rfl rfl rfl rfl rfl underlying22 (Ah type28) ?_;rintro aH aI _ ⟨an,c4,rfl,aJ⟩ ao;replace ao:At E aH aI [.slice an (am).length c4]:=ao;refine JG.V (v:= .slice an (am).length c4) 11 ht rfl rfl (fun ρ h s' hs=>Yl.load (Ao underlying28) (h _ _ rfl) (At.Cq (j:=0) ao (Cs A hs ⟨⟨0,_,rfl⟩,trivial⟩) rfl)) ?_;obtain⟨aK,aL,aM⟩:=bs aG;refine JG.Ia (i:=12) ⟨⟨0,_,rfl⟩,trivial⟩ (vs:= [.slice an (am).length c4]) (Gp aJ aL) (by decide+kernel) rfl rfl rfl (Ay func120 rfl) rfl A ?_;rintro _ aN _ aw ⟨rfl,rfl⟩ aO;refine Av.leaf (tail:= [13,14]) (by decide+kernel) (fun t=>A3 (by decide+kernel) (A3 (by decide+kernel) BE) t) ?_;obtain rfl:=oi aM;refine JS.split (S':= [[(K,.cells #[.pointer (some ⟨k1,O,none⟩),.slice ac W.length ag,iV age,.slice ae ms.length ah,.int .u16 ((fl:Nat):Int)] 175 (0,0))]++X]) (by simp) aO fun aP=>?_;have aQ:CJ J (.func (.func 153) #[] [.pointer (some ⟨Z,aa,none⟩),.pointer (some ⟨ai,aj,none⟩),.pointer (some ⟨kf,ab,none⟩)].toArray) [.int .u16 ((aK:Nat):Int)] aN ([(K,.cells #[.pointer (some ⟨k1,O,none⟩),.slice ac W.length ag,iV age,.slice ae ms.length ah,.int .u16 ((fl:Nat):Int)] 175 (0,0))]++X) R:=CJ.ofFn (caps:= [.pointer (some ⟨Z,aa,none⟩),.pointer (some ⟨ai,aj,none⟩),.pointer (some ⟨kf,ab,none⟩)]) (Ay func153 rfl) (aD _ aw);refine JS.Gw 0 aQ rfl rfl rfl rfl rfl aP rfl ?_;rintro w a0 aR aS aT aU;refine JL.go 2 rfl ?_;refine JL.rt func156 rfl rfl ?_;exact aE _ _ _ aR (aw.trans aS) (by simp) aT aU
end Pal
namespace Pal
open Go Go.Conc Go.Proofs
open Go.Proofs.Tryz
def JH(fuel:Nat)(A:(List (List Int))×(List (List Int))×(List Nat))(K:List (Int×Int))(age:Int)(ms:List Int)(fl:Nat)(sm:Nat):Option (Option (List Int)):=
 (Jq fuel (A,K,age,ms,fl)).bind fun O=>
 if O<((ms).length:Int) then(
  some none
 ) else(
  (f89 fuel sm).bind fun U=>
  some (some U)
 )
def M8(rec:Nat→List Int→Nat→List (List Int×Nat)→Option (List (List Int×Nat)))(fuel:Nat)(A:(List (List Int))×(List (List Int))×(List Nat))(K:List (Int×Int))(age:Int)(ms:List Int)(fl:Nat)(ac:List (List Int×Nat))(n:Int):Option (List (List Int×Nat)):=
 (JI fuel A K age ms fl n).bind fun r=>match r with
  | none=>some ac
  | some q=>(JK fuel A K age q.1 q.2 n).bind fun s'=>rec s' q.1 q.2 ac
def Iv(ok:List (List Int×Nat)→Bool)(rec:Nat→List Int→Nat→List (List Int×Nat)→Option (List (List Int×Nat)))(fuel:Nat)(A:(List (List Int))×(List (List Int))×(List Nat))(K:List (Int×Int))(age:Int)(ms:List Int)(fl:Nat)(ac:List (List Int×Nat)):Option (List Int)→Option (List (List Int×Nat))
 | none=>if ok (ac++ [(ms,fl)])=true then some (ac++ [(ms,fl)]) else none
 | some l=>if l.length≤1000 then EA (M8 rec fuel A K age ms fl) l ac else none
def Ho(ok:List (List Int×Nat)→Bool)(fuel:Nat)(A:(List (List Int))×(List (List Int))×(List Nat))(K:List (Int×Int))(age:Int):Nat→Nat→List Int→Nat→List (List Int×Nat)→Option (List (List Int×Nat))
 | 0,_,_,_,_=>none
 | g+1,sm,ms,fl,ac=>(JH fuel A K age ms fl sm).bind fun r=>Iv ok (Ho ok fuel A K age g) fuel A K age ms fl ac r
theorem Qw{J:Judge Tryz.prog}{I:List (List Int×Nat)→LH→Seg→Prop}(ar:∀x E E' X,Le E E'→I x E X→I x E' X){E:LH}{A k1 aa:Nat}{aS aT ab W:Option Addr}{aU aV ae Z:Nat}{aW:List Value}{aj:(List (List Int))×(List (List Int))×(List Nat)}{O:List (Int×Int)}{age:Int}{ms:List Int}{fl:Nat}(aG:At E k1 aa (([.slice aS (aj.1).length aU,.slice aT (aj.2.1).length aV]:List Value)++aW))(aH:Ar (rL rI) E aS aU (aj.1))(aI:Ar (rL rI) E aT aV (aj.2.1))(aJ:(rA 13 (rN .u16)).r E aW (aj.2.2))(aK:Ar (rP rI rI) E ab ae O)(aL:Ar rI E W Z ms){an ao:Nat}(aw:At E an ao [.pointer (some ⟨A,0,none⟩)]){az aA kf ap:Nat}(bb:At E kf ap [.func (.func 153) #[] [.pointer (some ⟨an,ao,none⟩),.pointer (some ⟨az,aA,none⟩),.pointer (some ⟨kf,ap,none⟩)].toArray]){aM:Value}(bc:At E az aA [aM]){X:Seg}{acc acc':List (List Int×Nat)}{ok:List (List Int×Nat)→Bool}(aX:I acc E X){rec:Nat→List Int→Nat→List (List Int×Nat)→Option (List (List Int×Nat))}(bd:∀s' ak au ac aB,rec s' ak au ac=some aB→∀E' K a c,Le E E'→Ar rI E' a c ak→I ac E' K→Au J 153 [.int .u16 ((s':Nat):Int),.pointer (some ⟨an,ao,none⟩),.pointer (some ⟨az,aA,none⟩),.pointer (some ⟨kf,ap,none⟩)] E' ([(A,.cells #[.pointer (some ⟨k1,aa,none⟩),.slice ab O.length ae,iV age,(.slice a ak.length c),(.int .u16 ((au:Nat):Int))] 175 (0,0))]++K) (fun w E' B'=>∃aN mv aO K,w= .bool true∧B'= [(A,.cells #[.pointer (some ⟨k1,aa,none⟩),.slice ab O.length ae,aN,mv,aO] 175 (0,0))]++K∧I aB E' K))(bf:∀(E':LH) (K:Seg) (ac:List (List Int×Nat)) (ak:List Int) (au:Nat) (a:Option Addr) (c:Nat),Le E E'→Ar rI E' a c ak→I ac E' K→ok (ac++ [(ak,au)])=true→CJ J aM [.agg #[iV age,.slice a ak.length c,.int .u16 ((au:Nat):Int)]] E' K (fun w aY bg=>w= .bool true∧I (ac++ [(ak,au)]) aY bg)){sm:Nat}{fuel:Nat}{r:Option (List Int)}(aZ:JH fuel aj O age ms fl sm=some r)(ag:Iv ok rec fuel aj O age ms fl acc r=some acc'):
  Au J 153 [.int .u16 ((sm:Nat):Int),.pointer (some ⟨an,ao,none⟩),.pointer (some ⟨az,aA,none⟩),.pointer (some ⟨kf,ap,none⟩)] E ([(A,.cells #[.pointer (some ⟨k1,aa,none⟩),.slice ab O.length ae,iV age,.slice W ms.length Z,.int .u16 ((fl:Nat):Int)] 175 (0,0))]++X) (fun w E' B'=>∃aN mv aO K,w= .bool true∧B'= [(A,.cells #[.pointer (some ⟨k1,aa,none⟩),.slice ab O.length ae,aN,mv,aO] 175 (0,0))]++K∧I acc' E' K):=by
 refine Au.en func153 rfl rfl fun Q bP cs H aq a0=>?_;refine JS.split (S':= [[(A,.cells #[.pointer (some ⟨k1,aa,none⟩),.slice ab O.length ae,iV age,.slice W ms.length Z,.int .u16 ((fl:Nat):Int)] 175 (0,0))],X]) (by simp) aq fun aq=>?_;unfold JH at aZ;refine JL.go 6 rfl ?_;refine JG.BX 8 [A] ⟨⟨0,_,rfl⟩,trivial⟩ aq mixed rfl (by decide+kernel) fun ht=>?_;refine JG.V (v:= .pointer (some ⟨A,0,none⟩)) 0 ht rfl rfl (fun ρ h s' hs=>Yl.load (Ao underlying173) (h _ _ rfl) (At.Cq (j:=0) aw (Cs aq hs ⟨⟨0,_,rfl⟩,trivial⟩) rfl)) ?_;refine JG.mv 1 ht rfl rfl ?_;refine JG.fd 2 ht underlying175 (Ah type104) rfl rfl rfl rfl ?_;refine JG.fd 3 ht underlying104 (Ah type28) rfl rfl rfl rfl ?_;refine JG.V (v:= .slice W (ms).length Z) 4 ht rfl rfl (fun ρ h s' hs=>Yl.load (Ao underlying28) (h _ _ rfl) (Bb (o:=3) 0 aq rfl (by simp [AD]) hs rfl)) ?_;refine JG.V 5 ht rfl rfl (fun ρ h s' hs=>Yl.len rfl underlying28 (h _ _ rfl)) ?_;refine JG.V (v:= .pointer (some ⟨A,0,none⟩)) 6 ht rfl rfl (fun ρ h s' hs=>Yl.load (Ao underlying173) (h _ _ rfl) (At.Cq (j:=0) aw (Cs aq hs ⟨⟨0,_,rfl⟩,trivial⟩) rfl)) ?_;obtain⟨bh,bi,a1⟩:=bs aZ;refine JG.Mo (i:=7) (vs:= [.pointer (some ⟨A,0,none⟩)]) 0 ⟨⟨0,_,rfl⟩,trivial⟩ (PI aG aH aI aJ aK aL bi) (fun _ _ _ h=>h.2) (by decide+kernel) rfl rfl rfl (Ay func154 rfl) rfl aq rfl ?_;rintro _ a2 U ⟨rfl,_⟩ al;refine Av.leaf (tail:= [8]) (by decide+kernel) (fun t=>A3 (by decide+kernel) BE t) ?_;refine JL.go 2 rfl ?_;refine JL.ifs (p:=bh<((ms).length:Int)) rfl (fun aP=>?_) (fun aP=>?_)
 ·have a3:=a1;rw [if_pos aP] at a3;refine JL.seq ?_;refine JG.BX 5 [A] ⟨⟨0,_,rfl⟩,trivial⟩ al mixed rfl (by decide+kernel) fun ht=>?_;refine JG.V (v:=aM) 0 ht rfl rfl (fun ρ h s' hs=>Yl.load (Ao underlying200) (h _ _ rfl) (At.Cq (j:=0) (bc.mono U) (Cs al hs ⟨⟨0,_,rfl⟩,trivial⟩) rfl)) ?_;refine JG.V (v:= .pointer (some ⟨A,0,none⟩)) 1 ht rfl rfl (fun ρ h s' hs=>Yl.load (Ao underlying173) (h _ _ rfl) (At.Cq (j:=0) (aw.mono U) (Cs al hs ⟨⟨0,_,rfl⟩,trivial⟩) rfl)) ?_;refine JG.mv 2 ht rfl rfl ?_;refine JG.fd 3 ht underlying175 (Ah type104) rfl rfl rfl rfl ?_;refine JG.V 4 ht rfl rfl (fun ρ h s' hs=>Yl.Bh (vs:= [iV age,.slice W (ms).length Z,.int .u16 ((fl:Nat):Int)]) (Ao underlying104) (Ah type104) (h _ _ rfl) (Ob (o:=2) 0 al rfl (by simp [AD]) hs rfl)) ?_;refine Av.leaf (tail:= [5,6]) (by decide+kernel) (fun t=>A3 (by decide+kernel) (A3 (by decide+kernel) BE) t) ?_;obtain rfl:=oi a3;have a4:ok (acc++ [(ms,fl)])=true∧acc++ [(ms,fl)]=acc':=by
   simp only [Iv] at ag;split at ag
   ·exact⟨by assumption,Option.some.inj ag⟩
   ·cases ag
  obtain⟨bj,a4⟩:=a4;subst acc';refine JS.Gw (vs:= [.agg #[iV age,.slice W ms.length Z,.int .u16 ((fl:Nat):Int)]]) 1 (bf _ _ _ _ _ _ _ U (aL.mono U) (ar _ _ _ _ U aX) bj) rfl rfl rfl rfl rfl al rfl ?_;rintro _ bQ bk bl ⟨rfl,bm⟩ bn;refine JL.go 2 rfl ?_;refine JL.rt func153 rfl rfl ?_;exact a0 _ _ _ _ (U.trans bl) rfl ⟨iV age,.slice W ms.length Z,.int .u16 ((fl:Nat):Int),bk,rfl,by simp,bm⟩ bn
 ·have a5:=a1;rw [if_neg aP] at a5;obtain⟨ai,bo,bp⟩:=bs a5;refine JL.go 5 rfl ?_;refine JS.cl (FY bo) rfl rfl (Ay func89 rfl) al ?_;rintro _ bq _ aQ ⟨a6,a7,rfl,rfl,br⟩ bu;refine JL.Y rfl (fun ρ h=>Yl.len rfl underlying28 (h _ _ rfl)) ?_;refine JL.go 2 rfl ?_;obtain rfl:=oi bp;have bv:(ai).length≤1000∧EA (M8 rec fuel aj O age ms fl) ai acc=some acc':=by
   simp only [Iv] at ag;split at ag
   ·exact⟨by assumption,ag⟩
   ·cases ag
  obtain⟨hlen,ag⟩:=bv;refine JL.block ?_;refine JL.wk [(1,.pointer (some ⟨an,ao,none⟩)),(3,.pointer (some ⟨kf,ap,none⟩)),(24,.slice a6 (ai).length a7),(25,iV ((ai).length:Int)),(26,iV 0)] rfl ?_;refine JS.split (S':= [[(A,.cells #[.pointer (some ⟨k1,aa,none⟩),.slice ab O.length ae,iV age,.slice W ms.length Z,.int .u16 ((fl:Nat):Int)] 175 (0,0))],X]) (by simp) bu fun bw=>?_;refine JL.OI (l:=ai) ag (fun L s i ac=>∃aC av,Jn bq H aC [[(A,.cells #[.pointer (some ⟨k1,aa,none⟩),.slice ab O.length ae,iV age,.slice W ms.length Z,.int .u16 ((fl:Nat):Int)] 175 (0,0))],av] [(1,.pointer (some ⟨an,ao,none⟩)),(3,.pointer (some ⟨kf,ap,none⟩)),(24,.slice a6 (ai).length a7),(25,iV ((ai).length:Int)),(26,iV ((i:Nat):Int))] L s (I ac aC av)) ⟨_,X,rfl,rfl,Le.refl _,bw,ar _ _ _ _ (U.trans aQ) aX⟩ ?_ ?_
  ·rintro _ _ i ac n aB ⟨aC,av,rfl,rfl,ay,aR,aD⟩ bx bR bz bA;have bB:=(U.trans aQ).trans ay;refine JL.go 5 rfl ?_;rw [decide_eq_true (show((i:Nat):Int)<((ai).length:Int) by omega)];refine JL.go 6 rfl ?_;have bC:ix ai ((i:Nat):Int)=some n:=by unfold ix;rw [if_pos (by omega)];exact bx
   refine JS.BH (br.mono ay) bC rfl rfl rfl rfl rfl underlying28 (Ah type3) ?_;rintro kk bS _ rfl bD;refine JL.ld 0 bD (Ao underlying3) rfl rfl rfl ?_;refine JS.alloc rfl rfl rfl aR (AN type3) fun a8 bE=>?_;refine JS.st (v:=iV n) (off:=0) 2 bE (Ah type3) rfl rfl rfl rfl fun bF=>?_;refine JS.Bi 2 bF rfl fun bG aE aF bH=>?_;replace aF:At bG a8 0 [iV n]:=aF;have am:=bB.trans aE;refine JL.go 3 rfl ?_;refine JL.ld 0 (aw.mono am) (Ao underlying173) rfl rfl rfl ?_;refine JL.ld 0 aF (Ao underlying3) rfl rfl rfl ?_;refine JL.Y (v:= .func (.func 156) #[] [.pointer (some ⟨kf,ap,none⟩),.pointer (some ⟨an,ao,none⟩),.pointer (some ⟨a8,0,none⟩)].toArray) rfl (fun ρ h=>Yl.FT (by simp) (by simp [h (.tmp 3) _ rfl,h (.tmp 1) _ rfl,h (.tmp 7) _ rfl])) ?_;refine JS.split (S':= [[(A,.cells #[.pointer (some ⟨k1,aa,none⟩),.slice ab O.length ae,iV age,.slice W ms.length Z,.int .u16 ((fl:Nat):Int)] 175 (0,0))]++av]) (by simp) bH fun al=>?_;obtain⟨q,bI,a9⟩:=Option.bind_eq_some_iff.1 bz;refine JS.Bw 0 (Q8 ar (aG.mono am) (aH.mono am) (aI.mono am) (Rp.mono _ am aJ) (aK.mono am) (aL.mono am) (acc':=aB) (ar _ _ _ _ aE aD) bI (fun e=>by subst e;exact(Option.some.inj a9).symm) (fun p e E' a c hle ba=>?_)) rfl rfl (Ay func155 rfl) al rfl ?_
   ·subst e;obtain⟨s',bJ,bK⟩:=Option.bind_eq_some_iff.1 a9;have ah:=am.trans hle;exact CJ.ofFn (Ay func156 rfl) (Sa (aG.mono ah) (aH.mono ah) (aI.mono ah) (Rp.mono _ ah aJ) (aK.mono ah) ba (aw.mono ah) (bb.mono ah) (aF.mono hle) bJ fun aY U=>bd _ _ _ _ _ bK _ _ _ _ (ah.trans U) (ba.mono U) (ar _ _ _ _ (hle.trans U) (ar _ _ _ _ aE aD)))
   rintro _ a2 _ ah ⟨K,rfl,rfl,bL⟩ bM;refine JL.Y (v:= .bool (!true)) rfl (fun ρ h=>Yl.not (h _ _ rfl)) ?_;refine JL.go 5 rfl ?_;have bN:Aw (((i:Nat):Int)+1)=some (((i+1:Nat)):Int):=by unfold Aw;rw [if_pos (by omega)];simp
   refine JL.Y rfl (fun ρ h=>Yl.A1 (h _ _ rfl) (h _ _ rfl) bN) ?_;refine JL.go 2 rfl ?_;refine JS.split (S':= [[(A,.cells #[.pointer (some ⟨k1,aa,none⟩),.slice ab O.length ae,iV age,.slice W ms.length Z,.int .u16 ((fl:Nat):Int)] 175 (0,0))],K]) (by simp) bM fun bO=>?_;exact JL.kw (bA _ _ ⟨a2,K,rfl,rfl,(ay.trans aE).trans ah,bO,bL⟩) rfl
  ·rintro _ _ ⟨aC,av,rfl,rfl,ay,aR,aD⟩;refine JL.go 5 rfl ?_;rw [decide_eq_false (Int.lt_irrefl _)];refine JL.go 6 rfl ?_;refine JL.rt func153 rfl rfl ?_;exact a0 _ _ _ _ ((U.trans aQ).trans ay) rfl ⟨iV age,.slice W ms.length Z,.int .u16 ((fl:Nat):Int),av,rfl,by simp,aD⟩ aR
end Pal
namespace Pal
open Go Go.Conc Go.Proofs
open Go.Proofs.Tryz
theorem Pw{J:Judge Tryz.prog}{I:List (List Int×Nat)→LH→Seg→Prop}(aB:∀x E E' X,Le E E'→I x E X→I x E' X){E:LH}{aa k1 ab:Nat}{au av ae:Option Addr}{aw ay ag:Nat}{az:List Value}{K:(List (List Int))×(List (List Int))×(List Nat)}{W:List (Int×Int)}{age:Int}(aC:At E k1 ab (([.slice au (K.1).length aw,.slice av (K.2.1).length ay]:List Value)++az))(aD:Ar (rL rI) E au aw (K.1))(aE:Ar (rL rI) E av ay (K.2.1))(aF:(rA 13 (rN .u16)).r E az (K.2.2))(aG:Ar (rP rI rI) E ae ag W){ah ai:Nat}(aH:At E ah ai [.pointer (some ⟨aa,0,none⟩)]){aj ak kf al:Nat}(aI:At E kf al [.func (.func 153) #[] [.pointer (some ⟨ah,ai,none⟩),.pointer (some ⟨aj,ak,none⟩),.pointer (some ⟨kf,al,none⟩)].toArray]){aA:Value}(aJ:At E aj ak [aA]){fuel:Nat}{ok:List (List Int×Nat)→Bool}(aK:∀(E':LH) (Z:Seg) (ac:List (List Int×Nat)) (A:List Int) (O:Nat) (a:Option Addr) (c:Nat),Le E E'→Ar rI E' a c A→I ac E' Z→ok (ac++ [(A,O)])=true→CJ J aA [.agg #[iV age,.slice a A.length c,.int .u16 ((O:Nat):Int)]] E' Z (fun w aL aM=>w= .bool true∧I (ac++ [(A,O)]) aL aM)):
  ∀(g sm:Nat) (ms:List Int) (fl:Nat) (ac U:List (List Int×Nat)),Ho ok fuel K W age g sm ms fl ac=some U→∀E' X a c,Le E E'→Ar rI E' a c ms→I ac E' X→Au J 153 [.int .u16 ((sm:Nat):Int),.pointer (some ⟨ah,ai,none⟩),.pointer (some ⟨aj,ak,none⟩),.pointer (some ⟨kf,al,none⟩)] E' ([(aa,.cells #[.pointer (some ⟨k1,ab,none⟩),.slice ae W.length ag,iV age,(.slice a ms.length c),.int .u16 ((fl:Nat):Int)] 175 (0,0))]++X) (fun w E' B'=>∃aN mv aO Z,w= .bool true∧B'= [(aa,.cells #[.pointer (some ⟨k1,ab,none⟩),.slice ae W.length ag,aN,mv,aO] 175 (0,0))]++Z∧I U E' Z):=by
 intro g
 induction g with
 | zero=>intro sm ms fl ac U h;cases h
 | succ g aP=>
  intro sm ms fl ac U h E' X a c hle aQ aR;obtain⟨r,aS,aT⟩:=Option.bind_eq_some_iff.1 h;exact Qw aB (aC.mono hle) (aD.mono hle) (aE.mono hle) (Rp.mono _ hle aF) (aG.mono hle) aQ (aH.mono hle) (aI.mono hle) (aJ.mono hle) aR (rec:=Ho ok fuel K W age g) (fun s' A O ac U aU am an ao c2 ap aq ar=>aP s' A O ac U aU am an ao c2 (hle.trans ap) aq ar) (fun am an ac A O ao c2 ap aq ar aV=>aK am an ac A O ao c2 (hle.trans ap) aq ar aV) aS aT
def GC(fuel:Nat)(A:(List (List Int))×(List (List Int))×(List Nat))(O:List (Int×Int))(age:Int):Option Nat:=
 (ix A.2.2 (age)).bind fun K=>
 some K
theorem KM{J:Judge Tryz.prog}{I:List (List Int×Nat)→LH→Seg→Prop}(aF:∀x E E' X,Le E E'→I x E X→I x E' X){E:LH}{U k1 O:Nat}{aq ar ab:Option Addr}{au av ae:Nat}{aG:List Value}{aa:(List (List Int))×(List (List Int))×(List Nat)}{W:List (Int×Int)}{age:Int}(aH:At E k1 O (([.slice aq (aa.1).length au,.slice ar (aa.2.1).length av]:List Value)++aG))(aN:Ar (rL rI) E aq au (aa.1))(aO:Ar (rL rI) E ar av (aa.2.1))(aw:(rA 13 (rN .u16)).r E aG (aa.2.2))(aP:Ar (rP rI rI) E ab ae W){ag ah:Nat}(ay:At E ag ah [.pointer (some ⟨U,0,none⟩)]){aI aJ:Nat}(aK:At E aI aJ [iV age]){al mv am:Value}{an:Go.Fn}{X:Seg}{acc acc':List (List Int×Nat)}(aQ:I acc E X){ok:List (List Int×Nat)→Bool}{fuel:Nat}(aR:∀(E':LH) (Z:Seg) (ac:List (List Int×Nat)) (ao:List Int) (az:Nat) (a:Option Addr) (c:Nat),Le E E'→Ar rI E' a c ao→I ac E' Z→ok (ac++ [(ao,az)])=true→CJ J (.func an #[] #[]) [.agg #[iV age,.slice a ao.length c,.int .u16 ((az:Nat):Int)]] E' Z (fun w aS aT=>w= .bool true∧I (ac++ [(ao,az)]) aS aT)){r:Nat}(aL:GC fuel aa W age=some r)(aU:Ho ok fuel aa W age fuel r [] 0 acc=some acc'):
  Au J 152 [.func an #[] #[],.pointer (some ⟨aI,aJ,none⟩),.pointer (some ⟨ag,ah,none⟩)] E ([(U,.cells #[.pointer (some ⟨k1,O,none⟩),.slice ab W.length ae,al,mv,am] 175 (0,0))]++X) (fun w E' B'=>∃al mv am Z,w= .tuple #[]∧B'= [(U,.cells #[.pointer (some ⟨k1,O,none⟩),.slice ab W.length ae,al,mv,am] 175 (0,0))]++Z∧I acc' E' Z):=by
 refine Au.en func152 rfl rfl fun Q bm cs H aA aV=>?_;refine JS.split (S':= [[(U,.cells #[.pointer (some ⟨k1,O,none⟩),.slice ab W.length ae,al,mv,am] 175 (0,0))],X]) (by simp) aA fun aA=>?_;unfold GC at aL;refine JL.go 2 rfl ?_;refine JS.box (v:= .func an #[] #[]) rfl rfl rfl aA rfl fun aj aW=>?_;refine JS.Bi 2 aW rfl fun aX A aB aY=>?_;replace aB:At aX aj 0 [.func an #[] #[]]:=aB;refine JL.go 3 rfl ?_;refine JL.ld 0 (ay.mono A) (Ao underlying173) rfl rfl rfl ?_;refine JL.ld 0 (aK.mono A) (Ao underlying3) rfl rfl rfl ?_;refine JL.Y (v:= .agg #[iV age,.slice none 0 0,.int .u16 ((0:Nat):Int)]) rfl (fun ρ h=>Yl.B4 [(0,1),(1,1),(2,1)] h (AN type104) underlying104 ⟨rfl,Ah type3,rfl,Ah type28,rfl,Ah type102,trivial⟩ rfl rfl) ?_;refine JL.go 1 rfl ?_;refine JL.fd underlying175 (Ah type104) rfl rfl rfl ?_;refine JS.st (v:= .agg #[iV age,.slice none 0 0,.int .u16 ((0:Nat):Int)]) (off:=2) 0 aY (Ah type104) rfl rfl rfl rfl fun aZ=>?_;refine JL.go 3 rfl ?_;refine JS.alloc rfl rfl rfl aZ (AN type201) fun ai a0=>?_;refine JS.norm (S':= [[(U,.cells #[.pointer (some ⟨k1,O,none⟩),.slice ab (W).length ae,iV age,.slice none 0 0,.int .u16 ((0:Nat):Int)] 175 (0,0))],X,[],[(ai,.cells #[.nilFunc] 201 (0,0))]]) rfl a0 fun a1=>?_;refine JL.go 3 rfl ?_;refine JL.Y (v:= .func (.func 153) #[] ([.pointer (some ⟨ag,ah,none⟩),.pointer (some ⟨aj,0,none⟩),.pointer (some ⟨ai,0,none⟩)]:List Value).toArray) rfl (fun ρ h=>Yl.FT (by simp) (by simp [h (.tmp 2) _ rfl,h (.tmp 3) _ rfl,h (.tmp 4) _ rfl])) ?_;refine JS.st (v:= .func (.func 153) #[] ([.pointer (some ⟨ag,ah,none⟩),.pointer (some ⟨aj,0,none⟩),.pointer (some ⟨ai,0,none⟩)]:List Value).toArray) (off:=0) 3 a1 (Ah type201) rfl rfl rfl rfl fun a2=>?_;refine JS.Bi 3 a2 rfl fun aC K ap ak=>?_;replace ap:At aC ai 0 [.func (.func 153) #[] ([.pointer (some ⟨ag,ah,none⟩),.pointer (some ⟨aj,0,none⟩),.pointer (some ⟨ai,0,none⟩)]:List Value).toArray]:=ap;refine JL.done ?_;refine JG.BX 11 [U] ⟨⟨0,_,rfl⟩,trivial⟩ ak mixed rfl (by decide+kernel) fun ht=>?_;refine JG.V (v:= .func (.func 153) #[] ([.pointer (some ⟨ag,ah,none⟩),.pointer (some ⟨aj,0,none⟩),.pointer (some ⟨ai,0,none⟩)]:List Value).toArray) 0 ht rfl rfl (fun ρ h s' hs=>Yl.load (Ao underlying201) (h _ _ rfl) (At.Cq (j:=0) ap (Cs ak hs ⟨⟨0,_,rfl⟩,trivial⟩) rfl)) ?_;refine JG.V (v:= .pointer (some ⟨U,0,none⟩)) 1 ht rfl rfl (fun ρ h s' hs=>Yl.load (Ao underlying173) (h _ _ rfl) (At.Cq (j:=0) (ay.mono (A.trans K)) (Cs ak hs ⟨⟨0,_,rfl⟩,trivial⟩) rfl)) ?_;refine JG.mv 2 ht rfl rfl ?_;refine JG.fd 3 ht underlying175 (Ah type94) rfl rfl rfl rfl ?_;refine JG.V (v:= .pointer (some ⟨k1,O,none⟩)) 4 ht rfl rfl (fun ρ h s' hs=>Yl.load (Ao underlying94) (h _ _ rfl) (Bb (o:=0) 0 ak rfl (by simp [AD]) hs rfl)) ?_;refine JG.V (v:=iV age) 5 ht rfl rfl (fun ρ h s' hs=>Yl.load (Ao underlying3) (h _ _ rfl) (At.Cq (j:=0) (aK.mono (A.trans K)) (Cs ak hs ⟨⟨0,_,rfl⟩,trivial⟩) rfl)) ?_;refine JG.mv 6 ht rfl rfl ?_;refine JG.fd 7 ht underlying141 (Ah type139) rfl rfl rfl rfl ?_;obtain⟨aD,aM,a3⟩:=bs aL;obtain⟨_,rfl,aE,_,_⟩:=MI (kk:=13) (pp:=(rN .u16)) (Rp.mono _ (A.trans K) aw) (At.tail (l:= [.slice aq (aa.1).length au,.slice ar (aa.2.1).length av]) (aH.mono (A.trans K))) aM;replace aE:At aC k1 (O+2+Int.toNat (age)*1) [.int .u16 ((aD:Nat):Int)]:=aE;refine JG.V (v:= .pointer (some ⟨k1,(O+2+Int.toNat (age)*1),none⟩)) 8 ht rfl rfl (fun ρ h s' hs=>Yl.Gt (kk:=13) (pp:=(rN .u16)) (Rp.mono _ (A.trans K) aw) aM underlying139 (Ah type138) (h _ _ rfl) (h _ _ rfl)) ?_;refine JG.fd 9 ht underlying138 (Ah type102) rfl rfl rfl rfl ?_;refine JG.V (v:= .int .u16 ((aD:Nat):Int)) 10 ht rfl rfl (fun ρ h s' hs=>Yl.load (Ao underlying102) (h _ _ rfl) (At.Cq (j:=0) aE (Cs ak hs ⟨⟨0,_,rfl⟩,trivial⟩) rfl)) ?_;refine Av.leaf (tail:= [11]) (by decide+kernel) (fun t=>A3 (by decide+kernel) BE t) ?_;obtain rfl:=oi a3;have a4:CJ J (.func (.func 153) #[] [.pointer (some ⟨ag,ah,none⟩),.pointer (some ⟨aj,0,none⟩),.pointer (some ⟨ai,0,none⟩)].toArray) [.int .u16 ((aD:Nat):Int)] aC ([(U,.cells #[.pointer (some ⟨k1,O,none⟩),.slice ab W.length ae,iV age,.slice none 0 0,.int .u16 ((0:Nat):Int)] 175 (0,0))]++X) (fun w E' B'=>∃al mv am Z,w= .bool true∧B'= [(U,.cells #[.pointer (some ⟨k1,O,none⟩),.slice ab W.length ae,al,mv,am] 175 (0,0))]++Z∧I acc' E' Z):=CJ.ofFn (caps:= [.pointer (some ⟨ag,ah,none⟩),.pointer (some ⟨aj,0,none⟩),.pointer (some ⟨ai,0,none⟩)]) (Ay func153 rfl) (Pw aF (aH.mono (A.trans K)) (aN.mono (A.trans K)) (aO.mono (A.trans K)) (Rp.mono _ (A.trans K) aw) (aP.mono (A.trans K)) (ay.mono (A.trans K)) ap (aB.mono K) (fun a5 a6 ac a7 a8 a9 c2 ba bb bc bd=>aR a5 a6 ac a7 a8 a9 c2 (((A.trans K)).trans ba) bb bc bd) _ _ _ _ _ _ aU _ _ _ _ (Le.refl _) Ar.nil (aF _ _ _ _ (A.trans K) aQ));refine JS.split (S':= [[(U,.cells #[.pointer (some ⟨k1,O,none⟩),.slice ab W.length ae,iV age,.slice none 0 0,.int .u16 ((0:Nat):Int)] 175 (0,0))]++X]) (by simp) ak fun bf=>?_;refine JS.Gw 0 a4 rfl rfl rfl rfl rfl bf rfl ?_;rintro w bn _ bg ⟨bh,bi,bj,Z,rfl,rfl,bk⟩ bl;refine JL.done ?_;refine JL.fin (v:= .tuple #[]) rfl rfl (Bl.list func152 rfl (vs:= []) trivial) ?_;exact aV _ _ _ _ ((A.trans K).trans bg) rfl ⟨bh,bi,bj,Z,rfl,by simp,bk⟩ bl
end Pal
namespace Pal
open Go Go.Conc Go.Proofs
open Go.Proofs.Tryz
noncomputable def Fv:Code:=match Tryz.f127.body with | some (.seq _ (.seq _ (.seq (.seq _ (.block _ (.rangeFunc _ _ a _))) _)))=>a | _=> .skip
noncomputable def Fw:Code:=match Tryz.f127.body with | some (.seq _ (.seq _ (.seq (.seq _ (.block _ (.rangeFunc _ _ _ b))) _)))=>b | _=> .skip
def add1(fuel:Nat)(age:Int)(q:Int×List (Int×(List Int)×Nat))(x:List Int×Nat):Option (Int×List (Int×(List Int)×Nat)):=
 (f130 fuel (age,x.1,x.2)).bind fun n=>GA fuel q.1 q.2 (age,x.1,x.2) n
def FU(fuel:Nat)(age:Int)(ac:List (List Int×Nat)):Option (Int×List (Int×(List Int)×Nat)):=EA (add1 fuel age) ac (0,[])
def IP(fuel:Nat)(age:Int)(l A K:Nat)(T:Array Value)(ac:List (List Int×Nat))(E:LH)(X:Seg):Prop:=
 ∃q a c g,FU fuel age ac=some q∧X=(l,.loop ⟨.ready,none,127,T,#[17],Fv,Fw,K⟩)::([(A,.cells #[iV age,iV q.1,.slice a q.2.length c] 133 (0,0))]++g)∧OL 104 (rP rI (rP (rL rI) (rN .u16))) E a c g q.2
theorem IP.mono{fuel:Nat}{age:Int}{l A K:Nat}{T:Array Value}:∀(ac:List (List Int×Nat)) (E E':LH) (X:Seg),Le E E'→IP fuel age l A K T ac E X→IP fuel age l A K T ac E' X:=
 fun ac E E' X hle ⟨q,a,c,g,O,U,W⟩=>⟨q,a,c,g,O,U,W.mono hle⟩
theorem Ki{α B:Type}{step:B→α→Option B}:∀{l:List α} {x:α} {b:B},EA step (l++ [x]) b=(EA step l b).bind fun A=>step A x
 | [],x,b=>by simp [EA]
 | y::l,x,b=>by
  simp only [List.cons_append,EA]
  cases step b y with
  | none=>rfl
  | some A=>exact Ki
theorem Ls{J:Judge Tryz.prog}{fuel:Nat}{age:Int}{l A U:Nat}{T:Array Value}(aj:Has Tryz.f127.ntmps [(6,.pointer (some ⟨A,0,none⟩))] T){E:LH}{X:Seg}{ac:List (List Int×Nat)}{ms:List Int}{fl:Nat}{K:Option Addr}{O:Nat}(ag:Ar rI E K O ms)(ak:IP fuel age l A U T ac E X)(al:(FU fuel age (ac++ [(ms,fl)])).isSome=true):
  CJ J (.func (.yield l) #[] #[]) [.agg #[iV age,.slice K ms.length O,.int .u16 ((fl:Nat):Int)]] E X (fun w E' am=>w= .bool true∧IP fuel age l A U T (ac++ [(ms,fl)]) E' am):=by
 obtain⟨q,a,c,g,ah,rfl,an⟩:=ak;obtain⟨r,he⟩:=Option.isSome_iff_exists.1 al;have ai:add1 fuel age q (ms,fl)=some r:=by
  have aa:=he;unfold FU at aa ah;rw [Ki,ah] at aa;exact aa
 refine CJ.yield (i:=0) (t:=17) rfl rfl fun Q ao cs H ab ap=>?_;refine(?_:JL J Q (MN l 127) Tryz.f127.ntmps [(17,.agg #[iV age,.slice K ms.length O,.int .u16 ((fl:Nat):Int)]),(6,.pointer (some ⟨A,0,none⟩))] [] [.code Fv,.beginRound,.code Fw] (ao::cs) _) _ (aj.put (d:=some 17) rfl _);refine JS.split (S':= [[(l,.loop ⟨.ready,none,127,T,#[17],Fv,Fw,U⟩)],[(A,.cells #[iV age,iV q.1,.slice a q.2.length c] 133 (0,0))],g]) (by simp) ab fun ab=>?_;unfold add1 at ai;refine JL.region ?_;refine JS.alloc rfl rfl rfl ab (AN type104) fun aq ar=>?_;refine JS.st (v:= .agg #[iV age,.slice K (ms).length O,.int .u16 ((fl:Nat):Int)]) (off:=0) 3 ar (Ah type104) rfl rfl rfl rfl fun au=>?_;refine JS.Bi 3 au rfl fun av W Z aw=>?_;replace Z:At av aq 0 [iV age,.slice K (ms).length O,.int .u16 ((fl:Nat):Int)]:=Z;refine JL.done ?_;refine JL.beginRound 0 rfl rfl aw rfl rfl fun ay=>?_;refine JL.block ?_;refine JG.CQ 4 mixed rfl (by decide+kernel) fun ht=>?_;refine JG.fd 0 ht underlying133 (Ah type97) rfl rfl rfl rfl ?_;refine JG.Bt 1 ht Z (Ao underlying104) (Ah type104) rfl rfl rfl ?_;refine JG.Bt 2 ht Z (Ao underlying104) (Ah type104) rfl rfl rfl ?_;obtain⟨aJ,az,aA⟩:=bs ai;refine JG.call (i:=3) (vs:= [.agg #[iV age,.slice K (ms).length O,.int .u16 ((fl:Nat):Int)]]) (Q1 (p0:=(age,ms,fl)) (ag.mono W) az) (by decide+kernel) rfl rfl rfl (Ay func130 rfl) rfl ay ?_;rintro _ aK _ ae ⟨rfl,rfl⟩ aB;refine Av.leaf (tail:= [4]) (by decide+kernel) (fun t=>A3 (by decide+kernel) BE t) ?_;refine JS.split (S':= [[(l,.loop ⟨.busy,none,127,T,#[17],Fv,Fw,U⟩)],[(A,.cells #[iV age,iV q.1,.slice a q.2.length c] 133 (0,0))]++g]) (by simp) aB fun aC=>?_;refine JS.Bw 1 (QX ((an.mono (W.trans ae))) (tr:=(age,ms,fl)) (ag.mono (W.trans ae)) aA) rfl rfl (Ay func122 rfl) aC rfl ?_;rintro _ aL _ aD ⟨aE,aF,g',rfl,rfl,aG⟩ aH;refine JL.go 2 rfl ?_;refine JL.endRound 0 rfl rfl aH rfl fun aI=>?_;exact ap _ _ _ _ ((W.trans ae).trans aD) rfl ⟨rfl,r,aE,aF,g',he,by simp,aG⟩ aI
end Pal
