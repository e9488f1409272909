/- ToothCheats Part 3 of 8. -/
import Derived.Test.YtboibffcmhheiaaGreatDoorTsa
import Derived.Test.YtboibffcmhheiaaGreatDoorTsb
import Derived.Test.YtboibffcmhheiaaGreatDoorRows
import Derived.Test.YtboibffcmhheiaaGreatDoorChecked
import Derived.Conc.LeavingOf
import Derived.Conc.Holds
import Derived.Carry
import Derived.ChangeSame
import Derived.ChangeVars
import Derived.JoinedOf
import Derived.RowKit
import Derived.LaidLaws
import Derived.LaidHandle
import Derived.Stop.Joined
import Derived.Test.YtboibffcmhheiaaGreatDoorProg
import Derived.ProofKit
set_option linter.all false
set_option maxRecDepth 100000
namespace Pal
open Go Go.Conc
section
variable {P:Program}(J:Judge P)(Q:Goroutine→St→Prop)(b:Frame)(ds:List Deferred)(ops:Array Oper)(k:List Item)(cs:List Frame)(X D:Nat→Bool)
def JB:Nat→Array Bool→Array Value→St→Prop
 | 0,listed,T,s=>Region.ready .any ops listed= []∧J.ok Q (G (fr b T ds (.inRegion ops []::k)) cs) s
 | fuel+1,listed,T,s=>
  Region.ready .any ops listed≠ []∧s.q=false∧∀i∈Region.ready .any ops listed,∀o,ops[i]? =some o→(∀c,o.op≠ .defer c)∧
   (Region.wanted o (yielded ops T)=false→JB fuel (AX listed i) (BQ T o.dst undef) s)∧
   (Region.wanted o (yielded ops T)=true→X i=true→lp P (execOp (Bm T) o) s (fun nx s'=>match nx with
    | .value v=>JB fuel (AX listed i) (BQ T o.dst v) s'
    | .skip=>JB fuel (AX listed i) (BQ T o.dst undef) s'
    | _=>False) (fun _ _=>False))∧
   (Region.wanted o (yielded ops T)=true→X i=false→lp P (execOp (Bm T) o) (Bh D s) (fun nx s'=>match nx with
    | .value v=>JB fuel (AX listed i) (BQ T o.dst v) (BP D s s')
    | .skip=>JB fuel (AX listed i) (BQ T o.dst undef) (BP D s s')
    | _=>False) (fun _ _=>False))
variable {J Q b ds ops k cs X D}
theorem JB.sound(U:b.kind≠ .early):∀(fuel t:Nat) (listed:Array Bool) (T:Array Value) (s:St),JB J Q b ds ops k cs X D fuel listed T s→
  J.ok Q (G (fr b T ds (.inRegion ops (Region.linearise.go .any ops fuel t listed [])::k)) cs) s:=by
 intro fuel
 induction fuel with
 | zero=>intro t listed T s h;simpa [Region.linearise.go] using h.2
 | succ fuel K=>
  intro t listed T s h;obtain⟨ac,ae,h⟩:=h;obtain⟨i,hi⟩:∃i,(Region.ready .any ops listed)[t % (Region.ready .any ops listed).length]? =some i:=by
   have:0<(Region.ready .any ops listed).length:=List.length_pos_iff.2 ac;exact⟨_,List.getElem?_eq_getElem (Nat.mod_lt _ this)⟩
  have Z:=List.mem_of_getElem? hi;have hgo:Region.linearise.go .any ops (fuel+1) t listed []=i::Region.linearise.go .any ops fuel (t / (Region.ready .any ops listed).length) (AX listed i) []:=by
   simp only [Region.linearise.go];change (match(Region.ready .any ops listed)[t % (Region.ready .any ops listed).length]? with
    | some i=>Region.linearise.go .any ops fuel (t / (Region.ready .any ops listed).length) (listed.setIfInBounds i true) [i]
    | none=> [].reverse)=_
   rw [hi];simp only;rw [linearise_go_acc];rfl
  rw [hgo];obtain⟨_,o,O,_⟩:=mem_ready.1 Z;obtain⟨aa,ag,ah,ai⟩:=h i Z o O;cases hw:Region.wanted o (yielded ops T) with
  | false=>exact Judge.unwanted O hw (K _ _ _ _ (ag hw))
  | true=>
   cases ab:X i with
   | true=>
    refine Judge.oper O hw U (.inr aa) (B8 _ (ah hw ab) ?_ (fun _ _ h=>h.elim));intro nx s' A;cases nx with
    | value v=>exact K _ _ _ _ A
    | skip=>exact K _ _ _ _ A
    | _=>exact A.elim
   | false=>
    refine Judge.Nq D O hw U aa ae (B8 _ (ai hw ab) ?_ (fun _ _ h=>h));intro nx s' A;cases nx with
    | value v=>exact K _ _ _ _ A
    | skip=>exact K _ _ _ _ A
    | _=>exact A.elim
def waitAll(ops:Array Oper)(X:Nat→Bool)(i:Nat):Bool:=(List.range ops.size).all fun j=> !X j || waits ops ops.size j i
theorem JB.take{i:Nat}{oi:Oper}{w pure:Bool}{v:Value}(hi:ops[i]? =some oi)(aV:X i=false)(aM:(pure || waitAll ops X i)=true)(aW:Region.noSelect ops=true)(aX:∀c,oi.op≠ .defer c):
  ∀(fuel:Nat) (listed:Array Bool) (T:Array Value) (s:St),FA ops listed i oi=true→EF ops listed=true→listed.size=ops.size→i∈Region.ready .any ops listed→s.q=false→Region.wanted oi (yielded ops T)=w→
   (w=true→∀s',s'.q=false→(pure=false→∀x o,(Bh D s).E x=some o→s'.E x=some o)→Yl P oi (Bm T) s' v)→
   JB J Q b ds ops k cs X D fuel (AX listed i) (BQ T oi.dst (if w then v else undef)) s→JB J Q b ds ops k cs X D (fuel+1) listed T s:=by
 have ac:∀(j:Nat) (Z:Oper),ops[j]? =some Z→∀cs b,Z.op≠Op.select cs b:=fun j Z h cs b=>Region.noSelect_spec aW j Z cs b h;intro fuel
 induction fuel with
 | zero=>?_
 | succ fuel aj=>?_
 all_goals
  intro listed T s aN aO ak aA al hw ae h;refine⟨fun e=>(by rw [e] at aA;cases aA),al,fun j aP Z K=>?_⟩;by_cases am:j=i
  ·subst am;obtain rfl:Z=oi:=by rw [hi] at K;exact(Option.some.inj K).symm
   refine⟨aX,fun aD=>?_,fun ag A=>?_,fun ag A=>?_⟩
   ·rw [aD] at hw;subst hw;exact h
   ·rw [aV] at A;cases A
   ·rw [ag] at hw;subst hw;refine B8 _ (ae rfl (Bh D s) al fun _ _ _ h=>h).out ?_ (fun _ _ h=>h);rintro nx s' ⟨rfl,rfl⟩;rw [Hm];exact h
  ·
   have aQ:j∈Region.ready .any ops (AX listed i):=ready_mono aP am;obtain⟨ah,O,aR,aE⟩:=mem_ready.1 aP;obtain rfl:O=Z:=by rw [K] at aR;exact(Option.some.inj aR).symm
   have aF:=(mem_ready.1 aA).1;have aY:(O.after.any fun e=>Region.binds .any e&&e.on==i)=false:=by
    rw [Array.any_eq_false];intro e he A;simp only [Bool.and_eq_true,beq_iff_eq] at A;have:=aE _ (Array.getElem_mem he) A.1;rw [A.2] at this;have ai:listed.getD i true=listed.getD i false∨listed.size≤i:=by
     rcases Nat.lt_or_ge i listed.size with q | q
     ·left;simp [Array.getD_eq_getD_getElem?,q]
     ·exact .inr q
    rcases ai with ai | ai
    ·rw [aF,this] at ai;cases ai
    ·rw [Array.getD_eq_getD_getElem?,Array.getElem?_eq_none ai] at this;simp at this
   have aZ:oi.apart ops O=true:=by
    have aG:j<ops.size:=(Array.getElem?_eq_some_iff.1 K).1;have:=List.all_eq_true.1 aN j (List.mem_range.2 aG);simp only [Bool.or_eq_true,beq_iff_eq] at this;rcases this with(q | q) | q
    ·exact absurd q am
    ·rw [ah] at q;cases q
    ·rw [K] at q;simp only [Bool.or_eq_true] at q;rw [aY] at q;exact q.resolve_left (by simp)
   obtain⟨a0,an,ao⟩:=Oper.apart_spec aZ;obtain⟨p1,p2⟩:=EB (ops:=ops) (T:=T) (v:=if w then v else undef) (ac j O K) a0
   first
    | exact absurd aQ (by rw [h.1];simp)
    | (
     obtain⟨bb,_,h⟩:=h
     obtain⟨a1,aD,a2,a3⟩:=h j aQ O K
     have ap:AX (AX listed i) j=AX (AX listed j) i:=by
      unfold AX;exact Array.setIfInBounds_comm _ _ (Ne.symm am)
     have aq:i∈Region.ready .any ops (AX listed j):=ready_mono aA (Ne.symm am)
     have ar:FA ops (AX listed j) i oi=true:=by
      refine List.all_eq_true.2 fun x A=>?_
      have:=List.all_eq_true.1 aN x A
      simp only [Bool.or_eq_true,beq_iff_eq] at this ⊢
      rcases this with(q | q) | q
      ·exact .inl (.inl q)
      ·left;right
       by_cases e:j=x
       ·subst e;rw [ah] at q;cases q
       ·rw [AX,getD_set_ne true e];exact q
      ·exact .inr q
     have au:(AX listed j).size=ops.size:=by unfold AX;simpa using ak
     have av:EF ops (AX listed j)=true:=by
      refine List.all_eq_true.2 fun x A=>?_
      cases aH:ops[x]? with
      | none=>simp
      | some a4=>
       simp only [Bool.or_eq_true,Bool.not_eq_true']
       by_cases e:j=x
       ·subst e
        obtain rfl:a4=O:=by rw [K] at aH;exact(Option.some.inj aH).symm
        right
        refine Array.all_eq_true'.2 fun e he=>?_
        cases hb:Region.binds .any e with
        | false=>simp
        | true=>
         have:=aE e he hb
         by_cases aw:j=e.on
         ·rw [← aw] at this
          have aI:j<listed.size:=by rw [ak];exact(Array.getElem?_eq_some_iff.1 K).1
          simp [Array.getD_eq_getD_getElem?,aI] at this ah
          rw [ah] at this;cases this
         ·rw [AX,getD_set_ne false aw];simpa using this
       ·cases aS:(AX listed j).getD x false with
        | false=>exact .inl rfl
        | true=>
         right
         have a5:listed.getD x false=true:=by rw [AX,getD_set_ne false e] at aS;exact aS
         refine Array.all_eq_true'.2 fun aJ he=>?_
         cases hb:Region.binds .any aJ with
         | false=>simp
         | true=>
          have:=JJ aO aH a5 aJ he hb
          by_cases aw:j=aJ.on
          ·rw [← aw] at this
           have aI:j<listed.size:=by rw [ak];exact(Array.getElem?_eq_some_iff.1 K).1
           simp [Array.getD_eq_getD_getElem?,aI] at this ah
           rw [ah] at this;cases this
          ·rw [AX,getD_set_ne false aw];simpa using this
     refine⟨a1,fun a6=>?_,fun aK aB=>?_,fun aK aB=>?_⟩
     ·have:=aD (by rw [p2];exact a6)
      rw [ap,Fv an] at this
      obtain⟨q1,q2⟩:=EB (ops:=ops) (T:=T) (d:=O.dst) (v:=undef) (o:=oi) (ac i oi hi) ao
      exact aj _ _ _ ar av au aq al (by rw [q2];exact hw) (fun U s' a7 aC=>by unfold Yl;rw [q1];exact(ae U s' a7 aC).out) this
     ·
      have a8:pure=true:=by
       cases a9:pure with
       | true=>rfl
       | false=>
        exfalso
        rw [a9,Bool.false_or] at aM
        have aG:j<ops.size:=(Array.getElem?_eq_some_iff.1 K).1
        have ag:=List.all_eq_true.1 aM j (List.mem_range.2 aG)
        rw [aB] at ag
        simp only [Bool.not_true,Bool.false_or] at ag
        rcases Lz aO _ j O K (fun e he hb=>aE e he hb) ag with q | ⟨x,q1,q2⟩
        ·have ba:i<listed.size:=by rw [ak];exact(Array.getElem?_eq_some_iff.1 hi).1
         simp [Array.getD_eq_getD_getElem?,ba] at q aF
         rw [aF] at q;cases q
        ·have:¬x<listed.size:=by rw [ak];intro A;simp [A] at q1
         simp [Array.getD_eq_getD_getElem?,this] at q2
      have ay:=Jy _ (a2 (by rw [p2];exact aK) aB)
      rw [p1] at ay
      refine B8 _ ay ?_ (fun _ _ h=>h)
      rintro nx s' ⟨A,aC,aL⟩
      have az:s'.q=false:=aL.trans al
      have aT:pure=false→∀{α:Prop},α:=fun e=>by rw [a8] at e;cases e
      cases nx with
      | value u=>
       simp only at A ⊢
       rw [ap,Fv an] at A
       obtain⟨q1,q2⟩:=EB (ops:=ops) (T:=T) (d:=O.dst) (v:=u) (o:=oi) (ac i oi hi) ao
       exact aj _ _ _ ar av au aq az (by rw [q2];exact hw) (fun U s2 aa ab=>by unfold Yl;rw [q1];exact(ae U s2 aa (fun e=>aT e)).out) A
      | skip=>
       simp only at A ⊢
       rw [ap,Fv an] at A
       obtain⟨q1,q2⟩:=EB (ops:=ops) (T:=T) (d:=O.dst) (v:=undef) (o:=oi) (ac i oi hi) ao
       exact aj _ _ _ ar av au aq az (by rw [q2];exact hw) (fun U s2 aa ab=>by unfold Yl;rw [q1];exact(ae U s2 aa (fun e=>aT e)).out) A
      | _=>exact A.elim
     ·have ay:=Jy _ (a3 (by rw [p2];exact aK) aB)
      rw [p1] at ay
      refine B8 _ ay ?_ (fun _ _ h=>h)
      rintro nx s' ⟨A,aC,aL⟩
      have aU:=LC (D:=D) aC
      have az:(BP D s s').q=false:=by show s'.q=false;rw [aL];exact al
      cases nx with
      | value u=>
       simp only at A ⊢
       rw [ap,Fv an] at A
       obtain⟨q1,q2⟩:=EB (ops:=ops) (T:=T) (d:=O.dst) (v:=u) (o:=oi) (ac i oi hi) ao
       exact aj _ _ _ ar av au aq az (by rw [q2];exact hw) (fun U s2 aa ab=>by unfold Yl;rw [q1];exact(ae U s2 aa (fun e=>by rw [aU] at ab;exact ab e)).out) A
      | skip=>
       simp only at A ⊢
       rw [ap,Fv an] at A
       obtain⟨q1,q2⟩:=EB (ops:=ops) (T:=T) (d:=O.dst) (v:=undef) (o:=oi) (ac i oi hi) ao
       exact aj _ _ _ ar av au aq az (by rw [q2];exact hw) (fun U s2 aa ab=>by unfold Yl;rw [q1];exact(ae U s2 aa (fun e=>by rw [aU] at ab;exact ab e)).out) A
      | _=>exact A.elim)
end
section
variable {P:Program}(J:Judge P)(Q:Goroutine→St→Prop)(b:Frame)(n:Nat)(ds:List Deferred)(ops:Array Oper)(k:List Item)(cs:List Frame)(X D:Nat→Bool)
def Fs(fuel:Nat)(listed:Array Bool)(L:Env)(s:St):Prop:=∀T,Has n L T→JB J Q b ds ops k cs X D fuel listed T s
end
def Jt(ops:Array Oper)(listed:Array Bool)(xs:List Nat)(pure:Bool)(i:Nat):Bool:=match ops[i]? with
 | some oi=> !AH xs i&&(pure || waitAll ops (AH xs) i)&&Region.noSelect ops&& !Ci oi.op&&FA ops listed i oi&&EF ops listed&&listed.size==ops.size&&(Region.ready .any ops listed).contains i
 | none=>false
section
variable {P:Program}{J:Judge P}{Q:Goroutine→St→Prop}{b:Frame}{n:Nat}{ds:List Deferred}{ops:Array Oper}{k:List Item}{cs:List Frame}{fuel:Nat}{X D:Nat→Bool}{listed:Array Bool}{L:Env}{s:St}{E H:LH}{S:List Seg}{xl bks:List Nat}
variable {d:Option Tmp}{x y:Operand}{t u ty e:TypeId}{p:String}{af:Array Edge}{g:Option (Nat×Bool)}{v:Value}{i:Nat}{kd:IntKind}
theorem JB.draw(xl bks:List Nat){id:Nat}(hm:P.follows .mixedOrders=true)(A:(b.kind != .early)=true)
  (h:Fs J Q b n ds ops k cs (AH xl) (AH bks) ops.size (Array.replicate ops.size false) L (Ap E H S)):JL J Q b n L ds (.code (.region id ops true)::k) cs (Ap E H S):=
 JL.draw rfl hm fun t T K=>JB.sound (by simpa using A) ops.size t _ T _ (h T K)
theorem JB.val{oi:Oper}(i:Nat)(pure:Bool)(hi:ops[i]? =some oi)(A:Jt ops listed xl pure i=true)(U:s.q=false)
  (hw:AT L ops oi=some true) (Z:Bd n oi.dst=true) (aa:∀ρ,CU L ρ→∀s':St,(pure=false→∀x o,(Bh D s).E x=some o→s'.E x=some o)→Yl P oi ρ s' v)
  (h:Fs J Q b n ds ops k cs (AH xl) D fuel (AX listed i) (AJ L oi.dst v) s):Fs J Q b n ds ops k cs (AH xl) D (fuel+1) listed L s:=fun T K=>by
 simp only [Jt,hi,Bool.and_eq_true] at A
 obtain⟨⟨⟨⟨⟨⟨⟨ab,ac⟩,ae⟩,O⟩,ag⟩,ah⟩,ai⟩,aj⟩:=A
 refine JB.take (w:=true) (v:=v) (pure:=pure) hi (by simpa using ab) ac ae (fun c A=>by rw [A] at O;simp [Ci] at O) fuel listed T s ag ah (by simpa using ai) (by simpa using aj) U (B4 K hw) (fun _ s' al ak=>aa _ K.Eh s' ak) ?_
 exact h _ (K.put Z v)
theorem JB.fin(A:Region.ready .any ops listed= [])(h:JL J Q b n L ds k cs s):Fs J Q b n ds ops k cs X D 0 listed L s:=fun T K=>⟨A,JL.done h T K⟩
theorem JB.store{A off:Nat}{c:Array Value}(i j:Nat)(U:Region.ready .any ops listed= [i])(ac:AH xl i=true)(ae:ops[i]? =some ⟨d,.store t x y,ty,p,af,g⟩)(hw:AT L ops ⟨d,.store t x y,ty,p,af,g⟩=some true)(ag:Bd n d=true)(ah:Ay E H S)
  (ai:ev L x=some (.pointer (some ⟨A,off,none⟩))) (aj:ev L y=some v) (ak:Bq P t=some v.cells.size) (al:∀u∈v.cells.toList,BB u=true) (Z:S[j]? =some [(A,.cells c e (0,0))]) (hle:off+v.cells.size≤c.size)
  (h:Ay E H (S.set j [(A,.cells (A5 c off v.cells.toList) e (0,0))])→Fs J Q b n ds ops k cs (AH xl) D fuel (AX listed i) (AJ L d undef) (Ap E H (S.set j [(A,.cells (A5 c off v.cells.toList) e (0,0))]))):
  Fs J Q b n ds ops k cs (AH xl) D (fuel+1) listed L (Ap E H S):=fun T K=>by
 refine⟨by rw [U];simp,rfl,fun av O o' aa=>?_⟩
 rw [U] at O
 simp at O
 subst O
 obtain rfl:o'=⟨d,.store t x y,ty,p,af,g⟩:=by rw [ae] at aa;exact(Option.some.inj aa).symm
 have am:=B4 K hw;refine⟨fun c an=>(by cases an),fun e=>?_,fun _ _=>?_,fun _ e=>?_⟩
 ·rw [am] at e;cases e
 ·obtain⟨ao,ap⟩:=Ed ah Z;rw [ao];show lp P (do Instr.storeAt t (Bm T x) (Bm T y);pure Next.skip) _ _ _
  rw [K.ev ai,K.ev aj];refine AB _ _ ?_;unfold Instr.storeAt;simp only [Instr.sureAddr,bind,Sem.bind,pure];refine JM (pl:=(S.set j []).flatten.length) ak al ap (c:=c) (e:=e) (by simp) hle fun ab=>?_;have aq:((S.set j []).flatten++ [(A,Obj.cells c e (0,0))]).set (S.set j []).flatten.length (A,.cells (A5 c off v.cells.toList) e (0,0))=(S.set j []).flatten++ [(A,.cells (A5 c off v.cells.toList) e (0,0))]:=Fx _ _ _ _;rw [aq] at ab ⊢;obtain⟨ar,au⟩:=Fc Z ab;rw [ar];exact h au _ (K.put ag undef)
 ·rw [ac] at e;cases e
end
end Pal
namespace Pal
open Go Go.Conc
theorem PW{E H:LH}{S:List Seg}{bks:List Nat}{A o:Nat}{l ws:List Value}{e:TypeId}{f:Nat×Nat}{s':St}{w:Value}(j:Nat)(K:Ay E H S)(O:S[j]? =some [(A,.cells (l++ws).toArray e f)])(U:AH bks A=true)(hs:∀x o,(Bh (AH bks) (Ap E H S)).E x=some o→s'.E x=some o)(Z:ws[o]? =some w):s'.cell? ⟨A,l.length+o,none⟩=some w:=by
 have:=J1 j K O U hs o w Z
 rwa [Bi rfl] at this
section
variable {P:Program}{E H:LH}{B:List (Nat×Obj)}{t e ty:TypeId}
theorem Pd{ats:Array TypeId}{a:Option Addr}{l A K m cx:Nat}{ax:Option Addr}{xs ys:List Value}{z:Value}{Q:Value→St→Prop}{X:Halt→St→Prop}
  (am:ats[0]? =some t) {t1 an:TypeId} (ao:ats[1]? =some t1) (ap:P.underlying t1=some (.slice an)) (ht:P.underlying t=some (.slice e)) (aq:Bq P e=some A) (hb:C9 P e=some K) (ar:zeroOf P e=some z) (au:z.cells.size=A)
  (av:Nd E H B) (ac:EI (mk E H B) (.slice a l l) A xs)
  (Z:EI (mk E H B) (.slice ax m cx) A ys) (aF:∀w∈ys,BB w=true) (aG:0<K) (aH:l+m≤2 ^ 40) (aw:K≤64)
  (ak:m=0→Q (.slice a (l+m) l) (mk E H B))
  (ay:∀r aa ae,l+m≤ae→aa.size=ae*A→aa.toList.take ((l+m)*A)=xs++ys→Nd E H (B++ [(r,.cells aa e (0,0))])→Q (.slice (some ⟨r,0,none⟩) (l+m) ae) (mk E H (B++ [(r,.cells aa e (0,0))]))):
  lp P (Builtin.append_ ats ty #[.slice a l l,.slice ax m cx]) (mk E H B) Q X:=by
 unfold Builtin.append_;simp only [am,ao,List.getElem?_toArray,List.getElem?_cons_zero,List.getElem?_cons_succ];refine AB _ _ (Cd ht ?_);refine AB _ _ (Dg aq ?_);refine AB _ _ (Cd ap ?_);simp only [EV,Bool.false_eq_true,if_false,Builtin.lenOf,Bool.not_false,if_true];have ab:ys.length=m*A:=by
  cases ax with
  | none=>obtain⟨O,U⟩:=Z;subst O U;simp
  | some ad=>exact Z.2.1
 have ag:xs.length=l*A:=by
  cases a with
  | none=>obtain⟨O,U⟩:=ac;subst O U;simp
  | some ad=>exact ac.2.1
 obtain⟨c,aI⟩:∃c,c=l:=⟨_,rfl⟩;split
 ·rename_i aJ;have hm:m=0:=by omega
  have az:ys= []:=List.eq_nil_of_length_eq_zero (by rw [ab,hm];simp);refine AB _ _ (GB ⟨ax,cx,rfl⟩ Z ?_);subst az;cases a with
  | none=>exact ak hm
  | some ad=>exact ak hm
 ·rename_i aK;have O:¬(((l+m:Nat):Int)>IntKind.i64.max∧(False∨K=0)):=by rintro⟨_,h | h⟩ <;> omega
  have U:¬(Builtin.nextslicecap (l+m) l*K>2 ^ 48):=by
   have:=LI (need:=l+m) (old:=l) (by omega);have aL:Builtin.nextslicecap (l+m) l*K≤(2*(l+m)+768)*64:=Nat.mul_le_mul this aw;omega
  obtain⟨inf,ah,ai⟩:=Ih hb;refine AB _ _ (FT ah ?_);rw [ai,if_neg O];refine AB _ _ (FT ah ?_);rw [ai,if_neg U];refine AB _ _ ?_;simp only [choose,lp,Question.forced,Bool.false_eq_true,if_false];refine⟨rfl,fun aA=>?_⟩;generalize aB:(Question.appendCap (l+m) l e).cut aA=aj;have aC:l+m≤aj:=by rw [← aB];simp [Question.cut]
  refine AB _ _ (FT ah ?_);rw [ai];have aD:∀{α:Type} {f:Unit→Sem α} {Q:α→St→Prop},lp P (f ()) (mk E H B) Q X→lp P (askRoom (aj*K)>>=f) (mk E H B) Q X:=by
   intro α f Q al;refine AB _ _ ?_;unfold askRoom;split
   ·exact⟨.inl ⟨rfl,rfl⟩,al⟩
   ·exact al
  refine aD ?_;refine AB _ _ (GB ⟨a,l,rfl⟩ ac ?_);refine AB _ _ (GB ⟨ax,cx,rfl⟩ Z ?_);refine AB _ _ (D7 ar ?_);refine AB _ _ (EX av fun r aE=>?_);refine ay r _ aj aC ?_ ?_ aE
  ·simp only [Array.size_append,List.size_toArray,Lr,au,ag,ab];rw [← Nat.add_mul,← Nat.add_mul];congr 1;omega
  ·simp only [Array.toList_append];rw [List.take_append_of_le_length (by simp [ag,ab,Nat.add_mul])];rw [List.take_of_length_le (by simp [ag,ab,Nat.add_mul])]
end
theorem Ao.spot{α:Type}{pp:Rp α}{E:LH}{a:Option Addr}{c:Nat}{xs:List α}(h:Ao pp E a c xs):∀ad,a=some ad→ad.spot=none∨c=0:=fun ad A=>by
 rcases h.2 with⟨_,h⟩ | ⟨K,off,h,_⟩
 ·exact h ad A
 ·rw [h] at A;cases A;exact .inl rfl
theorem Ao.full{α:Type}{pp:Rp α}{E:LH}{a:Option Addr}{c:Nat}{xs:List α}(h:Ao pp E a c xs):Ao pp E a xs.length xs:=⟨Nat.le_refl _,h.2.imp (fun⟨h,_⟩=>⟨h,fun _ _=> .inr (by rw [h];rfl)⟩) id⟩
theorem Ao.Ni{α:Type}{pp:Rp α}{E H:LH}{B:List (Nat×Obj)}{a:Option Addr}{c:Nat}{ys:List α}(aa:Ao pp E a c ys):
  ∃A:List (List Value),A.length=ys.length∧(∀(i:Nat) x ws,ys[i]? =some x→A[i]? =some ws→pp.r E ws x)∧EI (mk E H B) (.slice a ys.length c) pp.n A.flatten∧∀w∈A.flatten,BB w=true:=by
 obtain⟨A,O,Z,U⟩:=aa.rows;have ab:=FW O Z;refine⟨A,O,Z,?_,fun w hw=>?_⟩
 ·rcases U with⟨U,aj⟩ | ⟨ak,off,rfl,U⟩
  ·subst U;have:A= []:=List.eq_nil_of_length_eq_zero O;subst this;cases a with
   | none=>exact⟨rfl,rfl⟩
   | some ad=>exact⟨.inr rfl,by simp,Nat.zero_le _,fun q w K=>by simp at K⟩
  ·refine⟨.inl rfl,by rw [Ib ab,O],aa.1,fun q w K=>?_⟩;obtain⟨q1,m,ws,ac,ae,ag⟩:=JK ab K;have:=(U q1 ws ac).cell (H:=H) (B:=B) ae;subst ag;rw [← Nat.add_assoc];exact this
 ·obtain⟨us,ah,hw⟩:=List.mem_flatten.1 hw;obtain⟨q,K⟩:=List.mem_iff_getElem?.1 ah;have ai:q<ys.length:=by rw [← O];exact(List.getElem?_eq_some_iff.1 K).1
  exact pp.one (Z q _ us (List.getElem?_eq_getElem ai) K) w hw
theorem Tc{P:Program}{s:St}{t:TypeId}{a b:Bool}(ht:P.underlying t=some .bool){Q:Bool→St→Prop}{X:Halt→St→Prop}(h:Q (a==b) s):lp P (Op.equal t (.bool a) (.bool b)) s Q X:=by
 unfold Op.equal Op.maxDepth Op.equalIn;exact AB _ _ (Cd ht h)
theorem Yl.Uz{P:Program}{s:St}{ρ:Operand→Value}{x y:Operand}{d:Option Tmp}{t u ty:TypeId}{p:String}{af:Array Edge}{g:Option (Nat×Bool)}{a b:Bool}(ht:P.underlying t=some .bool)(A:ρ x= .bool a)(K:ρ y= .bool b):Yl P ⟨d,.binOp .neq t x y u,ty,p,af,g⟩ ρ s (.bool (a != b)):=by
 refine Yl.Ds (sm:=do eqGuard .neq t x y (ρ x) (ρ y);binOp .neq t (ρ x) (ρ y)) rfl ?_
 rw [A,K];have O:lp P (eqGuard .neq t x y (.bool a) (.bool b)) s (fun _ s'=>s'=s) (fun _ _=>False):=by simp [eqGuard,lp,pure]
 refine AB _ _ (B8 _ O ?_ (fun _ _ h=>h));rintro _ _ rfl;have hb:binOp .neq t (.bool a) (.bool b)=(do pure (.bool (!(← Op.equal t (.bool a) (.bool b))))):=rfl
 rw [hb];exact AB (x:=Op.equal t (.bool a) (.bool b)) _ (Tc ht ⟨rfl,rfl⟩)
section
variable {P:Program}{J:Judge P}{Q:Goroutine→St→Prop}{b:Frame}{n:Nat}{ds:List Deferred}{ops:Array Oper}{k:List Item}{cs:List Frame}{L:Env}{s:St}{E E' H:LH}{S:List Seg}
variable {d:Option Tmp}{x y z1:Operand}{t u ty e:TypeId}{p:String}{af:Array Edge}{g:Option (Nat×Bool)}{v:Value}{i:Nat}{rest:List Nat}{kd:IntKind}{ρ:Operand→Value}
theorem Yl.RG{a:Option Addr}{l c A:Nat}(K:∀ad,a=some ad→ad.spot=none∨c=0)(O:l≤c)(ht:P.underlying t=some (.slice e))(U:Bq P e=some A)(Z:ρ x= .slice a l c)(aa:ρ y=iV (l:Int))(ab:ρ z1=iV (l:Int)):
  Yl P ⟨d,.slice t x none (some y) (some z1),ty,p,af,g⟩ ρ s (.slice a l l):=by
 have h:=Yl.slice (P:=P) (s:=s) (d:=d) (ty:=ty) (p:=p) (af:=af) (g:=g) (olo:=none) (ohi:=some y) (omx:=some z1) (lo:=0) (hi:=l) (mx:=l) ht U Z ab aa rfl O (Nat.le_refl _) (Nat.zero_le _);have ac:(if l=0 then a else a.map (·.add (0*A)))=a:=by
  split
  ·rfl
  ·cases a with
   | none=>rfl
   | some ad=>
    have:=(K ad rfl).resolve_right (by omega);simp only [Option.map_some,Nat.zero_mul];rw [Bi this];obtain⟨b,o,sp⟩:=ad;simp only at this;subst this;simp
 rw [ac] at h;simpa using h
theorem JS.RP{α:Type}{pp:Rp α}{t1:TypeId}{U c cx:Nat}{a ax:Option Addr}{xs ys Z:List α}{ats:Array TypeId}{z:Value}(O:C7 xs ys=some Z)
  (aj:ops[i]? =some ⟨d,.call ⟨.builtin .append,#[x,y],ats⟩,ty,p,af,g⟩) (hw:AT L ops ⟨d,.call ⟨.builtin .append,#[x,y],ats⟩,ty,p,af,g⟩=some true) (ak:BR b n ⟨d,.call ⟨.builtin .append,#[x,y],ats⟩,ty,p,af,g⟩=true)
  (al:ev L x=some (.slice a xs.length xs.length)) (am:ev L y=some (.slice ax ys.length cx)) (an:ats[0]? =some t) (ao:ats[1]? =some t1) (ht:P.underlying t=some (.slice e)) (ap:P.underlying t1=some (.slice e)) (aq:Bq P e=some pp.n) (hb:C9 P e=some U) (ar:zeroOf P e=some z) (au:z.cells.size=pp.n)
  (av:0<U) (aw:U≤64) (aa:Ao pp E a c xs) (ay:Ao pp E ax cx ys) (ab:Ay E H S)
  (h:∀E' ac A,Le E E'→Ao pp E' ac A Z→Ay E' H (S++ [[]])→JL J Q b n (AJ L d (.slice ac Z.length A)) ds (.inRegion ops rest::k) cs (Ap E' H (S++ [[]]))):
  JL J Q b n L ds (.inRegion ops (i::rest)::k) cs (Ap E H S):=by
 unfold C7 at O;split at O
 rotate_left
 ·cases O
 rename_i az;cases O;obtain⟨wss,ae,aA,aB,aR⟩:=Ao.Ni (H:=H) (B:=S.flatten) aa.full;obtain⟨aC,aD,aE,aF,aG⟩:=Ao.Ni (H:=H) (B:=S.flatten) ay;have hlen:(xs++ys).length=xs.length+ys.length:=by simp
 show JL J Q b n L ds (.inRegion ops (i::rest)::k) cs (mk E H S.flatten);refine JL.op aj hw ak fun ρ ag=>?_;rw [H9,ag x _ al,ag y _ am];refine AB _ _ (Pd an ao ap ht aq hb ar au ab aB aF aG av az aw ?_ ?_)
 ·intro hm;have aH:ys= []:=List.eq_nil_of_length_eq_zero hm;subst aH;have aI:Ay E H (S++ [[]]):=by unfold Ay at*;rw [EC,List.append_nil];exact ab
  have aJ:mk E H S.flatten=Ap E H (S++ [[]]):=by unfold Ap;rw [EC,List.append_nil]
  rw [aJ];have:=h E a xs.length (Le.refl _) (by rw [List.append_nil];exact aa.full) aI;rw [hlen] at this;exact this
 ·intro r K A aK aL aM aN;have aO:OL e pp E (some ⟨r,0,none⟩) A [(r,.cells K e (0,0))] (xs++ys):=
   ⟨wss++aC,.inr ⟨r,K,rfl,rfl,aL,by rw [hlen];exact aK,by rw [hlen,List.flatten_append];exact aM.symm⟩,by simp [ae,aD],JR ae aA aE⟩
  have ah:=CS (S:=S) (seg:= [(r,.cells K e (0,0))]) aN;show JL J Q b n _ ds _ cs (mk E H (S.flatten++ [(r,.cells K e (0,0))]));rw [ah.1];refine JS.BJ S.length aO ah.2 (by simp) fun E' hle aP ai=>?_;have aQ:(S++ [[(r,Obj.cells K e (0,0))]]).set S.length []=S++ [[]]:=Fx _ _ _ _;rw [aQ] at ai ⊢;have:=h E' (some ⟨r,0,none⟩) A hle aP ai;rw [hlen] at this;exact this
end
end Pal
namespace Pal
open Go Go.Conc
open Go.ConcN (sumTo upd sumTo_upd upd_ne upd_same)
def Hw(P:Program)(R:Value→St→Prop):GP:=fun g s=>
 g.status= .running∧∃v,R v s∧∀w,stepG P true g w= .ended (.done v) w #[]
section
variable {P:Program}{R:Value→St→Prop}{J:Judge P}{n:Nat}{L:Env}{s:St}{b:Frame}
theorem JO.end{fn:Func}{t:Tmp}{v:Value}(A:b.kind= .normal)(hi:P.inits.idxOf? b.fn=none)(K:P.funcs[b.fn]? =some fn)(O:fn.results= #[.tmp t])(U:look L t=some v)(Z:R v s):JO J (Hw P R) b n L [] [] s:=fun T aa todo=>by
 refine J.stop ⟨rfl,v,Z,fun w=>?_⟩
 have e:results fn T=Sem.pure v:=by
  have:=aa.at_ t v U;simp only [results,O,Array.mapM_eq_mapM_toList];show Sem.pure (T.getD t undef)=_;rw [this]
 have ab:(results fn T).run P w= .ok v w:=by rw [e];rfl
 have ac:(results fn T).events P w #[]= #[]:=by rw [e];simp [Sem.events_pure']
 simp [G,stepG,unwind,CN,K,ab,ac,doReturn,A,GStep.after,hi,seen_none]
end
section
variable {P:Program}{R:Value→St→Prop}
def HN(P:Program)(R:Value→St→Prop)(A:World)(s₀:St)(v:Value)(w':World):Prop:=
 ∃s,R v s∧Fits s w'∧(∀b o,s₀.E b=some o→s.E b=some o)∧w'.tape=A.tape∧w'.os=A.os∧w'.output=A.output
def KN(P:Program)(R:Value→St→Prop)(A:World)(s₀:St)(K:Nat)(m:Machine)(t:Trace):Prop:=
 ∃gs w sl q Sh g s,m=crowd gs w sl∧El P gs w t q Sh g s∧Hw P R g s∧K=sumTo gs.size q∧(∀b o,s₀.E b=some o→s.E b=some o)∧w.tape=A.tape∧w.os=A.os∧w.output=A.output
theorem QI{ag:World}{s₀:St}(ak:Nat)(m:Machine)(t:Trace)(h:KN P R ag s₀ ak m t):
  (∃o w ops,stepT P m=(.ended o w,ops)∧Good P (HN P R ag s₀) m o w (t++ops))∨(∃m' ops al,stepT P m=(.next m',ops)∧al<ak∧KN P R ag s₀ al m' (t++ops)):=by
 obtain⟨gs,w,sl,q,Sh,g,s,rfl,hC,aB,rfl,am,an,ao,ap⟩:=h;obtain⟨aa,v,aq,ar⟩:=aB;have aC:∀x∈gs,awake x:=by
  intro x U;obtain⟨i,hi,rfl⟩:=Array.mem_iff_getElem.1 U;rcases Nat.eq_zero_or_pos i with rfl | ah
  ·have:gs[0]=g:=by simpa [Array.getElem?_eq_getElem hi] using hC.main
   rw [this];exact awake_of (.inl aa)
  ·exact awake_of ((hC.lv.old i _ ah (Array.getElem?_eq_getElem hi)).status.elim .inl fun x=> .inr (.inr x))
 obtain⟨i,x,d,au,hi,U,av⟩:=crowd_pick (P:=P) (w:=w) (sl:=sl) aC ⟨0,g,hC.main,aa⟩;have aw:=hC.at_ d;have aD:0<gs.size:=(Array.getElem?_eq_some_iff.1 hC.main).1;have aE:∀(a:Nat) (fn:FuncId) (pos:String),MemOp.ofEvents a fn pos #[]= #[]:=fun a fn pos=>by rw [ofEvents_eq];simp
 rcases Nat.eq_zero_or_pos i with rfl | ah
 ·obtain rfl:x=g:=by rw [hC.main] at hi;exact(Option.some.inj hi).symm
  have ab:=runT_many_ended (P:=P) (sl:=au) (i:=0) hi (show stepG P (0==0) x (w.at d)=_ from ar (w.at d));rw [aE] at ab;refine .inl ⟨_,_,_,av.trans ab,v,rfl,⟨s,aq,aw.BT.fits 0 aD,am,an,ao,ap⟩,?_,?_,⟨fun y A=>?_,rfl⟩,fun j y A K=>?_⟩
  ·simpa using hC.BT.clean
  ·simpa using hC.over
  ·obtain⟨j,K⟩:=List.mem_iff_getElem?.1 A;rw [List.getElem?_drop] at K;exact⟨_,(hC.lv.old (1+j) y (by omega) (by simpa [crowd] using K)).leaves⟩
  ·have Z:=hC.lv.old j y (by omega) A;exact⟨q j,by simp only [Array.append_empty];exact Z.hears w⟩
 ·have Z:=hC.lv.old i x ah hi;have aF:(i==0)=false:=by simp;omega
  have ay:i<gs.size:=(Array.getElem?_eq_some_iff.1 hi).1;cases ai:q i with
  | zero=>rw [ai] at Z;rw [Z.1] at U;cases U
  | succ k=>
   rw [ai] at Z;rcases Z with⟨aG,_⟩ | ⟨_,x',es,hm,aH,aI⟩
   ·rw [aG] at U;cases U
   have aM:sumTo gs.size (upd q i k)+(k+1)=sumTo gs.size q+k:=by
    have:=sumTo_upd q k id ay;simpa [ai] using this
   have ab:=runT_crowd_go (P:=P) (sl:=au) (i:=i) hi (by rw [aF];exact aH (w.at d));have aj:((gs.map (woken P x x' (w.at d))).setIfInBounds i x').size=gs.size:=by simp
   have ac:∀op∈MemOp.ofEvents i x.frame.fn x.frame.place es,op.g=i:=fun op O=>by obtain⟨e,_,rfl⟩:=mem_ofEvents O;rfl
   have az:∀op∈MemOp.ofEvents i x.frame.fn x.frame.place es,op.act.touch? =none:=fun op O=>by obtain⟨e,he,rfl⟩:=mem_ofEvents O;exact touch_mute (hm e he)
   have aJ:El P ((gs.map (woken P x x' (w.at d))).setIfInBounds i x') (w.at d) (t++MemOp.ofEvents i x.frame.fn x.frame.place es) (upd q i k) Sh g s:=by
    refine⟨?_,⟨fun j y K A=>?_,fun j K=>?_⟩,?_,?_,?_⟩
    ·have aK:i≠0:=by omega
     rw [Array.getElem?_setIfInBounds_ne aK,Array.getElem?_map,hC.main];simp [woken_run aa]
    ·by_cases ae:i=j
     ·subst ae;rw [Array.getElem?_setIfInBounds_self_of_lt (by simpa using ay)] at A;obtain rfl:=Option.some.inj A;rw [upd_same,Deaf_own];exact aI
     ·rw [Array.getElem?_setIfInBounds_ne ae,Array.getElem?_map] at A;obtain⟨z,aL,rfl⟩:=Option.map_eq_some_iff.1 A;have aA:=hC.lv.old j z K aL;rw [woken_quitsD aA,upd_ne q k (Ne.symm ae),Deaf_other t ae _ ac];exact aA
    ·rw [Deaf_other t (g':=i) (by simp at K;omega) _ ac];exact hC.lv.above j (by simpa using K)
    ·rw [aj];exact aw.BT.mute ac az (fun op O=>by obtain⟨e,he,rfl⟩:=mem_ofEvents O;exact low_mute (hm e he) _) rfl
    ·exact handedOver_app hC.over fun op O=> .inr (az op O)
    ·rw [Deaf_other t (by omega) _ ac];exact hC.hears
   exact .inr ⟨_,_,_,av.trans ab,by rw [← aj];rw [aj];omega,_,_,_,_,_,_,_,rfl,aJ,⟨aa,v,aq,ar⟩,rfl,am,an,ao,ap⟩
theorem ends{gs:Array Goroutine}{w:World}{sl:Option (Nat×Nat)}{t:Trace}{q:Nat→Nat}{Sh:Nat→Prop}{g:Goroutine}{s:St}(hC:El P gs w t q Sh g s)(K:Hw P R g s):
  ∃N last o w' A,runNT P (N+1) (crowd gs w sl) t=(.ended o w',A)∧runN P N (crowd gs w sl)= .next last∧step P last= .ended o w'∧Good P (HN P R w s) last o w' A:=
 run_of_inv Nat.lt_wfRel.wf (KN P R w s) (Good P (HN P R w s)) QI _ _ _ ⟨gs,w,sl,q,Sh,g,s,rfl,hC,K,rfl,fun _ _ h=>h,rfl,rfl,rfl⟩
theorem Py{m m':Machine}{t A:Trace}{n:Nat}(h:runNT P n m t=(.next m',A)):runN P n m= .next m':=by rw [← runNT_fst P n m t,h]
def DC(W:World):St:=⟨fun b=>W.heap[b]?,fun _=>none,false⟩
theorem QQ{W:World}{g:Goroutine}(h:(Cr P).ok (Hw P R) g (DC W)):
  ∃M last o w' A,runNT P (M+1) (solo g W) #[]=(.ended o w',A)∧runN P M (solo g W)= .next last∧step P last= .ended o w'∧Good P (HN P R W (DC W)) last o w' A:=by
 have hC:El P #[g] W #[] (fun _=>0) (fun _=>False) g (DC W):=by
  have U:∀{i:Nat} {a:Touch},touchAt #[] i=some a→False:=fun {i a} h=>by simp [touchAt,Trace.act?] at h
  refine⟨rfl,leavers_one P g,⟨fun i hi=>?_,fun i j hi aa aB=>by simp at hi aa;omega,fun i hi b hb=>hb.elim,fun b hb=>hb.elim,fun said=>?_,by simp,fun i _ b _ x a K=>(U K).elim,fun i _ b _ x a K=>(U K).elim⟩,fun i g ab=>by simp [Trace.g?] at ab,rfl⟩
  ·have:i=0:=by simp at hi;exact hi
   subst this;exact⟨fun b o O=>O,fun b o O=>(by cases O),fun b _=>rfl⟩
  ·rintro⟨i,j,_,⟨a,b,ac,_⟩,_⟩;simp [Trace.act?] at ac
 obtain⟨n,gs',w',ae,A,aC,aD,g',s',Z,ag,ah,ai,aj,ak,al⟩:=h #[g] W none #[] _ _ hC;obtain⟨N,last,o,am,an,k1,ao,ap,aq⟩:=ends (sl:=ae) ag ah;refine⟨n+N,last,o,am,an,?_,?_,ap,?_⟩
 ·rw [solo_eq_crowd,Nat.add_assoc,runNT_add,Z];exact k1
 ·have ar:=Py Z;rw [solo_eq_crowd,runN_add,ar];exact ao
 ·obtain⟨v,e,⟨s2,au,av,aw,ay,az,aA⟩,r⟩:=aq;exact⟨v,e,⟨s2,au,av,fun b o hb=>aw b o (ai b o hb),ay.trans aj,az.trans ak,aA.trans al⟩,r⟩
end
end Pal
namespace Pal
open Go Go.Conc
theorem PM{P:Program}{Q:Goroutine→St→Prop}{E H:LH}{f:FuncId}{fn:Func}{c:Code}{vs:List Value}(O:P.funcs[f]? =some fn)(hb:fn.body=some c)(aa:fn.ntmps=fn.ntmps)(ab:vs.length≤fn.ntmps)
  (h:JL (Cr P) Q (base f) fn.ntmps (DZ 0 vs) [] [.code c] [] (Ap E H [[]])):(Cr P).ok Q (G (Frame.enter P f vs.toArray .normal) []) (mk E H []):=by
 have he:Frame.enter P f vs.toArray .normal=fr (base f) (vs.toArray++Array.replicate (fn.ntmps - vs.length) undef) [] [.code c]:=by
  simp [Frame.enter,fr,O,hb,base];rfl
 rw [he];have U:mk E H []=Ap E H [[]]:=by unfold Ap;simp
 rw [U];refine h _ ⟨by simp;omega,fun t v ht=>?_⟩;obtain⟨_,A⟩:=GF ht;have Z:t<vs.length:=by
  rcases Nat.lt_or_ge t vs.length with K | K
  ·exact K
  ·simp at A;have:=(List.getElem?_eq_some_iff.1 A).1;omega
 rw [Array.getD_eq_getD_getElem?,Array.getElem?_append_left (by simpa using Z)];simp at A;simp [A]
end Pal
namespace Pal
open Go Go.Conc Go.Proofs Go.ChangeShapes Go.WideShapes Go.ChangeAt Go.RowKit
open Go.Proofs.YtboibffcmhheiaaGreatDoor (Rows.laid_errors_errorType)
theorem Tryz.own:ownKnob Tryz.prog.godebug=none:=by kernel_rfl
theorem Tryz.laidOut:laidOutB Tryz.prog=true:=by kernel_rfl
theorem Tryz.Tt:Tryz.prog.cellsOf 3=1:=by kernel_rfl
theorem Q7{W:World}{a:Addr}{len cap:Nat}{A:List Int}(U:a.spot=none)(ag:len≤cap)(ab:len≤A.length)(ac:∀i,i<A.length→W.cell? (a.add i)=some (.int .i64 (A.getD i 0))):
  Ao rI (DC W).E (some a) cap (A.take len)∧(A.take len).length=len:=by
 have aa:(A.take len).length=len:=by simp [Nat.min_eq_left ab]
 refine⟨⟨by omega,.inr ⟨a.block,a.off,?_,fun i x Z=>⟨[iV x],rfl,?_⟩⟩⟩,aa⟩
 ·obtain⟨b,o,s⟩:=a;simp only at U;subst U;rfl
 ·have hi:i<len:=by rw [← aa];exact(List.getElem?_eq_some_iff.1 Z).1
  have K:=ac i (by omega);have ae:A.getD i 0=x:=by
   rw [List.getElem?_take_of_lt hi] at Z;rw [List.getD_eq_getElem?_getD,Z];rfl
  rw [ae,Bi U] at K;unfold World.cell? at K;split at K
  ·rename_i c e f hW;simp only [Option.isSome_none,Bool.false_eq_true,if_false] at K;refine⟨c,e,f,hW,fun j w O=>?_⟩
   match j,O with
   | 0,O=>
    simp at O;subst O;show c[a.off+i*1+0]? =some (.int .i64 x);simpa using K
   | j+1,O=>simp at O
  ·cases K
theorem Pg{R:Value→St→Prop}{W w':World}{v:Value}(h:HN Tryz.prog R W (DC W) v w'):(∃s,R v s)∧Below W.heap.size W w':=by
 obtain⟨s,U,Z,aa,ht,ab,ac⟩:=h;have hb:∀k,k<W.heap.size→w'.heap[k]? =W.heap[k]? :=fun k K=>by
  have A:(DC W).E k=some W.heap[k]:=Array.getElem?_eq_getElem K;have O:=Z.e k _ (aa k _ A);rw [O,Array.getElem?_eq_getElem K]
 refine⟨⟨s,U⟩,⟨ab,ht,ac,?_,hb⟩⟩;rcases Nat.eq_zero_or_pos W.heap.size with ae | ae
 ·omega
 ·have A:=hb (W.heap.size - 1) (by omega);have ag:W.heap[W.heap.size - 1]? =some W.heap[W.heap.size - 1]:=Array.getElem?_eq_getElem (by omega);rw [ag] at A;have O:=(Array.getElem?_eq_some_iff.1 A).1;omega
noncomputable def L3(os:Os):World:=
 let w0:=World.holding Tryz.prog os ⟨#[],#[],[]⟩
 {w0 with heap:=w0.heap.modify 0 fun
   | .cells _ t frozen=> .cells #[.iface 240 (.agg #[.pointer (some ⟨1,149,none⟩)])] t frozen
   | o=>o}
theorem O9(os:Os)(args:Array Value):laidMetH Tryz.prog [("errors.errorType",Go.Proofs.YtboibffcmhheiaaGreatDoor.Rows.laid_errors_errorType)] ((L3 os).forCall (fun _ _=>0) ⟨#[],args,[]⟩).memory:=
 laidMetH_of_parts (laidMet_nil _ _) (by kernel_rfl)
end Pal
namespace Pal
open Go Go.Conc
theorem oi{α:Type}{a b:α}(h:some a=some b):a=b:=Option.some.inj h
theorem bs{α β:Type}{o:Option α}{f:α→Option β}{r:β}(h:o.bind f=some r):∃x,o=some x∧f x=some r:=bind_some h
def HD(L:Env):Env→List (Option Value)
 | []=> []
 | (t,_)::L'=>look L t::HD L L'
def HE:Env→List (Option Value)
 | []=> []
 | (_,v)::L'=>some v::HE L'
theorem Kk{L:Env}:∀{L':Env},HD L L'=HE L'→Sub L' L
 | [],_=>trivial
 | (t,v)::L',h=>by
  simp only [HD,HE,List.cons.injEq] at h
  exact⟨h.1,Kk h.2⟩
section
variable {P:Program}{J:Judge P}{Q:Goroutine→St→Prop}{b:Frame}{n:Nat}{L L':Env}{ds:List Deferred}{k k':List Item}{cs:List Frame}{s:St}{ops:Array Oper}{i:Nat}{rest:List Nat}{v:Value}
variable {d:Option Tmp}{op:Op}{ty:TypeId}{p:String}{af:Array Edge}{g:Option (Nat×Bool)}
theorem JL.wk(L':Env)(h:HD L L'=HE L')(k':JL J Q b n L' ds k cs s):JL J Q b n L ds k cs s:=JL.BU (Kk h) k'
theorem JL.kw(k':JL J Q b n L' ds k cs s)(h:HD L L'=HE L'):JL J Q b n L ds k cs s:=JL.BU (Kk h) k'
def FO(b:Frame)(n:Nat)(L:Env)(ops:Array Oper)(i:Nat):Option Oper:=
 match FK ops.toList i with
 | some ⟨d,op,ty,p,af,g⟩=>match AT L ops ⟨d,op,ty,p,af,g⟩ with
  | some true=>match BR b n ⟨d,op,ty,p,af,g⟩ with
   | true=>some ⟨d,op,ty,p,af,g⟩
   | false=>none
  | _=>none
 | none=>none
theorem Il{o:Oper}(h:FO b n L ops i=some o):ops[i]? =some o∧AT L ops o=some true∧BR b n o=true:=by
 unfold FO at h;split at h
 ·rename_i A;rw [GO,Array.getElem?_toList] at A;split at h
  ·rename_i hw;split at h
   ·rename_i K;cases h;exact⟨A,hw,K⟩
   ·cases h
  ·cases h
 ·cases h
theorem JL.Y(A:FO b n L ops i=some ⟨d,op,ty,p,af,g⟩)(h:∀ρ,CU L ρ→Yl P ⟨d,op,ty,p,af,g⟩ ρ s v)(K:JL J Q b n (AJ L d v) ds (.inRegion ops rest::k) cs s):
  JL J Q b n L ds (.inRegion ops (i::rest)::k) cs s:=
 let ⟨O,U,Z⟩:=Il A
 JL.y O U Z h K
theorem Aq.en{f:FuncId}{fn:Func}{c:Code}{E:LH}{vs:List Value}{B:Seg}{R:Value→LH→Seg→Prop}(K:P.funcs[f]? =some fn)(hb:fn.body=some c)(O:Nat.ble vs.length fn.ntmps=true)
  (h:∀(Q:Goroutine→St→Prop) (A:Frame) (cs:List Frame) (H:LH),Ay E H [B]→(∀v E' S' B',Le E E'→S'.flatten=B'→R v E' B'→Ay E' H S'→J.ok Q (G (A.finish v) cs) (Ap E' H S'))→JL J Q (base f) fn.ntmps (DZ 0 vs) [] [.code c] (A::cs) (Ap E H [B])):Aq J f vs E B R:=
 Aq.enter K hb (Nat.le_of_ble_eq_true O) h
def JC(n:Nat)(L:Env)(ops:Array Oper)(i:Nat):Option Env:=
 match FK ops.toList i with
 | some ⟨d,op,ty,p,af,g⟩=>match AT L ops ⟨d,op,ty,p,af,g⟩ with
  | some true=>match Bd n d with
   | true=>match Gs L op with
    | some v=>match d with
     | some d=>some ((d,v)::L)
     | none=>some L
    | none=>none
   | false=>none
  | some false=>match Bd n d with
   | true=>match d with
    | some d=>some ((d,undef)::L)
    | none=>some L
   | false=>none
  | none=>none
 | none=>none
def Gx(n:Nat)(L:Env)(ops:Array Oper)(i:Nat):Option Oper:=
 match FK ops.toList i with
 | some ⟨d,op,ty,p,af,g⟩=>match AT L ops ⟨d,op,ty,p,af,g⟩ with
  | some true=>match Bd n d with
   | true=>some ⟨d,op,ty,p,af,g⟩
   | false=>none
  | _=>none
 | none=>none
theorem Mc{o:Oper}(h:Gx n L ops i=some o):ops[i]? =some o∧AT L ops o=some true∧Bd n o.dst=true:=by
 unfold Gx at h;split at h
 ·rename_i A;rw [GO,Array.getElem?_toList] at A;split at h
  ·rename_i hw;split at h
   ·rename_i K;cases h;exact⟨A,hw,K⟩
   ·cases h
  ·cases h
 ·cases h
theorem QO(h:JC n L ops i=some L'):∃o,ops[i]? =some o∧Bd n o.dst=true∧((∃v,AT L ops o=some true∧Gs L o.op=some v∧L'=AJ L o.dst v)∨(AT L ops o=some false∧L'=AJ L o.dst undef)):=by
 unfold JC at h;split at h
 ·rename_i d op ty p af g K;rw [GO,Array.getElem?_toList] at K;refine⟨_,K,?_⟩;split at h
  ·rename_i hw;split at h
   ·rename_i A;refine⟨A,.inl ?_⟩;split at h
    ·rename_i v O;refine⟨v,hw,O,?_⟩;cases d with
     | none=>cases h;rfl
     | some d=>cases h;rfl
    ·cases h
   ·cases h
  ·rename_i hw;split at h
   ·rename_i A;refine⟨A,.inr ⟨hw,?_⟩⟩;cases d with
    | none=>cases h;rfl
    | some d=>cases h;rfl
   ·cases h
  ·cases h
 ·cases h
variable {m:Nat}{D:Nat→Bool}{fuel:Nat}{listed:Array Bool}
theorem JG.mv(i:Nat)(A:Du ops m=true)(K:s.q=false)(h:JC n L ops i=some L')
  (O:Av J Q b n ds ops k cs m D fuel (AX listed i) L' s) (U:EN ops listed m i=true:=by decide+kernel):Av J Q b n ds ops k cs m D (fuel+1) listed L s:=by
 obtain⟨o,Z,aa,⟨v,hw,ab,rfl⟩ | ⟨hw,rfl⟩⟩:=QO h
 ·exact JG.val i Z A U K hw aa (fun ρ ac s' _=>IB ac ab) O
 ·exact JG.no i Z A U K hw aa O
theorem JG.V(i:Nat)(A:Du ops m=true)(K:s.q=false)(O:Gx n L ops i=some ⟨d,op,ty,p,af,g⟩)
  (U:∀ρ,CU L ρ→∀s':St,(∀x o,(Bh D s).E x=some o→s'.E x=some o)→Yl P ⟨d,op,ty,p,af,g⟩ ρ s' v)
  (Z:Av J Q b n ds ops k cs m D fuel (AX listed i) (AJ L d v) s) (aa:EN ops listed m i=true:=by decide+kernel):Av J Q b n ds ops k cs m D (fuel+1) listed L s:=by
 obtain⟨ab,ac,ae⟩:=Mc O;exact JG.val i ab A aa K ac ae U Z
end
end Pal
namespace Pal
open Go Go.Conc
abbrev Jn(E H E':LH)(S:List Seg)(A L:Env)(s:St)(R:Prop):Prop:=L=A∧s=Ap E' H S∧Le E E'∧Ay E' H S∧R
abbrev Jm(E H E':LH)(S:List Seg)(A L:Env)(s:St):Prop:=L=A∧s=Ap E' H S∧Le E E'∧Ay E' H S
def Jp(L:Env):List ResultVar→Option (List Value)
 | []=>some []
 | .tmp t::rs=>match look L t with
  | some v=>match Jp L rs with
   | some vs=>some (v::vs)
   | none=>none
  | none=>none
 | _=>none
theorem Np{P:Program}{L:Env}{s:St}:∀{rs:List ResultVar} {vs:List Value},Jp L rs=some vs→RV P L s rs vs
 | [],vs,h=>by cases h;trivial
 | .tmp t::rs,vs,h=>by
  unfold Jp at h
  split at h
  ·rename_i v A
   split at h
   ·rename_i ws hw;cases h;exact⟨A,Np hw⟩
   ·cases h
  ·cases h
 | .cell _ _::_,_,h=>by cases h
section
variable {P:Program}{J:Judge P}{Q:Goroutine→St→Prop}{b:Frame}{n:Nat}{L L':Env}{ds:List Deferred}{k k':List Item}{cs:List Frame}{s:St}{ops:Array Oper}{i:Nat}{rest:List Nat}{v:Value}{E H:LH}{S:List Seg}
variable {d:Option Tmp}{op:Op}{x y:Operand}{t ft ty e:TypeId}{p:String}{af:Array Edge}{g:Option (Nat×Bool)}
theorem JL.rt{c:Frame}{fn:Func}{vs:List Value}(K:P.funcs[b.fn]? =some fn)(A:(b.kind== .normal&&b.roundOf.isNone)=true)(O:Jp L fn.results.toList=some vs)(h:J.ok Q (G (c.finish (IJ vs)) cs) s):JL J Q b n L [] (.code .ret::k) (c::cs) s:=by
 simp only [Bool.and_eq_true,beq_iff_eq,Option.isNone_iff_eq_none] at A;exact JL.ret A.1 A.2 (Bx.list K rfl (Np O)) h
theorem JS.cl{f:FuncId}{args:Array Operand}{ats:Array TypeId}{vs:List Value}{R:Value→LH→Seg→Prop}
  (K:Aq J f vs E [] R) (O:FO b n L ops i=some ⟨d,.call ⟨.value (.func f),args,ats⟩,ty,p,af,g⟩) (U:evs L args.toList=some vs) (hb:Cx P f=true)
  (Z:Ay E H S) (aa:∀v E' seg',Le E E'→R v E' seg'→Ay E' H (S++ [seg'])→JL J Q b n (AJ L d v) ds (.inRegion ops rest::k) cs (Ap E' H (S++ [seg']))):
  JL J Q b n L ds (.inRegion ops (i::rest)::k) cs (Ap E H S):=by
 obtain⟨ab,ac,A⟩:=Il O;refine JS.call K ab ac ?_ hb U Z aa;simp only [BR,Bool.and_eq_true] at A ⊢;exact⟨A.1,A.2.1⟩
theorem JS.BL{f:FuncId}{args:Array Operand}{ats:Array TypeId}{vs:List Value}{seg:Seg}{R:Value→LH→Seg→Prop}(j:Nat)
  (K:Aq J f vs E seg R) (O:FO b n L ops i=some ⟨d,.call ⟨.value (.func f),args,ats⟩,ty,p,af,g⟩) (U:evs L args.toList=some vs) (hb:Cx P f=true)
  (Z:Ay E H S) (aa:S[j]? =some seg) (ab:∀v E' seg',Le E E'→R v E' seg'→Ay E' H (S.set j seg')→JL J Q b n (AJ L d v) ds (.inRegion ops rest::k) cs (Ap E' H (S.set j seg'))):
  JL J Q b n L ds (.inRegion ops (i::rest)::k) cs (Ap E H S):=by
 obtain⟨ac,ae,A⟩:=Il O;refine JS.Kz j K ac ae ?_ hb U Z aa ab;simp only [BR,Bool.and_eq_true] at A ⊢;exact⟨A.1,A.2.1⟩
def I6(A:Array Field)(i:Nat):Option (Nat×TypeId):=match A[i]? with
 | some f=>some (f.offset,f.type)
 | none=>none
theorem JL.fd{K o O off:Nat}{U:Array Field}{Z:Nat}(ht:P.underlying t=some (.struct U))(aa:Bq P ft=some (O+1))(ab:FO b n L ops i=some ⟨d,.fieldAddr t x Z,ty,p,af,g⟩)(ac:ev L x=some (.pointer (some ⟨K,o,none⟩)))(A:I6 U Z=some (off,ft))
  (ae:JL J Q b n (AJ L d (.pointer (some ⟨K,o+off,none⟩))) ds (.inRegion ops rest::k) cs s):
  JL J Q b n L ds (.inRegion ops (i::rest)::k) cs s:=by
 unfold I6 at A;split at A
 ·rename_i f ag;cases A;refine JL.Y ab (fun ρ h=>Yl.OR (a:=⟨K,o,none⟩) O f.offset ht aa ag rfl rfl (h _ _ ac)) ?_;rw [Bi rfl];exact ae
 ·cases A
theorem JL.ld{A o:Nat}{ws:List Value}(j:Nat)(K:At E A o ws)(ht:CH P t=some false)(O:FO b n L ops i=some ⟨d,.load t x,ty,p,af,g⟩)(U:ev L x=some (.pointer (some ⟨A,o+j,none⟩)))(Z:ws[j]? =some v)
  (aa:JL J Q b n (AJ L d v) ds (.inRegion ops rest::k) cs (Ap E H S)):
  JL J Q b n L ds (.inRegion ops (i::rest)::k) cs (Ap E H S):=
 JL.Y O (fun _ h=>Yl.load ht (h _ _ U) (At.G4 K Z)) aa
theorem JS.st{A off:Nat}{c:Array Value}(j:Nat)(K:Ay E H S)(O:Bq P t=some v.cells.size)(U:FO b n L ops i=some ⟨d,.store t x y,ty,p,af,g⟩)
  (Z:ev L x=some (.pointer (some ⟨A,off,none⟩))) (aa:ev L y=some v) (ab:S[j]? =some [(A,.cells c e (0,0))])
  (h:Ay E H (S.set j [(A,.cells (A5 c off v.cells.toList) e (0,0))])→JL J Q b n (AJ L d undef) ds (.inRegion ops rest::k) cs (Ap E H (S.set j [(A,.cells (A5 c off v.cells.toList) e (0,0))])))
  (hle:off+v.cells.size≤c.size:=by exact Nat.le_of_ble_eq_true rfl) (ac:∀u∈v.cells.toList,BB u=true:=by simp [Value.cells,BB]):
  JL J Q b n L ds (.inRegion ops (i::rest)::k) cs (Ap E H S):=by
 obtain⟨ae,ag,ah⟩:=Il U;exact JS.store j ae ag ah K Z aa O ac ab hle h
theorem JL.Bj{A o:Nat}{ws:List Value}(K:At E A o ws)(ht:CH P t=some true)(O:Bq P t=some ws.length)(U:FO b n L ops i=some ⟨d,.load t x,ty,p,af,g⟩)(Z:ev L x=some (.pointer (some ⟨A,o,none⟩)))
  (aa:JL J Q b n (AJ L d (.agg ws.toArray)) ds (.inRegion ops rest::k) cs (Ap E H S)):
  JL J Q b n L ds (.inRegion ops (i::rest)::k) cs (Ap E H S):=
 JL.Y U (fun _ h=>Yl.Bs ht O (h _ _ Z) (At.Tr K)) aa
variable {m:Nat}{D:Nat→Bool}{fuel:Nat}{listed:Array Bool}
theorem JG.fd{K o O off:Nat}{U:Array Field}{Z:Nat}(i:Nat)(aa:Du ops m=true)(ht:P.underlying t=some (.struct U))(ab:Bq P ft=some (O+1))(ac:s.q=false)(ae:Gx n L ops i=some ⟨d,.fieldAddr t x Z,ty,p,af,g⟩)(ag:ev L x=some (.pointer (some ⟨K,o,none⟩)))(A:I6 U Z=some (off,ft))
  (ah:Av J Q b n ds ops k cs m D fuel (AX listed i) (AJ L d (.pointer (some ⟨K,o+off,none⟩))) s) (ai:EN ops listed m i=true:=by decide+kernel):Av J Q b n ds ops k cs m D (fuel+1) listed L s:=by
 unfold I6 at A;split at A
 ·rename_i f aj;cases A;refine JG.V i aa ac ae (fun ρ h _ _=>Yl.OR (a:=⟨K,o,none⟩) O f.offset ht ab aj rfl rfl (h _ _ ag)) ?_ ai;rw [Bi rfl];exact ah
 ·cases A
theorem JG.ld{A o:Nat}{ws:List Value}(i:Nat)(K:Du ops m=true)(j:Nat)(O:At (Bh D s).E A o ws)(ht:CH P t=some false)(U:s.q=false)(Z:Gx n L ops i=some ⟨d,.load t x,ty,p,af,g⟩)(aa:ev L x=some (.pointer (some ⟨A,o+j,none⟩)))(ab:ws[j]? =some v)
  (ac:Av J Q b n ds ops k cs m D fuel (AX listed i) (AJ L d v) s) (ae:EN ops listed m i=true:=by decide+kernel):Av J Q b n ds ops k cs m D (fuel+1) listed L s:=
 JG.V i K U Z (fun _ h _ hs=>Yl.load ht (h _ _ aa) (At.CO O hs ab)) ac ae
theorem JG.Bj{A o:Nat}{ws:List Value}(i:Nat)(K:Du ops m=true)(O:At (Bh D s).E A o ws)(ht:CH P t=some true)(U:Bq P t=some ws.length)(Z:s.q=false)(aa:Gx n L ops i=some ⟨d,.load t x,ty,p,af,g⟩)(ab:ev L x=some (.pointer (some ⟨A,o,none⟩)))
  (ac:Av J Q b n ds ops k cs m D fuel (AX listed i) (AJ L d (.agg ws.toArray)) s) (ae:EN ops listed m i=true:=by decide+kernel):Av J Q b n ds ops k cs m D (fuel+1) listed L s:=
 JG.V i K Z aa (fun _ h _ hs=>Yl.Bs ht U (h _ _ ab) (At.Ks O hs)) ac ae
end
end Pal
namespace Pal
open Go Go.Conc
abbrev A2:=List (List Int)×List (List Int)
abbrev Br:=List (List Int)×List (List Int)×List Nat
abbrev By:=Int×List Int×Nat
abbrev A3:=Int×Int×List By
abbrev AW:=List (Int×Int)
abbrev BS:=List Int×Int×Nat
abbrev Ar:=Option Addr
abbrev Ca:Rp By:=rP rI (rP (rL rI) (rN .u16))
abbrev BH:Rp A3:=rP rI (rP rI (rL Ca))
abbrev Bv:Rp (Int×Int):=rP rI rI
theorem ip{α:Type}{p:Prop} [Decidable p] {A B:Option α}{r:α}(h:(if p then A else B)=some r)(c:p):A=some r:=by rwa [if_pos c] at h
theorem im{α:Type}{p:Prop} [Decidable p] {A B:Option α}{r:α}(h:(if p then A else B)=some r)(c:¬p):B=some r:=by rwa [if_neg c] at h
theorem ib{α:Type}{c:Bool}{A B:Option α}{r:α}(h:(if c=true then A else B)=some r)(K:c=false):B=some r:=by subst K;simpa using h
def KM(n:Nat)(ops:Array Oper):List Nat→Nat→Env→Option (Nat×Env)
 | [],f,L=>some (f,L)
 | i::l,f+1,L=>match JC n L ops i with
  | some L'=>KM n ops l f L'
  | none=>none
 | _::_,0,_=>none
def Ku(ops:Array Oper)(m:Nat):Array Bool→List Nat→Bool
 | _,[]=>true
 | listed,i::l=>EN ops listed m i&&Ku ops m (AX listed i) l
def Ox:Array Bool→List Nat→Array Bool
 | listed,[]=>listed
 | listed,i::l=>Ox (AX listed i) l
theorem JG.ms{P:Program}{J:Judge P}{Q:Goroutine→St→Prop}{b:Frame}{n:Nat}{ds:List Deferred}{k:List Item}{cs:List Frame}{s:St}{ops:Array Oper}{m:Nat}{D:Nat→Bool}{L':Env}{O:Nat}(U:Du ops m=true)(Z:s.q=false):
  ∀(l:List Nat) {fuel:Nat} {listed:Array Bool} {L:Env},KM n ops l fuel L=some (O,L')→Av J Q b n ds ops k cs m D O (Ox listed l) L' s→(A:Ku ops m listed l=true:=by decide+kernel)→Av J Q b n ds ops k cs m D fuel listed L s
 | [],fuel,listed,L,h,K,_=>by cases h;exact K
 | i::l,fuel,listed,L,h,K,A=>by
  cases fuel with
  | zero=>cases h
  | succ fuel=>
   unfold Ku at A;rw [Bool.and_eq_true] at A;unfold KM at h;split at h
   ·rename_i aa e;exact JG.mv i U Z e (JG.ms U Z l h K A.2) A.1
   ·cases h
theorem zg{P:Program}{J:Judge P}{Q:Goroutine→St→Prop}{b:Frame}{n:Nat}{L L':Env}{ds:List Deferred}{k k':List Item}{cs:List Frame}{s:St}(m:Nat)(h:I1 b n m k L=some (k',L'))(A:JL J Q b n L' ds k' cs s):JL J Q b n L ds k cs s:=JL.go m h A
end Pal
namespace Pal
open Go Go.Conc Go.Proofs
end Pal
namespace Pal
open Go Go.Conc Go.Proofs
end Pal
namespace Pal
open Go Go.Conc Go.Proofs
open Go.Proofs.Tryz
variable {J:Judge Tryz.prog}{E:LH}
theorem mixed:Tryz.prog.follows .mixedOrders=true:=rfl
def f101(fuel:Nat)(p0:Int)(p1:Int)(p2:Int):Option (Bool):=
 Option.bind (
  if p0<p1 then(
   some true
  ) else(
   some (decide (p2<p0))
  )
 ) fun A=>
 some A
theorem Gk{p0:Int}{p1:Int}{p2:Int}{fuel:Nat}{r:Bool}(K:f101 fuel p0 p1 p2=some r):Aq J 101 [iV p0,iV p1,iV p2] E [] (fun w E' B'=>w= .bool r∧B'= []):=by
 refine Aq.en func101 rfl rfl fun Q ak cs H O ab=>?_;unfold f101 at K;obtain⟨ac,U,ae⟩:=bs K;refine zg 10 rfl ?_;refine JL.BI [8] (fun L s=>∃(Z:LH),Jm E H Z [] [(14,.bool ac)] L s) ?_ ?_
 ·rintro _ _ ⟨Z,rfl,rfl,ag,ah⟩;refine zg 2 rfl ?_;obtain rfl:=oi ae;refine JL.rt func101 rfl rfl ?_;exact ab _ _ _ _ ag rfl ⟨rfl,rfl⟩ ah
 ·intro aa;refine JL.BW (q:=p0<p1) (i:=10) rfl (fun A=>?_) (fun A=>?_)
  ·have ai:=ip U A;refine zg 4 rfl ?_;obtain rfl:=oi ai;exact JL.kw (aa _ _ ⟨E,rfl,rfl,(Le.refl _),O⟩) rfl
  ·have aj:=im U A;refine zg 4 rfl ?_;obtain rfl:=oi aj;exact JL.kw (aa _ _ ⟨E,rfl,rfl,(Le.refl _),O⟩) rfl
def f104(fuel:Nat)(p0:Int)(p1:Int)(p2:Int):Option (Bool):=
 Option.bind (
  if p1≤p0 then(
   some (decide (p0≤p2))
  ) else(
   some false
  )
 ) fun A=>
 some A
theorem Hx{p0:Int}{p1:Int}{p2:Int}{fuel:Nat}{r:Bool}(K:f104 fuel p0 p1 p2=some r):Aq J 104 [iV p0,iV p1,iV p2] E [] (fun w E' B'=>w= .bool r∧B'= []):=by
 refine Aq.en func104 rfl rfl fun Q ak cs H O ab=>?_;unfold f104 at K;obtain⟨ac,U,ae⟩:=bs K;refine zg 10 rfl ?_;refine JL.BI [8] (fun L s=>∃(Z:LH),Jm E H Z [] [(14,.bool ac)] L s) ?_ ?_
 ·rintro _ _ ⟨Z,rfl,rfl,ag,ah⟩;refine zg 2 rfl ?_;obtain rfl:=oi ae;refine JL.rt func104 rfl rfl ?_;exact ab _ _ _ _ ag rfl ⟨rfl,rfl⟩ ah
 ·intro aa;refine JL.BW (q:=p1≤p0) (i:=10) rfl (fun A=>?_) (fun A=>?_)
  ·have ai:=ip U A;refine zg 4 rfl ?_;obtain rfl:=oi ai;exact JL.kw (aa _ _ ⟨E,rfl,rfl,(Le.refl _),O⟩) rfl
  ·have aj:=im U A;refine zg 4 rfl ?_;obtain rfl:=oi aj;exact JL.kw (aa _ _ ⟨E,rfl,rfl,(Le.refl _),O⟩) rfl
def IW(fuel:Nat)(p0:List Int)(p1:List Int)(A:Int):Option (A4 (Int) ((Bool)⊕(Unit))):=
 Option.bind (
  if A<((p0).length:Int) then(
   some (decide (A<((p1).length:Int)))
  ) else(
   some false
  )
 ) fun K=>
 if K=true then(
  (ix p0 (A)).bind fun O=>
  (ix p1 (A)).bind fun U=>
  if O≠U then(
   some (.done (Sum.inl false))
  ) else(
   (Ax (A+1)).bind fun Z=>
   some (.more Z)
  )
 ) else(
  some (.done (Sum.inr ()))
 )
def f32(fuel:Nat)(p0:List Int)(p1:List Int):Option (Bool):=
 Option.bind (iter (IW fuel p0 p1) fuel 0) fun A=>
 Sum.elim (fun r=>some r) (fun K=>
 some (decide (((p0).length:Int)=((p1).length:Int)))
 ) A
theorem Jb{A:Ar}{c2:Nat}{K:Ar}{O:Nat}{p0:List Int}{p1:List Int}(aB:Ao rI E A c2 (p0))(aC:Ao rI E K O (p1)){fuel:Nat}{r:Bool}(ak:f32 fuel p0 p1=some r):Aq J 32 [.slice A (p0).length c2,.slice K (p1).length O] E [] (fun w E' B'=>w= .bool r∧B'= []):=by
 refine Aq.en func32 rfl rfl fun Q a2 cs H aD al=>?_;unfold f32 at ak;obtain⟨am,aE,an⟩:=bs ak;refine zg 9 rfl ?_;refine JL.join (fun L s=>∃(ao:Unit) (ap:LH),am=Sum.inr ao∧Jm E H ap [] [(0,.slice A (p0).length c2),(1,.slice K (p1).length O)] L s) ?_ ?_
 ·rintro _ _ ⟨ao,ap,rfl,rfl,rfl,aF,aG⟩;have aH:=elim_inr an;refine zg 3 rfl ?_;refine JL.Y rfl (fun ρ h=>Yl.len rfl underlying28 (h _ _ rfl)) ?_;refine zg 1 rfl ?_;refine JL.Y rfl (fun ρ h=>Yl.len rfl underlying28 (h _ _ rfl)) ?_;refine zg 3 rfl ?_;obtain rfl:=oi aH;refine JL.rt func32 rfl rfl ?_;exact al _ _ _ _ aF rfl ⟨rfl,rfl⟩ aG
 ·intro aI;refine JL.block ?_;refine JL.wk [(0,.slice A (p0).length c2),(1,.slice K (p1).length O),(5,iV 0)] rfl ?_;refine JL.Bf aE (fun L s ab=>∃(U:LH),Jm E H U [] [(0,.slice A (p0).length c2),(1,.slice K (p1).length O),(5,iV ab)] L s) ⟨E,rfl,rfl,(Le.refl _),aD⟩ ?_;rintro _ _ ab ⟨U,rfl,rfl,Z,aq⟩ ar ⟨a3,ac⟩ aJ;have au:=ac;unfold IW at au;refine zg 5 rfl ?_;refine JL.Y rfl (fun ρ h=>Yl.len rfl underlying28 (h _ _ rfl)) ?_;obtain⟨av,aw,ay⟩:=bs au;refine zg 2 rfl ?_;refine JL.BI [] (fun L s=>∃(ae:LH),Jm U H ae [] [(0,.slice A (p0).length c2),(1,.slice K (p1).length O),(5,iV ab),(15,.bool av)] L s) ?_ ?_
  ·rintro _ _ ⟨ae,rfl,rfl,aa,ag⟩;refine JL.done ?_;refine JL.split (t:=av) rfl (fun ah=>?_) (fun ah=>?_)
   ·have aK:=ip ay ah;refine zg 4 rfl ?_;refine JG.Co 8 mixed rfl (by decide+kernel) fun ht=>?_;refine JG.ms ht rfl [0,1] rfl ?_;obtain⟨aL,aM,aN⟩:=bs aK;refine JG.idx 2 (aB.mono (Z.trans aa)) aM rfl ht (by decide+kernel) rfl rfl rfl rfl rfl underlying28 (Ag type3) ?_;rintro a4 a5 _ rfl aO;refine JG.ld 3 ht 0 aO (Al underlying3) rfl rfl rfl rfl ?_;refine JG.ms ht rfl [4,5] rfl ?_;obtain⟨aP,aQ,az⟩:=bs aN;refine JG.idx 6 (aC.mono (Z.trans aa)) aQ rfl ht (by decide+kernel) rfl rfl rfl rfl rfl underlying28 (Ag type3) ?_;rintro a6 a7 _ rfl aR;refine JG.ld 7 ht 0 aR (Al underlying3) rfl rfl rfl rfl ?_;refine Av.leaf (tail:= [8]) (by decide+kernel) (fun t=>A1 (by decide+kernel) BM t) ?_;refine zg 2 rfl ?_;refine JL.ifs (p:=aL≠aP) rfl (fun ai=>?_) (fun ai=>?_)
    ·have aS:=ip az ai;refine zg 4 rfl ?_;obtain rfl:=oi aS;obtain rfl:=ar _ ac;have aT:=elim_inl an;obtain rfl:=oi aT;refine JL.rt func32 rfl rfl ?_;exact al _ _ _ _ (Z.trans aa) rfl ⟨rfl,rfl⟩ ag
    ·have aU:=im az ai;obtain⟨aV,aW,aX⟩:=bs aU;refine zg 4 rfl ?_;refine JL.Y rfl (fun ρ h=>Yl.A0 (h _ _ rfl) (h _ _ rfl) aW) ?_;refine zg 2 rfl ?_;obtain rfl:=oi aX;exact JL.kw (aJ _ _ aV ⟨ae,rfl,rfl,(Z.trans aa),ag⟩ ac) rfl
   ·have aY:=ib ay ah;refine JL.exit rfl ?_;obtain rfl:=oi aY;have aZ:am=(Sum.inr ()):=(ar _ ac).symm;exact JL.kw (aI _ _ ⟨(),ae,aZ,rfl,rfl,(Z.trans aa),ag⟩) rfl
  ·intro aA;refine JL.BW (q:=ab<((p0).length:Int)) (i:=10) rfl (fun aj=>?_) (fun aj=>?_)
   ·have a0:=ip aw aj;refine zg 2 rfl ?_;refine JL.Y rfl (fun ρ h=>Yl.len rfl underlying28 (h _ _ rfl)) ?_;refine zg 2 rfl ?_;obtain rfl:=oi a0;exact JL.kw (aA _ _ ⟨U,rfl,rfl,(Le.refl _),aq⟩) rfl
   ·have a1:=im aw aj;refine zg 5 rfl ?_;obtain rfl:=oi a1;exact JL.kw (aA _ _ ⟨U,rfl,rfl,(Le.refl _),aq⟩) rfl
def IT(fuel:Nat)(p0:List (List Int))(p1:List (List Int))(A:Int):Option (A4 (Int) ((Bool)⊕(Unit))):=
 Option.bind (
  if A<((p0).length:Int) then(
   some (decide (A<((p1).length:Int)))
  ) else(
   some false
  )
 ) fun K=>
 if K=true then(
  (ix p0 (A)).bind fun O=>
  (ix p1 (A)).bind fun U=>
  (f32 fuel O U).bind fun Z=>
  if(!Z)=true then(
   some (.done (Sum.inl false))
  ) else(
   (Ax (A+1)).bind fun aa=>
   some (.more aa)
  )
 ) else(
  some (.done (Sum.inr ()))
 )
def f84(fuel:Nat)(p0:List (List Int))(p1:List (List Int)):Option (Bool):=
 Option.bind (iter (IT fuel p0 p1) fuel 0) fun A=>
 Sum.elim (fun r=>some r) (fun K=>
 some (decide (((p0).length:Int)=((p1).length:Int)))
 ) A
theorem Ot{A:Ar}{c2:Nat}{K:Ar}{O:Nat}{p0:List (List Int)}{p1:List (List Int)}(aE:Ao (rL rI) E A c2 (p0))(aF:Ao (rL rI) E K O (p1)){fuel:Nat}{r:Bool}(aj:f84 fuel p0 p1=some r):Aq J 84 [.slice A (p0).length c2,.slice K (p1).length O] E [] (fun w E' B'=>w= .bool r∧B'= []):=by
 refine Aq.en func84 rfl rfl fun Q a8 cs H aG ak=>?_;unfold f84 at aj;obtain⟨al,aH,am⟩:=bs aj;refine zg 9 rfl ?_;refine JL.join (fun L s=>∃(an:Unit) (ao:LH),al=Sum.inr an∧Jm E H ao [] [(0,.slice A (p0).length c2),(1,.slice K (p1).length O)] L s) ?_ ?_
 ·rintro _ _ ⟨an,ao,rfl,rfl,rfl,aI,aJ⟩;have aK:=elim_inr am;refine zg 3 rfl ?_;refine JL.Y rfl (fun ρ h=>Yl.len rfl underlying22 (h _ _ rfl)) ?_;refine zg 1 rfl ?_;refine JL.Y rfl (fun ρ h=>Yl.len rfl underlying22 (h _ _ rfl)) ?_;refine zg 3 rfl ?_;obtain rfl:=oi aK;refine JL.rt func84 rfl rfl ?_;exact ak _ _ _ _ aI rfl ⟨rfl,rfl⟩ aJ
 ·intro aL;refine JL.block ?_;refine JL.wk [(0,.slice A (p0).length c2),(1,.slice K (p1).length O),(5,iV 0)] rfl ?_;refine JL.Bf aH (fun L s ab=>∃(U:LH),Jm E H U [] [(0,.slice A (p0).length c2),(1,.slice K (p1).length O),(5,iV ab)] L s) ⟨E,rfl,rfl,(Le.refl _),aG⟩ ?_;rintro _ _ ab ⟨U,rfl,rfl,Z,ap⟩ aq ⟨a9,ac⟩ aM;have ar:=ac;unfold IT at ar;refine zg 5 rfl ?_;refine JL.Y rfl (fun ρ h=>Yl.len rfl underlying22 (h _ _ rfl)) ?_;obtain⟨au,av,aw⟩:=bs ar;refine zg 2 rfl ?_;refine JL.BI [] (fun L s=>∃(ae:LH),Jm U H ae [] [(0,.slice A (p0).length c2),(1,.slice K (p1).length O),(5,iV ab),(15,.bool au)] L s) ?_ ?_
  ·rintro _ _ ⟨ae,rfl,rfl,aa,ay⟩;refine JL.done ?_;refine JL.split (t:=au) rfl (fun ag=>?_) (fun ag=>?_)
   ·have aN:=ip aw ag;refine zg 4 rfl ?_;refine JG.Co 8 mixed rfl (by decide+kernel) fun ht=>?_;refine JG.ms ht rfl [0,1] rfl ?_;obtain⟨ba,aO,aP⟩:=bs aN;refine JG.idx 2 (aE.mono (Z.trans aa)) aO rfl ht (by decide+kernel) rfl rfl rfl rfl rfl underlying22 (Ag type28) ?_;rintro bb bc _ ⟨bd,bf,rfl,aQ⟩ aR;refine JG.ld 3 ht 0 aR (Al underlying28) rfl rfl rfl rfl ?_;refine JG.ms ht rfl [4,5] rfl ?_;obtain⟨bg,aS,aT⟩:=bs aP;refine JG.idx 6 (aF.mono (Z.trans aa)) aS rfl ht (by decide+kernel) rfl rfl rfl rfl rfl underlying22 (Ag type28) ?_;rintro bh bi _ ⟨bj,bk,rfl,aU⟩ aV;refine JG.ld 7 ht 0 aV (Al underlying28) rfl rfl rfl rfl ?_;refine Av.leaf (tail:= [8,9]) (by decide+kernel) (fun t=>A1 (by decide+kernel) (A1 (by decide+kernel) BM) t) ?_;obtain⟨az,aW,aA⟩:=bs aT;refine JS.cl (Jb aQ aU aW) rfl rfl (Aw func32 rfl) ay ?_;rintro _ aX _ aB ⟨rfl,rfl⟩ aC;refine JL.Y (v:= .bool (!az)) rfl (fun ρ h=>Yl.not (h _ _ rfl)) ?_;refine JL.done ?_;refine JL.split (t:=(!az)) rfl (fun ah=>?_) (fun ah=>?_)
    ·have aY:=ip aA ah;refine zg 4 rfl ?_;obtain rfl:=oi aY;obtain rfl:=aq _ ac;have aZ:=elim_inl am;obtain rfl:=oi aZ;refine JL.rt func84 rfl rfl ?_;exact ak _ _ _ _ ((Z.trans aa).trans aB) rfl ⟨rfl,rfl⟩ aC
    ·have a0:=ib aA ah;obtain⟨a1,a2,a3⟩:=bs a0;refine zg 4 rfl ?_;refine JL.Y rfl (fun ρ h=>Yl.A0 (h _ _ rfl) (h _ _ rfl) a2) ?_;refine zg 2 rfl ?_;obtain rfl:=oi a3;exact JL.kw (aM _ _ a1 ⟨aX,rfl,rfl,((Z.trans aa).trans aB),aC⟩ ac) rfl
   ·have a4:=ib aw ag;refine JL.exit rfl ?_;obtain rfl:=oi a4;have a5:al=(Sum.inr ()):=(aq _ ac).symm;exact JL.kw (aL _ _ ⟨(),ae,a5,rfl,rfl,(Z.trans aa),ay⟩) rfl
  ·intro aD;refine JL.BW (q:=ab<((p0).length:Int)) (i:=10) rfl (fun ai=>?_) (fun ai=>?_)
   ·have a6:=ip av ai;refine zg 2 rfl ?_;refine JL.Y rfl (fun ρ h=>Yl.len rfl underlying22 (h _ _ rfl)) ?_;refine zg 2 rfl ?_;obtain rfl:=oi a6;exact JL.kw (aD _ _ ⟨U,rfl,rfl,(Le.refl _),ap⟩) rfl
   ·have a7:=im av ai;refine zg 5 rfl ?_;obtain rfl:=oi a7;exact JL.kw (aD _ _ ⟨U,rfl,rfl,(Le.refl _),ap⟩) rfl
def f33(fuel:Nat)(p0:A2)(p1:A2):Option (Bool):=
 (f84 fuel p0.1 p1.1).bind fun A=>
 Option.bind (
  if A=true then(
   (f84 fuel p0.2 p1.2).bind fun K=>
   some K
  ) else(
   some false
  )
 ) fun O=>
 some O
theorem TL{U:Ar}{c2:Nat}{Z:Ar}{aa:Nat}{ab:Ar}{ac:Nat}{ae:Ar}{ag:Nat}{p0:A2}{p1:A2}(aq:Ao (rL rI) E U c2 (p0.1))(ar:Ao (rL rI) E Z aa (p0.2))(au:Ao (rL rI) E ab ac (p1.1))(av:Ao (rL rI) E ae ag (p1.2)){fuel:Nat}{r:Bool}(ai:f33 fuel p0 p1=some r):Aq J 33 [.agg #[.slice U (p0.1).length c2,.slice Z (p0.2).length aa],.agg #[.slice ab (p1.1).length ac,.slice ae (p1.2).length ag]] E [] (fun w E' B'=>w= .bool r∧B'= []):=by
 refine Aq.en func33 rfl rfl fun Q aR cs H aw ay=>?_;unfold f33 at ai;refine zg 2 rfl ?_;refine JS.box (v:= .agg #[.slice U (p0.1).length c2,.slice Z (p0.2).length aa]) rfl rfl rfl aw rfl fun aS az=>?_;refine JS.Ba 1 az rfl fun aT K aj aA=>?_;refine JS.box (v:= .agg #[.slice ab (p1.1).length ac,.slice ae (p1.2).length ag]) rfl rfl rfl aA rfl fun aU aB=>?_;refine JS.Ba 2 aB rfl fun aV A ak aC=>?_;refine zg 4 rfl ?_;refine JL.fd underlying24 (Ag type22) rfl rfl rfl ?_;refine JL.ld 0 (aj.mono A) (Al underlying22) rfl rfl rfl ?_;refine JL.fd underlying24 (Ag type22) rfl rfl rfl ?_;refine JL.ld 0 ak (Al underlying22) rfl rfl rfl ?_;obtain⟨aD,aE,aF⟩:=bs ai;refine JS.cl (Ot (aq.mono (K.trans A)) (au.mono (K.trans A)) aE) rfl rfl (Aw func84 rfl) aC ?_;rintro _ al _ O ⟨rfl,rfl⟩ am;obtain⟨aG,an,aH⟩:=bs aF;refine zg 1 rfl ?_;refine JL.BI [12] (fun L s=>∃(ao:LH),Jm al H ao [] [(16,.bool aG)] L s) ?_ ?_
 ·rintro _ _ ⟨ao,rfl,rfl,aI,aJ⟩;refine zg 2 rfl ?_;obtain rfl:=oi aH;refine JL.rt func33 rfl rfl ?_;exact ay _ _ _ _ (((K.trans A).trans O).trans aI) rfl ⟨rfl,rfl⟩ aJ
 ·intro ap;refine JL.Cg (c:=aD) (i:=10) rfl (fun ah=>?_) (fun ah=>?_)
  ·have aK:=ip an ah;refine JL.fd underlying24 (Ag type22) rfl rfl rfl ?_;refine JL.ld 1 (aj.mono (A.trans O)) (Al underlying22) rfl rfl rfl ?_;refine JL.fd underlying24 (Ag type22) rfl rfl rfl ?_;refine JL.ld 1 (ak.mono O) (Al underlying22) rfl rfl rfl ?_;obtain⟨aW,aL,aM⟩:=bs aK;refine JS.cl (Ot (ar.mono ((K.trans A).trans O)) (av.mono ((K.trans A).trans O)) aL) rfl rfl (Aw func84 rfl) am ?_;rintro _ aN _ aO ⟨rfl,rfl⟩ aP;refine zg 1 rfl ?_;obtain rfl:=oi aM;exact JL.kw (ap _ _ ⟨aN,rfl,rfl,aO,aP⟩) rfl
  ·have aQ:=ib an ah;refine zg 6 rfl ?_;obtain rfl:=oi aQ;exact JL.kw (ap _ _ ⟨al,rfl,rfl,(Le.refl _),am⟩) rfl
def f23(fuel:Nat)(p0:List Int):Option ((BS)):=
 some (p0,0,2685821657736338717)
theorem TM{A:Ar}{c2:Nat}{p0:List Int}(aa:Ao rI E A c2 (p0)){fuel:Nat}{r:(BS)}(K:f23 fuel p0=some r):Aq J 23 [.slice A (p0).length c2] E [] (fun w E' B'=>∃(O:Nat) (U:Ar) (Z:Nat),w= .pointer (some ⟨O,0,none⟩)∧B'= [(O,.cells #[.slice U (r.1).length Z,iV r.2.1,.int .u64 ((r.2.2:Nat):Int)] 92 (0,0))]∧Ao rI E' U Z (r.1)):=by
 refine Aq.en func23 rfl rfl fun Q ah cs H ab ac=>?_;unfold f23 at K;refine zg 7 rfl ?_;refine JL.Y (v:= .agg #[.slice A (p0).length c2,iV 0,.int .u64 ((2685821657736338717:Nat):Int)]) rfl (fun ρ h=>Yl.Cb [(0,1),(1,1),(2,1)] h (AO type92) underlying92 ⟨rfl,Ag type28,rfl,Ag type3,rfl,Ag type90,trivial⟩ rfl rfl) ?_;refine JS.box (v:= .agg #[.slice A (p0).length c2,iV 0,.int .u64 ((2685821657736338717:Nat):Int)]) rfl rfl rfl ab rfl fun ae ag=>?_;refine zg 2 rfl ?_;obtain rfl:=oi K;refine JL.rt func23 rfl rfl ?_;exact ac _ _ _ _ (Le.refl _) rfl ⟨ae,A,c2,rfl,(by first | rfl | simp | (simp [Value.cells])),aa⟩ ag
def f100(fuel:Nat)(p0:BS):Option (Nat×(BS)):=
 (Ax (p0.2.1+1)).bind fun K=>
 Option.bind (
  if K≤((p0.1).length:Int) then(
   (Ax (K - 1)).bind fun O=>
   (ix p0.1 (O)).bind fun U=>
   some (((((B6 K)*11400714819323198485) % 2 ^ 64) ^^^ (((B6 U)*14029467366897019727) % 2 ^ 64)) % 2 ^ 64)
  ) else(
   some (((B6 K)*11400714819323198485) % 2 ^ 64)
  )
 ) fun A=>
 some (((((((((((p0.2.2 ^^^ A) % 2 ^ 64)*18397679294719823053) % 2 ^ 64) ^^^ (((((p0.2.2 ^^^ A) % 2 ^ 64)*18397679294719823053) % 2 ^ 64)>>>33)) % 2 ^ 64)*14181476777654086739) % 2 ^ 64) ^^^ (((((((((p0.2.2 ^^^ A) % 2 ^ 64)*18397679294719823053) % 2 ^ 64) ^^^ (((((p0.2.2 ^^^ A) % 2 ^ 64)*18397679294719823053) % 2 ^ 64)>>>33)) % 2 ^ 64)*14181476777654086739) % 2 ^ 64)>>>29)) % 2 ^ 64)>>>11,(p0.1,K,(((((p0.2.2 ^^^ A) % 2 ^ 64)*18397679294719823053) % 2 ^ 64) ^^^ (((((p0.2.2 ^^^ A) % 2 ^ 64)*18397679294719823053) % 2 ^ 64)>>>33)) % 2 ^ 64))
theorem Sn{U:Nat}{Z:Ar}{c2:Nat}{p0:BS}(ae:Ao rI E Z c2 (p0.1)){fuel:Nat}{r:Nat×(BS)}(ag:f100 fuel p0=some r):Aq J 100 [.pointer (some ⟨U,0,none⟩)] E [(U,.cells #[.slice Z (p0.1).length c2,iV p0.2.1,.int .u64 ((p0.2.2:Nat):Int)] 92 (0,0))] (fun w E' B'=>∃(ah:Ar) (ai:Nat),w= .int .u64 ((r.1:Nat):Int)∧B'= [(U,.cells #[.slice ah (r.2.1).length ai,iV r.2.2.1,.int .u64 ((r.2.2.2:Nat):Int)] 92 (0,0))]∧Ao rI E' ah ai (r.2.1)):=by
 refine Aq.en func100 rfl rfl fun Q aE cs H aj aq=>?_;unfold f100 at ag;refine zg 8 rfl ?_;refine JL.fd underlying92 (Ag type3) rfl rfl rfl ?_;refine JL.Y (v:=iV p0.2.1) rfl (fun ρ h=>Yl.load (Al underlying3) (h _ _ rfl) (Cw (j:=0) (off:=1) aj rfl rfl)) ?_;obtain⟨O,ar,au⟩:=bs ag;refine JL.Y rfl (fun ρ h=>Yl.A0 (h _ _ rfl) (h _ _ rfl) ar) ?_;refine zg 1 rfl ?_;refine JL.fd underlying92 (Ag type3) rfl rfl rfl ?_;refine JS.st (v:=iV O) (off:=1) 0 aj (Ag type3) rfl rfl rfl rfl fun K=>?_;refine zg 5 rfl ?_;refine JL.fd underlying92 (Ag type3) rfl rfl rfl ?_;refine JL.Y (v:=iV O) rfl (fun ρ h=>Yl.load (Al underlying3) (h _ _ rfl) (Cw (j:=0) (off:=1) K rfl rfl)) ?_;refine JL.Y (v:= .int .u64 ((B6 O:Nat):Int)) rfl (fun ρ h=>Yl.B6 underlying3 underlying90 (h _ _ rfl)) ?_;refine JL.Y (v:= .int .u64 ((((B6 O)*11400714819323198485) % 2 ^ 64:Nat):Int)) rfl (fun ρ h=>Yl.Ju (h _ _ rfl) (h _ _ rfl)) ?_;refine zg 4 rfl ?_;refine JG.Ce 9 [U] ⟨⟨0,_,rfl⟩,trivial⟩ K mixed rfl (by decide+kernel) fun ht=>?_;refine JG.ms ht rfl [0,1] rfl ?_;refine JG.fd 2 ht underlying92 (Ag type3) rfl rfl rfl rfl ?_;refine JG.V (v:=iV O) 3 ht rfl rfl (fun ρ h s' hs=>Yl.load (Al underlying3) (h _ _ rfl) (Bl (o:=1) 0 K rfl (by simp [AH]) hs rfl)) ?_;refine JG.ms ht rfl [4,5] rfl ?_;refine JG.fd 6 ht underlying92 (Ag type28) rfl rfl rfl rfl ?_;refine JG.V (v:= .slice Z (p0.1).length c2) 7 ht rfl rfl (fun ρ h s' hs=>Yl.load (Al underlying28) (h _ _ rfl) (Bl (o:=0) 0 K rfl (by simp [AH]) hs rfl)) ?_;refine JG.V 8 ht rfl rfl (fun ρ h s' hs=>Yl.len rfl underlying28 (h _ _ rfl)) ?_;refine Av.leaf (tail:= [9]) (by decide+kernel) (fun t=>A1 (by decide+kernel) BM t) ?_;obtain⟨A,ak,av⟩:=bs au;refine zg 2 rfl ?_;refine JL.join (fun L s=>∃(al:LH),Jm E H al [[(U,.cells #[.slice Z (p0.1).length c2,iV O,.int .u64 ((p0.2.2:Nat):Int)] 92 (0,0))]] [(0,.pointer (some ⟨U,0,none⟩)),(3,.int .u64 ((A:Nat):Int))] L s) ?_ ?_
 ·rintro _ _ ⟨al,rfl,rfl,am,an⟩;refine zg 5 rfl ?_;refine JL.fd underlying92 (Ag type90) rfl rfl rfl ?_;refine JL.Y (v:= .int .u64 ((p0.2.2:Nat):Int)) rfl (fun ρ h=>Yl.load (Al underlying90) (h _ _ rfl) (Cw (j:=0) (off:=2) an rfl rfl)) ?_;refine zg 1 rfl ?_;refine JL.Y (v:= .int .u64 (((p0.2.2 ^^^ A) % 2 ^ 64:Nat):Int)) rfl (fun ρ h=>Yl.Jo (h _ _ rfl) (h _ _ rfl)) ?_;refine JL.Y (v:= .int .u64 (((((p0.2.2 ^^^ A) % 2 ^ 64)*18397679294719823053) % 2 ^ 64:Nat):Int)) rfl (fun ρ h=>Yl.Ju (h _ _ rfl) (h _ _ rfl)) ?_;refine zg 1 rfl ?_;refine JL.fd underlying92 (Ag type90) rfl rfl rfl ?_;refine JS.st (v:= .int .u64 (((((p0.2.2 ^^^ A) % 2 ^ 64)*18397679294719823053) % 2 ^ 64:Nat):Int)) (off:=2) 0 an (Ag type90) rfl rfl rfl rfl fun aa=>?_;refine zg 2 rfl ?_;refine JG.Ce 11 [U] ⟨⟨0,_,rfl⟩,trivial⟩ aa mixed rfl (by decide+kernel) fun ht=>?_;refine JG.ms ht rfl [0,1,2] rfl ?_;refine JG.fd 3 ht underlying92 (Ag type90) rfl rfl rfl rfl ?_;refine JG.V (v:= .int .u64 (((((p0.2.2 ^^^ A) % 2 ^ 64)*18397679294719823053) % 2 ^ 64:Nat):Int)) 4 ht rfl rfl (fun ρ h s' hs=>Yl.load (Al underlying90) (h _ _ rfl) (Bl (o:=2) 0 aa rfl (by simp [AH]) hs rfl)) ?_;refine JG.ms ht rfl [5,6] rfl ?_;refine JG.fd 7 ht underlying92 (Ag type90) rfl rfl rfl rfl ?_;refine JG.V (v:= .int .u64 (((((p0.2.2 ^^^ A) % 2 ^ 64)*18397679294719823053) % 2 ^ 64:Nat):Int)) 8 ht rfl rfl (fun ρ h s' hs=>Yl.load (Al underlying90) (h _ _ rfl) (Bl (o:=2) 0 aa rfl (by simp [AH]) hs rfl)) ?_;refine JG.V (v:= .int .u64 ((((((p0.2.2 ^^^ A) % 2 ^ 64)*18397679294719823053) % 2 ^ 64)>>>33:Nat):Int)) 9 ht rfl rfl (fun ρ h s' hs=>Yl.Ha 33 (h _ _ rfl) (h _ _ rfl) (by decide)) ?_;refine JG.V (v:= .int .u64 (((((((p0.2.2 ^^^ A) % 2 ^ 64)*18397679294719823053) % 2 ^ 64) ^^^ (((((p0.2.2 ^^^ A) % 2 ^ 64)*18397679294719823053) % 2 ^ 64)>>>33)) % 2 ^ 64:Nat):Int)) 10 ht rfl rfl (fun ρ h s' hs=>Yl.Jo (h _ _ rfl) (h _ _ rfl)) ?_;refine Av.leaf (tail:= [11,12,13]) (by decide+kernel) (fun t=>A1 (by decide+kernel) (A1 (by decide+kernel) (A1 (by decide+kernel) BM)) t) ?_;refine zg 1 rfl ?_;refine JL.fd underlying92 (Ag type90) rfl rfl rfl ?_;refine JS.st (v:= .int .u64 (((((((p0.2.2 ^^^ A) % 2 ^ 64)*18397679294719823053) % 2 ^ 64) ^^^ (((((p0.2.2 ^^^ A) % 2 ^ 64)*18397679294719823053) % 2 ^ 64)>>>33)) % 2 ^ 64:Nat):Int)) (off:=2) 0 aa (Ag type90) rfl rfl rfl rfl fun ao=>?_;refine zg 5 rfl ?_;refine JL.fd underlying92 (Ag type90) rfl rfl rfl ?_;refine JL.Y (v:= .int .u64 (((((((p0.2.2 ^^^ A) % 2 ^ 64)*18397679294719823053) % 2 ^ 64) ^^^ (((((p0.2.2 ^^^ A) % 2 ^ 64)*18397679294719823053) % 2 ^ 64)>>>33)) % 2 ^ 64:Nat):Int)) rfl (fun ρ h=>Yl.load (Al underlying90) (h _ _ rfl) (Cw (j:=0) (off:=2) ao rfl rfl)) ?_;refine JL.Y (v:= .int .u64 (((((((((p0.2.2 ^^^ A) % 2 ^ 64)*18397679294719823053) % 2 ^ 64) ^^^ (((((p0.2.2 ^^^ A) % 2 ^ 64)*18397679294719823053) % 2 ^ 64)>>>33)) % 2 ^ 64)*14181476777654086739) % 2 ^ 64:Nat):Int)) rfl (fun ρ h=>Yl.Ju (h _ _ rfl) (h _ _ rfl)) ?_;refine zg 6 rfl ?_;refine JL.Y (v:= .int .u64 ((((((((((p0.2.2 ^^^ A) % 2 ^ 64)*18397679294719823053) % 2 ^ 64) ^^^ (((((p0.2.2 ^^^ A) % 2 ^ 64)*18397679294719823053) % 2 ^ 64)>>>33)) % 2 ^ 64)*14181476777654086739) % 2 ^ 64)>>>29:Nat):Int)) rfl (fun ρ h=>Yl.Ha 29 (h _ _ rfl) (h _ _ rfl) (by decide)) ?_;refine JL.Y (v:= .int .u64 (((((((((((p0.2.2 ^^^ A) % 2 ^ 64)*18397679294719823053) % 2 ^ 64) ^^^ (((((p0.2.2 ^^^ A) % 2 ^ 64)*18397679294719823053) % 2 ^ 64)>>>33)) % 2 ^ 64)*14181476777654086739) % 2 ^ 64) ^^^ (((((((((p0.2.2 ^^^ A) % 2 ^ 64)*18397679294719823053) % 2 ^ 64) ^^^ (((((p0.2.2 ^^^ A) % 2 ^ 64)*18397679294719823053) % 2 ^ 64)>>>33)) % 2 ^ 64)*14181476777654086739) % 2 ^ 64)>>>29)) % 2 ^ 64:Nat):Int)) rfl (fun ρ h=>Yl.Jo (h _ _ rfl) (h _ _ rfl)) ?_;refine JL.Y (v:= .int .u64 ((((((((((((p0.2.2 ^^^ A) % 2 ^ 64)*18397679294719823053) % 2 ^ 64) ^^^ (((((p0.2.2 ^^^ A) % 2 ^ 64)*18397679294719823053) % 2 ^ 64)>>>33)) % 2 ^ 64)*14181476777654086739) % 2 ^ 64) ^^^ (((((((((p0.2.2 ^^^ A) % 2 ^ 64)*18397679294719823053) % 2 ^ 64) ^^^ (((((p0.2.2 ^^^ A) % 2 ^ 64)*18397679294719823053) % 2 ^ 64)>>>33)) % 2 ^ 64)*14181476777654086739) % 2 ^ 64)>>>29)) % 2 ^ 64)>>>11:Nat):Int)) rfl (fun ρ h=>Yl.Ha 11 (h _ _ rfl) (h _ _ rfl) (by decide)) ?_;refine zg 2 rfl ?_;obtain rfl:=oi av;refine JL.rt func100 rfl rfl ?_;exact aq _ _ _ _ am rfl ⟨Z,c2,rfl,rfl,(ae.mono am)⟩ ao
 ·intro ap;refine JL.ifs (p:=O≤((p0.1).length:Int)) rfl (fun ac=>?_) (fun ac=>?_)
  ·have aw:=ip ak ac;refine JG.Ce 14 [U] ⟨⟨0,_,rfl⟩,trivial⟩ K mixed rfl (by decide+kernel) fun ht=>?_;refine JG.ms ht rfl [0,1,2] rfl ?_;refine JG.fd 3 ht underlying92 (Ag type28) rfl rfl rfl rfl ?_;refine JG.V (v:= .slice Z (p0.1).length c2) 4 ht rfl rfl (fun ρ h s' hs=>Yl.load (Al underlying28) (h _ _ rfl) (Bl (o:=0) 0 K rfl (by simp [AH]) hs rfl)) ?_;refine JG.ms ht rfl [5,6] rfl ?_;refine JG.fd 7 ht underlying92 (Ag type3) rfl rfl rfl rfl ?_;refine JG.V (v:=iV O) 8 ht rfl rfl (fun ρ h s' hs=>Yl.load (Al underlying3) (h _ _ rfl) (Bl (o:=1) 0 K rfl (by simp [AH]) hs rfl)) ?_;obtain⟨aF,ay,az⟩:=bs aw;refine JG.V 9 ht rfl rfl (fun ρ h s' hs=>Yl.Bb (h _ _ rfl) (h _ _ rfl) ay) ?_;obtain⟨ab,aA,aB⟩:=bs az;refine JG.idx 10 ae aA rfl ht (by decide+kernel) rfl rfl rfl rfl rfl underlying28 (Ag type3) ?_;rintro aG aH _ rfl aC;refine JG.V (v:=iV ab) 11 ht rfl rfl (fun ρ h s' hs=>Yl.load (Al underlying3) (h _ _ rfl) (At.CO (j:=0) aC (CM K hs ⟨⟨0,_,rfl⟩,trivial⟩) rfl)) ?_;refine JG.V (v:= .int .u64 ((B6 ab:Nat):Int)) 12 ht rfl rfl (fun ρ h s' hs=>Yl.B6 underlying3 underlying90 (h _ _ rfl)) ?_;refine JG.V (v:= .int .u64 ((((B6 ab)*14029467366897019727) % 2 ^ 64:Nat):Int)) 13 ht rfl rfl (fun ρ h s' hs=>Yl.Ju (h _ _ rfl) (h _ _ rfl)) ?_;refine Av.leaf (tail:= [14,15]) (by decide+kernel) (fun t=>A1 (by decide+kernel) (A1 (by decide+kernel) BM) t) ?_;refine JL.Y (v:= .int .u64 ((((((B6 O)*11400714819323198485) % 2 ^ 64) ^^^ (((B6 ab)*14029467366897019727) % 2 ^ 64)) % 2 ^ 64:Nat):Int)) rfl (fun ρ h=>Yl.Jo (h _ _ rfl) (h _ _ rfl)) ?_;refine zg 2 rfl ?_;obtain rfl:=oi aB;exact JL.kw (ap _ _ ⟨E,rfl,rfl,(Le.refl _),K⟩) rfl
  ·have aD:=im ak ac;refine JL.skip ?_;obtain rfl:=oi aD;exact JL.kw (ap _ _ ⟨E,rfl,rfl,(Le.refl _),K⟩) rfl
def f41(fuel:Nat)(p0:BS)(p1:Int):Option (Int×(BS)):=
 (f100 fuel p0).bind fun A=>
 if p1<1 then(
  some (0,A.2)
 ) else(
  (Jc (A.1) ((B6 p1+1) % 2 ^ 64)).bind fun K=>
  some (Gy K,A.2)
 )
theorem G5{A:Nat}{O:Ar}{c2:Nat}{p0:BS}{p1:Int}(al:Ao rI E O c2 (p0.1)){fuel:Nat}{r:Int×(BS)}(U:f41 fuel p0 p1=some r):Aq J 41 [.pointer (some ⟨A,0,none⟩),iV p1] E [(A,.cells #[.slice O (p0.1).length c2,iV p0.2.1,.int .u64 ((p0.2.2:Nat):Int)] 92 (0,0))] (fun w E' B'=>∃(Z:Ar) (aa:Nat),w=iV r.1∧B'= [(A,.cells #[.slice Z (r.2.1).length aa,iV r.2.2.1,.int .u64 ((r.2.2.2:Nat):Int)] 92 (0,0))]∧Ao rI E' Z aa (r.2.1)):=by
 refine Aq.en func41 rfl rfl fun Q au cs H am ab=>?_;unfold f41 at U;obtain⟨av,an,ac⟩:=bs U;refine zg 7 rfl ?_;refine JS.BL 0 (Sn al an) rfl rfl (Aw func100 rfl) am rfl ?_;rintro _ aw _ ae ⟨ag,ah,rfl,rfl,ai⟩ aj;refine zg 8 rfl ?_;refine JL.ifs (p:=p1<1) rfl (fun K=>?_) (fun K=>?_)
 ·have ao:=ip ac K;refine zg 4 rfl ?_;obtain rfl:=oi ao;refine JL.rt func41 rfl rfl ?_;exact ab _ _ _ _ ae rfl ⟨ag,ah,rfl,rfl,ai⟩ aj
 ·have ap:=im ac K;refine zg 5 rfl ?_;refine JL.Y (v:= .int .u64 ((B6 p1:Nat):Int)) rfl (fun ρ h=>Yl.B6 underlying3 underlying90 (h _ _ rfl)) ?_;refine JL.Y (v:= .int .u64 (((B6 p1+1) % 2 ^ 64:Nat):Int)) rfl (fun ρ h=>Yl.Uk (h _ _ rfl) (h _ _ rfl)) ?_;obtain⟨ak,aq,ar⟩:=bs ap;refine JL.Y (v:= .int .u64 ((ak:Nat):Int)) rfl (fun ρ h=>Yl.TH (h _ _ rfl) (h _ _ rfl) aq) ?_;refine JL.Y (v:=iV (Gy ak)) rfl (fun ρ h=>Yl.Gy underlying90 underlying3 (h _ _ rfl)) ?_;refine zg 2 rfl ?_;obtain rfl:=oi ar;refine JL.rt func41 rfl rfl ?_;exact ab _ _ _ _ ae rfl ⟨ag,ah,rfl,rfl,ai⟩ aj
def f96(fuel:Nat)(p0:BS)(p1:Int)(p2:Int):Option (Int×(BS)):=
 (Ax (p2 - p1)).bind fun K=>
 (f41 fuel p0 K).bind fun A=>
 (Ax (p1+A.1)).bind fun O=>
 some (O,A.2)
theorem Oj{A:Nat}{K:Ar}{c2:Nat}{p0:BS}{p1:Int}{p2:Int}(aa:Ao rI E K c2 (p0.1)){fuel:Nat}{r:Int×(BS)}(O:f96 fuel p0 p1 p2=some r):Aq J 96 [.pointer (some ⟨A,0,none⟩),iV p1,iV p2] E [(A,.cells #[.slice K (p0.1).length c2,iV p0.2.1,.int .u64 ((p0.2.2:Nat):Int)] 92 (0,0))] (fun w E' B'=>∃(U:Ar) (Z:Nat),w=iV r.1∧B'= [(A,.cells #[.slice U (r.2.1).length Z,iV r.2.2.1,.int .u64 ((r.2.2.2:Nat):Int)] 92 (0,0))]∧Ao rI E' U Z (r.2.1)):=by
 refine Aq.en func96 rfl rfl fun Q aq cs H ab ac=>?_;unfold f96 at O;obtain⟨ar,ae,ag⟩:=bs O;refine zg 10 rfl ?_;refine JL.Y rfl (fun ρ h=>Yl.Bb (h _ _ rfl) (h _ _ rfl) ae) ?_;obtain⟨au,ah,ai⟩:=bs ag;refine JS.BL 0 (G5 aa ah) rfl rfl (Aw func41 rfl) ab rfl ?_;rintro _ av _ aj ⟨ak,al,rfl,rfl,am⟩ an;obtain⟨aw,ao,ap⟩:=bs ai;refine JL.Y rfl (fun ρ h=>Yl.A0 (h _ _ rfl) (h _ _ rfl) ao) ?_;refine zg 2 rfl ?_;obtain rfl:=oi ap;refine JL.rt func96 rfl rfl ?_;exact ac _ _ _ _ aj rfl ⟨ak,al,rfl,rfl,am⟩ an
def f97(fuel:Nat)(p0:BS)(p1:Int):Option (Bool×(BS)):=
 (Ax (p1 - 1)).bind fun K=>
 (f41 fuel p0 K).bind fun A=>
 some (decide (A.1=0),A.2)
theorem KE{A:Nat}{K:Ar}{c2:Nat}{p0:BS}{p1:Int}(aa:Ao rI E K c2 (p0.1)){fuel:Nat}{r:Bool×(BS)}(O:f97 fuel p0 p1=some r):Aq J 97 [.pointer (some ⟨A,0,none⟩),iV p1] E [(A,.cells #[.slice K (p0.1).length c2,iV p0.2.1,.int .u64 ((p0.2.2:Nat):Int)] 92 (0,0))] (fun w E' B'=>∃(U:Ar) (Z:Nat),w= .bool r.1∧B'= [(A,.cells #[.slice U (r.2.1).length Z,iV r.2.2.1,.int .u64 ((r.2.2.2:Nat):Int)] 92 (0,0))]∧Ao rI E' U Z (r.2.1)):=by
 refine Aq.en func97 rfl rfl fun Q ao cs H ab ac=>?_;unfold f97 at O;obtain⟨ap,ae,ag⟩:=bs O;refine zg 8 rfl ?_;refine JL.Y rfl (fun ρ h=>Yl.Bb (h _ _ rfl) (h _ _ rfl) ae) ?_;obtain⟨aq,ah,ai⟩:=bs ag;refine JS.BL 0 (G5 aa ah) rfl rfl (Aw func41 rfl) ab rfl ?_;rintro _ ar _ aj ⟨ak,al,rfl,rfl,am⟩ an;refine zg 3 rfl ?_;obtain rfl:=oi ai;refine JL.rt func97 rfl rfl ?_;exact ac _ _ _ _ aj rfl ⟨ak,al,rfl,rfl,am⟩ an
def f99(fuel:Nat)(p0:BS)(p1:List Int):Option (Int×(BS)):=
 (Ax (((p1).length:Int) - 1)).bind fun K=>
 (f41 fuel p0 K).bind fun A=>
 (ix p1 (A.1)).bind fun O=>
 some (O,A.2)
theorem TS{A:Nat}{K:Ar}{c2:Nat}{O:Ar}{U:Nat}{p0:BS}{p1:List Int}(ae:Ao rI E K c2 (p0.1))(ag:Ao rI E O U (p1)){fuel:Nat}{r:Int×(BS)}(Z:f99 fuel p0 p1=some r):Aq J 99 [.pointer (some ⟨A,0,none⟩),.slice O (p1).length U] E [(A,.cells #[.slice K (p0.1).length c2,iV p0.2.1,.int .u64 ((p0.2.2:Nat):Int)] 92 (0,0))] (fun w E' B'=>∃(aa:Ar) (ab:Nat),w=iV r.1∧B'= [(A,.cells #[.slice aa (r.2.1).length ab,iV r.2.2.1,.int .u64 ((r.2.2.2:Nat):Int)] 92 (0,0))]∧Ao rI E' aa ab (r.2.1)):=by
 refine Aq.en func99 rfl rfl fun Q aw cs H ah ai=>?_;unfold f99 at Z;refine zg 9 rfl ?_;refine JL.Y rfl (fun ρ h=>Yl.len rfl underlying28 (h _ _ rfl)) ?_;obtain⟨ay,aj,ak⟩:=bs Z;refine JL.Y rfl (fun ρ h=>Yl.Bb (h _ _ rfl) (h _ _ rfl) aj) ?_;obtain⟨az,al,am⟩:=bs ak;refine JS.BL 0 (G5 ae al) rfl rfl (Aw func41 rfl) ah rfl ?_;rintro _ aA _ ac ⟨an,ao,rfl,rfl,ap⟩ aq;obtain⟨aB,ar,au⟩:=bs am;refine JS.BF (ag.mono ac) ar rfl rfl rfl rfl rfl underlying28 (Ag type3) ?_;rintro aC aD _ rfl av;refine JL.ld 0 av (Al underlying3) rfl rfl rfl ?_;refine zg 2 rfl ?_;obtain rfl:=oi au;refine JL.rt func99 rfl rfl ?_;exact ai _ _ _ _ ac rfl ⟨an,ao,rfl,rfl,ap⟩ aq
def GW(fuel:Nat)(p0:List Int)(p1:Int)(A:(List Int)×Bool×Int):Option (A4 ((List Int)×Bool×Int) ((List Int)×Bool)):=
 if A.2.2<((p0).length:Int) then(
  (ix p0 (A.2.2)).bind fun O=>
  Option.bind (
   if p1≤O then(
    some (!A.2.1)
   ) else(
    some false
   )
  ) fun U=>
  Option.bind (
   if U=true then(
    (room A.1 p1).bind fun Z=>
    some (Z,true)
   ) else(
    some (A.1,A.2.1)
   )
  ) fun K=>
  (ix p0 (A.2.2)).bind fun aa=>
  Option.bind (
   if aa≠p1 then(
    (ix p0 (A.2.2)).bind fun ab=>
    (room K.1 ab).bind fun ac=>
    some ac
   ) else(
    some K.1
   )
  ) fun ae=>
  (Ax (A.2.2+1)).bind fun ag=>
  some (.more (ae,K.2,ag))
 ) else(
  some (.done (A.1,A.2.1))
 )
def f98(fuel:Nat)(p0:List Int)(p1:Int):Option ((List Int)):=
 Option.bind (iter (GW fuel p0 p1) fuel ([],false,0)) fun A=>
 Option.bind (
  if(!A.2)=true then(
   (room A.1 p1).bind fun K=>
   some K
  ) else(
   some A.1
  )
 ) fun O=>
 some O
theorem Om{K:Ar}{c2:Nat}{p0:List Int}{p1:Int}(az:Ao rI E K c2 (p0)){fuel:Nat}{r:(List Int)}(aN:f98 fuel p0 p1=some r):Aq J 98 [.slice K (p0).length c2,iV p1] E [] (fun w E' B'=>∃(aO:Ar) (aP:Nat),w= .slice aO (r).length aP∧B'= []∧Ao rI E' aO aP (r)):=by
 refine Aq.en func98 rfl rfl fun Q ce cs H a5 a6=>?_;unfold f98 at aN;obtain⟨ae,a7,a8⟩:=bs aN;refine zg 17 rfl ?_;refine JL.join (fun L s=>∃(aa:LH) (ag:Ar) (ah:Nat) (ao:Seg),Jn E H aa [ao] [(1,iV p1),(5,.slice ag (ae.1).length ah),(6,.bool ae.2)] L s (OL 3 rI aa ag ah ao (ae.1))) ?_ ?_
 ·rintro _ _ ⟨aa,ag,ah,ao,rfl,rfl,a9,aQ,aR⟩;refine zg 4 rfl ?_;refine JL.Y (v:= .bool (!ae.2)) rfl (fun ρ h=>Yl.not (h _ _ rfl)) ?_;obtain⟨aS,aT,ba⟩:=bs a8;refine JL.done ?_;refine JL.join (fun L s=>∃(aA:LH) (ap:Ar) (aq:Nat) (aB:Seg),Jn aa H aA [aB] [(5,.slice ap (aS).length aq)] L s (OL 3 rI aA ap aq aB (aS))) ?_ ?_
  ·rintro _ _ ⟨aA,ap,aq,aB,rfl,rfl,bb,bc,bd⟩;refine zg 5 rfl ?_;refine JS.BJ 0 bd bc rfl fun cf bf bg bh=>?_;obtain rfl:=oi ba;refine JL.rt func98 rfl rfl ?_;exact a6 _ _ _ _ ((a9.trans bb).trans bf) rfl ⟨ap,aq,rfl,rfl,bg⟩ bh
  ·intro aU;refine JL.split (t:=(!ae.2)) rfl (fun aC=>?_) (fun aC=>?_)
   ·have bi:=ip aT aC;obtain⟨cg,bj,bk⟩:=bs bi;refine zg 3 rfl ?_;refine JS.app (pp:=rI) (v:=iV p1) (a:=ag) (c:=ah) 0 bj rfl rfl rfl rfl (fun _=>rfl) rfl (fun _=>rfl) rfl rfl rfl underlying28 underlying28 underlying28 (Ag type3) (Cs type3) (AO type3) rfl (by decide) (by decide) (by decide) (by decide) aR rfl aQ rfl fun ci bl bm bn bo bp=>?_;refine zg 2 rfl ?_;obtain rfl:=oi bk;exact JL.kw (aU _ _ ⟨aa,bl,bm,bn,rfl,rfl,(Le.refl _),bp,bo⟩) rfl
   ·have bq:=ib aT aC;refine JL.skip ?_;obtain rfl:=oi bq;exact JL.kw (aU _ _ ⟨aa,ag,ah,ao,rfl,rfl,(Le.refl _),aQ,aR⟩) rfl
 ·intro br;refine JL.block ?_;refine JL.wk [(0,.slice K (p0).length c2),(1,iV p1),(5,.slice none 0 0),(6,.bool false),(7,iV 0)] rfl ?_;refine JL.Bf a7 (fun L s A=>∃(O:LH) (U:Ar) (Z:Nat) (ab:Seg),Jn E H O [ab] [(0,.slice K (p0).length c2),(1,iV p1),(5,.slice U (A.1).length Z),(6,.bool A.2.1),(7,iV A.2.2)] L s (OL 3 rI O U Z ab (A.1))) ⟨E,none,0,[],rfl,rfl,(Le.refl _),a5,OL.nil⟩ ?_;rintro _ _ A ⟨O,U,Z,ab,rfl,rfl,ai,aD,aE⟩ bu ⟨ck,aF⟩ bv;have aG:=aF;unfold GW at aG;refine zg 5 rfl ?_;refine JL.Y rfl (fun ρ h=>Yl.len rfl underlying28 (h _ _ rfl)) ?_;refine zg 2 rfl ?_;refine JL.ifs (p:=A.2.2<((p0).length:Int)) rfl (fun aH=>?_) (fun aH=>?_)
  ·have bw:=ip aG aH;obtain⟨bx,bz,bA⟩:=bs bw;refine zg 8 rfl ?_;refine JS.BF (az.mono ai) bz rfl rfl rfl rfl rfl underlying28 (Ag type3) ?_;rintro cm cn _ rfl bB;refine JL.ld 0 bB (Al underlying3) rfl rfl rfl ?_;obtain⟨aV,aW,bC⟩:=bs bA;refine zg 3 rfl ?_;refine JL.BI [] (fun L s=>∃(aj:LH),Jm O H aj [ab] [(0,.slice K (p0).length c2),(1,iV p1),(5,.slice U (A.1).length Z),(6,.bool A.2.1),(7,iV A.2.2),(23,.bool aV)] L s) ?_ ?_
   ·rintro _ _ ⟨aj,rfl,rfl,ak,aX⟩;obtain⟨al,aY,bD⟩:=bs bC;refine JL.done ?_;refine JL.join (fun L s=>∃(ac:LH) (am:Ar) (an:Nat) (ar:Seg),Jn aj H ac [ar] [(0,.slice K (p0).length c2),(1,iV p1),(5,.slice am (al.1).length an),(6,.bool al.2),(7,iV A.2.2)] L s (OL 3 rI ac am an ar (al.1))) ?_ ?_
    ·rintro _ _ ⟨ac,am,an,ar,rfl,rfl,aI,aZ,a0⟩;obtain⟨bE,bF,bG⟩:=bs bD;refine zg 4 rfl ?_;refine JS.BF (az.mono ((ai.trans ak).trans aI)) bF rfl rfl rfl rfl rfl underlying28 (Ag type3) ?_;rintro co cp _ rfl bH;refine JL.ld 0 bH (Al underlying3) rfl rfl rfl ?_;obtain⟨aJ,a1,bI⟩:=bs bG;refine zg 3 rfl ?_;refine JL.join (fun L s=>∃(au:LH) (av:Ar) (aw:Nat) (ay:Seg),Jn ac H au [ay] [(0,.slice K (p0).length c2),(1,iV p1),(5,.slice av (aJ).length aw),(6,.bool al.2),(7,iV A.2.2)] L s (OL 3 rI au av aw ay (aJ))) ?_ ?_
     ·rintro _ _ ⟨au,av,aw,ay,rfl,rfl,bJ,bK,bL⟩;obtain⟨bM,bN,bO⟩:=bs bI;refine zg 3 rfl ?_;refine JL.Y rfl (fun ρ h=>Yl.A0 (h _ _ rfl) (h _ _ rfl) bN) ?_;refine zg 2 rfl ?_;obtain rfl:=oi bO;exact JL.kw (bv _ _ (aJ,al.2,bM) ⟨au,av,aw,ay,rfl,rfl,(((ai.trans ak).trans aI).trans bJ),bK,bL⟩ aF) rfl
     ·intro a2;refine JL.ifs (p:=bE≠p1) rfl (fun aK=>?_) (fun aK=>?_)
      ·have bP:=ip a1 aK;obtain⟨bQ,bR,bS⟩:=bs bP;refine zg 4 rfl ?_;refine JS.BF (az.mono ((ai.trans ak).trans aI)) bR rfl rfl rfl rfl rfl underlying28 (Ag type3) ?_;rintro cq cr _ rfl bT;refine JL.ld 0 bT (Al underlying3) rfl rfl rfl ?_;obtain⟨ct,bU,bV⟩:=bs bS;refine JS.app (pp:=rI) (v:=iV bQ) (a:=am) (c:=an) 0 bU rfl rfl rfl rfl (fun _=>rfl) rfl (fun _=>rfl) rfl rfl rfl underlying28 underlying28 underlying28 (Ag type3) (Cs type3) (AO type3) rfl (by decide) (by decide) (by decide) (by decide) a0 rfl aZ rfl fun cu bW bX bY bZ b0=>?_;refine zg 2 rfl ?_;obtain rfl:=oi bV;exact JL.kw (a2 _ _ ⟨ac,bW,bX,bY,rfl,rfl,(Le.refl _),b0,bZ⟩) rfl
      ·have b1:=im a1 aK;refine JL.skip ?_;obtain rfl:=oi b1;exact JL.kw (a2 _ _ ⟨ac,am,an,ar,rfl,rfl,(Le.refl _),aZ,a0⟩) rfl
    ·intro a3;refine JL.split (t:=aV) rfl (fun aL=>?_) (fun aL=>?_)
     ·have b2:=ip aY aL;obtain⟨cv,b3,b4⟩:=bs b2;refine zg 3 rfl ?_;refine JS.app (pp:=rI) (v:=iV p1) (a:=U) (c:=Z) 0 b3 rfl rfl rfl rfl (fun _=>rfl) rfl (fun _=>rfl) rfl rfl rfl underlying28 underlying28 underlying28 (Ag type3) (Cs type3) (AO type3) rfl (by decide) (by decide) (by decide) (by decide) (aE.mono ak) rfl aX rfl fun cw b5 b6 b7 b8 b9=>?_;refine zg 3 rfl ?_;obtain rfl:=oi b4;exact JL.kw (a3 _ _ ⟨aj,b5,b6,b7,rfl,rfl,(Le.refl _),b9,b8⟩) rfl
     ·have ca:=ib aY aL;refine JL.skip ?_;obtain rfl:=oi ca;exact JL.kw (a3 _ _ ⟨aj,U,Z,ab,rfl,rfl,(Le.refl _),aX,(aE.mono ak)⟩) rfl
   ·intro a4;refine JL.BW (q:=p1≤bx) (i:=20) rfl (fun aM=>?_) (fun aM=>?_)
    ·have cb:=ip aW aM;refine zg 1 rfl ?_;refine JL.Y (v:= .bool (!A.2.1)) rfl (fun ρ h=>Yl.not (h _ _ rfl)) ?_;refine zg 1 rfl ?_;obtain rfl:=oi cb;exact JL.kw (a4 _ _ ⟨O,rfl,rfl,(Le.refl _),aD⟩) rfl
    ·have cc:=im aW aM;refine zg 3 rfl ?_;obtain rfl:=oi cc;exact JL.kw (a4 _ _ ⟨O,rfl,rfl,(Le.refl _),aD⟩) rfl
  ·have cd:=im aG aH;refine JL.exit rfl ?_;obtain rfl:=oi cd;obtain rfl:=bu _ aF;exact JL.kw (br _ _ ⟨O,U,Z,ab,rfl,rfl,ai,aD,aE⟩) rfl
def f108(fuel:Nat)(p0:List Int):Option ((List Int)):=
 (C7 ([]:List Int) p0).bind fun A=>
 some A
theorem SO{A:Ar}{c2:Nat}{p0:List Int}(Z:Ao rI E A c2 (p0)){fuel:Nat}{r:(List Int)}(K:f108 fuel p0=some r):Aq J 108 [.slice A (p0).length c2] E [] (fun w E' B'=>∃(O:Ar) (U:Nat),w= .slice O (r).length U∧B'= []∧Ao rI E' O U (r)):=by
 refine Aq.en func108 rfl rfl fun Q ap cs H aa ab=>?_;unfold f108 at K;refine zg 6 rfl ?_;refine JS.G8 (pp:=rI) rfl rfl rfl underlying28 (Ag type3) aa fun aq ar ac ae=>?_;obtain⟨au,ag,ah⟩:=bs K;refine zg 1 rfl ?_;refine JS.KV (pp:=rI) 1 ag rfl rfl rfl rfl rfl rfl rfl underlying28 underlying28 (Ag type3) (Cs type3) (AO type3) rfl (by decide) (by decide) ac Z ae rfl fun ai aj av ak al=>?_;refine zg 2 rfl ?_;refine JS.BJ 1 ak al rfl fun aw am an ao=>?_;obtain rfl:=oi ah;refine JL.rt func108 rfl rfl ?_;exact ab _ _ _ _ am rfl ⟨ai,aj,rfl,rfl,an⟩ ao
def I0(fuel:Nat)(p0:List (List Int))(A:(List (List Int))×Int):Option (A4 ((List (List Int))×Int) ((List (List Int)))):=
 if A.2<((p0).length:Int) then(
  (ix p0 (A.2)).bind fun K=>
  (f108 fuel K).bind fun O=>
  (ix A.1 (A.2)).bind fun Z=>
  (Ax (A.2+1)).bind fun U=>
  some (.more ((A.1.set (Int.toNat A.2) O),U))
 ) else(
  some (.done A.1)
 )
def f77(fuel:Nat)(p0:List (List Int)):Option ((List (List Int))):=
 (F6 ((p0).length:Int) ([]:List Int)).bind fun A=>
 Option.bind (iter (I0 fuel p0) fuel (A,0)) fun K=>
 some K
theorem Oh{O:Ar}{c2:Nat}{p0:List (List Int)}(aD:Ao (rL rI) E O c2 (p0)){fuel:Nat}{r:(List (List Int))}(aq:f77 fuel p0=some r):Aq J 77 [.slice O (p0).length c2] E [] (fun w E' B'=>∃(ar:Ar) (au:Nat),w= .slice ar (r).length au∧B'= []∧Ao (rL rI) E' ar au (r)):=by
 refine Aq.en func77 rfl rfl fun Q bn cs H aE aF=>?_;unfold f77 at aq;refine zg 7 rfl ?_;refine JL.Y rfl (fun ρ h=>Yl.len rfl underlying22 (h _ _ rfl)) ?_;obtain⟨ai,aG,aH⟩:=bs aq;refine JS.make (pp:=(rL rI)) aG rfl rfl rfl rfl rfl underlying22 (Ag type28) (Cs type28) (by decide) (AO type28) (by decide) ⟨_,_,rfl,Ao.nil⟩ aE fun av aI aJ aK=>?_;obtain⟨aw,aL,aM⟩:=bs aH;refine zg 7 rfl ?_;refine JL.join (fun L s=>∃(aj:LH) (aa:Ar) (ab:Nat) (ak:Seg),Jn E H aj [ak] [(3,.slice aa (aw).length ab)] L s (OL 28 (rL rI) aj aa ab ak (aw))) ?_ ?_
 ·rintro _ _ ⟨aj,aa,ab,ak,rfl,rfl,aN,aO,aP⟩;refine zg 5 rfl ?_;refine JS.BJ 0 aP aO rfl fun bo aQ aR aS=>?_;obtain rfl:=oi aM;refine JL.rt func77 rfl rfl ?_;exact aF _ _ _ _ (aN.trans aQ) rfl ⟨aa,ab,rfl,rfl,aR⟩ aS
 ·intro aT;refine JL.block ?_;refine JL.wk [(0,.slice O (p0).length c2),(3,.slice (some ⟨av,0,none⟩) (ai).length (ai).length),(4,iV 0)] rfl ?_;refine JL.Bf aL (fun L s A=>∃(ac:LH) (U:Ar) (Z:Nat) (ae:Seg),Jn E H ac [ae] [(0,.slice O (p0).length c2),(3,.slice U (A.1).length Z),(4,iV A.2)] L s (OL 28 (rL rI) ac U Z ae (A.1))) ⟨E,(some ⟨av,0,none⟩),(ai).length,aI,rfl,rfl,(Le.refl _),aK,aJ⟩ ?_;rintro _ _ A ⟨ac,U,Z,ae,rfl,rfl,al,ay,az⟩ aU ⟨bp,am⟩ aV;have an:=am;unfold I0 at an;refine zg 5 rfl ?_;refine JL.Y rfl (fun ρ h=>Yl.len rfl underlying22 (h _ _ rfl)) ?_;refine zg 2 rfl ?_;refine JL.ifs (p:=A.2<((p0).length:Int)) rfl (fun ao=>?_) (fun ao=>?_)
  ·have aW:=ip an ao;obtain⟨aX,aY,aZ⟩:=bs aW;refine zg 8 rfl ?_;refine JS.BF (aD.mono al) aY rfl rfl rfl rfl rfl underlying22 (Ag type28) ?_;rintro a0 a1 _ ⟨a2,a3,rfl,a4⟩ a5;refine JL.ld 0 a5 (Al underlying28) rfl rfl rfl ?_;obtain⟨K,a6,a7⟩:=bs aZ;refine JS.cl (SO a4 a6) rfl rfl (Aw func108 rfl) ay ?_;rintro _ a8 _ aA ⟨ag,ah,rfl,rfl,a9⟩ ba;obtain⟨bq,bb,bc⟩:=bs a7;refine JS.KT 0 (az.mono aA) bb rfl rfl rfl rfl rfl rfl underlying22 (Ag type28) ?_;rintro aB ap f78 _ bd ⟨br,bu,rfl,bv⟩ bw bf bg bx bz;refine JS.store (v:= .slice ag (K).length ah) (off:=ap) 0 rfl rfl rfl ba rfl rfl (Ag type28) (by simp [Value.cells,BB]) bd (by have:=bf;simp only [Rp.n,rK,rN,rB,rP,rL] at this;show _+1≤_;omega) fun bh=>?_;have bi:=bg (K) [.slice ag (K).length ah] ⟨_,_,rfl,a9⟩;have aC:(A.1.set (Int.toNat A.2) K).length=(A.1).length:=List.length_set;refine JL.BU (L':= [(0,.slice O (p0).length c2),(3,.slice U ((A.1.set (Int.toNat A.2) K)).length Z),(4,iV A.2),(8,iV A.2),(9,.slice O (p0).length c2),(10,iV ((p0).length:Int)),(11,.bool (decide (A.2<((p0).length:Int)))),(14,.slice U ((A.1.set (Int.toNat A.2) K)).length Z),(15,iV A.2),(16,.slice O (p0).length c2),(17,iV A.2),(18,.pointer (some ⟨a0,a1,none⟩)),(19,.slice a2 (aX).length a3),(20,.slice ag (K).length ah),(21,.pointer (some ⟨aB,ap,none⟩))]) ⟨rfl,by rw [aC];rfl,rfl,rfl,rfl,rfl,rfl,by rw [aC];rfl,rfl,rfl,rfl,rfl,rfl,rfl,rfl,trivial⟩ ?_;obtain⟨bj,bk,bl⟩:=bs bc;refine zg 4 rfl ?_;refine JL.Y rfl (fun ρ h=>Yl.A0 (h _ _ rfl) (h _ _ rfl) bk) ?_;refine zg 2 rfl ?_;obtain rfl:=oi bl;exact JL.kw (aV _ _ ((A.1.set (Int.toNat A.2) K),bj) ⟨a8,U,Z,[(aB,.cells (A5 f78 ap [.slice ag (K).length ah]) 28 (0,0))],rfl,rfl,(al.trans aA),bh,bi⟩ am) rfl
  ·have bm:=im an ao;refine JL.exit rfl ?_;obtain rfl:=oi bm;obtain rfl:=aU _ am;exact JL.kw (aT _ _ ⟨ac,U,Z,ae,rfl,rfl,al,ay,az⟩) rfl
def f26(fuel:Nat)(p0:A2):Option ((A2)):=
 (f77 fuel p0.1).bind fun A=>
 (f77 fuel p0.2).bind fun K=>
 some (A,K)
theorem TJ{ab:Ar}{c2:Nat}{ac:Ar}{ae:Nat}{p0:A2}(aq:Ao (rL rI) E ab c2 (p0.1))(ar:Ao (rL rI) E ac ae (p0.2)){fuel:Nat}{r:(A2)}(ah:f26 fuel p0=some r):Aq J 26 [.agg #[.slice ab (p0.1).length c2,.slice ac (p0.2).length ae]] E [] (fun w E' B'=>∃(ai:Ar) (aj:Nat) (ak:Ar) (al:Nat),w= .agg #[.slice ai (r.1).length aj,.slice ak (r.2).length al]∧B'= []∧Ao (rL rI) E' ai aj (r.1)∧Ao (rL rI) E' ak al (r.2)):=by
 refine Aq.en func26 rfl rfl fun Q aJ cs H au av=>?_;unfold f26 at ah;refine zg 2 rfl ?_;refine JS.box (v:= .agg #[.slice ab (p0.1).length c2,.slice ac (p0.2).length ae]) rfl rfl rfl au rfl fun aK aw=>?_;refine JS.Ba 1 aw rfl fun aL ag am ay=>?_;refine JS.alloc rfl rfl rfl ay (AO type24) fun aM az=>?_;refine zg 2 rfl ?_;refine JG.Co 5 mixed rfl (by decide+kernel) fun ht=>?_;refine JG.fd 0 ht underlying24 (Ag type22) rfl rfl rfl rfl ?_;refine JG.ld 1 ht 0 am (Al underlying22) rfl rfl rfl rfl ?_;refine JG.fd 3 ht underlying24 (Ag type22) rfl rfl rfl rfl ?_;refine JG.ld 4 ht 1 am (Al underlying22) rfl rfl rfl rfl ?_;obtain⟨Z,aA,aB⟩:=bs ah;refine JG.call (i:=2) (vs:= [.slice ab (p0.1).length c2]) (Oh (aq.mono ag) aA) (by decide+kernel) rfl rfl rfl (Aw func77 rfl) rfl az ?_;rintro _ aN _ an ⟨A,K,rfl,rfl,aC⟩ aD;refine Av.leaf (tail:= [5,6,7]) (by decide+kernel) (fun t=>A1 (by decide+kernel) (A1 (by decide+kernel) (A1 (by decide+kernel) BM)) t) ?_;obtain⟨aa,aE,aF⟩:=bs aB;refine JS.cl (Oh (ar.mono (ag.trans an)) aE) rfl rfl (Aw func77 rfl) aD ?_;rintro _ aO _ ao ⟨O,U,rfl,rfl,aG⟩ aH;refine JL.Y (v:= .agg #[.slice A (Z).length K,.slice O (aa).length U]) rfl (fun ρ h=>Yl.Cb [(0,1),(1,1)] h (AO type24) underlying24 ⟨rfl,Ag type22,rfl,Ag type22,trivial⟩ rfl rfl) ?_;refine JS.st (v:= .agg #[.slice A (Z).length K,.slice O (aa).length U]) (off:=0) 2 aH (Ag type24) rfl rfl rfl rfl fun ap=>?_;refine JL.done ?_;obtain rfl:=oi aF;refine JL.ret (v:= .agg #[.slice A (Z).length K,.slice O (aa).length U]) rfl rfl (Bx.list func26 rfl (vs:= [.agg #[.slice A (Z).length K,.slice O (aa).length U]]) ⟨⟨_,rfl,Ld.many (vs:= [.slice A (Z).length K,.slice O (aa).length U]) (Al underlying24) (Ag type24) (D8 (off:=0) 2 ap rfl rfl)⟩,trivial⟩) ?_;refine F0 2 ap rfl fun aI=>?_;exact av _ _ _ _ ((ag.trans an).trans ao) rfl ⟨A,K,O,U,rfl,rfl,(aC.mono ao),aG⟩ aI
def IQ(fuel:Nat)(p0:List (List Int))(A:Int):Option (A4 (Int) ((Bool)⊕(Unit))):=
 Option.bind (
  if A<((p0).length:Int) then(
   some (decide (A<20))
  ) else(
   some false
  )
 ) fun K=>
 if K=true then(
  (ix p0 (A)).bind fun O=>
  if 20<((O).length:Int) then(
   some (.done (Sum.inl true))
  ) else(
   (Ax (A+1)).bind fun U=>
   some (.more U)
  )
 ) else(
  some (.done (Sum.inr ()))
 )
def f76(fuel:Nat)(p0:List (List Int)):Option (Bool):=
 Option.bind (iter (IQ fuel p0) fuel 0) fun A=>
 Sum.elim (fun r=>some r) (fun K=>
 some (decide (20<((p0).length:Int)))
 ) A
theorem OD{A:Ar}{c2:Nat}{p0:List (List Int)}(az:Ao (rL rI) E A c2 (p0)){fuel:Nat}{r:Bool}(ai:f76 fuel p0=some r):Aq J 76 [.slice A (p0).length c2] E [] (fun w E' B'=>w= .bool r∧B'= []):=by
 refine Aq.en func76 rfl rfl fun Q aV cs H aA aj=>?_;unfold f76 at ai;obtain⟨ak,aB,al⟩:=bs ai;refine zg 9 rfl ?_;refine JL.join (fun L s=>∃(am:Unit) (an:LH),ak=Sum.inr am∧Jm E H an [] [(0,.slice A (p0).length c2)] L s) ?_ ?_
 ·rintro _ _ ⟨am,an,rfl,rfl,rfl,aC,aD⟩;have aE:=elim_inr al;refine zg 3 rfl ?_;refine JL.Y rfl (fun ρ h=>Yl.len rfl underlying22 (h _ _ rfl)) ?_;refine zg 3 rfl ?_;obtain rfl:=oi aE;refine JL.rt func76 rfl rfl ?_;exact aj _ _ _ _ aC rfl ⟨rfl,rfl⟩ aD
 ·intro aF;refine JL.block ?_;refine JL.wk [(0,.slice A (p0).length c2),(3,iV 0)] rfl ?_;refine JL.Bf aB (fun L s O=>∃(K:LH),Jm E H K [] [(0,.slice A (p0).length c2),(3,iV O)] L s) ⟨E,rfl,rfl,(Le.refl _),aA⟩ ?_;rintro _ _ O ⟨K,rfl,rfl,U,ao⟩ ap ⟨aW,Z⟩ aG;have aq:=Z;unfold IQ at aq;refine zg 5 rfl ?_;refine JL.Y rfl (fun ρ h=>Yl.len rfl underlying22 (h _ _ rfl)) ?_;obtain⟨ar,au,av⟩:=bs aq;refine zg 2 rfl ?_;refine JL.BI [] (fun L s=>∃(aa:LH),Jm K H aa [] [(0,.slice A (p0).length c2),(3,iV O),(11,.bool ar)] L s) ?_ ?_
  ·rintro _ _ ⟨aa,rfl,rfl,ab,ac⟩;refine JL.done ?_;refine JL.split (t:=ar) rfl (fun ae=>?_) (fun ae=>?_)
   ·have aH:=ip av ae;obtain⟨aI,aJ,aw⟩:=bs aH;refine zg 7 rfl ?_;refine JS.BF (az.mono (U.trans ab)) aJ rfl rfl rfl rfl rfl underlying22 (Ag type28) ?_;rintro aX aY _ ⟨aZ,a0,rfl,a1⟩ aK;refine JL.ld 0 aK (Al underlying28) rfl rfl rfl ?_;refine JL.Y rfl (fun ρ h=>Yl.len rfl underlying28 (h _ _ rfl)) ?_;refine zg 2 rfl ?_;refine JL.ifs (p:=20<((aI).length:Int)) rfl (fun ag=>?_) (fun ag=>?_)
    ·have aL:=ip aw ag;refine zg 4 rfl ?_;obtain rfl:=oi aL;obtain rfl:=ap _ Z;have aM:=elim_inl al;obtain rfl:=oi aM;refine JL.rt func76 rfl rfl ?_;exact aj _ _ _ _ (U.trans ab) rfl ⟨rfl,rfl⟩ ac
    ·have aN:=im aw ag;obtain⟨aO,aP,aQ⟩:=bs aN;refine zg 4 rfl ?_;refine JL.Y rfl (fun ρ h=>Yl.A0 (h _ _ rfl) (h _ _ rfl) aP) ?_;refine zg 2 rfl ?_;obtain rfl:=oi aQ;exact JL.kw (aG _ _ aO ⟨aa,rfl,rfl,(U.trans ab),ac⟩ Z) rfl
   ·have aR:=ib av ae;refine JL.exit rfl ?_;obtain rfl:=oi aR;have aS:ak=(Sum.inr ()):=(ap _ Z).symm;exact JL.kw (aF _ _ ⟨(),aa,aS,rfl,rfl,(U.trans ab),ac⟩) rfl
  ·intro ay;refine JL.BW (q:=O<((p0).length:Int)) (i:=8) rfl (fun ah=>?_) (fun ah=>?_)
   ·have aT:=ip au ah;refine zg 3 rfl ?_;obtain rfl:=oi aT;exact JL.kw (ay _ _ ⟨K,rfl,rfl,(Le.refl _),ao⟩) rfl
   ·have aU:=im au ah;refine zg 3 rfl ?_;obtain rfl:=oi aU;exact JL.kw (ay _ _ ⟨K,rfl,rfl,(Le.refl _),ao⟩) rfl
def f21(fuel:Nat)(p0:A2):Option (Bool):=
 (f76 fuel p0.1).bind fun A=>
 Option.bind (
  if A=true then(
   some true
  ) else(
   (f76 fuel p0.2).bind fun K=>
   some K
  )
 ) fun O=>
 some O
theorem Ua{A:Ar}{c2:Nat}{K:Ar}{O:Nat}{p0:A2}(ak:Ao (rL rI) E A c2 (p0.1))(al:Ao (rL rI) E K O (p0.2)){fuel:Nat}{r:Bool}(ab:f21 fuel p0=some r):Aq J 21 [.agg #[.slice A (p0.1).length c2,.slice K (p0.2).length O]] E [] (fun w E' B'=>w= .bool r∧B'= []):=by
 refine Aq.en func21 rfl rfl fun Q aH cs H am an=>?_;unfold f21 at ab;refine zg 2 rfl ?_;refine JS.box (v:= .agg #[.slice A (p0.1).length c2,.slice K (p0.2).length O]) rfl rfl rfl am rfl fun aI ao=>?_;refine JS.Ba 1 ao rfl fun aJ U ac ap=>?_;refine zg 4 rfl ?_;refine JL.fd underlying24 (Ag type22) rfl rfl rfl ?_;refine JL.ld 0 ac (Al underlying22) rfl rfl rfl ?_;obtain⟨aq,ar,au⟩:=bs ab;refine JS.cl (OD (ak.mono U) ar) rfl rfl (Aw func76 rfl) ap ?_;rintro _ ae _ Z ⟨rfl,rfl⟩ ag;obtain⟨av,ah,aw⟩:=bs au;refine zg 1 rfl ?_;refine JL.BI [8] (fun L s=>∃(ai:LH),Jm ae H ai [] [(10,.bool av)] L s) ?_ ?_
 ·rintro _ _ ⟨ai,rfl,rfl,ay,az⟩;refine zg 2 rfl ?_;obtain rfl:=oi aw;refine JL.rt func21 rfl rfl ?_;exact an _ _ _ _ ((U.trans Z).trans ay) rfl ⟨rfl,rfl⟩ az
 ·intro aj;refine JL.Cg (c:=aq) (i:=6) rfl (fun aa=>?_) (fun aa=>?_)
  ·have aA:=ip ah aa;refine zg 4 rfl ?_;obtain rfl:=oi aA;exact JL.kw (aj _ _ ⟨ae,rfl,rfl,(Le.refl _),ag⟩) rfl
  ·have aB:=ib ah aa;refine JL.fd underlying24 (Ag type22) rfl rfl rfl ?_;refine JL.ld 1 (ac.mono Z) (Al underlying22) rfl rfl rfl ?_;obtain⟨aK,aC,aD⟩:=bs aB;refine JS.cl (OD (al.mono (U.trans Z)) aC) rfl rfl (Aw func76 rfl) ag ?_;rintro _ aE _ aF ⟨rfl,rfl⟩ aG;refine zg 1 rfl ?_;obtain rfl:=oi aD;exact JL.kw (aj _ _ ⟨aE,rfl,rfl,aF,aG⟩) rfl
def Iy(fuel:Nat)(p0:A2)(p1:List Int)(A:Int):Option (A4 (Int) ((Int)⊕(Unit))):=
 if A<((p1).length:Int) then(
  (ix p1 (A)).bind fun K=>
  (Ax (((p0.1).length:Int) - 1)).bind fun O=>
  (f104 fuel K 0 O).bind fun U=>
  if(!U)=true then(
   some (.done (Sum.inl 3))
  ) else(
   Option.bind (
    if 0<A then(
     (ix p1 (A)).bind fun Z=>
     (Ax (A - 1)).bind fun aa=>
     (ix p1 (aa)).bind fun ab=>
     some (decide (Z≤ab))
    ) else(
     some false
    )
   ) fun ac=>
   if ac=true then(
    some (.done (Sum.inl 5))
   ) else(
    (Ax (A+1)).bind fun ae=>
    some (.more ae)
   )
  )
 ) else(
  some (.done (Sum.inr ()))
 )
def f114(fuel:Nat)(p0:A2)(p1:List Int):Option (Int):=
 if((p1).length:Int)=0 then(
  some 7
 ) else(
  if 3<((p1).length:Int) then(
   some 6
  ) else(
   Option.bind (iter (Iy fuel p0 p1) fuel 0) fun A=>
   Sum.elim (fun r=>some r) (fun K=>
   some 0
   ) A
  )
 )
theorem Tw{ae:Ar}{c2:Nat}{ag:Ar}{ah:Nat}{O:Ar}{U:Nat}{p0:A2}{p1:List Int}(bu:Ao (rL rI) E ae c2 (p0.1))(bv:Ao (rL rI) E ag ah (p0.2))(ai:Ao rI E O U (p1)){fuel:Nat}{r:Int}(aj:f114 fuel p0 p1=some r):Aq J 114 [.agg #[.slice ae (p0.1).length c2,.slice ag (p0.2).length ah],.slice O (p1).length U] E [] (fun w E' B'=>w=iV r∧B'= []):=by
 refine Aq.en func114 rfl rfl fun Q bw cs H aN Z=>?_;unfold f114 at aj;refine zg 2 rfl ?_;refine JS.box (v:= .agg #[.slice ae (p0.1).length c2,.slice ag (p0.2).length ah]) rfl rfl rfl aN rfl fun ak aO=>?_;refine JS.Ba 1 aO rfl fun al A aP am=>?_;refine zg 6 rfl ?_;refine JL.Y rfl (fun ρ h=>Yl.len rfl underlying28 (h _ _ rfl)) ?_;refine zg 2 rfl ?_;refine JL.ifs (p:=((p1).length:Int)=0) rfl (fun an=>?_) (fun an=>?_)
 ·have aQ:=ip aj an;refine zg 4 rfl ?_;obtain rfl:=oi aQ;refine JL.rt func114 rfl rfl ?_;exact Z _ _ _ _ A rfl ⟨rfl,rfl⟩ am
 ·have aB:=im aj an;refine zg 5 rfl ?_;refine JL.Y rfl (fun ρ h=>Yl.len rfl underlying28 (h _ _ rfl)) ?_;refine zg 2 rfl ?_;refine JL.ifs (p:=3<((p1).length:Int)) rfl (fun ao=>?_) (fun ao=>?_)
  ·have aR:=ip aB ao;refine zg 4 rfl ?_;obtain rfl:=oi aR;refine JL.rt func114 rfl rfl ?_;exact Z _ _ _ _ A rfl ⟨rfl,rfl⟩ am
  ·have aS:=im aB ao;obtain⟨aC,aT,ap⟩:=bs aS;refine zg 6 rfl ?_;refine JL.join (fun L s=>∃(aD:Unit) (aE:LH),aC=Sum.inr aD∧Jm al H aE [] [] L s) ?_ ?_
   ·rintro _ _ ⟨aD,aE,rfl,rfl,rfl,aU,aV⟩;have aW:=elim_inr ap;refine zg 4 rfl ?_;obtain rfl:=oi aW;refine JL.rt func114 rfl rfl ?_;exact Z _ _ _ _ (A.trans aU) rfl ⟨rfl,rfl⟩ aV
   ·intro aX;refine JL.block ?_;refine JL.wk [(1,.slice O (p1).length U),(2,.pointer (some ⟨ak,0,none⟩)),(5,iV 0)] rfl ?_;refine JL.Bf aT (fun L s aa=>∃(aq:LH),Jm al H aq [] [(1,.slice O (p1).length U),(2,.pointer (some ⟨ak,0,none⟩)),(5,iV aa)] L s) ⟨al,rfl,rfl,(Le.refl _),am⟩ ?_;rintro _ _ aa ⟨aq,rfl,rfl,K,aF⟩ ar ⟨bx,ab⟩ aY;have au:=ab;unfold Iy at au;refine zg 5 rfl ?_;refine JL.Y rfl (fun ρ h=>Yl.len rfl underlying28 (h _ _ rfl)) ?_;refine zg 2 rfl ?_;refine JL.ifs (p:=aa<((p1).length:Int)) rfl (fun av=>?_) (fun av=>?_)
    ·have aZ:=ip au av;refine zg 5 rfl ?_;refine JG.Co 8 mixed rfl (by decide+kernel) fun ht=>?_;refine JG.ms ht rfl [0,1] rfl ?_;obtain⟨bz,a0,a1⟩:=bs aZ;refine JG.idx 2 (ai.mono (A.trans K)) a0 rfl ht (by decide+kernel) rfl rfl rfl rfl rfl underlying28 (Ag type3) ?_;rintro bA bB _ rfl a2;refine JG.ld 3 ht 0 a2 (Al underlying3) rfl rfl rfl rfl ?_;refine JG.fd 4 ht underlying24 (Ag type22) rfl rfl rfl rfl ?_;refine JG.ld 5 ht 0 (aP.mono K) (Al underlying22) rfl rfl rfl rfl ?_;refine JG.V 6 ht rfl rfl (fun ρ h s' hs=>Yl.len rfl underlying22 (h _ _ rfl)) ?_;obtain⟨bC,a3,a4⟩:=bs a1;refine JG.V 7 ht rfl rfl (fun ρ h s' hs=>Yl.Bb (h _ _ rfl) (h _ _ rfl) a3) ?_;refine Av.leaf (tail:= [8,9]) (by decide+kernel) (fun t=>A1 (by decide+kernel) (A1 (by decide+kernel) BM) t) ?_;obtain⟨aG,a5,aH⟩:=bs a4;refine JS.cl (Hx a5) rfl rfl (Aw func104 rfl) aF ?_;rintro _ aI _ ac ⟨rfl,rfl⟩ aw;refine JL.Y (v:= .bool (!aG)) rfl (fun ρ h=>Yl.not (h _ _ rfl)) ?_;refine JL.done ?_;refine JL.split (t:=(!aG)) rfl (fun ay=>?_) (fun ay=>?_)
     ·have a6:=ip aH ay;refine zg 4 rfl ?_;obtain rfl:=oi a6;obtain rfl:=ar _ ab;have a7:=elim_inl ap;obtain rfl:=oi a7;refine JL.rt func114 rfl rfl ?_;exact Z _ _ _ _ ((A.trans K).trans ac) rfl ⟨rfl,rfl⟩ aw
     ·have a8:=ib aH ay;refine zg 2 rfl ?_;refine JG.Co 14 mixed rfl (by decide+kernel) fun ht=>?_;refine JG.ms ht rfl [0,1,2] rfl ?_;obtain⟨aJ,aK,aL⟩:=bs a8;refine Av.join 0 #[true,true,true,true,true,true,true,true,true,true,true,true,true,true] (fun L s=>L= [(1,.slice O (p1).length U),(2,.pointer (some ⟨ak,0,none⟩)),(5,iV aa),(41,.bool aJ)]∧s=Ap aI H [[]]) ?_ ?_
      ·rintro _ _ ⟨rfl,rfl⟩;refine Av.fin (by decide+kernel) ?_;refine JL.split (t:=aJ) rfl (fun az=>?_) (fun az=>?_)
       ·have a9:=ip aL az;refine zg 4 rfl ?_;obtain rfl:=oi a9;obtain rfl:=ar _ ab;have ba:=elim_inl ap;obtain rfl:=oi ba;refine JL.rt func114 rfl rfl ?_;exact Z _ _ _ _ ((A.trans K).trans ac) rfl ⟨rfl,rfl⟩ aw
       ·have bb:=ib aL az;obtain⟨bc,bd,bf⟩:=bs bb;refine zg 4 rfl ?_;refine JL.Y rfl (fun ρ h=>Yl.A0 (h _ _ rfl) (h _ _ rfl) bd) ?_;refine zg 2 rfl ?_;obtain rfl:=oi bf;exact JL.kw (aY _ _ bc ⟨aI,rfl,rfl,(K.trans ac),aw⟩ ab) rfl
      ·intro aM;refine Av.BW (q:=0<aa) (i:=30) rfl (fun aA=>?_) (fun aA=>?_)
       ·have bg:=ip aK aA;refine JG.ms ht rfl [3,4] rfl ?_;obtain⟨bD,bh,bi⟩:=bs bg;refine JG.idx 5 (ai.mono ((A.trans K).trans ac)) bh rfl ht (by decide+kernel) rfl rfl rfl rfl rfl underlying28 (Ag type3) ?_;rintro bE bF _ rfl bj;refine JG.ld 6 ht 0 bj (Al underlying3) rfl rfl rfl rfl ?_;refine JG.ms ht rfl [7,8] rfl ?_;obtain⟨bG,bk,bl⟩:=bs bi;refine JG.V 9 ht rfl rfl (fun ρ h s' hs=>Yl.Bb (h _ _ rfl) (h _ _ rfl) bk) ?_;obtain⟨bH,bm,bn⟩:=bs bl;refine JG.idx 10 (ai.mono ((A.trans K).trans ac)) bm rfl ht (by decide+kernel) rfl rfl rfl rfl rfl underlying28 (Ag type3) ?_;rintro bI bJ _ rfl bo;refine JG.ld 11 ht 0 bo (Al underlying3) rfl rfl rfl rfl ?_;refine JG.ms ht rfl [12,13] rfl ?_;obtain rfl:=oi bn;refine Av.BU ?_ (aM _ _ ⟨rfl,rfl⟩);exact⟨rfl,rfl,rfl,rfl,trivial⟩
       ·have bp:=im aK aA;refine JG.ms ht rfl [3,4,5,6,7,8,9,10,11,12,13] rfl ?_;obtain rfl:=oi bp;refine Av.BU ?_ (aM _ _ ⟨rfl,rfl⟩);exact⟨rfl,rfl,rfl,rfl,trivial⟩
    ·have bq:=im au av;refine JL.exit rfl ?_;obtain rfl:=oi bq;have br:aC=(Sum.inr ()):=(ar _ ab).symm;exact JL.kw (aX _ _ ⟨(),aq,br,rfl,rfl,K,aF⟩) rfl
def It(fuel:Nat)(p0:A2)(p1:Int)(p2:List Int)(A:Int):Option (A4 (Int) ((Int)⊕(Unit))):=
 if A<((p2).length:Int) then(
  (ix p2 (A)).bind fun K=>
  (Ax (((p0.1).length:Int) - 1)).bind fun O=>
  (f104 fuel K 0 O).bind fun U=>
  if(!U)=true then(
   some (.done (Sum.inl 3))
  ) else(
   (ix p2 (A)).bind fun Z=>
   if Z=p1 then(
    some (.done (Sum.inl 8))
   ) else(
    Option.bind (
     if 0<A then(
      (ix p2 (A)).bind fun aa=>
      (Ax (A - 1)).bind fun ab=>
      (ix p2 (ab)).bind fun ac=>
      some (decide (aa≤ac))
     ) else(
      some false
     )
    ) fun ae=>
    if ae=true then(
     some (.done (Sum.inl 5))
    ) else(
     (Ax (A+1)).bind fun ag=>
     some (.more ag)
    )
   )
  )
 ) else(
  some (.done (Sum.inr ()))
 )
def f115(fuel:Nat)(p0:A2)(p1:Int)(p2:List Int):Option (Int):=
 if 3<((p2).length:Int) then(
  some 6
 ) else(
  Option.bind (iter (It fuel p0 p1 p2) fuel 0) fun A=>
  Sum.elim (fun r=>some r) (fun K=>
  some 0
  ) A
 )
theorem S6{aj:Ar}{c2:Nat}{ak:Ar}{al:Nat}{Z:Ar}{aa:Nat}{p0:A2}{p1:Int}{p2:List Int}(bA:Ao (rL rI) E aj c2 (p0.1))(bB:Ao (rL rI) E ak al (p0.2))(ae:Ao rI E Z aa (p2)){fuel:Nat}{r:Int}(am:f115 fuel p0 p1 p2=some r):Aq J 115 [.agg #[.slice aj (p0.1).length c2,.slice ak (p0.2).length al],iV p1,.slice Z (p2).length aa] E [] (fun w E' B'=>w=iV r∧B'= []):=by
 refine Aq.en func115 rfl rfl fun Q bC cs H aN ab=>?_;unfold f115 at am;refine zg 2 rfl ?_;refine JS.box (v:= .agg #[.slice aj (p0.1).length c2,.slice ak (p0.2).length al]) rfl rfl rfl aN rfl fun an aO=>?_;refine JS.Ba 1 aO rfl fun ao K aP aA=>?_;refine zg 6 rfl ?_;refine JL.Y rfl (fun ρ h=>Yl.len rfl underlying28 (h _ _ rfl)) ?_;refine zg 2 rfl ?_;refine JL.ifs (p:=3<((p2).length:Int)) rfl (fun ap=>?_) (fun ap=>?_)
 ·have aQ:=ip am ap;refine zg 4 rfl ?_;obtain rfl:=oi aQ;refine JL.rt func115 rfl rfl ?_;exact ab _ _ _ _ K rfl ⟨rfl,rfl⟩ aA
 ·have aR:=im am ap;obtain⟨aB,aS,ag⟩:=bs aR;refine zg 6 rfl ?_;refine JL.join (fun L s=>∃(aC:Unit) (aD:LH),aB=Sum.inr aC∧Jm ao H aD [] [] L s) ?_ ?_
  ·rintro _ _ ⟨aC,aD,rfl,rfl,rfl,aT,aU⟩;have aV:=elim_inr ag;refine zg 4 rfl ?_;obtain rfl:=oi aV;refine JL.rt func115 rfl rfl ?_;exact ab _ _ _ _ (K.trans aT) rfl ⟨rfl,rfl⟩ aU
  ·intro aW;refine JL.block ?_;refine JL.wk [(1,iV p1),(2,.slice Z (p2).length aa),(3,.pointer (some ⟨an,0,none⟩)),(7,iV 0)] rfl ?_;refine JL.Bf aS (fun L s ac=>∃(aq:LH),Jm ao H aq [] [(1,iV p1),(2,.slice Z (p2).length aa),(3,.pointer (some ⟨an,0,none⟩)),(7,iV ac)] L s) ⟨ao,rfl,rfl,(Le.refl _),aA⟩ ?_;rintro _ _ ac ⟨aq,rfl,rfl,A,aE⟩ ah ⟨bD,U⟩ aX;have ar:=U;unfold It at ar;refine zg 5 rfl ?_;refine JL.Y rfl (fun ρ h=>Yl.len rfl underlying28 (h _ _ rfl)) ?_;refine zg 2 rfl ?_;refine JL.ifs (p:=ac<((p2).length:Int)) rfl (fun au=>?_) (fun au=>?_)
   ·have aY:=ip ar au;refine zg 5 rfl ?_;refine JG.Co 8 mixed rfl (by decide+kernel) fun ht=>?_;refine JG.ms ht rfl [0,1] rfl ?_;obtain⟨bE,aZ,a0⟩:=bs aY;refine JG.idx 2 (ae.mono (K.trans A)) aZ rfl ht (by decide+kernel) rfl rfl rfl rfl rfl underlying28 (Ag type3) ?_;rintro bF bG _ rfl a1;refine JG.ld 3 ht 0 a1 (Al underlying3) rfl rfl rfl rfl ?_;refine JG.fd 4 ht underlying24 (Ag type22) rfl rfl rfl rfl ?_;refine JG.ld 5 ht 0 (aP.mono A) (Al underlying22) rfl rfl rfl rfl ?_;refine JG.V 6 ht rfl rfl (fun ρ h s' hs=>Yl.len rfl underlying22 (h _ _ rfl)) ?_;obtain⟨bH,a2,a3⟩:=bs a0;refine JG.V 7 ht rfl rfl (fun ρ h s' hs=>Yl.Bb (h _ _ rfl) (h _ _ rfl) a2) ?_;refine Av.leaf (tail:= [8,9]) (by decide+kernel) (fun t=>A1 (by decide+kernel) (A1 (by decide+kernel) BM) t) ?_;obtain⟨aF,a4,aG⟩:=bs a3;refine JS.cl (Hx a4) rfl rfl (Aw func104 rfl) aE ?_;rintro _ aH _ O ⟨rfl,rfl⟩ ai;refine JL.Y (v:= .bool (!aF)) rfl (fun ρ h=>Yl.not (h _ _ rfl)) ?_;refine JL.done ?_;refine JL.split (t:=(!aF)) rfl (fun av=>?_) (fun av=>?_)
    ·have a5:=ip aG av;refine zg 4 rfl ?_;obtain rfl:=oi a5;obtain rfl:=ah _ U;have a6:=elim_inl ag;obtain rfl:=oi a6;refine JL.rt func115 rfl rfl ?_;exact ab _ _ _ _ ((K.trans A).trans O) rfl ⟨rfl,rfl⟩ ai
    ·have a7:=ib aG av;obtain⟨a8,a9,aI⟩:=bs a7;refine zg 6 rfl ?_;refine JS.BF (ae.mono ((K.trans A).trans O)) a9 rfl rfl rfl rfl rfl underlying28 (Ag type3) ?_;rintro bI bJ _ rfl ba;refine JL.ld 0 ba (Al underlying3) rfl rfl rfl ?_;refine zg 3 rfl ?_;refine JL.ifs (p:=a8=p1) rfl (fun aw=>?_) (fun aw=>?_)
     ·have bb:=ip aI aw;refine zg 4 rfl ?_;obtain rfl:=oi bb;obtain rfl:=ah _ U;have bc:=elim_inl ag;obtain rfl:=oi bc;refine JL.rt func115 rfl rfl ?_;exact ab _ _ _ _ ((K.trans A).trans O) rfl ⟨rfl,rfl⟩ ai
     ·have bd:=im aI aw;refine zg 2 rfl ?_;refine JG.Co 14 mixed rfl (by decide+kernel) fun ht=>?_;refine JG.ms ht rfl [0,1,2] rfl ?_;obtain⟨aJ,aK,aL⟩:=bs bd;refine Av.join 0 #[true,true,true,true,true,true,true,true,true,true,true,true,true,true] (fun L s=>L= [(1,iV p1),(2,.slice Z (p2).length aa),(3,.pointer (some ⟨an,0,none⟩)),(7,iV ac),(46,.bool aJ)]∧s=Ap aH H [[]]) ?_ ?_
      ·rintro _ _ ⟨rfl,rfl⟩;refine Av.fin (by decide+kernel) ?_;refine JL.split (t:=aJ) rfl (fun ay=>?_) (fun ay=>?_)
       ·have bf:=ip aL ay;refine zg 4 rfl ?_;obtain rfl:=oi bf;obtain rfl:=ah _ U;have bg:=elim_inl ag;obtain rfl:=oi bg;refine JL.rt func115 rfl rfl ?_;exact ab _ _ _ _ ((K.trans A).trans O) rfl ⟨rfl,rfl⟩ ai
       ·have bh:=ib aL ay;obtain⟨bi,bj,bk⟩:=bs bh;refine zg 4 rfl ?_;refine JL.Y rfl (fun ρ h=>Yl.A0 (h _ _ rfl) (h _ _ rfl) bj) ?_;refine zg 2 rfl ?_;obtain rfl:=oi bk;exact JL.kw (aX _ _ bi ⟨aH,rfl,rfl,(A.trans O),ai⟩ U) rfl
      ·intro aM;refine Av.BW (q:=0<ac) (i:=35) rfl (fun az=>?_) (fun az=>?_)
       ·have bl:=ip aK az;refine JG.ms ht rfl [3,4] rfl ?_;obtain⟨bK,bm,bn⟩:=bs bl;refine JG.idx 5 (ae.mono ((K.trans A).trans O)) bm rfl ht (by decide+kernel) rfl rfl rfl rfl rfl underlying28 (Ag type3) ?_;rintro bL bM _ rfl bo;refine JG.ld 6 ht 0 bo (Al underlying3) rfl rfl rfl rfl ?_;refine JG.ms ht rfl [7,8] rfl ?_;obtain⟨bN,bp,bq⟩:=bs bn;refine JG.V 9 ht rfl rfl (fun ρ h s' hs=>Yl.Bb (h _ _ rfl) (h _ _ rfl) bp) ?_;obtain⟨bO,br,bu⟩:=bs bq;refine JG.idx 10 (ae.mono ((K.trans A).trans O)) br rfl ht (by decide+kernel) rfl rfl rfl rfl rfl underlying28 (Ag type3) ?_;rintro bP bQ _ rfl bv;refine JG.ld 11 ht 0 bv (Al underlying3) rfl rfl rfl rfl ?_;refine JG.ms ht rfl [12,13] rfl ?_;obtain rfl:=oi bu;refine Av.BU ?_ (aM _ _ ⟨rfl,rfl⟩);exact⟨rfl,rfl,rfl,rfl,rfl,trivial⟩
       ·have bw:=im aK az;refine JG.ms ht rfl [3,4,5,6,7,8,9,10,11,12,13] rfl ?_;obtain rfl:=oi bw;refine Av.BU ?_ (aM _ _ ⟨rfl,rfl⟩);exact⟨rfl,rfl,rfl,rfl,rfl,trivial⟩
   ·have bx:=im ar au;refine JL.exit rfl ?_;obtain rfl:=oi bx;have bz:aB=(Sum.inr ()):=(ah _ U).symm;exact JL.kw (aW _ _ ⟨(),aq,bz,rfl,rfl,A,aE⟩) rfl
def IX(fuel:Nat)(p0:A2)(A:Int):Option (A4 (Int) ((Int)⊕(Unit))):=
 if A<((p0.1).length:Int) then(
  (ix p0.1 (A)).bind fun U=>
  (f114 fuel p0 U).bind fun K=>
  if K≠0 then(
   some (.done (Sum.inl K))
  ) else(
   (ix p0.2 (A)).bind fun Z=>
   (f115 fuel p0 A Z).bind fun O=>
   if O≠0 then(
    some (.done (Sum.inl O))
   ) else(
    (Ax (A+1)).bind fun aa=>
    some (.more aa)
   )
  )
 ) else(
  some (.done (Sum.inr ()))
 )
def f68(fuel:Nat)(p0:A2):Option (Int):=
 if((p0.1).length:Int)=0 then(
  some 7
 ) else(
  if 8<((p0.1).length:Int) then(
   some 6
  ) else(
   if((p0.2).length:Int)≠((p0.1).length:Int) then(
    some 9
   ) else(
    Option.bind (iter (IX fuel p0) fuel 0) fun A=>
    Sum.elim (fun r=>some r) (fun K=>
    some 0
    ) A
   )
  )
 )
theorem Ow{ac:Ar}{c2:Nat}{ae:Ar}{ag:Nat}{p0:A2}(ah:Ao (rL rI) E ac c2 (p0.1))(ai:Ao (rL rI) E ae ag (p0.2)){fuel:Nat}{r:Int}(aj:f68 fuel p0=some r):Aq J 68 [.agg #[.slice ac (p0.1).length c2,.slice ae (p0.2).length ag]] E [] (fun w E' B'=>w=iV r∧B'= []):=by
 refine Aq.en func68 rfl rfl fun Q bn cs H aL Z=>?_;unfold f68 at aj;refine zg 2 rfl ?_;refine JS.box (v:= .agg #[.slice ac (p0.1).length c2,.slice ae (p0.2).length ag]) rfl rfl rfl aL rfl fun az aM=>?_;refine JS.Ba 1 aM rfl fun ak K O ab=>?_;refine zg 5 rfl ?_;refine JL.fd underlying24 (Ag type22) rfl rfl rfl ?_;refine JL.ld 0 O (Al underlying22) rfl rfl rfl ?_;refine JL.Y rfl (fun ρ h=>Yl.len rfl underlying22 (h _ _ rfl)) ?_;refine zg 2 rfl ?_;refine JL.ifs (p:=((p0.1).length:Int)=0) rfl (fun al=>?_) (fun al=>?_)
 ·have aN:=ip aj al;refine zg 4 rfl ?_;obtain rfl:=oi aN;refine JL.rt func68 rfl rfl ?_;exact Z _ _ _ _ K rfl ⟨rfl,rfl⟩ ab
 ·have aA:=im aj al;refine zg 4 rfl ?_;refine JL.fd underlying24 (Ag type22) rfl rfl rfl ?_;refine JL.ld 0 O (Al underlying22) rfl rfl rfl ?_;refine JL.Y rfl (fun ρ h=>Yl.len rfl underlying22 (h _ _ rfl)) ?_;refine zg 2 rfl ?_;refine JL.ifs (p:=8<((p0.1).length:Int)) rfl (fun am=>?_) (fun am=>?_)
  ·have aO:=ip aA am;refine zg 4 rfl ?_;obtain rfl:=oi aO;refine JL.rt func68 rfl rfl ?_;exact Z _ _ _ _ K rfl ⟨rfl,rfl⟩ ab
  ·have aB:=im aA am;refine zg 4 rfl ?_;refine JL.fd underlying24 (Ag type22) rfl rfl rfl ?_;refine JL.ld 1 O (Al underlying22) rfl rfl rfl ?_;refine JL.Y rfl (fun ρ h=>Yl.len rfl underlying22 (h _ _ rfl)) ?_;refine JL.fd underlying24 (Ag type22) rfl rfl rfl ?_;refine JL.ld 0 O (Al underlying22) rfl rfl rfl ?_;refine JL.Y rfl (fun ρ h=>Yl.len rfl underlying22 (h _ _ rfl)) ?_;refine zg 2 rfl ?_;refine JL.ifs (p:=((p0.2).length:Int)≠((p0.1).length:Int)) rfl (fun an=>?_) (fun an=>?_)
   ·have aP:=ip aB an;refine zg 4 rfl ?_;obtain rfl:=oi aP;refine JL.rt func68 rfl rfl ?_;exact Z _ _ _ _ K rfl ⟨rfl,rfl⟩ ab
   ·have aQ:=im aB an;obtain⟨aC,aR,ao⟩:=bs aQ;refine zg 6 rfl ?_;refine JL.join (fun L s=>∃(aD:Unit) (aE:LH),aC=Sum.inr aD∧Jm ak H aE [] [] L s) ?_ ?_
    ·rintro _ _ ⟨aD,aE,rfl,rfl,rfl,aS,aT⟩;have aU:=elim_inr ao;refine zg 4 rfl ?_;obtain rfl:=oi aU;refine JL.rt func68 rfl rfl ?_;exact Z _ _ _ _ (K.trans aS) rfl ⟨rfl,rfl⟩ aT
    ·intro aV;refine JL.block ?_;refine JL.wk [(1,.pointer (some ⟨az,0,none⟩)),(3,iV 0)] rfl ?_;refine JL.Bf aR (fun L s ap=>∃(aq:LH),Jm ak H aq [] [(1,.pointer (some ⟨az,0,none⟩)),(3,iV ap)] L s) ⟨ak,rfl,rfl,(Le.refl _),ab⟩ ?_;rintro _ _ ap ⟨aq,rfl,rfl,A,aF⟩ ar ⟨bo,aa⟩ aW;have au:=aa;unfold IX at au;refine zg 4 rfl ?_;refine JL.fd underlying24 (Ag type22) rfl rfl rfl ?_;refine JL.ld 0 (O.mono A) (Al underlying22) rfl rfl rfl ?_;refine JL.Y rfl (fun ρ h=>Yl.len rfl underlying22 (h _ _ rfl)) ?_;refine zg 2 rfl ?_;refine JL.ifs (p:=ap<((p0.1).length:Int)) rfl (fun av=>?_) (fun av=>?_)
     ·have aX:=ip au av;refine zg 5 rfl ?_;refine JG.Co 6 mixed rfl (by decide+kernel) fun ht=>?_;refine JG.Bj 0 ht (O.mono A) (Al underlying24) (Ag type24) rfl rfl rfl ?_;refine JG.fd 1 ht underlying24 (Ag type22) rfl rfl rfl rfl ?_;refine JG.ld 2 ht 0 (O.mono A) (Al underlying22) rfl rfl rfl rfl ?_;refine JG.mv 3 ht rfl rfl ?_;obtain⟨bp,aY,aZ⟩:=bs aX;refine JG.idx 4 (ah.mono (K.trans A)) aY rfl ht (by decide+kernel) rfl rfl rfl rfl rfl underlying22 (Ag type28) ?_;rintro bq br _ ⟨bu,bv,rfl,a0⟩ a1;refine JG.ld 5 ht 0 a1 (Al underlying28) rfl rfl rfl rfl ?_;refine Av.leaf (tail:= [6,7]) (by decide+kernel) (fun t=>A1 (by decide+kernel) (A1 (by decide+kernel) BM) t) ?_;obtain⟨a2,a3,aG⟩:=bs aZ;refine JS.cl (Tw (ah.mono (K.trans A)) (ai.mono (K.trans A)) a0 a3) rfl rfl (Aw func114 rfl) aF ?_;rintro _ bw _ U ⟨rfl,rfl⟩ aH;refine zg 7 rfl ?_;refine JL.ifs (p:=a2≠0) rfl (fun aw=>?_) (fun aw=>?_)
      ·have a4:=ip aG aw;refine zg 5 rfl ?_;obtain rfl:=oi a4;obtain rfl:=ar _ aa;have a5:=elim_inl ao;obtain rfl:=oi a5;refine JL.rt func68 rfl rfl ?_;exact Z _ _ _ _ ((K.trans A).trans U) rfl ⟨rfl,rfl⟩ aH
      ·have a6:=im aG aw;refine zg 2 rfl ?_;refine JG.Co 7 mixed rfl (by decide+kernel) fun ht=>?_;refine JG.Bj 0 ht (O.mono (A.trans U)) (Al underlying24) (Ag type24) rfl rfl rfl ?_;refine JG.mv 1 ht rfl rfl ?_;refine JG.fd 2 ht underlying24 (Ag type22) rfl rfl rfl rfl ?_;refine JG.ld 3 ht 1 (O.mono (A.trans U)) (Al underlying22) rfl rfl rfl rfl ?_;refine JG.mv 4 ht rfl rfl ?_;obtain⟨bx,a7,a8⟩:=bs a6;refine JG.idx 5 (ai.mono ((K.trans A).trans U)) a7 rfl ht (by decide+kernel) rfl rfl rfl rfl rfl underlying22 (Ag type28) ?_;rintro bz bA _ ⟨bB,bC,rfl,a9⟩ ba;refine JG.ld 6 ht 0 ba (Al underlying28) rfl rfl rfl rfl ?_;refine Av.leaf (tail:= [7,8]) (by decide+kernel) (fun t=>A1 (by decide+kernel) (A1 (by decide+kernel) BM) t) ?_;obtain⟨bb,bc,aI⟩:=bs a8;refine JS.cl (S6 (ah.mono ((K.trans A).trans U)) (ai.mono ((K.trans A).trans U)) a9 bc) rfl rfl (Aw func115 rfl) aH ?_;rintro _ bd _ aJ ⟨rfl,rfl⟩ aK;refine zg 7 rfl ?_;refine JL.ifs (p:=bb≠0) rfl (fun ay=>?_) (fun ay=>?_)
       ·have bf:=ip aI ay;refine zg 5 rfl ?_;obtain rfl:=oi bf;obtain rfl:=ar _ aa;have bg:=elim_inl ao;obtain rfl:=oi bg;refine JL.rt func68 rfl rfl ?_;exact Z _ _ _ _ (((K.trans A).trans U).trans aJ) rfl ⟨rfl,rfl⟩ aK
       ·have bh:=im aI ay;obtain⟨bi,bj,bk⟩:=bs bh;refine zg 4 rfl ?_;refine JL.Y rfl (fun ρ h=>Yl.A0 (h _ _ rfl) (h _ _ rfl) bj) ?_;refine zg 2 rfl ?_;obtain rfl:=oi bk;exact JL.kw (aW _ _ bi ⟨bd,rfl,rfl,((A.trans U).trans aJ),aK⟩ aa) rfl
     ·have bl:=im au av;refine JL.exit rfl ?_;obtain rfl:=oi bl;have bm:aC=(Sum.inr ()):=(ar _ aa).symm;exact JL.kw (aV _ _ ⟨(),aq,bm,rfl,rfl,A,aF⟩) rfl
def GK(fuel:Nat)(p0:A2)(p1:List Bool)(K:(List Bool)×Int)(A:(List Bool)×Int):Option (A4 ((List Bool)×Int) ((List Bool))):=
 (ix p0.1 (K.2)).bind fun U=>
 Option.bind (
  if A.2<((U).length:Int) then(
   (ix p1 (K.2)).bind fun Z=>
   some Z
  ) else(
   some false
  )
 ) fun aa=>
 if aa=true then(
  (ix p0.1 (K.2)).bind fun ab=>
  (ix ab (A.2)).bind fun O=>
  (ix A.1 (O)).bind fun ae=>
  (Ax (A.2+1)).bind fun ac=>
  some (.more ((A.1.set (Int.toNat O) true),ac))
 ) else(
  some (.done A.1)
 )
def Ir(fuel:Nat)(p0:A2)(p1:List Bool)(A:(List Bool)×Int):Option (A4 ((List Bool)×Int) ((List Bool))):=
 if A.2<((p1).length:Int) then(
  Option.bind (iter (GK fuel p0 p1 A) fuel (A.1,0)) fun K=>
  (Ax (A.2+1)).bind fun O=>
  some (.more (K,O))
 ) else(
  some (.done A.1)
 )
def f119(fuel:Nat)(p0:A2)(p1:List Bool):Option ((List Bool)):=
 (F6 ((p1).length:Int) (false:Bool)).bind fun A=>
 Option.bind (iter (Ir fuel p0 p1) fuel (A,0)) fun K=>
 some K
theorem Tn{ao:Ar}{c2:Nat}{aA:Ar}{aB:Nat}{O:Ar}{U:Nat}{p0:A2}{p1:List Bool}(aP:Ao (rL rI) E ao c2 (p0.1))(ck:Ao (rL rI) E aA aB (p0.2))(a7:Ao rB E O U (p1)){fuel:Nat}{r:(List Bool)}(aQ:f119 fuel p0 p1=some r):Aq J 119 [.agg #[.slice ao (p0.1).length c2,.slice aA (p0.2).length aB],.slice O (p1).length U] E [] (fun w E' B'=>∃(aR:Ar) (aS:Nat),w= .slice aR (r).length aS∧B'= []∧Ao rB E' aR aS (r)):=by
 refine Aq.en func119 rfl rfl fun Q cm cs H a8 a9=>?_;unfold f119 at aQ;refine zg 2 rfl ?_;refine JS.box (v:= .agg #[.slice ao (p0.1).length c2,.slice aA (p0.2).length aB]) rfl rfl rfl a8 rfl fun Z ba=>?_;refine JS.Ba 1 ba rfl fun aC ap aT bb=>?_;refine zg 5 rfl ?_;refine JL.Y rfl (fun ρ h=>Yl.len rfl underlying68 (h _ _ rfl)) ?_;obtain⟨aD,bc,bd⟩:=bs aQ;refine JS.make (pp:=rB) bc rfl rfl rfl rfl rfl underlying68 (Ag type4) (Cs type4) (by decide) (AO type4) (by decide) rfl bb fun aU bf bg bh=>?_;obtain⟨aV,bi,bj⟩:=bs bd;refine zg 7 rfl ?_;refine JL.join (fun L s=>∃(aE:LH) (aq:Ar) (ar:Nat) (aF:Seg),Jn aC H aE [aF] [(5,.slice aq (aV).length ar)] L s (OL 4 rB aE aq ar aF (aV))) ?_ ?_
 ·rintro _ _ ⟨aE,aq,ar,aF,rfl,rfl,bk,bl,bm⟩;refine zg 5 rfl ?_;refine JS.BJ 0 bm bl rfl fun cn bn bo bp=>?_;obtain rfl:=oi bj;refine JL.rt func119 rfl rfl ?_;exact a9 _ _ _ _ ((ap.trans bk).trans bn) rfl ⟨aq,ar,rfl,rfl,bo⟩ bp
 ·intro bq;refine JL.block ?_;refine JL.wk [(1,.slice O (p1).length U),(2,.pointer (some ⟨Z,0,none⟩)),(5,.slice (some ⟨aU,0,none⟩) (aD).length (aD).length),(6,iV 0)] rfl ?_;refine JL.Bf bi (fun L s K=>∃(ac:LH) (ah:Ar) (ai:Nat) (al:Seg),Jn aC H ac [al] [(1,.slice O (p1).length U),(2,.pointer (some ⟨Z,0,none⟩)),(5,.slice ah (K.1).length ai),(6,iV K.2)] L s (OL 4 rB ac ah ai al (K.1))) ⟨aC,(some ⟨aU,0,none⟩),(aD).length,bf,rfl,rfl,(Le.refl _),bh,bg⟩ ?_;rintro _ _ K ⟨ac,ah,ai,al,rfl,rfl,ae,aW,aX⟩ br ⟨co,aG⟩ bu;have aH:=aG;unfold Ir at aH;refine zg 5 rfl ?_;refine JL.Y rfl (fun ρ h=>Yl.len rfl underlying68 (h _ _ rfl)) ?_;refine zg 2 rfl ?_;refine JL.ifs (p:=K.2<((p1).length:Int)) rfl (fun aI=>?_) (fun aI=>?_)
  ·have bv:=ip aH aI;obtain⟨aJ,bw,bx⟩:=bs bv;refine zg 7 rfl ?_;refine JL.join (fun L s=>∃(au:LH) (av:Ar) (aw:Nat) (ay:Seg),Jn ac H au [ay] [(1,.slice O (p1).length U),(2,.pointer (some ⟨Z,0,none⟩)),(5,.slice av (aJ).length aw),(6,iV K.2)] L s (OL 4 rB au av aw ay (aJ))) ?_ ?_
   ·rintro _ _ ⟨au,av,aw,ay,rfl,rfl,bz,bA,bB⟩;obtain⟨bC,bD,bE⟩:=bs bx;refine zg 3 rfl ?_;refine JL.Y rfl (fun ρ h=>Yl.A0 (h _ _ rfl) (h _ _ rfl) bD) ?_;refine zg 2 rfl ?_;obtain rfl:=oi bE;exact JL.kw (bu _ _ (aJ,bC) ⟨au,av,aw,ay,rfl,rfl,(ae.trans bz),bA,bB⟩ aG) rfl
   ·intro bF;refine JL.block ?_;refine JL.wk [(1,.slice O (p1).length U),(2,.pointer (some ⟨Z,0,none⟩)),(5,.slice ah (K.1).length ai),(6,iV K.2),(7,iV 0)] rfl ?_;refine JL.Bf bw (fun L s A=>∃(aj:LH) (aa:Ar) (ab:Nat) (am:Seg),Jn ac H aj [am] [(1,.slice O (p1).length U),(2,.pointer (some ⟨Z,0,none⟩)),(5,.slice aa (A.1).length ab),(6,iV K.2),(7,iV A.2)] L s (OL 4 rB aj aa ab am (A.1))) ⟨ac,ah,ai,al,rfl,rfl,(Le.refl _),aW,aX⟩ ?_;rintro _ _ A ⟨aj,aa,ab,am,rfl,rfl,ag,aY,aZ⟩ bG ⟨cp,aK⟩ bH;have a0:=aK;unfold GK at a0;refine zg 4 rfl ?_;refine JL.fd underlying24 (Ag type22) rfl rfl rfl ?_;refine JL.ld 0 (aT.mono (ae.trans ag)) (Al underlying22) rfl rfl rfl ?_;obtain⟨bI,bJ,bK⟩:=bs a0;refine zg 1 rfl ?_;refine JS.BF (aP.mono ((ap.trans ae).trans ag)) bJ rfl rfl rfl rfl rfl underlying22 (Ag type28) ?_;rintro cq cr _ ⟨ct,cu,rfl,cv⟩ bL;refine JL.ld 0 bL (Al underlying28) rfl rfl rfl ?_;refine JL.Y rfl (fun ρ h=>Yl.len rfl underlying28 (h _ _ rfl)) ?_;obtain⟨aL,a1,a2⟩:=bs bK;refine zg 2 rfl ?_;refine JL.BI [] (fun L s=>∃(az:LH),Jm aj H az [am] [(1,.slice O (p1).length U),(2,.pointer (some ⟨Z,0,none⟩)),(5,.slice aa (A.1).length ab),(6,iV K.2),(7,iV A.2),(30,.bool aL)] L s) ?_ ?_
    ·rintro _ _ ⟨az,rfl,rfl,ak,a3⟩;refine JL.done ?_;refine JL.split (t:=aL) rfl (fun aM=>?_) (fun aM=>?_)
     ·have bM:=ip a2 aM;refine zg 5 rfl ?_;refine JL.fd underlying24 (Ag type22) rfl rfl rfl ?_;refine JL.ld 0 (aT.mono ((ae.trans ag).trans ak)) (Al underlying22) rfl rfl rfl ?_;obtain⟨bN,bO,bP⟩:=bs bM;refine zg 1 rfl ?_;refine JS.BF (aP.mono (((ap.trans ae).trans ag).trans ak)) bO rfl rfl rfl rfl rfl underlying22 (Ag type28) ?_;rintro bQ bR _ ⟨bS,bT,rfl,bU⟩ bV;refine JL.ld 0 bV (Al underlying28) rfl rfl rfl ?_;obtain⟨an,bW,bX⟩:=bs bP;refine zg 1 rfl ?_;refine JS.BF bU bW rfl rfl rfl rfl rfl underlying28 (Ag type3) ?_;rintro bY bZ _ rfl b0;refine JL.ld 0 b0 (Al underlying3) rfl rfl rfl ?_;obtain⟨cw,b1,b2⟩:=bs bX;refine JS.KT 0 (aZ.mono ak) b1 rfl rfl rfl rfl rfl rfl underlying68 (Ag type4) ?_;rintro a4 aN f141 _ b3 rfl cy b4 b5 cz cA;refine JS.store (v:= .bool true) (off:=aN) 0 rfl rfl rfl a3 rfl rfl (Ag type4) (by simp [Value.cells,BB]) b3 (by have:=b4;simp only [Rp.n,rK,rN,rB,rP,rL] at this;show _+1≤_;omega) fun b6=>?_;have b7:=b5 (true) [.bool true] rfl;have a5:(A.1.set (Int.toNat an) true).length=(A.1).length:=List.length_set;refine JL.BU (L':= [(1,.slice O (p1).length U),(2,.pointer (some ⟨Z,0,none⟩)),(5,.slice aa ((A.1.set (Int.toNat an) true)).length ab),(6,iV K.2),(7,iV A.2),(30,.bool aL),(33,.slice aa ((A.1.set (Int.toNat an) true)).length ab),(34,.pointer (some ⟨Z,0,none⟩)),(35,.slice ao (p0.1).length c2),(36,iV K.2),(37,.pointer (some ⟨bQ,bR,none⟩)),(38,.slice bS (bN).length bT),(39,iV A.2),(40,.pointer (some ⟨bY,bZ,none⟩)),(41,iV an),(42,.pointer (some ⟨a4,aN,none⟩))]) ⟨rfl,rfl,by rw [a5];rfl,rfl,rfl,rfl,by rw [a5];rfl,rfl,rfl,rfl,rfl,rfl,rfl,rfl,rfl,rfl,trivial⟩ ?_;obtain⟨b8,b9,ca⟩:=bs b2;refine zg 4 rfl ?_;refine JL.Y rfl (fun ρ h=>Yl.A0 (h _ _ rfl) (h _ _ rfl) b9) ?_;refine zg 2 rfl ?_;obtain rfl:=oi ca;exact JL.kw (bH _ _ ((A.1.set (Int.toNat an) true),b8) ⟨az,aa,ab,[(a4,.cells (A5 f141 aN [.bool true]) 4 (0,0))],rfl,rfl,(ag.trans ak),b6,b7⟩ aK) rfl
     ·have cb:=ib a2 aM;refine JL.exit rfl ?_;obtain rfl:=oi cb;obtain rfl:=bG _ aK;exact JL.kw (bF _ _ ⟨az,aa,ab,am,rfl,rfl,(ag.trans ak),a3,(aZ.mono ak)⟩) rfl
    ·intro a6;refine JL.BW (q:=A.2<((bI).length:Int)) (i:=25) rfl (fun aO=>?_) (fun aO=>?_)
     ·have cc:=ip a1 aO;obtain⟨cB,cd,ce⟩:=bs cc;refine zg 2 rfl ?_;refine JS.BF (a7.mono ((ap.trans ae).trans ag)) cd rfl rfl rfl rfl rfl underlying68 (Ag type4) ?_;rintro cC cD _ rfl cf;refine JL.ld 0 cf (Al underlying4) rfl rfl rfl ?_;refine zg 1 rfl ?_;obtain rfl:=oi ce;exact JL.kw (a6 _ _ ⟨aj,rfl,rfl,(Le.refl _),aY⟩) rfl
     ·have cg:=im a1 aO;refine zg 5 rfl ?_;obtain rfl:=oi cg;exact JL.kw (a6 _ _ ⟨aj,rfl,rfl,(Le.refl _),aY⟩) rfl
  ·have ci:=im aH aI;refine JL.exit rfl ?_;obtain rfl:=oi ci;obtain rfl:=br _ aG;exact JL.kw (bq _ _ ⟨ac,ah,ai,al,rfl,rfl,ae,aW,aX⟩) rfl
def IV(fuel:Nat)(p0:A2)(p1:Int)(A:(List Bool)×Int):Option (A4 ((List Bool)×Int) ((List Bool))):=
 if A.2<p1 then(
  (f119 fuel p0 A.1).bind fun K=>
  (Ax (A.2+1)).bind fun O=>
  some (.more (K,O))
 ) else(
  some (.done A.1)
 )
def f82(fuel:Nat)(p0:A2)(p1:Int):Option ((List Bool)):=
 (F6 ((p0.1).length:Int) (false:Bool)).bind fun A=>
 (ix A (0)).bind fun O=>
 Option.bind (iter (IV fuel p0 p1) fuel ((A.set (Int.toNat 0) true),0)) fun K=>
 some K
theorem On{K:Ar}{c2:Nat}{aa:Ar}{ab:Nat}{p0:A2}{p1:Int}(aC:Ao (rL rI) E K c2 (p0.1))(aD:Ao (rL rI) E aa ab (p0.2)){fuel:Nat}{r:(List Bool)}(aq:f82 fuel p0 p1=some r):Aq J 82 [.agg #[.slice K (p0.1).length c2,.slice aa (p0.2).length ab],iV p1] E [] (fun w E' B'=>∃(ar:Ar) (au:Nat),w= .slice ar (r).length au∧B'= []∧Ao rB E' ar au (r)):=by
 refine Aq.en func82 rfl rfl fun Q bl cs H aE aF=>?_;unfold f82 at aq;refine zg 2 rfl ?_;refine JS.box (v:= .agg #[.slice K (p0.1).length c2,.slice aa (p0.2).length ab]) rfl rfl rfl aE rfl fun ac aG=>?_;refine JS.Ba 1 aG rfl fun av ak aw aH=>?_;refine zg 4 rfl ?_;refine JL.fd underlying24 (Ag type22) rfl rfl rfl ?_;refine JL.ld 0 aw (Al underlying22) rfl rfl rfl ?_;refine JL.Y rfl (fun ρ h=>Yl.len rfl underlying22 (h _ _ rfl)) ?_;obtain⟨A,aI,aJ⟩:=bs aq;refine JS.make (pp:=rB) aI rfl rfl rfl rfl rfl underlying68 (Ag type4) (Cs type4) (by decide) (AO type4) (by decide) rfl aH fun O bm aK aL=>?_;obtain⟨bn,aM,aN⟩:=bs aJ;refine zg 5 rfl ?_;refine JS.KT 2 aK aM rfl rfl rfl rfl rfl rfl underlying68 (Ag type4) ?_;rintro aO ay f24 _ aP rfl bo aQ aR bp bq;refine JS.store (v:= .bool true) (off:=ay) 2 rfl rfl rfl aL rfl rfl (Ag type4) (by simp [Value.cells,BB]) aP (by have:=aQ;simp only [Rp.n,rK,rN,rB,rP,rL] at this;show _+1≤_;omega) fun aS=>?_;have aT:=aR (true) [.bool true] rfl;have al:(A.set (Int.toNat 0) true).length=(A).length:=List.length_set;refine JL.BU (L':= [(0,.agg #[.slice K (p0.1).length c2,.slice aa (p0.2).length ab]),(1,iV p1),(2,.pointer (some ⟨ac,0,none⟩)),(4,.slice none 0 0),(7,.pointer (some ⟨ac,0,none⟩)),(8,.slice K (p0.1).length c2),(9,iV ((p0.1).length:Int)),(10,.slice (some ⟨O,0,none⟩) ((A.set (Int.toNat 0) true)).length (A).length),(5,.slice (some ⟨O,0,none⟩) ((A.set (Int.toNat 0) true)).length (A).length),(11,.slice (some ⟨O,0,none⟩) ((A.set (Int.toNat 0) true)).length (A).length),(12,.pointer (some ⟨aO,ay,none⟩))]) ⟨rfl,rfl,rfl,rfl,rfl,rfl,rfl,by rw [al];rfl,by rw [al];rfl,by rw [al];rfl,rfl,trivial⟩ ?_;obtain⟨az,aU,aV⟩:=bs aN;refine zg 6 rfl ?_;refine JL.join (fun L s=>∃(am:LH) (ae:Ar) (ag:Nat),Jn av H am [] [(5,.slice ae (az).length ag)] L s (Ao rB am ae ag (az))) ?_ ?_
 ·rintro _ _ ⟨am,ae,ag,rfl,rfl,aW,aX,aY⟩;refine zg 5 rfl ?_;obtain rfl:=oi aV;refine JL.rt func82 rfl rfl ?_;exact aF _ _ _ _ (ak.trans aW) rfl ⟨ae,ag,rfl,rfl,aY⟩ aX
 ·intro aZ;refine JL.block ?_;refine JS.BJ 2 aT aS rfl fun a0 a1 a2 a3=>?_;refine JL.wk [(1,iV p1),(2,.pointer (some ⟨ac,0,none⟩)),(5,.slice (some ⟨O,0,none⟩) ((A.set (Int.toNat 0) true)).length (A).length),(6,iV 0)] rfl ?_;refine JL.Bf aU (fun L s U=>∃(ah:LH) (ai:Ar) (aj:Nat),Jn av H ah [] [(1,iV p1),(2,.pointer (some ⟨ac,0,none⟩)),(5,.slice ai (U.1).length aj),(6,iV U.2)] L s (Ao rB ah ai aj (U.1))) ⟨a0,(some ⟨O,0,none⟩),(A).length,rfl,rfl,a1,a3,a2⟩ ?_;rintro _ _ U ⟨ah,ai,aj,rfl,rfl,Z,aA,aB⟩ a4 ⟨br,an⟩ a5;have ao:=an;unfold IV at ao;refine zg 7 rfl ?_;refine JL.ifs (p:=U.2<p1) rfl (fun ap=>?_) (fun ap=>?_)
  ·have a6:=ip ao ap;refine zg 4 rfl ?_;refine JL.Bj (aw.mono Z) (Al underlying24) (Ag type24) rfl rfl ?_;obtain⟨a7,a8,a9⟩:=bs a6;refine zg 1 rfl ?_;refine JS.cl (Tn (aC.mono (ak.trans Z)) (aD.mono (ak.trans Z)) aB a8) rfl rfl (Aw func119 rfl) aA ?_;rintro _ ba _ bb ⟨bc,bd,rfl,rfl,bf⟩ bg;obtain⟨bh,bi,bj⟩:=bs a9;refine zg 5 rfl ?_;refine JL.Y rfl (fun ρ h=>Yl.A0 (h _ _ rfl) (h _ _ rfl) bi) ?_;refine zg 2 rfl ?_;obtain rfl:=oi bj;exact JL.kw (a5 _ _ (a7,bh) ⟨ba,bc,bd,rfl,rfl,(Z.trans bb),bg,bf⟩ an) rfl
  ·have bk:=im ao ap;refine JL.exit rfl ?_;obtain rfl:=oi bk;obtain rfl:=a4 _ an;exact JL.kw (aZ _ _ ⟨ah,ai,aj,rfl,rfl,Z,aA,aB⟩) rfl
def Iz(fuel:Nat)(p0:A2)(O:(List Bool))(U:(List Bool))(A:Int)(K:Int):Option (A4 (Int) ((Bool)⊕(Unit))):=
 (ix p0.2 (A)).bind fun Z=>
 if K<((Z).length:Int) then(
  (ix O (A)).bind fun aa=>
  Option.bind (
   if aa=true then(
    (ix p0.2 (A)).bind fun ab=>
    (ix ab (K)).bind fun ac=>
    (ix U (ac)).bind fun ae=>
    some ae
   ) else(
    some false
   )
  ) fun ag=>
  if ag=true then(
   some (.done (Sum.inl true))
  ) else(
   (Ax (K+1)).bind fun ah=>
   some (.more ah)
  )
 ) else(
  some (.done (Sum.inr ()))
 )
def Iu(fuel:Nat)(p0:A2)(K:(List Bool))(O:(List Bool))(A:Int):Option (A4 (Int) ((Bool)⊕(Unit))):=
 if A<((K).length:Int) then(
  (ix K (A)).bind fun U=>
  Option.bind (
   if U=true then(
    (ix O (A)).bind fun Z=>
    some Z
   ) else(
    some false
   )
  ) fun aa=>
  if aa=true then(
   some (.done (Sum.inl true))
  ) else(
   Option.bind (iter (Iz fuel p0 K O A) fuel 0) fun ab=>
   Sum.elim (fun r=>some (.done (Sum.inl r))) (fun ae=>
   (Ax (A+1)).bind fun ac=>
   some (.more ac)
   ) ab
  )
 ) else(
  some (.done (Sum.inr ()))
 )
def f110(fuel:Nat)(p0:A2)(p1:Int)(p2:Int):Option (Bool):=
 (f82 fuel p0 p1).bind fun A=>
 (f82 fuel p0 p2).bind fun K=>
 Option.bind (iter (Iu fuel p0 A K) fuel 0) fun O=>
 Sum.elim (fun r=>some r) (fun U=>
 some false
 ) O
theorem Od{ap:Ar}{c2:Nat}{aq:Ar}{ar:Nat}{p0:A2}{p1:Int}{p2:Int}(aO:Ao (rL rI) E ap c2 (p0.1))(au:Ao (rL rI) E aq ar (p0.2)){fuel:Nat}{r:Bool}(aP:f110 fuel p0 p1 p2=some r):Aq J 110 [.agg #[.slice ap (p0.1).length c2,.slice aq (p0.2).length ar],iV p1,iV p2] E [] (fun w E' B'=>w= .bool r∧B'= []):=by
 refine Aq.en func110 rfl rfl fun Q cp cs H bc az=>?_;unfold f110 at aP;refine zg 2 rfl ?_;refine JS.box (v:= .agg #[.slice ap (p0.1).length c2,.slice aq (p0.2).length ar]) rfl rfl rfl bc rfl fun ae bd=>?_;refine JS.Ba 1 bd rfl fun cq K av bf=>?_;refine zg 3 rfl ?_;refine JG.Co 5 mixed rfl (by decide+kernel) fun ht=>?_;refine JG.Bj 0 ht av (Al underlying24) (Ag type24) rfl rfl rfl ?_;refine JG.mv 1 ht rfl rfl ?_;refine JG.Bj 3 ht av (Al underlying24) (Ag type24) rfl rfl rfl ?_;refine JG.mv 4 ht rfl rfl ?_;obtain⟨ab,bg,bh⟩:=bs aP;refine JG.call (i:=2) (vs:= [.agg #[.slice ap (p0.1).length c2,.slice aq (p0.2).length ar],iV p1]) (On (aO.mono K) (au.mono K) bg) (by decide+kernel) rfl rfl rfl (Aw func82 rfl) rfl bf ?_;rintro _ cr _ O ⟨ag,ah,rfl,rfl,aQ⟩ bi;refine Av.leaf (tail:= [5,6,7]) (by decide+kernel) (fun t=>A1 (by decide+kernel) (A1 (by decide+kernel) (A1 (by decide+kernel) BM)) t) ?_;obtain⟨ai,bj,bk⟩:=bs bh;refine JS.cl (On (aO.mono (K.trans O)) (au.mono (K.trans O)) bj) rfl rfl (Aw func82 rfl) bi ?_;rintro _ aA _ U ⟨aj,ak,rfl,rfl,aR⟩ bl;obtain⟨aS,bm,aB⟩:=bs bk;refine zg 8 rfl ?_;refine JL.join (fun L s=>∃(aT:Unit) (aU:LH),aS=Sum.inr aT∧Jm aA H aU [] [] L s) ?_ ?_
 ·rintro _ _ ⟨aT,aU,rfl,rfl,rfl,bn,bo⟩;have bp:=elim_inr aB;refine zg 4 rfl ?_;obtain rfl:=oi bp;refine JL.rt func110 rfl rfl ?_;exact az _ _ _ _ (((K.trans O).trans U).trans bn) rfl ⟨rfl,rfl⟩ bo
 ·intro bq;refine JL.block ?_;refine JL.wk [(3,.pointer (some ⟨ae,0,none⟩)),(7,.slice ag (ab).length ah),(8,.slice aj (ai).length ak),(9,iV 0)] rfl ?_;refine JL.Bf bm (fun L s ac=>∃(al:LH),Jm aA H al [] [(3,.pointer (some ⟨ae,0,none⟩)),(7,.slice ag (ab).length ah),(8,.slice aj (ai).length ak),(9,iV ac)] L s) ⟨aA,rfl,rfl,(Le.refl _),bl⟩ ?_;rintro _ _ ac ⟨al,rfl,rfl,A,aC⟩ aD ⟨ct,an⟩ br;have aE:=an;unfold Iu at aE;refine zg 5 rfl ?_;refine JL.Y rfl (fun ρ h=>Yl.len rfl underlying68 (h _ _ rfl)) ?_;refine zg 2 rfl ?_;refine JL.ifs (p:=ac<((ab).length:Int)) rfl (fun aF=>?_) (fun aF=>?_)
  ·have bu:=ip aE aF;obtain⟨bv,bw,bx⟩:=bs bu;refine zg 8 rfl ?_;refine JS.BF (aQ.mono (U.trans A)) bw rfl rfl rfl rfl rfl underlying68 (Ag type4) ?_;rintro cu cv _ rfl bz;refine JL.ld 0 bz (Al underlying4) rfl rfl rfl ?_;obtain⟨aV,aW,aX⟩:=bs bx;refine zg 1 rfl ?_;refine JL.BI [] (fun L s=>∃(ao:LH),Jm al H ao [] [(3,.pointer (some ⟨ae,0,none⟩)),(7,.slice ag (ab).length ah),(8,.slice aj (ai).length ak),(9,iV ac),(32,.bool aV)] L s) ?_ ?_
   ·rintro _ _ ⟨ao,rfl,rfl,Z,aY⟩;refine JL.done ?_;refine JL.split (t:=aV) rfl (fun aG=>?_) (fun aG=>?_)
    ·have bA:=ip aX aG;refine zg 4 rfl ?_;obtain rfl:=oi bA;obtain rfl:=aD _ an;have bB:=elim_inl aB;obtain rfl:=oi bB;refine JL.rt func110 rfl rfl ?_;exact az _ _ _ _ ((((K.trans O).trans U).trans A).trans Z) rfl ⟨rfl,rfl⟩ aY
    ·have bC:=ib aX aG;obtain⟨aZ,bD,a0⟩:=bs bC;refine zg 5 rfl ?_;refine JL.join (fun L s=>∃(a1:Unit) (aH:LH),aZ=Sum.inr a1∧Jm ao H aH [] [(3,.pointer (some ⟨ae,0,none⟩)),(7,.slice ag (ab).length ah),(8,.slice aj (ai).length ak),(9,iV ac)] L s) ?_ ?_
     ·rintro _ _ ⟨a1,aH,rfl,rfl,rfl,bE,bF⟩;have bG:=elim_inr a0;obtain⟨bH,bI,bJ⟩:=bs bG;refine zg 3 rfl ?_;refine JL.Y rfl (fun ρ h=>Yl.A0 (h _ _ rfl) (h _ _ rfl) bI) ?_;refine zg 2 rfl ?_;obtain rfl:=oi bJ;exact JL.kw (br _ _ bH ⟨aH,rfl,rfl,((A.trans Z).trans bE),bF⟩ an) rfl
     ·intro bK;refine JL.block ?_;refine JL.wk [(3,.pointer (some ⟨ae,0,none⟩)),(7,.slice ag (ab).length ah),(8,.slice aj (ai).length ak),(9,iV ac),(10,iV 0)] rfl ?_;refine JL.Bf bD (fun L s aw=>∃(am:LH),Jm ao H am [] [(3,.pointer (some ⟨ae,0,none⟩)),(7,.slice ag (ab).length ah),(8,.slice aj (ai).length ak),(9,iV ac),(10,iV aw)] L s) ⟨ao,rfl,rfl,(Le.refl _),aY⟩ ?_;rintro _ _ aw ⟨am,rfl,rfl,aa,aI⟩ a2 ⟨cw,ay⟩ bL;have a3:=ay;unfold Iz at a3;refine zg 4 rfl ?_;refine JL.fd underlying24 (Ag type22) rfl rfl rfl ?_;refine JL.ld 1 (av.mono ((((O.trans U).trans A).trans Z).trans aa)) (Al underlying22) rfl rfl rfl ?_;obtain⟨bM,bN,a4⟩:=bs a3;refine zg 1 rfl ?_;refine JS.BF (au.mono (((((K.trans O).trans U).trans A).trans Z).trans aa)) bN rfl rfl rfl rfl rfl underlying22 (Ag type28) ?_;rintro cy cz _ ⟨cA,cB,rfl,cC⟩ bO;refine JL.ld 0 bO (Al underlying28) rfl rfl rfl ?_;refine JL.Y rfl (fun ρ h=>Yl.len rfl underlying28 (h _ _ rfl)) ?_;refine zg 2 rfl ?_;refine JL.ifs (p:=aw<((bM).length:Int)) rfl (fun aJ=>?_) (fun aJ=>?_)
      ·have bP:=ip a4 aJ;obtain⟨bQ,bR,bS⟩:=bs bP;refine zg 7 rfl ?_;refine JS.BF (aQ.mono (((U.trans A).trans Z).trans aa)) bR rfl rfl rfl rfl rfl underlying68 (Ag type4) ?_;rintro cD cE _ rfl bT;refine JL.ld 0 bT (Al underlying4) rfl rfl rfl ?_;obtain⟨a5,a6,a7⟩:=bs bS;refine zg 1 rfl ?_;refine JL.BI [] (fun L s=>∃(aK:LH),Jm am H aK [] [(3,.pointer (some ⟨ae,0,none⟩)),(7,.slice ag (ab).length ah),(8,.slice aj (ai).length ak),(9,iV ac),(10,iV aw),(59,.bool a5)] L s) ?_ ?_
       ·rintro _ _ ⟨aK,rfl,rfl,a8,a9⟩;refine JL.done ?_;refine JL.split (t:=a5) rfl (fun aL=>?_) (fun aL=>?_)
        ·have bU:=ip a7 aL;refine zg 4 rfl ?_;obtain rfl:=oi bU;obtain rfl:=a2 _ ay;have bV:=elim_inl a0;obtain rfl:=oi bV;obtain rfl:=aD _ an;have bW:=elim_inl aB;obtain rfl:=oi bW;refine JL.rt func110 rfl rfl ?_;exact az _ _ _ _ ((((((K.trans O).trans U).trans A).trans Z).trans aa).trans a8) rfl ⟨rfl,rfl⟩ a9
        ·have bX:=ib a7 aL;obtain⟨bY,bZ,b0⟩:=bs bX;refine zg 4 rfl ?_;refine JL.Y rfl (fun ρ h=>Yl.A0 (h _ _ rfl) (h _ _ rfl) bZ) ?_;refine zg 2 rfl ?_;obtain rfl:=oi b0;exact JL.kw (bL _ _ bY ⟨aK,rfl,rfl,(aa.trans a8),a9⟩ ay) rfl
       ·intro ba;refine JL.Cg (c:=bQ) (i:=47) rfl (fun aM=>?_) (fun aM=>?_)
        ·have b1:=ip a6 aM;refine zg 1 rfl ?_;refine JL.fd underlying24 (Ag type22) rfl rfl rfl ?_;refine JL.ld 1 (av.mono ((((O.trans U).trans A).trans Z).trans aa)) (Al underlying22) rfl rfl rfl ?_;obtain⟨cF,b2,b3⟩:=bs b1;refine zg 1 rfl ?_;refine JS.BF (au.mono (((((K.trans O).trans U).trans A).trans Z).trans aa)) b2 rfl rfl rfl rfl rfl underlying22 (Ag type28) ?_;rintro cG cH _ ⟨cI,cJ,rfl,b4⟩ b5;refine JL.ld 0 b5 (Al underlying28) rfl rfl rfl ?_;obtain⟨cK,b6,b7⟩:=bs b3;refine zg 1 rfl ?_;refine JS.BF b4 b6 rfl rfl rfl rfl rfl underlying28 (Ag type3) ?_;rintro cM cN _ rfl b8;refine JL.ld 0 b8 (Al underlying3) rfl rfl rfl ?_;obtain⟨cO,b9,ca⟩:=bs b7;refine JS.BF (aR.mono ((A.trans Z).trans aa)) b9 rfl rfl rfl rfl rfl underlying68 (Ag type4) ?_;rintro cP cQ _ rfl cb;refine JL.ld 0 cb (Al underlying4) rfl rfl rfl ?_;refine zg 1 rfl ?_;obtain rfl:=oi ca;exact JL.kw (ba _ _ ⟨am,rfl,rfl,(Le.refl _),aI⟩) rfl
        ·have cc:=ib a6 aM;refine zg 12 rfl ?_;obtain rfl:=oi cc;exact JL.kw (ba _ _ ⟨am,rfl,rfl,(Le.refl _),aI⟩) rfl
      ·have cd:=im a4 aJ;refine JL.exit rfl ?_;obtain rfl:=oi cd;have ce:aZ=(Sum.inr ()):=(a2 _ ay).symm;exact JL.kw (bK _ _ ⟨(),am,ce,rfl,rfl,aa,aI⟩) rfl
   ·intro bb;refine JL.Cg (c:=bv) (i:=27) rfl (fun aN=>?_) (fun aN=>?_)
    ·have cf:=ip aW aN;obtain⟨cR,cg,ci⟩:=bs cf;refine zg 2 rfl ?_;refine JS.BF (aR.mono A) cg rfl rfl rfl rfl rfl underlying68 (Ag type4) ?_;rintro cT cV _ rfl ck;refine JL.ld 0 ck (Al underlying4) rfl rfl rfl ?_;refine zg 1 rfl ?_;obtain rfl:=oi ci;exact JL.kw (bb _ _ ⟨al,rfl,rfl,(Le.refl _),aC⟩) rfl
    ·have cm:=ib aW aN;refine zg 5 rfl ?_;obtain rfl:=oi cm;exact JL.kw (bb _ _ ⟨al,rfl,rfl,(Le.refl _),aC⟩) rfl
  ·have cn:=im aE aF;refine JL.exit rfl ?_;obtain rfl:=oi cn;have co:aS=(Sum.inr ()):=(aD _ an).symm;exact JL.kw (bq _ _ ⟨(),al,co,rfl,rfl,A,aC⟩) rfl
def f60(fuel:Nat)(p0:A2)(p1:Int)(p2:Int):Option (Bool×Int):=
 (f68 fuel p0).bind fun A=>
 if A≠0 then(
  some (false,A)
 ) else(
  (f104 fuel p1 0 12).bind fun K=>
  Option.bind (
   if(!K)=true then(
    some true
   ) else(
    (f104 fuel p2 0 12).bind fun O=>
    some (!O)
   )
  ) fun U=>
  if U=true then(
   some (false,1)
  ) else(
   (f110 fuel p0 p1 p2).bind fun Z=>
   some (Z,0)
  )
 )
theorem Uf{Z:Ar}{c2:Nat}{aa:Ar}{ab:Nat}{p0:A2}{p1:Int}{p2:Int}(ai:Ao (rL rI) E Z c2 (p0.1))(aj:Ao (rL rI) E aa ab (p0.2)){fuel:Nat}{r:Bool×Int}(ak:f60 fuel p0 p1 p2=some r):Aq J 60 [.agg #[.slice Z (p0.1).length c2,.slice aa (p0.2).length ab],iV p1,iV p2] E [] (fun w E' B'=>w= .tuple #[.bool r.1,iV r.2]∧B'= []):=by
 refine Aq.en func60 rfl rfl fun Q aY cs H aA ac=>?_;unfold f60 at ak;refine zg 2 rfl ?_;refine JS.box (v:= .agg #[.slice Z (p0.1).length c2,.slice aa (p0.2).length ab]) rfl rfl rfl aA rfl fun aB aC=>?_;refine JS.Ba 1 aC rfl fun aZ A al aD=>?_;refine zg 6 rfl ?_;refine JL.Bj al (Al underlying24) (Ag type24) rfl rfl ?_;obtain⟨aE,aF,am⟩:=bs ak;refine JS.cl (Ow (ai.mono A) (aj.mono A) aF) rfl rfl (Aw func68 rfl) aD ?_;rintro _ a0 _ K ⟨rfl,rfl⟩ an;refine zg 7 rfl ?_;refine JL.ifs (p:=aE≠0) rfl (fun ae=>?_) (fun ae=>?_)
 ·have aG:=ip am ae;refine zg 6 rfl ?_;obtain rfl:=oi aG;refine JL.rt func60 rfl rfl ?_;exact ac _ _ _ _ (A.trans K) rfl ⟨rfl,rfl⟩ an
 ·have aH:=im am ae;obtain⟨ao,aI,aJ⟩:=bs aH;refine zg 5 rfl ?_;refine JS.cl (Hx aI) rfl rfl (Aw func104 rfl) an ?_;rintro _ ap _ O ⟨rfl,rfl⟩ aq;refine JL.Y (v:= .bool (!ao)) rfl (fun ρ h=>Yl.not (h _ _ rfl)) ?_;obtain⟨ar,au,av⟩:=bs aJ;refine zg 1 rfl ?_;refine JL.BI [] (fun L s=>∃(aw:LH),Jm ap H aw [] [(1,iV p1),(2,iV p2),(3,.pointer (some ⟨aB,0,none⟩)),(21,.bool ar)] L s) ?_ ?_
  ·rintro _ _ ⟨aw,rfl,rfl,U,ay⟩;refine JL.done ?_;refine JL.split (t:=ar) rfl (fun ag=>?_) (fun ag=>?_)
   ·have aK:=ip av ag;refine zg 5 rfl ?_;obtain rfl:=oi aK;refine JL.rt func60 rfl rfl ?_;exact ac _ _ _ _ (((A.trans K).trans O).trans U) rfl ⟨rfl,rfl⟩ ay
   ·have aL:=ib av ag;refine zg 3 rfl ?_;refine JL.Bj (al.mono ((K.trans O).trans U)) (Al underlying24) (Ag type24) rfl rfl ?_;obtain⟨a1,aM,aN⟩:=bs aL;refine zg 2 rfl ?_;refine JS.cl (Od (ai.mono (((A.trans K).trans O).trans U)) (aj.mono (((A.trans K).trans O).trans U)) aM) rfl rfl (Aw func110 rfl) ay ?_;rintro _ a2 _ aO ⟨rfl,rfl⟩ aP;refine zg 3 rfl ?_;obtain rfl:=oi aN;refine JL.rt func60 rfl rfl ?_;exact ac _ _ _ _ ((((A.trans K).trans O).trans U).trans aO) rfl ⟨rfl,rfl⟩ aP
  ·intro az;refine JL.Cg (c:=(!ao)) (i:=17) rfl (fun ah=>?_) (fun ah=>?_)
   ·have aQ:=ip au ah;refine zg 4 rfl ?_;obtain rfl:=oi aQ;exact JL.kw (az _ _ ⟨ap,rfl,rfl,(Le.refl _),aq⟩) rfl
   ·have aR:=ib au ah;obtain⟨aS,aT,aU⟩:=bs aR;refine zg 1 rfl ?_;refine JS.cl (Hx aT) rfl rfl (Aw func104 rfl) aq ?_;rintro _ aV _ aW ⟨rfl,rfl⟩ aX;refine JL.Y (v:= .bool (!aS)) rfl (fun ρ h=>Yl.not (h _ _ rfl)) ?_;refine zg 1 rfl ?_;obtain rfl:=oi aU;exact JL.kw (az _ _ ⟨aV,rfl,rfl,aW,aX⟩) rfl
def Ki(fuel:Nat)(p0:A2)(p1:Int)(A:Int):Option (A4 (Int) (Int)):=
 (f110 fuel p0 p1 A).bind fun K=>
 if(!K)=true then(
  (Ax (A+1)).bind fun O=>
  some (.more O)
 ) else(
  some (.done A)
 )
def f58(fuel:Nat)(p0:A2)(p1:Int):Option (Int×Int):=
 (f68 fuel p0).bind fun A=>
 if A≠0 then(
  some (0,A)
 ) else(
  (f104 fuel p1 0 12).bind fun K=>
  if(!K)=true then(
   some (0,1)
  ) else(
   Option.bind (iter (Ki fuel p0 p1) fuel 0) fun O=>
   some (O,0)
  )
 )
theorem T2{Z:Ar}{c2:Nat}{aa:Ar}{ab:Nat}{p0:A2}{p1:Int}(ak:Ao (rL rI) E Z c2 (p0.1))(al:Ao (rL rI) E aa ab (p0.2)){fuel:Nat}{r:Int×Int}(am:f58 fuel p0 p1=some r):Aq J 58 [.agg #[.slice Z (p0.1).length c2,.slice aa (p0.2).length ab],iV p1] E [] (fun w E' B'=>w= .tuple #[iV r.1,iV r.2]∧B'= []):=by
 refine Aq.en func58 rfl rfl fun Q a5 cs H aG ac=>?_;unfold f58 at am;refine zg 2 rfl ?_;refine JS.box (v:= .agg #[.slice Z (p0.1).length c2,.slice aa (p0.2).length ab]) rfl rfl rfl aG rfl fun an aH=>?_;refine JS.Ba 1 aH rfl fun a6 A ao aI=>?_;refine zg 6 rfl ?_;refine JL.Bj ao (Al underlying24) (Ag type24) rfl rfl ?_;obtain⟨aJ,aK,ap⟩:=bs am;refine JS.cl (Ow (ak.mono A) (al.mono A) aK) rfl rfl (Aw func68 rfl) aI ?_;rintro _ a7 _ K ⟨rfl,rfl⟩ aq;refine zg 7 rfl ?_;refine JL.ifs (p:=aJ≠0) rfl (fun ae=>?_) (fun ae=>?_)
 ·have aL:=ip ap ae;refine zg 6 rfl ?_;obtain rfl:=oi aL;refine JL.rt func58 rfl rfl ?_;exact ac _ _ _ _ (A.trans K) rfl ⟨rfl,rfl⟩ aq
 ·have aM:=im ap ae;obtain⟨ar,aN,au⟩:=bs aM;refine zg 5 rfl ?_;refine JS.cl (Hx aN) rfl rfl (Aw func104 rfl) aq ?_;rintro _ ag _ O ⟨rfl,rfl⟩ av;refine JL.Y (v:= .bool (!ar)) rfl (fun ρ h=>Yl.not (h _ _ rfl)) ?_;refine JL.done ?_;refine JL.split (t:=(!ar)) rfl (fun ah=>?_) (fun ah=>?_)
  ·have aO:=ip au ah;refine zg 5 rfl ?_;obtain rfl:=oi aO;refine JL.rt func58 rfl rfl ?_;exact ac _ _ _ _ ((A.trans K).trans O) rfl ⟨rfl,rfl⟩ av
  ·have aP:=ib au ah;obtain⟨aQ,aR,aS⟩:=bs aP;refine zg 6 rfl ?_;refine JL.join (fun L s=>∃(aw:LH),Jm ag H aw [] [(7,iV aQ)] L s) ?_ ?_
   ·rintro _ _ ⟨aw,rfl,rfl,aT,aU⟩;refine zg 6 rfl ?_;obtain rfl:=oi aS;refine JL.rt func58 rfl rfl ?_;exact ac _ _ _ _ (((A.trans K).trans O).trans aT) rfl ⟨rfl,rfl⟩ aU
   ·intro aV;refine JL.block ?_;refine JL.wk [(1,iV p1),(2,.pointer (some ⟨an,0,none⟩)),(7,iV 0)] rfl ?_;refine JL.Bf aR (fun L s ay=>∃(az:LH),Jm ag H az [] [(1,iV p1),(2,.pointer (some ⟨an,0,none⟩)),(7,iV ay)] L s) ⟨ag,rfl,rfl,(Le.refl _),av⟩ ?_;rintro _ _ ay ⟨az,rfl,rfl,U,aW⟩ aX ⟨a8,ai⟩ aY;have aA:=ai;unfold Ki at aA;refine zg 3 rfl ?_;refine JL.Bj (ao.mono ((K.trans O).trans U)) (Al underlying24) (Ag type24) rfl rfl ?_;obtain⟨aB,aZ,aC⟩:=bs aA;refine zg 2 rfl ?_;refine JS.cl (Od (ak.mono (((A.trans K).trans O).trans U)) (al.mono (((A.trans K).trans O).trans U)) aZ) rfl rfl (Aw func110 rfl) aW ?_;rintro _ aD _ aE ⟨rfl,rfl⟩ aF;refine JL.Y (v:= .bool (!aB)) rfl (fun ρ h=>Yl.not (h _ _ rfl)) ?_;refine JL.done ?_;refine JL.split (t:=(!aB)) rfl (fun aj=>?_) (fun aj=>?_)
    ·have a0:=ip aC aj;obtain⟨a1,a2,a3⟩:=bs a0;refine zg 4 rfl ?_;refine JL.Y rfl (fun ρ h=>Yl.A0 (h _ _ rfl) (h _ _ rfl) a2) ?_;refine zg 3 rfl ?_;obtain rfl:=oi a3;exact JL.kw (aY _ _ a1 ⟨aD,rfl,rfl,(U.trans aE),aF⟩ ai) rfl
    ·have a4:=ib aC aj;refine JL.exit rfl ?_;obtain rfl:=oi a4;obtain rfl:=aX _ ai;exact JL.kw (aV _ _ ⟨aD,rfl,rfl,(U.trans aE),aF⟩) rfl
def f71(fuel:Nat):Option ((A2)):=
 some (([([1]:List Int),([2]:List Int),([3,4]:List Int),([4]:List Int),([5]:List Int),([5]:List Int)]:List (List Int)),([[],[],[],([2]:List Int),([2,3]:List Int),([3,4]:List Int)]:List (List Int)))
theorem F5{fuel:Nat}{r:(A2)}(ak:f71 fuel=some r):Aq J 71 [] E [] (fun w E' B'=>∃(al:Ar) (am:Nat) (an:Ar) (ao:Nat),w= .agg #[.slice al (r.1).length am,.slice an (r.2).length ao]∧B'= []∧Ao (rL rI) E' al am (r.1)∧Ao (rL rI) E' an ao (r.2)):=by
 refine Aq.en func71 rfl rfl fun Q bM cs H aB aC=>?_;unfold f71 at ak;refine zg 2 rfl ?_;refine JS.alloc rfl rfl rfl aB (AO type24) fun A aD=>?_;refine zg 3 rfl ?_;refine JS.lit (pp:=rI) [iV 1] [1] rfl rfl rfl underlying28 (Ag type3) (AO type3) (by decide) rfl rfl rfl ⟨rfl,trivial⟩ aD fun aE ap aF aG=>?_;refine JS.lit (pp:=rI) [iV 2] [2] rfl rfl rfl underlying28 (Ag type3) (AO type3) (by decide) rfl rfl rfl ⟨rfl,trivial⟩ aG fun aH aq aI aJ=>?_;refine JS.norm (S':= [[],[(A,.cells #[.slice none 0 0,.slice none 0 0] 24 (0,0))],ap,aq]) rfl aJ fun aK=>?_;refine JS.lit (pp:=rI) [iV 3,iV 4] [3,4] rfl rfl rfl underlying28 (Ag type3) (AO type3) (by decide) rfl rfl rfl ⟨rfl,rfl,trivial⟩ aK fun aL ar aM aN=>?_;refine JS.lit (pp:=rI) [iV 4] [4] rfl rfl rfl underlying28 (Ag type3) (AO type3) (by decide) rfl rfl rfl ⟨rfl,trivial⟩ aN fun aO au aP aQ=>?_;refine JS.lit (pp:=rI) [iV 5] [5] rfl rfl rfl underlying28 (Ag type3) (AO type3) (by decide) rfl rfl rfl ⟨rfl,trivial⟩ aQ fun aR av aS aT=>?_;refine JS.norm (S':= [[],[(A,.cells #[.slice none 0 0,.slice none 0 0] 24 (0,0))],ap,aq,ar,au,av]) rfl aT fun aU=>?_;refine JS.lit (pp:=rI) [iV 5] [5] rfl rfl rfl underlying28 (Ag type3) (AO type3) (by decide) rfl rfl rfl ⟨rfl,trivial⟩ aU fun aV aw aW aX=>?_;refine JS.BJ 2 aF aX rfl fun bN U aY aZ=>?_;refine JS.BJ 3 (aI.mono U) aZ rfl fun bO Z a0 a1=>?_;refine JS.norm (S':= [[],[(A,.cells #[.slice none 0 0,.slice none 0 0] 24 (0,0))],[],[],ar,au,av,aw]) rfl a1 fun a2=>?_;refine JS.BJ 4 (aM.mono (U.trans Z)) a2 rfl fun bP aa a3 a4=>?_;refine JS.BJ 5 (aP.mono ((U.trans Z).trans aa)) a4 rfl fun bQ ab a5 a6=>?_;refine JS.BJ 6 (aS.mono (((U.trans Z).trans aa).trans ab)) a6 rfl fun bR ac a7 a8=>?_;refine JS.norm (S':= [[],[(A,.cells #[.slice none 0 0,.slice none 0 0] 24 (0,0))],[],[],[],[],[],aw]) rfl a8 fun a9=>?_;refine JS.BJ 7 (aW.mono ((((U.trans Z).trans aa).trans ab).trans ac)) a9 rfl fun bS ae ba bb=>?_;refine JS.lit (pp:=(rL rI)) [.slice (some ⟨aE,0,none⟩) (([1]:List Int)).length 1,.slice (some ⟨aH,0,none⟩) (([2]:List Int)).length 1,.slice (some ⟨aL,0,none⟩) (([3,4]:List Int)).length 2,.slice (some ⟨aO,0,none⟩) (([4]:List Int)).length 1,.slice (some ⟨aR,0,none⟩) (([5]:List Int)).length 1,.slice (some ⟨aV,0,none⟩) (([5]:List Int)).length 1] [([1]:List Int),([2]:List Int),([3,4]:List Int),([4]:List Int),([5]:List Int),([5]:List Int)] rfl rfl rfl underlying22 (Ag type28) (AO type28) (by decide) rfl rfl rfl ⟨⟨_,_,rfl,(aY.mono ((((Z.trans aa).trans ab).trans ac).trans ae))⟩,⟨_,_,rfl,(a0.mono (((aa.trans ab).trans ac).trans ae))⟩,⟨_,_,rfl,(a3.mono ((ab.trans ac).trans ae))⟩,⟨_,_,rfl,(a5.mono (ac.trans ae))⟩,⟨_,_,rfl,(a7.mono ae)⟩,⟨_,_,rfl,ba⟩,trivial⟩ bb fun K aj bc bd=>?_;refine JS.lit (pp:=rI) [iV 2] [2] rfl rfl rfl underlying28 (Ag type3) (AO type3) (by decide) rfl rfl rfl ⟨rfl,trivial⟩ bd fun bf bg bh bi=>?_;refine JS.norm (S':= [[],[(A,.cells #[.slice none 0 0,.slice none 0 0] 24 (0,0))],[],[],[],[],[],[],aj,bg]) rfl bi fun bj=>?_;refine JS.lit (pp:=rI) [iV 2,iV 3] [2,3] rfl rfl rfl underlying28 (Ag type3) (AO type3) (by decide) rfl rfl rfl ⟨rfl,rfl,trivial⟩ bj fun bk bl bm bn=>?_;refine JS.lit (pp:=rI) [iV 3,iV 4] [3,4] rfl rfl rfl underlying28 (Ag type3) (AO type3) (by decide) rfl rfl rfl ⟨rfl,rfl,trivial⟩ bn fun bo bp bq br=>?_;refine JS.BJ 9 bh br rfl fun bT ag bu bv=>?_;refine JS.norm (S':= [[],[(A,.cells #[.slice none 0 0,.slice none 0 0] 24 (0,0))],[],[],[],[],[],[],aj,[],bl,bp]) rfl bv fun bw=>?_;refine JS.BJ 10 (bm.mono ag) bw rfl fun bU ah bx bz=>?_;refine JS.BJ 11 (bq.mono (ag.trans ah)) bz rfl fun bV ai bA bB=>?_;refine JS.lit (pp:=(rL rI)) [.slice none 0 0,.slice none 0 0,.slice none 0 0,.slice (some ⟨bf,0,none⟩) (([2]:List Int)).length 1,.slice (some ⟨bk,0,none⟩) (([2,3]:List Int)).length 2,.slice (some ⟨bo,0,none⟩) (([3,4]:List Int)).length 2] [[],[],[],([2]:List Int),([2,3]:List Int),([3,4]:List Int)] rfl rfl rfl underlying22 (Ag type28) (AO type28) (by decide) rfl rfl rfl ⟨⟨_,_,rfl,Ao.nil⟩,⟨_,_,rfl,Ao.nil⟩,⟨_,_,rfl,Ao.nil⟩,⟨_,_,rfl,(bu.mono (ah.trans ai))⟩,⟨_,_,rfl,(bx.mono ai)⟩,⟨_,_,rfl,bA⟩,trivial⟩ bB fun O bC bD bE=>?_;refine JS.norm (S':= [[],[(A,.cells #[.slice none 0 0,.slice none 0 0] 24 (0,0))],[],[],[],[],[],[],aj,[],[],[],bC]) rfl bE fun bF=>?_;refine JL.Y (v:= .agg #[.slice (some ⟨K,0,none⟩) (([([1]:List Int),([2]:List Int),([3,4]:List Int),([4]:List Int),([5]:List Int),([5]:List Int)]:List (List Int))).length 6,.slice (some ⟨O,0,none⟩) (([[],[],[],([2]:List Int),([2,3]:List Int),([3,4]:List Int)]:List (List Int))).length 6]) rfl (fun ρ h=>Yl.Cb [(0,1),(1,1)] h (AO type24) underlying24 ⟨rfl,Ag type22,rfl,Ag type22,trivial⟩ rfl rfl) ?_;refine JS.st (v:= .agg #[.slice (some ⟨K,0,none⟩) (([([1]:List Int),([2]:List Int),([3,4]:List Int),([4]:List Int),([5]:List Int),([5]:List Int)]:List (List Int))).length 6,.slice (some ⟨O,0,none⟩) (([[],[],[],([2]:List Int),([2,3]:List Int),([3,4]:List Int)]:List (List Int))).length 6]) (off:=0) 1 bF (Ag type24) rfl rfl rfl rfl fun bG=>?_;refine JL.done ?_;refine JS.BJ 8 (bc.mono ((ag.trans ah).trans ai)) bG rfl fun bW ay bH bI=>?_;refine JS.BJ 12 (bD.mono ay) bI rfl fun bX az bJ bK=>?_;refine JS.norm (S':= [[],[(A,.cells #[.slice (some ⟨K,0,none⟩) (([([1]:List Int),([2]:List Int),([3,4]:List Int),([4]:List Int),([5]:List Int),([5]:List Int)]:List (List Int))).length 6,.slice (some ⟨O,0,none⟩) (([[],[],[],([2]:List Int),([2,3]:List Int),([3,4]:List Int)]:List (List Int))).length 6] 24 (0,0))],[],[],[],[],[],[],[],[],[],[],[]]) rfl bK fun aA=>?_;obtain rfl:=oi ak;refine JL.ret (v:= .agg #[.slice (some ⟨K,0,none⟩) (([([1]:List Int),([2]:List Int),([3,4]:List Int),([4]:List Int),([5]:List Int),([5]:List Int)]:List (List Int))).length 6,.slice (some ⟨O,0,none⟩) (([[],[],[],([2]:List Int),([2,3]:List Int),([3,4]:List Int)]:List (List Int))).length 6]) rfl rfl (Bx.list func71 rfl (vs:= [.agg #[.slice (some ⟨K,0,none⟩) (([([1]:List Int),([2]:List Int),([3,4]:List Int),([4]:List Int),([5]:List Int),([5]:List Int)]:List (List Int))).length 6,.slice (some ⟨O,0,none⟩) (([[],[],[],([2]:List Int),([2,3]:List Int),([3,4]:List Int)]:List (List Int))).length 6]]) ⟨⟨_,rfl,Ld.many (vs:= [.slice (some ⟨K,0,none⟩) (([([1]:List Int),([2]:List Int),([3,4]:List Int),([4]:List Int),([5]:List Int),([5]:List Int)]:List (List Int))).length 6,.slice (some ⟨O,0,none⟩) (([[],[],[],([2]:List Int),([2,3]:List Int),([3,4]:List Int)]:List (List Int))).length 6]) (Al underlying24) (Ag type24) (D8 (off:=0) 1 aA rfl rfl)⟩,trivial⟩) ?_;refine F0 1 aA rfl fun bL=>?_;exact aC _ _ _ _ ((((((((((U.trans Z).trans aa).trans ab).trans ac).trans ae).trans ag).trans ah).trans ai).trans ay).trans az) rfl ⟨(some ⟨K,0,none⟩),6,(some ⟨O,0,none⟩),6,rfl,rfl,(bH.mono az),bJ⟩ bL
def f72(fuel:Nat):Option ((AW)):=
 some ([(0,2),(1,4)]:AW)
theorem Kw{fuel:Nat}{r:(AW)}(A:f72 fuel=some r):Aq J 72 [] E [] (fun w E' B'=>∃(K:Ar) (O:Nat),w= .slice K (r).length O∧B'= []∧Ao Bv E' K O (r)):=by
 refine Aq.en func72 rfl rfl fun Q ai cs H U Z=>?_;unfold f72 at A;refine zg 6 rfl ?_;refine JL.Y (v:= .agg #[iV 0,iV 2]) rfl (fun ρ h=>Yl.Cb [(0,1),(1,1)] h (AO type27) underlying27 ⟨rfl,Ag type3,rfl,Ag type3,trivial⟩ rfl rfl) ?_;refine JL.Y (v:= .agg #[iV 1,iV 4]) rfl (fun ρ h=>Yl.Cb [(0,1),(1,1)] h (AO type27) underlying27 ⟨rfl,Ag type3,rfl,Ag type3,trivial⟩ rfl rfl) ?_;refine JS.lit (pp:=Bv) [.agg #[iV 0,iV 2],.agg #[iV 1,iV 4]] [(0,2),(1,4)] rfl rfl rfl underlying25 (Ag type27) (AO type27) (by decide) rfl rfl rfl ⟨⟨_,_,rfl,rfl,rfl⟩,⟨_,_,rfl,rfl,rfl⟩,trivial⟩ U fun aa aj ab ac=>?_;refine zg 2 rfl ?_;refine JS.BJ 1 ab ac rfl fun ak ae ag ah=>?_;obtain rfl:=oi A;refine JL.rt func72 rfl rfl ?_;exact Z _ _ _ _ ae rfl ⟨(some ⟨aa,0,none⟩),2,rfl,rfl,ag⟩ ah
def f73(fuel:Nat):Option ((AW)):=
 some ([(0,3),(1,3)]:AW)
theorem OB{fuel:Nat}{r:(AW)}(A:f73 fuel=some r):Aq J 73 [] E [] (fun w E' B'=>∃(K:Ar) (O:Nat),w= .slice K (r).length O∧B'= []∧Ao Bv E' K O (r)):=by
 refine Aq.en func73 rfl rfl fun Q ai cs H U Z=>?_;unfold f73 at A;refine zg 6 rfl ?_;refine JL.Y (v:= .agg #[iV 0,iV 3]) rfl (fun ρ h=>Yl.Cb [(0,1),(1,1)] h (AO type27) underlying27 ⟨rfl,Ag type3,rfl,Ag type3,trivial⟩ rfl rfl) ?_;refine JL.Y (v:= .agg #[iV 1,iV 3]) rfl (fun ρ h=>Yl.Cb [(0,1),(1,1)] h (AO type27) underlying27 ⟨rfl,Ag type3,rfl,Ag type3,trivial⟩ rfl rfl) ?_;refine JS.lit (pp:=Bv) [.agg #[iV 0,iV 3],.agg #[iV 1,iV 3]] [(0,3),(1,3)] rfl rfl rfl underlying25 (Ag type27) (AO type27) (by decide) rfl rfl rfl ⟨⟨_,_,rfl,rfl,rfl⟩,⟨_,_,rfl,rfl,rfl⟩,trivial⟩ U fun aa aj ab ac=>?_;refine zg 2 rfl ?_;refine JS.BJ 1 ab ac rfl fun ak ae ag ah=>?_;obtain rfl:=oi A;refine JL.rt func73 rfl rfl ?_;exact Z _ _ _ _ ae rfl ⟨(some ⟨aa,0,none⟩),2,rfl,rfl,ag⟩ ah
end Pal
namespace Pal
open Go Go.Conc Go.Proofs
open Go.Proofs.Tryz
variable {J:Judge Tryz.prog}{E:LH}
def f103(fuel:Nat)(p0:Nat)(p1:Int):Option (Bool):=
 (HQ p0 p1).bind fun A=>
 (G6 (A) (1)).bind fun K=>
 some (decide ((((K):Nat):Int)=(((1):Nat):Int)))
theorem Kp{p0:Nat}{p1:Int}{fuel:Nat}{r:Bool}(A:f103 fuel p0 p1=some r):Aq J 103 [.int .u16 ((p0:Nat):Int),iV p1] E [] (fun w E' B'=>w= .bool r∧B'= []):=by
 refine Aq.en func103 rfl rfl fun Q ag cs H K O=>?_;unfold f103 at A;obtain⟨U,Z,aa⟩:=bs A;refine zg 8 rfl ?_;refine JL.Y (v:= .int .u16 ((U:Nat):Int)) rfl (fun ρ h=>Yl.Ut (h _ _ rfl) (h _ _ rfl) Z) ?_;obtain⟨ab,ac,ae⟩:=bs aa;refine JL.Y (v:= .int .u16 ((ab:Nat):Int)) rfl (fun ρ h=>Yl.Km (h _ _ rfl) (h _ _ rfl) ac) ?_;refine zg 3 rfl ?_;obtain rfl:=oi ae;refine JL.rt func103 rfl rfl ?_;exact O _ _ _ _ (Le.refl _) rfl ⟨rfl,rfl⟩ K
def f90(fuel:Nat)(p0:Nat)(p1:Int):Option (Nat):=
 (HG p1).bind fun A=>
 (Gz (p0) (A)).bind fun K=>
 some K
theorem Jh{p0:Nat}{p1:Int}{fuel:Nat}{r:Nat}(A:f90 fuel p0 p1=some r):Aq J 90 [.int .u16 ((p0:Nat):Int),iV p1] E [] (fun w E' B'=>w= .int .u16 ((r:Nat):Int)∧B'= []):=by
 refine Aq.en func90 rfl rfl fun Q ag cs H K O=>?_;unfold f90 at A;obtain⟨U,Z,aa⟩:=bs A;refine zg 8 rfl ?_;refine JL.Y (v:= .int .u16 ((U:Nat):Int)) rfl (fun ρ h=>Yl.Ul (h _ _ rfl) (h _ _ rfl) Z) ?_;obtain⟨ab,ac,ae⟩:=bs aa;refine JL.Y (v:= .int .u16 ((ab:Nat):Int)) rfl (fun ρ h=>Yl.HK (h _ _ rfl) (h _ _ rfl) ac) ?_;refine zg 2 rfl ?_;obtain rfl:=oi ae;refine JL.rt func90 rfl rfl ?_;exact O _ _ _ _ (Le.refl _) rfl ⟨rfl,rfl⟩ K
def I4(fuel:Nat)(p0:Nat)(A:(List Int)×Int):Option (A4 ((List Int)×Int) ((List Int))):=
 if A.2<16 then(
  (f103 fuel p0 A.2).bind fun K=>
  Option.bind (
   if K=true then(
    (room A.1 A.2).bind fun O=>
    some O
   ) else(
    some A.1
   )
  ) fun U=>
  (Ax (A.2+1)).bind fun Z=>
  some (.more (U,Z))
 ) else(
  some (.done A.1)
 )
def f89(fuel:Nat)(p0:Nat):Option ((List Int)):=
 Option.bind (iter (I4 fuel p0) fuel ([],0)) fun A=>
 some A
theorem Gp{p0:Nat}{fuel:Nat}{r:(List Int)}(au:f89 fuel p0=some r):Aq J 89 [.int .u16 ((p0:Nat):Int)] E [] (fun w E' B'=>∃(av:Ar) (aw:Nat),w= .slice av (r).length aw∧B'= []∧Ao rI E' av aw (r)):=by
 refine Aq.en func89 rfl rfl fun Q bc cs H aE aF=>?_;unfold f89 at au;obtain⟨ay,aG,aH⟩:=bs au;refine zg 13 rfl ?_;refine JL.join (fun L s=>∃(ai:LH) (Z:Ar) (aa:Nat) (aj:Seg),Jn E H ai [aj] [(3,.slice Z (ay).length aa)] L s (OL 3 rI ai Z aa aj (ay))) ?_ ?_
 ·rintro _ _ ⟨ai,Z,aa,aj,rfl,rfl,aI,aJ,aK⟩;refine zg 5 rfl ?_;refine JS.BJ 0 aK aJ rfl fun bd aL aM aN=>?_;obtain rfl:=oi aH;refine JL.rt func89 rfl rfl ?_;exact aF _ _ _ _ (aI.trans aL) rfl ⟨Z,aa,rfl,rfl,aM⟩ aN
 ·intro aO;refine JL.block ?_;refine JL.wk [(0,.int .u16 ((p0:Nat):Int)),(3,.slice none 0 0),(5,iV 0)] rfl ?_;refine JL.Bf aG (fun L s A=>∃(ab:LH) (K:Ar) (O:Nat) (U:Seg),Jn E H ab [U] [(0,.int .u16 ((p0:Nat):Int)),(3,.slice K (A.1).length O),(5,iV A.2)] L s (OL 3 rI ab K O U (A.1))) ⟨E,none,0,[],rfl,rfl,(Le.refl _),aE,OL.nil⟩ ?_;rintro _ _ A ⟨ab,K,O,U,rfl,rfl,az,aA,ak⟩ aP ⟨bf,al⟩ aQ;have am:=al;unfold I4 at am;refine zg 5 rfl ?_;refine JL.ifs (p:=A.2<16) rfl (fun an=>?_) (fun an=>?_)
  ·have aR:=ip am an;obtain⟨aS,aT,aU⟩:=bs aR;refine zg 12 rfl ?_;refine JS.cl (Kp aT) rfl rfl (Aw func103 rfl) aA ?_;rintro _ ao _ ap ⟨rfl,rfl⟩ aB;obtain⟨aq,aC,aV⟩:=bs aU;refine JL.done ?_;refine JL.join (fun L s=>∃(ac:LH) (ae:Ar) (ag:Nat) (ah:Seg),Jn ao H ac [ah] [(0,.int .u16 ((p0:Nat):Int)),(3,.slice ae (aq).length ag),(5,iV A.2)] L s (OL 3 rI ac ae ag ah (aq))) ?_ ?_
   ·rintro _ _ ⟨ac,ae,ag,ah,rfl,rfl,aW,aX,aY⟩;obtain⟨aZ,a0,a1⟩:=bs aV;refine zg 2 rfl ?_;refine JL.Y rfl (fun ρ h=>Yl.A0 (h _ _ rfl) (h _ _ rfl) a0) ?_;refine zg 2 rfl ?_;obtain rfl:=oi a1;exact JL.kw (aQ _ _ (aq,aZ) ⟨ac,ae,ag,ah,rfl,rfl,((az.trans ap).trans aW),aX,aY⟩ al) rfl
   ·intro aD;refine JL.split (t:=aS) rfl (fun ar=>?_) (fun ar=>?_)
    ·have a2:=ip aC ar;obtain⟨bg,a3,a4⟩:=bs a2;refine zg 3 rfl ?_;refine JS.app (pp:=rI) (v:=iV A.2) (a:=K) (c:=O) 0 a3 rfl rfl rfl rfl (fun _=>rfl) rfl (fun _=>rfl) rfl rfl rfl underlying28 underlying28 underlying28 (Ag type3) (Cs type3) (AO type3) rfl (by decide) (by decide) (by decide) (by decide) (ak.mono ap) rfl aB rfl fun bh a5 a6 a7 a8 a9=>?_;refine zg 2 rfl ?_;obtain rfl:=oi a4;exact JL.kw (aD _ _ ⟨ao,a5,a6,a7,rfl,rfl,(Le.refl _),a9,a8⟩) rfl
    ·have ba:=ib aC ar;refine JL.skip ?_;obtain rfl:=oi ba;exact JL.kw (aD _ _ ⟨ao,K,O,U,rfl,rfl,(Le.refl _),aB,(ak.mono ap)⟩) rfl
  ·have bb:=im am an;refine JL.exit rfl ?_;obtain rfl:=oi bb;obtain rfl:=aP _ al;exact JL.kw (aO _ _ ⟨ab,K,O,U,rfl,rfl,az,aA,ak⟩) rfl
def IG(fuel:Nat)(p0:List Int)(A:Nat×Int):Option (A4 (Nat×Int) (Nat)):=
 if A.2<((p0).length:Int) then(
  (ix p0 (A.2)).bind fun K=>
  (f90 fuel A.1 K).bind fun O=>
  (Ax (A.2+1)).bind fun U=>
  some (.more (O,U))
 ) else(
  some (.done A.1)
 )
def f120(fuel:Nat)(p0:List Int):Option (Nat):=
 Option.bind (iter (IG fuel p0) fuel (0,0)) fun A=>
 some A
theorem GU{A:Ar}{c2:Nat}{p0:List Int}(ah:Ao rI E A c2 (p0)){fuel:Nat}{r:Nat}(ac:f120 fuel p0=some r):Aq J 120 [.slice A (p0).length c2] E [] (fun w E' B'=>w= .int .u16 ((r:Nat):Int)∧B'= []):=by
 refine Aq.en func120 rfl rfl fun Q aJ cs H ai aj=>?_;unfold f120 at ac;refine zg 12 rfl ?_;refine JL.Y rfl (fun ρ h=>Yl.len rfl underlying28 (h _ _ rfl)) ?_;obtain⟨ak,al,am⟩:=bs ac;refine zg 2 rfl ?_;refine JL.join (fun L s=>∃(ae:LH),Jm E H ae [] [(3,.int .u16 ((ak:Nat):Int))] L s) ?_ ?_
 ·rintro _ _ ⟨ae,rfl,rfl,an,ao⟩;refine zg 5 rfl ?_;obtain rfl:=oi am;refine JL.rt func120 rfl rfl ?_;exact aj _ _ _ _ an rfl ⟨rfl,rfl⟩ ao
 ·intro ap;refine JL.block ?_;refine JL.wk [(3,.int .u16 ((0:Nat):Int)),(6,.slice A (p0).length c2),(7,iV ((p0).length:Int)),(8,iV 0)] rfl ?_;refine JL.Bf al (fun L s K=>∃(O:LH),Jm E H O [] [(3,.int .u16 ((K.1:Nat):Int)),(6,.slice A (p0).length c2),(7,iV ((p0).length:Int)),(8,iV K.2)] L s) ⟨E,rfl,rfl,(Le.refl _),ai⟩ ?_;rintro _ _ K ⟨O,rfl,rfl,U,ag⟩ aq ⟨aK,Z⟩ ar;have aa:=Z;unfold IG at aa;refine zg 5 rfl ?_;refine JL.ifs (p:=K.2<((p0).length:Int)) rfl (fun ab=>?_) (fun ab=>?_)
  ·have au:=ip aa ab;obtain⟨aL,av,aw⟩:=bs au;refine zg 5 rfl ?_;refine JS.BF (ah.mono U) av rfl rfl rfl rfl rfl underlying28 (Ag type3) ?_;rintro aM aN _ rfl ay;refine JL.ld 0 ay (Al underlying3) rfl rfl rfl ?_;obtain⟨az,aA,aB⟩:=bs aw;refine zg 5 rfl ?_;refine JS.cl (Jh aA) rfl rfl (Aw func90 rfl) ag ?_;rintro _ aC _ aD ⟨rfl,rfl⟩ aE;obtain⟨aF,aG,aH⟩:=bs aB;refine zg 4 rfl ?_;refine JL.Y rfl (fun ρ h=>Yl.A0 (h _ _ rfl) (h _ _ rfl) aG) ?_;refine zg 2 rfl ?_;obtain rfl:=oi aH;exact JL.kw (ar _ _ (az,aF) ⟨aC,rfl,rfl,(U.trans aD),aE⟩ Z) rfl
  ·have aI:=im aa ab;refine JL.exit rfl ?_;obtain rfl:=oi aI;obtain rfl:=aq _ Z;exact JL.kw (ap _ _ ⟨O,rfl,rfl,U,ag⟩) rfl
def IL(fuel:Nat)(p0:A2)(p1:Int)(p2:List Int)(p3:Bool)(A:Int):Option (A4 (Int) (((Option (Int×Int)))⊕(Unit))):=
 if A<((p2).length:Int) then(
  (ix p2 (A)).bind fun K=>
  (Ax (((p0.1).length:Int) - 1)).bind fun O=>
  (f101 fuel K 0 O).bind fun U=>
  if U=true then(
   some (.done (Sum.inl (some (3,p1))))
  ) else(
   Option.bind (
    if K=p1 then(
     some (!p3)
    ) else(
     some false
    )
   ) fun Z=>
   if Z=true then(
    some (.done (Sum.inl (some (8,p1))))
   ) else(
    Option.bind (
     if 0<A then(
      (Ax (A - 1)).bind fun aa=>
      (ix p2 (aa)).bind fun ab=>
      some (decide (K≤ab))
     ) else(
      some false
     )
    ) fun ac=>
    if ac=true then(
     some (.done (Sum.inl (some (5,p1))))
    ) else(
     (Ax (A+1)).bind fun ae=>
     some (.more ae)
    )
   )
  )
 ) else(
  some (.done (Sum.inr ()))
 )
def f136(fuel:Nat)(p0:A2)(p1:Int)(p2:List Int)(p3:Bool):Option ((Option (Int×Int))):=
 Option.bind (iter (IL fuel p0 p1 p2 p3) fuel 0) fun A=>
 Sum.elim (fun r=>some r) (fun K=>
 some none
 ) A
theorem N9{ak:Ar}{c2:Nat}{al:Ar}{am:Nat}{A:Ar}{K:Nat}{p0:A2}{p1:Int}{p2:List Int}{p3:Bool}(bF:Ao (rL rI) E ak c2 (p0.1))(bG:Ao (rL rI) E al am (p0.2))(aD:Ao rI E A K (p2)){fuel:Nat}{r:(Option (Int×Int))}(aE:f136 fuel p0 p1 p2 p3=some r):Aq J 136 [.agg #[.slice ak (p0.1).length c2,.slice al (p0.2).length am],iV p1,.slice A (p2).length K,.bool p3] E [] (fun w E' B'=>∃(aF:Value),w=aF∧B'= []∧FL 183 aF (r)):=by
 refine Aq.en func136 rfl rfl fun Q bH cs H aW ae=>?_;unfold f136 at aE;refine zg 2 rfl ?_;refine JS.box (v:= .agg #[.slice ak (p0.1).length c2,.slice al (p0.2).length am]) rfl rfl rfl aW rfl fun ag aX=>?_;refine JS.Ba 1 aX rfl fun an Z aY aZ=>?_;refine zg 6 rfl ?_;refine JL.Y rfl (fun ρ h=>Yl.len rfl underlying28 (h _ _ rfl)) ?_;obtain⟨aG,a0,ah⟩:=bs aE;refine zg 2 rfl ?_;refine JL.join (fun L s=>∃(aH:Unit) (aI:LH),aG=Sum.inr aH∧Jm an H aI [] [] L s) ?_ ?_
 ·rintro _ _ ⟨aH,aI,rfl,rfl,rfl,a1,a2⟩;have a3:=elim_inr ah;refine zg 4 rfl ?_;obtain rfl:=oi a3;refine JL.rt func136 rfl rfl ?_;exact ae _ _ _ _ (Z.trans a1) rfl ⟨.nilIface,rfl,rfl,rfl⟩ a2
 ·intro a4;refine JL.block ?_;refine JL.wk [(1,iV p1),(2,.slice A (p2).length K),(3,.bool p3),(4,.pointer (some ⟨ag,0,none⟩)),(11,.slice A (p2).length K),(12,iV ((p2).length:Int)),(13,iV 0)] rfl ?_;refine JL.Bf a0 (fun L s U=>∃(ao:LH),Jm an H ao [] [(1,iV p1),(2,.slice A (p2).length K),(3,.bool p3),(4,.pointer (some ⟨ag,0,none⟩)),(11,.slice A (p2).length K),(12,iV ((p2).length:Int)),(13,iV U)] L s) ⟨an,rfl,rfl,(Le.refl _),aZ⟩ ?_;rintro _ _ U ⟨ao,rfl,rfl,O,aJ⟩ ai ⟨bI,aa⟩ a5;have ap:=aa;unfold IL at ap;refine zg 5 rfl ?_;refine JL.ifs (p:=U<((p2).length:Int)) rfl (fun aq=>?_) (fun aq=>?_)
  ·have a6:=ip ap aq;obtain⟨aK,a7,a8⟩:=bs a6;refine zg 6 rfl ?_;refine JS.BF (aD.mono (Z.trans O)) a7 rfl rfl rfl rfl rfl underlying28 (Ag type3) ?_;rintro bJ bK _ rfl a9;refine JL.ld 0 a9 (Al underlying3) rfl rfl rfl ?_;refine zg 7 rfl ?_;refine JL.fd underlying24 (Ag type22) rfl rfl rfl ?_;refine JL.ld 0 (aY.mono O) (Al underlying22) rfl rfl rfl ?_;refine JL.Y rfl (fun ρ h=>Yl.len rfl underlying22 (h _ _ rfl)) ?_;obtain⟨bL,ba,bb⟩:=bs a8;refine JL.Y rfl (fun ρ h=>Yl.Bb (h _ _ rfl) (h _ _ rfl) ba) ?_;obtain⟨bc,bd,aL⟩:=bs bb;refine JS.cl (Gk bd) rfl rfl (Aw func101 rfl) aJ ?_;rintro _ ar _ ab ⟨rfl,rfl⟩ au;refine zg 2 rfl ?_;refine JL.split (t:=bc) rfl (fun av=>?_) (fun av=>?_)
   ·have bf:=ip aL av;refine zg 3 rfl ?_;refine JL.Y (v:= .agg #[iV 3,iV p1]) rfl (fun ρ h=>Yl.Cb [(0,1),(1,1)] h (AO type183) underlying183 ⟨rfl,Ag type39,rfl,Ag type3,trivial⟩ rfl rfl) ?_;refine JL.Y (v:= .iface 183 (.agg #[iV 3,iV p1])) rfl (fun ρ h=>Yl.Di underlying183 (fun _ h=>by cases h) (h _ _ rfl)) ?_;refine zg 2 rfl ?_;obtain rfl:=oi bf;obtain rfl:=ai _ aa;have bg:=elim_inl ah;obtain rfl:=oi bg;refine JL.rt func136 rfl rfl ?_;exact ae _ _ _ _ ((Z.trans O).trans ab) rfl ⟨.iface 183 (.agg #[iV 3,iV p1]),rfl,rfl,rfl⟩ au
   ·have bh:=ib aL av;obtain⟨aM,aN,aO⟩:=bs bh;refine zg 6 rfl ?_;refine JL.BI [7] (fun L s=>∃(ac:LH),Jm ar H ac [] [(1,iV p1),(2,.slice A (p2).length K),(3,.bool p3),(4,.pointer (some ⟨ag,0,none⟩)),(9,iV U),(10,iV aK),(11,.slice A (p2).length K),(12,iV ((p2).length:Int)),(13,iV U),(35,.bool aM)] L s) ?_ ?_
    ·rintro _ _ ⟨ac,rfl,rfl,aj,aw⟩;refine zg 2 rfl ?_;refine JL.split (t:=aM) rfl (fun ay=>?_) (fun ay=>?_)
     ·have bi:=ip aO ay;refine zg 3 rfl ?_;refine JL.Y (v:= .agg #[iV 8,iV p1]) rfl (fun ρ h=>Yl.Cb [(0,1),(1,1)] h (AO type183) underlying183 ⟨rfl,Ag type39,rfl,Ag type3,trivial⟩ rfl rfl) ?_;refine JL.Y (v:= .iface 183 (.agg #[iV 8,iV p1])) rfl (fun ρ h=>Yl.Di underlying183 (fun _ h=>by cases h) (h _ _ rfl)) ?_;refine zg 2 rfl ?_;obtain rfl:=oi bi;obtain rfl:=ai _ aa;have bj:=elim_inl ah;obtain rfl:=oi bj;refine JL.rt func136 rfl rfl ?_;exact ae _ _ _ _ (((Z.trans O).trans ab).trans aj) rfl ⟨.iface 183 (.agg #[iV 8,iV p1]),rfl,rfl,rfl⟩ aw
     ·have bk:=ib aO ay;obtain⟨aP,aQ,aR⟩:=bs bk;refine zg 5 rfl ?_;refine JL.BI [11] (fun L s=>∃(az:LH),Jm ac H az [] [(1,iV p1),(2,.slice A (p2).length K),(3,.bool p3),(4,.pointer (some ⟨ag,0,none⟩)),(11,.slice A (p2).length K),(12,iV ((p2).length:Int)),(13,iV U),(50,.bool aP)] L s) ?_ ?_
      ·rintro _ _ ⟨az,rfl,rfl,aS,aT⟩;refine zg 2 rfl ?_;refine JL.split (t:=aP) rfl (fun aA=>?_) (fun aA=>?_)
       ·have bl:=ip aR aA;refine zg 3 rfl ?_;refine JL.Y (v:= .agg #[iV 5,iV p1]) rfl (fun ρ h=>Yl.Cb [(0,1),(1,1)] h (AO type183) underlying183 ⟨rfl,Ag type39,rfl,Ag type3,trivial⟩ rfl rfl) ?_;refine JL.Y (v:= .iface 183 (.agg #[iV 5,iV p1])) rfl (fun ρ h=>Yl.Di underlying183 (fun _ h=>by cases h) (h _ _ rfl)) ?_;refine zg 2 rfl ?_;obtain rfl:=oi bl;obtain rfl:=ai _ aa;have bm:=elim_inl ah;obtain rfl:=oi bm;refine JL.rt func136 rfl rfl ?_;exact ae _ _ _ _ ((((Z.trans O).trans ab).trans aj).trans aS) rfl ⟨.iface 183 (.agg #[iV 5,iV p1]),rfl,rfl,rfl⟩ aT
       ·have bn:=ib aR aA;obtain⟨bo,bp,bq⟩:=bs bn;refine zg 4 rfl ?_;refine JL.Y rfl (fun ρ h=>Yl.A0 (h _ _ rfl) (h _ _ rfl) bp) ?_;refine zg 2 rfl ?_;obtain rfl:=oi bq;exact JL.kw (a5 _ _ bo ⟨az,rfl,rfl,(((O.trans ab).trans aj).trans aS),aT⟩ aa) rfl
      ·intro aU;refine JL.BW (q:=0<U) (i:=42) rfl (fun aB=>?_) (fun aB=>?_)
       ·have br:=ip aQ aB;obtain⟨bM,bu,bv⟩:=bs br;refine zg 3 rfl ?_;refine JL.Y rfl (fun ρ h=>Yl.Bb (h _ _ rfl) (h _ _ rfl) bu) ?_;obtain⟨bN,bw,bx⟩:=bs bv;refine JS.BF (aD.mono (((Z.trans O).trans ab).trans aj)) bw rfl rfl rfl rfl rfl underlying28 (Ag type3) ?_;rintro bO bP _ rfl bz;refine JL.ld 0 bz (Al underlying3) rfl rfl rfl ?_;refine zg 2 rfl ?_;obtain rfl:=oi bx;exact JL.kw (aU _ _ ⟨ac,rfl,rfl,(Le.refl _),aw⟩) rfl
       ·have bA:=im aQ aB;refine zg 8 rfl ?_;obtain rfl:=oi bA;exact JL.kw (aU _ _ ⟨ac,rfl,rfl,(Le.refl _),aw⟩) rfl
    ·intro aV;refine JL.BW (q:=aK=p1) (i:=32) rfl (fun aC=>?_) (fun aC=>?_)
     ·have bB:=ip aN aC;refine zg 1 rfl ?_;refine JL.Y (v:= .bool (!p3)) rfl (fun ρ h=>Yl.not (h _ _ rfl)) ?_;refine zg 1 rfl ?_;obtain rfl:=oi bB;exact JL.kw (aV _ _ ⟨ar,rfl,rfl,(Le.refl _),au⟩) rfl
     ·have bC:=im aN aC;refine zg 3 rfl ?_;obtain rfl:=oi bC;exact JL.kw (aV _ _ ⟨ar,rfl,rfl,(Le.refl _),au⟩) rfl
  ·have bD:=im ap aq;refine JL.exit rfl ?_;obtain rfl:=oi bD;have bE:aG=(Sum.inr ()):=(ai _ aa).symm;exact JL.kw (a4 _ _ ⟨(),ao,bE,rfl,rfl,O,aJ⟩) rfl
def IE(fuel:Nat)(p0:A2)(A:Int):Option (A4 (Int) (((Option (Int×Int)))⊕(Unit))):=
 if A<((p0.1).length:Int) then(
  (ix p0.1 (A)).bind fun K=>
  if((K).length:Int)=0 then(
   some (.done (Sum.inl (some (7,A))))
  ) else(
   if 3<((K).length:Int) then(
    some (.done (Sum.inl (some (6,A))))
   ) else(
    (f136 fuel p0 A K true).bind fun O=>
    if O.isSome=true then(
     some (.done (Sum.inl O))
    ) else(
     (ix p0.2 (A)).bind fun Z=>
     if 3<((Z).length:Int) then(
      some (.done (Sum.inl (some (6,A))))
     ) else(
      (ix p0.2 (A)).bind fun aa=>
      (f136 fuel p0 A aa false).bind fun U=>
      if U.isSome=true then(
       some (.done (Sum.inl U))
      ) else(
       (Ax (A+1)).bind fun ab=>
       some (.more ab)
      )
     )
    )
   )
  )
 ) else(
  some (.done (Sum.inr ()))
 )
def f113(fuel:Nat)(p0:A2):Option ((Option (Int×Int))):=
 if((p0.1).length:Int)=0 then(
  some (some (7,0))
 ) else(
  if 8<((p0.1).length:Int) then(
   some (some (6,0))
  ) else(
   if((p0.2).length:Int)≠((p0.1).length:Int) then(
    some (some (9,0))
   ) else(
    Option.bind (iter (IE fuel p0) fuel 0) fun A=>
    Sum.elim (fun r=>some r) (fun K=>
    some none
    ) A
   )
  )
 )
theorem Ny{ag:Ar}{c2:Nat}{ak:Ar}{al:Nat}{p0:A2}(am:Ao (rL rI) E ag c2 (p0.1))(ah:Ao (rL rI) E ak al (p0.2)){fuel:Nat}{r:(Option (Int×Int))}(an:f113 fuel p0=some r):Aq J 113 [.agg #[.slice ag (p0.1).length c2,.slice ak (p0.2).length al]] E [] (fun w E' B'=>∃(aE:Value),w=aE∧B'= []∧FL 183 aE (r)):=by
 refine Aq.en func113 rfl rfl fun Q bM cs H aX Z=>?_;unfold f113 at an;refine zg 2 rfl ?_;refine JS.box (v:= .agg #[.slice ag (p0.1).length c2,.slice ak (p0.2).length al]) rfl rfl rfl aX rfl fun aF aY=>?_;refine JS.Ba 1 aY rfl fun ao K ab ai=>?_;refine zg 5 rfl ?_;refine JL.fd underlying24 (Ag type22) rfl rfl rfl ?_;refine JL.ld 0 ab (Al underlying22) rfl rfl rfl ?_;refine JL.Y rfl (fun ρ h=>Yl.len rfl underlying22 (h _ _ rfl)) ?_;refine zg 9 rfl ?_;refine JL.ifs (p:=((p0.1).length:Int)=0) rfl (fun ap=>?_) (fun ap=>?_)
 ·have aZ:=ip an ap;refine zg 2 rfl ?_;refine JL.Y (v:= .agg #[iV 7,iV 0]) rfl (fun ρ h=>Yl.Cb [(0,1),(1,1)] h (AO type183) underlying183 ⟨rfl,Ag type39,rfl,Ag type3,trivial⟩ rfl rfl) ?_;refine JL.Y (v:= .iface 183 (.agg #[iV 7,iV 0])) rfl (fun ρ h=>Yl.Di underlying183 (fun _ h=>by cases h) (h _ _ rfl)) ?_;refine zg 2 rfl ?_;obtain rfl:=oi aZ;refine JL.rt func113 rfl rfl ?_;exact Z _ _ _ _ K rfl ⟨.iface 183 (.agg #[iV 7,iV 0]),rfl,rfl,rfl⟩ ai
 ·have aG:=im an ap;refine zg 6 rfl ?_;refine JL.ifs (p:=8<((p0.1).length:Int)) rfl (fun aq=>?_) (fun aq=>?_)
  ·have a0:=ip aG aq;refine zg 2 rfl ?_;refine JL.Y (v:= .agg #[iV 6,iV 0]) rfl (fun ρ h=>Yl.Cb [(0,1),(1,1)] h (AO type183) underlying183 ⟨rfl,Ag type39,rfl,Ag type3,trivial⟩ rfl rfl) ?_;refine JL.Y (v:= .iface 183 (.agg #[iV 6,iV 0])) rfl (fun ρ h=>Yl.Di underlying183 (fun _ h=>by cases h) (h _ _ rfl)) ?_;refine zg 2 rfl ?_;obtain rfl:=oi a0;refine JL.rt func113 rfl rfl ?_;exact Z _ _ _ _ K rfl ⟨.iface 183 (.agg #[iV 6,iV 0]),rfl,rfl,rfl⟩ ai
  ·have aH:=im aG aq;refine zg 2 rfl ?_;refine JL.fd underlying24 (Ag type22) rfl rfl rfl ?_;refine JL.ld 1 ab (Al underlying22) rfl rfl rfl ?_;refine JL.Y rfl (fun ρ h=>Yl.len rfl underlying22 (h _ _ rfl)) ?_;refine zg 4 rfl ?_;refine JL.ifs (p:=((p0.2).length:Int)≠((p0.1).length:Int)) rfl (fun ar=>?_) (fun ar=>?_)
   ·have a1:=ip aH ar;refine zg 2 rfl ?_;refine JL.Y (v:= .agg #[iV 9,iV 0]) rfl (fun ρ h=>Yl.Cb [(0,1),(1,1)] h (AO type183) underlying183 ⟨rfl,Ag type39,rfl,Ag type3,trivial⟩ rfl rfl) ?_;refine JL.Y (v:= .iface 183 (.agg #[iV 9,iV 0])) rfl (fun ρ h=>Yl.Di underlying183 (fun _ h=>by cases h) (h _ _ rfl)) ?_;refine zg 2 rfl ?_;obtain rfl:=oi a1;refine JL.rt func113 rfl rfl ?_;exact Z _ _ _ _ K rfl ⟨.iface 183 (.agg #[iV 9,iV 0]),rfl,rfl,rfl⟩ ai
   ·have a2:=im aH ar;refine zg 5 rfl ?_;refine JL.fd underlying24 (Ag type22) rfl rfl rfl ?_;refine JL.ld 0 ab (Al underlying22) rfl rfl rfl ?_;refine JL.Y rfl (fun ρ h=>Yl.len rfl underlying22 (h _ _ rfl)) ?_;obtain⟨aI,a3,ac⟩:=bs a2;refine zg 2 rfl ?_;refine JL.join (fun L s=>∃(aJ:Unit) (aK:LH),aI=Sum.inr aJ∧Jm ao H aK [] [] L s) ?_ ?_
    ·rintro _ _ ⟨aJ,aK,rfl,rfl,rfl,a4,a5⟩;have a6:=elim_inr ac;refine zg 4 rfl ?_;obtain rfl:=oi a6;refine JL.rt func113 rfl rfl ?_;exact Z _ _ _ _ (K.trans a4) rfl ⟨.nilIface,rfl,rfl,rfl⟩ a5
    ·intro a7;refine JL.block ?_;refine JL.wk [(1,.pointer (some ⟨aF,0,none⟩)),(30,.slice ag (p0.1).length c2),(31,iV ((p0.1).length:Int)),(32,iV 0)] rfl ?_;refine JL.Bf a3 (fun L s O=>∃(au:LH),Jm ao H au [] [(1,.pointer (some ⟨aF,0,none⟩)),(30,.slice ag (p0.1).length c2),(31,iV ((p0.1).length:Int)),(32,iV O)] L s) ⟨ao,rfl,rfl,(Le.refl _),ai⟩ ?_;rintro _ _ O ⟨au,rfl,rfl,A,aj⟩ ae ⟨bN,aa⟩ a8;have av:=aa;unfold IE at av;refine zg 5 rfl ?_;refine JL.ifs (p:=O<((p0.1).length:Int)) rfl (fun aw=>?_) (fun aw=>?_)
     ·have a9:=ip av aw;obtain⟨aL,ba,aM⟩:=bs a9;refine zg 6 rfl ?_;refine JS.BF (am.mono (K.trans A)) ba rfl rfl rfl rfl rfl underlying22 (Ag type28) ?_;rintro bO bP _ ⟨bQ,bR,rfl,bb⟩ bc;refine JL.ld 0 bc (Al underlying28) rfl rfl rfl ?_;refine zg 7 rfl ?_;refine JL.Y rfl (fun ρ h=>Yl.len rfl underlying28 (h _ _ rfl)) ?_;refine zg 2 rfl ?_;refine JL.ifs (p:=((aL).length:Int)=0) rfl (fun ay=>?_) (fun ay=>?_)
      ·have bd:=ip aM ay;refine zg 3 rfl ?_;refine JL.Y (v:= .agg #[iV 7,iV O]) rfl (fun ρ h=>Yl.Cb [(0,1),(1,1)] h (AO type183) underlying183 ⟨rfl,Ag type39,rfl,Ag type3,trivial⟩ rfl rfl) ?_;refine JL.Y (v:= .iface 183 (.agg #[iV 7,iV O])) rfl (fun ρ h=>Yl.Di underlying183 (fun _ h=>by cases h) (h _ _ rfl)) ?_;refine zg 2 rfl ?_;obtain rfl:=oi bd;obtain rfl:=ae _ aa;have bf:=elim_inl ac;obtain rfl:=oi bf;refine JL.rt func113 rfl rfl ?_;exact Z _ _ _ _ (K.trans A) rfl ⟨.iface 183 (.agg #[iV 7,iV O]),rfl,rfl,rfl⟩ aj
      ·have aN:=im aM ay;refine zg 5 rfl ?_;refine JL.Y rfl (fun ρ h=>Yl.len rfl underlying28 (h _ _ rfl)) ?_;refine zg 2 rfl ?_;refine JL.ifs (p:=3<((aL).length:Int)) rfl (fun az=>?_) (fun az=>?_)
       ·have bg:=ip aN az;refine zg 3 rfl ?_;refine JL.Y (v:= .agg #[iV 6,iV O]) rfl (fun ρ h=>Yl.Cb [(0,1),(1,1)] h (AO type183) underlying183 ⟨rfl,Ag type39,rfl,Ag type3,trivial⟩ rfl rfl) ?_;refine JL.Y (v:= .iface 183 (.agg #[iV 6,iV O])) rfl (fun ρ h=>Yl.Di underlying183 (fun _ h=>by cases h) (h _ _ rfl)) ?_;refine zg 2 rfl ?_;obtain rfl:=oi bg;obtain rfl:=ae _ aa;have bh:=elim_inl ac;obtain rfl:=oi bh;refine JL.rt func113 rfl rfl ?_;exact Z _ _ _ _ (K.trans A) rfl ⟨.iface 183 (.agg #[iV 6,iV O]),rfl,rfl,rfl⟩ aj
       ·have bi:=im aN az;refine zg 4 rfl ?_;refine JL.Bj (ab.mono A) (Al underlying24) (Ag type24) rfl rfl ?_;obtain⟨aO,bj,aP⟩:=bs bi;refine zg 2 rfl ?_;refine JS.cl (N9 (am.mono (K.trans A)) (ah.mono (K.trans A)) bb bj) rfl rfl (Aw func136 rfl) aj ?_;rintro bk bS _ U ⟨_,rfl,rfl,aQ⟩ aA;refine zg 5 rfl ?_;refine JL.Y (v:= .bool aO.isSome) rfl (fun ρ h=>Yl.KB underlying149 aQ (h _ _ rfl) (h _ _ rfl)) ?_;refine JL.done ?_;refine JL.split (t:=aO.isSome) rfl (fun aB=>?_) (fun aB=>?_)
        ·have bl:=ip aP aB;refine zg 5 rfl ?_;obtain rfl:=oi bl;obtain rfl:=ae _ aa;have bm:=elim_inl ac;obtain rfl:=oi bm;refine JL.rt func113 rfl rfl ?_;exact Z _ _ _ _ ((K.trans A).trans U) rfl ⟨bk,rfl,rfl,aQ⟩ aA
        ·have bn:=ib aP aB;refine zg 4 rfl ?_;refine JL.fd underlying24 (Ag type22) rfl rfl rfl ?_;refine JL.ld 1 (ab.mono (A.trans U)) (Al underlying22) rfl rfl rfl ?_;obtain⟨bo,bp,aR⟩:=bs bn;refine zg 1 rfl ?_;refine JS.BF (ah.mono ((K.trans A).trans U)) bp rfl rfl rfl rfl rfl underlying22 (Ag type28) ?_;rintro bT bU _ ⟨bV,bW,rfl,bX⟩ bq;refine JL.ld 0 bq (Al underlying28) rfl rfl rfl ?_;refine JL.Y rfl (fun ρ h=>Yl.len rfl underlying28 (h _ _ rfl)) ?_;refine zg 2 rfl ?_;refine JL.ifs (p:=3<((bo).length:Int)) rfl (fun aC=>?_) (fun aC=>?_)
         ·have br:=ip aR aC;refine zg 3 rfl ?_;refine JL.Y (v:= .agg #[iV 6,iV O]) rfl (fun ρ h=>Yl.Cb [(0,1),(1,1)] h (AO type183) underlying183 ⟨rfl,Ag type39,rfl,Ag type3,trivial⟩ rfl rfl) ?_;refine JL.Y (v:= .iface 183 (.agg #[iV 6,iV O])) rfl (fun ρ h=>Yl.Di underlying183 (fun _ h=>by cases h) (h _ _ rfl)) ?_;refine zg 2 rfl ?_;obtain rfl:=oi br;obtain rfl:=ae _ aa;have bu:=elim_inl ac;obtain rfl:=oi bu;refine JL.rt func113 rfl rfl ?_;exact Z _ _ _ _ ((K.trans A).trans U) rfl ⟨.iface 183 (.agg #[iV 6,iV O]),rfl,rfl,rfl⟩ aA
         ·have bv:=im aR aC;refine zg 2 rfl ?_;refine JG.Co 7 mixed rfl (by decide+kernel) fun ht=>?_;refine JG.Bj 0 ht (ab.mono (A.trans U)) (Al underlying24) (Ag type24) rfl rfl rfl ?_;refine JG.mv 1 ht rfl rfl ?_;refine JG.fd 2 ht underlying24 (Ag type22) rfl rfl rfl rfl ?_;refine JG.ld 3 ht 1 (ab.mono (A.trans U)) (Al underlying22) rfl rfl rfl rfl ?_;refine JG.mv 4 ht rfl rfl ?_;obtain⟨bY,bw,bx⟩:=bs bv;refine JG.idx 5 (ah.mono ((K.trans A).trans U)) bw rfl ht (by decide+kernel) rfl rfl rfl rfl rfl underlying22 (Ag type28) ?_;rintro bZ b0 _ ⟨b1,b2,rfl,bz⟩ bA;refine JG.ld 6 ht 0 bA (Al underlying28) rfl rfl rfl rfl ?_;refine Av.leaf (tail:= [7,8]) (by decide+kernel) (fun t=>A1 (by decide+kernel) (A1 (by decide+kernel) BM) t) ?_;obtain⟨aS,bB,aT⟩:=bs bx;refine JS.cl (N9 (am.mono ((K.trans A).trans U)) (ah.mono ((K.trans A).trans U)) bz bB) rfl rfl (Aw func136 rfl) aA ?_;rintro bC bD _ aU ⟨_,rfl,rfl,aV⟩ aW;refine zg 5 rfl ?_;refine JL.Y (v:= .bool aS.isSome) rfl (fun ρ h=>Yl.KB underlying149 aV (h _ _ rfl) (h _ _ rfl)) ?_;refine JL.done ?_;refine JL.split (t:=aS.isSome) rfl (fun aD=>?_) (fun aD=>?_)
          ·have bE:=ip aT aD;refine zg 5 rfl ?_;obtain rfl:=oi bE;obtain rfl:=ae _ aa;have bF:=elim_inl ac;obtain rfl:=oi bF;refine JL.rt func113 rfl rfl ?_;exact Z _ _ _ _ (((K.trans A).trans U).trans aU) rfl ⟨bC,rfl,rfl,aV⟩ aW
          ·have bG:=ib aT aD;obtain⟨bH,bI,bJ⟩:=bs bG;refine zg 3 rfl ?_;refine JL.Y rfl (fun ρ h=>Yl.A0 (h _ _ rfl) (h _ _ rfl) bI) ?_;refine zg 2 rfl ?_;obtain rfl:=oi bJ;exact JL.kw (a8 _ _ bH ⟨bD,rfl,rfl,((A.trans U).trans aU),aW⟩ aa) rfl
     ·have bK:=im av aw;refine JL.exit rfl ?_;obtain rfl:=oi bK;have bL:aI=(Sum.inr ()):=(ae _ aa).symm;exact JL.kw (a7 _ _ ⟨(),au,bL,rfl,rfl,A,aj⟩) rfl
def M0(fuel:Nat)(p0:A2)(p1:AW)(A:Int):Option (A4 (Int) (((Option (Int×Int)))⊕(Unit))):=
 if A<((p1).length:Int) then(
  (ix p1 (A)).bind fun K=>
  (f101 fuel K.1 0 6).bind fun O=>
  if O=true then(
   some (.done (Sum.inl (some (1,A))))
  ) else(
   Option.bind (
    if 0<A then(
     (Ax (A - 1)).bind fun U=>
     (ix p1 (U)).bind fun Z=>
     some (decide (K.1<Z.1))
    ) else(
     some false
    )
   ) fun aa=>
   if aa=true then(
    some (.done (Sum.inl (some (5,A))))
   ) else(
    (Ax (((p0.1).length:Int) - 1)).bind fun ab=>
    (f101 fuel K.2 0 ab).bind fun ac=>
    if ac=true then(
     some (.done (Sum.inl (some (3,A))))
    ) else(
     (Ax (A+1)).bind fun ae=>
     some (.more ae)
    )
   )
  )
 ) else(
  some (.done (Sum.inr ()))
 )
def f116(fuel:Nat)(p0:A2)(p1:AW):Option ((Option (Int×Int))):=
 if 4<((p1).length:Int) then(
  some (some (6,0))
 ) else(
  Option.bind (iter (M0 fuel p0 p1) fuel 0) fun A=>
  Sum.elim (fun r=>some r) (fun K=>
  some none
  ) A
 )
theorem Ta{ai:Ar}{c2:Nat}{aj:Ar}{ak:Nat}{K:Ar}{O:Nat}{p0:A2}{p1:AW}(bH:Ao (rL rI) E ai c2 (p0.1))(bI:Ao (rL rI) E aj ak (p0.2))(aB:Ao Bv E K O (p1)){fuel:Nat}{r:(Option (Int×Int))}(al:f116 fuel p0 p1=some r):Aq J 116 [.agg #[.slice ai (p0.1).length c2,.slice aj (p0.2).length ak],.slice K (p1).length O] E [] (fun w E' B'=>∃(aC:Value),w=aC∧B'= []∧FL 183 aC (r)):=by
 refine Aq.en func116 rfl rfl fun Q bJ cs H aR ae=>?_;unfold f116 at al;refine zg 2 rfl ?_;refine JS.box (v:= .agg #[.slice ai (p0.1).length c2,.slice aj (p0.2).length ak]) rfl rfl rfl aR rfl fun am aS=>?_;refine JS.Ba 1 aS rfl fun an aa aT aD=>?_;refine zg 6 rfl ?_;refine JL.Y rfl (fun ρ h=>Yl.len rfl underlying25 (h _ _ rfl)) ?_;refine zg 2 rfl ?_;refine JL.ifs (p:=4<((p1).length:Int)) rfl (fun ao=>?_) (fun ao=>?_)
 ·have aU:=ip al ao;refine zg 2 rfl ?_;refine JL.Y (v:= .agg #[iV 6,iV 0]) rfl (fun ρ h=>Yl.Cb [(0,1),(1,1)] h (AO type183) underlying183 ⟨rfl,Ag type39,rfl,Ag type3,trivial⟩ rfl rfl) ?_;refine JL.Y (v:= .iface 183 (.agg #[iV 6,iV 0])) rfl (fun ρ h=>Yl.Di underlying183 (fun _ h=>by cases h) (h _ _ rfl)) ?_;refine zg 2 rfl ?_;obtain rfl:=oi aU;refine JL.rt func116 rfl rfl ?_;exact ae _ _ _ _ aa rfl ⟨.iface 183 (.agg #[iV 6,iV 0]),rfl,rfl,rfl⟩ aD
 ·have aV:=im al ao;refine zg 5 rfl ?_;refine JL.Y rfl (fun ρ h=>Yl.len rfl underlying25 (h _ _ rfl)) ?_;obtain⟨aE,aW,ag⟩:=bs aV;refine zg 2 rfl ?_;refine JL.join (fun L s=>∃(aF:Unit) (aG:LH),aE=Sum.inr aF∧Jm an H aG [] [] L s) ?_ ?_
  ·rintro _ _ ⟨aF,aG,rfl,rfl,rfl,aX,aY⟩;have aZ:=elim_inr ag;refine zg 4 rfl ?_;obtain rfl:=oi aZ;refine JL.rt func116 rfl rfl ?_;exact ae _ _ _ _ (aa.trans aX) rfl ⟨.nilIface,rfl,rfl,rfl⟩ aY
  ·intro a0;refine JL.block ?_;refine JL.wk [(1,.slice K (p1).length O),(2,.pointer (some ⟨am,0,none⟩)),(12,.slice K (p1).length O),(13,iV ((p1).length:Int)),(14,iV 0)] rfl ?_;refine JL.Bf aW (fun L s A=>∃(ap:LH),Jm an H ap [] [(1,.slice K (p1).length O),(2,.pointer (some ⟨am,0,none⟩)),(12,.slice K (p1).length O),(13,iV ((p1).length:Int)),(14,iV A)] L s) ⟨an,rfl,rfl,(Le.refl _),aD⟩ ?_;rintro _ _ A ⟨ap,rfl,rfl,U,aH⟩ ah ⟨bK,ab⟩ a1;have aq:=ab;unfold M0 at aq;refine zg 5 rfl ?_;refine JL.ifs (p:=A<((p1).length:Int)) rfl (fun ar=>?_) (fun ar=>?_)
   ·have a2:=ip aq ar;obtain⟨aI,a3,a4⟩:=bs a2;refine zg 6 rfl ?_;refine JS.BF (aB.mono (aa.trans U)) a3 rfl rfl rfl rfl rfl underlying25 (Ag type27) ?_;rintro bL bM _ ⟨_,_,rfl,rfl,rfl⟩ a5;refine JL.Bj a5 (Al underlying27) (Ag type27) rfl rfl ?_;refine JS.alloc rfl rfl rfl aH (AO type27) fun a6 a7=>?_;refine zg 1 rfl ?_;refine JS.st (v:= .agg #[iV aI.1,iV aI.2]) (off:=0) 0 a7 (Ag type27) rfl rfl rfl rfl fun a8=>?_;refine JS.Ba 0 a8 rfl fun bN ac au a9=>?_;refine zg 4 rfl ?_;refine JL.fd underlying27 (Ag type3) rfl rfl rfl ?_;refine JL.ld 0 au (Al underlying3) rfl rfl rfl ?_;obtain⟨ba,bb,aJ⟩:=bs a4;refine JS.cl (Gk bb) rfl rfl (Aw func101 rfl) a9 ?_;rintro _ bc _ Z ⟨rfl,rfl⟩ av;refine zg 2 rfl ?_;refine JL.split (t:=ba) rfl (fun aw=>?_) (fun aw=>?_)
    ·have bd:=ip aJ aw;refine zg 3 rfl ?_;refine JL.Y (v:= .agg #[iV 1,iV A]) rfl (fun ρ h=>Yl.Cb [(0,1),(1,1)] h (AO type183) underlying183 ⟨rfl,Ag type39,rfl,Ag type3,trivial⟩ rfl rfl) ?_;refine JL.Y (v:= .iface 183 (.agg #[iV 1,iV A])) rfl (fun ρ h=>Yl.Di underlying183 (fun _ h=>by cases h) (h _ _ rfl)) ?_;refine zg 2 rfl ?_;obtain rfl:=oi bd;obtain rfl:=ah _ ab;have bf:=elim_inl ag;obtain rfl:=oi bf;refine JL.rt func116 rfl rfl ?_;exact ae _ _ _ _ (((aa.trans U).trans ac).trans Z) rfl ⟨.iface 183 (.agg #[iV 1,iV A]),rfl,rfl,rfl⟩ av
    ·have bg:=ib aJ aw;refine JL.seq ?_;refine JG.Co 13 mixed rfl (by decide+kernel) fun ht=>?_;refine JG.ms ht rfl [0,1,2] rfl ?_;obtain⟨aK,aL,aM⟩:=bs bg;refine Av.join 1 #[true,true,true,true,true,true,true,true,true,true,true,true,true,false] (fun L s=>L= [(1,.slice K (p1).length O),(2,.pointer (some ⟨am,0,none⟩)),(5,iV A),(6,.pointer (some ⟨a6,0,none⟩)),(12,.slice K (p1).length O),(13,iV ((p1).length:Int)),(14,iV A),(39,.bool aK)]∧s=Ap bc H [[],[]]) ?_ ?_
     ·rintro _ _ ⟨rfl,rfl⟩;refine Av.leaf (tail:= [13]) (by decide+kernel) (fun t=>A1 (by decide+kernel) BM t) ?_;refine zg 2 rfl ?_;refine JL.split (t:=aK) rfl (fun ay=>?_) (fun ay=>?_)
      ·have bh:=ip aM ay;refine zg 3 rfl ?_;refine JL.Y (v:= .agg #[iV 5,iV A]) rfl (fun ρ h=>Yl.Cb [(0,1),(1,1)] h (AO type183) underlying183 ⟨rfl,Ag type39,rfl,Ag type3,trivial⟩ rfl rfl) ?_;refine JL.Y (v:= .iface 183 (.agg #[iV 5,iV A])) rfl (fun ρ h=>Yl.Di underlying183 (fun _ h=>by cases h) (h _ _ rfl)) ?_;refine zg 2 rfl ?_;obtain rfl:=oi bh;obtain rfl:=ah _ ab;have bi:=elim_inl ag;obtain rfl:=oi bi;refine JL.rt func116 rfl rfl ?_;exact ae _ _ _ _ (((aa.trans U).trans ac).trans Z) rfl ⟨.iface 183 (.agg #[iV 5,iV A]),rfl,rfl,rfl⟩ av
      ·have bj:=ib aM ay;refine zg 2 rfl ?_;refine JL.fd underlying27 (Ag type3) rfl rfl rfl ?_;refine JL.ld 1 (au.mono Z) (Al underlying3) rfl rfl rfl ?_;refine JL.fd underlying24 (Ag type22) rfl rfl rfl ?_;refine JL.ld 0 (aT.mono ((U.trans ac).trans Z)) (Al underlying22) rfl rfl rfl ?_;refine JL.Y rfl (fun ρ h=>Yl.len rfl underlying22 (h _ _ rfl)) ?_;obtain⟨bO,bk,bl⟩:=bs bj;refine JL.Y rfl (fun ρ h=>Yl.Bb (h _ _ rfl) (h _ _ rfl) bk) ?_;obtain⟨bm,bn,aN⟩:=bs bl;refine JS.cl (Gk bn) rfl rfl (Aw func101 rfl) av ?_;rintro _ bo _ aO ⟨rfl,rfl⟩ aP;refine zg 2 rfl ?_;refine JL.split (t:=bm) rfl (fun az=>?_) (fun az=>?_)
       ·have bp:=ip aN az;refine zg 3 rfl ?_;refine JL.Y (v:= .agg #[iV 3,iV A]) rfl (fun ρ h=>Yl.Cb [(0,1),(1,1)] h (AO type183) underlying183 ⟨rfl,Ag type39,rfl,Ag type3,trivial⟩ rfl rfl) ?_;refine JL.Y (v:= .iface 183 (.agg #[iV 3,iV A])) rfl (fun ρ h=>Yl.Di underlying183 (fun _ h=>by cases h) (h _ _ rfl)) ?_;refine zg 2 rfl ?_;obtain rfl:=oi bp;obtain rfl:=ah _ ab;have bq:=elim_inl ag;obtain rfl:=oi bq;refine JL.rt func116 rfl rfl ?_;exact ae _ _ _ _ ((((aa.trans U).trans ac).trans Z).trans aO) rfl ⟨.iface 183 (.agg #[iV 3,iV A]),rfl,rfl,rfl⟩ aP
       ·have br:=ib aN az;obtain⟨bu,bv,bw⟩:=bs br;refine zg 4 rfl ?_;refine JL.Y rfl (fun ρ h=>Yl.A0 (h _ _ rfl) (h _ _ rfl) bv) ?_;refine zg 2 rfl ?_;obtain rfl:=oi bw;exact JL.kw (a1 _ _ bu ⟨bo,rfl,rfl,(((U.trans ac).trans Z).trans aO),aP⟩ ab) rfl
     ·intro aQ;refine Av.BW (q:=0<A) (i:=29) rfl (fun aA=>?_) (fun aA=>?_)
      ·have bx:=ip aL aA;refine JG.fd 3 ht underlying27 (Ag type3) rfl rfl rfl rfl ?_;refine JG.ld 4 ht 0 (au.mono Z) (Al underlying3) rfl rfl rfl rfl ?_;refine JG.ms ht rfl [5,6] rfl ?_;obtain⟨bP,bz,bA⟩:=bs bx;refine JG.V 7 ht rfl rfl (fun ρ h s' hs=>Yl.Bb (h _ _ rfl) (h _ _ rfl) bz) ?_;obtain⟨bQ,bB,bC⟩:=bs bA;refine JG.idx 8 (aB.mono (((aa.trans U).trans ac).trans Z)) bB rfl ht (by decide+kernel) rfl rfl rfl rfl rfl underlying25 (Ag type27) ?_;rintro bR bS _ ⟨_,_,rfl,rfl,rfl⟩ bD;refine JG.fd 9 ht underlying27 (Ag type3) rfl rfl rfl rfl ?_;refine JG.ld 10 ht 0 bD (Al underlying3) rfl rfl rfl rfl ?_;refine JG.ms ht rfl [11,12] rfl ?_;obtain rfl:=oi bC;refine Av.BU ?_ (aQ _ _ ⟨rfl,rfl⟩);exact⟨rfl,rfl,rfl,rfl,rfl,rfl,rfl,rfl,trivial⟩
      ·have bE:=im aL aA;refine JG.ms ht rfl [3,4,5,6,7,8,9,10,11,12] rfl ?_;obtain rfl:=oi bE;refine Av.BU ?_ (aQ _ _ ⟨rfl,rfl⟩);exact⟨rfl,rfl,rfl,rfl,rfl,rfl,rfl,rfl,trivial⟩
   ·have bF:=im aq ar;refine JL.exit rfl ?_;obtain rfl:=oi bF;have bG:aE=(Sum.inr ()):=(ah _ ab).symm;exact JL.kw (a0 _ _ ⟨(),ap,bG,rfl,rfl,U,aH⟩) rfl
end Pal
namespace Pal
open Go Go.Conc Go.Proofs Go.Extern
abbrev CK(t:Nat):Value:= .pointer (some ⟨1,t,none⟩)
abbrev FM(t:Nat):Value:= .iface 240 (.agg #[CK t])
section
variable {s:St}{X:Halt→St→Prop}
theorem Pl{Q:Value→St→Prop}(t:Addr):lp Tryz.prog (ReflectliteValue.unpack (.iface 185 (.pointer (some t)))) s Q X=(s.q=false∧∀r,s.E r=none→s.H r=none→Q (.agg #[CK 185,.pointer (some ⟨r,0,none⟩),.int .u64 150]) (s.upd r (.cells #[.pointer (some t)] 185 (0,0)))):=by kernel_rfl
theorem Pm{Q:Value→St→Prop}(c a:Int):lp Tryz.prog (ReflectliteValue.unpack (.iface 183 (.agg #[iV c,iV a]))) s Q X=(s.q=false∧∀r,s.E r=none→s.H r=none→Q (.agg #[CK 183,.pointer (some ⟨r,0,none⟩),.int .u64 153]) (s.upd r (.cells #[iV c,iV a] 183 (0,0)))):=by kernel_rfl
theorem Qs{Q:Value→St→Prop}(a:Addr):lp Tryz.prog (ReflectliteValue.methodAny (ReflectliteValue.valueError "reflectlite.Value.Type" 0) (fun t _ _ _=>ReflectliteType.toType t) #[.agg #[CK 185,.pointer (some a),.int .u64 150]]) s Q X=Q (FM 185) s:=by kernel_rfl
theorem PG{Q:Value→St→Prop}(v:Value):lp Tryz.prog (ReflectliteType.typeOf #[.iface 183 v]) s Q X=Q (FM 183) s:=by kernel_rfl
theorem ND{Q:FuncId×Value→St→Prop}(h:Value):lp Tryz.prog (Go.method (Tryz.prog.types.size+Made.depth) 240 (.agg #[h]) "Kind") s Q X=Q (216,h) s:=by kernel_rfl
theorem Tz{Q:FuncId×Value→St→Prop}(h:Value):lp Tryz.prog (Go.method (Tryz.prog.types.size+Made.depth) 240 (.agg #[h]) "Elem") s Q X=Q (227,.agg #[h]) s:=by kernel_rfl
theorem Tj{Q:FuncId×Value→St→Prop}(h:Value):lp Tryz.prog (Go.method (Tryz.prog.types.size+Made.depth) 240 (.agg #[h]) "Implements") s Q X=Q (228,.agg #[h]) s:=by kernel_rfl
theorem TW{Q:FuncId×Value→St→Prop}(h:Value):lp Tryz.prog (Go.method (Tryz.prog.types.size+Made.depth) 240 (.agg #[h]) "AssignableTo") s Q X=Q (225,.agg #[h]) s:=by kernel_rfl
theorem QV{Q:Value→St→Prop}:lp Tryz.prog ((ReflectliteType.abiMethod fun t=>(fun a:Nat=>Value.int IntKind.u8 (a:Int))<$>Rtype.kind t) #[CK 185]) s Q X=Q (.int .u8 22) s:=by kernel_rfl
theorem Qt{Q:Value→St→Prop}:lp Tryz.prog ((ReflectliteType.abiMethod fun t=>(fun a:Nat=>Value.int IntKind.u8 (a:Int))<$>Rtype.kind t) #[CK 183]) s Q X=Q (.int .u8 25) s:=by kernel_rfl
theorem QE{Q:Value→St→Prop}:lp Tryz.prog (ReflectliteType.method ReflectliteType.elem #[.agg #[CK 185]]) s Q X=Q (FM 183) s:=by kernel_rfl
theorem Qy{Q:Value→St→Prop}:lp Tryz.prog (ReflectliteType.relation "Implements" ReflectliteType.implements_ #[.agg #[CK 183],FM 149]) s Q X=Q (.bool true) s:=by kernel_rfl
theorem R9{Q:Value→St→Prop}:lp Tryz.prog (ReflectliteType.relation "AssignableTo" ReflectliteType.assignableTo #[.agg #[CK 183],FM 183]) s Q X=Q (.bool true) s:=by kernel_rfl
theorem Md{Q:Option (TypeId×Addr×Nat)→St→Prop}(a:Addr):lp Tryz.prog (ReflectliteValue.parts (.agg #[CK 185,.pointer (some a),.int .u64 150])) s Q X=Q (some (185,a,150)) s:=by kernel_rfl
theorem P8{Q:Option (TypeId×Addr×Nat)→St→Prop}(a:Addr):lp Tryz.prog (ReflectliteValue.parts (.agg #[CK 183,.pointer (some a),.int .u64 153])) s Q X=Q (some (183,a,153)) s:=by kernel_rfl
theorem Ps{Q:Option (TypeId×Addr×Nat)→St→Prop}(a:Addr):lp Tryz.prog (ReflectliteValue.parts (.agg #[CK 183,.pointer (some a),.int .u64 409])) s Q X=Q (some (183,a,409)) s:=by kernel_rfl
theorem Rm{Q:Option TypeId→St→Prop}:lp Tryz.prog (Rtype.elem? 185) s Q X=Q (some 183) s:=by kernel_rfl
theorem Sl{Q:Value→St→Prop}(p:Addr):lp Tryz.prog (ReflectliteValue.mk 183 p ReflectliteValue.flagAddr) s Q X=Q (.agg #[CK 183,.pointer (some p),.int .u64 409]) s:=by kernel_rfl
theorem Sd{Q:Bool→St→Prop}:lp Tryz.prog (Rtype.directlyAssignable 183 183) s Q X=Q true s:=by kernel_rfl
theorem MF{Q:Value→St→Prop}(a:Addr):lp Tryz.prog (loadVar 185 a) s Q X=(Mode.plain= .plain∧∃v,s.cell? a=some v∧Q v s):=by kernel_rfl
theorem Q2{Q:Value→St→Prop}(a:Addr):lp Tryz.prog (loadVar 183 a) s Q X=(Mode.plain= .plain∧∃v,s.cell? (a.add 0)=some v∧Mode.plain= .plain∧∃w,s.cell? (a.add 1)=some w∧Q (.agg #[v,w]) s):=by kernel_rfl
end
theorem NO:BO Tryz.prog 164 (fun args=>ReflectliteValue.unpack (args.getD 0 (.tuple #[]))):=⟨⟨_,Tryz.func164,by kernel_rfl,by kernel_rfl,by kernel_rfl,by kernel_rfl⟩⟩
theorem Ts:BO Tryz.prog 165 (ReflectliteValue.methodAny (ReflectliteValue.valueError "reflectlite.Value.Type" 0) (fun t _ _ _=>ReflectliteType.toType t)):=⟨⟨_,Tryz.func165,by kernel_rfl,by kernel_rfl,by kernel_rfl,by kernel_rfl⟩⟩
theorem SP:BO Tryz.prog 166 (ReflectliteValue.method (ReflectliteValue.valueError "reflectlite.Value.IsNil" 0) ReflectliteValue.isNil):=⟨⟨_,Tryz.func166,by kernel_rfl,by kernel_rfl,by kernel_rfl,by kernel_rfl⟩⟩
theorem SB:BO Tryz.prog 188 ReflectliteType.typeOf:=⟨⟨_,Tryz.func188,by kernel_rfl,by kernel_rfl,by kernel_rfl,by kernel_rfl⟩⟩
theorem Ty:BO Tryz.prog 189 (ReflectliteValue.method (ReflectliteValue.valueError "reflectlite.Value.Elem" 0) ReflectliteValue.elem):=⟨⟨_,Tryz.func189,by kernel_rfl,by kernel_rfl,by kernel_rfl,by kernel_rfl⟩⟩
theorem Te:BO Tryz.prog 190 ReflectliteValue.set:=⟨⟨_,Tryz.func190,by kernel_rfl,by kernel_rfl,by kernel_rfl,by kernel_rfl⟩⟩
theorem Oa:BO Tryz.prog 216 (ReflectliteType.abiMethod fun t=>(fun a:Nat=>Value.int IntKind.u8 (a:Int))<$>Rtype.kind t):=⟨⟨_,Tryz.func216,by kernel_rfl,by kernel_rfl,by kernel_rfl,by kernel_rfl⟩⟩
theorem Tk:BO Tryz.prog 225 (ReflectliteType.relation "AssignableTo" ReflectliteType.assignableTo):=⟨⟨_,Tryz.func225,by kernel_rfl,by kernel_rfl,by kernel_rfl,by kernel_rfl⟩⟩
theorem SI:BO Tryz.prog 227 (ReflectliteType.method ReflectliteType.elem):=⟨⟨_,Tryz.func227,by kernel_rfl,by kernel_rfl,by kernel_rfl,by kernel_rfl⟩⟩
theorem SV:BO Tryz.prog 228 (ReflectliteType.relation "Implements" ReflectliteType.implements_):=⟨⟨_,Tryz.func228,by kernel_rfl,by kernel_rfl,by kernel_rfl,by kernel_rfl⟩⟩
end Pal
namespace Pal
open Go Go.Conc
section
variable {P:Program}{J:Judge P}{Q:Goroutine→St→Prop}{b:Frame}{n:Nat}{ds:List Deferred}{ops:Array Oper}{k:List Item}{cs:List Frame}{m fuel:Nat}{D:Nat→Bool}{listed:Array Bool}{L:Env}{s:St}{E E' H:LH}{S:List Seg}
variable {d:Option Tmp}{x y:Operand}{t u ty e:TypeId}{p:String}{af:Array Edge}{g:Option (Nat×Bool)}{v:Value}{i:Nat}{kd:IntKind}
end
end Pal
namespace Pal
open Go Go.Conc
section
variable {P:Program}{J:Judge P}{Q:Goroutine→St→Prop}{b:Frame}{n:Nat}{L:Env}{ds:List Deferred}{k:List Item}{cs:List Frame}{s:St}{ops:Array Oper}{i:Nat}{rest:List Nat}{v:Value}
variable {d:Option Tmp}{x:Operand}{ty:TypeId}{p:String}{af:Array Edge}{g:Option (Nat×Bool)}
theorem Mh{f:FuncId}{e:Array Value→Sem Value}{args:Array Value}{Q:Next→St→Prop}{X:Halt→St→Prop}(he:BO P f e)(h:lp P (e args) s (fun v s'=>Q (.value v) s') X):lp P (callFunc f args) s Q X:=by
 obtain⟨fn,A,K,O,U,Z⟩:=he.h;unfold callFunc;simp only [bind,Sem.bind,program,lp,A,K,O,Bool.false_eq_true,if_false,if_true,mark,U,Z];refine⟨.inr ⟨f,rfl⟩,?_⟩;exact AB _ _ (B8 _ h (fun v s' aa=>aa) (fun _ _ ab=>ab))
theorem JL.xc{f:FuncId}{e:Array Value→Sem Value}{args:Array Operand}{ats:Array TypeId}{vs:List Value}(he:BO P f e)(K:ops[i]? =some ⟨d,.call ⟨.value (.func f),args,ats⟩,ty,p,af,g⟩)(hw:AT L ops ⟨d,.call ⟨.value (.func f),args,ats⟩,ty,p,af,g⟩=some true)(O:BR b n ⟨d,.call ⟨.value (.func f),args,ats⟩,ty,p,af,g⟩=true)(U:evs L args.toList=some vs)
  (h:lp P (e vs.toArray) s (fun v s'=>JL J Q b n (AJ L d v) ds (.inRegion ops rest::k) cs s') (fun _ _=>False)):JL J Q b n L ds (.inRegion ops (i::rest)::k) cs s:=by
 refine JL.op K hw O fun ρ A=>?_;have Z:args.map ρ=vs.toArray:=by
  rw [← DW A U];apply Array.ext';simp
 have aa:ρ (.func f)= .func (.func f) #[] #[]:=A _ _ rfl;simp only [execOp,resolve,bind,Sem.bind,Deferred.ofValue,aa,pure,invoke];have ab: #[]++args.map ρ++ #[]=vs.toArray:=by rw [Z];simp
 rw [ab];exact Mh he h
theorem JL.xi{t:TypeId}{A K:Value}{name:String}{f:FuncId}{e:Array Value→Sem Value}{args:Array Operand}{ats:Array TypeId}{vs:List Value}(he:BO P f e)(hm:∀{s:St} {X:Halt→St→Prop} {Q:FuncId×Value→St→Prop},lp P (Go.method (P.types.size+Made.depth) t A name) s Q X=Q (f,K) s)
  (U:ops[i]? =some ⟨d,.call ⟨.invoke x name,args,ats⟩,ty,p,af,g⟩) (hw:AT L ops ⟨d,.call ⟨.invoke x name,args,ats⟩,ty,p,af,g⟩=some true) (Z:BR b n ⟨d,.call ⟨.invoke x name,args,ats⟩,ty,p,af,g⟩=true) (aa:ev L x=some (.iface t A)) (ab:evs L args.toList=some vs)
  (h:lp P (e (K::vs).toArray) s (fun v s'=>JL J Q b n (AJ L d v) ds (.inRegion ops rest::k) cs s') (fun _ _=>False)):JL J Q b n L ds (.inRegion ops (i::rest)::k) cs s:=by
 refine JL.op U hw Z fun ρ O=>?_;have ac:args.map ρ=vs.toArray:=by
  rw [← DW O ab];apply Array.ext';simp
 have ae:ρ x= .iface t A:=O _ _ aa;simp only [execOp,resolve,bind,Sem.bind,pure,invoke,ae,ac];have ag:(#[Value.iface t A]++vs.toArray)[0]? =some (.iface t A):=by simp
 have ah:(#[Value.iface t A]++vs.toArray).extract 1 (#[Value.iface t A]++vs.toArray).size=vs.toArray:=by
  apply Array.ext';simp
 simp only [ag,ah,callMethod,bind,Sem.bind,program,lp];refine AB _ _ ?_;rw [hm];have ai: #[K]++vs.toArray=(K::vs).toArray:=by apply Array.ext';simp
 rw [ai];exact Mh he h
end
end Pal
namespace Pal
open Go Go.Conc
section
variable {P:Program}{J:Judge P}{Q:Goroutine→St→Prop}{b:Frame}{n:Nat}{ds:List Deferred}{ops:Array Oper}{k:List Item}{cs:List Frame}{fuel:Nat}{D:Nat→Bool}{listed:Array Bool}{L L':Env}{s:St}{xl:List Nat}
variable {d:Option Tmp}{op:Op}{ty:TypeId}{p:String}{af:Array Edge}{g:Option (Nat×Bool)}{v:Value}
theorem JB.V(i:Nat)(pure:Bool)(A:s.q=false)(K:Gx n L ops i=some ⟨d,op,ty,p,af,g⟩)
  (O:∀ρ,CU L ρ→∀s':St,(pure=false→∀x o,(Bh D s).E x=some o→s'.E x=some o)→Yl P ⟨d,op,ty,p,af,g⟩ ρ s' v)
  (U:Fs J Q b n ds ops k cs (AH xl) D fuel (AX listed i) (AJ L d v) s) (Z:Jt ops listed xl pure i=true:=by decide+kernel):Fs J Q b n ds ops k cs (AH xl) D (fuel+1) listed L s:=by
 obtain⟨aa,ab,ac⟩:=Mc K;exact JB.val i pure aa Z A ab ac O U
def Ll(n:Nat)(L:Env)(ops:Array Oper)(i:Nat):Option Env:=
 match FK ops.toList i with
 | some ⟨d,op,ty,p,af,g⟩=>match AT L ops ⟨d,op,ty,p,af,g⟩ with
  | some true=>match Bd n d with
   | true=>match Gs L op with
    | some v=>match d with
     | some d=>some ((d,v)::L)
     | none=>some L
    | none=>none
   | false=>none
  | _=>none
 | none=>none
theorem QN{i:Nat}(h:Ll n L ops i=some L'):∃o v,ops[i]? =some o∧Bd n o.dst=true∧AT L ops o=some true∧Gs L o.op=some v∧L'=AJ L o.dst v:=by
 unfold Ll at h;split at h
 ·rename_i d op ty p af g A;rw [GO,Array.getElem?_toList] at A;split at h
  ·rename_i hw;split at h
   ·rename_i K;split at h
    ·rename_i v O;refine⟨_,v,A,K,hw,O,?_⟩;cases d with
     | none=>cases h;rfl
     | some d=>cases h;rfl
    ·cases h
   ·cases h
  ·cases h
 ·cases h
theorem JB.mv(i:Nat)(A:s.q=false)(h:Ll n L ops i=some L')
  (K:Fs J Q b n ds ops k cs (AH xl) D fuel (AX listed i) L' s) (O:Jt ops listed xl true i=true:=by decide+kernel):Fs J Q b n ds ops k cs (AH xl) D (fuel+1) listed L s:=by
 obtain⟨o,v,U,Z,hw,aa,rfl⟩:=QN h;exact JB.val i true U O A hw Z (fun ρ ab s' _=>IB ab aa) K
end
end Pal
namespace Pal
open Go Go.Conc Go.Proofs
open Go.Proofs.Tryz
variable {J:Judge Tryz.prog}{E:LH}
def f135(fuel:Nat):Option (Bool):=
 some false
theorem SG{K:Value}{fuel:Nat}{r:Bool}(A:f135 fuel=some r):Aq J 135 [.nilIface,K] E [] (fun w E' B'=>w= .bool r∧B'= []):=by
 refine Aq.en func135 rfl rfl fun Q Z cs H O U=>?_;unfold f135 at A;refine zg 8 rfl ?_;refine JL.Y (v:= .bool true) rfl (fun ρ h=>Yl.OI underlying149 (show FL 0 .nilIface none from rfl) (h _ _ rfl) (h _ _ rfl)) ?_;refine zg 6 rfl ?_;obtain rfl:=oi A;refine JL.rt func135 rfl rfl ?_;exact U _ _ _ _ (Le.refl _) rfl ⟨rfl,rfl⟩ O
def f112(fuel:Nat):Option (Int):=
 (f135 fuel).bind fun A=>
 if A=true then(
  some 0
 ) else(
  some 0
 )
theorem SE{fuel:Nat}{r:Int}(O:f112 fuel=some r):Aq J 112 [.nilIface] E [] (fun w E' B'=>w=iV r∧B'= []):=by
 refine Aq.en func112 rfl rfl fun Q am cs H ab U=>?_;unfold f112 at O;refine zg 6 rfl ?_;refine JS.alloc rfl rfl rfl ab (AO type183) fun ac ae=>?_;refine zg 5 rfl ?_;refine JL.Y (v:=(.iface 185 (.pointer (some ⟨ac,0,none⟩)))) rfl (fun ρ h=>Yl.Di underlying185 (fun _ h=>by cases h) (h _ _ rfl)) ?_;obtain⟨ag,ah,Z⟩:=bs O;refine JS.cl (SG ah) rfl rfl (Aw func135 rfl) ae ?_;rintro _ an _ aa ⟨rfl,rfl⟩ A;refine JL.done ?_;refine JL.split (t:=ag) rfl (fun K=>?_) (fun K=>?_)
 ·have ai:=ip Z K;refine zg 2 rfl ?_;refine JL.fd underlying183 (Ag type39) rfl rfl rfl ?_;refine JL.Y (v:=iV 0) rfl (fun ρ h=>Yl.load (Al underlying39) (h _ _ rfl) (Cw (j:=1) (off:=0) A rfl rfl)) ?_;refine zg 2 rfl ?_;refine JS.drop 1 A rfl fun aj=>?_;obtain rfl:=oi ai;refine JL.rt func112 rfl rfl ?_;exact U _ _ _ _ aa rfl ⟨rfl,rfl⟩ aj
 ·have ak:=ib Z K;refine zg 5 rfl ?_;refine JS.drop 1 A rfl fun al=>?_;obtain rfl:=oi ak;refine JL.rt func112 rfl rfl ?_;exact U _ _ _ _ aa rfl ⟨rfl,rfl⟩ al
def Kv(fuel:Nat)(p0:Option (Int×Int)):Option Int:=match p0 with
 | none=>f112 fuel
 | some _=>none
end Pal
namespace Pal
open Go Go.Conc Go.Proofs Go.Extern
def Kh(b:Frame)(n:Nat):Nat→List Item→Env→List Item×Env
 | 0,k,L=>(k,L)
 | m+1,k,L=>match Jd b n L k with
  | some (k',L')=>Kh b n m k' L'
  | none=>(k,L)
theorem zm{P:Program}{J:Judge P}{Q:Goroutine→St→Prop}{b:Frame}{n:Nat}{ds:List Deferred}{cs:List Frame}{s:St}:∀(m:Nat) {L L':Env} {k k':List Item},Kh b n m k L=(k',L')→JL J Q b n L' ds k' cs s→JL J Q b n L ds k cs s
 | 0,L,L',k,k',h,A=>by cases h;exact A
 | m+1,L,L',k,k',h,A=>by
  unfold Kh at h
  split at h
  ·rename_i e;exact JL.OW e (zm m h A)
  ·cases h;exact A
theorem MA{E H:LH}{S:List Seg}{r:Nat}{o:Obj}(A:Ay E H S)(K:(Ap E H S).E r=none)(O:(Ap E H S).H r=none):Ay E H (S++ [[(r,o)]])∧(Ap E H S).upd r o=Ap E H (S++ [[(r,o)]]):=by
 obtain⟨a,b⟩:=Gf K O o A;obtain⟨c,d⟩:=CS a;exact⟨d,b.trans c⟩
theorem Si{s:St}{X:Halt→St→Prop}{Q:Value→St→Prop}{o:Operand}(p:Addr):lp Tryz.prog (do eqGuard .eql 20 o (.const .nilIface) (.iface 185 (.pointer (some p))) .nilIface;binOp .eql 20 (.iface 185 (.pointer (some p))) .nilIface) s Q X=Q (.bool false) s:=by kernel_rfl
theorem Yl.T3{s:St}{ρ:Operand→Value}{d:Option Tmp}{x:Operand}{u ty:TypeId}{p:String}{af:Array Edge}{g:Option (Nat×Bool)}{a:Addr}(A:ρ x= .iface 185 (.pointer (some a)))(K:ρ (.const .nilIface)= .nilIface):Yl Tryz.prog ⟨d,.binOp .eql 20 x (.const .nilIface) u,ty,p,af,g⟩ ρ s (.bool false):=by
 refine Yl.Ds (sm:=do eqGuard .eql 20 x (.const .nilIface) (ρ x) (ρ (.const .nilIface));binOp .eql 20 (ρ x) (ρ (.const .nilIface))) rfl ?_
 rw [A,K];exact(Si a).mpr ⟨rfl,rfl⟩
theorem OT(z:Sem Value)(f:TypeId→Addr→Nat→Nat→Sem Value)(v:Value):ReflectliteValue.method z f #[v]=Sem.bind (ReflectliteValue.parts v) (fun x=>match x with | none=>z | some (t,a,fl)=>f t a fl (fl % 32)):=rfl
theorem Qj{s:St}{X:Halt→St→Prop}{Q:Value→St→Prop}(a p:Addr)(A:s.cell? a=some (.pointer (some p)))(h:Q (.bool false) s):lp Tryz.prog (ReflectliteValue.method (ReflectliteValue.valueError "reflectlite.Value.IsNil" 0) ReflectliteValue.isNil #[.agg #[CK 185,.pointer (some a),.int .u64 150]]) s Q X:=by
 rw [OT];refine AB (x:=ReflectliteValue.parts _) _ ((Md a).mpr ?_);show lp Tryz.prog (Sem.bind (loadVar 185 a) _) s Q X;exact AB (x:=loadVar 185 a) _ ((MF a).mpr ⟨rfl,_,A,h⟩)
theorem PZ{s:St}{X:Halt→St→Prop}{Q:Value→St→Prop}(a p:Addr)(A:s.cell? a=some (.pointer (some p)))(h:Q (.agg #[CK 183,.pointer (some p),.int .u64 409]) s):lp Tryz.prog (ReflectliteValue.method (ReflectliteValue.valueError "reflectlite.Value.Elem" 0) ReflectliteValue.elem #[.agg #[CK 185,.pointer (some a),.int .u64 150]]) s Q X:=by
 rw [OT];refine AB (x:=ReflectliteValue.parts _) _ ((Md a).mpr ?_);show lp Tryz.prog (Sem.bind (loadVar 185 a) _) s Q X;refine AB (x:=loadVar 185 a) _ ((MF a).mpr ⟨rfl,_,A,?_⟩);refine AB (x:=Rtype.elem? 185) _ (Rm.mpr ?_);exact(Sl p).mpr h
theorem UG(v x:Value):ReflectliteValue.set #[v,x]=(do
  let (some (dst,a,fl),some (src,b,_)):=(← ReflectliteValue.parts v,← ReflectliteValue.parts x)
   | unsupported (.noEntry "extern/(internal/reflectlite.Value).Set.zeroValue")
  if fl / ReflectliteValue.flagAddr % 2==0 then unsupported (.noEntry "extern/(internal/reflectlite.Value).Set.unaddressable")
  let val ← loadVar src b
  if ← Rtype.directlyAssignable dst src then storeVar dst a val
  else if ← Rtype.implements dst src then
   if(← Rtype.kind src)==20 then
    match val with
    | .nilIface=>unsupported (.noEntry "extern/reflectlite: a nil value of one interface type handed on as a value of another")
    | _=>storeVar dst a val
   else storeVar dst a (.iface src val)
  else panicString ("reflectlite.Set: value of type " ++(← Rtype.spelt src)++ " is not assignable to type " ++(← Rtype.spelt dst))
  pure (.tuple #[])):=rfl
theorem Rf{E H:LH}{S:List Seg}{X:Halt→St→Prop}{Q:Value→St→Prop}{A r:Nat}{u w:Value}{c a:Int}(j:Nat)(Z:Ay E H S)(K:S[j]? =some [(A,.cells #[u,w] 183 (0,0))])(O:At E r 0 [iV c,iV a])(h:Ay E H (S.set j [(A,.cells #[iV c,iV a] 183 (0,0))])→Q (.tuple #[]) (Ap E H (S.set j [(A,.cells #[iV c,iV a] 183 (0,0))]))):
  lp Tryz.prog (ReflectliteValue.set #[.agg #[CK 183,.pointer (some ⟨A,0,none⟩),.int .u64 409],.agg #[CK 183,.pointer (some ⟨r,0,none⟩),.int .u64 153]]) (Ap E H S) Q X:=by
 rw [UG];refine AB (x:=ReflectliteValue.parts _) _ ((Ps _).mpr ?_);refine AB (x:=ReflectliteValue.parts _) _ ((P8 _).mpr ?_);refine AB (x:=loadVar 183 _) _ ((Q2 _).mpr ⟨rfl,_,At.G4 (j:=0) O rfl,rfl,_,At.G4 (j:=1) O rfl,?_⟩);refine AB (x:=Rtype.directlyAssignable 183 183) _ (Sd.mpr ?_);refine AB (x:=storeVar 183 _ _) _ ?_;obtain⟨aa,ab⟩:=Ed Z K;rw [aa];refine JM (pl:=(S.set j []).flatten.length) (Ag Tryz.type183) (by simp [Value.cells,BB]) ab (c:= #[u,w]) (e:=183) (by simp) (by simp [Value.cells]) fun U=>?_;have ac:((S.set j []).flatten++ [(A,Obj.cells #[u,w] 183 (0,0))]).set (S.set j []).flatten.length (A,.cells (A5 #[u,w] 0 (Value.agg #[iV c,iV a]).cells.toList) 183 (0,0))=(S.set j []).flatten++ [(A,.cells #[iV c,iV a] 183 (0,0))]:=Fx _ _ _ _;rw [ac] at U ⊢;obtain⟨ae,ag⟩:=Fc (seg':= [(A,.cells #[iV c,iV a] 183 (0,0))]) K U;rw [ae];exact h ag
variable {J:Judge Tryz.prog}{E:LH}
theorem Uc{c a:Int}{A r:Nat}{u w:Value}(O:At E r 0 [.pointer (some ⟨A,0,none⟩)]):Aq J 167 [.iface 183 (.agg #[iV c,iV a]),.iface 185 (.pointer (some ⟨A,0,none⟩)),.agg #[CK 185,.pointer (some ⟨r,0,none⟩),.int .u64 150],FM 183] E [(A,.cells #[u,w] 183 (0,0))] (fun v E' B'=>v= .bool true∧B'= [(A,.cells #[iV c,iV a] 183 (0,0))]):=by
 refine Aq.en Tryz.func167 rfl rfl fun Q an cs H U Z=>?_;refine zm 60 rfl ?_;refine JS.box (v:= .agg #[CK 185,.pointer (some ⟨r,0,none⟩),.int .u64 150]) rfl rfl rfl U rfl fun ao aa=>?_;refine JS.Ba 1 aa rfl fun ap K ab ac=>?_;refine zm 60 rfl ?_;refine JL.Gl ?_;refine zm 60 rfl ?_;refine JL.xc SB rfl rfl rfl rfl ?_;refine(PG _).mpr ?_;refine zm 60 rfl ?_;refine JL.xi Tk (TW _) rfl rfl rfl rfl rfl ?_;refine R9.mpr ?_;refine zm 60 rfl ?_;refine JL.Bj ab (Al Tryz.underlying210) (Ag Tryz.type210) rfl rfl ?_;refine JL.xc Ty rfl rfl rfl rfl ?_;refine PZ ⟨r,0,none⟩ ⟨A,0,none⟩ (At.G4 (j:=0) (O.mono K) rfl) ?_;refine zm 60 rfl ?_;refine JL.xc NO rfl rfl rfl rfl ?_;refine(Pm c a).mpr ⟨rfl,fun aq ae ag=>?_⟩;obtain⟨ah,ai⟩:=MA (o:= .cells #[iV c,iV a] 183 (0,0)) ac ae ag;rw [ai];refine JS.Ba 2 ah rfl fun ar aj ak al=>?_;refine JL.xc Te rfl rfl rfl rfl ?_;refine Rf 0 al rfl ak fun am=>?_;refine zm 60 rfl ?_;refine JL.rt Tryz.func167 rfl rfl ?_;exact Z _ _ _ _ (K.trans aj) rfl ⟨rfl,rfl⟩ am
theorem Sf{c a:Int}{A:Nat}{u w:Value}(aa:At E 0 0 [FM 149]):Aq J 135 [.iface 183 (.agg #[iV c,iV a]),.iface 185 (.pointer (some ⟨A,0,none⟩))] E [(A,.cells #[u,w] 183 (0,0))] (fun v E' B'=>v= .bool true∧B'= [(A,.cells #[iV c,iV a] 183 (0,0))]):=by
 refine Aq.en Tryz.func135 rfl rfl fun Q ap cs H ab ac=>?_;refine zm 60 rfl ?_;refine JL.Y (v:= .bool false) rfl (fun ρ h=>Yl.OI Tryz.underlying149 (show FL 183 (.iface 183 (.agg #[iV c,iV a])) (some (c,a)) from rfl) (h _ _ rfl) (h _ _ rfl)) ?_;refine zm 60 rfl ?_;refine JL.Y rfl (fun ρ h=>Yl.T3 (h _ _ rfl) (h _ _ rfl)) ?_;refine zm 60 rfl ?_;refine JL.xc NO rfl rfl rfl rfl ?_;refine(Pl _).mpr ⟨rfl,fun r ae ag=>?_⟩;obtain⟨ah,ai⟩:=MA (o:= .cells #[.pointer (some ⟨A,0,none⟩)] 185 (0,0)) ab ae ag;rw [ai];refine JS.alloc rfl rfl rfl ah (AO Tryz.type210) fun aq aj=>?_;refine JS.st (v:= .agg #[CK 185,.pointer (some ⟨r,0,none⟩),.int .u64 150]) (off:=0) 2 aj (Ag Tryz.type210) rfl rfl rfl rfl fun ak=>?_;refine zm 60 rfl ?_;refine JS.Ba 1 ak rfl fun ar U Z al=>?_;refine JS.Ba 2 al rfl fun au K O am=>?_;refine JL.Bj O (Al Tryz.underlying210) (Ag Tryz.type210) rfl rfl ?_;refine JL.xc Ts rfl rfl rfl rfl ?_;refine(Qs _).mpr ?_;refine zm 60 rfl ?_;refine JL.xi Oa (ND _) rfl rfl rfl rfl rfl ?_;refine QV.mpr ?_;refine zm 60 rfl ?_;refine JL.Bj (O) (Al Tryz.underlying210) (Ag Tryz.type210) rfl rfl ?_;refine JL.xc SP rfl rfl rfl rfl ?_;refine Qj ⟨r,0,none⟩ ⟨A,0,none⟩ (At.G4 (j:=0) (Z.mono K) rfl) ?_;refine zm 60 rfl ?_;refine JL.xi SI (Tz _) rfl rfl rfl rfl rfl ?_;refine QE.mpr ?_;refine zm 60 rfl ?_;refine JL.xi Oa (ND _) rfl rfl rfl rfl rfl ?_;refine Qt.mpr ?_;refine zm 60 rfl ?_;refine JL.ld 0 (aa.mono (U.trans K)) (Al Tryz.underlying213) rfl rfl rfl ?_;refine JL.xi SV (Tj _) rfl rfl rfl rfl rfl ?_;refine Qy.mpr ?_;refine zm 60 rfl ?_;refine JL.Y (v:= .bool (!true)) rfl (fun ρ h=>Yl.not (h _ _ rfl)) ?_;refine zm 60 rfl ?_;refine JL.Bj (O) (Al Tryz.underlying210) (Ag Tryz.type210) rfl rfl ?_;refine zm 60 rfl ?_;refine JS.BL 0 (Uc (Z.mono K)) rfl rfl (Aw Tryz.func167 rfl) am rfl ?_;rintro _ av _ an ⟨rfl,rfl⟩ ao;refine zm 60 rfl ?_;refine JL.rt Tryz.func135 rfl rfl ?_;exact ac _ _ _ _ ((U.trans K).trans an) rfl ⟨rfl,rfl⟩ ao
theorem QA{c a:Int}(A:At E 0 0 [FM 149]):Aq J 112 [.iface 183 (.agg #[iV c,iV a])] E [] (fun v E' B'=>v=iV c∧B'= []):=by
 refine Aq.en Tryz.func112 rfl rfl fun Q ag cs H K O=>?_;refine zm 60 rfl ?_;refine JS.alloc rfl rfl rfl K (AO Tryz.type183) fun ah U=>?_;refine zm 60 rfl ?_;refine JL.Y rfl (fun ρ h=>Yl.Di Tryz.underlying185 (fun ms e=>by cases e) (h _ _ rfl)) ?_;refine JS.BL 1 (Sf (u:=iV 0) (w:=iV 0) A) rfl rfl (Aw Tryz.func135 rfl) U rfl ?_;rintro _ ai _ Z ⟨rfl,rfl⟩ aa;refine JS.Ba 1 aa rfl fun aj ab ac ae=>?_;refine zm 60 rfl ?_;refine JL.fd Tryz.underlying183 (Ag Tryz.type39) rfl rfl rfl ?_;refine JL.ld 0 ac (Al Tryz.underlying39) rfl rfl rfl ?_;refine zm 60 rfl ?_;refine JL.rt Tryz.func112 rfl rfl ?_;exact O _ _ _ _ (Z.trans ab) rfl ⟨rfl,rfl⟩ ae
abbrev GE(E:LH):Prop:=At E 0 0 [FM 149]
def Je(fuel:Nat)(p0:Option (Int×Int)):Option Int:=match p0 with
 | none=>f112 fuel
 | some q=>some q.1
theorem Kf{v:Value}{p0:Option (Int×Int)}(K:GE E)(h:FL 183 v p0){fuel:Nat}{r:Int}(A:Je fuel p0=some r):Aq J 112 [v] E [] (fun w E' B'=>w=iV r∧B'= []):=by
 match p0,h with
 | none,h=>obtain rfl:v= .nilIface:=h;exact SE A
 | some (c,a),h=>
  obtain rfl:v= .iface 183 (.agg #[iV c,iV a]):=h;cases A;exact QA K
end Pal
namespace Pal
open Go Go.Conc Go.Proofs Go.ChangeShapes Go.WideShapes Go.ChangeAt Go.RowKit
open Go.Proofs.YtboibffcmhheiaaGreatDoor
section
variable {H:Type}{enc:TypeId×Value→H}{W:World}{fuel:Nat}{cs:List Value}{x:DataW H×List MemPlace}
theorem Tryz.RE:Tryz.prog.cellsOf 28=1:=by kernel_rfl
theorem Tryz.Ru:Tryz.prog.cellsOf 22=1:=by kernel_rfl
theorem Tryz.RM:Tryz.prog.cellsOf 24=2:=by kernel_rfl
theorem Hn(a:Addr):a.add 0=a:=by unfold Addr.add;rw [if_pos rfl]
theorem Mi(Z:DataW.trod enc Tryz.prog W 0 (fun _=>true) true fuel 28 cs=some x):∃(a:Option Addr) (c:Nat) (A:List Int),cs= [.slice a A.length c]∧Ao rI (DC W).E a c A:=by
 rcases open_ints Tryz.underlying28 Tryz.underlying3 Pal.Tryz.Tt Z with⟨K,aa⟩ | ⟨a,len,cap,A,K,_,ab,hm,ac,aa,O,hw⟩
 ·exact⟨none,0,[],K,Ao.nil⟩
 ·simp only [if_true] at ac;rcases Nat.eq_zero_or_pos cap with U | U
  ·have:len=0:=by omega
   subst this;subst U;exact⟨some a,0,[],K,Nat.le_refl _,.inl ⟨rfl,fun _ _=> .inr rfl⟩⟩
  ·have ae:a.spot=none:=by
    have:=World.cell?_spot (O 0 (by omega))
    rwa [Hn] at this
   obtain⟨ag,ah⟩:=Q7 ae ab (by omega) O;exact⟨some a,cap,A.take len,by rw [ah];exact K,ag⟩
theorem QT{b off:Nat}{v:Value}(h:W.cell? ⟨b,off,none⟩=some v):At (DC W).E b off [v]:=by
 unfold World.cell? at h;split at h
 ·rename_i c e f hW;simp only [Option.isSome_none,Bool.false_eq_true,if_false] at h;refine⟨c,e,f,hW,fun j w A=>?_⟩
  match j,A with
  | 0,A=>simp at A;subst A;simpa using h
  | j+1,A=>simp at A
 ·cases h
theorem MJ(am:DataW.trod enc Tryz.prog W 0 (fun _=>true) true fuel 22 cs=some x):∃(a:Option Addr) (c:Nat) (O:List (List Int)),cs= [.slice a O.length c]∧Ao (rL rI) (DC W).E a c O:=by
 rcases DataW.trod_slice Tryz.underlying22 am with⟨ae,an⟩ | ⟨a,len,cap,elems,rest,n,_,ae,an,_,ao,_,hlen,ag,ah,_⟩
 ·exact⟨none,0,[],ae,Ao.nil⟩
 ·rw [Tryz.RE] at ag ah;simp only [Nat.mul_one] at ag ah;rcases Nat.eq_zero_or_pos cap with aj | aj
  ·have:len=0:=by omega
   subst this;subst aj;exact⟨some a,0,[],ae,Nat.le_refl _,.inl ⟨rfl,fun _ _=> .inr rfl⟩⟩
  ·have ak:∀i,i<len→∃v y,W.cell? (a.add i)=some v∧DataW.trod enc Tryz.prog W 0 (fun _=>true) true n 28 [v]=some y:=fun i hi=>by
    have A:=ag i hi;rw [List.getElem?_eq_getElem (by omega)] at A;obtain⟨vs,K,ab⟩:=Option.bind_eq_some_iff.1 A;obtain⟨_,U,ac⟩:=World.cells?_some K
    match vs,U with
    | [v],_=>
     have:=ac 0 (by omega);refine⟨v,_,?_,ab⟩;have e:(a.add i).add 0=a.add i:=Hn _;rw [e] at this;simpa using this
   have hs:a.spot=none:=by
    rcases Nat.eq_zero_or_pos len with A | A
    ·obtain⟨K,ab⟩:=ah trivial;have U:=ab 0 (by omega);rw [List.getElem?_eq_getElem (by omega)] at U;obtain⟨vs,ac,_⟩:=Option.bind_eq_some_iff.1 U;obtain⟨_,ap,aq⟩:=World.cells?_some ac
     match vs,ap with
     | [v],_=>
      have:=aq 0 (by omega);rw [A] at this;rw [Hn,Nat.add_zero,Hn] at this;exact World.cell?_spot this
    ·obtain⟨v,y,K,_⟩:=ak 0 A;rw [Hn] at K;exact World.cell?_spot K
   have al:∀i:Fin len,∃O:List Int,∃(Z:Option Addr) (aa:Nat),W.cell? (a.add i)=some (.slice Z O.length aa)∧Ao rI (DC W).E Z aa O:=fun i=>by
    obtain⟨v,y,K,ab⟩:=ak i i.2;obtain⟨Z,aa,O,U,ac⟩:=Mi ab;simp only [List.cons.injEq,and_true] at U;subst U;exact⟨O,Z,aa,K,ac⟩
   refine⟨some a,cap,List.ofFn fun i=>Classical.choose (al i),by simpa using ae,by simpa using ao,.inr ⟨a.block,a.off,?_,fun i z ai=>?_⟩⟩
   ·obtain⟨b,o,s⟩:=a;simp only at hs;subst hs;rfl
   ·have hi:i<len:=by have:=(List.getElem?_eq_some_iff.1 ai).1;simpa using this
    simp [hi] at ai;obtain⟨Z,aa,A,K⟩:=Classical.choose_spec (al ⟨i,hi⟩);rw [ai] at A K;simp only at A;rw [Bi hs] at A;refine⟨[.slice Z z.length aa],⟨Z,aa,rfl,K⟩,?_⟩;have e:a.off+i*(rL rI).n=a.off+i:=by show a.off+i*1=_;omega
    rw [e];exact QT A
theorem Rx{v:Value}{ab:Nat}{d:DataW H}{p:List MemPlace}(ac:Value.okWide Tryz.prog W .any ab 24 v)(ae:DataW.Trod enc Tryz.prog W 0 (fun _=>true) true 24 v d p):
  ∃(A:Option Addr) (K:Nat) (O:Option Addr) (c2:Nat) (J:List (List Int)×List (List Int)),v= .agg #[.slice A J.1.length K,.slice O J.2.length c2]∧Ao (rL rI) (DC W).E A K J.1∧Ao (rL rI) (DC W).E O c2 J.2:=by
 obtain⟨cs,rfl,aa⟩:=okWide_struct Tryz.underlying24 ac;obtain⟨fuel,ag⟩:=ae;obtain⟨am,an,n,_,ao,ah,ai⟩:=trod_struct2 Tryz.underlying24 ag;obtain⟨A,K,z1,U,aj⟩:=MJ ah;obtain⟨O,c2,ak,Z,al⟩:=MJ ai;refine⟨A,K,O,c2,(z1,ak),?_,aj,al⟩;rw [Tryz.Ru] at U Z;rw [Tryz.RM] at aa;simp only [Value.cells,List.drop_zero] at U Z;obtain⟨l⟩:=cs
 match l,aa with
 | [u,w],_=>
  simp at U Z;rw [U,Z]
theorem MW{W:World}{v:Value}{A:Nat}(K:Value.okWide Tryz.prog W .any A 3 v):∃z:Int,v=iV z:=okWide_int Tryz.underlying3 K
theorem Q4{v:Value}{K:Nat}{d:DataW H}{p:List MemPlace}(O:Value.okWide Tryz.prog W .any K 28 v)(U:DataW.Trod enc Tryz.prog W 0 (fun _=>true) true 28 v d p):
  ∃(a:Option Addr) (c:Nat) (A:List Int),v= .slice a A.length c∧Ao rI (DC W).E a c A:=by
 obtain⟨aa,len,cap,rfl⟩:=okWide_slice Tryz.underlying28 O;obtain⟨fuel,Z⟩:=U;obtain⟨a,c,A,e,g⟩:=Mi Z;simp [Value.cells] at e;obtain⟨rfl,rfl,rfl⟩:=e;exact⟨_,_,_,rfl,g⟩
end
theorem Tryz.RO:Tryz.prog.globalNamed "errors.errorType" =some 0:=by kernel_rfl
theorem Tryz.S1:(Tryz.prog.cutTypes.find? (·.1== "internal/reflectlite.rtype")).map (·.2)=some 240:=by kernel_rfl
theorem Tryz.R8:Tryz.prog.globals.size=1:=by kernel_rfl
theorem Tryz.SU:(List.range Tryz.prog.types.size).all (fun t=> !Tryz.prog.rowNamed t [101,114,114,111,114] || t==149)=true:=by kernel_rfl
theorem Ro{W:World}(h:laidMetH Tryz.prog [("errors.errorType",Rows.laid_errors_errorType)] W.memory):GE (DC W).E:=by
 have O:=h.2 _ (List.mem_cons_self ..);obtain⟨name,u,ty,U,Z,aa,ab,A⟩:=O;have ac:name= [101,114,114,111,114]:=(Option.some.inj U).symm;have ae:u=240:=Option.some.inj (Z.symm.trans Tryz.S1);subst ac;subst ae;have ag:ty=149:=by
  have:=List.all_eq_true.1 Tryz.SU ty (List.mem_range.2 aa);rw [ab] at this;simpa using this
 subst ag;unfold World.var? at A;rw [Tryz.RO] at A;simp only [Option.bind_some] at A;split at A
 ·rename_i c e f hW;simp only [Option.some.injEq] at A;subst A;refine⟨_,e,f,hW,fun j w K=>?_⟩;have ah:typeHandle Tryz.prog 149= .pointer (some ⟨1,149,none⟩):=by unfold typeHandle;rw [Tryz.R8]
  rw [ah]
  match j,K with
  | 0,K=>simp at K;subst K;rfl
  | j+1,K=>simp at K
 ·cases A
end Pal
namespace Pal
open Go Go.Conc Go.Proofs
open Go.Proofs.Tryz
variable {J:Judge Tryz.prog}{E:LH}
def MO(fuel:Nat)(p0:Br)(K:(List Int))(A:Nat×Int):Option (A4 (Nat×Int) (Nat)):=
 if A.2<((K).length:Int) then(
  (ix K (A.2)).bind fun O=>
  (ix p0.1 (O)).bind fun U=>
  (f120 fuel U).bind fun Z=>
  (Gz (A.1) (Z)).bind fun aa=>
  (Ax (A.2+1)).bind fun ab=>
  some (.more (aa,ab))
 ) else(
  some (.done A.1)
 )
def f121(fuel:Nat)(p0:Br)(p1:Nat):Option (Nat):=
 (f89 fuel p1).bind fun A=>
 Option.bind (iter (MO fuel p0 A) fuel (0,0)) fun K=>
 some K
theorem Sz{k1:Nat}{O:Nat}{ah:Ar}{ai:Nat}{aj:Ar}{ak:Nat}{al:List Value}{p0:Br}{p1:Nat}(au:At E k1 O (([.slice ah (p0.1).length ai,.slice aj (p0.2.1).length ak]:List Value)++al))(av:Ao (rL rI) E ah ai (p0.1))(a4:Ao (rL rI) E aj ak (p0.2.1))(a5:(rA 13 (rN .u16)).r E al (p0.2.2)){fuel:Nat}{r:Nat}(am:f121 fuel p0 p1=some r):Aq J 121 [.pointer (some ⟨k1,O,none⟩),.int .u16 ((p1:Nat):Int)] E [] (fun w E' B'=>w= .int .u16 ((r:Nat):Int)∧B'= []):=by
 refine Aq.en func121 rfl rfl fun Q a6 cs H aw ay=>?_;unfold f121 at am;obtain⟨A,az,aA⟩:=bs am;refine zg 12 rfl ?_;refine JS.cl (Gp az) rfl rfl (Aw func89 rfl) aw ?_;rintro _ Z _ aa ⟨an,ao,rfl,rfl,aB⟩ aC;refine JL.Y rfl (fun ρ h=>Yl.len rfl underlying28 (h _ _ rfl)) ?_;obtain⟨aD,aE,aF⟩:=bs aA;refine zg 2 rfl ?_;refine JL.join (fun L s=>∃(ap:LH),Jm Z H ap [] [(5,.int .u16 ((aD:Nat):Int))] L s) ?_ ?_
 ·rintro _ _ ⟨ap,rfl,rfl,aG,aH⟩;refine zg 5 rfl ?_;obtain rfl:=oi aF;refine JL.rt func121 rfl rfl ?_;exact ay _ _ _ _ (aa.trans aG) rfl ⟨rfl,rfl⟩ aH
 ·intro aI;refine JL.block ?_;refine JL.wk [(0,.pointer (some ⟨k1,O,none⟩)),(5,.int .u16 ((0:Nat):Int)),(9,.slice an (A).length ao),(10,iV ((A).length:Int)),(11,iV 0)] rfl ?_;refine JL.Bf aE (fun L s U=>∃(ab:LH),Jm Z H ab [] [(0,.pointer (some ⟨k1,O,none⟩)),(5,.int .u16 ((U.1:Nat):Int)),(9,.slice an (A).length ao),(10,iV ((A).length:Int)),(11,iV U.2)] L s) ⟨Z,rfl,rfl,(Le.refl _),aC⟩ ?_;rintro _ _ U ⟨ab,rfl,rfl,K,aq⟩ aJ ⟨a7,ac⟩ aK;have ae:=ac;unfold MO at ae;refine zg 5 rfl ?_;refine JL.ifs (p:=U.2<((A).length:Int)) rfl (fun ag=>?_) (fun ag=>?_)
  ·have aL:=ip ae ag;obtain⟨a8,aM,aN⟩:=bs aL;refine zg 5 rfl ?_;refine JS.BF (aB.mono K) aM rfl rfl rfl rfl rfl underlying28 (Ag type3) ?_;rintro a9 ba _ rfl aO;refine JL.ld 0 aO (Al underlying3) rfl rfl rfl ?_;refine zg 6 rfl ?_;refine JL.fd underlying141 (Ag type24) rfl rfl rfl ?_;refine JL.fd underlying24 (Ag type22) rfl rfl rfl ?_;refine JL.ld 0 (au.mono (aa.trans K)) (Al underlying22) rfl rfl rfl ?_;obtain⟨bb,aP,aQ⟩:=bs aN;refine zg 1 rfl ?_;refine JS.BF (av.mono (aa.trans K)) aP rfl rfl rfl rfl rfl underlying22 (Ag type28) ?_;rintro bc bd _ ⟨bf,bg,rfl,aR⟩ aS;refine JL.ld 0 aS (Al underlying28) rfl rfl rfl ?_;obtain⟨bh,aT,aU⟩:=bs aQ;refine JS.cl (GU aR aT) rfl rfl (Aw func120 rfl) aq ?_;rintro _ aV _ aW ⟨rfl,rfl⟩ aX;obtain⟨ar,aY,aZ⟩:=bs aU;refine JL.Y (v:= .int .u16 ((ar:Nat):Int)) rfl (fun ρ h=>Yl.HK (h _ _ rfl) (h _ _ rfl) aY) ?_;obtain⟨a0,a1,a2⟩:=bs aZ;refine zg 4 rfl ?_;refine JL.Y rfl (fun ρ h=>Yl.A0 (h _ _ rfl) (h _ _ rfl) a1) ?_;refine zg 2 rfl ?_;obtain rfl:=oi a2;exact JL.kw (aK _ _ (ar,a0) ⟨aV,rfl,rfl,(K.trans aW),aX⟩ ac) rfl
  ·have a3:=im ae ag;refine JL.exit rfl ?_;obtain rfl:=oi a3;obtain rfl:=aJ _ ac;exact JL.kw (aI _ _ ⟨ab,rfl,rfl,K,aq⟩) rfl
def f130(fuel:Nat)(p0:By):Option (Int):=
 (f89 fuel p0.2.2).bind fun A=>
 some ((A).length:Int)
theorem Tf{A:Ar}{c2:Nat}{p0:By}(aj:Ao rI E A c2 (p0.2.1)){fuel:Nat}{r:Int}(K:f130 fuel p0=some r):Aq J 130 [.agg #[iV p0.1,.slice A (p0.2.1).length c2,.int .u16 ((p0.2.2:Nat):Int)]] E [] (fun w E' B'=>w=iV r∧B'= []):=by
 refine Aq.en func130 rfl rfl fun Q ak cs H O U=>?_;unfold f130 at K;refine zg 2 rfl ?_;refine JS.box (v:= .agg #[iV p0.1,.slice A (p0.2.1).length c2,.int .u16 ((p0.2.2:Nat):Int)]) rfl rfl rfl O rfl fun al Z=>?_;refine JS.Ba 1 Z rfl fun am aa ab ac=>?_;refine zg 4 rfl ?_;refine JL.fd underlying104 (Ag type102) rfl rfl rfl ?_;refine JL.ld 2 ab (Al underlying102) rfl rfl rfl ?_;obtain⟨an,ae,ag⟩:=bs K;refine JS.cl (Gp ae) rfl rfl (Aw func89 rfl) ac ?_;rintro _ ao _ ah ⟨ap,aq,rfl,rfl,ar⟩ ai;refine JL.Y rfl (fun ρ h=>Yl.len rfl underlying28 (h _ _ rfl)) ?_;refine zg 2 rfl ?_;obtain rfl:=oi ag;refine JL.rt func130 rfl rfl ?_;exact U _ _ _ _ (aa.trans ah) rfl ⟨rfl,rfl⟩ ai
def Oe(fuel:Nat)(p0:List (By))(A:Nat×Int):Option (A4 (Nat×Int) (Nat)):=
 if A.2<((p0).length:Int) then(
  (ix p0 (A.2)).bind fun K=>
  (f90 fuel A.1 K.1).bind fun O=>
  (Ax (A.2+1)).bind fun U=>
  some (.more (O,U))
 ) else(
  some (.done A.1)
 )
def f87(fuel:Nat)(p0:List (By)):Option (Nat):=
 Option.bind (iter (Oe fuel p0) fuel (0,0)) fun A=>
 some A
theorem T4{A:Ar}{c2:Nat}{p0:List (By)}(ai:Ao Ca E A c2 (p0)){fuel:Nat}{r:Nat}(ae:f87 fuel p0=some r):Aq J 87 [.slice A (p0).length c2] E [] (fun w E' B'=>w= .int .u16 ((r:Nat):Int)∧B'= []):=by
 refine Aq.en func87 rfl rfl fun Q aR cs H aj ak=>?_;unfold f87 at ae;refine zg 12 rfl ?_;refine JL.Y rfl (fun ρ h=>Yl.len rfl underlying95 (h _ _ rfl)) ?_;obtain⟨al,am,an⟩:=bs ae;refine zg 2 rfl ?_;refine JL.join (fun L s=>∃(ag:LH),Jm E H ag [] [(3,.int .u16 ((al:Nat):Int))] L s) ?_ ?_
 ·rintro _ _ ⟨ag,rfl,rfl,ao,ap⟩;refine zg 5 rfl ?_;obtain rfl:=oi an;refine JL.rt func87 rfl rfl ?_;exact ak _ _ _ _ ao rfl ⟨rfl,rfl⟩ ap
 ·intro aq;refine JL.block ?_;refine JL.wk [(3,.int .u16 ((0:Nat):Int)),(6,.slice A (p0).length c2),(7,iV ((p0).length:Int)),(8,iV 0)] rfl ?_;refine JL.Bf am (fun L s K=>∃(O:LH),Jm E H O [] [(3,.int .u16 ((K.1:Nat):Int)),(6,.slice A (p0).length c2),(7,iV ((p0).length:Int)),(8,iV K.2)] L s) ⟨E,rfl,rfl,(Le.refl _),aj⟩ ?_;rintro _ _ K ⟨O,rfl,rfl,U,ah⟩ ar ⟨aS,Z⟩ au;have aa:=Z;unfold Oe at aa;refine zg 5 rfl ?_;refine JL.ifs (p:=K.2<((p0).length:Int)) rfl (fun ab=>?_) (fun ab=>?_)
  ·have av:=ip aa ab;obtain⟨ac,aw,ay⟩:=bs av;refine zg 5 rfl ?_;refine JS.BF (ai.mono U) aw rfl rfl rfl rfl rfl underlying95 (Ag type104) ?_;rintro aT aU _ ⟨_,_,rfl,rfl,⟨_,_,rfl,⟨az,aA,rfl,aV⟩,rfl⟩⟩ aB;refine JL.Bj aB (Al underlying104) (Ag type104) rfl rfl ?_;refine JS.alloc rfl rfl rfl ah (AO type104) fun aW aC=>?_;refine JS.st (v:= .agg #[iV ac.1,.slice az (ac.2.1).length aA,.int .u16 ((ac.2.2:Nat):Int)]) (off:=0) 0 aC (Ag type104) rfl rfl rfl rfl fun aD=>?_;refine JS.Ba 0 aD rfl fun aX aE aF aG=>?_;refine zg 3 rfl ?_;refine JL.fd underlying104 (Ag type3) rfl rfl rfl ?_;refine JL.ld 0 aF (Al underlying3) rfl rfl rfl ?_;obtain⟨aH,aI,aJ⟩:=bs ay;refine JS.cl (Jh aI) rfl rfl (Aw func90 rfl) aG ?_;rintro _ aK _ aL ⟨rfl,rfl⟩ aM;obtain⟨aN,aO,aP⟩:=bs aJ;refine zg 4 rfl ?_;refine JL.Y rfl (fun ρ h=>Yl.A0 (h _ _ rfl) (h _ _ rfl) aO) ?_;refine zg 2 rfl ?_;obtain rfl:=oi aP;exact JL.kw (au _ _ (aH,aN) ⟨aK,rfl,rfl,((U.trans aE).trans aL),aM⟩ Z) rfl
  ·have aQ:=im aa ab;refine JL.exit rfl ?_;obtain rfl:=oi aQ;obtain rfl:=ar _ Z;exact JL.kw (aq _ _ ⟨O,rfl,rfl,U,ah⟩) rfl
def NT(fuel:Nat)(p0:Br)(K:Int)(A:Nat×Int):Option (A4 (Nat×Int) (Nat)):=
 if A.2<K then(
  (f121 fuel p0 A.1).bind fun O=>
  (Ax (A.2+1)).bind fun U=>
  some (.more (O,U))
 ) else(
  some (.done A.1)
 )
def f88(fuel:Nat)(p0:Br)(p1:By)(p2:Int):Option (Nat):=
 (Ax (((p1.2.1).length:Int) - 1)).bind fun A=>
 if p2≤A then(
  (ix p1.2.1 (p2)).bind fun K=>
  (f120 fuel ([K]:List Int)).bind fun O=>
  some O
 ) else(
  (ix p1.2.1 (A)).bind fun U=>
  (f120 fuel ([U]:List Int)).bind fun Z=>
  (Ax (p2 - A)).bind fun aa=>
  Option.bind (iter (NT fuel p0 aa) fuel (Z,0)) fun ab=>
  some ab
 )
theorem TP{k1:Nat}{Z:Nat}{an:Ar}{ao:Nat}{ap:Ar}{aq:Nat}{ar:List Value}{ab:Ar}{ac:Nat}{p0:Br}{p1:By}{p2:Int}(aE:At E k1 Z (([.slice an (p0.1).length ao,.slice ap (p0.2.1).length aq]:List Value)++ar))(aF:Ao (rL rI) E an ao (p0.1))(aG:Ao (rL rI) E ap aq (p0.2.1))(aH:(rA 13 (rN .u16)).r E ar (p0.2.2))(au:Ao rI E ab ac (p1.2.1)){fuel:Nat}{r:Nat}(av:f88 fuel p0 p1 p2=some r):Aq J 88 [.pointer (some ⟨k1,Z,none⟩),.agg #[iV p1.1,.slice ab (p1.2.1).length ac,.int .u16 ((p1.2.2:Nat):Int)],iV p2] E [] (fun w E' B'=>w= .int .u16 ((r:Nat):Int)∧B'= []):=by
 refine Aq.en func88 rfl rfl fun Q bA cs H aI aw=>?_;unfold f88 at av;refine zg 2 rfl ?_;refine JS.box (v:= .agg #[iV p1.1,.slice ab (p1.2.1).length ac,.int .u16 ((p1.2.2:Nat):Int)]) rfl rfl rfl aI rfl fun bB aJ=>?_;refine JS.Ba 1 aJ rfl fun bC A ae ay=>?_;refine zg 4 rfl ?_;refine JL.fd underlying104 (Ag type28) rfl rfl rfl ?_;refine JL.ld 1 ae (Al underlying28) rfl rfl rfl ?_;refine JL.Y rfl (fun ρ h=>Yl.len rfl underlying28 (h _ _ rfl)) ?_;obtain⟨aK,aL,az⟩:=bs av;refine JL.Y rfl (fun ρ h=>Yl.Bb (h _ _ rfl) (h _ _ rfl) aL) ?_;refine zg 9 rfl ?_;refine JL.ifs (p:=p2≤aK) rfl (fun ag=>?_) (fun ag=>?_)
 ·have aM:=ip az ag;refine zg 2 rfl ?_;refine JL.fd underlying104 (Ag type28) rfl rfl rfl ?_;refine JL.ld 1 ae (Al underlying28) rfl rfl rfl ?_;obtain⟨aA,aN,aO⟩:=bs aM;refine zg 1 rfl ?_;refine JS.BF (au.mono A) aN rfl rfl rfl rfl rfl underlying28 (Ag type3) ?_;rintro bD bE _ rfl aP;refine JL.ld 0 aP (Al underlying3) rfl rfl rfl ?_;refine JS.lit (pp:=rI) [iV aA] [aA] rfl rfl rfl underlying28 (Ag type3) (AO type3) (by decide) rfl rfl rfl ⟨rfl,trivial⟩ ay fun bF bG aQ aR=>?_;refine JS.BJ 2 aQ aR rfl fun bH aS aT aU=>?_;obtain⟨bI,aV,aW⟩:=bs aO;refine JS.cl (GU aT aV) rfl rfl (Aw func120 rfl) aU ?_;rintro _ bJ _ aX ⟨rfl,rfl⟩ aY;refine zg 2 rfl ?_;obtain rfl:=oi aW;refine JL.rt func88 rfl rfl ?_;exact aw _ _ _ _ ((A.trans aS).trans aX) rfl ⟨rfl,rfl⟩ aY
 ·have aZ:=im az ag;refine zg 3 rfl ?_;refine JL.fd underlying104 (Ag type28) rfl rfl rfl ?_;refine JL.ld 1 ae (Al underlying28) rfl rfl rfl ?_;obtain⟨aB,a0,a1⟩:=bs aZ;refine zg 1 rfl ?_;refine JS.BF (au.mono A) a0 rfl rfl rfl rfl rfl underlying28 (Ag type3) ?_;rintro bK bL _ rfl a2;refine JL.ld 0 a2 (Al underlying3) rfl rfl rfl ?_;refine JS.lit (pp:=rI) [iV aB] [aB] rfl rfl rfl underlying28 (Ag type3) (AO type3) (by decide) rfl rfl rfl ⟨rfl,trivial⟩ ay fun bM bN a3 a4=>?_;refine JS.BJ 2 a3 a4 rfl fun bO O a5 a6=>?_;obtain⟨a7,a8,a9⟩:=bs a1;refine JS.cl (GU a5 a8) rfl rfl (Aw func120 rfl) a6 ?_;rintro _ ah _ U ⟨rfl,rfl⟩ ba;obtain⟨ai,bb,bc⟩:=bs a9;refine zg 7 rfl ?_;refine JL.Y rfl (fun ρ h=>Yl.Bb (h _ _ rfl) (h _ _ rfl) bb) ?_;obtain⟨bd,bf,bg⟩:=bs bc;refine zg 2 rfl ?_;refine JL.join (fun L s=>∃(aC:LH),Jm ah H aC [] [(8,.int .u16 ((bd:Nat):Int))] L s) ?_ ?_
  ·rintro _ _ ⟨aC,rfl,rfl,bh,bi⟩;refine zg 5 rfl ?_;obtain rfl:=oi bg;refine JL.rt func88 rfl rfl ?_;exact aw _ _ _ _ (((A.trans O).trans U).trans bh) rfl ⟨rfl,rfl⟩ bi
  ·intro bj;refine JL.block ?_;refine JL.wk [(0,.pointer (some ⟨k1,Z,none⟩)),(8,.int .u16 ((a7:Nat):Int)),(32,iV ai),(33,iV 0)] rfl ?_;refine JL.Bf bf (fun L s aa=>∃(aj:LH),Jm ah H aj [] [(0,.pointer (some ⟨k1,Z,none⟩)),(8,.int .u16 ((aa.1:Nat):Int)),(32,iV ai),(33,iV aa.2)] L s) ⟨ah,rfl,rfl,(Le.refl _),ba⟩ ?_;rintro _ _ aa ⟨aj,rfl,rfl,K,aD⟩ bk ⟨bP,ak⟩ bl;have al:=ak;unfold NT at al;refine zg 5 rfl ?_;refine JL.ifs (p:=aa.2<ai) rfl (fun am=>?_) (fun am=>?_)
   ·have bm:=ip al am;obtain⟨bn,bo,bp⟩:=bs bm;refine zg 6 rfl ?_;refine JS.cl (Sz (aE.mono (((A.trans O).trans U).trans K)) (aF.mono (((A.trans O).trans U).trans K)) (aG.mono (((A.trans O).trans U).trans K)) (Rp.mono _ (((A.trans O).trans U).trans K) aH) bo) rfl rfl (Aw func121 rfl) aD ?_;rintro _ bq _ br ⟨rfl,rfl⟩ bu;obtain⟨bv,bw,bx⟩:=bs bp;refine zg 4 rfl ?_;refine JL.Y rfl (fun ρ h=>Yl.A0 (h _ _ rfl) (h _ _ rfl) bw) ?_;refine zg 2 rfl ?_;obtain rfl:=oi bx;exact JL.kw (bl _ _ (bn,bv) ⟨bq,rfl,rfl,(K.trans br),bu⟩ ak) rfl
   ·have bz:=im al am;refine JL.exit rfl ?_;obtain rfl:=oi bz;obtain rfl:=bk _ ak;exact JL.kw (bj _ _ ⟨aj,rfl,rfl,K,aD⟩) rfl
end Pal
namespace Pal
open Go Go.Conc Go.Proofs
open Go.Proofs.Tryz
variable {J:Judge Tryz.prog}{E:LH}
def Ip(fuel:Nat)(p0:Br)(K:(List Int))(A:Nat×Int):Option (A4 (Nat×Int) (Nat)):=
 if A.2<((K).length:Int) then(
  (ix K (A.2)).bind fun O=>
  (ix p0.1 (O)).bind fun U=>
  (f120 fuel U).bind fun Z=>
  (Gz (A.1) (Z)).bind fun aa=>
  (Ax (A.2+1)).bind fun ab=>
  some (.more (aa,ab))
 ) else(
  some (.done A.1)
 )
def HH(fuel:Nat)(p0:Br)(p1:Nat):Option (Nat×(Br)):=
 (f89 fuel p1).bind fun A=>
 Option.bind (iter (Ip fuel p0 A) fuel (0,0)) fun K=>
 some (K,p0)
theorem Rl{A:Nat}{K:Ar}{c2:Nat}{O:Ar}{U:Nat}{Z:List Value}{p0:Br}{p1:Nat}(an:Ao (rL rI) E K c2 (p0.1))(aB:Ao (rL rI) E O U (p0.2.1))(aC:(rA 13 (rN .u16)).r E Z (p0.2.2)){fuel:Nat}{r:Nat×(Br)}(ao:HH fuel p0 p1=some r):Aq J 121 [.pointer (some ⟨A,0,none⟩),.int .u16 ((p1:Nat):Int)] E [(A,.cells (([.slice K (p0.1).length c2,.slice O (p0.2.1).length U]:List Value)++Z).toArray 141 (0,0))] (fun w E' B'=>∃(ap:Ar) (aq:Nat) (ar:Ar) (au:Nat) (av:List Value),w= .int .u16 ((r.1:Nat):Int)∧B'= [(A,.cells (([.slice ap (r.2.1).length aq,.slice ar (r.2.2.1).length au]:List Value)++av).toArray 141 (0,0))]∧Ao (rL rI) E' ap aq (r.2.1)∧Ao (rL rI) E' ar au (r.2.2.1)∧(rA 13 (rN .u16)).r E' av (r.2.2.2)):=by
 refine Aq.en func121 rfl rfl fun Q a9 cs H aD aE=>?_;unfold HH at ao;obtain⟨aa,aF,aG⟩:=bs ao;refine zg 12 rfl ?_;refine JS.cl (Gp aF) rfl rfl (Aw func89 rfl) aD ?_;rintro _ ah _ ab ⟨aw,ay,rfl,rfl,aH⟩ aI;refine JL.Y rfl (fun ρ h=>Yl.len rfl underlying28 (h _ _ rfl)) ?_;obtain⟨aJ,aK,aL⟩:=bs aG;refine zg 2 rfl ?_;refine JL.join (fun L s=>∃(az:LH),Jm ah H az [[(A,.cells (([.slice K (p0.1).length c2,.slice O (p0.2.1).length U]:List Value)++Z).toArray 141 (0,0))]] [(5,.int .u16 ((aJ:Nat):Int))] L s) ?_ ?_
 ·rintro _ _ ⟨az,rfl,rfl,ac,aM⟩;refine zg 5 rfl ?_;obtain rfl:=oi aL;refine JL.rt func121 rfl rfl ?_;exact aE _ _ _ _ (ab.trans ac) rfl ⟨K,c2,O,U,Z,rfl,rfl,(an.mono (ab.trans ac)),(aB.mono (ab.trans ac)),(Rp.mono _ (ab.trans ac) aC)⟩ aM
 ·intro aN;refine JL.block ?_;refine JL.wk [(0,.pointer (some ⟨A,0,none⟩)),(5,.int .u16 ((0:Nat):Int)),(9,.slice aw (aa).length ay),(10,iV ((aa).length:Int)),(11,iV 0)] rfl ?_;refine JL.Bf aK (fun L s ae=>∃(ai:LH),Jm ah H ai [[(A,.cells (([.slice K (p0.1).length c2,.slice O (p0.2.1).length U]:List Value)++Z).toArray 141 (0,0))]] [(0,.pointer (some ⟨A,0,none⟩)),(5,.int .u16 ((ae.1:Nat):Int)),(9,.slice aw (aa).length ay),(10,iV ((aa).length:Int)),(11,iV ae.2)] L s) ⟨ah,rfl,rfl,(Le.refl _),aI⟩ ?_;rintro _ _ ae ⟨ai,rfl,rfl,ag,aj⟩ aO ⟨ba,ak⟩ aP;have al:=ak;unfold Ip at al;refine zg 5 rfl ?_;refine JL.ifs (p:=ae.2<((aa).length:Int)) rfl (fun am=>?_) (fun am=>?_)
  ·have aQ:=ip al am;obtain⟨bb,aR,aS⟩:=bs aQ;refine zg 5 rfl ?_;refine JS.BF (aH.mono ag) aR rfl rfl rfl rfl rfl underlying28 (Ag type3) ?_;rintro bc bd _ rfl aT;refine JL.ld 0 aT (Al underlying3) rfl rfl rfl ?_;refine zg 6 rfl ?_;refine JL.fd underlying141 (Ag type24) rfl rfl rfl ?_;refine JL.fd underlying24 (Ag type22) rfl rfl rfl ?_;refine JL.Y (v:= .slice K (p0.1).length c2) rfl (fun ρ h=>Yl.load (Al underlying22) (h _ _ rfl) (Qn (o:=0) (l:= [.slice K (p0.1).length c2,.slice O (p0.2.1).length U]) 0 aj rfl rfl)) ?_;obtain⟨bf,aU,aV⟩:=bs aS;refine zg 1 rfl ?_;refine JS.BF (an.mono (ab.trans ag)) aU rfl rfl rfl rfl rfl underlying22 (Ag type28) ?_;rintro bg bh _ ⟨bi,bj,rfl,aW⟩ aX;refine JL.ld 0 aX (Al underlying28) rfl rfl rfl ?_;obtain⟨bk,aY,aZ⟩:=bs aV;refine JS.cl (GU aW aY) rfl rfl (Aw func120 rfl) aj ?_;rintro _ a0 _ a1 ⟨rfl,rfl⟩ a2;obtain⟨aA,a3,a4⟩:=bs aZ;refine JL.Y (v:= .int .u16 ((aA:Nat):Int)) rfl (fun ρ h=>Yl.HK (h _ _ rfl) (h _ _ rfl) a3) ?_;obtain⟨a5,a6,a7⟩:=bs a4;refine zg 4 rfl ?_;refine JL.Y rfl (fun ρ h=>Yl.A0 (h _ _ rfl) (h _ _ rfl) a6) ?_;refine zg 2 rfl ?_;obtain rfl:=oi a7;exact JL.kw (aP _ _ (aA,a5) ⟨a0,rfl,rfl,(ag.trans a1),a2⟩ ak) rfl
  ·have a8:=im al am;refine JL.exit rfl ?_;obtain rfl:=oi a8;obtain rfl:=aO _ ak;exact JL.kw (aN _ _ ⟨ai,rfl,rfl,ag,aj⟩) rfl
end Pal
namespace Pal
open Go Go.Conc Go.Proofs
open Go.Proofs.Tryz
variable {J:Judge Tryz.prog}{E:LH}
theorem Tq:OO Tryz.prog 138 .u16:=⟨_,underlying138,by decide+kernel,by decide,underlying102,rfl⟩
def Hy(fuel:Nat)(A:(List (List Int))×(List (List Int))×(List Nat)×(List Nat)×Int):Option (A4 ((List (List Int))×(List (List Int))×(List Nat)×(List Nat)×Int) ((List (List Int))×(List (List Int))×(List Nat)×(List Nat))):=
 if A.2.2.2.2<12 then(
  (Ax (A.2.2.2.2+1)).bind fun O=>
  (ix A.2.2.1 (A.2.2.2.2)).bind fun U=>
  (HH fuel (A.1,A.2.1,A.2.2.1) U).bind fun K=>
  (ix A.2.2.2.1 (O)).bind fun aa=>
  (Ax (A.2.2.2.2+1)).bind fun Z=>
  some (.more (K.2.1,K.2.2.1,K.2.2.2,(A.2.2.2.1.set (Int.toNat O) K.1),Z))
 ) else(
  some (.done (A.1,A.2.1,A.2.2.1,A.2.2.2.1))
 )
def IS(fuel:Nat)(K:Br):Option (A4 (Br) (((Option (Br)))⊕Unit)):=
 Option.bind (iter (Hy fuel) fuel (K.1,K.2.1,K.2.2,K.2.2,0)) fun A=>
 if A.2.2.2≠A.2.2.1 then(
  some (.more (A.1,A.2.1,A.2.2.2))
 ) else(
  some (.done (Sum.inl (some (A.1,A.2.1,A.2.2.1))))
 )
def f92(fuel:Nat)(p0:A2):Option ((Option (Br))):=
 (ix (List.replicate 13 (0:Nat)) (0)).bind fun K=>
 Option.bind (iter (IS fuel) fuel (p0.1,p0.2,((List.replicate 13 (0:Nat)).set (Int.toNat 0) 1))) fun A=>
 Sum.elim (fun r=>some r) (fun O=>none) A
theorem Jg{ai:Ar}{c2:Nat}{aj:Ar}{ak:Nat}{p0:A2}(bj:Ao (rL rI) E ai c2 (p0.1))(bk:Ao (rL rI) E aj ak (p0.2)){fuel:Nat}{r:(Option (Br))}(aY:f92 fuel p0=some r):Aq J 92 [.agg #[.slice ai (p0.1).length c2,.slice aj (p0.2).length ak]] E [] (fun w E' B'=>∃(aZ:Value),w=aZ∧B'= []∧Hf (rP (rL (rL rI)) (rP (rL (rL rI)) (rA 13 (rN .u16)))) E' aZ (r)):=by
 refine Aq.en func92 rfl rfl fun Q cc cs H bl bm=>?_;unfold f92 at aY;refine zg 2 rfl ?_;refine JS.box (v:= .agg #[.slice ai (p0.1).length c2,.slice aj (p0.2).length ak]) rfl rfl rfl bl rfl fun cd bn=>?_;refine JS.Ba 1 bn rfl fun au aP bo bp=>?_;refine zg 5 rfl ?_;refine JL.Bj bo (Al underlying24) (Ag type24) rfl rfl ?_;refine JL.Y (v:= .agg (([.slice ai (p0.1).length c2,.slice aj (p0.2).length ak]:List Value)++(List.replicate 13 (.int .u16 ((0:Nat):Int)):List Value)).toArray) rfl (fun ρ h=>Yl.Cb [(0,2),(2,13)] h (AO type141) underlying141 ⟨rfl,Ag type24,rfl,Ag type139,trivial⟩ rfl rfl) ?_;refine JS.box (v:= .agg (([.slice ai (p0.1).length c2,.slice aj (p0.2).length ak]:List Value)++(List.replicate 13 (.int .u16 ((0:Nat):Int)):List Value)).toArray) rfl rfl rfl bp rfl fun O bq=>?_;refine zg 6 rfl ?_;refine JL.fd underlying141 (Ag type139) rfl rfl rfl ?_;obtain⟨ce,aQ,br⟩:=bs aY;obtain⟨_,rfl,_,_,cf⟩:=FV (kk:=13) (pp:=(rN .u16)) (GY (E:=au) (pp:=(rN .u16)) rfl) aQ;refine JL.Y (v:= .pointer (some ⟨O,2+Int.toNat (0)*1,none⟩)) rfl (fun ρ h=>Yl.G3 (kk:=13) (pp:=(rN .u16)) (GY (E:=au) (pp:=(rN .u16)) rfl) aQ underlying139 (Ag type138) (h _ _ rfl) (h _ _ rfl)) ?_;refine JL.fd underlying138 (Ag type102) rfl rfl rfl ?_;have aI:=Kj (us:= [.int .u16 ((1:Nat):Int)]) (y:=1) (GY (E:=au) (pp:=(rN .u16)) rfl) aQ rfl;refine JS.HB (v:= .int .u16 ((1:Nat):Int)) (l:= [.slice ai (p0.1).length c2,.slice aj (p0.2).length ak]) (ws:=(List.replicate 13 (.int .u16 ((0:Nat):Int)):List Value)) (us:= [.int .u16 ((1:Nat):Int)]) (o:=Int.toNat (0)*1) 2 rfl rfl rfl bq rfl rfl rfl (Ag type102) (by simp [Value.cells,BB]) rfl aI.2 fun a0=>?_;replace aI:=aI.1;generalize bu:Fo (List.replicate 13 (.int .u16 ((0:Nat):Int)):List Value) (Int.toNat (0)*1) [.int .u16 ((1:Nat):Int)]=a1 at a0 ⊢;have bv:(rA 13 (rN .u16)).r au a1 ((List.replicate 13 (0:Nat)).set (Int.toNat 0) 1):=by rw [← bu];exact aI
 refine zg 2 rfl ?_;refine JL.label ?_;obtain⟨cg,bw,bx⟩:=bs br;refine JL.wk [(3,.pointer (some ⟨O,0,none⟩))] rfl ?_;refine JL.T0 bw (fun L s aa=>∃(U:LH) (ay:Ar) (az:Nat) (aA:Ar) (aB:Nat) (ab:List Value),Jn au H U [[(O,.cells (([.slice ay (aa.1).length az,.slice aA (aa.2.1).length aB]:List Value)++ab).toArray 141 (0,0))]] [(3,.pointer (some ⟨O,0,none⟩))] L s (Ao (rL rI) U ay az (aa.1)∧Ao (rL rI) U aA aB (aa.2.1)∧(rA 13 (rN .u16)).r U ab (aa.2.2))) ⟨au,ai,c2,aj,ak,a1,rfl,rfl,(Le.refl _),a0,(bj.mono aP),(bk.mono aP),bv⟩ ?_;rintro _ _ aa ⟨U,ay,az,aA,aB,ab,rfl,rfl,a2,a3,bz,bA,al⟩ bB ⟨ci,aR⟩ bC;have a4:=aR;unfold IS at a4;refine zg 4 rfl ?_;refine JL.fd underlying141 (Ag type139) rfl rfl rfl ?_;refine JL.Y (v:= .agg ab.toArray) rfl (fun ρ h=>Yl.HM (kk:=13) (pp:=(rN .u16)) al (Al underlying139) (Ag type139) (h _ _ rfl) (Ik (l:= [.slice ay (aa.1).length az,.slice aA (aa.2.1).length aB]) 0 a3 rfl)) ?_;refine JS.alloc rfl rfl rfl a3 (AO type139) fun am bD=>?_;refine JS.HB (v:= .agg ab.toArray) (l:= []) (ws:=(List.replicate 13 (.int .u16 ((0:Nat):Int)):List Value)) (us:=ab) (o:=0) 1 rfl rfl rfl bD rfl rfl rfl (by rw [Ef (kk:=13) (pp:=(rN .u16)) al];exact Ag type139) ((rA 13 (rN .u16)).one al) rfl (by rw [Ef (kk:=13) (pp:=(rN .u16)) al,Ef (kk:=13) (pp:=(rN .u16)) (GY (E:=U) (pp:=(rN .u16)) rfl)];omega) fun a5=>?_;rw [Mt (by rw [Ef (kk:=13) (pp:=(rN .u16)) al,Ef (kk:=13) (pp:=(rN .u16)) (GY (E:=U) (pp:=(rN .u16)) rfl)])] at a5 ⊢;obtain⟨A,bE,a6⟩:=bs a4;refine zg 6 rfl ?_;refine JL.join (fun L s=>∃(an:LH) (ao:Ar) (ap:Nat) (ac:Ar) (ae:Nat) (aq:List Value) (ag:List Value),Jn U H an [[(O,.cells (([.slice ao (A.1).length ap,.slice ac (A.2.1).length ae]:List Value)++aq).toArray 141 (0,0))],[(am,.cells (([]:List Value)++ag).toArray 139 (0,0))]] [(3,.pointer (some ⟨O,0,none⟩)),(4,.pointer (some ⟨am,0,none⟩))] L s (Ao (rL rI) an ao ap (A.1)∧Ao (rL rI) an ac ae (A.2.1)∧(rA 13 (rN .u16)).r an aq (A.2.2.1)∧(rA 13 (rN .u16)).r an ag (A.2.2.2))) ?_ ?_
 ·rintro _ _ ⟨an,ao,ap,ac,ae,aq,ag,rfl,rfl,a7,av,a8,a9,aC,ah⟩;refine zg 2 rfl ?_;refine JG.Ce 5 [am,O] ⟨⟨1,_,rfl⟩,⟨0,_,rfl⟩,trivial⟩ av mixed rfl (by decide+kernel) fun ht=>?_;refine JG.V (v:= .agg ag.toArray) 0 ht rfl rfl (fun ρ h s' hs=>Yl.HM (kk:=13) (pp:=(rN .u16)) ah (Al underlying139) (Ag type139) (h _ _ rfl) (J1 (l:= []) 1 av rfl (by simp [AH]) hs)) ?_;refine JG.ms ht rfl [1,2] rfl ?_;refine JG.fd 3 ht underlying141 (Ag type139) rfl rfl rfl rfl ?_;refine JG.V (v:= .agg aq.toArray) 4 ht rfl rfl (fun ρ h s' hs=>Yl.HM (kk:=13) (pp:=(rN .u16)) aC (Al underlying139) (Ag type139) (h _ _ rfl) (J1 (l:= [.slice ao (A.1).length ap,.slice ac (A.2.1).length ae]) 0 av rfl (by simp [AH]) hs)) ?_;refine Av.leaf (tail:= [5]) (by decide+kernel) (fun t=>A1 (by decide+kernel) BM t) ?_;refine JL.Y (v:= .bool (decide (A.2.2.2≠A.2.2.1))) rfl (fun ρ h=>Yl.TG underlying139 (by decide+kernel) Tq (Ag type138) ah aC (h _ _ rfl) (h _ _ rfl)) ?_;refine JL.done ?_;refine JL.ifs (p:=A.2.2.2≠A.2.2.1) rfl (fun aS=>?_) (fun aS=>?_)
  ·have bF:=ip a6 aS;refine zg 3 rfl ?_;refine JL.Y (v:= .agg ag.toArray) rfl (fun ρ h=>Yl.HM (kk:=13) (pp:=(rN .u16)) ah (Al underlying139) (Ag type139) (h _ _ rfl) (Ik (l:= []) 1 av rfl)) ?_;refine zg 1 rfl ?_;refine JL.fd underlying141 (Ag type139) rfl rfl rfl ?_;refine JS.HB (v:= .agg ag.toArray) (l:= [.slice ao (A.1).length ap,.slice ac (A.2.1).length ae]) (ws:=aq) (us:=ag) (o:=0) 0 rfl rfl rfl av rfl rfl rfl (by rw [Ef (kk:=13) (pp:=(rN .u16)) ah];exact Ag type139) ((rA 13 (rN .u16)).one ah) rfl (by rw [Ef (kk:=13) (pp:=(rN .u16)) ah,Ef (kk:=13) (pp:=(rN .u16)) aC];omega) fun ba=>?_;rw [Mt (by rw [Ef (kk:=13) (pp:=(rN .u16)) ah,Ef (kk:=13) (pp:=(rN .u16)) aC])] at ba ⊢;refine JL.done ?_;refine JL.goto rfl ?_;refine zg 2 rfl ?_;refine JS.drop 1 ba rfl fun bG=>?_;obtain rfl:=oi bF;exact JL.kw (bC _ _ (A.1,A.2.1,A.2.2.2) ⟨an,ao,ap,ac,ae,ag,rfl,rfl,(a2.trans a7),bG,a8,a9,ah⟩ aR) rfl
  ·have bH:=im a6 aS;refine zg 6 rfl ?_;refine JS.Ba 0 av rfl fun ck aJ bI bJ=>?_;refine JS.drop 1 bJ rfl fun bK=>?_;obtain rfl:=oi bH;obtain rfl:=bB _ aR;have bL:=elim_inl bx;obtain rfl:=oi bL;refine JL.rt func92 rfl rfl ?_;exact bm _ _ _ _ (((aP.trans a2).trans a7).trans aJ) rfl ⟨.pointer (some ⟨O,0,none⟩),rfl,rfl,⟨_,_,_,rfl,bI,⟨[.slice ao (A.1).length ap],(([.slice ac (A.2.1).length ae]:List Value)++aq),rfl,⟨_,_,rfl,(a8.mono aJ)⟩,⟨[.slice ac (A.2.1).length ae],aq,rfl,⟨_,_,rfl,(a9.mono aJ)⟩,(Rp.mono _ aJ aC)⟩⟩⟩⟩ bK
 ·intro bM;refine JL.block ?_;refine JL.wk [(3,.pointer (some ⟨O,0,none⟩)),(4,.pointer (some ⟨am,0,none⟩)),(18,iV 0)] rfl ?_;refine JL.Bf bE (fun L s K=>∃(ar:LH) (aD:Ar) (aE:Nat) (aF:Ar) (aG:Nat) (aK:List Value) (aw:List Value),Jn U H ar [[(O,.cells (([.slice aD (K.1).length aE,.slice aF (K.2.1).length aG]:List Value)++aK).toArray 141 (0,0))],[(am,.cells (([]:List Value)++aw).toArray 139 (0,0))]] [(3,.pointer (some ⟨O,0,none⟩)),(4,.pointer (some ⟨am,0,none⟩)),(18,iV K.2.2.2.2)] L s (Ao (rL rI) ar aD aE (K.1)∧Ao (rL rI) ar aF aG (K.2.1)∧(rA 13 (rN .u16)).r ar aK (K.2.2.1)∧(rA 13 (rN .u16)).r ar aw (K.2.2.2.1))) ⟨U,ay,az,aA,aB,ab,ab,rfl,rfl,(Le.refl _),a5,bz,bA,al,al⟩ ?_;rintro _ _ K ⟨ar,aD,aE,aF,aG,aK,aw,rfl,rfl,bb,aT,bc,bd,aL,aM⟩ bN ⟨cm,aU⟩ bO;have aV:=aU;unfold Hy at aV;refine zg 5 rfl ?_;refine JL.ifs (p:=K.2.2.2.2<12) rfl (fun aW=>?_) (fun aW=>?_)
  ·have bP:=ip aV aW;obtain⟨aH,bQ,bR⟩:=bs bP;refine zg 10 rfl ?_;refine JL.Y rfl (fun ρ h=>Yl.A0 (h _ _ rfl) (h _ _ rfl) bQ) ?_;refine zg 4 rfl ?_;refine JL.fd underlying141 (Ag type139) rfl rfl rfl ?_;obtain⟨bS,bf,bT⟩:=bs bR;obtain⟨_,rfl,_,_,bU⟩:=FV (kk:=13) (pp:=(rN .u16)) aL bf;refine JL.Y (v:= .pointer (some ⟨O,2+Int.toNat (K.2.2.2.2)*1,none⟩)) rfl (fun ρ h=>Yl.G3 (kk:=13) (pp:=(rN .u16)) aL bf underlying139 (Ag type138) (h _ _ rfl) (h _ _ rfl)) ?_;refine JL.fd underlying138 (Ag type102) rfl rfl rfl ?_;refine JL.Y (v:= .int .u16 ((bS:Nat):Int)) rfl (fun ρ h=>Yl.load (Al underlying102) (h _ _ rfl) (Qf (l:= [.slice aD (K.1).length aE,.slice aF (K.2.1).length aG]) 0 aT rfl (bU 0 _ rfl))) ?_;obtain⟨Z,bV,bW⟩:=bs bT;refine JS.BL 0 (Rl bc bd aL bV) rfl rfl (Aw func121 rfl) aT rfl ?_;rintro _ bg _ aN ⟨bX,bY,bZ,b0,HZ,rfl,rfl,b1,b2,b3⟩ b4;obtain⟨cn,aX,b5⟩:=bs bW;obtain⟨_,rfl,_,_,co⟩:=FV (kk:=13) (pp:=(rN .u16)) (Rp.mono _ aN aM) aX;refine JL.Y (v:= .pointer (some ⟨am,0+Int.toNat (aH)*1,none⟩)) rfl (fun ρ h=>Yl.G3 (kk:=13) (pp:=(rN .u16)) (Rp.mono _ aN aM) aX underlying139 (Ag type138) (h _ _ rfl) (h _ _ rfl)) ?_;refine JL.fd underlying138 (Ag type102) rfl rfl rfl ?_;have aO:=Kj (us:= [.int .u16 ((Z.1:Nat):Int)]) (y:=Z.1) (Rp.mono _ aN aM) aX rfl;refine JS.HB (v:= .int .u16 ((Z.1:Nat):Int)) (l:= []) (ws:=aw) (us:= [.int .u16 ((Z.1:Nat):Int)]) (o:=Int.toNat (aH)*1) 1 rfl rfl rfl b4 rfl rfl rfl (Ag type102) (by simp [Value.cells,BB]) rfl aO.2 fun bh=>?_;replace aO:=aO.1;generalize b6:Fo aw (Int.toNat (aH)*1) [.int .u16 ((Z.1:Nat):Int)]=bi at bh ⊢;have b7:(rA 13 (rN .u16)).r bg bi (K.2.2.2.1.set (Int.toNat aH) Z.1):=by rw [← b6];exact aO
   obtain⟨b8,b9,ca⟩:=bs b5;refine zg 3 rfl ?_;refine JL.Y rfl (fun ρ h=>Yl.A0 (h _ _ rfl) (h _ _ rfl) b9) ?_;refine zg 2 rfl ?_;obtain rfl:=oi ca;exact JL.kw (bO _ _ (Z.2.1,Z.2.2.1,Z.2.2.2,(K.2.2.2.1.set (Int.toNat aH) Z.1),b8) ⟨bg,bX,bY,bZ,b0,HZ,bi,rfl,rfl,(bb.trans aN),bh,b1,b2,b3,b7⟩ aU) rfl
  ·have cb:=im aV aW;refine JL.exit rfl ?_;obtain rfl:=oi cb;obtain rfl:=bN _ aU;exact JL.kw (bM _ _ ⟨ar,aD,aE,aF,aG,aK,aw,rfl,rfl,bb,aT,bc,bd,aL,aM⟩) rfl
end Pal
namespace Pal
open Go Go.Conc Go.Proofs
open Go.Proofs.Tryz
variable {J:Judge Tryz.prog}{E:LH}
def IF(fuel:Nat)(p0:Br)(K:Nat)(O:(List Int))(A:Int):Option (A4 (Int) ((Bool)⊕(Unit))):=
 if A<((O).length:Int) then(
  (ix O (A)).bind fun U=>
  (f103 fuel K U).bind fun Z=>
  Option.bind (
   if Z=true then(
    some true
   ) else(
    (ix p0.2.1 (U)).bind fun aa=>
    (f120 fuel aa).bind fun ab=>
    (G6 (K) (ab)).bind fun ac=>
    some (decide ((((ac):Nat):Int)≠(((0):Nat):Int)))
   )
  ) fun ae=>
  if ae=true then(
   some (.done (Sum.inl true))
  ) else(
   (Ax (A+1)).bind fun ag=>
   some (.more ag)
  )
 ) else(
  some (.done (Sum.inr ()))
 )
def f109(fuel:Nat)(p0:Br)(p1:Int)(p2:Int):Option (Bool):=
 (ix p0.2.2 (p2)).bind fun A=>
 (ix p0.2.2 (p1)).bind fun K=>
 (f89 fuel K).bind fun O=>
 Option.bind (iter (IF fuel p0 A O) fuel 0) fun U=>
 Sum.elim (fun r=>some r) (fun Z=>
 some false
 ) U
theorem Nv{k1:Nat}{O:Nat}{U:Ar}{Z:Nat}{aa:Ar}{ab:Nat}{av:List Value}{p0:Br}{p1:Int}{p2:Int}(ai:At E k1 O (([.slice U (p0.1).length Z,.slice aa (p0.2.1).length ab]:List Value)++av))(bD:Ao (rL rI) E U Z (p0.1))(aO:Ao (rL rI) E aa ab (p0.2.1))(aw:(rA 13 (rN .u16)).r E av (p0.2.2)){fuel:Nat}{r:Bool}(ay:f109 fuel p0 p1 p2=some r):Aq J 109 [.pointer (some ⟨k1,O,none⟩),iV p1,iV p2] E [] (fun w E' B'=>w= .bool r∧B'= []):=by
 refine Aq.en func109 rfl rfl fun Q bE cs H aP az=>?_;unfold f109 at ay;refine zg 9 rfl ?_;refine JL.fd underlying141 (Ag type139) rfl rfl rfl ?_;obtain⟨aj,aQ,aR⟩:=bs ay;refine JS.KS (l:= [.slice U (p0.1).length Z,.slice aa (p0.2.1).length ab]) ai aw aQ rfl rfl rfl rfl rfl underlying139 (Ag type138) ?_;rintro bF _ rfl aS;refine JL.fd underlying138 (Ag type102) rfl rfl rfl ?_;refine JL.ld 0 aS (Al underlying102) rfl rfl rfl ?_;refine zg 8 rfl ?_;refine JL.fd underlying141 (Ag type139) rfl rfl rfl ?_;obtain⟨bG,aT,aU⟩:=bs aR;refine JS.KS (l:= [.slice U (p0.1).length Z,.slice aa (p0.2.1).length ab]) ai aw aT rfl rfl rfl rfl rfl underlying139 (Ag type138) ?_;rintro bH _ rfl aV;refine JL.fd underlying138 (Ag type102) rfl rfl rfl ?_;refine JL.ld 0 aV (Al underlying102) rfl rfl rfl ?_;obtain⟨A,aW,aX⟩:=bs aU;refine JS.cl (Gp aW) rfl rfl (Aw func89 rfl) aP ?_;rintro _ ak _ ac ⟨al,am,rfl,rfl,aY⟩ aZ;refine JL.Y rfl (fun ρ h=>Yl.len rfl underlying28 (h _ _ rfl)) ?_;obtain⟨aA,a0,aB⟩:=bs aX;refine zg 2 rfl ?_;refine JL.join (fun L s=>∃(aC:Unit) (aD:LH),aA=Sum.inr aC∧Jm ak H aD [] [] L s) ?_ ?_
 ·rintro _ _ ⟨aC,aD,rfl,rfl,rfl,a1,a2⟩;have a3:=elim_inr aB;refine zg 4 rfl ?_;obtain rfl:=oi a3;refine JL.rt func109 rfl rfl ?_;exact az _ _ _ _ (ac.trans a1) rfl ⟨rfl,rfl⟩ a2
 ·intro a4;refine JL.block ?_;refine JL.wk [(0,.pointer (some ⟨k1,O,none⟩)),(7,.int .u16 ((aj:Nat):Int)),(24,.slice al (A).length am),(25,iV ((A).length:Int)),(26,iV 0)] rfl ?_;refine JL.Bf a0 (fun L s ae=>∃(an:LH),Jm ak H an [] [(0,.pointer (some ⟨k1,O,none⟩)),(7,.int .u16 ((aj:Nat):Int)),(24,.slice al (A).length am),(25,iV ((A).length:Int)),(26,iV ae)] L s) ⟨ak,rfl,rfl,(Le.refl _),aZ⟩ ?_;rintro _ _ ae ⟨an,rfl,rfl,K,aE⟩ aF ⟨bI,ag⟩ a5;have ao:=ag;unfold IF at ao;refine zg 5 rfl ?_;refine JL.ifs (p:=ae<((A).length:Int)) rfl (fun ap=>?_) (fun ap=>?_)
  ·have a6:=ip ao ap;obtain⟨bJ,a7,a8⟩:=bs a6;refine zg 5 rfl ?_;refine JS.BF (aY.mono K) a7 rfl rfl rfl rfl rfl underlying28 (Ag type3) ?_;rintro bK bL _ rfl a9;refine JL.ld 0 a9 (Al underlying3) rfl rfl rfl ?_;obtain⟨ba,bb,bc⟩:=bs a8;refine zg 6 rfl ?_;refine JS.cl (Kp bb) rfl rfl (Aw func103 rfl) aE ?_;rintro _ aG _ ah ⟨rfl,rfl⟩ aH;obtain⟨aI,aJ,aK⟩:=bs bc;refine zg 1 rfl ?_;refine JL.BI [] (fun L s=>∃(aq:LH),Jm aG H aq [] [(0,.pointer (some ⟨k1,O,none⟩)),(7,.int .u16 ((aj:Nat):Int)),(24,.slice al (A).length am),(25,iV ((A).length:Int)),(26,iV ae),(46,.bool aI)] L s) ?_ ?_
   ·rintro _ _ ⟨aq,rfl,rfl,aL,aM⟩;refine JL.done ?_;refine JL.split (t:=aI) rfl (fun ar=>?_) (fun ar=>?_)
    ·have bd:=ip aK ar;refine zg 4 rfl ?_;obtain rfl:=oi bd;obtain rfl:=aF _ ag;have bf:=elim_inl aB;obtain rfl:=oi bf;refine JL.rt func109 rfl rfl ?_;exact az _ _ _ _ (((ac.trans K).trans ah).trans aL) rfl ⟨rfl,rfl⟩ aM
    ·have bg:=ib aK ar;obtain⟨bh,bi,bj⟩:=bs bg;refine zg 3 rfl ?_;refine JL.Y rfl (fun ρ h=>Yl.A0 (h _ _ rfl) (h _ _ rfl) bi) ?_;refine zg 2 rfl ?_;obtain rfl:=oi bj;exact JL.kw (a5 _ _ bh ⟨aq,rfl,rfl,((K.trans ah).trans aL),aM⟩ ag) rfl
   ·intro aN;refine JL.Cg (c:=ba) (i:=33) rfl (fun au=>?_) (fun au=>?_)
    ·have bk:=ip aJ au;refine zg 13 rfl ?_;obtain rfl:=oi bk;exact JL.kw (aN _ _ ⟨aG,rfl,rfl,(Le.refl _),aH⟩) rfl
    ·have bl:=ib aJ au;refine zg 3 rfl ?_;refine JL.fd underlying141 (Ag type24) rfl rfl rfl ?_;refine JL.fd underlying24 (Ag type22) rfl rfl rfl ?_;refine JL.ld 1 (ai.mono ((ac.trans K).trans ah)) (Al underlying22) rfl rfl rfl ?_;obtain⟨bM,bm,bn⟩:=bs bl;refine zg 1 rfl ?_;refine JS.BF (aO.mono ((ac.trans K).trans ah)) bm rfl rfl rfl rfl rfl underlying22 (Ag type28) ?_;rintro bN bO _ ⟨bP,bQ,rfl,bo⟩ bp;refine JL.ld 0 bp (Al underlying28) rfl rfl rfl ?_;obtain⟨bR,bq,br⟩:=bs bn;refine JS.cl (GU bo bq) rfl rfl (Aw func120 rfl) aH ?_;rintro _ bu _ bv ⟨rfl,rfl⟩ bw;obtain⟨bx,bz,bA⟩:=bs br;refine JL.Y (v:= .int .u16 ((bx:Nat):Int)) rfl (fun ρ h=>Yl.Km (h _ _ rfl) (h _ _ rfl) bz) ?_;refine zg 2 rfl ?_;obtain rfl:=oi bA;exact JL.kw (aN _ _ ⟨bu,rfl,rfl,bv,bw⟩) rfl
  ·have bB:=im ao ap;refine JL.exit rfl ?_;obtain rfl:=oi bB;have bC:aA=(Sum.inr ()):=(aF _ ag).symm;exact JL.kw (a4 _ _ ⟨(),an,bC,rfl,rfl,K,aE⟩) rfl
end Pal
namespace Pal
open Go Go.Conc Go.Proofs
open Go.Proofs.Tryz
variable {J:Judge Tryz.prog}{E:LH}
def Na(fuel:Nat)(p0:List Int)(p1:Int)(A:Int):Option (A4 (Int) ((Int)⊕(Unit))):=
 if A<((p0).length:Int) then(
  (ix p0 (A)).bind fun K=>
  if p1=K then(
   some (.done (Sum.inl A))
  ) else(
   (Ax (A+1)).bind fun O=>
   some (.more O)
  )
 ) else(
  some (.done (Sum.inr ()))
 )
def f201(fuel:Nat)(p0:List Int)(p1:Int):Option (Int):=
 Option.bind (iter (Na fuel p0 p1) fuel 0) fun A=>
 Sum.elim (fun r=>some r) (fun K=>
 some (-1)
 ) A
theorem SJ{A:Ar}{c2:Nat}{p0:List Int}{p1:Int}(ao:Ao rI E A c2 (p0)){fuel:Nat}{r:Int}(ag:f201 fuel p0 p1=some r):Aq J 201 [.slice A (p0).length c2,iV p1] E [] (fun w E' B'=>w=iV r∧B'= []):=by
 refine Aq.en func201 rfl rfl fun Q aL cs H ap ah=>?_;unfold f201 at ag;refine zg 8 rfl ?_;refine JL.Y rfl (fun ρ h=>Yl.len rfl underlying28 (h _ _ rfl)) ?_;obtain⟨ai,aq,aj⟩:=bs ag;refine zg 2 rfl ?_;refine JL.join (fun L s=>∃(ak:Unit) (al:LH),ai=Sum.inr ak∧Jm E H al [] [] L s) ?_ ?_
 ·rintro _ _ ⟨ak,al,rfl,rfl,rfl,ar,au⟩;have av:=elim_inr aj;refine zg 4 rfl ?_;obtain rfl:=oi av;refine JL.rt func201 rfl rfl ?_;exact ah _ _ _ _ ar rfl ⟨rfl,rfl⟩ au
 ·intro aw;refine JL.block ?_;refine JL.wk [(0,.slice A (p0).length c2),(1,iV p1),(7,iV ((p0).length:Int)),(8,iV 0)] rfl ?_;refine JL.Bf aq (fun L s Z=>∃(K:LH),Jm E H K [] [(0,.slice A (p0).length c2),(1,iV p1),(7,iV ((p0).length:Int)),(8,iV Z)] L s) ⟨E,rfl,rfl,(Le.refl _),ap⟩ ?_;rintro _ _ Z ⟨K,rfl,rfl,O,aa⟩ am ⟨aM,U⟩ ay;have ab:=U;unfold Na at ab;refine zg 5 rfl ?_;refine JL.ifs (p:=Z<((p0).length:Int)) rfl (fun ac=>?_) (fun ac=>?_)
  ·have az:=ip ab ac;obtain⟨aA,aB,an⟩:=bs az;refine zg 13 rfl ?_;refine JS.BF (ao.mono O) aB rfl rfl rfl rfl rfl underlying28 (Ag type3) ?_;rintro aN aO _ rfl aC;refine JL.ld 0 aC (Al underlying3) rfl rfl rfl ?_;refine zg 2 rfl ?_;refine JL.ifs (p:=p1=aA) rfl (fun ae=>?_) (fun ae=>?_)
   ·have aD:=ip an ae;refine zg 5 rfl ?_;obtain rfl:=oi aD;obtain rfl:=am _ U;have aE:=elim_inl aj;obtain rfl:=oi aE;refine JL.rt func201 rfl rfl ?_;exact ah _ _ _ _ O rfl ⟨rfl,rfl⟩ aa
   ·have aF:=im an ae;obtain⟨aG,aH,aI⟩:=bs aF;refine zg 3 rfl ?_;refine JL.Y rfl (fun ρ h=>Yl.A0 (h _ _ rfl) (h _ _ rfl) aH) ?_;refine zg 2 rfl ?_;obtain rfl:=oi aI;exact JL.kw (ay _ _ aG ⟨K,rfl,rfl,O,aa⟩ U) rfl
  ·have aJ:=im ab ac;refine JL.exit rfl ?_;obtain rfl:=oi aJ;have aK:ai=(Sum.inr ()):=(am _ U).symm;exact JL.kw (aw _ _ ⟨(),K,aK,rfl,rfl,O,aa⟩) rfl
def f199(fuel:Nat)(p0:List Int)(p1:Int):Option (Bool):=
 (f201 fuel p0 p1).bind fun A=>
 some (decide (0≤A))
theorem SQ{A:Ar}{c2:Nat}{p0:List Int}{p1:Int}(O:Ao rI E A c2 (p0)){fuel:Nat}{r:Bool}(K:f199 fuel p0 p1=some r):Aq J 199 [.slice A (p0).length c2,iV p1] E [] (fun w E' B'=>w= .bool r∧B'= []):=by
 refine Aq.en func199 rfl rfl fun Q ag cs H U Z=>?_;unfold f199 at K;obtain⟨ah,aa,ab⟩:=bs K;refine zg 8 rfl ?_;refine JS.cl (SJ O aa) rfl rfl (Aw func201 rfl) U ?_;rintro _ ai _ ac ⟨rfl,rfl⟩ ae;refine zg 3 rfl ?_;obtain rfl:=oi ab;refine JL.rt func199 rfl rfl ?_;exact Z _ _ _ _ ac rfl ⟨rfl,rfl⟩ ae
def f192(fuel:Nat)(p0:Br)(p1:Int)(p2:Int):Option ((Option (Int×Option Int))):=
 if p1=p2 then(
  some (some (p1,none))
 ) else(
  (ix p0.2.1 (p1)).bind fun A=>
  (f199 fuel A p2).bind fun K=>
  if K=true then(
   some (some (p1,some p2))
  ) else(
   some none
  )
 )
theorem Se{k1:Nat}{Z:Nat}{aa:Ar}{ab:Nat}{ac:Ar}{ae:Nat}{ag:List Value}{p0:Br}{p1:Int}{p2:Int}(am:At E k1 Z (([.slice aa (p0.1).length ab,.slice ac (p0.2.1).length ae]:List Value)++ag))(aB:Ao (rL rI) E aa ab (p0.1))(an:Ao (rL rI) E ac ae (p0.2.1))(aC:(rA 13 (rN .u16)).r E ag (p0.2.2)){fuel:Nat}{r:(Option (Int×Option Int))}(A:f192 fuel p0 p1 p2=some r):Aq J 192 [.pointer (some ⟨k1,Z,none⟩),iV p1,iV p2] E [] (fun w E' B'=>∃(ah:Value),w=ah∧B'= []∧Lm 257 259 ah (r)):=by
 refine Aq.en func192 rfl rfl fun Q aD cs H ai K=>?_;unfold f192 at A;refine zg 13 rfl ?_;refine JL.ifs (p:=p1=p2) rfl (fun O=>?_) (fun O=>?_)
 ·have ao:=ip A O;refine zg 3 rfl ?_;refine JL.Y (v:= .agg #[iV p1]) rfl (fun ρ h=>Yl.Cb [(0,1)] h (AO type257) underlying257 ⟨rfl,Ag type3,trivial⟩ rfl rfl) ?_;refine JL.Y (v:= .iface 257 (.agg #[iV p1])) rfl (fun ρ h=>Yl.Di underlying257 (fun _ h=>by cases h) (h _ _ rfl)) ?_;refine zg 2 rfl ?_;obtain rfl:=oi ao;refine JL.rt func192 rfl rfl ?_;exact K _ _ _ _ (Le.refl _) rfl ⟨.iface 257 (.agg #[iV p1]),rfl,rfl,rfl⟩ ai
 ·have ap:=im A O;refine zg 4 rfl ?_;refine JL.fd underlying141 (Ag type24) rfl rfl rfl ?_;refine JL.fd underlying24 (Ag type22) rfl rfl rfl ?_;refine JL.ld 1 am (Al underlying22) rfl rfl rfl ?_;obtain⟨aE,aq,ar⟩:=bs ap;refine zg 1 rfl ?_;refine JS.BF an aq rfl rfl rfl rfl rfl underlying22 (Ag type28) ?_;rintro aF aG _ ⟨aH,aI,rfl,au⟩ av;refine JL.ld 0 av (Al underlying28) rfl rfl rfl ?_;obtain⟨aw,ay,aj⟩:=bs ar;refine zg 1 rfl ?_;refine JS.cl (SQ au ay) rfl rfl (Aw func199 rfl) ai ?_;rintro _ aJ _ ak ⟨rfl,rfl⟩ al;refine zg 2 rfl ?_;refine JL.split (t:=aw) rfl (fun U=>?_) (fun U=>?_)
  ·have az:=ip aj U;refine zg 4 rfl ?_;refine JL.Y (v:= .agg #[iV p1,iV p2]) rfl (fun ρ h=>Yl.Cb [(0,1),(1,1)] h (AO type259) underlying259 ⟨rfl,Ag type3,rfl,Ag type3,trivial⟩ rfl rfl) ?_;refine JL.Y (v:= .iface 259 (.agg #[iV p1,iV p2])) rfl (fun ρ h=>Yl.Di underlying259 (fun _ h=>by cases h) (h _ _ rfl)) ?_;refine zg 2 rfl ?_;obtain rfl:=oi az;refine JL.rt func192 rfl rfl ?_;exact K _ _ _ _ ak rfl ⟨.iface 259 (.agg #[iV p1,iV p2]),rfl,rfl,rfl⟩ al
  ·have aA:=ib aj U;refine zg 6 rfl ?_;obtain rfl:=oi aA;refine JL.rt func192 rfl rfl ?_;exact K _ _ _ _ ak rfl ⟨.nilIface,rfl,rfl,rfl⟩ al
end Pal
namespace Pal
open Go Go.Conc Go.Proofs
open Go.Proofs.Tryz
variable {J:Judge Tryz.prog}{E:LH}
def KD(fuel:Nat)(p0:(Br)×(AW)×By):Option (Int):=
 if((p0.2.1).length:Int)=0 then(
  some 0
 ) else(
  (Ax (((p0.2.1).length:Int) - 1)).bind fun A=>
  (ix p0.2.1 (A)).bind fun K=>
  some K.1
 )
theorem Rg{U:Nat}{k1:Nat}{Z:Nat}{ag:Ar}{ah:Nat}{ai:Ar}{aj:Nat}{ak:List Value}{A:Ar}{K:Nat}{aa:Ar}{ab:Nat}{p0:(Br)×(AW)×By}(aw:At E k1 Z (([.slice ag (p0.1.1).length ah,.slice ai (p0.1.2.1).length aj]:List Value)++ak))(ay:Ao (rL rI) E ag ah (p0.1.1))(az:Ao (rL rI) E ai aj (p0.1.2.1))(aA:(rA 13 (rN .u16)).r E ak (p0.1.2.2))(am:Ao Bv E A K (p0.2.1))(aB:Ao rI E aa ab (p0.2.2.2.1)){fuel:Nat}{r:Int}(ac:KD fuel p0=some r):Aq J 154 [.pointer (some ⟨U,0,none⟩)] E [(U,.cells #[.pointer (some ⟨k1,Z,none⟩),.slice A (p0.2.1).length K,iV p0.2.2.1,.slice aa (p0.2.2.2.1).length ab,.int .u16 ((p0.2.2.2.2:Nat):Int)] 175 (0,0))] (fun w E' B'=>w=iV r∧B'= [(U,.cells #[.pointer (some ⟨k1,Z,none⟩),.slice A (p0.2.1).length K,iV p0.2.2.1,.slice aa (p0.2.2.2.1).length ab,.int .u16 ((p0.2.2.2.2:Nat):Int)] 175 (0,0))]):=by
 refine Aq.en func154 rfl rfl fun Q aC cs H O al=>?_;unfold KD at ac;refine zg 9 rfl ?_;refine JL.fd underlying175 (Ag type25) rfl rfl rfl ?_;refine JL.Y (v:= .slice A (p0.2.1).length K) rfl (fun ρ h=>Yl.load (Al underlying25) (h _ _ rfl) (Cw (j:=0) (off:=1) O rfl rfl)) ?_;refine JL.Y rfl (fun ρ h=>Yl.len rfl underlying25 (h _ _ rfl)) ?_;refine zg 2 rfl ?_;refine JL.ifs (p:=((p0.2.1).length:Int)=0) rfl (fun ae=>?_) (fun ae=>?_)
 ·have an:=ip ac ae;refine zg 4 rfl ?_;obtain rfl:=oi an;refine JL.rt func154 rfl rfl ?_;exact al _ _ _ _ (Le.refl _) rfl ⟨rfl,rfl⟩ O
 ·have ao:=im ac ae;refine zg 2 rfl ?_;refine JG.Ce 10 [U] ⟨⟨0,_,rfl⟩,trivial⟩ O mixed rfl (by decide+kernel) fun ht=>?_;refine JG.ms ht rfl [0,1] rfl ?_;refine JG.fd 2 ht underlying175 (Ag type25) rfl rfl rfl rfl ?_;refine JG.V (v:= .slice A (p0.2.1).length K) 3 ht rfl rfl (fun ρ h s' hs=>Yl.load (Al underlying25) (h _ _ rfl) (Bl (o:=1) 0 O rfl (by simp [AH]) hs rfl)) ?_;refine JG.ms ht rfl [4,5] rfl ?_;refine JG.fd 6 ht underlying175 (Ag type25) rfl rfl rfl rfl ?_;refine JG.V (v:= .slice A (p0.2.1).length K) 7 ht rfl rfl (fun ρ h s' hs=>Yl.load (Al underlying25) (h _ _ rfl) (Bl (o:=1) 0 O rfl (by simp [AH]) hs rfl)) ?_;refine JG.V 8 ht rfl rfl (fun ρ h s' hs=>Yl.len rfl underlying25 (h _ _ rfl)) ?_;obtain⟨aD,ap,aq⟩:=bs ao;refine JG.V 9 ht rfl rfl (fun ρ h s' hs=>Yl.Bb (h _ _ rfl) (h _ _ rfl) ap) ?_;refine Av.leaf (tail:= [10,11,12,13]) (by decide+kernel) (fun t=>A1 (by decide+kernel) (A1 (by decide+kernel) (A1 (by decide+kernel) (A1 (by decide+kernel) BM))) t) ?_;obtain⟨aE,ar,au⟩:=bs aq;refine JS.BF am ar rfl rfl rfl rfl rfl underlying25 (Ag type27) ?_;rintro aF aG _ ⟨_,_,rfl,rfl,rfl⟩ av;refine JL.fd underlying27 (Ag type3) rfl rfl rfl ?_;refine JL.ld 0 av (Al underlying3) rfl rfl rfl ?_;refine zg 2 rfl ?_;obtain rfl:=oi au;refine JL.rt func154 rfl rfl ?_;exact al _ _ _ _ (Le.refl _) rfl ⟨rfl,rfl⟩ O
def Mk(fuel:Nat)(p0:(Br)×(AW)×By)(p1:Int)(p2:Int)(A:Nat×Int):Option (A4 (Nat×Int) ((Nat×Bool)⊕(Nat))):=
 if A.2<((p0.2.1).length:Int) then(
  Option.bind (
   (ix p0.2.1 (A.2)).bind fun K=>
   if K.1≠p1 then(
    some (Sum.inr A.1)
   ) else(
    (f192 fuel p0.1 p2 K.2).bind fun O=>
    Option.bind (
     if HS O=true then(
      some (Sum.inr A.1)
     ) else(
      if HY O=true then(
       (f90 fuel A.1 A.2).bind fun U=>
       some (Sum.inr U)
      ) else(
       some (Sum.inl (0,false))
      )
     )
    ) fun Z=>Sum.elim (fun r=>some (Sum.inl r)) (fun aa=>
    some (Sum.inr aa)
    ) Z
   )
  ) fun ab=>Sum.elim (fun r=>some (.done (Sum.inl r))) (fun ac=>
  (Ax (A.2+1)).bind fun ae=>
  some (.more (ac,ae))
  ) ab
 ) else(
  some (.done (Sum.inr A.1))
 )
def Ky(fuel:Nat)(p0:(Br)×(AW)×By)(p1:Int)(p2:Int):Option (Nat×Bool):=
 Option.bind (iter (Mk fuel p0 p1 p2) fuel (0,0)) fun A=>
 Sum.elim (fun r=>some r) (fun K=>
 some (K,true)
 ) A
theorem RF{A:Nat}{k1:Nat}{Z:Nat}{az:Ar}{aA:Nat}{aB:Ar}{aC:Nat}{aD:List Value}{K:Ar}{O:Nat}{ab:Ar}{ac:Nat}{p0:(Br)×(AW)×By}{p1:Int}{p2:Int}(aX:At E k1 Z (([.slice az (p0.1.1).length aA,.slice aB (p0.1.2.1).length aC]:List Value)++aD))(aY:Ao (rL rI) E az aA (p0.1.1))(aZ:Ao (rL rI) E aB aC (p0.1.2.1))(a0:(rA 13 (rN .u16)).r E aD (p0.1.2.2))(a1:Ao Bv E K O (p0.2.1))(bM:Ao rI E ab ac (p0.2.2.2.1)){fuel:Nat}{r:Nat×Bool}(aE:Ky fuel p0 p1 p2=some r):Aq J 174 [.pointer (some ⟨A,0,none⟩),iV p1,iV p2] E [(A,.cells #[.pointer (some ⟨k1,Z,none⟩),.slice K (p0.2.1).length O,iV p0.2.2.1,.slice ab (p0.2.2.2.1).length ac,.int .u16 ((p0.2.2.2.2:Nat):Int)] 175 (0,0))] (fun w E' B'=>w= .tuple #[.int .u16 ((r.1:Nat):Int),.bool r.2]∧B'= [(A,.cells #[.pointer (some ⟨k1,Z,none⟩),.slice K (p0.2.1).length O,iV p0.2.2.1,.slice ab (p0.2.2.2.1).length ac,.int .u16 ((p0.2.2.2.2:Nat):Int)] 175 (0,0))]):=by
 refine Aq.en func174 rfl rfl fun Q bN cs H aF aG=>?_;unfold Ky at aE;refine zg 11 rfl ?_;refine JL.label ?_;refine zg 5 rfl ?_;refine JL.fd underlying175 (Ag type25) rfl rfl rfl ?_;refine JL.Y (v:= .slice K (p0.2.1).length O) rfl (fun ρ h=>Yl.load (Al underlying25) (h _ _ rfl) (Cw (j:=0) (off:=1) aF rfl rfl)) ?_;refine JL.Y rfl (fun ρ h=>Yl.len rfl underlying25 (h _ _ rfl)) ?_;obtain⟨aH,a2,aI⟩:=bs aE;refine zg 2 rfl ?_;refine JL.join (fun L s=>∃(an:Nat) (aJ:LH),aH=Sum.inr an∧Jm E H aJ [[(A,.cells #[.pointer (some ⟨k1,Z,none⟩),.slice K (p0.2.1).length O,iV p0.2.2.1,.slice ab (p0.2.2.2.1).length ac,.int .u16 ((p0.2.2.2.2:Nat):Int)] 175 (0,0))]] [(8,.int .u16 ((an:Nat):Int))] L s) ?_ ?_
 ·rintro _ _ ⟨an,aJ,rfl,rfl,rfl,a3,a4⟩;have a5:=elim_inr aI;refine zg 6 rfl ?_;obtain rfl:=oi a5;refine JL.rt func174 rfl rfl ?_;exact aG _ _ _ _ a3 rfl ⟨rfl,rfl⟩ a4
 ·intro a6;refine JL.block ?_;refine JL.wk [(0,.pointer (some ⟨A,0,none⟩)),(1,iV p1),(2,iV p2),(8,.int .u16 ((0:Nat):Int)),(14,.slice K (p0.2.1).length O),(15,iV ((p0.2.1).length:Int)),(16,iV 0)] rfl ?_;refine JL.Bf a2 (fun L s U=>∃(ai:LH),Jm E H ai [[(A,.cells #[.pointer (some ⟨k1,Z,none⟩),.slice K (p0.2.1).length O,iV p0.2.2.1,.slice ab (p0.2.2.2.1).length ac,.int .u16 ((p0.2.2.2.2:Nat):Int)] 175 (0,0))]] [(0,.pointer (some ⟨A,0,none⟩)),(1,iV p1),(2,iV p2),(8,.int .u16 ((U.1:Nat):Int)),(14,.slice K (p0.2.1).length O),(15,iV ((p0.2.1).length:Int)),(16,iV U.2)] L s) ⟨E,rfl,rfl,(Le.refl _),aF⟩ ?_;rintro _ _ U ⟨ai,rfl,rfl,aa,aK⟩ aL ⟨bO,aj⟩ a7;have ao:=aj;unfold Mk at ao;refine zg 5 rfl ?_;refine JL.ifs (p:=U.2<((p0.2.1).length:Int)) rfl (fun ap=>?_) (fun ap=>?_)
  ·have a8:=ip ao ap;obtain⟨a9,ba,aM⟩:=bs a8;refine zg 2 rfl ?_;refine JL.join (fun L s=>∃(ak:Nat) (aq:LH),a9=Sum.inr ak∧Jm ai H aq [[(A,.cells #[.pointer (some ⟨k1,Z,none⟩),.slice K (p0.2.1).length O,iV p0.2.2.1,.slice ab (p0.2.2.2.1).length ac,.int .u16 ((p0.2.2.2.2:Nat):Int)] 175 (0,0))]] [(0,.pointer (some ⟨A,0,none⟩)),(1,iV p1),(2,iV p2),(8,.int .u16 ((ak:Nat):Int)),(14,.slice K (p0.2.1).length O),(15,iV ((p0.2.1).length:Int)),(16,iV U.2)] L s) ?_ ?_
   ·rintro _ _ ⟨ak,aq,rfl,rfl,rfl,bb,bc⟩;have bd:=elim_inr aM;obtain⟨bf,bg,bh⟩:=bs bd;refine JL.region ?_;refine JL.Y rfl (fun ρ h=>Yl.A0 (h _ _ rfl) (h _ _ rfl) bg) ?_;refine zg 2 rfl ?_;obtain rfl:=oi bh;exact JL.kw (a7 _ _ (ak,bf) ⟨aq,rfl,rfl,(aa.trans bb),bc⟩ aj) rfl
   ·intro aN;obtain⟨al,bi,aO⟩:=bs ba;refine zg 4 rfl ?_;refine JS.BF (a1.mono aa) bi rfl rfl rfl rfl rfl underlying25 (Ag type27) ?_;rintro bP bQ _ ⟨_,_,rfl,rfl,rfl⟩ bj;refine JL.Bj bj (Al underlying27) (Ag type27) rfl rfl ?_;refine JS.alloc rfl rfl rfl aK (AO type27) fun bR bk=>?_;refine zg 1 rfl ?_;refine JS.st (v:= .agg #[iV al.1,iV al.2]) (off:=0) 1 bk (Ag type27) rfl rfl rfl rfl fun bl=>?_;refine JS.Ba 1 bl rfl fun bm ae aP ah=>?_;refine zg 4 rfl ?_;refine JL.fd underlying27 (Ag type3) rfl rfl rfl ?_;refine JL.ld 0 aP (Al underlying3) rfl rfl rfl ?_;refine zg 3 rfl ?_;refine JL.ifs (p:=al.1≠p1) rfl (fun ar=>?_) (fun ar=>?_)
    ·have bn:=ip aO ar;refine JL.exit rfl ?_;exact JL.kw (aN _ _ ⟨U.1,bm,(Option.some.inj bn).symm,rfl,rfl,ae,ah⟩) rfl
    ·have bo:=im aO ar;refine zg 2 rfl ?_;refine JG.Ce 7 [A] ⟨⟨0,_,rfl⟩,trivial⟩ ah mixed rfl (by decide+kernel) fun ht=>?_;refine JG.ms ht rfl [0,1] rfl ?_;refine JG.fd 2 ht underlying175 (Ag type94) rfl rfl rfl rfl ?_;refine JG.V (v:= .pointer (some ⟨k1,Z,none⟩)) 3 ht rfl rfl (fun ρ h s' hs=>Yl.load (Al underlying94) (h _ _ rfl) (Bl (o:=0) 0 ah rfl (by simp [AH]) hs rfl)) ?_;refine JG.mv 4 ht rfl rfl ?_;refine JG.fd 5 ht underlying27 (Ag type3) rfl rfl rfl rfl ?_;refine JG.V (v:=iV al.2) 6 ht rfl rfl (fun ρ h s' hs=>Yl.load (Al underlying3) (h _ _ rfl) (At.CO (j:=1) aP (CM ah hs ⟨⟨0,_,rfl⟩,trivial⟩) rfl)) ?_;refine Av.leaf (tail:= [7]) (by decide+kernel) (fun t=>A1 (by decide+kernel) BM t) ?_;obtain⟨ag,bp,bq⟩:=bs bo;refine JS.cl (Se (aX.mono (aa.trans ae)) (aY.mono (aa.trans ae)) (aZ.mono (aa.trans ae)) (Rp.mono _ (aa.trans ae) a0) bp) rfl rfl (Aw func192 rfl) ah ?_;rintro _ aQ _ aR ⟨bS,rfl,rfl,aS⟩ au;refine zg 4 rfl ?_;refine JL.Y (v:= .tuple #[(Ln ag),.bool (HS ag)]) rfl (fun ρ h=>Yl.Rb (t2:=259) underlying257 (AO type257) (by decide) aS (h _ _ rfl)) ?_;obtain⟨br,aT,aU⟩:=bs bq;refine zg 3 rfl ?_;refine JL.join (fun L s=>∃(am:Nat) (av:LH),br=Sum.inr am∧Jm aQ H av [[(A,.cells #[.pointer (some ⟨k1,Z,none⟩),.slice K (p0.2.1).length O,iV p0.2.2.1,.slice ab (p0.2.2.2.1).length ac,.int .u16 ((p0.2.2.2.2:Nat):Int)] 175 (0,0))]] [(0,.pointer (some ⟨A,0,none⟩)),(1,iV p1),(2,iV p2),(8,.int .u16 ((am:Nat):Int)),(14,.slice K (p0.2.1).length O),(15,iV ((p0.2.1).length:Int)),(16,iV U.2)] L s) ?_ ?_
     ·rintro _ _ ⟨am,av,rfl,rfl,rfl,bu,bv⟩;have bw:=elim_inr aU;refine zg 2 rfl ?_;exact JL.kw (aN _ _ ⟨am,av,(Option.some.inj bw).symm,rfl,rfl,((ae.trans aR).trans bu),bv⟩) rfl
     ·intro aV;refine JL.split (t:=HS ag) rfl (fun aw=>?_) (fun aw=>?_)
      ·have bx:=ip aT aw;refine JL.skip ?_;exact JL.kw (aV _ _ ⟨U.1,aQ,(Option.some.inj bx).symm,rfl,rfl,(Le.refl _),au⟩) rfl
      ·have aW:=ib aT aw;refine zg 2 rfl ?_;refine JL.Y (v:= .tuple #[(Lj ag),.bool (HY ag)]) rfl (fun ρ h=>Yl.R6 (t1:=257) underlying259 (AO type259) (by decide) aS (h _ _ rfl)) ?_;refine zg 3 rfl ?_;refine JL.split (t:=HY ag) rfl (fun ay=>?_) (fun ay=>?_)
       ·have bz:=ip aW ay;obtain⟨bA,bB,bC⟩:=bs bz;refine zg 3 rfl ?_;refine JS.cl (Jh bB) rfl rfl (Aw func90 rfl) au ?_;rintro _ bD _ bE ⟨rfl,rfl⟩ bF;refine zg 2 rfl ?_;exact JL.kw (aV _ _ ⟨bA,bD,(Option.some.inj bC).symm,rfl,rfl,bE,bF⟩) rfl
       ·have bG:=ib aW ay;refine zg 5 rfl ?_;obtain rfl:=oi bG;have bH:=elim_inl aU;obtain rfl:=oi bH;have bI:=elim_inl aM;obtain rfl:=oi bI;obtain rfl:=aL _ aj;have bJ:=elim_inl aI;obtain rfl:=oi bJ;refine JL.rt func174 rfl rfl ?_;exact aG _ _ _ _ ((aa.trans ae).trans aR) rfl ⟨rfl,rfl⟩ au
  ·have bK:=im ao ap;refine JL.exit rfl ?_;obtain rfl:=oi bK;have bL:aH=(Sum.inr U.1):=(aL _ aj).symm;exact JL.kw (a6 _ _ ⟨U.1,ai,bL,rfl,rfl,aa,aK⟩) rfl
end Pal
namespace Pal
open Go Go.Conc Go.Proofs
open Go.Proofs.Tryz
variable {J:Judge Tryz.prog}{E:LH}
def I9(fuel:Nat)(p0:List Int):Option ((List Int)):=
 (C7 ([]:List Int) p0).bind fun A=>
 some A
theorem Rh{ad:Addr}{c2:Nat}{p0:List Int}(U:Ao rI E (some ad) c2 p0){fuel:Nat}{r:(List Int)}(A:I9 fuel p0=some r):Aq J 175 [.slice (some ad) (p0).length c2] E [] (fun w E' B'=>∃(K:Ar) (O:Nat) (g0:Seg),w= .slice K (r).length O∧B'=g0∧OL 3 rI E' K O g0 (r)):=by
 refine Aq.en func175 rfl rfl fun Q am cs H Z aa=>?_;unfold I9 at A;refine zg 8 rfl ?_;refine JL.Y (v:= .bool false) rfl (fun ρ h=>Yl.I2 (a:=(some ad)) underlying28 (h _ _ rfl) (h _ _ rfl)) ?_;refine zg 5 rfl ?_;refine JS.G8 (pp:=rI) rfl rfl rfl underlying28 (Ag type3) Z fun an ao ab ac=>?_;obtain⟨ap,ae,ag⟩:=bs A;refine zg 1 rfl ?_;refine JS.KV (pp:=rI) 1 ae rfl rfl rfl rfl rfl rfl rfl underlying28 underlying28 (Ag type3) (Cs type3) (AO type3) rfl (by decide) (by decide) ab U ac rfl fun ah ai aj ak al=>?_;refine zg 2 rfl ?_;obtain rfl:=oi ag;refine JL.rt func175 rfl rfl ?_;exact aa _ _ _ _ (Le.refl _) rfl ⟨ah,ai,aj,rfl,(by first | rfl | simp | (simp [Value.cells])),ak⟩ al
def Oo(fuel:Nat)(p0:List Int):Option ((List Int)):=
 some ([])
theorem Rn{c2:Nat}{p0:List Int}(aa:Ao rI E none c2 p0){fuel:Nat}{r:(List Int)}(A:Oo fuel p0=some r):Aq J 175 [.slice none (p0).length c2] E [] (fun w E' B'=>∃(K:Ar) (O:Nat) (g0:Seg),w= .slice K (r).length O∧B'=g0∧OL 3 rI E' K O g0 (r)):=by
 refine Aq.en func175 rfl rfl fun Q ab cs H U Z=>?_;unfold Oo at A;refine zg 8 rfl ?_;refine JL.Y (v:= .bool true) rfl (fun ρ h=>Yl.I2 (a:=none) underlying28 (h _ _ rfl) (h _ _ rfl)) ?_;refine zg 6 rfl ?_;obtain rfl:=oi A;refine JL.rt func175 rfl rfl ?_;exact Z _ _ _ _ (Le.refl _) rfl ⟨none,0,[],rfl,rfl,OL.nil⟩ U
def f175(fuel:Nat)(p0:List Int):Option (List Int):=I9 fuel p0
theorem NX{K:Ar}{c2:Nat}{p0:List Int}(O:Ao rI E K c2 p0){fuel:Nat}{r:List Int}(A:f175 fuel p0=some r):Aq J 175 [.slice K p0.length c2] E [] (fun w E' B'=>∃(U:Ar) (Z:Nat) (g0:Seg),w= .slice U r.length Z∧B'=g0∧OL 3 rI E' U Z g0 r):=by
 cases K with
 | some ad=>exact Rh O A
 | none=>
  have aa:p0= []:=by
   rcases O.2 with h | ⟨_,_,h,_⟩
   ·exact h.1
   ·cases h
  subst aa;have ab:r= []:=by
   have ac:I9 fuel []=some []:=rfl;unfold f175 at A;rw [ac] at A;exact(Option.some.inj A).symm
  subst ab;exact Rn (fuel:=fuel) O rfl
end Pal
namespace Pal
open Go Go.Conc Go.Proofs
open Go.Proofs.Tryz
def He(fuel:Nat)(le:Int)(all:List (By))(tr:(By))(K:Int):Option (Int×List (By)):=
 Option.bind (
  if((all).length:Int)=0 then(
   some true
  ) else(
   some (decide (K<le))
  )
 ) fun O=>
 Option.bind (
  if O=true then(
   some (K,[])
  ) else(
   some (le,all)
  )
 ) fun A=>
 Option.bind (
  if K=A.1 then(
   (C7 A.2 ([tr]:List (By))).bind fun U=>
   some U
  ) else(
   some A.2
  )
 ) fun Z=>
 some (A.1,Z)
theorem TA{J:Judge Tryz.prog}{E:LH}{A:Nat}{age:Int}{le:Int}{a:Ar}{c:Nat}{g:Seg}{all:List (By)}(aO:OL 104 Ca E a c g all){aa:Ar}{ab:Nat}{tr:(By)}(aP:Ao rI E aa ab tr.2.1){O:Int}{fuel:Nat}{r:Int×List (By)}(ay:He fuel le all tr O=some r):
  Aq J 122 [.pointer (some ⟨A,1,none⟩),.agg #[iV tr.1,.slice aa tr.2.1.length ab,.int .u16 ((tr.2.2:Nat):Int)],iV O] E ([(A,.cells #[iV age,iV le,.slice a all.length c] 133 (0,0))]++g) (fun w E' B'=>∃az aA g',w= .tuple #[]∧B'= [(A,.cells #[iV age,iV r.1,.slice az r.2.length aA] 133 (0,0))]++g'∧OL 104 Ca E' az aA g' r.2):=by
 refine Aq.en func122 rfl rfl fun Q bl cs H an aQ=>?_;refine JS.split (S':= [[(A,.cells #[iV age,iV le,.slice a all.length c] 133 (0,0))],g]) (by simp) an fun an=>?_;unfold He at ay;refine zg 2 rfl ?_;refine JS.box (v:= .agg #[iV tr.1,.slice aa (tr.2.1).length ab,.int .u16 ((tr.2.2:Nat):Int)]) rfl rfl rfl an rfl fun aB aR=>?_;refine JS.Ba 2 aR rfl fun ao ap aS ah=>?_;refine zg 6 rfl ?_;refine JL.fd underlying97 (Ag type95) rfl rfl rfl ?_;refine JL.Y (v:= .slice a (all).length c) rfl (fun ρ h=>Yl.load (Al underlying95) (h _ _ rfl) (Cw (j:=0) (off:=2) ah rfl rfl)) ?_;refine JL.Y rfl (fun ρ h=>Yl.len rfl underlying95 (h _ _ rfl)) ?_;obtain⟨aC,aD,aT⟩:=bs ay;refine zg 2 rfl ?_;refine JL.BI [] (fun L s=>∃(ac:LH),Jm ao H ac [[(A,.cells #[iV age,iV le,.slice a (all).length c] 133 (0,0))],g] [(0,.pointer (some ⟨A,1,none⟩)),(2,iV O),(4,.pointer (some ⟨aB,0,none⟩)),(19,.bool aC)] L s) ?_ ?_
 ·rintro _ _ ⟨ac,rfl,rfl,ai,aE⟩;obtain⟨K,aF,aU⟩:=bs aT;refine JL.done ?_;refine JL.join (fun L s=>∃(U:LH) (ae:Ar) (ag:Nat) (aj:Seg),Jn ac H U [[(A,.cells #[iV age,iV K.1,.slice ae (K.2).length ag] 133 (0,0))],aj] [(0,.pointer (some ⟨A,1,none⟩)),(2,iV O),(4,.pointer (some ⟨aB,0,none⟩))] L s (OL 104 Ca U ae ag aj (K.2))) ?_ ?_
  ·rintro _ _ ⟨U,ae,ag,aj,rfl,rfl,aq,Z,aG⟩;refine zg 5 rfl ?_;refine JL.fd underlying97 (Ag type3) rfl rfl rfl ?_;refine JL.Y (v:=iV K.1) rfl (fun ρ h=>Yl.load (Al underlying3) (h _ _ rfl) (Cw (j:=0) (off:=1) Z rfl rfl)) ?_;obtain⟨aH,aI,aV⟩:=bs aU;refine zg 2 rfl ?_;refine JL.join (fun L s=>∃(ar:LH) (ak:Ar) (al:Nat) (am:Seg),Jn U H ar [[(A,.cells #[iV age,iV K.1,.slice ak (aH).length al] 133 (0,0))],am] [] L s (OL 104 Ca ar ak al am (aH))) ?_ ?_
   ·rintro _ _ ⟨ar,ak,al,am,rfl,rfl,aW,aX,aY⟩;obtain rfl:=oi aV;refine JL.fin (v:= .tuple #[]) rfl rfl (Bx.list func122 rfl (vs:= []) trivial) ?_;exact aQ _ _ _ _ (((ap.trans ai).trans aq).trans aW) rfl ⟨ak,al,am,rfl,by simp,aY⟩ aX
   ·intro aJ;refine JL.ifs (p:=O=K.1) rfl (fun au=>?_) (fun au=>?_)
    ·have aZ:=ip aI au;refine JG.Ce 8 [A] ⟨⟨0,_,rfl⟩,trivial⟩ Z mixed rfl (by decide+kernel) fun ht=>?_;refine JG.ms ht rfl [0,1,2] rfl ?_;refine JG.fd 3 ht underlying97 (Ag type95) rfl rfl rfl rfl ?_;refine JG.V (v:= .slice ae (K.2).length ag) 4 ht rfl rfl (fun ρ h s' hs=>Yl.load (Al underlying95) (h _ _ rfl) (Bl (o:=2) 0 Z rfl (by simp [AH]) hs rfl)) ?_;refine JG.V 5 ht rfl rfl (fun ρ h s' hs=>Yl.Bs (vs:= [iV tr.1,.slice aa (tr.2.1).length ab,.int .u16 ((tr.2.2:Nat):Int)]) (Al underlying104) (Ag type104) (h _ _ rfl) (At.Ks (aS.mono (ai.trans aq)) (CM Z hs ⟨⟨0,_,rfl⟩,trivial⟩))) ?_;obtain⟨a0,a1,a2⟩:=bs aZ;refine JG.one (i:=6) rfl (by decide+kernel) ?_;refine Take.lit (pp:=Ca) (jp:=0) [.agg #[iV tr.1,.slice aa (tr.2.1).length ab,.int .u16 ((tr.2.2:Nat):Int)]] ([tr]:List (By)) Z rfl rfl rfl rfl underlying95 (Ag type104) (AO type104) (by decide) rfl rfl rfl ⟨⟨_,_,rfl,rfl,⟨_,_,rfl,⟨_,_,rfl,(aP.mono ((ap.trans ai).trans aq))⟩,rfl⟩⟩,trivial⟩ fun bm bn a3 a4=>?_;refine JG.one (i:=7) rfl (by decide+kernel) ?_;refine Take.app (pp:=Ca) (jp:=0) 1 2 a4 rfl a1 rfl rfl rfl rfl rfl rfl rfl underlying95 underlying95 (Ag type104) (Cs type104) (AO type104) rfl (by decide) (by decide) aG a3 rfl rfl rfl rfl fun aK aL bo a5 a6 a7=>?_;refine Av.leaf (tail:= [8,9,10]) (by decide+kernel) (fun t=>A1 (by decide+kernel) (A1 (by decide+kernel) (A1 (by decide+kernel) BM)) t) ?_;refine JS.part 1 rfl a7 fun a8=>?_;refine JS.drop 1 a8 rfl fun a9=>?_;refine zg 1 rfl ?_;refine JL.fd underlying97 (Ag type95) rfl rfl rfl ?_;refine JS.st (v:= .slice aK (a0).length aL) (off:=2) 0 a9 (Ag type95) rfl rfl rfl rfl fun ba=>?_;refine JL.done ?_;refine JS.drop 2 ba rfl fun bb=>?_;obtain rfl:=oi a2;exact JL.kw (aJ _ _ ⟨U,aK,aL,a5,rfl,rfl,(Le.refl _),bb,a6⟩) rfl
    ·have bc:=im aI au;refine JL.skip ?_;obtain rfl:=oi bc;exact JL.kw (aJ _ _ ⟨U,ae,ag,aj,rfl,rfl,(Le.refl _),Z,aG⟩) rfl
  ·intro aM;refine JL.split (t:=aC) rfl (fun av=>?_) (fun av=>?_)
   ·have bd:=ip aF av;refine zg 5 rfl ?_;refine JL.fd underlying97 (Ag type3) rfl rfl rfl ?_;refine JS.st (v:=iV O) (off:=1) 0 aE (Ag type3) rfl rfl rfl rfl fun bf=>?_;refine zg 1 rfl ?_;refine JL.fd underlying97 (Ag type95) rfl rfl rfl ?_;refine JS.st (v:= .slice none 0 0) (off:=2) 0 bf (Ag type95) rfl rfl rfl rfl fun bg=>?_;refine JL.done ?_;refine JS.drop 1 bg rfl fun bh=>?_;obtain rfl:=oi bd;exact JL.kw (aM _ _ ⟨ac,none,0,[],rfl,rfl,(Le.refl _),bh,OL.nil⟩) rfl
   ·have bi:=ib aF av;refine JL.skip ?_;obtain rfl:=oi bi;exact JL.kw (aM _ _ ⟨ac,a,c,g,rfl,rfl,(Le.refl _),aE,(aO.mono (ap.trans ai))⟩) rfl
 ·intro aN;refine JL.BW (q:=((all).length:Int)=0) (i:=12) rfl (fun aw=>?_) (fun aw=>?_)
  ·have bj:=ip aD aw;refine zg 7 rfl ?_;obtain rfl:=oi bj;exact JL.kw (aN _ _ ⟨ao,rfl,rfl,(Le.refl _),ah⟩) rfl
  ·have bk:=im aD aw;refine zg 3 rfl ?_;refine JL.fd underlying97 (Ag type3) rfl rfl rfl ?_;refine JL.Y (v:=iV le) rfl (fun ρ h=>Yl.load (Al underlying3) (h _ _ rfl) (Cw (j:=0) (off:=1) ah rfl rfl)) ?_;refine zg 2 rfl ?_;obtain rfl:=oi bk;exact JL.kw (aN _ _ ⟨ao,rfl,rfl,(Le.refl _),ah⟩) rfl
theorem SM{J:Judge Tryz.prog}{E:LH}{A:Nat}{age:Int}{le:Int}{a:Ar}{c:Nat}{g:Seg}{all:List (By)}(aO:OL 104 Ca E a c g all){aa:Ar}{ab:Nat}{tr:(By)}(aP:Ao rI E aa ab tr.2.1){O:Int}{fuel:Nat}{r:Int×List (By)}(ay:He fuel le all tr O=some r):
  Aq J 122 [.pointer (some ⟨A,0,none⟩),.agg #[iV tr.1,.slice aa tr.2.1.length ab,.int .u16 ((tr.2.2:Nat):Int)],iV O] E ([(A,.cells #[iV le,.slice a all.length c] 97 (0,0))]++g) (fun w E' B'=>∃az aA g',w= .tuple #[]∧B'= [(A,.cells #[iV r.1,.slice az r.2.length aA] 97 (0,0))]++g'∧OL 104 Ca E' az aA g' r.2):=by
 refine Aq.en func122 rfl rfl fun Q bl cs H an aQ=>?_;refine JS.split (S':= [[(A,.cells #[iV le,.slice a all.length c] 97 (0,0))],g]) (by simp) an fun an=>?_;unfold He at ay;refine zg 2 rfl ?_;refine JS.box (v:= .agg #[iV tr.1,.slice aa (tr.2.1).length ab,.int .u16 ((tr.2.2:Nat):Int)]) rfl rfl rfl an rfl fun aB aR=>?_;refine JS.Ba 2 aR rfl fun ao ap aS ah=>?_;refine zg 6 rfl ?_;refine JL.fd underlying97 (Ag type95) rfl rfl rfl ?_;refine JL.Y (v:= .slice a (all).length c) rfl (fun ρ h=>Yl.load (Al underlying95) (h _ _ rfl) (Cw (j:=0) (off:=1) ah rfl rfl)) ?_;refine JL.Y rfl (fun ρ h=>Yl.len rfl underlying95 (h _ _ rfl)) ?_;obtain⟨aC,aD,aT⟩:=bs ay;refine zg 2 rfl ?_;refine JL.BI [] (fun L s=>∃(ac:LH),Jm ao H ac [[(A,.cells #[iV le,.slice a (all).length c] 97 (0,0))],g] [(0,.pointer (some ⟨A,0,none⟩)),(2,iV O),(4,.pointer (some ⟨aB,0,none⟩)),(19,.bool aC)] L s) ?_ ?_
 ·rintro _ _ ⟨ac,rfl,rfl,ai,aE⟩;obtain⟨K,aF,aU⟩:=bs aT;refine JL.done ?_;refine JL.join (fun L s=>∃(U:LH) (ae:Ar) (ag:Nat) (aj:Seg),Jn ac H U [[(A,.cells #[iV K.1,.slice ae (K.2).length ag] 97 (0,0))],aj] [(0,.pointer (some ⟨A,0,none⟩)),(2,iV O),(4,.pointer (some ⟨aB,0,none⟩))] L s (OL 104 Ca U ae ag aj (K.2))) ?_ ?_
  ·rintro _ _ ⟨U,ae,ag,aj,rfl,rfl,aq,Z,aG⟩;refine zg 5 rfl ?_;refine JL.fd underlying97 (Ag type3) rfl rfl rfl ?_;refine JL.Y (v:=iV K.1) rfl (fun ρ h=>Yl.load (Al underlying3) (h _ _ rfl) (Cw (j:=0) (off:=0) Z rfl rfl)) ?_;obtain⟨aH,aI,aV⟩:=bs aU;refine zg 2 rfl ?_;refine JL.join (fun L s=>∃(ar:LH) (ak:Ar) (al:Nat) (am:Seg),Jn U H ar [[(A,.cells #[iV K.1,.slice ak (aH).length al] 97 (0,0))],am] [] L s (OL 104 Ca ar ak al am (aH))) ?_ ?_
   ·rintro _ _ ⟨ar,ak,al,am,rfl,rfl,aW,aX,aY⟩;obtain rfl:=oi aV;refine JL.fin (v:= .tuple #[]) rfl rfl (Bx.list func122 rfl (vs:= []) trivial) ?_;exact aQ _ _ _ _ (((ap.trans ai).trans aq).trans aW) rfl ⟨ak,al,am,rfl,by simp,aY⟩ aX
   ·intro aJ;refine JL.ifs (p:=O=K.1) rfl (fun au=>?_) (fun au=>?_)
    ·have aZ:=ip aI au;refine JG.Ce 8 [A] ⟨⟨0,_,rfl⟩,trivial⟩ Z mixed rfl (by decide+kernel) fun ht=>?_;refine JG.ms ht rfl [0,1,2] rfl ?_;refine JG.fd 3 ht underlying97 (Ag type95) rfl rfl rfl rfl ?_;refine JG.V (v:= .slice ae (K.2).length ag) 4 ht rfl rfl (fun ρ h s' hs=>Yl.load (Al underlying95) (h _ _ rfl) (Bl (o:=1) 0 Z rfl (by simp [AH]) hs rfl)) ?_;refine JG.V 5 ht rfl rfl (fun ρ h s' hs=>Yl.Bs (vs:= [iV tr.1,.slice aa (tr.2.1).length ab,.int .u16 ((tr.2.2:Nat):Int)]) (Al underlying104) (Ag type104) (h _ _ rfl) (At.Ks (aS.mono (ai.trans aq)) (CM Z hs ⟨⟨0,_,rfl⟩,trivial⟩))) ?_;obtain⟨a0,a1,a2⟩:=bs aZ;refine JG.one (i:=6) rfl (by decide+kernel) ?_;refine Take.lit (pp:=Ca) (jp:=0) [.agg #[iV tr.1,.slice aa (tr.2.1).length ab,.int .u16 ((tr.2.2:Nat):Int)]] ([tr]:List (By)) Z rfl rfl rfl rfl underlying95 (Ag type104) (AO type104) (by decide) rfl rfl rfl ⟨⟨_,_,rfl,rfl,⟨_,_,rfl,⟨_,_,rfl,(aP.mono ((ap.trans ai).trans aq))⟩,rfl⟩⟩,trivial⟩ fun bm bn a3 a4=>?_;refine JG.one (i:=7) rfl (by decide+kernel) ?_;refine Take.app (pp:=Ca) (jp:=0) 1 2 a4 rfl a1 rfl rfl rfl rfl rfl rfl rfl underlying95 underlying95 (Ag type104) (Cs type104) (AO type104) rfl (by decide) (by decide) aG a3 rfl rfl rfl rfl fun aK aL bo a5 a6 a7=>?_;refine Av.leaf (tail:= [8,9,10]) (by decide+kernel) (fun t=>A1 (by decide+kernel) (A1 (by decide+kernel) (A1 (by decide+kernel) BM)) t) ?_;refine JS.part 1 rfl a7 fun a8=>?_;refine JS.drop 1 a8 rfl fun a9=>?_;refine zg 1 rfl ?_;refine JL.fd underlying97 (Ag type95) rfl rfl rfl ?_;refine JS.st (v:= .slice aK (a0).length aL) (off:=1) 0 a9 (Ag type95) rfl rfl rfl rfl fun ba=>?_;refine JL.done ?_;refine JS.drop 2 ba rfl fun bb=>?_;obtain rfl:=oi a2;exact JL.kw (aJ _ _ ⟨U,aK,aL,a5,rfl,rfl,(Le.refl _),bb,a6⟩) rfl
    ·have bc:=im aI au;refine JL.skip ?_;obtain rfl:=oi bc;exact JL.kw (aJ _ _ ⟨U,ae,ag,aj,rfl,rfl,(Le.refl _),Z,aG⟩) rfl
  ·intro aM;refine JL.split (t:=aC) rfl (fun av=>?_) (fun av=>?_)
   ·have bd:=ip aF av;refine zg 5 rfl ?_;refine JL.fd underlying97 (Ag type3) rfl rfl rfl ?_;refine JS.st (v:=iV O) (off:=0) 0 aE (Ag type3) rfl rfl rfl rfl fun bf=>?_;refine zg 1 rfl ?_;refine JL.fd underlying97 (Ag type95) rfl rfl rfl ?_;refine JS.st (v:= .slice none 0 0) (off:=1) 0 bf (Ag type95) rfl rfl rfl rfl fun bg=>?_;refine JL.done ?_;refine JS.drop 1 bg rfl fun bh=>?_;obtain rfl:=oi bd;exact JL.kw (aM _ _ ⟨ac,none,0,[],rfl,rfl,(Le.refl _),bh,OL.nil⟩) rfl
   ·have bi:=ib aF av;refine JL.skip ?_;obtain rfl:=oi bi;exact JL.kw (aM _ _ ⟨ac,a,c,g,rfl,rfl,(Le.refl _),aE,(aO.mono (ap.trans ai))⟩) rfl
 ·intro aN;refine JL.BW (q:=((all).length:Int)=0) (i:=12) rfl (fun aw=>?_) (fun aw=>?_)
  ·have bj:=ip aD aw;refine zg 7 rfl ?_;obtain rfl:=oi bj;exact JL.kw (aN _ _ ⟨ao,rfl,rfl,(Le.refl _),ah⟩) rfl
  ·have bk:=im aD aw;refine zg 3 rfl ?_;refine JL.fd underlying97 (Ag type3) rfl rfl rfl ?_;refine JL.Y (v:=iV le) rfl (fun ρ h=>Yl.load (Al underlying3) (h _ _ rfl) (Cw (j:=0) (off:=0) ah rfl rfl)) ?_;refine zg 2 rfl ?_;obtain rfl:=oi bk;exact JL.kw (aN _ _ ⟨ao,rfl,rfl,(Le.refl _),ah⟩) rfl
end Pal
