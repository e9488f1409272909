/- ToothChecks. Part 3 of 8. -/
import Derived.Test.YtboibffcmhheiaaGreatDoorTka
import Derived.Test.YtboibffcmhheiaaGreatDoorTkb
import Derived.Test.YtboibffcmhheiaaGreatDoorRows
import Derived.Test.YtboibffcmhheiaaGreatDoorChecked
import Derived.Conc.LeavingOf
import Derived.Conc.Holds
import Derived.Carry
import Derived.ChangeSame
import Derived.ChangeVars
import Derived.JoinedOf
import Derived.RowKit
import Derived.LaidLaws
import Derived.LaidHandle
import Derived.Stop.Joined
import Derived.Test.YtboibffcmhheiaaGreatDoorProg
import Derived.ProofKit
set_option linter.all false
set_option maxRecDepth 100000
namespace Pal
open Go Go.Conc
section
variable {P:Program}(J:Judge P)(Q:Goroutine→St→Prop)(b:Frame)(ds:List Deferred)(ops:Array Oper)(k:List Item)(cs:List Frame)(X D:Nat→Bool)
def JB:Nat→Array Bool→Array Value→St→Prop
 | 0,listed,T,s=>Region.ready .any ops listed= []∧J.ok Q (G (fr b T ds (.inRegion ops []::k)) cs) s
 | fuel+1,listed,T,s=>
  Region.ready .any ops listed≠ []∧s.q=false∧∀i∈Region.ready .any ops listed,∀o,ops[i]? =some o→(∀c,o.op≠ .defer c)∧
   (Region.wanted o (yielded ops T)=false→JB fuel (AF listed i) (Bv T o.dst undef) s)∧
   (Region.wanted o (yielded ops T)=true→X i=true→lp P (execOp (AY T) o) s (fun nx s'=>match nx with
    | .value v=>JB fuel (AF listed i) (Bv T o.dst v) s'
    | .skip=>JB fuel (AF listed i) (Bv T o.dst undef) s'
    | _=>False) (fun _ _=>False))∧
   (Region.wanted o (yielded ops T)=true→X i=false→lp P (execOp (AY T) o) (AV D s) (fun nx s'=>match nx with
    | .value v=>JB fuel (AF listed i) (Bv T o.dst v) (Bu D s s')
    | .skip=>JB fuel (AF listed i) (Bv T o.dst undef) (Bu D s s')
    | _=>False) (fun _ _=>False))
variable {J Q b ds ops k cs X D}
theorem Sg(V:b.kind≠ .early):∀(fuel t:Nat) (listed:Array Bool) (T:Array Value) (s:St),JB J Q b ds ops k cs X D fuel listed T s→
  J.ok Q (G (fr b T ds (.inRegion ops (Region.linearise.go .any ops fuel t listed [])::k)) cs) s:=by
 intro fuel
 induction fuel with
 | zero=>intro t listed T s h;simpa [Region.linearise.go] using h.2
 | succ fuel O=>
  intro t listed T s h;obtain⟨ab,ac,h⟩:=h;obtain⟨i,hi⟩:∃i,(Region.ready .any ops listed)[t % (Region.ready .any ops listed).length]? =some i:=by
   have:0<(Region.ready .any ops listed).length:=List.length_pos_iff.2 ab;exact⟨_,List.getElem?_eq_getElem (Nat.mod_lt _ this)⟩
  have Y:=List.mem_of_getElem? hi;have hgo:Region.linearise.go .any ops (fuel+1) t listed []=i::Region.linearise.go .any ops fuel (t / (Region.ready .any ops listed).length) (AF listed i) []:=by
   simp only [Region.linearise.go];change (match(Region.ready .any ops listed)[t % (Region.ready .any ops listed).length]? with
    | some i=>Region.linearise.go .any ops fuel (t / (Region.ready .any ops listed).length) (listed.setIfInBounds i true) [i]
    | none=> [].reverse)=_
   rw [hi];simp only;rw [linearise_go_acc];rfl
  rw [hgo];obtain⟨_,o,U,_⟩:=mem_ready.1 Y;obtain⟨Z,ae,ag,ah⟩:=h i Y o U;cases hw:Region.wanted o (yielded ops T) with
  | false=>exact Judge.unwanted U hw (O _ _ _ _ (ae hw))
  | true=>
   cases aa:X i with
   | true=>
    refine Judge.oper U hw V (.inr Z) (BS _ (ag hw aa) ?_ (fun _ _ h=>h.elim));intro nx s' K;cases nx with
    | value v=>exact O _ _ _ _ K
    | skip=>exact O _ _ _ _ K
    | _=>exact K.elim
   | false=>
    refine Judge.OH D U hw V Z ac (BS _ (ah hw aa) ?_ (fun _ _ h=>h));intro nx s' K;cases nx with
    | value v=>exact O _ _ _ _ K
    | skip=>exact O _ _ _ _ K
    | _=>exact K.elim
def waitAll(ops:Array Oper)(X:Nat→Bool)(i:Nat):Bool:=(List.range ops.size).all fun j=> !X j || waits ops ops.size j i
theorem JB.take{i:Nat}{oi:Oper}{w pure:Bool}{v:Value}(hi:ops[i]? =some oi)(aU:X i=false)(aL:(pure || waitAll ops X i)=true)(aV:Region.noSelect ops=true)(aW:∀c,oi.op≠ .defer c):
  ∀(fuel:Nat) (listed:Array Bool) (T:Array Value) (s:St),FL ops listed i oi=true→EK ops listed=true→listed.size=ops.size→i∈Region.ready .any ops listed→s.q=false→Region.wanted oi (yielded ops T)=w→
   (w=true→∀s',s'.q=false→(pure=false→∀x o,(AV D s).E x=some o→s'.E x=some o)→Yl P oi (AY T) s' v)→
   JB J Q b ds ops k cs X D fuel (AF listed i) (Bv T oi.dst (if w then v else undef)) s→JB J Q b ds ops k cs X D (fuel+1) listed T s:=by
 have ab:∀(j:Nat) (Y:Oper),ops[j]? =some Y→∀cs b,Y.op≠Op.select cs b:=fun j Y h cs b=>Region.noSelect_spec aV j Y cs b h;intro fuel
 induction fuel with
 | zero=>?_
 | succ fuel ai=>?_
 all_goals
  intro listed T s aM aN aj az ak hw ac h;refine⟨fun e=>(by rw [e] at az;cases az),ak,fun j aO Y O=>?_⟩;by_cases al:j=i
  ·subst al;obtain rfl:Y=oi:=by rw [hi] at O;exact(Option.some.inj O).symm
   refine⟨aW,fun aC=>?_,fun ae K=>?_,fun ae K=>?_⟩
   ·rw [aC] at hw;subst hw;exact h
   ·rw [aU] at K;cases K
   ·rw [ae] at hw;subst hw;refine BS _ (ac rfl (AV D s) ak fun _ _ _ h=>h).out ?_ (fun _ _ h=>h);rintro nx s' ⟨rfl,rfl⟩;rw [HP];exact h
  ·
   have aP:j∈Region.ready .any ops (AF listed i):=ready_mono aO al;obtain⟨ag,U,aQ,aD⟩:=mem_ready.1 aO;obtain rfl:U=Y:=by rw [O] at aQ;exact(Option.some.inj aQ).symm
   have aE:=(mem_ready.1 az).1;have aX:(U.after.any fun e=>Region.binds .any e&&e.on==i)=false:=by
    rw [Array.any_eq_false];intro e he K;simp only [Bool.and_eq_true,beq_iff_eq] at K;have:=aD _ (Array.getElem_mem he) K.1;rw [K.2] at this;have ah:listed.getD i true=listed.getD i false∨listed.size≤i:=by
     rcases Nat.lt_or_ge i listed.size with q | q
     ·left;simp [Array.getD_eq_getD_getElem?,q]
     ·exact .inr q
    rcases ah with ah | ah
    ·rw [aE,this] at ah;cases ah
    ·rw [Array.getD_eq_getD_getElem?,Array.getElem?_eq_none ah] at this;simp at this
   have aY:oi.apart ops U=true:=by
    have aF:j<ops.size:=(Array.getElem?_eq_some_iff.1 O).1;have:=List.all_eq_true.1 aM j (List.mem_range.2 aF);simp only [Bool.or_eq_true,beq_iff_eq] at this;rcases this with(q | q) | q
    ·exact absurd q al
    ·rw [ag] at q;cases q
    ·rw [O] at q;simp only [Bool.or_eq_true] at q;rw [aX] at q;exact q.resolve_left (by simp)
   obtain⟨a1,am,an⟩:=Oper.apart_spec aY;obtain⟨p1,p2⟩:=EE (ops:=ops) (T:=T) (v:=if w then v else undef) (ab j U O) a1
   first
    | exact absurd aP (by rw [h.1];simp)
    | (
     obtain⟨bc,_,h⟩:=h
     obtain⟨aZ,aC,a0,a2⟩:=h j aP U O
     have ao:AF (AF listed i) j=AF (AF listed j) i:=by
      unfold AF;exact Array.setIfInBounds_comm _ _ (Ne.symm al)
     have ap:i∈Region.ready .any ops (AF listed j):=ready_mono az (Ne.symm al)
     have aq:FL ops (AF listed j) i oi=true:=by
      refine List.all_eq_true.2 fun x K=>?_
      have:=List.all_eq_true.1 aM x K
      simp only [Bool.or_eq_true,beq_iff_eq] at this ⊢
      rcases this with(q | q) | q
      ·exact .inl (.inl q)
      ·left;right
       by_cases e:j=x
       ·subst e;rw [ag] at q;cases q
       ·rw [AF,getD_set_ne true e];exact q
      ·exact .inr q
     have ar:(AF listed j).size=ops.size:=by unfold AF;simpa using aj
     have au:EK ops (AF listed j)=true:=by
      refine List.all_eq_true.2 fun x K=>?_
      cases aG:ops[x]? with
      | none=>simp
      | some a3=>
       simp only [Bool.or_eq_true,Bool.not_eq_true']
       by_cases e:j=x
       ·subst e
        obtain rfl:a3=U:=by rw [O] at aG;exact(Option.some.inj aG).symm
        right
        refine Array.all_eq_true'.2 fun e he=>?_
        cases hb:Region.binds .any e with
        | false=>simp
        | true=>
         have:=aD e he hb
         by_cases av:j=e.on
         ·rw [← av] at this
          have aH:j<listed.size:=by rw [aj];exact(Array.getElem?_eq_some_iff.1 O).1
          simp [Array.getD_eq_getD_getElem?,aH] at this ag
          rw [ag] at this;cases this
         ·rw [AF,getD_set_ne false av];simpa using this
       ·cases aR:(AF listed j).getD x false with
        | false=>exact .inl rfl
        | true=>
         right
         have a5:listed.getD x false=true:=by rw [AF,getD_set_ne false e] at aR;exact aR
         refine Array.all_eq_true'.2 fun aI he=>?_
         cases hb:Region.binds .any aI with
         | false=>simp
         | true=>
          have:=Lb aN aG a5 aI he hb
          by_cases av:j=aI.on
          ·rw [← av] at this
           have aH:j<listed.size:=by rw [aj];exact(Array.getElem?_eq_some_iff.1 O).1
           simp [Array.getD_eq_getD_getElem?,aH] at this ag
           rw [ag] at this;cases this
          ·rw [AF,getD_set_ne false av];simpa using this
     refine⟨aZ,fun a6=>?_,fun aJ aA=>?_,fun aJ aA=>?_⟩
     ·have:=aC (by rw [p2];exact a6)
      rw [ao,FC am] at this
      obtain⟨q1,q2⟩:=EE (ops:=ops) (T:=T) (d:=U.dst) (v:=undef) (o:=oi) (ab i oi hi) an
      exact ai _ _ _ aq au ar ap ak (by rw [q2];exact hw) (fun V s' a8 aB=>by unfold Yl;rw [q1];exact(ac V s' a8 aB).out) this
     ·
      have a9:pure=true:=by
       cases ba:pure with
       | true=>rfl
       | false=>
        exfalso
        rw [ba,Bool.false_or] at aL
        have aF:j<ops.size:=(Array.getElem?_eq_some_iff.1 O).1
        have ae:=List.all_eq_true.1 aL j (List.mem_range.2 aF)
        rw [aA] at ae
        simp only [Bool.not_true,Bool.false_or] at ae
        rcases MH aN _ j U O (fun e he hb=>aD e he hb) ae with q | ⟨x,q1,q2⟩
        ·have bb:i<listed.size:=by rw [aj];exact(Array.getElem?_eq_some_iff.1 hi).1
         simp [Array.getD_eq_getD_getElem?,bb] at q aE
         rw [aE] at q;cases q
        ·have:¬x<listed.size:=by rw [aj];intro K;simp [K] at q1
         simp [Array.getD_eq_getD_getElem?,this] at q2
      have aw:=Kn _ (a0 (by rw [p2];exact aJ) aA)
      rw [p1] at aw
      refine BS _ aw ?_ (fun _ _ h=>h)
      rintro nx s' ⟨K,aB,aK⟩
      have ay:s'.q=false:=aK.trans ak
      have aS:pure=false→∀{α:Prop},α:=fun e=>by rw [a9] at e;cases e
      cases nx with
      | value u=>
       simp only at K ⊢
       rw [ao,FC am] at K
       obtain⟨q1,q2⟩:=EE (ops:=ops) (T:=T) (d:=U.dst) (v:=u) (o:=oi) (ab i oi hi) an
       exact ai _ _ _ aq au ar ap ay (by rw [q2];exact hw) (fun V s2 Z aa=>by unfold Yl;rw [q1];exact(ac V s2 Z (fun e=>aS e)).out) K
      | skip=>
       simp only at K ⊢
       rw [ao,FC am] at K
       obtain⟨q1,q2⟩:=EE (ops:=ops) (T:=T) (d:=U.dst) (v:=undef) (o:=oi) (ab i oi hi) an
       exact ai _ _ _ aq au ar ap ay (by rw [q2];exact hw) (fun V s2 Z aa=>by unfold Yl;rw [q1];exact(ac V s2 Z (fun e=>aS e)).out) K
      | _=>exact K.elim
     ·have aw:=Kn _ (a2 (by rw [p2];exact aJ) aA)
      rw [p1] at aw
      refine BS _ aw ?_ (fun _ _ h=>h)
      rintro nx s' ⟨K,aB,aK⟩
      have aT:=MK (D:=D) aB
      have ay:(Bu D s s').q=false:=by show s'.q=false;rw [aK];exact ak
      cases nx with
      | value u=>
       simp only at K ⊢
       rw [ao,FC am] at K
       obtain⟨q1,q2⟩:=EE (ops:=ops) (T:=T) (d:=U.dst) (v:=u) (o:=oi) (ab i oi hi) an
       exact ai _ _ _ aq au ar ap ay (by rw [q2];exact hw) (fun V s2 Z aa=>by unfold Yl;rw [q1];exact(ac V s2 Z (fun e=>by rw [aT] at aa;exact aa e)).out) K
      | skip=>
       simp only at K ⊢
       rw [ao,FC am] at K
       obtain⟨q1,q2⟩:=EE (ops:=ops) (T:=T) (d:=U.dst) (v:=undef) (o:=oi) (ab i oi hi) an
       exact ai _ _ _ aq au ar ap ay (by rw [q2];exact hw) (fun V s2 Z aa=>by unfold Yl;rw [q1];exact(ac V s2 Z (fun e=>by rw [aT] at aa;exact aa e)).out) K
      | _=>exact K.elim)
end
section
variable {P:Program}(J:Judge P)(Q:Goroutine→St→Prop)(b:Frame)(n:Nat)(ds:List Deferred)(ops:Array Oper)(k:List Item)(cs:List Frame)(X D:Nat→Bool)
def Fy(fuel:Nat)(listed:Array Bool)(L:Env)(s:St):Prop:=∀T,Has n L T→JB J Q b ds ops k cs X D fuel listed T s
end
def Kq(ops:Array Oper)(listed:Array Bool)(xs:List Nat)(pure:Bool)(i:Nat):Bool:=match ops[i]? with
 | some oi=> !Ak xs i&&(pure || waitAll ops (Ak xs) i)&&Region.noSelect ops&& !B5 oi.op&&FL ops listed i oi&&EK ops listed&&listed.size==ops.size&&(Region.ready .any ops listed).contains i
 | none=>false
section
variable {P:Program}{J:Judge P}{Q:Goroutine→St→Prop}{b:Frame}{n:Nat}{ds:List Deferred}{ops:Array Oper}{k:List Item}{cs:List Frame}{fuel:Nat}{X D:Nat→Bool}{listed:Array Bool}{L:Env}{s:St}{E H:LH}{S:List Seg}{xl bks:List Nat}
variable {d:Option Tmp}{x y:Operand}{t u ty e:TypeId}{p:String}{af:Array Edge}{g:Option (Nat×Bool)}{v:Value}{i:Nat}{kd:IntKind}
theorem EG(xl bks:List Nat){id:Nat}(hm:P.follows .mixedOrders=true)(K:(b.kind != .early)=true)
  (h:Fy J Q b n ds ops k cs (Ak xl) (Ak bks) ops.size (Array.replicate ops.size false) L (mkS E H S)):JL J Q b n L ds (.code (.region id ops true)::k) cs (mkS E H S):=
 Om rfl hm fun t T O=>Sg (by simpa using K) ops.size t _ T _ (h T O)
theorem Ci{oi:Oper}(i:Nat)(pure:Bool)(hi:ops[i]? =some oi)(K:Kq ops listed xl pure i=true)(V:s.q=false)
  (hw:Az L ops oi=some true) (Y:AQ n oi.dst=true) (Z:∀ρ,CN L ρ→∀s':St,(pure=false→∀x o,(AV D s).E x=some o→s'.E x=some o)→Yl P oi ρ s' v)
  (h:Fy J Q b n ds ops k cs (Ak xl) D fuel (AF listed i) (Aj L oi.dst v) s):Fy J Q b n ds ops k cs (Ak xl) D (fuel+1) listed L s:=fun T O=>by
 simp only [Kq,hi,Bool.and_eq_true] at K
 obtain⟨⟨⟨⟨⟨⟨⟨aa,ab⟩,h3⟩,U⟩,ac⟩,h6⟩,ae⟩,ag⟩:=K
 refine JB.take (w:=true) (v:=v) (pure:=pure) hi (by simpa using aa) ab h3 (fun c K=>by rw [K] at U;simp [B5] at U) fuel listed T s ac h6 (by simpa using ae) (by simpa using ag) V (BF O hw) (fun _ s' ai ah=>Z _ O.Ee s' ah) ?_
 exact h _ (O.put Y v)
theorem JB.fin(K:Region.ready .any ops listed= [])(h:JL J Q b n L ds k cs s):Fy J Q b n ds ops k cs X D 0 listed L s:=fun T O=>⟨K,JL.done h T O⟩
theorem JB.store{K off:Nat}{c:Array Value}(i j:Nat)(V:Region.ready .any ops listed= [i])(ab:Ak xl i=true)(ac:ops[i]? =some ⟨d,.store t x y,ty,p,af,g⟩)(hw:Az L ops ⟨d,.store t x y,ty,p,af,g⟩=some true)(ae:AQ n d=true)(hN:NdS E H S)
  (ag:ev L x=some (.pointer (some ⟨K,off,none⟩))) (ah:ev L y=some v) (ai:A0 P t=some v.cells.size) (aj:∀u∈v.cells.toList,Ba u=true) (Y:S[j]? =some [(K,.cells c e (0,0))]) (hle:off+v.cells.size≤c.size)
  (h:NdS E H (S.set j [(K,.cells (AJ c off v.cells.toList) e (0,0))])→Fy J Q b n ds ops k cs (Ak xl) D fuel (AF listed i) (Aj L d undef) (mkS E H (S.set j [(K,.cells (AJ c off v.cells.toList) e (0,0))]))):
  Fy J Q b n ds ops k cs (Ak xl) D (fuel+1) listed L (mkS E H S):=fun T O=>by
 refine⟨by rw [V];simp,rfl,fun aq U o' Z=>?_⟩
 rw [V] at U
 simp at U
 subst U
 obtain rfl:o'=⟨d,.store t x y,ty,p,af,g⟩:=by rw [ac] at Z;exact(Option.some.inj Z).symm
 have ak:=BF O hw;refine⟨fun c al=>(by cases al),fun e=>?_,fun _ _=>?_,fun _ e=>?_⟩
 ·rw [ak] at e;cases e
 ·obtain⟨am,an⟩:=D8 hN Y;rw [am];show lp P (do Instr.storeAt t (AY T x) (AY T y);pure Next.skip) _ _ _
  rw [O.ev ag,O.ev ah];refine Ah _ _ ?_;unfold Instr.storeAt;simp only [Instr.sureAddr,bind,Sem.bind,pure];refine K8 (pl:=(S.set j []).flatten.length) ai aj an (c:=c) (e:=e) (by simp) hle fun aa=>?_;have ao:((S.set j []).flatten++ [(K,Obj.cells c e (0,0))]).set (S.set j []).flatten.length (K,.cells (AJ c off v.cells.toList) e (0,0))=(S.set j []).flatten++ [(K,.cells (AJ c off v.cells.toList) e (0,0))]:=FH _ _ _ _;rw [ao] at aa ⊢;obtain⟨h3,ap⟩:=Fh Y aa;rw [h3];exact h ap _ (O.put ae undef)
 ·rw [ab] at e;cases e
end
end Pal
namespace Pal
open Go Go.Conc
theorem Ry{E H:LH}{S:List Seg}{bks:List Nat}{K o:Nat}{l ws:List Value}{e:TypeId}{f:Nat×Nat}{s':St}{w:Value}(j:Nat)(hN:NdS E H S)(O:S[j]? =some [(K,.cells (l++ws).toArray e f)])(hD:Ak bks K=true)(hs:∀x o,(AV (Ak bks) (mkS E H S)).E x=some o→s'.E x=some o)(U:ws[o]? =some w):s'.cell? ⟨K,l.length+o,none⟩=some w:=by
 have:=Lp j hN O hD hs o w U
 rwa [AS rfl] at this
section
variable {P:Program}{E H:LH}{B:List (Nat×Obj)}{t e ty:TypeId}
theorem Qm{ats:Array TypeId}{a:Option Addr}{l K O m cx:Nat}{ax:Option Addr}{xs ys:List Value}{z:Value}{Q:Value→St→Prop}{X:Halt→St→Prop}
  (al:ats[0]? =some t) {t1 am:TypeId} (an:ats[1]? =some t1) (ao:P.underlying t1=some (.slice am)) (ht:P.underlying t=some (.slice e)) (ap:A0 P e=some K) (hb:C6 P e=some O) (aq:zeroOf P e=some z) (ar:z.cells.size=K)
  (hN:Nd E H B) (ab:EM (mk E H B) (.slice a l l) K xs)
  (Y:EM (mk E H B) (.slice ax m cx) K ys) (aD:∀w∈ys,Ba w=true) (aE:0<O) (aF:l+m≤2 ^ 40) (au:O≤64)
  (aj:m=0→Q (.slice a (l+m) l) (mk E H B))
  (av:∀r Z ac,l+m≤ac→Z.size=ac*K→Z.toList.take ((l+m)*K)=xs++ys→Nd E H (B++ [(r,.cells Z e (0,0))])→Q (.slice (some ⟨r,0,none⟩) (l+m) ac) (mk E H (B++ [(r,.cells Z e (0,0))]))):
  lp P (Builtin.append_ ats ty #[.slice a l l,.slice ax m cx]) (mk E H B) Q X:=by
 unfold Builtin.append_;simp only [al,an,List.getElem?_toArray,List.getElem?_cons_zero,List.getElem?_cons_succ];refine Ah _ _ (BM ht ?_);refine Ah _ _ (Da ap ?_);refine Ah _ _ (BM ao ?_);simp only [Fa,Bool.false_eq_true,if_false,Builtin.lenOf,Bool.not_false,if_true];have aa:ys.length=m*K:=by
  cases ax with
  | none=>obtain⟨U,V⟩:=Y;subst U V;simp
  | some ad=>exact Y.2.1
 have ae:xs.length=l*K:=by
  cases a with
  | none=>obtain⟨U,V⟩:=ab;subst U V;simp
  | some ad=>exact ab.2.1
 obtain⟨c,aG⟩:∃c,c=l:=⟨_,rfl⟩;split
 ·rename_i aH;have hm:m=0:=by omega
  have aw:ys= []:=List.eq_nil_of_length_eq_zero (by rw [aa,hm];simp);refine Ah _ _ (GW ⟨ax,cx,rfl⟩ Y ?_);subst aw;cases a with
  | none=>exact aj hm
  | some ad=>exact aj hm
 ·rename_i aI;have U:¬(((l+m:Nat):Int)>IntKind.i64.max∧(False∨O=0)):=by rintro⟨_,h | h⟩ <;> omega
  have V:¬(Builtin.nextslicecap (l+m) l*O>2 ^ 48):=by
   have:=MR (need:=l+m) (old:=l) (by omega);have h3:Builtin.nextslicecap (l+m) l*O≤(2*(l+m)+768)*64:=Nat.mul_le_mul this au;omega
  obtain⟨inf,ag,ah⟩:=I1 hb;refine Ah _ _ (F4 ag ?_);rw [ah,if_neg U];refine Ah _ _ (F4 ag ?_);rw [ah,if_neg V];refine Ah _ _ ?_;simp only [choose,lp,Question.forced,Bool.false_eq_true,if_false];refine⟨rfl,fun ay=>?_⟩;generalize az:(Question.appendCap (l+m) l e).cut ay=ai;have aA:l+m≤ai:=by rw [← az];simp [Question.cut]
  refine Ah _ _ (F4 ag ?_);rw [ah];have aB:∀{α:Type} {f:Unit→Sem α} {Q:α→St→Prop},lp P (f ()) (mk E H B) Q X→lp P (askRoom (ai*O)>>=f) (mk E H B) Q X:=by
   intro α f Q ak;refine Ah _ _ ?_;unfold askRoom;split
   ·exact⟨.inl ⟨rfl,rfl⟩,ak⟩
   ·exact ak
  refine aB ?_;refine Ah _ _ (GW ⟨a,l,rfl⟩ ab ?_);refine Ah _ _ (GW ⟨ax,cx,rfl⟩ Y ?_);refine Ah _ _ (D6 aq ?_);refine Ah _ _ (Fc hN fun r aC=>?_);refine av r _ ai aA ?_ ?_ aC
  ·simp only [Array.size_append,List.size_toArray,MA,ar,ae,aa];rw [← Nat.add_mul,← Nat.add_mul];congr 1;omega
  ·simp only [Array.toList_append];rw [List.take_append_of_le_length (by simp [ae,aa,Nat.add_mul])];rw [List.take_of_length_le (by simp [ae,aa,Nat.add_mul])]
end
theorem LsR.spot{α:Type}{pp:Rp α}{E:LH}{a:Option Addr}{c:Nat}{xs:List α}(h:LsR pp E a c xs):∀ad,a=some ad→ad.spot=none∨c=0:=fun ad K=>by
 rcases h.2 with⟨_,h⟩ | ⟨O,off,h,_⟩
 ·exact h ad K
 ·rw [h] at K;cases K;exact .inl rfl
theorem LsR.full{α:Type}{pp:Rp α}{E:LH}{a:Option Addr}{c:Nat}{xs:List α}(h:LsR pp E a c xs):LsR pp E a xs.length xs:=⟨Nat.le_refl _,h.2.imp (fun⟨h,_⟩=>⟨h,fun _ _=> .inr (by rw [h];rfl)⟩) id⟩
theorem LsR.Oq{α:Type}{pp:Rp α}{E H:LH}{B:List (Nat×Obj)}{a:Option Addr}{c:Nat}{ys:List α}(Z:LsR pp E a c ys):
  ∃K:List (List Value),K.length=ys.length∧(∀(i:Nat) x ws,ys[i]? =some x→K[i]? =some ws→pp.r E ws x)∧EM (mk E H B) (.slice a ys.length c) pp.n K.flatten∧∀w∈K.flatten,Ba w=true:=by
 obtain⟨K,U,Y,V⟩:=Z.rows;have aa:=Ga U Y;refine⟨K,U,Y,?_,fun w hw=>?_⟩
 ·rcases V with⟨V,ai⟩ | ⟨aj,off,rfl,V⟩
  ·subst V;have:K= []:=List.eq_nil_of_length_eq_zero U;subst this;cases a with
   | none=>exact⟨rfl,rfl⟩
   | some ad=>exact⟨.inr rfl,by simp,Nat.zero_le _,fun q w O=>by simp at O⟩
  ·refine⟨.inl rfl,by rw [IT aa,U],Z.1,fun q w O=>?_⟩;obtain⟨q1,m,ws,ab,ac,ae⟩:=K0 aa O;have:=(V q1 ws ab).cell (H:=H) (B:=B) ac;subst ae;rw [← Nat.add_assoc];exact this
 ·obtain⟨us,ag,hw⟩:=List.mem_flatten.1 hw;obtain⟨q,O⟩:=List.mem_iff_getElem?.1 ag;have ah:q<ys.length:=by rw [← U];exact(List.getElem?_eq_some_iff.1 O).1
  exact pp.one (Y q _ us (List.getElem?_eq_getElem ah) O) w hw
section
variable {P:Program}{J:Judge P}{Q:Goroutine→St→Prop}{b:Frame}{n:Nat}{ds:List Deferred}{ops:Array Oper}{k:List Item}{cs:List Frame}{L:Env}{s:St}{E E' H:LH}{S:List Seg}
variable {d:Option Tmp}{x y z1:Operand}{t u ty e:TypeId}{p:String}{af:Array Edge}{g:Option (Nat×Bool)}{v:Value}{i:Nat}{rest:List Nat}{kd:IntKind}{ρ:Operand→Value}
theorem QW{a:Option Addr}{l c K:Nat}(O:∀ad,a=some ad→ad.spot=none∨c=0)(U:l≤c)(ht:P.underlying t=some (.slice e))(V:A0 P e=some K)(Y:ρ x= .slice a l c)(Z:ρ y=iV (l:Int))(aa:ρ z1=iV (l:Int)):
  Yl P ⟨d,.slice t x none (some y) (some z1),ty,p,af,g⟩ ρ s (.slice a l l):=by
 have h:=Yl.slice (P:=P) (s:=s) (d:=d) (ty:=ty) (p:=p) (af:=af) (g:=g) (olo:=none) (ohi:=some y) (omx:=some z1) (lo:=0) (hi:=l) (mx:=l) ht V Y aa Z rfl U (Nat.le_refl _) (Nat.zero_le _);have ab:(if l=0 then a else a.map (·.add (0*K)))=a:=by
  split
  ·rfl
  ·cases a with
   | none=>rfl
   | some ad=>
    have:=(O ad rfl).resolve_right (by omega);simp only [Option.map_some,Nat.zero_mul];rw [AS this];obtain⟨b,o,sp⟩:=ad;simp only at this;subst this;simp
 rw [ab] at h;simpa using h
theorem QG{α:Type}{pp:Rp α}{t1:TypeId}{V c cx:Nat}{a ax:Option Addr}{xs ys Y:List α}{ats:Array TypeId}{z:Value}(U:Cj xs ys=some Y)
  (ah:ops[i]? =some ⟨d,.call ⟨.builtin .append,#[x,y],ats⟩,ty,p,af,g⟩) (hw:Az L ops ⟨d,.call ⟨.builtin .append,#[x,y],ats⟩,ty,p,af,g⟩=some true) (ai:Bw b n ⟨d,.call ⟨.builtin .append,#[x,y],ats⟩,ty,p,af,g⟩=true)
  (aj:ev L x=some (.slice a xs.length xs.length)) (ak:ev L y=some (.slice ax ys.length cx)) (al:ats[0]? =some t) (am:ats[1]? =some t1) (ht:P.underlying t=some (.slice e)) (an:P.underlying t1=some (.slice e)) (ao:A0 P e=some pp.n) (hb:C6 P e=some V) (ap:zeroOf P e=some z) (aq:z.cells.size=pp.n)
  (ar:0<V) (au:V≤64) (Z:LsR pp E a c xs) (av:LsR pp E ax cx ys) (hN:NdS E H S)
  (h:∀E' aa K,Le E E'→LsR pp E' aa K Y→NdS E' H (S++ [[]])→JL J Q b n (Aj L d (.slice aa Y.length K)) ds (.inRegion ops rest::k) cs (mkS E' H (S++ [[]]))):
  JL J Q b n L ds (.inRegion ops (i::rest)::k) cs (mkS E H S):=by
 unfold Cj at U;split at U
 rotate_left
 ·cases U
 rename_i aw;cases U;obtain⟨wss,ab,ay,az,aO⟩:=LsR.Oq (H:=H) (B:=S.flatten) Z.full;obtain⟨aA,aB,aC,aD,aE⟩:=LsR.Oq (H:=H) (B:=S.flatten) av;have hlen:(xs++ys).length=xs.length+ys.length:=by simp
 show JL J Q b n L ds (.inRegion ops (i::rest)::k) cs (mk E H S.flatten);refine JL.op ah hw ai fun ρ ac=>?_;rw [IS,ac x _ aj,ac y _ ak];refine Ah _ _ (Qm al am an ht ao hb ap aq hN az aD aE ar aw au ?_ ?_)
 ·intro hm;have aF:ys= []:=List.eq_nil_of_length_eq_zero hm;subst aF;have aG:NdS E H (S++ [[]]):=by unfold NdS at*;rw [EF,List.append_nil];exact hN
  have aH:mk E H S.flatten=mkS E H (S++ [[]]):=by unfold mkS;rw [EF,List.append_nil]
  rw [aH];have:=h E a xs.length (Le.refl _) (by rw [List.append_nil];exact Z.full) aG;rw [hlen] at this;exact this
 ·intro r O K aI aJ h3 aK;have aL:OL e pp E (some ⟨r,0,none⟩) K [(r,.cells O e (0,0))] (xs++ys):=
   ⟨wss++aA,.inr ⟨r,O,rfl,rfl,aJ,by rw [hlen];exact aI,by rw [hlen,List.flatten_append];exact h3.symm⟩,by simp [ab,aB],Lh ab ay aC⟩
  have ae:=CM (S:=S) (seg:= [(r,.cells O e (0,0))]) aK;show JL J Q b n _ ds _ cs (mk E H (S.flatten++ [(r,.cells O e (0,0))]));rw [ae.1];refine JSfreezeL_ S.length aL ae.2 (by simp) fun E' hle aM ag=>?_;have aN:(S++ [[(r,Obj.cells O e (0,0))]]).set S.length []=S++ [[]]:=FH _ _ _ _;rw [aN] at ag ⊢;have:=h E' (some ⟨r,0,none⟩) K hle aM ag;rw [hlen] at this;exact this
end
end Pal
namespace Pal
open Go Go.Conc
open Go.ConcN (sumTo upd sumTo_upd upd_ne upd_same)
def FinalAt(P:Program)(R:Value→St→Prop):GP:=fun g s=>
 g.status= .running∧∃v,R v s∧∀w,stepG P true g w= .ended (.done v) w #[]
section
variable {P:Program}{R:Value→St→Prop}{J:Judge P}{n:Nat}{L:Env}{s:St}{b:Frame}
theorem JO.end{fn:Func}{t:Tmp}{v:Value}(K:b.kind= .normal)(hi:P.inits.idxOf? b.fn=none)(O:P.funcs[b.fn]? =some fn)(U:fn.results= #[.tmp t])(V:look L t=some v)(Y:R v s):JO J (FinalAt P R) b n L [] [] s:=fun T Z todo=>by
 refine J.stop ⟨rfl,v,Y,fun w=>?_⟩
 have e:results fn T=Sem.pure v:=by
  have:=Z.at_ t v V;simp only [results,U,Array.mapM_eq_mapM_toList];show Sem.pure (T.getD t undef)=_;rw [this]
 have aa:(results fn T).run P w= .ok v w:=by rw [e];rfl
 have ab:(results fn T).events P w #[]= #[]:=by rw [e];simp [Sem.events_pure']
 simp [G,stepG,unwind,CC,O,aa,ab,doReturn,K,GStep.after,hi,seen_none]
end
section
variable {P:Program}{R:Value→St→Prop}
def Ie(P:Program)(R:Value→St→Prop)(K:World)(s₀:St)(v:Value)(w':World):Prop:=
 ∃s,R v s∧Fits s w'∧(∀b o,s₀.E b=some o→s.E b=some o)∧w'.tape=K.tape∧w'.os=K.os∧w'.output=K.output
def Md(P:Program)(R:Value→St→Prop)(K:World)(s₀:St)(O:Nat)(m:Machine)(t:Trace):Prop:=
 ∃gs w sl q Sh g s,m=crowd gs w sl∧Ei P gs w t q Sh g s∧FinalAt P R g s∧O=sumTo gs.size q∧(∀b o,s₀.E b=some o→s.E b=some o)∧w.tape=K.tape∧w.os=K.os∧w.output=K.output
theorem Sv{ae:World}{s₀:St}(aj:Nat)(m:Machine)(t:Trace)(h:Md P R ae s₀ aj m t):
  (∃o w ops,stepT P m=(.ended o w,ops)∧Good P (Ie P R ae s₀) m o w (t++ops))∨(∃m' ops ak,stepT P m=(.next m',ops)∧ak<aj∧Md P R ae s₀ ak m' (t++ops)):=by
 obtain⟨gs,w,sl,q,Sh,g,s,rfl,hC,aA,rfl,al,am,an,ao⟩:=h;obtain⟨Z,v,ap,aq⟩:=aA;have aB:∀x∈gs,awake x:=by
  intro x V;obtain⟨i,hi,rfl⟩:=Array.mem_iff_getElem.1 V;rcases Nat.eq_zero_or_pos i with rfl | ag
  ·have:gs[0]=g:=by simpa [Array.getElem?_eq_getElem hi] using hC.main
   rw [this];exact awake_of (.inl Z)
  ·exact awake_of ((hC.lv.old i _ ag (Array.getElem?_eq_getElem hi)).status.elim .inl fun x=> .inr (.inr x))
 obtain⟨i,x,d,ar,hi,V,au⟩:=crowd_pick (P:=P) (w:=w) (sl:=sl) aB ⟨0,g,hC.main,Z⟩;have av:=hC.at_ d;have aC:0<gs.size:=(Array.getElem?_eq_some_iff.1 hC.main).1;have aD:∀(a:Nat) (fn:FuncId) (pos:String),MemOp.ofEvents a fn pos #[]= #[]:=fun a fn pos=>by rw [ofEvents_eq];simp
 rcases Nat.eq_zero_or_pos i with rfl | ag
 ·obtain rfl:x=g:=by rw [hC.main] at hi;exact(Option.some.inj hi).symm
  have aa:=runT_many_ended (P:=P) (sl:=ar) (i:=0) hi (show stepG P (0==0) x (w.at d)=_ from aq (w.at d));rw [aD] at aa;refine .inl ⟨_,_,_,au.trans aa,v,rfl,⟨s,ap,av.Bx.fits 0 aC,al,am,an,ao⟩,?_,?_,⟨fun y K=>?_,rfl⟩,fun j y K O=>?_⟩
  ·simpa using hC.Bx.clean
  ·simpa using hC.over
  ·obtain⟨j,O⟩:=List.mem_iff_getElem?.1 K;rw [List.getElem?_drop] at O;exact⟨_,(hC.lv.old (1+j) y (by omega) (by simpa [crowd] using O)).leaves⟩
  ·have Y:=hC.lv.old j y (by omega) K;exact⟨q j,by simp only [Array.append_empty];exact Y.hears w⟩
 ·have Y:=hC.lv.old i x ag hi;have aE:(i==0)=false:=by simp;omega
  have aw:i<gs.size:=(Array.getElem?_eq_some_iff.1 hi).1;cases ah:q i with
  | zero=>rw [ah] at Y;rw [Y.1] at V;cases V
  | succ k=>
   rw [ah] at Y;rcases Y with⟨aF,_⟩ | ⟨_,x',es,hm,aG,aH⟩
   ·rw [aF] at V;cases V
   have aL:sumTo gs.size (upd q i k)+(k+1)=sumTo gs.size q+k:=by
    have:=sumTo_upd q k id aw;simpa [ah] using this
   have aa:=runT_crowd_go (P:=P) (sl:=ar) (i:=i) hi (by rw [aE];exact aG (w.at d));have ai:((gs.map (woken P x x' (w.at d))).setIfInBounds i x').size=gs.size:=by simp
   have ab:∀op∈MemOp.ofEvents i x.frame.fn x.frame.place es,op.g=i:=fun op U=>by obtain⟨e,_,rfl⟩:=mem_ofEvents U;rfl
   have ay:∀op∈MemOp.ofEvents i x.frame.fn x.frame.place es,op.act.touch? =none:=fun op U=>by obtain⟨e,he,rfl⟩:=mem_ofEvents U;exact touch_mute (hm e he)
   have aI:Ei P ((gs.map (woken P x x' (w.at d))).setIfInBounds i x') (w.at d) (t++MemOp.ofEvents i x.frame.fn x.frame.place es) (upd q i k) Sh g s:=by
    refine⟨?_,⟨fun j y O K=>?_,fun j O=>?_⟩,?_,?_,?_⟩
    ·have aJ:i≠0:=by omega
     rw [Array.getElem?_setIfInBounds_ne aJ,Array.getElem?_map,hC.main];simp [woken_run Z]
    ·by_cases ac:i=j
     ·subst ac;rw [Array.getElem?_setIfInBounds_self_of_lt (by simpa using aw)] at K;obtain rfl:=Option.some.inj K;rw [upd_same,Deaf_own];exact aH
     ·rw [Array.getElem?_setIfInBounds_ne ac,Array.getElem?_map] at K;obtain⟨z,aK,rfl⟩:=Option.map_eq_some_iff.1 K;have az:=hC.lv.old j z O aK;rw [woken_quitsD az,upd_ne q k (Ne.symm ac),Deaf_other t ac _ ab];exact az
    ·rw [Deaf_other t (g':=i) (by simp at O;omega) _ ab];exact hC.lv.above j (by simpa using O)
    ·rw [ai];exact av.Bx.mute ab ay (fun op U=>by obtain⟨e,he,rfl⟩:=mem_ofEvents U;exact low_mute (hm e he) _) rfl
    ·exact handedOver_app hC.over fun op U=> .inr (ay op U)
    ·rw [Deaf_other t (by omega) _ ab];exact hC.hears
   exact .inr ⟨_,_,_,au.trans aa,by rw [← ai];rw [ai];omega,_,_,_,_,_,_,_,rfl,aI,⟨Z,v,ap,aq⟩,rfl,al,am,an,ao⟩
theorem ends{gs:Array Goroutine}{w:World}{sl:Option (Nat×Nat)}{t:Trace}{q:Nat→Nat}{Sh:Nat→Prop}{g:Goroutine}{s:St}(hC:Ei P gs w t q Sh g s)(O:FinalAt P R g s):
  ∃N last o w' K,runNT P (N+1) (crowd gs w sl) t=(.ended o w',K)∧runN P N (crowd gs w sl)= .next last∧step P last= .ended o w'∧Good P (Ie P R w s) last o w' K:=
 run_of_inv Nat.lt_wfRel.wf (Md P R w s) (Good P (Ie P R w s)) Sv _ _ _ ⟨gs,w,sl,q,Sh,g,s,rfl,hC,O,rfl,fun _ _ h=>h,rfl,rfl,rfl⟩
theorem QO{m m':Machine}{t K:Trace}{n:Nat}(h:runNT P n m t=(.next m',K)):runN P n m= .next m':=by rw [← runNT_fst P n m t,h]
def Ct(W:World):St:=⟨fun b=>W.heap[b]?,fun _=>none,false⟩
theorem SV{W:World}{g:Goroutine}(h:(mainWay P).ok (FinalAt P R) g (Ct W)):
  ∃M last o w' K,runNT P (M+1) (solo g W) #[]=(.ended o w',K)∧runN P M (solo g W)= .next last∧step P last= .ended o w'∧Good P (Ie P R W (Ct W)) last o w' K:=by
 have hC:Ei P #[g] W #[] (fun _=>0) (fun _=>False) g (Ct W):=by
  have V:∀{i:Nat} {a:Touch},touchAt #[] i=some a→False:=fun {i a} h=>by simp [touchAt,Trace.act?] at h
  refine⟨rfl,leavers_one P g,⟨fun i hi=>?_,fun i j hi Z au=>by simp at hi Z;omega,fun i hi b hb=>hb.elim,fun b hb=>hb.elim,fun said=>?_,by simp,fun i _ b _ x a O=>(V O).elim,fun i _ b _ x a O=>(V O).elim⟩,fun i g hg=>by simp [Trace.g?] at hg,rfl⟩
  ·have:i=0:=by simp at hi;exact hi
   subst this;exact⟨fun b o U=>U,fun b o U=>(by cases U),fun b _=>rfl⟩
  ·rintro⟨i,j,_,⟨a,b,aa,_⟩,_⟩;simp [Trace.act?] at aa
 obtain⟨n,gs',w',ab,K,av,aw,g',s',Y,ac,h3,ae,ag,h6,ah⟩:=h #[g] W none #[] _ _ hC;obtain⟨N,last,o,ai,aj,k1,ak,al,am⟩:=ends (sl:=ab) ac h3;refine⟨n+N,last,o,ai,aj,?_,?_,al,?_⟩
 ·rw [solo_eq_crowd,Nat.add_assoc,runNT_add,Y];exact k1
 ·have an:=QO Y;rw [solo_eq_crowd,runN_add,an];exact ak
 ·obtain⟨v,e,⟨s2,a1,ao,ap,a4,aq,ar⟩,r⟩:=am;exact⟨v,e,⟨s2,a1,ao,fun b o hb=>ap b o (ae b o hb),a4.trans ag,aq.trans h6,ar.trans ah⟩,r⟩
end
end Pal
namespace Pal
open Go Go.Conc
theorem top_enter{P:Program}{Q:Goroutine→St→Prop}{E H:LH}{f:FuncId}{fn:Func}{c:Code}{vs:List Value}(U:P.funcs[f]? =some fn)(hb:fn.body=some c)(Z:fn.ntmps=fn.ntmps)(aa:vs.length≤fn.ntmps)
  (h:JL (mainWay P) Q (base f) fn.ntmps (DY 0 vs) [] [.code c] [] (mkS E H [[]])):(mainWay P).ok Q (G (Frame.enter P f vs.toArray .normal) []) (mk E H []):=by
 have he:Frame.enter P f vs.toArray .normal=fr (base f) (vs.toArray++Array.replicate (fn.ntmps - vs.length) undef) [] [.code c]:=by
  simp [Frame.enter,fr,U,hb,base];rfl
 rw [he];have V:mk E H []=mkS E H [[]]:=by unfold mkS;simp
 rw [V];refine h _ ⟨by simp;omega,fun t v ht=>?_⟩;obtain⟨_,K⟩:=GZ ht;have Y:t<vs.length:=by
  rcases Nat.lt_or_ge t vs.length with O | O
  ·exact O
  ·simp at K;have:=(List.getElem?_eq_some_iff.1 K).1;omega
 rw [Array.getD_eq_getD_getElem?,Array.getElem?_append_left (by simpa using Y)];simp at K;simp [K]
end Pal
namespace Pal
open Go Go.Conc Go.Proofs Go.ChangeShapes Go.WideShapes Go.ChangeAt Go.RowKit
open Go.Proofs.YtboibffcmhheiaaGreatDoor (Rows.laid_errors_errorType)
theorem Tryz.own:ownKnob Tryz.prog.godebug=none:=by kernel_rfl
theorem Tryz.laidOut:laidOutB Tryz.prog=true:=by kernel_rfl
theorem Tryz.Pg:Tryz.prog.cellsOf 3=1:=by kernel_rfl
theorem SL{W:World}{a:Addr}{len cap:Nat}{K:List Int}(V:a.spot=none)(ae:len≤cap)(aa:len≤K.length)(ab:∀i,i<K.length→W.cell? (a.add i)=some (.int .i64 (K.getD i 0))):
  LsR rI (Ct W).E (some a) cap (K.take len)∧(K.take len).length=len:=by
 have Z:(K.take len).length=len:=by simp [Nat.min_eq_left aa]
 refine⟨⟨by omega,.inr ⟨a.block,a.off,?_,fun i x Y=>⟨[iV x],rfl,?_⟩⟩⟩,Z⟩
 ·obtain⟨b,o,s⟩:=a;simp only at V;subst V;rfl
 ·have hi:i<len:=by rw [← Z];exact(List.getElem?_eq_some_iff.1 Y).1
  have O:=ab i (by omega);have ac:K.getD i 0=x:=by
   rw [List.getElem?_take_of_lt hi] at Y;rw [List.getD_eq_getElem?_getD,Y];rfl
  rw [ac,AS V] at O;unfold World.cell? at O;split at O
  ·rename_i c e f hW;simp only [Option.isSome_none,Bool.false_eq_true,if_false] at O;refine⟨c,e,f,hW,fun j w U=>?_⟩
   match j,U with
   | 0,U=>
    simp at U;subst U;show c[a.off+i*1+0]? =some (.int .i64 x);simpa using O
   | j+1,U=>simp at U
  ·cases O
theorem Qz{R:Value→St→Prop}{W w':World}{v:Value}(h:Ie Tryz.prog R W (Ct W) v w'):(∃s,R v s)∧Below W.heap.size W w':=by
 obtain⟨s,V,Y,Z,ht,aa,ab⟩:=h;have hb:∀k,k<W.heap.size→w'.heap[k]? =W.heap[k]? :=fun k O=>by
  have K:(Ct W).E k=some W.heap[k]:=Array.getElem?_eq_getElem O;have U:=Y.e k _ (Z k _ K);rw [U,Array.getElem?_eq_getElem O]
 refine⟨⟨s,V⟩,⟨aa,ht,ab,?_,hb⟩⟩;rcases Nat.eq_zero_or_pos W.heap.size with ac | ac
 ·omega
 ·have K:=hb (W.heap.size - 1) (by omega);have h3:W.heap[W.heap.size - 1]? =some W.heap[W.heap.size - 1]:=Array.getElem?_eq_getElem (by omega);rw [h3] at K;have U:=(Array.getElem?_eq_some_iff.1 K).1;omega
noncomputable def M6(os:Os):World:=
 let w0:=World.holding Tryz.prog os ⟨#[],#[],[]⟩
 {w0 with heap:=w0.heap.modify 0 fun
   | .cells _ t frozen=> .cells #[.iface 240 (.agg #[.pointer (some ⟨1,149,none⟩)])] t frozen
   | o=>o}
theorem Qo(os:Os)(args:Array Value):laidMetH Tryz.prog [("errors.errorType",Go.Proofs.YtboibffcmhheiaaGreatDoor.Rows.laid_errors_errorType)] ((M6 os).forCall (fun _ _=>0) ⟨#[],args,[]⟩).memory:=
 laidMetH_of_parts (laidMet_nil _ _) (by kernel_rfl)
end Pal
namespace Pal
open Go Go.Conc
theorem oi{α:Type}{a b:α}(h:some a=some b):a=b:=Option.some.inj h
theorem bs{α β:Type}{o:Option α}{f:α→Option β}{r:β}(h:o.bind f=some r):∃x,o=some x∧f x=some r:=bind_some h
def GD(L:Env):Env→List (Option Value)
 | []=> []
 | (t,_)::L'=>look L t::GD L L'
def GK:Env→List (Option Value)
 | []=> []
 | (_,v)::L'=>some v::GK L'
theorem JU{L:Env}:∀{L':Env},GD L L'=GK L'→Sub L' L
 | [],_=>trivial
 | (t,v)::L',h=>by
  simp only [GD,GK,List.cons.injEq] at h
  exact⟨h.1,JU h.2⟩
section
variable {P:Program}{J:Judge P}{Q:Goroutine→St→Prop}{b:Frame}{n:Nat}{L L':Env}{ds:List Deferred}{k k':List Item}{cs:List Frame}{s:St}{ops:Array Oper}{i:Nat}{rest:List Nat}{v:Value}
variable {d:Option Tmp}{op:Op}{ty:TypeId}{p:String}{af:Array Edge}{g:Option (Nat×Bool)}
theorem GL(L':Env)(h:GD L L'=GK L')(k':JL J Q b n L' ds k cs s):JL J Q b n L ds k cs s:=FG (JU h) k'
theorem JLkw_(k':JL J Q b n L' ds k cs s)(h:GD L L'=GK L'):JL J Q b n L ds k cs s:=FG (JU h) k'
def Eh(b:Frame)(n:Nat)(L:Env)(ops:Array Oper)(i:Nat):Option Oper:=
 match FP ops.toList i with
 | some ⟨d,op,ty,p,af,g⟩=>match Az L ops ⟨d,op,ty,p,af,g⟩ with
  | some true=>match Bw b n ⟨d,op,ty,p,af,g⟩ with
   | true=>some ⟨d,op,ty,p,af,g⟩
   | false=>none
  | _=>none
 | none=>none
theorem I7{o:Oper}(h:Eh b n L ops i=some o):ops[i]? =some o∧Az L ops o=some true∧Bw b n o=true:=by
 unfold Eh at h;split at h
 ·rename_i K;rw [Hd,Array.getElem?_toList] at K;split at h
  ·rename_i hw;split at h
   ·rename_i O;cases h;exact⟨K,hw,O⟩
   ·cases h
  ·cases h
 ·cases h
theorem Ae(K:Eh b n L ops i=some ⟨d,op,ty,p,af,g⟩)(h:∀ρ,CN L ρ→Yl P ⟨d,op,ty,p,af,g⟩ ρ s v)(O:JL J Q b n (Aj L d v) ds (.inRegion ops rest::k) cs s):
  JL J Q b n L ds (.inRegion ops (i::rest)::k) cs s:=
 let ⟨U,V,h3⟩:=I7 K
 Ay U V h3 h O
theorem Av{f:FuncId}{fn:Func}{c:Code}{E:LH}{vs:List Value}{B:Seg}{R:Value→LH→Seg→Prop}(O:P.funcs[f]? =some fn)(hb:fn.body=some c)(U:Nat.ble vs.length fn.ntmps=true)
  (h:∀(Q:Goroutine→St→Prop) (K:Frame) (cs:List Frame) (H:LH),NdS E H [B]→(∀v E' S' B',Le E E'→S'.flatten=B'→R v E' B'→NdS E' H S'→J.ok Q (G (K.finish v) cs) (mkS E' H S'))→JL J Q (base f) fn.ntmps (DY 0 vs) [] [.code c] (K::cs) (mkS E H [B])):Al J f vs E B R:=
 Al.enter O hb (Nat.le_of_ble_eq_true U) h
def Kz(n:Nat)(L:Env)(ops:Array Oper)(i:Nat):Option Env:=
 match FP ops.toList i with
 | some ⟨d,op,ty,p,af,g⟩=>match Az L ops ⟨d,op,ty,p,af,g⟩ with
  | some true=>match AQ n d with
   | true=>match GQ L op with
    | some v=>match d with
     | some d=>some ((d,v)::L)
     | none=>some L
    | none=>none
   | false=>none
  | some false=>match AQ n d with
   | true=>match d with
    | some d=>some ((d,undef)::L)
    | none=>some L
   | false=>none
  | none=>none
 | none=>none
def GO(n:Nat)(L:Env)(ops:Array Oper)(i:Nat):Option Oper:=
 match FP ops.toList i with
 | some ⟨d,op,ty,p,af,g⟩=>match Az L ops ⟨d,op,ty,p,af,g⟩ with
  | some true=>match AQ n d with
   | true=>some ⟨d,op,ty,p,af,g⟩
   | false=>none
  | _=>none
 | none=>none
theorem Nt{o:Oper}(h:GO n L ops i=some o):ops[i]? =some o∧Az L ops o=some true∧AQ n o.dst=true:=by
 unfold GO at h;split at h
 ·rename_i K;rw [Hd,Array.getElem?_toList] at K;split at h
  ·rename_i hw;split at h
   ·rename_i O;cases h;exact⟨K,hw,O⟩
   ·cases h
  ·cases h
 ·cases h
theorem Ss(h:Kz n L ops i=some L'):∃o,ops[i]? =some o∧AQ n o.dst=true∧((∃v,Az L ops o=some true∧GQ L o.op=some v∧L'=Aj L o.dst v)∨(Az L ops o=some false∧L'=Aj L o.dst undef)):=by
 unfold Kz at h;split at h
 ·rename_i d op ty p af g O;rw [Hd,Array.getElem?_toList] at O;refine⟨_,O,?_⟩;split at h
  ·rename_i hw;split at h
   ·rename_i K;refine⟨K,.inl ?_⟩;split at h
    ·rename_i v U;refine⟨v,hw,U,?_⟩;cases d with
     | none=>cases h;rfl
     | some d=>cases h;rfl
    ·cases h
   ·cases h
  ·rename_i hw;split at h
   ·rename_i K;refine⟨K,.inr ⟨hw,?_⟩⟩;cases d with
    | none=>cases h;rfl
    | some d=>cases h;rfl
   ·cases h
  ·cases h
 ·cases h
variable {m:Nat}{D:Nat→Bool}{fuel:Nat}{listed:Array Bool}
theorem JGmv_(i:Nat)(K:Cv ops m=true)(O:s.q=false)(h:Kz n L ops i=some L')
  (U:JAL J Q b n ds ops k cs m D fuel (AF listed i) L' s) (V:Et ops listed m i=true:=by decide+kernel):JAL J Q b n ds ops k cs m D (fuel+1) listed L s:=by
 obtain⟨o,Y,Z,⟨v,hw,aa,rfl⟩ | ⟨hw,rfl⟩⟩:=Ss h
 ·exact LP i Y K V O hw Z (fun ρ ab s' _=>Jt ab aa) U
 ·exact VK i Y K V O hw Z U
theorem JGV_(i:Nat)(K:Cv ops m=true)(O:s.q=false)(U:GO n L ops i=some ⟨d,op,ty,p,af,g⟩)
  (V:∀ρ,CN L ρ→∀s':St,(∀x o,(AV D s).E x=some o→s'.E x=some o)→Yl P ⟨d,op,ty,p,af,g⟩ ρ s' v)
  (Y:JAL J Q b n ds ops k cs m D fuel (AF listed i) (Aj L d v) s) (Z:Et ops listed m i=true:=by decide+kernel):JAL J Q b n ds ops k cs m D (fuel+1) listed L s:=by
 obtain⟨aa,ab,h3⟩:=Nt U;exact LP i aa K Z O ab h3 V Y
end
end Pal
namespace Pal
open Go Go.Conc
abbrev Jn(E H E':LH)(S:List Seg)(K L:Env)(s:St)(R:Prop):Prop:=L=K∧s=mkS E' H S∧Le E E'∧NdS E' H S∧R
abbrev Jm(E H E':LH)(S:List Seg)(K L:Env)(s:St):Prop:=L=K∧s=mkS E' H S∧Le E E'∧NdS E' H S
def Km(L:Env):List ResultVar→Option (List Value)
 | []=>some []
 | .tmp t::rs=>match look L t with
  | some v=>match Km L rs with
   | some vs=>some (v::vs)
   | none=>none
  | none=>none
 | _=>none
theorem Od{P:Program}{L:Env}{s:St}:∀{rs:List ResultVar} {vs:List Value},Km L rs=some vs→RV P L s rs vs
 | [],vs,h=>by cases h;trivial
 | .tmp t::rs,vs,h=>by
  unfold Km at h
  split at h
  ·rename_i v K
   split at h
   ·rename_i ws hw;cases h;exact⟨K,Od hw⟩
   ·cases h
  ·cases h
 | .cell _ _::_,_,h=>by cases h
section
variable {P:Program}{J:Judge P}{Q:Goroutine→St→Prop}{b:Frame}{n:Nat}{L L':Env}{ds:List Deferred}{k k':List Item}{cs:List Frame}{s:St}{ops:Array Oper}{i:Nat}{rest:List Nat}{v:Value}{E H:LH}{S:List Seg}
variable {d:Option Tmp}{op:Op}{x y:Operand}{t ft ty e:TypeId}{p:String}{af:Array Edge}{g:Option (Nat×Bool)}
theorem Af{c:Frame}{fn:Func}{vs:List Value}(O:P.funcs[b.fn]? =some fn)(K:(b.kind== .normal&&b.roundOf.isNone)=true)(U:Km L fn.results.toList=some vs)(h:J.ok Q (G (c.finish (Jc vs)) cs) s):JL J Q b n L [] (.code .ret::k) (c::cs) s:=by
 simp only [Bool.and_eq_true,beq_iff_eq,Option.isNone_iff_eq_none] at K;exact JL.ret K.1 K.2 (Bc.list O rfl (Od U)) h
theorem JScl_{f:FuncId}{args:Array Operand}{ats:Array TypeId}{vs:List Value}{R:Value→LH→Seg→Prop}
  (K:Al J f vs E [] R) (O:Eh b n L ops i=some ⟨d,.call ⟨.value (.func f),args,ats⟩,ty,p,af,g⟩) (U:evs L args.toList=some vs) (hb:Ch P f=true)
  (hN:NdS E H S) (V:∀v E' seg',Le E E'→R v E' seg'→NdS E' H (S++ [seg'])→JL J Q b n (Aj L d v) ds (.inRegion ops rest::k) cs (mkS E' H (S++ [seg']))):
  JL J Q b n L ds (.inRegion ops (i::rest)::k) cs (mkS E H S):=by
 obtain⟨Y,Z,h3⟩:=I7 O;refine JS.call K Y Z ?_ hb U hN V;simp only [Bw,Bool.and_eq_true] at h3 ⊢;exact⟨h3.1,h3.2.1⟩
theorem JScz_{f:FuncId}{args:Array Operand}{ats:Array TypeId}{vs:List Value}{v:Value}
  (K:Al J f vs E [] (fun w E' B'=>w=v∧B'= [])) (O:Eh b n L ops i=some ⟨d,.call ⟨.value (.func f),args,ats⟩,ty,p,af,g⟩) (U:evs L args.toList=some vs) (hb:Ch P f=true)
  (hN:NdS E H S) (V:∀E',Le E E'→NdS E' H (S++ [[]])→JL J Q b n (Aj L d v) ds (.inRegion ops rest::k) cs (mkS E' H (S++ [[]]))):
  JL J Q b n L ds (.inRegion ops (i::rest)::k) cs (mkS E H S):=JScl_ K O U hb hN (by rintro _ E' _ hle ⟨rfl,rfl⟩ hN;exact V E' hle hN)
theorem JSclL_{f:FuncId}{args:Array Operand}{ats:Array TypeId}{vs:List Value}{seg:Seg}{R:Value→LH→Seg→Prop}(j:Nat)
  (K:Al J f vs E seg R) (O:Eh b n L ops i=some ⟨d,.call ⟨.value (.func f),args,ats⟩,ty,p,af,g⟩) (U:evs L args.toList=some vs) (hb:Ch P f=true)
  (hN:NdS E H S) (V:S[j]? =some seg) (Y:∀v E' seg',Le E E'→R v E' seg'→NdS E' H (S.set j seg')→JL J Q b n (Aj L d v) ds (.inRegion ops rest::k) cs (mkS E' H (S.set j seg'))):
  JL J Q b n L ds (.inRegion ops (i::rest)::k) cs (mkS E H S):=by
 obtain⟨Z,aa,h3⟩:=I7 O;refine Lo j K Z aa ?_ hb U hN V Y;simp only [Bw,Bool.and_eq_true] at h3 ⊢;exact⟨h3.1,h3.2.1⟩
def J6(K:Array Field)(i:Nat):Option (Nat×TypeId):=match K[i]? with
 | some f=>some (f.offset,f.type)
 | none=>none
theorem JLaC_{r m m':Int}{u:TypeId}(h:Ac (m+m')=some r)(K:Eh b n L ops i=some ⟨d,.binOp .add t x y u,ty,p,af,g⟩)(O:ev L x=some (iV m))(U:ev L y=some (iV m'))
  (V:JL J Q b n (Aj L d (iV r)) ds (.inRegion ops rest::k) cs s):JL J Q b n L ds (.inRegion ops (i::rest)::k) cs s:=Ae K (fun _ q=>Tu (q _ _ O) (q _ _ U) h) V
theorem A9{r m m':Int}{u:TypeId}(h:Ac (m - m')=some r)(K:Eh b n L ops i=some ⟨d,.binOp .sub t x y u,ty,p,af,g⟩)(O:ev L x=some (iV m))(U:ev L y=some (iV m'))
  (V:JL J Q b n (Aj L d (iV r)) ds (.inRegion ops rest::k) cs s):JL J Q b n L ds (.inRegion ops (i::rest)::k) cs s:=Ae K (fun _ q=>BC (q _ _ O) (q _ _ U) h) V
theorem JLln_{a:Option Addr}{e:TypeId}{l c:Nat}{ats:Array TypeId}(ht:P.underlying t=some (.slice e))(K:Eh b n L ops i=some ⟨d,.call ⟨.builtin .len,#[x],ats⟩,ty,p,af,g⟩)(O:ats[0]? =some t)(U:ev L x=some (.slice a l c))
  (V:JL J Q b n (Aj L d (.int .i64 l)) ds (.inRegion ops rest::k) cs s):JL J Q b n L ds (.inRegion ops (i::rest)::k) cs s:=Ae K (fun _ q=>Yl.len O ht (q _ _ U)) V
theorem Ar{O o U off:Nat}{V:Array Field}{Y:Nat}(ht:P.underlying t=some (.struct V))(Z:A0 P ft=some (U+1))(aa:Eh b n L ops i=some ⟨d,.fieldAddr t x Y,ty,p,af,g⟩)(ab:ev L x=some (.pointer (some ⟨O,o,none⟩)))(K:J6 V Y=some (off,ft))
  (ac:JL J Q b n (Aj L d (.pointer (some ⟨O,o+off,none⟩))) ds (.inRegion ops rest::k) cs s):
  JL J Q b n L ds (.inRegion ops (i::rest)::k) cs s:=by
 unfold J6 at K;split at K
 ·rename_i f ae;cases K;refine Ae aa (fun ρ h=>Pl (a:=⟨O,o,none⟩) U f.offset ht Z ae rfl rfl (h _ _ ab)) ?_;rw [AS rfl];exact ac
 ·cases K
theorem Aw{K o:Nat}{ws:List Value}(j:Nat)(O:At E K o ws)(ht:Ce P t=some false)(U:Eh b n L ops i=some ⟨d,.load t x,ty,p,af,g⟩)(V:ev L x=some (.pointer (some ⟨K,o+j,none⟩)))(Y:ws[j]? =some v)
  (Z:JL J Q b n (Aj L d v) ds (.inRegion ops rest::k) cs (mkS E H S)):
  JL J Q b n L ds (.inRegion ops (i::rest)::k) cs (mkS E H S):=
 Ae U (fun _ h=>Yl.load ht (h _ _ V) (At.Hp O Y)) Z
theorem JSst_{K off:Nat}{c:Array Value}(j:Nat)(hN:NdS E H S)(O:A0 P t=some v.cells.size)(U:Eh b n L ops i=some ⟨d,.store t x y,ty,p,af,g⟩)
  (V:ev L x=some (.pointer (some ⟨K,off,none⟩))) (Y:ev L y=some v) (Z:S[j]? =some [(K,.cells c e (0,0))])
  (h:NdS E H (S.set j [(K,.cells (AJ c off v.cells.toList) e (0,0))])→JL J Q b n (Aj L d undef) ds (.inRegion ops rest::k) cs (mkS E H (S.set j [(K,.cells (AJ c off v.cells.toList) e (0,0))])))
  (hle:off+v.cells.size≤c.size:=by exact Nat.le_of_ble_eq_true rfl) (aa:∀u∈v.cells.toList,Ba u=true:=by simp [Value.cells,Ba]):
  JL J Q b n L ds (.inRegion ops (i::rest)::k) cs (mkS E H S):=by
 obtain⟨ab,ac,h3⟩:=I7 U;exact JS.store j ab ac h3 hN V Y O aa Z hle h
theorem JLldN_{K o:Nat}{ws:List Value}(O:At E K o ws)(ht:Ce P t=some true)(U:A0 P t=some ws.length)(V:Eh b n L ops i=some ⟨d,.load t x,ty,p,af,g⟩)(Y:ev L x=some (.pointer (some ⟨K,o,none⟩)))
  (Z:JL J Q b n (Aj L d (.agg ws.toArray)) ds (.inRegion ops rest::k) cs (mkS E H S)):
  JL J Q b n L ds (.inRegion ops (i::rest)::k) cs (mkS E H S):=
 Ae V (fun _ h=>A2 ht U (h _ _ Y) (At.Pj O)) Z
variable {m:Nat}{D:Nat→Bool}{fuel:Nat}{listed:Array Bool}
theorem Bf{O o U off:Nat}{V:Array Field}{Y:Nat}(i:Nat)(Z:Cv ops m=true)(ht:P.underlying t=some (.struct V))(aa:A0 P ft=some (U+1))(ab:s.q=false)(ac:GO n L ops i=some ⟨d,.fieldAddr t x Y,ty,p,af,g⟩)(ae:ev L x=some (.pointer (some ⟨O,o,none⟩)))(K:J6 V Y=some (off,ft))
  (ag:JAL J Q b n ds ops k cs m D fuel (AF listed i) (Aj L d (.pointer (some ⟨O,o+off,none⟩))) s) (ah:Et ops listed m i=true:=by decide+kernel):JAL J Q b n ds ops k cs m D (fuel+1) listed L s:=by
 unfold J6 at K;split at K
 ·rename_i f ai;cases K;refine JGV_ i Z ab ac (fun ρ h _ _=>Pl (a:=⟨O,o,none⟩) U f.offset ht aa ai rfl rfl (h _ _ ae)) ?_ ah;rw [AS rfl];exact ag
 ·cases K
theorem JGld_{K o:Nat}{ws:List Value}(i:Nat)(O:Cv ops m=true)(j:Nat)(U:At (AV D s).E K o ws)(ht:Ce P t=some false)(V:s.q=false)(Y:GO n L ops i=some ⟨d,.load t x,ty,p,af,g⟩)(Z:ev L x=some (.pointer (some ⟨K,o+j,none⟩)))(aa:ws[j]? =some v)
  (ab:JAL J Q b n ds ops k cs m D fuel (AF listed i) (Aj L d v) s) (ac:Et ops listed m i=true:=by decide+kernel):JAL J Q b n ds ops k cs m D (fuel+1) listed L s:=
 JGV_ i O V Y (fun _ h _ hs=>Yl.load ht (h _ _ Z) (At.CF U hs aa)) ab ac
theorem JGldN_{K o:Nat}{ws:List Value}(i:Nat)(O:Cv ops m=true)(U:At (AV D s).E K o ws)(ht:Ce P t=some true)(V:A0 P t=some ws.length)(Y:s.q=false)(Z:GO n L ops i=some ⟨d,.load t x,ty,p,af,g⟩)(aa:ev L x=some (.pointer (some ⟨K,o,none⟩)))
  (ab:JAL J Q b n ds ops k cs m D fuel (AF listed i) (Aj L d (.agg ws.toArray)) s) (ac:Et ops listed m i=true:=by decide+kernel):JAL J Q b n ds ops k cs m D (fuel+1) listed L s:=
 JGV_ i O Y Z (fun _ h _ hs=>A2 ht V (h _ _ aa) (At.LS U hs)) ab ac
end
end Pal
namespace Pal
open Go Go.Conc
abbrev JW2:=List (List Int)×List (List Int)
abbrev A1:=List (List Int)×List (List Int)×List Nat
abbrev Bb:=Int×List Int×Nat
abbrev AK:=Int×Int×List Bb
abbrev LKL:=List (Int×Int)
abbrev A3:=List Int×Int×Nat
abbrev OAd:=Option Addr
abbrev BP:Rp Bb:=rP rI (rP (rL rI) (rN .u16))
abbrev Bq:Rp AK:=rP rI (rP rI (rL BP))
abbrev rLK:Rp (Int×Int):=rP rI rI
theorem ip{α:Type}{p:Prop} [Decidable p] {A B:Option α}{r:α}(h:(if p then A else B)=some r)(c:p):A=some r:=by rwa [if_pos c] at h
theorem im{α:Type}{p:Prop} [Decidable p] {A B:Option α}{r:α}(h:(if p then A else B)=some r)(c:¬p):B=some r:=by rwa [if_neg c] at h
theorem ib{α:Type}{c:Bool}{A B:Option α}{r:α}(h:(if c=true then A else B)=some r)(K:c=false):B=some r:=by subst K;simpa using h
def Mm(n:Nat)(ops:Array Oper):List Nat→Nat→Env→Option (Nat×Env)
 | [],f,L=>some (f,L)
 | i::l,f+1,L=>match Kz n L ops i with
  | some L'=>Mm n ops l f L'
  | none=>none
 | _::_,0,_=>none
def L4(ops:Array Oper)(m:Nat):Array Bool→List Nat→Bool
 | _,[]=>true
 | listed,i::l=>Et ops listed m i&&L4 ops m (AF listed i) l
def PX:Array Bool→List Nat→Array Bool
 | listed,[]=>listed
 | listed,i::l=>PX (AF listed i) l
theorem JGms_{P:Program}{J:Judge P}{Q:Goroutine→St→Prop}{b:Frame}{n:Nat}{ds:List Deferred}{k:List Item}{cs:List Frame}{s:St}{ops:Array Oper}{m:Nat}{D:Nat→Bool}{L':Env}{U:Nat}(V:Cv ops m=true)(Y:s.q=false):
  ∀(l:List Nat) {fuel:Nat} {listed:Array Bool} {L:Env},Mm n ops l fuel L=some (U,L')→JAL J Q b n ds ops k cs m D U (PX listed l) L' s→(K:L4 ops m listed l=true:=by decide+kernel)→JAL J Q b n ds ops k cs m D fuel listed L s
 | [],fuel,listed,L,h,O,_=>by cases h;exact O
 | i::l,fuel,listed,L,h,O,K=>by
  cases fuel with
  | zero=>cases h
  | succ fuel=>
   unfold L4 at K;rw [Bool.and_eq_true] at K;unfold Mm at h;split at h
   ·rename_i Z e;exact JGmv_ i V Y e (JGms_ V Y l h O K.2) K.1
   ·cases h
theorem zg{P:Program}{J:Judge P}{Q:Goroutine→St→Prop}{b:Frame}{n:Nat}{L L':Env}{ds:List Deferred}{k k':List Item}{cs:List Frame}{s:St}(m:Nat)(h:JY b n m k L=some (k',L'))(K:JL J Q b n L' ds k' cs s):JL J Q b n L ds k cs s:=JL.go m h K
end Pal
namespace Pal
open Go Go.Conc
section
variable {P:Program}{J:Judge P}{Q:Goroutine→St→Prop}{b:Frame}{n:Nat}{L L':Env}{ds:List Deferred}{k:List Item}{cs:List Frame}{s:St}{ops:Array Oper}{E H:LH}{S:List Seg}
variable {α:Type}{A B:Option α}{r:α}
theorem JLfi_{c:Operand}{x y:Code}{p:Prop} [Decidable p] (hD:(if p then A else B)=some r)(K:p→A=some r→JL J Q b n L ds (.code x::k) cs s)(O:¬p→B=some r→JL J Q b n L ds (.code y::k) cs s)
  (U:ev L c=some (.bool (decide p)):=by exact rfl):JL J Q b n L ds (.code (.cond c x y)::k) cs s:=LV U (fun h=>K h (ip hD h)) fun h=>O h (im hD h)
theorem JLfj_{c:Operand}{x y:Code}{t:Bool}(hD:(if t=true then A else B)=some r)(K:t=true→A=some r→JL J Q b n L ds (.code x::k) cs s)(O:t=false→B=some r→JL J Q b n L ds (.code y::k) cs s)
  (U:ev L c=some (.bool t):=by exact rfl):JL J Q b n L ds (.code (.cond c x y)::k) cs s:=N7 U (fun h=>K h (ip hD h)) fun h=>O h (ib hD h)
theorem C3{q:Prop} [Decidable q] (i:Nat)(hD:(if q then A else B)=some r)(K:q→A=some r→JL J Q b n (Aj L (some i) (.bool true)) ds k cs s)(O:¬q→B=some r→JL J Q b n (Aj L (some i) (.bool false)) ds k cs s)
  (U:look L i=some (.bool (decide q)):=by exact rfl):JL J Q b n L ds k cs s:=Rc U (fun h=>K h (ip hD h)) fun h=>O h (im hD h)
theorem JLgj_{t:Bool}(i:Nat)(hD:(if t=true then A else B)=some r)(K:t=true→A=some r→JL J Q b n (Aj L (some i) (.bool true)) ds k cs s)(O:t=false→B=some r→JL J Q b n (Aj L (some i) (.bool false)) ds k cs s)
  (U:look L i=some (.bool t):=by exact rfl):JL J Q b n L ds k cs s:=Q4 U (fun h=>K h (ip hD h)) fun h=>O h (ib hD h)
theorem JLlw_{K O:Type}{c:Code}{body:K→Option (AH K O)}{f:Nat}{U:K}{a:O}(Y:iter body f U=some a)(I:Env→St→K→Prop)(Z:I L' s U)
  (round:∀L s x,I L s x→(∀V,body x=some (.done V)→V=a)→(∃st,body x=some st)→(∀L' s' x',I L' s' x'→body x=some (.more x')→JL J Q b n L' ds (.inLoop c::k) cs s')→JL J Q b n L ds (.code c:: .inLoop c::k) cs s)
  (aa:GD L L'=GK L':=by exact rfl):JL J Q b n L ds (.code (.loop c)::k) cs s:=GL L' aa (Sc Y I Z round)
variable {m:Nat}{D:Nat→Bool}{fuel:Nat}{listed:Array Bool}
def J8(ops:Array Oper):Array Bool→List Nat→Bool
 | _,[]=>true
 | l,i::t=>Region.ready .any ops l== [i]&&J8 ops (AF l i) t
theorem OJ:∀{t:List Nat} {l:Array Bool},J8 ops l t=true→∀u,Region.linearise.go .any ops t.length u l []=t
 | [],_,_,_=>rfl
 | i::t,l,h,u=>by
  unfold J8 at h
  rw [Bool.and_eq_true,beq_iff_eq] at h
  exact UO h.1 (OJ h.2) u
theorem JALlf_(t:List Nat)(O:JL J Q b n L ds (.inRegion ops t::k) cs s)(K:(L3 m listed&&J8 ops listed t&&(fuel+1==t.length))=true:=by decide+kernel):JAL J Q b n ds ops k cs m D (fuel+1) listed L s:=by
 rw [Bool.and_eq_true,Bool.and_eq_true,beq_iff_eq] at K;exact JAL.leaf K.1.1 (by rw [K.2];exact OJ K.1.2) O
theorem JGd0_(m:Nat){id:Nat}(h:Cv ops m=true→JAL J Q b n ds ops k cs m CP ops.size (Array.replicate ops.size false) L (mkS E H S))(hm:P.follows .mixedOrders=true:=by exact rfl)(K:(b.kind != .early)=true:=by exact rfl)(ht:Cv ops m=true:=by decide+kernel):
  JL J Q b n L ds (.code (.region id ops true)::k) cs (mkS E H S):=SE m hm K ht h
theorem BT(m:Nat)(bks:List Nat){id:Nat}(K:Es S bks)(hN:NdS E H S)(h:Cv ops m=true→JAL J Q b n ds ops k cs m (Ak bks) ops.size (Array.replicate ops.size false) L (mkS E H S))(hm:P.follows .mixedOrders=true:=by exact rfl)(O:(b.kind != .early)=true:=by exact rfl)(ht:Cv ops m=true:=by decide+kernel):
  JL J Q b n L ds (.code (.region id ops true)::k) cs (mkS E H S):=Sx m bks K hN hm O ht h
theorem JGjd_{α:Type}{pp:Rp α}{a:Option Addr}{c:Nat}{xs:List α}{xv:α}{K:Int}{d:Option Tmp}{x y:Operand}{t ty e:TypeId}{p:String}{af:Array Edge}{g:Option (Nat×Bool)}{kd:IntKind}(i:Nat)(U:LsR pp E a c xs)(V:ix xs K=some xv)(Y:Cv ops m=true)(ht:P.underlying t=some (.slice e))(Z:A0 P e=some pp.n)
  (h:∀O o ws,pp.r E ws xv→At E O o ws→JAL J Q b n ds ops k cs m D fuel (AF listed i) (Aj L d (.pointer (some ⟨O,o,none⟩))) s)
  (aa:ops[i]? =some ⟨d,.indexAddr t x y,ty,p,af,g⟩:=by exact rfl) (ab:Et ops listed m i=true:=by decide+kernel) (ac:s.q=false:=by exact rfl)
  (hw:Az L ops ⟨d,.indexAddr t x y,ty,p,af,g⟩=some true:=by exact rfl) (ae:AQ n d=true:=by exact rfl)
  (ag:ev L x=some (.slice a xs.length c):=by exact rfl) (ah:ev L y=some (.int kd K):=by exact rfl):
  JAL J Q b n ds ops k cs m D (fuel+1) listed L s:=UY i U V aa Y ab ac hw ae ag ah ht Z h
end
end Pal
namespace Pal
open Go Go.Conc Go.Proofs
end Pal
namespace Pal
open Go Go.Conc Go.Proofs
end Pal
namespace Pal
open Go Go.Conc Go.Proofs
open Go.Proofs.Tryz
variable {J:Judge Tryz.prog}{E:LH}
def q_szOf_oftype3:=AL Tryz.type3
def q_aggT_ofunderlying3:=BZ Tryz.underlying3
def q_szOf_oftype27:=AL Tryz.type27
def q_aggT_ofunderlying27:=BZ Tryz.underlying27
def Bg:=AL Tryz.type28
def BL:=BZ Tryz.underlying28
def q_body_offunc32rfl:=body_of Tryz.func32 rfl
def A6:=AL Tryz.type22
def Br:=BZ Tryz.underlying22
def F3:=AL Tryz.type90
def IE:=BZ Tryz.underlying90
def q_body_offunc41rfl:=body_of Tryz.func41 rfl
def q_zeroOf_oftype3:=BY Tryz.type3
def CK:=BY Tryz.type27
def DR:=BY Tryz.type28
def q_zeroOf_oftype24:=BY Tryz.type24
def q_szOf_oftype24:=AL Tryz.type24
def q_aggT_ofunderlying24:=BZ Tryz.underlying24
def FB:=AL Tryz.type4
def KE:=BZ Tryz.underlying4
def GV:=body_of Tryz.func104 rfl
def q_body_offunc68rfl:=body_of Tryz.func68 rfl
def II:=body_of Tryz.func103 rfl
def IN:=body_of Tryz.func90 rfl
def F0:=body_of Tryz.func101 rfl
def DC:=BY Tryz.type183
def IC:=BZ Tryz.underlying210
def HK:=AL Tryz.type210
def Gp:=body_of Tryz.func89 rfl
def GU:=body_of Tryz.func120 rfl
def Cq:=AL Tryz.type102
def Ek:=BZ Tryz.underlying102
def Bn:=AL Tryz.type104
def DO:=BZ Tryz.underlying104
def EC:=BY Tryz.type104
def DD:=AL Tryz.type139
def EZ:=AL Tryz.type138
def HI:=BZ Tryz.underlying139
def q_szOf_oftype25:=AL Tryz.type25
def q_aggT_ofunderlying25:=BZ Tryz.underlying25
def KT:=AL Tryz.type94
def IF:=BZ Tryz.underlying94
def BX:=AL Tryz.type95
def CY:=BZ Tryz.underlying95
def Dz:=BZ Tryz.underlying173
def BR:=AL Tryz.type97
def F1:=BY Tryz.type133
def An:=AL Tryz.type133
def ID:=BZ Tryz.underlying162
def Bl:=BZ Tryz.underlying133
def EB:=body_of Tryz.func134 rfl
def KH:=body_of Tryz.func200 rfl
def KG:=body_of Tryz.func178 rfl
def IG:=body_of Tryz.func162 rfl
def D5:=BY Tryz.type97
def FZ:=BZ Tryz.underlying97
def IH:=body_of Tryz.func168 rfl
def KS:=body_of Tryz.func96 rfl
def HJ:=body_of Tryz.func97 rfl
def IJ:=body_of Tryz.func99 rfl
def KM:=body_of Tryz.func112 rfl
def IM:=body_of Tryz.func92 rfl
def KF:=body_of Tryz.func106 rfl
def q_body_offunc69rfl:=body_of Tryz.func69 rfl
def IK:=body_of Tryz.func93 rfl
def IL:=body_of Tryz.func78 rfl
def F2:=body_of Tryz.func71 rfl
def KN:=body_of Tryz.func72 rfl
def q_body_offunc27rfl:=body_of Tryz.func27 rfl
theorem mixed:Tryz.prog.follows .mixedOrders=true:=rfl
theorem VI:P5 Tryz.prog 27:=⟨_,_,underlying27,by decide+kernel,by decide+kernel,by decide,by decide,underlying3,underlying3,rfl,rfl⟩
def f101(fuel:Nat)(p0:Int)(p1:Int)(p2:Int):Option (Bool):= Option.bind (if p0<p1 then(some true) else(some (decide (p2<p0)))) fun K=> some K
theorem Gf{p0:Int}{p1:Int}{p2:Int}{fuel:Nat}{r:Bool}(hD:f101 fuel p0 p1 p2=some r):Al J 101 [iV p0,iV p1,iV p2] E [] (fun w E' B'=>w= .bool r∧B'= []):=by
 refine Av func101 rfl rfl fun Q ah cs H hN U=>?_;unfold f101 at hD;obtain⟨V,Y,Z⟩:=bs hD;refine zg 10 rfl ?_;refine JLjoinR_ [8] (fun L s=>∃(K:LH),Jm E H K [] [(14,.bool V)] L s) ?_ ?_
 ·rintro _ _ ⟨K,rfl,rfl,aa,ab⟩;refine zg 2 rfl ?_;obtain rfl:=oi Z;refine Af func101 rfl rfl ?_;exact U _ _ _ _ aa rfl ⟨rfl,rfl⟩ ab
 ·intro O;refine C3 10 Y (fun ac ae=>?_) (fun ac ag=>?_)
  ·refine zg 4 rfl ?_;obtain rfl:=oi ae;exact JLkw_ (O _ _ ⟨E,rfl,rfl,lR_,hN⟩) rfl
  ·refine zg 4 rfl ?_;obtain rfl:=oi ag;exact JLkw_ (O _ _ ⟨E,rfl,rfl,lR_,hN⟩) rfl
def f104(fuel:Nat)(p0:Int)(p1:Int)(p2:Int):Option (Bool):= Option.bind (if p1≤p0 then(some (decide (p0≤p2))) else(some false)) fun K=> some K
theorem Hi{p0:Int}{p1:Int}{p2:Int}{fuel:Nat}{r:Bool}(hD:f104 fuel p0 p1 p2=some r):Al J 104 [iV p0,iV p1,iV p2] E [] (fun w E' B'=>w= .bool r∧B'= []):=by
 refine Av func104 rfl rfl fun Q ah cs H hN U=>?_;unfold f104 at hD;obtain⟨V,Y,Z⟩:=bs hD;refine zg 10 rfl ?_;refine JLjoinR_ [8] (fun L s=>∃(K:LH),Jm E H K [] [(14,.bool V)] L s) ?_ ?_
 ·rintro _ _ ⟨K,rfl,rfl,aa,ab⟩;refine zg 2 rfl ?_;obtain rfl:=oi Z;refine Af func104 rfl rfl ?_;exact U _ _ _ _ aa rfl ⟨rfl,rfl⟩ ab
 ·intro O;refine C3 10 Y (fun ac ae=>?_) (fun ac ag=>?_)
  ·refine zg 4 rfl ?_;obtain rfl:=oi ae;exact JLkw_ (O _ _ ⟨E,rfl,rfl,lR_,hN⟩) rfl
  ·refine zg 4 rfl ?_;obtain rfl:=oi ag;exact JLkw_ (O _ _ ⟨E,rfl,rfl,lR_,hN⟩) rfl
def JF(fuel:Nat)(p0:List Int)(p1:List Int)(K:Int):Option (AH (Int) ((Bool)⊕(Unit))):= Option.bind (if K<((p0).length:Int) then(some (decide (K<((p1).length:Int)))) else(some false)) fun O=> if O=true then((ix p0 (K)).bind fun U=> (ix p1 (K)).bind fun V=> if U≠V then(some (.done (Sum.inl false))) else((Ac (K+1)).bind fun Y=> some (.more Y))) else(some (.done (Sum.inr ())))
def f32(fuel:Nat)(p0:List Int)(p1:List Int):Option (Bool):= Option.bind (iter (JF fuel p0 p1) fuel 0) fun K=> Sum.elim (fun r=>some r) (fun O=> some (decide (((p0).length:Int)=((p1).length:Int)))) K
theorem f32_w{a1:OAd}{c2:Nat}{a4:OAd}{c5:Nat}{p0:List Int}{p1:List Int}(h3:LsR rI E a1 c2 (p0))(h6:LsR rI E a4 c5 (p1)){fuel:Nat}{r:Bool}(hD:f32 fuel p0 p1=some r):Al J 32 [sV a1 p0 c2,sV a4 p1 c5] E [] (fun w E' B'=>w= .bool r∧B'= []):=by
 refine Av func32 rfl rfl fun Q aP cs H hN ab=>?_;unfold f32 at hD;obtain⟨ac,am,ae⟩:=bs hD;refine zg 9 rfl ?_;refine JLjoin_ (fun L s=>∃(ag:Unit) (ah:LH),ac=Sum.inr ag∧Jm E H ah [] [(0,sV a1 p0 c2),(1,sV a4 p1 c5)] L s) ?_ ?_
 ·rintro _ _ ⟨ag,ah,rfl,rfl,rfl,an,hN19⟩;have ao:=elim_inr ae;refine zg 3 rfl ?_;refine JLln_ underlying28 rfl rfl rfl ?_;refine zg 1 rfl ?_;refine JLln_ underlying28 rfl rfl rfl ?_;refine zg 3 rfl ?_;obtain rfl:=oi ao;refine Af func32 rfl rfl ?_;exact ab _ _ _ _ an rfl ⟨rfl,rfl⟩ hN19
 ·intro ap;refine JL.block ?_;refine JLlw_ am (fun L s Z=>∃(K:LH),Jm E H K [] [(0,sV a1 p0 c2),(1,sV a4 p1 c5),(5,iV Z)] L s) ⟨E,rfl,rfl,lR_,hN⟩ ?_;rintro _ _ Z ⟨K,rfl,rfl,O,ai⟩ aj ⟨aQ,V⟩ aq;have ak:=V;unfold JF at ak;refine zg 5 rfl ?_;refine JLln_ underlying28 rfl rfl rfl ?_;obtain⟨ar,au,av⟩:=bs ak;refine zg 2 rfl ?_;refine JLjoinR_ [] (fun L s=>∃(Y:LH),Jm K H Y [] [(0,sV a1 p0 c2),(1,sV a4 p1 c5),(5,iV Z),(15,.bool ar)] L s) ?_ ?_
  ·rintro _ _ ⟨Y,rfl,rfl,U,aa⟩;refine JL.done ?_;refine JLfj_ av (fun aw ay=>?_) (fun aw az=>?_)
   ·refine zg 4 rfl ?_;refine JGd0_ 8 fun ht=>?_;refine JGms_ ht rfl [0,1] rfl ?_;obtain⟨aR,aA,aB⟩:=bs ay;refine JGjd_ 2 (h3.moq (O.trq U)) aA ht underlying28 q_szOf_oftype3 ?_;rintro aS aT _ rfl aC;refine JGld_ 3 ht 0 aC q_aggT_ofunderlying3 rfl rfl rfl rfl ?_;refine JGms_ ht rfl [4,5] rfl ?_;obtain⟨aU,aD,aE⟩:=bs aB;refine JGjd_ 6 (h6.moq (O.trq U)) aD ht underlying28 q_szOf_oftype3 ?_;rintro aV aW _ rfl aF;refine JGld_ 7 ht 0 aF q_aggT_ofunderlying3 rfl rfl rfl rfl ?_;refine JALlf_ [8] ?_;refine zg 2 rfl ?_;refine JLfi_ aE (fun aG aH=>?_) (fun aG aI=>?_)
    ·refine zg 4 rfl ?_;obtain rfl:=oi aH;obtain rfl:=aj _ V;have aJ:=elim_inl ae;obtain rfl:=oi aJ;refine Af func32 rfl rfl ?_;exact ab _ _ _ _ (O.trq U) rfl ⟨rfl,rfl⟩ aa
    ·obtain⟨aK,aL,aM⟩:=bs aI;refine zg 4 rfl ?_;refine JLaC_ aL rfl rfl rfl ?_;refine zg 2 rfl ?_;obtain rfl:=oi aM;exact JLkw_ (aq _ _ aK ⟨Y,rfl,rfl,(O.trq U),aa⟩ V) rfl
   ·refine JL.exit rfl ?_;obtain rfl:=oi az;have aN:ac=(Sum.inr ()):=(aj _ V).symm;exact JLkw_ (ap _ _ ⟨(),Y,aN,rfl,rfl,(O.trq U),aa⟩) rfl
  ·intro al;refine C3 10 au (fun c65 aO=>?_) (fun c65 hD68=>?_)
   ·refine zg 2 rfl ?_;refine JLln_ underlying28 rfl rfl rfl ?_;refine zg 2 rfl ?_;obtain rfl:=oi aO;exact JLkw_ (al _ _ ⟨K,rfl,rfl,lR_,ai⟩) rfl
   ·refine zg 5 rfl ?_;obtain rfl:=oi hD68;exact JLkw_ (al _ _ ⟨K,rfl,rfl,lR_,ai⟩) rfl
def JE(fuel:Nat)(p0:LKL)(p1:LKL)(K:Int):Option (AH (Int) ((Bool)⊕(Unit))):= Option.bind (if K<((p0).length:Int) then(some (decide (K<((p1).length:Int)))) else(some false)) fun V=> if V=true then((ix p0 (K)).bind fun O=> (ix p1 (K)).bind fun U=> if ¬(O.1=U.1∧O.2=U.2) then(some (.done (Sum.inl false))) else((Ac (K+1)).bind fun Y=> some (.more Y))) else(some (.done (Sum.inr ())))
def f34(fuel:Nat)(p0:LKL)(p1:LKL):Option (Bool):= Option.bind (iter (JE fuel p0 p1) fuel 0) fun K=> Sum.elim (fun r=>some r) (fun O=> some (decide (((p0).length:Int)=((p1).length:Int)))) K
theorem f34_w{a1:OAd}{c2:Nat}{a4:OAd}{c5:Nat}{p0:LKL}{p1:LKL}(h3:LsR rLK E a1 c2 (p0))(h6:LsR rLK E a4 c5 (p1)){fuel:Nat}{r:Bool}(hD:f34 fuel p0 p1=some r):Al J 34 [sV a1 p0 c2,sV a4 p1 c5] E [] (fun w E' B'=>w= .bool r∧B'= []):=by
 refine Av func34 rfl rfl fun Q aR cs H hN ab=>?_;unfold f34 at hD;obtain⟨ac,ao,ae⟩:=bs hD;refine zg 9 rfl ?_;refine JLjoin_ (fun L s=>∃(ag:Unit) (ah:LH),ac=Sum.inr ag∧Jm E H ah [] [(0,sV a1 p0 c2),(1,sV a4 p1 c5)] L s) ?_ ?_
 ·rintro _ _ ⟨ag,ah,rfl,rfl,rfl,ap,hN19⟩;have aq:=elim_inr ae;refine zg 3 rfl ?_;refine JLln_ underlying25 rfl rfl rfl ?_;refine zg 1 rfl ?_;refine JLln_ underlying25 rfl rfl rfl ?_;refine zg 3 rfl ?_;obtain rfl:=oi aq;refine Af func34 rfl rfl ?_;exact ab _ _ _ _ ap rfl ⟨rfl,rfl⟩ hN19
 ·intro ar;refine JL.block ?_;refine JLlw_ ao (fun L s Z=>∃(K:LH),Jm E H K [] [(0,sV a1 p0 c2),(1,sV a4 p1 c5),(5,iV Z)] L s) ⟨E,rfl,rfl,lR_,hN⟩ ?_;rintro _ _ Z ⟨K,rfl,rfl,O,ai⟩ aj ⟨aS,V⟩ au;have ak:=V;unfold JE at ak;refine zg 5 rfl ?_;refine JLln_ underlying25 rfl rfl rfl ?_;obtain⟨av,aw,ay⟩:=bs ak;refine zg 2 rfl ?_;refine JLjoinR_ [] (fun L s=>∃(Y:LH),Jm K H Y [] [(0,sV a1 p0 c2),(1,sV a4 p1 c5),(5,iV Z),(15,.bool av)] L s) ?_ ?_
  ·rintro _ _ ⟨Y,rfl,rfl,U,aa⟩;refine JL.done ?_;refine JLfj_ ay (fun az aA=>?_) (fun az aB=>?_)
   ·refine zg 4 rfl ?_;refine JGd0_ 8 fun ht=>?_;refine JGms_ ht rfl [0,1] rfl ?_;obtain⟨al,aC,aD⟩:=bs aA;refine JGjd_ 2 (h3.moq (O.trq U)) aC ht underlying25 q_szOf_oftype27 ?_;rintro aT aU _ ⟨_,_,rfl,rfl,rfl⟩ aE;refine JGldN_ 3 ht aE q_aggT_ofunderlying27 q_szOf_oftype27 rfl rfl rfl ?_;refine JGms_ ht rfl [4,5] rfl ?_;obtain⟨am,aF,aG⟩:=bs aD;refine JGjd_ 6 (h6.moq (O.trq U)) aF ht underlying25 q_szOf_oftype27 ?_;rintro aV aW _ ⟨_,_,rfl,rfl,rfl⟩ aH;refine JGldN_ 7 ht aH q_aggT_ofunderlying27 q_szOf_oftype27 rfl rfl rfl ?_;refine JALlf_ [8] ?_;refine Ae (v:= .bool (decide (¬(al.1=am.1∧al.2=am.2)))) rfl (fun ρ h=>SD (VI) (h _ _ rfl) (h _ _ rfl)) ?_;refine JL.done ?_;refine JLfi_ aG (fun aI aJ=>?_) (fun aI aK=>?_)
    ·refine zg 4 rfl ?_;obtain rfl:=oi aJ;obtain rfl:=aj _ V;have aL:=elim_inl ae;obtain rfl:=oi aL;refine Af func34 rfl rfl ?_;exact ab _ _ _ _ (O.trq U) rfl ⟨rfl,rfl⟩ aa
    ·obtain⟨aM,aN,aO⟩:=bs aK;refine zg 4 rfl ?_;refine JLaC_ aN rfl rfl rfl ?_;refine zg 2 rfl ?_;obtain rfl:=oi aO;exact JLkw_ (au _ _ aM ⟨Y,rfl,rfl,(O.trq U),aa⟩ V) rfl
   ·refine JL.exit rfl ?_;obtain rfl:=oi aB;have aP:ac=(Sum.inr ()):=(aj _ V).symm;exact JLkw_ (ar _ _ ⟨(),Y,aP,rfl,rfl,(O.trq U),aa⟩) rfl
  ·intro an;refine C3 10 aw (fun c65 aQ=>?_) (fun c65 hD68=>?_)
   ·refine zg 2 rfl ?_;refine JLln_ underlying25 rfl rfl rfl ?_;refine zg 2 rfl ?_;obtain rfl:=oi aQ;exact JLkw_ (an _ _ ⟨K,rfl,rfl,lR_,ai⟩) rfl
   ·refine zg 5 rfl ?_;obtain rfl:=oi hD68;exact JLkw_ (an _ _ ⟨K,rfl,rfl,lR_,ai⟩) rfl
def J5(fuel:Nat)(p0:List (List Int))(p1:List (List Int))(K:Int):Option (AH (Int) ((Bool)⊕(Unit))):= Option.bind (if K<((p0).length:Int) then(some (decide (K<((p1).length:Int)))) else(some false)) fun O=> if O=true then((ix p0 (K)).bind fun U=> (ix p1 (K)).bind fun V=> (f32 fuel U V).bind fun x56=> if(!x56)=true then(some (.done (Sum.inl false))) else((Ac (K+1)).bind fun Y=> some (.more Y))) else(some (.done (Sum.inr ())))
def f84(fuel:Nat)(p0:List (List Int))(p1:List (List Int)):Option (Bool):= Option.bind (iter (J5 fuel p0 p1) fuel 0) fun K=> Sum.elim (fun r=>some r) (fun O=> some (decide (((p0).length:Int)=((p1).length:Int)))) K
theorem PE{a1:OAd}{c2:Nat}{a4:OAd}{c5:Nat}{p0:List (List Int)}{p1:List (List Int)}(h3:LsR (rL rI) E a1 c2 (p0))(h6:LsR (rL rI) E a4 c5 (p1)){fuel:Nat}{r:Bool}(hD:f84 fuel p0 p1=some r):Al J 84 [sV a1 p0 c2,sV a4 p1 c5] E [] (fun w E' B'=>w= .bool r∧B'= []):=by
 refine Av func84 rfl rfl fun Q aS cs H hN aa=>?_;unfold f84 at hD;obtain⟨ab,am,ac⟩:=bs hD;refine zg 9 rfl ?_;refine JLjoin_ (fun L s=>∃(ae:Unit) (ag:LH),ab=Sum.inr ae∧Jm E H ag [] [(0,sV a1 p0 c2),(1,sV a4 p1 c5)] L s) ?_ ?_
 ·rintro _ _ ⟨ae,ag,rfl,rfl,rfl,an,hN19⟩;have ao:=elim_inr ac;refine zg 3 rfl ?_;refine JLln_ underlying22 rfl rfl rfl ?_;refine zg 1 rfl ?_;refine JLln_ underlying22 rfl rfl rfl ?_;refine zg 3 rfl ?_;obtain rfl:=oi ao;refine Af func84 rfl rfl ?_;exact aa _ _ _ _ an rfl ⟨rfl,rfl⟩ hN19
 ·intro ap;refine JL.block ?_;refine JLlw_ am (fun L s Y=>∃(K:LH),Jm E H K [] [(0,sV a1 p0 c2),(1,sV a4 p1 c5),(5,iV Y)] L s) ⟨E,rfl,rfl,lR_,hN⟩ ?_;rintro _ _ Y ⟨K,rfl,rfl,O,ah⟩ ai ⟨aT,V⟩ aq;have aj:=V;unfold J5 at aj;refine zg 5 rfl ?_;refine JLln_ underlying22 rfl rfl rfl ?_;obtain⟨ar,au,av⟩:=bs aj;refine zg 2 rfl ?_;refine JLjoinR_ [] (fun L s=>∃(Z:LH),Jm K H Z [] [(0,sV a1 p0 c2),(1,sV a4 p1 c5),(5,iV Y),(15,.bool ar)] L s) ?_ ?_
  ·rintro _ _ ⟨Z,rfl,rfl,U,ak⟩;refine JL.done ?_;refine JLfj_ av (fun aw ay=>?_) (fun aw az=>?_)
   ·refine zg 4 rfl ?_;refine JGd0_ 8 fun ht=>?_;refine JGms_ ht rfl [0,1] rfl ?_;obtain⟨aU,aA,aB⟩:=bs ay;refine JGjd_ 2 (h3.moq (O.trq U)) aA ht underlying22 Bg ?_;rintro aV aW _ ⟨aX,aY,rfl,aC⟩ aD;refine JGld_ 3 ht 0 aD BL rfl rfl rfl rfl ?_;refine JGms_ ht rfl [4,5] rfl ?_;obtain⟨aZ,aE,aF⟩:=bs aB;refine JGjd_ 6 (h6.moq (O.trq U)) aE ht underlying22 Bg ?_;rintro a0 a2 _ ⟨a3,a5,rfl,aG⟩ aH;refine JGld_ 7 ht 0 aH BL rfl rfl rfl rfl ?_;refine JALlf_ [8,9] ?_;obtain⟨x56,hx56,hD57⟩:=bs aF;refine JScz_ (f32_w aC aG hx56) rfl rfl q_body_offunc32rfl ak fun E58 hle59 hN60=>?_;refine Ae (v:= .bool (!x56)) rfl (fun ρ h=>Yl.not (h _ _ rfl)) ?_;refine JL.done ?_;refine JLfj_ hD57 (fun aI aJ=>?_) (fun aI aK=>?_)
    ·refine zg 4 rfl ?_;obtain rfl:=oi aJ;obtain rfl:=ai _ V;have aL:=elim_inl ac;obtain rfl:=oi aL;refine Af func84 rfl rfl ?_;exact aa _ _ _ _ ((O.trq U).trq hle59) rfl ⟨rfl,rfl⟩ hN60
    ·obtain⟨aM,aN,aO⟩:=bs aK;refine zg 4 rfl ?_;refine JLaC_ aN rfl rfl rfl ?_;refine zg 2 rfl ?_;obtain rfl:=oi aO;exact JLkw_ (aq _ _ aM ⟨E58,rfl,rfl,((O.trq U).trq hle59),hN60⟩ V) rfl
   ·refine JL.exit rfl ?_;obtain rfl:=oi az;have aP:ab=(Sum.inr ()):=(ai _ V).symm;exact JLkw_ (ap _ _ ⟨(),Z,aP,rfl,rfl,(O.trq U),ak⟩) rfl
  ·intro al;refine C3 10 au (fun aQ aR=>?_) (fun aQ hD79=>?_)
   ·refine zg 2 rfl ?_;refine JLln_ underlying22 rfl rfl rfl ?_;refine zg 2 rfl ?_;obtain rfl:=oi aR;exact JLkw_ (al _ _ ⟨K,rfl,rfl,lR_,ah⟩) rfl
   ·refine zg 5 rfl ?_;obtain rfl:=oi hD79;exact JLkw_ (al _ _ ⟨K,rfl,rfl,lR_,ah⟩) rfl
def f33(fuel:Nat)(p0:JW2)(p1:JW2):Option (Bool):= (f84 fuel p0.1 p1.1).bind fun x25=> Option.bind (if x25=true then((f84 fuel p0.2 p1.2).bind fun K=> some K) else(some false)) fun x31=> some x31
theorem f33_w{a1:OAd}{c2:Nat}{a4:OAd}{c5:Nat}{a7:OAd}{c8:Nat}{a10:OAd}{c11:Nat}{p0:JW2}{p1:JW2}(h3:LsR (rL rI) E a1 c2 (p0.1))(h6:LsR (rL rI) E a4 c5 (p0.2))(h9:LsR (rL rI) E a7 c8 (p1.1))(h12:LsR (rL rI) E a10 c11 (p1.2)){fuel:Nat}{r:Bool}(hD:f33 fuel p0 p1=some r):Al J 33 [.agg #[sV a1 p0.1 c2,sV a4 p0.2 c5],.agg #[sV a7 p1.1 c8,sV a10 p1.2 c11]] E [] (fun w E' B'=>w= .bool r∧B'= []):=by
 refine Av func33 rfl rfl fun Q ag cs H hN O=>?_;unfold f33 at hD;refine zg 2 rfl ?_;refine JS.box (v:= .agg #[sV a1 p0.1 c2,sV a4 p0.2 c5]) rfl rfl rfl hN rfl fun r14 hN13=>?_;refine JSfreezeB_ 1 hN13 rfl fun E15 hle16 h17 hN18=>?_;refine JS.box (v:= .agg #[sV a7 p1.1 c8,sV a10 p1.2 c11]) rfl rfl rfl hN18 rfl fun r20 hN19=>?_;refine JSfreezeB_ 2 hN19 rfl fun E21 hle22 h23 hN24=>?_;refine zg 4 rfl ?_;refine Ar underlying24 A6 rfl rfl rfl ?_;refine Aw 0 (h17.moq hle22) Br rfl rfl rfl ?_;refine Ar underlying24 A6 rfl rfl rfl ?_;refine Aw 0 h23 Br rfl rfl rfl ?_;obtain⟨x25,hx25,hD26⟩:=bs hD;refine JScz_ (PE (h3.moq (hle16.trq hle22)) (h9.moq (hle16.trq hle22)) hx25) rfl rfl (body_of func84 rfl) hN24 fun E27 hle28 hN29=>?_;obtain⟨x31,hJ32,hD33⟩:=bs hD26;refine zg 1 rfl ?_;refine JLjoinR_ [12] (fun L s=>∃(E34:LH),Jm E27 H E34 [] [(16,.bool x31)] L s) ?_ ?_
 ·rintro _ _ ⟨E34,rfl,rfl,hle35,hN36⟩;refine zg 2 rfl ?_;obtain rfl:=oi hD33;refine Af func33 rfl rfl ?_;exact O _ _ _ _ (((hle16.trq hle22).trq hle28).trq hle35) rfl ⟨rfl,rfl⟩ hN36
 ·intro K;refine JLgj_ 10 hJ32 (fun U V=>?_) (fun U Y=>?_)
  ·refine Ar underlying24 A6 rfl rfl rfl ?_;refine Aw 1 (h17.moq (hle22.trq hle28)) Br rfl rfl rfl ?_;refine Ar underlying24 A6 rfl rfl rfl ?_;refine Aw 1 (h23.moq hle28) Br rfl rfl rfl ?_;obtain⟨ah,Z,aa⟩:=bs V;refine JScz_ (PE (h6.moq ((hle16.trq hle22).trq hle28)) (h12.moq ((hle16.trq hle22).trq hle28)) Z) rfl rfl (body_of func84 rfl) hN29 fun ab ac ae=>?_;refine zg 1 rfl ?_;obtain rfl:=oi aa;exact JLkw_ (K _ _ ⟨ab,rfl,rfl,ac,ae⟩) rfl
  ·refine zg 6 rfl ?_;obtain rfl:=oi Y;exact JLkw_ (K _ _ ⟨E27,rfl,rfl,lR_,hN29⟩) rfl
def f23(fuel:Nat)(p0:List Int):Option ((A3)):= some (p0,0,2685821657736338717)
theorem f23_w{a1:OAd}{c2:Nat}{p0:List Int}(h3:LsR rI E a1 c2 (p0)){fuel:Nat}{r:(A3)}(hD:f23 fuel p0=some r):Al J 23 [sV a1 p0 c2] E [] (fun w E' B'=>∃(K:Nat) (O:OAd) (U:Nat),w= pV K 0∧B'= [(K,.cells #[sV O r.1 U,iV r.2.1,.int .u64 ((r.2.2:Nat):Int)] 92 (0,0))]∧LsR rI E' O U (r.1)):=by
 refine Av func23 rfl rfl fun Q aa cs H hN V=>?_;unfold f23 at hD;refine zg 7 rfl ?_;refine Ae (v:= .agg #[sV a1 p0 c2,iV 0,.int .u64 ((2685821657736338717:Nat):Int)]) rfl (fun ρ h=>BJ [(0,1),(1,1),(2,1)] h (BY type92) underlying92 ⟨rfl,AL type28,rfl,AL type3,rfl,AL type90,trivial⟩ rfl rfl) ?_;refine JS.box (v:= .agg #[sV a1 p0 c2,iV 0,.int .u64 ((2685821657736338717:Nat):Int)]) rfl rfl rfl hN rfl fun Y Z=>?_;refine zg 2 rfl ?_;obtain rfl:=oi hD;refine Af func23 rfl rfl ?_;exact V _ _ _ _ lR_ rfl ⟨Y,a1,c2,rfl,(by first | rfl | simp | (simp [Value.cells])),h3⟩ Z
def f100(fuel:Nat)(p0:A3):Option (Nat×(A3)):= (Ac (p0.2.1+1)).bind fun O=> Option.bind (if O≤((p0.1).length:Int) then((Ac (O - 1)).bind fun U=> (ix p0.1 (U)).bind fun V=> some (((((BI O)*11400714819323198485) % 2 ^ 64) ^^^ (((BI V)*14029467366897019727) % 2 ^ 64)) % 2 ^ 64)) else(some (((BI O)*11400714819323198485) % 2 ^ 64))) fun K=> some (((((((((((p0.2.2 ^^^ K) % 2 ^ 64)*18397679294719823053) % 2 ^ 64) ^^^ (((((p0.2.2 ^^^ K) % 2 ^ 64)*18397679294719823053) % 2 ^ 64)>>>33)) % 2 ^ 64)*14181476777654086739) % 2 ^ 64) ^^^ (((((((((p0.2.2 ^^^ K) % 2 ^ 64)*18397679294719823053) % 2 ^ 64) ^^^ (((((p0.2.2 ^^^ K) % 2 ^ 64)*18397679294719823053) % 2 ^ 64)>>>33)) % 2 ^ 64)*14181476777654086739) % 2 ^ 64)>>>29)) % 2 ^ 64)>>>11,(p0.1,O,(((((p0.2.2 ^^^ K) % 2 ^ 64)*18397679294719823053) % 2 ^ 64) ^^^ (((((p0.2.2 ^^^ K) % 2 ^ 64)*18397679294719823053) % 2 ^ 64)>>>33)) % 2 ^ 64))
theorem UZ{U:Nat}{a1:OAd}{c2:Nat}{p0:A3}(h3:LsR rI E a1 c2 (p0.1)){fuel:Nat}{r:Nat×(A3)}(hD:f100 fuel p0=some r):Al J 100 [pV U 0] E [(U,.cells #[sV a1 p0.1 c2,iV p0.2.1,.int .u64 ((p0.2.2:Nat):Int)] 92 (0,0))] (fun w E' B'=>∃(Z:OAd) (aa:Nat),w= .int .u64 ((r.1:Nat):Int)∧B'= [(U,.cells #[sV Z r.2.1 aa,iV r.2.2.1,.int .u64 ((r.2.2.2:Nat):Int)] 92 (0,0))]∧LsR rI E' Z aa (r.2.1)):=by
 refine Av func100 rfl rfl fun Q ay cs H hN ai=>?_;unfold f100 at hD;refine zg 8 rfl ?_;refine Ar underlying92 q_szOf_oftype3 rfl rfl rfl ?_;refine Ae (v:=iV p0.2.1) rfl (fun ρ h=>Yl.load q_aggT_ofunderlying3 (h _ _ rfl) (Cn (j:=0) (off:=1) hN rfl rfl)) ?_;obtain⟨V,aj,ak⟩:=bs hD;refine JLaC_ aj rfl rfl rfl ?_;refine zg 1 rfl ?_;refine Ar underlying92 q_szOf_oftype3 rfl rfl rfl ?_;refine JSst_ (v:=iV V) (off:=1) 0 hN q_szOf_oftype3 rfl rfl rfl rfl fun O=>?_;refine zg 5 rfl ?_;refine Ar underlying92 q_szOf_oftype3 rfl rfl rfl ?_;refine Ae (v:=iV V) rfl (fun ρ h=>Yl.load q_aggT_ofunderlying3 (h _ _ rfl) (Cn (j:=0) (off:=1) O rfl rfl)) ?_;refine Ae (v:= .int .u64 ((BI V:Nat):Int)) rfl (fun ρ h=>Yl.BI underlying3 underlying90 (h _ _ rfl)) ?_;refine Ae (v:= .int .u64 ((((BI V)*11400714819323198485) % 2 ^ 64:Nat):Int)) rfl (fun ρ h=>Je (h _ _ rfl) (h _ _ rfl)) ?_;refine zg 4 rfl ?_;refine BT 9 [U] ⟨⟨0,_,rfl⟩,trivial⟩ O fun ht=>?_;refine JGms_ ht rfl [0,1] rfl ?_;refine Bf 2 ht underlying92 q_szOf_oftype3 rfl rfl rfl rfl ?_;refine JGV_ (v:=iV V) 3 ht rfl rfl (fun ρ h s' hs=>Yl.load q_aggT_ofunderlying3 (h _ _ rfl) (AX (o:=1) 0 O rfl (by simp [Ak]) hs rfl)) ?_;refine JGms_ ht rfl [4,5] rfl ?_;refine Bf 6 ht underlying92 Bg rfl rfl rfl rfl ?_;refine JGV_ (v:= sV a1 p0.1 c2) 7 ht rfl rfl (fun ρ h s' hs=>Yl.load BL (h _ _ rfl) (AX (o:=0) 0 O rfl (by simp [Ak]) hs rfl)) ?_;refine JGV_ 8 ht rfl rfl (fun ρ h s' hs=>Yl.len rfl underlying28 (h _ _ rfl)) ?_;refine JALlf_ [9] ?_;obtain⟨K,al,am⟩:=bs ak;refine zg 2 rfl ?_;refine JLjoin_ (fun L s=>∃(ab:LH),Jm E H ab [[(U,.cells #[sV a1 p0.1 c2,iV V,.int .u64 ((p0.2.2:Nat):Int)] 92 (0,0))]] [(0,pV U 0),(3,.int .u64 ((K:Nat):Int))] L s) ?_ ?_
 ·rintro _ _ ⟨ab,rfl,rfl,ac,ae⟩;refine zg 5 rfl ?_;refine Ar underlying92 F3 rfl rfl rfl ?_;refine Ae (v:= .int .u64 ((p0.2.2:Nat):Int)) rfl (fun ρ h=>Yl.load IE (h _ _ rfl) (Cn (j:=0) (off:=2) ae rfl rfl)) ?_;refine zg 1 rfl ?_;refine Ae (v:= .int .u64 (((p0.2.2 ^^^ K) % 2 ^ 64:Nat):Int)) rfl (fun ρ h=>Jx (h _ _ rfl) (h _ _ rfl)) ?_;refine Ae (v:= .int .u64 (((((p0.2.2 ^^^ K) % 2 ^ 64)*18397679294719823053) % 2 ^ 64:Nat):Int)) rfl (fun ρ h=>Je (h _ _ rfl) (h _ _ rfl)) ?_;refine zg 1 rfl ?_;refine Ar underlying92 F3 rfl rfl rfl ?_;refine JSst_ (v:= .int .u64 (((((p0.2.2 ^^^ K) % 2 ^ 64)*18397679294719823053) % 2 ^ 64:Nat):Int)) (off:=2) 0 ae F3 rfl rfl rfl rfl fun hN13=>?_;refine zg 2 rfl ?_;refine BT 11 [U] ⟨⟨0,_,rfl⟩,trivial⟩ hN13 fun ht=>?_;refine JGms_ ht rfl [0,1,2] rfl ?_;refine Bf 3 ht underlying92 F3 rfl rfl rfl rfl ?_;refine JGV_ (v:= .int .u64 (((((p0.2.2 ^^^ K) % 2 ^ 64)*18397679294719823053) % 2 ^ 64:Nat):Int)) 4 ht rfl rfl (fun ρ h s' hs=>Yl.load IE (h _ _ rfl) (AX (o:=2) 0 hN13 rfl (by simp [Ak]) hs rfl)) ?_;refine JGms_ ht rfl [5,6] rfl ?_;refine Bf 7 ht underlying92 F3 rfl rfl rfl rfl ?_;refine JGV_ (v:= .int .u64 (((((p0.2.2 ^^^ K) % 2 ^ 64)*18397679294719823053) % 2 ^ 64:Nat):Int)) 8 ht rfl rfl (fun ρ h s' hs=>Yl.load IE (h _ _ rfl) (AX (o:=2) 0 hN13 rfl (by simp [Ak]) hs rfl)) ?_;refine JGV_ (v:= .int .u64 ((((((p0.2.2 ^^^ K) % 2 ^ 64)*18397679294719823053) % 2 ^ 64)>>>33:Nat):Int)) 9 ht rfl rfl (fun ρ h s' hs=>G8 33 (h _ _ rfl) (h _ _ rfl) (by decide)) ?_;refine JGV_ (v:= .int .u64 (((((((p0.2.2 ^^^ K) % 2 ^ 64)*18397679294719823053) % 2 ^ 64) ^^^ (((((p0.2.2 ^^^ K) % 2 ^ 64)*18397679294719823053) % 2 ^ 64)>>>33)) % 2 ^ 64:Nat):Int)) 10 ht rfl rfl (fun ρ h s' hs=>Jx (h _ _ rfl) (h _ _ rfl)) ?_;refine JALlf_ [11,12,13] ?_;refine zg 1 rfl ?_;refine Ar underlying92 F3 rfl rfl rfl ?_;refine JSst_ (v:= .int .u64 (((((((p0.2.2 ^^^ K) % 2 ^ 64)*18397679294719823053) % 2 ^ 64) ^^^ (((((p0.2.2 ^^^ K) % 2 ^ 64)*18397679294719823053) % 2 ^ 64)>>>33)) % 2 ^ 64:Nat):Int)) (off:=2) 0 hN13 F3 rfl rfl rfl rfl fun ag=>?_;refine zg 5 rfl ?_;refine Ar underlying92 F3 rfl rfl rfl ?_;refine Ae (v:= .int .u64 (((((((p0.2.2 ^^^ K) % 2 ^ 64)*18397679294719823053) % 2 ^ 64) ^^^ (((((p0.2.2 ^^^ K) % 2 ^ 64)*18397679294719823053) % 2 ^ 64)>>>33)) % 2 ^ 64:Nat):Int)) rfl (fun ρ h=>Yl.load IE (h _ _ rfl) (Cn (j:=0) (off:=2) ag rfl rfl)) ?_;refine Ae (v:= .int .u64 (((((((((p0.2.2 ^^^ K) % 2 ^ 64)*18397679294719823053) % 2 ^ 64) ^^^ (((((p0.2.2 ^^^ K) % 2 ^ 64)*18397679294719823053) % 2 ^ 64)>>>33)) % 2 ^ 64)*14181476777654086739) % 2 ^ 64:Nat):Int)) rfl (fun ρ h=>Je (h _ _ rfl) (h _ _ rfl)) ?_;refine zg 6 rfl ?_;refine Ae (v:= .int .u64 ((((((((((p0.2.2 ^^^ K) % 2 ^ 64)*18397679294719823053) % 2 ^ 64) ^^^ (((((p0.2.2 ^^^ K) % 2 ^ 64)*18397679294719823053) % 2 ^ 64)>>>33)) % 2 ^ 64)*14181476777654086739) % 2 ^ 64)>>>29:Nat):Int)) rfl (fun ρ h=>G8 29 (h _ _ rfl) (h _ _ rfl) (by decide)) ?_;refine Ae (v:= .int .u64 (((((((((((p0.2.2 ^^^ K) % 2 ^ 64)*18397679294719823053) % 2 ^ 64) ^^^ (((((p0.2.2 ^^^ K) % 2 ^ 64)*18397679294719823053) % 2 ^ 64)>>>33)) % 2 ^ 64)*14181476777654086739) % 2 ^ 64) ^^^ (((((((((p0.2.2 ^^^ K) % 2 ^ 64)*18397679294719823053) % 2 ^ 64) ^^^ (((((p0.2.2 ^^^ K) % 2 ^ 64)*18397679294719823053) % 2 ^ 64)>>>33)) % 2 ^ 64)*14181476777654086739) % 2 ^ 64)>>>29)) % 2 ^ 64:Nat):Int)) rfl (fun ρ h=>Jx (h _ _ rfl) (h _ _ rfl)) ?_;refine Ae (v:= .int .u64 ((((((((((((p0.2.2 ^^^ K) % 2 ^ 64)*18397679294719823053) % 2 ^ 64) ^^^ (((((p0.2.2 ^^^ K) % 2 ^ 64)*18397679294719823053) % 2 ^ 64)>>>33)) % 2 ^ 64)*14181476777654086739) % 2 ^ 64) ^^^ (((((((((p0.2.2 ^^^ K) % 2 ^ 64)*18397679294719823053) % 2 ^ 64) ^^^ (((((p0.2.2 ^^^ K) % 2 ^ 64)*18397679294719823053) % 2 ^ 64)>>>33)) % 2 ^ 64)*14181476777654086739) % 2 ^ 64)>>>29)) % 2 ^ 64)>>>11:Nat):Int)) rfl (fun ρ h=>G8 11 (h _ _ rfl) (h _ _ rfl) (by decide)) ?_;refine zg 2 rfl ?_;obtain rfl:=oi am;refine Af func100 rfl rfl ?_;exact ai _ _ _ _ ac rfl ⟨a1,c2,rfl,rfl,(h3.moq ac)⟩ ag
 ·intro ah;refine JLfi_ al (fun an ao=>?_) (fun an ap=>?_)
  ·refine BT 14 [U] ⟨⟨0,_,rfl⟩,trivial⟩ O fun ht=>?_;refine JGms_ ht rfl [0,1,2] rfl ?_;refine Bf 3 ht underlying92 Bg rfl rfl rfl rfl ?_;refine JGV_ (v:= sV a1 p0.1 c2) 4 ht rfl rfl (fun ρ h s' hs=>Yl.load BL (h _ _ rfl) (AX (o:=0) 0 O rfl (by simp [Ak]) hs rfl)) ?_;refine JGms_ ht rfl [5,6] rfl ?_;refine Bf 7 ht underlying92 q_szOf_oftype3 rfl rfl rfl rfl ?_;refine JGV_ (v:=iV V) 8 ht rfl rfl (fun ρ h s' hs=>Yl.load q_aggT_ofunderlying3 (h _ _ rfl) (AX (o:=1) 0 O rfl (by simp [Ak]) hs rfl)) ?_;obtain⟨az,aq,ar⟩:=bs ao;refine JGV_ 9 ht rfl rfl (fun ρ h s' hs=>BC (h _ _ rfl) (h _ _ rfl) aq) ?_;obtain⟨Y,au,av⟩:=bs ar;refine JGjd_ 10 h3 au ht underlying28 q_szOf_oftype3 ?_;rintro aA aB _ rfl aw;refine JGV_ (v:=iV Y) 11 ht rfl rfl (fun ρ h s' hs=>Yl.load q_aggT_ofunderlying3 (h _ _ rfl) (At.CF (j:=0) aw (CE O hs ⟨⟨0,_,rfl⟩,trivial⟩) rfl)) ?_;refine JGV_ (v:= .int .u64 ((BI Y:Nat):Int)) 12 ht rfl rfl (fun ρ h s' hs=>Yl.BI underlying3 underlying90 (h _ _ rfl)) ?_;refine JGV_ (v:= .int .u64 ((((BI Y)*14029467366897019727) % 2 ^ 64:Nat):Int)) 13 ht rfl rfl (fun ρ h s' hs=>Je (h _ _ rfl) (h _ _ rfl)) ?_;refine JALlf_ [14,15] ?_;refine Ae (v:= .int .u64 ((((((BI V)*11400714819323198485) % 2 ^ 64) ^^^ (((BI Y)*14029467366897019727) % 2 ^ 64)) % 2 ^ 64:Nat):Int)) rfl (fun ρ h=>Jx (h _ _ rfl) (h _ _ rfl)) ?_;refine zg 2 rfl ?_;obtain rfl:=oi av;exact JLkw_ (ah _ _ ⟨E,rfl,rfl,lR_,O⟩) rfl
  ·refine JL.skip ?_;obtain rfl:=oi ap;exact JLkw_ (ah _ _ ⟨E,rfl,rfl,lR_,O⟩) rfl
def f41(fuel:Nat)(p0:A3)(p1:Int):Option (Int×(A3)):= (f100 fuel p0).bind fun K=> if p1<1 then(some (0,K.2)) else((J7 (K.1) ((BI p1+1) % 2 ^ 64)).bind fun O=> some (Iw O,K.2))
theorem f41_w{K:Nat}{a1:OAd}{c2:Nat}{p0:A3}{p1:Int}(h3:LsR rI E a1 c2 (p0.1)){fuel:Nat}{r:Int×(A3)}(hD:f41 fuel p0 p1=some r):Al J 41 [pV K 0,iV p1] E [(K,.cells #[sV a1 p0.1 c2,iV p0.2.1,.int .u64 ((p0.2.2:Nat):Int)] 92 (0,0))] (fun w E' B'=>∃(O:OAd) (U:Nat),w=iV r.1∧B'= [(K,.cells #[sV O r.2.1 U,iV r.2.2.1,.int .u64 ((r.2.2.2:Nat):Int)] 92 (0,0))]∧LsR rI E' O U (r.2.1)):=by
 refine Av func41 rfl rfl fun Q an cs H hN V=>?_;unfold f41 at hD;obtain⟨ao,ag,ah⟩:=bs hD;refine zg 7 rfl ?_;refine JSclL_ 0 (UZ h3 ag) rfl rfl (body_of func100 rfl) hN rfl ?_;rintro _ ap _ Y ⟨Z,aa,rfl,rfl,ab⟩ ac;refine zg 8 rfl ?_;refine JLfi_ ah (fun ai aj=>?_) (fun ai ak=>?_)
 ·refine zg 4 rfl ?_;obtain rfl:=oi aj;refine Af func41 rfl rfl ?_;exact V _ _ _ _ Y rfl ⟨Z,aa,rfl,rfl,ab⟩ ac
 ·refine zg 5 rfl ?_;refine Ae (v:= .int .u64 ((BI p1:Nat):Int)) rfl (fun ρ h=>Yl.BI underlying3 underlying90 (h _ _ rfl)) ?_;refine Ae (v:= .int .u64 (((BI p1+1) % 2 ^ 64:Nat):Int)) rfl (fun ρ h=>TB (h _ _ rfl) (h _ _ rfl)) ?_;obtain⟨ae,al,am⟩:=bs ak;refine Ae (v:= .int .u64 ((ae:Nat):Int)) rfl (fun ρ h=>SI (h _ _ rfl) (h _ _ rfl) al) ?_;refine Ae (v:=iV (Iw ae)) rfl (fun ρ h=>U9 underlying90 underlying3 (h _ _ rfl)) ?_;refine zg 2 rfl ?_;obtain rfl:=oi am;refine Af func41 rfl rfl ?_;exact V _ _ _ _ Y rfl ⟨Z,aa,rfl,rfl,ab⟩ ac
def f96(fuel:Nat)(p0:A3)(p1:Int)(p2:Int):Option (Int×(A3)):= (Ac (p2 - p1)).bind fun O=> (f41 fuel p0 O).bind fun K=> (Ac (p1+K.1)).bind fun U=> some (U,K.2)
theorem LZ{K:Nat}{a1:OAd}{c2:Nat}{p0:A3}{p1:Int}{p2:Int}(h3:LsR rI E a1 c2 (p0.1)){fuel:Nat}{r:Int×(A3)}(hD:f96 fuel p0 p1 p2=some r):Al J 96 [pV K 0,iV p1,iV p2] E [(K,.cells #[sV a1 p0.1 c2,iV p0.2.1,.int .u64 ((p0.2.2:Nat):Int)] 92 (0,0))] (fun w E' B'=>∃(O:OAd) (U:Nat),w=iV r.1∧B'= [(K,.cells #[sV O r.2.1 U,iV r.2.2.1,.int .u64 ((r.2.2.2:Nat):Int)] 92 (0,0))]∧LsR rI E' O U (r.2.1)):=by
 refine Av func96 rfl rfl fun Q al cs H hN V=>?_;unfold f96 at hD;obtain⟨am,Y,Z⟩:=bs hD;refine zg 10 rfl ?_;refine A9 Y rfl rfl rfl ?_;obtain⟨an,aa,ab⟩:=bs Z;refine JSclL_ 0 (f41_w h3 aa) rfl rfl q_body_offunc41rfl hN rfl ?_;rintro _ ao _ ac ⟨ae,ag,rfl,rfl,ah⟩ ai;obtain⟨ap,aj,ak⟩:=bs ab;refine JLaC_ aj rfl rfl rfl ?_;refine zg 2 rfl ?_;obtain rfl:=oi ak;refine Af func96 rfl rfl ?_;exact V _ _ _ _ ac rfl ⟨ae,ag,rfl,rfl,ah⟩ ai
def f97(fuel:Nat)(p0:A3)(p1:Int):Option (Bool×(A3)):= (Ac (p1 - 1)).bind fun O=> (f41 fuel p0 O).bind fun K=> some (decide (K.1=0),K.2)
theorem Ii{K:Nat}{a1:OAd}{c2:Nat}{p0:A3}{p1:Int}(h3:LsR rI E a1 c2 (p0.1)){fuel:Nat}{r:Bool×(A3)}(hD:f97 fuel p0 p1=some r):Al J 97 [pV K 0,iV p1] E [(K,.cells #[sV a1 p0.1 c2,iV p0.2.1,.int .u64 ((p0.2.2:Nat):Int)] 92 (0,0))] (fun w E' B'=>∃(O:OAd) (U:Nat),w= .bool r.1∧B'= [(K,.cells #[sV O r.2.1 U,iV r.2.2.1,.int .u64 ((r.2.2.2:Nat):Int)] 92 (0,0))]∧LsR rI E' O U (r.2.1)):=by
 refine Av func97 rfl rfl fun Q aj cs H hN V=>?_;unfold f97 at hD;obtain⟨ak,Y,Z⟩:=bs hD;refine zg 8 rfl ?_;refine A9 Y rfl rfl rfl ?_;obtain⟨al,aa,ab⟩:=bs Z;refine JSclL_ 0 (f41_w h3 aa) rfl rfl q_body_offunc41rfl hN rfl ?_;rintro _ am _ ac ⟨ae,ag,rfl,rfl,ah⟩ ai;refine zg 3 rfl ?_;obtain rfl:=oi ab;refine Af func97 rfl rfl ?_;exact V _ _ _ _ ac rfl ⟨ae,ag,rfl,rfl,ah⟩ ai
def f99(fuel:Nat)(p0:A3)(p1:List Int):Option (Int×(A3)):= (Ac (((p1).length:Int) - 1)).bind fun O=> (f41 fuel p0 O).bind fun K=> (ix p1 (K.1)).bind fun U=> some (U,K.2)
theorem Kg{K:Nat}{a1:OAd}{c2:Nat}{a4:OAd}{c5:Nat}{p0:A3}{p1:List Int}(h3:LsR rI E a1 c2 (p0.1))(h6:LsR rI E a4 c5 (p1)){fuel:Nat}{r:Int×(A3)}(hD:f99 fuel p0 p1=some r):Al J 99 [pV K 0,sV a4 p1 c5] E [(K,.cells #[sV a1 p0.1 c2,iV p0.2.1,.int .u64 ((p0.2.2:Nat):Int)] 92 (0,0))] (fun w E' B'=>∃(O:OAd) (U:Nat),w=iV r.1∧B'= [(K,.cells #[sV O r.2.1 U,iV r.2.2.1,.int .u64 ((r.2.2.2:Nat):Int)] 92 (0,0))]∧LsR rI E' O U (r.2.1)):=by
 refine Av func99 rfl rfl fun Q al cs H hN Y=>?_;unfold f99 at hD;refine zg 9 rfl ?_;refine JLln_ underlying28 rfl rfl rfl ?_;obtain⟨am,Z,aa⟩:=bs hD;refine A9 Z rfl rfl rfl ?_;obtain⟨an,ab,ac⟩:=bs aa;refine JSclL_ 0 (f41_w h3 ab) rfl rfl q_body_offunc41rfl hN rfl ?_;rintro _ ao _ V ⟨ae,ag,rfl,rfl,ah⟩ hN13;obtain⟨ap,ai,aj⟩:=bs ac;refine Bp (h6.moq V) ai rfl rfl rfl rfl rfl underlying28 q_szOf_oftype3 ?_;rintro aq ar _ rfl ak;refine Aw 0 ak q_aggT_ofunderlying3 rfl rfl rfl ?_;refine zg 2 rfl ?_;obtain rfl:=oi aj;refine Af func99 rfl rfl ?_;exact Y _ _ _ _ V rfl ⟨ae,ag,rfl,rfl,ah⟩ hN13
def Hh(fuel:Nat)(p0:List Int)(p1:Int)(K:(List Int)×Bool×Int):Option (AH ((List Int)×Bool×Int) ((List Int)×Bool)):= if K.2.2<((p0).length:Int) then((ix p0 (K.2.2)).bind fun U=> Option.bind (if p1≤U then(some (!K.2.1)) else(some false)) fun V=> Option.bind (if V=true then((room K.1 p1).bind fun Y=> some (Y,true)) else(some (K.1,K.2.1))) fun O=> (ix p0 (K.2.2)).bind fun Z=> Option.bind (if Z≠p1 then((ix p0 (K.2.2)).bind fun aa=> (room O.1 aa).bind fun ab=> some ab) else(some O.1)) fun ac=> (Ac (K.2.2+1)).bind fun ae=> some (.more (ac,O.2,ae))) else(some (.done (K.1,K.2.1)))
def f98(fuel:Nat)(p0:List Int)(p1:Int):Option ((List Int)):= Option.bind (iter (Hh fuel p0 p1) fuel ([],false,0)) fun K=> Option.bind (if(!K.2)=true then((room K.1 p1).bind fun O=> some O) else(some K.1)) fun U=> some U
theorem PH{a1:OAd}{c2:Nat}{p0:List Int}{p1:Int}(h3:LsR rI E a1 c2 (p0)){fuel:Nat}{r:(List Int)}(hD:f98 fuel p0 p1=some r):Al J 98 [sV a1 p0 c2,iV p1] E [] (fun w E' B'=>∃(aE:OAd) (aF:Nat),w= sV aE r aF∧B'= []∧LsR rI E' aE aF (r)):=by
 refine Av func98 rfl rfl fun Q b5 cs H hN aQ=>?_;unfold f98 at hD;obtain⟨al,aR,aS⟩:=bs hD;refine zg 17 rfl ?_;refine JLjoin_ (fun L s=>∃(Y:LH) (ab:OAd) (ac:Nat) (am:Seg),Jn E H Y [am] [(1,iV p1),(5,sV ab al.1 ac),(6,.bool al.2)] L s (OL 3 rI Y ab ac am (al.1))) ?_ ?_
 ·rintro _ _ ⟨Y,ab,ac,am,rfl,rfl,aT,aG,h23⟩;refine zg 4 rfl ?_;refine Ae (v:= .bool (!al.2)) rfl (fun ρ h=>Yl.not (h _ _ rfl)) ?_;obtain⟨aH,aU,aV⟩:=bs aS;refine JL.done ?_;refine JLjoin_ (fun L s=>∃(aw:LH) (an:OAd) (ao:Nat) (ay:Seg),Jn Y H aw [ay] [(5,sV an aH ao)] L s (OL 3 rI aw an ao ay (aH))) ?_ ?_
  ·rintro _ _ ⟨aw,an,ao,ay,rfl,rfl,aW,aX,aY⟩;refine zg 5 rfl ?_;refine JSfreezeL_ 0 aY aX rfl fun b6 aZ a0 a2=>?_;obtain rfl:=oi aV;refine Af func98 rfl rfl ?_;exact aQ _ _ _ _ ((aT.trq aW).trq aZ) rfl ⟨an,ao,rfl,rfl,a0⟩ a2
  ·intro aI;refine JLfj_ aU (fun a3 hD45=>?_) (fun a3 a5=>?_)
   ·obtain⟨b7,a6,a8⟩:=bs hD45;refine zg 3 rfl ?_;refine JS.app (pp:=rI) (v:=iV p1) (a:=ab) (c:=ac) 0 a6 rfl rfl rfl rfl (fun _=>rfl) rfl (fun _=>rfl) rfl rfl rfl underlying28 underlying28 underlying28 q_szOf_oftype3 (Bz type3) q_zeroOf_oftype3 rfl (by decide) (by decide) (by decide) (by decide) h23 rfl aG rfl fun b8 a9 ba bb bc hN50=>?_;refine zg 2 rfl ?_;obtain rfl:=oi a8;exact JLkw_ (aI _ _ ⟨Y,a9,ba,bb,rfl,rfl,lR_,hN50,bc⟩) rfl
   ·refine JL.skip ?_;obtain rfl:=oi a5;exact JLkw_ (aI _ _ ⟨Y,ab,ac,am,rfl,rfl,lR_,aG,h23⟩) rfl
 ·intro bd;refine JL.block ?_;refine JLlw_ aR (fun L s K=>∃(O:LH) (U:OAd) (V:Nat) (Z:Seg),Jn E H O [Z] [(0,sV a1 p0 c2),(1,iV p1),(5,sV U K.1 V),(6,.bool K.2.1),(7,iV K.2.2)] L s (OL 3 rI O U V Z (K.1))) ⟨E,none,0,[],rfl,rfl,lR_,hN,OL.nil⟩ ?_;rintro _ _ K ⟨O,U,V,Z,rfl,rfl,ae,az,aA⟩ bf ⟨b9,aB⟩ bg;have aJ:=aB;unfold Hh at aJ;refine zg 5 rfl ?_;refine JLln_ underlying28 rfl rfl rfl ?_;refine zg 2 rfl ?_;refine JLfi_ aJ (fun bh bi=>?_) (fun bh bj=>?_)
  ·obtain⟨ca,bk,bl⟩:=bs bi;refine zg 8 rfl ?_;refine Bp (h3.moq ae) bk rfl rfl rfl rfl rfl underlying28 q_szOf_oftype3 ?_;rintro cb cc _ rfl bm;refine Aw 0 bm q_aggT_ofunderlying3 rfl rfl rfl ?_;obtain⟨bn,bo,bp⟩:=bs bl;refine zg 3 rfl ?_;refine JLjoinR_ [] (fun L s=>∃(ag:LH),Jm O H ag [Z] [(0,sV a1 p0 c2),(1,iV p1),(5,sV U K.1 V),(6,.bool K.2.1),(7,iV K.2.2),(23,.bool bn)] L s) ?_ ?_
   ·rintro _ _ ⟨ag,rfl,rfl,ah,aK⟩;obtain⟨ai,bq,br⟩:=bs bp;refine JL.done ?_;refine JLjoin_ (fun L s=>∃(aa:LH) (aj:OAd) (ak:Nat) (ap:Seg),Jn ag H aa [ap] [(0,sV a1 p0 c2),(1,iV p1),(5,sV aj ai.1 ak),(6,.bool ai.2),(7,iV K.2.2)] L s (OL 3 rI aa aj ak ap (ai.1))) ?_ ?_
    ·rintro _ _ ⟨aa,aj,ak,ap,rfl,rfl,aC,aL,aM⟩;obtain⟨cd,bu,bv⟩:=bs br;refine zg 4 rfl ?_;refine Bp (h3.moq ((ae.trq ah).trq aC)) bu rfl rfl rfl rfl rfl underlying28 q_szOf_oftype3 ?_;rintro ce cf _ rfl h100;refine Aw 0 h100 q_aggT_ofunderlying3 rfl rfl rfl ?_;obtain⟨aD,bw,bx⟩:=bs bv;refine zg 3 rfl ?_;refine JLjoin_ (fun L s=>∃(aq:LH) (ar:OAd) (au:Nat) (av:Seg),Jn aa H aq [av] [(0,sV a1 p0 c2),(1,iV p1),(5,sV ar aD au),(6,.bool ai.2),(7,iV K.2.2)] L s (OL 3 rI aq ar au av (aD))) ?_ ?_
     ·rintro _ _ ⟨aq,ar,au,av,rfl,rfl,bz,bA,bB⟩;obtain⟨bC,bD,bE⟩:=bs bx;refine zg 3 rfl ?_;refine JLaC_ bD rfl rfl rfl ?_;refine zg 2 rfl ?_;obtain rfl:=oi bE;exact JLkw_ (bg _ _ (aD,ai.2,bC) ⟨aq,ar,au,av,rfl,rfl,(((ae.trq ah).trq aC).trq bz),bA,bB⟩ aB) rfl
     ·intro aN;refine JLfi_ bw (fun bF bG=>?_) (fun bF bH=>?_)
      ·obtain⟨bI,bJ,bK⟩:=bs bG;refine zg 4 rfl ?_;refine Bp (h3.moq ((ae.trq ah).trq aC)) bJ rfl rfl rfl rfl rfl underlying28 q_szOf_oftype3 ?_;rintro cg ci _ rfl h123;refine Aw 0 h123 q_aggT_ofunderlying3 rfl rfl rfl ?_;obtain⟨ck,bL,bM⟩:=bs bK;refine JS.app (pp:=rI) (v:=iV bI) (a:=aj) (c:=ak) 0 bL rfl rfl rfl rfl (fun _=>rfl) rfl (fun _=>rfl) rfl rfl rfl underlying28 underlying28 underlying28 q_szOf_oftype3 (Bz type3) q_zeroOf_oftype3 rfl (by decide) (by decide) (by decide) (by decide) aM rfl aL rfl fun cm bN bO bP bQ bR=>?_;refine zg 2 rfl ?_;obtain rfl:=oi bM;exact JLkw_ (aN _ _ ⟨aa,bN,bO,bP,rfl,rfl,lR_,bR,bQ⟩) rfl
      ·refine JL.skip ?_;obtain rfl:=oi bH;exact JLkw_ (aN _ _ ⟨aa,aj,ak,ap,rfl,rfl,lR_,aL,aM⟩) rfl
    ·intro aO;refine JLfj_ bq (fun bS bT=>?_) (fun bS bU=>?_)
     ·obtain⟨cn,bV,bW⟩:=bs bT;refine zg 3 rfl ?_;refine JS.app (pp:=rI) (v:=iV p1) (a:=U) (c:=V) 0 bV rfl rfl rfl rfl (fun _=>rfl) rfl (fun _=>rfl) rfl rfl rfl underlying28 underlying28 underlying28 q_szOf_oftype3 (Bz type3) q_zeroOf_oftype3 rfl (by decide) (by decide) (by decide) (by decide) (aA.moq ah) rfl aK rfl fun co bX bY bZ b0 b1=>?_;refine zg 3 rfl ?_;obtain rfl:=oi bW;exact JLkw_ (aO _ _ ⟨ag,bX,bY,bZ,rfl,rfl,lR_,b1,b0⟩) rfl
     ·refine JL.skip ?_;obtain rfl:=oi bU;exact JLkw_ (aO _ _ ⟨ag,U,V,Z,rfl,rfl,lR_,aK,(aA.moq ah)⟩) rfl
   ·intro aP;refine C3 20 bo (fun b2 b3=>?_) (fun b2 b4=>?_)
    ·refine zg 1 rfl ?_;refine Ae (v:= .bool (!K.2.1)) rfl (fun ρ h=>Yl.not (h _ _ rfl)) ?_;refine zg 1 rfl ?_;obtain rfl:=oi b3;exact JLkw_ (aP _ _ ⟨O,rfl,rfl,lR_,az⟩) rfl
    ·refine zg 3 rfl ?_;obtain rfl:=oi b4;exact JLkw_ (aP _ _ ⟨O,rfl,rfl,lR_,az⟩) rfl
  ·refine JL.exit rfl ?_;obtain rfl:=oi bj;obtain rfl:=bf _ aB;exact JLkw_ (bd _ _ ⟨O,U,V,Z,rfl,rfl,ae,az,aA⟩) rfl
def f108(fuel:Nat)(p0:List Int):Option ((List Int)):= (Cj ([]:List Int) p0).bind fun K=> some K
theorem Up{a1:OAd}{c2:Nat}{p0:List Int}(h3:LsR rI E a1 c2 (p0)){fuel:Nat}{r:(List Int)}(hD:f108 fuel p0=some r):Al J 108 [sV a1 p0 c2] E [] (fun w E' B'=>∃(K:OAd) (O:Nat),w= sV K r O∧B'= []∧LsR rI E' K O (r)):=by
 refine Av func108 rfl rfl fun Q ai cs H hN U=>?_;unfold f108 at hD;refine zg 6 rfl ?_;refine H8 (pp:=rI) rfl rfl rfl underlying28 q_szOf_oftype3 hN fun aj ak h6 V=>?_;obtain⟨al,Y,Z⟩:=bs hD;refine zg 1 rfl ?_;refine H0 (pp:=rI) 1 Y rfl rfl rfl rfl rfl rfl rfl underlying28 underlying28 q_szOf_oftype3 (Bz type3) q_zeroOf_oftype3 rfl (by decide) (by decide) h6 h3 V rfl fun aa ab am ac ae=>?_;refine zg 2 rfl ?_;refine JSfreezeL_ 1 ac ae rfl fun an ag ah hN19=>?_;obtain rfl:=oi Z;refine Af func108 rfl rfl ?_;exact U _ _ _ _ ag rfl ⟨aa,ab,rfl,rfl,ah⟩ hN19
def f27(fuel:Nat)(p0:LKL):Option ((LKL)):= (Cj ([]:LKL) p0).bind fun K=> some K
theorem f27_w{a1:OAd}{c2:Nat}{p0:LKL}(h3:LsR rLK E a1 c2 (p0)){fuel:Nat}{r:(LKL)}(hD:f27 fuel p0=some r):Al J 27 [sV a1 p0 c2] E [] (fun w E' B'=>∃(K:OAd) (O:Nat),w= sV K r O∧B'= []∧LsR rLK E' K O (r)):=by
 refine Av func27 rfl rfl fun Q ai cs H hN U=>?_;unfold f27 at hD;refine zg 6 rfl ?_;refine H8 (pp:=rLK) rfl rfl rfl underlying25 q_szOf_oftype27 hN fun aj ak h6 V=>?_;obtain⟨al,Y,Z⟩:=bs hD;refine zg 1 rfl ?_;refine H0 (pp:=rLK) 1 Y rfl rfl rfl rfl rfl rfl rfl underlying25 underlying25 q_szOf_oftype27 (Bz type27) CK rfl (by decide) (by decide) h6 h3 V rfl fun aa ab am ac ae=>?_;refine zg 2 rfl ?_;refine JSfreezeL_ 1 ac ae rfl fun an ag ah hN19=>?_;obtain rfl:=oi Z;refine Af func27 rfl rfl ?_;exact U _ _ _ _ ag rfl ⟨aa,ab,rfl,rfl,ah⟩ hN19
def Jz(fuel:Nat)(p0:List (List Int))(x39:(List (List Int))×Int):Option (AH ((List (List Int))×Int) ((List (List Int)))):= if x39.2<((p0).length:Int) then((ix p0 (x39.2)).bind fun K=> (f108 fuel K).bind fun O=> (ix x39.1 (x39.2)).bind fun V=> (Ac (x39.2+1)).bind fun U=> some (.more ((x39.1.set (Int.toNat x39.2) O),U))) else(some (.done x39.1))
def f77(fuel:Nat)(p0:List (List Int)):Option ((List (List Int))):= (Gi ((p0).length:Int) ([]:List Int)).bind fun K=> Option.bind (iter (Jz fuel p0) fuel (K,0)) fun O=> some O
theorem PS{a1:OAd}{c2:Nat}{p0:List (List Int)}(h3:LsR (rL rI) E a1 c2 (p0)){fuel:Nat}{r:(List (List Int))}(hD:f77 fuel p0=some r):Al J 77 [sV a1 p0 c2] E [] (fun w E' B'=>∃(ak:OAd) (al:Nat),w= sV ak r al∧B'= []∧LsR (rL rI) E' ak al (r)):=by
 refine Av func77 rfl rfl fun Q bh cs H hN av=>?_;unfold f77 at hD;refine zg 7 rfl ?_;refine JLln_ underlying22 rfl rfl rfl ?_;obtain⟨aw,ay,az⟩:=bs hD;refine JS.make (pp:=(rL rI)) ay rfl rfl rfl rfl rfl underlying22 Bg (Bz type28) (by decide) DR (by decide) ⟨_,_,rfl,LsR.nil⟩ hN fun aA aB aC aD=>?_;obtain⟨am,aE,aF⟩:=bs az;refine zg 7 rfl ?_;refine JLjoin_ (fun L s=>∃(ae:LH) (V:OAd) (Y:Nat) (ag:Seg),Jn E H ae [ag] [(3,sV V am Y)] L s (OL 28 (rL rI) ae V Y ag (am))) ?_ ?_
 ·rintro _ _ ⟨ae,V,Y,ag,rfl,rfl,aG,aH,aI⟩;refine zg 5 rfl ?_;refine JSfreezeL_ 0 aI aH rfl fun bi aJ aK hN36=>?_;obtain rfl:=oi aF;refine Af func77 rfl rfl ?_;exact av _ _ _ _ (aG.trq aJ) rfl ⟨V,Y,rfl,rfl,aK⟩ hN36
 ·intro aL;refine JL.block ?_;refine JLlw_ aE (fun L s x39=>∃(Z:LH) (O:OAd) (U:Nat) (aa:Seg),Jn E H Z [aa] [(0,sV a1 p0 c2),(3,sV O x39.1 U),(4,iV x39.2)] L s (OL 28 (rL rI) Z O U aa (x39.1))) ⟨E,(some ⟨aA,0,none⟩),(aw).length,aB,rfl,rfl,lR_,aD,aC⟩ ?_;rintro _ _ x39 ⟨Z,O,U,aa,rfl,rfl,ah,an,ao⟩ aM ⟨bj,ai⟩ aN;have ap:=ai;unfold Jz at ap;refine zg 5 rfl ?_;refine JLln_ underlying22 rfl rfl rfl ?_;refine zg 2 rfl ?_;refine JLfi_ ap (fun c53 aO=>?_) (fun c53 hD91=>?_)
  ·obtain⟨aP,aQ,aR⟩:=bs aO;refine zg 8 rfl ?_;refine Bp (h3.moq ah) aQ rfl rfl rfl rfl rfl underlying22 Bg ?_;rintro aS aT _ ⟨aU,aV,rfl,aW⟩ aX;refine Aw 0 aX BL rfl rfl rfl ?_;obtain⟨K,aY,aZ⟩:=bs aR;refine JScl_ (Up aW aY) rfl rfl (body_of func108 rfl) an ?_;rintro _ a0 _ aq ⟨ab,ac,rfl,rfl,a2⟩ a3;obtain⟨bk,a5,a6⟩:=bs aZ;refine Jb 0 (ao.moq aq) a5 rfl rfl rfl rfl rfl rfl underlying22 Bg ?_;rintro ar aj f78 _ a8 ⟨bl,bm,rfl,bn⟩ bo a9 ba bp bq;refine JS.store (v:= sV ab K ac) (off:=aj) 0 rfl rfl rfl a3 rfl rfl Bg (by simp [Value.cells,Ba]) a8 (by have:=a9;simp only [Rp.n,rK,rN,rB,rP,rL] at this;show _+1≤_;omega) fun bb=>?_;have bc:=ba (K) [sV ab K ac] ⟨_,_,rfl,a2⟩;have au:(x39.1.set (Int.toNat x39.2) K).length=(x39.1).length:=List.length_set;refine FG (L':= [(0,.slice a1 (p0).length c2),(3,.slice O ((x39.1.set (Int.toNat x39.2) K)).length U),(4,iV x39.2),(8,iV x39.2),(9,.slice a1 (p0).length c2),(10,iV ((p0).length:Int)),(11,.bool (decide (x39.2<((p0).length:Int)))),(14,.slice O ((x39.1.set (Int.toNat x39.2) K)).length U),(15,iV x39.2),(16,.slice a1 (p0).length c2),(17,iV x39.2),(18,pV aS aT),(19,.slice aU (aP).length aV),(20,.slice ab (K).length ac),(21,pV ar aj)]) ⟨rfl,by rw [au];rfl,rfl,rfl,rfl,rfl,rfl,by rw [au];rfl,rfl,rfl,rfl,rfl,rfl,rfl,rfl,trivial⟩ ?_;obtain⟨bd,bf,bg⟩:=bs a6;refine zg 4 rfl ?_;refine JLaC_ bf rfl rfl rfl ?_;refine zg 2 rfl ?_;obtain rfl:=oi bg;exact JLkw_ (aN _ _ ((x39.1.set (Int.toNat x39.2) K),bd) ⟨a0,O,U,[(ar,.cells (AJ f78 aj [sV ab K ac]) 28 (0,0))],rfl,rfl,(ah.trq aq),bb,bc⟩ ai) rfl
  ·refine JL.exit rfl ?_;obtain rfl:=oi hD91;obtain rfl:=aM _ ai;exact JLkw_ (aL _ _ ⟨Z,O,U,aa,rfl,rfl,ah,an,ao⟩) rfl
def f26(fuel:Nat)(p0:JW2):Option ((JW2)):= (f77 fuel p0.1).bind fun K=> (f77 fuel p0.2).bind fun O=> some (K,O)
theorem f26_w{a1:OAd}{c2:Nat}{a4:OAd}{c5:Nat}{p0:JW2}(h3:LsR (rL rI) E a1 c2 (p0.1))(h6:LsR (rL rI) E a4 c5 (p0.2)){fuel:Nat}{r:(JW2)}(hD:f26 fuel p0=some r):Al J 26 [.agg #[sV a1 p0.1 c2,sV a4 p0.2 c5]] E [] (fun w E' B'=>∃(ab:OAd) (ac:Nat) (ae:OAd) (ag:Nat),w= .agg #[sV ab r.1 ac,sV ae r.2 ag]∧B'= []∧LsR (rL rI) E' ab ac (r.1)∧LsR (rL rI) E' ae ag (r.2)):=by
 refine Av func26 rfl rfl fun Q aA cs H hN al=>?_;unfold f26 at hD;refine zg 2 rfl ?_;refine JS.box (v:= .agg #[sV a1 p0.1 c2,sV a4 p0.2 c5]) rfl rfl rfl hN rfl fun aB am=>?_;refine JSfreezeB_ 1 am rfl fun aC aa ah an=>?_;refine JS.alloc rfl rfl rfl an q_zeroOf_oftype24 fun aD ao=>?_;refine zg 2 rfl ?_;refine JGd0_ 5 fun ht=>?_;refine Bf 0 ht underlying24 A6 rfl rfl rfl rfl ?_;refine JGld_ 1 ht 0 ah Br rfl rfl rfl rfl ?_;refine Bf 3 ht underlying24 A6 rfl rfl rfl rfl ?_;refine JGld_ 4 ht 1 ah Br rfl rfl rfl rfl ?_;obtain⟨Y,ap,aq⟩:=bs hD;refine JG.call (i:=2) (vs:= [sV a1 p0.1 c2]) (PS (h3.moq aa) ap) (by decide+kernel) rfl rfl rfl (body_of func77 rfl) rfl ao ?_;rintro _ aE _ ai ⟨K,O,rfl,rfl,h23⟩ ar;refine JALlf_ [5,6,7] ?_;obtain⟨Z,au,av⟩:=bs aq;refine JScl_ (PS (h6.moq (aa.trq ai)) au) rfl rfl (body_of func77 rfl) ar ?_;rintro _ aF _ aj ⟨U,V,rfl,rfl,aw⟩ ay;refine Ae (v:= .agg #[sV K Y O,sV U Z V]) rfl (fun ρ h=>BJ [(0,1),(1,1)] h q_zeroOf_oftype24 underlying24 ⟨rfl,AL type22,rfl,AL type22,trivial⟩ rfl rfl) ?_;refine JSst_ (v:= .agg #[sV K Y O,sV U Z V]) (off:=0) 2 ay q_szOf_oftype24 rfl rfl rfl rfl fun ak=>?_;refine JL.done ?_;obtain rfl:=oi av;refine JL.ret (v:= .agg #[sV K Y O,sV U Z V]) rfl rfl (Bc.list func26 rfl (vs:= [.agg #[sV K Y O,sV U Z V]]) ⟨⟨_,rfl,Ld.many (vs:= [sV K Y O,sV U Z V]) q_aggT_ofunderlying24 q_szOf_oftype24 (DT (off:=0) 2 ak rfl rfl)⟩,trivial⟩) ?_;refine Gd 2 ak rfl fun az=>?_;exact al _ _ _ _ ((aa.trq ai).trq aj) rfl ⟨K,O,U,V,rfl,rfl,(h23.moq aj),aw⟩ az
def JD(fuel:Nat)(p0:List (List Int))(K:Int):Option (AH (Int) ((Bool)⊕(Unit))):= Option.bind (if K<((p0).length:Int) then(some (decide (K<20))) else(some false)) fun O=> if O=true then((ix p0 (K)).bind fun U=> if 20<((U).length:Int) then(some (.done (Sum.inl true))) else((Ac (K+1)).bind fun V=> some (.more V))) else(some (.done (Sum.inr ())))
def f76(fuel:Nat)(p0:List (List Int)):Option (Bool):= Option.bind (iter (JD fuel p0) fuel 0) fun K=> Sum.elim (fun r=>some r) (fun O=> some (decide (20<((p0).length:Int)))) K
theorem PK{a1:OAd}{c2:Nat}{p0:List (List Int)}(h3:LsR (rL rI) E a1 c2 (p0)){fuel:Nat}{r:Bool}(hD:f76 fuel p0=some r):Al J 76 [sV a1 p0 c2] E [] (fun w E' B'=>w= .bool r∧B'= []):=by
 refine Av func76 rfl rfl fun Q aM cs H hN Z=>?_;unfold f76 at hD;obtain⟨aa,ak,ab⟩:=bs hD;refine zg 9 rfl ?_;refine JLjoin_ (fun L s=>∃(ac:Unit) (ae:LH),aa=Sum.inr ac∧Jm E H ae [] [(0,sV a1 p0 c2)] L s) ?_ ?_
 ·rintro _ _ ⟨ac,ae,rfl,rfl,rfl,al,am⟩;have an:=elim_inr ab;refine zg 3 rfl ?_;refine JLln_ underlying22 rfl rfl rfl ?_;refine zg 3 rfl ?_;obtain rfl:=oi an;refine Af func76 rfl rfl ?_;exact Z _ _ _ _ al rfl ⟨rfl,rfl⟩ am
 ·intro ao;refine JL.block ?_;refine JLlw_ ak (fun L s V=>∃(E21:LH),Jm E H E21 [] [(0,sV a1 p0 c2),(3,iV V)] L s) ⟨E,rfl,rfl,lR_,hN⟩ ?_;rintro _ _ V ⟨E21,rfl,rfl,hle22,ag⟩ ah ⟨aN,K⟩ ap;have ai:=K;unfold JD at ai;refine zg 5 rfl ?_;refine JLln_ underlying22 rfl rfl rfl ?_;obtain⟨aq,ar,au⟩:=bs ai;refine zg 2 rfl ?_;refine JLjoinR_ [] (fun L s=>∃(O:LH),Jm E21 H O [] [(0,sV a1 p0 c2),(3,iV V),(11,.bool aq)] L s) ?_ ?_
  ·rintro _ _ ⟨O,rfl,rfl,U,Y⟩;refine JL.done ?_;refine JLfj_ au (fun av aw=>?_) (fun av ay=>?_)
   ·obtain⟨aO,az,hD38⟩:=bs aw;refine zg 7 rfl ?_;refine Bp (h3.moq (hle22.trq U)) az rfl rfl rfl rfl rfl underlying22 Bg ?_;rintro aP aQ _ ⟨aR,aS,rfl,aT⟩ aA;refine Aw 0 aA BL rfl rfl rfl ?_;refine JLln_ underlying28 rfl rfl rfl ?_;refine zg 2 rfl ?_;refine JLfi_ hD38 (fun aB aC=>?_) (fun aB aD=>?_)
    ·refine zg 4 rfl ?_;obtain rfl:=oi aC;obtain rfl:=ah _ K;have aE:=elim_inl ab;obtain rfl:=oi aE;refine Af func76 rfl rfl ?_;exact Z _ _ _ _ (hle22.trq U) rfl ⟨rfl,rfl⟩ Y
    ·obtain⟨aF,aG,aH⟩:=bs aD;refine zg 4 rfl ?_;refine JLaC_ aG rfl rfl rfl ?_;refine zg 2 rfl ?_;obtain rfl:=oi aH;exact JLkw_ (ap _ _ aF ⟨O,rfl,rfl,(hle22.trq U),Y⟩ K) rfl
   ·refine JL.exit rfl ?_;obtain rfl:=oi ay;have aI:aa=(Sum.inr ()):=(ah _ K).symm;exact JLkw_ (ao _ _ ⟨(),O,aI,rfl,rfl,(hle22.trq U),Y⟩) rfl
  ·intro aj;refine C3 8 ar (fun aJ aK=>?_) (fun aJ aL=>?_)
   ·refine zg 3 rfl ?_;obtain rfl:=oi aK;exact JLkw_ (aj _ _ ⟨E21,rfl,rfl,lR_,ag⟩) rfl
   ·refine zg 3 rfl ?_;obtain rfl:=oi aL;exact JLkw_ (aj _ _ ⟨E21,rfl,rfl,lR_,ag⟩) rfl
def f21(fuel:Nat)(p0:JW2):Option (Bool):= (f76 fuel p0.1).bind fun K=> Option.bind (if K=true then(some true) else((f76 fuel p0.2).bind fun x31=> some x31)) fun O=> some O
theorem f21_w{a1:OAd}{c2:Nat}{a4:OAd}{c5:Nat}{p0:JW2}(h3:LsR (rL rI) E a1 c2 (p0.1))(h6:LsR (rL rI) E a4 c5 (p0.2)){fuel:Nat}{r:Bool}(hD:f21 fuel p0=some r):Al J 21 [.agg #[sV a1 p0.1 c2,sV a4 p0.2 c5]] E [] (fun w E' B'=>w= .bool r∧B'= []):=by
 refine Av func21 rfl rfl fun Q ar cs H hN Y=>?_;unfold f21 at hD;refine zg 2 rfl ?_;refine JS.box (v:= .agg #[sV a1 p0.1 c2,sV a4 p0.2 c5]) rfl rfl rfl hN rfl fun au Z=>?_;refine JSfreezeB_ 1 Z rfl fun av K O aa=>?_;refine zg 4 rfl ?_;refine Ar underlying24 A6 rfl rfl rfl ?_;refine Aw 0 O Br rfl rfl rfl ?_;obtain⟨aw,ab,ac⟩:=bs hD;refine JScz_ (PK (h3.moq K) ab) rfl rfl (body_of func76 rfl) aa fun E15 hle16 U=>?_;obtain⟨ae,ag,ah⟩:=bs ac;refine zg 1 rfl ?_;refine JLjoinR_ [8] (fun L s=>∃(E21:LH),Jm E15 H E21 [] [(10,.bool ae)] L s) ?_ ?_
 ·rintro _ _ ⟨E21,rfl,rfl,hle22,ai⟩;refine zg 2 rfl ?_;obtain rfl:=oi ah;refine Af func21 rfl rfl ?_;exact Y _ _ _ _ ((K.trq hle16).trq hle22) rfl ⟨rfl,rfl⟩ ai
 ·intro V;refine JLgj_ 6 ag (fun aj ak=>?_) (fun aj al=>?_)
  ·refine zg 4 rfl ?_;obtain rfl:=oi ak;exact JLkw_ (V _ _ ⟨E15,rfl,rfl,lR_,U⟩) rfl
  ·refine Ar underlying24 A6 rfl rfl rfl ?_;refine Aw 1 (O.moq hle16) Br rfl rfl rfl ?_;obtain⟨x31,am,an⟩:=bs al;refine JScz_ (PK (h6.moq (K.trq hle16)) am) rfl rfl (body_of func76 rfl) U fun ao ap aq=>?_;refine zg 1 rfl ?_;obtain rfl:=oi an;exact JLkw_ (V _ _ ⟨ao,rfl,rfl,ap,aq⟩) rfl
def Jd(fuel:Nat)(p0:List Bool)(K:(List Int)×Int):Option (AH ((List Int)×Int) ((List Int))):= if K.2<((p0).length:Int) then((ix p0 (K.2)).bind fun O=> Option.bind (if O=true then((room K.1 K.2).bind fun U=> some U) else(some K.1)) fun V=> (Ac (K.2+1)).bind fun Y=> some (.more (V,Y))) else(some (.done K.1))
def f111(fuel:Nat)(p0:List Bool):Option ((List Int)):= Option.bind (iter (Jd fuel p0) fuel ([],0)) fun K=> some K
theorem Vy{a1:OAd}{c2:Nat}{p0:List Bool}(h3:LsR rB E a1 c2 (p0)){fuel:Nat}{r:(List Int)}(hD:f111 fuel p0=some r):Al J 111 [sV a1 p0 c2] E [] (fun w E' B'=>∃(an:OAd) (ao:Nat),w= sV an r ao∧B'= []∧LsR rI E' an ao (r)):=by
 refine Av func111 rfl rfl fun Q a0 cs H hN ar=>?_;unfold f111 at hD;obtain⟨ap,au,av⟩:=bs hD;refine zg 13 rfl ?_;refine JLjoin_ (fun L s=>∃(ag:LH) (Y:OAd) (Z:Nat) (ah:Seg),Jn E H ag [ah] [(3,sV Y ap Z)] L s (OL 3 rI ag Y Z ah (ap))) ?_ ?_
 ·rintro _ _ ⟨ag,Y,Z,ah,rfl,rfl,aw,ay,h23⟩;refine zg 5 rfl ?_;refine JSfreezeL_ 0 h23 ay rfl fun a2 az aA hN29=>?_;obtain rfl:=oi av;refine Af func111 rfl rfl ?_;exact ar _ _ _ _ (aw.trq az) rfl ⟨Y,Z,rfl,rfl,aA⟩ hN29
 ·intro aB;refine JL.block ?_;refine JLlw_ au (fun L s O=>∃(K:LH) (U:OAd) (c37:Nat) (V:Seg),Jn E H K [V] [(0,sV a1 p0 c2),(3,sV U O.1 c37),(4,iV O.2)] L s (OL 3 rI K U c37 V (O.1))) ⟨E,none,0,[],rfl,rfl,lR_,hN,OL.nil⟩ ?_;rintro _ _ O ⟨K,U,c37,V,rfl,rfl,ai,aj,ak⟩ aC ⟨a3,al⟩ aD;have hD45:=al;unfold Jd at hD45;refine zg 5 rfl ?_;refine JLln_ underlying68 rfl rfl rfl ?_;refine zg 2 rfl ?_;refine JLfi_ hD45 (fun aE hD47=>?_) (fun aE aF=>?_)
  ·obtain⟨a5,aG,aH⟩:=bs hD47;refine zg 7 rfl ?_;refine Bp (h3.moq ai) aG rfl rfl rfl rfl rfl underlying68 FB ?_;rintro a6 a8 _ rfl aI;refine Aw 0 aI KE rfl rfl rfl ?_;obtain⟨am,aJ,aK⟩:=bs aH;refine JL.done ?_;refine JLjoin_ (fun L s=>∃(aa:LH) (ab:OAd) (ac:Nat) (ae:Seg),Jn K H aa [ae] [(0,sV a1 p0 c2),(3,sV ab am ac),(4,iV O.2)] L s (OL 3 rI aa ab ac ae (am))) ?_ ?_
   ·rintro _ _ ⟨aa,ab,ac,ae,rfl,rfl,aL,aM,aN⟩;obtain⟨aO,aP,aQ⟩:=bs aK;refine zg 3 rfl ?_;refine JLaC_ aP rfl rfl rfl ?_;refine zg 2 rfl ?_;obtain rfl:=oi aQ;exact JLkw_ (aD _ _ (am,aO) ⟨aa,ab,ac,ae,rfl,rfl,(ai.trq aL),aM,aN⟩ al) rfl
   ·intro aq;refine JLfj_ aJ (fun aR aS=>?_) (fun aR aT=>?_)
    ·obtain⟨a9,aU,aV⟩:=bs aS;refine zg 3 rfl ?_;refine JS.app (pp:=rI) (v:=iV O.2) (a:=U) (c:=c37) 0 aU rfl rfl rfl rfl (fun _=>rfl) rfl (fun _=>rfl) rfl rfl rfl underlying28 underlying28 underlying28 q_szOf_oftype3 (Bz type3) q_zeroOf_oftype3 rfl (by decide) (by decide) (by decide) (by decide) ak rfl aj rfl fun ba aW aX aY h74 aZ=>?_;refine zg 2 rfl ?_;obtain rfl:=oi aV;exact JLkw_ (aq _ _ ⟨K,aW,aX,aY,rfl,rfl,lR_,aZ,h74⟩) rfl
    ·refine JL.skip ?_;obtain rfl:=oi aT;exact JLkw_ (aq _ _ ⟨K,U,c37,V,rfl,rfl,lR_,aj,ak⟩) rfl
  ·refine JL.exit rfl ?_;obtain rfl:=oi aF;obtain rfl:=aC _ al;exact JLkw_ (aB _ _ ⟨K,U,c37,V,rfl,rfl,ai,aj,ak⟩) rfl
def Jk(fuel:Nat)(p0:JW2)(p1:List Int)(K:Int):Option (AH (Int) ((Int)⊕(Unit))):= if K<((p1).length:Int) then((ix p1 (K)).bind fun O=> (Ac (((p0.1).length:Int) - 1)).bind fun x56=> (f104 fuel O 0 x56).bind fun U=> if(!U)=true then(some (.done (Sum.inl 3))) else(Option.bind (if 0<K then((ix p1 (K)).bind fun V=> (Ac (K - 1)).bind fun Y=> (ix p1 (Y)).bind fun Z=> some (decide (V≤Z))) else(some false)) fun aa=> if aa=true then(some (.done (Sum.inl 5))) else((Ac (K+1)).bind fun ab=> some (.more ab)))) else(some (.done (Sum.inr ())))
def f114(fuel:Nat)(p0:JW2)(p1:List Int):Option (Int):= if((p1).length:Int)=0 then(some 7) else(if 3<((p1).length:Int) then(some 6) else(Option.bind (iter (Jk fuel p0 p1) fuel 0) fun K=> Sum.elim (fun r=>some r) (fun O=> some 0) K))
theorem Vb{a1:OAd}{c2:Nat}{a4:OAd}{c5:Nat}{a7:OAd}{c8:Nat}{p0:JW2}{p1:List Int}(h3:LsR (rL rI) E a1 c2 (p0.1))(h6:LsR (rL rI) E a4 c5 (p0.2))(h9:LsR rI E a7 c8 (p1)){fuel:Nat}{r:Int}(hD:f114 fuel p0 p1=some r):Al J 114 [.agg #[sV a1 p0.1 c2,sV a4 p0.2 c5],sV a7 p1 c8] E [] (fun w E' B'=>w=iV r∧B'= []):=by
 refine Av func114 rfl rfl fun Q ba cs H hN O=>?_;unfold f114 at hD;refine zg 2 rfl ?_;refine JS.box (v:= .agg #[sV a1 p0.1 c2,sV a4 p0.2 c5]) rfl rfl rfl hN rfl fun ag an=>?_;refine JSfreezeB_ 1 an rfl fun Z K ao aa=>?_;refine zg 6 rfl ?_;refine JLln_ underlying28 rfl rfl rfl ?_;refine zg 2 rfl ?_;refine JLfi_ hD (fun ap aq=>?_) (fun ap ar=>?_)
 ·refine zg 4 rfl ?_;obtain rfl:=oi aq;refine Af func114 rfl rfl ?_;exact O _ _ _ _ K rfl ⟨rfl,rfl⟩ aa
 ·refine zg 5 rfl ?_;refine JLln_ underlying28 rfl rfl rfl ?_;refine zg 2 rfl ?_;refine JLfi_ ar (fun au av=>?_) (fun au aw=>?_)
  ·refine zg 4 rfl ?_;obtain rfl:=oi av;refine Af func114 rfl rfl ?_;exact O _ _ _ _ K rfl ⟨rfl,rfl⟩ aa
  ·obtain⟨ah,ay,ab⟩:=bs aw;refine zg 6 rfl ?_;refine JLjoin_ (fun L s=>∃(ai:Unit) (E34:LH),ah=Sum.inr ai∧Jm Z H E34 [] [] L s) ?_ ?_
   ·rintro _ _ ⟨ai,E34,rfl,rfl,rfl,hle35,hN36⟩;have az:=elim_inr ab;refine zg 4 rfl ?_;obtain rfl:=oi az;refine Af func114 rfl rfl ?_;exact O _ _ _ _ (K.trq hle35) rfl ⟨rfl,rfl⟩ hN36
   ·intro aA;refine JL.block ?_;refine JLlw_ ay (fun L s Y=>∃(E41:LH),Jm Z H E41 [] [(1,sV a7 p1 c8),(2,pV ag 0),(5,iV Y)] L s) ⟨Z,rfl,rfl,lR_,aa⟩ ?_;rintro _ _ Y ⟨E41,rfl,rfl,hle42,hN43⟩ ac ⟨bb,U⟩ aB;have aj:=U;unfold Jk at aj;refine zg 5 rfl ?_;refine JLln_ underlying28 rfl rfl rfl ?_;refine zg 2 rfl ?_;refine JLfi_ aj (fun aC aD=>?_) (fun aC hD104=>?_)
    ·refine zg 5 rfl ?_;refine JGd0_ 8 fun ht=>?_;refine JGms_ ht rfl [0,1] rfl ?_;obtain⟨bc,aE,aF⟩:=bs aD;refine JGjd_ 2 (h9.moq (K.trq hle42)) aE ht underlying28 q_szOf_oftype3 ?_;rintro bd bf _ rfl aG;refine JGld_ 3 ht 0 aG q_aggT_ofunderlying3 rfl rfl rfl rfl ?_;refine Bf 4 ht underlying24 A6 rfl rfl rfl rfl ?_;refine JGld_ 5 ht 0 (ao.moq hle42) Br rfl rfl rfl rfl ?_;refine JGV_ 6 ht rfl rfl (fun ρ h s' hs=>Yl.len rfl underlying22 (h _ _ rfl)) ?_;obtain⟨x56,hx56,hD57⟩:=bs aF;refine JGV_ 7 ht rfl rfl (fun ρ h s' hs=>BC (h _ _ rfl) (h _ _ rfl) hx56) ?_;refine JALlf_ [8,9] ?_;obtain⟨aH,aI,aJ⟩:=bs hD57;refine JScz_ (Hi aI) rfl rfl GV hN43 fun ak V ae=>?_;refine Ae (v:= .bool (!aH)) rfl (fun ρ h=>Yl.not (h _ _ rfl)) ?_;refine JL.done ?_;refine JLfj_ aJ (fun aK aL=>?_) (fun aK aM=>?_)
     ·refine zg 4 rfl ?_;obtain rfl:=oi aL;obtain rfl:=ac _ U;have aN:=elim_inl ab;obtain rfl:=oi aN;refine Af func114 rfl rfl ?_;exact O _ _ _ _ ((K.trq hle42).trq V) rfl ⟨rfl,rfl⟩ ae
     ·refine zg 2 rfl ?_;refine JGd0_ 14 fun ht=>?_;refine JGms_ ht rfl [0,1,2] rfl ?_;obtain⟨aO,al,aP⟩:=bs aM;refine JALjoin_ 0 #[true,true,true,true,true,true,true,true,true,true,true,true,true,true] (fun L s=>L= [(1,sV a7 p1 c8),(2,pV ag 0),(5,iV Y),(41,.bool aO)]∧s=mkS ak H [[]]) ?_ ?_
      ·rintro _ _ ⟨rfl,rfl⟩;refine JAL.fin (by decide+kernel) ?_;refine JLfj_ aP (fun aQ aR=>?_) (fun aQ aS=>?_)
       ·refine zg 4 rfl ?_;obtain rfl:=oi aR;obtain rfl:=ac _ U;have aT:=elim_inl ab;obtain rfl:=oi aT;refine Af func114 rfl rfl ?_;exact O _ _ _ _ ((K.trq hle42).trq V) rfl ⟨rfl,rfl⟩ ae
       ·obtain⟨aU,aV,aW⟩:=bs aS;refine zg 4 rfl ?_;refine JLaC_ aV rfl rfl rfl ?_;refine zg 2 rfl ?_;obtain rfl:=oi aW;exact JLkw_ (aB _ _ aU ⟨ak,rfl,rfl,(hle42.trq V),ae⟩ U) rfl
      ·intro am;refine JALcasesB_ (q:=0<Y) (i:=30) rfl (fun c87=>?_) (fun c87=>?_)
       ·have aX:=ip al c87;refine JGms_ ht rfl [3,4] rfl ?_;obtain⟨bg,aY,aZ⟩:=bs aX;refine JGjd_ 5 (h9.moq ((K.trq hle42).trq V)) aY ht underlying28 q_szOf_oftype3 ?_;rintro bh bi _ rfl a0;refine JGld_ 6 ht 0 a0 q_aggT_ofunderlying3 rfl rfl rfl rfl ?_;refine JGms_ ht rfl [7,8] rfl ?_;obtain⟨bj,a2,a3⟩:=bs aZ;refine JGV_ 9 ht rfl rfl (fun ρ h s' hs=>BC (h _ _ rfl) (h _ _ rfl) a2) ?_;obtain⟨bk,a5,a6⟩:=bs a3;refine JGjd_ 10 (h9.moq ((K.trq hle42).trq V)) a5 ht underlying28 q_szOf_oftype3 ?_;rintro bl bm _ rfl h100;refine JGld_ 11 ht 0 h100 q_aggT_ofunderlying3 rfl rfl rfl rfl ?_;refine JGms_ ht rfl [12,13] rfl ?_;obtain rfl:=oi a6;refine JALweak_ ?_ (am _ _ ⟨rfl,rfl⟩);exact⟨rfl,rfl,rfl,rfl,trivial⟩
       ·have a8:=im al c87;refine JGms_ ht rfl [3,4,5,6,7,8,9,10,11,12,13] rfl ?_;obtain rfl:=oi a8;refine JALweak_ ?_ (am _ _ ⟨rfl,rfl⟩);exact⟨rfl,rfl,rfl,rfl,trivial⟩
    ·refine JL.exit rfl ?_;obtain rfl:=oi hD104;have a9:ah=(Sum.inr ()):=(ac _ U).symm;exact JLkw_ (aA _ _ ⟨(),E41,a9,rfl,rfl,hle42,hN43⟩) rfl
def Jg(fuel:Nat)(p0:JW2)(p1:Int)(p2:List Int)(K:Int):Option (AH (Int) ((Int)⊕(Unit))):= if K<((p2).length:Int) then((ix p2 (K)).bind fun O=> (Ac (((p0.1).length:Int) - 1)).bind fun U=> (f104 fuel O 0 U).bind fun V=> if(!V)=true then(some (.done (Sum.inl 3))) else((ix p2 (K)).bind fun Y=> if Y=p1 then(some (.done (Sum.inl 8))) else(Option.bind (if 0<K then((ix p2 (K)).bind fun Z=> (Ac (K - 1)).bind fun aa=> (ix p2 (aa)).bind fun ab=> some (decide (Z≤ab))) else(some false)) fun x78=> if x78=true then(some (.done (Sum.inl 5))) else((Ac (K+1)).bind fun ac=> some (.more ac))))) else(some (.done (Sum.inr ())))
def f115(fuel:Nat)(p0:JW2)(p1:Int)(p2:List Int):Option (Int):= if 3<((p2).length:Int) then(some 6) else(Option.bind (iter (Jg fuel p0 p1 p2) fuel 0) fun K=> Sum.elim (fun r=>some r) (fun O=> some 0) K)
theorem VA{a1:OAd}{c2:Nat}{a4:OAd}{c5:Nat}{a7:OAd}{c8:Nat}{p0:JW2}{p1:Int}{p2:List Int}(h3:LsR (rL rI) E a1 c2 (p0.1))(h6:LsR (rL rI) E a4 c5 (p0.2))(h9:LsR rI E a7 c8 (p2)){fuel:Nat}{r:Int}(hD:f115 fuel p0 p1 p2=some r):Al J 115 [.agg #[sV a1 p0.1 c2,sV a4 p0.2 c5],iV p1,sV a7 p2 c8] E [] (fun w E' B'=>w=iV r∧B'= []):=by
 refine Av func115 rfl rfl fun Q bn cs H hN Y=>?_;unfold f115 at hD;refine zg 2 rfl ?_;refine JS.box (v:= .agg #[sV a1 p0.1 c2,sV a4 p0.2 c5]) rfl rfl rfl hN rfl fun ai au=>?_;refine JSfreezeB_ 1 au rfl fun ae O av aj=>?_;refine zg 6 rfl ?_;refine JLln_ underlying28 rfl rfl rfl ?_;refine zg 2 rfl ?_;refine JLfi_ hD (fun aw ay=>?_) (fun aw az=>?_)
 ·refine zg 4 rfl ?_;obtain rfl:=oi ay;refine Af func115 rfl rfl ?_;exact Y _ _ _ _ O rfl ⟨rfl,rfl⟩ aj
 ·obtain⟨ak,aA,Z⟩:=bs az;refine zg 6 rfl ?_;refine JLjoin_ (fun L s=>∃(al:Unit) (am:LH),ak=Sum.inr al∧Jm ae H am [] [] L s) ?_ ?_
  ·rintro _ _ ⟨al,am,rfl,rfl,rfl,aB,aC⟩;have hD33:=elim_inr Z;refine zg 4 rfl ?_;obtain rfl:=oi hD33;refine Af func115 rfl rfl ?_;exact Y _ _ _ _ (O.trq aB) rfl ⟨rfl,rfl⟩ aC
  ·intro aD;refine JL.block ?_;refine JLlw_ aA (fun L s aa=>∃(ag:LH),Jm ae H ag [] [(1,iV p1),(2,sV a7 p2 c8),(3,pV ai 0),(7,iV aa)] L s) ⟨ae,rfl,rfl,lR_,aj⟩ ?_;rintro _ _ aa ⟨ag,rfl,rfl,K,an⟩ ab ⟨bo,V⟩ aE;have ao:=V;unfold Jg at ao;refine zg 5 rfl ?_;refine JLln_ underlying28 rfl rfl rfl ?_;refine zg 2 rfl ?_;refine JLfi_ ao (fun aF aG=>?_) (fun aF aH=>?_)
   ·refine zg 5 rfl ?_;refine JGd0_ 8 fun ht=>?_;refine JGms_ ht rfl [0,1] rfl ?_;obtain⟨bp,aI,aJ⟩:=bs aG;refine JGjd_ 2 (h9.moq (O.trq K)) aI ht underlying28 q_szOf_oftype3 ?_;rintro bq br _ rfl aK;refine JGld_ 3 ht 0 aK q_aggT_ofunderlying3 rfl rfl rfl rfl ?_;refine Bf 4 ht underlying24 A6 rfl rfl rfl rfl ?_;refine JGld_ 5 ht 0 (av.moq K) Br rfl rfl rfl rfl ?_;refine JGV_ 6 ht rfl rfl (fun ρ h s' hs=>Yl.len rfl underlying22 (h _ _ rfl)) ?_;obtain⟨bu,aL,aM⟩:=bs aJ;refine JGV_ 7 ht rfl rfl (fun ρ h s' hs=>BC (h _ _ rfl) (h _ _ rfl) aL) ?_;refine JALlf_ [8,9] ?_;obtain⟨aN,aO,aP⟩:=bs aM;refine JScz_ (Hi aO) rfl rfl GV an fun ap U ac=>?_;refine Ae (v:= .bool (!aN)) rfl (fun ρ h=>Yl.not (h _ _ rfl)) ?_;refine JL.done ?_;refine JLfj_ aP (fun aQ aR=>?_) (fun aQ aS=>?_)
    ·refine zg 4 rfl ?_;obtain rfl:=oi aR;obtain rfl:=ab _ V;have aT:=elim_inl Z;obtain rfl:=oi aT;refine Af func115 rfl rfl ?_;exact Y _ _ _ _ ((O.trq K).trq U) rfl ⟨rfl,rfl⟩ ac
    ·obtain⟨bv,aU,aV⟩:=bs aS;refine zg 6 rfl ?_;refine Bp (h9.moq ((O.trq K).trq U)) aU rfl rfl rfl rfl rfl underlying28 q_szOf_oftype3 ?_;rintro bw bx _ rfl aW;refine Aw 0 aW q_aggT_ofunderlying3 rfl rfl rfl ?_;refine zg 3 rfl ?_;refine JLfi_ aV (fun aX aY=>?_) (fun aX aZ=>?_)
     ·refine zg 4 rfl ?_;obtain rfl:=oi aY;obtain rfl:=ab _ V;have a0:=elim_inl Z;obtain rfl:=oi a0;refine Af func115 rfl rfl ?_;exact Y _ _ _ _ ((O.trq K).trq U) rfl ⟨rfl,rfl⟩ ac
     ·refine zg 2 rfl ?_;refine JGd0_ 14 fun ht=>?_;refine JGms_ ht rfl [0,1,2] rfl ?_;obtain⟨x78,aq,a2⟩:=bs aZ;refine JALjoin_ 0 #[true,true,true,true,true,true,true,true,true,true,true,true,true,true] (fun L s=>L= [(1,iV p1),(2,sV a7 p2 c8),(3,pV ai 0),(7,iV aa),(46,.bool x78)]∧s=mkS ap H [[]]) ?_ ?_
      ·rintro _ _ ⟨rfl,rfl⟩;refine JAL.fin (by decide+kernel) ?_;refine JLfj_ a2 (fun c84 a3=>?_) (fun c84 a5=>?_)
       ·refine zg 4 rfl ?_;obtain rfl:=oi a3;obtain rfl:=ab _ V;have a6:=elim_inl Z;obtain rfl:=oi a6;refine Af func115 rfl rfl ?_;exact Y _ _ _ _ ((O.trq K).trq U) rfl ⟨rfl,rfl⟩ ac
       ·obtain⟨a8,a9,ba⟩:=bs a5;refine zg 4 rfl ?_;refine JLaC_ a9 rfl rfl rfl ?_;refine zg 2 rfl ?_;obtain rfl:=oi ba;exact JLkw_ (aE _ _ a8 ⟨ap,rfl,rfl,(K.trq U),ac⟩ V) rfl
      ·intro ar;refine JALcasesB_ (q:=0<aa) (i:=35) rfl (fun ah=>?_) (fun ah=>?_)
       ·have bb:=ip aq ah;refine JGms_ ht rfl [3,4] rfl ?_;obtain⟨bz,bc,bd⟩:=bs bb;refine JGjd_ 5 (h9.moq ((O.trq K).trq U)) bc ht underlying28 q_szOf_oftype3 ?_;rintro bA bB _ rfl bf;refine JGld_ 6 ht 0 bf q_aggT_ofunderlying3 rfl rfl rfl rfl ?_;refine JGms_ ht rfl [7,8] rfl ?_;obtain⟨bC,bg,bh⟩:=bs bd;refine JGV_ 9 ht rfl rfl (fun ρ h s' hs=>BC (h _ _ rfl) (h _ _ rfl) bg) ?_;obtain⟨bD,bi,bj⟩:=bs bh;refine JGjd_ 10 (h9.moq ((O.trq K).trq U)) bi ht underlying28 q_szOf_oftype3 ?_;rintro bE bF _ rfl bk;refine JGld_ 11 ht 0 bk q_aggT_ofunderlying3 rfl rfl rfl rfl ?_;refine JGms_ ht rfl [12,13] rfl ?_;obtain rfl:=oi bj;refine JALweak_ ?_ (ar _ _ ⟨rfl,rfl⟩);exact⟨rfl,rfl,rfl,rfl,rfl,trivial⟩
       ·have bl:=im aq ah;refine JGms_ ht rfl [3,4,5,6,7,8,9,10,11,12,13] rfl ?_;obtain rfl:=oi bl;refine JALweak_ ?_ (ar _ _ ⟨rfl,rfl⟩);exact⟨rfl,rfl,rfl,rfl,rfl,trivial⟩
   ·refine JL.exit rfl ?_;obtain rfl:=oi aH;have bm:ak=(Sum.inr ()):=(ab _ V).symm;exact JLkw_ (aD _ _ ⟨(),ag,bm,rfl,rfl,K,an⟩) rfl
def JH(fuel:Nat)(p0:JW2)(K:Int):Option (AH (Int) ((Int)⊕(Unit))):= if K<((p0.1).length:Int) then((ix p0.1 (K)).bind fun V=> (f114 fuel p0 V).bind fun O=> if O≠0 then(some (.done (Sum.inl O))) else((ix p0.2 (K)).bind fun Y=> (f115 fuel p0 K Y).bind fun U=> if U≠0 then(some (.done (Sum.inl U))) else((Ac (K+1)).bind fun Z=> some (.more Z)))) else(some (.done (Sum.inr ())))
def f68(fuel:Nat)(p0:JW2):Option (Int):= if((p0.1).length:Int)=0 then(some 7) else(if 8<((p0.1).length:Int) then(some 6) else(if((p0.2).length:Int)≠((p0.1).length:Int) then(some 9) else(Option.bind (iter (JH fuel p0) fuel 0) fun x31=> Sum.elim (fun r=>some r) (fun K=> some 0) x31)))
theorem f68_w{a1:OAd}{c2:Nat}{a4:OAd}{c5:Nat}{p0:JW2}(h3:LsR (rL rI) E a1 c2 (p0.1))(h6:LsR (rL rI) E a4 c5 (p0.2)){fuel:Nat}{r:Int}(hD:f68 fuel p0=some r):Al J 68 [.agg #[sV a1 p0.1 c2,sV a4 p0.2 c5]] E [] (fun w E' B'=>w=iV r∧B'= []):=by
 refine Av func68 rfl rfl fun Q bb cs H hN Y=>?_;unfold f68 at hD;refine zg 2 rfl ?_;refine JS.box (v:= .agg #[sV a1 p0.1 c2,sV a4 p0.2 c5]) rfl rfl rfl hN rfl fun ao ap=>?_;refine JSfreezeB_ 1 ap rfl fun ab O U aa=>?_;refine zg 5 rfl ?_;refine Ar underlying24 A6 rfl rfl rfl ?_;refine Aw 0 U Br rfl rfl rfl ?_;refine JLln_ underlying22 rfl rfl rfl ?_;refine zg 2 rfl ?_;refine JLfi_ hD (fun aq ar=>?_) (fun aq au=>?_)
 ·refine zg 4 rfl ?_;obtain rfl:=oi ar;refine Af func68 rfl rfl ?_;exact Y _ _ _ _ O rfl ⟨rfl,rfl⟩ aa
 ·refine zg 4 rfl ?_;refine Ar underlying24 A6 rfl rfl rfl ?_;refine Aw 0 U Br rfl rfl rfl ?_;refine JLln_ underlying22 rfl rfl rfl ?_;refine zg 2 rfl ?_;refine JLfi_ au (fun av aw=>?_) (fun av ay=>?_)
  ·refine zg 4 rfl ?_;obtain rfl:=oi aw;refine Af func68 rfl rfl ?_;exact Y _ _ _ _ O rfl ⟨rfl,rfl⟩ aa
  ·refine zg 4 rfl ?_;refine Ar underlying24 A6 rfl rfl rfl ?_;refine Aw 1 U Br rfl rfl rfl ?_;refine JLln_ underlying22 rfl rfl rfl ?_;refine Ar underlying24 A6 rfl rfl rfl ?_;refine Aw 0 U Br rfl rfl rfl ?_;refine JLln_ underlying22 rfl rfl rfl ?_;refine zg 2 rfl ?_;refine JLfi_ ay (fun az aA=>?_) (fun az aB=>?_)
   ·refine zg 4 rfl ?_;obtain rfl:=oi aA;refine Af func68 rfl rfl ?_;exact Y _ _ _ _ O rfl ⟨rfl,rfl⟩ aa
   ·obtain⟨x31,aC,hD33⟩:=bs aB;refine zg 6 rfl ?_;refine JLjoin_ (fun L s=>∃(ag:Unit) (ah:LH),x31=Sum.inr ag∧Jm ab H ah [] [] L s) ?_ ?_
    ·rintro _ _ ⟨ag,ah,rfl,rfl,rfl,aD,aE⟩;have hD38:=elim_inr hD33;refine zg 4 rfl ?_;obtain rfl:=oi hD38;refine Af func68 rfl rfl ?_;exact Y _ _ _ _ (O.trq aD) rfl ⟨rfl,rfl⟩ aE
    ·intro aF;refine JL.block ?_;refine JLlw_ aC (fun L s ai=>∃(ac:LH),Jm ab H ac [] [(1,pV ao 0),(3,iV ai)] L s) ⟨ab,rfl,rfl,lR_,aa⟩ ?_;rintro _ _ ai ⟨ac,rfl,rfl,K,aj⟩ ae ⟨bc,Z⟩ aG;have ak:=Z;unfold JH at ak;refine zg 4 rfl ?_;refine Ar underlying24 A6 rfl rfl rfl ?_;refine Aw 0 (U.moq K) Br rfl rfl rfl ?_;refine JLln_ underlying22 rfl rfl rfl ?_;refine zg 2 rfl ?_;refine JLfi_ ak (fun aH aI=>?_) (fun aH aJ=>?_)
     ·refine zg 5 rfl ?_;refine JGd0_ 6 fun ht=>?_;refine JGldN_ 0 ht (U.moq K) q_aggT_ofunderlying24 q_szOf_oftype24 rfl rfl rfl ?_;refine Bf 1 ht underlying24 A6 rfl rfl rfl rfl ?_;refine JGld_ 2 ht 0 (U.moq K) Br rfl rfl rfl rfl ?_;refine JGmv_ 3 ht rfl rfl ?_;obtain⟨bd,aK,aL⟩:=bs aI;refine JGjd_ 4 (h3.moq (O.trq K)) aK ht underlying22 Bg ?_;rintro bf bg _ ⟨bh,bi,rfl,aM⟩ aN;refine JGld_ 5 ht 0 aN BL rfl rfl rfl rfl ?_;refine JALlf_ [6,7] ?_;obtain⟨bj,aO,aP⟩:=bs aL;refine JScz_ (Vb (h3.moq (O.trq K)) (h6.moq (O.trq K)) aM aO) rfl rfl (body_of func114 rfl) aj fun bk V al=>?_;refine zg 7 rfl ?_;refine JLfi_ aP (fun c65 aQ=>?_) (fun c65 aR=>?_)
      ·refine zg 5 rfl ?_;obtain rfl:=oi aQ;obtain rfl:=ae _ Z;have aS:=elim_inl hD33;obtain rfl:=oi aS;refine Af func68 rfl rfl ?_;exact Y _ _ _ _ ((O.trq K).trq V) rfl ⟨rfl,rfl⟩ al
      ·refine zg 2 rfl ?_;refine JGd0_ 7 fun ht=>?_;refine JGldN_ 0 ht (U.moq (K.trq V)) q_aggT_ofunderlying24 q_szOf_oftype24 rfl rfl rfl ?_;refine JGmv_ 1 ht rfl rfl ?_;refine Bf 2 ht underlying24 A6 rfl rfl rfl rfl ?_;refine JGld_ 3 ht 1 (U.moq (K.trq V)) Br rfl rfl rfl rfl ?_;refine JGmv_ 4 ht rfl rfl ?_;obtain⟨bl,aT,aU⟩:=bs aR;refine JGjd_ 5 (h6.moq ((O.trq K).trq V)) aT ht underlying22 Bg ?_;rintro bm bn _ ⟨bo,bp,rfl,aV⟩ aW;refine JGld_ 6 ht 0 aW BL rfl rfl rfl rfl ?_;refine JALlf_ [7,8] ?_;obtain⟨bq,aX,aY⟩:=bs aU;refine JScz_ (VA (h3.moq ((O.trq K).trq V)) (h6.moq ((O.trq K).trq V)) aV aX) rfl rfl (body_of func115 rfl) al fun aZ am an=>?_;refine zg 7 rfl ?_;refine JLfi_ aY (fun a0 a2=>?_) (fun a0 a3=>?_)
       ·refine zg 5 rfl ?_;obtain rfl:=oi a2;obtain rfl:=ae _ Z;have a5:=elim_inl hD33;obtain rfl:=oi a5;refine Af func68 rfl rfl ?_;exact Y _ _ _ _ (((O.trq K).trq V).trq am) rfl ⟨rfl,rfl⟩ an
       ·obtain⟨a6,a8,a9⟩:=bs a3;refine zg 4 rfl ?_;refine JLaC_ a8 rfl rfl rfl ?_;refine zg 2 rfl ?_;obtain rfl:=oi a9;exact JLkw_ (aG _ _ a6 ⟨aZ,rfl,rfl,((K.trq V).trq am),an⟩ Z) rfl
     ·refine JL.exit rfl ?_;obtain rfl:=oi aJ;have ba:x31=(Sum.inr ()):=(ae _ Z).symm;exact JLkw_ (aF _ _ ⟨(),ac,ba,rfl,rfl,K,aj⟩) rfl
def JV(fuel:Nat)(p0:JW2)(p1:LKL)(K:Int):Option (AH (Int) ((Int)⊕(Unit))):= if K<((p1).length:Int) then((ix p1 (K)).bind fun x56=> (f104 fuel x56.1 0 6).bind fun O=> if(!O)=true then(some (.done (Sum.inl 1))) else(Option.bind (if 0<K then((ix p1 (K)).bind fun U=> (Ac (K - 1)).bind fun V=> (ix p1 (V)).bind fun Y=> some (decide (U.1<Y.1))) else(some false)) fun Z=> if Z=true then(some (.done (Sum.inl 5))) else((ix p1 (K)).bind fun aa=> (Ac (((p0.1).length:Int) - 1)).bind fun ab=> (f104 fuel aa.2 0 ab).bind fun ac=> if(!ac)=true then(some (.done (Sum.inl 3))) else((Ac (K+1)).bind fun ae=> some (.more ae))))) else(some (.done (Sum.inr ())))
def f70(fuel:Nat)(p0:JW2)(p1:LKL):Option (Int):= (f68 fuel p0).bind fun K=> if K≠0 then(some K) else(if 4<((p1).length:Int) then(some 6) else(Option.bind (iter (JV fuel p0 p1) fuel 0) fun O=> Sum.elim (fun r=>some r) (fun U=> some 0) O))
theorem f70_w{a1:OAd}{c2:Nat}{a4:OAd}{c5:Nat}{a7:OAd}{c8:Nat}{p0:JW2}{p1:LKL}(h3:LsR (rL rI) E a1 c2 (p0.1))(h6:LsR (rL rI) E a4 c5 (p0.2))(h9:LsR rLK E a7 c8 (p1)){fuel:Nat}{r:Int}(hD:f70 fuel p0 p1=some r):Al J 70 [.agg #[sV a1 p0.1 c2,sV a4 p0.2 c5],sV a7 p1 c8] E [] (fun w E' B'=>w=iV r∧B'= []):=by
 refine Av func70 rfl rfl fun Q bB cs H hN Y=>?_;unfold f70 at hD;refine zg 2 rfl ?_;refine JS.box (v:= .agg #[sV a1 p0.1 c2,sV a4 p0.2 c5]) rfl rfl rfl hN rfl fun ak ay=>?_;refine JSfreezeB_ 1 ay rfl fun bC K al az=>?_;refine zg 5 rfl ?_;refine JLldN_ al q_aggT_ofunderlying24 q_szOf_oftype24 rfl rfl ?_;obtain⟨bD,aA,aB⟩:=bs hD;refine JScz_ (f68_w (h3.moq K) (h6.moq K) aA) rfl rfl q_body_offunc68rfl az fun ae O ag=>?_;refine zg 7 rfl ?_;refine JLfi_ aB (fun aC aD=>?_) (fun aC aE=>?_)
 ·refine zg 5 rfl ?_;obtain rfl:=oi aD;refine Af func70 rfl rfl ?_;exact Y _ _ _ _ (K.trq O) rfl ⟨rfl,rfl⟩ ag
 ·refine zg 5 rfl ?_;refine JLln_ underlying25 rfl rfl rfl ?_;refine zg 2 rfl ?_;refine JLfi_ aE (fun aF hD26=>?_) (fun aF aG=>?_)
  ·refine zg 4 rfl ?_;obtain rfl:=oi hD26;refine Af func70 rfl rfl ?_;exact Y _ _ _ _ (K.trq O) rfl ⟨rfl,rfl⟩ ag
  ·obtain⟨am,aH,aa⟩:=bs aG;refine zg 6 rfl ?_;refine JLjoin_ (fun L s=>∃(an:Unit) (ao:LH),am=Sum.inr an∧Jm ae H ao [] [] L s) ?_ ?_
   ·rintro _ _ ⟨an,ao,rfl,rfl,rfl,aI,aJ⟩;have aK:=elim_inr aa;refine zg 4 rfl ?_;obtain rfl:=oi aK;refine Af func70 rfl rfl ?_;exact Y _ _ _ _ ((K.trq O).trq aI) rfl ⟨rfl,rfl⟩ aJ
   ·intro aL;refine JL.block ?_;refine JLlw_ aH (fun L s ab=>∃(ah:LH),Jm ae H ah [] [(1,sV a7 p1 c8),(2,pV ak 0),(6,iV ab)] L s) ⟨ae,rfl,rfl,lR_,ag⟩ ?_;rintro _ _ ab ⟨ah,rfl,rfl,U,ap⟩ ac ⟨bE,Z⟩ aM;have aq:=Z;unfold JV at aq;refine zg 5 rfl ?_;refine JLln_ underlying25 rfl rfl rfl ?_;refine zg 2 rfl ?_;refine JLfi_ aq (fun aN aO=>?_) (fun aN aP=>?_)
    ·obtain⟨x56,hx56,hD57⟩:=bs aO;refine zg 8 rfl ?_;refine Bp (h9.moq ((K.trq O).trq U)) hx56 rfl rfl rfl rfl rfl underlying25 q_szOf_oftype27 ?_;rintro bF bG _ ⟨_,_,rfl,rfl,rfl⟩ aQ;refine Ar underlying27 q_szOf_oftype3 rfl rfl rfl ?_;refine Aw 0 aQ q_aggT_ofunderlying3 rfl rfl rfl ?_;obtain⟨aR,aS,aT⟩:=bs hD57;refine JScz_ (Hi aS) rfl rfl GV ap fun aU V ai=>?_;refine Ae (v:= .bool (!aR)) rfl (fun ρ h=>Yl.not (h _ _ rfl)) ?_;refine JL.done ?_;refine JLfj_ aT (fun aV hD68=>?_) (fun aV aW=>?_)
     ·refine zg 4 rfl ?_;obtain rfl:=oi hD68;obtain rfl:=ac _ Z;have aX:=elim_inl aa;obtain rfl:=oi aX;refine Af func70 rfl rfl ?_;exact Y _ _ _ _ (((K.trq O).trq U).trq V) rfl ⟨rfl,rfl⟩ ai
     ·refine zg 3 rfl ?_;refine JGd0_ 16 fun ht=>?_;refine JGms_ ht rfl [0,1,2] rfl ?_;obtain⟨aY,ar,aZ⟩:=bs aW;refine JALjoin_ 0 #[true,true,true,true,true,true,true,true,true,true,true,true,true,true,true,true] (fun L s=>L= [(1,sV a7 p1 c8),(2,pV ak 0),(6,iV ab),(43,.bool aY)]∧s=mkS aU H [[]]) ?_ ?_
      ·rintro _ _ ⟨rfl,rfl⟩;refine JAL.fin (by decide+kernel) ?_;refine JLfj_ aZ (fun a0 a2=>?_) (fun a0 a3=>?_)
       ·refine zg 4 rfl ?_;obtain rfl:=oi a2;obtain rfl:=ac _ Z;have a5:=elim_inl aa;obtain rfl:=oi a5;refine Af func70 rfl rfl ?_;exact Y _ _ _ _ (((K.trq O).trq U).trq V) rfl ⟨rfl,rfl⟩ ai
       ·refine zg 2 rfl ?_;refine JGd0_ 9 fun ht=>?_;refine JGms_ ht rfl [0,1] rfl ?_;obtain⟨bH,a6,a8⟩:=bs a3;refine JGjd_ 2 (h9.moq (((K.trq O).trq U).trq V)) a6 ht underlying25 q_szOf_oftype27 ?_;rintro bI bJ _ ⟨_,_,rfl,rfl,rfl⟩ a9;refine Bf 3 ht underlying27 q_szOf_oftype3 rfl rfl rfl rfl ?_;refine JGld_ 4 ht 1 a9 q_aggT_ofunderlying3 rfl rfl rfl rfl ?_;refine Bf 5 ht underlying24 A6 rfl rfl rfl rfl ?_;refine JGld_ 6 ht 0 (al.moq ((O.trq U).trq V)) Br rfl rfl rfl rfl ?_;refine JGV_ 7 ht rfl rfl (fun ρ h s' hs=>Yl.len rfl underlying22 (h _ _ rfl)) ?_;obtain⟨bK,ba,bb⟩:=bs a8;refine JGV_ 8 ht rfl rfl (fun ρ h s' hs=>BC (h _ _ rfl) (h _ _ rfl) ba) ?_;refine JALlf_ [9,10] ?_;obtain⟨bc,bd,bf⟩:=bs bb;refine JScz_ (Hi bd) rfl rfl GV ai fun bg au av=>?_;refine Ae (v:= .bool (!bc)) rfl (fun ρ h=>Yl.not (h _ _ rfl)) ?_;refine JL.done ?_;refine JLfj_ bf (fun bh bi=>?_) (fun bh bj=>?_)
        ·refine zg 4 rfl ?_;obtain rfl:=oi bi;obtain rfl:=ac _ Z;have bk:=elim_inl aa;obtain rfl:=oi bk;refine Af func70 rfl rfl ?_;exact Y _ _ _ _ ((((K.trq O).trq U).trq V).trq au) rfl ⟨rfl,rfl⟩ av
        ·obtain⟨bl,bm,bn⟩:=bs bj;refine zg 4 rfl ?_;refine JLaC_ bm rfl rfl rfl ?_;refine zg 2 rfl ?_;obtain rfl:=oi bn;exact JLkw_ (aM _ _ bl ⟨bg,rfl,rfl,((U.trq V).trq au),av⟩ Z) rfl
      ·intro aw;refine JALcasesB_ (q:=0<ab) (i:=30) rfl (fun aj=>?_) (fun aj=>?_)
       ·have bo:=ip ar aj;refine JGms_ ht rfl [3,4] rfl ?_;obtain⟨bL,bp,bq⟩:=bs bo;refine JGjd_ 5 (h9.moq (((K.trq O).trq U).trq V)) bp ht underlying25 q_szOf_oftype27 ?_;rintro bM bN _ ⟨_,_,rfl,rfl,rfl⟩ br;refine Bf 6 ht underlying27 q_szOf_oftype3 rfl rfl rfl rfl ?_;refine JGld_ 7 ht 0 br q_aggT_ofunderlying3 rfl rfl rfl rfl ?_;refine JGms_ ht rfl [8,9] rfl ?_;obtain⟨bO,bu,bv⟩:=bs bq;refine JGV_ 10 ht rfl rfl (fun ρ h s' hs=>BC (h _ _ rfl) (h _ _ rfl) bu) ?_;obtain⟨bP,bw,bx⟩:=bs bv;refine JGjd_ 11 (h9.moq (((K.trq O).trq U).trq V)) bw ht underlying25 q_szOf_oftype27 ?_;rintro bQ bR _ ⟨_,_,rfl,rfl,rfl⟩ h123;refine Bf 12 ht underlying27 q_szOf_oftype3 rfl rfl rfl rfl ?_;refine JGld_ 13 ht 0 h123 q_aggT_ofunderlying3 rfl rfl rfl rfl ?_;refine JGms_ ht rfl [14,15] rfl ?_;obtain rfl:=oi bx;refine JALweak_ ?_ (aw _ _ ⟨rfl,rfl⟩);exact⟨rfl,rfl,rfl,rfl,trivial⟩
       ·have bz:=im ar aj;refine JGms_ ht rfl [3,4,5,6,7,8,9,10,11,12,13,14,15] rfl ?_;obtain rfl:=oi bz;refine JALweak_ ?_ (aw _ _ ⟨rfl,rfl⟩);exact⟨rfl,rfl,rfl,rfl,trivial⟩
    ·refine JL.exit rfl ?_;obtain rfl:=oi aP;have bA:am=(Sum.inr ()):=(ac _ Z).symm;exact JLkw_ (aL _ _ ⟨(),ah,bA,rfl,rfl,U,ap⟩) rfl
def Hf(fuel:Nat)(p0:JW2)(p1:List Bool)(O:(List Bool)×Int)(K:(List Bool)×Int):Option (AH ((List Bool)×Int) ((List Bool))):= (ix p0.1 (O.2)).bind fun U=> Option.bind (if K.2<((U).length:Int) then((ix p1 (O.2)).bind fun V=> some V) else(some false)) fun Y=> if Y=true then((ix p0.1 (O.2)).bind fun Z=> (ix Z (K.2)).bind fun x132=> (ix K.1 (x132)).bind fun ab=> (Ac (K.2+1)).bind fun aa=> some (.more ((K.1.set (Int.toNat x132) true),aa))) else(some (.done K.1))
def Jp(fuel:Nat)(p0:JW2)(p1:List Bool)(K:(List Bool)×Int):Option (AH ((List Bool)×Int) ((List Bool))):= if K.2<((p1).length:Int) then(Option.bind (iter (Hf fuel p0 p1 K) fuel (K.1,0)) fun O=> (Ac (K.2+1)).bind fun x90=> some (.more (O,x90))) else(some (.done K.1))
def f119(fuel:Nat)(p0:JW2)(p1:List Bool):Option ((List Bool)):= (Gi ((p1).length:Int) (false:Bool)).bind fun K=> Option.bind (iter (Jp fuel p0 p1) fuel (K,0)) fun O=> some O
theorem Vw{a1:OAd}{c2:Nat}{a4:OAd}{c5:Nat}{a7:OAd}{c8:Nat}{p0:JW2}{p1:List Bool}(h3:LsR (rL rI) E a1 c2 (p0.1))(h6:LsR (rL rI) E a4 c5 (p0.2))(h9:LsR rB E a7 c8 (p1)){fuel:Nat}{r:(List Bool)}(hD:f119 fuel p0 p1=some r):Al J 119 [.agg #[sV a1 p0.1 c2,sV a4 p0.2 c5],sV a7 p1 c8] E [] (fun w E' B'=>∃(aC:OAd) (aD:Nat),w= sV aC r aD∧B'= []∧LsR rB E' aC aD (r)):=by
 refine Av func119 rfl rfl fun Q b4 cs H hN aQ=>?_;unfold f119 at hD;refine zg 2 rfl ?_;refine JS.box (v:= .agg #[sV a1 p0.1 c2,sV a4 p0.2 c5]) rfl rfl rfl hN rfl fun ab aR=>?_;refine JSfreezeB_ 1 aR rfl fun au ak aE aS=>?_;refine zg 5 rfl ?_;refine JLln_ underlying68 rfl rfl rfl ?_;obtain⟨aT,aU,aV⟩:=bs hD;refine JS.make (pp:=rB) aU rfl rfl rfl rfl rfl underlying68 FB (Bz type4) (by decide) (BY type4) (by decide) rfl aS fun aW aX aY aZ=>?_;obtain⟨aF,a0,a2⟩:=bs aV;refine zg 7 rfl ?_;refine JLjoin_ (fun L s=>∃(av:LH) (al:OAd) (am:Nat) (aw:Seg),Jn au H av [aw] [(5,sV al aF am)] L s (OL 4 rB av al am aw (aF))) ?_ ?_
 ·rintro _ _ ⟨av,al,am,aw,rfl,rfl,a3,a5,a6⟩;refine zg 5 rfl ?_;refine JSfreezeL_ 0 a6 a5 rfl fun b5 a8 a9 ba=>?_;obtain rfl:=oi a2;refine Af func119 rfl rfl ?_;exact aQ _ _ _ _ ((ak.trq a3).trq a8) rfl ⟨al,am,rfl,rfl,a9⟩ ba
 ·intro bb;refine JL.block ?_;refine JLlw_ a0 (fun L s O=>∃(Y:LH) (ag:OAd) (ah:Nat) (ai:Seg),Jn au H Y [ai] [(1,sV a7 p1 c8),(2,pV ab 0),(5,sV ag O.1 ah),(6,iV O.2)] L s (OL 4 rB Y ag ah ai (O.1))) ⟨au,(some ⟨aW,0,none⟩),(aT).length,aX,rfl,rfl,lR_,aZ,aY⟩ ?_;rintro _ _ O ⟨Y,ag,ah,ai,rfl,rfl,Z,aG,aH⟩ bc ⟨b6,ay⟩ bd;have aI:=ay;unfold Jp at aI;refine zg 5 rfl ?_;refine JLln_ underlying68 rfl rfl rfl ?_;refine zg 2 rfl ?_;refine JLfi_ aI (fun bf bg=>?_) (fun bf bh=>?_)
  ·obtain⟨az,bi,bj⟩:=bs bg;refine zg 7 rfl ?_;refine JLjoin_ (fun L s=>∃(an:LH) (ao:OAd) (ap:Nat) (aq:Seg),Jn Y H an [aq] [(1,sV a7 p1 c8),(2,pV ab 0),(5,sV ao az ap),(6,iV O.2)] L s (OL 4 rB an ao ap aq (az))) ?_ ?_
   ·rintro _ _ ⟨an,ao,ap,aq,rfl,rfl,bk,bl,bm⟩;obtain⟨x90,hx90,hD91⟩:=bs bj;refine zg 3 rfl ?_;refine JLaC_ hx90 rfl rfl rfl ?_;refine zg 2 rfl ?_;obtain rfl:=oi hD91;exact JLkw_ (bd _ _ (az,x90) ⟨an,ao,ap,aq,rfl,rfl,(Z.trq bk),bl,bm⟩ ay) rfl
   ·intro bn;refine JL.block ?_;refine JLlw_ bi (fun L s K=>∃(ac:LH) (U:OAd) (V:Nat) (aj:Seg),Jn Y H ac [aj] [(1,sV a7 p1 c8),(2,pV ab 0),(5,sV U K.1 V),(6,iV O.2),(7,iV K.2)] L s (OL 4 rB ac U V aj (K.1))) ⟨Y,ag,ah,ai,rfl,rfl,lR_,aG,aH⟩ ?_;rintro _ _ K ⟨ac,U,V,aj,rfl,rfl,aa,aJ,h100⟩ bo ⟨b7,aA⟩ bp;have aK:=aA;unfold Hf at aK;refine zg 4 rfl ?_;refine Ar underlying24 A6 rfl rfl rfl ?_;refine Aw 0 (aE.moq (Z.trq aa)) Br rfl rfl rfl ?_;obtain⟨b8,bq,br⟩:=bs aK;refine zg 1 rfl ?_;refine Bp (h3.moq ((ak.trq Z).trq aa)) bq rfl rfl rfl rfl rfl underlying22 Bg ?_;rintro b9 ca _ ⟨cb,cc,rfl,cd⟩ bu;refine Aw 0 bu BL rfl rfl rfl ?_;refine JLln_ underlying28 rfl rfl rfl ?_;obtain⟨aL,bv,bw⟩:=bs br;refine zg 2 rfl ?_;refine JLjoinR_ [] (fun L s=>∃(ar:LH),Jm ac H ar [aj] [(1,sV a7 p1 c8),(2,pV ab 0),(5,sV U K.1 V),(6,iV O.2),(7,iV K.2),(30,.bool aL)] L s) ?_ ?_
    ·rintro _ _ ⟨ar,rfl,rfl,ae,aM⟩;refine JL.done ?_;refine JLfj_ bw (fun bx bz=>?_) (fun bx bA=>?_)
     ·refine zg 5 rfl ?_;refine Ar underlying24 A6 rfl rfl rfl ?_;refine Aw 0 (aE.moq ((Z.trq aa).trq ae)) Br rfl rfl rfl ?_;obtain⟨bB,bC,bD⟩:=bs bz;refine zg 1 rfl ?_;refine Bp (h3.moq (((ak.trq Z).trq aa).trq ae)) bC rfl rfl rfl rfl rfl underlying22 Bg ?_;rintro bE bF _ ⟨bG,bH,rfl,bI⟩ bJ;refine Aw 0 bJ BL rfl rfl rfl ?_;obtain⟨x132,bK,bL⟩:=bs bD;refine zg 1 rfl ?_;refine Bp bI bK rfl rfl rfl rfl rfl underlying28 q_szOf_oftype3 ?_;rintro bM bN _ rfl bO;refine Aw 0 bO q_aggT_ofunderlying3 rfl rfl rfl ?_;obtain⟨ce,bP,bQ⟩:=bs bL;refine Jb 0 (h100.moq ae) bP rfl rfl rfl rfl rfl rfl underlying68 FB ?_;rintro aN aB f141 _ bR rfl cf bS bT cg ci;refine JS.store (v:= .bool true) (off:=aB) 0 rfl rfl rfl aM rfl rfl FB (by simp [Value.cells,Ba]) bR (by have:=bS;simp only [Rp.n,rK,rN,rB,rP,rL] at this;show _+1≤_;omega) fun bU=>?_;have bV:=bT (true) [.bool true] rfl;have aO:(K.1.set (Int.toNat x132) true).length=(K.1).length:=List.length_set;refine FG (L':= [(1,.slice a7 (p1).length c8),(2,pV ab 0),(5,.slice U ((K.1.set (Int.toNat x132) true)).length V),(6,iV O.2),(7,iV K.2),(30,.bool aL),(33,.slice U ((K.1.set (Int.toNat x132) true)).length V),(34,pV ab 0),(35,.slice a1 (p0.1).length c2),(36,iV O.2),(37,pV bE bF),(38,.slice bG (bB).length bH),(39,iV K.2),(40,pV bM bN),(41,iV x132),(42,pV aN aB)]) ⟨rfl,rfl,by rw [aO];rfl,rfl,rfl,rfl,by rw [aO];rfl,rfl,rfl,rfl,rfl,rfl,rfl,rfl,rfl,rfl,trivial⟩ ?_;obtain⟨bW,bX,bY⟩:=bs bQ;refine zg 4 rfl ?_;refine JLaC_ bX rfl rfl rfl ?_;refine zg 2 rfl ?_;obtain rfl:=oi bY;exact JLkw_ (bp _ _ ((K.1.set (Int.toNat x132) true),bW) ⟨ar,U,V,[(aN,.cells (AJ f141 aB [.bool true]) 4 (0,0))],rfl,rfl,(aa.trq ae),bU,bV⟩ aA) rfl
     ·refine JL.exit rfl ?_;obtain rfl:=oi bA;obtain rfl:=bo _ aA;exact JLkw_ (bn _ _ ⟨ar,U,V,aj,rfl,rfl,(aa.trq ae),aM,(h100.moq ae)⟩) rfl
    ·intro aP;refine C3 25 bv (fun bZ hD160=>?_) (fun bZ b0=>?_)
     ·obtain⟨ck,b1,b2⟩:=bs hD160;refine zg 2 rfl ?_;refine Bp (h9.moq ((ak.trq Z).trq aa)) b1 rfl rfl rfl rfl rfl underlying68 FB ?_;rintro cm cn _ rfl b3;refine Aw 0 b3 KE rfl rfl rfl ?_;refine zg 1 rfl ?_;obtain rfl:=oi b2;exact JLkw_ (aP _ _ ⟨ac,rfl,rfl,lR_,aJ⟩) rfl
     ·refine zg 5 rfl ?_;obtain rfl:=oi b0;exact JLkw_ (aP _ _ ⟨ac,rfl,rfl,lR_,aJ⟩) rfl
  ·refine JL.exit rfl ?_;obtain rfl:=oi bh;obtain rfl:=bc _ ay;exact JLkw_ (bb _ _ ⟨Y,ag,ah,ai,rfl,rfl,Z,aG,aH⟩) rfl
def J2(fuel:Nat)(p0:JW2)(p1:Int)(K:(List Bool)×Int):Option (AH ((List Bool)×Int) ((List Bool))):= if K.2<p1 then((f119 fuel p0 K.1).bind fun O=> (Ac (K.2+1)).bind fun U=> some (.more (O,U))) else(some (.done K.1))
def f82(fuel:Nat)(p0:JW2)(p1:Int):Option ((List Bool)):= (Gi ((p0.1).length:Int) (false:Bool)).bind fun K=> (ix K (0)).bind fun U=> Option.bind (iter (J2 fuel p0 p1) fuel ((K.set (Int.toNat 0) true),0)) fun O=> some O
theorem PW{a1:OAd}{c2:Nat}{a4:OAd}{c5:Nat}{p0:JW2}{p1:Int}(h3:LsR (rL rI) E a1 c2 (p0.1))(h6:LsR (rL rI) E a4 c5 (p0.2)){fuel:Nat}{r:(List Bool)}(hD:f82 fuel p0 p1=some r):Al J 82 [.agg #[sV a1 p0.1 c2,sV a4 p0.2 c5],iV p1] E [] (fun w E' B'=>∃(ak:OAd) (al:Nat),w= sV ak r al∧B'= []∧LsR rB E' ak al (r)):=by
 refine Av func82 rfl rfl fun Q ba cs H hN av=>?_;unfold f82 at hD;refine zg 2 rfl ?_;refine JS.box (v:= .agg #[sV a1 p0.1 c2,sV a4 p0.2 c5]) rfl rfl rfl hN rfl fun ae aw=>?_;refine JSfreezeB_ 1 aw rfl fun am ag an ay=>?_;refine zg 4 rfl ?_;refine Ar underlying24 A6 rfl rfl rfl ?_;refine Aw 0 an Br rfl rfl rfl ?_;refine JLln_ underlying22 rfl rfl rfl ?_;obtain⟨K,az,aA⟩:=bs hD;refine JS.make (pp:=rB) az rfl rfl rfl rfl rfl underlying68 FB (Bz type4) (by decide) (BY type4) (by decide) rfl ay fun U bb h17 hN18=>?_;obtain⟨bc,aB,aC⟩:=bs aA;refine zg 5 rfl ?_;refine Jb 2 h17 aB rfl rfl rfl rfl rfl rfl underlying68 FB ?_;rintro aD ao f24 _ aE rfl bd aF aG bf bg;refine JS.store (v:= .bool true) (off:=ao) 2 rfl rfl rfl hN18 rfl rfl FB (by simp [Value.cells,Ba]) aE (by have:=aF;simp only [Rp.n,rK,rN,rB,rP,rL] at this;show _+1≤_;omega) fun aH=>?_;have aI:=aG (true) [.bool true] rfl;have ah:(K.set (Int.toNat 0) true).length=(K).length:=List.length_set;refine FG (L':= [(0,.agg #[.slice a1 (p0.1).length c2,.slice a4 (p0.2).length c5]),(1,iV p1),(2,pV ae 0),(4,.slice none 0 0),(7,pV ae 0),(8,.slice a1 (p0.1).length c2),(9,iV ((p0.1).length:Int)),(10,.slice (some ⟨U,0,none⟩) ((K.set (Int.toNat 0) true)).length (K).length),(5,.slice (some ⟨U,0,none⟩) ((K.set (Int.toNat 0) true)).length (K).length),(11,.slice (some ⟨U,0,none⟩) ((K.set (Int.toNat 0) true)).length (K).length),(12,pV aD ao)]) ⟨rfl,rfl,rfl,rfl,rfl,rfl,rfl,by rw [ah];rfl,by rw [ah];rfl,by rw [ah];rfl,rfl,trivial⟩ ?_;obtain⟨ap,aJ,hD45⟩:=bs aC;refine zg 6 rfl ?_;refine JLjoin_ (fun L s=>∃(ai:LH) (V:OAd) (Y:Nat),Jn am H ai [] [(5,sV V ap Y)] L s (LsR rB ai V Y (ap))) ?_ ?_
 ·rintro _ _ ⟨ai,V,Y,rfl,rfl,aK,aL,aM⟩;refine zg 5 rfl ?_;obtain rfl:=oi hD45;refine Af func82 rfl rfl ?_;exact av _ _ _ _ (ag.trq aK) rfl ⟨V,Y,rfl,rfl,aM⟩ aL
 ·intro aN;refine JL.block ?_;refine JSfreezeL_ 2 aI aH rfl fun aO aP h63 aQ=>?_;refine JLlw_ aJ (fun L s Z=>∃(aa:LH) (ab:OAd) (ac:Nat),Jn am H aa [] [(1,iV p1),(2,pV ae 0),(5,sV ab Z.1 ac),(6,iV Z.2)] L s (LsR rB aa ab ac (Z.1))) ⟨aO,(some ⟨U,0,none⟩),(K).length,rfl,rfl,aP,aQ,h63⟩ ?_;rintro _ _ Z ⟨aa,ab,ac,rfl,rfl,O,aq,ar⟩ aR ⟨bh,aj⟩ aS;have au:=aj;unfold J2 at au;refine zg 7 rfl ?_;refine JLfi_ au (fun c70 aT=>?_) (fun c70 aU=>?_)
  ·refine zg 4 rfl ?_;refine JLldN_ (an.moq O) q_aggT_ofunderlying24 q_szOf_oftype24 rfl rfl ?_;obtain⟨aV,aW,aX⟩:=bs aT;refine zg 1 rfl ?_;refine JScl_ (Vw (h3.moq (ag.trq O)) (h6.moq (ag.trq O)) ar aW) rfl rfl (body_of func119 rfl) aq ?_;rintro _ aY _ aZ ⟨a0,a2,rfl,rfl,a3⟩ a5;obtain⟨a6,a8,a9⟩:=bs aX;refine zg 5 rfl ?_;refine JLaC_ a8 rfl rfl rfl ?_;refine zg 2 rfl ?_;obtain rfl:=oi a9;exact JLkw_ (aS _ _ (aV,a6) ⟨aY,a0,a2,rfl,rfl,(O.trq aZ),a5,a3⟩ aj) rfl
  ·refine JL.exit rfl ?_;obtain rfl:=oi aU;obtain rfl:=aR _ aj;exact JLkw_ (aN _ _ ⟨aa,ab,ac,rfl,rfl,O,aq,ar⟩) rfl
def f64(fuel:Nat)(p0:JW2)(p1:Int):Option ((List Int)×Int):= (f68 fuel p0).bind fun K=> if K≠0 then(some ([],K)) else((f104 fuel p1 0 12).bind fun O=> if(!O)=true then(some ([],1)) else((f82 fuel p0 p1).bind fun U=> (f111 fuel U).bind fun V=> some (V,0)))
theorem f64_w{a1:OAd}{c2:Nat}{a4:OAd}{c5:Nat}{p0:JW2}{p1:Int}(h3:LsR (rL rI) E a1 c2 (p0.1))(h6:LsR (rL rI) E a4 c5 (p0.2)){fuel:Nat}{r:(List Int)×Int}(hD:f64 fuel p0 p1=some r):Al J 64 [.agg #[sV a1 p0.1 c2,sV a4 p0.2 c5],iV p1] E [] (fun w E' B'=>∃(V:OAd) (Y:Nat),w= .tuple #[sV V r.1 Y,iV r.2]∧B'= []∧LsR rI E' V Y (r.1)):=by
 refine Av func64 rfl rfl fun Q aD cs H hN U=>?_;unfold f64 at hD;refine zg 2 rfl ?_;refine JS.box (v:= .agg #[sV a1 p0.1 c2,sV a4 p0.2 c5]) rfl rfl rfl hN rfl fun aE ac=>?_;refine JSfreezeB_ 1 ac rfl fun aF K Z ae=>?_;refine zg 6 rfl ?_;refine JLldN_ Z q_aggT_ofunderlying24 q_szOf_oftype24 rfl rfl ?_;obtain⟨aG,ag,ah⟩:=bs hD;refine JScz_ (f68_w (h3.moq K) (h6.moq K) ag) rfl rfl q_body_offunc68rfl ae fun E15 hle16 aa=>?_;refine zg 7 rfl ?_;refine JLfi_ ah (fun ai aj=>?_) (fun ai ak=>?_)
 ·refine zg 6 rfl ?_;obtain rfl:=oi aj;refine Af func64 rfl rfl ?_;exact U _ _ _ _ (K.trq hle16) rfl ⟨none,0,rfl,rfl,LsR.nil⟩ aa
 ·obtain⟨al,am,an⟩:=bs ak;refine zg 5 rfl ?_;refine JScz_ (Hi am) rfl rfl GV aa fun aH O ab=>?_;refine Ae (v:= .bool (!al)) rfl (fun ρ h=>Yl.not (h _ _ rfl)) ?_;refine JL.done ?_;refine JLfj_ an (fun ao ap=>?_) (fun ao aq=>?_)
  ·refine zg 5 rfl ?_;obtain rfl:=oi ap;refine Af func64 rfl rfl ?_;exact U _ _ _ _ ((K.trq hle16).trq O) rfl ⟨none,0,rfl,rfl,LsR.nil⟩ ab
  ·refine zg 3 rfl ?_;refine JLldN_ (Z.moq (hle16.trq O)) q_aggT_ofunderlying24 q_szOf_oftype24 rfl rfl ?_;obtain⟨aI,ar,hD33⟩:=bs aq;refine zg 1 rfl ?_;refine JScl_ (PW (h3.moq ((K.trq hle16).trq O)) (h6.moq ((K.trq hle16).trq O)) ar) rfl rfl (body_of func82 rfl) ab ?_;rintro _ E34 _ hle35 ⟨aJ,aK,rfl,rfl,au⟩ hN36;obtain⟨aL,av,aw⟩:=bs hD33;refine JScl_ (Vy au av) rfl rfl (body_of func111 rfl) hN36 ?_;rintro _ aM _ ay ⟨az,aA,rfl,rfl,aB⟩ aC;refine zg 3 rfl ?_;obtain rfl:=oi aw;refine Af func64 rfl rfl ?_;exact U _ _ _ _ ((((K.trq hle16).trq O).trq hle35).trq ay) rfl ⟨az,aA,rfl,rfl,aB⟩ aC
def JP(fuel:Nat)(p0:JW2)(p1:Int)(K:(List Int)×Int):Option (AH ((List Int)×Int) ((List Int))):= if K.2≤12 then((f82 fuel p0 K.2).bind fun x78=> (ix x78 (p1)).bind fun O=> Option.bind (if O=true then((room K.1 K.2).bind fun U=> some U) else(some K.1)) fun V=> (Ac (K.2+1)).bind fun Y=> some (.more (V,Y))) else(some (.done K.1))
def f66(fuel:Nat)(p0:JW2)(p1:Int):Option ((List Int)×Int):= (f68 fuel p0).bind fun K=> if K≠0 then(some ([],K)) else((Ac (((p0.1).length:Int) - 1)).bind fun O=> (f104 fuel p1 0 O).bind fun U=> if(!U)=true then(some ([],3)) else(Option.bind (iter (JP fuel p0 p1) fuel ([],0)) fun V=> some (V,0)))
theorem f66_w{a1:OAd}{c2:Nat}{a4:OAd}{c5:Nat}{p0:JW2}{p1:Int}(h3:LsR (rL rI) E a1 c2 (p0.1))(h6:LsR (rL rI) E a4 c5 (p0.2)){fuel:Nat}{r:(List Int)×Int}(hD:f66 fuel p0 p1=some r):Al J 66 [.agg #[sV a1 p0.1 c2,sV a4 p0.2 c5],iV p1] E [] (fun w E' B'=>∃(ar:OAd) (au:Nat),w= .tuple #[sV ar r.1 au,iV r.2]∧B'= []∧LsR rI E' ar au (r.1)):=by
 refine Av func66 rfl rfl fun Q br cs H hN ak=>?_;unfold f66 at hD;refine zg 2 rfl ?_;refine JS.box (v:= .agg #[sV a1 p0.1 c2,sV a4 p0.2 c5]) rfl rfl rfl hN rfl fun av aD=>?_;refine JSfreezeB_ 1 aD rfl fun bu K al aE=>?_;refine zg 6 rfl ?_;refine JLldN_ al q_aggT_ofunderlying24 q_szOf_oftype24 rfl rfl ?_;obtain⟨bv,aF,aG⟩:=bs hD;refine JScz_ (f68_w (h3.moq K) (h6.moq K) aF) rfl rfl q_body_offunc68rfl aE fun E15 hle16 aw=>?_;refine zg 7 rfl ?_;refine JLfi_ aG (fun aH aI=>?_) (fun aH aJ=>?_)
 ·refine zg 6 rfl ?_;obtain rfl:=oi aI;refine Af func66 rfl rfl ?_;exact ak _ _ _ _ (K.trq hle16) rfl ⟨none,0,rfl,rfl,LsR.nil⟩ aw
 ·refine zg 5 rfl ?_;refine Ar underlying24 A6 rfl rfl rfl ?_;refine Aw 0 (al.moq hle16) Br rfl rfl rfl ?_;refine JLln_ underlying22 rfl rfl rfl ?_;obtain⟨bw,aK,aL⟩:=bs aJ;refine A9 aK rfl rfl rfl ?_;obtain⟨aM,aN,aO⟩:=bs aL;refine JScz_ (Hi aN) rfl rfl GV aw fun am Y ay=>?_;refine Ae (v:= .bool (!aM)) rfl (fun ρ h=>Yl.not (h _ _ rfl)) ?_;refine JL.done ?_;refine JLfj_ aO (fun aP aQ=>?_) (fun aP hD33=>?_)
  ·refine zg 5 rfl ?_;obtain rfl:=oi aQ;refine Af func66 rfl rfl ?_;exact ak _ _ _ _ ((K.trq hle16).trq Y) rfl ⟨none,0,rfl,rfl,LsR.nil⟩ ay
  ·obtain⟨az,aR,hD47⟩:=bs hD33;refine zg 10 rfl ?_;refine JLjoin_ (fun L s=>∃(E48:LH) (ab:OAd) (ac:Nat) (an:Seg),Jn am H E48 [an] [(7,sV ab az ac)] L s (OL 3 rI E48 ab ac an (az))) ?_ ?_
   ·rintro _ _ ⟨E48,ab,ac,an,rfl,rfl,hle49,hN50,aS⟩;refine zg 6 rfl ?_;refine JSfreezeL_ 0 aS hN50 rfl fun bx aT aU aV=>?_;obtain rfl:=oi hD47;refine Af func66 rfl rfl ?_;exact ak _ _ _ _ ((((K.trq hle16).trq Y).trq hle49).trq aT) rfl ⟨ab,ac,rfl,rfl,aU⟩ aV
   ·intro aW;refine JL.block ?_;refine JLlw_ aR (fun L s O=>∃(ae:LH) (U:OAd) (V:Nat) (Z:Seg),Jn am H ae [Z] [(1,iV p1),(2,pV av 0),(7,sV U O.1 V),(8,iV O.2)] L s (OL 3 rI ae U V Z (O.1))) ⟨am,none,0,[],rfl,rfl,lR_,ay,OL.nil⟩ ?_;rintro _ _ O ⟨ae,U,V,Z,rfl,rfl,aa,aA,ao⟩ aX ⟨bz,ap⟩ aY;have aB:=ap;unfold JP at aB;refine zg 6 rfl ?_;refine JLfi_ aB (fun aZ a0=>?_) (fun aZ a2=>?_)
    ·refine zg 5 rfl ?_;refine JLldN_ (al.moq ((hle16.trq Y).trq aa)) q_aggT_ofunderlying24 q_szOf_oftype24 rfl rfl ?_;obtain⟨x78,hx78,hD79⟩:=bs a0;refine zg 1 rfl ?_;refine JScl_ (PW (h3.moq (((K.trq hle16).trq Y).trq aa)) (h6.moq (((K.trq hle16).trq Y).trq aa)) hx78) rfl rfl (body_of func82 rfl) aA ?_;rintro _ E80 _ hle81 ⟨a83,c84,rfl,rfl,h85⟩ hN82;obtain⟨bA,a3,a5⟩:=bs hD79;refine zg 1 rfl ?_;refine Bp h85 a3 rfl rfl rfl rfl rfl underlying68 FB ?_;rintro bB bC _ rfl a6;refine Aw 0 a6 KE rfl rfl rfl ?_;obtain⟨aq,a8,a9⟩:=bs a5;refine JL.done ?_;refine JLjoin_ (fun L s=>∃(ag:LH) (ah:OAd) (ai:Nat) (aj:Seg),Jn E80 H ag [aj] [(1,iV p1),(2,pV av 0),(7,sV ah aq ai),(8,iV O.2)] L s (OL 3 rI ag ah ai aj (aq))) ?_ ?_
     ·rintro _ _ ⟨ag,ah,ai,aj,rfl,rfl,ba,bb,bc⟩;obtain⟨bd,bf,bg⟩:=bs a9;refine zg 3 rfl ?_;refine JLaC_ bf rfl rfl rfl ?_;refine zg 2 rfl ?_;obtain rfl:=oi bg;exact JLkw_ (aY _ _ (aq,bd) ⟨ag,ah,ai,aj,rfl,rfl,((aa.trq hle81).trq ba),bb,bc⟩ ap) rfl
     ·intro aC;refine JLfj_ a8 (fun bh bi=>?_) (fun bh bj=>?_)
      ·obtain⟨bD,bk,bl⟩:=bs bi;refine zg 3 rfl ?_;refine JS.app (pp:=rI) (v:=iV O.2) (a:=U) (c:=V) 0 bk rfl rfl rfl rfl (fun _=>rfl) rfl (fun _=>rfl) rfl rfl rfl underlying28 underlying28 underlying28 q_szOf_oftype3 (Bz type3) q_zeroOf_oftype3 rfl (by decide) (by decide) (by decide) (by decide) (ao.moq hle81) rfl hN82 rfl fun bE bm bn bo bp bq=>?_;refine zg 2 rfl ?_;obtain rfl:=oi bl;exact JLkw_ (aC _ _ ⟨E80,bm,bn,bo,rfl,rfl,lR_,bq,bp⟩) rfl
      ·refine JL.skip ?_;obtain rfl:=oi bj;exact JLkw_ (aC _ _ ⟨E80,U,V,Z,rfl,rfl,lR_,hN82,(ao.moq hle81)⟩) rfl
    ·refine JL.exit rfl ?_;obtain rfl:=oi a2;obtain rfl:=aX _ ap;exact JLkw_ (aW _ _ ⟨ae,U,V,Z,rfl,rfl,aa,aA,ao⟩) rfl
def f71(fuel:Nat):Option ((JW2)):= some (([([1]:List Int),([2]:List Int),([3,4]:List Int),([4]:List Int),([5]:List Int),([5]:List Int)]:List (List Int)),([[],[],[],([2]:List Int),([2,3]:List Int),([3,4]:List Int)]:List (List Int)))
theorem Gj{fuel:Nat}{r:(JW2)}(hD:f71 fuel=some r):Al J 71 [] E [] (fun w E' B'=>∃(ah:OAd) (ai:Nat) (aj:OAd) (ak:Nat),w= .agg #[sV ah r.1 ai,sV aj r.2 ak]∧B'= []∧LsR (rL rI) E' ah ai (r.1)∧LsR (rL rI) E' aj ak (r.2)):=by
 refine Av func71 rfl rfl fun Q bD cs H hN aw=>?_;unfold f71 at hD;refine zg 2 rfl ?_;refine JS.alloc rfl rfl rfl hN q_zeroOf_oftype24 fun K ay=>?_;refine zg 3 rfl ?_;refine JSlit_ (pp:=rI) [iV 1] [1] rfl rfl rfl underlying28 q_szOf_oftype3 q_zeroOf_oftype3 (by decide) rfl rfl rfl ⟨rfl,trivial⟩ ay fun az al h6 aA=>?_;refine JSlit_ (pp:=rI) [iV 2] [2] rfl rfl rfl underlying28 q_szOf_oftype3 q_zeroOf_oftype3 (by decide) rfl rfl rfl ⟨rfl,trivial⟩ aA fun aB am aC aD=>?_;refine Bm (S':= [[],[(K,.cells #[.slice none 0 0,.slice none 0 0] 24 (0,0))],al,am]) rfl aD fun aE=>?_;refine JSlit_ (pp:=rI) [iV 3,iV 4] [3,4] rfl rfl rfl underlying28 q_szOf_oftype3 q_zeroOf_oftype3 (by decide) rfl rfl rfl ⟨rfl,rfl,trivial⟩ aE fun aF an h17 hN18=>?_;refine JSlit_ (pp:=rI) [iV 4] [4] rfl rfl rfl underlying28 q_szOf_oftype3 q_zeroOf_oftype3 (by decide) rfl rfl rfl ⟨rfl,trivial⟩ hN18 fun r20 ao aG aH=>?_;refine JSlit_ (pp:=rI) [iV 5] [5] rfl rfl rfl underlying28 q_szOf_oftype3 q_zeroOf_oftype3 (by decide) rfl rfl rfl ⟨rfl,trivial⟩ aH fun aI ap aJ aK=>?_;refine Bm (S':= [[],[(K,.cells #[.slice none 0 0,.slice none 0 0] 24 (0,0))],al,am,an,ao,ap]) rfl aK fun aL=>?_;refine JSlit_ (pp:=rI) [iV 5] [5] rfl rfl rfl underlying28 q_szOf_oftype3 q_zeroOf_oftype3 (by decide) rfl rfl rfl ⟨rfl,trivial⟩ aL fun aM aq aN aO=>?_;refine JSfreezeL_ 2 h6 aO rfl fun bE V aP aQ=>?_;refine JSfreezeL_ 3 (aC.moq V) aQ rfl fun bF Y aR hN43=>?_;refine Bm (S':= [[],[(K,.cells #[.slice none 0 0,.slice none 0 0] 24 (0,0))],[],[],an,ao,ap,aq]) rfl hN43 fun aS=>?_;refine JSfreezeL_ 4 (h17.moq (V.trq Y)) aS rfl fun bG Z aT aU=>?_;refine JSfreezeL_ 5 (aG.moq ((V.trq Y).trq Z)) aU rfl fun bH aa aV aW=>?_;refine JSfreezeL_ 6 (aJ.moq (((V.trq Y).trq Z).trq aa)) aW rfl fun bI ab aX aY=>?_;refine Bm (S':= [[],[(K,.cells #[.slice none 0 0,.slice none 0 0] 24 (0,0))],[],[],[],[],[],aq]) rfl aY fun aZ=>?_;refine JSfreezeL_ 7 (aN.moq ((((V.trq Y).trq Z).trq aa).trq ab)) aZ rfl fun E58 hle59 a0 a2=>?_;refine JSlit_ (pp:=(rL rI)) [.slice (some ⟨az,0,none⟩) (([1]:List Int)).length 1,.slice (some ⟨aB,0,none⟩) (([2]:List Int)).length 1,.slice (some ⟨aF,0,none⟩) (([3,4]:List Int)).length 2,.slice (some ⟨r20,0,none⟩) (([4]:List Int)).length 1,.slice (some ⟨aI,0,none⟩) (([5]:List Int)).length 1,.slice (some ⟨aM,0,none⟩) (([5]:List Int)).length 1] [([1]:List Int),([2]:List Int),([3,4]:List Int),([4]:List Int),([5]:List Int),([5]:List Int)] rfl rfl rfl underlying22 Bg DR (by decide) rfl rfl rfl ⟨⟨_,_,rfl,(aP.moq ((((Y.trq Z).trq aa).trq ab).trq hle59))⟩,⟨_,_,rfl,(aR.moq (((Z.trq aa).trq ab).trq hle59))⟩,⟨_,_,rfl,(aT.moq ((aa.trq ab).trq hle59))⟩,⟨_,_,rfl,(aV.moq (ab.trq hle59))⟩,⟨_,_,rfl,(aX.moq hle59)⟩,⟨_,_,rfl,a0⟩,trivial⟩ a2 fun O ag a3 a5=>?_;refine JSlit_ (pp:=rI) [iV 2] [2] rfl rfl rfl underlying28 q_szOf_oftype3 q_zeroOf_oftype3 (by decide) rfl rfl rfl ⟨rfl,trivial⟩ a5 fun a6 a8 a9 ba=>?_;refine Bm (S':= [[],[(K,.cells #[.slice none 0 0,.slice none 0 0] 24 (0,0))],[],[],[],[],[],[],ag,a8]) rfl ba fun bb=>?_;refine JSlit_ (pp:=rI) [iV 2,iV 3] [2,3] rfl rfl rfl underlying28 q_szOf_oftype3 q_zeroOf_oftype3 (by decide) rfl rfl rfl ⟨rfl,rfl,trivial⟩ bb fun bc bd bf bg=>?_;refine JSlit_ (pp:=rI) [iV 3,iV 4] [3,4] rfl rfl rfl underlying28 q_szOf_oftype3 q_zeroOf_oftype3 (by decide) rfl rfl rfl ⟨rfl,rfl,trivial⟩ bg fun bh bi bj bk=>?_;refine JSfreezeL_ 9 a9 bk rfl fun bJ ac h85 bl=>?_;refine Bm (S':= [[],[(K,.cells #[.slice none 0 0,.slice none 0 0] 24 (0,0))],[],[],[],[],[],[],ag,[],bd,bi]) rfl bl fun bm=>?_;refine JSfreezeL_ 10 (bf.moq ac) bm rfl fun bK ae bn bo=>?_;refine JSfreezeL_ 11 (bj.moq (ac.trq ae)) bo rfl fun E92 hle93 bp bq=>?_;refine JSlit_ (pp:=(rL rI)) [.slice none 0 0,.slice none 0 0,.slice none 0 0,.slice (some ⟨a6,0,none⟩) (([2]:List Int)).length 1,.slice (some ⟨bc,0,none⟩) (([2,3]:List Int)).length 2,.slice (some ⟨bh,0,none⟩) (([3,4]:List Int)).length 2] [[],[],[],([2]:List Int),([2,3]:List Int),([3,4]:List Int)] rfl rfl rfl underlying22 Bg DR (by decide) rfl rfl rfl ⟨⟨_,_,rfl,LsR.nil⟩,⟨_,_,rfl,LsR.nil⟩,⟨_,_,rfl,LsR.nil⟩,⟨_,_,rfl,(h85.moq (ae.trq hle93))⟩,⟨_,_,rfl,(bn.moq hle93)⟩,⟨_,_,rfl,bp⟩,trivial⟩ bq fun U br bu bv=>?_;refine Bm (S':= [[],[(K,.cells #[.slice none 0 0,.slice none 0 0] 24 (0,0))],[],[],[],[],[],[],ag,[],[],[],br]) rfl bv fun hN101=>?_;refine Ae (v:= .agg #[.slice (some ⟨O,0,none⟩) (([([1]:List Int),([2]:List Int),([3,4]:List Int),([4]:List Int),([5]:List Int),([5]:List Int)]:List (List Int))).length 6,.slice (some ⟨U,0,none⟩) (([[],[],[],([2]:List Int),([2,3]:List Int),([3,4]:List Int)]:List (List Int))).length 6]) rfl (fun ρ h=>BJ [(0,1),(1,1)] h q_zeroOf_oftype24 underlying24 ⟨rfl,AL type22,rfl,AL type22,trivial⟩ rfl rfl) ?_;refine JSst_ (v:= .agg #[.slice (some ⟨O,0,none⟩) (([([1]:List Int),([2]:List Int),([3,4]:List Int),([4]:List Int),([5]:List Int),([5]:List Int)]:List (List Int))).length 6,.slice (some ⟨U,0,none⟩) (([[],[],[],([2]:List Int),([2,3]:List Int),([3,4]:List Int)]:List (List Int))).length 6]) (off:=0) 1 hN101 q_szOf_oftype24 rfl rfl rfl rfl fun bw=>?_;refine JL.done ?_;refine JSfreezeL_ 8 (a3.moq ((ac.trq ae).trq hle93)) bw rfl fun bL ar bx bz=>?_;refine JSfreezeL_ 12 (bu.moq ar) bz rfl fun bM au bA bB=>?_;refine Bm (S':= [[],[(K,.cells #[.slice (some ⟨O,0,none⟩) (([([1]:List Int),([2]:List Int),([3,4]:List Int),([4]:List Int),([5]:List Int),([5]:List Int)]:List (List Int))).length 6,.slice (some ⟨U,0,none⟩) (([[],[],[],([2]:List Int),([2,3]:List Int),([3,4]:List Int)]:List (List Int))).length 6] 24 (0,0))],[],[],[],[],[],[],[],[],[],[],[]]) rfl bB fun av=>?_;obtain rfl:=oi hD;refine JL.ret (v:= .agg #[.slice (some ⟨O,0,none⟩) (([([1]:List Int),([2]:List Int),([3,4]:List Int),([4]:List Int),([5]:List Int),([5]:List Int)]:List (List Int))).length 6,.slice (some ⟨U,0,none⟩) (([[],[],[],([2]:List Int),([2,3]:List Int),([3,4]:List Int)]:List (List Int))).length 6]) rfl rfl (Bc.list func71 rfl (vs:= [.agg #[.slice (some ⟨O,0,none⟩) (([([1]:List Int),([2]:List Int),([3,4]:List Int),([4]:List Int),([5]:List Int),([5]:List Int)]:List (List Int))).length 6,.slice (some ⟨U,0,none⟩) (([[],[],[],([2]:List Int),([2,3]:List Int),([3,4]:List Int)]:List (List Int))).length 6]]) ⟨⟨_,rfl,Ld.many (vs:= [.slice (some ⟨O,0,none⟩) (([([1]:List Int),([2]:List Int),([3,4]:List Int),([4]:List Int),([5]:List Int),([5]:List Int)]:List (List Int))).length 6,.slice (some ⟨U,0,none⟩) (([[],[],[],([2]:List Int),([2,3]:List Int),([3,4]:List Int)]:List (List Int))).length 6]) q_aggT_ofunderlying24 q_szOf_oftype24 (DT (off:=0) 1 av rfl rfl)⟩,trivial⟩) ?_;refine Gd 1 av rfl fun bC=>?_;exact aw _ _ _ _ ((((((((((V.trq Y).trq Z).trq aa).trq ab).trq hle59).trq ac).trq ae).trq hle93).trq ar).trq au) rfl ⟨(some ⟨O,0,none⟩),6,(some ⟨U,0,none⟩),6,rfl,rfl,(bx.moq au),bA⟩ bC
def f72(fuel:Nat):Option ((LKL)):= some ([(0,2),(1,4)]:LKL)
theorem L9{fuel:Nat}{r:(LKL)}(hD:f72 fuel=some r):Al J 72 [] E [] (fun w E' B'=>∃(K:OAd) (O:Nat),w= sV K r O∧B'= []∧LsR rLK E' K O (r)):=by
 refine Av func72 rfl rfl fun Q ac cs H hN U=>?_;unfold f72 at hD;refine zg 6 rfl ?_;refine Ae (v:= .agg #[iV 0,iV 2]) rfl (fun ρ h=>BJ [(0,1),(1,1)] h CK underlying27 ⟨rfl,AL type3,rfl,AL type3,trivial⟩ rfl rfl) ?_;refine Ae (v:= .agg #[iV 1,iV 4]) rfl (fun ρ h=>BJ [(0,1),(1,1)] h CK underlying27 ⟨rfl,AL type3,rfl,AL type3,trivial⟩ rfl rfl) ?_;refine JSlit_ (pp:=rLK) [.agg #[iV 0,iV 2],.agg #[iV 1,iV 4]] [(0,2),(1,4)] rfl rfl rfl underlying25 q_szOf_oftype27 CK (by decide) rfl rfl rfl ⟨⟨_,_,rfl,rfl,rfl⟩,⟨_,_,rfl,rfl,rfl⟩,trivial⟩ hN fun V ae h3 Y=>?_;refine zg 2 rfl ?_;refine JSfreezeL_ 1 h3 Y rfl fun ag Z aa ab=>?_;obtain rfl:=oi hD;refine Af func72 rfl rfl ?_;exact U _ _ _ _ Z rfl ⟨(some ⟨V,0,none⟩),2,rfl,rfl,aa⟩ ab
def f73(fuel:Nat):Option ((LKL)):= some ([(0,3),(1,3)]:LKL)
theorem PL{fuel:Nat}{r:(LKL)}(hD:f73 fuel=some r):Al J 73 [] E [] (fun w E' B'=>∃(K:OAd) (O:Nat),w= sV K r O∧B'= []∧LsR rLK E' K O (r)):=by
 refine Av func73 rfl rfl fun Q ac cs H hN U=>?_;unfold f73 at hD;refine zg 6 rfl ?_;refine Ae (v:= .agg #[iV 0,iV 3]) rfl (fun ρ h=>BJ [(0,1),(1,1)] h CK underlying27 ⟨rfl,AL type3,rfl,AL type3,trivial⟩ rfl rfl) ?_;refine Ae (v:= .agg #[iV 1,iV 3]) rfl (fun ρ h=>BJ [(0,1),(1,1)] h CK underlying27 ⟨rfl,AL type3,rfl,AL type3,trivial⟩ rfl rfl) ?_;refine JSlit_ (pp:=rLK) [.agg #[iV 0,iV 3],.agg #[iV 1,iV 3]] [(0,3),(1,3)] rfl rfl rfl underlying25 q_szOf_oftype27 CK (by decide) rfl rfl rfl ⟨⟨_,_,rfl,rfl,rfl⟩,⟨_,_,rfl,rfl,rfl⟩,trivial⟩ hN fun V ae h3 Y=>?_;refine zg 2 rfl ?_;refine JSfreezeL_ 1 h3 Y rfl fun ag Z aa ab=>?_;obtain rfl:=oi hD;refine Af func73 rfl rfl ?_;exact U _ _ _ _ Z rfl ⟨(some ⟨V,0,none⟩),2,rfl,rfl,aa⟩ ab
end Pal
namespace Pal
open Go Go.Conc Go.Proofs
open Go.Proofs.Tryz
variable {J:Judge Tryz.prog}{E:LH}
def f103(fuel:Nat)(p0:Nat)(p1:Int):Option (Bool):= (Iu p0 p1).bind fun K=> (Hq (K) (1)).bind fun O=> some (decide ((((O):Nat):Int)=(((1):Nat):Int)))
theorem JJ{p0:Nat}{p1:Int}{fuel:Nat}{r:Bool}(hD:f103 fuel p0 p1=some r):Al J 103 [.int .u16 ((p0:Nat):Int),iV p1] E [] (fun w E' B'=>w= .bool r∧B'= []):=by
 refine Av func103 rfl rfl fun Q ab cs H hN K=>?_;unfold f103 at hD;obtain⟨O,U,V⟩:=bs hD;refine zg 8 rfl ?_;refine Ae (v:= .int .u16 ((O:Nat):Int)) rfl (fun ρ h=>Tp (h _ _ rfl) (h _ _ rfl) U) ?_;obtain⟨Y,Z,aa⟩:=bs V;refine Ae (v:= .int .u16 ((Y:Nat):Int)) rfl (fun ρ h=>Ln (h _ _ rfl) (h _ _ rfl) Z) ?_;refine zg 3 rfl ?_;obtain rfl:=oi aa;refine Af func103 rfl rfl ?_;exact K _ _ _ _ lR_ rfl ⟨rfl,rfl⟩ hN
def f90(fuel:Nat)(p0:Nat)(p1:Int):Option (Nat):= (Ih p1).bind fun K=> (GR (p0) (K)).bind fun O=> some O
theorem Kc{p0:Nat}{p1:Int}{fuel:Nat}{r:Nat}(hD:f90 fuel p0 p1=some r):Al J 90 [.int .u16 ((p0:Nat):Int),iV p1] E [] (fun w E' B'=>w= .int .u16 ((r:Nat):Int)∧B'= []):=by
 refine Av func90 rfl rfl fun Q ab cs H hN K=>?_;unfold f90 at hD;obtain⟨O,U,V⟩:=bs hD;refine zg 8 rfl ?_;refine Ae (v:= .int .u16 ((O:Nat):Int)) rfl (fun ρ h=>Ua (h _ _ rfl) (h _ _ rfl) U) ?_;obtain⟨Y,Z,aa⟩:=bs V;refine Ae (v:= .int .u16 ((Y:Nat):Int)) rfl (fun ρ h=>HV (h _ _ rfl) (h _ _ rfl) Z) ?_;refine zg 2 rfl ?_;obtain rfl:=oi aa;refine Af func90 rfl rfl ?_;exact K _ _ _ _ lR_ rfl ⟨rfl,rfl⟩ hN
def J0(fuel:Nat)(p0:Nat)(K:(List Int)×Int):Option (AH ((List Int)×Int) ((List Int))):= if K.2<16 then((f103 fuel p0 K.2).bind fun O=> Option.bind (if O=true then((room K.1 K.2).bind fun U=> some U) else(some K.1)) fun V=> (Ac (K.2+1)).bind fun Y=> some (.more (V,Y))) else(some (.done K.1))
def f89(fuel:Nat)(p0:Nat):Option ((List Int)):= Option.bind (iter (J0 fuel p0) fuel ([],0)) fun K=> some K
theorem GH{p0:Nat}{fuel:Nat}{r:(List Int)}(hD:f89 fuel p0=some r):Al J 89 [.int .u16 ((p0:Nat):Int)] E [] (fun w E' B'=>∃(an:OAd) (ao:Nat),w= sV an r ao∧B'= []∧LsR rI E' an ao (r)):=by
 refine Av func89 rfl rfl fun Q a6 cs H hN ay=>?_;unfold f89 at hD;obtain⟨ap,az,aA⟩:=bs hD;refine zg 13 rfl ?_;refine JLjoin_ (fun L s=>∃(E15:LH) (Y:OAd) (Z:Nat) (ah:Seg),Jn E H E15 [ah] [(3,sV Y ap Z)] L s (OL 3 rI E15 Y Z ah (ap))) ?_ ?_
 ·rintro _ _ ⟨E15,Y,Z,ah,rfl,rfl,hle16,aB,aC⟩;refine zg 5 rfl ?_;refine JSfreezeL_ 0 aC aB rfl fun a8 aD aE aF=>?_;obtain rfl:=oi aA;refine Af func89 rfl rfl ?_;exact ay _ _ _ _ (hle16.trq aD) rfl ⟨Y,Z,rfl,rfl,aE⟩ aF
 ·intro aG;refine JL.block ?_;refine JLlw_ az (fun L s K=>∃(aa:LH) (O:OAd) (U:Nat) (V:Seg),Jn E H aa [V] [(0,.int .u16 ((p0:Nat):Int)),(3,sV O K.1 U),(5,iV K.2)] L s (OL 3 rI aa O U V (K.1))) ⟨E,none,0,[],rfl,rfl,lR_,hN,OL.nil⟩ ?_;rintro _ _ K ⟨aa,O,U,V,rfl,rfl,aq,ar,ai⟩ aH ⟨a9,aj⟩ aI;have au:=aj;unfold J0 at au;refine zg 5 rfl ?_;refine JLfi_ au (fun aJ aK=>?_) (fun aJ hD79=>?_)
  ·obtain⟨ba,aL,aM⟩:=bs aK;refine zg 12 rfl ?_;refine JScz_ (JJ aL) rfl rfl II ar fun ak al av=>?_;obtain⟨am,aN,aO⟩:=bs aM;refine JL.done ?_;refine JLjoin_ (fun L s=>∃(ab:LH) (ac:OAd) (ae:Nat) (ag:Seg),Jn ak H ab [ag] [(0,.int .u16 ((p0:Nat):Int)),(3,sV ac am ae),(5,iV K.2)] L s (OL 3 rI ab ac ae ag (am))) ?_ ?_
   ·rintro _ _ ⟨ab,ac,ae,ag,rfl,rfl,aP,aQ,aR⟩;obtain⟨aS,aT,aU⟩:=bs aO;refine zg 2 rfl ?_;refine JLaC_ aT rfl rfl rfl ?_;refine zg 2 rfl ?_;obtain rfl:=oi aU;exact JLkw_ (aI _ _ (am,aS) ⟨ab,ac,ae,ag,rfl,rfl,((aq.trq al).trq aP),aQ,aR⟩ aj) rfl
   ·intro aw;refine JLfj_ aN (fun aV aW=>?_) (fun aV aX=>?_)
    ·obtain⟨bb,aY,aZ⟩:=bs aW;refine zg 3 rfl ?_;refine JS.app (pp:=rI) (v:=iV K.2) (a:=O) (c:=U) 0 aY rfl rfl rfl rfl (fun _=>rfl) rfl (fun _=>rfl) rfl rfl rfl underlying28 underlying28 underlying28 q_szOf_oftype3 (Bz type3) q_zeroOf_oftype3 rfl (by decide) (by decide) (by decide) (by decide) (ai.moq al) rfl av rfl fun bc a0 a2 a3 h71 a5=>?_;refine zg 2 rfl ?_;obtain rfl:=oi aZ;exact JLkw_ (aw _ _ ⟨ak,a0,a2,a3,rfl,rfl,lR_,a5,h71⟩) rfl
    ·refine JL.skip ?_;obtain rfl:=oi aX;exact JLkw_ (aw _ _ ⟨ak,O,U,V,rfl,rfl,lR_,av,(ai.moq al)⟩) rfl
  ·refine JL.exit rfl ?_;obtain rfl:=oi hD79;obtain rfl:=aH _ aj;exact JLkw_ (aG _ _ ⟨aa,O,U,V,rfl,rfl,aq,ar,ai⟩) rfl
def Js(fuel:Nat)(p0:List Int)(K:Nat×Int):Option (AH (Nat×Int) (Nat)):= if K.2<((p0).length:Int) then((ix p0 (K.2)).bind fun O=> (f90 fuel K.1 O).bind fun U=> (Ac (K.2+1)).bind fun x39=> some (.more (U,x39))) else(some (.done K.1))
def f120(fuel:Nat)(p0:List Int):Option (Nat):= Option.bind (iter (Js fuel p0) fuel (0,0)) fun K=> some K
theorem Hg{a1:OAd}{c2:Nat}{p0:List Int}(h3:LsR rI E a1 c2 (p0)){fuel:Nat}{r:Nat}(hD:f120 fuel p0=some r):Al J 120 [sV a1 p0 c2] E [] (fun w E' B'=>w= .int .u16 ((r:Nat):Int)∧B'= []):=by
 refine Av func120 rfl rfl fun Q aA cs H hN aa=>?_;unfold f120 at hD;refine zg 12 rfl ?_;refine JLln_ underlying28 rfl rfl rfl ?_;obtain⟨ab,ac,ae⟩:=bs hD;refine zg 2 rfl ?_;refine JLjoin_ (fun L s=>∃(Y:LH),Jm E H Y [] [(3,.int .u16 ((ab:Nat):Int))] L s) ?_ ?_
 ·rintro _ _ ⟨Y,rfl,rfl,ag,ah⟩;refine zg 5 rfl ?_;obtain rfl:=oi ae;refine Af func120 rfl rfl ?_;exact aa _ _ _ _ ag rfl ⟨rfl,rfl⟩ ah
 ·intro ai;refine JL.block ?_;refine JLlw_ ac (fun L s K=>∃(O:LH),Jm E H O [] [(3,.int .u16 ((K.1:Nat):Int)),(6,sV a1 p0 c2),(7,iV ((p0).length:Int)),(8,iV K.2)] L s) ⟨E,rfl,rfl,lR_,hN⟩ ?_;rintro _ _ K ⟨O,rfl,rfl,U,Z⟩ aj ⟨aB,V⟩ ak;have hD26:=V;unfold Js at hD26;refine zg 5 rfl ?_;refine JLfi_ hD26 (fun al am=>?_) (fun al an=>?_)
  ·obtain⟨aC,ao,ap⟩:=bs am;refine zg 5 rfl ?_;refine Bp (h3.moq U) ao rfl rfl rfl rfl rfl underlying28 q_szOf_oftype3 ?_;rintro aD aE _ rfl aq;refine Aw 0 aq q_aggT_ofunderlying3 rfl rfl rfl ?_;obtain⟨ar,au,av⟩:=bs ap;refine zg 5 rfl ?_;refine JScz_ (Kc au) rfl rfl IN Z fun aw ay az=>?_;obtain⟨x39,hx39,hD40⟩:=bs av;refine zg 4 rfl ?_;refine JLaC_ hx39 rfl rfl rfl ?_;refine zg 2 rfl ?_;obtain rfl:=oi hD40;exact JLkw_ (ak _ _ (ar,x39) ⟨aw,rfl,rfl,(U.trq ay),az⟩ V) rfl
  ·refine JL.exit rfl ?_;obtain rfl:=oi an;obtain rfl:=aj _ V;exact JLkw_ (ai _ _ ⟨O,rfl,rfl,U,Z⟩) rfl
def Jv(fuel:Nat)(p0:JW2)(p1:Int)(p2:List Int)(p3:Bool)(K:Int):Option (AH (Int) (((Option (Int×Int)))⊕(Unit))):= if K<((p2).length:Int) then((ix p2 (K)).bind fun O=> (Ac (((p0.1).length:Int) - 1)).bind fun U=> (f101 fuel O 0 U).bind fun V=> if V=true then(some (.done (Sum.inl (some (3,p1))))) else(Option.bind (if O=p1 then(some (!p3)) else(some false)) fun Y=> if Y=true then(some (.done (Sum.inl (some (8,p1))))) else(Option.bind (if 0<K then((Ac (K - 1)).bind fun Z=> (ix p2 (Z)).bind fun aa=> some (decide (O≤aa))) else(some false)) fun ab=> if ab=true then(some (.done (Sum.inl (some (5,p1))))) else((Ac (K+1)).bind fun ac=> some (.more ac))))) else(some (.done (Sum.inr ())))
def f136(fuel:Nat)(p0:JW2)(p1:Int)(p2:List Int)(p3:Bool):Option ((Option (Int×Int))):= Option.bind (iter (Jv fuel p0 p1 p2 p3) fuel 0) fun K=> Sum.elim (fun r=>some r) (fun x25=> some none) K
theorem Pf{a1:OAd}{c2:Nat}{a4:OAd}{c5:Nat}{a7:OAd}{c8:Nat}{p0:JW2}{p1:Int}{p2:List Int}{p3:Bool}(h3:LsR (rL rI) E a1 c2 (p0.1))(h6:LsR (rL rI) E a4 c5 (p0.2))(h9:LsR rI E a7 c8 (p2)){fuel:Nat}{r:(Option (Int×Int))}(hD:f136 fuel p0 p1 p2 p3=some r):Al J 136 [.agg #[sV a1 p0.1 c2,sV a4 p0.2 c5],iV p1,sV a7 p2 c8,.bool p3] E [] (fun w E' B'=>∃(an:Value),w=an∧B'= []∧FW 183 an (r)):=by
 refine Av func136 rfl rfl fun Q bv cs H hN aa=>?_;unfold f136 at hD;refine zg 2 rfl ?_;refine JS.box (v:= .agg #[sV a1 p0.1 c2,sV a4 p0.2 c5]) rfl rfl rfl hN rfl fun ag ay=>?_;refine JSfreezeB_ 1 ay rfl fun ah O az aA=>?_;refine zg 6 rfl ?_;refine JLln_ underlying28 rfl rfl rfl ?_;obtain⟨ao,aB,ab⟩:=bs hD;refine zg 2 rfl ?_;refine JLjoin_ (fun L s=>∃(x25:Unit) (ap:LH),ao=Sum.inr x25∧Jm ah H ap [] [] L s) ?_ ?_
 ·rintro _ _ ⟨x25,ap,rfl,rfl,rfl,aC,aD⟩;have aE:=elim_inr ab;refine zg 4 rfl ?_;obtain rfl:=oi aE;refine Af func136 rfl rfl ?_;exact aa _ _ _ _ (O.trq aC) rfl ⟨.nilIface,rfl,rfl,rfl⟩ aD
 ·intro aF;refine JL.block ?_;refine JLlw_ aB (fun L s V=>∃(ai:LH),Jm ah H ai [] [(1,iV p1),(2,sV a7 p2 c8),(3,.bool p3),(4,pV ag 0),(11,sV a7 p2 c8),(12,iV ((p2).length:Int)),(13,iV V)] L s) ⟨ah,rfl,rfl,lR_,aA⟩ ?_;rintro _ _ V ⟨ai,rfl,rfl,K,aq⟩ ac ⟨bw,U⟩ aG;have hD40:=U;unfold Jv at hD40;refine zg 5 rfl ?_;refine JLfi_ hD40 (fun aH aI=>?_) (fun aH aJ=>?_)
  ·obtain⟨aK,aL,aM⟩:=bs aI;refine zg 6 rfl ?_;refine Bp (h9.moq (O.trq K)) aL rfl rfl rfl rfl rfl underlying28 q_szOf_oftype3 ?_;rintro bx bz _ rfl aN;refine Aw 0 aN q_aggT_ofunderlying3 rfl rfl rfl ?_;refine zg 7 rfl ?_;refine Ar underlying24 A6 rfl rfl rfl ?_;refine Aw 0 (az.moq K) Br rfl rfl rfl ?_;refine JLln_ underlying22 rfl rfl rfl ?_;obtain⟨bA,aO,aP⟩:=bs aM;refine A9 aO rfl rfl rfl ?_;obtain⟨bB,aQ,aR⟩:=bs aP;refine JScz_ (Gf aQ) rfl rfl F0 aq fun aj Y ak=>?_;refine zg 2 rfl ?_;refine JLfj_ aR (fun aS aT=>?_) (fun aS aU=>?_)
   ·refine zg 3 rfl ?_;refine Ae (v:= .agg #[iV 3,iV p1]) rfl (fun ρ h=>BJ [(0,1),(1,1)] h DC underlying183 ⟨rfl,AL type39,rfl,AL type3,trivial⟩ rfl rfl) ?_;refine Ae (v:= .iface 183 (.agg #[iV 3,iV p1])) rfl (fun ρ h=>C9 underlying183 (fun _ h=>by cases h) (h _ _ rfl)) ?_;refine zg 2 rfl ?_;obtain rfl:=oi aT;obtain rfl:=ac _ U;have aV:=elim_inl ab;obtain rfl:=oi aV;refine Af func136 rfl rfl ?_;exact aa _ _ _ _ ((O.trq K).trq Y) rfl ⟨.iface 183 (.agg #[iV 3,iV p1]),rfl,rfl,rfl⟩ ak
   ·obtain⟨aW,aX,aY⟩:=bs aU;refine zg 6 rfl ?_;refine JLjoinR_ [7] (fun L s=>∃(Z:LH),Jm aj H Z [] [(1,iV p1),(2,sV a7 p2 c8),(3,.bool p3),(4,pV ag 0),(9,iV V),(10,iV aK),(11,sV a7 p2 c8),(12,iV ((p2).length:Int)),(13,iV V),(35,.bool aW)] L s) ?_ ?_
    ·rintro _ _ ⟨Z,rfl,rfl,ae,al⟩;refine zg 2 rfl ?_;refine JLfj_ aY (fun aZ a0=>?_) (fun aZ a2=>?_)
     ·refine zg 3 rfl ?_;refine Ae (v:= .agg #[iV 8,iV p1]) rfl (fun ρ h=>BJ [(0,1),(1,1)] h DC underlying183 ⟨rfl,AL type39,rfl,AL type3,trivial⟩ rfl rfl) ?_;refine Ae (v:= .iface 183 (.agg #[iV 8,iV p1])) rfl (fun ρ h=>C9 underlying183 (fun _ h=>by cases h) (h _ _ rfl)) ?_;refine zg 2 rfl ?_;obtain rfl:=oi a0;obtain rfl:=ac _ U;have a3:=elim_inl ab;obtain rfl:=oi a3;refine Af func136 rfl rfl ?_;exact aa _ _ _ _ (((O.trq K).trq Y).trq ae) rfl ⟨.iface 183 (.agg #[iV 8,iV p1]),rfl,rfl,rfl⟩ al
     ·obtain⟨a5,a6,a8⟩:=bs a2;refine zg 5 rfl ?_;refine JLjoinR_ [11] (fun L s=>∃(am:LH),Jm Z H am [] [(1,iV p1),(2,sV a7 p2 c8),(3,.bool p3),(4,pV ag 0),(11,sV a7 p2 c8),(12,iV ((p2).length:Int)),(13,iV V),(50,.bool a5)] L s) ?_ ?_
      ·rintro _ _ ⟨am,rfl,rfl,ar,au⟩;refine zg 2 rfl ?_;refine JLfj_ a8 (fun a9 ba=>?_) (fun a9 bb=>?_)
       ·refine zg 3 rfl ?_;refine Ae (v:= .agg #[iV 5,iV p1]) rfl (fun ρ h=>BJ [(0,1),(1,1)] h DC underlying183 ⟨rfl,AL type39,rfl,AL type3,trivial⟩ rfl rfl) ?_;refine Ae (v:= .iface 183 (.agg #[iV 5,iV p1])) rfl (fun ρ h=>C9 underlying183 (fun _ h=>by cases h) (h _ _ rfl)) ?_;refine zg 2 rfl ?_;obtain rfl:=oi ba;obtain rfl:=ac _ U;have bc:=elim_inl ab;obtain rfl:=oi bc;refine Af func136 rfl rfl ?_;exact aa _ _ _ _ ((((O.trq K).trq Y).trq ae).trq ar) rfl ⟨.iface 183 (.agg #[iV 5,iV p1]),rfl,rfl,rfl⟩ au
       ·obtain⟨bd,bf,bg⟩:=bs bb;refine zg 4 rfl ?_;refine JLaC_ bf rfl rfl rfl ?_;refine zg 2 rfl ?_;obtain rfl:=oi bg;exact JLkw_ (aG _ _ bd ⟨am,rfl,rfl,(((K.trq Y).trq ae).trq ar),au⟩ U) rfl
      ·intro av;refine C3 42 a6 (fun bh bi=>?_) (fun bh bj=>?_)
       ·obtain⟨bC,bk,bl⟩:=bs bi;refine zg 3 rfl ?_;refine A9 bk rfl rfl rfl ?_;obtain⟨bD,bm,bn⟩:=bs bl;refine Bp (h9.moq (((O.trq K).trq Y).trq ae)) bm rfl rfl rfl rfl rfl underlying28 q_szOf_oftype3 ?_;rintro bE bF _ rfl bo;refine Aw 0 bo q_aggT_ofunderlying3 rfl rfl rfl ?_;refine zg 2 rfl ?_;obtain rfl:=oi bn;exact JLkw_ (av _ _ ⟨Z,rfl,rfl,lR_,al⟩) rfl
       ·refine zg 8 rfl ?_;obtain rfl:=oi bj;exact JLkw_ (av _ _ ⟨Z,rfl,rfl,lR_,al⟩) rfl
    ·intro aw;refine C3 32 aX (fun bp bq=>?_) (fun bp br=>?_)
     ·refine zg 1 rfl ?_;refine Ae (v:= .bool (!p3)) rfl (fun ρ h=>Yl.not (h _ _ rfl)) ?_;refine zg 1 rfl ?_;obtain rfl:=oi bq;exact JLkw_ (aw _ _ ⟨aj,rfl,rfl,lR_,ak⟩) rfl
     ·refine zg 3 rfl ?_;obtain rfl:=oi br;exact JLkw_ (aw _ _ ⟨aj,rfl,rfl,lR_,ak⟩) rfl
  ·refine JL.exit rfl ?_;obtain rfl:=oi aJ;have bu:ao=(Sum.inr ()):=(ac _ U).symm;exact JLkw_ (aF _ _ ⟨(),ai,bu,rfl,rfl,K,aq⟩) rfl
def Jy(fuel:Nat)(p0:JW2)(K:Int):Option (AH (Int) (((Option (Int×Int)))⊕(Unit))):= if K<((p0.1).length:Int) then((ix p0.1 (K)).bind fun O=> if((O).length:Int)=0 then(some (.done (Sum.inl (some (7,K))))) else(if 3<((O).length:Int) then(some (.done (Sum.inl (some (6,K))))) else((f136 fuel p0 K O true).bind fun U=> if U.isSome=true then(some (.done (Sum.inl U))) else((ix p0.2 (K)).bind fun Y=> if 3<((Y).length:Int) then(some (.done (Sum.inl (some (6,K))))) else((ix p0.2 (K)).bind fun x103=> (f136 fuel p0 K x103 false).bind fun V=> if V.isSome=true then(some (.done (Sum.inl V))) else((Ac (K+1)).bind fun Z=> some (.more Z))))))) else(some (.done (Sum.inr ())))
def f113(fuel:Nat)(p0:JW2):Option ((Option (Int×Int))):= if((p0.1).length:Int)=0 then(some (some (7,0))) else(if 8<((p0.1).length:Int) then(some (some (6,0))) else(if((p0.2).length:Int)≠((p0.1).length:Int) then(some (some (9,0))) else(Option.bind (iter (Jy fuel p0) fuel 0) fun x31=> Sum.elim (fun r=>some r) (fun K=> some none) x31)))
theorem O5{a1:OAd}{c2:Nat}{a4:OAd}{c5:Nat}{p0:JW2}(h3:LsR (rL rI) E a1 c2 (p0.1))(h6:LsR (rL rI) E a4 c5 (p0.2)){fuel:Nat}{r:(Option (Int×Int))}(hD:f113 fuel p0=some r):Al J 113 [.agg #[sV a1 p0.1 c2,sV a4 p0.2 c5]] E [] (fun w E' B'=>∃(aj:Value),w=aj∧B'= []∧FW 183 aj (r)):=by
 refine Av func113 rfl rfl fun Q bv cs H hN Y=>?_;unfold f113 at hD;refine zg 2 rfl ?_;refine JS.box (v:= .agg #[sV a1 p0.1 c2,sV a4 p0.2 c5]) rfl rfl rfl hN rfl fun aq ar=>?_;refine JSfreezeB_ 1 ar rfl fun ag O aa ac=>?_;refine zg 5 rfl ?_;refine Ar underlying24 A6 rfl rfl rfl ?_;refine Aw 0 aa Br rfl rfl rfl ?_;refine JLln_ underlying22 rfl rfl rfl ?_;refine zg 9 rfl ?_;refine JLfi_ hD (fun au av=>?_) (fun au aw=>?_)
 ·refine zg 2 rfl ?_;refine Ae (v:= .agg #[iV 7,iV 0]) rfl (fun ρ h=>BJ [(0,1),(1,1)] h DC underlying183 ⟨rfl,AL type39,rfl,AL type3,trivial⟩ rfl rfl) ?_;refine Ae (v:= .iface 183 (.agg #[iV 7,iV 0])) rfl (fun ρ h=>C9 underlying183 (fun _ h=>by cases h) (h _ _ rfl)) ?_;refine zg 2 rfl ?_;obtain rfl:=oi av;refine Af func113 rfl rfl ?_;exact Y _ _ _ _ O rfl ⟨.iface 183 (.agg #[iV 7,iV 0]),rfl,rfl,rfl⟩ ac
 ·refine zg 6 rfl ?_;refine JLfi_ aw (fun ay az=>?_) (fun ay aA=>?_)
  ·refine zg 2 rfl ?_;refine Ae (v:= .agg #[iV 6,iV 0]) rfl (fun ρ h=>BJ [(0,1),(1,1)] h DC underlying183 ⟨rfl,AL type39,rfl,AL type3,trivial⟩ rfl rfl) ?_;refine Ae (v:= .iface 183 (.agg #[iV 6,iV 0])) rfl (fun ρ h=>C9 underlying183 (fun _ h=>by cases h) (h _ _ rfl)) ?_;refine zg 2 rfl ?_;obtain rfl:=oi az;refine Af func113 rfl rfl ?_;exact Y _ _ _ _ O rfl ⟨.iface 183 (.agg #[iV 6,iV 0]),rfl,rfl,rfl⟩ ac
  ·refine zg 2 rfl ?_;refine Ar underlying24 A6 rfl rfl rfl ?_;refine Aw 1 aa Br rfl rfl rfl ?_;refine JLln_ underlying22 rfl rfl rfl ?_;refine zg 4 rfl ?_;refine JLfi_ aA (fun aB aC=>?_) (fun aB aD=>?_)
   ·refine zg 2 rfl ?_;refine Ae (v:= .agg #[iV 9,iV 0]) rfl (fun ρ h=>BJ [(0,1),(1,1)] h DC underlying183 ⟨rfl,AL type39,rfl,AL type3,trivial⟩ rfl rfl) ?_;refine Ae (v:= .iface 183 (.agg #[iV 9,iV 0])) rfl (fun ρ h=>C9 underlying183 (fun _ h=>by cases h) (h _ _ rfl)) ?_;refine zg 2 rfl ?_;obtain rfl:=oi aC;refine Af func113 rfl rfl ?_;exact Y _ _ _ _ O rfl ⟨.iface 183 (.agg #[iV 9,iV 0]),rfl,rfl,rfl⟩ ac
   ·refine zg 5 rfl ?_;refine Ar underlying24 A6 rfl rfl rfl ?_;refine Aw 0 aa Br rfl rfl rfl ?_;refine JLln_ underlying22 rfl rfl rfl ?_;obtain⟨x31,aE,hD33⟩:=bs aD;refine zg 2 rfl ?_;refine JLjoin_ (fun L s=>∃(ak:Unit) (al:LH),x31=Sum.inr ak∧Jm ag H al [] [] L s) ?_ ?_
    ·rintro _ _ ⟨ak,al,rfl,rfl,rfl,aF,aG⟩;have hD38:=elim_inr hD33;refine zg 4 rfl ?_;obtain rfl:=oi hD38;refine Af func113 rfl rfl ?_;exact Y _ _ _ _ (O.trq aF) rfl ⟨.nilIface,rfl,rfl,rfl⟩ aG
    ·intro aH;refine JL.block ?_;refine JLlw_ aE (fun L s U=>∃(ah:LH),Jm ag H ah [] [(1,pV aq 0),(30,sV a1 p0.1 c2),(31,iV ((p0.1).length:Int)),(32,iV U)] L s) ⟨ag,rfl,rfl,lR_,ac⟩ ?_;rintro _ _ U ⟨ah,rfl,rfl,K,ae⟩ ab ⟨bw,Z⟩ aI;have am:=Z;unfold Jy at am;refine zg 5 rfl ?_;refine JLfi_ am (fun aJ aK=>?_) (fun aJ aL=>?_)
     ·obtain⟨bx,aM,aN⟩:=bs aK;refine zg 6 rfl ?_;refine Bp (h3.moq (O.trq K)) aM rfl rfl rfl rfl rfl underlying22 Bg ?_;rintro bz bA _ ⟨bB,bC,rfl,aO⟩ aP;refine Aw 0 aP BL rfl rfl rfl ?_;refine zg 7 rfl ?_;refine JLln_ underlying28 rfl rfl rfl ?_;refine zg 2 rfl ?_;refine JLfi_ aN (fun aQ aR=>?_) (fun aQ aS=>?_)
      ·refine zg 3 rfl ?_;refine Ae (v:= .agg #[iV 7,iV U]) rfl (fun ρ h=>BJ [(0,1),(1,1)] h DC underlying183 ⟨rfl,AL type39,rfl,AL type3,trivial⟩ rfl rfl) ?_;refine Ae (v:= .iface 183 (.agg #[iV 7,iV U])) rfl (fun ρ h=>C9 underlying183 (fun _ h=>by cases h) (h _ _ rfl)) ?_;refine zg 2 rfl ?_;obtain rfl:=oi aR;obtain rfl:=ab _ Z;have aT:=elim_inl hD33;obtain rfl:=oi aT;refine Af func113 rfl rfl ?_;exact Y _ _ _ _ (O.trq K) rfl ⟨.iface 183 (.agg #[iV 7,iV U]),rfl,rfl,rfl⟩ ae
      ·refine zg 5 rfl ?_;refine JLln_ underlying28 rfl rfl rfl ?_;refine zg 2 rfl ?_;refine JLfi_ aS (fun aU hD68=>?_) (fun aU aV=>?_)
       ·refine zg 3 rfl ?_;refine Ae (v:= .agg #[iV 6,iV U]) rfl (fun ρ h=>BJ [(0,1),(1,1)] h DC underlying183 ⟨rfl,AL type39,rfl,AL type3,trivial⟩ rfl rfl) ?_;refine Ae (v:= .iface 183 (.agg #[iV 6,iV U])) rfl (fun ρ h=>C9 underlying183 (fun _ h=>by cases h) (h _ _ rfl)) ?_;refine zg 2 rfl ?_;obtain rfl:=oi hD68;obtain rfl:=ab _ Z;have aW:=elim_inl hD33;obtain rfl:=oi aW;refine Af func113 rfl rfl ?_;exact Y _ _ _ _ (O.trq K) rfl ⟨.iface 183 (.agg #[iV 6,iV U]),rfl,rfl,rfl⟩ ae
       ·refine zg 4 rfl ?_;refine JLldN_ (aa.moq K) q_aggT_ofunderlying24 q_szOf_oftype24 rfl rfl ?_;obtain⟨aX,aY,aZ⟩:=bs aV;refine zg 2 rfl ?_;refine JScl_ (Pf (h3.moq (O.trq K)) (h6.moq (O.trq K)) aO aY) rfl rfl (body_of func136 rfl) ae ?_;rintro a0 bD _ V ⟨_,rfl,rfl,an⟩ ai;refine zg 5 rfl ?_;refine Ae (v:= .bool aX.isSome) rfl (fun ρ h=>Lt underlying149 an (h _ _ rfl) (h _ _ rfl)) ?_;refine JL.done ?_;refine JLfj_ aZ (fun a2 a3=>?_) (fun a2 a5=>?_)
        ·refine zg 5 rfl ?_;obtain rfl:=oi a3;obtain rfl:=ab _ Z;have a6:=elim_inl hD33;obtain rfl:=oi a6;refine Af func113 rfl rfl ?_;exact Y _ _ _ _ ((O.trq K).trq V) rfl ⟨a0,rfl,rfl,an⟩ ai
        ·refine zg 4 rfl ?_;refine Ar underlying24 A6 rfl rfl rfl ?_;refine Aw 1 (aa.moq (K.trq V)) Br rfl rfl rfl ?_;obtain⟨bE,a8,a9⟩:=bs a5;refine zg 1 rfl ?_;refine Bp (h6.moq ((O.trq K).trq V)) a8 rfl rfl rfl rfl rfl underlying22 Bg ?_;rintro bF bG _ ⟨bH,bI,rfl,bJ⟩ ba;refine Aw 0 ba BL rfl rfl rfl ?_;refine JLln_ underlying28 rfl rfl rfl ?_;refine zg 2 rfl ?_;refine JLfi_ a9 (fun c96 bb=>?_) (fun c96 bc=>?_)
         ·refine zg 3 rfl ?_;refine Ae (v:= .agg #[iV 6,iV U]) rfl (fun ρ h=>BJ [(0,1),(1,1)] h DC underlying183 ⟨rfl,AL type39,rfl,AL type3,trivial⟩ rfl rfl) ?_;refine Ae (v:= .iface 183 (.agg #[iV 6,iV U])) rfl (fun ρ h=>C9 underlying183 (fun _ h=>by cases h) (h _ _ rfl)) ?_;refine zg 2 rfl ?_;obtain rfl:=oi bb;obtain rfl:=ab _ Z;have bd:=elim_inl hD33;obtain rfl:=oi bd;refine Af func113 rfl rfl ?_;exact Y _ _ _ _ ((O.trq K).trq V) rfl ⟨.iface 183 (.agg #[iV 6,iV U]),rfl,rfl,rfl⟩ ai
         ·refine zg 2 rfl ?_;refine JGd0_ 7 fun ht=>?_;refine JGldN_ 0 ht (aa.moq (K.trq V)) q_aggT_ofunderlying24 q_szOf_oftype24 rfl rfl rfl ?_;refine JGmv_ 1 ht rfl rfl ?_;refine Bf 2 ht underlying24 A6 rfl rfl rfl rfl ?_;refine JGld_ 3 ht 1 (aa.moq (K.trq V)) Br rfl rfl rfl rfl ?_;refine JGmv_ 4 ht rfl rfl ?_;obtain⟨x103,hx103,hD104⟩:=bs bc;refine JGjd_ 5 (h6.moq ((O.trq K).trq V)) hx103 ht underlying22 Bg ?_;rintro bK bL _ ⟨bM,bN,rfl,bf⟩ h110;refine JGld_ 6 ht 0 h110 BL rfl rfl rfl rfl ?_;refine JALlf_ [7,8] ?_;obtain⟨bg,bh,bi⟩:=bs hD104;refine JScl_ (Pf (h3.moq ((O.trq K).trq V)) (h6.moq ((O.trq K).trq V)) bf bh) rfl rfl (body_of func136 rfl) ai ?_;rintro bj bk _ ao ⟨_,rfl,rfl,ap⟩ hN115;refine zg 5 rfl ?_;refine Ae (v:= .bool bg.isSome) rfl (fun ρ h=>Lt underlying149 ap (h _ _ rfl) (h _ _ rfl)) ?_;refine JL.done ?_;refine JLfj_ bi (fun bl bm=>?_) (fun bl bn=>?_)
          ·refine zg 5 rfl ?_;obtain rfl:=oi bm;obtain rfl:=ab _ Z;have bo:=elim_inl hD33;obtain rfl:=oi bo;refine Af func113 rfl rfl ?_;exact Y _ _ _ _ (((O.trq K).trq V).trq ao) rfl ⟨bj,rfl,rfl,ap⟩ hN115
          ·obtain⟨bp,bq,br⟩:=bs bn;refine zg 3 rfl ?_;refine JLaC_ bq rfl rfl rfl ?_;refine zg 2 rfl ?_;obtain rfl:=oi br;exact JLkw_ (aI _ _ bp ⟨bk,rfl,rfl,((K.trq V).trq ao),hN115⟩ Z) rfl
     ·refine JL.exit rfl ?_;obtain rfl:=oi aL;have bu:x31=(Sum.inr ()):=(ab _ Z).symm;exact JLkw_ (aH _ _ ⟨(),ah,bu,rfl,rfl,K,ae⟩) rfl
def Jh(fuel:Nat)(p0:JW2)(p1:LKL)(K:Int):Option (AH (Int) (((Option (Int×Int)))⊕(Unit))):= if K<((p1).length:Int) then((ix p1 (K)).bind fun O=> (f101 fuel O.1 0 6).bind fun U=> if U=true then(some (.done (Sum.inl (some (1,K))))) else(Option.bind (if 0<K then((Ac (K - 1)).bind fun V=> (ix p1 (V)).bind fun Y=> some (decide (O.1<Y.1))) else(some false)) fun Z=> if Z=true then(some (.done (Sum.inl (some (5,K))))) else((Ac (((p0.1).length:Int) - 1)).bind fun aa=> (f101 fuel O.2 0 aa).bind fun ab=> if ab=true then(some (.done (Sum.inl (some (3,K))))) else((Ac (K+1)).bind fun ac=> some (.more ac))))) else(some (.done (Sum.inr ())))
def f116(fuel:Nat)(p0:JW2)(p1:LKL):Option ((Option (Int×Int))):= if 4<((p1).length:Int) then(some (some (6,0))) else(Option.bind (iter (Jh fuel p0 p1) fuel 0) fun K=> Sum.elim (fun r=>some r) (fun O=> some none) K)
theorem Uv{a1:OAd}{c2:Nat}{a4:OAd}{c5:Nat}{a7:OAd}{c8:Nat}{p0:JW2}{p1:LKL}(h3:LsR (rL rI) E a1 c2 (p0.1))(h6:LsR (rL rI) E a4 c5 (p0.2))(h9:LsR rLK E a7 c8 (p1)){fuel:Nat}{r:(Option (Int×Int))}(hD:f116 fuel p0 p1=some r):Al J 116 [.agg #[sV a1 p0.1 c2,sV a4 p0.2 c5],sV a7 p1 c8] E [] (fun w E' B'=>∃(ak:Value),w=ak∧B'= []∧FW 183 ak (r)):=by
 refine Av func116 rfl rfl fun Q bx cs H hN aa=>?_;unfold f116 at hD;refine zg 2 rfl ?_;refine JS.box (v:= .agg #[sV a1 p0.1 c2,sV a4 p0.2 c5]) rfl rfl rfl hN rfl fun al aA=>?_;refine JSfreezeB_ 1 aA rfl fun ae V aB am=>?_;refine zg 6 rfl ?_;refine JLln_ underlying25 rfl rfl rfl ?_;refine zg 2 rfl ?_;refine JLfi_ hD (fun aC aD=>?_) (fun aC aE=>?_)
 ·refine zg 2 rfl ?_;refine Ae (v:= .agg #[iV 6,iV 0]) rfl (fun ρ h=>BJ [(0,1),(1,1)] h DC underlying183 ⟨rfl,AL type39,rfl,AL type3,trivial⟩ rfl rfl) ?_;refine Ae (v:= .iface 183 (.agg #[iV 6,iV 0])) rfl (fun ρ h=>C9 underlying183 (fun _ h=>by cases h) (h _ _ rfl)) ?_;refine zg 2 rfl ?_;obtain rfl:=oi aD;refine Af func116 rfl rfl ?_;exact aa _ _ _ _ V rfl ⟨.iface 183 (.agg #[iV 6,iV 0]),rfl,rfl,rfl⟩ am
 ·refine zg 5 rfl ?_;refine JLln_ underlying25 rfl rfl rfl ?_;obtain⟨an,aF,ab⟩:=bs aE;refine zg 2 rfl ?_;refine JLjoin_ (fun L s=>∃(ao:Unit) (ap:LH),an=Sum.inr ao∧Jm ae H ap [] [] L s) ?_ ?_
  ·rintro _ _ ⟨ao,ap,rfl,rfl,rfl,aG,aH⟩;have hD33:=elim_inr ab;refine zg 4 rfl ?_;obtain rfl:=oi hD33;refine Af func116 rfl rfl ?_;exact aa _ _ _ _ (V.trq aG) rfl ⟨.nilIface,rfl,rfl,rfl⟩ aH
  ·intro aI;refine JL.block ?_;refine JLlw_ aF (fun L s K=>∃(ag:LH),Jm ae H ag [] [(1,sV a7 p1 c8),(2,pV al 0),(12,sV a7 p1 c8),(13,iV ((p1).length:Int)),(14,iV K)] L s) ⟨ae,rfl,rfl,lR_,am⟩ ?_;rintro _ _ K ⟨ag,rfl,rfl,O,aq⟩ ac ⟨bz,Y⟩ aJ;have ar:=Y;unfold Jh at ar;refine zg 5 rfl ?_;refine JLfi_ ar (fun aK aL=>?_) (fun aK aM=>?_)
   ·obtain⟨au,aN,aO⟩:=bs aL;refine zg 6 rfl ?_;refine Bp (h9.moq (V.trq O)) aN rfl rfl rfl rfl rfl underlying25 q_szOf_oftype27 ?_;rintro bA bB _ ⟨_,_,rfl,rfl,rfl⟩ aP;refine JLldN_ aP q_aggT_ofunderlying27 q_szOf_oftype27 rfl rfl ?_;refine JS.alloc rfl rfl rfl aq CK fun aQ aR=>?_;refine zg 1 rfl ?_;refine JSst_ (v:= .agg #[iV au.1,iV au.2]) (off:=0) 0 aR q_szOf_oftype27 rfl rfl rfl rfl fun aS=>?_;refine JSfreezeB_ 0 aS rfl fun bC Z ah aT=>?_;refine zg 4 rfl ?_;refine Ar underlying27 q_szOf_oftype3 rfl rfl rfl ?_;refine Aw 0 ah q_aggT_ofunderlying3 rfl rfl rfl ?_;obtain⟨bD,aU,aV⟩:=bs aO;refine JScz_ (Gf aU) rfl rfl F0 aT fun aW U ai=>?_;refine zg 2 rfl ?_;refine JLfj_ aV (fun aX aY=>?_) (fun aX aZ=>?_)
    ·refine zg 3 rfl ?_;refine Ae (v:= .agg #[iV 1,iV K]) rfl (fun ρ h=>BJ [(0,1),(1,1)] h DC underlying183 ⟨rfl,AL type39,rfl,AL type3,trivial⟩ rfl rfl) ?_;refine Ae (v:= .iface 183 (.agg #[iV 1,iV K])) rfl (fun ρ h=>C9 underlying183 (fun _ h=>by cases h) (h _ _ rfl)) ?_;refine zg 2 rfl ?_;obtain rfl:=oi aY;obtain rfl:=ac _ Y;have a0:=elim_inl ab;obtain rfl:=oi a0;refine Af func116 rfl rfl ?_;exact aa _ _ _ _ (((V.trq O).trq Z).trq U) rfl ⟨.iface 183 (.agg #[iV 1,iV K]),rfl,rfl,rfl⟩ ai
    ·refine JL.seq ?_;refine JGd0_ 13 fun ht=>?_;refine JGms_ ht rfl [0,1,2] rfl ?_;obtain⟨a2,av,a3⟩:=bs aZ;refine JALjoin_ 1 #[true,true,true,true,true,true,true,true,true,true,true,true,true,false] (fun L s=>L= [(1,sV a7 p1 c8),(2,pV al 0),(5,iV K),(6,pV aQ 0),(12,sV a7 p1 c8),(13,iV ((p1).length:Int)),(14,iV K),(39,.bool a2)]∧s=mkS aW H [[],[]]) ?_ ?_
     ·rintro _ _ ⟨rfl,rfl⟩;refine JALlf_ [13] ?_;refine zg 2 rfl ?_;refine JLfj_ a3 (fun a5 a6=>?_) (fun a5 a8=>?_)
      ·refine zg 3 rfl ?_;refine Ae (v:= .agg #[iV 5,iV K]) rfl (fun ρ h=>BJ [(0,1),(1,1)] h DC underlying183 ⟨rfl,AL type39,rfl,AL type3,trivial⟩ rfl rfl) ?_;refine Ae (v:= .iface 183 (.agg #[iV 5,iV K])) rfl (fun ρ h=>C9 underlying183 (fun _ h=>by cases h) (h _ _ rfl)) ?_;refine zg 2 rfl ?_;obtain rfl:=oi a6;obtain rfl:=ac _ Y;have a9:=elim_inl ab;obtain rfl:=oi a9;refine Af func116 rfl rfl ?_;exact aa _ _ _ _ (((V.trq O).trq Z).trq U) rfl ⟨.iface 183 (.agg #[iV 5,iV K]),rfl,rfl,rfl⟩ ai
      ·refine zg 2 rfl ?_;refine Ar underlying27 q_szOf_oftype3 rfl rfl rfl ?_;refine Aw 1 (ah.moq U) q_aggT_ofunderlying3 rfl rfl rfl ?_;refine Ar underlying24 A6 rfl rfl rfl ?_;refine Aw 0 (aB.moq ((O.trq Z).trq U)) Br rfl rfl rfl ?_;refine JLln_ underlying22 rfl rfl rfl ?_;obtain⟨bE,ba,bb⟩:=bs a8;refine A9 ba rfl rfl rfl ?_;obtain⟨bF,bc,bd⟩:=bs bb;refine JScz_ (Gf bc) rfl rfl F0 ai fun bf aw ay=>?_;refine zg 2 rfl ?_;refine JLfj_ bd (fun bg bh=>?_) (fun bg bi=>?_)
       ·refine zg 3 rfl ?_;refine Ae (v:= .agg #[iV 3,iV K]) rfl (fun ρ h=>BJ [(0,1),(1,1)] h DC underlying183 ⟨rfl,AL type39,rfl,AL type3,trivial⟩ rfl rfl) ?_;refine Ae (v:= .iface 183 (.agg #[iV 3,iV K])) rfl (fun ρ h=>C9 underlying183 (fun _ h=>by cases h) (h _ _ rfl)) ?_;refine zg 2 rfl ?_;obtain rfl:=oi bh;obtain rfl:=ac _ Y;have bj:=elim_inl ab;obtain rfl:=oi bj;refine Af func116 rfl rfl ?_;exact aa _ _ _ _ ((((V.trq O).trq Z).trq U).trq aw) rfl ⟨.iface 183 (.agg #[iV 3,iV K]),rfl,rfl,rfl⟩ ay
       ·obtain⟨bk,bl,bm⟩:=bs bi;refine zg 4 rfl ?_;refine JLaC_ bl rfl rfl rfl ?_;refine zg 2 rfl ?_;obtain rfl:=oi bm;exact JLkw_ (aJ _ _ bk ⟨bf,rfl,rfl,(((O.trq Z).trq U).trq aw),ay⟩ Y) rfl
     ·intro az;refine JALcasesB_ (q:=0<K) (i:=29) rfl (fun aj=>?_) (fun aj=>?_)
      ·have bn:=ip av aj;refine Bf 3 ht underlying27 q_szOf_oftype3 rfl rfl rfl rfl ?_;refine JGld_ 4 ht 0 (ah.moq U) q_aggT_ofunderlying3 rfl rfl rfl rfl ?_;refine JGms_ ht rfl [5,6] rfl ?_;obtain⟨bG,bo,bp⟩:=bs bn;refine JGV_ 7 ht rfl rfl (fun ρ h s' hs=>BC (h _ _ rfl) (h _ _ rfl) bo) ?_;obtain⟨bH,bq,br⟩:=bs bp;refine JGjd_ 8 (h9.moq (((V.trq O).trq Z).trq U)) bq ht underlying25 q_szOf_oftype27 ?_;rintro bI bJ _ ⟨_,_,rfl,rfl,rfl⟩ bu;refine Bf 9 ht underlying27 q_szOf_oftype3 rfl rfl rfl rfl ?_;refine JGld_ 10 ht 0 bu q_aggT_ofunderlying3 rfl rfl rfl rfl ?_;refine JGms_ ht rfl [11,12] rfl ?_;obtain rfl:=oi br;refine JALweak_ ?_ (az _ _ ⟨rfl,rfl⟩);exact⟨rfl,rfl,rfl,rfl,rfl,rfl,rfl,rfl,trivial⟩
      ·have bv:=im av aj;refine JGms_ ht rfl [3,4,5,6,7,8,9,10,11,12] rfl ?_;obtain rfl:=oi bv;refine JALweak_ ?_ (az _ _ ⟨rfl,rfl⟩);exact⟨rfl,rfl,rfl,rfl,rfl,rfl,rfl,rfl,trivial⟩
   ·refine JL.exit rfl ?_;obtain rfl:=oi aM;have bw:an=(Sum.inr ()):=(ac _ Y).symm;exact JLkw_ (aI _ _ ⟨(),ag,bw,rfl,rfl,O,aq⟩) rfl
end Pal
namespace Pal
open Go Go.Conc Go.Proofs Go.Extern
abbrev Cy(t:Nat):Value:= .pointer (some ⟨1,t,none⟩)
abbrev FU(t:Nat):Value:= .iface 240 (.agg #[Cy t])
section
variable {s:St}{X:Halt→St→Prop}
theorem QB{Q:Value→St→Prop}(t:Addr):lp Tryz.prog (ReflectliteValue.unpack (.iface 185 (.pointer (some t)))) s Q X=(s.q=false∧∀r,s.E r=none→s.H r=none→Q (.agg #[Cy 185,.pointer (some ⟨r,0,none⟩),.int .u64 150]) (s.upd r (.cells #[.pointer (some t)] 185 (0,0)))):=by kernel_rfl
theorem QA{Q:Value→St→Prop}(c a:Int):lp Tryz.prog (ReflectliteValue.unpack (.iface 183 (.agg #[iV c,iV a]))) s Q X=(s.q=false∧∀r,s.E r=none→s.H r=none→Q (.agg #[Cy 183,.pointer (some ⟨r,0,none⟩),.int .u64 153]) (s.upd r (.cells #[iV c,iV a] 183 (0,0)))):=by kernel_rfl
theorem Sw{Q:Value→St→Prop}(a:Addr):lp Tryz.prog (ReflectliteValue.methodAny (ReflectliteValue.valueError "reflectlite.Value.Type" 0) (fun t _ _ _=>ReflectliteType.toType t) #[.agg #[Cy 185,.pointer (some a),.int .u64 150]]) s Q X=Q (FU 185) s:=by kernel_rfl
theorem QU{Q:Value→St→Prop}(v:Value):lp Tryz.prog (ReflectliteType.typeOf #[.iface 183 v]) s Q X=Q (FU 183) s:=by kernel_rfl
theorem O4{Q:FuncId×Value→St→Prop}(h:Value):lp Tryz.prog (Go.method (Tryz.prog.types.size+Made.depth) 240 (.agg #[h]) "Kind") s Q X=Q (216,h) s:=by kernel_rfl
theorem Ue{Q:FuncId×Value→St→Prop}(h:Value):lp Tryz.prog (Go.method (Tryz.prog.types.size+Made.depth) 240 (.agg #[h]) "Elem") s Q X=Q (227,.agg #[h]) s:=by kernel_rfl
theorem U7{Q:FuncId×Value→St→Prop}(h:Value):lp Tryz.prog (Go.method (Tryz.prog.types.size+Made.depth) 240 (.agg #[h]) "Implements") s Q X=Q (228,.agg #[h]) s:=by kernel_rfl
theorem VU{Q:FuncId×Value→St→Prop}(h:Value):lp Tryz.prog (Go.method (Tryz.prog.types.size+Made.depth) 240 (.agg #[h]) "AssignableTo") s Q X=Q (225,.agg #[h]) s:=by kernel_rfl
theorem R3{Q:Value→St→Prop}:lp Tryz.prog ((ReflectliteType.abiMethod fun t=>(fun a:Nat=>Value.int IntKind.u8 (a:Int))<$>Rtype.kind t) #[Cy 185]) s Q X=Q (.int .u8 22) s:=by kernel_rfl
theorem R8{Q:Value→St→Prop}:lp Tryz.prog ((ReflectliteType.abiMethod fun t=>(fun a:Nat=>Value.int IntKind.u8 (a:Int))<$>Rtype.kind t) #[Cy 183]) s Q X=Q (.int .u8 25) s:=by kernel_rfl
theorem Sf{Q:Value→St→Prop}:lp Tryz.prog (ReflectliteType.method ReflectliteType.elem #[.agg #[Cy 185]]) s Q X=Q (FU 183) s:=by kernel_rfl
theorem Sm{Q:Value→St→Prop}:lp Tryz.prog (ReflectliteType.relation "Implements" ReflectliteType.implements_ #[.agg #[Cy 183],FU 149]) s Q X=Q (.bool true) s:=by kernel_rfl
theorem S9{Q:Value→St→Prop}:lp Tryz.prog (ReflectliteType.relation "AssignableTo" ReflectliteType.assignableTo #[.agg #[Cy 183],FU 183]) s Q X=Q (.bool true) s:=by kernel_rfl
theorem M5{Q:Option (TypeId×Addr×Nat)→St→Prop}(a:Addr):lp Tryz.prog (ReflectliteValue.parts (.agg #[Cy 185,.pointer (some a),.int .u64 150])) s Q X=Q (some (185,a,150)) s:=by kernel_rfl
theorem Ru{Q:Option (TypeId×Addr×Nat)→St→Prop}(a:Addr):lp Tryz.prog (ReflectliteValue.parts (.agg #[Cy 183,.pointer (some a),.int .u64 153])) s Q X=Q (some (183,a,153)) s:=by kernel_rfl
theorem Q0{Q:Option (TypeId×Addr×Nat)→St→Prop}(a:Addr):lp Tryz.prog (ReflectliteValue.parts (.agg #[Cy 183,.pointer (some a),.int .u64 409])) s Q X=Q (some (183,a,409)) s:=by kernel_rfl
theorem TV{Q:Option TypeId→St→Prop}:lp Tryz.prog (Rtype.elem? 185) s Q X=Q (some 183) s:=by kernel_rfl
theorem UI{Q:Value→St→Prop}(p:Addr):lp Tryz.prog (ReflectliteValue.mk 183 p ReflectliteValue.flagAddr) s Q X=Q (.agg #[Cy 183,.pointer (some p),.int .u64 409]) s:=by kernel_rfl
theorem TK{Q:Bool→St→Prop}:lp Tryz.prog (Rtype.directlyAssignable 183 183) s Q X=Q true s:=by kernel_rfl
theorem NY{Q:Value→St→Prop}(a:Addr):lp Tryz.prog (loadVar 185 a) s Q X=(Mode.plain= .plain∧∃v,s.cell? a=some v∧Q v s):=by kernel_rfl
theorem RZ{Q:Value→St→Prop}(a:Addr):lp Tryz.prog (loadVar 183 a) s Q X=(Mode.plain= .plain∧∃v,s.cell? (a.add 0)=some v∧Mode.plain= .plain∧∃w,s.cell? (a.add 1)=some w∧Q (.agg #[v,w]) s):=by kernel_rfl
end
theorem Pc:Bt Tryz.prog 164 (fun args=>ReflectliteValue.unpack (args.getD 0 (.tuple #[]))):=⟨⟨_,Tryz.func164,by kernel_rfl,by kernel_rfl,by kernel_rfl,by kernel_rfl⟩⟩
theorem U5:Bt Tryz.prog 165 (ReflectliteValue.methodAny (ReflectliteValue.valueError "reflectlite.Value.Type" 0) (fun t _ _ _=>ReflectliteType.toType t)):=⟨⟨_,Tryz.func165,by kernel_rfl,by kernel_rfl,by kernel_rfl,by kernel_rfl⟩⟩
theorem Vs:Bt Tryz.prog 166 (ReflectliteValue.method (ReflectliteValue.valueError "reflectlite.Value.IsNil" 0) ReflectliteValue.isNil):=⟨⟨_,Tryz.func166,by kernel_rfl,by kernel_rfl,by kernel_rfl,by kernel_rfl⟩⟩
theorem Vh:Bt Tryz.prog 188 ReflectliteType.typeOf:=⟨⟨_,Tryz.func188,by kernel_rfl,by kernel_rfl,by kernel_rfl,by kernel_rfl⟩⟩
theorem VE:Bt Tryz.prog 189 (ReflectliteValue.method (ReflectliteValue.valueError "reflectlite.Value.Elem" 0) ReflectliteValue.elem):=⟨⟨_,Tryz.func189,by kernel_rfl,by kernel_rfl,by kernel_rfl,by kernel_rfl⟩⟩
theorem Uh:Bt Tryz.prog 190 ReflectliteValue.set:=⟨⟨_,Tryz.func190,by kernel_rfl,by kernel_rfl,by kernel_rfl,by kernel_rfl⟩⟩
theorem Pe:Bt Tryz.prog 216 (ReflectliteType.abiMethod fun t=>(fun a:Nat=>Value.int IntKind.u8 (a:Int))<$>Rtype.kind t):=⟨⟨_,Tryz.func216,by kernel_rfl,by kernel_rfl,by kernel_rfl,by kernel_rfl⟩⟩
theorem Vz:Bt Tryz.prog 225 (ReflectliteType.relation "AssignableTo" ReflectliteType.assignableTo):=⟨⟨_,Tryz.func225,by kernel_rfl,by kernel_rfl,by kernel_rfl,by kernel_rfl⟩⟩
theorem UK:Bt Tryz.prog 227 (ReflectliteType.method ReflectliteType.elem):=⟨⟨_,Tryz.func227,by kernel_rfl,by kernel_rfl,by kernel_rfl,by kernel_rfl⟩⟩
theorem UJ:Bt Tryz.prog 228 (ReflectliteType.relation "Implements" ReflectliteType.implements_):=⟨⟨_,Tryz.func228,by kernel_rfl,by kernel_rfl,by kernel_rfl,by kernel_rfl⟩⟩
end Pal
namespace Pal
open Go Go.Conc
section
variable {P:Program}{J:Judge P}{Q:Goroutine→St→Prop}{b:Frame}{n:Nat}{ds:List Deferred}{ops:Array Oper}{k:List Item}{cs:List Frame}{m fuel:Nat}{D:Nat→Bool}{listed:Array Bool}{L:Env}{s:St}{E E' H:LH}{S:List Seg}
variable {d:Option Tmp}{x y:Operand}{t u ty e:TypeId}{p:String}{af:Array Edge}{g:Option (Nat×Bool)}{v:Value}{i:Nat}{kd:IntKind}
end
end Pal
namespace Pal
open Go Go.Conc
section
variable {P:Program}{J:Judge P}{Q:Goroutine→St→Prop}{b:Frame}{n:Nat}{L:Env}{ds:List Deferred}{k:List Item}{cs:List Frame}{s:St}{ops:Array Oper}{i:Nat}{rest:List Nat}{v:Value}
variable {d:Option Tmp}{x:Operand}{ty:TypeId}{p:String}{af:Array Edge}{g:Option (Nat×Bool)}
theorem M9{f:FuncId}{e:Array Value→Sem Value}{args:Array Value}{Q:Next→St→Prop}{X:Halt→St→Prop}(he:Bt P f e)(h:lp P (e args) s (fun v s'=>Q (.value v) s') X):lp P (callFunc f args) s Q X:=by
 obtain⟨fn,K,O,h3,U,V⟩:=he.h;unfold callFunc;simp only [bind,Sem.bind,program,lp,K,O,h3,Bool.false_eq_true,if_false,if_true,mark,U,V];refine⟨.inr ⟨f,rfl⟩,?_⟩;exact Ah _ _ (BS _ h (fun v s' Y=>Y) (fun _ _ Z=>Z))
theorem GI{f:FuncId}{e:Array Value→Sem Value}{args:Array Operand}{ats:Array TypeId}{vs:List Value}(he:Bt P f e)(O:ops[i]? =some ⟨d,.call ⟨.value (.func f),args,ats⟩,ty,p,af,g⟩)(hw:Az L ops ⟨d,.call ⟨.value (.func f),args,ats⟩,ty,p,af,g⟩=some true)(U:Bw b n ⟨d,.call ⟨.value (.func f),args,ats⟩,ty,p,af,g⟩=true)(V:evs L args.toList=some vs)
  (h:lp P (e vs.toArray) s (fun v s'=>JL J Q b n (Aj L d v) ds (.inRegion ops rest::k) cs s') (fun _ _=>False)):JL J Q b n L ds (.inRegion ops (i::rest)::k) cs s:=by
 refine JL.op O hw U fun ρ K=>?_;have Y:args.map ρ=vs.toArray:=by
  rw [← DV K V];apply Array.ext';simp
 have Z:ρ (.func f)= .func (.func f) #[] #[]:=K _ _ rfl;simp only [execOp,resolve,bind,Sem.bind,Deferred.ofValue,Z,pure,invoke];have aa: #[]++args.map ρ++ #[]=vs.toArray:=by rw [Y];simp
 rw [aa];exact M9 he h
theorem Ic{t:TypeId}{K O:Value}{name:String}{f:FuncId}{e:Array Value→Sem Value}{args:Array Operand}{ats:Array TypeId}{vs:List Value}(he:Bt P f e)(hm:∀{s:St} {X:Halt→St→Prop} {Q:FuncId×Value→St→Prop},lp P (Go.method (P.types.size+Made.depth) t K name) s Q X=Q (f,O) s)
  (V:ops[i]? =some ⟨d,.call ⟨.invoke x name,args,ats⟩,ty,p,af,g⟩) (hw:Az L ops ⟨d,.call ⟨.invoke x name,args,ats⟩,ty,p,af,g⟩=some true) (Y:Bw b n ⟨d,.call ⟨.invoke x name,args,ats⟩,ty,p,af,g⟩=true) (Z:ev L x=some (.iface t K)) (aa:evs L args.toList=some vs)
  (h:lp P (e (O::vs).toArray) s (fun v s'=>JL J Q b n (Aj L d v) ds (.inRegion ops rest::k) cs s') (fun _ _=>False)):JL J Q b n L ds (.inRegion ops (i::rest)::k) cs s:=by
 refine JL.op V hw Y fun ρ U=>?_;have ab:args.map ρ=vs.toArray:=by
  rw [← DV U aa];apply Array.ext';simp
 have ac:ρ x= .iface t K:=U _ _ Z;simp only [execOp,resolve,bind,Sem.bind,pure,invoke,ac,ab];have ae:(#[Value.iface t K]++vs.toArray)[0]? =some (.iface t K):=by simp
 have ag:(#[Value.iface t K]++vs.toArray).extract 1 (#[Value.iface t K]++vs.toArray).size=vs.toArray:=by
  apply Array.ext';simp
 simp only [ae,ag,callMethod,bind,Sem.bind,program,lp];refine Ah _ _ ?_;rw [hm];have ah: #[O]++vs.toArray=(O::vs).toArray:=by apply Array.ext';simp
 rw [ah];exact M9 he h
end
end Pal
namespace Pal
open Go Go.Conc
section
variable {P:Program}{J:Judge P}{Q:Goroutine→St→Prop}{b:Frame}{n:Nat}{ds:List Deferred}{ops:Array Oper}{k:List Item}{cs:List Frame}{fuel:Nat}{D:Nat→Bool}{listed:Array Bool}{L L':Env}{s:St}{xl:List Nat}
variable {d:Option Tmp}{op:Op}{ty:TypeId}{p:String}{af:Array Edge}{g:Option (Nat×Bool)}{v:Value}
theorem A5(i:Nat)(pure:Bool)(K:s.q=false)(O:GO n L ops i=some ⟨d,op,ty,p,af,g⟩)
  (U:∀ρ,CN L ρ→∀s':St,(pure=false→∀x o,(AV D s).E x=some o→s'.E x=some o)→Yl P ⟨d,op,ty,p,af,g⟩ ρ s' v)
  (V:Fy J Q b n ds ops k cs (Ak xl) D fuel (AF listed i) (Aj L d v) s) (Y:Kq ops listed xl pure i=true:=by decide+kernel):Fy J Q b n ds ops k cs (Ak xl) D (fuel+1) listed L s:=by
 obtain⟨Z,aa,h3⟩:=Nt O;exact Ci i pure Z Y K aa h3 U V
def Mp(n:Nat)(L:Env)(ops:Array Oper)(i:Nat):Option Env:=
 match FP ops.toList i with
 | some ⟨d,op,ty,p,af,g⟩=>match Az L ops ⟨d,op,ty,p,af,g⟩ with
  | some true=>match AQ n d with
   | true=>match GQ L op with
    | some v=>match d with
     | some d=>some ((d,v)::L)
     | none=>some L
    | none=>none
   | false=>none
  | _=>none
 | none=>none
theorem SA{i:Nat}(h:Mp n L ops i=some L'):∃o v,ops[i]? =some o∧AQ n o.dst=true∧Az L ops o=some true∧GQ L o.op=some v∧L'=Aj L o.dst v:=by
 unfold Mp at h;split at h
 ·rename_i d op ty p af g K;rw [Hd,Array.getElem?_toList] at K;split at h
  ·rename_i hw;split at h
   ·rename_i O;split at h
    ·rename_i v U;refine⟨_,v,K,O,hw,U,?_⟩;cases d with
     | none=>cases h;rfl
     | some d=>cases h;rfl
    ·cases h
   ·cases h
  ·cases h
 ·cases h
theorem AI(i:Nat)(K:s.q=false)(h:Mp n L ops i=some L')
  (O:Fy J Q b n ds ops k cs (Ak xl) D fuel (AF listed i) L' s) (U:Kq ops listed xl true i=true:=by decide+kernel):Fy J Q b n ds ops k cs (Ak xl) D (fuel+1) listed L s:=by
 obtain⟨o,v,V,Y,hw,Z,rfl⟩:=SA h;exact Ci i true V U K hw Y (fun ρ aa s' _=>Jt aa Z) O
end
end Pal
namespace Pal
open Go Go.Conc Go.Proofs
open Go.Proofs.Tryz
variable {J:Judge Tryz.prog}{E:LH}
def f135(fuel:Nat):Option (Bool):= some false
theorem U0{K:Value}{fuel:Nat}{r:Bool}(hD:f135 fuel=some r):Al J 135 [.nilIface,K] E [] (fun w E' B'=>w= .bool r∧B'= []):=by
 refine Av func135 rfl rfl fun Q U cs H hN O=>?_;unfold f135 at hD;refine zg 8 rfl ?_;refine Ae (v:= .bool true) rfl (fun ρ h=>N3 underlying149 (show FW 0 .nilIface none from rfl) (h _ _ rfl) (h _ _ rfl)) ?_;refine zg 6 rfl ?_;obtain rfl:=oi hD;refine Af func135 rfl rfl ?_;exact O _ _ _ _ lR_ rfl ⟨rfl,rfl⟩ hN
def f112(fuel:Nat):Option (Int):= (f135 fuel).bind fun K=> if K=true then(some 0) else(some 0)
theorem Ux{fuel:Nat}{r:Int}(hD:f112 fuel=some r):Al J 112 [.nilIface] E [] (fun w E' B'=>w=iV r∧B'= []):=by
 refine Av func112 rfl rfl fun Q ai cs H hN O=>?_;unfold f112 at hD;refine zg 6 rfl ?_;refine JS.alloc rfl rfl rfl hN DC fun V Y=>?_;refine zg 5 rfl ?_;refine Ae (v:=(.iface 185 (pV V 0))) rfl (fun ρ h=>C9 underlying185 (fun _ h=>by cases h) (h _ _ rfl)) ?_;obtain⟨aj,Z,aa⟩:=bs hD;refine JScz_ (U0 Z) rfl rfl (body_of func135 rfl) Y fun ak U K=>?_;refine JL.done ?_;refine JLfj_ aa (fun ab ac=>?_) (fun ab ae=>?_)
 ·refine zg 2 rfl ?_;refine Ar underlying183 (AL type39) rfl rfl rfl ?_;refine Ae (v:=iV 0) rfl (fun ρ h=>Yl.load (BZ underlying39) (h _ _ rfl) (Cn (j:=1) (off:=0) K rfl rfl)) ?_;refine zg 2 rfl ?_;refine JS.drop 1 K rfl fun ag=>?_;obtain rfl:=oi ac;refine Af func112 rfl rfl ?_;exact O _ _ _ _ U rfl ⟨rfl,rfl⟩ ag
 ·refine zg 5 rfl ?_;refine JS.drop 1 K rfl fun ah=>?_;obtain rfl:=oi ae;refine Af func112 rfl rfl ?_;exact O _ _ _ _ U rfl ⟨rfl,rfl⟩ ah
def Kd(fuel:Nat)(p0:Option (Int×Int)):Option Int:=match p0 with
 | none=>f112 fuel
 | some _=>none
end Pal
namespace Pal
open Go Go.Conc Go.Proofs Go.Extern
def LQ(b:Frame)(n:Nat):Nat→List Item→Env→List Item×Env
 | 0,k,L=>(k,L)
 | m+1,k,L=>match Ki b n L k with
  | some (k',L')=>LQ b n m k' L'
  | none=>(k,L)
theorem zm{P:Program}{J:Judge P}{Q:Goroutine→St→Prop}{b:Frame}{n:Nat}{ds:List Deferred}{cs:List Frame}{s:St}:∀(m:Nat) {L L':Env} {k k':List Item},LQ b n m k L=(k',L')→JL J Q b n L' ds k' cs s→JL J Q b n L ds k cs s
 | 0,L,L',k,k',h,K=>by cases h;exact K
 | m+1,L,L',k,k',h,K=>by
  unfold LQ at h
  split at h
  ·rename_i e;exact Po e (zm m h K)
  ·cases h;exact K
theorem Nv{E H:LH}{S:List Seg}{r:Nat}{o:Obj}(hN:NdS E H S)(K:(mkS E H S).E r=none)(O:(mkS E H S).H r=none):NdS E H (S++ [[(r,o)]])∧(mkS E H S).upd r o=mkS E H (S++ [[(r,o)]]):=by
 obtain⟨a,b⟩:=Gv K O o hN;obtain⟨c,d⟩:=CM a;exact⟨d,b.trans c⟩
theorem Ug{s:St}{X:Halt→St→Prop}{Q:Value→St→Prop}{o:Operand}(p:Addr):lp Tryz.prog (do eqGuard .eql 20 o (.const .nilIface) (.iface 185 (.pointer (some p))) .nilIface;binOp .eql 20 (.iface 185 (.pointer (some p))) .nilIface) s Q X=Q (.bool false) s:=by kernel_rfl
theorem SW{s:St}{ρ:Operand→Value}{d:Option Tmp}{x:Operand}{u ty:TypeId}{p:String}{af:Array Edge}{g:Option (Nat×Bool)}{a:Addr}(K:ρ x= .iface 185 (.pointer (some a)))(O:ρ (.const .nilIface)= .nilIface):Yl Tryz.prog ⟨d,.binOp .eql 20 x (.const .nilIface) u,ty,p,af,g⟩ ρ s (.bool false):=by
 refine Dl (sm:=do eqGuard .eql 20 x (.const .nilIface) (ρ x) (ρ (.const .nilIface));binOp .eql 20 (ρ x) (ρ (.const .nilIface))) rfl ?_
 rw [K,O];exact(Ug a).mpr ⟨rfl,rfl⟩
theorem P7(z:Sem Value)(f:TypeId→Addr→Nat→Nat→Sem Value)(v:Value):ReflectliteValue.method z f #[v]=Sem.bind (ReflectliteValue.parts v) (fun x=>match x with | none=>z | some (t,a,fl)=>f t a fl (fl % 32)):=rfl
theorem Q7{s:St}{X:Halt→St→Prop}{Q:Value→St→Prop}(a p:Addr)(K:s.cell? a=some (.pointer (some p)))(h:Q (.bool false) s):lp Tryz.prog (ReflectliteValue.method (ReflectliteValue.valueError "reflectlite.Value.IsNil" 0) ReflectliteValue.isNil #[.agg #[Cy 185,.pointer (some a),.int .u64 150]]) s Q X:=by
 rw [P7];refine Ah (x:=ReflectliteValue.parts _) _ ((M5 a).mpr ?_);show lp Tryz.prog (Sem.bind (loadVar 185 a) _) s Q X;exact Ah (x:=loadVar 185 a) _ ((NY a).mpr ⟨rfl,_,K,h⟩)
theorem Rs{s:St}{X:Halt→St→Prop}{Q:Value→St→Prop}(a p:Addr)(K:s.cell? a=some (.pointer (some p)))(h:Q (.agg #[Cy 183,.pointer (some p),.int .u64 409]) s):lp Tryz.prog (ReflectliteValue.method (ReflectliteValue.valueError "reflectlite.Value.Elem" 0) ReflectliteValue.elem #[.agg #[Cy 185,.pointer (some a),.int .u64 150]]) s Q X:=by
 rw [P7];refine Ah (x:=ReflectliteValue.parts _) _ ((M5 a).mpr ?_);show lp Tryz.prog (Sem.bind (loadVar 185 a) _) s Q X;refine Ah (x:=loadVar 185 a) _ ((NY a).mpr ⟨rfl,_,K,?_⟩);refine Ah (x:=Rtype.elem? 185) _ (TV.mpr ?_);exact(UI p).mpr h
theorem V9(v x:Value):ReflectliteValue.set #[v,x]=(do
  let (some (dst,a,fl),some (src,b,_)):=(← ReflectliteValue.parts v,← ReflectliteValue.parts x)
   | unsupported (.noEntry "extern/(internal/reflectlite.Value).Set.zeroValue")
  if fl / ReflectliteValue.flagAddr % 2==0 then unsupported (.noEntry "extern/(internal/reflectlite.Value).Set.unaddressable")
  let val ← loadVar src b
  if ← Rtype.directlyAssignable dst src then storeVar dst a val
  else if ← Rtype.implements dst src then
   if(← Rtype.kind src)==20 then
    match val with
    | .nilIface=>unsupported (.noEntry "extern/reflectlite: a nil value of one interface type handed on as a value of another")
    | _=>storeVar dst a val
   else storeVar dst a (.iface src val)
  else panicString ("reflectlite.Set: value of type " ++(← Rtype.spelt src)++ " is not assignable to type " ++(← Rtype.spelt dst))
  pure (.tuple #[])):=rfl
theorem TP{E H:LH}{S:List Seg}{X:Halt→St→Prop}{Q:Value→St→Prop}{K r:Nat}{u w:Value}{c a:Int}(j:Nat)(hN:NdS E H S)(O:S[j]? =some [(K,.cells #[u,w] 183 (0,0))])(U:At E r 0 [iV c,iV a])(h:NdS E H (S.set j [(K,.cells #[iV c,iV a] 183 (0,0))])→Q (.tuple #[]) (mkS E H (S.set j [(K,.cells #[iV c,iV a] 183 (0,0))]))):
  lp Tryz.prog (ReflectliteValue.set #[.agg #[Cy 183,.pointer (some ⟨K,0,none⟩),.int .u64 409],.agg #[Cy 183,.pointer (some ⟨r,0,none⟩),.int .u64 153]]) (mkS E H S) Q X:=by
 rw [V9];refine Ah (x:=ReflectliteValue.parts _) _ ((Q0 _).mpr ?_);refine Ah (x:=ReflectliteValue.parts _) _ ((Ru _).mpr ?_);refine Ah (x:=loadVar 183 _) _ ((RZ _).mpr ⟨rfl,_,At.Hp (j:=0) U rfl,rfl,_,At.Hp (j:=1) U rfl,?_⟩);refine Ah (x:=Rtype.directlyAssignable 183 183) _ (TK.mpr ?_);refine Ah (x:=storeVar 183 _ _) _ ?_;obtain⟨Y,Z⟩:=D8 hN O;rw [Y];refine K8 (pl:=(S.set j []).flatten.length) (AL Tryz.type183) (by simp [Value.cells,Ba]) Z (c:= #[u,w]) (e:=183) (by simp) (by simp [Value.cells]) fun V=>?_;have aa:((S.set j []).flatten++ [(K,Obj.cells #[u,w] 183 (0,0))]).set (S.set j []).flatten.length (K,.cells (AJ #[u,w] 0 (Value.agg #[iV c,iV a]).cells.toList) 183 (0,0))=(S.set j []).flatten++ [(K,.cells #[iV c,iV a] 183 (0,0))]:=FH _ _ _ _;rw [aa] at V ⊢;obtain⟨ab,h6⟩:=Fh (seg':= [(K,.cells #[iV c,iV a] 183 (0,0))]) O V;rw [ab];exact h h6
variable {J:Judge Tryz.prog}{E:LH}
theorem V4{c a:Int}{K r:Nat}{u w:Value}(U:At E r 0 [.pointer (some ⟨K,0,none⟩)]):Al J 167 [.iface 183 (.agg #[iV c,iV a]),.iface 185 (.pointer (some ⟨K,0,none⟩)),.agg #[Cy 185,.pointer (some ⟨r,0,none⟩),.int .u64 150],FU 183] E [(K,.cells #[u,w] 183 (0,0))] (fun v E' B'=>v= .bool true∧B'= [(K,.cells #[iV c,iV a] 183 (0,0))]):=by
 refine Av Tryz.func167 rfl rfl fun Q al cs H hN V=>?_;refine zm 60 rfl ?_;refine JS.box (v:= .agg #[Cy 185,.pointer (some ⟨r,0,none⟩),.int .u64 150]) rfl rfl rfl hN rfl fun am Y=>?_;refine JSfreezeB_ 1 Y rfl fun an O Z aa=>?_;refine zm 60 rfl ?_;refine Gt ?_;refine zm 60 rfl ?_;refine GI Vh rfl rfl rfl rfl ?_;refine(QU _).mpr ?_;refine zm 60 rfl ?_;refine Ic Vz (VU _) rfl rfl rfl rfl rfl ?_;refine S9.mpr ?_;refine zm 60 rfl ?_;refine JLldN_ Z IC HK rfl rfl ?_;refine GI VE rfl rfl rfl rfl ?_;refine Rs ⟨r,0,none⟩ ⟨K,0,none⟩ (At.Hp (j:=0) (U.moq O) rfl) ?_;refine zm 60 rfl ?_;refine GI Pc rfl rfl rfl rfl ?_;refine(QA c a).mpr ⟨rfl,fun ao ab ac=>?_⟩;obtain⟨ae,ag⟩:=Nv (o:= .cells #[iV c,iV a] 183 (0,0)) aa ab ac;rw [ag];refine JSfreezeB_ 2 ae rfl fun ap ah ai aj=>?_;refine GI Uh rfl rfl rfl rfl ?_;refine TP 0 aj rfl ai fun ak=>?_;refine zm 60 rfl ?_;refine Af Tryz.func167 rfl rfl ?_;exact V _ _ _ _ (O.trans ah) rfl ⟨rfl,rfl⟩ ak
theorem Uo{c a:Int}{K:Nat}{u w:Value}(hG:At E 0 0 [FU 149]):Al J 135 [.iface 183 (.agg #[iV c,iV a]),.iface 185 (.pointer (some ⟨K,0,none⟩))] E [(K,.cells #[u,w] 183 (0,0))] (fun v E' B'=>v= .bool true∧B'= [(K,.cells #[iV c,iV a] 183 (0,0))]):=by
 refine Av Tryz.func135 rfl rfl fun Q am cs H hN Z=>?_;refine zm 60 rfl ?_;refine Ae (v:= .bool false) rfl (fun ρ h=>N3 Tryz.underlying149 (show FW 183 (.iface 183 (.agg #[iV c,iV a])) (some (c,a)) from rfl) (h _ _ rfl) (h _ _ rfl)) ?_;refine zm 60 rfl ?_;refine Ae rfl (fun ρ h=>SW (h _ _ rfl) (h _ _ rfl)) ?_;refine zm 60 rfl ?_;refine GI Pc rfl rfl rfl rfl ?_;refine(QB _).mpr ⟨rfl,fun r aa ab=>?_⟩;obtain⟨ac,ae⟩:=Nv (o:= .cells #[.pointer (some ⟨K,0,none⟩)] 185 (0,0)) hN aa ab;rw [ae];refine JS.alloc rfl rfl rfl ac (BY Tryz.type210) fun an ag=>?_;refine JSst_ (v:= .agg #[Cy 185,.pointer (some ⟨r,0,none⟩),.int .u64 150]) (off:=0) 2 ag HK rfl rfl rfl rfl fun ah=>?_;refine zm 60 rfl ?_;refine JSfreezeB_ 1 ah rfl fun ao V Y ai=>?_;refine JSfreezeB_ 2 ai rfl fun ap O U aj=>?_;refine JLldN_ U IC HK rfl rfl ?_;refine GI U5 rfl rfl rfl rfl ?_;refine(Sw _).mpr ?_;refine zm 60 rfl ?_;refine Ic Pe (O4 _) rfl rfl rfl rfl rfl ?_;refine R3.mpr ?_;refine zm 60 rfl ?_;refine JLldN_ (U) IC HK rfl rfl ?_;refine GI Vs rfl rfl rfl rfl ?_;refine Q7 ⟨r,0,none⟩ ⟨K,0,none⟩ (At.Hp (j:=0) (Y.moq O) rfl) ?_;refine zm 60 rfl ?_;refine Ic UK (Ue _) rfl rfl rfl rfl rfl ?_;refine Sf.mpr ?_;refine zm 60 rfl ?_;refine Ic Pe (O4 _) rfl rfl rfl rfl rfl ?_;refine R8.mpr ?_;refine zm 60 rfl ?_;refine Aw 0 (hG.moq (V.trans O)) (BZ Tryz.underlying213) rfl rfl rfl ?_;refine Ic UJ (U7 _) rfl rfl rfl rfl rfl ?_;refine Sm.mpr ?_;refine zm 60 rfl ?_;refine Ae (v:= .bool (!true)) rfl (fun ρ h=>Yl.not (h _ _ rfl)) ?_;refine zm 60 rfl ?_;refine JLldN_ (U) IC HK rfl rfl ?_;refine zm 60 rfl ?_;refine JSclL_ 0 (V4 (Y.moq O)) rfl rfl (body_of Tryz.func167 rfl) aj rfl ?_;rintro _ aq _ ak ⟨rfl,rfl⟩ al;refine zm 60 rfl ?_;refine Af Tryz.func135 rfl rfl ?_;exact Z _ _ _ _ ((V.trans O).trans ak) rfl ⟨rfl,rfl⟩ al
theorem Sk{c a:Int}(hG:At E 0 0 [FU 149]):Al J 112 [.iface 183 (.agg #[iV c,iV a])] E [] (fun v E' B'=>v=iV c∧B'= []):=by
 refine Av Tryz.func112 rfl rfl fun Q ab cs H hN K=>?_;refine zm 60 rfl ?_;refine JS.alloc rfl rfl rfl hN DC fun ac O=>?_;refine zm 60 rfl ?_;refine Ae rfl (fun ρ h=>C9 Tryz.underlying185 (fun ms e=>by cases e) (h _ _ rfl)) ?_;refine JSclL_ 1 (Uo (u:=iV 0) (w:=iV 0) hG) rfl rfl (body_of Tryz.func135 rfl) O rfl ?_;rintro _ ae _ U ⟨rfl,rfl⟩ V;refine JSfreezeB_ 1 V rfl fun ag Y Z aa=>?_;refine zm 60 rfl ?_;refine Ar Tryz.underlying183 (AL Tryz.type39) rfl rfl rfl ?_;refine Aw 0 Z (BZ Tryz.underlying39) rfl rfl rfl ?_;refine zm 60 rfl ?_;refine Af Tryz.func112 rfl rfl ?_;exact K _ _ _ _ (U.trans Y) rfl ⟨rfl,rfl⟩ aa
abbrev GE(E:LH):Prop:=At E 0 0 [FU 149]
def Ig(fuel:Nat)(p0:Option (Int×Int)):Option Int:=match p0 with
 | none=>f112 fuel
 | some q=>some q.1
theorem LD{v:Value}{p0:Option (Int×Int)}(hG:GE E)(h:FW 183 v p0){fuel:Nat}{r:Int}(hD:Ig fuel p0=some r):Al J 112 [v] E [] (fun w E' B'=>w=iV r∧B'= []):=by
 match p0,h with
 | none,h=>obtain rfl:v= .nilIface:=h;exact Ux hD
 | some (c,a),h=>
  obtain rfl:v= .iface 183 (.agg #[iV c,iV a]):=h;cases hD;exact Sk hG
end Pal
namespace Pal
open Go Go.Conc Go.Proofs Go.ChangeShapes Go.WideShapes Go.ChangeAt Go.RowKit
open Go.Proofs.YtboibffcmhheiaaGreatDoor
section
variable {H:Type}{enc:TypeId×Value→H}{W:World}{fuel:Nat}{cs:List Value}{x:DataW H×List MemPlace}
theorem Tryz.TD:Tryz.prog.cellsOf 28=1:=by kernel_rfl
theorem Tryz.S7:Tryz.prog.cellsOf 22=1:=by kernel_rfl
theorem Tryz.Tz:Tryz.prog.cellsOf 24=2:=by kernel_rfl
theorem Gq(a:Addr):a.add 0=a:=by unfold Addr.add;rw [if_pos rfl]
theorem NN(Y:DataW.trod enc Tryz.prog W 0 (fun _=>true) true fuel 28 cs=some x):∃(a:Option Addr) (c:Nat) (K:List Int),cs= [.slice a K.length c]∧LsR rI (Ct W).E a c K:=by
 rcases open_ints Tryz.underlying28 Tryz.underlying3 Pal.Tryz.Pg Y with⟨O,Z⟩ | ⟨a,len,cap,K,O,_,aa,hm,ab,Z,U,hw⟩
 ·exact⟨none,0,[],O,LsR.nil⟩
 ·simp only [if_true] at ab;rcases Nat.eq_zero_or_pos cap with V | V
  ·have:len=0:=by omega
   subst this;subst V;exact⟨some a,0,[],O,Nat.le_refl _,.inl ⟨rfl,fun _ _=> .inr rfl⟩⟩
  ·have ac:a.spot=none:=by
    have:=World.cell?_spot (U 0 (by omega))
    rwa [Gq] at this
   obtain⟨ae,ag⟩:=SL ac aa (by omega) U;exact⟨some a,cap,K.take len,by rw [ag];exact O,ae⟩
theorem NI{b off:Nat}{v:Value}(h:W.cell? ⟨b,off,none⟩=some v):At (Ct W).E b off [v]:=by
 unfold World.cell? at h;split at h
 ·rename_i c e f hW;simp only [Option.isSome_none,Bool.false_eq_true,if_false] at h;refine⟨c,e,f,hW,fun j w K=>?_⟩
  match j,K with
  | 0,K=>simp at K;subst K;simpa using h
  | j+1,K=>simp at K
 ·cases h
theorem NO(ak:DataW.trod enc Tryz.prog W 0 (fun _=>true) true fuel 22 cs=some x):∃(a:Option Addr) (c:Nat) (U:List (List Int)),cs= [.slice a U.length c]∧LsR (rL rI) (Ct W).E a c U:=by
 rcases DataW.trod_slice Tryz.underlying22 ak with⟨ab,al⟩ | ⟨a,len,cap,elems,rest,n,_,ab,al,_,am,_,hlen,ac,ae,_⟩
 ·exact⟨none,0,[],ab,LsR.nil⟩
 ·rw [Tryz.TD] at ac ae;simp only [Nat.mul_one] at ac ae;rcases Nat.eq_zero_or_pos cap with ah | ah
  ·have:len=0:=by omega
   subst this;subst ah;exact⟨some a,0,[],ab,Nat.le_refl _,.inl ⟨rfl,fun _ _=> .inr rfl⟩⟩
  ·have ai:∀i,i<len→∃v y,W.cell? (a.add i)=some v∧DataW.trod enc Tryz.prog W 0 (fun _=>true) true n 28 [v]=some y:=fun i hi=>by
    have K:=ac i hi;rw [List.getElem?_eq_getElem (by omega)] at K;obtain⟨vs,O,h3⟩:=Option.bind_eq_some_iff.1 K;obtain⟨_,V,aa⟩:=World.cells?_some O
    match vs,V with
    | [v],_=>
     have:=aa 0 (by omega);refine⟨v,_,?_,h3⟩;have e:(a.add i).add 0=a.add i:=Gq _;rw [e] at this;simpa using this
   have hs:a.spot=none:=by
    rcases Nat.eq_zero_or_pos len with K | K
    ·obtain⟨O,h3⟩:=ae trivial;have V:=h3 0 (by omega);rw [List.getElem?_eq_getElem (by omega)] at V;obtain⟨vs,aa,_⟩:=Option.bind_eq_some_iff.1 V;obtain⟨_,h6,an⟩:=World.cells?_some aa
     match vs,h6 with
     | [v],_=>
      have:=an 0 (by omega);rw [K] at this;rw [Gq,Nat.add_zero,Gq] at this;exact World.cell?_spot this
    ·obtain⟨v,y,O,_⟩:=ai 0 K;rw [Gq] at O;exact World.cell?_spot O
   have aj:∀i:Fin len,∃U:List Int,∃(Y:Option Addr) (Z:Nat),W.cell? (a.add i)=some (.slice Y U.length Z)∧LsR rI (Ct W).E Y Z U:=fun i=>by
    obtain⟨v,y,O,h3⟩:=ai i i.2;obtain⟨Y,Z,U,V,aa⟩:=NN h3;simp only [List.cons.injEq,and_true] at V;subst V;exact⟨U,Y,Z,O,aa⟩
   refine⟨some a,cap,List.ofFn fun i=>Classical.choose (aj i),by simpa using ab,by simpa using am,.inr ⟨a.block,a.off,?_,fun i z ag=>?_⟩⟩
   ·obtain⟨b,o,s⟩:=a;simp only at hs;subst hs;rfl
   ·have hi:i<len:=by have:=(List.getElem?_eq_some_iff.1 ag).1;simpa using this
    simp [hi] at ag;obtain⟨Y,Z,K,O⟩:=Classical.choose_spec (aj ⟨i,hi⟩);rw [ag] at K O;simp only at K;rw [AS hs] at K;refine⟨[.slice Y z.length Z],⟨Y,Z,rfl,O⟩,?_⟩;have e:a.off+i*(rL rI).n=a.off+i:=by show a.off+i*1=_;omega
    rw [e];exact NI K
theorem Th{v:Value}{Z:Nat}{d:DataW H}{p:List MemPlace}(aa:Value.okWide Tryz.prog W .any Z 24 v)(ab:DataW.Trod enc Tryz.prog W 0 (fun _=>true) true 24 v d p):
  ∃(a1:Option Addr) (K:Nat) (O:Option Addr) (c2:Nat) (J:List (List Int)×List (List Int)),v= .agg #[.slice a1 J.1.length K,.slice O J.2.length c2]∧LsR (rL rI) (Ct W).E a1 K J.1∧LsR (rL rI) (Ct W).E O c2 J.2:=by
 obtain⟨cs,rfl,Y⟩:=okWide_struct Tryz.underlying24 aa;obtain⟨fuel,ac⟩:=ab;obtain⟨ak,al,n,_,am,ae,ag⟩:=trod_struct2 Tryz.underlying24 ac;obtain⟨a1,K,z1,U,ah⟩:=NO ae;obtain⟨O,c2,ai,V,aj⟩:=NO ag;refine⟨a1,K,O,c2,(z1,ai),?_,ah,aj⟩;rw [Tryz.S7] at U V;rw [Tryz.Tz] at Y;simp only [Value.cells,List.drop_zero] at U V;obtain⟨l⟩:=cs
 match l,Y with
 | [u,w],_=>
  simp at U V;rw [U,V]
theorem Ox{W:World}{v:Value}{K:Nat}(O:Value.okWide Tryz.prog W .any K 3 v):∃z:Int,v=iV z:=okWide_int Tryz.underlying3 O
theorem RQ{v:Value}{O:Nat}{d:DataW H}{p:List MemPlace}(U:Value.okWide Tryz.prog W .any O 28 v)(V:DataW.Trod enc Tryz.prog W 0 (fun _=>true) true 28 v d p):
  ∃(a:Option Addr) (c:Nat) (K:List Int),v= .slice a K.length c∧LsR rI (Ct W).E a c K:=by
 obtain⟨Z,len,cap,rfl⟩:=okWide_slice Tryz.underlying28 U;obtain⟨fuel,Y⟩:=V;obtain⟨a,c,K,e,g⟩:=NN Y;simp [Value.cells] at e;obtain⟨rfl,rfl,rfl⟩:=e;exact⟨_,_,_,rfl,g⟩
end
theorem Tryz.TG:Tryz.prog.globalNamed "errors.errorType" =some 0:=by kernel_rfl
theorem Tryz.U1:(Tryz.prog.cutTypes.find? (·.1== "internal/reflectlite.rtype")).map (·.2)=some 240:=by kernel_rfl
theorem Tryz.Tr:Tryz.prog.globals.size=1:=by kernel_rfl
theorem Tryz.VB:(List.range Tryz.prog.types.size).all (fun t=> !Tryz.prog.rowNamed t [101,114,114,111,114] || t==149)=true:=by kernel_rfl
theorem T6{W:World}(h:laidMetH Tryz.prog [("errors.errorType",Rows.laid_errors_errorType)] W.memory):GE (Ct W).E:=by
 have U:=h.2 _ (List.mem_cons_self ..);obtain⟨name,u,ty,h3,V,Y,h6,K⟩:=U;have Z:name= [101,114,114,111,114]:=(Option.some.inj h3).symm;have aa:u=240:=Option.some.inj (V.symm.trans Tryz.U1);subst Z;subst aa;have ab:ty=149:=by
  have:=List.all_eq_true.1 Tryz.VB ty (List.mem_range.2 Y);rw [h6] at this;simpa using this
 subst ab;unfold World.var? at K;rw [Tryz.TG] at K;simp only [Option.bind_some] at K;split at K
 ·rename_i c e f hW;simp only [Option.some.injEq] at K;subst K;refine⟨_,e,f,hW,fun j w O=>?_⟩;have ac:typeHandle Tryz.prog 149= .pointer (some ⟨1,149,none⟩):=by unfold typeHandle;rw [Tryz.Tr]
  rw [ac]
  match j,O with
  | 0,O=>simp at O;subst O;rfl
  | j+1,O=>simp at O
 ·cases K
end Pal
namespace Pal
open Go Go.Conc Go.Proofs Go.ChangeShapes Go.WideShapes Go.ChangeAt Go.RowKit
open Go.Proofs.YtboibffcmhheiaaGreatDoor
section
variable {H:Type}{enc:TypeId×Value→H}{W:World}{fuel:Nat}{cs:List Value}{x:DataW H×List MemPlace}
theorem Tryz.Ou:Tryz.prog.cellsOf 27=2:=by kernel_rfl
theorem RJ{b off:Nat}(K:0<cs.length)(h:∀j,j<cs.length→W.cell? ⟨b,off+j,none⟩=cs[j]?):At (Ct W).E b off cs:=by
 have O:=h 0 K;rw [List.getElem?_eq_getElem K] at O;obtain⟨f,e,fr,U,_⟩:=NI O;have hW:W.heap[b]? =some (.cells f e fr):=U;refine⟨f,e,fr,U,fun j w V=>?_⟩;have Y:=(List.getElem?_eq_some_iff.1 V).1;have h3:=h j Y;rw [V] at h3;unfold World.cell? at h3;simp only [hW] at h3;simpa using h3
theorem Ve{α:Type}{p:Rp α}{t e:TypeId}(ht:Tryz.prog.underlying t=some (.slice e))(aj:Tryz.prog.cellsOf e=p.n)(ak:0<p.n)
  (al:∀n cs x,DataW.trod enc Tryz.prog W 0 (fun _=>true) true n e cs=some x→∃v,p.r (Ct W).E cs v)
  (am:DataW.trod enc Tryz.prog W 0 (fun _=>true) true fuel t cs=some x):∃(a:Option Addr) (c:Nat) (ab:List α),cs= [.slice a ab.length c]∧LsR p (Ct W).E a c ab:=by
 rcases DataW.trod_slice ht am with⟨Y,an⟩ | ⟨a,len,cap,elems,rest,n,_,Y,an,_,ao,_,hlen,ac,ae,_⟩
 ·exact⟨none,0,[],Y,LsR.nil⟩
 ·rw [aj] at ac ae;rcases Nat.eq_zero_or_pos cap with ag | ag
  ·have:len=0:=by omega
   subst this;subst ag;exact⟨some a,0,[],Y,Nat.le_refl _,.inl ⟨rfl,fun _ _=> .inr rfl⟩⟩
  ·have ah:∀i,i<len→∃vs y,vs.length=p.n∧(∀j,j<p.n→W.cell? ((a.add (i*p.n)).add j)=vs[j]?)∧DataW.trod enc Tryz.prog W 0 (fun _=>true) true n e vs=some y:=fun i hi=>by
    have K:=ac i hi;rw [List.getElem?_eq_getElem (by omega)] at K;obtain⟨vs,Z,h3⟩:=Option.bind_eq_some_iff.1 K;obtain⟨_,O,aa⟩:=World.cells?_some Z;exact⟨vs,_,O,aa,h3⟩
   have hs:a.spot=none:=by
    have key:∀vs:List Value,vs.length=p.n→(∀j,j<p.n→W.cell? ((a.add (0*p.n)).add j)=vs[j]?)→a.spot=none:=fun vs h6 U=>by
     have:=U 0 ak;rw [List.getElem?_eq_getElem (by omega),Gq,Nat.zero_mul,Gq] at this;exact World.cell?_spot this
    rcases Nat.eq_zero_or_pos len with K | K
    ·obtain⟨Z,h3⟩:=ae rfl;have O:=h3 0 (by omega);rw [List.getElem?_eq_getElem (by omega)] at O;obtain⟨vs,aa,_⟩:=Option.bind_eq_some_iff.1 O;obtain⟨_,h6,U⟩:=World.cells?_some aa;rw [K] at U;exact key vs h6 U
    ·obtain⟨vs,y,h6,U,_⟩:=ah 0 K;exact key vs h6 U
   have ai:∀i:Fin len,∃z:α,∃vs,p.r (Ct W).E vs z∧At (Ct W).E a.block (a.off+i*p.n) vs:=fun i=>by
    obtain⟨vs,y,Z,h3,O⟩:=ah i i.2;obtain⟨z,V⟩:=al _ _ _ O;refine⟨z,vs,V,RJ (by omega) fun j ap=>?_⟩;have:=h3 j (by omega);rw [AS hs,AS rfl] at this;exact this
   refine⟨some a,cap,List.ofFn fun i=>Classical.choose (ai i),by simpa using Y,by simpa using ao,.inr ⟨a.block,a.off,?_,fun i z V=>?_⟩⟩
   ·obtain⟨b,o,s⟩:=a;simp only at hs;subst hs;rfl
   ·have hi:i<len:=by have:=(List.getElem?_eq_some_iff.1 V).1;simpa using this
    simp [hi] at V;have:=Classical.choose_spec (ai ⟨i,hi⟩);rw [V] at this;exact this
theorem Ni(h:DataW.trod enc Tryz.prog W 0 (fun _=>true) true fuel 27 cs=some x):∃v:Int×Int,cs= [iV v.1,iV v.2]:=by
 obtain⟨Z,aa,n,_,U,V,Y⟩:=trod_struct2 Tryz.underlying27 h;obtain⟨n1,K,_⟩:=DataW.trod_int Tryz.underlying3 V;obtain⟨n2,O,_⟩:=DataW.trod_int Tryz.underlying3 Y;rw [Tryz.Ou] at U;rw [Pal.Tryz.Pg] at K O;refine⟨(n1,n2),?_⟩
 match cs,U with
 | [u,w],_=>simp at K O;rw [K,O]
theorem Rv{v:Value}{O:Nat}{d:DataW H}{p:List MemPlace}(U:Value.okWide Tryz.prog W .any O 25 v)(V:DataW.Trod enc Tryz.prog W 0 (fun _=>true) true 25 v d p):
  ∃(a:Option Addr) (c:Nat) (K:List (Int×Int)),v= .slice a K.length c∧LsR (rP rI rI) (Ct W).E a c K:=by
 obtain⟨Z,len,cap,rfl⟩:=okWide_slice Tryz.underlying25 U;obtain⟨fuel,Y⟩:=V;obtain⟨a,c,K,e,g⟩:=Ve (p:=rP rI rI) Tryz.underlying25 Tryz.Ou (Nat.zero_lt_two) (fun n cs x h=>by
  obtain⟨v,rfl⟩:=Ni h
  exact⟨v,[iV v.1],[iV v.2],rfl,rfl,rfl⟩) Y
 simp [Value.cells] at e;obtain⟨rfl,rfl,rfl⟩:=e;exact⟨_,_,_,rfl,g⟩
theorem SQ{v:Value}{K:Nat}{d:DataW H}{p:List MemPlace}(O:Value.okWide Tryz.prog W .any K 27 v)(U:DataW.Trod enc Tryz.prog W 0 (fun _=>true) true 27 v d p):∃l:Int×Int,v= .agg #[iV l.1,iV l.2]:=by
 obtain⟨cs,rfl,Y⟩:=okWide_struct Tryz.underlying27 O;obtain⟨fuel,V⟩:=U;obtain⟨l,e⟩:=Ni V;simp only [Value.cells] at e;refine⟨l,?_⟩;obtain⟨k⟩:=cs;simp only at e;rw [e]
end
end Pal
namespace Pal
open Go Go.Conc Go.Proofs
open Go.Proofs.Tryz
variable {J:Judge Tryz.prog}{E:LH}
def OE(fuel:Nat)(p0:A1)(O:(List Int))(K:Nat×Int):Option (AH (Nat×Int) (Nat)):= if K.2<((O).length:Int) then((ix O (K.2)).bind fun U=> (ix p0.1 (U)).bind fun V=> (f120 fuel V).bind fun Y=> (GR (K.1) (Y)).bind fun Z=> (Ac (K.2+1)).bind fun aa=> some (.more (Z,aa))) else(some (.done K.1))
def f121(fuel:Nat)(p0:A1)(p1:Nat):Option (Nat):= (f89 fuel p1).bind fun K=> Option.bind (iter (OE fuel p0 K) fuel (0,0)) fun O=> some O
theorem Vl{k1:Nat}{o2:Nat}{a4:OAd}{c5:Nat}{a7:OAd}{c8:Nat}{aa:List Value}{p0:A1}{p1:Nat}(h3:At E k1 o2 (([sV a4 p0.1 c5,sV a7 p0.2.1 c8]:List Value)++aa))(h6:LsR (rL rI) E a4 c5 (p0.1))(h9:LsR (rL rI) E a7 c8 (p0.2.1))(aS:(rA 13 (rN .u16)).r E aa (p0.2.2)){fuel:Nat}{r:Nat}(hD:f121 fuel p0 p1=some r):Al J 121 [pV k1 o2,.int .u16 ((p1:Nat):Int)] E [] (fun w E' B'=>w= .int .u16 ((r:Nat):Int)∧B'= []):=by
 refine Av func121 rfl rfl fun Q aT cs H hN ai=>?_;unfold f121 at hD;obtain⟨ab,aj,ak⟩:=bs hD;refine zg 12 rfl ?_;refine JScl_ (GH aj) rfl rfl Gp hN ?_;rintro _ O _ U ⟨al,am,rfl,rfl,an⟩ ao;refine JLln_ underlying28 rfl rfl rfl ?_;obtain⟨ap,aq,ar⟩:=bs ak;refine zg 2 rfl ?_;refine JLjoin_ (fun L s=>∃(ac:LH),Jm O H ac [] [(5,.int .u16 ((ap:Nat):Int))] L s) ?_ ?_
 ·rintro _ _ ⟨ac,rfl,rfl,au,av⟩;refine zg 5 rfl ?_;obtain rfl:=oi ar;refine Af func121 rfl rfl ?_;exact ai _ _ _ _ (U.trq au) rfl ⟨rfl,rfl⟩ av
 ·intro aw;refine JL.block ?_;refine JLlw_ aq (fun L s V=>∃(Y:LH),Jm O H Y [] [(0,pV k1 o2),(5,.int .u16 ((V.1:Nat):Int)),(9,sV al ab am),(10,iV ((ab).length:Int)),(11,iV V.2)] L s) ⟨O,rfl,rfl,lR_,ao⟩ ?_;rintro _ _ V ⟨Y,rfl,rfl,K,ae⟩ ay ⟨aU,Z⟩ az;have ag:=Z;unfold OE at ag;refine zg 5 rfl ?_;refine JLfi_ ag (fun aA aB=>?_) (fun aA hD68=>?_)
  ·obtain⟨aV,aC,aD⟩:=bs aB;refine zg 5 rfl ?_;refine Bp (an.moq K) aC rfl rfl rfl rfl rfl underlying28 q_szOf_oftype3 ?_;rintro aW aX _ rfl aE;refine Aw 0 aE q_aggT_ofunderlying3 rfl rfl rfl ?_;refine zg 6 rfl ?_;refine Ar underlying141 q_szOf_oftype24 rfl rfl rfl ?_;refine Ar underlying24 A6 rfl rfl rfl ?_;refine Aw 0 (h3.moq (U.trq K)) Br rfl rfl rfl ?_;obtain⟨aY,aF,aG⟩:=bs aD;refine zg 1 rfl ?_;refine Bp (h6.moq (U.trq K)) aF rfl rfl rfl rfl rfl underlying22 Bg ?_;rintro aZ a0 _ ⟨a52,c53,rfl,h54⟩ aH;refine Aw 0 aH BL rfl rfl rfl ?_;obtain⟨a2,aI,aJ⟩:=bs aG;refine JScz_ (Hg h54 aI) rfl rfl GU ae fun aK aL aM=>?_;obtain⟨ah,aN,aO⟩:=bs aJ;refine Ae (v:= .int .u16 ((ah:Nat):Int)) rfl (fun ρ h=>HV (h _ _ rfl) (h _ _ rfl) aN) ?_;obtain⟨aP,aQ,aR⟩:=bs aO;refine zg 4 rfl ?_;refine JLaC_ aQ rfl rfl rfl ?_;refine zg 2 rfl ?_;obtain rfl:=oi aR;exact JLkw_ (az _ _ (ah,aP) ⟨aK,rfl,rfl,(K.trq aL),aM⟩ Z) rfl
  ·refine JL.exit rfl ?_;obtain rfl:=oi hD68;obtain rfl:=ay _ Z;exact JLkw_ (aw _ _ ⟨Y,rfl,rfl,K,ae⟩) rfl
def f130(fuel:Nat)(p0:Bb):Option (Int):= (f89 fuel p0.2.2).bind fun K=> some ((K).length:Int)
theorem U8{a1:OAd}{c2:Nat}{p0:Bb}(h3:LsR rI E a1 c2 (p0.2.1)){fuel:Nat}{r:Int}(hD:f130 fuel p0=some r):Al J 130 [.agg #[iV p0.1,sV a1 p0.2.1 c2,.int .u16 ((p0.2.2:Nat):Int)]] E [] (fun w E' B'=>w=iV r∧B'= []):=by
 refine Av func130 rfl rfl fun Q ae cs H hN K=>?_;unfold f130 at hD;refine zg 2 rfl ?_;refine JS.box (v:= .agg #[iV p0.1,sV a1 p0.2.1 c2,.int .u16 ((p0.2.2:Nat):Int)]) rfl rfl rfl hN rfl fun ag O=>?_;refine JSfreezeB_ 1 O rfl fun ah U V Y=>?_;refine zg 4 rfl ?_;refine Ar underlying104 Cq rfl rfl rfl ?_;refine Aw 2 V Ek rfl rfl rfl ?_;obtain⟨ai,Z,aa⟩:=bs hD;refine JScl_ (GH Z) rfl rfl Gp Y ?_;rintro _ aj _ ab ⟨ak,al,rfl,rfl,h17⟩ ac;refine JLln_ underlying28 rfl rfl rfl ?_;refine zg 2 rfl ?_;obtain rfl:=oi aa;refine Af func130 rfl rfl ?_;exact K _ _ _ _ (U.trq ab) rfl ⟨rfl,rfl⟩ ac
def Pb(fuel:Nat)(p0:List (Bb))(K:Nat×Int):Option (AH (Nat×Int) (Nat)):= if K.2<((p0).length:Int) then((ix p0 (K.2)).bind fun O=> (f90 fuel K.1 O.1).bind fun U=> (Ac (K.2+1)).bind fun V=> some (.more (U,V))) else(some (.done K.1))
def f87(fuel:Nat)(p0:List (Bb)):Option (Nat):= Option.bind (iter (Pb fuel p0) fuel (0,0)) fun K=> some K
theorem VR{a1:OAd}{c2:Nat}{p0:List (Bb)}(h3:LsR BP E a1 c2 (p0)){fuel:Nat}{r:Nat}(hD:f87 fuel p0=some r):Al J 87 [sV a1 p0 c2] E [] (fun w E' B'=>w= .int .u16 ((r:Nat):Int)∧B'= []):=by
 refine Av func87 rfl rfl fun Q aK cs H hN ab=>?_;unfold f87 at hD;refine zg 12 rfl ?_;refine JLln_ underlying95 rfl rfl rfl ?_;obtain⟨ac,ae,ag⟩:=bs hD;refine zg 2 rfl ?_;refine JLjoin_ (fun L s=>∃(Z:LH),Jm E H Z [] [(3,.int .u16 ((ac:Nat):Int))] L s) ?_ ?_
 ·rintro _ _ ⟨Z,rfl,rfl,ah,ai⟩;refine zg 5 rfl ?_;obtain rfl:=oi ag;refine Af func87 rfl rfl ?_;exact ab _ _ _ _ ah rfl ⟨rfl,rfl⟩ ai
 ·intro aj;refine JL.block ?_;refine JLlw_ ae (fun L s K=>∃(O:LH),Jm E H O [] [(3,.int .u16 ((K.1:Nat):Int)),(6,sV a1 p0 c2),(7,iV ((p0).length:Int)),(8,iV K.2)] L s) ⟨E,rfl,rfl,lR_,hN⟩ ?_;rintro _ _ K ⟨O,rfl,rfl,U,aa⟩ ak ⟨aL,V⟩ al;have hD26:=V;unfold Pb at hD26;refine zg 5 rfl ?_;refine JLfi_ hD26 (fun am an=>?_) (fun am ao=>?_)
  ·obtain⟨Y,ap,aq⟩:=bs an;refine zg 5 rfl ?_;refine Bp (h3.moq U) ap rfl rfl rfl rfl rfl underlying95 Bn ?_;rintro aM aN _ ⟨_,_,rfl,rfl,⟨_,_,rfl,⟨ar,au,rfl,aO⟩,rfl⟩⟩ av;refine JLldN_ av DO Bn rfl rfl ?_;refine JS.alloc rfl rfl rfl aa EC fun aP aw=>?_;refine JSst_ (v:= .agg #[iV Y.1,sV ar Y.2.1 au,.int .u16 ((Y.2.2:Nat):Int)]) (off:=0) 0 aw Bn rfl rfl rfl rfl fun ay=>?_;refine JSfreezeB_ 0 ay rfl fun E41 hle42 az aA=>?_;refine zg 3 rfl ?_;refine Ar underlying104 q_szOf_oftype3 rfl rfl rfl ?_;refine Aw 0 az q_aggT_ofunderlying3 rfl rfl rfl ?_;obtain⟨aB,aC,aD⟩:=bs aq;refine JScz_ (Kc aC) rfl rfl IN aA fun aE aF aG=>?_;obtain⟨aH,aI,aJ⟩:=bs aD;refine zg 4 rfl ?_;refine JLaC_ aI rfl rfl rfl ?_;refine zg 2 rfl ?_;obtain rfl:=oi aJ;exact JLkw_ (al _ _ (aB,aH) ⟨aE,rfl,rfl,((U.trq hle42).trq aF),aG⟩ V) rfl
  ·refine JL.exit rfl ?_;obtain rfl:=oi ao;obtain rfl:=ak _ V;exact JLkw_ (aj _ _ ⟨O,rfl,rfl,U,aa⟩) rfl
def O9(fuel:Nat)(p0:A1)(x67:Int)(K:Nat×Int):Option (AH (Nat×Int) (Nat)):= if K.2<x67 then((f121 fuel p0 K.1).bind fun O=> (Ac (K.2+1)).bind fun U=> some (.more (O,U))) else(some (.done K.1))
def f88(fuel:Nat)(p0:A1)(p1:Bb)(p2:Int):Option (Nat):= (Ac (((p1.2.1).length:Int) - 1)).bind fun K=> if p2≤K then((ix p1.2.1 (p2)).bind fun x25=> (f120 fuel ([x25]:List Int)).bind fun O=> some O) else((ix p1.2.1 (K)).bind fun U=> (f120 fuel ([U]:List Int)).bind fun V=> (Ac (p2 - K)).bind fun x67=> Option.bind (iter (O9 fuel p0 x67) fuel (V,0)) fun Y=> some Y)
theorem VW{k1:Nat}{o2:Nat}{a4:OAd}{c5:Nat}{a7:OAd}{c8:Nat}{ah:List Value}{Y:OAd}{Z:Nat}{p0:A1}{p1:Bb}{p2:Int}(h3:At E k1 o2 (([sV a4 p0.1 c5,sV a7 p0.2.1 c8]:List Value)++ah))(h6:LsR (rL rI) E a4 c5 (p0.1))(h9:LsR (rL rI) E a7 c8 (p0.2.1))(ao:(rA 13 (rN .u16)).r E ah (p0.2.2))(ai:LsR rI E Y Z (p1.2.1)){fuel:Nat}{r:Nat}(hD:f88 fuel p0 p1 p2=some r):Al J 88 [pV k1 o2,.agg #[iV p1.1,sV Y p1.2.1 Z,.int .u16 ((p1.2.2:Nat):Int)],iV p2] E [] (fun w E' B'=>w= .int .u16 ((r:Nat):Int)∧B'= []):=by
 refine Av func88 rfl rfl fun Q bd cs H hN aj=>?_;unfold f88 at hD;refine zg 2 rfl ?_;refine JS.box (v:= .agg #[iV p1.1,sV Y p1.2.1 Z,.int .u16 ((p1.2.2:Nat):Int)]) rfl rfl rfl hN rfl fun bf ap=>?_;refine JSfreezeB_ 1 ap rfl fun bg K aa ak=>?_;refine zg 4 rfl ?_;refine Ar underlying104 Bg rfl rfl rfl ?_;refine Aw 1 aa BL rfl rfl rfl ?_;refine JLln_ underlying28 rfl rfl rfl ?_;obtain⟨bh,aq,ar⟩:=bs hD;refine A9 aq rfl rfl rfl ?_;refine zg 9 rfl ?_;refine JLfi_ ar (fun au av=>?_) (fun au aw=>?_)
 ·refine zg 2 rfl ?_;refine Ar underlying104 Bg rfl rfl rfl ?_;refine Aw 1 aa BL rfl rfl rfl ?_;obtain⟨x25,hx25,hD26⟩:=bs av;refine zg 1 rfl ?_;refine Bp (ai.moq K) hx25 rfl rfl rfl rfl rfl underlying28 q_szOf_oftype3 ?_;rintro bi bj _ rfl ay;refine Aw 0 ay q_aggT_ofunderlying3 rfl rfl rfl ?_;refine JSlit_ (pp:=rI) [iV x25] [x25] rfl rfl rfl underlying28 q_szOf_oftype3 q_zeroOf_oftype3 (by decide) rfl rfl rfl ⟨rfl,trivial⟩ ak fun bk bl az aA=>?_;refine JSfreezeL_ 2 az aA rfl fun bm aB aC aD=>?_;obtain⟨bn,aE,aF⟩:=bs hD26;refine JScz_ (Hg aC aE) rfl rfl GU aD fun bo aG aH=>?_;refine zg 2 rfl ?_;obtain rfl:=oi aF;refine Af func88 rfl rfl ?_;exact aj _ _ _ _ ((K.trq aB).trq aG) rfl ⟨rfl,rfl⟩ aH
 ·refine zg 3 rfl ?_;refine Ar underlying104 Bg rfl rfl rfl ?_;refine Aw 1 aa BL rfl rfl rfl ?_;obtain⟨al,aI,aJ⟩:=bs aw;refine zg 1 rfl ?_;refine Bp (ai.moq K) aI rfl rfl rfl rfl rfl underlying28 q_szOf_oftype3 ?_;rintro bp bq _ rfl aK;refine Aw 0 aK q_aggT_ofunderlying3 rfl rfl rfl ?_;refine JSlit_ (pp:=rI) [iV al] [al] rfl rfl rfl underlying28 q_szOf_oftype3 q_zeroOf_oftype3 (by decide) rfl rfl rfl ⟨rfl,trivial⟩ ak fun br bu h54 aL=>?_;refine JSfreezeL_ 2 h54 aL rfl fun bv U aM hN60=>?_;obtain⟨bw,aN,aO⟩:=bs aJ;refine JScz_ (Hg aM aN) rfl rfl GU hN60 fun ab V aP=>?_;obtain⟨x67,hx67,hD68⟩:=bs aO;refine zg 7 rfl ?_;refine A9 hx67 rfl rfl rfl ?_;obtain⟨aQ,aR,aS⟩:=bs hD68;refine zg 2 rfl ?_;refine JLjoin_ (fun L s=>∃(am:LH),Jm ab H am [] [(8,.int .u16 ((aQ:Nat):Int))] L s) ?_ ?_
  ·rintro _ _ ⟨am,rfl,rfl,aT,aU⟩;refine zg 5 rfl ?_;obtain rfl:=oi aS;refine Af func88 rfl rfl ?_;exact aj _ _ _ _ (((K.trq U).trq V).trq aT) rfl ⟨rfl,rfl⟩ aU
  ·intro aV;refine JL.block ?_;refine JLlw_ aR (fun L s ac=>∃(ae:LH),Jm ab H ae [] [(0,pV k1 o2),(8,.int .u16 ((ac.1:Nat):Int)),(32,iV x67),(33,iV ac.2)] L s) ⟨ab,rfl,rfl,lR_,aP⟩ ?_;rintro _ _ ac ⟨ae,rfl,rfl,O,an⟩ aW ⟨bx,ag⟩ aX;have hD91:=ag;unfold O9 at hD91;refine zg 5 rfl ?_;refine JLfi_ hD91 (fun aY aZ=>?_) (fun aY a0=>?_)
   ·obtain⟨a2,a3,a5⟩:=bs aZ;refine zg 6 rfl ?_;refine JScz_ (Vl (h3.moq (((K.trq U).trq V).trq O)) (h6.moq (((K.trq U).trq V).trq O)) (h9.moq (((K.trq U).trq V).trq O)) (Rp.moq _ (((K.trq U).trq V).trq O) ao) a3) rfl rfl (body_of func121 rfl) an fun a6 a8 a9=>?_;obtain⟨ba,bb,bc⟩:=bs a5;refine zg 4 rfl ?_;refine JLaC_ bb rfl rfl rfl ?_;refine zg 2 rfl ?_;obtain rfl:=oi bc;exact JLkw_ (aX _ _ (a2,ba) ⟨a6,rfl,rfl,(O.trq a8),a9⟩ ag) rfl
   ·refine JL.exit rfl ?_;obtain rfl:=oi a0;obtain rfl:=aW _ ag;exact JLkw_ (aV _ _ ⟨ae,rfl,rfl,O,an⟩) rfl
end Pal
namespace Pal
open Go Go.Conc Go.Proofs
open Go.Proofs.Tryz
variable {J:Judge Tryz.prog}{E:LH}
def Ja(fuel:Nat)(p0:A1)(K:(List Int))(x31:Nat×Int):Option (AH (Nat×Int) (Nat)):= if x31.2<((K).length:Int) then((ix K (x31.2)).bind fun O=> (ix p0.1 (O)).bind fun U=> (f120 fuel U).bind fun V=> (GR (x31.1) (V)).bind fun Y=> (Ac (x31.2+1)).bind fun Z=> some (.more (Y,Z))) else(some (.done x31.1))
def Ib(fuel:Nat)(p0:A1)(p1:Nat):Option (Nat×(A1)):= (f89 fuel p1).bind fun K=> Option.bind (iter (Ja fuel p0 K) fuel (0,0)) fun O=> some (O,p0)
theorem Ty{K:Nat}{a1:OAd}{c2:Nat}{a4:OAd}{c5:Nat}{O:List Value}{p0:A1}{p1:Nat}(h3:LsR (rL rI) E a1 c2 (p0.1))(h6:LsR (rL rI) E a4 c5 (p0.2.1))(ao:(rA 13 (rN .u16)).r E O (p0.2.2)){fuel:Nat}{r:Nat×(A1)}(hD:Ib fuel p0 p1=some r):Al J 121 [pV K 0,.int .u16 ((p1:Nat):Int)] E [(K,.cells (([sV a1 p0.1 c2,sV a4 p0.2.1 c5]:List Value)++O).toArray 141 (0,0))] (fun w E' B'=>∃(ae:OAd) (ag:Nat) (ah:OAd) (ai:Nat) (aj:List Value),w= .int .u16 ((r.1:Nat):Int)∧B'= [(K,.cells (([sV ae r.2.1 ag,sV ah r.2.2.1 ai]:List Value)++aj).toArray 141 (0,0))]∧LsR (rL rI) E' ae ag (r.2.1)∧LsR (rL rI) E' ah ai (r.2.2.1)∧(rA 13 (rN .u16)).r E' aj (r.2.2.2)):=by
 refine Av func121 rfl rfl fun Q aY cs H hN ap=>?_;unfold Ib at hD;obtain⟨ak,aq,ar⟩:=bs hD;refine zg 12 rfl ?_;refine JScl_ (GH aq) rfl rfl Gp hN ?_;rintro _ Z _ U ⟨au,av,rfl,rfl,aw⟩ hN13;refine JLln_ underlying28 rfl rfl rfl ?_;obtain⟨ay,az,aA⟩:=bs ar;refine zg 2 rfl ?_;refine JLjoin_ (fun L s=>∃(al:LH),Jm Z H al [[(K,.cells (([sV a1 p0.1 c2,sV a4 p0.2.1 c5]:List Value)++O).toArray 141 (0,0))]] [(5,.int .u16 ((ay:Nat):Int))] L s) ?_ ?_
 ·rintro _ _ ⟨al,rfl,rfl,V,aB⟩;refine zg 5 rfl ?_;obtain rfl:=oi aA;refine Af func121 rfl rfl ?_;exact ap _ _ _ _ (U.trq V) rfl ⟨a1,c2,a4,c5,O,rfl,rfl,(h3.moq (U.trq V)),(h6.moq (U.trq V)),(Rp.moq _ (U.trq V) ao)⟩ aB
 ·intro aC;refine JL.block ?_;refine JLlw_ az (fun L s x31=>∃(aa:LH),Jm Z H aa [[(K,.cells (([sV a1 p0.1 c2,sV a4 p0.2.1 c5]:List Value)++O).toArray 141 (0,0))]] [(0,pV K 0),(5,.int .u16 ((x31.1:Nat):Int)),(9,sV au ak av),(10,iV ((ak).length:Int)),(11,iV x31.2)] L s) ⟨Z,rfl,rfl,lR_,hN13⟩ ?_;rintro _ _ x31 ⟨aa,rfl,rfl,Y,ab⟩ aD ⟨aZ,ac⟩ aE;have am:=ac;unfold Ja at am;refine zg 5 rfl ?_;refine JLfi_ am (fun aF aG=>?_) (fun aF aH=>?_)
  ·obtain⟨a0,aI,aJ⟩:=bs aG;refine zg 5 rfl ?_;refine Bp (aw.moq Y) aI rfl rfl rfl rfl rfl underlying28 q_szOf_oftype3 ?_;rintro a2 a3 _ rfl aK;refine Aw 0 aK q_aggT_ofunderlying3 rfl rfl rfl ?_;refine zg 6 rfl ?_;refine Ar underlying141 q_szOf_oftype24 rfl rfl rfl ?_;refine Ar underlying24 A6 rfl rfl rfl ?_;refine Ae (v:= sV a1 p0.1 c2) rfl (fun ρ h=>Yl.load Br (h _ _ rfl) (Se (o:=0) (l:= [sV a1 p0.1 c2,sV a4 p0.2.1 c5]) 0 ab rfl rfl)) ?_;obtain⟨a5,aL,aM⟩:=bs aJ;refine zg 1 rfl ?_;refine Bp (h3.moq (U.trq Y)) aL rfl rfl rfl rfl rfl underlying22 Bg ?_;rintro a6 a8 _ ⟨a9,ba,rfl,aN⟩ h54;refine Aw 0 h54 BL rfl rfl rfl ?_;obtain⟨bb,aO,aP⟩:=bs aM;refine JScz_ (Hg aN aO) rfl rfl GU ab fun aQ aR aS=>?_;obtain⟨an,aT,aU⟩:=bs aP;refine Ae (v:= .int .u16 ((an:Nat):Int)) rfl (fun ρ h=>HV (h _ _ rfl) (h _ _ rfl) aT) ?_;obtain⟨aV,aW,aX⟩:=bs aU;refine zg 4 rfl ?_;refine JLaC_ aW rfl rfl rfl ?_;refine zg 2 rfl ?_;obtain rfl:=oi aX;exact JLkw_ (aE _ _ (an,aV) ⟨aQ,rfl,rfl,(Y.trq aR),aS⟩ ac) rfl
  ·refine JL.exit rfl ?_;obtain rfl:=oi aH;obtain rfl:=aD _ ac;exact JLkw_ (aC _ _ ⟨aa,rfl,rfl,Y,ab⟩) rfl
end Pal
namespace Pal
open Go Go.Conc Go.Proofs
open Go.Proofs.Tryz
variable {J:Judge Tryz.prog}{E:LH}
theorem U2:P1 Tryz.prog 138 .u16:=⟨_,underlying138,by decide+kernel,by decide,underlying102,rfl⟩
def H9(fuel:Nat)(K:(List (List Int))×(List (List Int))×(List Nat)×(List Nat)×Int):Option (AH ((List (List Int))×(List (List Int))×(List Nat)×(List Nat)×Int) ((List (List Int))×(List (List Int))×(List Nat)×(List Nat))):= if K.2.2.2.2<12 then((Ac (K.2.2.2.2+1)).bind fun U=> (ix K.2.2.1 (K.2.2.2.2)).bind fun V=> (Ib fuel (K.1,K.2.1,K.2.2.1) V).bind fun O=> (ix K.2.2.2.1 (U)).bind fun Z=> (Ac (K.2.2.2.2+1)).bind fun Y=> some (.more (O.2.1,O.2.2.1,O.2.2.2,(K.2.2.2.1.set (Int.toNat U) O.1),Y))) else(some (.done (K.1,K.2.1,K.2.2.1,K.2.2.2.1)))
def JC(fuel:Nat)(O:A1):Option (AH (A1) (((Option (A1)))⊕Unit)):= Option.bind (iter (H9 fuel) fuel (O.1,O.2.1,O.2.2,O.2.2,0)) fun K=> if K.2.2.2≠K.2.2.1 then(some (.more (K.1,K.2.1,K.2.2.2))) else(some (.done (Sum.inl (some (K.1,K.2.1,K.2.2.1)))))
def f92(fuel:Nat)(p0:JW2):Option ((Option (A1))):= (ix (List.replicate 13 (0:Nat)) (0)).bind fun K=> Option.bind (iter (JC fuel) fuel (p0.1,p0.2,((List.replicate 13 (0:Nat)).set (Int.toNat 0) 1))) fun x39=> Sum.elim (fun r=>some r) (fun O=>none) x39
theorem Kj{a1:OAd}{c2:Nat}{a4:OAd}{c5:Nat}{p0:JW2}(h3:LsR (rL rI) E a1 c2 (p0.1))(h6:LsR (rL rI) E a4 c5 (p0.2)){fuel:Nat}{r:(Option (A1))}(hD:f92 fuel p0=some r):Al J 92 [.agg #[sV a1 p0.1 c2,sV a4 p0.2 c5]] E [] (fun w E' B'=>∃(aO:Value),w=aO∧B'= []∧HB (rP (rL (rL rI)) (rP (rL (rL rI)) (rA 13 (rN .u16)))) E' aO (r)):=by
 refine Av func92 rfl rfl fun Q b1 cs H hN ba=>?_;unfold f92 at hD;refine zg 2 rfl ?_;refine JS.box (v:= .agg #[sV a1 p0.1 c2,sV a4 p0.2 c5]) rfl rfl rfl hN rfl fun b2 bb=>?_;refine JSfreezeB_ 1 bb rfl fun al aI bc bd=>?_;refine zg 5 rfl ?_;refine JLldN_ bc q_aggT_ofunderlying24 q_szOf_oftype24 rfl rfl ?_;refine Ae (v:= .agg (([sV a1 p0.1 c2,sV a4 p0.2 c5]:List Value)++(List.replicate 13 (.int .u16 ((0:Nat):Int)):List Value)).toArray) rfl (fun ρ h=>BJ [(0,2),(2,13)] h (BY type141) underlying141 ⟨rfl,AL type24,rfl,AL type139,trivial⟩ rfl rfl) ?_;refine JS.box (v:= .agg (([sV a1 p0.1 c2,sV a4 p0.2 c5]:List Value)++(List.replicate 13 (.int .u16 ((0:Nat):Int)):List Value)).toArray) rfl rfl rfl bd rfl fun U bf=>?_;refine zg 6 rfl ?_;refine Ar underlying141 DD rfl rfl rfl ?_;obtain⟨b3,aJ,bg⟩:=bs hD;obtain⟨_,rfl,_,_,b4⟩:=F8 (kk:=13) (pp:=(rN .u16)) (Hj (E:=al) (pp:=(rN .u16)) rfl) aJ;refine Ae (v:= .pointer (some ⟨U,2+Int.toNat (0)*1,none⟩)) rfl (fun ρ h=>G1 (kk:=13) (pp:=(rN .u16)) (Hj (E:=al) (pp:=(rN .u16)) rfl) aJ underlying139 EZ (h _ _ rfl) (h _ _ rfl)) ?_;refine Ar underlying138 Cq rfl rfl rfl ?_;have aC:=LU (us:= [.int .u16 ((1:Nat):Int)]) (y:=1) (Hj (E:=al) (pp:=(rN .u16)) rfl) aJ rfl;refine HR (v:= .int .u16 ((1:Nat):Int)) (l:= [sV a1 p0.1 c2,sV a4 p0.2 c5]) (ws:=(List.replicate 13 (.int .u16 ((0:Nat):Int)):List Value)) (us:= [.int .u16 ((1:Nat):Int)]) (o:=Int.toNat (0)*1) 2 rfl rfl rfl bf rfl rfl rfl Cq (by simp [Value.cells,Ba]) rfl aC.2 fun aP=>?_;replace aC:=aC.1;generalize bh:Fs (List.replicate 13 (.int .u16 ((0:Nat):Int)):List Value) (Int.toNat (0)*1) [.int .u16 ((1:Nat):Int)]=aQ at aP ⊢;have h23:(rA 13 (rN .u16)).r al aQ ((List.replicate 13 (0:Nat)).set (Int.toNat 0) 1):=by rw [← bh];exact aC
 refine zg 2 rfl ?_;refine JL.label ?_;obtain⟨x39,bi,bj⟩:=bs bg;refine GL [(3,pV U 0)] rfl ?_;refine SX bi (fun L s Z=>∃(V:LH) (ap:OAd) (aq:Nat) (ar:OAd) (au:Nat) (aa:List Value),Jn al H V [[(U,.cells (([sV ap Z.1 aq,sV ar Z.2.1 au]:List Value)++aa).toArray 141 (0,0))]] [(3,pV U 0)] L s (LsR (rL rI) V ap aq (Z.1)∧LsR (rL rI) V ar au (Z.2.1)∧(rA 13 (rN .u16)).r V aa (Z.2.2))) ⟨al,a1,c2,a4,c5,aQ,rfl,rfl,lR_,aP,(h3.moq aI),(h6.moq aI),h23⟩ ?_;rintro _ _ Z ⟨V,ap,aq,ar,au,aa,rfl,rfl,aR,aS,bk,bl,h54⟩ bm ⟨b5,aK⟩ bn;have aT:=aK;unfold JC at aT;refine zg 4 rfl ?_;refine Ar underlying141 DD rfl rfl rfl ?_;refine Ae (v:= .agg aa.toArray) rfl (fun ρ h=>G5 (kk:=13) (pp:=(rN .u16)) h54 HI DD (h _ _ rfl) (I8 (l:= [sV ap Z.1 aq,sV ar Z.2.1 au]) 0 aS rfl)) ?_;refine JS.alloc rfl rfl rfl aS (BY type139) fun am bo=>?_;refine HR (v:= .agg aa.toArray) (l:= []) (ws:=(List.replicate 13 (.int .u16 ((0:Nat):Int)):List Value)) (us:=aa) (o:=0) 1 rfl rfl rfl bo rfl rfl rfl (by rw [Ec (kk:=13) (pp:=(rN .u16)) h54];exact AL type139) ((rA 13 (rN .u16)).one h54) rfl (by rw [Ec (kk:=13) (pp:=(rN .u16)) h54,Ec (kk:=13) (pp:=(rN .u16)) (Hj (E:=V) (pp:=(rN .u16)) rfl)];omega) fun aU=>?_;rw [N4 (by rw [Ec (kk:=13) (pp:=(rN .u16)) h54,Ec (kk:=13) (pp:=(rN .u16)) (Hj (E:=V) (pp:=(rN .u16)) rfl)])] at aU ⊢;obtain⟨K,bp,bq⟩:=bs aT;refine zg 6 rfl ?_;refine JLjoin_ (fun L s=>∃(ag:LH) (ah:OAd) (ai:Nat) (ab:OAd) (ac:Nat) (aj:List Value) (ae:List Value),Jn V H ag [[(U,.cells (([sV ah K.1 ai,sV ab K.2.1 ac]:List Value)++aj).toArray 141 (0,0))],[(am,.cells (([]:List Value)++ae).toArray 139 (0,0))]] [(3,pV U 0),(4,pV am 0)] L s (LsR (rL rI) ag ah ai (K.1)∧LsR (rL rI) ag ab ac (K.2.1)∧(rA 13 (rN .u16)).r ag aj (K.2.2.1)∧(rA 13 (rN .u16)).r ag ae (K.2.2.2))) ?_ ?_
 ·rintro _ _ ⟨ag,ah,ai,ab,ac,aj,ae,rfl,rfl,aV,an,aW,aX,av,h97⟩;refine zg 2 rfl ?_;refine BT 5 [am,U] ⟨⟨1,_,rfl⟩,⟨0,_,rfl⟩,trivial⟩ an fun ht=>?_;refine JGV_ (v:= .agg ae.toArray) 0 ht rfl rfl (fun ρ h s' hs=>G5 (kk:=13) (pp:=(rN .u16)) h97 HI DD (h _ _ rfl) (Lp (l:= []) 1 an rfl (by simp [Ak]) hs)) ?_;refine JGms_ ht rfl [1,2] rfl ?_;refine Bf 3 ht underlying141 DD rfl rfl rfl rfl ?_;refine JGV_ (v:= .agg aj.toArray) 4 ht rfl rfl (fun ρ h s' hs=>G5 (kk:=13) (pp:=(rN .u16)) av HI DD (h _ _ rfl) (Lp (l:= [sV ah K.1 ai,sV ab K.2.1 ac]) 0 an rfl (by simp [Ak]) hs)) ?_;refine JALlf_ [5] ?_;refine Ae (v:= .bool (decide (K.2.2.2≠K.2.2.1))) rfl (fun ρ h=>SJ underlying139 (by decide+kernel) U2 EZ h97 av (h _ _ rfl) (h _ _ rfl)) ?_;refine JL.done ?_;refine JLfi_ bq (fun br bu=>?_) (fun br hD104=>?_)
  ·refine zg 3 rfl ?_;refine Ae (v:= .agg ae.toArray) rfl (fun ρ h=>G5 (kk:=13) (pp:=(rN .u16)) h97 HI DD (h _ _ rfl) (I8 (l:= []) 1 an rfl)) ?_;refine zg 1 rfl ?_;refine Ar underlying141 DD rfl rfl rfl ?_;refine HR (v:= .agg ae.toArray) (l:= [sV ah K.1 ai,sV ab K.2.1 ac]) (ws:=aj) (us:=ae) (o:=0) 0 rfl rfl rfl an rfl rfl rfl (by rw [Ec (kk:=13) (pp:=(rN .u16)) h97];exact AL type139) ((rA 13 (rN .u16)).one h97) rfl (by rw [Ec (kk:=13) (pp:=(rN .u16)) h97,Ec (kk:=13) (pp:=(rN .u16)) av];omega) fun aY=>?_;rw [N4 (by rw [Ec (kk:=13) (pp:=(rN .u16)) h97,Ec (kk:=13) (pp:=(rN .u16)) av])] at aY ⊢;refine JL.done ?_;refine JL.goto rfl ?_;refine zg 2 rfl ?_;refine JS.drop 1 aY rfl fun bv=>?_;obtain rfl:=oi bu;exact JLkw_ (bn _ _ (K.1,K.2.1,K.2.2.2) ⟨ag,ah,ai,ab,ac,ae,rfl,rfl,(aR.trq aV),bv,aW,aX,h97⟩ aK) rfl
  ·refine zg 6 rfl ?_;refine JSfreezeB_ 0 an rfl fun E105 hle106 bw bx=>?_;refine JS.drop 1 bx rfl fun bz=>?_;obtain rfl:=oi hD104;obtain rfl:=bm _ aK;have bA:=elim_inl bj;obtain rfl:=oi bA;refine Af func92 rfl rfl ?_;exact ba _ _ _ _ (((aI.trq aR).trq aV).trq hle106) rfl ⟨pV U 0,rfl,rfl,⟨_,_,_,rfl,bw,⟨[sV ah K.1 ai],(([sV ab K.2.1 ac]:List Value)++aj),rfl,⟨_,_,rfl,(aW.moq hle106)⟩,⟨[sV ab K.2.1 ac],aj,rfl,⟨_,_,rfl,(aX.moq hle106)⟩,(Rp.moq _ hle106 av)⟩⟩⟩⟩ bz
 ·intro bB;refine JL.block ?_;refine JLlw_ bp (fun L s O=>∃(ak:LH) (aw:OAd) (ay:Nat) (az:OAd) (aA:Nat) (aD:List Value) (ao:List Value),Jn V H ak [[(U,.cells (([sV aw O.1 ay,sV az O.2.1 aA]:List Value)++aD).toArray 141 (0,0))],[(am,.cells (([]:List Value)++ao).toArray 139 (0,0))]] [(3,pV U 0),(4,pV am 0),(18,iV O.2.2.2.2)] L s (LsR (rL rI) ak aw ay (O.1)∧LsR (rL rI) ak az aA (O.2.1)∧(rA 13 (rN .u16)).r ak aD (O.2.2.1)∧(rA 13 (rN .u16)).r ak ao (O.2.2.2.1))) ⟨V,ap,aq,ar,au,aa,aa,rfl,rfl,lR_,aU,bk,bl,h54,h54⟩ ?_;rintro _ _ O ⟨ak,aw,ay,az,aA,aD,ao,rfl,rfl,aZ,aL,a0,a2,aE,aF⟩ bC ⟨b6,aM⟩ bD;have a3:=aM;unfold H9 at a3;refine zg 5 rfl ?_;refine JLfi_ a3 (fun bE bF=>?_) (fun bE bG=>?_)
  ·obtain⟨aB,bH,bI⟩:=bs bF;refine zg 10 rfl ?_;refine JLaC_ bH rfl rfl rfl ?_;refine zg 4 rfl ?_;refine Ar underlying141 DD rfl rfl rfl ?_;obtain⟨bJ,a5,hD139⟩:=bs bI;obtain⟨_,rfl,_,_,bK⟩:=F8 (kk:=13) (pp:=(rN .u16)) aE a5;refine Ae (v:= .pointer (some ⟨U,2+Int.toNat (O.2.2.2.2)*1,none⟩)) rfl (fun ρ h=>G1 (kk:=13) (pp:=(rN .u16)) aE a5 underlying139 EZ (h _ _ rfl) (h _ _ rfl)) ?_;refine Ar underlying138 Cq rfl rfl rfl ?_;refine Ae (v:= .int .u16 ((bJ:Nat):Int)) rfl (fun ρ h=>Yl.load Ek (h _ _ rfl) (Rh (l:= [sV aw O.1 ay,sV az O.2.1 aA]) 0 aL rfl (bK 0 _ rfl))) ?_;obtain⟨Y,bL,bM⟩:=bs hD139;refine JSclL_ 0 (Ty a0 a2 aE bL) rfl rfl (body_of func121 rfl) aL rfl ?_;rintro _ a6 _ aG ⟨bN,bO,bP,bQ,Ir,rfl,rfl,bR,bS,bT⟩ bU;obtain⟨b7,aN,bV⟩:=bs bM;obtain⟨_,rfl,_,_,b8⟩:=F8 (kk:=13) (pp:=(rN .u16)) (Rp.moq _ aG aF) aN;refine Ae (v:= .pointer (some ⟨am,0+Int.toNat (aB)*1,none⟩)) rfl (fun ρ h=>G1 (kk:=13) (pp:=(rN .u16)) (Rp.moq _ aG aF) aN underlying139 EZ (h _ _ rfl) (h _ _ rfl)) ?_;refine Ar underlying138 Cq rfl rfl rfl ?_;have aH:=LU (us:= [.int .u16 ((Y.1:Nat):Int)]) (y:=Y.1) (Rp.moq _ aG aF) aN rfl;refine HR (v:= .int .u16 ((Y.1:Nat):Int)) (l:= []) (ws:=ao) (us:= [.int .u16 ((Y.1:Nat):Int)]) (o:=Int.toNat (aB)*1) 1 rfl rfl rfl bU rfl rfl rfl Cq (by simp [Value.cells,Ba]) rfl aH.2 fun a8=>?_;replace aH:=aH.1;generalize bW:Fs ao (Int.toNat (aB)*1) [.int .u16 ((Y.1:Nat):Int)]=a9 at a8 ⊢;have bX:(rA 13 (rN .u16)).r a6 a9 (O.2.2.2.1.set (Int.toNat aB) Y.1):=by rw [← bW];exact aH
   obtain⟨bY,bZ,b0⟩:=bs bV;refine zg 3 rfl ?_;refine JLaC_ bZ rfl rfl rfl ?_;refine zg 2 rfl ?_;obtain rfl:=oi b0;exact JLkw_ (bD _ _ (Y.2.1,Y.2.2.1,Y.2.2.2,(O.2.2.2.1.set (Int.toNat aB) Y.1),bY) ⟨a6,bN,bO,bP,bQ,Ir,a9,rfl,rfl,(aZ.trq aG),a8,bR,bS,bT,bX⟩ aM) rfl
  ·refine JL.exit rfl ?_;obtain rfl:=oi bG;obtain rfl:=bC _ aM;exact JLkw_ (bB _ _ ⟨ak,aw,ay,az,aA,aD,ao,rfl,rfl,aZ,aL,a0,a2,aE,aF⟩) rfl
end Pal
namespace Pal
open Go Go.Conc Go.Proofs
open Go.Proofs.Tryz
variable {J:Judge Tryz.prog}{E:LH}
def Ot(fuel:Nat)(p0:A1)(O:Nat)(U:(List Int))(K:Int):Option (AH (Int) ((Bool)⊕(Unit))):= if K<((U).length:Int) then((ix U (K)).bind fun V=> (f103 fuel O V).bind fun Y=> Option.bind (if Y=true then(some true) else((ix p0.2.1 (V)).bind fun Z=> (f120 fuel Z).bind fun aa=> (Hq (O) (aa)).bind fun ab=> some (decide ((((ab):Nat):Int)≠(((0):Nat):Int))))) fun ac=> if ac=true then(some (.done (Sum.inl true))) else((Ac (K+1)).bind fun x78=> some (.more x78))) else(some (.done (Sum.inr ())))
def f109(fuel:Nat)(p0:A1)(p1:Int)(p2:Int):Option (Bool):= (ix p0.2.2 (p2)).bind fun K=> (ix p0.2.2 (p1)).bind fun O=> (f89 fuel O).bind fun U=> Option.bind (iter (Ot fuel p0 K U) fuel 0) fun V=> Sum.elim (fun r=>some r) (fun Y=> some false) V
theorem VD{k1:Nat}{o2:Nat}{a4:OAd}{c5:Nat}{a7:OAd}{c8:Nat}{ae:List Value}{p0:A1}{p1:Int}{p2:Int}(h3:At E k1 o2 (([sV a4 p0.1 c5,sV a7 p0.2.1 c8]:List Value)++ae))(h6:LsR (rL rI) E a4 c5 (p0.1))(h9:LsR (rL rI) E a7 c8 (p0.2.1))(ag:(rA 13 (rN .u16)).r E ae (p0.2.2)){fuel:Nat}{r:Bool}(hD:f109 fuel p0 p1 p2=some r):Al J 109 [pV k1 o2,iV p1,iV p2] E [] (fun w E' B'=>w= .bool r∧B'= []):=by
 refine Av func109 rfl rfl fun Q bm cs H hN ah=>?_;unfold f109 at hD;refine zg 9 rfl ?_;refine Ar underlying141 DD rfl rfl rfl ?_;obtain⟨ai,aA,aB⟩:=bs hD;refine Lz (l:= [sV a4 p0.1 c5,sV a7 p0.2.1 c8]) h3 ag aA rfl rfl rfl rfl rfl underlying139 EZ ?_;rintro bn _ rfl aC;refine Ar underlying138 Cq rfl rfl rfl ?_;refine Aw 0 aC Ek rfl rfl rfl ?_;refine zg 8 rfl ?_;refine Ar underlying141 DD rfl rfl rfl ?_;obtain⟨bo,aD,aE⟩:=bs aB;refine Lz (l:= [sV a4 p0.1 c5,sV a7 p0.2.1 c8]) h3 ag aD rfl rfl rfl rfl rfl underlying139 EZ ?_;rintro bp _ rfl aF;refine Ar underlying138 Cq rfl rfl rfl ?_;refine Aw 0 aF Ek rfl rfl rfl ?_;obtain⟨O,aG,aH⟩:=bs aE;refine JScl_ (GH aG) rfl rfl Gp hN ?_;rintro _ Z _ U ⟨aj,ak,rfl,rfl,aI⟩ hN24;refine JLln_ underlying28 rfl rfl rfl ?_;obtain⟨al,aJ,am⟩:=bs aH;refine zg 2 rfl ?_;refine JLjoin_ (fun L s=>∃(an:Unit) (ao:LH),al=Sum.inr an∧Jm Z H ao [] [] L s) ?_ ?_
 ·rintro _ _ ⟨an,ao,rfl,rfl,rfl,aK,aL⟩;have aM:=elim_inr am;refine zg 4 rfl ?_;obtain rfl:=oi aM;refine Af func109 rfl rfl ?_;exact ah _ _ _ _ (U.trq aK) rfl ⟨rfl,rfl⟩ aL
 ·intro aN;refine JL.block ?_;refine JLlw_ aJ (fun L s aa=>∃(ab:LH),Jm Z H ab [] [(0,pV k1 o2),(7,.int .u16 ((ai:Nat):Int)),(24,sV aj O ak),(25,iV ((O).length:Int)),(26,iV aa)] L s) ⟨Z,rfl,rfl,lR_,hN24⟩ ?_;rintro _ _ aa ⟨ab,rfl,rfl,K,ap⟩ aq ⟨bq,V⟩ aO;have ar:=V;unfold Ot at ar;refine zg 5 rfl ?_;refine JLfi_ ar (fun c53 aP=>?_) (fun c53 hD104=>?_)
  ·obtain⟨br,aQ,aR⟩:=bs aP;refine zg 5 rfl ?_;refine Bp (aI.moq K) aQ rfl rfl rfl rfl rfl underlying28 q_szOf_oftype3 ?_;rintro bu bv _ rfl aS;refine Aw 0 aS q_aggT_ofunderlying3 rfl rfl rfl ?_;obtain⟨bw,aT,aU⟩:=bs aR;refine zg 6 rfl ?_;refine JScz_ (JJ aT) rfl rfl II ap fun au Y av=>?_;obtain⟨aV,aW,aX⟩:=bs aU;refine zg 1 rfl ?_;refine JLjoinR_ [] (fun L s=>∃(ac:LH),Jm au H ac [] [(0,pV k1 o2),(7,.int .u16 ((ai:Nat):Int)),(24,sV aj O ak),(25,iV ((O).length:Int)),(26,iV aa),(46,.bool aV)] L s) ?_ ?_
   ·rintro _ _ ⟨ac,rfl,rfl,aw,ay⟩;refine JL.done ?_;refine JLfj_ aX (fun aY aZ=>?_) (fun aY a0=>?_)
    ·refine zg 4 rfl ?_;obtain rfl:=oi aZ;obtain rfl:=aq _ V;have a2:=elim_inl am;obtain rfl:=oi a2;refine Af func109 rfl rfl ?_;exact ah _ _ _ _ (((U.trq K).trq Y).trq aw) rfl ⟨rfl,rfl⟩ ay
    ·obtain⟨x78,hx78,hD79⟩:=bs a0;refine zg 3 rfl ?_;refine JLaC_ hx78 rfl rfl rfl ?_;refine zg 2 rfl ?_;obtain rfl:=oi hD79;exact JLkw_ (aO _ _ x78 ⟨ac,rfl,rfl,((K.trq Y).trq aw),ay⟩ V) rfl
   ·intro az;refine JLgj_ 33 aW (fun a3 a5=>?_) (fun a3 a6=>?_)
    ·refine zg 13 rfl ?_;obtain rfl:=oi a5;exact JLkw_ (az _ _ ⟨au,rfl,rfl,lR_,av⟩) rfl
    ·refine zg 3 rfl ?_;refine Ar underlying141 q_szOf_oftype24 rfl rfl rfl ?_;refine Ar underlying24 A6 rfl rfl rfl ?_;refine Aw 1 (h3.moq ((U.trq K).trq Y)) Br rfl rfl rfl ?_;obtain⟨bx,a8,a9⟩:=bs a6;refine zg 1 rfl ?_;refine Bp (h9.moq ((U.trq K).trq Y)) a8 rfl rfl rfl rfl rfl underlying22 Bg ?_;rintro bz bA _ ⟨bB,bC,rfl,ba⟩ bb;refine Aw 0 bb BL rfl rfl rfl ?_;obtain⟨bD,bc,bd⟩:=bs a9;refine JScz_ (Hg ba bc) rfl rfl GU av fun bf bg bh=>?_;obtain⟨bi,bj,bk⟩:=bs bd;refine Ae (v:= .int .u16 ((bi:Nat):Int)) rfl (fun ρ h=>Ln (h _ _ rfl) (h _ _ rfl) bj) ?_;refine zg 2 rfl ?_;obtain rfl:=oi bk;exact JLkw_ (az _ _ ⟨bf,rfl,rfl,bg,bh⟩) rfl
  ·refine JL.exit rfl ?_;obtain rfl:=oi hD104;have bl:al=(Sum.inr ()):=(aq _ V).symm;exact JLkw_ (aN _ _ ⟨(),ab,bl,rfl,rfl,K,ap⟩) rfl
end Pal
namespace Pal
open Go Go.Conc Go.Proofs
open Go.Proofs.Tryz
variable {J:Judge Tryz.prog}{E:LH}
def OI(fuel:Nat)(p0:List Int)(p1:Int)(K:Int):Option (AH (Int) ((Int)⊕(Unit))):= if K<((p0).length:Int) then((ix p0 (K)).bind fun x31=> if p1=x31 then(some (.done (Sum.inl K))) else((Ac (K+1)).bind fun O=> some (.more O))) else(some (.done (Sum.inr ())))
def f201(fuel:Nat)(p0:List Int)(p1:Int):Option (Int):= Option.bind (iter (OI fuel p0 p1) fuel 0) fun K=> Sum.elim (fun r=>some r) (fun O=> some (-1)) K
theorem UU{a1:OAd}{c2:Nat}{p0:List Int}{p1:Int}(h3:LsR rI E a1 c2 (p0)){fuel:Nat}{r:Int}(hD:f201 fuel p0 p1=some r):Al J 201 [sV a1 p0 c2,iV p1] E [] (fun w E' B'=>w=iV r∧B'= []):=by
 refine Av func201 rfl rfl fun Q aC cs H hN U=>?_;unfold f201 at hD;refine zg 8 rfl ?_;refine JLln_ underlying28 rfl rfl rfl ?_;obtain⟨V,ag,Y⟩:=bs hD;refine zg 2 rfl ?_;refine JLjoin_ (fun L s=>∃(Z:Unit) (aa:LH),V=Sum.inr Z∧Jm E H aa [] [] L s) ?_ ?_
 ·rintro _ _ ⟨Z,aa,rfl,rfl,rfl,ah,ai⟩;have aj:=elim_inr Y;refine zg 4 rfl ?_;obtain rfl:=oi aj;refine Af func201 rfl rfl ?_;exact U _ _ _ _ ah rfl ⟨rfl,rfl⟩ ai
 ·intro ak;refine JL.block ?_;refine JLlw_ ag (fun L s ab=>∃(E21:LH),Jm E H E21 [] [(0,sV a1 p0 c2),(1,iV p1),(7,iV ((p0).length:Int)),(8,iV ab)] L s) ⟨E,rfl,rfl,lR_,hN⟩ ?_;rintro _ _ ab ⟨E21,rfl,rfl,hle22,O⟩ ac ⟨aD,K⟩ al;have ae:=K;unfold OI at ae;refine zg 5 rfl ?_;refine JLfi_ ae (fun am an=>?_) (fun am ao=>?_)
  ·obtain⟨x31,ap,aq⟩:=bs an;refine zg 13 rfl ?_;refine Bp (h3.moq hle22) ap rfl rfl rfl rfl rfl underlying28 q_szOf_oftype3 ?_;rintro aE aF _ rfl ar;refine Aw 0 ar q_aggT_ofunderlying3 rfl rfl rfl ?_;refine zg 2 rfl ?_;refine JLfi_ aq (fun au av=>?_) (fun au aw=>?_)
   ·refine zg 5 rfl ?_;obtain rfl:=oi av;obtain rfl:=ac _ K;have hD40:=elim_inl Y;obtain rfl:=oi hD40;refine Af func201 rfl rfl ?_;exact U _ _ _ _ hle22 rfl ⟨rfl,rfl⟩ O
   ·obtain⟨ay,az,aA⟩:=bs aw;refine zg 3 rfl ?_;refine JLaC_ az rfl rfl rfl ?_;refine zg 2 rfl ?_;obtain rfl:=oi aA;exact JLkw_ (al _ _ ay ⟨E21,rfl,rfl,hle22,O⟩ K) rfl
  ·refine JL.exit rfl ?_;obtain rfl:=oi ao;have aB:V=(Sum.inr ()):=(ac _ K).symm;exact JLkw_ (ak _ _ ⟨(),E21,aB,rfl,rfl,hle22,O⟩) rfl
def f199(fuel:Nat)(p0:List Int)(p1:Int):Option (Bool):= (f201 fuel p0 p1).bind fun K=> some (decide (0≤K))
theorem UN{a1:OAd}{c2:Nat}{p0:List Int}{p1:Int}(h3:LsR rI E a1 c2 (p0)){fuel:Nat}{r:Bool}(hD:f199 fuel p0 p1=some r):Al J 199 [sV a1 p0 c2,iV p1] E [] (fun w E' B'=>w= .bool r∧B'= []):=by
 refine Av func199 rfl rfl fun Q Z cs H hN K=>?_;unfold f199 at hD;obtain⟨aa,O,U⟩:=bs hD;refine zg 8 rfl ?_;refine JScz_ (UU h3 O) rfl rfl (body_of func201 rfl) hN fun ab V Y=>?_;refine zg 3 rfl ?_;obtain rfl:=oi U;refine Af func199 rfl rfl ?_;exact K _ _ _ _ V rfl ⟨rfl,rfl⟩ Y
def f192(fuel:Nat)(p0:A1)(p1:Int)(p2:Int):Option ((Option (Int×Option Int))):= if p1=p2 then(some (some (p1,none))) else((ix p0.2.1 (p1)).bind fun K=> (f199 fuel K p2).bind fun O=> if O=true then(some (some (p1,some p2))) else(some none))
theorem UT{k1:Nat}{o2:Nat}{a4:OAd}{c5:Nat}{a7:OAd}{c8:Nat}{O:List Value}{p0:A1}{p1:Int}{p2:Int}(h3:At E k1 o2 (([sV a4 p0.1 c5,sV a7 p0.2.1 c8]:List Value)++O))(h6:LsR (rL rI) E a4 c5 (p0.1))(h9:LsR (rL rI) E a7 c8 (p0.2.1))(am:(rA 13 (rN .u16)).r E O (p0.2.2)){fuel:Nat}{r:(Option (Int×Option Int))}(hD:f192 fuel p0 p1 p2=some r):Al J 192 [pV k1 o2,iV p1,iV p2] E [] (fun w E' B'=>∃(U:Value),w=U∧B'= []∧Mw 257 259 U (r)):=by
 refine Av func192 rfl rfl fun Q an cs H hN K=>?_;unfold f192 at hD;refine zg 13 rfl ?_;refine JLfi_ hD (fun Z aa=>?_) (fun Z ab=>?_)
 ·refine zg 3 rfl ?_;refine Ae (v:= .agg #[iV p1]) rfl (fun ρ h=>BJ [(0,1)] h (BY type257) underlying257 ⟨rfl,AL type3,trivial⟩ rfl rfl) ?_;refine Ae (v:= .iface 257 (.agg #[iV p1])) rfl (fun ρ h=>C9 underlying257 (fun _ h=>by cases h) (h _ _ rfl)) ?_;refine zg 2 rfl ?_;obtain rfl:=oi aa;refine Af func192 rfl rfl ?_;exact K _ _ _ _ lR_ rfl ⟨.iface 257 (.agg #[iV p1]),rfl,rfl,rfl⟩ hN
 ·refine zg 4 rfl ?_;refine Ar underlying141 q_szOf_oftype24 rfl rfl rfl ?_;refine Ar underlying24 A6 rfl rfl rfl ?_;refine Aw 1 h3 Br rfl rfl rfl ?_;obtain⟨ao,ac,ae⟩:=bs ab;refine zg 1 rfl ?_;refine Bp h9 ac rfl rfl rfl rfl rfl underlying22 Bg ?_;rintro ap aq _ ⟨ar,au,rfl,ag⟩ h23;refine Aw 0 h23 BL rfl rfl rfl ?_;obtain⟨av,ah,ai⟩:=bs ae;refine zg 1 rfl ?_;refine JScz_ (UN ag ah) rfl rfl (body_of func199 rfl) hN fun aw V Y=>?_;refine zg 2 rfl ?_;refine JLfj_ ai (fun aj ak=>?_) (fun aj al=>?_)
  ·refine zg 4 rfl ?_;refine Ae (v:= .agg #[iV p1,iV p2]) rfl (fun ρ h=>BJ [(0,1),(1,1)] h (BY type259) underlying259 ⟨rfl,AL type3,rfl,AL type3,trivial⟩ rfl rfl) ?_;refine Ae (v:= .iface 259 (.agg #[iV p1,iV p2])) rfl (fun ρ h=>C9 underlying259 (fun _ h=>by cases h) (h _ _ rfl)) ?_;refine zg 2 rfl ?_;obtain rfl:=oi ak;refine Af func192 rfl rfl ?_;exact K _ _ _ _ V rfl ⟨.iface 259 (.agg #[iV p1,iV p2]),rfl,rfl,rfl⟩ Y
  ·refine zg 6 rfl ?_;obtain rfl:=oi al;refine Af func192 rfl rfl ?_;exact K _ _ _ _ V rfl ⟨.nilIface,rfl,rfl,rfl⟩ Y
end Pal
namespace Pal
open Go Go.Conc Go.Proofs
open Go.Proofs.Tryz
variable {J:Judge Tryz.prog}{E:LH}
def LY(fuel:Nat)(p0:(A1)×(LKL)×Bb):Option (Int):= if((p0.2.1).length:Int)=0 then(some 0) else((Ac (((p0.2.1).length:Int) - 1)).bind fun K=> (ix p0.2.1 (K)).bind fun O=> some O.1)
theorem T0{U:Nat}{k1:Nat}{o2:Nat}{a4:OAd}{c5:Nat}{a7:OAd}{c8:Nat}{Z:List Value}{K:OAd}{O:Nat}{V:OAd}{Y:Nat}{p0:(A1)×(LKL)×Bb}(h3:At E k1 o2 (([sV a4 p0.1.1 c5,sV a7 p0.1.2.1 c8]:List Value)++Z))(h6:LsR (rL rI) E a4 c5 (p0.1.1))(h9:LsR (rL rI) E a7 c8 (p0.1.2.1))(am:(rA 13 (rN .u16)).r E Z (p0.1.2.2))(ab:LsR rLK E K O (p0.2.1))(h17:LsR rI E V Y (p0.2.2.2.1)){fuel:Nat}{r:Int}(hD:LY fuel p0=some r):Al J 154 [pV U 0] E [(U,.cells #[pV k1 o2,sV K p0.2.1 O,iV p0.2.2.1,sV V p0.2.2.2.1 Y,.int .u16 ((p0.2.2.2.2:Nat):Int)] 175 (0,0))] (fun w E' B'=>w=iV r∧B'= [(U,.cells #[pV k1 o2,sV K p0.2.1 O,iV p0.2.2.1,sV V p0.2.2.2.1 Y,.int .u16 ((p0.2.2.2.2:Nat):Int)] 175 (0,0))]):=by
 refine Av func154 rfl rfl fun Q an cs H hN aa=>?_;unfold LY at hD;refine zg 9 rfl ?_;refine Ar underlying175 q_szOf_oftype25 rfl rfl rfl ?_;refine Ae (v:= sV K p0.2.1 O) rfl (fun ρ h=>Yl.load q_aggT_ofunderlying25 (h _ _ rfl) (Cn (j:=0) (off:=1) hN rfl rfl)) ?_;refine JLln_ underlying25 rfl rfl rfl ?_;refine zg 2 rfl ?_;refine JLfi_ hD (fun ac ae=>?_) (fun ac ag=>?_)
 ·refine zg 4 rfl ?_;obtain rfl:=oi ae;refine Af func154 rfl rfl ?_;exact aa _ _ _ _ lR_ rfl ⟨rfl,rfl⟩ hN
 ·refine zg 2 rfl ?_;refine BT 10 [U] ⟨⟨0,_,rfl⟩,trivial⟩ hN fun ht=>?_;refine JGms_ ht rfl [0,1] rfl ?_;refine Bf 2 ht underlying175 q_szOf_oftype25 rfl rfl rfl rfl ?_;refine JGV_ (v:= sV K p0.2.1 O) 3 ht rfl rfl (fun ρ h s' hs=>Yl.load q_aggT_ofunderlying25 (h _ _ rfl) (AX (o:=1) 0 hN rfl (by simp [Ak]) hs rfl)) ?_;refine JGms_ ht rfl [4,5] rfl ?_;refine Bf 6 ht underlying175 q_szOf_oftype25 rfl rfl rfl rfl ?_;refine JGV_ (v:= sV K p0.2.1 O) 7 ht rfl rfl (fun ρ h s' hs=>Yl.load q_aggT_ofunderlying25 (h _ _ rfl) (AX (o:=1) 0 hN rfl (by simp [Ak]) hs rfl)) ?_;refine JGV_ 8 ht rfl rfl (fun ρ h s' hs=>Yl.len rfl underlying25 (h _ _ rfl)) ?_;obtain⟨ao,ah,ai⟩:=bs ag;refine JGV_ 9 ht rfl rfl (fun ρ h s' hs=>BC (h _ _ rfl) (h _ _ rfl) ah) ?_;refine JALlf_ [10,11,12,13] ?_;obtain⟨ap,aj,ak⟩:=bs ai;refine Bp ab aj rfl rfl rfl rfl rfl underlying25 q_szOf_oftype27 ?_;rintro aq ar _ ⟨_,_,rfl,rfl,rfl⟩ al;refine Ar underlying27 q_szOf_oftype3 rfl rfl rfl ?_;refine Aw 0 al q_aggT_ofunderlying3 rfl rfl rfl ?_;refine zg 2 rfl ?_;obtain rfl:=oi ak;refine Af func154 rfl rfl ?_;exact aa _ _ _ _ lR_ rfl ⟨rfl,rfl⟩ hN
def N1(fuel:Nat)(p0:(A1)×(LKL)×Bb)(p1:Int)(p2:Int)(K:Nat×Int):Option (AH (Nat×Int) ((Nat×Bool)⊕(Nat))):= if K.2<((p0.2.1).length:Int) then(Option.bind ((ix p0.2.1 (K.2)).bind fun O=> if O.1≠p1 then(some (Sum.inr K.1)) else((f192 fuel p0.1 p2 O.2).bind fun U=> Option.bind (if Kp U=true then(some (Sum.inr K.1)) else(if Ks U=true then((f90 fuel K.1 K.2).bind fun V=> some (Sum.inr V)) else(some (Sum.inl (0,false))))) fun Y=>Sum.elim (fun r=>some (Sum.inl r)) (fun Z=> some (Sum.inr Z)) Y)) fun aa=>Sum.elim (fun r=>some (.done (Sum.inl r))) (fun ab=> (Ac (K.2+1)).bind fun ac=> some (.more (ab,ac))) aa) else(some (.done (Sum.inr K.1)))
def L6(fuel:Nat)(p0:(A1)×(LKL)×Bb)(p1:Int)(p2:Int):Option (Nat×Bool):= Option.bind (iter (N1 fuel p0 p1 p2) fuel (0,0)) fun K=> Sum.elim (fun r=>some r) (fun O=> some (O,true)) K
theorem Tl{K:Nat}{k1:Nat}{o2:Nat}{a4:OAd}{c5:Nat}{a7:OAd}{c8:Nat}{ap:List Value}{O:OAd}{U:Nat}{Z:OAd}{aa:Nat}{p0:(A1)×(LKL)×Bb}{p1:Int}{p2:Int}(h3:At E k1 o2 (([sV a4 p0.1.1 c5,sV a7 p0.1.2.1 c8]:List Value)++ap))(h6:LsR (rL rI) E a4 c5 (p0.1.1))(h9:LsR (rL rI) E a7 c8 (p0.1.2.1))(aG:(rA 13 (rN .u16)).r E ap (p0.1.2.2))(aH:LsR rLK E O U (p0.2.1))(h17:LsR rI E Z aa (p0.2.2.2.1)){fuel:Nat}{r:Nat×Bool}(hD:L6 fuel p0 p1 p2=some r):Al J 174 [pV K 0,iV p1,iV p2] E [(K,.cells #[pV k1 o2,sV O p0.2.1 U,iV p0.2.2.1,sV Z p0.2.2.2.1 aa,.int .u16 ((p0.2.2.2.2:Nat):Int)] 175 (0,0))] (fun w E' B'=>w= .tuple #[.int .u16 ((r.1:Nat):Int),.bool r.2]∧B'= [(K,.cells #[pV k1 o2,sV O p0.2.1 U,iV p0.2.2.1,sV Z p0.2.2.2.1 aa,.int .u16 ((p0.2.2.2.2:Nat):Int)] 175 (0,0))]):=by
 refine Av func174 rfl rfl fun Q bA cs H hN aq=>?_;unfold L6 at hD;refine zg 11 rfl ?_;refine JL.label ?_;refine zg 5 rfl ?_;refine Ar underlying175 q_szOf_oftype25 rfl rfl rfl ?_;refine Ae (v:= sV O p0.2.1 U) rfl (fun ρ h=>Yl.load q_aggT_ofunderlying25 (h _ _ rfl) (Cn (j:=0) (off:=1) hN rfl rfl)) ?_;refine JLln_ underlying25 rfl rfl rfl ?_;obtain⟨ar,aI,hD26⟩:=bs hD;refine zg 2 rfl ?_;refine JLjoin_ (fun L s=>∃(ak:Nat) (au:LH),ar=Sum.inr ak∧Jm E H au [[(K,.cells #[pV k1 o2,sV O p0.2.1 U,iV p0.2.2.1,sV Z p0.2.2.2.1 aa,.int .u16 ((p0.2.2.2.2:Nat):Int)] 175 (0,0))]] [(8,.int .u16 ((ak:Nat):Int))] L s) ?_ ?_
 ·rintro _ _ ⟨ak,au,rfl,rfl,rfl,aJ,aK⟩;have aL:=elim_inr hD26;refine zg 6 rfl ?_;obtain rfl:=oi aL;refine Af func174 rfl rfl ?_;exact aq _ _ _ _ aJ rfl ⟨rfl,rfl⟩ aK
 ·intro aM;refine JL.block ?_;refine JLlw_ aI (fun L s V=>∃(ae:LH),Jm E H ae [[(K,.cells #[pV k1 o2,sV O p0.2.1 U,iV p0.2.2.1,sV Z p0.2.2.2.1 aa,.int .u16 ((p0.2.2.2.2:Nat):Int)] 175 (0,0))]] [(0,pV K 0),(1,iV p1),(2,iV p2),(8,.int .u16 ((V.1:Nat):Int)),(14,sV O p0.2.1 U),(15,iV ((p0.2.1).length:Int)),(16,iV V.2)] L s) ⟨E,rfl,rfl,lR_,hN⟩ ?_;rintro _ _ V ⟨ae,rfl,rfl,Y,av⟩ aw ⟨bB,ag⟩ aN;have ay:=ag;unfold N1 at ay;refine zg 5 rfl ?_;refine JLfi_ ay (fun aO aP=>?_) (fun aO aQ=>?_)
  ·obtain⟨aR,aS,hD47⟩:=bs aP;refine zg 2 rfl ?_;refine JLjoin_ (fun L s=>∃(ah:Nat) (al:LH),aR=Sum.inr ah∧Jm ae H al [[(K,.cells #[pV k1 o2,sV O p0.2.1 U,iV p0.2.2.1,sV Z p0.2.2.2.1 aa,.int .u16 ((p0.2.2.2.2:Nat):Int)] 175 (0,0))]] [(0,pV K 0),(1,iV p1),(2,iV p2),(8,.int .u16 ((ah:Nat):Int)),(14,sV O p0.2.1 U),(15,iV ((p0.2.1).length:Int)),(16,iV V.2)] L s) ?_ ?_
   ·rintro _ _ ⟨ah,al,rfl,rfl,rfl,aT,aU⟩;have aV:=elim_inr hD47;obtain⟨aW,aX,aY⟩:=bs aV;refine JL.region ?_;refine JLaC_ aX rfl rfl rfl ?_;refine zg 2 rfl ?_;obtain rfl:=oi aY;exact JLkw_ (aN _ _ (ah,aW) ⟨al,rfl,rfl,(Y.trq aT),aU⟩ ag) rfl
   ·intro az;obtain⟨am,aZ,a0⟩:=bs aS;refine zg 4 rfl ?_;refine Bp (aH.moq Y) aZ rfl rfl rfl rfl rfl underlying25 q_szOf_oftype27 ?_;rintro bC bD _ ⟨_,_,rfl,rfl,rfl⟩ a2;refine JLldN_ a2 q_aggT_ofunderlying27 q_szOf_oftype27 rfl rfl ?_;refine JS.alloc rfl rfl rfl av CK fun bE a3=>?_;refine zg 1 rfl ?_;refine JSst_ (v:= .agg #[iV am.1,iV am.2]) (off:=0) 1 a3 q_szOf_oftype27 rfl rfl rfl rfl fun a5=>?_;refine JSfreezeB_ 1 a5 rfl fun a6 ab aA ac=>?_;refine zg 4 rfl ?_;refine Ar underlying27 q_szOf_oftype3 rfl rfl rfl ?_;refine Aw 0 aA q_aggT_ofunderlying3 rfl rfl rfl ?_;refine zg 3 rfl ?_;refine JLfi_ a0 (fun a8 a9=>?_) (fun a8 ba=>?_)
    ·refine JL.exit rfl ?_;exact JLkw_ (az _ _ ⟨V.1,a6,(Option.some.inj a9).symm,rfl,rfl,ab,ac⟩) rfl
    ·refine zg 2 rfl ?_;refine BT 7 [K] ⟨⟨0,_,rfl⟩,trivial⟩ ac fun ht=>?_;refine JGms_ ht rfl [0,1] rfl ?_;refine Bf 2 ht underlying175 KT rfl rfl rfl rfl ?_;refine JGV_ (v:= pV k1 o2) 3 ht rfl rfl (fun ρ h s' hs=>Yl.load IF (h _ _ rfl) (AX (o:=0) 0 ac rfl (by simp [Ak]) hs rfl)) ?_;refine JGmv_ 4 ht rfl rfl ?_;refine Bf 5 ht underlying27 q_szOf_oftype3 rfl rfl rfl rfl ?_;refine JGV_ (v:=iV am.2) 6 ht rfl rfl (fun ρ h s' hs=>Yl.load q_aggT_ofunderlying3 (h _ _ rfl) (At.CF (j:=1) aA (CE ac hs ⟨⟨0,_,rfl⟩,trivial⟩) rfl)) ?_;refine JALlf_ [7] ?_;obtain⟨ai,bb,bc⟩:=bs ba;refine JScl_ (UT (h3.moq (Y.trq ab)) (h6.moq (Y.trq ab)) (h9.moq (Y.trq ab)) (Rp.moq _ (Y.trq ab) aG) bb) rfl rfl (body_of func192 rfl) ac ?_;rintro _ aB _ aC ⟨bF,rfl,rfl,aD⟩ an;refine zg 4 rfl ?_;refine Ae (v:= .tuple #[(Ms ai),.bool (Kp ai)]) rfl (fun ρ h=>QF (t2:=259) underlying257 (BY type257) (by decide) aD (h _ _ rfl)) ?_;obtain⟨bd,bf,aE⟩:=bs bc;refine zg 3 rfl ?_;refine JLjoin_ (fun L s=>∃(aj:Nat) (ao:LH),bd=Sum.inr aj∧Jm aB H ao [[(K,.cells #[pV k1 o2,sV O p0.2.1 U,iV p0.2.2.1,sV Z p0.2.2.2.1 aa,.int .u16 ((p0.2.2.2.2:Nat):Int)] 175 (0,0))]] [(0,pV K 0),(1,iV p1),(2,iV p2),(8,.int .u16 ((aj:Nat):Int)),(14,sV O p0.2.1 U),(15,iV ((p0.2.1).length:Int)),(16,iV V.2)] L s) ?_ ?_
     ·rintro _ _ ⟨aj,ao,rfl,rfl,rfl,bg,bh⟩;have bi:=elim_inr aE;refine zg 2 rfl ?_;exact JLkw_ (az _ _ ⟨aj,ao,(Option.some.inj bi).symm,rfl,rfl,((ab.trq aC).trq bg),bh⟩) rfl
     ·intro aF;refine JLfj_ bf (fun bj bk=>?_) (fun bj bl=>?_)
      ·refine JL.skip ?_;exact JLkw_ (aF _ _ ⟨V.1,aB,(Option.some.inj bk).symm,rfl,rfl,lR_,an⟩) rfl
      ·refine zg 2 rfl ?_;refine Ae (v:= .tuple #[(Mr ai),.bool (Ks ai)]) rfl (fun ρ h=>Q1 (t1:=257) underlying259 (BY type259) (by decide) aD (h _ _ rfl)) ?_;refine zg 3 rfl ?_;refine JLfj_ bl (fun bm bn=>?_) (fun bm bo=>?_)
       ·obtain⟨bp,bq,br⟩:=bs bn;refine zg 3 rfl ?_;refine JScz_ (Kc bq) rfl rfl IN an fun bu bv hN101=>?_;refine zg 2 rfl ?_;exact JLkw_ (aF _ _ ⟨bp,bu,(Option.some.inj br).symm,rfl,rfl,bv,hN101⟩) rfl
       ·refine zg 5 rfl ?_;obtain rfl:=oi bo;have hD104:=elim_inl aE;obtain rfl:=oi hD104;have bw:=elim_inl hD47;obtain rfl:=oi bw;obtain rfl:=aw _ ag;have bx:=elim_inl hD26;obtain rfl:=oi bx;refine Af func174 rfl rfl ?_;exact aq _ _ _ _ ((Y.trq ab).trq aC) rfl ⟨rfl,rfl⟩ an
  ·refine JL.exit rfl ?_;obtain rfl:=oi aQ;have bz:ar=(Sum.inr V.1):=(aw _ ag).symm;exact JLkw_ (aM _ _ ⟨V.1,ae,bz,rfl,rfl,Y,av⟩) rfl
end Pal
namespace Pal
open Go Go.Conc Go.Proofs
open Go.Proofs.Tryz
variable {J:Judge Tryz.prog}{E:LH}
def Ka(fuel:Nat)(p0:List Int):Option ((List Int)):= (Cj ([]:List Int) p0).bind fun K=> some K
theorem Tq{ad:Addr}{c2:Nat}{p0:List Int}(U:LsR rI E (some ad) c2 p0){fuel:Nat}{r:(List Int)}(hD:Ka fuel p0=some r):Al J 175 [.slice (some ad) (p0).length c2] E [] (fun w E' B'=>∃(K:OAd) (O:Nat) (g0:Seg),w= sV K r O∧B'=g0∧OL 3 rI E' K O g0 (r)):=by
 refine Av func175 rfl rfl fun Q ai cs H hN V=>?_;unfold Ka at hD;refine zg 8 rfl ?_;refine Ae (v:= .bool false) rfl (fun ρ h=>IZ (a:=(some ad)) underlying28 (h _ _ rfl) (h _ _ rfl)) ?_;refine zg 5 rfl ?_;refine H8 (pp:=rI) rfl rfl rfl underlying28 q_szOf_oftype3 hN fun aj ak h3 Y=>?_;obtain⟨al,Z,aa⟩:=bs hD;refine zg 1 rfl ?_;refine H0 (pp:=rI) 1 Z rfl rfl rfl rfl rfl rfl rfl underlying28 underlying28 q_szOf_oftype3 (Bz type3) q_zeroOf_oftype3 rfl (by decide) (by decide) h3 U Y rfl fun ab ac ae ag ah=>?_;refine zg 2 rfl ?_;obtain rfl:=oi aa;refine Af func175 rfl rfl ?_;exact V _ _ _ _ lR_ rfl ⟨ab,ac,ae,rfl,(by first | rfl | simp | (simp [Value.cells])),ag⟩ ah
def PO(fuel:Nat)(p0:List Int):Option ((List Int)):= some ([])
theorem Tx{c2:Nat}{p0:List Int}(V:LsR rI E none c2 p0){fuel:Nat}{r:(List Int)}(hD:PO fuel p0=some r):Al J 175 [sV none p0 c2] E [] (fun w E' B'=>∃(K:OAd) (O:Nat) (g0:Seg),w= sV K r O∧B'=g0∧OL 3 rI E' K O g0 (r)):=by
 refine Av func175 rfl rfl fun Q Y cs H hN U=>?_;unfold PO at hD;refine zg 8 rfl ?_;refine Ae (v:= .bool true) rfl (fun ρ h=>IZ (a:=none) underlying28 (h _ _ rfl) (h _ _ rfl)) ?_;refine zg 6 rfl ?_;obtain rfl:=oi hD;refine Af func175 rfl rfl ?_;exact U _ _ _ _ lR_ rfl ⟨none,0,[],rfl,rfl,OL.nil⟩ hN
def f175(fuel:Nat)(p0:List Int):Option (List Int):=Ka fuel p0
theorem Pu{a1:OAd}{c2:Nat}{p0:List Int}(h3:LsR rI E a1 c2 p0){fuel:Nat}{r:List Int}(hD:f175 fuel p0=some r):Al J 175 [.slice a1 p0.length c2] E [] (fun w E' B'=>∃(K:OAd) (O:Nat) (g0:Seg),w= .slice K r.length O∧B'=g0∧OL 3 rI E' K O g0 r):=by
 cases a1 with
 | some ad=>exact Tq h3 hD
 | none=>
  have U:p0= []:=by
   rcases h3.2 with h | ⟨_,_,h,_⟩
   ·exact h.1
   ·cases h
  subst U;have V:r= []:=by
   have Y:Ka fuel []=some []:=rfl;unfold f175 at hD;rw [Y] at hD;exact(Option.some.inj hD).symm
  subst V;exact Tx (fuel:=fuel) h3 rfl
end Pal
namespace Pal
open Go Go.Conc Go.Proofs
open Go.Proofs.Tryz
def Hx(fuel:Nat)(le:Int)(all:List (Bb))(tr:(Bb))(O:Int):Option (Int×List (Bb)):=
 Option.bind (
  if((all).length:Int)=0 then(
   some true
  ) else(
   some (decide (O<le))
  )
 ) fun U=>
 Option.bind (
  if U=true then(
   some (O,[])
  ) else(
   some (le,all)
  )
 ) fun K=>
 Option.bind (
  if O=K.1 then(
   (Cj K.2 ([tr]:List (Bb))).bind fun x39=>
   some x39
  ) else(
   some K.2
  )
 ) fun V=>
 some (K.1,V)
theorem Uw{J:Judge Tryz.prog}{E:LH}{K:Nat}{age:Int}{le:Int}{a:OAd}{c:Nat}{g:Seg}{all:List (Bb)}(aC:OL 104 BP E a c g all){V:OAd}{Y:Nat}{tr:(Bb)}(h17:LsR rI E V Y tr.2.1){Z:Int}{fuel:Nat}{r:Int×List (Bb)}(hD:Hx fuel le all tr Z=some r):
  Al J 122 [pV K 1,.agg #[iV tr.1,.slice V tr.2.1.length Y,.int .u16 ((tr.2.2:Nat):Int)],iV Z] E ([(K,.cells #[iV age,iV le,.slice a all.length c] 133 (0,0))]++g) (fun w E' B'=>∃ao ap g',w= .tuple #[]∧B'= [(K,.cells #[iV age,iV r.1,.slice ao r.2.length ap] 133 (0,0))]++g'∧OL 104 BP E' ao ap g' r.2):=by
 refine Av func122 rfl rfl fun Q a6 cs H hN aD=>?_;refine Ca (S':= [[(K,.cells #[iV age,iV le,.slice a all.length c] 133 (0,0))],g]) (by simp) hN fun hN=>?_;unfold Hx at hD;refine zg 2 rfl ?_;refine JS.box (v:= .agg #[iV tr.1,sV V tr.2.1 Y,.int .u16 ((tr.2.2:Nat):Int)]) rfl rfl rfl hN rfl fun aq aE=>?_;refine JSfreezeB_ 2 aE rfl fun al am aF ae=>?_;refine zg 6 rfl ?_;refine Ar underlying97 BX rfl rfl rfl ?_;refine Ae (v:= sV a all c) rfl (fun ρ h=>Yl.load CY (h _ _ rfl) (Cn (j:=0) (off:=2) ae rfl rfl)) ?_;refine JLln_ underlying95 rfl rfl rfl ?_;obtain⟨aG,aH,aI⟩:=bs hD;refine zg 2 rfl ?_;refine JLjoinR_ [] (fun L s=>∃(aa:LH),Jm al H aa [[(K,.cells #[iV age,iV le,sV a all c] 133 (0,0))],g] [(0,pV K 1),(2,iV Z),(4,pV aq 0),(19,.bool aG)] L s) ?_ ?_
 ·rintro _ _ ⟨aa,rfl,rfl,ag,ar⟩;obtain⟨O,aJ,aK⟩:=bs aI;refine JL.done ?_;refine JLjoin_ (fun L s=>∃(U:LH) (ab:OAd) (ac:Nat) (ah:Seg),Jn aa H U [[(K,.cells #[iV age,iV O.1,sV ab O.2 ac] 133 (0,0))],ah] [(0,pV K 1),(2,iV Z),(4,pV aq 0)] L s (OL 104 BP U ab ac ah (O.2))) ?_ ?_
  ·rintro _ _ ⟨U,ab,ac,ah,rfl,rfl,an,hN18,au⟩;refine zg 5 rfl ?_;refine Ar underlying97 q_szOf_oftype3 rfl rfl rfl ?_;refine Ae (v:=iV O.1) rfl (fun ρ h=>Yl.load q_aggT_ofunderlying3 (h _ _ rfl) (Cn (j:=0) (off:=1) hN18 rfl rfl)) ?_;obtain⟨av,aL,hD26⟩:=bs aK;refine zg 2 rfl ?_;refine JLjoin_ (fun L s=>∃(E27:LH) (ai:OAd) (aj:Nat) (ak:Seg),Jn U H E27 [[(K,.cells #[iV age,iV O.1,sV ai av aj] 133 (0,0))],ak] [] L s (OL 104 BP E27 ai aj ak (av))) ?_ ?_
   ·rintro _ _ ⟨E27,ai,aj,ak,rfl,rfl,hle28,hN29,aM⟩;obtain rfl:=oi hD26;refine JL.fin (v:= .tuple #[]) rfl rfl (Bc.list func122 rfl (vs:= []) trivial) ?_;exact aD _ _ _ _ (((am.trq ag).trq an).trq hle28) rfl ⟨ai,aj,ak,rfl,by simp,aM⟩ hN29
   ·intro aw;refine JLfi_ aL (fun c37 hD38=>?_) (fun c37 aN=>?_)
    ·refine BT 8 [K] ⟨⟨0,_,rfl⟩,trivial⟩ hN18 fun ht=>?_;refine JGms_ ht rfl [0,1,2] rfl ?_;refine Bf 3 ht underlying97 BX rfl rfl rfl rfl ?_;refine JGV_ (v:= sV ab O.2 ac) 4 ht rfl rfl (fun ρ h s' hs=>Yl.load CY (h _ _ rfl) (AX (o:=2) 0 hN18 rfl (by simp [Ak]) hs rfl)) ?_;refine JGV_ 5 ht rfl rfl (fun ρ h s' hs=>A2 (vs:= [iV tr.1,sV V tr.2.1 Y,.int .u16 ((tr.2.2:Nat):Int)]) DO Bn (h _ _ rfl) (At.LS (aF.moq (ag.trq an)) (CE hN18 hs ⟨⟨0,_,rfl⟩,trivial⟩))) ?_;obtain⟨x39,hx39,hD40⟩:=bs hD38;refine JG.one (i:=6) rfl (by decide+kernel) ?_;refine Take.lit (pp:=BP) (jp:=0) [.agg #[iV tr.1,sV V tr.2.1 Y,.int .u16 ((tr.2.2:Nat):Int)]] ([tr]:List (Bb)) hN18 rfl rfl rfl rfl underlying95 Bn EC (by decide) rfl rfl rfl ⟨⟨_,_,rfl,rfl,⟨_,_,rfl,⟨_,_,rfl,(h17.moq ((am.trq ag).trq an))⟩,rfl⟩⟩,trivial⟩ fun a8 a9 aO aP=>?_;refine JG.one (i:=7) rfl (by decide+kernel) ?_;refine Take.app (pp:=BP) (jp:=0) 1 2 aP rfl hx39 rfl rfl rfl rfl rfl rfl rfl underlying95 underlying95 Bn (Bz type104) EC rfl (by decide) (by decide) au aO rfl rfl rfl rfl fun ay az ba aQ aR aS=>?_;refine JALlf_ [8,9,10] ?_;refine CZ 1 rfl aS fun aT=>?_;refine JS.drop 1 aT rfl fun aU=>?_;refine zg 1 rfl ?_;refine Ar underlying97 BX rfl rfl rfl ?_;refine JSst_ (v:= sV ay x39 az) (off:=2) 0 aU BX rfl rfl rfl rfl fun aV=>?_;refine JL.done ?_;refine JS.drop 2 aV rfl fun aW=>?_;obtain rfl:=oi hD40;exact JLkw_ (aw _ _ ⟨U,ay,az,aQ,rfl,rfl,lR_,aW,aR⟩) rfl
    ·refine JL.skip ?_;obtain rfl:=oi aN;exact JLkw_ (aw _ _ ⟨U,ab,ac,ah,rfl,rfl,lR_,hN18,au⟩) rfl
  ·intro aA;refine JLfj_ aJ (fun c62 aX=>?_) (fun c62 aY=>?_)
   ·refine zg 5 rfl ?_;refine Ar underlying97 q_szOf_oftype3 rfl rfl rfl ?_;refine JSst_ (v:=iV Z) (off:=1) 0 ar q_szOf_oftype3 rfl rfl rfl rfl fun aZ=>?_;refine zg 1 rfl ?_;refine Ar underlying97 BX rfl rfl rfl ?_;refine JSst_ (v:= .slice none 0 0) (off:=2) 0 aZ BX rfl rfl rfl rfl fun a0=>?_;refine JL.done ?_;refine JS.drop 1 a0 rfl fun a2=>?_;obtain rfl:=oi aX;exact JLkw_ (aA _ _ ⟨aa,none,0,[],rfl,rfl,lR_,a2,OL.nil⟩) rfl
   ·refine JL.skip ?_;obtain rfl:=oi aY;exact JLkw_ (aA _ _ ⟨aa,a,c,g,rfl,rfl,lR_,ar,(aC.moq (am.trq ag))⟩) rfl
 ·intro aB;refine C3 12 aH (fun c73 a3=>?_) (fun c73 a5=>?_)
  ·refine zg 7 rfl ?_;obtain rfl:=oi a3;exact JLkw_ (aB _ _ ⟨al,rfl,rfl,lR_,ae⟩) rfl
  ·refine zg 3 rfl ?_;refine Ar underlying97 q_szOf_oftype3 rfl rfl rfl ?_;refine Ae (v:=iV le) rfl (fun ρ h=>Yl.load q_aggT_ofunderlying3 (h _ _ rfl) (Cn (j:=0) (off:=1) ae rfl rfl)) ?_;refine zg 2 rfl ?_;obtain rfl:=oi a5;exact JLkw_ (aB _ _ ⟨al,rfl,rfl,lR_,ae⟩) rfl
theorem UB{J:Judge Tryz.prog}{E:LH}{K:Nat}{age:Int}{le:Int}{a:OAd}{c:Nat}{g:Seg}{all:List (Bb)}(aC:OL 104 BP E a c g all){V:OAd}{Y:Nat}{tr:(Bb)}(h17:LsR rI E V Y tr.2.1){Z:Int}{fuel:Nat}{r:Int×List (Bb)}(hD:Hx fuel le all tr Z=some r):
  Al J 122 [pV K 0,.agg #[iV tr.1,.slice V tr.2.1.length Y,.int .u16 ((tr.2.2:Nat):Int)],iV Z] E ([(K,.cells #[iV le,.slice a all.length c] 97 (0,0))]++g) (fun w E' B'=>∃ao ap g',w= .tuple #[]∧B'= [(K,.cells #[iV r.1,.slice ao r.2.length ap] 97 (0,0))]++g'∧OL 104 BP E' ao ap g' r.2):=by
 refine Av func122 rfl rfl fun Q a6 cs H hN aD=>?_;refine Ca (S':= [[(K,.cells #[iV le,.slice a all.length c] 97 (0,0))],g]) (by simp) hN fun hN=>?_;unfold Hx at hD;refine zg 2 rfl ?_;refine JS.box (v:= .agg #[iV tr.1,sV V tr.2.1 Y,.int .u16 ((tr.2.2:Nat):Int)]) rfl rfl rfl hN rfl fun aq aE=>?_;refine JSfreezeB_ 2 aE rfl fun al am aF ae=>?_;refine zg 6 rfl ?_;refine Ar underlying97 BX rfl rfl rfl ?_;refine Ae (v:= sV a all c) rfl (fun ρ h=>Yl.load CY (h _ _ rfl) (Cn (j:=0) (off:=1) ae rfl rfl)) ?_;refine JLln_ underlying95 rfl rfl rfl ?_;obtain⟨aG,aH,aI⟩:=bs hD;refine zg 2 rfl ?_;refine JLjoinR_ [] (fun L s=>∃(aa:LH),Jm al H aa [[(K,.cells #[iV le,sV a all c] 97 (0,0))],g] [(0,pV K 0),(2,iV Z),(4,pV aq 0),(19,.bool aG)] L s) ?_ ?_
 ·rintro _ _ ⟨aa,rfl,rfl,ag,ar⟩;obtain⟨O,aJ,aK⟩:=bs aI;refine JL.done ?_;refine JLjoin_ (fun L s=>∃(U:LH) (ab:OAd) (ac:Nat) (ah:Seg),Jn aa H U [[(K,.cells #[iV O.1,sV ab O.2 ac] 97 (0,0))],ah] [(0,pV K 0),(2,iV Z),(4,pV aq 0)] L s (OL 104 BP U ab ac ah (O.2))) ?_ ?_
  ·rintro _ _ ⟨U,ab,ac,ah,rfl,rfl,an,hN18,au⟩;refine zg 5 rfl ?_;refine Ar underlying97 q_szOf_oftype3 rfl rfl rfl ?_;refine Ae (v:=iV O.1) rfl (fun ρ h=>Yl.load q_aggT_ofunderlying3 (h _ _ rfl) (Cn (j:=0) (off:=0) hN18 rfl rfl)) ?_;obtain⟨av,aL,hD26⟩:=bs aK;refine zg 2 rfl ?_;refine JLjoin_ (fun L s=>∃(E27:LH) (ai:OAd) (aj:Nat) (ak:Seg),Jn U H E27 [[(K,.cells #[iV O.1,sV ai av aj] 97 (0,0))],ak] [] L s (OL 104 BP E27 ai aj ak (av))) ?_ ?_
   ·rintro _ _ ⟨E27,ai,aj,ak,rfl,rfl,hle28,hN29,aM⟩;obtain rfl:=oi hD26;refine JL.fin (v:= .tuple #[]) rfl rfl (Bc.list func122 rfl (vs:= []) trivial) ?_;exact aD _ _ _ _ (((am.trq ag).trq an).trq hle28) rfl ⟨ai,aj,ak,rfl,by simp,aM⟩ hN29
   ·intro aw;refine JLfi_ aL (fun c37 hD38=>?_) (fun c37 aN=>?_)
    ·refine BT 8 [K] ⟨⟨0,_,rfl⟩,trivial⟩ hN18 fun ht=>?_;refine JGms_ ht rfl [0,1,2] rfl ?_;refine Bf 3 ht underlying97 BX rfl rfl rfl rfl ?_;refine JGV_ (v:= sV ab O.2 ac) 4 ht rfl rfl (fun ρ h s' hs=>Yl.load CY (h _ _ rfl) (AX (o:=1) 0 hN18 rfl (by simp [Ak]) hs rfl)) ?_;refine JGV_ 5 ht rfl rfl (fun ρ h s' hs=>A2 (vs:= [iV tr.1,sV V tr.2.1 Y,.int .u16 ((tr.2.2:Nat):Int)]) DO Bn (h _ _ rfl) (At.LS (aF.moq (ag.trq an)) (CE hN18 hs ⟨⟨0,_,rfl⟩,trivial⟩))) ?_;obtain⟨x39,hx39,hD40⟩:=bs hD38;refine JG.one (i:=6) rfl (by decide+kernel) ?_;refine Take.lit (pp:=BP) (jp:=0) [.agg #[iV tr.1,sV V tr.2.1 Y,.int .u16 ((tr.2.2:Nat):Int)]] ([tr]:List (Bb)) hN18 rfl rfl rfl rfl underlying95 Bn EC (by decide) rfl rfl rfl ⟨⟨_,_,rfl,rfl,⟨_,_,rfl,⟨_,_,rfl,(h17.moq ((am.trq ag).trq an))⟩,rfl⟩⟩,trivial⟩ fun a8 a9 aO aP=>?_;refine JG.one (i:=7) rfl (by decide+kernel) ?_;refine Take.app (pp:=BP) (jp:=0) 1 2 aP rfl hx39 rfl rfl rfl rfl rfl rfl rfl underlying95 underlying95 Bn (Bz type104) EC rfl (by decide) (by decide) au aO rfl rfl rfl rfl fun ay az ba aQ aR aS=>?_;refine JALlf_ [8,9,10] ?_;refine CZ 1 rfl aS fun aT=>?_;refine JS.drop 1 aT rfl fun aU=>?_;refine zg 1 rfl ?_;refine Ar underlying97 BX rfl rfl rfl ?_;refine JSst_ (v:= sV ay x39 az) (off:=1) 0 aU BX rfl rfl rfl rfl fun aV=>?_;refine JL.done ?_;refine JS.drop 2 aV rfl fun aW=>?_;obtain rfl:=oi hD40;exact JLkw_ (aw _ _ ⟨U,ay,az,aQ,rfl,rfl,lR_,aW,aR⟩) rfl
    ·refine JL.skip ?_;obtain rfl:=oi aN;exact JLkw_ (aw _ _ ⟨U,ab,ac,ah,rfl,rfl,lR_,hN18,au⟩) rfl
  ·intro aA;refine JLfj_ aJ (fun c62 aX=>?_) (fun c62 aY=>?_)
   ·refine zg 5 rfl ?_;refine Ar underlying97 q_szOf_oftype3 rfl rfl rfl ?_;refine JSst_ (v:=iV Z) (off:=0) 0 ar q_szOf_oftype3 rfl rfl rfl rfl fun aZ=>?_;refine zg 1 rfl ?_;refine Ar underlying97 BX rfl rfl rfl ?_;refine JSst_ (v:= .slice none 0 0) (off:=1) 0 aZ BX rfl rfl rfl rfl fun a0=>?_;refine JL.done ?_;refine JS.drop 1 a0 rfl fun a2=>?_;obtain rfl:=oi aX;exact JLkw_ (aA _ _ ⟨aa,none,0,[],rfl,rfl,lR_,a2,OL.nil⟩) rfl
   ·refine JL.skip ?_;obtain rfl:=oi aY;exact JLkw_ (aA _ _ ⟨aa,a,c,g,rfl,rfl,lR_,ar,(aC.moq (am.trq ag))⟩) rfl
 ·intro aB;refine C3 12 aH (fun c73 a3=>?_) (fun c73 a5=>?_)
  ·refine zg 7 rfl ?_;obtain rfl:=oi a3;exact JLkw_ (aB _ _ ⟨al,rfl,rfl,lR_,ae⟩) rfl
  ·refine zg 3 rfl ?_;refine Ar underlying97 q_szOf_oftype3 rfl rfl rfl ?_;refine Ae (v:=iV le) rfl (fun ρ h=>Yl.load q_aggT_ofunderlying3 (h _ _ rfl) (Cn (j:=0) (off:=0) ae rfl rfl)) ?_;refine zg 2 rfl ?_;obtain rfl:=oi a5;exact JLkw_ (aB _ _ ⟨al,rfl,rfl,lR_,ae⟩) rfl
end Pal
namespace Pal
open Go Go.Conc Go.Proofs
open Go.Proofs.Tryz
def Mg(fuel:Nat)(O:A1)(U:LKL)(age:Int)(ms:List Int)(fl:Nat)(m:Int):Option (Option (List Int×Nat)):=
 (L6 fuel (O,U,age,ms,fl) ((ms).length:Int) m).bind fun K=>
 if(!K.2)=true then(
  some none
 ) else(
  (f175 fuel ms).bind fun V=>
  (Cj V ([m]:List Int)).bind fun Y=>
  (GR (fl) (K.1)).bind fun Z=>
  some (some (Y,Z))
 )
theorem VF{J:Judge Tryz.prog}{A:Type}{I:A→LH→Seg→Prop}(aX:∀x E E' X,Le E E'→I x E X→I x E' X){E:LH}{K k1 o2:Nat}{a4 a7 U Y:OAd}{c5 c8 V Z:Nat}{aN:List Value}{aj:A1}{O:LKL}{age:Int}{ms:List Int}{fl:Nat}(h3:At E k1 o2 (([sV a4 aj.1 c5,sV a7 aj.2.1 c8]:List Value)++aN))(h6:LsR (rL rI) E a4 c5 (aj.1))(h9:LsR (rL rI) E a7 c8 (aj.2.1))(aY:(rA 13 (rN .u16)).r E aN (aj.2.2))(aZ:LsR rLK E U V O)(h17:LsR rI E Y Z ms){aO:Value}{X:Seg}{acc acc':A}(a0:I acc E X){m:Int}{fuel:Nat}{r:Option (List Int×Nat)}(hD:Mg fuel aj O age ms fl m=some r)
  (a2:r=none→acc'=acc)
  (aP:∀q,r=some q→∀E' a c,Le E E'→LsR rI E' a c q.1→C7 J aO [] E' ([(K,.cells #[pV k1 o2,.slice U O.length V,iV age,.slice a q.1.length c,.int .u16 ((q.2:Nat):Int)] 175 (0,0))]++X) (fun w a3 a5=>∃an ao ap ac,w= .bool true∧a5= [(K,.cells #[pV k1 o2,.slice U O.length V,an,ao,ap] 175 (0,0))]++ac∧I acc' a3 ac)):
  Al J 155 [pV K 0,iV m,aO] E ([(K,.cells #[pV k1 o2,.slice U O.length V,iV age,.slice Y ms.length Z,.int .u16 ((fl:Nat):Int)] 175 (0,0))]++X) (fun w E' B'=>∃ac,w= .bool true∧B'= [(K,.cells #[pV k1 o2,.slice U O.length V,iV age,.slice Y ms.length Z,.int .u16 ((fl:Nat):Int)] 175 (0,0))]++ac∧I acc' E' ac):=by
 refine Av func155 rfl rfl fun Q aQ cs H hN az=>?_;refine Ca (S':= [[(K,.cells #[pV k1 o2,.slice U O.length V,iV age,.slice Y ms.length Z,.int .u16 ((fl:Nat):Int)] 175 (0,0))],X]) (by simp) hN fun hN=>?_;unfold Mg at hD;refine zg 2 rfl ?_;refine JS.box (v:= pV K 0) rfl rfl rfl hN rfl fun ak a6=>?_;refine JSfreezeB_ 2 a6 rfl fun bR aa ag aq=>?_;refine zg 3 rfl ?_;refine BT 13 [K] ⟨⟨0,_,rfl⟩,trivial⟩ aq fun ht=>?_;refine JGV_ (v:= pV K 0) 0 ht rfl rfl (fun ρ h s' hs=>Yl.load Dz (h _ _ rfl) (At.CF (j:=0) ag (CE aq hs ⟨⟨0,_,rfl⟩,trivial⟩) rfl)) ?_;refine JGV_ (v:= pV K 0) 1 ht rfl rfl (fun ρ h s' hs=>Yl.load Dz (h _ _ rfl) (At.CF (j:=0) ag (CE aq hs ⟨⟨0,_,rfl⟩,trivial⟩) rfl)) ?_;refine JGmv_ 2 ht rfl rfl ?_;refine Bf 3 ht underlying175 Bn rfl rfl rfl rfl ?_;refine Bf 4 ht underlying104 Bg rfl rfl rfl rfl ?_;refine JGV_ (v:= sV Y ms Z) 5 ht rfl rfl (fun ρ h s' hs=>Yl.load BL (h _ _ rfl) (AX (o:=3) 0 aq rfl (by simp [Ak]) hs rfl)) ?_;refine JGV_ 6 ht rfl rfl (fun ρ h s' hs=>Yl.len rfl underlying28 (h _ _ rfl)) ?_;refine JGmv_ 7 ht rfl rfl ?_;obtain⟨a8,a9,ba⟩:=bs hD;refine Nr (i:=8) (vs:= [pV K 0,iV ((ms).length:Int),iV m]) 0 ⟨⟨0,_,rfl⟩,trivial⟩ (Tl (h3.moq aa) (h6.moq aa) (h9.moq aa) (Rp.moq _ aa aY) (aZ.moq aa) (h17.moq aa) a9) (fun _ _ _ h=>h.2) (by decide+kernel) rfl rfl rfl (body_of func174 rfl) rfl aq rfl ?_;rintro _ bS ab ⟨rfl,_⟩ aA;refine JGms_ ht rfl [9,10,11,12] rfl ?_;refine JALlf_ [13] ?_;refine zg 6 rfl ?_;refine Ae (v:= .bool (!a8.2)) rfl (fun ρ h=>Yl.not (h _ _ rfl)) ?_;refine JL.done ?_;refine JLfj_ ba (fun bb bc=>?_) (fun bb bd=>?_)
 ·refine zg 4 rfl ?_;obtain rfl:=oi bc;refine Af func155 rfl rfl ?_;exact az _ _ _ _ (aa.trq ab) rfl ⟨X,rfl,by simp,by rw [a2 rfl];exact aX _ _ _ _ (aa.trq ab) a0⟩ aA
 ·refine zg 3 rfl ?_;refine Aw 0 (ag.moq ab) Dz rfl rfl rfl ?_;refine zg 1 rfl ?_;refine Ar underlying175 Bn rfl rfl rfl ?_;refine Ae rfl (fun ρ h=>A2 (vs:= [iV age,sV Y ms Z,.int .u16 ((fl:Nat):Int)]) DO Bn (h _ _ rfl) (DT (off:=2) 0 aA rfl rfl)) ?_;refine JS.alloc rfl rfl rfl aA EC fun al bf=>?_;refine JSst_ (v:= .agg #[iV age,sV Y ms Z,.int .u16 ((fl:Nat):Int)]) (off:=0) 3 bf Bn rfl rfl rfl rfl fun hN18=>?_;refine JSfreezeB_ 3 hN18 rfl fun bT ae aB bg=>?_;refine Bm (S':= [[(K,.cells #[pV k1 o2,sV U O V,iV age,sV Y ms Z,.int .u16 ((fl:Nat):Int)] 175 (0,0))],X,[],[]]) rfl bg fun aR=>?_;refine zg 2 rfl ?_;refine JGd0_ 7 fun ht=>?_;refine JGld_ 0 ht 0 (ag.moq (ab.trq ae)) Dz rfl rfl rfl rfl ?_;refine Bf 1 ht underlying104 Bg rfl rfl rfl rfl ?_;refine JGld_ 2 ht 1 aB BL rfl rfl rfl rfl ?_;refine JGmv_ 4 ht rfl rfl ?_;obtain⟨bU,aS,bh⟩:=bs bd;obtain⟨ah,aT,aU⟩:=bs bh;refine JGtwo_ (i:=3) (j:=5) rfl (by decide+kernel) ?_ ?_
  ·refine Take.call0 (vs:= [sV Y ms Z]) aR (Pu (h17.moq ((aa.trq ab).trq ae)) aS) rfl rfl rfl (body_of func175 rfl) rfl ?_;rintro _ bV _ ar ⟨bW,bX,bY,rfl,rfl,bi⟩ bj;refine JG.one (i:=5) rfl (by decide+kernel) ?_;refine Take.Ko (pp:=rI) [iV m] ([m]:List Int) bj rfl rfl rfl underlying28 q_szOf_oftype3 q_zeroOf_oftype3 (by decide) rfl rfl rfl ⟨rfl,trivial⟩ fun bZ aV bk bl=>?_;refine JG.one (i:=6) rfl (by decide+kernel) ?_;refine Take.app0 (pp:=rI) 4 5 bl aT rfl rfl rfl rfl rfl rfl rfl underlying28 underlying28 q_szOf_oftype3 (Bz type3) q_zeroOf_oftype3 rfl (by decide) (by decide) bi bk rfl rfl fun aC aD b0 bm bn bo=>?_;refine JALlf_ [7,8,9,10] ?_;refine CZ 4 rfl bo fun bp=>?_;refine JS.drop 4 bp rfl fun bq=>?_;refine Bm (S':= [[(K,.cells #[pV k1 o2,sV U O V,iV age,sV Y ms Z,.int .u16 ((fl:Nat):Int)] 175 (0,0))],X,[],[],[],aV,bm]) rfl bq fun br=>?_;refine zg 1 rfl ?_;refine Ar underlying175 Bn rfl rfl rfl ?_;refine Ar underlying104 Bg rfl rfl rfl ?_;refine JSst_ (v:= sV aC ah aD) (off:=3) 0 br Bg rfl rfl rfl rfl fun hN50=>?_;refine zg 3 rfl ?_;refine Aw 0 (ag.moq ((ab.trq ae).trq ar)) Dz rfl rfl rfl ?_;refine zg 1 rfl ?_;refine Ar underlying175 Bn rfl rfl rfl ?_;refine Ar underlying104 Cq rfl rfl rfl ?_;refine Ae (v:= .int .u16 ((fl:Nat):Int)) rfl (fun ρ h=>Yl.load Ek (h _ _ rfl) (Cn (j:=0) (off:=4) hN50 rfl rfl)) ?_;obtain⟨au,bu,bv⟩:=bs aU;refine zg 1 rfl ?_;refine Ae (v:= .int .u16 ((au:Nat):Int)) rfl (fun ρ h=>HV (h _ _ rfl) (h _ _ rfl) bu) ?_;refine zg 1 rfl ?_;refine Ar underlying175 Bn rfl rfl rfl ?_;refine Ar underlying104 Cq rfl rfl rfl ?_;refine JSst_ (v:= .int .u16 ((au:Nat):Int)) (off:=4) 0 hN50 Cq rfl rfl rfl rfl fun bw=>?_;refine zg 2 rfl ?_;refine JSfreezeL_ 6 bn bw rfl fun b1 aw bx bz=>?_;refine Bm (S':= [[(K,.cells #[pV k1 o2,sV U O V,iV age,sV aC ah aD,.int .u16 ((au:Nat):Int)] 175 (0,0))],X,[],[],[],aV,[]]) rfl bz fun bA=>?_;refine JS.drop 5 bA rfl fun bB=>?_;obtain rfl:=oi bv;refine JL.region ?_;refine Ae (v:= .func (.func 176) #[] [pV al 0,pV ak 0].toArray) rfl (fun ρ h=>Gu (by simp) (by simp [h (.tmp 9) _ rfl,h (.tmp 3) _ rfl])) ?_;refine Ns (vs:= []) (caps:= [pV al 0,pV ak 0]) rfl rfl rfl rfl rfl rfl ?_;refine zg 4 rfl ?_;refine Ca (S':= [[(K,.cells #[pV k1 o2,sV U O V,iV age,sV aC ah aD,.int .u16 ((au:Nat):Int)] 175 (0,0))]++X]) (by simp) bB fun aE=>?_;refine G0 (vs:= []) 0 (aP (ah,au) rfl _ _ _ ((((aa.trq ab).trq ae).trq ar).trq aw) bx) rfl rfl rfl rfl rfl aE rfl ?_;rintro _ bC _ ai ⟨an,ao,ap,ac,rfl,rfl,aF⟩ aG;refine zg 2 rfl ?_;refine JLoutRet_ rfl ?_;refine JO.Pn (vs:= []) (caps:= [pV al 0,pV ak 0]) rfl func176 rfl rfl (Nat.le_of_ble_eq_true rfl) fun T aH todo=>?_;refine Ca (S':= [[(K,.cells #[pV k1 o2,.slice U O.length V,an,ao,ap] 175 (0,0))],ac]) (by simp) aG fun aI=>?_;refine JL.region ?_;refine Aw 0 (ag.moq ((((ab.trq ae).trq ar).trq aw).trans ai)) Dz rfl rfl rfl ?_;refine JLldN_ (aB.moq ((ar.trq aw).trans ai)) DO Bn rfl rfl ?_;refine zg 1 rfl ?_;refine Ar underlying175 Bn rfl rfl rfl ?_;refine JSst_ (v:= .agg #[iV age,.slice Y ms.length Z,.int .u16 ((fl:Nat):Int)]) (off:=2) 0 aI Bn rfl rfl rfl rfl fun aJ=>?_;refine Bm (S':= [[(K,.cells #[pV k1 o2,.slice U O.length V,iV age,.slice Y ms.length Z,.int .u16 ((fl:Nat):Int)] 175 (0,0))],ac]) rfl aJ fun aK=>?_;refine JL.done ?_;refine JL.out rfl ?_;refine JO.leaveD rfl func176 rfl (.inl rfl) ?_;refine(?_:JO J Q (base 155) Tryz.f155.ntmps _ [] (aQ::cs) _) T aH todo;refine JO.leave (v:= .bool true) rfl (Bc.list func155 rfl (vs:= [.bool true]) ⟨rfl,trivial⟩) ?_;exact az _ _ _ _ (((((aa.trq ab).trq ae).trq ar).trq aw).trans ai) rfl ⟨ac,rfl,by simp,aF⟩ aK
  ·refine Take.Ko (pp:=rI) [iV m] ([m]:List Int) aR rfl rfl rfl underlying28 q_szOf_oftype3 q_zeroOf_oftype3 (by decide) rfl rfl rfl ⟨rfl,trivial⟩ fun b2 aW bD bE=>?_;refine JG.one (i:=3) rfl (by decide+kernel) ?_;refine Take.call0 (vs:= [sV Y ms Z]) bE (Pu (h17.moq ((aa.trq ab).trq ae)) aS) rfl rfl rfl (body_of func175 rfl) rfl ?_;rintro _ b3 _ am ⟨b4,b5,b6,rfl,rfl,h71⟩ bF;refine JG.one (i:=6) rfl (by decide+kernel) ?_;refine Take.app0 (pp:=rI) 5 4 bF aT rfl rfl rfl rfl rfl rfl rfl underlying28 underlying28 q_szOf_oftype3 (Bz type3) q_zeroOf_oftype3 rfl (by decide) (by decide) h71 (bD.moq am) rfl rfl fun aL aM b7 bG h77 bH=>?_;refine JALlf_ [7,8,9,10] ?_;refine CZ 5 rfl bH fun bI=>?_;refine JS.drop 5 bI rfl fun bJ=>?_;refine Bm (S':= [[(K,.cells #[pV k1 o2,sV U O V,iV age,sV Y ms Z,.int .u16 ((fl:Nat):Int)] 175 (0,0))],X,[],[],aW,[],bG]) rfl bJ fun bK=>?_;refine zg 1 rfl ?_;refine Ar underlying175 Bn rfl rfl rfl ?_;refine Ar underlying104 Bg rfl rfl rfl ?_;refine JSst_ (v:= sV aL ah aM) (off:=3) 0 bK Bg rfl rfl rfl rfl fun hN82=>?_;refine zg 3 rfl ?_;refine Aw 0 (ag.moq ((ab.trq ae).trq am)) Dz rfl rfl rfl ?_;refine zg 1 rfl ?_;refine Ar underlying175 Bn rfl rfl rfl ?_;refine Ar underlying104 Cq rfl rfl rfl ?_;refine Ae (v:= .int .u16 ((fl:Nat):Int)) rfl (fun ρ h=>Yl.load Ek (h _ _ rfl) (Cn (j:=0) (off:=4) hN82 rfl rfl)) ?_;obtain⟨av,bL,bM⟩:=bs aU;refine zg 1 rfl ?_;refine Ae (v:= .int .u16 ((av:Nat):Int)) rfl (fun ρ h=>HV (h _ _ rfl) (h _ _ rfl) bL) ?_;refine zg 1 rfl ?_;refine Ar underlying175 Bn rfl rfl rfl ?_;refine Ar underlying104 Cq rfl rfl rfl ?_;refine JSst_ (v:= .int .u16 ((av:Nat):Int)) (off:=4) 0 hN82 Cq rfl rfl rfl rfl fun bN=>?_;refine zg 2 rfl ?_;refine JSfreezeL_ 6 h77 bN rfl fun b8 ay h88 bO=>?_;refine Bm (S':= [[(K,.cells #[pV k1 o2,sV U O V,iV age,sV aL ah aM,.int .u16 ((av:Nat):Int)] 175 (0,0))],X,[],[],aW,[],[]]) rfl bO fun bP=>?_;refine JS.drop 4 bP rfl fun bQ=>?_;obtain rfl:=oi bM;refine JL.region ?_;refine Ae (v:= .func (.func 176) #[] [pV al 0,pV ak 0].toArray) rfl (fun ρ h=>Gu (by simp) (by simp [h (.tmp 9) _ rfl,h (.tmp 3) _ rfl])) ?_;refine Ns (vs:= []) (caps:= [pV al 0,pV ak 0]) rfl rfl rfl rfl rfl rfl ?_;refine zg 4 rfl ?_;refine Ca (S':= [[(K,.cells #[pV k1 o2,sV U O V,iV age,sV aL ah aM,.int .u16 ((av:Nat):Int)] 175 (0,0))]++X]) (by simp) bQ fun aE=>?_;refine G0 (vs:= []) 0 (aP (ah,av) rfl _ _ _ ((((aa.trq ab).trq ae).trq am).trq ay) h88) rfl rfl rfl rfl rfl aE rfl ?_;rintro _ bC _ ai ⟨an,ao,ap,ac,rfl,rfl,aF⟩ aG;refine zg 2 rfl ?_;refine JLoutRet_ rfl ?_;refine JO.Pn (vs:= []) (caps:= [pV al 0,pV ak 0]) rfl func176 rfl rfl (Nat.le_of_ble_eq_true rfl) fun T aH todo=>?_;refine Ca (S':= [[(K,.cells #[pV k1 o2,.slice U O.length V,an,ao,ap] 175 (0,0))],ac]) (by simp) aG fun aI=>?_;refine JL.region ?_;refine Aw 0 (ag.moq ((((ab.trq ae).trq am).trq ay).trans ai)) Dz rfl rfl rfl ?_;refine JLldN_ (aB.moq ((am.trq ay).trans ai)) DO Bn rfl rfl ?_;refine zg 1 rfl ?_;refine Ar underlying175 Bn rfl rfl rfl ?_;refine JSst_ (v:= .agg #[iV age,.slice Y ms.length Z,.int .u16 ((fl:Nat):Int)]) (off:=2) 0 aI Bn rfl rfl rfl rfl fun aJ=>?_;refine Bm (S':= [[(K,.cells #[pV k1 o2,.slice U O.length V,iV age,.slice Y ms.length Z,.int .u16 ((fl:Nat):Int)] 175 (0,0))],ac]) rfl aJ fun aK=>?_;refine JL.done ?_;refine JL.out rfl ?_;refine JO.leaveD rfl func176 rfl (.inl rfl) ?_;refine(?_:JO J Q (base 155) Tryz.f155.ntmps _ [] (aQ::cs) _) T aH todo;refine JO.leave (v:= .bool true) rfl (Bc.list func155 rfl (vs:= [.bool true]) ⟨rfl,trivial⟩) ?_;exact az _ _ _ _ (((((aa.trq ab).trq ae).trq am).trq ay).trans ai) rfl ⟨ac,rfl,by simp,aF⟩ aK
end Pal
