/- toothCounts_card. Part 3 of 8. -/
import Derived.Test.YtboibffcmhheiaaGreatDoorTma
import Derived.Test.YtboibffcmhheiaaGreatDoorTmb
import Derived.Test.YtboibffcmhheiaaGreatDoorRows
import Derived.Test.YtboibffcmhheiaaGreatDoorChecked
import Derived.Conc.LeavingOf
import Derived.Conc.Holds
import Derived.Carry
import Derived.ChangeSame
import Derived.ChangeVars
import Derived.JoinedOf
import Derived.RowKit
import Derived.LaidLaws
import Derived.LaidHandle
import Derived.Stop.Joined
import Derived.Test.YtboibffcmhheiaaGreatDoorProg
import Derived.ProofKit
set_option linter.all false
set_option maxRecDepth 100000
namespace Pal
open Go Go.Conc
section
variable {P:Program}(J:Judge P)(Q:Goroutine→St→Prop)(b:Frame)(ds:List Deferred)(ops:Array Oper)(k:List Item)(cs:List Frame)(X D:Nat→Bool)
def JB:Nat→Array Bool→Array Value→St→Prop
 | 0,listed,T,s=>Region.ready .any ops listed= []∧J.ok Q (G (fr b T ds (.inRegion ops []::k)) cs) s
 | fuel+1,listed,T,s=>
  Region.ready .any ops listed≠ []∧s.q=false∧∀i∈Region.ready .any ops listed,∀o,ops[i]? =some o→(∀c,o.op≠ .defer c)∧
   (Region.wanted o (yielded ops T)=false→JB fuel (Bi listed i) (CW T o.dst undef) s)∧
   (Region.wanted o (yielded ops T)=true→X i=true→lp P (execOp (BR T) o) s (fun nx s'=>match nx with
    | .value v=>JB fuel (Bi listed i) (CW T o.dst v) s'
    | .skip=>JB fuel (Bi listed i) (CW T o.dst undef) s'
    | _=>False) (fun _ _=>False))∧
   (Region.wanted o (yielded ops T)=true→X i=false→lp P (execOp (BR T) o) (BL D s) (fun nx s'=>match nx with
    | .value v=>JB fuel (Bi listed i) (CW T o.dst v) (CN D s s')
    | .skip=>JB fuel (Bi listed i) (CW T o.dst undef) (CN D s s')
    | _=>False) (fun _ _=>False))
variable {J Q b ds ops k cs X D}
theorem WB(V:b.kind≠ .early):∀(fuel t:Nat) (listed:Array Bool) (T:Array Value) (s:St),JB J Q b ds ops k cs X D fuel listed T s→
  J.ok Q (G (fr b T ds (.inRegion ops (Region.linearise.go .any ops fuel t listed [])::k)) cs) s:=by
 intro fuel
 induction fuel with
 | zero=>intro t listed T s h;simpa [Region.linearise.go] using h.2
 | succ fuel O=>
  intro t listed T s h;obtain⟨al,am,h⟩:=h;obtain⟨i,hi⟩:∃i,(Region.ready .any ops listed)[t % (Region.ready .any ops listed).length]? =some i:=by
   have:0<(Region.ready .any ops listed).length:=List.length_pos_iff.2 al;exact⟨_,List.getElem?_eq_getElem (Nat.mod_lt _ this)⟩
  have Y:=List.mem_of_getElem? hi;have hgo:Region.linearise.go .any ops (fuel+1) t listed []=i::Region.linearise.go .any ops fuel (t / (Region.ready .any ops listed).length) (Bi listed i) []:=by
   simp only [Region.linearise.go];change (match(Region.ready .any ops listed)[t % (Region.ready .any ops listed).length]? with
    | some i=>Region.linearise.go .any ops fuel (t / (Region.ready .any ops listed).length) (listed.setIfInBounds i true) [i]
    | none=> [].reverse)=_
   rw [hi];simp only;rw [linearise_go_acc];rfl
  rw [hgo];obtain⟨_,o,U,_⟩:=mem_ready.1 Y;obtain⟨Z,ap,av,a0⟩:=h i Y o U;cases hw:Region.wanted o (yielded ops T) with
  | false=>exact Judge.unwanted U hw (O _ _ _ _ (ap hw))
  | true=>
   cases ag:X i with
   | true=>
    refine Judge.oper U hw V (.inr Z) (Ds _ (av hw ag) ?_ (fun _ _ h=>h.elim));intro nx s' K;cases nx with
    | value v=>exact O _ _ _ _ K
    | skip=>exact O _ _ _ _ K
    | _=>exact K.elim
   | false=>
    refine Judge.R1 D U hw V Z am (Ds _ (a0 hw ag) ?_ (fun _ _ h=>h));intro nx s' K;cases nx with
    | value v=>exact O _ _ _ _ K
    | skip=>exact O _ _ _ _ K
    | _=>exact K.elim
def waitAll(ops:Array Oper)(X:Nat→Bool)(i:Nat):Bool:=(List.range ops.size).all fun j=> !X j || waits ops ops.size j i
theorem JB.take{i:Nat}{oi:Oper}{w pure:Bool}{v:Value}(hi:ops[i]? =some oi)(bS:X i=false)(bJ:(pure || waitAll ops X i)=true)(bT:Region.noSelect ops=true)(bU:∀c,oi.op≠ .defer c):
  ∀(fuel:Nat) (listed:Array Bool) (T:Array Value) (s:St),HV ops listed i oi=true→G3 ops listed=true→listed.size=ops.size→i∈Region.ready .any ops listed→s.q=false→Region.wanted oi (yielded ops T)=w→
   (w=true→∀s',s'.q=false→(pure=false→∀x o,(BL D s).E x=some o→s'.E x=some o)→Yl P oi (BR T) s' v)→
   JB J Q b ds ops k cs X D fuel (Bi listed i) (CW T oi.dst (if w then v else undef)) s→JB J Q b ds ops k cs X D (fuel+1) listed T s:=by
 have al:∀(j:Nat) (Y:Oper),ops[j]? =some Y→∀cs b,Y.op≠Op.select cs b:=fun j Y h cs b=>Region.noSelect_spec bT j Y cs b h;intro fuel
 induction fuel with
 | zero=>?_
 | succ fuel a1=>?_
 all_goals
  intro listed T s bK bL a2 bv a3 hw am h;refine⟨fun e=>(by rw [e] at bv;cases bv),a3,fun j bM Y O=>?_⟩;by_cases a4:j=i
  ·subst a4;obtain rfl:Y=oi:=by rw [hi] at O;exact(Option.some.inj O).symm
   refine⟨bU,fun bA=>?_,fun ap K=>?_,fun ap K=>?_⟩
   ·rw [bA] at hw;subst hw;exact h
   ·rw [bS] at K;cases K
   ·rw [ap] at hw;subst hw;refine Ds _ (am rfl (BL D s) a3 fun _ _ _ h=>h).out ?_ (fun _ _ h=>h);rintro nx s' ⟨rfl,rfl⟩;rw [Kw];exact h
  ·
   have bN:j∈Region.ready .any ops (Bi listed i):=ready_mono bM a4;obtain⟨av,U,bO,bB⟩:=mem_ready.1 bM;obtain rfl:U=Y:=by rw [O] at bO;exact(Option.some.inj bO).symm
   have bC:=(mem_ready.1 bv).1;have bV:(U.after.any fun e=>Region.binds .any e&&e.on==i)=false:=by
    rw [Array.any_eq_false];intro e he K;simp only [Bool.and_eq_true,beq_iff_eq] at K;have:=bB _ (Array.getElem_mem he) K.1;rw [K.2] at this;have a0:listed.getD i true=listed.getD i false∨listed.size≤i:=by
     rcases Nat.lt_or_ge i listed.size with q | q
     ·left;simp [Array.getD_eq_getD_getElem?,q]
     ·exact .inr q
    rcases a0 with a0 | a0
    ·rw [bC,this] at a0;cases a0
    ·rw [Array.getD_eq_getD_getElem?,Array.getElem?_eq_none a0] at this;simp at this
   have bW:oi.apart ops U=true:=by
    have bD:j<ops.size:=(Array.getElem?_eq_some_iff.1 O).1;have:=List.all_eq_true.1 bK j (List.mem_range.2 bD);simp only [Bool.or_eq_true,beq_iff_eq] at this;rcases this with(q | q) | q
    ·exact absurd q a4
    ·rw [av] at q;cases q
    ·rw [O] at q;simp only [Bool.or_eq_true] at q;rw [bV] at q;exact q.resolve_left (by simp)
   obtain⟨bY,a5,a6⟩:=Oper.apart_spec bW;obtain⟨p1,p2⟩:=GY (ops:=ops) (T:=T) (v:=if w then v else undef) (al j U O) bY
   first
    | exact absurd bN (by rw [h.1];simp)
    | (
     obtain⟨b9,_,h⟩:=h
     obtain⟨bZ,bA,b0,b1⟩:=h j bN U O
     have a7:Bi (Bi listed i) j=Bi (Bi listed j) i:=by
      unfold Bi;exact Array.setIfInBounds_comm _ _ (Ne.symm a4)
     have a8:i∈Region.ready .any ops (Bi listed j):=ready_mono bv (Ne.symm a4)
     have a9:HV ops (Bi listed j) i oi=true:=by
      refine List.all_eq_true.2 fun x K=>?_
      have:=List.all_eq_true.1 bK x K
      simp only [Bool.or_eq_true,beq_iff_eq] at this ⊢
      rcases this with(q | q) | q
      ·exact .inl (.inl q)
      ·left;right
       by_cases e:j=x
       ·subst e;rw [av] at q;cases q
       ·rw [Bi,getD_set_ne true e];exact q
      ·exact .inr q
     have bb:(Bi listed j).size=ops.size:=by unfold Bi;simpa using a2
     have bd:G3 ops (Bi listed j)=true:=by
      refine List.all_eq_true.2 fun x K=>?_
      cases bE:ops[x]? with
      | none=>simp
      | some b2=>
       simp only [Bool.or_eq_true,Bool.not_eq_true']
       by_cases e:j=x
       ·subst e
        obtain rfl:b2=U:=by rw [O] at bE;exact(Option.some.inj bE).symm
        right
        refine Array.all_eq_true'.2 fun e he=>?_
        cases hb:Region.binds .any e with
        | false=>simp
        | true=>
         have:=bB e he hb
         by_cases be:j=e.on
         ·rw [← be] at this
          have bF:j<listed.size:=by rw [a2];exact(Array.getElem?_eq_some_iff.1 O).1
          simp [Array.getD_eq_getD_getElem?,bF] at this av
          rw [av] at this;cases this
         ·rw [Bi,getD_set_ne false be];simpa using this
       ·cases bP:(Bi listed j).getD x false with
        | false=>exact .inl rfl
        | true=>
         right
         have b3:listed.getD x false=true:=by rw [Bi,getD_set_ne false e] at bP;exact bP
         refine Array.all_eq_true'.2 fun bG he=>?_
         cases hb:Region.binds .any bG with
         | false=>simp
         | true=>
          have:=Of bL bE b3 bG he hb
          by_cases be:j=bG.on
          ·rw [← be] at this
           have bF:j<listed.size:=by rw [a2];exact(Array.getElem?_eq_some_iff.1 O).1
           simp [Array.getD_eq_getD_getElem?,bF] at this av
           rw [av] at this;cases this
          ·rw [Bi,getD_set_ne false be];simpa using this
     refine⟨bZ,fun b4=>?_,fun bH bw=>?_,fun bH bw=>?_⟩
     ·have:=bA (by rw [p2];exact b4)
      rw [a7,HO a5] at this
      obtain⟨q1,q2⟩:=GY (ops:=ops) (T:=T) (d:=U.dst) (v:=undef) (o:=oi) (al i oi hi) a6
      exact a1 _ _ _ a9 bd bb a8 a3 (by rw [q2];exact hw) (fun V s' b5 bz=>by unfold Yl;rw [q1];exact(am V s' b5 bz).out) this
     ·
      have b6:pure=true:=by
       cases b7:pure with
       | true=>rfl
       | false=>
        exfalso
        rw [b7,Bool.false_or] at bJ
        have bD:j<ops.size:=(Array.getElem?_eq_some_iff.1 O).1
        have ap:=List.all_eq_true.1 bJ j (List.mem_range.2 bD)
        rw [bw] at ap
        simp only [Bool.not_true,Bool.false_or] at ap
        rcases P1 bL _ j U O (fun e he hb=>bB e he hb) ap with q | ⟨x,q1,q2⟩
        ·have b8:i<listed.size:=by rw [a2];exact(Array.getElem?_eq_some_iff.1 hi).1
         simp [Array.getD_eq_getD_getElem?,b8] at q bC
         rw [bC] at q;cases q
        ·have:¬x<listed.size:=by rw [a2];intro K;simp [K] at q1
         simp [Array.getD_eq_getD_getElem?,this] at q2
      have bi:=NT _ (b0 (by rw [p2];exact bH) bw)
      rw [p1] at bi
      refine Ds _ bi ?_ (fun _ _ h=>h)
      rintro nx s' ⟨K,bz,bI⟩
      have bo:s'.q=false:=bI.trans a3
      have bQ:pure=false→∀{α:Prop},α:=fun e=>by rw [b6] at e;cases e
      cases nx with
      | value u=>
       simp only at K ⊢
       rw [a7,HO a5] at K
       obtain⟨q1,q2⟩:=GY (ops:=ops) (T:=T) (d:=U.dst) (v:=u) (o:=oi) (al i oi hi) a6
       exact a1 _ _ _ a9 bd bb a8 bo (by rw [q2];exact hw) (fun V s2 Z ag=>by unfold Yl;rw [q1];exact(am V s2 Z (fun e=>bQ e)).out) K
      | skip=>
       simp only at K ⊢
       rw [a7,HO a5] at K
       obtain⟨q1,q2⟩:=GY (ops:=ops) (T:=T) (d:=U.dst) (v:=undef) (o:=oi) (al i oi hi) a6
       exact a1 _ _ _ a9 bd bb a8 bo (by rw [q2];exact hw) (fun V s2 Z ag=>by unfold Yl;rw [q1];exact(am V s2 Z (fun e=>bQ e)).out) K
      | _=>exact K.elim
     ·have bi:=NT _ (b1 (by rw [p2];exact bH) bw)
      rw [p1] at bi
      refine Ds _ bi ?_ (fun _ _ h=>h)
      rintro nx s' ⟨K,bz,bI⟩
      have bR:=P7 (D:=D) bz
      have bo:(CN D s s').q=false:=by show s'.q=false;rw [bI];exact a3
      cases nx with
      | value u=>
       simp only at K ⊢
       rw [a7,HO a5] at K
       obtain⟨q1,q2⟩:=GY (ops:=ops) (T:=T) (d:=U.dst) (v:=u) (o:=oi) (al i oi hi) a6
       exact a1 _ _ _ a9 bd bb a8 bo (by rw [q2];exact hw) (fun V s2 Z ag=>by unfold Yl;rw [q1];exact(am V s2 Z (fun e=>by rw [bR] at ag;exact ag e)).out) K
      | skip=>
       simp only at K ⊢
       rw [a7,HO a5] at K
       obtain⟨q1,q2⟩:=GY (ops:=ops) (T:=T) (d:=U.dst) (v:=undef) (o:=oi) (al i oi hi) a6
       exact a1 _ _ _ a9 bd bb a8 bo (by rw [q2];exact hw) (fun V s2 Z ag=>by unfold Yl;rw [q1];exact(am V s2 Z (fun e=>by rw [bR] at ag;exact ag e)).out) K
      | _=>exact K.elim)
end
section
variable {P:Program}(J:Judge P)(Q:Goroutine→St→Prop)(b:Frame)(n:Nat)(ds:List Deferred)(ops:Array Oper)(k:List Item)(cs:List Frame)(X D:Nat→Bool)
def FC(fuel:Nat)(listed:Array Bool)(L:Env)(s:St):Prop:=∀T,Has n L T→JB J Q b ds ops k cs X D fuel listed T s
end
def Ka(ops:Array Oper)(listed:Array Bool)(xs:List Nat)(pure:Bool)(i:Nat):Bool:=match ops[i]? with
 | some oi=> !A5 xs i&&(pure || waitAll ops (A5 xs) i)&&Region.noSelect ops&& !Dz oi.op&&HV ops listed i oi&&G3 ops listed&&listed.size==ops.size&&(Region.ready .any ops listed).contains i
 | none=>false
section
variable {P:Program}{J:Judge P}{Q:Goroutine→St→Prop}{b:Frame}{n:Nat}{ds:List Deferred}{ops:Array Oper}{k:List Item}{cs:List Frame}{fuel:Nat}{X D:Nat→Bool}{listed:Array Bool}{L:Env}{s:St}{E H:LH}{S:List Seg}{xl bks:List Nat}
variable {d:Option Tmp}{x y:Operand}{t u ty e:TypeId}{p:String}{af:Array Edge}{g:Option (Nat×Bool)}{v:Value}{i:Nat}{kd:IntKind}
theorem G0(xl bks:List Nat){id:Nat}(hm:P.follows .mixedOrders=true)(K:(b.kind != .early)=true)
  (h:FC J Q b n ds ops k cs (A5 xl) (A5 bks) ops.size (Array.replicate ops.size false) L (Ao E H S)):JL J Q b n L ds (.code (.region id ops true)::k) cs (Ao E H S):=
 Ry rfl hm fun t T O=>WB (by simpa using K) ops.size t _ T _ (h T O)
theorem SW{oi:Oper}(i:Nat)(pure:Bool)(hi:ops[i]? =some oi)(K:Ka ops listed xl pure i=true)(V:s.q=false)
  (hw:Bh L ops oi=some true) (Y:BI n oi.dst=true) (Z:∀ρ,EF L ρ→∀s':St,(pure=false→∀x o,(BL D s).E x=some o→s'.E x=some o)→Yl P oi ρ s' v)
  (h:FC J Q b n ds ops k cs (A5 xl) D fuel (Bi listed i) (AF L oi.dst v) s):FC J Q b n ds ops k cs (A5 xl) D (fuel+1) listed L s:=fun T O=>by
 simp only [Ka,hi,Bool.and_eq_true] at K
 obtain⟨⟨⟨⟨⟨⟨⟨ag,al⟩,am⟩,U⟩,ap⟩,av⟩,a0⟩,a1⟩:=K
 refine JB.take (w:=true) (v:=v) (pure:=pure) hi (by simpa using ag) al am (fun c K=>by rw [K] at U;simp [Dz] at U) fuel listed T s ap av (by simpa using a0) (by simpa using a1) V (Db O hw) (fun _ s' a3 a2=>Z _ O.Gl s' a2) ?_
 exact h _ (O.put Y v)
theorem JB.fin(K:Region.ready .any ops listed= [])(h:JL J Q b n L ds k cs s):FC J Q b n ds ops k cs X D 0 listed L s:=fun T O=>⟨K,JL.done h T O⟩
theorem JB.store{bk off:Nat}{c:Array Value}(i j:Nat)(U:Region.ready .any ops listed= [i])(ag:A5 xl i=true)(al:ops[i]? =some ⟨d,.store t x y,ty,p,af,g⟩)(hw:Bh L ops ⟨d,.store t x y,ty,p,af,g⟩=some true)(am:BI n d=true)(ap:Ay E H S)
  (av:ev L x=some (.pointer (some ⟨bk,off,none⟩))) (a0:ev L y=some v) (a1:BE P t=some v.cells.size) (a2:∀u∈v.cells.toList,CV u=true) (V:S[j]? =some [(bk,.cells c e (0,0))]) (hle:off+v.cells.size≤c.size)
  (h:Ay E H (S.set j [(bk,.cells (A1 c off v.cells.toList) e (0,0))])→FC J Q b n ds ops k cs (A5 xl) D fuel (Bi listed i) (AF L d undef) (Ao E H (S.set j [(bk,.cells (A1 c off v.cells.toList) e (0,0))]))):
  FC J Q b n ds ops k cs (A5 xl) D (fuel+1) listed L (Ao E H S):=fun T K=>by
 refine⟨by rw [U];simp,rfl,fun bb O o' Y=>?_⟩
 rw [U] at O
 simp at O
 subst O
 obtain rfl:o'=⟨d,.store t x y,ty,p,af,g⟩:=by rw [al] at Y;exact(Option.some.inj Y).symm
 have a3:=Db K hw;refine⟨fun c a4=>(by cases a4),fun e=>?_,fun _ _=>?_,fun _ e=>?_⟩
 ·rw [a3] at e;cases e
 ·obtain⟨a5,a6⟩:=Gi ap V;rw [a5];show lp P (do Instr.storeAt t (BR T x) (BR T y);pure Next.skip) _ _ _
  rw [K.ev av,K.ev a0];refine AH _ _ ?_;unfold Instr.storeAt;simp only [Instr.sureAddr,bind,Sem.bind,pure];refine Oj (pl:=(S.set j []).flatten.length) a1 a2 a6 (c:=c) (e:=e) (by simp) hle fun Z=>?_;have a7:((S.set j []).flatten++ [(bk,Obj.cells c e (0,0))]).set (S.set j []).flatten.length (bk,.cells (A1 c off v.cells.toList) e (0,0))=(S.set j []).flatten++ [(bk,.cells (A1 c off v.cells.toList) e (0,0))]:=HS _ _ _ _;rw [a7] at Z ⊢;obtain⟨a8,a9⟩:=Hu V Z;rw [a8];exact h a9 _ (K.put am undef)
 ·rw [ag] at e;cases e
end
end Pal
namespace Pal
open Go Go.Conc
theorem U1{E H:LH}{S:List Seg}{bks:List Nat}{bk o:Nat}{l ws:List Value}{e:TypeId}{f:Nat×Nat}{s':St}{w:Value}(j:Nat)(K:Ay E H S)(O:S[j]? =some [(bk,.cells (l++ws).toArray e f)])(U:A5 bks bk=true)(hs:∀x o,(BL (A5 bks) (Ao E H S)).E x=some o→s'.E x=some o)(V:ws[o]? =some w):s'.cell? ⟨bk,l.length+o,none⟩=some w:=by
 have:=Oz j K O U hs o w V
 rwa [DN rfl] at this
section
variable {P:Program}{E H:LH}{B:List (Nat×Obj)}{t e ty:TypeId}
theorem T5{ats:Array TypeId}{a:Option Addr}{l K O m cx:Nat}{ax:Option Addr}{xs ys:List Value}{z:Value}{Q:Value→St→Prop}{X:Halt→St→Prop}
  (a4:ats[0]? =some t) {t1 a5:TypeId} (a6:ats[1]? =some t1) (a7:P.underlying t1=some (.slice a5)) (ht:P.underlying t=some (.slice e)) (a8:BE P e=some K) (hb:EU P e=some O) (a9:zeroOf P e=some z) (bb:z.cells.size=K)
  (bd:Nd E H B) (al:G5 (mk E H B) (.slice a l l) K xs)
  (Y:G5 (mk E H B) (.slice ax m cx) K ys) (bC:∀w∈ys,CV w=true) (bD:0<O) (bE:l+m≤2 ^ 40) (be:O≤64)
  (a2:m=0→Q (.slice a (l+m) l) (mk E H B))
  (bi:∀r Z am,l+m≤am→Z.size=am*K→Z.toList.take ((l+m)*K)=xs++ys→Nd E H (B++ [(r,.cells Z e (0,0))])→Q (.slice (some ⟨r,0,none⟩) (l+m) am) (mk E H (B++ [(r,.cells Z e (0,0))]))):
  lp P (Builtin.append_ ats ty #[.slice a l l,.slice ax m cx]) (mk E H B) Q X:=by
 unfold Builtin.append_;simp only [a4,a6,List.getElem?_toArray,List.getElem?_cons_zero,List.getElem?_cons_succ];refine AH _ _ (Dl ht ?_);refine AH _ _ (Fb a8 ?_);refine AH _ _ (Dl a7 ?_);simp only [Hj,Bool.false_eq_true,if_false,Builtin.lenOf,Bool.not_false,if_true];have ag:ys.length=m*K:=by
  cases ax with
  | none=>obtain⟨U,V⟩:=Y;subst U V;simp
  | some ad=>exact Y.2.1
 have ap:xs.length=l*K:=by
  cases a with
  | none=>obtain⟨U,V⟩:=al;subst U V;simp
  | some ad=>exact al.2.1
 obtain⟨c,bF⟩:∃c,c=l:=⟨_,rfl⟩;split
 ·rename_i bG;have hm:m=0:=by omega
  have bo:ys= []:=List.eq_nil_of_length_eq_zero (by rw [ag,hm];simp);refine AH _ _ (Jp ⟨ax,cx,rfl⟩ Y ?_);subst bo;cases a with
  | none=>exact a2 hm
  | some ad=>exact a2 hm
 ·rename_i bH;have U:¬(((l+m:Nat):Int)>IntKind.i64.max∧(False∨O=0)):=by rintro⟨_,h | h⟩ <;> omega
  have V:¬(Builtin.nextslicecap (l+m) l*O>2 ^ 48):=by
   have:=Qh (need:=l+m) (old:=l) (by omega);have bI:Builtin.nextslicecap (l+m) l*O≤(2*(l+m)+768)*64:=Nat.mul_le_mul this be;omega
  obtain⟨inf,av,a0⟩:=Mj hb;refine AH _ _ (Ij av ?_);rw [a0,if_neg U];refine AH _ _ (Ij av ?_);rw [a0,if_neg V];refine AH _ _ ?_;simp only [choose,lp,Question.forced,Bool.false_eq_true,if_false];refine⟨rfl,fun bv=>?_⟩;generalize bw:(Question.appendCap (l+m) l e).cut bv=a1;have bz:l+m≤a1:=by rw [← bw];simp [Question.cut]
  refine AH _ _ (Ij av ?_);rw [a0];have bA:∀{α:Type} {f:Unit→Sem α} {Q:α→St→Prop},lp P (f ()) (mk E H B) Q X→lp P (askRoom (a1*O)>>=f) (mk E H B) Q X:=by
   intro α f Q a3;refine AH _ _ ?_;unfold askRoom;split
   ·exact⟨.inl ⟨rfl,rfl⟩,a3⟩
   ·exact a3
  refine bA (AH _ _ (Jp ⟨a,l,rfl⟩ al ?_));refine AH _ _ (Jp ⟨ax,cx,rfl⟩ Y ?_);refine AH _ _ (Gd a9 ?_);refine AH _ _ (Hm bd fun r bB=>?_);refine bi r _ a1 bz ?_ ?_ bB
  ·simp only [Array.size_append,List.size_toArray,PW,bb,ap,ag];rw [← Nat.add_mul,← Nat.add_mul];congr 1;omega
  ·simp only [Array.toList_append];rw [List.take_append_of_le_length (by simp [ap,ag,Nat.add_mul])];rw [List.take_of_length_le (by simp [ap,ag,Nat.add_mul])]
end
theorem Am.spot{α:Type}{pp:Rp α}{E:LH}{a:Option Addr}{c:Nat}{xs:List α}(h:Am pp E a c xs):∀ad,a=some ad→ad.spot=none∨c=0:=fun ad K=>by
 rcases h.2 with⟨_,h⟩ | ⟨bk,off,h,_⟩
 ·exact h ad K
 ·rw [h] at K;cases K;exact .inl rfl
theorem Am.full{α:Type}{pp:Rp α}{E:LH}{a:Option Addr}{c:Nat}{xs:List α}(h:Am pp E a c xs):Am pp E a xs.length xs:=⟨Nat.le_refl _,h.2.imp (fun⟨h,_⟩=>⟨h,fun _ _=> .inr (by rw [h];rfl)⟩) id⟩
theorem Am.RI{α:Type}{pp:Rp α}{E H:LH}{B:List (Nat×Obj)}{a:Option Addr}{c:Nat}{ys:List α}(Z:Am pp E a c ys):
  ∃K:List (List Value),K.length=ys.length∧(∀(i:Nat) x ws,ys[i]? =some x→K[i]? =some ws→pp.r E ws x)∧G5 (mk E H B) (.slice a ys.length c) pp.n K.flatten∧∀w∈K.flatten,CV w=true:=by
 obtain⟨K,U,Y,V⟩:=Z.rows;have ag:=Ir U Y;refine⟨K,U,Y,?_,fun w hw=>?_⟩
 ·rcases V with⟨V,a1⟩ | ⟨bk,off,rfl,V⟩
  ·subst V;have:K= []:=List.eq_nil_of_length_eq_zero U;subst this;cases a with
   | none=>exact⟨rfl,rfl⟩
   | some ad=>exact⟨.inr rfl,by simp,Nat.zero_le _,fun q w O=>by simp at O⟩
  ·refine⟨.inl rfl,by rw [Md ag,U],Z.1,fun q w O=>?_⟩;obtain⟨q1,m,ws,al,am,ap⟩:=Oh ag O;have:=(V q1 ws al).cell (H:=H) (B:=B) am;subst ap;rw [← Nat.add_assoc];exact this
 ·obtain⟨us,av,hw⟩:=List.mem_flatten.1 hw;obtain⟨q,O⟩:=List.mem_iff_getElem?.1 av;have a0:q<ys.length:=by rw [← U];exact(List.getElem?_eq_some_iff.1 O).1
  exact pp.one (Y q _ us (List.getElem?_eq_getElem a0) O) w hw
section
variable {P:Program}{J:Judge P}{Q:Goroutine→St→Prop}{b:Frame}{n:Nat}{ds:List Deferred}{ops:Array Oper}{k:List Item}{cs:List Frame}{L:Env}{s:St}{E E' H:LH}{S:List Seg}
variable {d:Option Tmp}{x y z1:Operand}{t u ty e:TypeId}{p:String}{af:Array Edge}{g:Option (Nat×Bool)}{v:Value}{i:Nat}{rest:List Nat}{kd:IntKind}{ρ:Operand→Value}
theorem Uv{a:Option Addr}{l c K:Nat}(O:∀ad,a=some ad→ad.spot=none∨c=0)(U:l≤c)(ht:P.underlying t=some (.slice e))(V:BE P e=some K)(Y:ρ x= .slice a l c)(Z:ρ y=iV (l:Int))(ag:ρ z1=iV (l:Int)):
  Yl P ⟨d,.slice t x none (some y) (some z1),ty,p,af,g⟩ ρ s (.slice a l l):=by
 have h:=Yl.slice (P:=P) (s:=s) (d:=d) (ty:=ty) (p:=p) (af:=af) (g:=g) (olo:=none) (ohi:=some y) (omx:=some z1) (lo:=0) (hi:=l) (mx:=l) ht V Y ag Z rfl U (Nat.le_refl _) (Nat.zero_le _);have al:(if l=0 then a else a.map (·.add (0*K)))=a:=by
  split
  ·rfl
  ·cases a with
   | none=>rfl
   | some ad=>
    have:=(O ad rfl).resolve_right (by omega);simp only [Option.map_some,Nat.zero_mul];rw [DN this];obtain⟨b,o,sp⟩:=ad;simp only at this;subst this;simp
 rw [al] at h;simpa using h
theorem Uy{α:Type}{pp:Rp α}{t1:TypeId}{V c cx:Nat}{a ax:Option Addr}{xs ys Y:List α}{ats:Array TypeId}{z:Value}(U:De xs ys=some Y)
  (a1:ops[i]? =some ⟨d,.call ⟨.builtin .append,#[x,y],ats⟩,ty,p,af,g⟩) (hw:Bh L ops ⟨d,.call ⟨.builtin .append,#[x,y],ats⟩,ty,p,af,g⟩=some true) (a2:CX b n ⟨d,.call ⟨.builtin .append,#[x,y],ats⟩,ty,p,af,g⟩=true)
  (a3:ev L x=some (.slice a xs.length xs.length)) (a4:ev L y=some (.slice ax ys.length cx)) (a5:ats[0]? =some t) (a6:ats[1]? =some t1) (ht:P.underlying t=some (.slice e)) (a7:P.underlying t1=some (.slice e)) (a8:BE P e=some pp.n) (hb:EU P e=some V) (a9:zeroOf P e=some z) (bb:z.cells.size=pp.n)
  (bd:0<V) (be:V≤64) (Z:Am pp E a c xs) (bi:Am pp E ax cx ys) (ag:Ay E H S)
  (h:∀E' al K,Le E E'→Am pp E' al K Y→Ay E' H (S++ [[]])→JL J Q b n (AF L d (.slice al Y.length K)) ds (.inRegion ops rest::k) cs (Ao E' H (S++ [[]]))):
  JL J Q b n L ds (.inRegion ops (i::rest)::k) cs (Ao E H S):=by
 unfold De at U;split at U
 rotate_left
 ·cases U
 rename_i bo;cases U;obtain⟨wss,am,bv,bw,bO⟩:=Am.RI (H:=H) (B:=S.flatten) Z.full;obtain⟨bz,bA,bB,bC,bD⟩:=Am.RI (H:=H) (B:=S.flatten) bi;have hlen:(xs++ys).length=xs.length+ys.length:=by simp
 show JL J Q b n L ds (.inRegion ops (i::rest)::k) cs (mk E H S.flatten);refine JL.op a1 hw a2 fun ρ ap=>?_;rw [L9,ap x _ a3,ap y _ a4];refine AH _ _ (T5 a5 a6 a7 ht a8 hb a9 bb ag bw bC bD bd bo be ?_ ?_)
 ·intro hm;have bE:ys= []:=List.eq_nil_of_length_eq_zero hm;subst bE;have bF:Ay E H (S++ [[]]):=by unfold Ay at*;rw [GZ,List.append_nil];exact ag
  have bG:mk E H S.flatten=Ao E H (S++ [[]]):=by unfold Ao;rw [GZ,List.append_nil]
  rw [bG];have:=h E a xs.length (Le.refl _) (by rw [List.append_nil];exact Z.full) bF;rw [hlen] at this;exact this
 ·intro r O K bH bI bJ bK;have bL:OL e pp E (some ⟨r,0,none⟩) K [(r,.cells O e (0,0))] (xs++ys):=
   ⟨wss++bz,.inr ⟨r,O,rfl,rfl,bI,by rw [hlen];exact bH,by rw [hlen,List.flatten_append];exact bJ.symm⟩,by simp [am,bA],Om am bv bB⟩
  have av:=EE (S:=S) (seg:= [(r,.cells O e (0,0))]) bK;show JL J Q b n _ ds _ cs (mk E H (S.flatten++ [(r,.cells O e (0,0))]));rw [av.1];refine B6 S.length bL av.2 (by simp) fun E' hle bM a0=>?_;have bN:(S++ [[(r,Obj.cells O e (0,0))]]).set S.length []=S++ [[]]:=HS _ _ _ _;rw [bN] at a0 ⊢;have:=h E' (some ⟨r,0,none⟩) K hle bM a0;rw [hlen] at this;exact this
end
end Pal
namespace Pal
open Go Go.Conc
open Go.ConcN (sumTo upd sumTo_upd upd_ne upd_same)
def K1(P:Program)(R:Value→St→Prop):GP:=fun g s=>
 g.status= .running∧∃v,R v s∧∀w,stepG P true g w= .ended (.done v) w #[]
section
variable {P:Program}{R:Value→St→Prop}{J:Judge P}{n:Nat}{L:Env}{s:St}{b:Frame}
theorem JO.end{fn:Func}{t:Tmp}{v:Value}(K:b.kind= .normal)(hi:P.inits.idxOf? b.fn=none)(O:P.funcs[b.fn]? =some fn)(U:fn.results= #[.tmp t])(V:look L t=some v)(Y:R v s):JO J (K1 P R) b n L [] [] s:=fun T Z todo=>by
 refine J.stop ⟨rfl,v,Y,fun w=>?_⟩
 have e:results fn T=Sem.pure v:=by
  have:=Z.at_ t v V;simp only [results,U,Array.mapM_eq_mapM_toList];show Sem.pure (T.getD t undef)=_;rw [this]
 have ag:(results fn T).run P w= .ok v w:=by rw [e];rfl
 have al:(results fn T).events P w #[]= #[]:=by rw [e];simp [Sem.events_pure']
 simp [G,stepG,unwind,Ex,O,ag,al,doReturn,K,GStep.after,hi,seen_none]
end
section
variable {P:Program}{R:Value→St→Prop}
def Lt(P:Program)(R:Value→St→Prop)(K:World)(s₀:St)(v:Value)(w':World):Prop:=
 ∃s,R v s∧Fits s w'∧(∀b o,s₀.E b=some o→s.E b=some o)∧w'.tape=K.tape∧w'.os=K.os∧w'.output=K.output
def Pu(P:Program)(R:Value→St→Prop)(K:World)(s₀:St)(O:Nat)(m:Machine)(t:Trace):Prop:=
 ∃gs w sl q Sh g s,m=crowd gs w sl∧Gs P gs w t q Sh g s∧K1 P R g s∧O=sumTo gs.size q∧(∀b o,s₀.E b=some o→s.E b=some o)∧w.tape=K.tape∧w.os=K.os∧w.output=K.output
theorem Wt{ap:World}{s₀:St}(a2:Nat)(m:Machine)(t:Trace)(h:Pu P R ap s₀ a2 m t):
  (∃o w ops,stepT P m=(.ended o w,ops)∧Good P (Lt P R ap s₀) m o w (t++ops))∨(∃m' ops a3,stepT P m=(.next m',ops)∧a3<a2∧Pu P R ap s₀ a3 m' (t++ops)):=by
 obtain⟨gs,w,sl,q,Sh,g,s,rfl,hC,bw,rfl,a4,a5,a6,a7⟩:=h;obtain⟨Z,v,a8,a9⟩:=bw;have bz:∀x∈gs,awake x:=by
  intro x V;obtain⟨i,hi,rfl⟩:=Array.mem_iff_getElem.1 V;rcases Nat.eq_zero_or_pos i with rfl | av
  ·have:gs[0]=g:=by simpa [Array.getElem?_eq_getElem hi] using hC.main
   rw [this];exact awake_of (.inl Z)
  ·exact awake_of ((hC.lv.old i _ av (Array.getElem?_eq_getElem hi)).status.elim .inl fun x=> .inr (.inr x))
 obtain⟨i,x,d,bb,hi,V,bd⟩:=crowd_pick (P:=P) (w:=w) (sl:=sl) bz ⟨0,g,hC.main,Z⟩;have be:=hC.at_ d;have bA:0<gs.size:=(Array.getElem?_eq_some_iff.1 hC.main).1;have bB:∀(a:Nat) (fn:FuncId) (pos:String),MemOp.ofEvents a fn pos #[]= #[]:=fun a fn pos=>by rw [ofEvents_eq];simp
 rcases Nat.eq_zero_or_pos i with rfl | av
 ·obtain rfl:x=g:=by rw [hC.main] at hi;exact(Option.some.inj hi).symm
  have ag:=runT_many_ended (P:=P) (sl:=bb) (i:=0) hi (show stepG P (0==0) x (w.at d)=_ from a9 (w.at d));rw [bB] at ag;refine .inl ⟨_,_,_,bd.trans ag,v,rfl,⟨s,a8,be.CY.fits 0 bA,a4,a5,a6,a7⟩,?_,?_,⟨fun y K=>?_,rfl⟩,fun j y K O=>?_⟩
  ·simpa using hC.CY.clean
  ·simpa using hC.over
  ·obtain⟨j,O⟩:=List.mem_iff_getElem?.1 K;rw [List.getElem?_drop] at O;exact⟨_,(hC.lv.old (1+j) y (by omega) (by simpa [crowd] using O)).leaves⟩
  ·have Y:=hC.lv.old j y (by omega) K;exact⟨q j,by simp only [Array.append_empty];exact Y.hears w⟩
 ·have Y:=hC.lv.old i x av hi;have bC:(i==0)=false:=by simp;omega
  have bi:i<gs.size:=(Array.getElem?_eq_some_iff.1 hi).1;cases a0:q i with
  | zero=>rw [a0] at Y;rw [Y.1] at V;cases V
  | succ k=>
   rw [a0] at Y;rcases Y with⟨bD,_⟩ | ⟨_,x',es,hm,bE,bF⟩
   ·rw [bD] at V;cases V
   have bJ:sumTo gs.size (upd q i k)+(k+1)=sumTo gs.size q+k:=by
    have:=sumTo_upd q k id bi;simpa [a0] using this
   have ag:=runT_crowd_go (P:=P) (sl:=bb) (i:=i) hi (by rw [bC];exact bE (w.at d));have a1:((gs.map (woken P x x' (w.at d))).setIfInBounds i x').size=gs.size:=by simp
   have al:∀op∈MemOp.ofEvents i x.frame.fn x.frame.place es,op.g=i:=fun op U=>by obtain⟨e,_,rfl⟩:=mem_ofEvents U;rfl
   have bo:∀op∈MemOp.ofEvents i x.frame.fn x.frame.place es,op.act.touch? =none:=fun op U=>by obtain⟨e,he,rfl⟩:=mem_ofEvents U;exact touch_mute (hm e he)
   have bG:Gs P ((gs.map (woken P x x' (w.at d))).setIfInBounds i x') (w.at d) (t++MemOp.ofEvents i x.frame.fn x.frame.place es) (upd q i k) Sh g s:=by
    refine⟨?_,⟨fun j y O K=>?_,fun j O=>?_⟩,?_,?_,?_⟩
    ·have bH:i≠0:=by omega
     rw [Array.getElem?_setIfInBounds_ne bH,Array.getElem?_map,hC.main];simp [woken_run Z]
    ·by_cases am:i=j
     ·subst am;rw [Array.getElem?_setIfInBounds_self_of_lt (by simpa using bi)] at K;obtain rfl:=Option.some.inj K;rw [upd_same,Deaf_own];exact bF
     ·rw [Array.getElem?_setIfInBounds_ne am,Array.getElem?_map] at K;obtain⟨z,bI,rfl⟩:=Option.map_eq_some_iff.1 K;have bv:=hC.lv.old j z O bI;rw [woken_quitsD bv,upd_ne q k (Ne.symm am),Deaf_other t am _ al];exact bv
    ·rw [Deaf_other t (g':=i) (by simp at O;omega) _ al];exact hC.lv.above j (by simpa using O)
    ·rw [a1];exact be.CY.mute al bo (fun op U=>by obtain⟨e,he,rfl⟩:=mem_ofEvents U;exact low_mute (hm e he) _) rfl
    ·exact handedOver_app hC.over fun op U=> .inr (bo op U)
    ·rw [Deaf_other t (by omega) _ al];exact hC.hears
   exact .inr ⟨_,_,_,bd.trans ag,by rw [← a1];rw [a1];omega,_,_,_,_,_,_,_,rfl,bG,⟨Z,v,a8,a9⟩,rfl,a4,a5,a6,a7⟩
theorem ends{gs:Array Goroutine}{w:World}{sl:Option (Nat×Nat)}{t:Trace}{q:Nat→Nat}{Sh:Nat→Prop}{g:Goroutine}{s:St}(hC:Gs P gs w t q Sh g s)(O:K1 P R g s):
  ∃N last o w' K,runNT P (N+1) (crowd gs w sl) t=(.ended o w',K)∧runN P N (crowd gs w sl)= .next last∧step P last= .ended o w'∧Good P (Lt P R w s) last o w' K:=
 run_of_inv Nat.lt_wfRel.wf (Pu P R w s) (Good P (Lt P R w s)) Wt _ _ _ ⟨gs,w,sl,q,Sh,g,s,rfl,hC,O,rfl,fun _ _ h=>h,rfl,rfl,rfl⟩
theorem Ur{m m':Machine}{t K:Trace}{n:Nat}(h:runNT P n m t=(.next m',K)):runN P n m= .next m':=by rw [← runNT_fst P n m t,h]
def Ej(W:World):St:=⟨fun b=>W.heap[b]?,fun _=>none,false⟩
theorem Wk{W:World}{g:Goroutine}(h:(DZ P).ok (K1 P R) g (Ej W)):
  ∃M last o w' K,runNT P (M+1) (solo g W) #[]=(.ended o w',K)∧runN P M (solo g W)= .next last∧step P last= .ended o w'∧Good P (Lt P R W (Ej W)) last o w' K:=by
 have hC:Gs P #[g] W #[] (fun _=>0) (fun _=>False) g (Ej W):=by
  have V:∀{i:Nat} {a:Touch},touchAt #[] i=some a→False:=fun {i a} h=>by simp [touchAt,Trace.act?] at h
  refine⟨rfl,leavers_one P g,⟨fun i hi=>?_,fun i j hi Z bv=>by simp at hi Z;omega,fun i hi b hb=>hb.elim,fun b hb=>hb.elim,fun said=>?_,by simp,fun i _ b _ x a O=>(V O).elim,fun i _ b _ x a O=>(V O).elim⟩,fun i g hg=>by simp [Trace.g?] at hg,rfl⟩
  ·have:i=0:=by simp at hi;exact hi
   subst this;exact⟨fun b o U=>U,fun b o U=>(by cases U),fun b _=>rfl⟩
  ·rintro⟨i,j,_,⟨a,b,ag,_⟩,_⟩;simp [Trace.act?] at ag
 obtain⟨n,gs',w',al,K,bw,bz,g',s',Y,am,ap,av,a0,a1,a2⟩:=h #[g] W none #[] _ _ hC;obtain⟨N,last,o,a3,a4,k1,a5,a6,a7⟩:=ends (sl:=al) am ap;refine⟨n+N,last,o,a3,a4,?_,?_,a6,?_⟩
 ·rw [solo_eq_crowd,Nat.add_assoc,runNT_add,Y];exact k1
 ·have a8:=Ur Y;rw [solo_eq_crowd,runN_add,a8];exact a5
 ·obtain⟨v,e,⟨s2,a9,bb,bd,be,bi,bo⟩,r⟩:=a7;exact⟨v,e,⟨s2,a9,bb,fun b o hb=>bd b o (av b o hb),be.trans a0,bi.trans a1,bo.trans a2⟩,r⟩
end
end Pal
namespace Pal
open Go Go.Conc
theorem VI{P:Program}{Q:Goroutine→St→Prop}{E H:LH}{f:FuncId}{fn:Func}{c:Code}{vs:List Value}(U:P.funcs[f]? =some fn)(hb:fn.body=some c)(Z:fn.ntmps=fn.ntmps)(ag:vs.length≤fn.ntmps)
  (h:JL (DZ P) Q (base f) fn.ntmps (FM 0 vs) [] [.code c] [] (Ao E H [[]])):(DZ P).ok Q (G (Frame.enter P f vs.toArray .normal) []) (mk E H []):=by
 have he:Frame.enter P f vs.toArray .normal=fr (base f) (vs.toArray++Array.replicate (fn.ntmps - vs.length) undef) [] [.code c]:=by
  simp [Frame.enter,fr,U,hb,base];rfl
 rw [he];have V:mk E H []=Ao E H [[]]:=by unfold Ao;simp
 rw [V];refine h _ ⟨by simp;omega,fun t v ht=>?_⟩;obtain⟨_,K⟩:=Jt ht;have Y:t<vs.length:=by
  rcases Nat.lt_or_ge t vs.length with O | O
  ·exact O
  ·simp at K;have:=(List.getElem?_eq_some_iff.1 K).1;omega
 rw [Array.getD_eq_getD_getElem?,Array.getElem?_append_left (by simpa using Y)];simp at K;simp [K]
end Pal
namespace Pal
open Go Go.Conc Go.Proofs Go.ChangeShapes Go.WideShapes Go.ChangeAt Go.RowKit
open Go.Proofs.YtboibffcmhheiaaGreatDoor (Rows.laid_errors_errorType)
theorem Tryz.own:ownKnob Tryz.prog.godebug=none:=by kernel_rfl
theorem Tryz.laidOut:laidOutB Tryz.prog=true:=by kernel_rfl
theorem Tryz.SA:Tryz.prog.cellsOf 3=1:=by kernel_rfl
theorem WC{W:World}{a:Addr}{len cap:Nat}{K:List Int}(V:a.spot=none)(ap:len≤cap)(ag:len≤K.length)(al:∀i,i<K.length→W.cell? (a.add i)=some (.int .i64 (K.getD i 0))):
  Am rI (Ej W).E (some a) cap (K.take len)∧(K.take len).length=len:=by
 have Z:(K.take len).length=len:=by simp [Nat.min_eq_left ag]
 refine⟨⟨by omega,.inr ⟨a.block,a.off,?_,fun i x Y=>⟨[iV x],rfl,?_⟩⟩⟩,Z⟩
 ·obtain⟨b,o,s⟩:=a;simp only at V;subst V;rfl
 ·have hi:i<len:=by rw [← Z];exact(List.getElem?_eq_some_iff.1 Y).1
  have O:=al i (by omega);have am:K.getD i 0=x:=by
   rw [List.getElem?_take_of_lt hi] at Y;rw [List.getD_eq_getElem?_getD,Y];rfl
  rw [am,DN V] at O;unfold World.cell? at O;split at O
  ·rename_i c e f hW;simp only [Option.isSome_none,Bool.false_eq_true,if_false] at O;refine⟨c,e,f,hW,fun j w U=>?_⟩
   match j,U with
   | 0,U=>
    simp at U;subst U;show c[a.off+i*1+0]? =some (.int .i64 x);simpa using O
   | j+1,U=>simp at U
  ·cases O
theorem Ub{R:Value→St→Prop}{W w':World}{v:Value}(h:Lt Tryz.prog R W (Ej W) v w'):(∃s,R v s)∧Below W.heap.size W w':=by
 obtain⟨s,V,Y,Z,ht,ag,al⟩:=h;have hb:∀k,k<W.heap.size→w'.heap[k]? =W.heap[k]? :=fun k O=>by
  have K:(Ej W).E k=some W.heap[k]:=Array.getElem?_eq_getElem O;have U:=Y.e k _ (Z k _ K);rw [U,Array.getElem?_eq_getElem O]
 refine⟨⟨s,V⟩,⟨ag,ht,al,?_,hb⟩⟩;rcases Nat.eq_zero_or_pos W.heap.size with am | am
 ·omega
 ·have K:=hb (W.heap.size - 1) (by omega);have ap:W.heap[W.heap.size - 1]? =some W.heap[W.heap.size - 1]:=Array.getElem?_eq_getElem (by omega);rw [ap] at K;have U:=(Array.getElem?_eq_some_iff.1 K).1;omega
noncomputable def QG(os:Os):World:=
 let w0:=World.holding Tryz.prog os ⟨#[],#[],[]⟩
 {w0 with heap:=w0.heap.modify 0 fun
   | .cells _ t frozen=> .cells #[.iface 240 (.agg #[.pointer (some ⟨1,149,none⟩)])] t frozen
   | o=>o}
theorem T4(os:Os)(args:Array Value):laidMetH Tryz.prog [("errors.errorType",Go.Proofs.YtboibffcmhheiaaGreatDoor.Rows.laid_errors_errorType)] ((QG os).forCall (fun _ _=>0) ⟨#[],args,[]⟩).memory:=
 laidMetH_of_parts (laidMet_nil _ _) (by kernel_rfl)
end Pal
namespace Pal
open Go Go.Conc
theorem oi{α:Type}{a b:α}(h:some a=some b):a=b:=Option.some.inj h
theorem bs{α β:Type}{o:Option α}{f:α→Option β}{r:β}(h:o.bind f=some r):∃x,o=some x∧f x=some r:=bind_some h
def G2(L:Env):Env→List (Option Value)
 | []=> []
 | (t,_)::L'=>look L t::G2 L L'
def G6:Env→List (Option Value)
 | []=> []
 | (_,v)::L'=>some v::G6 L'
theorem M7{L:Env}:∀{L':Env},G2 L L'=G6 L'→Sub L' L
 | [],_=>trivial
 | (t,v)::L',h=>by
  simp only [G2,G6,List.cons.injEq] at h
  exact⟨h.1,M7 h.2⟩
section
variable {P:Program}{J:Judge P}{Q:Goroutine→St→Prop}{b:Frame}{n:Nat}{L L':Env}{ds:List Deferred}{k k':List Item}{cs:List Frame}{s:St}{ops:Array Oper}{i:Nat}{rest:List Nat}{v:Value}
variable {d:Option Tmp}{op:Op}{ty:TypeId}{p:String}{af:Array Edge}{g:Option (Nat×Bool)}
theorem IA(L':Env)(h:G2 L L'=G6 L')(k':JL J Q b n L' ds k cs s):JL J Q b n L ds k cs s:=Gh (M7 h) k'
theorem Ax(k':JL J Q b n L' ds k cs s)(h:G2 L L'=G6 L'):JL J Q b n L ds k cs s:=Gh (M7 h) k'
def EA(b:Frame)(n:Nat)(L:Env)(ops:Array Oper)(i:Nat):Option Oper:=
 match H2 ops.toList i with
 | some ⟨d,op,ty,p,af,g⟩=>match Bh L ops ⟨d,op,ty,p,af,g⟩ with
  | some true=>match CX b n ⟨d,op,ty,p,af,g⟩ with
   | true=>some ⟨d,op,ty,p,af,g⟩
   | false=>none
  | _=>none
 | none=>none
theorem IY{o:Oper}(h:EA b n L ops i=some o):ops[i]? =some o∧Bh L ops o=some true∧CX b n o=true:=by
 unfold EA at h;split at h
 ·rename_i K;rw [JJ,Array.getElem?_toList] at K;split at h
  ·rename_i hw;split at h
   ·rename_i O;cases h;exact⟨K,hw,O⟩
   ·cases h
  ·cases h
 ·cases h
theorem AE(K:EA b n L ops i=some ⟨d,op,ty,p,af,g⟩)(h:∀ρ,EF L ρ→Yl P ⟨d,op,ty,p,af,g⟩ ρ s v)(O:JL J Q b n (AF L d v) ds (.inRegion ops rest::k) cs s):
  JL J Q b n L ds (.inRegion ops (i::rest)::k) cs s:=
 let ⟨U,V,Y⟩:=IY K
 Bb U V Y h O
theorem J2{f:FuncId}{fn:Func}{c:Code}{E:LH}{vs:List Value}{B:Seg}{R:Value→LH→Seg→Prop}(O:P.funcs[f]? =some fn)(hb:fn.body=some c)(U:Nat.ble vs.length fn.ntmps=true)
  (h:∀(Q:Goroutine→St→Prop) (K:Frame) (cs:List Frame) (H:LH),Ay E H [B]→(∀v E' S' B',Le E E'→S'.flatten=B'→R v E' B'→Ay E' H S'→J.ok Q (G (K.finish v) cs) (Ao E' H S'))→JL J Q (base f) fn.ntmps (FM 0 vs) [] [.code c] (K::cs) (Ao E H [B])):AM J f vs E B R:=
 AM.enter O hb (Nat.le_of_ble_eq_true U) h
def NX(n:Nat)(L:Env)(ops:Array Oper)(i:Nat):Option Env:=
 match H2 ops.toList i with
 | some ⟨d,op,ty,p,af,g⟩=>match Bh L ops ⟨d,op,ty,p,af,g⟩ with
  | some true=>match BI n d with
   | true=>match Je L op with
    | some v=>match d with
     | some d=>some ((d,v)::L)
     | none=>some L
    | none=>none
   | false=>none
  | some false=>match BI n d with
   | true=>match d with
    | some d=>some ((d,undef)::L)
    | none=>some L
   | false=>none
  | none=>none
 | none=>none
def F6(n:Nat)(L:Env)(ops:Array Oper)(i:Nat):Option Oper:=
 match H2 ops.toList i with
 | some ⟨d,op,ty,p,af,g⟩=>match Bh L ops ⟨d,op,ty,p,af,g⟩ with
  | some true=>match BI n d with
   | true=>some ⟨d,op,ty,p,af,g⟩
   | false=>none
  | _=>none
 | none=>none
theorem Ov{o:Oper}(h:F6 n L ops i=some o):ops[i]? =some o∧Bh L ops o=some true∧BI n o.dst=true:=by
 unfold F6 at h;split at h
 ·rename_i K;rw [JJ,Array.getElem?_toList] at K;split at h
  ·rename_i hw;split at h
   ·rename_i O;cases h;exact⟨K,hw,O⟩
   ·cases h
  ·cases h
 ·cases h
theorem WE(h:NX n L ops i=some L'):∃o,ops[i]? =some o∧BI n o.dst=true∧((∃v,Bh L ops o=some true∧Je L o.op=some v∧L'=AF L o.dst v)∨(Bh L ops o=some false∧L'=AF L o.dst undef)):=by
 unfold NX at h;split at h
 ·rename_i d op ty p af g O;rw [JJ,Array.getElem?_toList] at O;refine⟨_,O,?_⟩;split at h
  ·rename_i hw;split at h
   ·rename_i K;refine⟨K,.inl ?_⟩;split at h
    ·rename_i v U;refine⟨v,hw,U,?_⟩;cases d with
     | none=>cases h;rfl
     | some d=>cases h;rfl
    ·cases h
   ·cases h
  ·rename_i hw;split at h
   ·rename_i K;refine⟨K,.inr ⟨hw,?_⟩⟩;cases d with
    | none=>cases h;rfl
    | some d=>cases h;rfl
   ·cases h
  ·cases h
 ·cases h
variable {m:Nat}{D:Nat→Bool}{fuel:Nat}{listed:Array Bool}
theorem Cb(i:Nat)(K:DT ops m=true)(O:s.q=false)(h:NX n L ops i=some L')
  (U:AX J Q b n ds ops k cs m D fuel (Bi listed i) L' s) (V:Fx ops listed m i=true:=by decide+kernel):AX J Q b n ds ops k cs m D (fuel+1) listed L s:=by
 obtain⟨o,Y,Z,⟨v,hw,ag,rfl⟩ | ⟨hw,rfl⟩⟩:=WE h
 ·exact Pc i Y K V O hw Z (fun ρ al s' _=>MC al ag) U
 ·exact aZ i Y K V O hw Z U
theorem BC(i:Nat)(K:DT ops m=true)(O:s.q=false)(U:F6 n L ops i=some ⟨d,op,ty,p,af,g⟩)
  (V:∀ρ,EF L ρ→∀s':St,(∀x o,(BL D s).E x=some o→s'.E x=some o)→Yl P ⟨d,op,ty,p,af,g⟩ ρ s' v)
  (Y:AX J Q b n ds ops k cs m D fuel (Bi listed i) (AF L d v) s) (Z:Fx ops listed m i=true:=by decide+kernel):AX J Q b n ds ops k cs m D (fuel+1) listed L s:=by
 obtain⟨ag,al,am⟩:=Ov U;exact Pc i ag K Z O al am V Y
end
end Pal
namespace Pal
open Go Go.Conc
abbrev Jn(E H E':LH)(S:List Seg)(K L:Env)(s:St)(R:Prop):Prop:=L=K∧s=Ao E' H S∧Le E E'∧Ay E' H S∧R
abbrev Jm(E H E':LH)(S:List Seg)(K L:Env)(s:St):Prop:=L=K∧s=Ao E' H S∧Le E E'∧Ay E' H S
def NU(L:Env):List ResultVar→Option (List Value)
 | []=>some []
 | .tmp t::rs=>match look L t with
  | some v=>match NU L rs with
   | some vs=>some (v::vs)
   | none=>none
  | none=>none
 | _=>none
theorem RQ{P:Program}{L:Env}{s:St}:∀{rs:List ResultVar} {vs:List Value},NU L rs=some vs→RV P L s rs vs
 | [],vs,h=>by cases h;trivial
 | .tmp t::rs,vs,h=>by
  unfold NU at h
  split at h
  ·rename_i v K
   split at h
   ·rename_i ws hw;cases h;exact⟨K,RQ hw⟩
   ·cases h
  ·cases h
 | .cell _ _::_,_,h=>by cases h
section
variable {P:Program}{J:Judge P}{Q:Goroutine→St→Prop}{b:Frame}{n:Nat}{L L':Env}{ds:List Deferred}{k k':List Item}{cs:List Frame}{s:St}{ops:Array Oper}{i:Nat}{rest:List Nat}{v:Value}{E H:LH}{S:List Seg}
variable {d:Option Tmp}{op:Op}{x y:Operand}{t ft ty e:TypeId}{p:String}{af:Array Edge}{g:Option (Nat×Bool)}
theorem AA{c:Frame}{fn:Func}{vs:List Value}(O:P.funcs[b.fn]? =some fn)(K:(b.kind== .normal&&b.roundOf.isNone)=true)(U:NU L fn.results.toList=some vs)(h:J.ok Q (G (c.finish (MR vs)) cs) s):JL J Q b n L [] (.code .ret::k) (c::cs) s:=by
 simp only [Bool.and_eq_true,beq_iff_eq,Option.isNone_iff_eq_none] at K;exact JL.ret K.1 K.2 (Cs.list O rfl (RQ U)) h
theorem BO{f:FuncId}{args:Array Operand}{ats:Array TypeId}{vs:List Value}{R:Value→LH→Seg→Prop}
  (O:AM J f vs E [] R) (U:EA b n L ops i=some ⟨d,.call ⟨.value (.func f),args,ats⟩,ty,p,af,g⟩) (V:evs L args.toList=some vs) (hb:D2 P f=true)
  (Y:Ay E H S) (Z:∀v E' seg',Le E E'→R v E' seg'→Ay E' H (S++ [seg'])→JL J Q b n (AF L d v) ds (.inRegion ops rest::k) cs (Ao E' H (S++ [seg']))):
  JL J Q b n L ds (.inRegion ops (i::rest)::k) cs (Ao E H S):=by
 obtain⟨ag,al,K⟩:=IY U;refine JS.call O ag al ?_ hb V Y Z;simp only [CX,Bool.and_eq_true] at K ⊢;exact⟨K.1,K.2.1⟩
theorem BF{f:FuncId}{args:Array Operand}{ats:Array TypeId}{vs:List Value}{v:Value}
  (O:AM J f vs E [] (fun w E' B'=>w=v∧B'= [])) (U:EA b n L ops i=some ⟨d,.call ⟨.value (.func f),args,ats⟩,ty,p,af,g⟩) (V:evs L args.toList=some vs) (hb:D2 P f=true)
  (K:Ay E H S) (Y:∀E',Le E E'→Ay E' H (S++ [[]])→JL J Q b n (AF L d v) ds (.inRegion ops rest::k) cs (Ao E' H (S++ [[]]))):
  JL J Q b n L ds (.inRegion ops (i::rest)::k) cs (Ao E H S):=BO O U V hb K (by rintro _ E' _ hle ⟨rfl,rfl⟩ K;exact Y E' hle K)
theorem B9{f:FuncId}{args:Array Operand}{ats:Array TypeId}{vs:List Value}{seg:Seg}{R:Value→LH→Seg→Prop}(j:Nat)
  (O:AM J f vs E seg R) (U:EA b n L ops i=some ⟨d,.call ⟨.value (.func f),args,ats⟩,ty,p,af,g⟩) (V:evs L args.toList=some vs) (hb:D2 P f=true)
  (Y:Ay E H S) (Z:S[j]? =some seg) (ag:∀v E' seg',Le E E'→R v E' seg'→Ay E' H (S.set j seg')→JL J Q b n (AF L d v) ds (.inRegion ops rest::k) cs (Ao E' H (S.set j seg'))):
  JL J Q b n L ds (.inRegion ops (i::rest)::k) cs (Ao E H S):=by
 obtain⟨al,am,K⟩:=IY U;refine OE j O al am ?_ hb V Y Z ag;simp only [CX,Bool.and_eq_true] at K ⊢;exact⟨K.1,K.2.1⟩
def K9(K:Array Field)(i:Nat):Option (Nat×TypeId):=match K[i]? with
 | some f=>some (f.offset,f.type)
 | none=>none
theorem Bc{r m m':Int}{u:TypeId}(h:Au (m+m')=some r)(K:EA b n L ops i=some ⟨d,.binOp .add t x y u,ty,p,af,g⟩)(O:ev L x=some (iV m))(U:ev L y=some (iV m'))
  (V:JL J Q b n (AF L d (iV r)) ds (.inRegion ops rest::k) cs s):JL J Q b n L ds (.inRegion ops (i::rest)::k) cs s:=AE K (fun _ q=>Mz (q _ _ O) (q _ _ U) h) V
theorem Cd{r m m':Int}{u:TypeId}(h:Au (m - m')=some r)(K:EA b n L ops i=some ⟨d,.binOp .sub t x y u,ty,p,af,g⟩)(O:ev L x=some (iV m))(U:ev L y=some (iV m'))
  (V:JL J Q b n (AF L d (iV r)) ds (.inRegion ops rest::k) cs s):JL J Q b n L ds (.inRegion ops (i::rest)::k) cs s:=AE K (fun _ q=>Dc (q _ _ O) (q _ _ U) h) V
theorem Be{a:Option Addr}{e:TypeId}{l c:Nat}{ats:Array TypeId}(ht:P.underlying t=some (.slice e))(K:EA b n L ops i=some ⟨d,.call ⟨.builtin .len,#[x],ats⟩,ty,p,af,g⟩)(O:ats[0]? =some t)(U:ev L x=some (.slice a l c))
  (V:JL J Q b n (AF L d (.int .i64 l)) ds (.inRegion ops rest::k) cs s):JL J Q b n L ds (.inRegion ops (i::rest)::k) cs s:=AE K (fun _ q=>Yl.len O ht (q _ _ U)) V
theorem BM{bk o O off:Nat}{U:Array Field}{V:Nat}(ht:P.underlying t=some (.struct U))(Y:BE P ft=some (O+1))(Z:EA b n L ops i=some ⟨d,.fieldAddr t x V,ty,p,af,g⟩)(ag:ev L x=some (.pointer (some ⟨bk,o,none⟩)))(K:K9 U V=some (off,ft))
  (al:JL J Q b n (AF L d (.pointer (some ⟨bk,o+off,none⟩))) ds (.inRegion ops rest::k) cs s):
  JL J Q b n L ds (.inRegion ops (i::rest)::k) cs s:=by
 unfold K9 at K;split at K
 ·rename_i f am;cases K;refine AE Z (fun ρ h=>Tf (a:=⟨bk,o,none⟩) O f.offset ht Y am rfl rfl (h _ _ ag)) ?_;rw [DN rfl];exact al
 ·cases K
theorem BH{bk o:Nat}{ws:List Value}(j:Nat)(K:At E bk o ws)(ht:Df P t=some false)(O:EA b n L ops i=some ⟨d,.load t x,ty,p,af,g⟩)(U:ev L x=some (.pointer (some ⟨bk,o+j,none⟩)))(V:ws[j]? =some v)
  (Y:JL J Q b n (AF L d v) ds (.inRegion ops rest::k) cs (Ao E H S)):
  JL J Q b n L ds (.inRegion ops (i::rest)::k) cs (Ao E H S):=
 AE O (fun _ h=>Yl.load ht (h _ _ U) (At.J8 K V)) Y
theorem Pp{bk off:Nat}{c:Array Value}(j:Nat)(K:Ay E H S)(O:BE P t=some v.cells.size)(U:EA b n L ops i=some ⟨d,.store t x y,ty,p,af,g⟩)
  (V:ev L x=some (.pointer (some ⟨bk,off,none⟩))) (Y:ev L y=some v) (Z:S[j]? =some [(bk,.cells c e (0,0))])
  (h:Ay E H (S.set j [(bk,.cells (A1 c off v.cells.toList) e (0,0))])→JL J Q b n (AF L d undef) ds (.inRegion ops rest::k) cs (Ao E H (S.set j [(bk,.cells (A1 c off v.cells.toList) e (0,0))])))
  (hle:off+v.cells.size≤c.size:=by exact Nat.le_of_ble_eq_true rfl) (ag:∀u∈v.cells.toList,CV u=true:=by simp [Value.cells,CV]):
  JL J Q b n L ds (.inRegion ops (i::rest)::k) cs (Ao E H S):=by
 obtain⟨al,am,ap⟩:=IY U;exact JS.store j al am ap K V Y O ag Z hle h
theorem BQ{bk o:Nat}{ws:List Value}(K:At E bk o ws)(ht:Df P t=some true)(O:BE P t=some ws.length)(U:EA b n L ops i=some ⟨d,.load t x,ty,p,af,g⟩)(V:ev L x=some (.pointer (some ⟨bk,o,none⟩)))
  (Y:JL J Q b n (AF L d (.agg ws.toArray)) ds (.inRegion ops rest::k) cs (Ao E H S)):
  JL J Q b n L ds (.inRegion ops (i::rest)::k) cs (Ao E H S):=
 AE U (fun _ h=>FY ht O (h _ _ V) (At.aa K)) Y
variable {m:Nat}{D:Nat→Bool}{fuel:Nat}{listed:Array Bool}
theorem Cc{bk o O off:Nat}{U:Array Field}{V:Nat}(i:Nat)(Y:DT ops m=true)(ht:P.underlying t=some (.struct U))(Z:BE P ft=some (O+1))(ag:s.q=false)(al:F6 n L ops i=some ⟨d,.fieldAddr t x V,ty,p,af,g⟩)(am:ev L x=some (.pointer (some ⟨bk,o,none⟩)))(K:K9 U V=some (off,ft))
  (ap:AX J Q b n ds ops k cs m D fuel (Bi listed i) (AF L d (.pointer (some ⟨bk,o+off,none⟩))) s) (av:Fx ops listed m i=true:=by decide+kernel):AX J Q b n ds ops k cs m D (fuel+1) listed L s:=by
 unfold K9 at K;split at K
 ·rename_i f a0;cases K;refine BC i Y ag al (fun ρ h _ _=>Tf (a:=⟨bk,o,none⟩) O f.offset ht Z a0 rfl rfl (h _ _ am)) ?_ av;rw [DN rfl];exact ap
 ·cases K
theorem Cy{bk o:Nat}{ws:List Value}(i:Nat)(K:DT ops m=true)(j:Nat)(O:At (BL D s).E bk o ws)(ht:Df P t=some false)(U:s.q=false)(V:F6 n L ops i=some ⟨d,.load t x,ty,p,af,g⟩)(Y:ev L x=some (.pointer (some ⟨bk,o+j,none⟩)))(Z:ws[j]? =some v)
  (ag:AX J Q b n ds ops k cs m D fuel (Bi listed i) (AF L d v) s) (al:Fx ops listed m i=true:=by decide+kernel):AX J Q b n ds ops k cs m D (fuel+1) listed L s:=
 BC i K U V (fun _ h _ hs=>Yl.load ht (h _ _ Y) (At.Pf O hs Z)) ag al
theorem Fe{bk o:Nat}{ws:List Value}(i:Nat)(K:DT ops m=true)(O:At (BL D s).E bk o ws)(ht:Df P t=some true)(U:BE P t=some ws.length)(V:s.q=false)(Y:F6 n L ops i=some ⟨d,.load t x,ty,p,af,g⟩)(Z:ev L x=some (.pointer (some ⟨bk,o,none⟩)))
  (ag:AX J Q b n ds ops k cs m D fuel (Bi listed i) (AF L d (.agg ws.toArray)) s) (al:Fx ops listed m i=true:=by decide+kernel):AX J Q b n ds ops k cs m D (fuel+1) listed L s:=
 BC i K V Y (fun _ h _ hs=>FY ht U (h _ _ Z) (At.O0 O hs)) ag al
end
end Pal
namespace Pal
open Go Go.Conc
abbrev A2:=List (List Int)×List (List Int)
abbrev BZ:=List (List Int)×List (List Int)×List Nat
abbrev Ch:=Int×List Int×Nat
abbrev Bu:=Int×Int×List Ch
abbrev AI:=List (Int×Int)
abbrev B8:=List Int×Int×Nat
abbrev An:=Option Addr
abbrev Dq:Rp Ch:=rP rI (rP (rL rI) (rN .u16))
abbrev Cx:Rp Bu:=rP rI (rP rI (rL Dq))
abbrev Bo:Rp (Int×Int):=rP rI rI
theorem ip{α:Type}{p:Prop} [Decidable p] {A B:Option α}{r:α}(h:(if p then A else B)=some r)(c:p):A=some r:=by rwa [if_pos c] at h
theorem im{α:Type}{p:Prop} [Decidable p] {A B:Option α}{r:α}(h:(if p then A else B)=some r)(c:¬p):B=some r:=by rwa [if_neg c] at h
theorem ib{α:Type}{c:Bool}{A B:Option α}{r:α}(h:(if c=true then A else B)=some r)(K:c=false):B=some r:=by subst K;simpa using h
def Pt(n:Nat)(ops:Array Oper):List Nat→Nat→Env→Option (Nat×Env)
 | [],f,L=>some (f,L)
 | i::l,f+1,L=>match NX n L ops i with
  | some L'=>Pt n ops l f L'
  | none=>none
 | _::_,0,_=>none
def Pg(ops:Array Oper)(m:Nat):Array Bool→List Nat→Bool
 | _,[]=>true
 | listed,i::l=>Fx ops listed m i&&Pg ops m (Bi listed i) l
def Tz:Array Bool→List Nat→Array Bool
 | listed,[]=>listed
 | listed,i::l=>Tz (Bi listed i) l
theorem A0{P:Program}{J:Judge P}{Q:Goroutine→St→Prop}{b:Frame}{n:Nat}{ds:List Deferred}{k:List Item}{cs:List Frame}{s:St}{ops:Array Oper}{m:Nat}{D:Nat→Bool}{L':Env}{U:Nat}(V:DT ops m=true)(Y:s.q=false):
  ∀(l:List Nat) {fuel:Nat} {listed:Array Bool} {L:Env},Pt n ops l fuel L=some (U,L')→AX J Q b n ds ops k cs m D U (Tz listed l) L' s→(K:Pg ops m listed l=true:=by decide+kernel)→AX J Q b n ds ops k cs m D fuel listed L s
 | [],fuel,listed,L,h,O,_=>by cases h;exact O
 | i::l,fuel,listed,L,h,O,K=>by
  cases fuel with
  | zero=>cases h
  | succ fuel=>
   unfold Pg at K;rw [Bool.and_eq_true] at K;unfold Pt at h;split at h
   ·rename_i Z e;exact Cb i V Y e (A0 V Y l h O K.2) K.1
   ·cases h
theorem zg{P:Program}{J:Judge P}{Q:Goroutine→St→Prop}{b:Frame}{n:Nat}{L L':Env}{ds:List Deferred}{k k':List Item}{cs:List Frame}{s:St}(m:Nat)(h:Nf b n m k L=some (k',L'))(K:JL J Q b n L' ds k' cs s):JL J Q b n L ds k cs s:=JL.go m h K
abbrev bX(r:Nat)(c:Array Value)(t:TypeId):Seg:= [(r,.cells c t (0,0))]
end Pal
namespace Pal
open Go Go.Conc
section
variable {P:Program}{J:Judge P}{Q:Goroutine→St→Prop}{b:Frame}{n:Nat}{L L':Env}{ds:List Deferred}{k:List Item}{cs:List Frame}{s:St}{ops:Array Oper}{E H:LH}{S:List Seg}
variable {α:Type}{A B:Option α}{r:α}
theorem AL{c:Operand}{x y:Code}{p:Prop} [Decidable p] (K:(if p then A else B)=some r)(O:p→A=some r→JL J Q b n L ds (.code x::k) cs s)(U:¬p→B=some r→JL J Q b n L ds (.code y::k) cs s)
  (V:ev L c=some (.bool (decide p)):=by exact rfl):JL J Q b n L ds (.code (.cond c x y)::k) cs s:=Pb V (fun h=>O h (ip K h)) fun h=>U h (im K h)
theorem BJ{c:Operand}{x y:Code}{t:Bool}(K:(if t=true then A else B)=some r)(O:t=true→A=some r→JL J Q b n L ds (.code x::k) cs s)(U:t=false→B=some r→JL J Q b n L ds (.code y::k) cs s)
  (V:ev L c=some (.bool t):=by exact rfl):JL J Q b n L ds (.code (.cond c x y)::k) cs s:=Q4 V (fun h=>O h (ip K h)) fun h=>U h (ib K h)
theorem Eo{q:Prop} [Decidable q] (i:Nat)(K:(if q then A else B)=some r)(O:q→A=some r→JL J Q b n (AF L (some i) (.bool true)) ds k cs s)(U:¬q→B=some r→JL J Q b n (AF L (some i) (.bool false)) ds k cs s)
  (V:look L i=some (.bool (decide q)):=by exact rfl):JL J Q b n L ds k cs s:=U4 V (fun h=>O h (ip K h)) fun h=>U h (im K h)
theorem Dy{t:Bool}(i:Nat)(K:(if t=true then A else B)=some r)(O:t=true→A=some r→JL J Q b n (AF L (some i) (.bool true)) ds k cs s)(U:t=false→B=some r→JL J Q b n (AF L (some i) (.bool false)) ds k cs s)
  (V:look L i=some (.bool t):=by exact rfl):JL J Q b n L ds k cs s:=Vs V (fun h=>O h (ip K h)) fun h=>U h (ib K h)
theorem CP{K O:Type}{c:Code}{body:K→Option (Bf K O)}{f:Nat}{U:K}{a:O}(Y:iter body f U=some a)(I:Env→St→K→Prop)(Z:I L' s U)
  (round:∀L s x,I L s x→(∀V,body x=some (.done V)→V=a)→(∃st,body x=some st)→(∀L' s' x',I L' s' x'→body x=some (.more x')→JL J Q b n L' ds (.inLoop c::k) cs s')→JL J Q b n L ds (.code c:: .inLoop c::k) cs s)
  (ag:G2 L L'=G6 L':=by exact rfl):JL J Q b n L ds (.code (.loop c)::k) cs s:=IA L' ag (QX Y I Z round)
variable {m:Nat}{D:Nat→Bool}{fuel:Nat}{listed:Array Bool}
def NJ(ops:Array Oper):Array Bool→List Nat→Bool
 | _,[]=>true
 | l,i::t=>Region.ready .any ops l== [i]&&NJ ops (Bi l i) t
theorem R8:∀{t:List Nat} {l:Array Bool},NJ ops l t=true→∀u,Region.linearise.go .any ops t.length u l []=t
 | [],_,_,_=>rfl
 | i::t,l,h,u=>by
  unfold NJ at h
  rw [Bool.and_eq_true,beq_iff_eq] at h
  exact YT h.1 (R8 h.2) u
theorem Co(t:List Nat)(O:JL J Q b n L ds (.inRegion ops t::k) cs s)(K:(Pm m listed&&NJ ops listed t&&(fuel+1==t.length))=true:=by decide+kernel):AX J Q b n ds ops k cs m D (fuel+1) listed L s:=by
 rw [Bool.and_eq_true,Bool.and_eq_true,beq_iff_eq] at K;exact AX.leaf K.1.1 (by rw [K.2];exact R8 K.1.2) O
theorem C7(m:Nat){id:Nat}(h:DT ops m=true→AX J Q b n ds ops k cs m EJ ops.size (Array.replicate ops.size false) L (Ao E H S))(hm:P.follows .mixedOrders=true:=by exact rfl)(K:(b.kind != .early)=true:=by exact rfl)(ht:DT ops m=true:=by decide+kernel):
  JL J Q b n L ds (.code (.region id ops true)::k) cs (Ao E H S):=Wi m hm K ht h
theorem Dj(m:Nat)(bks:List Nat){id:Nat}(K:Gn S bks)(O:Ay E H S)(h:DT ops m=true→AX J Q b n ds ops k cs m (A5 bks) ops.size (Array.replicate ops.size false) L (Ao E H S))(hm:P.follows .mixedOrders=true:=by exact rfl)(U:(b.kind != .early)=true:=by exact rfl)(ht:DT ops m=true:=by decide+kernel):
  JL J Q b n L ds (.code (.region id ops true)::k) cs (Ao E H S):=Ww m bks K O hm U ht h
theorem CG{α:Type}{pp:Rp α}{a:Option Addr}{c:Nat}{xs:List α}{xv:α}{K:Int}{d:Option Tmp}{x y:Operand}{t ty e:TypeId}{p:String}{af:Array Edge}{g:Option (Nat×Bool)}{kd:IntKind}(i:Nat)(O:Am pp E a c xs)(U:ix xs K=some xv)(V:DT ops m=true)(ht:P.underlying t=some (.slice e))(Y:BE P e=some pp.n)
  (h:∀bk o ws,pp.r E ws xv→At E bk o ws→AX J Q b n ds ops k cs m D fuel (Bi listed i) (AF L d (.pointer (some ⟨bk,o,none⟩))) s)
  (Z:ops[i]? =some ⟨d,.indexAddr t x y,ty,p,af,g⟩:=by exact rfl) (ag:Fx ops listed m i=true:=by decide+kernel) (al:s.q=false:=by exact rfl)
  (hw:Bh L ops ⟨d,.indexAddr t x y,ty,p,af,g⟩=some true:=by exact rfl) (am:BI n d=true:=by exact rfl)
  (ap:ev L x=some (.slice a xs.length c):=by exact rfl) (av:ev L y=some (.int kd K):=by exact rfl):
  AX J Q b n ds ops k cs m D (fuel+1) listed L s:=Y0 i O U Z V ag al hw am ap av ht Y h
end
end Pal
namespace Pal
open Go Go.Conc
section
variable {P:Program}{J:Judge P}{Q:Goroutine→St→Prop}{b:Frame}{n:Nat}{ds:List Deferred}{ops:Array Oper}{k:List Item}{cs:List Frame}{fuel:Nat}{D:Nat→Bool}{listed:Array Bool}{L L':Env}{s:St}{xl:List Nat}
variable {d:Option Tmp}{op:Op}{ty:TypeId}{p:String}{af:Array Edge}{g:Option (Nat×Bool)}{v:Value}
theorem GG(i:Nat)(pure:Bool)(K:s.q=false)(O:F6 n L ops i=some ⟨d,op,ty,p,af,g⟩)
  (U:∀ρ,EF L ρ→∀s':St,(pure=false→∀x o,(BL D s).E x=some o→s'.E x=some o)→Yl P ⟨d,op,ty,p,af,g⟩ ρ s' v)
  (V:FC J Q b n ds ops k cs (A5 xl) D fuel (Bi listed i) (AF L d v) s) (Y:Ka ops listed xl pure i=true:=by decide+kernel):FC J Q b n ds ops k cs (A5 xl) D (fuel+1) listed L s:=by
 obtain⟨Z,ag,al⟩:=Ov O;exact SW i pure Z Y K ag al U V
def PR(n:Nat)(L:Env)(ops:Array Oper)(i:Nat):Option Env:=
 match H2 ops.toList i with
 | some ⟨d,op,ty,p,af,g⟩=>match Bh L ops ⟨d,op,ty,p,af,g⟩ with
  | some true=>match BI n d with
   | true=>match Je L op with
    | some v=>match d with
     | some d=>some ((d,v)::L)
     | none=>some L
    | none=>none
   | false=>none
  | _=>none
 | none=>none
theorem WH{i:Nat}(h:PR n L ops i=some L'):∃o v,ops[i]? =some o∧BI n o.dst=true∧Bh L ops o=some true∧Je L o.op=some v∧L'=AF L o.dst v:=by
 unfold PR at h;split at h
 ·rename_i d op ty p af g K;rw [JJ,Array.getElem?_toList] at K;split at h
  ·rename_i hw;split at h
   ·rename_i O;split at h
    ·rename_i v U;refine⟨_,v,K,O,hw,U,?_⟩;cases d with
     | none=>cases h;rfl
     | some d=>cases h;rfl
    ·cases h
   ·cases h
  ·cases h
 ·cases h
theorem Bs(i:Nat)(K:s.q=false)(h:PR n L ops i=some L')
  (O:FC J Q b n ds ops k cs (A5 xl) D fuel (Bi listed i) L' s) (U:Ka ops listed xl true i=true:=by decide+kernel):FC J Q b n ds ops k cs (A5 xl) D (fuel+1) listed L s:=by
 obtain⟨o,v,V,Y,hw,Z,rfl⟩:=WH h;exact SW i true V U K hw Y (fun ρ ag s' _=>MC ag Z) O
end
end Pal
namespace Pal
open Go Go.Conc
section
variable {P:Program}{J:Judge P}{Q:Goroutine→St→Prop}{b:Frame}{n:Nat}{L L':Env}{ds:List Deferred}{k:List Item}{cs:List Frame}{s:St}{ops:Array Oper}{E H:LH}{S:List Seg}{i i2:Nat}{rest:List Nat}
variable {d d2:Option Tmp}{x y x2:Operand}{t t2 ft u ty ty2 e:TypeId}{p p2:String}{af af2:Array Edge}{g g2:Option (Nat×Bool)}{v w:Value}
theorem B7(O:Ay E H S)(h:∀r E',Le E E'→At E' r 0 v.cells.toList→Ay E' H (S++ [[]])→JL J Q b n (AF L d (.pointer (some ⟨r,0,none⟩))) ds (.inRegion ops rest::k) cs (Ao E' H (S++ [[]])))
  (U:EA b n L ops i=some ⟨d,.box e x,ty,p,af,g⟩:=by exact rfl) (V:ev L x=some v:=by exact rfl):JL J Q b n L ds (.inRegion ops (i::rest)::k) cs (Ao E H S):=by
 obtain⟨Y,Z,ag⟩:=IY U;refine JS.box Y Z ag O V fun r al=>C3 (bk:=r) (c:=v.cells) (e:=e) (f:=(0,0)) S.length al (by simp) fun E' hle am K=>?_;have ap:(S++ [[(r,Obj.cells v.cells e (0,0))]]).set S.length []=S++ [[]]:=by simp
 rw [ap] at K ⊢;exact h r E' hle am K
theorem CU{z:Value}(K:Ay E H S)(O:zeroOf P e=some z)(h:∀r,Ay E H (S++ [[(r,.cells z.cells e (0,0))]])→JL J Q b n (AF L d (.pointer (some ⟨r,0,none⟩))) ds (.inRegion ops rest::k) cs (Ao E H (S++ [[(r,.cells z.cells e (0,0))]])))
  (U:EA b n L ops i=some ⟨d,.alloc e,ty,p,af,g⟩:=by exact rfl):JL J Q b n L ds (.inRegion ops (i::rest)::k) cs (Ao E H S):=by
 obtain⟨V,Y,Z⟩:=IY U;exact JS.alloc V Y Z K O h
theorem BY{bk off K:Nat}{c:Array Value}(j:Nat)(O:Ay E H S)(U:BE P t=some K)
  (h:Ay E H (S.set j [(bk,.cells (A1 c off v.cells.toList) e (0,0))])→JL J Q b n (AF L d undef) ds (.inRegion ops rest::k) cs (Ao E H (S.set j [(bk,.cells (A1 c off v.cells.toList) e (0,0))])))
  (V:EA b n L ops i=some ⟨d,.store t x y,ty,p,af,g⟩:=by exact rfl) (Y:ev L x=some (.pointer (some ⟨bk,off,none⟩)):=by exact rfl) (Z:ev L y=some v:=by exact rfl) (ag:S[j]? =some [(bk,.cells c e (0,0))]:=by exact rfl)
  (al:K=v.cells.size:=by exact rfl) (hle:off+v.cells.size≤c.size:=by exact Nat.le_of_ble_eq_true rfl) (am:v.cells.toList.all CV=true:=by first | exact rfl | simp [Value.cells,CV]):
  JL J Q b n L ds (.inRegion ops (i::rest)::k) cs (Ao E H S):=Pp j O (by rw [← al];exact U) V Y Z ag h hle (List.all_eq_true.1 am)
theorem JL.fl{bk o o1 U off:Nat}{K:Array Field}{O:Nat}{ws:List Value}(j:Nat)(V:At E bk o ws)(ht:P.underlying t=some (.struct K))(Y:BE P ft=some (U+1))(Z:Df P t2=some false)
  (ag:JL J Q b n (AF (AF L d (.pointer (some ⟨bk,o1+off,none⟩))) d2 v) ds (.inRegion ops rest::k) cs (Ao E H S))
  (al:EA b n L ops i=some ⟨d,.fieldAddr t x O,ty,p,af,g⟩:=by exact rfl) (am:ev L x=some (.pointer (some ⟨bk,o1,none⟩)):=by exact rfl) (ap:K9 K O=some (off,ft):=by exact rfl)
  (av:EA b n (AF L d (.pointer (some ⟨bk,o1+off,none⟩))) ops i2=some ⟨d2,.load t2 x2,ty2,p2,af2,g2⟩:=by exact rfl) (a0:ev (AF L d (.pointer (some ⟨bk,o1+off,none⟩))) x2=some (.pointer (some ⟨bk,o+j,none⟩)):=by exact rfl) (a1:ws[j]? =some v:=by exact rfl):
  JL J Q b n L ds (.inRegion ops (i::i2::rest)::k) cs (Ao E H S):=BM ht Y al am ap (BH j V Z av a0 a1 ag)
theorem BN{α:Type}{pp:Rp α}{a:Option Addr}{c:Nat}{xs:List α}{xv:α}{m:Int}{kd:IntKind}(K:Am pp E a c xs)(hm:ix xs m=some xv)(ht:P.underlying t=some (.slice e))(O:BE P e=some pp.n)
  (h:∀bk o ws,pp.r E ws xv→At E bk o ws→JL J Q b n (AF L d (.pointer (some ⟨bk,o,none⟩))) ds (.inRegion ops rest::k) cs (Ao E H S))
  (U:EA b n L ops i=some ⟨d,.indexAddr t x y,ty,p,af,g⟩:=by exact rfl) (V:ev L x=some (.slice a xs.length c):=by exact rfl) (Y:ev L y=some (.int kd m):=by exact rfl):
  JL J Q b n L ds (.inRegion ops (i::rest)::k) cs (Ao E H S):=by
 obtain⟨Z,ag,al⟩:=IY U;exact Yy K hm Z ag al V Y ht O h
theorem C4(K:List Seg)(O:Env){todo:List Item}{c:Code}(U:∀E',Le E E'→Ay E' H K→JL J Q b n O ds todo cs (Ao E' H K))
  (h:(∀{E':LH} {L:Env},Le E E'→Ay E' H K→G2 L O=G6 O→JL J Q b n L ds todo cs (Ao E' H K))→JL J Q b n L ds (.code c::todo) cs (Ao E H S)):JL J Q b n L ds (.code c::todo) cs (Ao E H S):=
 h fun V Y Z=>Ax (U _ V Y) Z
theorem Dp{U:List Nat}(V Y:Nat)(K:List Seg)(O:Env){todo:List Item}(Z:∀E',Le E E'→Ay E' H K→JL J Q b n O ds (.inRegion ops (List.range' V Y)::todo) cs (Ao E' H K))
  (h:(∀{E':LH} {L:Env},Le E E'→Ay E' H K→G2 L O=G6 O→JL J Q b n L ds (.inRegion ops (List.range' V Y)::todo) cs (Ao E' H K))→JL J Q b n L ds (.inRegion ops U::todo) cs (Ao E H S)):JL J Q b n L ds (.inRegion ops U::todo) cs (Ao E H S):=
 h fun ag al am=>Ax (Z _ ag al) am
theorem Cz{O ag:Type}{c:Code}{body:O→Option (Bf O ag)}{f:Nat}{V:O}{a:ag}{Y:LH}{k:List Item}(am:iter body f V=some a)(K:O→List Seg)(U:O→Env)(hle:Le Y E)(ap:Ay E H (K V))
  (round:∀x E',Le Y E'→Ay E' H (K x)→(∀al,body x=some (.done al)→al=a)→(∃st,body x=some st)→(∀{L':Env} {Z:LH} (x':O),Le Y Z→Ay Z H (K x')→G2 L' (U x')=G6 (U x')→body x=some (.more x')→JL J Q b n L' ds (.inLoop c::k) cs (Ao Z H (K x')))→JL J Q b n (U x) ds (.code c:: .inLoop c::k) cs (Ao E' H (K x)))
  (av:G2 L (U V)=G6 (U V):=by exact rfl) (a0:Ao E H S=Ao E H (K V):=by exact rfl):JL J Q b n L ds (.code (.loop c)::k) cs (Ao E H S):=by
 rw [a0];refine IA _ av (QX am (fun L s x=>∃E',Jm Y H E' (K x) (U x) L s) ⟨E,rfl,rfl,hle,ap⟩ ?_);rintro _ _ x ⟨E',rfl,rfl,a1,a2⟩ a3 hb a4;exact round x E' a1 a2 a3 hb fun x' a5 g2 a6 a7=>Ax (a4 _ _ x' ⟨_,rfl,rfl,a5,g2⟩ a7) a6
theorem A4{f:FuncId}{fn:Func}{c:Code}{E:LH}{vs:List Value}{B:Seg}{R:Value→LH→Seg→Prop}(O:P.funcs[f]? =some fn)
  (h:∀(Q:Goroutine→St→Prop) (K:Frame) (cs:List Frame) (H:LH),Ay E H [B]→(∀{v:Value} {E':LH} {S':List Seg} {B':Seg},Le E E'→S'.flatten=B'→R v E' B'→Ay E' H S'→J.ok Q (G (K.finish v) cs) (Ao E' H S'))→JL J Q (base f) fn.ntmps (FM 0 vs) [] [.code c] (K::cs) (Ao E H [B]))
  (hb:fn.body=some c:=by exact rfl) (U:Nat.ble vs.length fn.ntmps=true:=by exact rfl):AM J f vs E B R:=
 J2 O hb U fun Q K cs H V Y=>h Q K cs H V fun Z ag al am=>Y _ _ _ _ Z ag al am
variable {m:Nat}{fuel:Nat}{listed:Array Bool}{bks xl:List Nat}
theorem Fi{bk:Nat}{c:Array Value}{f:Nat×Nat}(i:Nat)(K:DT ops m=true)(o:Nat)(j:Nat)(O:Ay E H S)(U:Df P t=some false)
  (V:AX J Q b n ds ops k cs m (A5 bks) fuel (Bi listed i) (AF L d w) (Ao E H S)) (Y:F6 n L ops i=some ⟨d,.load t x,ty,p,af,g⟩:=by exact rfl) (Z:ev L x=some (.pointer (some ⟨bk,o,none⟩)):=by exact rfl)
  (ag:S[j]? =some [(bk,.cells c e f)]:=by exact rfl) (hw:c[o]? =some w:=by exact rfl) (al:A5 bks bk=true:=by simp [A5]) (am:Fx ops listed m i=true:=by decide+kernel):AX J Q b n ds ops k cs m (A5 bks) (fuel+1) listed L (Ao E H S):=
 BC i K rfl Y (fun ρ h s' hs=>Yl.load U (h _ _ Z) (Im (o:=o) j O ag al hs hw)) V am
theorem JG.lp{bk o:Nat}{ws:List Value}(i:Nat)(K:DT ops m=true)(j:Nat)(O:At E bk o ws)(U:Ay E H S)(V:Gn S bks)(Y:Df P t=some false)
  (Z:AX J Q b n ds ops k cs m (A5 bks) fuel (Bi listed i) (AF L d w) (Ao E H S)) (ag:F6 n L ops i=some ⟨d,.load t x,ty,p,af,g⟩:=by exact rfl) (al:ev L x=some (.pointer (some ⟨bk,o+j,none⟩)):=by exact rfl)
  (hw:ws[j]? =some w:=by exact rfl) (am:Fx ops listed m i=true:=by decide+kernel):AX J Q b n ds ops k cs m (A5 bks) (fuel+1) listed L (Ao E H S):=
 BC i K rfl ag (fun ρ h s' hs=>Yl.load Y (h _ _ al) (At.Pf (j:=j) O (Ps U hs V) hw)) Z am
theorem D4{bk o K:Nat}{c:Array Value}{f:Nat×Nat}(i:Nat)(O:DT ops m=true)(vs:List Value)(j:Nat)(U:Ay E H S)(hw:∀(q:Nat) w,vs[q]? =some w→c[o+q]? =some w)(V:Df P t=some true)(Y:BE P t=some K)
  (Z:AX J Q b n ds ops k cs m (A5 bks) fuel (Bi listed i) (AF L d (.agg vs.toArray)) (Ao E H S)) (ag:F6 n L ops i=some ⟨d,.load t x,ty,p,af,g⟩:=by exact rfl) (al:ev L x=some (.pointer (some ⟨bk,o,none⟩)):=by exact rfl)
  (am:S[j]? =some [(bk,.cells c e f)]:=by exact rfl) (ap:K=vs.length:=by exact rfl) (av:A5 bks bk=true:=by simp [A5]) (a0:Fx ops listed m i=true:=by decide+kernel):AX J Q b n ds ops k cs m (A5 bks) (fuel+1) listed L (Ao E H S):=
 BC i O rfl ag (fun ρ h s' hs=>FY (vs:=vs) V (by rw [← ap];exact Y) (h _ _ al) (fun q w a1=>by rw [DN rfl];exact Im j U am av hs (hw q w a1))) Z a0
theorem F3{D:Nat→Bool}{α:Type}{xs:List α}{xv:α}{K:Int}{bk c O U:Nat}{kd:IntKind}(i:Nat)(V:DT ops m=true)(Y:xs.length=U)(hm:ix xs K=some xv)(ht:P.underlying t=some (.slice e))(Z:BE P e=some O)
  (ag:AX J Q b n ds ops k cs m D fuel (Bi listed i) (AF L d (.pointer (some ⟨bk,K.toNat*O,none⟩))) s) (al:s.q=false:=by exact rfl) (am:F6 n L ops i=some ⟨d,.indexAddr t x y,ty,p,af,g⟩:=by exact rfl)
  (ap:ev L x=some (.slice (some ⟨bk,0,none⟩) U c):=by exact rfl) (av:ev L y=some (.int kd K):=by exact rfl) (a0:Fx ops listed m i=true:=by decide+kernel):AX J Q b n ds ops k cs m D (fuel+1) listed L s:=
 BC i V al am (fun ρ h s' hs=>Gx Y hm ht Z (h _ _ ap) (h _ _ av)) ag a0
theorem CB{D:Nat→Bool}{α:Type}{xs:List α}{xv:α}{K:Int}{bk c O U:Nat}{kd:IntKind}(i:Nat)(V:xs.length=U)(hm:ix xs K=some xv)(ht:P.underlying t=some (.slice e))(Y:BE P e=some O)
  (Z:FC J Q b n ds ops k cs (A5 xl) D fuel (Bi listed i) (AF L d (.pointer (some ⟨bk,K.toNat*O,none⟩))) s) (ag:s.q=false:=by exact rfl) (al:F6 n L ops i=some ⟨d,.indexAddr t x y,ty,p,af,g⟩:=by exact rfl)
  (am:ev L x=some (.slice (some ⟨bk,0,none⟩) U c):=by exact rfl) (ap:ev L y=some (.int kd K):=by exact rfl) (av:Ka ops listed xl true i=true:=by decide+kernel):FC J Q b n ds ops k cs (A5 xl) D (fuel+1) listed L s:=
 GG i true ag al (fun ρ h s' hs=>Gx V hm ht Y (h _ _ am) (h _ _ ap)) Z av
theorem Eg{bk o K:Nat}{c:Array Value}{f:Nat×Nat}(i:Nat)(vs:List Value)(j:Nat)(O:Ay E H S)(hw:∀(q:Nat) w,vs[q]? =some w→c[o+q]? =some w)(U:Df P t=some true)(V:BE P t=some K)
  (Y:FC J Q b n ds ops k cs (A5 xl) (A5 bks) fuel (Bi listed i) (AF L d (.agg vs.toArray)) (Ao E H S)) (Z:F6 n L ops i=some ⟨d,.load t x,ty,p,af,g⟩:=by exact rfl) (ag:ev L x=some (.pointer (some ⟨bk,o,none⟩)):=by exact rfl)
  (al:S[j]? =some [(bk,.cells c e f)]:=by exact rfl) (am:K=vs.length:=by exact rfl) (ap:A5 bks bk=true:=by simp [A5]) (av:Ka ops listed xl false i=true:=by decide+kernel):FC J Q b n ds ops k cs (A5 xl) (A5 bks) (fuel+1) listed L (Ao E H S):=
 GG i false rfl Z (fun ρ h s' hs=>FY (vs:=vs) U (by rw [← am];exact V) (h _ _ ag) (fun q w a0=>by rw [DN rfl];exact Im j O al ap (hs rfl) (hw q w a0))) Y av
theorem Eh{bk off K:Nat}{c:Array Value}{D:Nat→Bool}(i j:Nat)(O:Ay E H S)(U:BE P t=some K)(hle:off+K≤c.size)
  (h:Ay E H (S.set j [(bk,.cells (A1 c off v.cells.toList) e (0,0))])→FC J Q b n ds ops k cs (A5 xl) D fuel (Bi listed i) (AF L d undef) (Ao E H (S.set j [(bk,.cells (A1 c off v.cells.toList) e (0,0))])))
  (V:F6 n L ops i=some ⟨d,.store t x y,ty,p,af,g⟩:=by exact rfl) (Y:ev L x=some (.pointer (some ⟨bk,off,none⟩)):=by exact rfl) (Z:ev L y=some v:=by exact rfl) (ag:S[j]? =some [(bk,.cells c e (0,0))]:=by exact rfl)
  (al:K=v.cells.size:=by exact rfl) (am:v.cells.toList.all CV=true:=by first | exact rfl | simp [Value.cells,CV]) (ap:Region.ready .any ops listed= [i]:=by decide+kernel) (av:A5 xl i=true:=by decide+kernel):
  FC J Q b n ds ops k cs (A5 xl) D (fuel+1) listed L (Ao E H S):=by
 obtain⟨a0,a1,a2⟩:=Ov V;subst al;exact JB.store i j ap av a0 a1 a2 O Y Z U (List.all_eq_true.1 am) ag hle h
end
end Pal
namespace Pal
open Go Go.Conc Go.Proofs
end Pal
namespace Pal
open Go Go.Conc Go.Proofs
end Pal
namespace Pal
open Go Go.Conc Go.Proofs
open Go.Proofs.Tryz
variable {J:Judge Tryz.prog}{E:LH}
def AU:=Bw Tryz.type3
def Bt:=DM Tryz.underlying3
def Cf:=Bw Tryz.type27
def Gv:=DM Tryz.underlying27
def BT:=Bw Tryz.type28
def CF:=DM Tryz.underlying28
def Kl:=AR Tryz.func32 rfl
def BP:=Bw Tryz.type22
def Cn:=DM Tryz.underlying22
def Ii:=Bw Tryz.type90
def LW:=DM Tryz.underlying90
def HM:=AR Tryz.func41 rfl
def CK:=Dw Tryz.type3
def Et:=Dw Tryz.type27
def Fp:=Dw Tryz.type28
def GW:=Dw Tryz.type24
def BD:=Bw Tryz.type24
def BX:=DM Tryz.underlying24
def LY:=AR Tryz.func104 rfl
def HN:=Bw Tryz.type4
def N2:=DM Tryz.underlying4
def N3:=AR Tryz.func103 rfl
def L3:=AR Tryz.func90 rfl
def IL:=AR Tryz.func101 rfl
def FJ:=Dw Tryz.type183
def LV:=DM Tryz.underlying210
def Kp:=Bw Tryz.type210
def IM:=AR Tryz.func89 rfl
def Jo:=AR Tryz.func120 rfl
def En:=Bw Tryz.type102
def GR:=DM Tryz.underlying102
def Cv:=Bw Tryz.type104
def FU:=DM Tryz.underlying104
def GV:=Dw Tryz.type104
def Gc:=Bw Tryz.type139
def Ih:=Bw Tryz.type138
def LU:=DM Tryz.underlying139
def Hi:=Bw Tryz.type25
def HK:=DM Tryz.underlying25
def Oa:=Bw Tryz.type94
def LX:=DM Tryz.underlying94
def Dv:=Bw Tryz.type95
def ER:=DM Tryz.underlying95
def FI:=DM Tryz.underlying173
def Dr:=Bw Tryz.type97
def Ie:=Dw Tryz.type133
def AS:=Bw Tryz.type133
def LS:=DM Tryz.underlying162
def Ct:=DM Tryz.underlying133
def GU:=AR Tryz.func134 rfl
def N6:=AR Tryz.func200 rfl
def N5:=AR Tryz.func178 rfl
def LZ:=AR Tryz.func162 rfl
def Gb:=Dw Tryz.type97
def Ic:=DM Tryz.underlying97
def N8:=AR Tryz.func96 rfl
def Km:=AR Tryz.func97 rfl
def L2:=AR Tryz.func99 rfl
def N4:=AR Tryz.func112 rfl
def L6:=AR Tryz.func92 rfl
def Kn:=AR Tryz.func69 rfl
def L5:=AR Tryz.func93 rfl
def L4:=AR Tryz.func78 rfl
def Ig:=AR Tryz.func71 rfl
def N7:=AR Tryz.func72 rfl
def N9:=AR Tryz.func79 rfl
def Ko:=AR Tryz.func27 rfl
theorem mixed:Tryz.prog.follows .mixedOrders=true:=rfl
theorem aw:TM Tryz.prog 27:=⟨_,_,underlying27,by decide+kernel,by decide+kernel,by decide,by decide,underlying3,underlying3,rfl,rfl⟩
def f101(fuel:Nat)(p0:Int)(p1:Int)(p2:Int):Option Bool:= Option.bind (if p0<p1 then(some true) else(some (decide (p2<p0)))) fun K=> some K
theorem I6{p0:Int}{p1:Int}{p2:Int}{fuel:Nat}{r:Bool}(K:f101 fuel p0 p1 p2=some r):AM J 101 [iV p0,iV p1,iV p2] E [] (fun w E' B'=>w= .bool r∧B'= []):=by
 refine A4 func101 fun Q a1 cs H O V=>?_;unfold f101 at K;obtain⟨Y,Z,ag⟩:=bs K;refine zg 10 rfl (Dp 8 1 [] [(14,.bool Y)] (fun a2 al am=>?_) (fun U=>?_))
 ·refine zg 2 rfl ?_;obtain rfl:=oi ag;exact AA func101 rfl rfl (V al rfl ⟨rfl,rfl⟩ am)
 ·refine Eo 10 Z (fun ap av=>?_) (fun ap a0=>?_)
  ·refine zg 4 rfl ?_;obtain rfl:=oi av;exact U Ar O rfl
  ·refine zg 4 rfl ?_;obtain rfl:=oi a0;exact U Ar O rfl
def f104(fuel:Nat)(p0:Int)(p1:Int)(p2:Int):Option Bool:= Option.bind (if p1≤p0 then(some (decide (p0≤p2))) else(some false)) fun K=> some K
theorem Nq{p0:Int}{p1:Int}{p2:Int}{fuel:Nat}{r:Bool}(K:f104 fuel p0 p1 p2=some r):AM J 104 [iV p0,iV p1,iV p2] E [] (fun w E' B'=>w= .bool r∧B'= []):=by
 refine A4 func104 fun Q a1 cs H O V=>?_;unfold f104 at K;obtain⟨Y,Z,ag⟩:=bs K;refine zg 10 rfl (Dp 8 1 [] [(14,.bool Y)] (fun a2 al am=>?_) (fun U=>?_))
 ·refine zg 2 rfl ?_;obtain rfl:=oi ag;exact AA func104 rfl rfl (V al rfl ⟨rfl,rfl⟩ am)
 ·refine Eo 10 Z (fun ap av=>?_) (fun ap a0=>?_)
  ·refine zg 4 rfl ?_;obtain rfl:=oi av;exact U Ar O rfl
  ·refine zg 4 rfl ?_;obtain rfl:=oi a0;exact U Ar O rfl
def Ns(fuel:Nat)(p0:List Int)(p1:List Int)(K:Int):Option (Bf Int ((Bool)⊕(Unit))):= Option.bind (if K<(p0.length:Int) then(some (decide (K<(p1.length:Int)))) else(some false)) fun O=> if O=true then((ix p0 K).bind fun U=> (ix p1 K).bind fun V=> if U≠V then(some (.done (Sum.inl false))) else((Au (K+1)).bind fun Y=> some (.more Y))) else(some (.done (Sum.inr ())))
def f32(fuel:Nat)(p0:List Int)(p1:List Int):Option Bool:= Option.bind (iter (Ns fuel p0 p1) fuel 0) fun K=> Sum.elim (fun r=>some r) (fun O=> some (decide ((p0.length:Int)=(p1.length:Int)))) K
theorem Lo{K:An}{c2:Nat}{O:An}{U:Nat}{p0:List Int}{p1:List Int}(a9:Am rI E K c2 p0)(bb:Am rI E O U p1){fuel:Nat}{r:Bool}(av:f32 fuel p0 p1=some r):AM J 32 [sV K p0 c2,sV O p1 U] E [] (fun w E' B'=>w= .bool r∧B'= []):=by
 refine A4 func32 fun Q bY cs H bd a0=>?_;unfold f32 at av;obtain⟨a1,be,a2⟩:=bs av;refine zg 9 rfl (Bp (fun L s=>∃(a3:Unit) (a4:LH),a1=Sum.inr a3∧Jm E H a4 [] [(0,sV K p0 c2),(1,sV O p1 U)] L s) ?_ ?_)
 ·rintro _ _ ⟨a3,a4,rfl,rfl,rfl,bi,bo⟩;have bv:=elim_inr a2;refine zg 3 rfl (Be underlying28 rfl rfl rfl ?_);refine zg 1 rfl (Be underlying28 rfl rfl rfl ?_);refine zg 3 rfl ?_;obtain rfl:=oi bv;exact AA func32 rfl rfl (a0 bi rfl ⟨rfl,rfl⟩ bo)
 ·intro bw;refine JL.block (Cz be (fun Z=> []) (fun Z=> [(0,sV K p0 c2),(1,sV O p1 U),(5,iV Z)]) Ar bd ?_);rintro Z al V a5 a6 ⟨bZ,ag⟩ bz;have a7:=ag;unfold Ns at a7;refine zg 5 rfl (Be underlying28 rfl rfl rfl ?_);obtain⟨bA,bB,bC⟩:=bs a7;refine zg 2 rfl (ED [] (fun L s=>∃(am:LH),Jm al H am [] [(0,sV K p0 c2),(1,sV O p1 U),(5,iV Z),(15,.bool bA)] L s) ?_ ?_)
  ·rintro _ _ ⟨am,rfl,rfl,Y,ap⟩;refine JL.done (BJ bC (fun bD bE=>?_) (fun bD bF=>?_))
   ·refine zg 4 rfl (C7 8 fun ht=>?_);refine A0 ht rfl [0,1] rfl ?_;obtain⟨b0,bG,bH⟩:=bs bE;refine CG 2 (a9.Ah (V.Ac Y)) bG ht underlying28 AU ?_;rintro b1 b2 _ rfl bI;refine Cy 3 ht 0 bI Bt rfl rfl rfl rfl (A0 ht rfl [4,5] rfl ?_);obtain⟨b3,bJ,bK⟩:=bs bH;refine CG 6 (bb.Ah (V.Ac Y)) bJ ht underlying28 AU ?_;rintro b4 b5 _ rfl bL;refine Cy 7 ht 0 bL Bt rfl rfl rfl rfl (Co [8] ?_);refine zg 2 rfl (AL bK (fun bM bN=>?_) (fun bM bO=>?_))
    ·refine zg 4 rfl ?_;obtain rfl:=oi bN;obtain rfl:=a6 _ ag;have bP:=elim_inl a2;obtain rfl:=oi bP;exact AA func32 rfl rfl (a0 (V.Ac Y) rfl ⟨rfl,rfl⟩ ap)
    ·obtain⟨bQ,bR,bS⟩:=bs bO;refine zg 4 rfl (Bc bR rfl rfl rfl ?_);refine zg 2 rfl ?_;obtain rfl:=oi bS;exact bz bQ (V.Ac Y) ap rfl ag
   ·refine JL.exit rfl ?_;obtain rfl:=oi bF;have bT:a1=(Sum.inr ()):=(a6 _ ag).symm;exact Ax (bw _ _ ⟨(),am,bT,rfl,rfl,(V.Ac Y),ap⟩) rfl
  ·intro a8;refine Eo 10 bB (fun bU bV=>?_) (fun bU bW=>?_)
   ·refine zg 2 rfl (Be underlying28 rfl rfl rfl ?_);refine zg 2 rfl ?_;obtain rfl:=oi bV;exact Ax (a8 _ _ ⟨al,rfl,rfl,Ar,a5⟩) rfl
   ·refine zg 5 rfl ?_;obtain rfl:=oi bW;exact Ax (a8 _ _ ⟨al,rfl,rfl,Ar,a5⟩) rfl
def Nb(fuel:Nat)(p0:AI)(p1:AI)(K:Int):Option (Bf Int ((Bool)⊕(Unit))):= Option.bind (if K<(p0.length:Int) then(some (decide (K<(p1.length:Int)))) else(some false)) fun V=> if V=true then((ix p0 K).bind fun O=> (ix p1 K).bind fun U=> if ¬(O.1=U.1∧O.2=U.2) then(some (.done (Sum.inl false))) else((Au (K+1)).bind fun Y=> some (.more Y))) else(some (.done (Sum.inr ())))
def f34(fuel:Nat)(p0:AI)(p1:AI):Option Bool:= Option.bind (iter (Nb fuel p0 p1) fuel 0) fun K=> Sum.elim (fun r=>some r) (fun O=> some (decide ((p0.length:Int)=(p1.length:Int)))) K
theorem aD{K:An}{c2:Nat}{O:An}{U:Nat}{p0:AI}{p1:AI}(bd:Am Bo E K c2 p0)(be:Am Bo E O U p1){fuel:Nat}{r:Bool}(av:f34 fuel p0 p1=some r):AM J 34 [sV K p0 c2,sV O p1 U] E [] (fun w E' B'=>w= .bool r∧B'= []):=by
 refine A4 func34 fun Q b0 cs H bi a0=>?_;unfold f34 at av;obtain⟨a1,bo,a2⟩:=bs av;refine zg 9 rfl (Bp (fun L s=>∃(a3:Unit) (a4:LH),a1=Sum.inr a3∧Jm E H a4 [] [(0,sV K p0 c2),(1,sV O p1 U)] L s) ?_ ?_)
 ·rintro _ _ ⟨a3,a4,rfl,rfl,rfl,bv,bw⟩;have bz:=elim_inr a2;refine zg 3 rfl (Be underlying25 rfl rfl rfl ?_);refine zg 1 rfl (Be underlying25 rfl rfl rfl ?_);refine zg 3 rfl ?_;obtain rfl:=oi bz;exact AA func34 rfl rfl (a0 bv rfl ⟨rfl,rfl⟩ bw)
 ·intro bA;refine JL.block (Cz bo (fun Z=> []) (fun Z=> [(0,sV K p0 c2),(1,sV O p1 U),(5,iV Z)]) Ar bi ?_);rintro Z al V a5 a6 ⟨b1,ag⟩ bB;have a7:=ag;unfold Nb at a7;refine zg 5 rfl (Be underlying25 rfl rfl rfl ?_);obtain⟨bC,bD,bE⟩:=bs a7;refine zg 2 rfl (ED [] (fun L s=>∃(am:LH),Jm al H am [] [(0,sV K p0 c2),(1,sV O p1 U),(5,iV Z),(15,.bool bC)] L s) ?_ ?_)
  ·rintro _ _ ⟨am,rfl,rfl,Y,ap⟩;refine JL.done (BJ bE (fun bF bG=>?_) (fun bF bH=>?_))
   ·refine zg 4 rfl (C7 8 fun ht=>?_);refine A0 ht rfl [0,1] rfl ?_;obtain⟨a8,bI,bJ⟩:=bs bG;refine CG 2 (bd.Ah (V.Ac Y)) bI ht underlying25 Cf ?_;rintro b2 b3 _ ⟨_,_,rfl,rfl,rfl⟩ bK;refine Fe 3 ht bK Gv Cf rfl rfl rfl (A0 ht rfl [4,5] rfl ?_);obtain⟨a9,bL,bM⟩:=bs bJ;refine CG 6 (be.Ah (V.Ac Y)) bL ht underlying25 Cf ?_;rintro b4 b5 _ ⟨_,_,rfl,rfl,rfl⟩ bN;refine Fe 7 ht bN Gv Cf rfl rfl rfl (Co [8] ?_);refine AE (v:= .bool (decide (¬(a8.1=a9.1∧a8.2=a9.2)))) rfl (fun ρ h=>V6 aw (h _ _ rfl) (h _ _ rfl)) (JL.done ?_);refine AL bM (fun bO bP=>?_) (fun bO bQ=>?_)
    ·refine zg 4 rfl ?_;obtain rfl:=oi bP;obtain rfl:=a6 _ ag;have bR:=elim_inl a2;obtain rfl:=oi bR;exact AA func34 rfl rfl (a0 (V.Ac Y) rfl ⟨rfl,rfl⟩ ap)
    ·obtain⟨bS,bT,bU⟩:=bs bQ;refine zg 4 rfl (Bc bT rfl rfl rfl ?_);refine zg 2 rfl ?_;obtain rfl:=oi bU;exact bB bS (V.Ac Y) ap rfl ag
   ·refine JL.exit rfl ?_;obtain rfl:=oi bH;have bV:a1=(Sum.inr ()):=(a6 _ ag).symm;exact Ax (bA _ _ ⟨(),am,bV,rfl,rfl,(V.Ac Y),ap⟩) rfl
  ·intro bb;refine Eo 10 bD (fun bW bY=>?_) (fun bW bZ=>?_)
   ·refine zg 2 rfl (Be underlying25 rfl rfl rfl ?_);refine zg 2 rfl ?_;obtain rfl:=oi bY;exact Ax (bb _ _ ⟨al,rfl,rfl,Ar,a5⟩) rfl
   ·refine zg 5 rfl ?_;obtain rfl:=oi bZ;exact Ax (bb _ _ ⟨al,rfl,rfl,Ar,a5⟩) rfl
def Nl(fuel:Nat)(p0:List (List Int))(p1:List (List Int))(K:Int):Option (Bf Int ((Bool)⊕(Unit))):= Option.bind (if K<(p0.length:Int) then(some (decide (K<(p1.length:Int)))) else(some false)) fun O=> if O=true then((ix p0 K).bind fun U=> (ix p1 K).bind fun V=> (f32 fuel U V).bind fun Y=> if(!Y)=true then(some (.done (Sum.inl false))) else((Au (K+1)).bind fun Z=> some (.more Z))) else(some (.done (Sum.inr ())))
def f84(fuel:Nat)(p0:List (List Int))(p1:List (List Int)):Option Bool:= Option.bind (iter (Nl fuel p0 p1) fuel 0) fun K=> Sum.elim (fun r=>some r) (fun O=> some (decide ((p0.length:Int)=(p1.length:Int)))) K
theorem Tk{K:An}{c2:Nat}{O:An}{U:Nat}{p0:List (List Int)}{p1:List (List Int)}(bd:Am (rL rI) E K c2 p0)(be:Am (rL rI) E O U p1){fuel:Nat}{r:Bool}(ap:f84 fuel p0 p1=some r):AM J 84 [sV K p0 c2,sV O p1 U] E [] (fun w E' B'=>w= .bool r∧B'= []):=by
 refine A4 func84 fun Q b5 cs H bi av=>?_;unfold f84 at ap;obtain⟨a0,bo,a1⟩:=bs ap;refine zg 9 rfl (Bp (fun L s=>∃(a2:Unit) (a3:LH),a0=Sum.inr a2∧Jm E H a3 [] [(0,sV K p0 c2),(1,sV O p1 U)] L s) ?_ ?_)
 ·rintro _ _ ⟨a2,a3,rfl,rfl,rfl,bv,bw⟩;have bz:=elim_inr a1;refine zg 3 rfl (Be underlying22 rfl rfl rfl ?_);refine zg 1 rfl (Be underlying22 rfl rfl rfl ?_);refine zg 3 rfl ?_;obtain rfl:=oi bz;exact AA func84 rfl rfl (av bv rfl ⟨rfl,rfl⟩ bw)
 ·intro bA;refine JL.block (Cz bo (fun Z=> []) (fun Z=> [(0,sV K p0 c2),(1,sV O p1 U),(5,iV Z)]) Ar bi ?_);rintro Z al V a4 a5 ⟨b6,ag⟩ bB;have a6:=ag;unfold Nl at a6;refine zg 5 rfl (Be underlying22 rfl rfl rfl ?_);obtain⟨bC,bD,bE⟩:=bs a6;refine zg 2 rfl (ED [] (fun L s=>∃(am:LH),Jm al H am [] [(0,sV K p0 c2),(1,sV O p1 U),(5,iV Z),(15,.bool bC)] L s) ?_ ?_)
  ·rintro _ _ ⟨am,rfl,rfl,Y,a7⟩;refine JL.done (BJ bE (fun bF bG=>?_) (fun bF bH=>?_))
   ·refine zg 4 rfl (C7 8 fun ht=>?_);refine A0 ht rfl [0,1] rfl ?_;obtain⟨b7,bI,bJ⟩:=bs bG;refine CG 2 (bd.Ah (V.Ac Y)) bI ht underlying22 BT ?_;rintro b8 b9 _ ⟨ca,cb,rfl,bK⟩ bL;refine Cy 3 ht 0 bL CF rfl rfl rfl rfl (A0 ht rfl [4,5] rfl ?_);obtain⟨cc,bM,bN⟩:=bs bJ;refine CG 6 (be.Ah (V.Ac Y)) bM ht underlying22 BT ?_;rintro cd ce _ ⟨cf,cg,rfl,bO⟩ bP;refine Cy 7 ht 0 bP CF rfl rfl rfl rfl (Co [8,9] ?_);obtain⟨bQ,bR,bS⟩:=bs bN;refine BF (Lo bK bO bR) rfl rfl Kl a7 fun ci a8 a9=>AE (v:= .bool (!bQ)) rfl (fun ρ h=>Yl.not (h _ _ rfl)) (JL.done ?_);refine BJ bS (fun bT bU=>?_) (fun bT bV=>?_)
    ·refine zg 4 rfl ?_;obtain rfl:=oi bU;obtain rfl:=a5 _ ag;have bW:=elim_inl a1;obtain rfl:=oi bW;exact AA func84 rfl rfl (av ((V.Ac Y).Ac a8) rfl ⟨rfl,rfl⟩ a9)
    ·obtain⟨bY,bZ,b0⟩:=bs bV;refine zg 4 rfl (Bc bZ rfl rfl rfl ?_);refine zg 2 rfl ?_;obtain rfl:=oi b0;exact bB bY ((V.Ac Y).Ac a8) a9 rfl ag
   ·refine JL.exit rfl ?_;obtain rfl:=oi bH;have b1:a0=(Sum.inr ()):=(a5 _ ag).symm;exact Ax (bA _ _ ⟨(),am,b1,rfl,rfl,(V.Ac Y),a7⟩) rfl
  ·intro bb;refine Eo 10 bD (fun b2 b3=>?_) (fun b2 b4=>?_)
   ·refine zg 2 rfl (Be underlying22 rfl rfl rfl ?_);refine zg 2 rfl ?_;obtain rfl:=oi b3;exact Ax (bb _ _ ⟨al,rfl,rfl,Ar,a4⟩) rfl
   ·refine zg 5 rfl ?_;obtain rfl:=oi b4;exact Ax (bb _ _ ⟨al,rfl,rfl,Ar,a4⟩) rfl
def f33(fuel:Nat)(p0:A2)(p1:A2):Option Bool:= (f84 fuel p0.1 p1.1).bind fun K=> Option.bind (if K=true then((f84 fuel p0.2 p1.2).bind fun O=> some O) else(some false)) fun U=> some U
theorem aV{V:An}{c2:Nat}{Y:An}{Z:Nat}{ag:An}{al:Nat}{am:An}{ap:Nat}{p0:A2}{p1:A2}(a4:Am (rL rI) E V c2 p0.1)(a5:Am (rL rI) E Y Z p0.2)(a6:Am (rL rI) E ag al p1.1)(a7:Am (rL rI) E am ap p1.2){fuel:Nat}{r:Bool}(av:f33 fuel p0 p1=some r):AM J 33 [.agg #[sV V p0.1 c2,sV Y p0.2 Z],.agg #[sV ag p1.1 al,sV am p1.2 ap]] E [] (fun w E' B'=>w= .bool r∧B'= []):=by
 refine A4 func33 fun Q bI cs H a8 a9=>?_;unfold f33 at av;refine zg 2 rfl (B7 a8 fun bJ bK O a0 bb=>?_);refine B7 bb fun bL bM K a1 bd=>?_;refine zg 4 rfl (JL.fl 0 (a0.Ah K) underlying24 BP Cn ?_);refine JL.fl 0 a1 underlying24 BP Cn ?_;obtain⟨bN,be,bi⟩:=bs av;refine BF (Tk (a4.Ah (O.Ac K)) (a6.Ah (O.Ac K)) be) rfl rfl (AR func84 rfl) bd fun bO U a2=>?_;obtain⟨bo,bv,bw⟩:=bs bi;refine zg 1 rfl (Dp 12 1 [] [(16,.bool bo)] (fun bP bz bA=>?_) (fun a3=>?_))
 ·refine zg 2 rfl ?_;obtain rfl:=oi bw;exact AA func33 rfl rfl (a9 (((O.Ac K).Ac U).Ac bz) rfl ⟨rfl,rfl⟩ bA)
 ·refine Dy 10 bv (fun bB bC=>?_) (fun bB bD=>?_)
  ·refine JL.fl 1 (a0.Ah (K.Ac U)) underlying24 BP Cn ?_;refine JL.fl 1 (a1.Ah U) underlying24 BP Cn ?_;obtain⟨bQ,bE,bF⟩:=bs bC;refine BF (Tk (a5.Ah ((O.Ac K).Ac U)) (a7.Ah ((O.Ac K).Ac U)) bE) rfl rfl (AR func84 rfl) a2 fun bR bG bH=>zg 1 rfl ?_;obtain rfl:=oi bF;exact a3 bG bH rfl
  ·refine zg 6 rfl ?_;obtain rfl:=oi bD;exact a3 Ar a2 rfl
def f23(fuel:Nat)(p0:List Int):Option ((B8)):= some (p0,0,2685821657736338717)
theorem az{K:An}{c2:Nat}{p0:List Int}(Z:Am rI E K c2 p0){fuel:Nat}{r:(B8)}(O:f23 fuel p0=some r):AM J 23 [sV K p0 c2] E [] (fun w E' B'=>∃(U:Nat) (V:An) (Y:Nat),w= pV U 0∧B'= [(U,.cells #[sV V r.1 Y,iV r.2.1,.int .u64 ((r.2.2:Nat):Int)] 92 (0,0))]∧Am rI E' V Y r.1):=by
 refine A4 func23 fun Q av cs H ag al=>?_;unfold f23 at O;refine zg 7 rfl (AE (v:= .agg #[sV K p0 c2,iV 0,.int .u64 ((2685821657736338717:Nat):Int)]) rfl (fun ρ h=>Di [(0,1),(1,1),(2,1)] h (Dw type92) underlying92 ⟨rfl,Bw type28,rfl,Bw type3,rfl,Bw type90,trivial⟩ rfl rfl) ?_);refine JS.box (v:= .agg #[sV K p0 c2,iV 0,.int .u64 ((2685821657736338717:Nat):Int)]) rfl rfl rfl ag rfl fun am ap=>zg 2 rfl ?_;obtain rfl:=oi O;exact AA func23 rfl rfl (al Ar rfl ⟨am,K,c2,rfl,(by first | rfl | simp | (simp [Value.cells])),Z⟩ ap)
def f100(fuel:Nat)(p0:B8):Option (Nat×(B8)):= (Au (p0.2.1+1)).bind fun O=> Option.bind (if O≤(p0.1.length:Int) then((Au (O - 1)).bind fun U=> (ix p0.1 U).bind fun V=> some (((((Dh O)*11400714819323198485) % 2 ^ 64) ^^^ (((Dh V)*14029467366897019727) % 2 ^ 64)) % 2 ^ 64)) else(some (((Dh O)*11400714819323198485) % 2 ^ 64))) fun K=> some (((((((((((p0.2.2 ^^^ K) % 2 ^ 64)*18397679294719823053) % 2 ^ 64) ^^^ (((((p0.2.2 ^^^ K) % 2 ^ 64)*18397679294719823053) % 2 ^ 64)>>>33)) % 2 ^ 64)*14181476777654086739) % 2 ^ 64) ^^^ (((((((((p0.2.2 ^^^ K) % 2 ^ 64)*18397679294719823053) % 2 ^ 64) ^^^ (((((p0.2.2 ^^^ K) % 2 ^ 64)*18397679294719823053) % 2 ^ 64)>>>33)) % 2 ^ 64)*14181476777654086739) % 2 ^ 64)>>>29)) % 2 ^ 64)>>>11,(p0.1,O,(((((p0.2.2 ^^^ K) % 2 ^ 64)*18397679294719823053) % 2 ^ 64) ^^^ (((((p0.2.2 ^^^ K) % 2 ^ 64)*18397679294719823053) % 2 ^ 64)>>>33)) % 2 ^ 64))
theorem Zc{bk:Nat}{V:An}{c2:Nat}{p0:B8}(ag:Am rI E V c2 p0.1){fuel:Nat}{r:Nat×(B8)}(al:f100 fuel p0=some r):AM J 100 [pV bk 0] E [(bk,.cells #[sV V p0.1 c2,iV p0.2.1,.int .u64 ((p0.2.2:Nat):Int)] 92 (0,0))] (fun w E' B'=>∃(am:An) (ap:Nat),w= .int .u64 ((r.1:Nat):Int)∧B'= [(bk,.cells #[sV am r.2.1 ap,iV r.2.2.1,.int .u64 ((r.2.2.2:Nat):Int)] 92 (0,0))]∧Am rI E' am ap r.2.1):=by
 refine A4 func100 fun Q bz cs H av a4=>?_;unfold f100 at al;refine zg 8 rfl (BM underlying92 AU rfl rfl rfl ?_);refine AE (v:=iV p0.2.1) rfl (fun ρ h=>Yl.load Bt (h _ _ rfl) (DX (j:=0) (off:=1) av rfl rfl)) ?_;obtain⟨U,a5,a6⟩:=bs al;refine Bc a5 rfl rfl rfl (zg 1 rfl ?_);refine BM underlying92 AU rfl rfl rfl (BY 0 av AU fun O=>?_);refine zg 5 rfl (BM underlying92 AU rfl rfl rfl ?_);refine AE (v:=iV U) rfl (fun ρ h=>Yl.load Bt (h _ _ rfl) (DX (j:=0) (off:=1) O rfl rfl)) (AE (v:= .int .u64 ((Dh U:Nat):Int)) rfl (fun ρ h=>Yl.Dh underlying3 underlying90 (h _ _ rfl)) ?_);refine AE (v:= .int .u64 ((((Dh U)*11400714819323198485) % 2 ^ 64:Nat):Int)) rfl (fun ρ h=>MA (h _ _ rfl) (h _ _ rfl)) (zg 4 rfl ?_);refine Dj 9 [bk] ⟨⟨0,_,rfl⟩,trivial⟩ O fun ht=>A0 ht rfl [0,1] rfl (Cc 2 ht underlying92 AU rfl rfl rfl rfl ?_);refine Fi 3 ht 1 0 O Bt ?_;refine A0 ht rfl [4,5] rfl (Cc 6 ht underlying92 BT rfl rfl rfl rfl ?_);refine Fi 7 ht 0 0 O CF ?_;refine BC 8 ht rfl rfl (fun ρ h s' hs=>Yl.len rfl underlying28 (h _ _ rfl)) (Co [9] ?_);obtain⟨K,a7,a8⟩:=bs a6;refine zg 2 rfl (C4 [bX bk #[sV V p0.1 c2,iV U,.int .u64 ((p0.2.2:Nat):Int)] 92] [(0,pV bk 0),(3,.int .u64 ((K:Nat):Int))] (fun bA a0 a1=>?_) (fun a2=>?_))
 ·refine zg 5 rfl (BM underlying92 Ii rfl rfl rfl ?_);refine AE (v:= .int .u64 ((p0.2.2:Nat):Int)) rfl (fun ρ h=>Yl.load LW (h _ _ rfl) (DX (j:=0) (off:=2) a1 rfl rfl)) (zg 1 rfl ?_);refine AE (v:= .int .u64 (((p0.2.2 ^^^ K) % 2 ^ 64:Nat):Int)) rfl (fun ρ h=>MP (h _ _ rfl) (h _ _ rfl)) (AE (v:= .int .u64 (((((p0.2.2 ^^^ K) % 2 ^ 64)*18397679294719823053) % 2 ^ 64:Nat):Int)) rfl (fun ρ h=>MA (h _ _ rfl) (h _ _ rfl)) ?_);refine zg 1 rfl (BM underlying92 Ii rfl rfl rfl ?_);refine BY 0 a1 Ii fun Y=>?_;refine zg 2 rfl (Dj 11 [bk] ⟨⟨0,_,rfl⟩,trivial⟩ Y fun ht=>?_);refine A0 ht rfl [0,1,2] rfl (Cc 3 ht underlying92 Ii rfl rfl rfl rfl ?_);refine Fi 4 ht 2 0 Y LW ?_;refine A0 ht rfl [5,6] rfl (Cc 7 ht underlying92 Ii rfl rfl rfl rfl ?_);refine Fi 8 ht 2 0 Y LW ?_;refine BC (v:= .int .u64 ((((((p0.2.2 ^^^ K) % 2 ^ 64)*18397679294719823053) % 2 ^ 64)>>>33:Nat):Int)) 9 ht rfl rfl (fun ρ h s' hs=>JH 33 (h _ _ rfl) (h _ _ rfl) (by decide)) (BC (v:= .int .u64 (((((((p0.2.2 ^^^ K) % 2 ^ 64)*18397679294719823053) % 2 ^ 64) ^^^ (((((p0.2.2 ^^^ K) % 2 ^ 64)*18397679294719823053) % 2 ^ 64)>>>33)) % 2 ^ 64:Nat):Int)) 10 ht rfl rfl (fun ρ h s' hs=>MP (h _ _ rfl) (h _ _ rfl)) ?_);refine Co [11,12,13] (zg 1 rfl ?_);refine BM underlying92 Ii rfl rfl rfl (BY 0 Y Ii fun a3=>?_);refine zg 5 rfl (BM underlying92 Ii rfl rfl rfl ?_);refine AE (v:= .int .u64 (((((((p0.2.2 ^^^ K) % 2 ^ 64)*18397679294719823053) % 2 ^ 64) ^^^ (((((p0.2.2 ^^^ K) % 2 ^ 64)*18397679294719823053) % 2 ^ 64)>>>33)) % 2 ^ 64:Nat):Int)) rfl (fun ρ h=>Yl.load LW (h _ _ rfl) (DX (j:=0) (off:=2) a3 rfl rfl)) (AE (v:= .int .u64 (((((((((p0.2.2 ^^^ K) % 2 ^ 64)*18397679294719823053) % 2 ^ 64) ^^^ (((((p0.2.2 ^^^ K) % 2 ^ 64)*18397679294719823053) % 2 ^ 64)>>>33)) % 2 ^ 64)*14181476777654086739) % 2 ^ 64:Nat):Int)) rfl (fun ρ h=>MA (h _ _ rfl) (h _ _ rfl)) ?_);refine zg 6 rfl (AE (v:= .int .u64 ((((((((((p0.2.2 ^^^ K) % 2 ^ 64)*18397679294719823053) % 2 ^ 64) ^^^ (((((p0.2.2 ^^^ K) % 2 ^ 64)*18397679294719823053) % 2 ^ 64)>>>33)) % 2 ^ 64)*14181476777654086739) % 2 ^ 64)>>>29:Nat):Int)) rfl (fun ρ h=>JH 29 (h _ _ rfl) (h _ _ rfl) (by decide)) ?_);refine AE (v:= .int .u64 (((((((((((p0.2.2 ^^^ K) % 2 ^ 64)*18397679294719823053) % 2 ^ 64) ^^^ (((((p0.2.2 ^^^ K) % 2 ^ 64)*18397679294719823053) % 2 ^ 64)>>>33)) % 2 ^ 64)*14181476777654086739) % 2 ^ 64) ^^^ (((((((((p0.2.2 ^^^ K) % 2 ^ 64)*18397679294719823053) % 2 ^ 64) ^^^ (((((p0.2.2 ^^^ K) % 2 ^ 64)*18397679294719823053) % 2 ^ 64)>>>33)) % 2 ^ 64)*14181476777654086739) % 2 ^ 64)>>>29)) % 2 ^ 64:Nat):Int)) rfl (fun ρ h=>MP (h _ _ rfl) (h _ _ rfl)) (AE (v:= .int .u64 ((((((((((((p0.2.2 ^^^ K) % 2 ^ 64)*18397679294719823053) % 2 ^ 64) ^^^ (((((p0.2.2 ^^^ K) % 2 ^ 64)*18397679294719823053) % 2 ^ 64)>>>33)) % 2 ^ 64)*14181476777654086739) % 2 ^ 64) ^^^ (((((((((p0.2.2 ^^^ K) % 2 ^ 64)*18397679294719823053) % 2 ^ 64) ^^^ (((((p0.2.2 ^^^ K) % 2 ^ 64)*18397679294719823053) % 2 ^ 64)>>>33)) % 2 ^ 64)*14181476777654086739) % 2 ^ 64)>>>29)) % 2 ^ 64)>>>11:Nat):Int)) rfl (fun ρ h=>JH 11 (h _ _ rfl) (h _ _ rfl) (by decide)) ?_);refine zg 2 rfl ?_;obtain rfl:=oi a8;exact AA func100 rfl rfl (a4 a0 rfl ⟨V,c2,rfl,rfl,(ag.Ah a0)⟩ a3)
 ·refine AL a7 (fun a9 bb=>?_) (fun a9 bd=>?_)
  ·refine Dj 14 [bk] ⟨⟨0,_,rfl⟩,trivial⟩ O fun ht=>A0 ht rfl [0,1,2] rfl (Cc 3 ht underlying92 BT rfl rfl rfl rfl ?_);refine Fi 4 ht 0 0 O CF ?_;refine A0 ht rfl [5,6] rfl (Cc 7 ht underlying92 AU rfl rfl rfl rfl ?_);refine Fi 8 ht 1 0 O Bt ?_;obtain⟨bB,be,bi⟩:=bs bb;refine BC 9 ht rfl rfl (fun ρ h s' hs=>Dc (h _ _ rfl) (h _ _ rfl) be) ?_;obtain⟨Z,bo,bv⟩:=bs bi;refine CG 10 ag bo ht underlying28 AU ?_;rintro bC bD _ rfl bw;refine JG.lp 11 ht 0 bw O ⟨⟨0,_,rfl⟩,trivial⟩ Bt ?_;refine BC (v:= .int .u64 ((Dh Z:Nat):Int)) 12 ht rfl rfl (fun ρ h s' hs=>Yl.Dh underlying3 underlying90 (h _ _ rfl)) (BC (v:= .int .u64 ((((Dh Z)*14029467366897019727) % 2 ^ 64:Nat):Int)) 13 ht rfl rfl (fun ρ h s' hs=>MA (h _ _ rfl) (h _ _ rfl)) ?_);refine Co [14,15] (AE (v:= .int .u64 ((((((Dh U)*11400714819323198485) % 2 ^ 64) ^^^ (((Dh Z)*14029467366897019727) % 2 ^ 64)) % 2 ^ 64:Nat):Int)) rfl (fun ρ h=>MP (h _ _ rfl) (h _ _ rfl)) ?_);refine zg 2 rfl ?_;obtain rfl:=oi bv;exact a2 Ar O rfl
  ·refine JL.skip ?_;obtain rfl:=oi bd;exact a2 Ar O rfl
def f41(fuel:Nat)(p0:B8)(p1:Int):Option (Int×(B8)):= (f100 fuel p0).bind fun K=> if p1<1 then(some (0,K.2)) else((ND K.1 ((Dh p1+1) % 2 ^ 64)).bind fun O=> some (LJ O,K.2))
theorem HY{bk:Nat}{K:An}{c2:Nat}{p0:B8}{p1:Int}(a0:Am rI E K c2 p0.1){fuel:Nat}{r:Int×(B8)}(O:f41 fuel p0 p1=some r):AM J 41 [pV bk 0,iV p1] E [(bk,.cells #[sV K p0.1 c2,iV p0.2.1,.int .u64 ((p0.2.2:Nat):Int)] 92 (0,0))] (fun w E' B'=>∃(U:An) (V:Nat),w=iV r.1∧B'= [(bk,.cells #[sV U r.2.1 V,iV r.2.2.1,.int .u64 ((r.2.2.2:Nat):Int)] 92 (0,0))]∧Am rI E' U V r.2.1):=by
 refine A4 func41 fun Q a9 cs H a1 Y=>?_;unfold f41 at O;obtain⟨bb,a2,a3⟩:=bs O;refine zg 7 rfl (B9 0 (Zc a0 a2) rfl rfl (AR func100 rfl) a1 rfl ?_);rintro _ bd _ Z ⟨ag,al,rfl,rfl,am⟩ ap;refine zg 8 rfl (AL a3 (fun a4 a5=>?_) (fun a4 a6=>?_))
 ·refine zg 4 rfl ?_;obtain rfl:=oi a5;exact AA func41 rfl rfl (Y Z rfl ⟨ag,al,rfl,rfl,am⟩ ap)
 ·refine zg 5 rfl (AE (v:= .int .u64 ((Dh p1:Nat):Int)) rfl (fun ρ h=>Yl.Dh underlying3 underlying90 (h _ _ rfl)) ?_);refine AE (v:= .int .u64 (((Dh p1+1) % 2 ^ 64:Nat):Int)) rfl (fun ρ h=>Yh (h _ _ rfl) (h _ _ rfl)) ?_;obtain⟨av,a7,a8⟩:=bs a6;refine AE (v:= .int .u64 ((av:Nat):Int)) rfl (fun ρ h=>VZ (h _ _ rfl) (h _ _ rfl) a7) (AE (v:=iV (LJ av)) rfl (fun ρ h=>YF underlying90 underlying3 (h _ _ rfl)) ?_);refine zg 2 rfl ?_;obtain rfl:=oi a8;exact AA func41 rfl rfl (Y Z rfl ⟨ag,al,rfl,rfl,am⟩ ap)
def f96(fuel:Nat)(p0:B8)(p1:Int)(p2:Int):Option (Int×(B8)):= (Au (p2 - p1)).bind fun O=> (f41 fuel p0 O).bind fun K=> (Au (p1+K.1)).bind fun U=> some (U,K.2)
theorem Pq{bk:Nat}{K:An}{c2:Nat}{p0:B8}{p1:Int}{p2:Int}(Y:Am rI E K c2 p0.1){fuel:Nat}{r:Int×(B8)}(O:f96 fuel p0 p1 p2=some r):AM J 96 [pV bk 0,iV p1,iV p2] E [(bk,.cells #[sV K p0.1 c2,iV p0.2.1,.int .u64 ((p0.2.2:Nat):Int)] 92 (0,0))] (fun w E' B'=>∃(U:An) (V:Nat),w=iV r.1∧B'= [(bk,.cells #[sV U r.2.1 V,iV r.2.2.1,.int .u64 ((r.2.2.2:Nat):Int)] 92 (0,0))]∧Am rI E' U V r.2.1):=by
 refine A4 func96 fun Q a7 cs H Z ag=>?_;unfold f96 at O;obtain⟨a8,al,am⟩:=bs O;refine zg 10 rfl (Cd al rfl rfl rfl ?_);obtain⟨a9,ap,av⟩:=bs am;refine B9 0 (HY Y ap) rfl rfl HM Z rfl ?_;rintro _ bb _ a0 ⟨a1,a2,rfl,rfl,a3⟩ a4;obtain⟨bd,a5,a6⟩:=bs av;refine Bc a5 rfl rfl rfl (zg 2 rfl ?_);obtain rfl:=oi a6;exact AA func96 rfl rfl (ag a0 rfl ⟨a1,a2,rfl,rfl,a3⟩ a4)
def f97(fuel:Nat)(p0:B8)(p1:Int):Option (Bool×(B8)):= (Au (p1 - 1)).bind fun O=> (f41 fuel p0 O).bind fun K=> some (decide (K.1=0),K.2)
theorem Lm{bk:Nat}{K:An}{c2:Nat}{p0:B8}{p1:Int}(Y:Am rI E K c2 p0.1){fuel:Nat}{r:Bool×(B8)}(O:f97 fuel p0 p1=some r):AM J 97 [pV bk 0,iV p1] E [(bk,.cells #[sV K p0.1 c2,iV p0.2.1,.int .u64 ((p0.2.2:Nat):Int)] 92 (0,0))] (fun w E' B'=>∃(U:An) (V:Nat),w= .bool r.1∧B'= [(bk,.cells #[sV U r.2.1 V,iV r.2.2.1,.int .u64 ((r.2.2.2:Nat):Int)] 92 (0,0))]∧Am rI E' U V r.2.1):=by
 refine A4 func97 fun Q a5 cs H Z ag=>?_;unfold f97 at O;obtain⟨a6,al,am⟩:=bs O;refine zg 8 rfl (Cd al rfl rfl rfl ?_);obtain⟨a7,ap,av⟩:=bs am;refine B9 0 (HY Y ap) rfl rfl HM Z rfl ?_;rintro _ a8 _ a0 ⟨a1,a2,rfl,rfl,a3⟩ a4;refine zg 3 rfl ?_;obtain rfl:=oi av;exact AA func97 rfl rfl (ag a0 rfl ⟨a1,a2,rfl,rfl,a3⟩ a4)
def f99(fuel:Nat)(p0:B8)(p1:List Int):Option (Int×(B8)):= (Au ((p1.length:Int) - 1)).bind fun O=> (f41 fuel p0 O).bind fun K=> (ix p1 K.1).bind fun U=> some (U,K.2)
theorem NF{bk:Nat}{K:An}{c2:Nat}{O:An}{U:Nat}{p0:B8}{p1:List Int}(al:Am rI E K c2 p0.1)(am:Am rI E O U p1){fuel:Nat}{r:Int×(B8)}(V:f99 fuel p0 p1=some r):AM J 99 [pV bk 0,sV O p1 U] E [(bk,.cells #[sV K p0.1 c2,iV p0.2.1,.int .u64 ((p0.2.2:Nat):Int)] 92 (0,0))] (fun w E' B'=>∃(Y:An) (Z:Nat),w=iV r.1∧B'= [(bk,.cells #[sV Y r.2.1 Z,iV r.2.2.1,.int .u64 ((r.2.2.2:Nat):Int)] 92 (0,0))]∧Am rI E' Y Z r.2.1):=by
 refine A4 func99 fun Q bd cs H ap av=>?_;unfold f99 at V;refine zg 9 rfl (Be underlying28 rfl rfl rfl ?_);obtain⟨be,a0,a1⟩:=bs V;refine Cd a0 rfl rfl rfl ?_;obtain⟨bi,a2,a3⟩:=bs a1;refine B9 0 (HY al a2) rfl rfl HM ap rfl ?_;rintro _ bo _ ag ⟨a4,a5,rfl,rfl,a6⟩ a7;obtain⟨bv,a8,a9⟩:=bs a3;refine BN (am.Ah ag) a8 underlying28 AU ?_;rintro bw bz _ rfl bb;refine BH 0 bb Bt rfl rfl rfl (zg 2 rfl ?_);obtain rfl:=oi a9;exact AA func99 rfl rfl (av ag rfl ⟨a4,a5,rfl,rfl,a6⟩ a7)
def JX(fuel:Nat)(p0:List Int)(p1:Int)(K:(List Int)×Bool×Int):Option (Bf ((List Int)×Bool×Int) ((List Int)×Bool)):= if K.2.2<(p0.length:Int) then((ix p0 K.2.2).bind fun U=> Option.bind (if p1≤U then(some (!K.2.1)) else(some false)) fun V=> Option.bind (if V=true then((room K.1 p1).bind fun Y=> some (Y,true)) else(some (K.1,K.2.1))) fun O=> (ix p0 K.2.2).bind fun Z=> Option.bind (if Z≠p1 then((ix p0 K.2.2).bind fun ag=> (room O.1 ag).bind fun al=> some al) else(some O.1)) fun am=> (Au (K.2.2+1)).bind fun ap=> some (.more (am,O.2,ap))) else(some (.done (K.1,K.2.1)))
def f98(fuel:Nat)(p0:List Int)(p1:Int):Option ((List Int)):= Option.bind (iter (JX fuel p0 p1) fuel ([],false,0)) fun K=> Option.bind (if(!K.2)=true then((room K.1 p1).bind fun O=> some O) else(some K.1)) fun U=> some U
theorem Th{Y:An}{c2:Nat}{p0:List Int}{p1:Int}(bo:Am rI E Y c2 p0){fuel:Nat}{r:(List Int)}(bE:f98 fuel p0 p1=some r):AM J 98 [sV Y p0 c2,iV p1] E [] (fun w E' B'=>∃(bF:An) (bG:Nat),w= sV bF r bG∧B'= []∧Am rI E' bF bG r):=by
 refine A4 func98 fun Q df cs H bS bT=>?_;unfold f98 at bE;obtain⟨a5,bU,bV⟩:=bs bE;refine zg 17 rfl (Bp (fun L s=>∃(Z:LH) (am:An) (ap:Nat) (a6:Seg),Jn E H Z [a6] [(1,iV p1),(5,sV am a5.1 ap),(6,.bool a5.2)] L s (OL 3 rI Z am ap a6 a5.1)) ?_ ?_)
 ·rintro _ _ ⟨Z,am,ap,a6,rfl,rfl,bW,bH,bI⟩;refine zg 4 rfl (AE (v:= .bool (!a5.2)) rfl (fun ρ h=>Yl.not (h _ _ rfl)) ?_);obtain⟨bJ,bY,bZ⟩:=bs bV;refine JL.done (Bp (fun L s=>∃(bv:LH) (a7:An) (a8:Nat) (bw:Seg),Jn Z H bv [bw] [(5,sV a7 bJ a8)] L s (OL 3 rI bv a7 a8 bw bJ)) ?_ ?_)
  ·rintro _ _ ⟨bv,a7,a8,bw,rfl,rfl,b0,b1,b2⟩;refine zg 5 rfl (B6 0 b2 b1 rfl fun dg b3 b4 b5=>?_);obtain rfl:=oi bZ;exact AA func98 rfl rfl (bT ((bW.Ac b0).Ac b3) rfl ⟨a7,a8,rfl,rfl,b4⟩ b5)
  ·intro bK;refine BJ bY (fun b6 b7=>?_) (fun b6 b8=>?_)
   ·obtain⟨dh,b9,ca⟩:=bs b7;refine zg 3 rfl (JS.app (pp:=rI) (v:=iV p1) (a:=am) (c:=ap) 0 b9 rfl rfl rfl rfl (fun _=>rfl) rfl (fun _=>rfl) rfl rfl rfl underlying28 underlying28 underlying28 AU (CS type3) CK rfl (by decide) (by decide) (by decide) (by decide) bI rfl bH rfl fun di cb cc cd ce cf=>?_);refine zg 2 rfl ?_;obtain rfl:=oi ca;exact Ax (bK _ _ ⟨Z,cb,cc,cd,rfl,rfl,Ar,cf,ce⟩) rfl
   ·refine JL.skip ?_;obtain rfl:=oi b8;exact Ax (bK _ _ ⟨Z,am,ap,a6,rfl,rfl,Ar,bH,bI⟩) rfl
 ·intro cg;refine JL.block (CP bU (fun L s K=>∃(O:LH) (U:An) (V:Nat) (ag:Seg),Jn E H O [ag] [(0,sV Y p0 c2),(1,iV p1),(5,sV U K.1 V),(6,.bool K.2.1),(7,iV K.2.2)] L s (OL 3 rI O U V ag K.1)) ⟨E,none,0,[],rfl,rfl,Ar,bS,OL.nil⟩ ?_);rintro _ _ K ⟨O,U,V,ag,rfl,rfl,av,bz,bA⟩ ci ⟨dj,bB⟩ ck;have bL:=bB;unfold JX at bL;refine zg 5 rfl (Be underlying28 rfl rfl rfl ?_);refine zg 2 rfl (AL bL (fun cm cn=>?_) (fun cm co=>?_))
  ·obtain⟨dk,cp,cq⟩:=bs cn;refine zg 8 rfl (BN (bo.Ah av) cp underlying28 AU ?_);rintro dl dm _ rfl cr;refine BH 0 cr Bt rfl rfl rfl ?_;obtain⟨ct,cu,cv⟩:=bs cq;refine zg 3 rfl (ED [] (fun L s=>∃(a0:LH),Jm O H a0 [ag] [(0,sV Y p0 c2),(1,iV p1),(5,sV U K.1 V),(6,.bool K.2.1),(7,iV K.2.2),(23,.bool ct)] L s) ?_ ?_)
   ·rintro _ _ ⟨a0,rfl,rfl,a1,bM⟩;obtain⟨a2,cw,cy⟩:=bs cv;refine JL.done (Bp (fun L s=>∃(al:LH) (a3:An) (a4:Nat) (a9:Seg),Jn a0 H al [a9] [(0,sV Y p0 c2),(1,iV p1),(5,sV a3 a2.1 a4),(6,.bool a2.2),(7,iV K.2.2)] L s (OL 3 rI al a3 a4 a9 a2.1)) ?_ ?_)
    ·rintro _ _ ⟨al,a3,a4,a9,rfl,rfl,bC,bN,bO⟩;obtain⟨dn,cz,cA⟩:=bs cy;refine zg 4 rfl (BN (bo.Ah ((av.Ac a1).Ac bC)) cz underlying28 AU ?_);rintro dp dq _ rfl cB;refine BH 0 cB Bt rfl rfl rfl ?_;obtain⟨bD,cC,cD⟩:=bs cA;refine zg 3 rfl (Bp (fun L s=>∃(bb:LH) (bd:An) (be:Nat) (bi:Seg),Jn al H bb [bi] [(0,sV Y p0 c2),(1,iV p1),(5,sV bd bD be),(6,.bool a2.2),(7,iV K.2.2)] L s (OL 3 rI bb bd be bi bD)) ?_ ?_)
     ·rintro _ _ ⟨bb,bd,be,bi,rfl,rfl,cE,cF,cG⟩;obtain⟨cH,cI,cJ⟩:=bs cD;refine zg 3 rfl (Bc cI rfl rfl rfl ?_);refine zg 2 rfl ?_;obtain rfl:=oi cJ;exact Ax (ck _ _ (bD,a2.2,cH) ⟨bb,bd,be,bi,rfl,rfl,(((av.Ac a1).Ac bC).Ac cE),cF,cG⟩ bB) rfl
     ·intro bP;refine AL cC (fun cK cM=>?_) (fun cK cN=>?_)
      ·obtain⟨cO,cP,cQ⟩:=bs cM;refine zg 4 rfl (BN (bo.Ah ((av.Ac a1).Ac bC)) cP underlying28 AU ?_);rintro dr dt _ rfl cR;refine BH 0 cR Bt rfl rfl rfl ?_;obtain⟨du,cT,cV⟩:=bs cQ;refine JS.app (pp:=rI) (v:=iV cO) (a:=a3) (c:=a4) 0 cT rfl rfl rfl rfl (fun _=>rfl) rfl (fun _=>rfl) rfl rfl rfl underlying28 underlying28 underlying28 AU (CS type3) CK rfl (by decide) (by decide) (by decide) (by decide) bO rfl bN rfl fun dv cW cX cY cZ c0=>zg 2 rfl ?_;obtain rfl:=oi cV;exact Ax (bP _ _ ⟨al,cW,cX,cY,rfl,rfl,Ar,c0,cZ⟩) rfl
      ·refine JL.skip ?_;obtain rfl:=oi cN;exact Ax (bP _ _ ⟨al,a3,a4,a9,rfl,rfl,Ar,bN,bO⟩) rfl
    ·intro bQ;refine BJ cw (fun c1 c3=>?_) (fun c1 c4=>?_)
     ·obtain⟨dw,c5,c6⟩:=bs c3;refine zg 3 rfl (JS.app (pp:=rI) (v:=iV p1) (a:=U) (c:=V) 0 c5 rfl rfl rfl rfl (fun _=>rfl) rfl (fun _=>rfl) rfl rfl rfl underlying28 underlying28 underlying28 AU (CS type3) CK rfl (by decide) (by decide) (by decide) (by decide) (bA.Ah a1) rfl bM rfl fun dx c7 c8 c9 da db=>?_);refine zg 3 rfl ?_;obtain rfl:=oi c6;exact Ax (bQ _ _ ⟨a0,c7,c8,c9,rfl,rfl,Ar,db,da⟩) rfl
     ·refine JL.skip ?_;obtain rfl:=oi c4;exact Ax (bQ _ _ ⟨a0,U,V,ag,rfl,rfl,Ar,bM,(bA.Ah a1)⟩) rfl
   ·intro bR;refine Eo 20 cu (fun dc dd=>?_) (fun dc de=>?_)
    ·refine zg 1 rfl (AE (v:= .bool (!K.2.1)) rfl (fun ρ h=>Yl.not (h _ _ rfl)) ?_);refine zg 1 rfl ?_;obtain rfl:=oi dd;exact Ax (bR _ _ ⟨O,rfl,rfl,Ar,bz⟩) rfl
    ·refine zg 3 rfl ?_;obtain rfl:=oi de;exact Ax (bR _ _ ⟨O,rfl,rfl,Ar,bz⟩) rfl
  ·refine JL.exit rfl ?_;obtain rfl:=oi co;obtain rfl:=ci _ bB;exact Ax (cg _ _ ⟨O,U,V,ag,rfl,rfl,av,bz,bA⟩) rfl
def f108(fuel:Nat)(p0:List Int):Option ((List Int)):= (De ([]:List Int) p0).bind fun K=> some K
theorem YN{K:An}{c2:Nat}{p0:List Int}(Y:Am rI E K c2 p0){fuel:Nat}{r:(List Int)}(O:f108 fuel p0=some r):AM J 108 [sV K p0 c2] E [] (fun w E' B'=>∃(U:An) (V:Nat),w= sV U r V∧B'= []∧Am rI E' U V r):=by
 refine A4 func108 fun Q a7 cs H Z ag=>?_;unfold f108 at O;refine zg 6 rfl (KV (pp:=rI) rfl rfl rfl underlying28 AU Z fun a8 a9 al am=>?_);obtain⟨bb,ap,av⟩:=bs O;refine zg 1 rfl (KG (pp:=rI) 1 ap rfl rfl rfl rfl rfl rfl rfl underlying28 underlying28 AU (CS type3) CK rfl (by decide) (by decide) al Y am rfl fun a0 a1 bd a2 a3=>?_);refine zg 2 rfl (B6 1 a2 a3 rfl fun be a4 a5 a6=>?_);obtain rfl:=oi av;exact AA func108 rfl rfl (ag a4 rfl ⟨a0,a1,rfl,rfl,a5⟩ a6)
def f27(fuel:Nat)(p0:AI):Option ((AI)):= (De ([]:AI) p0).bind fun K=> some K
theorem Pj{K:An}{c2:Nat}{p0:AI}(Y:Am Bo E K c2 p0){fuel:Nat}{r:(AI)}(O:f27 fuel p0=some r):AM J 27 [sV K p0 c2] E [] (fun w E' B'=>∃(U:An) (V:Nat),w= sV U r V∧B'= []∧Am Bo E' U V r):=by
 refine A4 func27 fun Q a7 cs H Z ag=>?_;unfold f27 at O;refine zg 6 rfl (KV (pp:=Bo) rfl rfl rfl underlying25 Cf Z fun a8 a9 al am=>?_);obtain⟨bb,ap,av⟩:=bs O;refine zg 1 rfl (KG (pp:=Bo) 1 ap rfl rfl rfl rfl rfl rfl rfl underlying25 underlying25 Cf (CS type27) Et rfl (by decide) (by decide) al Y am rfl fun a0 a1 bd a2 a3=>?_);refine zg 2 rfl (B6 1 a2 a3 rfl fun be a4 a5 a6=>?_);obtain rfl:=oi av;exact AA func27 rfl rfl (ag a4 rfl ⟨a0,a1,rfl,rfl,a5⟩ a6)
def MZ(fuel:Nat)(p0:List (List Int))(K:(List (List Int))×Int):Option (Bf ((List (List Int))×Int) ((List (List Int)))):= if K.2<(p0.length:Int) then((ix p0 K.2).bind fun O=> (f108 fuel O).bind fun U=> (ix K.1 K.2).bind fun Y=> (Au (K.2+1)).bind fun V=> some (.more ((K.1.set (Int.toNat K.2) U),V))) else(some (.done K.1))
def f77(fuel:Nat)(p0:List (List Int)):Option ((List (List Int))):= (F4 (p0.length:Int) ([]:List Int)).bind fun K=> Option.bind (iter (MZ fuel p0) fuel (K,0)) fun O=> some O
theorem Tr{Y:An}{c2:Nat}{p0:List (List Int)}(bv:Am (rL rI) E Y c2 p0){fuel:Nat}{r:(List (List Int))}(a5:f77 fuel p0=some r):AM J 77 [sV Y p0 c2] E [] (fun w E' B'=>∃(a6:An) (a7:Nat),w= sV a6 r a7∧B'= []∧Am (rL rI) E' a6 a7 r):=by
 refine A4 func77 fun Q cn cs H bw bz=>?_;unfold f77 at a5;refine zg 7 rfl (Be underlying22 rfl rfl rfl ?_);obtain⟨bA,bB,bC⟩:=bs a5;refine JS.make (pp:=(rL rI)) bB rfl rfl rfl rfl rfl underlying22 BT (CS type28) (by decide) Fp (by decide) ⟨_,_,rfl,Am.nil⟩ bw fun bD bE bF bG=>?_;obtain⟨a8,bH,bI⟩:=bs bC;refine zg 7 rfl (Bp (fun L s=>∃(a0:LH) (Z:An) (ag:Nat) (a1:Seg),Jn E H a0 [a1] [(3,sV Z a8 ag)] L s (OL 28 (rL rI) a0 Z ag a1 a8)) ?_ ?_)
 ·rintro _ _ ⟨a0,Z,ag,a1,rfl,rfl,bJ,bK,bL⟩;refine zg 5 rfl (B6 0 bL bK rfl fun co bM bN bO=>?_);obtain rfl:=oi bI;exact AA func77 rfl rfl (bz (bJ.Ac bM) rfl ⟨Z,ag,rfl,rfl,bN⟩ bO)
 ·intro bP;refine JL.block (CP bH (fun L s K=>∃(al:LH) (U:An) (V:Nat) (am:Seg),Jn E H al [am] [(0,sV Y p0 c2),(3,sV U K.1 V),(4,iV K.2)] L s (OL 28 (rL rI) al U V am K.1)) ⟨E,(AY bD),bA.length,bE,rfl,rfl,Ar,bG,bF⟩ ?_);rintro _ _ K ⟨al,U,V,am,rfl,rfl,a2,a9,bb⟩ bQ ⟨cp,a3⟩ bR;have bd:=a3;unfold MZ at bd;refine zg 5 rfl (Be underlying22 rfl rfl rfl ?_);refine zg 2 rfl (AL bd (fun bS bT=>?_) (fun bS bU=>?_))
  ·obtain⟨bV,bW,bY⟩:=bs bT;refine zg 8 rfl (BN (bv.Ah a2) bW underlying22 BT ?_);rintro bZ b0 _ ⟨b1,b2,rfl,b3⟩ b4;refine BH 0 b4 CF rfl rfl rfl ?_;obtain⟨O,b5,b6⟩:=bs bY;refine BO (YN b3 b5) rfl rfl (AR func108 rfl) a9 ?_;rintro _ b7 _ be ⟨ap,av,rfl,rfl,b8⟩ b9;obtain⟨cq,ca,cb⟩:=bs b6;refine I3 0 (bb.Ah be) ca rfl rfl rfl rfl rfl rfl underlying22 BT ?_;rintro bi a4 f78 _ cc ⟨cr,ct,rfl,cu⟩ cv cd ce cw cy;refine JS.store (v:= sV ap O av) (off:=a4) 0 rfl rfl rfl b9 rfl rfl BT (by simp [Value.cells,CV]) cc (by have:=cd;simp only [Rp.n,rK,rN,rB,rP,rL] at this;show _+1≤_;omega) fun cf=>?_;have cg:=ce O [sV ap O av] ⟨_,_,rfl,b8⟩;have bo:(K.1.set (Int.toNat K.2) O).length=K.1.length:=List.length_set;refine Gh (L':= [(0,.slice Y p0.length c2),(3,.slice U ((K.1.set (Int.toNat K.2) O)).length V),(4,iV K.2),(8,iV K.2),(9,.slice Y p0.length c2),(10,iV (p0.length:Int)),(11,.bool (decide (K.2<(p0.length:Int)))),(14,.slice U ((K.1.set (Int.toNat K.2) O)).length V),(15,iV K.2),(16,.slice Y p0.length c2),(17,iV K.2),(18,pV bZ b0),(19,.slice b1 bV.length b2),(20,.slice ap O.length av),(21,pV bi a4)]) ⟨rfl,by rw [bo];rfl,rfl,rfl,rfl,rfl,rfl,by rw [bo];rfl,rfl,rfl,rfl,rfl,rfl,rfl,rfl,trivial⟩ ?_;obtain⟨ci,ck,cm⟩:=bs cb;refine zg 4 rfl (Bc ck rfl rfl rfl ?_);refine zg 2 rfl ?_;obtain rfl:=oi cm;exact Ax (bR _ _ ((K.1.set (Int.toNat K.2) O),ci) ⟨b7,U,V,[(bi,.cells (A1 f78 a4 [sV ap O av]) 28 (0,0))],rfl,rfl,(a2.Ac be),cf,cg⟩ a3) rfl
  ·refine JL.exit rfl ?_;obtain rfl:=oi bU;obtain rfl:=bQ _ a3;exact Ax (bP _ _ ⟨al,U,V,am,rfl,rfl,a2,a9,bb⟩) rfl
def f26(fuel:Nat)(p0:A2):Option ((A2)):= (f77 fuel p0.1).bind fun K=> (f77 fuel p0.2).bind fun O=> some (K,O)
theorem Ts{ag:An}{c2:Nat}{am:An}{ap:Nat}{p0:A2}(a8:Am (rL rI) E ag c2 p0.1)(a9:Am (rL rI) E am ap p0.2){fuel:Nat}{r:(A2)}(av:f26 fuel p0=some r):AM J 26 [.agg #[sV ag p0.1 c2,sV am p0.2 ap]] E [] (fun w E' B'=>∃(a0:An) (a1:Nat) (a2:An) (a3:Nat),w= .agg #[sV a0 r.1 a1,sV a2 r.2 a3]∧B'= []∧Am (rL rI) E' a0 a1 r.1∧Am (rL rI) E' a2 a3 r.2):=by
 refine A4 func26 fun Q bF cs H bb bd=>?_;unfold f26 at av;refine zg 2 rfl (B7 bb fun bG bH al a4 be=>?_);refine CU be GW fun bI bi=>?_;refine zg 2 rfl (C7 5 fun ht=>?_);refine Cc 0 ht underlying24 BP rfl rfl rfl rfl (Cy 1 ht 0 a4 Cn rfl rfl rfl rfl ?_);refine Cc 3 ht underlying24 BP rfl rfl rfl rfl (Cy 4 ht 1 a4 Cn rfl rfl rfl rfl ?_);obtain⟨Y,bo,bv⟩:=bs av;refine JG.call (i:=2) (vs:= [sV ag p0.1 c2]) (Tr (a8.Ah al) bo) (by decide+kernel) rfl rfl rfl (AR func77 rfl) rfl bi ?_;rintro _ bJ _ a5 ⟨K,O,rfl,rfl,bw⟩ bz;refine Co [5,6,7] ?_;obtain⟨Z,bA,bB⟩:=bs bv;refine BO (Tr (a9.Ah (al.Ac a5)) bA) rfl rfl (AR func77 rfl) bz ?_;rintro _ bK _ a6 ⟨U,V,rfl,rfl,bC⟩ bD;refine AE (v:= .agg #[sV K Y O,sV U Z V]) rfl (fun ρ h=>Di [(0,1),(1,1)] h GW underlying24 ⟨rfl,Bw type22,rfl,Bw type22,trivial⟩ rfl rfl) (BY 2 bD BD fun a7=>?_);refine JL.done ?_;obtain rfl:=oi bB;refine JL.ret (v:= .agg #[sV K Y O,sV U Z V]) rfl rfl (Cs.list func26 rfl (vs:= [.agg #[sV K Y O,sV U Z V]]) ⟨⟨_,rfl,Ld.many (vs:= [sV K Y O,sV U Z V]) BX BD (FV (off:=0) 2 a7 rfl rfl)⟩,trivial⟩) (Iw 2 a7 rfl fun bE=>?_);exact bd ((al.Ac a5).Ac a6) rfl ⟨K,O,U,V,rfl,rfl,(bw.Ah a6),bC⟩ bE
def M9(fuel:Nat)(p0:List (List Int))(K:Int):Option (Bf Int ((Bool)⊕(Unit))):= Option.bind (if K<(p0.length:Int) then(some (decide (K<20))) else(some false)) fun O=> if O=true then((ix p0 K).bind fun U=> if 20<(U.length:Int) then(some (.done (Sum.inl true))) else((Au (K+1)).bind fun V=> some (.more V))) else(some (.done (Sum.inr ())))
def f76(fuel:Nat)(p0:List (List Int)):Option Bool:= Option.bind (iter (M9 fuel p0) fuel 0) fun K=> Sum.elim (fun r=>some r) (fun O=> some (decide (20<(p0.length:Int)))) K
theorem Tq{K:An}{c2:Nat}{p0:List (List Int)}(a7:Am (rL rI) E K c2 p0){fuel:Nat}{r:Bool}(am:f76 fuel p0=some r):AM J 76 [sV K p0 c2] E [] (fun w E' B'=>w= .bool r∧B'= []):=by
 refine A4 func76 fun Q bR cs H a8 ap=>?_;unfold f76 at am;obtain⟨av,a9,a0⟩:=bs am;refine zg 9 rfl (Bp (fun L s=>∃(a1:Unit) (a2:LH),av=Sum.inr a1∧Jm E H a2 [] [(0,sV K p0 c2)] L s) ?_ ?_)
 ·rintro _ _ ⟨a1,a2,rfl,rfl,rfl,bb,bd⟩;have be:=elim_inr a0;refine zg 3 rfl (Be underlying22 rfl rfl rfl ?_);refine zg 3 rfl ?_;obtain rfl:=oi be;exact AA func76 rfl rfl (ap bb rfl ⟨rfl,rfl⟩ bd)
 ·intro bi;refine JL.block (Cz a9 (fun O=> []) (fun O=> [(0,sV K p0 c2),(3,iV O)]) Ar a8 ?_);rintro O Z U a3 a4 ⟨bS,V⟩ bo;have a5:=V;unfold M9 at a5;refine zg 5 rfl (Be underlying22 rfl rfl rfl ?_);obtain⟨bv,bw,bz⟩:=bs a5;refine zg 2 rfl (ED [] (fun L s=>∃(ag:LH),Jm Z H ag [] [(0,sV K p0 c2),(3,iV O),(11,.bool bv)] L s) ?_ ?_)
  ·rintro _ _ ⟨ag,rfl,rfl,Y,al⟩;refine JL.done (BJ bz (fun bA bB=>?_) (fun bA bC=>?_))
   ·obtain⟨bT,bD,bE⟩:=bs bB;refine zg 7 rfl (BN (a7.Ah (U.Ac Y)) bD underlying22 BT ?_);rintro bU bV _ ⟨bW,bY,rfl,bZ⟩ bF;refine BH 0 bF CF rfl rfl rfl (Be underlying28 rfl rfl rfl ?_);refine zg 2 rfl (AL bE (fun bG bH=>?_) (fun bG bI=>?_))
    ·refine zg 4 rfl ?_;obtain rfl:=oi bH;obtain rfl:=a4 _ V;have bJ:=elim_inl a0;obtain rfl:=oi bJ;exact AA func76 rfl rfl (ap (U.Ac Y) rfl ⟨rfl,rfl⟩ al)
    ·obtain⟨bK,bL,bM⟩:=bs bI;refine zg 4 rfl (Bc bL rfl rfl rfl ?_);refine zg 2 rfl ?_;obtain rfl:=oi bM;exact bo bK (U.Ac Y) al rfl V
   ·refine JL.exit rfl ?_;obtain rfl:=oi bC;have bN:av=(Sum.inr ()):=(a4 _ V).symm;exact Ax (bi _ _ ⟨(),ag,bN,rfl,rfl,(U.Ac Y),al⟩) rfl
  ·intro a6;refine Eo 8 bw (fun bO bP=>?_) (fun bO bQ=>?_)
   ·refine zg 3 rfl ?_;obtain rfl:=oi bP;exact Ax (a6 _ _ ⟨Z,rfl,rfl,Ar,a3⟩) rfl
   ·refine zg 3 rfl ?_;obtain rfl:=oi bQ;exact Ax (a6 _ _ ⟨Z,rfl,rfl,Ar,a3⟩) rfl
def f21(fuel:Nat)(p0:A2):Option Bool:= (f76 fuel p0.1).bind fun K=> Option.bind (if K=true then(some true) else((f76 fuel p0.2).bind fun O=> some O)) fun U=> some U
theorem aE{U:An}{c2:Nat}{V:An}{Y:Nat}{p0:A2}(ap:Am (rL rI) E U c2 p0.1)(av:Am (rL rI) E V Y p0.2){fuel:Nat}{r:Bool}(Z:f21 fuel p0=some r):AM J 21 [.agg #[sV U p0.1 c2,sV V p0.2 Y]] E [] (fun w E' B'=>w= .bool r∧B'= []):=by
 refine A4 func21 fun Q bz cs H a0 a1=>?_;unfold f21 at Z;refine zg 2 rfl (B7 a0 fun bA bB K ag a2=>?_);refine zg 4 rfl (JL.fl 0 ag underlying24 BP Cn ?_);obtain⟨bC,a3,a4⟩:=bs Z;refine BF (Tq (ap.Ah K) a3) rfl rfl (AR func76 rfl) a2 fun bD O al=>?_;obtain⟨a5,a6,a7⟩:=bs a4;refine zg 1 rfl (Dp 8 1 [] [(10,.bool a5)] (fun bE a8 a9=>?_) (fun am=>?_))
 ·refine zg 2 rfl ?_;obtain rfl:=oi a7;exact AA func21 rfl rfl (a1 ((K.Ac O).Ac a8) rfl ⟨rfl,rfl⟩ a9)
 ·refine Dy 6 a6 (fun bb bd=>?_) (fun bb be=>?_)
  ·refine zg 4 rfl ?_;obtain rfl:=oi bd;exact am Ar al rfl
  ·refine JL.fl 1 (ag.Ah O) underlying24 BP Cn ?_;obtain⟨bF,bi,bo⟩:=bs be;refine BF (Tq (av.Ah (K.Ac O)) bi) rfl rfl (AR func76 rfl) al fun bG bv bw=>zg 1 rfl ?_;obtain rfl:=oi bo;exact am bv bw rfl
def MS(fuel:Nat)(p0:A2)(p1:List Int)(K:Int):Option (Bf Int ((Int)⊕(Unit))):= if K<(p1.length:Int) then((ix p1 K).bind fun O=> (Au ((p0.1.length:Int) - 1)).bind fun U=> (f104 fuel O 0 U).bind fun V=> if(!V)=true then(some (.done (Sum.inl 3))) else(Option.bind (if 0<K then((ix p1 K).bind fun Y=> (Au (K - 1)).bind fun Z=> (ix p1 Z).bind fun ag=> some (decide (Y≤ag))) else(some false)) fun al=> if al=true then(some (.done (Sum.inl 5))) else((Au (K+1)).bind fun am=> some (.more am)))) else(some (.done (Sum.inr ())))
def f114(fuel:Nat)(p0:A2)(p1:List Int):Option Int:= if(p1.length:Int)=0 then(some 7) else(if 3<(p1.length:Int) then(some 6) else(Option.bind (iter (MS fuel p0 p1) fuel 0) fun K=> Sum.elim (fun r=>some r) (fun O=> some 0) K))
theorem ZS{a3:An}{c2:Nat}{a4:An}{a5:Nat}{ag:An}{al:Nat}{p0:A2}{p1:List Int}(cr:Am (rL rI) E a3 c2 p0.1)(ct:Am (rL rI) E a4 a5 p0.2)(am:Am rI E ag al p1){fuel:Nat}{r:Int}(a6:f114 fuel p0 p1=some r):AM J 114 [.agg #[sV a3 p0.1 c2,sV a4 p0.2 a5],sV ag p1 al] E [] (fun w E' B'=>w=iV r∧B'= []):=by
 refine A4 func114 fun Q cu cs H bv U=>?_;unfold f114 at a6;refine zg 2 rfl (B7 bv fun a7 bw K bz ap=>?_);refine zg 6 rfl (Be underlying28 rfl rfl rfl ?_);refine zg 2 rfl (AL a6 (fun bA bB=>?_) (fun bA bC=>?_))
 ·refine zg 4 rfl ?_;obtain rfl:=oi bB;exact AA func114 rfl rfl (U K rfl ⟨rfl,rfl⟩ ap)
 ·refine zg 5 rfl (Be underlying28 rfl rfl rfl ?_);refine zg 2 rfl (AL bC (fun bD bE=>?_) (fun bD bF=>?_))
  ·refine zg 4 rfl ?_;obtain rfl:=oi bE;exact AA func114 rfl rfl (U K rfl ⟨rfl,rfl⟩ ap)
  ·obtain⟨a8,bG,av⟩:=bs bF;refine zg 6 rfl (Bp (fun L s=>∃(a9:Unit) (bb:LH),a8=Sum.inr a9∧Jm bw H bb [] [] L s) ?_ ?_)
   ·rintro _ _ ⟨a9,bb,rfl,rfl,rfl,bH,bI⟩;have bJ:=elim_inr av;refine zg 4 rfl ?_;obtain rfl:=oi bJ;exact AA func114 rfl rfl (U (K.Ac bH) rfl ⟨rfl,rfl⟩ bI)
   ·intro bK;refine JL.block (Cz bG (fun V=> []) (fun V=> [(1,sV ag p1 al),(2,pV a7 0),(5,iV V)]) Ar ap ?_);rintro V bL O bd a0 ⟨cv,Y⟩ bM;have be:=Y;unfold MS at be;refine zg 5 rfl (Be underlying28 rfl rfl rfl ?_);refine zg 2 rfl (AL be (fun bN bO=>?_) (fun bN bP=>?_))
    ·refine zg 5 rfl (C7 8 fun ht=>?_);refine A0 ht rfl [0,1] rfl ?_;obtain⟨cw,bQ,bR⟩:=bs bO;refine CG 2 (am.Ah (K.Ac O)) bQ ht underlying28 AU ?_;rintro cy cz _ rfl bS;refine Cy 3 ht 0 bS Bt rfl rfl rfl rfl (Cc 4 ht underlying24 BP rfl rfl rfl rfl ?_);refine Cy 5 ht 0 (bz.Ah O) Cn rfl rfl rfl rfl (BC 6 ht rfl rfl (fun ρ h s' hs=>Yl.len rfl underlying22 (h _ _ rfl)) ?_);obtain⟨cA,bT,bU⟩:=bs bR;refine BC 7 ht rfl rfl (fun ρ h s' hs=>Dc (h _ _ rfl) (h _ _ rfl) bT) (Co [8,9] ?_);obtain⟨bV,bW,bY⟩:=bs bU;refine BF (Nq bW) rfl rfl LY bd fun bZ Z a1=>AE (v:= .bool (!bV)) rfl (fun ρ h=>Yl.not (h _ _ rfl)) (JL.done ?_);refine BJ bY (fun b0 b1=>?_) (fun b0 b2=>?_)
     ·refine zg 4 rfl ?_;obtain rfl:=oi b1;obtain rfl:=a0 _ Y;have b3:=elim_inl av;obtain rfl:=oi b3;exact AA func114 rfl rfl (U ((K.Ac O).Ac Z) rfl ⟨rfl,rfl⟩ a1)
     ·refine zg 2 rfl (C7 14 fun ht=>?_);refine A0 ht rfl [0,1,2] rfl ?_;obtain⟨b4,bi,b5⟩:=bs b2;refine Ed 0 #[true,true,true,true,true,true,true,true,true,true,true,true,true,true] (fun L s=>L= [(1,sV ag p1 al),(2,pV a7 0),(5,iV V),(41,.bool b4)]∧s=Ao bZ H [[]]) ?_ ?_
      ·rintro _ _ ⟨rfl,rfl⟩;refine AX.fin (by decide+kernel) (BJ b5 (fun b6 b7=>?_) (fun b6 b8=>?_))
       ·refine zg 4 rfl ?_;obtain rfl:=oi b7;obtain rfl:=a0 _ Y;have b9:=elim_inl av;obtain rfl:=oi b9;exact AA func114 rfl rfl (U ((K.Ac O).Ac Z) rfl ⟨rfl,rfl⟩ a1)
       ·obtain⟨ca,cb,cc⟩:=bs b8;refine zg 4 rfl (Bc cb rfl rfl rfl ?_);refine zg 2 rfl ?_;obtain rfl:=oi cc;exact bM ca (O.Ac Z) a1 rfl Y
      ·intro bo;refine Ft (q:=0<V) (i:=30) rfl (fun a2=>?_) (fun a2=>?_)
       ·have cd:=ip bi a2;refine A0 ht rfl [3,4] rfl ?_;obtain⟨cB,ce,cf⟩:=bs cd;refine CG 5 (am.Ah ((K.Ac O).Ac Z)) ce ht underlying28 AU ?_;rintro cC cD _ rfl cg;refine Cy 6 ht 0 cg Bt rfl rfl rfl rfl ?_;refine A0 ht rfl [7,8] rfl ?_;obtain⟨cE,ci,ck⟩:=bs cf;refine BC 9 ht rfl rfl (fun ρ h s' hs=>Dc (h _ _ rfl) (h _ _ rfl) ci) ?_;obtain⟨cF,cm,cn⟩:=bs ck;refine CG 10 (am.Ah ((K.Ac O).Ac Z)) cm ht underlying28 AU ?_;rintro cG cH _ rfl co;refine Cy 11 ht 0 co Bt rfl rfl rfl rfl ?_;refine A0 ht rfl [12,13] rfl ?_;obtain rfl:=oi cn;refine CE ?_ (bo _ _ ⟨rfl,rfl⟩);exact⟨rfl,rfl,rfl,rfl,trivial⟩
       ·have cp:=im bi a2;refine A0 ht rfl [3,4,5,6,7,8,9,10,11,12,13] rfl ?_;obtain rfl:=oi cp;refine CE ?_ (bo _ _ ⟨rfl,rfl⟩);exact⟨rfl,rfl,rfl,rfl,trivial⟩
    ·refine JL.exit rfl ?_;obtain rfl:=oi bP;have cq:a8=(Sum.inr ()):=(a0 _ Y).symm;exact Ax (bK _ _ ⟨(),bL,cq,rfl,rfl,O,bd⟩) rfl
def MF(fuel:Nat)(p0:A2)(p1:Int)(p2:List Int)(K:Int):Option (Bf Int ((Int)⊕(Unit))):= if K<(p2.length:Int) then((ix p2 K).bind fun O=> (Au ((p0.1.length:Int) - 1)).bind fun U=> (f104 fuel O 0 U).bind fun V=> if(!V)=true then(some (.done (Sum.inl 3))) else((ix p2 K).bind fun Y=> if Y=p1 then(some (.done (Sum.inl 8))) else(Option.bind (if 0<K then((ix p2 K).bind fun Z=> (Au (K - 1)).bind fun ag=> (ix p2 ag).bind fun al=> some (decide (Z≤al))) else(some false)) fun am=> if am=true then(some (.done (Sum.inl 5))) else((Au (K+1)).bind fun ap=> some (.more ap))))) else(some (.done (Sum.inr ())))
def f115(fuel:Nat)(p0:A2)(p1:Int)(p2:List Int):Option Int:= if 3<(p2.length:Int) then(some 6) else(Option.bind (iter (MF fuel p0 p1 p2) fuel 0) fun K=> Sum.elim (fun r=>some r) (fun O=> some 0) K)
theorem ZR{a2:An}{c2:Nat}{a3:An}{a4:Nat}{ag:An}{al:Nat}{p0:A2}{p1:Int}{p2:List Int}(cw:Am (rL rI) E a2 c2 p0.1)(cy:Am (rL rI) E a3 a4 p0.2)(am:Am rI E ag al p2){fuel:Nat}{r:Int}(a5:f115 fuel p0 p1 p2=some r):AM J 115 [.agg #[sV a2 p0.1 c2,sV a3 p0.2 a4],iV p1,sV ag p2 al] E [] (fun w E' B'=>w=iV r∧B'= []):=by
 refine A4 func115 fun Q cz cs H bv Y=>?_;unfold f115 at a5;refine zg 2 rfl (B7 bv fun a6 bw O bz a7=>?_);refine zg 6 rfl (Be underlying28 rfl rfl rfl ?_);refine zg 2 rfl (AL a5 (fun bA bB=>?_) (fun bA bC=>?_))
 ·refine zg 4 rfl ?_;obtain rfl:=oi bB;exact AA func115 rfl rfl (Y O rfl ⟨rfl,rfl⟩ a7)
 ·obtain⟨a8,bD,ap⟩:=bs bC;refine zg 6 rfl (Bp (fun L s=>∃(a9:Unit) (bb:LH),a8=Sum.inr a9∧Jm bw H bb [] [] L s) ?_ ?_)
  ·rintro _ _ ⟨a9,bb,rfl,rfl,rfl,bE,bF⟩;have bG:=elim_inr ap;refine zg 4 rfl ?_;obtain rfl:=oi bG;exact AA func115 rfl rfl (Y (O.Ac bE) rfl ⟨rfl,rfl⟩ bF)
  ·intro bH;refine JL.block (Cz bD (fun Z=> []) (fun Z=> [(1,iV p1),(2,sV ag p2 al),(3,pV a6 0),(7,iV Z)]) Ar a7 ?_);rintro Z bI K bd av ⟨cA,V⟩ bJ;have be:=V;unfold MF at be;refine zg 5 rfl (Be underlying28 rfl rfl rfl ?_);refine zg 2 rfl (AL be (fun bK bL=>?_) (fun bK bM=>?_))
   ·refine zg 5 rfl (C7 8 fun ht=>?_);refine A0 ht rfl [0,1] rfl ?_;obtain⟨cB,bN,bO⟩:=bs bL;refine CG 2 (am.Ah (O.Ac K)) bN ht underlying28 AU ?_;rintro cC cD _ rfl bP;refine Cy 3 ht 0 bP Bt rfl rfl rfl rfl (Cc 4 ht underlying24 BP rfl rfl rfl rfl ?_);refine Cy 5 ht 0 (bz.Ah K) Cn rfl rfl rfl rfl (BC 6 ht rfl rfl (fun ρ h s' hs=>Yl.len rfl underlying22 (h _ _ rfl)) ?_);obtain⟨cE,bQ,bR⟩:=bs bO;refine BC 7 ht rfl rfl (fun ρ h s' hs=>Dc (h _ _ rfl) (h _ _ rfl) bQ) (Co [8,9] ?_);obtain⟨bS,bT,bU⟩:=bs bR;refine BF (Nq bT) rfl rfl LY bd fun bV U a0=>AE (v:= .bool (!bS)) rfl (fun ρ h=>Yl.not (h _ _ rfl)) (JL.done ?_);refine BJ bU (fun bW bY=>?_) (fun bW bZ=>?_)
    ·refine zg 4 rfl ?_;obtain rfl:=oi bY;obtain rfl:=av _ V;have b0:=elim_inl ap;obtain rfl:=oi b0;exact AA func115 rfl rfl (Y ((O.Ac K).Ac U) rfl ⟨rfl,rfl⟩ a0)
    ·obtain⟨cF,b1,b2⟩:=bs bZ;refine zg 6 rfl (BN (am.Ah ((O.Ac K).Ac U)) b1 underlying28 AU ?_);rintro cG cH _ rfl b3;refine BH 0 b3 Bt rfl rfl rfl (zg 3 rfl ?_);refine AL b2 (fun b4 b5=>?_) (fun b4 b6=>?_)
     ·refine zg 4 rfl ?_;obtain rfl:=oi b5;obtain rfl:=av _ V;have b7:=elim_inl ap;obtain rfl:=oi b7;exact AA func115 rfl rfl (Y ((O.Ac K).Ac U) rfl ⟨rfl,rfl⟩ a0)
     ·refine zg 2 rfl (C7 14 fun ht=>?_);refine A0 ht rfl [0,1,2] rfl ?_;obtain⟨b8,bi,b9⟩:=bs b6;refine Ed 0 #[true,true,true,true,true,true,true,true,true,true,true,true,true,true] (fun L s=>L= [(1,iV p1),(2,sV ag p2 al),(3,pV a6 0),(7,iV Z),(46,.bool b8)]∧s=Ao bV H [[]]) ?_ ?_
      ·rintro _ _ ⟨rfl,rfl⟩;refine AX.fin (by decide+kernel) (BJ b9 (fun ca cb=>?_) (fun ca cc=>?_))
       ·refine zg 4 rfl ?_;obtain rfl:=oi cb;obtain rfl:=av _ V;have cd:=elim_inl ap;obtain rfl:=oi cd;exact AA func115 rfl rfl (Y ((O.Ac K).Ac U) rfl ⟨rfl,rfl⟩ a0)
       ·obtain⟨ce,cf,cg⟩:=bs cc;refine zg 4 rfl (Bc cf rfl rfl rfl ?_);refine zg 2 rfl ?_;obtain rfl:=oi cg;exact bJ ce (K.Ac U) a0 rfl V
      ·intro bo;refine Ft (q:=0<Z) (i:=35) rfl (fun a1=>?_) (fun a1=>?_)
       ·have ci:=ip bi a1;refine A0 ht rfl [3,4] rfl ?_;obtain⟨cI,ck,cm⟩:=bs ci;refine CG 5 (am.Ah ((O.Ac K).Ac U)) ck ht underlying28 AU ?_;rintro cJ cK _ rfl cn;refine Cy 6 ht 0 cn Bt rfl rfl rfl rfl ?_;refine A0 ht rfl [7,8] rfl ?_;obtain⟨cM,co,cp⟩:=bs cm;refine BC 9 ht rfl rfl (fun ρ h s' hs=>Dc (h _ _ rfl) (h _ _ rfl) co) ?_;obtain⟨cN,cq,cr⟩:=bs cp;refine CG 10 (am.Ah ((O.Ac K).Ac U)) cq ht underlying28 AU ?_;rintro cO cP _ rfl ct;refine Cy 11 ht 0 ct Bt rfl rfl rfl rfl ?_;refine A0 ht rfl [12,13] rfl ?_;obtain rfl:=oi cr;refine CE ?_ (bo _ _ ⟨rfl,rfl⟩);exact⟨rfl,rfl,rfl,rfl,rfl,trivial⟩
       ·have cu:=im bi a1;refine A0 ht rfl [3,4,5,6,7,8,9,10,11,12,13] rfl ?_;obtain rfl:=oi cu;refine CE ?_ (bo _ _ ⟨rfl,rfl⟩);exact⟨rfl,rfl,rfl,rfl,rfl,trivial⟩
   ·refine JL.exit rfl ?_;obtain rfl:=oi bM;have cv:a8=(Sum.inr ()):=(av _ V).symm;exact Ax (bH _ _ ⟨(),bI,cv,rfl,rfl,K,bd⟩) rfl
def Ni(fuel:Nat)(p0:A2)(K:Int):Option (Bf Int ((Int)⊕(Unit))):= if K<(p0.1.length:Int) then((ix p0.1 K).bind fun V=> (f114 fuel p0 V).bind fun O=> if O≠0 then(some (.done (Sum.inl O))) else((ix p0.2 K).bind fun Y=> (f115 fuel p0 K Y).bind fun U=> if U≠0 then(some (.done (Sum.inl U))) else((Au (K+1)).bind fun Z=> some (.more Z)))) else(some (.done (Sum.inr ())))
def f68(fuel:Nat)(p0:A2):Option Int:= if(p0.1.length:Int)=0 then(some 7) else(if 8<(p0.1.length:Int) then(some 6) else(if(p0.2.length:Int)≠(p0.1.length:Int) then(some 9) else(Option.bind (iter (Ni fuel p0) fuel 0) fun K=> Sum.elim (fun r=>some r) (fun O=> some 0) K)))
theorem bg{a1:An}{c2:Nat}{a2:An}{a3:Nat}{p0:A2}(al:Am (rL rI) E a1 c2 p0.1)(am:Am (rL rI) E a2 a3 p0.2){fuel:Nat}{r:Int}(a4:f68 fuel p0=some r):AM J 68 [.agg #[sV a1 p0.1 c2,sV a2 p0.2 a3]] E [] (fun w E' B'=>w=iV r∧B'= []):=by
 refine A4 func68 fun Q cg cs H bi Y=>?_;unfold f68 at a4;refine zg 2 rfl (B7 bi fun bo bv O U ag=>?_);refine zg 5 rfl (JL.fl 0 U underlying24 BP Cn ?_);refine Be underlying22 rfl rfl rfl (zg 2 rfl ?_);refine AL a4 (fun bw bz=>?_) (fun bw bA=>?_)
 ·refine zg 4 rfl ?_;obtain rfl:=oi bz;exact AA func68 rfl rfl (Y O rfl ⟨rfl,rfl⟩ ag)
 ·refine zg 4 rfl (JL.fl 0 U underlying24 BP Cn ?_);refine Be underlying22 rfl rfl rfl (zg 2 rfl ?_);refine AL bA (fun bB bC=>?_) (fun bB bD=>?_)
  ·refine zg 4 rfl ?_;obtain rfl:=oi bC;exact AA func68 rfl rfl (Y O rfl ⟨rfl,rfl⟩ ag)
  ·refine zg 4 rfl (JL.fl 1 U underlying24 BP Cn ?_);refine Be underlying22 rfl rfl rfl (JL.fl 0 U underlying24 BP Cn ?_);refine Be underlying22 rfl rfl rfl (zg 2 rfl ?_);refine AL bD (fun bE bF=>?_) (fun bE bG=>?_)
   ·refine zg 4 rfl ?_;obtain rfl:=oi bF;exact AA func68 rfl rfl (Y O rfl ⟨rfl,rfl⟩ ag)
   ·obtain⟨a5,bH,ap⟩:=bs bG;refine zg 6 rfl (Bp (fun L s=>∃(a6:Unit) (a7:LH),a5=Sum.inr a6∧Jm bv H a7 [] [] L s) ?_ ?_)
    ·rintro _ _ ⟨a6,a7,rfl,rfl,rfl,bI,bJ⟩;have bK:=elim_inr ap;refine zg 4 rfl ?_;obtain rfl:=oi bK;exact AA func68 rfl rfl (Y (O.Ac bI) rfl ⟨rfl,rfl⟩ bJ)
    ·intro bL;refine JL.block (Cz bH (fun av=> []) (fun av=> [(1,pV bo 0),(3,iV av)]) Ar ag ?_);rintro av bM K a8 a0 ⟨ci,Z⟩ bN;have a9:=Z;unfold Ni at a9;refine zg 4 rfl (JL.fl 0 (U.Ah K) underlying24 BP Cn ?_);refine Be underlying22 rfl rfl rfl (zg 2 rfl ?_);refine AL a9 (fun bO bP=>?_) (fun bO bQ=>?_)
     ·refine zg 5 rfl (C7 6 fun ht=>?_);refine Fe 0 ht (U.Ah K) BX BD rfl rfl rfl (Cc 1 ht underlying24 BP rfl rfl rfl rfl ?_);refine Cy 2 ht 0 (U.Ah K) Cn rfl rfl rfl rfl (Cb 3 ht rfl rfl ?_);obtain⟨ck,bR,bS⟩:=bs bP;refine CG 4 (al.Ah (O.Ac K)) bR ht underlying22 BT ?_;rintro cm cn _ ⟨co,cp,rfl,bT⟩ bU;refine Cy 5 ht 0 bU CF rfl rfl rfl rfl (Co [6,7] ?_);obtain⟨cq,bV,bW⟩:=bs bS;refine BF (ZS (al.Ah (O.Ac K)) (am.Ah (O.Ac K)) bT bV) rfl rfl (AR func114 rfl) a8 fun cr V bb=>zg 7 rfl (AL bW (fun bY bZ=>?_) (fun bY b0=>?_))
      ·refine zg 5 rfl ?_;obtain rfl:=oi bZ;obtain rfl:=a0 _ Z;have b1:=elim_inl ap;obtain rfl:=oi b1;exact AA func68 rfl rfl (Y ((O.Ac K).Ac V) rfl ⟨rfl,rfl⟩ bb)
      ·refine zg 2 rfl (C7 7 fun ht=>?_);refine Fe 0 ht (U.Ah (K.Ac V)) BX BD rfl rfl rfl (Cb 1 ht rfl rfl ?_);refine Cc 2 ht underlying24 BP rfl rfl rfl rfl (Cy 3 ht 1 (U.Ah (K.Ac V)) Cn rfl rfl rfl rfl ?_);refine Cb 4 ht rfl rfl ?_;obtain⟨ct,b2,b3⟩:=bs b0;refine CG 5 (am.Ah ((O.Ac K).Ac V)) b2 ht underlying22 BT ?_;rintro cu cv _ ⟨cw,cy,rfl,b4⟩ b5;refine Cy 6 ht 0 b5 CF rfl rfl rfl rfl (Co [7,8] ?_);obtain⟨cz,b6,b7⟩:=bs b3;refine BF (ZR (al.Ah ((O.Ac K).Ac V)) (am.Ah ((O.Ac K).Ac V)) b4 b6) rfl rfl (AR func115 rfl) bb fun cA bd be=>zg 7 rfl (AL b7 (fun b8 b9=>?_) (fun b8 ca=>?_))
       ·refine zg 5 rfl ?_;obtain rfl:=oi b9;obtain rfl:=a0 _ Z;have cb:=elim_inl ap;obtain rfl:=oi cb;exact AA func68 rfl rfl (Y (((O.Ac K).Ac V).Ac bd) rfl ⟨rfl,rfl⟩ be)
       ·obtain⟨cc,cd,ce⟩:=bs ca;refine zg 4 rfl (Bc cd rfl rfl rfl ?_);refine zg 2 rfl ?_;obtain rfl:=oi ce;exact bN cc ((K.Ac V).Ac bd) be rfl Z
     ·refine JL.exit rfl ?_;obtain rfl:=oi bQ;have cf:a5=(Sum.inr ()):=(a0 _ Z).symm;exact Ax (bL _ _ ⟨(),bM,cf,rfl,rfl,K,a8⟩) rfl
def Nv(fuel:Nat)(p0:A2)(p1:AI)(K:Int):Option (Bf Int ((Int)⊕(Unit))):= if K<(p1.length:Int) then((ix p1 K).bind fun O=> (f104 fuel O.1 0 6).bind fun U=> if(!U)=true then(some (.done (Sum.inl 1))) else(Option.bind (if 0<K then((ix p1 K).bind fun V=> (Au (K - 1)).bind fun Y=> (ix p1 Y).bind fun Z=> some (decide (V.1<Z.1))) else(some false)) fun ag=> if ag=true then(some (.done (Sum.inl 5))) else((ix p1 K).bind fun al=> (Au ((p0.1.length:Int) - 1)).bind fun am=> (f104 fuel al.2 0 am).bind fun ap=> if(!ap)=true then(some (.done (Sum.inl 3))) else((Au (K+1)).bind fun av=> some (.more av))))) else(some (.done (Sum.inr ())))
def f70(fuel:Nat)(p0:A2)(p1:AI):Option Int:= (f68 fuel p0).bind fun K=> if K≠0 then(some K) else(if 4<(p1.length:Int) then(some 6) else(Option.bind (iter (Nv fuel p0 p1) fuel 0) fun O=> Sum.elim (fun r=>some r) (fun U=> some 0) O))
theorem aF{a4:An}{c2:Nat}{a5:An}{a6:Nat}{al:An}{am:Nat}{p0:A2}{p1:AI}(bB:Am (rL rI) E a4 c2 p0.1)(bC:Am (rL rI) E a5 a6 p0.2)(ap:Am Bo E al am p1){fuel:Nat}{r:Int}(a7:f70 fuel p0 p1=some r):AM J 70 [.agg #[sV a4 p0.1 c2,sV a5 p0.2 a6],sV al p1 am] E [] (fun w E' B'=>w=iV r∧B'= []):=by
 refine A4 func70 fun Q cM cs H bD Y=>?_;unfold f70 at a7;refine zg 2 rfl (B7 bD fun a8 cN K a9 bE=>?_);refine zg 5 rfl (BQ a9 BX BD rfl rfl ?_);obtain⟨cO,bF,bG⟩:=bs a7;refine BF (bg (bB.Ah K) (bC.Ah K) bF) rfl rfl (AR func68 rfl) bE fun bH O a1=>zg 7 rfl (AL bG (fun bI bJ=>?_) (fun bI bK=>?_))
 ·refine zg 5 rfl ?_;obtain rfl:=oi bJ;exact AA func70 rfl rfl (Y (K.Ac O) rfl ⟨rfl,rfl⟩ a1)
 ·refine zg 5 rfl (Be underlying25 rfl rfl rfl ?_);refine zg 2 rfl (AL bK (fun bL bM=>?_) (fun bL bN=>?_))
  ·refine zg 4 rfl ?_;obtain rfl:=oi bM;exact AA func70 rfl rfl (Y (K.Ac O) rfl ⟨rfl,rfl⟩ a1)
  ·obtain⟨bb,bO,av⟩:=bs bN;refine zg 6 rfl (Bp (fun L s=>∃(bd:Unit) (be:LH),bb=Sum.inr bd∧Jm bH H be [] [] L s) ?_ ?_)
   ·rintro _ _ ⟨bd,be,rfl,rfl,rfl,bP,bQ⟩;have bR:=elim_inr av;refine zg 4 rfl ?_;obtain rfl:=oi bR;exact AA func70 rfl rfl (Y ((K.Ac O).Ac bP) rfl ⟨rfl,rfl⟩ bQ)
   ·intro bS;refine JL.block (Cz bO (fun ag=> []) (fun ag=> [(1,sV al p1 am),(2,pV a8 0),(6,iV ag)]) Ar a1 ?_);rintro ag bT U bi a0 ⟨cP,Z⟩ bU;have bo:=Z;unfold Nv at bo;refine zg 5 rfl (Be underlying25 rfl rfl rfl ?_);refine zg 2 rfl (AL bo (fun bV bW=>?_) (fun bV bY=>?_))
    ·obtain⟨cQ,bZ,b0⟩:=bs bW;refine zg 8 rfl (BN (ap.Ah ((K.Ac O).Ac U)) bZ underlying25 Cf ?_);rintro cR cT _ ⟨_,_,rfl,rfl,rfl⟩ b1;refine JL.fl 0 b1 underlying27 AU Bt ?_;obtain⟨b2,b3,b4⟩:=bs b0;refine BF (Nq b3) rfl rfl LY bi fun b5 V a2=>AE (v:= .bool (!b2)) rfl (fun ρ h=>Yl.not (h _ _ rfl)) (JL.done ?_);refine BJ b4 (fun b6 b7=>?_) (fun b6 b8=>?_)
     ·refine zg 4 rfl ?_;obtain rfl:=oi b7;obtain rfl:=a0 _ Z;have b9:=elim_inl av;obtain rfl:=oi b9;exact AA func70 rfl rfl (Y (((K.Ac O).Ac U).Ac V) rfl ⟨rfl,rfl⟩ a2)
     ·refine zg 3 rfl (C7 16 fun ht=>?_);refine A0 ht rfl [0,1,2] rfl ?_;obtain⟨ca,bv,cb⟩:=bs b8;refine Ed 0 #[true,true,true,true,true,true,true,true,true,true,true,true,true,true,true,true] (fun L s=>L= [(1,sV al p1 am),(2,pV a8 0),(6,iV ag),(43,.bool ca)]∧s=Ao b5 H [[]]) ?_ ?_
      ·rintro _ _ ⟨rfl,rfl⟩;refine AX.fin (by decide+kernel) (BJ cb (fun cc cd=>?_) (fun cc ce=>?_))
       ·refine zg 4 rfl ?_;obtain rfl:=oi cd;obtain rfl:=a0 _ Z;have cf:=elim_inl av;obtain rfl:=oi cf;exact AA func70 rfl rfl (Y (((K.Ac O).Ac U).Ac V) rfl ⟨rfl,rfl⟩ a2)
       ·refine zg 2 rfl (C7 9 fun ht=>?_);refine A0 ht rfl [0,1] rfl ?_;obtain⟨cV,cg,ci⟩:=bs ce;refine CG 2 (ap.Ah (((K.Ac O).Ac U).Ac V)) cg ht underlying25 Cf ?_;rintro cW cX _ ⟨_,_,rfl,rfl,rfl⟩ ck;refine Cc 3 ht underlying27 AU rfl rfl rfl rfl (Cy 4 ht 1 ck Bt rfl rfl rfl rfl ?_);refine Cc 5 ht underlying24 BP rfl rfl rfl rfl (Cy 6 ht 0 (a9.Ah ((O.Ac U).Ac V)) Cn rfl rfl rfl rfl ?_);refine BC 7 ht rfl rfl (fun ρ h s' hs=>Yl.len rfl underlying22 (h _ _ rfl)) ?_;obtain⟨cY,cm,cn⟩:=bs ci;refine BC 8 ht rfl rfl (fun ρ h s' hs=>Dc (h _ _ rfl) (h _ _ rfl) cm) (Co [9,10] ?_);obtain⟨co,cp,cq⟩:=bs cn;refine BF (Nq cp) rfl rfl LY a2 fun cZ bw bz=>AE (v:= .bool (!co)) rfl (fun ρ h=>Yl.not (h _ _ rfl)) (JL.done ?_);refine BJ cq (fun cr ct=>?_) (fun cr cu=>?_)
        ·refine zg 4 rfl ?_;obtain rfl:=oi ct;obtain rfl:=a0 _ Z;have cv:=elim_inl av;obtain rfl:=oi cv;exact AA func70 rfl rfl (Y ((((K.Ac O).Ac U).Ac V).Ac bw) rfl ⟨rfl,rfl⟩ bz)
        ·obtain⟨cw,cy,cz⟩:=bs cu;refine zg 4 rfl (Bc cy rfl rfl rfl ?_);refine zg 2 rfl ?_;obtain rfl:=oi cz;exact bU cw ((U.Ac V).Ac bw) bz rfl Z
      ·intro bA;refine Ft (q:=0<ag) (i:=30) rfl (fun a3=>?_) (fun a3=>?_)
       ·have cA:=ip bv a3;refine A0 ht rfl [3,4] rfl ?_;obtain⟨c0,cB,cC⟩:=bs cA;refine CG 5 (ap.Ah (((K.Ac O).Ac U).Ac V)) cB ht underlying25 Cf ?_;rintro c1 c3 _ ⟨_,_,rfl,rfl,rfl⟩ cD;refine Cc 6 ht underlying27 AU rfl rfl rfl rfl ?_;refine Cy 7 ht 0 cD Bt rfl rfl rfl rfl ?_;refine A0 ht rfl [8,9] rfl ?_;obtain⟨c4,cE,cF⟩:=bs cC;refine BC 10 ht rfl rfl (fun ρ h s' hs=>Dc (h _ _ rfl) (h _ _ rfl) cE) ?_;obtain⟨c5,cG,cH⟩:=bs cF;refine CG 11 (ap.Ah (((K.Ac O).Ac U).Ac V)) cG ht underlying25 Cf ?_;rintro c6 c7 _ ⟨_,_,rfl,rfl,rfl⟩ cI;refine Cc 12 ht underlying27 AU rfl rfl rfl rfl ?_;refine Cy 13 ht 0 cI Bt rfl rfl rfl rfl ?_;refine A0 ht rfl [14,15] rfl ?_;obtain rfl:=oi cH;refine CE ?_ (bA _ _ ⟨rfl,rfl⟩);exact⟨rfl,rfl,rfl,rfl,trivial⟩
       ·have cJ:=im bv a3;refine A0 ht rfl [3,4,5,6,7,8,9,10,11,12,13,14,15] rfl ?_;obtain rfl:=oi cJ;refine CE ?_ (bA _ _ ⟨rfl,rfl⟩);exact⟨rfl,rfl,rfl,rfl,trivial⟩
    ·refine JL.exit rfl ?_;obtain rfl:=oi bY;have cK:bb=(Sum.inr ()):=(a0 _ Z).symm;exact Ax (bS _ _ ⟨(),bT,cK,rfl,rfl,U,bi⟩) rfl
def JN(fuel:Nat)(p0:A2)(p1:List Bool)(O:(List Bool)×Int)(K:(List Bool)×Int):Option (Bf ((List Bool)×Int) ((List Bool))):= (ix p0.1 O.2).bind fun V=> Option.bind (if K.2<(V.length:Int) then((ix p1 O.2).bind fun Y=> some Y) else(some false)) fun Z=> if Z=true then((ix p0.1 O.2).bind fun ag=> (ix ag K.2).bind fun U=> (ix K.1 U).bind fun am=> (Au (K.2+1)).bind fun al=> some (.more ((K.1.set (Int.toNat U) true),al))) else(some (.done K.1))
def MD(fuel:Nat)(p0:A2)(p1:List Bool)(K:(List Bool)×Int):Option (Bf ((List Bool)×Int) ((List Bool))):= if K.2<(p1.length:Int) then(Option.bind (iter (JN fuel p0 p1 K) fuel (K.1,0)) fun O=> (Au (K.2+1)).bind fun U=> some (.more (O,U))) else(some (.done K.1))
def f119(fuel:Nat)(p0:A2)(p1:List Bool):Option ((List Bool)):= (F4 (p1.length:Int) (false:Bool)).bind fun K=> Option.bind (iter (MD fuel p0 p1) fuel (K,0)) fun O=> some O
theorem YR{bo:An}{c2:Nat}{bE:An}{bF:Nat}{Y:An}{Z:Nat}{p0:A2}{p1:List Bool}(bG:Am (rL rI) E bo c2 p0.1)(dj:Am (rL rI) E bE bF p0.2)(bY:Am rB E Y Z p1){fuel:Nat}{r:(List Bool)}(bH:f119 fuel p0 p1=some r):AM J 119 [.agg #[sV bo p0.1 c2,sV bE p0.2 bF],sV Y p1 Z] E [] (fun w E' B'=>∃(bI:An) (bJ:Nat),w= sV bI r bJ∧B'= []∧Am rB E' bI bJ r):=by
 refine A4 func119 fun Q dk cs H bZ b0=>?_;unfold f119 at bH;refine zg 2 rfl (B7 bZ fun ap bv a6 bK b1=>?_);refine zg 5 rfl (Be underlying68 rfl rfl rfl ?_);obtain⟨b2,b3,b4⟩:=bs bH;refine JS.make (pp:=rB) b3 rfl rfl rfl rfl rfl underlying68 HN (CS type4) (by decide) (Dw type4) (by decide) rfl b1 fun b5 b6 b7 b8=>?_;obtain⟨bL,b9,ca⟩:=bs b4;refine zg 7 rfl (Bp (fun L s=>∃(bw:LH) (a7:An) (a8:Nat) (bz:Seg),Jn bv H bw [bz] [(5,sV a7 bL a8)] L s (OL 4 rB bw a7 a8 bz bL)) ?_ ?_)
 ·rintro _ _ ⟨bw,a7,a8,bz,rfl,rfl,cb,cc,cd⟩;refine zg 5 rfl (B6 0 cd cc rfl fun dl ce cf cg=>?_);obtain rfl:=oi ca;exact AA func119 rfl rfl (b0 ((a6.Ac cb).Ac ce) rfl ⟨a7,a8,rfl,rfl,cf⟩ cg)
 ·intro ci;refine JL.block (CP b9 (fun L s O=>∃(ag:LH) (a1:An) (a2:Nat) (a3:Seg),Jn bv H ag [a3] [(1,sV Y p1 Z),(2,pV ap 0),(5,sV a1 O.1 a2),(6,iV O.2)] L s (OL 4 rB ag a1 a2 a3 O.1)) ⟨bv,(AY b5),b2.length,b6,rfl,rfl,Ar,b8,b7⟩ ?_);rintro _ _ O ⟨ag,a1,a2,a3,rfl,rfl,al,bM,bN⟩ ck ⟨dm,bA⟩ cm;have bO:=bA;unfold MD at bO;refine zg 5 rfl (Be underlying68 rfl rfl rfl ?_);refine zg 2 rfl (AL bO (fun cn co=>?_) (fun cn cp=>?_))
  ·obtain⟨bB,cq,cr⟩:=bs co;refine zg 7 rfl (Bp (fun L s=>∃(a9:LH) (bb:An) (bd:Nat) (be:Seg),Jn ag H a9 [be] [(1,sV Y p1 Z),(2,pV ap 0),(5,sV bb bB bd),(6,iV O.2)] L s (OL 4 rB a9 bb bd be bB)) ?_ ?_)
   ·rintro _ _ ⟨a9,bb,bd,be,rfl,rfl,ct,cu,cv⟩;obtain⟨cw,cy,cz⟩:=bs cr;refine zg 3 rfl (Bc cy rfl rfl rfl ?_);refine zg 2 rfl ?_;obtain rfl:=oi cz;exact Ax (cm _ _ (bB,cw) ⟨a9,bb,bd,be,rfl,rfl,(al.Ac ct),cu,cv⟩ bA) rfl
   ·intro cA;refine JL.block (CP cq (fun L s K=>∃(av:LH) (U:An) (V:Nat) (a4:Seg),Jn ag H av [a4] [(1,sV Y p1 Z),(2,pV ap 0),(5,sV U K.1 V),(6,iV O.2),(7,iV K.2)] L s (OL 4 rB av U V a4 K.1)) ⟨ag,a1,a2,a3,rfl,rfl,Ar,bM,bN⟩ ?_);rintro _ _ K ⟨av,U,V,a4,rfl,rfl,am,bP,bQ⟩ cB ⟨dn,bC⟩ cC;have bR:=bC;unfold JN at bR;refine zg 4 rfl (JL.fl 0 (bK.Ah (al.Ac am)) underlying24 BP Cn ?_);obtain⟨dp,cD,cE⟩:=bs bR;refine zg 1 rfl (BN (bG.Ah ((a6.Ac al).Ac am)) cD underlying22 BT ?_);rintro dq dr _ ⟨dt,du,rfl,dv⟩ cF;refine BH 0 cF CF rfl rfl rfl (Be underlying28 rfl rfl rfl ?_);obtain⟨bS,cG,cH⟩:=bs cE;refine zg 2 rfl (ED [] (fun L s=>∃(bi:LH),Jm av H bi [a4] [(1,sV Y p1 Z),(2,pV ap 0),(5,sV U K.1 V),(6,iV O.2),(7,iV K.2),(30,.bool bS)] L s) ?_ ?_)
    ·rintro _ _ ⟨bi,rfl,rfl,a0,bT⟩;refine JL.done (BJ cH (fun cI cJ=>?_) (fun cI cK=>?_))
     ·refine zg 5 rfl (JL.fl 0 (bK.Ah ((al.Ac am).Ac a0)) underlying24 BP Cn ?_);obtain⟨cM,cN,cO⟩:=bs cJ;refine zg 1 rfl (BN (bG.Ah (((a6.Ac al).Ac am).Ac a0)) cN underlying22 BT ?_);rintro cP cQ _ ⟨cR,cT,rfl,cV⟩ cW;refine BH 0 cW CF rfl rfl rfl ?_;obtain⟨a5,cX,cY⟩:=bs cO;refine zg 1 rfl (BN cV cX underlying28 AU ?_);rintro cZ c0 _ rfl c1;refine BH 0 c1 Bt rfl rfl rfl ?_;obtain⟨dw,c3,c4⟩:=bs cY;refine I3 0 (bQ.Ah a0) c3 rfl rfl rfl rfl rfl rfl underlying68 HN ?_;rintro bU bD f141 _ c5 rfl dx c6 c7 dy dz;refine JS.store (v:= .bool true) (off:=bD) 0 rfl rfl rfl bT rfl rfl HN (by simp [Value.cells,CV]) c5 (by have:=c6;simp only [Rp.n,rK,rN,rB,rP,rL] at this;show _+1≤_;omega) fun c8=>?_;have c9:=c7 true [.bool true] rfl;have bV:(K.1.set (Int.toNat a5) true).length=K.1.length:=List.length_set;refine Gh (L':= [(1,.slice Y p1.length Z),(2,pV ap 0),(5,.slice U ((K.1.set (Int.toNat a5) true)).length V),(6,iV O.2),(7,iV K.2),(30,.bool bS),(33,.slice U ((K.1.set (Int.toNat a5) true)).length V),(34,pV ap 0),(35,.slice bo p0.1.length c2),(36,iV O.2),(37,pV cP cQ),(38,.slice cR cM.length cT),(39,iV K.2),(40,pV cZ c0),(41,iV a5),(42,pV bU bD)]) ⟨rfl,rfl,by rw [bV];rfl,rfl,rfl,rfl,by rw [bV];rfl,rfl,rfl,rfl,rfl,rfl,rfl,rfl,rfl,rfl,trivial⟩ ?_;obtain⟨da,db,dc⟩:=bs c4;refine zg 4 rfl (Bc db rfl rfl rfl ?_);refine zg 2 rfl ?_;obtain rfl:=oi dc;exact Ax (cC _ _ ((K.1.set (Int.toNat a5) true),da) ⟨bi,U,V,[(bU,.cells (A1 f141 bD [.bool true]) 4 (0,0))],rfl,rfl,(am.Ac a0),c8,c9⟩ bC) rfl
     ·refine JL.exit rfl ?_;obtain rfl:=oi cK;obtain rfl:=cB _ bC;exact Ax (cA _ _ ⟨bi,U,V,a4,rfl,rfl,(am.Ac a0),bT,(bQ.Ah a0)⟩) rfl
    ·intro bW;refine Eo 25 cG (fun dd de=>?_) (fun dd df=>?_)
     ·obtain⟨dA,dg,dh⟩:=bs de;refine zg 2 rfl (BN (bY.Ah ((a6.Ac al).Ac am)) dg underlying68 HN ?_);rintro dB dC _ rfl di;refine BH 0 di N2 rfl rfl rfl (zg 1 rfl ?_);obtain rfl:=oi dh;exact Ax (bW _ _ ⟨av,rfl,rfl,Ar,bP⟩) rfl
     ·refine zg 5 rfl ?_;obtain rfl:=oi df;exact Ax (bW _ _ ⟨av,rfl,rfl,Ar,bP⟩) rfl
  ·refine JL.exit rfl ?_;obtain rfl:=oi cp;obtain rfl:=ck _ bA;exact Ax (ci _ _ ⟨ag,a1,a2,a3,rfl,rfl,al,bM,bN⟩) rfl
def MY(fuel:Nat)(p0:A2)(p1:Int)(K:(List Bool)×Int):Option (Bf ((List Bool)×Int) ((List Bool))):= if K.2<p1 then((f119 fuel p0 K.1).bind fun O=> (Au (K.2+1)).bind fun U=> some (.more (O,U))) else(some (.done K.1))
def f82(fuel:Nat)(p0:A2)(p1:Int):Option ((List Bool)):= (F4 (p0.1.length:Int) (false:Bool)).bind fun K=> (ix K (0)).bind fun U=> Option.bind (iter (MY fuel p0 p1) fuel ((K.set (Int.toNat 0) true),0)) fun O=> some O
theorem Tm{U:An}{c2:Nat}{av:An}{a0:Nat}{p0:A2}{p1:Int}(bw:Am (rL rI) E U c2 p0.1)(bz:Am (rL rI) E av a0 p0.2){fuel:Nat}{r:(List Bool)}(a6:f82 fuel p0 p1=some r):AM J 82 [.agg #[sV U p0.1 c2,sV av p0.2 a0],iV p1] E [] (fun w E' B'=>∃(a7:An) (a8:Nat),w= sV a7 r a8∧B'= []∧Am rB E' a7 a8 r):=by
 refine A4 func82 fun Q ci cs H bA bB=>?_;unfold f82 at a6;refine zg 2 rfl (B7 bA fun a1 a9 a2 bb bC=>?_);refine zg 4 rfl (JL.fl 0 bb underlying24 BP Cn ?_);refine Be underlying22 rfl rfl rfl ?_;obtain⟨K,bD,bE⟩:=bs a6;refine JS.make (pp:=rB) bD rfl rfl rfl rfl rfl underlying68 HN (CS type4) (by decide) (Dw type4) (by decide) rfl bC fun V ck bF bG=>?_;obtain⟨cm,bH,bI⟩:=bs bE;refine zg 5 rfl (I3 2 bF bH rfl rfl rfl rfl rfl rfl underlying68 HN ?_);rintro bJ bd f24 _ bK rfl cn bL bM co cp;refine JS.store (v:= .bool true) (off:=bd) 2 rfl rfl rfl bG rfl rfl HN (by simp [Value.cells,CV]) bK (by have:=bL;simp only [Rp.n,rK,rN,rB,rP,rL] at this;show _+1≤_;omega) fun bN=>?_;have bO:=bM true [.bool true] rfl;have a3:(K.set (Int.toNat 0) true).length=K.length:=List.length_set;refine Gh (L':= [(0,.agg #[.slice U p0.1.length c2,.slice av p0.2.length a0]),(1,iV p1),(2,pV a1 0),(4,.slice none 0 0),(7,pV a1 0),(8,.slice U p0.1.length c2),(9,iV (p0.1.length:Int)),(10,.slice (AY V) ((K.set (Int.toNat 0) true)).length K.length),(5,.slice (AY V) ((K.set (Int.toNat 0) true)).length K.length),(11,.slice (AY V) ((K.set (Int.toNat 0) true)).length K.length),(12,pV bJ bd)]) ⟨rfl,rfl,rfl,rfl,rfl,rfl,rfl,by rw [a3];rfl,by rw [a3];rfl,by rw [a3];rfl,rfl,trivial⟩ ?_;obtain⟨be,bP,bQ⟩:=bs bI;refine zg 6 rfl (Bp (fun L s=>∃(a4:LH) (Y:An) (Z:Nat),Jn a9 H a4 [] [(5,sV Y be Z)] L s (Am rB a4 Y Z be)) ?_ ?_)
 ·rintro _ _ ⟨a4,Y,Z,rfl,rfl,bR,bS,bT⟩;refine zg 5 rfl ?_;obtain rfl:=oi bQ;exact AA func82 rfl rfl (bB (a2.Ac bR) rfl ⟨Y,Z,rfl,rfl,bT⟩ bS)
 ·intro bU;refine JL.block (B6 2 bO bN rfl fun bV bW bY bZ=>?_);refine CP bP (fun L s ag=>∃(al:LH) (am:An) (ap:Nat),Jn a9 H al [] [(1,iV p1),(2,pV a1 0),(5,sV am ag.1 ap),(6,iV ag.2)] L s (Am rB al am ap ag.1)) ⟨bV,(AY V),K.length,rfl,rfl,bW,bZ,bY⟩ ?_;rintro _ _ ag ⟨al,am,ap,rfl,rfl,O,bi,bo⟩ b0 ⟨cq,a5⟩ b1;have bv:=a5;unfold MY at bv;refine zg 7 rfl (AL bv (fun b2 b3=>?_) (fun b2 b4=>?_))
  ·refine zg 4 rfl (BQ (bb.Ah O) BX BD rfl rfl ?_);obtain⟨b5,b6,b7⟩:=bs b3;refine zg 1 rfl (BO (YR (bw.Ah (a2.Ac O)) (bz.Ah (a2.Ac O)) bo b6) rfl rfl (AR func119 rfl) bi ?_);rintro _ b8 _ b9 ⟨ca,cb,rfl,rfl,cc⟩ cd;obtain⟨ce,cf,cg⟩:=bs b7;refine zg 5 rfl (Bc cf rfl rfl rfl ?_);refine zg 2 rfl ?_;obtain rfl:=oi cg;exact Ax (b1 _ _ (b5,ce) ⟨b8,ca,cb,rfl,rfl,(O.Ac b9),cd,cc⟩ a5) rfl
  ·refine JL.exit rfl ?_;obtain rfl:=oi b4;obtain rfl:=b0 _ a5;exact Ax (bU _ _ ⟨al,am,ap,rfl,rfl,O,bi,bo⟩) rfl
def MO(fuel:Nat)(p0:List Int)(p1:Int)(K:Int):Option (Bf Int ((Bool)⊕(Unit))):= if K<(p0.length:Int) then((ix p0 K).bind fun O=> if O=p1 then(some (.done (Sum.inl true))) else((Au (K+1)).bind fun U=> some (.more U))) else(some (.done (Sum.inr ())))
def f137(fuel:Nat)(p0:List Int)(p1:Int):Option Bool:= Option.bind (iter (MO fuel p0 p1) fuel 0) fun K=> Sum.elim (fun r=>some r) (fun O=> some false) K
theorem YP{U:An}{c2:Nat}{p0:List Int}{p1:Int}(a2:Am rI E U c2 p0){fuel:Nat}{r:Bool}(Z:f137 fuel p0 p1=some r):AM J 137 [sV U p0 c2,iV p1] E [] (fun w E' B'=>w= .bool r∧B'= []):=by
 refine A4 func137 fun Q bH cs H a3 ag=>?_;unfold f137 at Z;obtain⟨al,a4,am⟩:=bs Z;refine zg 9 rfl (Bp (fun L s=>∃(ap:Unit) (av:LH),al=Sum.inr ap∧Jm E H av [] [] L s) ?_ ?_)
 ·rintro _ _ ⟨ap,av,rfl,rfl,rfl,a5,a6⟩;have a7:=elim_inr am;refine zg 4 rfl ?_;obtain rfl:=oi a7;exact AA func137 rfl rfl (ag a5 rfl ⟨rfl,rfl⟩ a6)
 ·intro a8;refine JL.block (Cz a4 (fun V=> []) (fun V=> [(0,sV U p0 c2),(1,iV p1),(5,iV V)]) Ar a3 ?_);rintro V a9 K Y a0 ⟨bI,O⟩ bb;have a1:=O;unfold MO at a1;refine zg 5 rfl (Be underlying28 rfl rfl rfl ?_);refine zg 2 rfl (AL a1 (fun bd be=>?_) (fun bd bi=>?_))
  ·obtain⟨bJ,bo,bv⟩:=bs be;refine zg 7 rfl (BN (a2.Ah K) bo underlying28 AU ?_);rintro bK bL _ rfl bw;refine BH 0 bw Bt rfl rfl rfl (zg 3 rfl ?_);refine AL bv (fun bz bA=>?_) (fun bz bB=>?_)
   ·refine zg 4 rfl ?_;obtain rfl:=oi bA;obtain rfl:=a0 _ O;have bC:=elim_inl am;obtain rfl:=oi bC;exact AA func137 rfl rfl (ag K rfl ⟨rfl,rfl⟩ Y)
   ·obtain⟨bD,bE,bF⟩:=bs bB;refine zg 4 rfl (Bc bE rfl rfl rfl ?_);refine zg 2 rfl ?_;obtain rfl:=oi bF;exact bb bD K Y rfl O
  ·refine JL.exit rfl ?_;obtain rfl:=oi bi;have bG:al=(Sum.inr ()):=(a0 _ O).symm;exact Ax (a8 _ _ ⟨(),a9,bG,rfl,rfl,K,Y⟩) rfl
def MK(fuel:Nat)(p0:A2)(p1:AI)(p2:Int)(p3:Int)(p4:Int)(K:Int×Int):Option (Bf (Int×Int) ((Int)⊕(Int))):= if K.2<(p1.length:Int) then(Option.bind ((ix p1 K.2).bind fun O=> Option.bind (if O.1≠p3 then(some true) else(some (decide (O.2=p4)))) fun U=> if U=true then(some (Sum.inr K.1)) else(Option.bind (if K.2=p2 then(some true) else((ix p0.2 p4).bind fun V=> (f137 fuel V O.2).bind fun Y=> some (!Y))) fun Z=> if Z=true then(some (Sum.inl 100)) else((Au (K.1+1)).bind fun ag=> some (Sum.inr ag)))) fun al=>Sum.elim (fun r=>some (.done (Sum.inl r))) (fun am=> (Au (K.2+1)).bind fun ap=> some (.more (am,ap))) al) else(some (.done (Sum.inr K.1)))
def f118(fuel:Nat)(p0:A2)(p1:AI)(p2:Int)(p3:Int)(p4:Int):Option Int:= Option.bind (iter (MK fuel p0 p1 p2 p3 p4) fuel (0,0)) fun K=> Sum.elim (fun r=>some r) (fun O=> some O) K
theorem Tg{a6:An}{c2:Nat}{a7:An}{a8:Nat}{O:An}{U:Nat}{p0:A2}{p1:AI}{p2:Int}{p3:Int}{p4:Int}(cV:Am (rL rI) E a6 c2 p0.1)(bJ:Am (rL rI) E a7 a8 p0.2)(bK:Am Bo E O U p1){fuel:Nat}{r:Int}(a9:f118 fuel p0 p1 p2 p3 p4=some r):AM J 118 [.agg #[sV a6 p0.1 c2,sV a7 p0.2 a8],sV O p1 U,iV p2,iV p3,iV p4] E [] (fun w E' B'=>w=iV r∧B'= []):=by
 refine A4 func118 fun Q cW cs H bL bb=>?_;unfold f118 at a9;refine zg 2 rfl (B7 bL fun al bM am bN bO=>?_);obtain⟨bd,bP,be⟩:=bs a9;refine zg 11 rfl (Bp (fun L s=>∃(a0:Int) (bi:LH),bd=Sum.inr a0∧Jm bM H bi [] [(11,iV a0)] L s) ?_ ?_)
 ·rintro _ _ ⟨a0,bi,rfl,rfl,rfl,bQ,bR⟩;have bS:=elim_inr be;refine zg 5 rfl ?_;obtain rfl:=oi bS;exact AA func118 rfl rfl (bb (am.Ac bQ) rfl ⟨rfl,rfl⟩ bR)
 ·intro bT;refine JL.block (Cz bP (fun K=> []) (fun K=> [(1,sV O p1 U),(2,iV p2),(3,iV p3),(4,iV p4),(5,pV al 0),(11,iV K.1),(12,iV K.2)]) Ar bO ?_);rintro K bo V bv bw ⟨cX,ap⟩ bU;have bz:=ap;unfold MK at bz;refine zg 5 rfl (Be underlying25 rfl rfl rfl ?_);refine zg 2 rfl (AL bz (fun bV bW=>?_) (fun bV bY=>?_))
  ·obtain⟨bZ,b0,bA⟩:=bs bW;refine zg 2 rfl (Bp (fun L s=>∃(av:Int) (bB:LH),bZ=Sum.inr av∧Jm bo H bB [] [(1,sV O p1 U),(2,iV p2),(3,iV p3),(4,iV p4),(5,pV al 0),(11,iV av),(12,iV K.2)] L s) ?_ ?_)
   ·rintro _ _ ⟨av,bB,rfl,rfl,rfl,b1,b2⟩;have b3:=elim_inr bA;obtain⟨b4,b5,b6⟩:=bs b3;refine zg 2 rfl (Bc b5 rfl rfl rfl ?_);refine zg 2 rfl ?_;obtain rfl:=oi b6;exact bU (av,b4) (V.Ac b1) b2 rfl ap
   ·intro bC;obtain⟨b7,b8,b9⟩:=bs b0;refine zg 5 rfl (BN (bK.Ah (am.Ac V)) b8 underlying25 Cf ?_);rintro cY cZ _ ⟨_,_,rfl,rfl,rfl⟩ ca;refine BQ ca Gv Cf rfl rfl (CU bv Et fun cb cc=>?_);refine BY 0 cc Cf fun cd=>?_;refine C3 0 cd rfl fun a1 Z a2 bD=>zg 4 rfl (JL.fl 0 a2 underlying27 AU Bt ?_);obtain⟨ce,cf,cg⟩:=bs b9;refine zg 3 rfl (ED [] (fun L s=>∃(ag:LH),Jm a1 H ag [] [(1,sV O p1 U),(2,iV p2),(3,iV p3),(4,iV p4),(5,pV al 0),(11,iV K.1),(12,iV K.2),(13,pV cb 0),(33,.bool ce)] L s) ?_ ?_)
    ·rintro _ _ ⟨ag,rfl,rfl,Y,a3⟩;refine JL.done (BJ cg (fun ci ck=>?_) (fun ci cm=>?_))
     ·exact JL.exit rfl (Ax (bC _ _ ⟨K.1,ag,(Option.some.inj ck).symm,rfl,rfl,(Z.Ac Y),a3⟩) rfl)
     ·refine zg 3 rfl (C7 14 fun ht=>?_);refine A0 ht rfl [0,1,2,3] rfl ?_;obtain⟨cn,bE,co⟩:=bs cm;refine Ed 0 #[true,true,true,true,true,true,true,true,true,true,true,true,true,true] (fun L s=>∃(a4:LH),Jm ag H a4 [] [(1,sV O p1 U),(2,iV p2),(3,iV p3),(4,iV p4),(5,pV al 0),(11,iV K.1),(12,iV K.2),(47,.bool cn)] L s) ?_ ?_
      ·rintro _ _ ⟨a4,rfl,rfl,bF,bG⟩;refine AX.fin (by decide+kernel) (BJ co (fun cp cq=>?_) (fun cp cr=>?_))
       ·refine zg 4 rfl ?_;obtain rfl:=oi cq;have ct:=elim_inl bA;obtain rfl:=oi ct;obtain rfl:=bw _ ap;have cu:=elim_inl be;obtain rfl:=oi cu;exact AA func118 rfl rfl (bb ((((am.Ac V).Ac Z).Ac Y).Ac bF) rfl ⟨rfl,rfl⟩ bG)
       ·obtain⟨cv,cw,cy⟩:=bs cr;refine zg 3 rfl (Bc cw rfl rfl rfl ?_);exact zg 3 rfl (Ax (bC _ _ ⟨cv,a4,(Option.some.inj cy).symm,rfl,rfl,((Z.Ac Y).Ac bF),bG⟩) rfl)
      ·intro bH;refine Ft (q:=K.2=p2) (i:=37) rfl (fun a5=>?_) (fun a5=>?_)
       ·have cz:=ip bE a5;refine A0 ht rfl [4,5,6,7,8,9,10,11,12,13] rfl ?_;obtain rfl:=oi cz;refine CE ?_ (bH _ _ ⟨ag,rfl,rfl,Ar,a3⟩);exact⟨rfl,rfl,rfl,rfl,rfl,rfl,rfl,rfl,trivial⟩
       ·have cA:=im bE a5;refine Cc 4 ht underlying24 BP rfl rfl rfl rfl ?_;refine Cy 5 ht 1 (bN.Ah ((V.Ac Z).Ac Y)) Cn rfl rfl rfl rfl ?_;refine Cb 6 ht rfl rfl ?_;obtain⟨cB,cC,cD⟩:=bs cA;refine CG 7 (bJ.Ah (((am.Ac V).Ac Z).Ac Y)) cC ht underlying22 BT ?_;rintro c0 c1 _ ⟨cE,cF,rfl,cG⟩ cH;refine Cy 8 ht 0 cH CF rfl rfl rfl rfl ?_;refine Cc 9 ht underlying27 AU rfl rfl rfl rfl ?_;refine Cy 10 ht 1 (a2.Ah Y) Bt rfl rfl rfl rfl ?_;obtain⟨cI,cJ,cK⟩:=bs cD;refine JG.call (i:=11) (vs:= [sV cE cB cF,iV b7.2]) (YP cG cJ) (by decide+kernel) rfl rfl rfl (AR func137 rfl) rfl a3 ?_;rintro _ cM _ cN ⟨rfl,rfl⟩ cO;refine BC (v:= .bool (!cI)) 12 ht rfl rfl (fun ρ h s' hs=>Yl.not (h _ _ rfl)) ?_;refine Cb 13 ht rfl rfl ?_;obtain rfl:=oi cK;refine CE ?_ (bH _ _ ⟨cM,rfl,rfl,cN,cO⟩);exact⟨rfl,rfl,rfl,rfl,rfl,rfl,rfl,rfl,trivial⟩
    ·intro bI;refine Eo 28 cf (fun cP cQ=>?_) (fun cP cR=>?_)
     ·refine zg 5 rfl ?_;obtain rfl:=oi cQ;exact Ax (bI _ _ ⟨a1,rfl,rfl,Ar,bD⟩) rfl
     ·refine JL.fl 1 a2 underlying27 AU Bt ?_;refine zg 3 rfl ?_;obtain rfl:=oi cR;exact Ax (bI _ _ ⟨a1,rfl,rfl,Ar,bD⟩) rfl
  ·refine JL.exit rfl ?_;obtain rfl:=oi bY;have cT:bd=(Sum.inr K.1):=(bw _ ap).symm;exact Ax (bT _ _ ⟨K.1,bo,cT,rfl,rfl,V,bv⟩) rfl
def f117(fuel:Nat)(p0:AI):Option Int:= if(p0.length:Int)=0 then(some 0) else((Au ((p0.length:Int) - 1)).bind fun K=> (ix p0 K).bind fun O=> some O.1)
theorem ZD{K:An}{c2:Nat}{p0:AI}(Y:Am Bo E K c2 p0){fuel:Nat}{r:Int}(O:f117 fuel p0=some r):AM J 117 [sV K p0 c2] E [] (fun w E' B'=>w=iV r∧B'= []):=by
 refine A4 func117 fun Q a1 cs H U V=>?_;unfold f117 at O;refine zg 8 rfl (Be underlying25 rfl rfl rfl ?_);refine zg 2 rfl (AL O (fun c4 Z=>?_) (fun c4 ag=>?_))
 ·refine zg 4 rfl ?_;obtain rfl:=oi Z;exact AA func117 rfl rfl (V Ar rfl ⟨rfl,rfl⟩ U)
 ·refine zg 5 rfl (Be underlying25 rfl rfl rfl ?_);obtain⟨a2,al,am⟩:=bs ag;refine Cd al rfl rfl rfl ?_;obtain⟨a3,ap,av⟩:=bs am;refine BN Y ap underlying25 Cf ?_;rintro a4 a5 _ ⟨_,_,rfl,rfl,rfl⟩ a0;refine JL.fl 0 a0 underlying27 AU Bt ?_;refine zg 2 rfl ?_;obtain rfl:=oi av;exact AA func117 rfl rfl (V Ar rfl ⟨rfl,rfl⟩ U)
def Na(fuel:Nat)(p0:List (List Int))(p2:Int)(O:(List Int)×Int)(K:Bool×Int):Option (Bf (Bool×Int) Bool):= Option.bind (if K.2≤p2 then((ix p0 O.2).bind fun U=> some (decide (K.2<(U.length:Int)))) else(some false)) fun V=> if V=true then(Option.bind (if K.1=true then(some true) else((ix p0 O.2).bind fun Y=> (ix Y K.2).bind fun Z=> some (decide (0<Z)))) fun ag=> (Au (K.2+1)).bind fun al=> some (.more (ag,al))) else(some (.done K.1))
def M1(fuel:Nat)(p0:List (List Int))(p1:Int)(p2:Int)(K:(List Int)×Int):Option (Bf ((List Int)×Int) ((List Int))):= if K.2<(p0.length:Int) then(Option.bind (iter (Na fuel p0 p2 K) fuel (false,p1)) fun O=> Option.bind (if O=true then((room K.1 K.2).bind fun U=> some U) else(some K.1)) fun V=> (Au (K.2+1)).bind fun Y=> some (.more (V,Y))) else(some (.done K.1))
def f81(fuel:Nat)(p0:List (List Int))(p1:Int)(p2:Int):Option ((List Int)):= Option.bind (iter (M1 fuel p0 p1 p2) fuel ([],0)) fun K=> some K
theorem aq{Y:An}{c2:Nat}{p0:List (List Int)}{p1:Int}{p2:Int}(bv:Am (rL rI) E Y c2 p0){fuel:Nat}{r:(List Int)}(bw:f81 fuel p0 p1 p2=some r):AM J 81 [sV Y p0 c2,iV p1,iV p2] E [] (fun w E' B'=>∃(bz:An) (bA:Nat),w= sV bz r bA∧B'= []∧Am rI E' bz bA r):=by
 refine A4 func81 fun Q c3 cs H bM bN=>?_;unfold f81 at bw;obtain⟨bB,bO,bP⟩:=bs bw;refine zg 13 rfl (Bp (fun L s=>∃(a4:LH) (ag:An) (al:Nat) (a5:Seg),Jn E H a4 [a5] [(7,sV ag bB al)] L s (OL 3 rI a4 ag al a5 bB)) ?_ ?_)
 ·rintro _ _ ⟨a4,ag,al,a5,rfl,rfl,bQ,bR,bS⟩;refine zg 5 rfl (B6 0 bS bR rfl fun c4 bT bU bV=>?_);obtain rfl:=oi bP;exact AA func81 rfl rfl (bN (bQ.Ac bT) rfl ⟨ag,al,rfl,rfl,bU⟩ bV)
 ·intro bW;refine JL.block (CP bO (fun L s K=>∃(am:LH) (O:An) (U:Nat) (V:Seg),Jn E H am [V] [(0,sV Y p0 c2),(1,iV p1),(2,iV p2),(7,sV O K.1 U),(8,iV K.2)] L s (OL 3 rI am O U V K.1)) ⟨E,none,0,[],rfl,rfl,Ar,bM,OL.nil⟩ ?_);rintro _ _ K ⟨am,O,U,V,rfl,rfl,ap,bC,a6⟩ bY ⟨c5,a7⟩ bZ;have bD:=a7;unfold M1 at bD;refine zg 5 rfl (Be underlying22 rfl rfl rfl ?_);refine zg 2 rfl (AL bD (fun b0 b1=>?_) (fun b0 b2=>?_))
  ·obtain⟨b3,b4,b5⟩:=bs b1;refine zg 13 rfl (C4 [V] [(0,sV Y p0 c2),(1,iV p1),(2,iV p2),(7,sV O K.1 U),(8,iV K.2),(9,.bool b3)] (fun a8 a9 bE=>?_) (fun b6=>?_))
   ·obtain⟨bb,b7,b8⟩:=bs b5;refine zg 4 rfl (Bp (fun L s=>∃(av:LH) (a0:An) (a1:Nat) (a2:Seg),Jn a8 H av [a2] [(0,sV Y p0 c2),(1,iV p1),(2,iV p2),(7,sV a0 bb a1),(8,iV K.2)] L s (OL 3 rI av a0 a1 a2 bb)) ?_ ?_)
    ·rintro _ _ ⟨av,a0,a1,a2,rfl,rfl,b9,ca,cb⟩;obtain⟨cc,cd,ce⟩:=bs b8;refine zg 3 rfl (Bc cd rfl rfl rfl ?_);refine zg 2 rfl ?_;obtain rfl:=oi ce;exact Ax (bZ _ _ (bb,cc) ⟨av,a0,a1,a2,rfl,rfl,((ap.Ac a9).Ac b9),ca,cb⟩ a7) rfl
    ·intro bF;refine BJ b7 (fun cf cg=>?_) (fun cf ci=>?_)
     ·obtain⟨c6,ck,cm⟩:=bs cg;refine zg 3 rfl (JS.app (pp:=rI) (v:=iV K.2) (a:=O) (c:=U) 0 ck rfl rfl rfl rfl (fun _=>rfl) rfl (fun _=>rfl) rfl rfl rfl underlying28 underlying28 underlying28 AU (CS type3) CK rfl (by decide) (by decide) (by decide) (by decide) (a6.Ah a9) rfl bE rfl fun c7 cn co cp cq cr=>?_);refine zg 2 rfl ?_;obtain rfl:=oi cm;exact Ax (bF _ _ ⟨a8,cn,co,cp,rfl,rfl,Ar,cr,cq⟩) rfl
     ·refine JL.skip ?_;obtain rfl:=oi ci;exact Ax (bF _ _ ⟨a8,O,U,V,rfl,rfl,Ar,bE,(a6.Ah a9)⟩) rfl
   ·refine JL.block (Cz b4 (fun Z=> [V]) (fun Z=> [(0,sV Y p0 c2),(1,iV p1),(2,iV p2),(7,sV O K.1 U),(8,iV K.2),(9,.bool Z.1),(10,iV Z.2)]) Ar bC ?_);rintro Z bd a3 bG ct ⟨c8,be⟩ cu;have bH:=be;unfold Na at bH;obtain⟨cv,cw,cy⟩:=bs bH;refine zg 7 rfl (ED [] (fun L s=>∃(bI:LH),Jm bd H bI [V] [(0,sV Y p0 c2),(1,iV p1),(2,iV p2),(7,sV O K.1 U),(8,iV K.2),(9,.bool Z.1),(10,iV Z.2),(29,.bool cv)] L s) ?_ ?_)
    ·rintro _ _ ⟨bI,rfl,rfl,bi,bo⟩;refine JL.done (BJ cy (fun cz cA=>?_) (fun cz cB=>?_))
     ·obtain⟨bJ,cC,cD⟩:=bs cA;refine zg 6 rfl (Dp 11 1 [V] [(0,sV Y p0 c2),(1,iV p1),(2,iV p2),(7,sV O K.1 U),(8,iV K.2),(10,iV Z.2),(42,.bool bJ)] (fun c9 cE cF=>?_) (fun bK=>?_))
      ·obtain⟨cG,cH,cI⟩:=bs cD;refine zg 5 rfl (Bc cH rfl rfl rfl ?_);refine zg 2 rfl ?_;obtain rfl:=oi cI;exact cu (bJ,cG) ((a3.Ac bi).Ac cE) cF rfl be
      ·refine Dy 33 cC (fun cJ cK=>?_) (fun cJ cM=>?_)
       ·refine zg 9 rfl ?_;obtain rfl:=oi cK;exact bK Ar bo rfl
       ·obtain⟨da,cN,cO⟩:=bs cM;refine zg 2 rfl (BN (bv.Ah ((ap.Ac a3).Ac bi)) cN underlying22 BT ?_);rintro db dc _ ⟨dd,de,rfl,cP⟩ cQ;refine BH 0 cQ CF rfl rfl rfl ?_;obtain⟨df,cR,cT⟩:=bs cO;refine zg 1 rfl (BN cP cR underlying28 AU ?_);rintro dg dh _ rfl cV;refine BH 0 cV Bt rfl rfl rfl (zg 2 rfl ?_);obtain rfl:=oi cT;exact bK Ar bo rfl
     ·refine JL.exit rfl ?_;obtain rfl:=oi cB;obtain rfl:=ct _ be;exact b6 (a3.Ac bi) bo rfl
    ·intro bL;refine Eo 21 cw (fun cW cX=>?_) (fun cW cY=>?_)
     ·obtain⟨di,cZ,c0⟩:=bs cX;refine zg 3 rfl (BN (bv.Ah (ap.Ac a3)) cZ underlying22 BT ?_);rintro dj dk _ ⟨dl,dm,rfl,dn⟩ c1;refine BH 0 c1 CF rfl rfl rfl (Be underlying28 rfl rfl rfl ?_);refine zg 2 rfl ?_;obtain rfl:=oi c0;exact Ax (bL _ _ ⟨bd,rfl,rfl,Ar,bG⟩) rfl
     ·refine zg 8 rfl ?_;obtain rfl:=oi cY;exact Ax (bL _ _ ⟨bd,rfl,rfl,Ar,bG⟩) rfl
  ·refine JL.exit rfl ?_;obtain rfl:=oi b2;obtain rfl:=bY _ a7;exact Ax (bW _ _ ⟨am,O,U,V,rfl,rfl,ap,bC,a6⟩) rfl
def O2(fuel:Nat)(p0:A2)(p2:List (List (List Int)))(K:Int×Int×(List Int)×Int)(V:Int)(O:Int):Option (Bf Int Int):= (ix p0.1 K.1).bind fun Y=> if O<(Y.length:Int) then((ix p0.1 K.1).bind fun Z=> (ix Z O).bind fun U=> (ix p2 K.2.2.2).bind fun ag=> (ix ag U).bind fun al=> (ix al V).bind fun am=> if 0<am then(some (.done U)) else((Au (O+1)).bind fun ap=> some (.more ap))) else(some (.done K.1))
def Nc(fuel:Nat)(p0:A2)(p1:AI)(p2:List (List (List Int)))(K:Int×Int×(List Int)×Int):Option (Bf (Int×Int×(List Int)×Int) ((List Int))):= if K.2.2.2<(p2.length:Int) then((Au (K.2.2.2 - 1)).bind fun V=> (f118 fuel p0 p1 (-1) V K.1).bind fun Y=> (Au (K.2.1 - Y)).bind fun O=> Option.bind (iter (O2 fuel p0 p2 K O) fuel 0) fun U=> (room K.2.2.1 U).bind fun Z=> (Au (K.2.2.2+1)).bind fun ag=> some (.more (U,O,Z,ag))) else(some (.done K.2.2.1))
def f83(fuel:Nat)(p0:A2)(p1:AI)(p2:List (List (List Int)))(p3:Int)(p4:Int):Option ((List Int)):= Option.bind (iter (Nc fuel p0 p1 p2) fuel (p3,p4,([p3]:List Int),1)) fun K=> some K
theorem aN{bw:An}{c2:Nat}{bz:An}{bA:Nat}{am:An}{ap:Nat}{av:An}{a0:Nat}{p0:A2}{p1:AI}{p2:List (List (List Int))}{p3:Int}{p4:Int}(a5:Am (rL rI) E bw c2 p0.1)(bM:Am (rL rI) E bz bA p0.2)(bN:Am Bo E am ap p1)(bO:Am (rL (rL rI)) E av a0 p2){fuel:Nat}{r:(List Int)}(bB:f83 fuel p0 p1 p2 p3 p4=some r):AM J 83 [.agg #[sV bw p0.1 c2,sV bz p0.2 bA],sV am p1 ap,sV av p2 a0,iV p3,iV p4] E [] (fun w E' B'=>∃(bC:An) (bD:Nat),w= sV bC r bD∧B'= []∧Am rI E' bC bD r):=by
 refine A4 func83 fun Q db cs H bP bQ=>?_;unfold f83 at bB;refine zg 2 rfl (B7 bP fun a6 a7 V a8 bR=>?_);refine zg 5 rfl (Dt (pp:=rI) [iV p3] [p3] rfl rfl rfl underlying28 AU CK (by decide) rfl rfl rfl ⟨rfl,trivial⟩ bR fun bS bT bU bV=>?_);obtain⟨bE,bW,bY⟩:=bs bB;refine zg 7 rfl (Bp (fun L s=>∃(a9:LH) (a1:An) (a2:Nat) (bb:Seg),Jn a7 H a9 [bb] [(11,sV a1 bE a2)] L s (OL 3 rI a9 a1 a2 bb bE)) ?_ ?_)
 ·rintro _ _ ⟨a9,a1,a2,bb,rfl,rfl,bZ,b0,b1⟩;refine zg 5 rfl (B6 0 b1 b0 rfl fun dc b2 b3 b4=>?_);obtain rfl:=oi bY;exact AA func83 rfl rfl (bQ ((V.Ac bZ).Ac b2) rfl ⟨a1,a2,rfl,rfl,b3⟩ b4)
 ·intro b5;refine JL.block (CP bW (fun L s K=>∃(a3:LH) (Y:An) (Z:Nat) (al:Seg),Jn a7 H a3 [al] [(1,sV am p1 ap),(2,sV av p2 a0),(3,iV K.1),(4,iV K.2.1),(5,pV a6 0),(11,sV Y K.2.2.1 Z),(12,iV K.2.2.2)] L s (OL 3 rI a3 Y Z al K.2.2.1)) ⟨a7,(AY bS),1,bT,rfl,rfl,Ar,bV,bU⟩ ?_);rintro _ _ K ⟨a3,Y,Z,al,rfl,rfl,O,bF,bG⟩ b6 ⟨dd,bd⟩ b7;have bH:=bd;unfold Nc at bH;refine zg 5 rfl (Be underlying105 rfl rfl rfl ?_);refine zg 2 rfl (AL bH (fun b8 b9=>?_) (fun b8 ca=>?_))
  ·refine zg 6 rfl (BQ (a8.Ah O) BX BD rfl rfl ?_);obtain⟨de,cb,cc⟩:=bs b9;refine zg 2 rfl (Cd cb rfl rfl rfl ?_);obtain⟨df,cd,ce⟩:=bs cc;refine zg 1 rfl (BF (Tg (a5.Ah (V.Ac O)) (bM.Ah (V.Ac O)) (bN.Ah (V.Ac O)) cd) rfl rfl (AR func118 rfl) bF fun dg ag cf=>?_);obtain⟨be,cg,ci⟩:=bs ce;refine Cd cg rfl rfl rfl ?_;obtain⟨bi,ck,cm⟩:=bs ci;refine zg 7 rfl (C4 [al] [(1,sV am p1 ap),(2,sV av p2 a0),(3,iV bi),(4,iV be),(5,pV a6 0),(11,sV Y K.2.2.1 Z),(12,iV K.2.2.2)] (fun cn bI co=>?_) (fun bJ=>?_))
   ·obtain⟨cp,cq,cr⟩:=bs cm;refine zg 3 rfl (JS.app (pp:=rI) (v:=iV bi) (a:=Y) (c:=Z) 0 cq rfl rfl rfl rfl (fun _=>rfl) rfl (fun _=>rfl) rfl rfl rfl underlying28 underlying28 underlying28 AU (CS type3) CK rfl (by decide) (by decide) (by decide) (by decide) (bG.Ah (ag.Ac bI)) rfl co rfl fun dh ct cu cv cw cy=>?_);obtain⟨cz,cA,cB⟩:=bs cr;refine zg 5 rfl (Bc cA rfl rfl rfl ?_);refine zg 2 rfl ?_;obtain rfl:=oi cB;exact Ax (b7 _ _ (bi,be,cp,cz) ⟨cn,ct,cu,cv,rfl,rfl,((O.Ac ag).Ac bI),cy,cw⟩ bd) rfl
   ·refine JL.block (Cz ck (fun bo=> [al]) (fun bo=> [(1,sV am p1 ap),(2,sV av p2 a0),(3,iV K.1),(4,iV be),(5,pV a6 0),(11,sV Y K.2.2.1 Z),(12,iV K.2.2.2),(13,iV bo)]) Ar cf ?_);rintro bo di U bv bK ⟨dj,a4⟩ cC;have bL:=a4;unfold O2 at bL;refine zg 4 rfl (JL.fl 0 (a8.Ah ((O.Ac ag).Ac U)) underlying24 BP Cn ?_);obtain⟨dk,cD,cE⟩:=bs bL;refine zg 1 rfl (BN (a5.Ah (((V.Ac O).Ac ag).Ac U)) cD underlying22 BT ?_);rintro dl dm _ ⟨dn,dp,rfl,dq⟩ cF;refine BH 0 cF CF rfl rfl rfl (Be underlying28 rfl rfl rfl ?_);refine zg 2 rfl (AL cE (fun cG cH=>?_) (fun cG cI=>?_))
    ·refine zg 5 rfl (JL.fl 0 (a8.Ah ((O.Ac ag).Ac U)) underlying24 BP Cn ?_);obtain⟨dr,cJ,cK⟩:=bs cH;refine zg 1 rfl (BN (a5.Ah (((V.Ac O).Ac ag).Ac U)) cJ underlying22 BT ?_);rintro dt du _ ⟨dv,dw,rfl,cM⟩ cN;refine BH 0 cN CF rfl rfl rfl ?_;obtain⟨dx,cO,cP⟩:=bs cK;refine zg 1 rfl (BN cM cO underlying28 AU ?_);rintro dy dz _ rfl cQ;refine BH 0 cQ Bt rfl rfl rfl ?_;obtain⟨dA,cR,cT⟩:=bs cP;refine zg 6 rfl (BN (bO.Ah (((V.Ac O).Ac ag).Ac U)) cR underlying105 BP ?_);rintro dB dC _ ⟨dD,dE,rfl,cV⟩ cW;refine BH 0 cW Cn rfl rfl rfl ?_;obtain⟨dF,cX,cY⟩:=bs cT;refine zg 1 rfl (BN cV cX underlying22 BT ?_);rintro dG dH _ ⟨dI,dJ,rfl,cZ⟩ c0;refine BH 0 c0 CF rfl rfl rfl ?_;obtain⟨dK,c1,c3⟩:=bs cY;refine zg 1 rfl (BN cZ c1 underlying28 AU ?_);rintro dL dM _ rfl c4;refine BH 0 c4 Bt rfl rfl rfl (zg 2 rfl ?_);refine AL c3 (fun c5 c6=>?_) (fun c5 c7=>?_)
     ·refine zg 6 rfl ?_;obtain rfl:=oi c6;obtain rfl:=bK _ a4;exact bJ U bv rfl
     ·obtain⟨c8,c9,da⟩:=bs c7;refine zg 4 rfl (Bc c9 rfl rfl rfl ?_);refine zg 2 rfl ?_;obtain rfl:=oi da;exact cC c8 U bv rfl a4
    ·refine JL.exit rfl ?_;obtain rfl:=oi cI;obtain rfl:=bK _ a4;exact bJ U bv rfl
  ·refine JL.exit rfl ?_;obtain rfl:=oi ca;obtain rfl:=b6 _ bd;exact Ax (b5 _ _ ⟨a3,Y,Z,al,rfl,rfl,O,bF,bG⟩) rfl
def MJ(fuel:Nat)(p0:List (List Int))(p1:Int)(K:Int×Int):Option (Bf (Int×Int) Int):= if K.2<(p0.length:Int) then((ix p0 K.2).bind fun O=> (ix O p1).bind fun U=> (Au (K.1+U)).bind fun V=> (Au (K.2+1)).bind fun Y=> some (.more (V,Y))) else(some (.done K.1))
def f105(fuel:Nat)(p0:List (List Int))(p1:Int):Option Int:= Option.bind (iter (MJ fuel p0 p1) fuel (0,0)) fun K=> some K
def f71(fuel:Nat):Option ((A2)):= some (([([1]:List Int),([2]:List Int),([3,4]:List Int),([4]:List Int),([5]:List Int),([5]:List Int)]:List (List Int)),([[],[],[],([2]:List Int),([2,3]:List Int),([3,4]:List Int)]:List (List Int)))
theorem Iz{fuel:Nat}{r:(A2)}(a2:f71 fuel=some r):AM J 71 [] E [] (fun w E' B'=>∃(a3:An) (a4:Nat) (a5:An) (a6:Nat),w= .agg #[sV a3 r.1 a4,sV a5 r.2 a6]∧B'= []∧Am (rL rI) E' a3 a4 r.1∧Am (rL rI) E' a5 a6 r.2):=by
 refine A4 func71 fun Q cM cs H bw bz=>?_;unfold f71 at a2;refine zg 2 rfl (CU bw GW fun K bA=>?_);refine zg 3 rfl (Dt (pp:=rI) [iV 1] [1] rfl rfl rfl underlying28 AU CK (by decide) rfl rfl rfl ⟨rfl,trivial⟩ bA fun bB a7 bC bD=>?_);refine Dt (pp:=rI) [iV 2] [2] rfl rfl rfl underlying28 AU CK (by decide) rfl rfl rfl ⟨rfl,trivial⟩ bD fun bE a8 bF bG=>Cu (S':= [[],[(K,.cells #[nS,nS] 24 (0,0))],a7,a8]) rfl bG fun bH=>Dt (pp:=rI) [iV 3,iV 4] [3,4] rfl rfl rfl underlying28 AU CK (by decide) rfl rfl rfl ⟨rfl,rfl,trivial⟩ bH fun bI a9 bJ bK=>Dt (pp:=rI) [iV 4] [4] rfl rfl rfl underlying28 AU CK (by decide) rfl rfl rfl ⟨rfl,trivial⟩ bK fun bL bb bM bN=>Dt (pp:=rI) [iV 5] [5] rfl rfl rfl underlying28 AU CK (by decide) rfl rfl rfl ⟨rfl,trivial⟩ bN fun bO bd bP bQ=>Cu (S':= [[],[(K,.cells #[nS,nS] 24 (0,0))],a7,a8,a9,bb,bd]) rfl bQ fun bR=>Dt (pp:=rI) [iV 5] [5] rfl rfl rfl underlying28 AU CK (by decide) rfl rfl rfl ⟨rfl,trivial⟩ bR fun bS be bT bU=>B6 2 bC bU rfl fun cN O bV bW=>B6 3 (bF.Ah O) bW rfl fun cO U bY bZ=>Cu (S':= [[],[(K,.cells #[nS,nS] 24 (0,0))],[],[],a9,bb,bd,be]) rfl bZ fun b0=>B6 4 (bJ.Ah (O.Ac U)) b0 rfl fun cP V b1 b2=>B6 5 (bM.Ah ((O.Ac U).Ac V)) b2 rfl fun cQ Y b3 b4=>B6 6 (bP.Ah (((O.Ac U).Ac V).Ac Y)) b4 rfl fun cR Z b5 b6=>Cu (S':= [[],[(K,.cells #[nS,nS] 24 (0,0))],[],[],[],[],[],be]) rfl b6 fun b7=>B6 7 (bT.Ah ((((O.Ac U).Ac V).Ac Y).Ac Z)) b7 rfl fun cT ag b8 b9=>Dt (pp:=(rL rI)) [.slice (AY bB) (([1]:List Int)).length 1,.slice (AY bE) (([2]:List Int)).length 1,.slice (AY bI) (([3,4]:List Int)).length 2,.slice (AY bL) (([4]:List Int)).length 1,.slice (AY bO) (([5]:List Int)).length 1,.slice (AY bS) (([5]:List Int)).length 1] [([1]:List Int),([2]:List Int),([3,4]:List Int),([4]:List Int),([5]:List Int),([5]:List Int)] rfl rfl rfl underlying22 BT Fp (by decide) rfl rfl rfl ⟨⟨_,_,rfl,(bV.Ah ((((U.Ac V).Ac Y).Ac Z).Ac ag))⟩,⟨_,_,rfl,(bY.Ah (((V.Ac Y).Ac Z).Ac ag))⟩,⟨_,_,rfl,(b1.Ah ((Y.Ac Z).Ac ag))⟩,⟨_,_,rfl,(b3.Ah (Z.Ac ag))⟩,⟨_,_,rfl,(b5.Ah ag)⟩,⟨_,_,rfl,b8⟩,trivial⟩ b9 fun al a1 ca cb=>Dt (pp:=rI) [iV 2] [2] rfl rfl rfl underlying28 AU CK (by decide) rfl rfl rfl ⟨rfl,trivial⟩ cb fun cc cd ce cf=>Cu (S':= [[],[(K,.cells #[nS,nS] 24 (0,0))],[],[],[],[],[],[],a1,cd]) rfl cf fun cg=>Dt (pp:=rI) [iV 2,iV 3] [2,3] rfl rfl rfl underlying28 AU CK (by decide) rfl rfl rfl ⟨rfl,rfl,trivial⟩ cg fun ci ck cm cn=>Dt (pp:=rI) [iV 3,iV 4] [3,4] rfl rfl rfl underlying28 AU CK (by decide) rfl rfl rfl ⟨rfl,rfl,trivial⟩ cn fun co cp cq cr=>B6 9 ce cr rfl fun cV ap ct cu=>?_;refine Cu (S':= [[],[(K,.cells #[nS,nS] 24 (0,0))],[],[],[],[],[],[],a1,[],ck,cp]) rfl cu fun cv=>B6 10 (cm.Ah ap) cv rfl fun cW av cw cy=>B6 11 (cq.Ah (ap.Ac av)) cy rfl fun cX a0 cz cA=>Dt (pp:=(rL rI)) [nS,nS,nS,.slice (AY cc) (([2]:List Int)).length 1,.slice (AY ci) (([2,3]:List Int)).length 2,.slice (AY co) (([3,4]:List Int)).length 2] [[],[],[],([2]:List Int),([2,3]:List Int),([3,4]:List Int)] rfl rfl rfl underlying22 BT Fp (by decide) rfl rfl rfl ⟨⟨_,_,rfl,Am.nil⟩,⟨_,_,rfl,Am.nil⟩,⟨_,_,rfl,Am.nil⟩,⟨_,_,rfl,(ct.Ah (av.Ac a0))⟩,⟨_,_,rfl,(cw.Ah a0)⟩,⟨_,_,rfl,cz⟩,trivial⟩ cA fun am cB cC cD=>Cu (S':= [[],[(K,.cells #[nS,nS] 24 (0,0))],[],[],[],[],[],[],a1,[],[],[],cB]) rfl cD fun cE=>AE (v:= .agg #[.slice (AY al) (([([1]:List Int),([2]:List Int),([3,4]:List Int),([4]:List Int),([5]:List Int),([5]:List Int)]:List (List Int))).length 6,.slice (AY am) (([[],[],[],([2]:List Int),([2,3]:List Int),([3,4]:List Int)]:List (List Int))).length 6]) rfl (fun ρ h=>Di [(0,1),(1,1)] h GW underlying24 ⟨rfl,Bw type22,rfl,Bw type22,trivial⟩ rfl rfl) (BY 1 cE BD fun cF=>?_);refine JL.done (B6 8 (ca.Ah ((ap.Ac av).Ac a0)) cF rfl fun cY bi cG cH=>?_);refine B6 12 (cC.Ah bi) cH rfl fun cZ bo cI cJ=>Cu (S':= [[],[(K,.cells #[.slice (AY al) (([([1]:List Int),([2]:List Int),([3,4]:List Int),([4]:List Int),([5]:List Int),([5]:List Int)]:List (List Int))).length 6,.slice (AY am) (([[],[],[],([2]:List Int),([2,3]:List Int),([3,4]:List Int)]:List (List Int))).length 6] 24 (0,0))],[],[],[],[],[],[],[],[],[],[],[]]) rfl cJ fun bv=>?_;obtain rfl:=oi a2;refine JL.ret (v:= .agg #[.slice (AY al) (([([1]:List Int),([2]:List Int),([3,4]:List Int),([4]:List Int),([5]:List Int),([5]:List Int)]:List (List Int))).length 6,.slice (AY am) (([[],[],[],([2]:List Int),([2,3]:List Int),([3,4]:List Int)]:List (List Int))).length 6]) rfl rfl (Cs.list func71 rfl (vs:= [.agg #[.slice (AY al) (([([1]:List Int),([2]:List Int),([3,4]:List Int),([4]:List Int),([5]:List Int),([5]:List Int)]:List (List Int))).length 6,.slice (AY am) (([[],[],[],([2]:List Int),([2,3]:List Int),([3,4]:List Int)]:List (List Int))).length 6]]) ⟨⟨_,rfl,Ld.many (vs:= [.slice (AY al) (([([1]:List Int),([2]:List Int),([3,4]:List Int),([4]:List Int),([5]:List Int),([5]:List Int)]:List (List Int))).length 6,.slice (AY am) (([[],[],[],([2]:List Int),([2,3]:List Int),([3,4]:List Int)]:List (List Int))).length 6]) BX BD (FV (off:=0) 1 bv rfl rfl)⟩,trivial⟩) (Iw 1 bv rfl fun cK=>?_);exact bz ((((((((((O.Ac U).Ac V).Ac Y).Ac Z).Ac ag).Ac ap).Ac av).Ac a0).Ac bi).Ac bo) rfl ⟨(AY al),6,(AY am),6,rfl,rfl,(cG.Ah bo),cI⟩ cK
def f72(fuel:Nat):Option ((AI)):= some ([(0,2),(1,4)]:AI)
theorem Po{fuel:Nat}{r:(AI)}(K:f72 fuel=some r):AM J 72 [] E [] (fun w E' B'=>∃(O:An) (U:Nat),w= sV O r U∧B'= []∧Am Bo E' O U r):=by
 refine A4 func72 fun Q a0 cs H V Y=>?_;unfold f72 at K;refine zg 6 rfl (AE (v:= .agg #[iV 0,iV 2]) rfl (fun ρ h=>Di [(0,1),(1,1)] h Et underlying27 ⟨rfl,Bw type3,rfl,Bw type3,trivial⟩ rfl rfl) ?_);refine AE (v:= .agg #[iV 1,iV 4]) rfl (fun ρ h=>Di [(0,1),(1,1)] h Et underlying27 ⟨rfl,Bw type3,rfl,Bw type3,trivial⟩ rfl rfl) (Dt (pp:=Bo) [.agg #[iV 0,iV 2],.agg #[iV 1,iV 4]] [(0,2),(1,4)] rfl rfl rfl underlying25 Cf Et (by decide) rfl rfl rfl ⟨⟨_,_,rfl,rfl,rfl⟩,⟨_,_,rfl,rfl,rfl⟩,trivial⟩ V fun Z g2 ag al=>?_);refine zg 2 rfl (B6 1 ag al rfl fun a1 am ap av=>?_);obtain rfl:=oi K;exact AA func72 rfl rfl (Y am rfl ⟨(AY Z),2,rfl,rfl,ap⟩ av)
def f73(fuel:Nat):Option ((AI)):= some ([(0,3),(1,3)]:AI)
theorem TB{fuel:Nat}{r:(AI)}(K:f73 fuel=some r):AM J 73 [] E [] (fun w E' B'=>∃(O:An) (U:Nat),w= sV O r U∧B'= []∧Am Bo E' O U r):=by
 refine A4 func73 fun Q a0 cs H V Y=>?_;unfold f73 at K;refine zg 6 rfl (AE (v:= .agg #[iV 0,iV 3]) rfl (fun ρ h=>Di [(0,1),(1,1)] h Et underlying27 ⟨rfl,Bw type3,rfl,Bw type3,trivial⟩ rfl rfl) ?_);refine AE (v:= .agg #[iV 1,iV 3]) rfl (fun ρ h=>Di [(0,1),(1,1)] h Et underlying27 ⟨rfl,Bw type3,rfl,Bw type3,trivial⟩ rfl rfl) (Dt (pp:=Bo) [.agg #[iV 0,iV 3],.agg #[iV 1,iV 3]] [(0,3),(1,3)] rfl rfl rfl underlying25 Cf Et (by decide) rfl rfl rfl ⟨⟨_,_,rfl,rfl,rfl⟩,⟨_,_,rfl,rfl,rfl⟩,trivial⟩ V fun Z g2 ag al=>?_);refine zg 2 rfl (B6 1 ag al rfl fun a1 am ap av=>?_);obtain rfl:=oi K;exact AA func73 rfl rfl (Y am rfl ⟨(AY Z),2,rfl,rfl,ap⟩ av)
end Pal
namespace Pal
open Go Go.Conc Go.Proofs
open Go.Proofs.Tryz
variable {J:Judge Tryz.prog}{E:LH}
def f103(fuel:Nat)(p0:Nat)(p1:Int):Option Bool:= (LD p0 p1).bind fun K=> (Kb K (1)).bind fun O=> some (decide ((((O):Nat):Int)=(((1):Nat):Int)))
theorem OX{p0:Nat}{p1:Int}{fuel:Nat}{r:Bool}(K:f103 fuel p0 p1=some r):AM J 103 [uV p0,iV p1] E [] (fun w E' B'=>w= .bool r∧B'= []):=by
 refine A4 func103 fun Q ap cs H O U=>?_;unfold f103 at K;obtain⟨V,Y,Z⟩:=bs K;refine zg 8 rfl (AE (v:= uV V) rfl (fun ρ h=>Xt (h _ _ rfl) (h _ _ rfl) Y) ?_);obtain⟨ag,al,am⟩:=bs Z;refine AE (v:= uV ag) rfl (fun ρ h=>Ou (h _ _ rfl) (h _ _ rfl) al) (zg 3 rfl ?_);obtain rfl:=oi am;exact AA func103 rfl rfl (U Ar rfl ⟨rfl,rfl⟩ O)
def f90(fuel:Nat)(p0:Nat)(p1:Int):Option Nat:= (Lq p1).bind fun K=> (Jk p0 K).bind fun O=> some O
theorem NC{p0:Nat}{p1:Int}{fuel:Nat}{r:Nat}(K:f90 fuel p0 p1=some r):AM J 90 [uV p0,iV p1] E [] (fun w E' B'=>w= uV r∧B'= []):=by
 refine A4 func90 fun Q ap cs H O U=>?_;unfold f90 at K;obtain⟨V,Y,Z⟩:=bs K;refine zg 8 rfl (AE (v:= uV V) rfl (fun ρ h=>Ys (h _ _ rfl) (h _ _ rfl) Y) ?_);obtain⟨ag,al,am⟩:=bs Z;refine AE (v:= uV ag) rfl (fun ρ h=>KB (h _ _ rfl) (h _ _ rfl) al) (zg 2 rfl ?_);obtain rfl:=oi am;exact AA func90 rfl rfl (U Ar rfl ⟨rfl,rfl⟩ O)
def MW(fuel:Nat)(p0:Nat)(K:(List Int)×Int):Option (Bf ((List Int)×Int) ((List Int))):= if K.2<16 then((f103 fuel p0 K.2).bind fun O=> Option.bind (if O=true then((room K.1 K.2).bind fun U=> some U) else(some K.1)) fun V=> (Au (K.2+1)).bind fun Y=> some (.more (V,Y))) else(some (.done K.1))
def f89(fuel:Nat)(p0:Nat):Option ((List Int)):= Option.bind (iter (MW fuel p0) fuel ([],0)) fun K=> some K
theorem Ja{p0:Nat}{fuel:Nat}{r:(List Int)}(a7:f89 fuel p0=some r):AM J 89 [uV p0] E [] (fun w E' B'=>∃(a8:An) (a9:Nat),w= sV a8 r a9∧B'= []∧Am rI E' a8 a9 r):=by
 refine A4 func89 fun Q b9 cs H bw bz=>?_;unfold f89 at a7;obtain⟨bb,bA,bB⟩:=bs a7;refine zg 13 rfl (Bp (fun L s=>∃(a0:LH) (Y:An) (Z:Nat) (a1:Seg),Jn E H a0 [a1] [(3,sV Y bb Z)] L s (OL 3 rI a0 Y Z a1 bb)) ?_ ?_)
 ·rintro _ _ ⟨a0,Y,Z,a1,rfl,rfl,bC,bD,bE⟩;refine zg 5 rfl (B6 0 bE bD rfl fun ca bF bG bH=>?_);obtain rfl:=oi bB;exact AA func89 rfl rfl (bz (bC.Ac bF) rfl ⟨Y,Z,rfl,rfl,bG⟩ bH)
 ·intro bI;refine JL.block (CP bA (fun L s K=>∃(ag:LH) (O:An) (U:Nat) (V:Seg),Jn E H ag [V] [(0,uV p0),(3,sV O K.1 U),(5,iV K.2)] L s (OL 3 rI ag O U V K.1)) ⟨E,none,0,[],rfl,rfl,Ar,bw,OL.nil⟩ ?_);rintro _ _ K ⟨ag,O,U,V,rfl,rfl,bd,be,a2⟩ bJ ⟨cb,a3⟩ bK;have bi:=a3;unfold MW at bi;refine zg 5 rfl (AL bi (fun bL bM=>?_) (fun bL bN=>?_))
  ·obtain⟨cc,bO,bP⟩:=bs bM;refine zg 12 rfl (BF (OX bO) rfl rfl N3 be fun a4 a5 bo=>?_);obtain⟨a6,bQ,bR⟩:=bs bP;refine JL.done (Bp (fun L s=>∃(al:LH) (am:An) (ap:Nat) (av:Seg),Jn a4 H al [av] [(0,uV p0),(3,sV am a6 ap),(5,iV K.2)] L s (OL 3 rI al am ap av a6)) ?_ ?_)
   ·rintro _ _ ⟨al,am,ap,av,rfl,rfl,bS,bT,bU⟩;obtain⟨bV,bW,bY⟩:=bs bR;refine zg 2 rfl (Bc bW rfl rfl rfl ?_);refine zg 2 rfl ?_;obtain rfl:=oi bY;exact Ax (bK _ _ (a6,bV) ⟨al,am,ap,av,rfl,rfl,((bd.Ac a5).Ac bS),bT,bU⟩ a3) rfl
   ·intro bv;refine BJ bQ (fun bZ b0=>?_) (fun bZ b1=>?_)
    ·obtain⟨cd,b2,b3⟩:=bs b0;refine zg 3 rfl (JS.app (pp:=rI) (v:=iV K.2) (a:=O) (c:=U) 0 b2 rfl rfl rfl rfl (fun _=>rfl) rfl (fun _=>rfl) rfl rfl rfl underlying28 underlying28 underlying28 AU (CS type3) CK rfl (by decide) (by decide) (by decide) (by decide) (a2.Ah a5) rfl bo rfl fun ce b4 b5 b6 b7 b8=>?_);refine zg 2 rfl ?_;obtain rfl:=oi b3;exact Ax (bv _ _ ⟨a4,b4,b5,b6,rfl,rfl,Ar,b8,b7⟩) rfl
    ·refine JL.skip ?_;obtain rfl:=oi b1;exact Ax (bv _ _ ⟨a4,O,U,V,rfl,rfl,Ar,bo,(a2.Ah a5)⟩) rfl
  ·refine JL.exit rfl ?_;obtain rfl:=oi bN;obtain rfl:=bJ _ a3;exact Ax (bI _ _ ⟨ag,O,U,V,rfl,rfl,bd,be,a2⟩) rfl
def MH(fuel:Nat)(p0:List Int)(K:Nat×Int):Option (Bf (Nat×Int) Nat):= if K.2<(p0.length:Int) then((ix p0 K.2).bind fun O=> (f90 fuel K.1 O).bind fun U=> (Au (K.2+1)).bind fun V=> some (.more (U,V))) else(some (.done K.1))
def f120(fuel:Nat)(p0:List Int):Option Nat:= Option.bind (iter (MH fuel p0) fuel (0,0)) fun K=> some K
theorem J5{O:An}{c2:Nat}{p0:List Int}(al:Am rI E O c2 p0){fuel:Nat}{r:Nat}(Y:f120 fuel p0=some r):AM J 120 [sV O p0 c2] E [] (fun w E' B'=>w= uV r∧B'= []):=by
 refine A4 func120 fun Q bD cs H am ap=>?_;unfold f120 at Y;refine zg 12 rfl (Be underlying28 rfl rfl rfl ?_);obtain⟨av,a0,a1⟩:=bs Y;refine zg 2 rfl (C4 [] [(3,uV av)] (fun bE a2 a3=>?_) (fun a4=>?_))
 ·refine zg 5 rfl ?_;obtain rfl:=oi a1;exact AA func120 rfl rfl (ap a2 rfl ⟨rfl,rfl⟩ a3)
 ·refine JL.block (Cz a0 (fun K=> []) (fun K=> [(3,uV K.1),(6,sV O p0 c2),(7,iV (p0.length:Int)),(8,iV K.2)]) Ar am ?_);rintro K bF U Z a5 ⟨bG,V⟩ a6;have ag:=V;unfold MH at ag;refine zg 5 rfl (AL ag (fun a7 a8=>?_) (fun a7 a9=>?_))
  ·obtain⟨bH,bb,bd⟩:=bs a8;refine zg 5 rfl (BN (al.Ah U) bb underlying28 AU ?_);rintro bI bJ _ rfl be;refine BH 0 be Bt rfl rfl rfl ?_;obtain⟨bi,bo,bv⟩:=bs bd;refine zg 5 rfl (BF (NC bo) rfl rfl L3 Z fun bK bw bz=>?_);obtain⟨bA,bB,bC⟩:=bs bv;refine zg 4 rfl (Bc bB rfl rfl rfl ?_);refine zg 2 rfl ?_;obtain rfl:=oi bC;exact a6 (bi,bA) (U.Ac bw) bz rfl V
  ·refine JL.exit rfl ?_;obtain rfl:=oi a9;obtain rfl:=a5 _ V;exact a4 U Z rfl
def JF(fuel:Nat)(p0:A2)(p1:Int)(p2:List Int)(p3:Bool)(K:Int):Option (Bf Int (((Option (Int×Int)))⊕(Unit))):= if K<(p2.length:Int) then((ix p2 K).bind fun O=> (Au ((p0.1.length:Int) - 1)).bind fun U=> (f101 fuel O 0 U).bind fun V=> if V=true then(some (.done (Sum.inl (some (3,p1))))) else(Option.bind (if O=p1 then(some (!p3)) else(some false)) fun Y=> if Y=true then(some (.done (Sum.inl (some (8,p1))))) else(Option.bind (if 0<K then((Au (K - 1)).bind fun Z=> (ix p2 Z).bind fun ag=> some (decide (O≤ag))) else(some false)) fun al=> if al=true then(some (.done (Sum.inl (some (5,p1))))) else((Au (K+1)).bind fun am=> some (.more am))))) else(some (.done (Sum.inr ())))
def f136(fuel:Nat)(p0:A2)(p1:Int)(p2:List Int)(p3:Bool):Option ((Option (Int×Int))):= Option.bind (iter (JF fuel p0 p1 p2 p3) fuel 0) fun K=> Sum.elim (fun r=>some r) (fun O=> some none) K
theorem SY{a3:An}{c2:Nat}{a4:An}{a5:Nat}{K:An}{O:Nat}{p0:A2}{p1:Int}{p2:List Int}{p3:Bool}(cz:Am (rL rI) E a3 c2 p0.1)(cA:Am (rL rI) E a4 a5 p0.2)(a6:Am rI E K O p2){fuel:Nat}{r:(Option (Int×Int))}(a7:f136 fuel p0 p1 p2 p3=some r):AM J 136 [.agg #[sV a3 p0.1 c2,sV a4 p0.2 a5],iV p1,sV K p2 O,.bool p3] E [] (fun w E' B'=>∃(a8:Value),w=a8∧B'= []∧H9 183 a8 r):=by
 refine A4 func136 fun Q cB cs H bA al=>?_;unfold f136 at a7;refine zg 2 rfl (B7 bA fun a0 bB V bC bD=>?_);refine zg 6 rfl (Be underlying28 rfl rfl rfl ?_);obtain⟨a9,bE,am⟩:=bs a7;refine zg 2 rfl (Bp (fun L s=>∃(bb:Unit) (bd:LH),a9=Sum.inr bb∧Jm bB H bd [] [] L s) ?_ ?_)
 ·rintro _ _ ⟨bb,bd,rfl,rfl,rfl,bF,bG⟩;have bH:=elim_inr am;refine zg 4 rfl ?_;obtain rfl:=oi bH;exact AA func136 rfl rfl (al (V.Ac bF) rfl ⟨.nilIface,rfl,rfl,rfl⟩ bG)
 ·intro bI;refine JL.block (Cz bE (fun Y=> []) (fun Y=> [(1,iV p1),(2,sV K p2 O),(3,.bool p3),(4,pV a0 0),(11,sV K p2 O),(12,iV (p2.length:Int)),(13,iV Y)]) Ar bD ?_);rintro Y bJ U be ap ⟨cC,Z⟩ bK;have bi:=Z;unfold JF at bi;refine zg 5 rfl (AL bi (fun bL bM=>?_) (fun bL bN=>?_))
  ·obtain⟨bO,bP,bQ⟩:=bs bM;refine zg 6 rfl (BN (a6.Ah (V.Ac U)) bP underlying28 AU ?_);rintro cD cE _ rfl bR;refine BH 0 bR Bt rfl rfl rfl (zg 7 rfl ?_);refine JL.fl 0 (bC.Ah U) underlying24 BP Cn ?_;refine Be underlying22 rfl rfl rfl ?_;obtain⟨cF,bS,bT⟩:=bs bQ;refine Cd bS rfl rfl rfl ?_;obtain⟨cG,bU,bV⟩:=bs bT;refine BF (I6 bU) rfl rfl IL be fun cH ag a1=>zg 2 rfl (BJ bV (fun bW bY=>?_) (fun bW bZ=>?_))
   ·refine zg 3 rfl (AE (v:= .agg #[iV 3,iV p1]) rfl (fun ρ h=>Di [(0,1),(1,1)] h FJ underlying183 ⟨rfl,Bw type39,rfl,Bw type3,trivial⟩ rfl rfl) ?_);refine AE (v:= .iface 183 (.agg #[iV 3,iV p1])) rfl (fun ρ h=>Fa underlying183 (fun _ h=>by cases h) (h _ _ rfl)) (zg 2 rfl ?_);obtain rfl:=oi bY;obtain rfl:=ap _ Z;have b0:=elim_inl am;obtain rfl:=oi b0;exact AA func136 rfl rfl (al ((V.Ac U).Ac ag) rfl ⟨.iface 183 (.agg #[iV 3,iV p1]),rfl,rfl,rfl⟩ a1)
   ·obtain⟨b1,b2,b3⟩:=bs bZ;refine zg 6 rfl (Dp 7 1 [] [(1,iV p1),(2,sV K p2 O),(3,.bool p3),(4,pV a0 0),(9,iV Y),(10,iV bO),(11,sV K p2 O),(12,iV (p2.length:Int)),(13,iV Y),(35,.bool b1)] (fun cI av a2=>?_) (fun bo=>?_))
    ·refine zg 2 rfl (BJ b3 (fun b4 b5=>?_) (fun b4 b6=>?_))
     ·refine zg 3 rfl (AE (v:= .agg #[iV 8,iV p1]) rfl (fun ρ h=>Di [(0,1),(1,1)] h FJ underlying183 ⟨rfl,Bw type39,rfl,Bw type3,trivial⟩ rfl rfl) ?_);refine AE (v:= .iface 183 (.agg #[iV 8,iV p1])) rfl (fun ρ h=>Fa underlying183 (fun _ h=>by cases h) (h _ _ rfl)) (zg 2 rfl ?_);obtain rfl:=oi b5;obtain rfl:=ap _ Z;have b7:=elim_inl am;obtain rfl:=oi b7;exact AA func136 rfl rfl (al (((V.Ac U).Ac ag).Ac av) rfl ⟨.iface 183 (.agg #[iV 8,iV p1]),rfl,rfl,rfl⟩ a2)
     ·obtain⟨b8,b9,ca⟩:=bs b6;refine zg 5 rfl (Dp 11 1 [] [(1,iV p1),(2,sV K p2 O),(3,.bool p3),(4,pV a0 0),(11,sV K p2 O),(12,iV (p2.length:Int)),(13,iV Y),(50,.bool b8)] (fun cJ bv bw=>?_) (fun bz=>?_))
      ·refine zg 2 rfl (BJ ca (fun cb cc=>?_) (fun cb cd=>?_))
       ·refine zg 3 rfl (AE (v:= .agg #[iV 5,iV p1]) rfl (fun ρ h=>Di [(0,1),(1,1)] h FJ underlying183 ⟨rfl,Bw type39,rfl,Bw type3,trivial⟩ rfl rfl) ?_);refine AE (v:= .iface 183 (.agg #[iV 5,iV p1])) rfl (fun ρ h=>Fa underlying183 (fun _ h=>by cases h) (h _ _ rfl)) (zg 2 rfl ?_);obtain rfl:=oi cc;obtain rfl:=ap _ Z;have ce:=elim_inl am;obtain rfl:=oi ce;exact AA func136 rfl rfl (al ((((V.Ac U).Ac ag).Ac av).Ac bv) rfl ⟨.iface 183 (.agg #[iV 5,iV p1]),rfl,rfl,rfl⟩ bw)
       ·obtain⟨cf,cg,ci⟩:=bs cd;refine zg 4 rfl (Bc cg rfl rfl rfl ?_);refine zg 2 rfl ?_;obtain rfl:=oi ci;exact bK cf (((U.Ac ag).Ac av).Ac bv) bw rfl Z
      ·refine Eo 42 b9 (fun ck cm=>?_) (fun ck cn=>?_)
       ·obtain⟨cK,co,cp⟩:=bs cm;refine zg 3 rfl (Cd co rfl rfl rfl ?_);obtain⟨cM,cq,cr⟩:=bs cp;refine BN (a6.Ah (((V.Ac U).Ac ag).Ac av)) cq underlying28 AU ?_;rintro cN cO _ rfl ct;refine BH 0 ct Bt rfl rfl rfl (zg 2 rfl ?_);obtain rfl:=oi cr;exact bz Ar a2 rfl
       ·refine zg 8 rfl ?_;obtain rfl:=oi cn;exact bz Ar a2 rfl
    ·refine Eo 32 b2 (fun cu cv=>?_) (fun cu cw=>?_)
     ·refine zg 1 rfl (AE (v:= .bool (!p3)) rfl (fun ρ h=>Yl.not (h _ _ rfl)) ?_);refine zg 1 rfl ?_;obtain rfl:=oi cv;exact bo Ar a1 rfl
     ·refine zg 3 rfl ?_;obtain rfl:=oi cw;exact bo Ar a1 rfl
  ·refine JL.exit rfl ?_;obtain rfl:=oi bN;have cy:a9=(Sum.inr ()):=(ap _ Z).symm;exact Ax (bI _ _ ⟨(),bJ,cy,rfl,rfl,U,be⟩) rfl
def JU(fuel:Nat)(p0:A2)(K:Int):Option (Bf Int (((Option (Int×Int)))⊕(Unit))):= if K<(p0.1.length:Int) then((ix p0.1 K).bind fun O=> if(O.length:Int)=0 then(some (.done (Sum.inl (some (7,K))))) else(if 3<(O.length:Int) then(some (.done (Sum.inl (some (6,K))))) else((f136 fuel p0 K O true).bind fun U=> if U.isSome=true then(some (.done (Sum.inl U))) else((ix p0.2 K).bind fun Y=> if 3<(Y.length:Int) then(some (.done (Sum.inl (some (6,K))))) else((ix p0.2 K).bind fun Z=> (f136 fuel p0 K Z false).bind fun V=> if V.isSome=true then(some (.done (Sum.inl V))) else((Au (K+1)).bind fun ag=> some (.more ag))))))) else(some (.done (Sum.inr ())))
def f113(fuel:Nat)(p0:A2):Option ((Option (Int×Int))):= if(p0.1.length:Int)=0 then(some (some (7,0))) else(if 8<(p0.1.length:Int) then(some (some (6,0))) else(if(p0.2.length:Int)≠(p0.1.length:Int) then(some (some (9,0))) else(Option.bind (iter (JU fuel p0) fuel 0) fun K=> Sum.elim (fun r=>some r) (fun O=> some none) K)))
theorem SE{a1:An}{c2:Nat}{a4:An}{a5:Nat}{p0:A2}(a2:Am (rL rI) E a1 c2 p0.1)(ap:Am (rL rI) E a4 a5 p0.2){fuel:Nat}{r:(Option (Int×Int))}(a6:f113 fuel p0=some r):AM J 113 [.agg #[sV a1 p0.1 c2,sV a4 p0.2 a5]] E [] (fun w E' B'=>∃(a7:Value),w=a7∧B'= []∧H9 183 a7 r):=by
 refine A4 func113 fun Q cH cs H bw Y=>?_;unfold f113 at a6;refine zg 2 rfl (B7 bw fun bz bA O ag av=>?_);refine zg 5 rfl (JL.fl 0 ag underlying24 BP Cn ?_);refine Be underlying22 rfl rfl rfl (zg 9 rfl ?_);refine AL a6 (fun bB bC=>?_) (fun bB bD=>?_)
 ·refine zg 2 rfl (AE (v:= .agg #[iV 7,iV 0]) rfl (fun ρ h=>Di [(0,1),(1,1)] h FJ underlying183 ⟨rfl,Bw type39,rfl,Bw type3,trivial⟩ rfl rfl) ?_);refine AE (v:= .iface 183 (.agg #[iV 7,iV 0])) rfl (fun ρ h=>Fa underlying183 (fun _ h=>by cases h) (h _ _ rfl)) (zg 2 rfl ?_);obtain rfl:=oi bC;exact AA func113 rfl rfl (Y O rfl ⟨.iface 183 (.agg #[iV 7,iV 0]),rfl,rfl,rfl⟩ av)
 ·refine zg 6 rfl (AL bD (fun bE bF=>?_) (fun bE bG=>?_))
  ·refine zg 2 rfl (AE (v:= .agg #[iV 6,iV 0]) rfl (fun ρ h=>Di [(0,1),(1,1)] h FJ underlying183 ⟨rfl,Bw type39,rfl,Bw type3,trivial⟩ rfl rfl) ?_);refine AE (v:= .iface 183 (.agg #[iV 6,iV 0])) rfl (fun ρ h=>Fa underlying183 (fun _ h=>by cases h) (h _ _ rfl)) (zg 2 rfl ?_);obtain rfl:=oi bF;exact AA func113 rfl rfl (Y O rfl ⟨.iface 183 (.agg #[iV 6,iV 0]),rfl,rfl,rfl⟩ av)
  ·refine zg 2 rfl (JL.fl 1 ag underlying24 BP Cn ?_);refine Be underlying22 rfl rfl rfl (zg 4 rfl ?_);refine AL bG (fun bH bI=>?_) (fun bH bJ=>?_)
   ·refine zg 2 rfl (AE (v:= .agg #[iV 9,iV 0]) rfl (fun ρ h=>Di [(0,1),(1,1)] h FJ underlying183 ⟨rfl,Bw type39,rfl,Bw type3,trivial⟩ rfl rfl) ?_);refine AE (v:= .iface 183 (.agg #[iV 9,iV 0])) rfl (fun ρ h=>Fa underlying183 (fun _ h=>by cases h) (h _ _ rfl)) (zg 2 rfl ?_);obtain rfl:=oi bI;exact AA func113 rfl rfl (Y O rfl ⟨.iface 183 (.agg #[iV 9,iV 0]),rfl,rfl,rfl⟩ av)
   ·refine zg 5 rfl (JL.fl 0 ag underlying24 BP Cn ?_);refine Be underlying22 rfl rfl rfl ?_;obtain⟨a8,bK,al⟩:=bs bJ;refine zg 2 rfl (Bp (fun L s=>∃(a9:Unit) (bb:LH),a8=Sum.inr a9∧Jm bA H bb [] [] L s) ?_ ?_)
    ·rintro _ _ ⟨a9,bb,rfl,rfl,rfl,bL,bM⟩;have bN:=elim_inr al;refine zg 4 rfl ?_;obtain rfl:=oi bN;exact AA func113 rfl rfl (Y (O.Ac bL) rfl ⟨.nilIface,rfl,rfl,rfl⟩ bM)
    ·intro bO;refine JL.block (Cz bK (fun U=> []) (fun U=> [(1,pV bz 0),(30,sV a1 p0.1 c2),(31,iV (p0.1.length:Int)),(32,iV U)]) Ar av ?_);rintro U bP K a0 am ⟨cI,Z⟩ bQ;have bd:=Z;unfold JU at bd;refine zg 5 rfl (AL bd (fun bR bS=>?_) (fun bR bT=>?_))
     ·obtain⟨cJ,bU,bV⟩:=bs bS;refine zg 6 rfl (BN (a2.Ah (O.Ac K)) bU underlying22 BT ?_);rintro cK cM _ ⟨cN,cO,rfl,bW⟩ bY;refine BH 0 bY CF rfl rfl rfl (zg 7 rfl ?_);refine Be underlying28 rfl rfl rfl (zg 2 rfl ?_);refine AL bV (fun bZ b0=>?_) (fun bZ b1=>?_)
      ·refine zg 3 rfl (AE (v:= .agg #[iV 7,iV U]) rfl (fun ρ h=>Di [(0,1),(1,1)] h FJ underlying183 ⟨rfl,Bw type39,rfl,Bw type3,trivial⟩ rfl rfl) ?_);refine AE (v:= .iface 183 (.agg #[iV 7,iV U])) rfl (fun ρ h=>Fa underlying183 (fun _ h=>by cases h) (h _ _ rfl)) (zg 2 rfl ?_);obtain rfl:=oi b0;obtain rfl:=am _ Z;have b2:=elim_inl al;obtain rfl:=oi b2;exact AA func113 rfl rfl (Y (O.Ac K) rfl ⟨.iface 183 (.agg #[iV 7,iV U]),rfl,rfl,rfl⟩ a0)
      ·refine zg 5 rfl (Be underlying28 rfl rfl rfl ?_);refine zg 2 rfl (AL b1 (fun b3 b4=>?_) (fun b3 b5=>?_))
       ·refine zg 3 rfl (AE (v:= .agg #[iV 6,iV U]) rfl (fun ρ h=>Di [(0,1),(1,1)] h FJ underlying183 ⟨rfl,Bw type39,rfl,Bw type3,trivial⟩ rfl rfl) ?_);refine AE (v:= .iface 183 (.agg #[iV 6,iV U])) rfl (fun ρ h=>Fa underlying183 (fun _ h=>by cases h) (h _ _ rfl)) (zg 2 rfl ?_);obtain rfl:=oi b4;obtain rfl:=am _ Z;have b6:=elim_inl al;obtain rfl:=oi b6;exact AA func113 rfl rfl (Y (O.Ac K) rfl ⟨.iface 183 (.agg #[iV 6,iV U]),rfl,rfl,rfl⟩ a0)
       ·refine zg 4 rfl (BQ (ag.Ah K) BX BD rfl rfl ?_);obtain⟨b7,b8,b9⟩:=bs b5;refine zg 2 rfl (BO (SY (a2.Ah (O.Ac K)) (ap.Ah (O.Ac K)) bW b8) rfl rfl (AR func136 rfl) a0 ?_);rintro ca cP _ V ⟨_,rfl,rfl,be⟩ a3;refine zg 5 rfl (AE (v:= .bool b7.isSome) rfl (fun ρ h=>Oy underlying149 be (h _ _ rfl) (h _ _ rfl)) ?_);refine JL.done (BJ b9 (fun cb cc=>?_) (fun cb cd=>?_))
        ·refine zg 5 rfl ?_;obtain rfl:=oi cc;obtain rfl:=am _ Z;have ce:=elim_inl al;obtain rfl:=oi ce;exact AA func113 rfl rfl (Y ((O.Ac K).Ac V) rfl ⟨ca,rfl,rfl,be⟩ a3)
        ·refine zg 4 rfl (JL.fl 1 (ag.Ah (K.Ac V)) underlying24 BP Cn ?_);obtain⟨cQ,cf,cg⟩:=bs cd;refine zg 1 rfl (BN (ap.Ah ((O.Ac K).Ac V)) cf underlying22 BT ?_);rintro cR cT _ ⟨cV,cW,rfl,cX⟩ ci;refine BH 0 ci CF rfl rfl rfl (Be underlying28 rfl rfl rfl ?_);refine zg 2 rfl (AL cg (fun ck cm=>?_) (fun ck cn=>?_))
         ·refine zg 3 rfl (AE (v:= .agg #[iV 6,iV U]) rfl (fun ρ h=>Di [(0,1),(1,1)] h FJ underlying183 ⟨rfl,Bw type39,rfl,Bw type3,trivial⟩ rfl rfl) ?_);refine AE (v:= .iface 183 (.agg #[iV 6,iV U])) rfl (fun ρ h=>Fa underlying183 (fun _ h=>by cases h) (h _ _ rfl)) (zg 2 rfl ?_);obtain rfl:=oi cm;obtain rfl:=am _ Z;have co:=elim_inl al;obtain rfl:=oi co;exact AA func113 rfl rfl (Y ((O.Ac K).Ac V) rfl ⟨.iface 183 (.agg #[iV 6,iV U]),rfl,rfl,rfl⟩ a3)
         ·refine zg 2 rfl (C7 7 fun ht=>?_);refine Fe 0 ht (ag.Ah (K.Ac V)) BX BD rfl rfl rfl (Cb 1 ht rfl rfl ?_);refine Cc 2 ht underlying24 BP rfl rfl rfl rfl (Cy 3 ht 1 (ag.Ah (K.Ac V)) Cn rfl rfl rfl rfl ?_);refine Cb 4 ht rfl rfl ?_;obtain⟨cY,cp,cq⟩:=bs cn;refine CG 5 (ap.Ah ((O.Ac K).Ac V)) cp ht underlying22 BT ?_;rintro cZ c0 _ ⟨c1,c3,rfl,cr⟩ ct;refine Cy 6 ht 0 ct CF rfl rfl rfl rfl (Co [7,8] ?_);obtain⟨cu,cv,cw⟩:=bs cq;refine BO (SY (a2.Ah ((O.Ac K).Ac V)) (ap.Ah ((O.Ac K).Ac V)) cr cv) rfl rfl (AR func136 rfl) a3 ?_;rintro cy c4 _ bi ⟨_,rfl,rfl,bo⟩ bv;refine zg 5 rfl (AE (v:= .bool cu.isSome) rfl (fun ρ h=>Oy underlying149 bo (h _ _ rfl) (h _ _ rfl)) ?_);refine JL.done (BJ cw (fun cz cA=>?_) (fun cz cB=>?_))
          ·refine zg 5 rfl ?_;obtain rfl:=oi cA;obtain rfl:=am _ Z;have cC:=elim_inl al;obtain rfl:=oi cC;exact AA func113 rfl rfl (Y (((O.Ac K).Ac V).Ac bi) rfl ⟨cy,rfl,rfl,bo⟩ bv)
          ·obtain⟨cD,cE,cF⟩:=bs cB;refine zg 3 rfl (Bc cE rfl rfl rfl ?_);refine zg 2 rfl ?_;obtain rfl:=oi cF;exact bQ cD ((K.Ac V).Ac bi) bv rfl Z
     ·refine JL.exit rfl ?_;obtain rfl:=oi bT;have cG:a8=(Sum.inr ()):=(am _ Z).symm;exact Ax (bO _ _ ⟨(),bP,cG,rfl,rfl,K,a0⟩) rfl
def JV(fuel:Nat)(p0:A2)(p1:AI)(K:Int):Option (Bf Int (((Option (Int×Int)))⊕(Unit))):= if K<(p1.length:Int) then((ix p1 K).bind fun O=> (f101 fuel O.1 0 6).bind fun U=> if U=true then(some (.done (Sum.inl (some (1,K))))) else(Option.bind (if 0<K then((Au (K - 1)).bind fun V=> (ix p1 V).bind fun Y=> some (decide (O.1<Y.1))) else(some false)) fun Z=> if Z=true then(some (.done (Sum.inl (some (5,K))))) else((Au ((p0.1.length:Int) - 1)).bind fun ag=> (f101 fuel O.2 0 ag).bind fun al=> if al=true then(some (.done (Sum.inl (some (3,K))))) else((Au (K+1)).bind fun am=> some (.more am))))) else(some (.done (Sum.inr ())))
def f116(fuel:Nat)(p0:A2)(p1:AI):Option ((Option (Int×Int))):= if 4<(p1.length:Int) then(some (some (6,0))) else(Option.bind (iter (JV fuel p0 p1) fuel 0) fun K=> Sum.elim (fun r=>some r) (fun O=> some none) K)
theorem YL{a3:An}{c2:Nat}{a4:An}{a5:Nat}{Y:An}{Z:Nat}{p0:A2}{p1:AI}(cB:Am (rL rI) E a3 c2 p0.1)(cC:Am (rL rI) E a4 a5 p0.2)(a6:Am Bo E Y Z p1){fuel:Nat}{r:(Option (Int×Int))}(a7:f116 fuel p0 p1=some r):AM J 116 [.agg #[sV a3 p0.1 c2,sV a4 p0.2 a5],sV Y p1 Z] E [] (fun w E' B'=>∃(a8:Value),w=a8∧B'= []∧H9 183 a8 r):=by
 refine A4 func116 fun Q cD cs H bC am=>?_;unfold f116 at a7;refine zg 2 rfl (B7 bC fun a9 bD V bE bb=>?_);refine zg 6 rfl (Be underlying25 rfl rfl rfl ?_);refine zg 2 rfl (AL a7 (fun bF bG=>?_) (fun bF bH=>?_))
 ·refine zg 2 rfl (AE (v:= .agg #[iV 6,iV 0]) rfl (fun ρ h=>Di [(0,1),(1,1)] h FJ underlying183 ⟨rfl,Bw type39,rfl,Bw type3,trivial⟩ rfl rfl) ?_);refine AE (v:= .iface 183 (.agg #[iV 6,iV 0])) rfl (fun ρ h=>Fa underlying183 (fun _ h=>by cases h) (h _ _ rfl)) (zg 2 rfl ?_);obtain rfl:=oi bG;exact AA func116 rfl rfl (am V rfl ⟨.iface 183 (.agg #[iV 6,iV 0]),rfl,rfl,rfl⟩ bb)
 ·refine zg 5 rfl (Be underlying25 rfl rfl rfl ?_);obtain⟨bd,bI,ap⟩:=bs bH;refine zg 2 rfl (Bp (fun L s=>∃(be:Unit) (bi:LH),bd=Sum.inr be∧Jm bD H bi [] [] L s) ?_ ?_)
  ·rintro _ _ ⟨be,bi,rfl,rfl,rfl,bJ,bK⟩;have bL:=elim_inr ap;refine zg 4 rfl ?_;obtain rfl:=oi bL;exact AA func116 rfl rfl (am (V.Ac bJ) rfl ⟨.nilIface,rfl,rfl,rfl⟩ bK)
  ·intro bM;refine JL.block (Cz bI (fun K=> []) (fun K=> [(1,sV Y p1 Z),(2,pV a9 0),(12,sV Y p1 Z),(13,iV (p1.length:Int)),(14,iV K)]) Ar bb ?_);rintro K bN O bo av ⟨cE,ag⟩ bO;have bv:=ag;unfold JV at bv;refine zg 5 rfl (AL bv (fun bP bQ=>?_) (fun bP bR=>?_))
   ·obtain⟨cF,bS,bT⟩:=bs bQ;refine zg 6 rfl (BN (a6.Ah (V.Ac O)) bS underlying25 Cf ?_);rintro cG cH _ ⟨_,_,rfl,rfl,rfl⟩ bU;refine BQ bU Gv Cf rfl rfl (CU bo Et fun bV bW=>?_);refine zg 1 rfl (BY 0 bW Cf fun bY=>?_);refine C3 0 bY rfl fun cI al a0 bZ=>zg 4 rfl (JL.fl 0 a0 underlying27 AU Bt ?_);obtain⟨cJ,b0,b1⟩:=bs bT;refine BF (I6 b0) rfl rfl IL bZ fun b2 U a1=>zg 2 rfl (BJ b1 (fun b3 b4=>?_) (fun b3 b5=>?_))
    ·refine zg 3 rfl (AE (v:= .agg #[iV 1,iV K]) rfl (fun ρ h=>Di [(0,1),(1,1)] h FJ underlying183 ⟨rfl,Bw type39,rfl,Bw type3,trivial⟩ rfl rfl) ?_);refine AE (v:= .iface 183 (.agg #[iV 1,iV K])) rfl (fun ρ h=>Fa underlying183 (fun _ h=>by cases h) (h _ _ rfl)) (zg 2 rfl ?_);obtain rfl:=oi b4;obtain rfl:=av _ ag;have b6:=elim_inl ap;obtain rfl:=oi b6;exact AA func116 rfl rfl (am (((V.Ac O).Ac al).Ac U) rfl ⟨.iface 183 (.agg #[iV 1,iV K]),rfl,rfl,rfl⟩ a1)
    ·refine JL.seq (C7 13 fun ht=>?_);refine A0 ht rfl [0,1,2] rfl ?_;obtain⟨b7,bw,b8⟩:=bs b5;refine Ed 1 #[true,true,true,true,true,true,true,true,true,true,true,true,true,false] (fun L s=>L= [(1,sV Y p1 Z),(2,pV a9 0),(5,iV K),(6,pV bV 0),(12,sV Y p1 Z),(13,iV (p1.length:Int)),(14,iV K),(39,.bool b7)]∧s=Ao b2 H [[],[]]) ?_ ?_
     ·rintro _ _ ⟨rfl,rfl⟩;refine Co [13] (zg 2 rfl ?_);refine BJ b8 (fun b9 ca=>?_) (fun b9 cb=>?_)
      ·refine zg 3 rfl (AE (v:= .agg #[iV 5,iV K]) rfl (fun ρ h=>Di [(0,1),(1,1)] h FJ underlying183 ⟨rfl,Bw type39,rfl,Bw type3,trivial⟩ rfl rfl) ?_);refine AE (v:= .iface 183 (.agg #[iV 5,iV K])) rfl (fun ρ h=>Fa underlying183 (fun _ h=>by cases h) (h _ _ rfl)) (zg 2 rfl ?_);obtain rfl:=oi ca;obtain rfl:=av _ ag;have cc:=elim_inl ap;obtain rfl:=oi cc;exact AA func116 rfl rfl (am (((V.Ac O).Ac al).Ac U) rfl ⟨.iface 183 (.agg #[iV 5,iV K]),rfl,rfl,rfl⟩ a1)
      ·refine zg 2 rfl (JL.fl 1 (a0.Ah U) underlying27 AU Bt ?_);refine JL.fl 0 (bE.Ah ((O.Ac al).Ac U)) underlying24 BP Cn ?_;refine Be underlying22 rfl rfl rfl ?_;obtain⟨cK,cd,ce⟩:=bs cb;refine Cd cd rfl rfl rfl ?_;obtain⟨cM,cf,cg⟩:=bs ce;refine BF (I6 cf) rfl rfl IL a1 fun cN bz bA=>zg 2 rfl (BJ cg (fun ci ck=>?_) (fun ci cm=>?_))
       ·refine zg 3 rfl (AE (v:= .agg #[iV 3,iV K]) rfl (fun ρ h=>Di [(0,1),(1,1)] h FJ underlying183 ⟨rfl,Bw type39,rfl,Bw type3,trivial⟩ rfl rfl) ?_);refine AE (v:= .iface 183 (.agg #[iV 3,iV K])) rfl (fun ρ h=>Fa underlying183 (fun _ h=>by cases h) (h _ _ rfl)) (zg 2 rfl ?_);obtain rfl:=oi ck;obtain rfl:=av _ ag;have cn:=elim_inl ap;obtain rfl:=oi cn;exact AA func116 rfl rfl (am ((((V.Ac O).Ac al).Ac U).Ac bz) rfl ⟨.iface 183 (.agg #[iV 3,iV K]),rfl,rfl,rfl⟩ bA)
       ·obtain⟨co,cp,cq⟩:=bs cm;refine zg 4 rfl (Bc cp rfl rfl rfl ?_);refine zg 2 rfl ?_;obtain rfl:=oi cq;exact bO co (((O.Ac al).Ac U).Ac bz) bA rfl ag
     ·intro bB;refine Ft (q:=0<K) (i:=29) rfl (fun a2=>?_) (fun a2=>?_)
      ·have cr:=ip bw a2;refine Cc 3 ht underlying27 AU rfl rfl rfl rfl ?_;refine Cy 4 ht 0 (a0.Ah U) Bt rfl rfl rfl rfl ?_;refine A0 ht rfl [5,6] rfl ?_;obtain⟨cO,ct,cu⟩:=bs cr;refine BC 7 ht rfl rfl (fun ρ h s' hs=>Dc (h _ _ rfl) (h _ _ rfl) ct) ?_;obtain⟨cP,cv,cw⟩:=bs cu;refine CG 8 (a6.Ah (((V.Ac O).Ac al).Ac U)) cv ht underlying25 Cf ?_;rintro cQ cR _ ⟨_,_,rfl,rfl,rfl⟩ cy;refine Cc 9 ht underlying27 AU rfl rfl rfl rfl ?_;refine Cy 10 ht 0 cy Bt rfl rfl rfl rfl ?_;refine A0 ht rfl [11,12] rfl ?_;obtain rfl:=oi cw;refine CE ?_ (bB _ _ ⟨rfl,rfl⟩);exact⟨rfl,rfl,rfl,rfl,rfl,rfl,rfl,rfl,trivial⟩
      ·have cz:=im bw a2;refine A0 ht rfl [3,4,5,6,7,8,9,10,11,12] rfl ?_;obtain rfl:=oi cz;refine CE ?_ (bB _ _ ⟨rfl,rfl⟩);exact⟨rfl,rfl,rfl,rfl,rfl,rfl,rfl,rfl,trivial⟩
   ·refine JL.exit rfl ?_;obtain rfl:=oi bR;have cA:bd=(Sum.inr ()):=(av _ ag).symm;exact Ax (bM _ _ ⟨(),bN,cA,rfl,rfl,O,bo⟩) rfl
end Pal
namespace Pal
open Go Go.Conc Go.Proofs Go.Extern
abbrev Ep(t:Nat):Value:= .pointer (some ⟨1,t,none⟩)
abbrev H8(t:Nat):Value:= .iface 240 (.agg #[Ep t])
section
variable {s:St}{X:Halt→St→Prop}
theorem Uc{Q:Value→St→Prop}(t:Addr):lp Tryz.prog (ReflectliteValue.unpack (.iface 185 (.pointer (some t)))) s Q X=(s.q=false∧∀r,s.E r=none→s.H r=none→Q (.agg #[Ep 185,.pointer (some ⟨r,0,none⟩),.int .u64 150]) (s.upd r (.cells #[.pointer (some t)] 185 (0,0)))):=by kernel_rfl
theorem Ua{Q:Value→St→Prop}(c a:Int):lp Tryz.prog (ReflectliteValue.unpack (.iface 183 (.agg #[iV c,iV a]))) s Q X=(s.q=false∧∀r,s.E r=none→s.H r=none→Q (.agg #[Ep 183,.pointer (some ⟨r,0,none⟩),.int .u64 153]) (s.upd r (.cells #[iV c,iV a] 183 (0,0)))):=by kernel_rfl
theorem Wy{Q:Value→St→Prop}(a:Addr):lp Tryz.prog (ReflectliteValue.methodAny (ReflectliteValue.valueError "reflectlite.Value.Type" 0) (fun t _ _ _=>ReflectliteType.toType t) #[.agg #[Ep 185,.pointer (some a),.int .u64 150]]) s Q X=Q (H8 185) s:=by kernel_rfl
theorem UR{Q:Value→St→Prop}(v:Value):lp Tryz.prog (ReflectliteType.typeOf #[.iface 183 v]) s Q X=Q (H8 183) s:=by kernel_rfl
theorem SU{Q:FuncId×Value→St→Prop}(h:Value):lp Tryz.prog (Go.method (Tryz.prog.types.size+Made.depth) 240 (.agg #[h]) "Kind") s Q X=Q (216,h) s:=by kernel_rfl
theorem Zi{Q:FuncId×Value→St→Prop}(h:Value):lp Tryz.prog (Go.method (Tryz.prog.types.size+Made.depth) 240 (.agg #[h]) "Elem") s Q X=Q (227,.agg #[h]) s:=by kernel_rfl
theorem ZC{Q:FuncId×Value→St→Prop}(h:Value):lp Tryz.prog (Go.method (Tryz.prog.types.size+Made.depth) 240 (.agg #[h]) "Implements") s Q X=Q (228,.agg #[h]) s:=by kernel_rfl
theorem aT{Q:FuncId×Value→St→Prop}(h:Value):lp Tryz.prog (Go.method (Tryz.prog.types.size+Made.depth) 240 (.agg #[h]) "AssignableTo") s Q X=Q (225,.agg #[h]) s:=by kernel_rfl
theorem WW{Q:Value→St→Prop}:lp Tryz.prog ((ReflectliteType.abiMethod fun t=>(fun a:Nat=>Value.int IntKind.u8 (a:Int))<$>Rtype.kind t) #[Ep 185]) s Q X=Q (.int .u8 22) s:=by kernel_rfl
theorem VT{Q:Value→St→Prop}:lp Tryz.prog ((ReflectliteType.abiMethod fun t=>(fun a:Nat=>Value.int IntKind.u8 (a:Int))<$>Rtype.kind t) #[Ep 183]) s Q X=Q (.int .u8 25) s:=by kernel_rfl
theorem Wa{Q:Value→St→Prop}:lp Tryz.prog (ReflectliteType.method ReflectliteType.elem #[.agg #[Ep 185]]) s Q X=Q (H8 183) s:=by kernel_rfl
theorem Wb{Q:Value→St→Prop}:lp Tryz.prog (ReflectliteType.relation "Implements" ReflectliteType.implements_ #[.agg #[Ep 183],H8 149]) s Q X=Q (.bool true) s:=by kernel_rfl
theorem XC{Q:Value→St→Prop}:lp Tryz.prog (ReflectliteType.relation "AssignableTo" ReflectliteType.assignableTo #[.agg #[Ep 183],H8 183]) s Q X=Q (.bool true) s:=by kernel_rfl
theorem QE{Q:Option (TypeId×Addr×Nat)→St→Prop}(a:Addr):lp Tryz.prog (ReflectliteValue.parts (.agg #[Ep 185,.pointer (some a),.int .u64 150])) s Q X=Q (some (185,a,150)) s:=by kernel_rfl
theorem Vo{Q:Option (TypeId×Addr×Nat)→St→Prop}(a:Addr):lp Tryz.prog (ReflectliteValue.parts (.agg #[Ep 183,.pointer (some a),.int .u64 153])) s Q X=Q (some (183,a,153)) s:=by kernel_rfl
theorem UN{Q:Option (TypeId×Addr×Nat)→St→Prop}(a:Addr):lp Tryz.prog (ReflectliteValue.parts (.agg #[Ep 183,.pointer (some a),.int .u64 409])) s Q X=Q (some (183,a,409)) s:=by kernel_rfl
theorem X0{Q:Option TypeId→St→Prop}:lp Tryz.prog (Rtype.elem? 185) s Q X=Q (some 183) s:=by kernel_rfl
theorem an{Q:Value→St→Prop}(p:Addr):lp Tryz.prog (ReflectliteValue.mk 183 p ReflectliteValue.flagAddr) s Q X=Q (.agg #[Ep 183,.pointer (some p),.int .u64 409]) s:=by kernel_rfl
theorem X6{Q:Bool→St→Prop}:lp Tryz.prog (Rtype.directlyAssignable 183 183) s Q X=Q true s:=by kernel_rfl
theorem Ra{Q:Value→St→Prop}(a:Addr):lp Tryz.prog (loadVar 185 a) s Q X=(Mode.plain= .plain∧∃v,s.cell? a=some v∧Q v s):=by kernel_rfl
theorem V3{Q:Value→St→Prop}(a:Addr):lp Tryz.prog (loadVar 183 a) s Q X=(Mode.plain= .plain∧∃v,s.cell? (a.add 0)=some v∧Mode.plain= .plain∧∃w,s.cell? (a.add 1)=some w∧Q (.agg #[v,w]) s):=by kernel_rfl
end
theorem SM:CI Tryz.prog 164 (fun args=>ReflectliteValue.unpack (args.getD 0 (.tuple #[]))):=⟨⟨_,Tryz.func164,by kernel_rfl,by kernel_rfl,by kernel_rfl,by kernel_rfl⟩⟩
theorem ZJ:CI Tryz.prog 165 (ReflectliteValue.methodAny (ReflectliteValue.valueError "reflectlite.Value.Type" 0) (fun t _ _ _=>ReflectliteType.toType t)):=⟨⟨_,Tryz.func165,by kernel_rfl,by kernel_rfl,by kernel_rfl,by kernel_rfl⟩⟩
theorem Zf:CI Tryz.prog 166 (ReflectliteValue.method (ReflectliteValue.valueError "reflectlite.Value.IsNil" 0) ReflectliteValue.isNil):=⟨⟨_,Tryz.func166,by kernel_rfl,by kernel_rfl,by kernel_rfl,by kernel_rfl⟩⟩
theorem ZB:CI Tryz.prog 188 ReflectliteType.typeOf:=⟨⟨_,Tryz.func188,by kernel_rfl,by kernel_rfl,by kernel_rfl,by kernel_rfl⟩⟩
theorem ZG:CI Tryz.prog 189 (ReflectliteValue.method (ReflectliteValue.valueError "reflectlite.Value.Elem" 0) ReflectliteValue.elem):=⟨⟨_,Tryz.func189,by kernel_rfl,by kernel_rfl,by kernel_rfl,by kernel_rfl⟩⟩
theorem YQ:CI Tryz.prog 190 ReflectliteValue.set:=⟨⟨_,Tryz.func190,by kernel_rfl,by kernel_rfl,by kernel_rfl,by kernel_rfl⟩⟩
theorem S9:CI Tryz.prog 216 (ReflectliteType.abiMethod fun t=>(fun a:Nat=>Value.int IntKind.u8 (a:Int))<$>Rtype.kind t):=⟨⟨_,Tryz.func216,by kernel_rfl,by kernel_rfl,by kernel_rfl,by kernel_rfl⟩⟩
theorem Zw:CI Tryz.prog 225 (ReflectliteType.relation "AssignableTo" ReflectliteType.assignableTo):=⟨⟨_,Tryz.func225,by kernel_rfl,by kernel_rfl,by kernel_rfl,by kernel_rfl⟩⟩
theorem Y7:CI Tryz.prog 227 (ReflectliteType.method ReflectliteType.elem):=⟨⟨_,Tryz.func227,by kernel_rfl,by kernel_rfl,by kernel_rfl,by kernel_rfl⟩⟩
theorem Z9:CI Tryz.prog 228 (ReflectliteType.relation "Implements" ReflectliteType.implements_):=⟨⟨_,Tryz.func228,by kernel_rfl,by kernel_rfl,by kernel_rfl,by kernel_rfl⟩⟩
end Pal
namespace Pal
open Go Go.Conc
section
variable {P:Program}{J:Judge P}{Q:Goroutine→St→Prop}{b:Frame}{n:Nat}{ds:List Deferred}{ops:Array Oper}{k:List Item}{cs:List Frame}{m fuel:Nat}{D:Nat→Bool}{listed:Array Bool}{L:Env}{s:St}{E E' H:LH}{S:List Seg}
variable {d:Option Tmp}{x y:Operand}{t u ty e:TypeId}{p:String}{af:Array Edge}{g:Option (Nat×Bool)}{v:Value}{i:Nat}{kd:IntKind}
end
end Pal
namespace Pal
open Go Go.Conc
section
variable {P:Program}{J:Judge P}{Q:Goroutine→St→Prop}{b:Frame}{n:Nat}{L:Env}{ds:List Deferred}{k:List Item}{cs:List Frame}{s:St}{ops:Array Oper}{i:Nat}{rest:List Nat}{v:Value}
variable {d:Option Tmp}{x:Operand}{ty:TypeId}{p:String}{af:Array Edge}{g:Option (Nat×Bool)}
theorem QQ{f:FuncId}{e:Array Value→Sem Value}{args:Array Value}{Q:Next→St→Prop}{X:Halt→St→Prop}(he:CI P f e)(h:lp P (e args) s (fun v s'=>Q (.value v) s') X):lp P (callFunc f args) s Q X:=by
 obtain⟨fn,K,O,U,V,Y⟩:=he.h;unfold callFunc;simp only [bind,Sem.bind,program,lp,K,O,U,Bool.false_eq_true,if_false,if_true,mark,V,Y];refine⟨.inr ⟨f,rfl⟩,?_⟩;exact AH _ _ (Ds _ h (fun v s' Z=>Z) (fun _ _ ag=>ag))
theorem I9{f:FuncId}{e:Array Value→Sem Value}{args:Array Operand}{ats:Array TypeId}{vs:List Value}(he:CI P f e)(O:ops[i]? =some ⟨d,.call ⟨.value (.func f),args,ats⟩,ty,p,af,g⟩)(hw:Bh L ops ⟨d,.call ⟨.value (.func f),args,ats⟩,ty,p,af,g⟩=some true)(U:CX b n ⟨d,.call ⟨.value (.func f),args,ats⟩,ty,p,af,g⟩=true)(V:evs L args.toList=some vs)
  (h:lp P (e vs.toArray) s (fun v s'=>JL J Q b n (AF L d v) ds (.inRegion ops rest::k) cs s') (fun _ _=>False)):JL J Q b n L ds (.inRegion ops (i::rest)::k) cs s:=by
 refine JL.op O hw U fun ρ K=>?_;have Y:args.map ρ=vs.toArray:=by
  rw [← FX K V];apply Array.ext';simp
 have Z:ρ (.func f)= .func (.func f) #[] #[]:=K _ _ rfl;simp only [execOp,resolve,bind,Sem.bind,Deferred.ofValue,Z,pure,invoke];have ag: #[]++args.map ρ++ #[]=vs.toArray:=by rw [Y];simp
 rw [ag];exact QQ he h
theorem Lr{t:TypeId}{K O:Value}{name:String}{f:FuncId}{e:Array Value→Sem Value}{args:Array Operand}{ats:Array TypeId}{vs:List Value}(he:CI P f e)(hm:∀{s:St} {X:Halt→St→Prop} {Q:FuncId×Value→St→Prop},lp P (Go.method (P.types.size+Made.depth) t K name) s Q X=Q (f,O) s)
  (V:ops[i]? =some ⟨d,.call ⟨.invoke x name,args,ats⟩,ty,p,af,g⟩) (hw:Bh L ops ⟨d,.call ⟨.invoke x name,args,ats⟩,ty,p,af,g⟩=some true) (Y:CX b n ⟨d,.call ⟨.invoke x name,args,ats⟩,ty,p,af,g⟩=true) (Z:ev L x=some (.iface t K)) (ag:evs L args.toList=some vs)
  (h:lp P (e (O::vs).toArray) s (fun v s'=>JL J Q b n (AF L d v) ds (.inRegion ops rest::k) cs s') (fun _ _=>False)):JL J Q b n L ds (.inRegion ops (i::rest)::k) cs s:=by
 refine JL.op V hw Y fun ρ U=>?_;have al:args.map ρ=vs.toArray:=by
  rw [← FX U ag];apply Array.ext';simp
 have am:ρ x= .iface t K:=U _ _ Z;simp only [execOp,resolve,bind,Sem.bind,pure,invoke,am,al];have ap:(#[Value.iface t K]++vs.toArray)[0]? =some (.iface t K):=by simp
 have av:(#[Value.iface t K]++vs.toArray).extract 1 (#[Value.iface t K]++vs.toArray).size=vs.toArray:=by
  apply Array.ext';simp
 simp only [ap,av,callMethod,bind,Sem.bind,program,lp];refine AH _ _ ?_;rw [hm];have a0: #[O]++vs.toArray=(O::vs).toArray:=by apply Array.ext';simp
 rw [a0];exact QQ he h
end
end Pal
namespace Pal
open Go Go.Conc Go.Proofs
open Go.Proofs.Tryz
variable {J:Judge Tryz.prog}{E:LH}
def f135(fuel:Nat):Option Bool:= some false
theorem aj{O:Value}{fuel:Nat}{r:Bool}(K:f135 fuel=some r):AM J 135 [.nilIface,O] E [] (fun w E' B'=>w= .bool r∧B'= []):=by
 refine A4 func135 fun Q Y cs H U V=>?_;unfold f135 at K;refine zg 8 rfl ?_;refine AE (v:= .bool true) rfl (fun ρ h=>QT underlying149 (show H9 0 .nilIface none from rfl) (h _ _ rfl) (h _ _ rfl)) (zg 6 rfl ?_);obtain rfl:=oi K;exact AA func135 rfl rfl (V Ar rfl ⟨rfl,rfl⟩ U)
def f112(fuel:Nat):Option Int:= (f135 fuel).bind fun K=> if K=true then(some 0) else(some 0)
theorem Y1{fuel:Nat}{r:Int}(O:f112 fuel=some r):AM J 112 [.nilIface] E [] (fun w E' B'=>w=iV r∧B'= []):=by
 refine A4 func112 fun Q a3 cs H Y U=>?_;unfold f112 at O;refine zg 6 rfl (CU Y FJ fun Z ag=>?_);refine zg 5 rfl (AE (v:=(.iface 185 (pV Z 0))) rfl (fun ρ h=>Fa underlying185 (fun _ h=>by cases h) (h _ _ rfl)) ?_);obtain⟨a4,al,am⟩:=bs O;refine BF (aj al) rfl rfl (AR func135 rfl) ag fun a5 V K=>JL.done (BJ am (fun ap av=>?_) (fun ap a0=>?_))
 ·refine zg 2 rfl (BM underlying183 (Bw type39) rfl rfl rfl ?_);refine AE (v:=iV 0) rfl (fun ρ h=>Yl.load (DM underlying39) (h _ _ rfl) (DX (j:=1) (off:=0) K rfl rfl)) (zg 2 rfl ?_);refine JS.drop 1 K rfl fun a1=>?_;obtain rfl:=oi av;exact AA func112 rfl rfl (U V rfl ⟨rfl,rfl⟩ a1)
 ·refine zg 5 rfl (JS.drop 1 K rfl fun a2=>?_);obtain rfl:=oi a0;exact AA func112 rfl rfl (U V rfl ⟨rfl,rfl⟩ a2)
def Li(fuel:Nat)(p0:Option (Int×Int)):Option Int:=match p0 with
 | none=>f112 fuel
 | some _=>none
end Pal
namespace Pal
open Go Go.Conc Go.Proofs Go.Extern
def Pa(b:Frame)(n:Nat):Nat→List Item→Env→List Item×Env
 | 0,k,L=>(k,L)
 | m+1,k,L=>match NH b n L k with
  | some (k',L')=>Pa b n m k' L'
  | none=>(k,L)
theorem zm{P:Program}{J:Judge P}{Q:Goroutine→St→Prop}{b:Frame}{n:Nat}{ds:List Deferred}{cs:List Frame}{s:St}:∀(m:Nat) {L L':Env} {k k':List Item},Pa b n m k L=(k',L')→JL J Q b n L' ds k' cs s→JL J Q b n L ds k cs s
 | 0,L,L',k,k',h,K=>by cases h;exact K
 | m+1,L,L',k,k',h,K=>by
  unfold Pa at h
  split at h
  ·rename_i e;exact SH e (zm m h K)
  ·cases h;exact K
theorem Ru{E H:LH}{S:List Seg}{r:Nat}{o:Obj}(K:Ay E H S)(O:(Ao E H S).E r=none)(U:(Ao E H S).H r=none):Ay E H (S++ [[(r,o)]])∧(Ao E H S).upd r o=Ao E H (S++ [[(r,o)]]):=by
 obtain⟨a,b⟩:=IX O U o K;obtain⟨c,d⟩:=EE a;exact⟨d,b.trans c⟩
theorem ZE{s:St}{X:Halt→St→Prop}{Q:Value→St→Prop}{o:Operand}(p:Addr):lp Tryz.prog (do eqGuard .eql 20 o (.const .nilIface) (.iface 185 (.pointer (some p))) .nilIface;binOp .eql 20 (.iface 185 (.pointer (some p))) .nilIface) s Q X=Q (.bool false) s:=by kernel_rfl
theorem WQ{s:St}{ρ:Operand→Value}{d:Option Tmp}{x:Operand}{u ty:TypeId}{p:String}{af:Array Edge}{g:Option (Nat×Bool)}{a:Addr}(K:ρ x= .iface 185 (.pointer (some a)))(O:ρ (.const .nilIface)= .nilIface):Yl Tryz.prog ⟨d,.binOp .eql 20 x (.const .nilIface) u,ty,p,af,g⟩ ρ s (.bool false):=by
 refine Fq (sm:=do eqGuard .eql 20 x (.const .nilIface) (ρ x) (ρ (.const .nilIface));binOp .eql 20 (ρ x) (ρ (.const .nilIface))) rfl ?_
 rw [K,O];exact(ZE a).mpr ⟨rfl,rfl⟩
theorem TQ(z:Sem Value)(f:TypeId→Addr→Nat→Nat→Sem Value)(v:Value):ReflectliteValue.method z f #[v]=Sem.bind (ReflectliteValue.parts v) (fun x=>match x with | none=>z | some (t,a,fl)=>f t a fl (fl % 32)):=rfl
theorem Vi{s:St}{X:Halt→St→Prop}{Q:Value→St→Prop}(a p:Addr)(K:s.cell? a=some (.pointer (some p)))(h:Q (.bool false) s):lp Tryz.prog (ReflectliteValue.method (ReflectliteValue.valueError "reflectlite.Value.IsNil" 0) ReflectliteValue.isNil #[.agg #[Ep 185,.pointer (some a),.int .u64 150]]) s Q X:=by
 rw [TQ];refine AH (x:=ReflectliteValue.parts _) _ ((QE a).mpr ?_);show lp Tryz.prog (Sem.bind (loadVar 185 a) _) s Q X;exact AH (x:=loadVar 185 a) _ ((Ra a).mpr ⟨rfl,_,K,h⟩)
theorem VA{s:St}{X:Halt→St→Prop}{Q:Value→St→Prop}(a p:Addr)(K:s.cell? a=some (.pointer (some p)))(h:Q (.agg #[Ep 183,.pointer (some p),.int .u64 409]) s):lp Tryz.prog (ReflectliteValue.method (ReflectliteValue.valueError "reflectlite.Value.Elem" 0) ReflectliteValue.elem #[.agg #[Ep 185,.pointer (some a),.int .u64 150]]) s Q X:=by
 rw [TQ];refine AH (x:=ReflectliteValue.parts _) _ ((QE a).mpr ?_);show lp Tryz.prog (Sem.bind (loadVar 185 a) _) s Q X;refine AH (x:=loadVar 185 a) _ ((Ra a).mpr ⟨rfl,_,K,?_⟩);refine AH (x:=Rtype.elem? 185) _ (X0.mpr ?_);exact(an p).mpr h
theorem br(v x:Value):ReflectliteValue.set #[v,x]=(do
  let (some (dst,a,fl),some (src,b,_)):=(← ReflectliteValue.parts v,← ReflectliteValue.parts x)
   | unsupported (.noEntry "extern/(internal/reflectlite.Value).Set.zeroValue")
  if fl / ReflectliteValue.flagAddr % 2==0 then unsupported (.noEntry "extern/(internal/reflectlite.Value).Set.unaddressable")
  let val ← loadVar src b
  if ← Rtype.directlyAssignable dst src then storeVar dst a val
  else if ← Rtype.implements dst src then
   if(← Rtype.kind src)==20 then
    match val with
    | .nilIface=>unsupported (.noEntry "extern/reflectlite: a nil value of one interface type handed on as a value of another")
    | _=>storeVar dst a val
   else storeVar dst a (.iface src val)
  else panicString ("reflectlite.Set: value of type " ++(← Rtype.spelt src)++ " is not assignable to type " ++(← Rtype.spelt dst))
  pure (.tuple #[])):=rfl
theorem X4{E H:LH}{S:List Seg}{X:Halt→St→Prop}{Q:Value→St→Prop}{bk r:Nat}{u w:Value}{c a:Int}(j:Nat)(V:Ay E H S)(K:S[j]? =some [(bk,.cells #[u,w] 183 (0,0))])(O:At E r 0 [iV c,iV a])(h:Ay E H (S.set j [(bk,.cells #[iV c,iV a] 183 (0,0))])→Q (.tuple #[]) (Ao E H (S.set j [(bk,.cells #[iV c,iV a] 183 (0,0))]))):
  lp Tryz.prog (ReflectliteValue.set #[.agg #[Ep 183,.pointer (some ⟨bk,0,none⟩),.int .u64 409],.agg #[Ep 183,.pointer (some ⟨r,0,none⟩),.int .u64 153]]) (Ao E H S) Q X:=by
 rw [br];refine AH (x:=ReflectliteValue.parts _) _ ((UN _).mpr ?_);refine AH (x:=ReflectliteValue.parts _) _ ((Vo _).mpr ?_);refine AH (x:=loadVar 183 _) _ ((V3 _).mpr ⟨rfl,_,At.J8 (j:=0) O rfl,rfl,_,At.J8 (j:=1) O rfl,?_⟩);refine AH (x:=Rtype.directlyAssignable 183 183) _ (X6.mpr ?_);refine AH (x:=storeVar 183 _ _) _ ?_;obtain⟨Y,Z⟩:=Gi V K;rw [Y];refine Oj (pl:=(S.set j []).flatten.length) (Bw Tryz.type183) (by simp [Value.cells,CV]) Z (c:= #[u,w]) (e:=183) (by simp) (by simp [Value.cells]) fun U=>?_;have ag:((S.set j []).flatten++ [(bk,Obj.cells #[u,w] 183 (0,0))]).set (S.set j []).flatten.length (bk,.cells (A1 #[u,w] 0 (Value.agg #[iV c,iV a]).cells.toList) 183 (0,0))=(S.set j []).flatten++ [(bk,.cells #[iV c,iV a] 183 (0,0))]:=HS _ _ _ _;rw [ag] at U ⊢;obtain⟨al,am⟩:=Hu (seg':= [(bk,.cells #[iV c,iV a] 183 (0,0))]) K U;rw [al];exact h am
variable {J:Judge Tryz.prog}{E:LH}
theorem aG{c a:Int}{bk r:Nat}{u w:Value}(O:At E r 0 [.pointer (some ⟨bk,0,none⟩)]):AM J 167 [.iface 183 (.agg #[iV c,iV a]),.iface 185 (.pointer (some ⟨bk,0,none⟩)),.agg #[Ep 185,.pointer (some ⟨r,0,none⟩),.int .u64 150],H8 183] E [(bk,.cells #[u,w] 183 (0,0))] (fun v E' B'=>v= .bool true∧B'= [(bk,.cells #[iV c,iV a] 183 (0,0))]):=by
 refine J2 Tryz.func167 rfl rfl fun Q a4 cs H U V=>zm 60 rfl (JS.box (v:= .agg #[Ep 185,.pointer (some ⟨r,0,none⟩),.int .u64 150]) rfl rfl rfl U rfl fun a5 Y=>?_);refine C3 1 Y rfl fun a6 K Z ag=>zm 60 rfl (IS ?_);refine zm 60 rfl (I9 ZB rfl rfl rfl rfl ?_);refine(UR _).mpr ?_;refine zm 60 rfl (Lr Zw (aT _) rfl rfl rfl rfl rfl ?_);refine XC.mpr (zm 60 rfl ?_);refine BQ Z LV Kp rfl rfl (I9 ZG rfl rfl rfl rfl ?_);refine VA ⟨r,0,none⟩ ⟨bk,0,none⟩ (At.J8 (j:=0) (O.Ah K) rfl) (zm 60 rfl ?_);refine I9 SM rfl rfl rfl rfl ?_;refine(Ua c a).mpr ⟨rfl,fun a7 al am=>?_⟩;obtain⟨ap,av⟩:=Ru (o:= .cells #[iV c,iV a] 183 (0,0)) ag al am;rw [av];refine C3 2 ap rfl fun a8 a0 a1 a2=>I9 YQ rfl rfl rfl rfl (X4 0 a2 rfl a1 fun a3=>?_);refine zm 60 rfl (AA Tryz.func167 rfl rfl ?_);exact V _ _ _ _ (K.trans a0) rfl ⟨rfl,rfl⟩ a3
theorem Z4{c a:Int}{bk:Nat}{u w:Value}(Y:At E 0 0 [H8 149]):AM J 135 [.iface 183 (.agg #[iV c,iV a]),.iface 185 (.pointer (some ⟨bk,0,none⟩))] E [(bk,.cells #[u,w] 183 (0,0))] (fun v E' B'=>v= .bool true∧B'= [(bk,.cells #[iV c,iV a] 183 (0,0))]):=by
 refine J2 Tryz.func135 rfl rfl fun Q a6 cs H Z ag=>zm 60 rfl ?_;refine AE (v:= .bool false) rfl (fun ρ h=>QT Tryz.underlying149 (show H9 183 (.iface 183 (.agg #[iV c,iV a])) (some (c,a)) from rfl) (h _ _ rfl) (h _ _ rfl)) (zm 60 rfl ?_);refine AE rfl (fun ρ h=>WQ (h _ _ rfl) (h _ _ rfl)) (zm 60 rfl ?_);refine I9 SM rfl rfl rfl rfl ?_;refine(Uc _).mpr ⟨rfl,fun r al am=>?_⟩;obtain⟨ap,av⟩:=Ru (o:= .cells #[.pointer (some ⟨bk,0,none⟩)] 185 (0,0)) Z al am;rw [av];refine JS.alloc rfl rfl rfl ap (Dw Tryz.type210) fun a7 a0=>Pp (v:= .agg #[Ep 185,.pointer (some ⟨r,0,none⟩),.int .u64 150]) (off:=0) 2 a0 Kp rfl rfl rfl rfl fun a1=>zm 60 rfl (C3 1 a1 rfl fun a8 U V a2=>?_);refine C3 2 a2 rfl fun a9 K O a3=>BQ O LV Kp rfl rfl (I9 ZJ rfl rfl rfl rfl ?_);refine(Wy _).mpr ?_;refine zm 60 rfl (Lr S9 (SU _) rfl rfl rfl rfl rfl ?_);refine WW.mpr (zm 60 rfl ?_);refine BQ (O) LV Kp rfl rfl (I9 Zf rfl rfl rfl rfl ?_);refine Vi ⟨r,0,none⟩ ⟨bk,0,none⟩ (At.J8 (j:=0) (V.Ah K) rfl) (zm 60 rfl ?_);refine Lr Y7 (Zi _) rfl rfl rfl rfl rfl (Wa.mpr ?_);refine zm 60 rfl (Lr S9 (SU _) rfl rfl rfl rfl rfl ?_);refine VT.mpr (zm 60 rfl ?_);refine BH 0 (Y.Ah (U.trans K)) (DM Tryz.underlying213) rfl rfl rfl (Lr Z9 (ZC _) rfl rfl rfl rfl rfl ?_);refine Wb.mpr (zm 60 rfl ?_);refine AE (v:= .bool (!true)) rfl (fun ρ h=>Yl.not (h _ _ rfl)) (zm 60 rfl ?_);refine BQ (O) LV Kp rfl rfl (zm 60 rfl ?_);refine B9 0 (aG (V.Ah K)) rfl rfl (AR Tryz.func167 rfl) a3 rfl ?_;rintro _ bb _ a4 ⟨rfl,rfl⟩ a5;refine zm 60 rfl (AA Tryz.func135 rfl rfl ?_);exact ag _ _ _ _ ((U.trans K).trans a4) rfl ⟨rfl,rfl⟩ a5
theorem VX{c a:Int}(K:At E 0 0 [H8 149]):AM J 112 [.iface 183 (.agg #[iV c,iV a])] E [] (fun v E' B'=>v=iV c∧B'= []):=by
 refine J2 Tryz.func112 rfl rfl fun Q ap cs H O U=>zm 60 rfl (JS.alloc rfl rfl rfl O FJ fun av V=>?_);refine zm 60 rfl (AE rfl (fun ρ h=>Fa Tryz.underlying185 (fun ms e=>by cases e) (h _ _ rfl)) ?_);refine B9 1 (Z4 (u:=iV 0) (w:=iV 0) K) rfl rfl (AR Tryz.func135 rfl) V rfl ?_;rintro _ a0 _ Y ⟨rfl,rfl⟩ Z;refine C3 1 Z rfl fun a1 ag al am=>zm 60 rfl (BM Tryz.underlying183 (Bw Tryz.type39) rfl rfl rfl ?_);refine BH 0 al (DM Tryz.underlying39) rfl rfl rfl (zm 60 rfl ?_);exact AA Tryz.func112 rfl rfl (U _ _ _ _ (Y.trans ag) rfl ⟨rfl,rfl⟩ am)
abbrev GE(E:LH):Prop:=At E 0 0 [H8 149]
def Ll(fuel:Nat)(p0:Option (Int×Int)):Option Int:=match p0 with
 | none=>f112 fuel
 | some q=>some q.1
theorem OR{v:Value}{p0:Option (Int×Int)}(O:GE E)(h:H9 183 v p0){fuel:Nat}{r:Int}(K:Ll fuel p0=some r):AM J 112 [v] E [] (fun w E' B'=>w=iV r∧B'= []):=by
 match p0,h with
 | none,h=>obtain rfl:v= .nilIface:=h;exact Y1 K
 | some (c,a),h=>
  obtain rfl:v= .iface 183 (.agg #[iV c,iV a]):=h;cases K;exact VX O
end Pal
namespace Pal
open Go Go.Conc Go.Proofs Go.ChangeShapes Go.WideShapes Go.ChangeAt Go.RowKit
open Go.Proofs.YtboibffcmhheiaaGreatDoor
section
variable {H:Type}{enc:TypeId×Value→H}{W:World}{fuel:Nat}{cs:List Value}{x:DataW H×List MemPlace}
theorem Tryz.Yr:Tryz.prog.cellsOf 28=1:=by kernel_rfl
theorem Tryz.W0:Tryz.prog.cellsOf 22=1:=by kernel_rfl
theorem Tryz.Xp:Tryz.prog.cellsOf 24=2:=by kernel_rfl
theorem IQ(a:Addr):a.add 0=a:=by unfold Addr.add;rw [if_pos rfl]
theorem Q6(Y:DataW.trod enc Tryz.prog W 0 (fun _=>true) true fuel 28 cs=some x):∃(a:Option Addr) (c:Nat) (K:List Int),cs= [.slice a K.length c]∧Am rI (Ej W).E a c K:=by
 rcases open_ints Tryz.underlying28 Tryz.underlying3 Pal.Tryz.SA Y with⟨O,Z⟩ | ⟨a,len,cap,K,O,_,ag,hm,al,Z,U,hw⟩
 ·exact⟨none,0,[],O,Am.nil⟩
 ·simp only [if_true] at al;rcases Nat.eq_zero_or_pos cap with V | V
  ·have:len=0:=by omega
   subst this;subst V;exact⟨some a,0,[],O,Nat.le_refl _,.inl ⟨rfl,fun _ _=> .inr rfl⟩⟩
  ·have am:a.spot=none:=by
    have:=World.cell?_spot (U 0 (by omega))
    rwa [IQ] at this
   obtain⟨ap,g2⟩:=WC am ag (by omega) U;exact⟨some a,cap,K.take len,by rw [g2];exact O,ap⟩
theorem Rh{b off:Nat}{v:Value}(h:W.cell? ⟨b,off,none⟩=some v):At (Ej W).E b off [v]:=by
 unfold World.cell? at h;split at h
 ·rename_i c e f hW;simp only [Option.isSome_none,Bool.false_eq_true,if_false] at h;refine⟨c,e,f,hW,fun j w K=>?_⟩
  match j,K with
  | 0,K=>simp at K;subst K;simpa using h
  | j+1,K=>simp at K
 ·cases h
theorem Q8(a4:DataW.trod enc Tryz.prog W 0 (fun _=>true) true fuel 22 cs=some x):∃(a:Option Addr) (c:Nat) (U:List (List Int)),cs= [.slice a U.length c]∧Am (rL rI) (Ej W).E a c U:=by
 rcases DataW.trod_slice Tryz.underlying22 a4 with⟨am,a5⟩ | ⟨a,len,cap,elems,rest,n,_,am,a5,_,a6,_,hlen,ap,av,_⟩
 ·exact⟨none,0,[],am,Am.nil⟩
 ·rw [Tryz.Yr] at ap av;simp only [Nat.mul_one] at ap av;rcases Nat.eq_zero_or_pos cap with a1 | a1
  ·have:len=0:=by omega
   subst this;subst a1;exact⟨some a,0,[],am,Nat.le_refl _,.inl ⟨rfl,fun _ _=> .inr rfl⟩⟩
  ·have a2:∀i,i<len→∃v y,W.cell? (a.add i)=some v∧DataW.trod enc Tryz.prog W 0 (fun _=>true) true n 28 [v]=some y:=fun i hi=>by
    have K:=ap i hi;rw [List.getElem?_eq_getElem (by omega)] at K;obtain⟨vs,O,ag⟩:=Option.bind_eq_some_iff.1 K;obtain⟨_,V,al⟩:=World.cells?_some O
    match vs,V with
    | [v],_=>
     have:=al 0 (by omega);refine⟨v,_,?_,ag⟩;have e:(a.add i).add 0=a.add i:=IQ _;rw [e] at this;simpa using this
   have hs:a.spot=none:=by
    rcases Nat.eq_zero_or_pos len with K | K
    ·obtain⟨O,ag⟩:=av trivial;have V:=ag 0 (by omega);rw [List.getElem?_eq_getElem (by omega)] at V;obtain⟨vs,al,_⟩:=Option.bind_eq_some_iff.1 V;obtain⟨_,a7,a8⟩:=World.cells?_some al
     match vs,a7 with
     | [v],_=>
      have:=a8 0 (by omega);rw [K] at this;rw [IQ,Nat.add_zero,IQ] at this;exact World.cell?_spot this
    ·obtain⟨v,y,O,_⟩:=a2 0 K;rw [IQ] at O;exact World.cell?_spot O
   have a3:∀i:Fin len,∃U:List Int,∃(Y:Option Addr) (Z:Nat),W.cell? (a.add i)=some (.slice Y U.length Z)∧Am rI (Ej W).E Y Z U:=fun i=>by
    obtain⟨v,y,O,ag⟩:=a2 i i.2;obtain⟨Y,Z,U,V,al⟩:=Q6 ag;simp only [List.cons.injEq,and_true] at V;subst V;exact⟨U,Y,Z,O,al⟩
   refine⟨some a,cap,List.ofFn fun i=>Classical.choose (a3 i),by simpa using am,by simpa using a6,.inr ⟨a.block,a.off,?_,fun i z a0=>?_⟩⟩
   ·obtain⟨b,o,s⟩:=a;simp only at hs;subst hs;rfl
   ·have hi:i<len:=by have:=(List.getElem?_eq_some_iff.1 a0).1;simpa using this
    simp [hi] at a0;obtain⟨Y,Z,K,O⟩:=Classical.choose_spec (a3 ⟨i,hi⟩);rw [a0] at K O;simp only at K;rw [DN hs] at K;refine⟨[.slice Y z.length Z],⟨Y,Z,rfl,O⟩,?_⟩;have e:a.off+i*(rL rI).n=a.off+i:=by show a.off+i*1=_;omega
    rw [e];exact Rh K
theorem Xc{v:Value}{ag:Nat}{d:DataW H}{p:List MemPlace}(al:Value.okWide Tryz.prog W .any ag 24 v)(am:DataW.Trod enc Tryz.prog W 0 (fun _=>true) true 24 v d p):
  ∃(K:Option Addr) (O:Nat) (U:Option Addr) (c2:Nat) (J:List (List Int)×List (List Int)),v= .agg #[.slice K J.1.length O,.slice U J.2.length c2]∧Am (rL rI) (Ej W).E K O J.1∧Am (rL rI) (Ej W).E U c2 J.2:=by
 obtain⟨cs,rfl,Z⟩:=okWide_struct Tryz.underlying24 al;obtain⟨fuel,ap⟩:=am;obtain⟨a3,a4,n,_,a5,av,a0⟩:=trod_struct2 Tryz.underlying24 ap;obtain⟨K,O,z1,V,a1⟩:=Q8 av;obtain⟨U,c2,a2,Y,g2⟩:=Q8 a0;refine⟨K,O,U,c2,(z1,a2),?_,a1,g2⟩;rw [Tryz.W0] at V Y;rw [Tryz.Xp] at Z;simp only [Value.cells,List.drop_zero] at V Y;obtain⟨l⟩:=cs
 match l,Z with
 | [u,w],_=>
  simp at V Y;rw [V,Y]
theorem WO{v:Value}{O:Nat}{d:DataW H}{p:List MemPlace}(U:Value.okWide Tryz.prog W .any O 28 v)(V:DataW.Trod enc Tryz.prog W 0 (fun _=>true) true 28 v d p):
  ∃(a:Option Addr) (c:Nat) (K:List Int),v= .slice a K.length c∧Am rI (Ej W).E a c K:=by
 obtain⟨Z,len,cap,rfl⟩:=okWide_slice Tryz.underlying28 U;obtain⟨fuel,Y⟩:=V;obtain⟨a,c,K,e,g⟩:=Q6 Y;simp [Value.cells] at e;obtain⟨rfl,rfl,rfl⟩:=e;exact⟨_,_,_,rfl,g⟩
end
theorem Tryz.W7:Tryz.prog.globalNamed "errors.errorType" =some 0:=by kernel_rfl
theorem Tryz.YX:(Tryz.prog.cutTypes.find? (·.1== "internal/reflectlite.rtype")).map (·.2)=some 240:=by kernel_rfl
theorem Tryz.XT:Tryz.prog.globals.size=1:=by kernel_rfl
theorem Tryz.YC:(List.range Tryz.prog.types.size).all (fun t=> !Tryz.prog.rowNamed t [101,114,114,111,114] || t==149)=true:=by kernel_rfl
theorem Xv{W:World}(h:laidMetH Tryz.prog [("errors.errorType",Rows.laid_errors_errorType)] W.memory):GE (Ej W).E:=by
 have U:=h.2 _ (List.mem_cons_self ..);obtain⟨name,u,ty,V,Y,Z,ag,K⟩:=U;have al:name= [101,114,114,111,114]:=(Option.some.inj V).symm;have am:u=240:=Option.some.inj (Y.symm.trans Tryz.YX);subst al;subst am;have ap:ty=149:=by
  have:=List.all_eq_true.1 Tryz.YC ty (List.mem_range.2 Z);rw [ag] at this;simpa using this
 subst ap;unfold World.var? at K;rw [Tryz.W7] at K;simp only [Option.bind_some] at K;split at K
 ·rename_i c e f hW;simp only [Option.some.injEq] at K;subst K;refine⟨_,e,f,hW,fun j w O=>?_⟩;have av:typeHandle Tryz.prog 149= .pointer (some ⟨1,149,none⟩):=by unfold typeHandle;rw [Tryz.XT]
  rw [av]
  match j,O with
  | 0,O=>simp at O;subst O;rfl
  | j+1,O=>simp at O
 ·cases K
end Pal
namespace Pal
open Go Go.Conc Go.Proofs Go.ChangeShapes Go.WideShapes Go.ChangeAt Go.RowKit
open Go.Proofs.YtboibffcmhheiaaGreatDoor
section
variable {H:Type}{enc:TypeId×Value→H}{W:World}{fuel:Nat}{cs:List Value}{x:DataW H×List MemPlace}
theorem Tryz.Rx:Tryz.prog.cellsOf 27=2:=by kernel_rfl
theorem Vl{b off:Nat}(O:0<cs.length)(h:∀j,j<cs.length→W.cell? ⟨b,off+j,none⟩=cs[j]?):At (Ej W).E b off cs:=by
 have U:=h 0 O;rw [List.getElem?_eq_getElem O] at U;obtain⟨f,e,fr,V,_⟩:=Rh U;have hW:W.heap[b]? =some (.cells f e fr):=V;refine⟨f,e,fr,V,fun j w Y=>?_⟩;have Z:=(List.getElem?_eq_some_iff.1 Y).1;have K:=h j Z;rw [Y] at K;unfold World.cell? at K;simp only [hW] at K;simpa using K
theorem Zp{α:Type}{p:Rp α}{t e:TypeId}(ht:Tryz.prog.underlying t=some (.slice e))(a4:Tryz.prog.cellsOf e=p.n)(a5:0<p.n)
  (a6:∀n cs x,DataW.trod enc Tryz.prog W 0 (fun _=>true) true n e cs=some x→∃v,p.r (Ej W).E cs v)
  (a7:DataW.trod enc Tryz.prog W 0 (fun _=>true) true fuel t cs=some x):∃(a:Option Addr) (c:Nat) (ap:List α),cs= [.slice a ap.length c]∧Am p (Ej W).E a c ap:=by
 rcases DataW.trod_slice ht a7 with⟨Z,a8⟩ | ⟨a,len,cap,elems,rest,n,_,Z,a8,_,a9,_,hlen,av,a0,_⟩
 ·exact⟨none,0,[],Z,Am.nil⟩
 ·rw [a4] at av a0;rcases Nat.eq_zero_or_pos cap with a1 | a1
  ·have:len=0:=by omega
   subst this;subst a1;exact⟨some a,0,[],Z,Nat.le_refl _,.inl ⟨rfl,fun _ _=> .inr rfl⟩⟩
  ·have a2:∀i,i<len→∃vs y,vs.length=p.n∧(∀j,j<p.n→W.cell? ((a.add (i*p.n)).add j)=vs[j]?)∧DataW.trod enc Tryz.prog W 0 (fun _=>true) true n e vs=some y:=fun i hi=>by
    have K:=av i hi;rw [List.getElem?_eq_getElem (by omega)] at K;obtain⟨vs,al,V⟩:=Option.bind_eq_some_iff.1 K;obtain⟨_,O,am⟩:=World.cells?_some al;exact⟨vs,_,O,am,V⟩
   have hs:a.spot=none:=by
    have key:∀vs:List Value,vs.length=p.n→(∀j,j<p.n→W.cell? ((a.add (0*p.n)).add j)=vs[j]?)→a.spot=none:=fun vs ag U=>by
     have:=U 0 a5;rw [List.getElem?_eq_getElem (by omega),IQ,Nat.zero_mul,IQ] at this;exact World.cell?_spot this
    rcases Nat.eq_zero_or_pos len with K | K
    ·obtain⟨al,V⟩:=a0 rfl;have O:=V 0 (by omega);rw [List.getElem?_eq_getElem (by omega)] at O;obtain⟨vs,am,_⟩:=Option.bind_eq_some_iff.1 O;obtain⟨_,ag,U⟩:=World.cells?_some am;rw [K] at U;exact key vs ag U
    ·obtain⟨vs,y,ag,U,_⟩:=a2 0 K;exact key vs ag U
   have a3:∀i:Fin len,∃z:α,∃vs,p.r (Ej W).E vs z∧At (Ej W).E a.block (a.off+i*p.n) vs:=fun i=>by
    obtain⟨vs,y,al,V,O⟩:=a2 i i.2;obtain⟨z,Y⟩:=a6 _ _ _ O;refine⟨z,vs,Y,Vl (by omega) fun j bb=>?_⟩;have:=V j (by omega);rw [DN hs,DN rfl] at this;exact this
   refine⟨some a,cap,List.ofFn fun i=>Classical.choose (a3 i),by simpa using Z,by simpa using a9,.inr ⟨a.block,a.off,?_,fun i z Y=>?_⟩⟩
   ·obtain⟨b,o,s⟩:=a;simp only at hs;subst hs;rfl
   ·have hi:i<len:=by have:=(List.getElem?_eq_some_iff.1 Y).1;simpa using this
    simp [hi] at Y;have:=Classical.choose_spec (a3 ⟨i,hi⟩);rw [Y] at this;exact this
theorem QK(h:DataW.trod enc Tryz.prog W 0 (fun _=>true) true fuel 27 cs=some x):∃v:Int×Int,cs= [iV v.1,iV v.2]:=by
 obtain⟨Z,ag,n,_,U,V,Y⟩:=trod_struct2 Tryz.underlying27 h;obtain⟨n1,K,_⟩:=DataW.trod_int Tryz.underlying3 V;obtain⟨n2,O,_⟩:=DataW.trod_int Tryz.underlying3 Y;rw [Tryz.Rx] at U;rw [Pal.Tryz.SA] at K O;refine⟨(n1,n2),?_⟩
 match cs,U with
 | [u,w],_=>simp at K O;rw [K,O]
theorem Vx{v:Value}{O:Nat}{d:DataW H}{p:List MemPlace}(U:Value.okWide Tryz.prog W .any O 25 v)(V:DataW.Trod enc Tryz.prog W 0 (fun _=>true) true 25 v d p):
  ∃(a:Option Addr) (c:Nat) (K:List (Int×Int)),v= .slice a K.length c∧Am (rP rI rI) (Ej W).E a c K:=by
 obtain⟨Z,len,cap,rfl⟩:=okWide_slice Tryz.underlying25 U;obtain⟨fuel,Y⟩:=V;obtain⟨a,c,K,e,g⟩:=Zp (p:=rP rI rI) Tryz.underlying25 Tryz.Rx (Nat.zero_lt_two) (fun n cs x h=>by
  obtain⟨v,rfl⟩:=QK h
  exact⟨v,[iV v.1],[iV v.2],rfl,rfl,rfl⟩) Y
 simp [Value.cells] at e;obtain⟨rfl,rfl,rfl⟩:=e;exact⟨_,_,_,rfl,g⟩
theorem Wo{v:Value}{K:Nat}{d:DataW H}{p:List MemPlace}(O:Value.okWide Tryz.prog W .any K 27 v)(U:DataW.Trod enc Tryz.prog W 0 (fun _=>true) true 27 v d p):∃l:Int×Int,v= .agg #[iV l.1,iV l.2]:=by
 obtain⟨cs,rfl,Y⟩:=okWide_struct Tryz.underlying27 O;obtain⟨fuel,V⟩:=U;obtain⟨l,e⟩:=QK V;simp only [Value.cells] at e;refine⟨l,?_⟩;obtain⟨k⟩:=cs;simp only at e;rw [e]
end
end Pal
namespace Pal
open Go Go.Conc Go.Proofs
open Go.Proofs.Tryz
variable {J:Judge Tryz.prog}{E:LH}
def f69(fuel:Nat)(p0:A2)(p1:AI):Option Int:= (f113 fuel p0).bind fun K=> if K.isSome=true then((Li fuel K).bind fun O=> some O) else((f116 fuel p0 p1).bind fun U=> (Li fuel U).bind fun V=> some V)
def R7(fuel:Nat)(p0:BZ)(O:(List Int))(K:Nat×Int):Option (Bf (Nat×Int) Nat):= if K.2<(O.length:Int) then((ix O K.2).bind fun U=> (ix p0.1 U).bind fun V=> (f120 fuel V).bind fun Y=> (Jk K.1 Y).bind fun Z=> (Au (K.2+1)).bind fun ag=> some (.more (Z,ag))) else(some (.done K.1))
def f121(fuel:Nat)(p0:BZ)(p1:Nat):Option Nat:= (f89 fuel p1).bind fun K=> Option.bind (iter (R7 fuel p0 K) fuel (0,0)) fun O=> some O
theorem ZK{k1:Nat}{o2:Nat}{Y:An}{Z:Nat}{ag:An}{al:Nat}{am:List Value}{p0:BZ}{p1:Nat}(a3:At E k1 o2 (([sV Y p0.1 Z,sV ag p0.2.1 al]:List Value)++am))(a4:Am (rL rI) E Y Z p0.1)(bW:Am (rL rI) E ag al p0.2.1)(bY:(rA 13 (rN .u16)).r E am p0.2.2){fuel:Nat}{r:Nat}(ap:f121 fuel p0 p1=some r):AM J 121 [pV k1 o2,uV p1] E [] (fun w E' B'=>w= uV r∧B'= []):=by
 refine A4 func121 fun Q bZ cs H a5 a6=>?_;unfold f121 at ap;obtain⟨av,a7,a8⟩:=bs ap;refine zg 12 rfl (BO (Ja a7) rfl rfl IM a5 ?_);rintro _ b0 _ U ⟨a9,bb,rfl,rfl,bd⟩ be;refine Be underlying28 rfl rfl rfl ?_;obtain⟨bi,bo,bv⟩:=bs a8;refine zg 2 rfl (C4 [] [(5,uV bi)] (fun b1 bw bz=>?_) (fun bA=>?_))
 ·refine zg 5 rfl ?_;obtain rfl:=oi bv;exact AA func121 rfl rfl (a6 (U.Ac bw) rfl ⟨rfl,rfl⟩ bz)
 ·refine JL.block (Cz bo (fun O=> []) (fun O=> [(0,pV k1 o2),(5,uV O.1),(9,sV a9 av bb),(10,iV (av.length:Int)),(11,iV O.2)]) Ar be ?_);rintro O b2 K a0 bB ⟨b3,V⟩ bC;have a1:=V;unfold R7 at a1;refine zg 5 rfl (AL a1 (fun bD bE=>?_) (fun bD bF=>?_))
  ·obtain⟨b4,bG,bH⟩:=bs bE;refine zg 5 rfl (BN (bd.Ah K) bG underlying28 AU ?_);rintro b5 b6 _ rfl bI;refine BH 0 bI Bt rfl rfl rfl (zg 6 rfl ?_);refine BM underlying141 BD rfl rfl rfl (JL.fl 0 (a3.Ah (U.Ac K)) underlying24 BP Cn ?_);obtain⟨b7,bJ,bK⟩:=bs bH;refine zg 1 rfl (BN (a4.Ah (U.Ac K)) bJ underlying22 BT ?_);rintro b8 b9 _ ⟨ca,cb,rfl,bL⟩ bM;refine BH 0 bM CF rfl rfl rfl ?_;obtain⟨cc,bN,bO⟩:=bs bK;refine BF (J5 bL bN) rfl rfl Jo a0 fun cd bP bQ=>?_;obtain⟨a2,bR,bS⟩:=bs bO;refine AE (v:= uV a2) rfl (fun ρ h=>KB (h _ _ rfl) (h _ _ rfl) bR) ?_;obtain⟨bT,bU,bV⟩:=bs bS;refine zg 4 rfl (Bc bU rfl rfl rfl ?_);refine zg 2 rfl ?_;obtain rfl:=oi bV;exact bC (a2,bT) (K.Ac bP) bQ rfl V
  ·refine JL.exit rfl ?_;obtain rfl:=oi bF;obtain rfl:=bB _ V;exact bA K a0 rfl
def f130(fuel:Nat)(p0:Ch):Option Int:= (f89 fuel p0.2.2).bind fun K=> some (K.length:Int)
theorem Y9{K:An}{c2:Nat}{p0:Ch}(a0:Am rI E K c2 p0.2.1){fuel:Nat}{r:Int}(O:f130 fuel p0=some r):AM J 130 [.agg #[iV p0.1,sV K p0.2.1 c2,uV p0.2.2]] E [] (fun w E' B'=>w=iV r∧B'= []):=by
 refine A4 func130 fun Q a1 cs H U V=>?_;unfold f130 at O;refine zg 2 rfl (B7 U fun a2 a3 Y Z ag=>?_);refine zg 4 rfl (JL.fl 2 Z underlying104 En GR ?_);obtain⟨a4,al,am⟩:=bs O;refine BO (Ja al) rfl rfl IM ag ?_;rintro _ a5 _ ap ⟨a6,a7,rfl,rfl,a8⟩ av;refine Be underlying28 rfl rfl rfl (zg 2 rfl ?_);obtain rfl:=oi am;exact AA func130 rfl rfl (V (Y.Ac ap) rfl ⟨rfl,rfl⟩ av)
def Tc(fuel:Nat)(p0:List Ch)(K:Nat×Int):Option (Bf (Nat×Int) Nat):= if K.2<(p0.length:Int) then((ix p0 K.2).bind fun O=> (f90 fuel K.1 O.1).bind fun U=> (Au (K.2+1)).bind fun V=> some (.more (U,V))) else(some (.done K.1))
def f87(fuel:Nat)(p0:List Ch):Option Nat:= Option.bind (iter (Tc fuel p0) fuel (0,0)) fun K=> some K
theorem aJ{O:An}{c2:Nat}{p0:List (Ch)}(al:Am Dq E O c2 p0){fuel:Nat}{r:Nat}(Y:f87 fuel p0=some r):AM J 87 [sV O p0 c2] E [] (fun w E' B'=>w= uV r∧B'= []):=by
 refine A4 func87 fun Q bI cs H am ap=>?_;unfold f87 at Y;refine zg 12 rfl (Be underlying95 rfl rfl rfl ?_);obtain⟨av,a0,a1⟩:=bs Y;refine zg 2 rfl (C4 [] [(3,uV av)] (fun bJ a2 a3=>?_) (fun a4=>?_))
 ·refine zg 5 rfl ?_;obtain rfl:=oi a1;exact AA func87 rfl rfl (ap a2 rfl ⟨rfl,rfl⟩ a3)
 ·refine JL.block (Cz a0 (fun K=> []) (fun K=> [(3,uV K.1),(6,sV O p0 c2),(7,iV (p0.length:Int)),(8,iV K.2)]) Ar am ?_);rintro K bK U Z a5 ⟨bL,V⟩ a6;have ag:=V;unfold Tc at ag;refine zg 5 rfl (AL ag (fun a7 a8=>?_) (fun a7 a9=>?_))
  ·obtain⟨bM,bb,bd⟩:=bs a8;refine zg 5 rfl (BN (al.Ah U) bb underlying95 Cv ?_);rintro bN bO _ ⟨_,_,rfl,rfl,⟨_,_,rfl,⟨bP,bQ,rfl,bR⟩,rfl⟩⟩ be;refine BQ be FU Cv rfl rfl (CU Z GV fun bS bi=>?_);refine BY 0 bi Cv fun bo=>?_;refine C3 0 bo rfl fun bT bv bw bz=>zg 3 rfl (JL.fl 0 bw underlying104 AU Bt ?_);obtain⟨bA,bB,bC⟩:=bs bd;refine BF (NC bB) rfl rfl L3 bz fun bU bD bE=>?_;obtain⟨bF,bG,bH⟩:=bs bC;refine zg 4 rfl (Bc bG rfl rfl rfl ?_);refine zg 2 rfl ?_;obtain rfl:=oi bH;exact a6 (bA,bF) ((U.Ac bv).Ac bD) bE rfl V
  ·refine JL.exit rfl ?_;obtain rfl:=oi a9;obtain rfl:=a5 _ V;exact a4 U Z rfl
def SO(fuel:Nat)(p0:BZ)(O:Int)(K:Nat×Int):Option (Bf (Nat×Int) Nat):= if K.2<O then((f121 fuel p0 K.1).bind fun U=> (Au (K.2+1)).bind fun V=> some (.more (U,V))) else(some (.done K.1))
def f88(fuel:Nat)(p0:BZ)(p1:Ch)(p2:Int):Option Nat:= (Au ((p1.2.1.length:Int) - 1)).bind fun K=> if p2≤K then((ix p1.2.1 p2).bind fun O=> (f120 fuel ([O]:List Int)).bind fun U=> some U) else((ix p1.2.1 K).bind fun V=> (f120 fuel ([V]:List Int)).bind fun Y=> (Au (p2 - K)).bind fun Z=> Option.bind (iter (SO fuel p0 Z) fuel (Y,0)) fun ag=> some ag)
theorem aO{k1:Nat}{o2:Nat}{al:An}{am:Nat}{ap:An}{av:Nat}{a0:List Value}{a1:An}{a2:Nat}{p0:BZ}{p1:Ch}{p2:Int}(bd:At E k1 o2 (([sV al p0.1 am,sV ap p0.2.1 av]:List Value)++a0))(be:Am (rL rI) E al am p0.1)(bi:Am (rL rI) E ap av p0.2.1)(bo:(rA 13 (rN .u16)).r E a0 p0.2.2)(a3:Am rI E a1 a2 p1.2.1){fuel:Nat}{r:Nat}(a4:f88 fuel p0 p1 p2=some r):AM J 88 [pV k1 o2,.agg #[iV p1.1,sV a1 p1.2.1 a2,uV p1.2.2],iV p2] E [] (fun w E' B'=>w= uV r∧B'= []):=by
 refine A4 func88 fun Q cp cs H bv a5=>?_;unfold f88 at a4;refine zg 2 rfl (B7 bv fun cq cr K Z a6=>?_);refine zg 4 rfl (JL.fl 1 Z underlying104 BT CF ?_);refine Be underlying28 rfl rfl rfl ?_;obtain⟨ct,bw,bz⟩:=bs a4;refine Cd bw rfl rfl rfl (zg 9 rfl ?_);refine AL bz (fun bA bB=>?_) (fun bA bC=>?_)
 ·refine zg 2 rfl (JL.fl 1 Z underlying104 BT CF ?_);obtain⟨a7,bD,bE⟩:=bs bB;refine zg 1 rfl (BN (a3.Ah K) bD underlying28 AU ?_);rintro cu cv _ rfl bF;refine BH 0 bF Bt rfl rfl rfl (Dt (pp:=rI) [iV a7] [a7] rfl rfl rfl underlying28 AU CK (by decide) rfl rfl rfl ⟨rfl,trivial⟩ a6 fun cw cy bG bH=>?_);refine B6 2 bG bH rfl fun cz bI bJ bK=>?_;obtain⟨cA,bL,bM⟩:=bs bE;refine BF (J5 bJ bL) rfl rfl Jo bK fun cB bN bO=>zg 2 rfl ?_;obtain rfl:=oi bM;exact AA func88 rfl rfl (a5 ((K.Ac bI).Ac bN) rfl ⟨rfl,rfl⟩ bO)
 ·refine zg 3 rfl (JL.fl 1 Z underlying104 BT CF ?_);obtain⟨a8,bP,bQ⟩:=bs bC;refine zg 1 rfl (BN (a3.Ah K) bP underlying28 AU ?_);rintro cC cD _ rfl bR;refine BH 0 bR Bt rfl rfl rfl (Dt (pp:=rI) [iV a8] [a8] rfl rfl rfl underlying28 AU CK (by decide) rfl rfl rfl ⟨rfl,trivial⟩ a6 fun cE cF bS bT=>?_);refine B6 2 bS bT rfl fun cG U bU bV=>?_;obtain⟨cH,bW,bY⟩:=bs bQ;refine BF (J5 bU bW) rfl rfl Jo bV fun cI V bZ=>?_;obtain⟨b0,b1,b2⟩:=bs bY;refine zg 7 rfl (Cd b1 rfl rfl rfl ?_);obtain⟨b3,b4,b5⟩:=bs b2;refine zg 2 rfl (C4 [] [(8,uV b3)] (fun cJ b6 b7=>?_) (fun b8=>?_))
  ·refine zg 5 rfl ?_;obtain rfl:=oi b5;exact AA func88 rfl rfl (a5 (((K.Ac U).Ac V).Ac b6) rfl ⟨rfl,rfl⟩ b7)
  ·refine JL.block (Cz b4 (fun Y=> []) (fun Y=> [(0,pV k1 o2),(8,uV Y.1),(32,iV b0),(33,iV Y.2)]) Ar bZ ?_);rintro Y cK O a9 b9 ⟨cM,ag⟩ ca;have bb:=ag;unfold SO at bb;refine zg 5 rfl (AL bb (fun cb cc=>?_) (fun cb cd=>?_))
   ·obtain⟨ce,cf,cg⟩:=bs cc;refine zg 6 rfl (BF (ZK (bd.Ah (((K.Ac U).Ac V).Ac O)) (be.Ah (((K.Ac U).Ac V).Ac O)) (bi.Ah (((K.Ac U).Ac V).Ac O)) (Rp.Ah _ (((K.Ac U).Ac V).Ac O) bo) cf) rfl rfl (AR func121 rfl) a9 fun cN ci ck=>?_);obtain⟨cm,cn,co⟩:=bs cg;refine zg 4 rfl (Bc cn rfl rfl rfl ?_);refine zg 2 rfl ?_;obtain rfl:=oi co;exact ca (ce,cm) (O.Ac ci) ck rfl ag
   ·refine JL.exit rfl ?_;obtain rfl:=oi cd;obtain rfl:=b9 _ ag;exact b8 O a9 rfl
end Pal
namespace Pal
open Go Go.Conc Go.Proofs
open Go.Proofs.Tryz
variable {J:Judge Tryz.prog}{E:LH}
def Mw(fuel:Nat)(p0:BZ)(O:(List Int))(K:Nat×Int):Option (Bf (Nat×Int) Nat):= if K.2<(O.length:Int) then((ix O K.2).bind fun U=> (ix p0.1 U).bind fun V=> (f120 fuel V).bind fun Y=> (Jk K.1 Y).bind fun Z=> (Au (K.2+1)).bind fun ag=> some (.more (Z,ag))) else(some (.done K.1))
def Ln(fuel:Nat)(p0:BZ)(p1:Nat):Option (Nat×(BZ)):= (f89 fuel p1).bind fun K=> Option.bind (iter (Mw fuel p0 K) fuel (0,0)) fun O=> some (O,p0)
theorem XN{bk:Nat}{K:An}{c2:Nat}{O:An}{U:Nat}{V:List Value}{p0:BZ}{p1:Nat}(av:Am (rL rI) E K c2 p0.1)(a9:Am (rL rI) E O U p0.2.1)(bb:(rA 13 (rN .u16)).r E V p0.2.2){fuel:Nat}{r:Nat×(BZ)}(a0:Ln fuel p0 p1=some r):AM J 121 [pV bk 0,uV p1] E [(bk,.cells (([sV K p0.1 c2,sV O p0.2.1 U]:List Value)++V).toArray 141 (0,0))] (fun w E' B'=>∃(a1:An) (a2:Nat) (a3:An) (a4:Nat) (a5:List Value),w= uV r.1∧B'= [(bk,.cells (([sV a1 r.2.1 a2,sV a3 r.2.2.1 a4]:List Value)++a5).toArray 141 (0,0))]∧Am (rL rI) E' a1 a2 r.2.1∧Am (rL rI) E' a3 a4 r.2.2.1∧(rA 13 (rN .u16)).r E' a5 r.2.2.2):=by
 refine A4 func121 fun Q b2 cs H bd be=>?_;unfold Ln at a0;obtain⟨a6,bi,bo⟩:=bs a0;refine zg 12 rfl (BO (Ja bi) rfl rfl IM bd ?_);rintro _ b3 _ Y ⟨bv,bw,rfl,rfl,bz⟩ bA;refine Be underlying28 rfl rfl rfl ?_;obtain⟨bB,bC,bD⟩:=bs bo;refine zg 2 rfl (C4 [bX bk (([sV K p0.1 c2,sV O p0.2.1 U]:List Value)++V).toArray 141] [(5,uV bB)] (fun b4 Z bE=>?_) (fun bF=>?_))
 ·refine zg 5 rfl ?_;obtain rfl:=oi bD;exact AA func121 rfl rfl (be (Y.Ac Z) rfl ⟨K,c2,O,U,V,rfl,rfl,(av.Ah (Y.Ac Z)),(a9.Ah (Y.Ac Z)),(Rp.Ah _ (Y.Ac Z) bb)⟩ bE)
 ·refine JL.block (Cz bC (fun ag=> [bX bk (([sV K p0.1 c2,sV O p0.2.1 U]:List Value)++V).toArray 141]) (fun ag=> [(0,pV bk 0),(5,uV ag.1),(9,sV bv a6 bw),(10,iV (a6.length:Int)),(11,iV ag.2)]) Ar bA ?_);rintro ag b5 al am bG ⟨b6,ap⟩ bH;have a7:=ap;unfold Mw at a7;refine zg 5 rfl (AL a7 (fun bI bJ=>?_) (fun bI bK=>?_))
  ·obtain⟨b7,bL,bM⟩:=bs bJ;refine zg 5 rfl (BN (bz.Ah al) bL underlying28 AU ?_);rintro b8 b9 _ rfl bN;refine BH 0 bN Bt rfl rfl rfl (zg 6 rfl ?_);refine BM underlying141 BD rfl rfl rfl (BM underlying24 BP rfl rfl rfl ?_);refine AE (v:= sV K p0.1 c2) rfl (fun ρ h=>Yl.load Cn (h _ _ rfl) (Wh (o:=0) (l:= [sV K p0.1 c2,sV O p0.2.1 U]) 0 am rfl rfl)) ?_;obtain⟨ca,bO,bP⟩:=bs bM;refine zg 1 rfl (BN (av.Ah (Y.Ac al)) bO underlying22 BT ?_);rintro cb cc _ ⟨cd,ce,rfl,bQ⟩ bR;refine BH 0 bR CF rfl rfl rfl ?_;obtain⟨cf,bS,bT⟩:=bs bP;refine BF (J5 bQ bS) rfl rfl Jo am fun cg bU bV=>?_;obtain⟨a8,bW,bY⟩:=bs bT;refine AE (v:= uV a8) rfl (fun ρ h=>KB (h _ _ rfl) (h _ _ rfl) bW) ?_;obtain⟨bZ,b0,b1⟩:=bs bY;refine zg 4 rfl (Bc b0 rfl rfl rfl ?_);refine zg 2 rfl ?_;obtain rfl:=oi b1;exact bH (a8,bZ) (al.Ac bU) bV rfl ap
  ·refine JL.exit rfl ?_;obtain rfl:=oi bK;obtain rfl:=bG _ ap;exact bF al am rfl
end Pal
namespace Pal
open Go Go.Conc Go.Proofs
open Go.Proofs.Tryz
variable {J:Judge Tryz.prog}{E:LH}
theorem Zl:TF Tryz.prog 138 .u16:=⟨_,underlying138,by decide+kernel,by decide,underlying102,rfl⟩
def Lf(fuel:Nat)(K:(List (List Int))×(List (List Int))×(List Nat)×(List Nat)×Int):Option (Bf ((List (List Int))×(List (List Int))×(List Nat)×(List Nat)×Int) ((List (List Int))×(List (List Int))×(List Nat)×(List Nat))):= if K.2.2.2.2<12 then((Au (K.2.2.2.2+1)).bind fun U=> (ix K.2.2.1 K.2.2.2.2).bind fun V=> (Ln fuel (K.1,K.2.1,K.2.2.1) V).bind fun O=> (ix K.2.2.2.1 U).bind fun Z=> (Au (K.2.2.2.2+1)).bind fun Y=> some (.more (O.2.1,O.2.2.1,O.2.2.2,(K.2.2.2.1.set (Int.toNat U) O.1),Y))) else(some (.done (K.1,K.2.1,K.2.2.1,K.2.2.2.1)))
def M0(fuel:Nat)(O:BZ):Option (Bf BZ (((Option BZ))⊕Unit)):= Option.bind (iter (Lf fuel) fuel (O.1,O.2.1,O.2.2,O.2.2,0)) fun K=> if K.2.2.2≠K.2.2.1 then(some (.more (K.1,K.2.1,K.2.2.2))) else(some (.done (Sum.inl (some (K.1,K.2.1,K.2.2.1)))))
def f92(fuel:Nat)(p0:A2):Option ((Option BZ)):= (ix (List.replicate 13 (0:Nat)) (0)).bind fun O=> Option.bind (iter (M0 fuel) fuel (p0.1,p0.2,((List.replicate 13 (0:Nat)).set (Int.toNat 0) 1))) fun K=> Sum.elim (fun r=>some r) (fun U=>none) K
theorem NA{a6:An}{c2:Nat}{a7:An}{a8:Nat}{p0:A2}(cd:Am (rL rI) E a6 c2 p0.1)(ce:Am (rL rI) E a7 a8 p0.2){fuel:Nat}{r:(Option BZ)}(bS:f92 fuel p0=some r):AM J 92 [.agg #[sV a6 p0.1 c2,sV a7 p0.2 a8]] E [] (fun w E' B'=>∃(bT:Value),w=bT∧B'= []∧Ki (rP (rL (rL rI)) (rP (rL (rL rI)) (rA 13 (rN .u16)))) E' bT r):=by
 refine A4 func92 fun Q de cs H cf cg=>?_;unfold f92 at bS;refine zg 2 rfl (B7 cf fun df a9 bM ci ck=>?_);refine zg 5 rfl (BQ ci BX BD rfl rfl ?_);refine AE (v:= .agg (([sV a6 p0.1 c2,sV a7 p0.2 a8]:List Value)++(List.replicate 13 (uV 0):List Value)).toArray) rfl (fun ρ h=>Di [(0,2),(2,13)] h (Dw type141) underlying141 ⟨rfl,Bw type24,rfl,Bw type139,trivial⟩ rfl rfl) (JS.box (v:= .agg (([sV a6 p0.1 c2,sV a7 p0.2 a8]:List Value)++(List.replicate 13 (uV 0):List Value)).toArray) rfl rfl rfl ck rfl fun U cm=>?_);refine zg 6 rfl (BM underlying141 Gc rfl rfl rfl ?_);obtain⟨dg,bN,cn⟩:=bs bS;obtain⟨_,rfl,_,_,dh⟩:=It (kk:=13) (pp:=(rN .u16)) (J4 (E:=a9) (pp:=(rN .u16)) rfl) bN;refine AE (v:= .pointer (some ⟨U,2+Int.toNat (0)*1,none⟩)) rfl (fun ρ h=>Jz (kk:=13) (pp:=(rN .u16)) (J4 (E:=a9) (pp:=(rN .u16)) rfl) bN underlying139 Ih (h _ _ rfl) (h _ _ rfl)) (BM underlying138 En rfl rfl rfl ?_);have bF:=O4 (us:= [uV 1]) (y:=1) (J4 (E:=a9) (pp:=(rN .u16)) rfl) bN rfl;refine Kt (v:= uV 1) (l:= [sV a6 p0.1 c2,sV a7 p0.2 a8]) (ws:=(List.replicate 13 (uV 0):List Value)) (us:= [uV 1]) (o:=Int.toNat (0)*1) 2 rfl rfl rfl cm rfl rfl rfl En (by simp [Value.cells,CV]) rfl bF.2 fun bU=>?_;replace bF:=bF.1;generalize co:HD (List.replicate 13 (uV 0):List Value) (Int.toNat (0)*1) [uV 1]=bV at bU ⊢;have cp:(rA 13 (rN .u16)).r a9 bV ((List.replicate 13 (0:Nat)).set (Int.toNat 0) 1):=by rw [← co];exact bF
 refine zg 2 rfl (JL.label ?_);obtain⟨di,cq,cr⟩:=bs cn;refine IA [(3,pV U 0)] rfl (VM cq (fun L s Z=>∃(V:LH) (bi:An) (bo:Nat) (bv:An) (bw:Nat) (ag:List Value),Jn a9 H V [[(U,.cells (([sV bi Z.1 bo,sV bv Z.2.1 bw]:List Value)++ag).toArray 141 (0,0))]] [(3,pV U 0)] L s (Am (rL rI) V bi bo Z.1∧Am (rL rI) V bv bw Z.2.1∧(rA 13 (rN .u16)).r V ag Z.2.2)) ⟨a9,a6,c2,a7,a8,bV,rfl,rfl,Ar,bU,(cd.Ah bM),(ce.Ah bM),cp⟩ ?_);rintro _ _ Z ⟨V,bi,bo,bv,bw,ag,rfl,rfl,bW,bY,ct,cu,a0⟩ cv ⟨dj,bO⟩ cw;have bZ:=bO;unfold M0 at bZ;refine zg 4 rfl (BM underlying141 Gc rfl rfl rfl ?_);refine AE (v:= .agg ag.toArray) rfl (fun ρ h=>KF (kk:=13) (pp:=(rN .u16)) a0 LU Gc (h _ _ rfl) (Mp (l:= [sV bi Z.1 bo,sV bv Z.2.1 bw]) 0 bY rfl)) (CU bY (Dw type139) fun bb cy=>?_);refine Kt (v:= .agg ag.toArray) (l:= []) (ws:=(List.replicate 13 (uV 0):List Value)) (us:=ag) (o:=0) 1 rfl rfl rfl cy rfl rfl rfl (by rw [Gj (kk:=13) (pp:=(rN .u16)) a0];exact Bw type139) ((rA 13 (rN .u16)).one a0) rfl (by rw [Gj (kk:=13) (pp:=(rN .u16)) a0,Gj (kk:=13) (pp:=(rN .u16)) (J4 (E:=V) (pp:=(rN .u16)) rfl)];omega) fun b0=>?_;rw [Rc (by rw [Gj (kk:=13) (pp:=(rN .u16)) a0,Gj (kk:=13) (pp:=(rN .u16)) (J4 (E:=V) (pp:=(rN .u16)) rfl)])] at b0 ⊢;obtain⟨K,cz,cA⟩:=bs bZ;refine zg 6 rfl (Bp (fun L s=>∃(a1:LH) (a2:An) (a3:Nat) (al:An) (am:Nat) (a4:List Value) (ap:List Value),Jn V H a1 [bX U (([sV a2 K.1 a3,sV al K.2.1 am]:List Value)++a4).toArray 141,bX bb (([]:List Value)++ap).toArray 139] [(3,pV U 0),(4,pV bb 0)] L s (Am (rL rI) a1 a2 a3 K.1∧Am (rL rI) a1 al am K.2.1∧(rA 13 (rN .u16)).r a1 a4 K.2.2.1∧(rA 13 (rN .u16)).r a1 ap K.2.2.2)) ?_ ?_)
 ·rintro _ _ ⟨a1,a2,a3,al,am,a4,ap,rfl,rfl,b1,bd,b2,b3,bz,av⟩;refine zg 2 rfl (Dj 5 [bb,U] ⟨⟨1,_,rfl⟩,⟨0,_,rfl⟩,trivial⟩ bd fun ht=>?_);refine BC (v:= .agg ap.toArray) 0 ht rfl rfl (fun ρ h s' hs=>KF (kk:=13) (pp:=(rN .u16)) av LU Gc (h _ _ rfl) (Oz (l:= []) 1 bd rfl (by simp [A5]) hs)) (A0 ht rfl [1,2] rfl ?_);refine Cc 3 ht underlying141 Gc rfl rfl rfl rfl (BC (v:= .agg a4.toArray) 4 ht rfl rfl (fun ρ h s' hs=>KF (kk:=13) (pp:=(rN .u16)) bz LU Gc (h _ _ rfl) (Oz (l:= [sV a2 K.1 a3,sV al K.2.1 am]) 0 bd rfl (by simp [A5]) hs)) ?_);refine Co [5] (AE (v:= .bool (decide (K.2.2.2≠K.2.2.1))) rfl (fun ρ h=>WA underlying139 (by decide+kernel) Zl Ih av bz (h _ _ rfl) (h _ _ rfl)) ?_);refine JL.done (AL cA (fun cB cC=>?_) (fun cB cD=>?_))
  ·refine zg 3 rfl (AE (v:= .agg ap.toArray) rfl (fun ρ h=>KF (kk:=13) (pp:=(rN .u16)) av LU Gc (h _ _ rfl) (Mp (l:= []) 1 bd rfl)) ?_);refine zg 1 rfl (BM underlying141 Gc rfl rfl rfl ?_);refine Kt (v:= .agg ap.toArray) (l:= [sV a2 K.1 a3,sV al K.2.1 am]) (ws:=a4) (us:=ap) (o:=0) 0 rfl rfl rfl bd rfl rfl rfl (by rw [Gj (kk:=13) (pp:=(rN .u16)) av];exact Bw type139) ((rA 13 (rN .u16)).one av) rfl (by rw [Gj (kk:=13) (pp:=(rN .u16)) av,Gj (kk:=13) (pp:=(rN .u16)) bz];omega) fun b4=>?_;rw [Rc (by rw [Gj (kk:=13) (pp:=(rN .u16)) av,Gj (kk:=13) (pp:=(rN .u16)) bz])] at b4 ⊢;refine JL.done (JL.goto rfl ?_);refine zg 2 rfl (JS.drop 1 b4 rfl fun cE=>?_);obtain rfl:=oi cC;exact Ax (cw _ _ (K.1,K.2.1,K.2.2.2) ⟨a1,a2,a3,al,am,ap,rfl,rfl,(bW.Ac b1),cE,b2,b3,av⟩ bO) rfl
  ·refine zg 6 rfl (C3 0 bd rfl fun dk bG cF cG=>?_);refine JS.drop 1 cG rfl fun cH=>?_;obtain rfl:=oi cD;obtain rfl:=cv _ bO;have cI:=elim_inl cr;obtain rfl:=oi cI;exact AA func92 rfl rfl (cg (((bM.Ac bW).Ac b1).Ac bG) rfl ⟨pV U 0,rfl,rfl,⟨_,_,_,rfl,cF,⟨[sV a2 K.1 a3],(([sV al K.2.1 am]:List Value)++a4),rfl,⟨_,_,rfl,(b2.Ah bG)⟩,⟨[sV al K.2.1 am],a4,rfl,⟨_,_,rfl,(b3.Ah bG)⟩,(Rp.Ah _ bG bz)⟩⟩⟩⟩ cH)
 ·intro cJ;refine JL.block (CP cz (fun L s O=>∃(a5:LH) (bA:An) (bB:Nat) (bC:An) (bD:Nat) (bH:List Value) (be:List Value),Jn V H a5 [bX U (([sV bA O.1 bB,sV bC O.2.1 bD]:List Value)++bH).toArray 141,bX bb (([]:List Value)++be).toArray 139] [(3,pV U 0),(4,pV bb 0),(18,iV O.2.2.2.2)] L s (Am (rL rI) a5 bA bB O.1∧Am (rL rI) a5 bC bD O.2.1∧(rA 13 (rN .u16)).r a5 bH O.2.2.1∧(rA 13 (rN .u16)).r a5 be O.2.2.2.1)) ⟨V,bi,bo,bv,bw,ag,ag,rfl,rfl,Ar,b0,ct,cu,a0,a0⟩ ?_);rintro _ _ O ⟨a5,bA,bB,bC,bD,bH,be,rfl,rfl,b5,bP,b6,b7,bI,bJ⟩ cK ⟨dl,bQ⟩ cM;have b8:=bQ;unfold Lf at b8;refine zg 5 rfl (AL b8 (fun cN cO=>?_) (fun cN cP=>?_))
  ·obtain⟨bE,cQ,cR⟩:=bs cO;refine zg 10 rfl (Bc cQ rfl rfl rfl ?_);refine zg 4 rfl (BM underlying141 Gc rfl rfl rfl ?_);obtain⟨cT,b9,cV⟩:=bs cR;obtain⟨_,rfl,_,_,cW⟩:=It (kk:=13) (pp:=(rN .u16)) bI b9;refine AE (v:= .pointer (some ⟨U,2+Int.toNat (O.2.2.2.2)*1,none⟩)) rfl (fun ρ h=>Jz (kk:=13) (pp:=(rN .u16)) bI b9 underlying139 Ih (h _ _ rfl) (h _ _ rfl)) (BM underlying138 En rfl rfl rfl ?_);refine AE (v:= uV cT) rfl (fun ρ h=>Yl.load GR (h _ _ rfl) (Vk (l:= [sV bA O.1 bB,sV bC O.2.1 bD]) 0 bP rfl (cW 0 _ rfl))) ?_;obtain⟨Y,cX,cY⟩:=bs cV;refine B9 0 (XN b6 b7 bI cX) rfl rfl (AR func121 rfl) bP rfl ?_;rintro _ ca _ bK ⟨cZ,c0,c1,c3,Ke,rfl,rfl,c4,c5,c6⟩ c7;obtain⟨dm,bR,c8⟩:=bs cY;obtain⟨_,rfl,_,_,dn⟩:=It (kk:=13) (pp:=(rN .u16)) (Rp.Ah _ bK bJ) bR;refine AE (v:= .pointer (some ⟨bb,0+Int.toNat (bE)*1,none⟩)) rfl (fun ρ h=>Jz (kk:=13) (pp:=(rN .u16)) (Rp.Ah _ bK bJ) bR underlying139 Ih (h _ _ rfl) (h _ _ rfl)) (BM underlying138 En rfl rfl rfl ?_);have bL:=O4 (us:= [uV Y.1]) (y:=Y.1) (Rp.Ah _ bK bJ) bR rfl;refine Kt (v:= uV Y.1) (l:= []) (ws:=be) (us:= [uV Y.1]) (o:=Int.toNat (bE)*1) 1 rfl rfl rfl c7 rfl rfl rfl En (by simp [Value.cells,CV]) rfl bL.2 fun cb=>?_;replace bL:=bL.1;generalize c9:HD be (Int.toNat (bE)*1) [uV Y.1]=cc at cb ⊢;have da:(rA 13 (rN .u16)).r ca cc (O.2.2.2.1.set (Int.toNat bE) Y.1):=by rw [← c9];exact bL
   obtain⟨db,dc,dd⟩:=bs c8;refine zg 3 rfl (Bc dc rfl rfl rfl ?_);refine zg 2 rfl ?_;obtain rfl:=oi dd;exact Ax (cM _ _ (Y.2.1,Y.2.2.1,Y.2.2.2,(O.2.2.2.1.set (Int.toNat bE) Y.1),db) ⟨ca,cZ,c0,c1,c3,Ke,cc,rfl,rfl,(b5.Ac bK),cb,c4,c5,c6,da⟩ bQ) rfl
  ·refine JL.exit rfl ?_;obtain rfl:=oi cP;obtain rfl:=cK _ bQ;exact Ax (cJ _ _ ⟨a5,bA,bB,bC,bD,bH,be,rfl,rfl,b5,bP,b6,b7,bI,bJ⟩) rfl
end Pal
namespace Pal
open Go Go.Conc Go.Proofs
open Go.Proofs.Tryz
variable {J:Judge Tryz.prog}{E:LH}
def RX(fuel:Nat)(p0:BZ)(O:Nat)(U:(List Int))(K:Int):Option (Bf Int ((Bool)⊕(Unit))):= if K<(U.length:Int) then((ix U K).bind fun V=> (f103 fuel O V).bind fun Y=> Option.bind (if Y=true then(some true) else((ix p0.2.1 V).bind fun Z=> (f120 fuel Z).bind fun ag=> (Kb O ag).bind fun al=> some (decide ((((al):Nat):Int)≠(((0):Nat):Int))))) fun am=> if am=true then(some (.done (Sum.inl true))) else((Au (K+1)).bind fun ap=> some (.more ap))) else(some (.done (Sum.inr ())))
def f109(fuel:Nat)(p0:BZ)(p1:Int)(p2:Int):Option Bool:= (ix p0.2.2 p2).bind fun K=> (ix p0.2.2 p1).bind fun O=> (f89 fuel O).bind fun U=> Option.bind (iter (RX fuel p0 K U) fuel 0) fun V=> Sum.elim (fun r=>some r) (fun Y=> some false) V
theorem Zh{k1:Nat}{o2:Nat}{O:An}{U:Nat}{V:An}{Y:Nat}{a0:List Value}{p0:BZ}{p1:Int}{p2:Int}(av:At E k1 o2 (([sV O p0.1 U,sV V p0.2.1 Y]:List Value)++a0))(cA:Am (rL rI) E O U p0.1)(bC:Am (rL rI) E V Y p0.2.1)(a1:(rA 13 (rN .u16)).r E a0 p0.2.2){fuel:Nat}{r:Bool}(a2:f109 fuel p0 p1 p2=some r):AM J 109 [pV k1 o2,iV p1,iV p2] E [] (fun w E' B'=>w= .bool r∧B'= []):=by
 refine A4 func109 fun Q cB cs H bD a3=>?_;unfold f109 at a2;refine zg 9 rfl (BM underlying141 Gc rfl rfl rfl ?_);obtain⟨a4,bE,bF⟩:=bs a2;refine OI (l:= [sV O p0.1 U,sV V p0.2.1 Y]) av a1 bE rfl rfl rfl rfl rfl underlying139 Ih ?_;rintro cC _ rfl bG;refine JL.fl 0 bG underlying138 En GR ?_;refine zg 8 rfl (BM underlying141 Gc rfl rfl rfl ?_);obtain⟨cD,bH,bI⟩:=bs bF;refine OI (l:= [sV O p0.1 U,sV V p0.2.1 Y]) av a1 bH rfl rfl rfl rfl rfl underlying139 Ih ?_;rintro cE _ rfl bJ;refine JL.fl 0 bJ underlying138 En GR ?_;obtain⟨Z,bK,bL⟩:=bs bI;refine BO (Ja bK) rfl rfl IM bD ?_;rintro _ bM _ ag ⟨a5,a6,rfl,rfl,bN⟩ bO;refine Be underlying28 rfl rfl rfl ?_;obtain⟨a7,bP,a8⟩:=bs bL;refine zg 2 rfl (Bp (fun L s=>∃(a9:Unit) (bb:LH),a7=Sum.inr a9∧Jm bM H bb [] [] L s) ?_ ?_)
 ·rintro _ _ ⟨a9,bb,rfl,rfl,rfl,bQ,bR⟩;have bS:=elim_inr a8;refine zg 4 rfl ?_;obtain rfl:=oi bS;exact AA func109 rfl rfl (a3 (ag.Ac bQ) rfl ⟨rfl,rfl⟩ bR)
 ·intro bT;refine JL.block (Cz bP (fun al=> []) (fun al=> [(0,pV k1 o2),(7,uV a4),(24,sV a5 Z a6),(25,iV (Z.length:Int)),(26,iV al)]) Ar bO ?_);rintro al bU K bd be ⟨cF,am⟩ bV;have bi:=am;unfold RX at bi;refine zg 5 rfl (AL bi (fun bW bY=>?_) (fun bW bZ=>?_))
  ·obtain⟨cG,b0,b1⟩:=bs bY;refine zg 5 rfl (BN (bN.Ah K) b0 underlying28 AU ?_);rintro cH cI _ rfl b2;refine BH 0 b2 Bt rfl rfl rfl ?_;obtain⟨cJ,b3,b4⟩:=bs b1;refine zg 6 rfl (BF (OX b3) rfl rfl N3 bd fun bo ap bv=>?_);obtain⟨b5,b6,b7⟩:=bs b4;refine zg 1 rfl (ED [] (fun L s=>∃(bw:LH),Jm bo H bw [] [(0,pV k1 o2),(7,uV a4),(24,sV a5 Z a6),(25,iV (Z.length:Int)),(26,iV al),(46,.bool b5)] L s) ?_ ?_)
   ·rintro _ _ ⟨bw,rfl,rfl,bz,bA⟩;refine JL.done (BJ b7 (fun b8 b9=>?_) (fun b8 ca=>?_))
    ·refine zg 4 rfl ?_;obtain rfl:=oi b9;obtain rfl:=be _ am;have cb:=elim_inl a8;obtain rfl:=oi cb;exact AA func109 rfl rfl (a3 (((ag.Ac K).Ac ap).Ac bz) rfl ⟨rfl,rfl⟩ bA)
    ·obtain⟨cc,cd,ce⟩:=bs ca;refine zg 3 rfl (Bc cd rfl rfl rfl ?_);refine zg 2 rfl ?_;obtain rfl:=oi ce;exact bV cc ((K.Ac ap).Ac bz) bA rfl am
   ·intro bB;refine Dy 33 b6 (fun cf cg=>?_) (fun cf ci=>?_)
    ·refine zg 13 rfl ?_;obtain rfl:=oi cg;exact Ax (bB _ _ ⟨bo,rfl,rfl,Ar,bv⟩) rfl
    ·refine zg 3 rfl (BM underlying141 BD rfl rfl rfl ?_);refine JL.fl 1 (av.Ah ((ag.Ac K).Ac ap)) underlying24 BP Cn ?_;obtain⟨cK,ck,cm⟩:=bs ci;refine zg 1 rfl (BN (bC.Ah ((ag.Ac K).Ac ap)) ck underlying22 BT ?_);rintro cM cN _ ⟨cO,cP,rfl,cn⟩ co;refine BH 0 co CF rfl rfl rfl ?_;obtain⟨cQ,cp,cq⟩:=bs cm;refine BF (J5 cn cp) rfl rfl Jo bv fun cr ct cu=>?_;obtain⟨cv,cw,cy⟩:=bs cq;refine AE (v:= uV cv) rfl (fun ρ h=>Ou (h _ _ rfl) (h _ _ rfl) cw) (zg 2 rfl ?_);obtain rfl:=oi cy;exact Ax (bB _ _ ⟨cr,rfl,rfl,ct,cu⟩) rfl
  ·refine JL.exit rfl ?_;obtain rfl:=oi bZ;have cz:a7=(Sum.inr ()):=(be _ am).symm;exact Ax (bT _ _ ⟨(),bU,cz,rfl,rfl,K,bd⟩) rfl
end Pal
namespace Pal
open Go Go.Conc Go.Proofs
open Go.Proofs.Tryz
variable {J:Judge Tryz.prog}{E:LH}
def MB(fuel:Nat)(p0:List Int)(p1:Int)(K:Int):Option (Bf Int ((Int)⊕(Unit))):= if K<(p0.length:Int) then((ix p0 K).bind fun O=> if p1=O then(some (.done (Sum.inl K))) else((Au (K+1)).bind fun U=> some (.more U))) else(some (.done (Sum.inr ())))
def f201(fuel:Nat)(p0:List Int)(p1:Int):Option Int:= Option.bind (iter (MB fuel p0 p1) fuel 0) fun K=> Sum.elim (fun r=>some r) (fun O=> some (-1)) K
theorem Zy{U:An}{c2:Nat}{p0:List Int}{p1:Int}(a2:Am rI E U c2 p0){fuel:Nat}{r:Int}(Z:f201 fuel p0 p1=some r):AM J 201 [sV U p0 c2,iV p1] E [] (fun w E' B'=>w=iV r∧B'= []):=by
 refine A4 func201 fun Q bH cs H a3 ag=>?_;unfold f201 at Z;refine zg 8 rfl (Be underlying28 rfl rfl rfl ?_);obtain⟨al,a4,am⟩:=bs Z;refine zg 2 rfl (Bp (fun L s=>∃(ap:Unit) (av:LH),al=Sum.inr ap∧Jm E H av [] [] L s) ?_ ?_)
 ·rintro _ _ ⟨ap,av,rfl,rfl,rfl,a5,a6⟩;have a7:=elim_inr am;refine zg 4 rfl ?_;obtain rfl:=oi a7;exact AA func201 rfl rfl (ag a5 rfl ⟨rfl,rfl⟩ a6)
 ·intro a8;refine JL.block (Cz a4 (fun V=> []) (fun V=> [(0,sV U p0 c2),(1,iV p1),(7,iV (p0.length:Int)),(8,iV V)]) Ar a3 ?_);rintro V a9 K Y a0 ⟨bI,O⟩ bb;have a1:=O;unfold MB at a1;refine zg 5 rfl (AL a1 (fun bd be=>?_) (fun bd bi=>?_))
  ·obtain⟨bJ,bo,bv⟩:=bs be;refine zg 13 rfl (BN (a2.Ah K) bo underlying28 AU ?_);rintro bK bL _ rfl bw;refine BH 0 bw Bt rfl rfl rfl (zg 2 rfl ?_);refine AL bv (fun bz bA=>?_) (fun bz bB=>?_)
   ·refine zg 5 rfl ?_;obtain rfl:=oi bA;obtain rfl:=a0 _ O;have bC:=elim_inl am;obtain rfl:=oi bC;exact AA func201 rfl rfl (ag K rfl ⟨rfl,rfl⟩ Y)
   ·obtain⟨bD,bE,bF⟩:=bs bB;refine zg 3 rfl (Bc bE rfl rfl rfl ?_);refine zg 2 rfl ?_;obtain rfl:=oi bF;exact bb bD K Y rfl O
  ·refine JL.exit rfl ?_;obtain rfl:=oi bi;have bG:al=(Sum.inr ()):=(a0 _ O).symm;exact Ax (a8 _ _ ⟨(),a9,bG,rfl,rfl,K,Y⟩) rfl
def f199(fuel:Nat)(p0:List Int)(p1:Int):Option Bool:= (f201 fuel p0 p1).bind fun K=> some (decide (0≤K))
theorem Z8{K:An}{c2:Nat}{p0:List Int}{p1:Int}(U:Am rI E K c2 p0){fuel:Nat}{r:Bool}(O:f199 fuel p0 p1=some r):AM J 199 [sV K p0 c2,iV p1] E [] (fun w E' B'=>w= .bool r∧B'= []):=by
 refine A4 func199 fun Q ap cs H V Y=>?_;unfold f199 at O;obtain⟨av,Z,ag⟩:=bs O;refine zg 8 rfl (BF (Zy U Z) rfl rfl (AR func201 rfl) V fun a0 al am=>?_);refine zg 3 rfl ?_;obtain rfl:=oi ag;exact AA func199 rfl rfl (Y al rfl ⟨rfl,rfl⟩ am)
def f192(fuel:Nat)(p0:BZ)(p1:Int)(p2:Int):Option ((Option (Int×Option Int))):= if p1=p2 then(some (some (p1,none))) else((ix p0.2.1 p1).bind fun K=> (f199 fuel K p2).bind fun O=> if O=true then(some (some (p1,some p2))) else(some none))
theorem ZA{k1:Nat}{o2:Nat}{O:An}{U:Nat}{V:An}{Y:Nat}{Z:List Value}{p0:BZ}{p1:Int}{p2:Int}(a0:At E k1 o2 (([sV O p0.1 U,sV V p0.2.1 Y]:List Value)++Z))(bo:Am (rL rI) E O U p0.1)(a1:Am (rL rI) E V Y p0.2.1)(bv:(rA 13 (rN .u16)).r E Z p0.2.2){fuel:Nat}{r:(Option (Int×Option Int))}(ag:f192 fuel p0 p1 p2=some r):AM J 192 [pV k1 o2,iV p1,iV p2] E [] (fun w E' B'=>∃(al:Value),w=al∧B'= []∧PI 257 259 al r):=by
 refine A4 func192 fun Q bw cs H am K=>?_;unfold f192 at ag;refine zg 13 rfl (AL ag (fun a2 a3=>?_) (fun a2 a4=>?_))
 ·refine zg 3 rfl (AE (v:= .agg #[iV p1]) rfl (fun ρ h=>Di [(0,1)] h (Dw type257) underlying257 ⟨rfl,Bw type3,trivial⟩ rfl rfl) ?_);refine AE (v:= .iface 257 (.agg #[iV p1])) rfl (fun ρ h=>Fa underlying257 (fun _ h=>by cases h) (h _ _ rfl)) (zg 2 rfl ?_);obtain rfl:=oi a3;exact AA func192 rfl rfl (K Ar rfl ⟨.iface 257 (.agg #[iV p1]),rfl,rfl,rfl⟩ am)
 ·refine zg 4 rfl (BM underlying141 BD rfl rfl rfl ?_);refine JL.fl 1 a0 underlying24 BP Cn ?_;obtain⟨bz,a5,a6⟩:=bs a4;refine zg 1 rfl (BN a1 a5 underlying22 BT ?_);rintro bA bB _ ⟨bC,bD,rfl,a7⟩ a8;refine BH 0 a8 CF rfl rfl rfl ?_;obtain⟨bE,a9,bb⟩:=bs a6;refine zg 1 rfl (BF (Z8 a7 a9) rfl rfl (AR func199 rfl) am fun bF ap av=>?_);refine zg 2 rfl (BJ bb (fun bd be=>?_) (fun bd bi=>?_))
  ·refine zg 4 rfl (AE (v:= .agg #[iV p1,iV p2]) rfl (fun ρ h=>Di [(0,1),(1,1)] h (Dw type259) underlying259 ⟨rfl,Bw type3,rfl,Bw type3,trivial⟩ rfl rfl) ?_);refine AE (v:= .iface 259 (.agg #[iV p1,iV p2])) rfl (fun ρ h=>Fa underlying259 (fun _ h=>by cases h) (h _ _ rfl)) (zg 2 rfl ?_);obtain rfl:=oi be;exact AA func192 rfl rfl (K ap rfl ⟨.iface 259 (.agg #[iV p1,iV p2]),rfl,rfl,rfl⟩ av)
  ·refine zg 6 rfl ?_;obtain rfl:=oi bi;exact AA func192 rfl rfl (K ap rfl ⟨.nilIface,rfl,rfl,rfl⟩ av)
end Pal
namespace Pal
open Go Go.Conc Go.Proofs
open Go.Proofs.Tryz
variable {J:Judge Tryz.prog}{E:LH}
def Lp(fuel:Nat)(p0:(BZ)×(AI)×Ch):Option Int:= if(p0.2.1.length:Int)=0 then(some 0) else((Au ((p0.2.1.length:Int) - 1)).bind fun K=> (ix p0.2.1 K).bind fun O=> some O.1)
theorem Xx{bk:Nat}{k1:Nat}{o2:Nat}{Z:An}{ag:Nat}{al:An}{am:Nat}{ap:List Value}{O:An}{U:Nat}{V:An}{Y:Nat}{p0:(BZ)×(AI)×Ch}(bb:At E k1 o2 (([sV Z p0.1.1 ag,sV al p0.1.2.1 am]:List Value)++ap))(bd:Am (rL rI) E Z ag p0.1.1)(be:Am (rL rI) E al am p0.1.2.1)(bi:(rA 13 (rN .u16)).r E ap p0.1.2.2)(a1:Am Bo E O U p0.2.1)(bo:Am rI E V Y p0.2.2.2.1){fuel:Nat}{r:Int}(av:Lp fuel p0=some r):AM J 154 [pV bk 0] E [(bk,.cells #[pV k1 o2,sV O p0.2.1 U,iV p0.2.2.1,sV V p0.2.2.2.1 Y,uV p0.2.2.2.2] 175 (0,0))] (fun w E' B'=>w=iV r∧B'= [(bk,.cells #[pV k1 o2,sV O p0.2.1 U,iV p0.2.2.1,sV V p0.2.2.2.1 Y,uV p0.2.2.2.2] 175 (0,0))]):=by
 refine A4 func154 fun Q bv cs H K a0=>?_;unfold Lp at av;refine zg 9 rfl (BM underlying175 Hi rfl rfl rfl ?_);refine AE (v:= sV O p0.2.1 U) rfl (fun ρ h=>Yl.load HK (h _ _ rfl) (DX (j:=0) (off:=1) K rfl rfl)) (Be underlying25 rfl rfl rfl ?_);refine zg 2 rfl (AL av (fun a2 a3=>?_) (fun a2 a4=>?_))
 ·refine zg 4 rfl ?_;obtain rfl:=oi a3;exact AA func154 rfl rfl (a0 Ar rfl ⟨rfl,rfl⟩ K)
 ·refine zg 2 rfl (Dj 10 [bk] ⟨⟨0,_,rfl⟩,trivial⟩ K fun ht=>?_);refine A0 ht rfl [0,1] rfl (Cc 2 ht underlying175 Hi rfl rfl rfl rfl ?_);refine Fi 3 ht 1 0 K HK ?_;refine A0 ht rfl [4,5] rfl (Cc 6 ht underlying175 Hi rfl rfl rfl rfl ?_);refine Fi 7 ht 1 0 K HK ?_;refine BC 8 ht rfl rfl (fun ρ h s' hs=>Yl.len rfl underlying25 (h _ _ rfl)) ?_;obtain⟨bw,a5,a6⟩:=bs a4;refine BC 9 ht rfl rfl (fun ρ h s' hs=>Dc (h _ _ rfl) (h _ _ rfl) a5) (Co [10,11,12,13] ?_);obtain⟨bz,a7,a8⟩:=bs a6;refine BN a1 a7 underlying25 Cf ?_;rintro bA bB _ ⟨_,_,rfl,rfl,rfl⟩ a9;refine JL.fl 0 a9 underlying27 AU Bt ?_;refine zg 2 rfl ?_;obtain rfl:=oi a8;exact AA func154 rfl rfl (a0 Ar rfl ⟨rfl,rfl⟩ K)
def Mr(fuel:Nat)(p0:(BZ)×(AI)×Ch)(p1:Int)(p2:Int)(K:Nat×Int):Option (Bf (Nat×Int) ((Nat×Bool)⊕(Nat))):= if K.2<(p0.2.1.length:Int) then(Option.bind ((ix p0.2.1 K.2).bind fun O=> if O.1≠p1 then(some (Sum.inr K.1)) else((f192 fuel p0.1 p2 O.2).bind fun U=> Option.bind (if Kg U=true then(some (Sum.inr K.1)) else(if LA U=true then((f90 fuel K.1 K.2).bind fun V=> some (Sum.inr V)) else(some (Sum.inl (0,false))))) fun Y=>Sum.elim (fun r=>some (Sum.inl r)) (fun Z=> some (Sum.inr Z)) Y)) fun ag=>Sum.elim (fun r=>some (.done (Sum.inl r))) (fun al=> (Au (K.2+1)).bind fun am=> some (.more (al,am))) ag) else(some (.done (Sum.inr K.1)))
def Lj(fuel:Nat)(p0:(BZ)×(AI)×Ch)(p1:Int)(p2:Int):Option (Nat×Bool):= Option.bind (iter (Mr fuel p0 p1 p2) fuel (0,0)) fun K=> Sum.elim (fun r=>some r) (fun O=> some (O,true)) K
theorem Yz{bk:Nat}{k1:Nat}{o2:Nat}{a4:An}{a5:Nat}{a6:An}{a7:Nat}{a8:List Value}{K:An}{O:Nat}{Y:An}{Z:Nat}{p0:(BZ)×(AI)×Ch}{p1:Int}{p2:Int}(bK:At E k1 o2 (([sV a4 p0.1.1 a5,sV a6 p0.1.2.1 a7]:List Value)++a8))(bL:Am (rL rI) E a4 a5 p0.1.1)(bM:Am (rL rI) E a6 a7 p0.1.2.1)(bN:(rA 13 (rN .u16)).r E a8 p0.1.2.2)(bO:Am Bo E K O p0.2.1)(cI:Am rI E Y Z p0.2.2.2.1){fuel:Nat}{r:Nat×Bool}(a9:Lj fuel p0 p1 p2=some r):AM J 174 [pV bk 0,iV p1,iV p2] E [(bk,.cells #[pV k1 o2,sV K p0.2.1 O,iV p0.2.2.1,sV Y p0.2.2.2.1 Z,uV p0.2.2.2.2] 175 (0,0))] (fun w E' B'=>w= .tuple #[uV r.1,.bool r.2]∧B'= [(bk,.cells #[pV k1 o2,sV K p0.2.1 O,iV p0.2.2.1,sV Y p0.2.2.2.1 Z,uV p0.2.2.2.2] 175 (0,0))]):=by
 refine A4 func174 fun Q cJ cs H bb bd=>?_;unfold Lj at a9;refine zg 11 rfl (JL.label ?_);refine zg 5 rfl (BM underlying175 Hi rfl rfl rfl ?_);refine AE (v:= sV K p0.2.1 O) rfl (fun ρ h=>Yl.load HK (h _ _ rfl) (DX (j:=0) (off:=1) bb rfl rfl)) (Be underlying25 rfl rfl rfl ?_);obtain⟨be,bP,bi⟩:=bs a9;refine zg 2 rfl (Bp (fun L s=>∃(a1:Nat) (bo:LH),be=Sum.inr a1∧Jm E H bo [bX bk #[pV k1 o2,sV K p0.2.1 O,iV p0.2.2.1,sV Y p0.2.2.2.1 Z,uV p0.2.2.2.2] 175] [(8,uV a1)] L s) ?_ ?_)
 ·rintro _ _ ⟨a1,bo,rfl,rfl,rfl,bQ,bR⟩;have bS:=elim_inr bi;refine zg 6 rfl ?_;obtain rfl:=oi bS;exact AA func174 rfl rfl (bd bQ rfl ⟨rfl,rfl⟩ bR)
 ·intro bT;refine JL.block (Cz bP (fun U=> [bX bk #[pV k1 o2,sV K p0.2.1 O,iV p0.2.2.1,sV Y p0.2.2.2.1 Z,uV p0.2.2.2.2] 175]) (fun U=> [(0,pV bk 0),(1,iV p1),(2,iV p2),(8,uV U.1),(14,sV K p0.2.1 O),(15,iV (p0.2.1.length:Int)),(16,iV U.2)]) Ar bb ?_);rintro U bv V bw bz ⟨cK,am⟩ bU;have bA:=am;unfold Mr at bA;refine zg 5 rfl (AL bA (fun bV bW=>?_) (fun bV bY=>?_))
  ·obtain⟨bZ,b0,bB⟩:=bs bW;refine zg 2 rfl (Bp (fun L s=>∃(ap:Nat) (bC:LH),bZ=Sum.inr ap∧Jm bv H bC [bX bk #[pV k1 o2,sV K p0.2.1 O,iV p0.2.2.1,sV Y p0.2.2.2.1 Z,uV p0.2.2.2.2] 175] [(0,pV bk 0),(1,iV p1),(2,iV p2),(8,uV ap),(14,sV K p0.2.1 O),(15,iV (p0.2.1.length:Int)),(16,iV U.2)] L s) ?_ ?_)
   ·rintro _ _ ⟨ap,bC,rfl,rfl,rfl,b1,b2⟩;have b3:=elim_inr bB;obtain⟨b4,b5,b6⟩:=bs b3;refine JL.region (Bc b5 rfl rfl rfl ?_);refine zg 2 rfl ?_;obtain rfl:=oi b6;exact bU (ap,b4) (V.Ac b1) b2 rfl am
   ·intro bD;obtain⟨cM,b7,b8⟩:=bs b0;refine zg 4 rfl (BN (bO.Ah V) b7 underlying25 Cf ?_);rintro cN cO _ ⟨_,_,rfl,rfl,rfl⟩ b9;refine BQ b9 Gv Cf rfl rfl (CU bw Et fun cP ca=>?_);refine zg 1 rfl (BY 1 ca Cf fun cb=>?_);refine C3 1 cb rfl fun cc ag bE al=>zg 4 rfl (JL.fl 0 bE underlying27 AU Bt ?_);refine zg 3 rfl (AL b8 (fun cd ce=>?_) (fun cd cf=>?_))
    ·exact JL.exit rfl (Ax (bD _ _ ⟨U.1,cc,(Option.some.inj ce).symm,rfl,rfl,ag,al⟩) rfl)
    ·refine zg 2 rfl (Dj 7 [bk] ⟨⟨0,_,rfl⟩,trivial⟩ al fun ht=>?_);refine A0 ht rfl [0,1] rfl (Cc 2 ht underlying175 Oa rfl rfl rfl rfl ?_);refine Fi 3 ht 0 0 al LX ?_;refine Cb 4 ht rfl rfl (Cc 5 ht underlying27 AU rfl rfl rfl rfl ?_);refine JG.lp 6 ht 1 bE al ⟨⟨0,_,rfl⟩,trivial⟩ Bt ?_;refine Co [7] ?_;obtain⟨av,cg,ci⟩:=bs cf;refine BO (ZA (bK.Ah (V.Ac ag)) (bL.Ah (V.Ac ag)) (bM.Ah (V.Ac ag)) (Rp.Ah _ (V.Ac ag) bN) cg) rfl rfl (AR func192 rfl) al ?_;rintro _ bF _ bG ⟨cQ,rfl,rfl,bH⟩ a2;refine zg 4 rfl (AE (v:= .tuple #[(PO av),.bool (Kg av)]) rfl (fun ρ h=>UO (t2:=259) underlying257 (Dw type257) (by decide) bH (h _ _ rfl)) ?_);obtain⟨ck,cm,bI⟩:=bs ci;refine zg 3 rfl (Bp (fun L s=>∃(a0:Nat) (a3:LH),ck=Sum.inr a0∧Jm bF H a3 [bX bk #[pV k1 o2,sV K p0.2.1 O,iV p0.2.2.1,sV Y p0.2.2.2.1 Z,uV p0.2.2.2.2] 175] [(0,pV bk 0),(1,iV p1),(2,iV p2),(8,uV a0),(14,sV K p0.2.1 O),(15,iV (p0.2.1.length:Int)),(16,iV U.2)] L s) ?_ ?_)
     ·rintro _ _ ⟨a0,a3,rfl,rfl,rfl,cn,co⟩;have cp:=elim_inr bI;exact zg 2 rfl (Ax (bD _ _ ⟨a0,a3,(Option.some.inj cp).symm,rfl,rfl,((ag.Ac bG).Ac cn),co⟩) rfl)
     ·intro bJ;refine BJ cm (fun cq cr=>?_) (fun cq ct=>?_)
      ·exact JL.skip (Ax (bJ _ _ ⟨U.1,bF,(Option.some.inj cr).symm,rfl,rfl,Ar,a2⟩) rfl)
      ·refine zg 2 rfl (AE (v:= .tuple #[(PM av),.bool (LA av)]) rfl (fun ρ h=>UD (t1:=257) underlying259 (Dw type259) (by decide) bH (h _ _ rfl)) ?_);refine zg 3 rfl (BJ ct (fun cu cv=>?_) (fun cu cw=>?_))
       ·obtain⟨cy,cz,cA⟩:=bs cv;refine zg 3 rfl (BF (NC cz) rfl rfl L3 a2 fun cB cC cD=>?_);exact zg 2 rfl (Ax (bJ _ _ ⟨cy,cB,(Option.some.inj cA).symm,rfl,rfl,cC,cD⟩) rfl)
       ·refine zg 5 rfl ?_;obtain rfl:=oi cw;have cE:=elim_inl bI;obtain rfl:=oi cE;have cF:=elim_inl bB;obtain rfl:=oi cF;obtain rfl:=bz _ am;have cG:=elim_inl bi;obtain rfl:=oi cG;exact AA func174 rfl rfl (bd ((V.Ac ag).Ac bG) rfl ⟨rfl,rfl⟩ a2)
  ·refine JL.exit rfl ?_;obtain rfl:=oi bY;have cH:be=(Sum.inr U.1):=(bz _ am).symm;exact Ax (bT _ _ ⟨U.1,bv,cH,rfl,rfl,V,bw⟩) rfl
end Pal
namespace Pal
open Go Go.Conc Go.Proofs
open Go.Proofs.Tryz
variable {J:Judge Tryz.prog}{E:LH}
def Ls(fuel:Nat)(p0:List Int):Option ((List Int)):= (De ([]:List Int) p0).bind fun K=> some K
theorem Xn{ad:Addr}{c2:Nat}{p0:List Int}(V:Am rI E (some ad) c2 p0){fuel:Nat}{r:(List Int)}(K:Ls fuel p0=some r):AM J 175 [.slice (some ad) p0.length c2] E [] (fun w E' B'=>∃(O:An) (U:Nat) (g0:Seg),w= sV O r U∧B'=g0∧OL 3 rI E' O U g0 r):=by
 refine A4 func175 fun Q a4 cs H Y Z=>?_;unfold Ls at K;refine zg 8 rfl (AE (v:= .bool false) rfl (fun ρ h=>Ml (a:=(some ad)) underlying28 (h _ _ rfl) (h _ _ rfl)) ?_);refine zg 5 rfl (KV (pp:=rI) rfl rfl rfl underlying28 AU Y fun a5 g2 ag al=>?_);obtain⟨a6,am,ap⟩:=bs K;refine zg 1 rfl (KG (pp:=rI) 1 am rfl rfl rfl rfl rfl rfl rfl underlying28 underlying28 AU (CS type3) CK rfl (by decide) (by decide) ag V al rfl fun av a0 a1 a2 a3=>?_);refine zg 2 rfl ?_;obtain rfl:=oi ap;exact AA func175 rfl rfl (Z Ar rfl ⟨av,a0,a1,rfl,(by first | rfl | simp | (simp [Value.cells])),a2⟩ a3)
def Tn(fuel:Nat)(p0:List Int):Option ((List Int)):= some ([])
theorem XW{c2:Nat}{p0:List Int}(Z:Am rI E none c2 p0){fuel:Nat}{r:(List Int)}(K:Tn fuel p0=some r):AM J 175 [sV none p0 c2] E [] (fun w E' B'=>∃(O:An) (U:Nat) (g0:Seg),w= sV O r U∧B'=g0∧OL 3 rI E' O U g0 r):=by
 refine A4 func175 fun Q ag cs H V Y=>?_;unfold Tn at K;refine zg 8 rfl (AE (v:= .bool true) rfl (fun ρ h=>Ml (a:=none) underlying28 (h _ _ rfl) (h _ _ rfl)) ?_);refine zg 6 rfl ?_;obtain rfl:=oi K;exact AA func175 rfl rfl (Y Ar rfl ⟨none,0,[],rfl,rfl,OL.nil⟩ V)
def f175(fuel:Nat)(p0:List Int):Option (List Int):=Ls fuel p0
theorem SV{O:An}{c2:Nat}{p0:List Int}(U:Am rI E O c2 p0){fuel:Nat}{r:List Int}(K:f175 fuel p0=some r):AM J 175 [.slice O p0.length c2] E [] (fun w E' B'=>∃(V:An) (Y:Nat) (g0:Seg),w= .slice V r.length Y∧B'=g0∧OL 3 rI E' V Y g0 r):=by
 cases O with
 | some ad=>exact Xn U K
 | none=>
  have Z:p0= []:=by
   rcases U.2 with h | ⟨_,_,h,_⟩
   ·exact h.1
   ·cases h
  subst Z;have ag:r= []:=by
   have al:Ls fuel []=some []:=rfl;unfold f175 at K;rw [al] at K;exact(Option.some.inj K).symm
  subst ag;exact XW (fuel:=fuel) U rfl
end Pal
namespace Pal
open Go Go.Conc Go.Proofs
open Go.Proofs.Tryz
def IG(fuel:Nat)(le:Int)(all:List (Ch))(tr:(Ch))(O:Int):Option (Int×List (Ch)):=
 Option.bind (
  if((all).length:Int)=0 then(
   some true
  ) else(
   some (decide (O<le))
  )
 ) fun U=>
 Option.bind (
  if U=true then(
   some (O,[])
  ) else(
   some (le,all)
  )
 ) fun K=>
 Option.bind (
  if O=K.1 then(
   (De K.2 ([tr]:List (Ch))).bind fun V=>
   some V
  ) else(
   some K.2
  )
 ) fun Y=>
 some (K.1,Y)
theorem Zq{J:Judge Tryz.prog}{E:LH}{bk:Nat}{age:Int}{le:Int}{a:An}{c:Nat}{g:Seg}{all:List (Ch)}(bB:OL 104 Dq E a c g all){Y:An}{Z:Nat}{tr:(Ch)}(bC:Am rI E Y Z tr.2.1){ag:Int}{fuel:Nat}{r:Int×List (Ch)}(a9:IG fuel le all tr ag=some r):
  AM J 122 [pV bk 1,.agg #[iV tr.1,.slice Y tr.2.1.length Z,uV tr.2.2],iV ag] E ([(bk,.cells #[iV age,iV le,.slice a all.length c] 133 (0,0))]++g) (fun w E' B'=>∃bb bd g',w= .tuple #[]∧B'= [(bk,.cells #[iV age,iV r.1,.slice bb r.2.length bd] 133 (0,0))]++g'∧OL 104 Dq E' bb bd g' r.2):=by
 refine A4 func122 fun Q cf cs H a4 bD=>?_;refine DL (S':= [[(bk,.cells #[iV age,iV le,.slice a all.length c] 133 (0,0))],g]) (by simp) a4 fun a4=>?_;unfold IG at a9;refine zg 2 rfl (B7 a4 fun be a5 a6 bE al=>?_);refine zg 6 rfl (BM underlying97 Dv rfl rfl rfl ?_);refine AE (v:= sV a all c) rfl (fun ρ h=>Yl.load ER (h _ _ rfl) (DX (j:=0) (off:=2) al rfl rfl)) (Be underlying95 rfl rfl rfl ?_);obtain⟨bF,bG,bH⟩:=bs a9;refine zg 2 rfl (ED [] (fun L s=>∃(U:LH),Jm a5 H U [bX bk #[iV age,iV le,sV a all c] 133,g] [(0,pV bk 1),(2,iV ag),(4,pV be 0),(19,.bool bF)] L s) ?_ ?_)
 ·rintro _ _ ⟨U,rfl,rfl,am,bi⟩;obtain⟨V,bI,bJ⟩:=bs bH;refine JL.done (Bp (fun L s=>∃(K:LH) (ap:An) (av:Nat) (a0:Seg),Jn U H K [bX bk #[iV age,iV V.1,sV ap V.2 av] 133,a0] [(0,pV bk 1),(2,iV ag),(4,pV be 0)] L s (OL 104 Dq K ap av a0 V.2)) ?_ ?_)
  ·rintro _ _ ⟨K,ap,av,a0,rfl,rfl,a7,O,bo⟩;refine zg 5 rfl (BM underlying97 AU rfl rfl rfl ?_);refine AE (v:=iV V.1) rfl (fun ρ h=>Yl.load Bt (h _ _ rfl) (DX (j:=0) (off:=1) O rfl rfl)) ?_;obtain⟨bv,bK,bL⟩:=bs bJ;refine zg 2 rfl (Bp (fun L s=>∃(a8:LH) (a1:An) (a2:Nat) (a3:Seg),Jn K H a8 [bX bk #[iV age,iV V.1,sV a1 bv a2] 133,a3] [] L s (OL 104 Dq a8 a1 a2 a3 bv)) ?_ ?_)
   ·rintro _ _ ⟨a8,a1,a2,a3,rfl,rfl,bM,bN,bO⟩;obtain rfl:=oi bL;exact JL.fin (v:= .tuple #[]) rfl rfl (Cs.list func122 rfl (vs:= []) trivial) (bD (((a6.Ac am).Ac a7).Ac bM) rfl ⟨a1,a2,a3,rfl,by simp,bO⟩ bN)
   ·intro bw;refine AL bK (fun bP bQ=>?_) (fun bP bR=>?_)
    ·refine Dj 8 [bk] ⟨⟨0,_,rfl⟩,trivial⟩ O fun ht=>A0 ht rfl [0,1,2] rfl (Cc 3 ht underlying97 Dv rfl rfl rfl rfl ?_);refine Fi 4 ht 2 0 O ER ?_;refine BC 5 ht rfl rfl (fun ρ h s' hs=>FY (vs:= [iV tr.1,sV Y tr.2.1 Z,uV tr.2.2]) FU Cv (h _ _ rfl) (At.O0 (bE.Ah (am.Ac a7)) (Ps O hs ⟨⟨0,_,rfl⟩,trivial⟩))) ?_;obtain⟨cg,bS,bT⟩:=bs bQ;refine JG.one (i:=6) rfl (by decide+kernel) (Take.lit (pp:=Dq) (jp:=0) [.agg #[iV tr.1,sV Y tr.2.1 Z,uV tr.2.2]] ([tr]:List Ch) O rfl rfl rfl rfl underlying95 Cv GV (by decide) rfl rfl rfl ⟨⟨_,_,rfl,rfl,⟨_,_,rfl,⟨_,_,rfl,(bC.Ah ((a6.Ac am).Ac a7))⟩,rfl⟩⟩,trivial⟩ fun ci ck bU bV=>?_);refine JG.one (i:=7) rfl (by decide+kernel) (Take.app (pp:=Dq) (jp:=0) 1 2 bV rfl bS rfl rfl rfl rfl rfl rfl rfl underlying95 underlying95 Cv (CS type104) GV rfl (by decide) (by decide) bo bU rfl rfl rfl rfl fun bW bY cm bZ b0 b1=>?_);refine Co [8,9,10] (ES 1 rfl b1 fun b2=>?_);refine JS.drop 1 b2 rfl fun b3=>zg 1 rfl (BM underlying97 Dv rfl rfl rfl ?_);refine BY 0 b3 Dv fun b4=>?_;refine JL.done (JS.drop 2 b4 rfl fun b5=>?_);obtain rfl:=oi bT;exact Ax (bw _ _ ⟨K,bW,bY,bZ,rfl,rfl,Ar,b5,b0⟩) rfl
    ·refine JL.skip ?_;obtain rfl:=oi bR;exact Ax (bw _ _ ⟨K,ap,av,a0,rfl,rfl,Ar,O,bo⟩) rfl
  ·intro bz;refine BJ bI (fun b6 b7=>?_) (fun b6 b8=>?_)
   ·refine zg 5 rfl (BM underlying97 AU rfl rfl rfl ?_);refine BY 0 bi AU fun b9=>?_;refine zg 1 rfl (BM underlying97 Dv rfl rfl rfl ?_);refine BY 0 b9 Dv fun ca=>?_;refine JL.done (JS.drop 1 ca rfl fun cb=>?_);obtain rfl:=oi b7;exact Ax (bz _ _ ⟨U,none,0,[],rfl,rfl,Ar,cb,OL.nil⟩) rfl
   ·refine JL.skip ?_;obtain rfl:=oi b8;exact Ax (bz _ _ ⟨U,a,c,g,rfl,rfl,Ar,bi,(bB.Ah (a6.Ac am))⟩) rfl
 ·intro bA;refine Eo 12 bG (fun cc cd=>?_) (fun cc ce=>?_)
  ·refine zg 7 rfl ?_;obtain rfl:=oi cd;exact Ax (bA _ _ ⟨a5,rfl,rfl,Ar,al⟩) rfl
  ·refine zg 3 rfl (BM underlying97 AU rfl rfl rfl ?_);refine AE (v:=iV le) rfl (fun ρ h=>Yl.load Bt (h _ _ rfl) (DX (j:=0) (off:=1) al rfl rfl)) (zg 2 rfl ?_);obtain rfl:=oi ce;exact Ax (bA _ _ ⟨a5,rfl,rfl,Ar,al⟩) rfl
theorem ZX{J:Judge Tryz.prog}{E:LH}{bk:Nat}{age:Int}{le:Int}{a:An}{c:Nat}{g:Seg}{all:List (Ch)}(bB:OL 104 Dq E a c g all){Y:An}{Z:Nat}{tr:(Ch)}(bC:Am rI E Y Z tr.2.1){ag:Int}{fuel:Nat}{r:Int×List (Ch)}(a9:IG fuel le all tr ag=some r):
  AM J 122 [pV bk 0,.agg #[iV tr.1,.slice Y tr.2.1.length Z,uV tr.2.2],iV ag] E ([(bk,.cells #[iV le,.slice a all.length c] 97 (0,0))]++g) (fun w E' B'=>∃bb bd g',w= .tuple #[]∧B'= [(bk,.cells #[iV r.1,.slice bb r.2.length bd] 97 (0,0))]++g'∧OL 104 Dq E' bb bd g' r.2):=by
 refine A4 func122 fun Q cf cs H a4 bD=>?_;refine DL (S':= [[(bk,.cells #[iV le,.slice a all.length c] 97 (0,0))],g]) (by simp) a4 fun a4=>?_;unfold IG at a9;refine zg 2 rfl (B7 a4 fun be a5 a6 bE al=>?_);refine zg 6 rfl (BM underlying97 Dv rfl rfl rfl ?_);refine AE (v:= sV a all c) rfl (fun ρ h=>Yl.load ER (h _ _ rfl) (DX (j:=0) (off:=1) al rfl rfl)) (Be underlying95 rfl rfl rfl ?_);obtain⟨bF,bG,bH⟩:=bs a9;refine zg 2 rfl (ED [] (fun L s=>∃(U:LH),Jm a5 H U [bX bk #[iV le,sV a all c] 97,g] [(0,pV bk 0),(2,iV ag),(4,pV be 0),(19,.bool bF)] L s) ?_ ?_)
 ·rintro _ _ ⟨U,rfl,rfl,am,bi⟩;obtain⟨V,bI,bJ⟩:=bs bH;refine JL.done (Bp (fun L s=>∃(K:LH) (ap:An) (av:Nat) (a0:Seg),Jn U H K [bX bk #[iV V.1,sV ap V.2 av] 97,a0] [(0,pV bk 0),(2,iV ag),(4,pV be 0)] L s (OL 104 Dq K ap av a0 V.2)) ?_ ?_)
  ·rintro _ _ ⟨K,ap,av,a0,rfl,rfl,a7,O,bo⟩;refine zg 5 rfl (BM underlying97 AU rfl rfl rfl ?_);refine AE (v:=iV V.1) rfl (fun ρ h=>Yl.load Bt (h _ _ rfl) (DX (j:=0) (off:=0) O rfl rfl)) ?_;obtain⟨bv,bK,bL⟩:=bs bJ;refine zg 2 rfl (Bp (fun L s=>∃(a8:LH) (a1:An) (a2:Nat) (a3:Seg),Jn K H a8 [bX bk #[iV V.1,sV a1 bv a2] 97,a3] [] L s (OL 104 Dq a8 a1 a2 a3 bv)) ?_ ?_)
   ·rintro _ _ ⟨a8,a1,a2,a3,rfl,rfl,bM,bN,bO⟩;obtain rfl:=oi bL;exact JL.fin (v:= .tuple #[]) rfl rfl (Cs.list func122 rfl (vs:= []) trivial) (bD (((a6.Ac am).Ac a7).Ac bM) rfl ⟨a1,a2,a3,rfl,by simp,bO⟩ bN)
   ·intro bw;refine AL bK (fun bP bQ=>?_) (fun bP bR=>?_)
    ·refine Dj 8 [bk] ⟨⟨0,_,rfl⟩,trivial⟩ O fun ht=>A0 ht rfl [0,1,2] rfl (Cc 3 ht underlying97 Dv rfl rfl rfl rfl ?_);refine Fi 4 ht 1 0 O ER ?_;refine BC 5 ht rfl rfl (fun ρ h s' hs=>FY (vs:= [iV tr.1,sV Y tr.2.1 Z,uV tr.2.2]) FU Cv (h _ _ rfl) (At.O0 (bE.Ah (am.Ac a7)) (Ps O hs ⟨⟨0,_,rfl⟩,trivial⟩))) ?_;obtain⟨cg,bS,bT⟩:=bs bQ;refine JG.one (i:=6) rfl (by decide+kernel) (Take.lit (pp:=Dq) (jp:=0) [.agg #[iV tr.1,sV Y tr.2.1 Z,uV tr.2.2]] ([tr]:List Ch) O rfl rfl rfl rfl underlying95 Cv GV (by decide) rfl rfl rfl ⟨⟨_,_,rfl,rfl,⟨_,_,rfl,⟨_,_,rfl,(bC.Ah ((a6.Ac am).Ac a7))⟩,rfl⟩⟩,trivial⟩ fun ci ck bU bV=>?_);refine JG.one (i:=7) rfl (by decide+kernel) (Take.app (pp:=Dq) (jp:=0) 1 2 bV rfl bS rfl rfl rfl rfl rfl rfl rfl underlying95 underlying95 Cv (CS type104) GV rfl (by decide) (by decide) bo bU rfl rfl rfl rfl fun bW bY cm bZ b0 b1=>?_);refine Co [8,9,10] (ES 1 rfl b1 fun b2=>?_);refine JS.drop 1 b2 rfl fun b3=>zg 1 rfl (BM underlying97 Dv rfl rfl rfl ?_);refine BY 0 b3 Dv fun b4=>?_;refine JL.done (JS.drop 2 b4 rfl fun b5=>?_);obtain rfl:=oi bT;exact Ax (bw _ _ ⟨K,bW,bY,bZ,rfl,rfl,Ar,b5,b0⟩) rfl
    ·refine JL.skip ?_;obtain rfl:=oi bR;exact Ax (bw _ _ ⟨K,ap,av,a0,rfl,rfl,Ar,O,bo⟩) rfl
  ·intro bz;refine BJ bI (fun b6 b7=>?_) (fun b6 b8=>?_)
   ·refine zg 5 rfl (BM underlying97 AU rfl rfl rfl ?_);refine BY 0 bi AU fun b9=>?_;refine zg 1 rfl (BM underlying97 Dv rfl rfl rfl ?_);refine BY 0 b9 Dv fun ca=>?_;refine JL.done (JS.drop 1 ca rfl fun cb=>?_);obtain rfl:=oi b7;exact Ax (bz _ _ ⟨U,none,0,[],rfl,rfl,Ar,cb,OL.nil⟩) rfl
   ·refine JL.skip ?_;obtain rfl:=oi b8;exact Ax (bz _ _ ⟨U,a,c,g,rfl,rfl,Ar,bi,(bB.Ah (a6.Ac am))⟩) rfl
 ·intro bA;refine Eo 12 bG (fun cc cd=>?_) (fun cc ce=>?_)
  ·refine zg 7 rfl ?_;obtain rfl:=oi cd;exact Ax (bA _ _ ⟨a5,rfl,rfl,Ar,al⟩) rfl
  ·refine zg 3 rfl (BM underlying97 AU rfl rfl rfl ?_);refine AE (v:=iV le) rfl (fun ρ h=>Yl.load Bt (h _ _ rfl) (DX (j:=0) (off:=0) al rfl rfl)) (zg 2 rfl ?_);obtain rfl:=oi ce;exact Ax (bA _ _ ⟨a5,rfl,rfl,Ar,al⟩) rfl
end Pal
namespace Pal
open Go Go.Conc Go.Proofs
open Go.Proofs.Tryz
def Lx(fuel:Nat)(O:BZ)(lk:AI)(age:Int)(ms:List Int)(fl:Nat)(m:Int):Option (Option (List Int×Nat)):=
 (Lj fuel (O,lk,age,ms,fl) ((ms).length:Int) m).bind fun K=>
 if(!K.2)=true then(
  some none
 ) else(
  (f175 fuel ms).bind fun U=>
  (De U ([m]:List Int)).bind fun V=>
  (Jk (fl) (K.1)).bind fun Y=>
  some (some (V,Y))
 )
theorem YM{J:Judge Tryz.prog}{A:Type}{I:A→LH→Seg→Prop}(b3:∀x E E' X,Le E E'→I x E X→I x E' X){E:LH}{bk k1 o2:Nat}{bH bI K Z:An}{bJ bK O ag:Nat}{bL:List Value}{av:BZ}{lk:AI}{age:Int}{ms:List Int}{fl:Nat}(b4:At E k1 o2 (([sV bH av.1 bJ,sV bI av.2.1 bK]:List Value)++bL))(b5:Am (rL rI) E bH bJ av.1)(b6:Am (rL rI) E bI bK av.2.1)(b7:(rA 13 (rN .u16)).r E bL av.2.2)(b8:Am Bo E K O lk)(bi:Am rI E Z ag ms){bM:Value}{X:Seg}{acc acc':A}(b9:I acc E X){m:Int}{fuel:Nat}{r:Option (List Int×Nat)}(bN:Lx fuel av lk age ms fl m=some r)
  (ca:r=none→acc'=acc)
  (bO:∀q,r=some q→∀E' a c,Le E E'→Am rI E' a c q.1→EW J bM [] E' ([(bk,.cells #[pV k1 o2,.slice K lk.length O,iV age,.slice a q.1.length c,uV q.2] 175 (0,0))]++X) (fun w cb cc=>∃a4 a5 a6 Y,w= .bool true∧cc= [(bk,.cells #[pV k1 o2,.slice K lk.length O,a4,a5,a6] 175 (0,0))]++Y∧I acc' cb Y)):
  AM J 155 [pV bk 0,iV m,bM] E ([(bk,.cells #[pV k1 o2,.slice K lk.length O,iV age,.slice Z ms.length ag,uV fl] 175 (0,0))]++X) (fun w E' B'=>∃Y,w= .bool true∧B'= [(bk,.cells #[pV k1 o2,.slice K lk.length O,iV age,.slice Z ms.length ag,uV fl] 175 (0,0))]++Y∧I acc' E' Y):=by
 refine A4 func155 fun Q bP cs H bo bv=>?_;refine DL (S':= [[(bk,.cells #[pV k1 o2,.slice K lk.length O,iV age,.slice Z ms.length ag,uV fl] 175 (0,0))],X]) (by simp) bo fun bo=>?_;unfold Lx at bN;refine zg 2 rfl (B7 bo fun a0 c4 U am a7=>?_);refine zg 3 rfl (Dj 13 [bk] ⟨⟨0,_,rfl⟩,trivial⟩ a7 fun ht=>?_);refine JG.lp 0 ht 0 am a7 ⟨⟨0,_,rfl⟩,trivial⟩ FI ?_;refine JG.lp 1 ht 0 am a7 ⟨⟨0,_,rfl⟩,trivial⟩ FI ?_;refine Cb 2 ht rfl rfl (Cc 3 ht underlying175 Cv rfl rfl rfl rfl ?_);refine Cc 4 ht underlying104 BT rfl rfl rfl rfl (Fi 5 ht 3 0 a7 CF ?_);refine BC 6 ht rfl rfl (fun ρ h s' hs=>Yl.len rfl underlying28 (h _ _ rfl)) (Cb 7 ht rfl rfl ?_);obtain⟨cd,ce,cf⟩:=bs bN;refine QH (i:=8) (vs:= [pV bk 0,iV (ms.length:Int),iV m]) 0 ⟨⟨0,_,rfl⟩,trivial⟩ (Yz (b4.Ah U) (b5.Ah U) (b6.Ah U) (Rp.Ah _ U b7) (b8.Ah U) (bi.Ah U) ce) (fun _ _ _ h=>h.2) (by decide+kernel) rfl rfl rfl (AR func174 rfl) rfl a7 rfl ?_;rintro _ c5 V ⟨rfl,_⟩ bw;refine A0 ht rfl [9,10,11,12] rfl (Co [13] ?_);refine zg 6 rfl (AE (v:= .bool (!cd.2)) rfl (fun ρ h=>Yl.not (h _ _ rfl)) ?_);refine JL.done (BJ cf (fun cg ci=>?_) (fun cg ck=>?_))
 ·refine zg 4 rfl ?_;obtain rfl:=oi ci;exact AA func155 rfl rfl (bv (U.Ac V) rfl ⟨X,rfl,by simp,by rw [ca rfl];exact b3 _ _ _ _ (U.Ac V) b9⟩ bw)
 ·refine zg 3 rfl (BH 0 (am.Ah V) FI rfl rfl rfl ?_);refine zg 1 rfl (BM underlying175 Cv rfl rfl rfl ?_);refine AE rfl (fun ρ h=>FY (vs:= [iV age,sV Z ms ag,uV fl]) FU Cv (h _ _ rfl) (FV (off:=2) 0 bw rfl rfl)) (CU bw GV fun a1 cm=>?_);refine BY 3 cm Cv fun cn=>?_;refine C3 3 cn rfl fun c6 al bz co=>Cu (S':= [[(bk,.cells #[pV k1 o2,sV K lk O,iV age,sV Z ms ag,uV fl] 175 (0,0))],X,[],[]]) rfl co fun bQ=>zg 2 rfl (C7 7 fun ht=>?_);refine Cy 0 ht 0 (am.Ah (V.Ac al)) FI rfl rfl rfl rfl (Cc 1 ht underlying104 BT rfl rfl rfl rfl ?_);refine Cy 2 ht 1 bz CF rfl rfl rfl rfl (Cb 4 ht rfl rfl ?_);obtain⟨c7,bR,cp⟩:=bs ck;obtain⟨a2,bS,bT⟩:=bs cp;refine I7 (i:=3) (j:=5) rfl (by decide+kernel) ?_ ?_
  ·refine Take.HW (vs:= [sV Z ms ag]) bQ (SV (bi.Ah ((U.Ac V).Ac al)) bR) rfl rfl rfl (AR func175 rfl) rfl ?_;rintro _ c8 _ a8 ⟨c9,da,db,rfl,rfl,cq⟩ cr;refine JG.one (i:=5) rfl (by decide+kernel) (Take.NP (pp:=rI) [iV m] ([m]:List Int) cr rfl rfl rfl underlying28 AU CK (by decide) rfl rfl rfl ⟨rfl,trivial⟩ fun dc bU ct cu=>?_);refine JG.one (i:=6) rfl (by decide+kernel) (Take.app0 (pp:=rI) 4 5 cu bS rfl rfl rfl rfl rfl rfl rfl underlying28 underlying28 AU (CS type3) CK rfl (by decide) (by decide) cq ct rfl rfl fun bV bW dd cv cw cy=>?_);refine Co [7,8,9,10] (ES 4 rfl cy fun cz=>?_);refine JS.drop 4 cz rfl fun cA=>Cu (S':= [[(bk,.cells #[pV k1 o2,sV K lk O,iV age,sV Z ms ag,uV fl] 175 (0,0))],X,[],[],[],bU,cv]) rfl cA fun cB=>zg 1 rfl (BM underlying175 Cv rfl rfl rfl ?_);refine BM underlying104 BT rfl rfl rfl (BY 0 cB BT fun bY=>?_);refine zg 3 rfl (BH 0 (am.Ah ((V.Ac al).Ac a8)) FI rfl rfl rfl ?_);refine zg 1 rfl (BM underlying175 Cv rfl rfl rfl ?_);refine BM underlying104 En rfl rfl rfl (AE (v:= uV fl) rfl (fun ρ h=>Yl.load GR (h _ _ rfl) (DX (j:=0) (off:=4) bY rfl rfl)) ?_);obtain⟨a9,cC,cD⟩:=bs bT;refine zg 1 rfl (AE (v:= uV a9) rfl (fun ρ h=>KB (h _ _ rfl) (h _ _ rfl) cC) ?_);refine zg 1 rfl (BM underlying175 Cv rfl rfl rfl ?_);refine BM underlying104 En rfl rfl rfl (BY 0 bY En fun cE=>?_);refine zg 2 rfl (B6 6 cw cE rfl fun de bb cF cG=>?_);refine Cu (S':= [[(bk,.cells #[pV k1 o2,sV K lk O,iV age,sV bV a2 bW,uV a9] 175 (0,0))],X,[],[],[],bU,[]]) rfl cG fun cH=>JS.drop 5 cH rfl fun cI=>?_;obtain rfl:=oi cD;refine JL.region (AE (v:= .func (.func 176) #[] [pV a1 0,pV a0 0].toArray) rfl (fun ρ h=>IV (by simp) (by simp [h (.tmp 9) _ rfl,h (.tmp 3) _ rfl])) ?_);refine QA (vs:= []) (caps:= [pV a1 0,pV a0 0]) rfl rfl rfl rfl rfl rfl (zg 4 rfl ?_);refine DL (S':= [[(bk,.cells #[pV k1 o2,sV K lk O,iV age,sV bV a2 bW,uV a9] 175 (0,0))]++X]) (by simp) cI fun bA=>Jw (vs:= []) 0 (bO (a2,a9) rfl _ _ _ ((((U.Ac V).Ac al).Ac a8).Ac bb) cF) rfl rfl rfl rfl rfl bA rfl ?_;rintro _ cJ _ ap ⟨a4,a5,a6,Y,rfl,rfl,bB⟩ bC;refine zg 2 rfl (Hn rfl ?_);refine JO.Tb (vs:= []) (caps:= [pV a1 0,pV a0 0]) rfl func176 rfl rfl (Nat.le_of_ble_eq_true rfl) fun T bD todo=>DL (S':= [[(bk,.cells #[pV k1 o2,.slice K lk.length O,a4,a5,a6] 175 (0,0))],Y]) (by simp) bC fun bE=>JL.region (BH 0 (am.Ah ((((V.Ac al).Ac a8).Ac bb).trans ap)) FI rfl rfl rfl ?_);refine BQ (bz.Ah ((a8.Ac bb).trans ap)) FU Cv rfl rfl (zg 1 rfl ?_);refine BM underlying175 Cv rfl rfl rfl (BY 0 bE Cv fun bF=>?_);refine Cu (S':= [[(bk,.cells #[pV k1 o2,.slice K lk.length O,iV age,.slice Z ms.length ag,uV fl] 175 (0,0))],Y]) rfl bF fun bG=>JL.done (JL.out rfl ?_);refine JO.leaveD rfl func176 rfl (.inl rfl) ?_;refine(?_:JO J Q (base 155) Tryz.f155.ntmps _ [] (bP::cs) _) T bD todo;exact JO.leave (v:= .bool true) rfl (Cs.list func155 rfl (vs:= [.bool true]) ⟨rfl,trivial⟩) (bv (((((U.Ac V).Ac al).Ac a8).Ac bb).trans ap) rfl ⟨Y,rfl,by simp,bB⟩ bG)
  ·refine Take.NP (pp:=rI) [iV m] ([m]:List Int) bQ rfl rfl rfl underlying28 AU CK (by decide) rfl rfl rfl ⟨rfl,trivial⟩ fun df bZ cK cM=>JG.one (i:=3) rfl (by decide+kernel) (Take.HW (vs:= [sV Z ms ag]) cM (SV (bi.Ah ((U.Ac V).Ac al)) bR) rfl rfl rfl (AR func175 rfl) rfl ?_);rintro _ dg _ a3 ⟨dh,di,dj,rfl,rfl,cN⟩ cO;refine JG.one (i:=6) rfl (by decide+kernel) (Take.app0 (pp:=rI) 5 4 cO bS rfl rfl rfl rfl rfl rfl rfl underlying28 underlying28 AU (CS type3) CK rfl (by decide) (by decide) cN (cK.Ah a3) rfl rfl fun b0 b1 dk cP cQ cR=>?_);refine Co [7,8,9,10] (ES 5 rfl cR fun cT=>?_);refine JS.drop 5 cT rfl fun cV=>Cu (S':= [[(bk,.cells #[pV k1 o2,sV K lk O,iV age,sV Z ms ag,uV fl] 175 (0,0))],X,[],[],bZ,[],cP]) rfl cV fun cW=>zg 1 rfl (BM underlying175 Cv rfl rfl rfl ?_);refine BM underlying104 BT rfl rfl rfl (BY 0 cW BT fun b2=>?_);refine zg 3 rfl (BH 0 (am.Ah ((V.Ac al).Ac a3)) FI rfl rfl rfl ?_);refine zg 1 rfl (BM underlying175 Cv rfl rfl rfl ?_);refine BM underlying104 En rfl rfl rfl (AE (v:= uV fl) rfl (fun ρ h=>Yl.load GR (h _ _ rfl) (DX (j:=0) (off:=4) b2 rfl rfl)) ?_);obtain⟨bd,cX,cY⟩:=bs bT;refine zg 1 rfl (AE (v:= uV bd) rfl (fun ρ h=>KB (h _ _ rfl) (h _ _ rfl) cX) ?_);refine zg 1 rfl (BM underlying175 Cv rfl rfl rfl ?_);refine BM underlying104 En rfl rfl rfl (BY 0 b2 En fun cZ=>?_);refine zg 2 rfl (B6 6 cQ cZ rfl fun dl be c0 c1=>?_);refine Cu (S':= [[(bk,.cells #[pV k1 o2,sV K lk O,iV age,sV b0 a2 b1,uV bd] 175 (0,0))],X,[],[],bZ,[],[]]) rfl c1 fun c2=>JS.drop 4 c2 rfl fun c3=>?_;obtain rfl:=oi cY;refine JL.region (AE (v:= .func (.func 176) #[] [pV a1 0,pV a0 0].toArray) rfl (fun ρ h=>IV (by simp) (by simp [h (.tmp 9) _ rfl,h (.tmp 3) _ rfl])) ?_);refine QA (vs:= []) (caps:= [pV a1 0,pV a0 0]) rfl rfl rfl rfl rfl rfl (zg 4 rfl ?_);refine DL (S':= [[(bk,.cells #[pV k1 o2,sV K lk O,iV age,sV b0 a2 b1,uV bd] 175 (0,0))]++X]) (by simp) c3 fun bA=>Jw (vs:= []) 0 (bO (a2,bd) rfl _ _ _ ((((U.Ac V).Ac al).Ac a3).Ac be) c0) rfl rfl rfl rfl rfl bA rfl ?_;rintro _ cJ _ ap ⟨a4,a5,a6,Y,rfl,rfl,bB⟩ bC;refine zg 2 rfl (Hn rfl ?_);refine JO.Tb (vs:= []) (caps:= [pV a1 0,pV a0 0]) rfl func176 rfl rfl (Nat.le_of_ble_eq_true rfl) fun T bD todo=>DL (S':= [[(bk,.cells #[pV k1 o2,.slice K lk.length O,a4,a5,a6] 175 (0,0))],Y]) (by simp) bC fun bE=>JL.region (BH 0 (am.Ah ((((V.Ac al).Ac a3).Ac be).trans ap)) FI rfl rfl rfl ?_);refine BQ (bz.Ah ((a3.Ac be).trans ap)) FU Cv rfl rfl (zg 1 rfl ?_);refine BM underlying175 Cv rfl rfl rfl (BY 0 bE Cv fun bF=>?_);refine Cu (S':= [[(bk,.cells #[pV k1 o2,.slice K lk.length O,iV age,.slice Z ms.length ag,uV fl] 175 (0,0))],Y]) rfl bF fun bG=>JL.done (JL.out rfl ?_);refine JO.leaveD rfl func176 rfl (.inl rfl) ?_;refine(?_:JO J Q (base 155) Tryz.f155.ntmps _ [] (bP::cs) _) T bD todo;exact JO.leave (v:= .bool true) rfl (Cs.list func155 rfl (vs:= [.bool true]) ⟨rfl,trivial⟩) (bv (((((U.Ac V).Ac al).Ac a3).Ac be).trans ap) rfl ⟨Y,rfl,by simp,bB⟩ bG)
end Pal
namespace Pal
open Go Go.Conc Go.Proofs
open Go.Proofs.Tryz
def LF(fuel:Nat)(K:BZ)(lk:AI)(age:Int)(ms:List Int)(fl:Nat)(n:Int):Option (Nat):=
 (ix K.1 (n)).bind fun O=>
 (f120 fuel O).bind fun U=>
 some U
theorem bp{J:Judge Tryz.prog}{E:LH}{bk k1 o2:Nat}{a0 a1 O U:An}{a2 a3 V Y:Nat}{a4:List Value}{Z:BZ}{lk:AI}{age:Int}{ms:List Int}{fl:Nat}(a8:At E k1 o2 (([sV a0 Z.1 a2,sV a1 Z.2.1 a3]:List Value)++a4))(a9:Am (rL rI) E a0 a2 Z.1)(bO:Am (rL rI) E a1 a3 Z.2.1)(bP:(rA 13 (rN .u16)).r E a4 Z.2.2)(bQ:Am Bo E O V lk)(bR:Am rI E U Y ms){ag al:Nat}(bb:At E ag al [pV bk 0]){ap av kf am:Nat}(bd:At E kf am [.func (.func 153) #[] [pV ag al,pV ap av,pV kf am].toArray]){a5 on:Nat}{n:Int}(be:At E a5 on [iV n]){X:Seg}{fuel:Nat}{r:Nat}(a6:LF fuel Z lk age ms fl n=some r){R:Value→LH→Seg→Prop}
  (bi:∀E',Le E E'→AM J 153 [uV r,pV ag al,pV ap av,pV kf am] E' ([(bk,.cells #[pV k1 o2,.slice O lk.length V,iV age,.slice U ms.length Y,uV fl] 175 (0,0))]++X) R):
  AM J 156 [pV kf am,pV ag al,pV a5 on] E ([(bk,.cells #[pV k1 o2,.slice O lk.length V,iV age,.slice U ms.length Y,uV fl] 175 (0,0))]++X) R:=by
 refine J2 func156 rfl rfl fun Q bS cs H K bo=>DL (S':= [[(bk,.cells #[pV k1 o2,.slice O lk.length V,iV age,.slice U ms.length Y,uV fl] 175 (0,0))],X]) (by simp) K fun K=>?_;unfold LF at a6;refine zg 5 rfl (Dj 13 [bk] ⟨⟨0,_,rfl⟩,trivial⟩ K fun ht=>?_);refine JG.lp 0 ht 0 bd K ⟨⟨0,_,rfl⟩,trivial⟩ (DM underlying201) ?_;refine JG.lp 1 ht 0 bb K ⟨⟨0,_,rfl⟩,trivial⟩ FI ?_;refine Cb 2 ht rfl rfl (Cc 3 ht underlying175 Oa rfl rfl rfl rfl ?_);refine Fi 4 ht 0 0 K LX ?_;refine Cb 5 ht rfl rfl (Cc 6 ht underlying141 BD rfl rfl rfl rfl ?_);refine Cc 7 ht underlying24 BP rfl rfl rfl rfl (JG.lp 8 ht 0 a8 K ⟨⟨0,_,rfl⟩,trivial⟩ Cn ?_);refine JG.lp 9 ht 0 be K ⟨⟨0,_,rfl⟩,trivial⟩ Bt ?_;obtain⟨bv,bw,bz⟩:=bs a6;refine CG 10 a9 bw ht underlying22 BT ?_;rintro bT bU _ ⟨bA,c4,rfl,bB⟩ bC;refine JG.lp 11 ht 0 bC K ⟨⟨0,_,rfl⟩,trivial⟩ CF ?_;obtain⟨bD,bE,bF⟩:=bs bz;refine Rb (i:=12) ⟨⟨0,_,rfl⟩,trivial⟩ (vs:= [sV bA bv c4]) (J5 bB bE) (by decide+kernel) rfl rfl rfl Jo rfl K ?_;rintro _ bG _ a7 ⟨rfl,rfl⟩ bH;refine Co [13,14] ?_;obtain rfl:=oi bF;refine DL (S':= [[(bk,.cells #[pV k1 o2,.slice O lk.length V,iV age,.slice U ms.length Y,uV fl] 175 (0,0))]++X]) (by simp) bH fun bI=>?_;have bJ:EW J (.func (.func 153) #[] [pV ag al,pV ap av,pV kf am].toArray) [uV bD] bG ([(bk,.cells #[pV k1 o2,.slice O lk.length V,iV age,.slice U ms.length Y,uV fl] 175 (0,0))]++X) R:=EW.ofFn (caps:= [pV ag al,pV ap av,pV kf am]) (AR func153 rfl) (bi _ a7);refine Jw 0 bJ rfl rfl rfl rfl rfl bI rfl ?_;rintro w bV bK bL bM bN;refine zg 2 rfl (AA func156 rfl rfl ?_);exact bo _ _ _ bK (a7.Ac bL) (by simp) bM bN
end Pal
