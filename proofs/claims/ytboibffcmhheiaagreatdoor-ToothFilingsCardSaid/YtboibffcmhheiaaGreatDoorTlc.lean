/- toothFilings_card. Part 3 of 8. -/
import Derived.Test.YtboibffcmhheiaaGreatDoorTla
import Derived.Test.YtboibffcmhheiaaGreatDoorTlb
import Derived.Test.YtboibffcmhheiaaGreatDoorRows
import Derived.Test.YtboibffcmhheiaaGreatDoorChecked
import Derived.Conc.LeavingOf
import Derived.Conc.Holds
import Derived.Carry
import Derived.ChangeSame
import Derived.ChangeVars
import Derived.JoinedOf
import Derived.RowKit
import Derived.LaidLaws
import Derived.LaidHandle
import Derived.Stop.Joined
import Derived.Test.YtboibffcmhheiaaGreatDoorProg
import Derived.ProofKit
set_option linter.all false
set_option maxRecDepth 100000
namespace Pal
open Go Go.Conc
section
variable {P:Program}(J:Judge P)(Q:Goroutine→St→Prop)(b:Frame)(ds:List Deferred)(ops:Array Oper)(k:List Item)(cs:List Frame)(X D:Nat→Bool)
def JB:Nat→Array Bool→Array Value→St→Prop
 | 0,listed,T,s=>Region.ready .any ops listed= []∧J.ok Q (G (fr b T ds (.inRegion ops []::k)) cs) s
 | fuel+1,listed,T,s=>
  Region.ready .any ops listed≠ []∧s.q=false∧∀i∈Region.ready .any ops listed,∀o,ops[i]? =some o→(∀c,o.op≠ .defer c)∧
   (Region.wanted o (yielded ops T)=false→JB fuel (Be listed i) (CH T o.dst undef) s)∧
   (Region.wanted o (yielded ops T)=true→X i=true→lp P (execOp (BL T) o) s (fun nx s'=>match nx with
    | .value v=>JB fuel (Be listed i) (CH T o.dst v) s'
    | .skip=>JB fuel (Be listed i) (CH T o.dst undef) s'
    | _=>False) (fun _ _=>False))∧
   (Region.wanted o (yielded ops T)=true→X i=false→lp P (execOp (BL T) o) (BI D s) (fun nx s'=>match nx with
    | .value v=>JB fuel (Be listed i) (CH T o.dst v) (CE D s s')
    | .skip=>JB fuel (Be listed i) (CH T o.dst undef) (CE D s s')
    | _=>False) (fun _ _=>False))
variable {J Q b ds ops k cs X D}
theorem Wr(V:b.kind≠ .early):∀(fuel t:Nat) (listed:Array Bool) (T:Array Value) (s:St),JB J Q b ds ops k cs X D fuel listed T s→
  J.ok Q (G (fr b T ds (.inRegion ops (Region.linearise.go .any ops fuel t listed [])::k)) cs) s:=by
 intro fuel
 induction fuel with
 | zero=>intro t listed T s h;simpa [Region.linearise.go] using h.2
 | succ fuel O=>
  intro t listed T s h;obtain⟨al,am,h⟩:=h;obtain⟨i,hi⟩:∃i,(Region.ready .any ops listed)[t % (Region.ready .any ops listed).length]? =some i:=by
   have:0<(Region.ready .any ops listed).length:=List.length_pos_iff.2 al;exact⟨_,List.getElem?_eq_getElem (Nat.mod_lt _ this)⟩
  have Y:=List.mem_of_getElem? hi;have hgo:Region.linearise.go .any ops (fuel+1) t listed []=i::Region.linearise.go .any ops fuel (t / (Region.ready .any ops listed).length) (Be listed i) []:=by
   simp only [Region.linearise.go];change (match(Region.ready .any ops listed)[t % (Region.ready .any ops listed).length]? with
    | some i=>Region.linearise.go .any ops fuel (t / (Region.ready .any ops listed).length) (listed.setIfInBounds i true) [i]
    | none=> [].reverse)=_
   rw [hi];simp only;rw [linearise_go_acc];rfl
  rw [hgo];obtain⟨_,o,U,_⟩:=mem_ready.1 Y;obtain⟨Z,ap,av,aY⟩:=h i Y o U;cases hw:Region.wanted o (yielded ops T) with
  | false=>exact Judge.unwanted U hw (O _ _ _ _ (ap hw))
  | true=>
   cases ag:X i with
   | true=>
    refine Judge.oper U hw V (.inr Z) (Dq _ (av hw ag) ?_ (fun _ _ h=>h.elim));intro nx s' K;cases nx with
    | value v=>exact O _ _ _ _ K
    | skip=>exact O _ _ _ _ K
    | _=>exact K.elim
   | false=>
    refine Judge.RF D U hw V Z am (Dq _ (aY hw ag) ?_ (fun _ _ h=>h));intro nx s' K;cases nx with
    | value v=>exact O _ _ _ _ K
    | skip=>exact O _ _ _ _ K
    | _=>exact K.elim
def waitAll(ops:Array Oper)(X:Nat→Bool)(i:Nat):Bool:=(List.range ops.size).all fun j=> !X j || waits ops ops.size j i
theorem JB.take{i:Nat}{oi:Oper}{w pure:Bool}{v:Value}(hi:ops[i]? =some oi)(bC:X i=false)(bq:(pure || waitAll ops X i)=true)(bD:Region.noSelect ops=true)(bE:∀c,oi.op≠ .defer c):
  ∀(fuel:Nat) (listed:Array Bool) (T:Array Value) (s:St),HP ops listed i oi=true→G1 ops listed=true→listed.size=ops.size→i∈Region.ready .any ops listed→s.q=false→Region.wanted oi (yielded ops T)=w→
   (w=true→∀s',s'.q=false→(pure=false→∀x o,(BI D s).E x=some o→s'.E x=some o)→Yl P oi (BL T) s' v)→
   JB J Q b ds ops k cs X D fuel (Be listed i) (CH T oi.dst (if w then v else undef)) s→JB J Q b ds ops k cs X D (fuel+1) listed T s:=by
 have al:∀(j:Nat) (Y:Oper),ops[j]? =some Y→∀cs b,Y.op≠Op.select cs b:=fun j Y h cs b=>Region.noSelect_spec bD j Y cs b h;intro fuel
 induction fuel with
 | zero=>?_
 | succ fuel aZ=>?_
 all_goals
  intro listed T s br bu a0 bd a1 hw am h;refine⟨fun e=>(by rw [e] at bd;cases bd),a1,fun j bv Y O=>?_⟩;by_cases a2:j=i
  ·subst a2;obtain rfl:Y=oi:=by rw [hi] at O;exact(Option.some.inj O).symm
   refine⟨bE,fun bg=>?_,fun ap K=>?_,fun ap K=>?_⟩
   ·rw [bg] at hw;subst hw;exact h
   ·rw [bC] at K;cases K
   ·rw [ap] at hw;subst hw;refine Dq _ (am rfl (BI D s) a1 fun _ _ _ h=>h).out ?_ (fun _ _ h=>h);rintro nx s' ⟨rfl,rfl⟩;rw [Kn];exact h
  ·
   have bw:j∈Region.ready .any ops (Be listed i):=ready_mono bv a2;obtain⟨av,U,bx,bh⟩:=mem_ready.1 bv;obtain rfl:U=Y:=by rw [O] at bx;exact(Option.some.inj bx).symm
   have bi:=(mem_ready.1 bd).1;have bF:(U.after.any fun e=>Region.binds .any e&&e.on==i)=false:=by
    rw [Array.any_eq_false];intro e he K;simp only [Bool.and_eq_true,beq_iff_eq] at K;have:=bh _ (Array.getElem_mem he) K.1;rw [K.2] at this;have aY:listed.getD i true=listed.getD i false∨listed.size≤i:=by
     rcases Nat.lt_or_ge i listed.size with q | q
     ·left;simp [Array.getD_eq_getD_getElem?,q]
     ·exact .inr q
    rcases aY with aY | aY
    ·rw [bi,this] at aY;cases aY
    ·rw [Array.getD_eq_getD_getElem?,Array.getElem?_eq_none aY] at this;simp at this
   have bG:oi.apart ops U=true:=by
    have bj:j<ops.size:=(Array.getElem?_eq_some_iff.1 O).1;have:=List.all_eq_true.1 br j (List.mem_range.2 bj);simp only [Bool.or_eq_true,beq_iff_eq] at this;rcases this with(q | q) | q
    ·exact absurd q a2
    ·rw [av] at q;cases q
    ·rw [O] at q;simp only [Bool.or_eq_true] at q;rw [bF] at q;exact q.resolve_left (by simp)
   obtain⟨bH,a3,a4⟩:=Oper.apart_spec bG;obtain⟨p1,p2⟩:=GW (ops:=ops) (T:=T) (v:=if w then v else undef) (al j U O) bH
   first
    | exact absurd bw (by rw [h.1];simp)
    | (
     obtain⟨bS,_,h⟩:=h
     obtain⟨bI,bg,bJ,bK⟩:=h j bw U O
     have a5:Be (Be listed i) j=Be (Be listed j) i:=by
      unfold Be;exact Array.setIfInBounds_comm _ _ (Ne.symm a2)
     have a6:i∈Region.ready .any ops (Be listed j):=ready_mono bd (Ne.symm a2)
     have a7:HP ops (Be listed j) i oi=true:=by
      refine List.all_eq_true.2 fun x K=>?_
      have:=List.all_eq_true.1 br x K
      simp only [Bool.or_eq_true,beq_iff_eq] at this ⊢
      rcases this with(q | q) | q
      ·exact .inl (.inl q)
      ·left;right
       by_cases e:j=x
       ·subst e;rw [av] at q;cases q
       ·rw [Be,getD_set_ne true e];exact q
      ·exact .inr q
     have a8:(Be listed j).size=ops.size:=by unfold Be;simpa using a0
     have a9:G1 ops (Be listed j)=true:=by
      refine List.all_eq_true.2 fun x K=>?_
      cases bl:ops[x]? with
      | none=>simp
      | some bL=>
       simp only [Bool.or_eq_true,Bool.not_eq_true']
       by_cases e:j=x
       ·subst e
        obtain rfl:bL=U:=by rw [O] at bl;exact(Option.some.inj bl).symm
        right
        refine Array.all_eq_true'.2 fun e he=>?_
        cases hb:Region.binds .any e with
        | false=>simp
        | true=>
         have:=bh e he hb
         by_cases ba:j=e.on
         ·rw [← ba] at this
          have bm:j<listed.size:=by rw [a0];exact(Array.getElem?_eq_some_iff.1 O).1
          simp [Array.getD_eq_getD_getElem?,bm] at this av
          rw [av] at this;cases this
         ·rw [Be,getD_set_ne false ba];simpa using this
       ·cases bz:(Be listed j).getD x false with
        | false=>exact .inl rfl
        | true=>
         right
         have bM:listed.getD x false=true:=by rw [Be,getD_set_ne false e] at bz;exact bz
         refine Array.all_eq_true'.2 fun bn he=>?_
         cases hb:Region.binds .any bn with
         | false=>simp
         | true=>
          have:=N5 bu bl bM bn he hb
          by_cases ba:j=bn.on
          ·rw [← ba] at this
           have bm:j<listed.size:=by rw [a0];exact(Array.getElem?_eq_some_iff.1 O).1
           simp [Array.getD_eq_getD_getElem?,bm] at this av
           rw [av] at this;cases this
          ·rw [Be,getD_set_ne false ba];simpa using this
     refine⟨bI,fun bN=>?_,fun bo be=>?_,fun bo be=>?_⟩
     ·have:=bg (by rw [p2];exact bN)
      rw [a5,HG a3] at this
      obtain⟨q1,q2⟩:=GW (ops:=ops) (T:=T) (d:=U.dst) (v:=undef) (o:=oi) (al i oi hi) a4
      exact aZ _ _ _ a7 a9 a8 a6 a1 (by rw [q2];exact hw) (fun V s' bO bf=>by unfold Yl;rw [q1];exact(am V s' bO bf).out) this
     ·
      have bP:pure=true:=by
       cases bQ:pure with
       | true=>rfl
       | false=>
        exfalso
        rw [bQ,Bool.false_or] at bq
        have bj:j<ops.size:=(Array.getElem?_eq_some_iff.1 O).1
        have ap:=List.all_eq_true.1 bq j (List.mem_range.2 bj)
        rw [be] at ap
        simp only [Bool.not_true,Bool.false_or] at ap
        rcases PS bu _ j U O (fun e he hb=>bh e he hb) ap with q | ⟨x,q1,q2⟩
        ·have bR:i<listed.size:=by rw [a0];exact(Array.getElem?_eq_some_iff.1 hi).1
         simp [Array.getD_eq_getD_getElem?,bR] at q bi
         rw [bi] at q;cases q
        ·have:¬x<listed.size:=by rw [a0];intro K;simp [K] at q1
         simp [Array.getD_eq_getD_getElem?,this] at q2
      have bb:=NM _ (bJ (by rw [p2];exact bo) be)
      rw [p1] at bb
      refine Dq _ bb ?_ (fun _ _ h=>h)
      rintro nx s' ⟨K,bf,bp⟩
      have bc:s'.q=false:=bp.trans a1
      have bA:pure=false→∀{α:Prop},α:=fun e=>by rw [bP] at e;cases e
      cases nx with
      | value u=>
       simp only at K ⊢
       rw [a5,HG a3] at K
       obtain⟨q1,q2⟩:=GW (ops:=ops) (T:=T) (d:=U.dst) (v:=u) (o:=oi) (al i oi hi) a4
       exact aZ _ _ _ a7 a9 a8 a6 bc (by rw [q2];exact hw) (fun V s2 Z ag=>by unfold Yl;rw [q1];exact(am V s2 Z (fun e=>bA e)).out) K
      | skip=>
       simp only at K ⊢
       rw [a5,HG a3] at K
       obtain⟨q1,q2⟩:=GW (ops:=ops) (T:=T) (d:=U.dst) (v:=undef) (o:=oi) (al i oi hi) a4
       exact aZ _ _ _ a7 a9 a8 a6 bc (by rw [q2];exact hw) (fun V s2 Z ag=>by unfold Yl;rw [q1];exact(am V s2 Z (fun e=>bA e)).out) K
      | _=>exact K.elim
     ·have bb:=NM _ (bK (by rw [p2];exact bo) be)
      rw [p1] at bb
      refine Dq _ bb ?_ (fun _ _ h=>h)
      rintro nx s' ⟨K,bf,bp⟩
      have bB:=PY (D:=D) bf
      have bc:(CE D s s').q=false:=by show s'.q=false;rw [bp];exact a1
      cases nx with
      | value u=>
       simp only at K ⊢
       rw [a5,HG a3] at K
       obtain⟨q1,q2⟩:=GW (ops:=ops) (T:=T) (d:=U.dst) (v:=u) (o:=oi) (al i oi hi) a4
       exact aZ _ _ _ a7 a9 a8 a6 bc (by rw [q2];exact hw) (fun V s2 Z ag=>by unfold Yl;rw [q1];exact(am V s2 Z (fun e=>by rw [bB] at ag;exact ag e)).out) K
      | skip=>
       simp only at K ⊢
       rw [a5,HG a3] at K
       obtain⟨q1,q2⟩:=GW (ops:=ops) (T:=T) (d:=U.dst) (v:=undef) (o:=oi) (al i oi hi) a4
       exact aZ _ _ _ a7 a9 a8 a6 bc (by rw [q2];exact hw) (fun V s2 Z ag=>by unfold Yl;rw [q1];exact(am V s2 Z (fun e=>by rw [bB] at ag;exact ag e)).out) K
      | _=>exact K.elim)
end
section
variable {P:Program}(J:Judge P)(Q:Goroutine→St→Prop)(b:Frame)(n:Nat)(ds:List Deferred)(ops:Array Oper)(k:List Item)(cs:List Frame)(X D:Nat→Bool)
def Fy(fuel:Nat)(listed:Array Bool)(L:Env)(s:St):Prop:=∀T,Has n L T→JB J Q b ds ops k cs X D fuel listed T s
end
def J4(ops:Array Oper)(listed:Array Bool)(xs:List Nat)(pure:Bool)(i:Nat):Bool:=match ops[i]? with
 | some oi=> !A5 xs i&&(pure || waitAll ops (A5 xs) i)&&Region.noSelect ops&& !Dy oi.op&&HP ops listed i oi&&G1 ops listed&&listed.size==ops.size&&(Region.ready .any ops listed).contains i
 | none=>false
section
variable {P:Program}{J:Judge P}{Q:Goroutine→St→Prop}{b:Frame}{n:Nat}{ds:List Deferred}{ops:Array Oper}{k:List Item}{cs:List Frame}{fuel:Nat}{X D:Nat→Bool}{listed:Array Bool}{L:Env}{s:St}{E H:LH}{S:List Seg}{xl bks:List Nat}
variable {d:Option Tmp}{x y:Operand}{t u ty e:TypeId}{p:String}{af:Array Edge}{g:Option (Nat×Bool)}{v:Value}{i:Nat}{kd:IntKind}
theorem GZ(xl bks:List Nat){id:Nat}(hm:P.follows .mixedOrders=true)(K:(b.kind != .early)=true)
  (h:Fy J Q b n ds ops k cs (A5 xl) (A5 bks) ops.size (Array.replicate ops.size false) L (Ao E H S)):JL J Q b n L ds (.code (.region id ops true)::k) cs (Ao E H S):=
 Rm rfl hm fun t T O=>Wr (by simpa using K) ops.size t _ T _ (h T O)
theorem SE{oi:Oper}(i:Nat)(pure:Bool)(hi:ops[i]? =some oi)(K:J4 ops listed xl pure i=true)(V:s.q=false)
  (hw:Bd L ops oi=some true) (Y:BF n oi.dst=true) (Z:∀ρ,ED L ρ→∀s':St,(pure=false→∀x o,(BI D s).E x=some o→s'.E x=some o)→Yl P oi ρ s' v)
  (h:Fy J Q b n ds ops k cs (A5 xl) D fuel (Be listed i) (AF L oi.dst v) s):Fy J Q b n ds ops k cs (A5 xl) D (fuel+1) listed L s:=fun T O=>by
 simp only [J4,hi,Bool.and_eq_true] at K
 obtain⟨⟨⟨⟨⟨⟨⟨ag,al⟩,am⟩,U⟩,ap⟩,av⟩,aY⟩,aZ⟩:=K
 refine JB.take (w:=true) (v:=v) (pure:=pure) hi (by simpa using ag) al am (fun c K=>by rw [K] at U;simp [Dy] at U) fuel listed T s ap av (by simpa using aY) (by simpa using aZ) V (Da O hw) (fun _ s' a1 a0=>Z _ O.Gi s' a0) ?_
 exact h _ (O.put Y v)
theorem JB.fin(K:Region.ready .any ops listed= [])(h:JL J Q b n L ds k cs s):Fy J Q b n ds ops k cs X D 0 listed L s:=fun T O=>⟨K,JL.done h T O⟩
theorem JB.store{bk off:Nat}{c:Array Value}(i j:Nat)(U:Region.ready .any ops listed= [i])(ag:A5 xl i=true)(al:ops[i]? =some ⟨d,.store t x y,ty,p,af,g⟩)(hw:Bd L ops ⟨d,.store t x y,ty,p,af,g⟩=some true)(am:BF n d=true)(ap:Aw E H S)
  (av:ev L x=some (.pointer (some ⟨bk,off,none⟩))) (aY:ev L y=some v) (aZ:BE P t=some v.cells.size) (a0:∀u∈v.cells.toList,CI u=true) (V:S[j]? =some [(bk,.cells c e (0,0))]) (hle:off+v.cells.size≤c.size)
  (h:Aw E H (S.set j [(bk,.cells (A0 c off v.cells.toList) e (0,0))])→Fy J Q b n ds ops k cs (A5 xl) D fuel (Be listed i) (AF L d undef) (Ao E H (S.set j [(bk,.cells (A0 c off v.cells.toList) e (0,0))]))):
  Fy J Q b n ds ops k cs (A5 xl) D (fuel+1) listed L (Ao E H S):=fun T K=>by
 refine⟨by rw [U];simp,rfl,fun a8 O o' Y=>?_⟩
 rw [U] at O
 simp at O
 subst O
 obtain rfl:o'=⟨d,.store t x y,ty,p,af,g⟩:=by rw [al] at Y;exact(Option.some.inj Y).symm
 have a1:=Da K hw;refine⟨fun c a2=>(by cases a2),fun e=>?_,fun _ _=>?_,fun _ e=>?_⟩
 ·rw [a1] at e;cases e
 ·obtain⟨a3,a4⟩:=Gd ap V;rw [a3];show lp P (do Instr.storeAt t (BL T x) (BL T y);pure Next.skip) _ _ _
  rw [K.ev av,K.ev aY];refine AH _ _ ?_;unfold Instr.storeAt;simp only [Instr.sureAddr,bind,Sem.bind,pure];refine N6 (pl:=(S.set j []).flatten.length) aZ a0 a4 (c:=c) (e:=e) (by simp) hle fun Z=>?_;have a5:((S.set j []).flatten++ [(bk,Obj.cells c e (0,0))]).set (S.set j []).flatten.length (bk,.cells (A0 c off v.cells.toList) e (0,0))=(S.set j []).flatten++ [(bk,.cells (A0 c off v.cells.toList) e (0,0))]:=HN _ _ _ _;rw [a5] at Z ⊢;obtain⟨a6,a7⟩:=Hn V Z;rw [a6];exact h a7 _ (K.put am undef)
 ·rw [ag] at e;cases e
end
end Pal
namespace Pal
open Go Go.Conc
theorem UI{E H:LH}{S:List Seg}{bks:List Nat}{bk o:Nat}{l ws:List Value}{e:TypeId}{f:Nat×Nat}{s':St}{w:Value}(j:Nat)(K:Aw E H S)(O:S[j]? =some [(bk,.cells (l++ws).toArray e f)])(U:A5 bks bk=true)(hs:∀x o,(BI (A5 bks) (Ao E H S)).E x=some o→s'.E x=some o)(V:ws[o]? =some w):s'.cell? ⟨bk,l.length+o,none⟩=some w:=by
 have:=Ol j K O U hs o w V
 rwa [DJ rfl] at this
section
variable {P:Program}{E H:LH}{B:List (Nat×Obj)}{t e ty:TypeId}
theorem TM{ats:Array TypeId}{a:Option Addr}{l K O m cx:Nat}{ax:Option Addr}{xs ys:List Value}{z:Value}{Q:Value→St→Prop}{X:Halt→St→Prop}
  (a2:ats[0]? =some t) {t1 a3:TypeId} (a4:ats[1]? =some t1) (a5:P.underlying t1=some (.slice a3)) (ht:P.underlying t=some (.slice e)) (a6:BE P e=some K) (hb:EP P e=some O) (a7:zeroOf P e=some z) (a8:z.cells.size=K)
  (a9:Nd E H B) (al:G4 (mk E H B) (.slice a l l) K xs)
  (Y:G4 (mk E H B) (.slice ax m cx) K ys) (bi:∀w∈ys,CI w=true) (bj:0<O) (bl:l+m≤2 ^ 40) (ba:O≤64)
  (a0:m=0→Q (.slice a (l+m) l) (mk E H B))
  (bb:∀r Z am,l+m≤am→Z.size=am*K→Z.toList.take ((l+m)*K)=xs++ys→Nd E H (B++ [(r,.cells Z e (0,0))])→Q (.slice (some ⟨r,0,none⟩) (l+m) am) (mk E H (B++ [(r,.cells Z e (0,0))]))):
  lp P (Builtin.append_ ats ty #[.slice a l l,.slice ax m cx]) (mk E H B) Q X:=by
 unfold Builtin.append_;simp only [a2,a4,List.getElem?_toArray,List.getElem?_cons_zero,List.getElem?_cons_succ];refine AH _ _ (Dl ht ?_);refine AH _ _ (EW a6 ?_);refine AH _ _ (Dl a5 ?_);simp only [Hh,Bool.false_eq_true,if_false,Builtin.lenOf,Bool.not_false,if_true];have ag:ys.length=m*K:=by
  cases ax with
  | none=>obtain⟨U,V⟩:=Y;subst U V;simp
  | some ad=>exact Y.2.1
 have ap:xs.length=l*K:=by
  cases a with
  | none=>obtain⟨U,V⟩:=al;subst U V;simp
  | some ad=>exact al.2.1
 obtain⟨c,bm⟩:∃c,c=l:=⟨_,rfl⟩;split
 ·rename_i bn;have hm:m=0:=by omega
  have bc:ys= []:=List.eq_nil_of_length_eq_zero (by rw [ag,hm];simp);refine AH _ _ (Jg ⟨ax,cx,rfl⟩ Y ?_);subst bc;cases a with
  | none=>exact a0 hm
  | some ad=>exact a0 hm
 ·rename_i bo;have U:¬(((l+m:Nat):Int)>IntKind.i64.max∧(False∨O=0)):=by rintro⟨_,h | h⟩ <;> omega
  have V:¬(Builtin.nextslicecap (l+m) l*O>2 ^ 48):=by
   have:=P6 (need:=l+m) (old:=l) (by omega);have bp:Builtin.nextslicecap (l+m) l*O≤(2*(l+m)+768)*64:=Nat.mul_le_mul this ba;omega
  obtain⟨inf,av,aY⟩:=Mf hb;refine AH _ _ (Ig av ?_);rw [aY,if_neg U];refine AH _ _ (Ig av ?_);rw [aY,if_neg V];refine AH _ _ ?_;simp only [choose,lp,Question.forced,Bool.false_eq_true,if_false];refine⟨rfl,fun bd=>?_⟩;generalize be:(Question.appendCap (l+m) l e).cut bd=aZ;have bf:l+m≤aZ:=by rw [← be];simp [Question.cut]
  refine AH _ _ (Ig av ?_);rw [aY];have bg:∀{α:Type} {f:Unit→Sem α} {Q:α→St→Prop},lp P (f ()) (mk E H B) Q X→lp P (askRoom (aZ*O)>>=f) (mk E H B) Q X:=by
   intro α f Q a1;refine AH _ _ ?_;unfold askRoom;split
   ·exact⟨.inl ⟨rfl,rfl⟩,a1⟩
   ·exact a1
  refine bg (AH _ _ (Jg ⟨a,l,rfl⟩ al ?_));refine AH _ _ (Jg ⟨ax,cx,rfl⟩ Y ?_);refine AH _ _ (Gb a7 ?_);refine AH _ _ (Hj a9 fun r bh=>?_);refine bb r _ aZ bf ?_ ?_ bh
  ·simp only [Array.size_append,List.size_toArray,PL,a8,ap,ag];rw [← Nat.add_mul,← Nat.add_mul];congr 1;omega
  ·simp only [Array.toList_append];rw [List.take_append_of_le_length (by simp [ap,ag,Nat.add_mul])];rw [List.take_of_length_le (by simp [ap,ag,Nat.add_mul])]
end
theorem Al.spot{α:Type}{pp:Rp α}{E:LH}{a:Option Addr}{c:Nat}{xs:List α}(h:Al pp E a c xs):∀ad,a=some ad→ad.spot=none∨c=0:=fun ad K=>by
 rcases h.2 with⟨_,h⟩ | ⟨bk,off,h,_⟩
 ·exact h ad K
 ·rw [h] at K;cases K;exact .inl rfl
theorem Al.full{α:Type}{pp:Rp α}{E:LH}{a:Option Addr}{c:Nat}{xs:List α}(h:Al pp E a c xs):Al pp E a xs.length xs:=⟨Nat.le_refl _,h.2.imp (fun⟨h,_⟩=>⟨h,fun _ _=> .inr (by rw [h];rfl)⟩) id⟩
theorem Al.RX{α:Type}{pp:Rp α}{E H:LH}{B:List (Nat×Obj)}{a:Option Addr}{c:Nat}{ys:List α}(Z:Al pp E a c ys):
  ∃K:List (List Value),K.length=ys.length∧(∀(i:Nat) x ws,ys[i]? =some x→K[i]? =some ws→pp.r E ws x)∧G4 (mk E H B) (.slice a ys.length c) pp.n K.flatten∧∀w∈K.flatten,CI w=true:=by
 obtain⟨K,U,Y,V⟩:=Z.rows;have ag:=Ij U Y;refine⟨K,U,Y,?_,fun w hw=>?_⟩
 ·rcases V with⟨V,aZ⟩ | ⟨bk,off,rfl,V⟩
  ·subst V;have:K= []:=List.eq_nil_of_length_eq_zero U;subst this;cases a with
   | none=>exact⟨rfl,rfl⟩
   | some ad=>exact⟨.inr rfl,by simp,Nat.zero_le _,fun q w O=>by simp at O⟩
  ·refine⟨.inl rfl,by rw [L6 ag,U],Z.1,fun q w O=>?_⟩;obtain⟨q1,m,ws,al,am,ap⟩:=N8 ag O;have:=(V q1 ws al).cell (H:=H) (B:=B) am;subst ap;rw [← Nat.add_assoc];exact this
 ·obtain⟨us,av,hw⟩:=List.mem_flatten.1 hw;obtain⟨q,O⟩:=List.mem_iff_getElem?.1 av;have aY:q<ys.length:=by rw [← U];exact(List.getElem?_eq_some_iff.1 O).1
  exact pp.one (Y q _ us (List.getElem?_eq_getElem aY) O) w hw
section
variable {P:Program}{J:Judge P}{Q:Goroutine→St→Prop}{b:Frame}{n:Nat}{ds:List Deferred}{ops:Array Oper}{k:List Item}{cs:List Frame}{L:Env}{s:St}{E E' H:LH}{S:List Seg}
variable {d:Option Tmp}{x y z1:Operand}{t u ty e:TypeId}{p:String}{af:Array Edge}{g:Option (Nat×Bool)}{v:Value}{i:Nat}{rest:List Nat}{kd:IntKind}{ρ:Operand→Value}
theorem Uc{a:Option Addr}{l c K:Nat}(O:∀ad,a=some ad→ad.spot=none∨c=0)(U:l≤c)(ht:P.underlying t=some (.slice e))(V:BE P e=some K)(Y:ρ x= .slice a l c)(Z:ρ y=iV (l:Int))(ag:ρ z1=iV (l:Int)):
  Yl P ⟨d,.slice t x none (some y) (some z1),ty,p,af,g⟩ ρ s (.slice a l l):=by
 have h:=Yl.slice (P:=P) (s:=s) (d:=d) (ty:=ty) (p:=p) (af:=af) (g:=g) (olo:=none) (ohi:=some y) (omx:=some z1) (lo:=0) (hi:=l) (mx:=l) ht V Y ag Z rfl U (Nat.le_refl _) (Nat.zero_le _);have al:(if l=0 then a else a.map (·.add (0*K)))=a:=by
  split
  ·rfl
  ·cases a with
   | none=>rfl
   | some ad=>
    have:=(O ad rfl).resolve_right (by omega);simp only [Option.map_some,Nat.zero_mul];rw [DJ this];obtain⟨b,o,sp⟩:=ad;simp only at this;subst this;simp
 rw [al] at h;simpa using h
theorem Uh{α:Type}{pp:Rp α}{t1:TypeId}{V c cx:Nat}{a ax:Option Addr}{xs ys Y:List α}{ats:Array TypeId}{z:Value}(U:Dd xs ys=some Y)
  (aZ:ops[i]? =some ⟨d,.call ⟨.builtin .append,#[x,y],ats⟩,ty,p,af,g⟩) (hw:Bd L ops ⟨d,.call ⟨.builtin .append,#[x,y],ats⟩,ty,p,af,g⟩=some true) (a0:CK b n ⟨d,.call ⟨.builtin .append,#[x,y],ats⟩,ty,p,af,g⟩=true)
  (a1:ev L x=some (.slice a xs.length xs.length)) (a2:ev L y=some (.slice ax ys.length cx)) (a3:ats[0]? =some t) (a4:ats[1]? =some t1) (ht:P.underlying t=some (.slice e)) (a5:P.underlying t1=some (.slice e)) (a6:BE P e=some pp.n) (hb:EP P e=some V) (a7:zeroOf P e=some z) (a8:z.cells.size=pp.n)
  (a9:0<V) (ba:V≤64) (Z:Al pp E a c xs) (bb:Al pp E ax cx ys) (ag:Aw E H S)
  (h:∀E' al K,Le E E'→Al pp E' al K Y→Aw E' H (S++ [[]])→JL J Q b n (AF L d (.slice al Y.length K)) ds (.inRegion ops rest::k) cs (Ao E' H (S++ [[]]))):
  JL J Q b n L ds (.inRegion ops (i::rest)::k) cs (Ao E H S):=by
 unfold Dd at U;split at U
 rotate_left
 ·cases U
 rename_i bc;cases U;obtain⟨wss,am,bd,be,bx⟩:=Al.RX (H:=H) (B:=S.flatten) Z.full;obtain⟨bf,bg,bh,bi,bj⟩:=Al.RX (H:=H) (B:=S.flatten) bb;have hlen:(xs++ys).length=xs.length+ys.length:=by simp
 show JL J Q b n L ds (.inRegion ops (i::rest)::k) cs (mk E H S.flatten);refine JL.op aZ hw a0 fun ρ ap=>?_;rw [L5,ap x _ a1,ap y _ a2];refine AH _ _ (TM a3 a4 a5 ht a6 hb a7 a8 ag be bi bj a9 bc ba ?_ ?_)
 ·intro hm;have bl:ys= []:=List.eq_nil_of_length_eq_zero hm;subst bl;have bm:Aw E H (S++ [[]]):=by unfold Aw at*;rw [GX,List.append_nil];exact ag
  have bn:mk E H S.flatten=Ao E H (S++ [[]]):=by unfold Ao;rw [GX,List.append_nil]
  rw [bn];have:=h E a xs.length (Le.refl _) (by rw [List.append_nil];exact Z.full) bm;rw [hlen] at this;exact this
 ·intro r O K bo bp bq br;have bu:OL e pp E (some ⟨r,0,none⟩) K [(r,.cells O e (0,0))] (xs++ys):=
   ⟨wss++bf,.inr ⟨r,O,rfl,rfl,bp,by rw [hlen];exact bo,by rw [hlen,List.flatten_append];exact bq.symm⟩,by simp [am,bg],Oc am bd bh⟩
  have av:=EB (S:=S) (seg:= [(r,.cells O e (0,0))]) br;show JL J Q b n _ ds _ cs (mk E H (S.flatten++ [(r,.cells O e (0,0))]));rw [av.1];refine B7 S.length bu av.2 (by simp) fun E' hle bv aY=>?_;have bw:(S++ [[(r,Obj.cells O e (0,0))]]).set S.length []=S++ [[]]:=HN _ _ _ _;rw [bw] at aY ⊢;have:=h E' (some ⟨r,0,none⟩) K hle bv aY;rw [hlen] at this;exact this
end
end Pal
namespace Pal
open Go Go.Conc
open Go.ConcN (sumTo upd sumTo_upd upd_ne upd_same)
def KV(P:Program)(R:Value→St→Prop):GP:=fun g s=>
 g.status= .running∧∃v,R v s∧∀w,stepG P true g w= .ended (.done v) w #[]
section
variable {P:Program}{R:Value→St→Prop}{J:Judge P}{n:Nat}{L:Env}{s:St}{b:Frame}
theorem JO.end{fn:Func}{t:Tmp}{v:Value}(K:b.kind= .normal)(hi:P.inits.idxOf? b.fn=none)(O:P.funcs[b.fn]? =some fn)(U:fn.results= #[.tmp t])(V:look L t=some v)(Y:R v s):JO J (KV P R) b n L [] [] s:=fun T Z todo=>by
 refine J.stop ⟨rfl,v,Y,fun w=>?_⟩
 have e:results fn T=Sem.pure v:=by
  have:=Z.at_ t v V;simp only [results,U,Array.mapM_eq_mapM_toList];show Sem.pure (T.getD t undef)=_;rw [this]
 have ag:(results fn T).run P w= .ok v w:=by rw [e];rfl
 have al:(results fn T).events P w #[]= #[]:=by rw [e];simp [Sem.events_pure']
 simp [G,stepG,unwind,Eu,O,ag,al,doReturn,K,GStep.after,hi,seen_none]
end
section
variable {P:Program}{R:Value→St→Prop}
def Li(P:Program)(R:Value→St→Prop)(K:World)(s₀:St)(v:Value)(w':World):Prop:=
 ∃s,R v s∧Fits s w'∧(∀b o,s₀.E b=some o→s.E b=some o)∧w'.tape=K.tape∧w'.os=K.os∧w'.output=K.output
def Pu(P:Program)(R:Value→St→Prop)(K:World)(s₀:St)(O:Nat)(m:Machine)(t:Trace):Prop:=
 ∃gs w sl q Sh g s,m=crowd gs w sl∧Gn P gs w t q Sh g s∧KV P R g s∧O=sumTo gs.size q∧(∀b o,s₀.E b=some o→s.E b=some o)∧w.tape=K.tape∧w.os=K.os∧w.output=K.output
theorem VS{ap:World}{s₀:St}(a0:Nat)(m:Machine)(t:Trace)(h:Pu P R ap s₀ a0 m t):
  (∃o w ops,stepT P m=(.ended o w,ops)∧Good P (Li P R ap s₀) m o w (t++ops))∨(∃m' ops a1,stepT P m=(.next m',ops)∧a1<a0∧Pu P R ap s₀ a1 m' (t++ops)):=by
 obtain⟨gs,w,sl,q,Sh,g,s,rfl,hC,be,rfl,a2,a3,a4,a5⟩:=h;obtain⟨Z,v,a6,a7⟩:=be;have bf:∀x∈gs,awake x:=by
  intro x V;obtain⟨i,hi,rfl⟩:=Array.mem_iff_getElem.1 V;rcases Nat.eq_zero_or_pos i with rfl | av
  ·have:gs[0]=g:=by simpa [Array.getElem?_eq_getElem hi] using hC.main
   rw [this];exact awake_of (.inl Z)
  ·exact awake_of ((hC.lv.old i _ av (Array.getElem?_eq_getElem hi)).status.elim .inl fun x=> .inr (.inr x))
 obtain⟨i,x,d,a8,hi,V,a9⟩:=crowd_pick (P:=P) (w:=w) (sl:=sl) bf ⟨0,g,hC.main,Z⟩;have ba:=hC.at_ d;have bg:0<gs.size:=(Array.getElem?_eq_some_iff.1 hC.main).1;have bh:∀(a:Nat) (fn:FuncId) (pos:String),MemOp.ofEvents a fn pos #[]= #[]:=fun a fn pos=>by rw [ofEvents_eq];simp
 rcases Nat.eq_zero_or_pos i with rfl | av
 ·obtain rfl:x=g:=by rw [hC.main] at hi;exact(Option.some.inj hi).symm
  have ag:=runT_many_ended (P:=P) (sl:=a8) (i:=0) hi (show stepG P (0==0) x (w.at d)=_ from a7 (w.at d));rw [bh] at ag;refine .inl ⟨_,_,_,a9.trans ag,v,rfl,⟨s,a6,ba.CS.fits 0 bg,a2,a3,a4,a5⟩,?_,?_,⟨fun y K=>?_,rfl⟩,fun j y K O=>?_⟩
  ·simpa using hC.CS.clean
  ·simpa using hC.over
  ·obtain⟨j,O⟩:=List.mem_iff_getElem?.1 K;rw [List.getElem?_drop] at O;exact⟨_,(hC.lv.old (1+j) y (by omega) (by simpa [crowd] using O)).leaves⟩
  ·have Y:=hC.lv.old j y (by omega) K;exact⟨q j,by simp only [Array.append_empty];exact Y.hears w⟩
 ·have Y:=hC.lv.old i x av hi;have bi:(i==0)=false:=by simp;omega
  have bb:i<gs.size:=(Array.getElem?_eq_some_iff.1 hi).1;cases aY:q i with
  | zero=>rw [aY] at Y;rw [Y.1] at V;cases V
  | succ k=>
   rw [aY] at Y;rcases Y with⟨bj,_⟩ | ⟨_,x',es,hm,bl,bm⟩
   ·rw [bj] at V;cases V
   have bq:sumTo gs.size (upd q i k)+(k+1)=sumTo gs.size q+k:=by
    have:=sumTo_upd q k id bb;simpa [aY] using this
   have ag:=runT_crowd_go (P:=P) (sl:=a8) (i:=i) hi (by rw [bi];exact bl (w.at d));have aZ:((gs.map (woken P x x' (w.at d))).setIfInBounds i x').size=gs.size:=by simp
   have al:∀op∈MemOp.ofEvents i x.frame.fn x.frame.place es,op.g=i:=fun op U=>by obtain⟨e,_,rfl⟩:=mem_ofEvents U;rfl
   have bc:∀op∈MemOp.ofEvents i x.frame.fn x.frame.place es,op.act.touch? =none:=fun op U=>by obtain⟨e,he,rfl⟩:=mem_ofEvents U;exact touch_mute (hm e he)
   have bn:Gn P ((gs.map (woken P x x' (w.at d))).setIfInBounds i x') (w.at d) (t++MemOp.ofEvents i x.frame.fn x.frame.place es) (upd q i k) Sh g s:=by
    refine⟨?_,⟨fun j y O K=>?_,fun j O=>?_⟩,?_,?_,?_⟩
    ·have bo:i≠0:=by omega
     rw [Array.getElem?_setIfInBounds_ne bo,Array.getElem?_map,hC.main];simp [woken_run Z]
    ·by_cases am:i=j
     ·subst am;rw [Array.getElem?_setIfInBounds_self_of_lt (by simpa using bb)] at K;obtain rfl:=Option.some.inj K;rw [upd_same,Deaf_own];exact bm
     ·rw [Array.getElem?_setIfInBounds_ne am,Array.getElem?_map] at K;obtain⟨z,bp,rfl⟩:=Option.map_eq_some_iff.1 K;have bd:=hC.lv.old j z O bp;rw [woken_quitsD bd,upd_ne q k (Ne.symm am),Deaf_other t am _ al];exact bd
    ·rw [Deaf_other t (g':=i) (by simp at O;omega) _ al];exact hC.lv.above j (by simpa using O)
    ·rw [aZ];exact ba.CS.mute al bc (fun op U=>by obtain⟨e,he,rfl⟩:=mem_ofEvents U;exact low_mute (hm e he) _) rfl
    ·exact handedOver_app hC.over fun op U=> .inr (bc op U)
    ·rw [Deaf_other t (by omega) _ al];exact hC.hears
   exact .inr ⟨_,_,_,a9.trans ag,by rw [← aZ];rw [aZ];omega,_,_,_,_,_,_,_,rfl,bn,⟨Z,v,a6,a7⟩,rfl,a2,a3,a4,a5⟩
theorem ends{gs:Array Goroutine}{w:World}{sl:Option (Nat×Nat)}{t:Trace}{q:Nat→Nat}{Sh:Nat→Prop}{g:Goroutine}{s:St}(hC:Gn P gs w t q Sh g s)(O:KV P R g s):
  ∃N last o w' K,runNT P (N+1) (crowd gs w sl) t=(.ended o w',K)∧runN P N (crowd gs w sl)= .next last∧step P last= .ended o w'∧Good P (Li P R w s) last o w' K:=
 run_of_inv Nat.lt_wfRel.wf (Pu P R w s) (Good P (Li P R w s)) VS _ _ _ ⟨gs,w,sl,q,Sh,g,s,rfl,hC,O,rfl,fun _ _ h=>h,rfl,rfl,rfl⟩
theorem Uj{m m':Machine}{t K:Trace}{n:Nat}(h:runNT P n m t=(.next m',K)):runN P n m= .next m':=by rw [← runNT_fst P n m t,h]
def Eh(W:World):St:=⟨fun b=>W.heap[b]?,fun _=>none,false⟩
theorem V1{W:World}{g:Goroutine}(h:(DI P).ok (KV P R) g (Eh W)):
  ∃M last o w' K,runNT P (M+1) (solo g W) #[]=(.ended o w',K)∧runN P M (solo g W)= .next last∧step P last= .ended o w'∧Good P (Li P R W (Eh W)) last o w' K:=by
 have hC:Gn P #[g] W #[] (fun _=>0) (fun _=>False) g (Eh W):=by
  have V:∀{i:Nat} {a:Touch},touchAt #[] i=some a→False:=fun {i a} h=>by simp [touchAt,Trace.act?] at h
  refine⟨rfl,leavers_one P g,⟨fun i hi=>?_,fun i j hi Z bd=>by simp at hi Z;omega,fun i hi b hb=>hb.elim,fun b hb=>hb.elim,fun said=>?_,by simp,fun i _ b _ x a O=>(V O).elim,fun i _ b _ x a O=>(V O).elim⟩,fun i g hg=>by simp [Trace.g?] at hg,rfl⟩
  ·have:i=0:=by simp at hi;exact hi
   subst this;exact⟨fun b o U=>U,fun b o U=>(by cases U),fun b _=>rfl⟩
  ·rintro⟨i,j,_,⟨a,b,ag,_⟩,_⟩;simp [Trace.act?] at ag
 obtain⟨n,gs',w',al,K,be,bf,g',s',Y,am,ap,av,aY,aZ,a0⟩:=h #[g] W none #[] _ _ hC;obtain⟨N,last,o,a1,a2,k1,a3,a4,a5⟩:=ends (sl:=al) am ap;refine⟨n+N,last,o,a1,a2,?_,?_,a4,?_⟩
 ·rw [solo_eq_crowd,Nat.add_assoc,runNT_add,Y];exact k1
 ·have a6:=Uj Y;rw [solo_eq_crowd,runN_add,a6];exact a3
 ·obtain⟨v,e,⟨s2,a7,a8,a9,ba,bb,bc⟩,r⟩:=a5;exact⟨v,e,⟨s2,a7,a8,fun b o hb=>a9 b o (av b o hb),ba.trans aY,bb.trans aZ,bc.trans a0⟩,r⟩
end
end Pal
namespace Pal
open Go Go.Conc
theorem U3{P:Program}{Q:Goroutine→St→Prop}{E H:LH}{f:FuncId}{fn:Func}{c:Code}{vs:List Value}(U:P.funcs[f]? =some fn)(hb:fn.body=some c)(Z:fn.ntmps=fn.ntmps)(ag:vs.length≤fn.ntmps)
  (h:JL (DI P) Q (base f) fn.ntmps (FK 0 vs) [] [.code c] [] (Ao E H [[]])):(DI P).ok Q (G (Frame.enter P f vs.toArray .normal) []) (mk E H []):=by
 have he:Frame.enter P f vs.toArray .normal=fr (base f) (vs.toArray++Array.replicate (fn.ntmps - vs.length) undef) [] [.code c]:=by
  simp [Frame.enter,fr,U,hb,base];rfl
 rw [he];have V:mk E H []=Ao E H [[]]:=by unfold Ao;simp
 rw [V];refine h _ ⟨by simp;omega,fun t v ht=>?_⟩;obtain⟨_,K⟩:=Jj ht;have Y:t<vs.length:=by
  rcases Nat.lt_or_ge t vs.length with O | O
  ·exact O
  ·simp at K;have:=(List.getElem?_eq_some_iff.1 K).1;omega
 rw [Array.getD_eq_getD_getElem?,Array.getElem?_append_left (by simpa using Y)];simp at K;simp [K]
end Pal
namespace Pal
open Go Go.Conc Go.Proofs Go.ChangeShapes Go.WideShapes Go.ChangeAt Go.RowKit
open Go.Proofs.YtboibffcmhheiaaGreatDoor (Rows.laid_errors_errorType)
theorem Tryz.own:ownKnob Tryz.prog.godebug=none:=by kernel_rfl
theorem Tryz.laidOut:laidOutB Tryz.prog=true:=by kernel_rfl
theorem Tryz.SH:Tryz.prog.cellsOf 3=1:=by kernel_rfl
theorem V6{W:World}{a:Addr}{len cap:Nat}{K:List Int}(V:a.spot=none)(ap:len≤cap)(ag:len≤K.length)(al:∀i,i<K.length→W.cell? (a.add i)=some (.int .i64 (K.getD i 0))):
  Al rI (Eh W).E (some a) cap (K.take len)∧(K.take len).length=len:=by
 have Z:(K.take len).length=len:=by simp [Nat.min_eq_left ag]
 refine⟨⟨by omega,.inr ⟨a.block,a.off,?_,fun i x Y=>⟨[iV x],rfl,?_⟩⟩⟩,Z⟩
 ·obtain⟨b,o,s⟩:=a;simp only at V;subst V;rfl
 ·have hi:i<len:=by rw [← Z];exact(List.getElem?_eq_some_iff.1 Y).1
  have O:=al i (by omega);have am:K.getD i 0=x:=by
   rw [List.getElem?_take_of_lt hi] at Y;rw [List.getD_eq_getElem?_getD,Y];rfl
  rw [am,DJ V] at O;unfold World.cell? at O;split at O
  ·rename_i c e f hW;simp only [Option.isSome_none,Bool.false_eq_true,if_false] at O;refine⟨c,e,f,hW,fun j w U=>?_⟩
   match j,U with
   | 0,U=>
    simp at U;subst U;show c[a.off+i*1+0]? =some (.int .i64 x);simpa using O
   | j+1,U=>simp at U
  ·cases O
theorem TQ{R:Value→St→Prop}{W w':World}{v:Value}(h:Li Tryz.prog R W (Eh W) v w'):(∃s,R v s)∧Below W.heap.size W w':=by
 obtain⟨s,V,Y,Z,ht,ag,al⟩:=h;have hb:∀k,k<W.heap.size→w'.heap[k]? =W.heap[k]? :=fun k O=>by
  have K:(Eh W).E k=some W.heap[k]:=Array.getElem?_eq_getElem O;have U:=Y.e k _ (Z k _ K);rw [U,Array.getElem?_eq_getElem O]
 refine⟨⟨s,V⟩,⟨ag,ht,al,?_,hb⟩⟩;rcases Nat.eq_zero_or_pos W.heap.size with am | am
 ·omega
 ·have K:=hb (W.heap.size - 1) (by omega);have ap:W.heap[W.heap.size - 1]? =some W.heap[W.heap.size - 1]:=Array.getElem?_eq_getElem (by omega);rw [ap] at K;have U:=(Array.getElem?_eq_some_iff.1 K).1;omega
noncomputable def Ql(os:Os):World:=
 let w0:=World.holding Tryz.prog os ⟨#[],#[],[]⟩
 {w0 with heap:=w0.heap.modify 0 fun
   | .cells _ t frozen=> .cells #[.iface 240 (.agg #[.pointer (some ⟨1,149,none⟩)])] t frozen
   | o=>o}
theorem TI(os:Os)(args:Array Value):laidMetH Tryz.prog [("errors.errorType",Go.Proofs.YtboibffcmhheiaaGreatDoor.Rows.laid_errors_errorType)] ((Ql os).forCall (fun _ _=>0) ⟨#[],args,[]⟩).memory:=
 laidMetH_of_parts (laidMet_nil _ _) (by kernel_rfl)
end Pal
namespace Pal
open Go Go.Conc
theorem oi{α:Type}{a b:α}(h:some a=some b):a=b:=Option.some.inj h
theorem bs{α β:Type}{o:Option α}{f:α→Option β}{r:β}(h:o.bind f=some r):∃x,o=some x∧f x=some r:=bind_some h
def G2(L:Env):Env→List (Option Value)
 | []=> []
 | (t,_)::L'=>look L t::G2 L L'
def G3:Env→List (Option Value)
 | []=> []
 | (_,v)::L'=>some v::G3 L'
theorem M5{L:Env}:∀{L':Env},G2 L L'=G3 L'→Sub L' L
 | [],_=>trivial
 | (t,v)::L',h=>by
  simp only [G2,G3,List.cons.injEq] at h
  exact⟨h.1,M5 h.2⟩
section
variable {P:Program}{J:Judge P}{Q:Goroutine→St→Prop}{b:Frame}{n:Nat}{L L':Env}{ds:List Deferred}{k k':List Item}{cs:List Frame}{s:St}{ops:Array Oper}{i:Nat}{rest:List Nat}{v:Value}
variable {d:Option Tmp}{op:Op}{ty:TypeId}{p:String}{af:Array Edge}{g:Option (Nat×Bool)}
theorem Iy(L':Env)(h:G2 L L'=G3 L')(k':JL J Q b n L' ds k cs s):JL J Q b n L ds k cs s:=Gf (M5 h) k'
theorem Az(k':JL J Q b n L' ds k cs s)(h:G2 L L'=G3 L'):JL J Q b n L ds k cs s:=Gf (M5 h) k'
def Ez(b:Frame)(n:Nat)(L:Env)(ops:Array Oper)(i:Nat):Option Oper:=
 match HW ops.toList i with
 | some ⟨d,op,ty,p,af,g⟩=>match Bd L ops ⟨d,op,ty,p,af,g⟩ with
  | some true=>match CK b n ⟨d,op,ty,p,af,g⟩ with
   | true=>some ⟨d,op,ty,p,af,g⟩
   | false=>none
  | _=>none
 | none=>none
theorem IW{o:Oper}(h:Ez b n L ops i=some o):ops[i]? =some o∧Bd L ops o=some true∧CK b n o=true:=by
 unfold Ez at h;split at h
 ·rename_i K;rw [JD,Array.getElem?_toList] at K;split at h
  ·rename_i hw;split at h
   ·rename_i O;cases h;exact⟨K,hw,O⟩
   ·cases h
  ·cases h
 ·cases h
theorem AD(K:Ez b n L ops i=some ⟨d,op,ty,p,af,g⟩)(h:∀ρ,ED L ρ→Yl P ⟨d,op,ty,p,af,g⟩ ρ s v)(O:JL J Q b n (AF L d v) ds (.inRegion ops rest::k) cs s):
  JL J Q b n L ds (.inRegion ops (i::rest)::k) cs s:=
 let ⟨U,V,Y⟩:=IW K
 Ba U V Y h O
theorem JP{f:FuncId}{fn:Func}{c:Code}{E:LH}{vs:List Value}{B:Seg}{R:Value→LH→Seg→Prop}(O:P.funcs[f]? =some fn)(hb:fn.body=some c)(U:Nat.ble vs.length fn.ntmps=true)
  (h:∀(Q:Goroutine→St→Prop) (K:Frame) (cs:List Frame) (H:LH),Aw E H [B]→(∀v E' S' B',Le E E'→S'.flatten=B'→R v E' B'→Aw E' H S'→J.ok Q (G (K.finish v) cs) (Ao E' H S'))→JL J Q (base f) fn.ntmps (FK 0 vs) [] [.code c] (K::cs) (Ao E H [B])):AK J f vs E B R:=
 AK.enter O hb (Nat.le_of_ble_eq_true U) h
def NQ(n:Nat)(L:Env)(ops:Array Oper)(i:Nat):Option Env:=
 match HW ops.toList i with
 | some ⟨d,op,ty,p,af,g⟩=>match Bd L ops ⟨d,op,ty,p,af,g⟩ with
  | some true=>match BF n d with
   | true=>match Ja L op with
    | some v=>match d with
     | some d=>some ((d,v)::L)
     | none=>some L
    | none=>none
   | false=>none
  | some false=>match BF n d with
   | true=>match d with
    | some d=>some ((d,undef)::L)
    | none=>some L
   | false=>none
  | none=>none
 | none=>none
def F6(n:Nat)(L:Env)(ops:Array Oper)(i:Nat):Option Oper:=
 match HW ops.toList i with
 | some ⟨d,op,ty,p,af,g⟩=>match Bd L ops ⟨d,op,ty,p,af,g⟩ with
  | some true=>match BF n d with
   | true=>some ⟨d,op,ty,p,af,g⟩
   | false=>none
  | _=>none
 | none=>none
theorem Of{o:Oper}(h:F6 n L ops i=some o):ops[i]? =some o∧Bd L ops o=some true∧BF n o.dst=true:=by
 unfold F6 at h;split at h
 ·rename_i K;rw [JD,Array.getElem?_toList] at K;split at h
  ·rename_i hw;split at h
   ·rename_i O;cases h;exact⟨K,hw,O⟩
   ·cases h
  ·cases h
 ·cases h
theorem VI(h:NQ n L ops i=some L'):∃o,ops[i]? =some o∧BF n o.dst=true∧((∃v,Bd L ops o=some true∧Ja L o.op=some v∧L'=AF L o.dst v)∨(Bd L ops o=some false∧L'=AF L o.dst undef)):=by
 unfold NQ at h;split at h
 ·rename_i d op ty p af g O;rw [JD,Array.getElem?_toList] at O;refine⟨_,O,?_⟩;split at h
  ·rename_i hw;split at h
   ·rename_i K;refine⟨K,.inl ?_⟩;split at h
    ·rename_i v U;refine⟨v,hw,U,?_⟩;cases d with
     | none=>cases h;rfl
     | some d=>cases h;rfl
    ·cases h
   ·cases h
  ·rename_i hw;split at h
   ·rename_i K;refine⟨K,.inr ⟨hw,?_⟩⟩;cases d with
    | none=>cases h;rfl
    | some d=>cases h;rfl
   ·cases h
  ·cases h
 ·cases h
variable {m:Nat}{D:Nat→Bool}{fuel:Nat}{listed:Array Bool}
theorem Cj(i:Nat)(K:DK ops m=true)(O:s.q=false)(h:NQ n L ops i=some L')
  (U:AX J Q b n ds ops k cs m D fuel (Be listed i) L' s) (V:Fv ops listed m i=true:=by decide+kernel):AX J Q b n ds ops k cs m D (fuel+1) listed L s:=by
 obtain⟨o,Y,Z,⟨v,hw,ag,rfl⟩ | ⟨hw,rfl⟩⟩:=VI h
 ·exact OS i Y K V O hw Z (fun ρ al s' _=>MJ al ag) U
 ·exact az i Y K V O hw Z U
theorem BB(i:Nat)(K:DK ops m=true)(O:s.q=false)(U:F6 n L ops i=some ⟨d,op,ty,p,af,g⟩)
  (V:∀ρ,ED L ρ→∀s':St,(∀x o,(BI D s).E x=some o→s'.E x=some o)→Yl P ⟨d,op,ty,p,af,g⟩ ρ s' v)
  (Y:AX J Q b n ds ops k cs m D fuel (Be listed i) (AF L d v) s) (Z:Fv ops listed m i=true:=by decide+kernel):AX J Q b n ds ops k cs m D (fuel+1) listed L s:=by
 obtain⟨ag,al,am⟩:=Of U;exact OS i ag K Z O al am V Y
end
end Pal
namespace Pal
open Go Go.Conc
abbrev Jn(E H E':LH)(S:List Seg)(K L:Env)(s:St)(R:Prop):Prop:=L=K∧s=Ao E' H S∧Le E E'∧Aw E' H S∧R
abbrev Jm(E H E':LH)(S:List Seg)(K L:Env)(s:St):Prop:=L=K∧s=Ao E' H S∧Le E E'∧Aw E' H S
def NF(L:Env):List ResultVar→Option (List Value)
 | []=>some []
 | .tmp t::rs=>match look L t with
  | some v=>match NF L rs with
   | some vs=>some (v::vs)
   | none=>none
  | none=>none
 | _=>none
theorem RN{P:Program}{L:Env}{s:St}:∀{rs:List ResultVar} {vs:List Value},NF L rs=some vs→RV P L s rs vs
 | [],vs,h=>by cases h;trivial
 | .tmp t::rs,vs,h=>by
  unfold NF at h
  split at h
  ·rename_i v K
   split at h
   ·rename_i ws hw;cases h;exact⟨K,RN hw⟩
   ·cases h
  ·cases h
 | .cell _ _::_,_,h=>by cases h
section
variable {P:Program}{J:Judge P}{Q:Goroutine→St→Prop}{b:Frame}{n:Nat}{L L':Env}{ds:List Deferred}{k k':List Item}{cs:List Frame}{s:St}{ops:Array Oper}{i:Nat}{rest:List Nat}{v:Value}{E H:LH}{S:List Seg}
variable {d:Option Tmp}{op:Op}{x y:Operand}{t ft ty e:TypeId}{p:String}{af:Array Edge}{g:Option (Nat×Bool)}
theorem AA{c:Frame}{fn:Func}{vs:List Value}(O:P.funcs[b.fn]? =some fn)(K:(b.kind== .normal&&b.roundOf.isNone)=true)(U:NF L fn.results.toList=some vs)(h:J.ok Q (G (c.finish (MD vs)) cs) s):JL J Q b n L [] (.code .ret::k) (c::cs) s:=by
 simp only [Bool.and_eq_true,beq_iff_eq,Option.isNone_iff_eq_none] at K;exact JL.ret K.1 K.2 (Co.list O rfl (RN U)) h
theorem BP{f:FuncId}{args:Array Operand}{ats:Array TypeId}{vs:List Value}{R:Value→LH→Seg→Prop}
  (O:AK J f vs E [] R) (U:Ez b n L ops i=some ⟨d,.call ⟨.value (.func f),args,ats⟩,ty,p,af,g⟩) (V:evs L args.toList=some vs) (hb:DW P f=true)
  (Y:Aw E H S) (Z:∀v E' seg',Le E E'→R v E' seg'→Aw E' H (S++ [seg'])→JL J Q b n (AF L d v) ds (.inRegion ops rest::k) cs (Ao E' H (S++ [seg']))):
  JL J Q b n L ds (.inRegion ops (i::rest)::k) cs (Ao E H S):=by
 obtain⟨ag,al,K⟩:=IW U;refine JS.call O ag al ?_ hb V Y Z;simp only [CK,Bool.and_eq_true] at K ⊢;exact⟨K.1,K.2.1⟩
theorem BC{f:FuncId}{args:Array Operand}{ats:Array TypeId}{vs:List Value}{v:Value}
  (O:AK J f vs E [] (fun w E' B'=>w=v∧B'= [])) (U:Ez b n L ops i=some ⟨d,.call ⟨.value (.func f),args,ats⟩,ty,p,af,g⟩) (V:evs L args.toList=some vs) (hb:DW P f=true)
  (K:Aw E H S) (Y:∀E',Le E E'→Aw E' H (S++ [[]])→JL J Q b n (AF L d v) ds (.inRegion ops rest::k) cs (Ao E' H (S++ [[]]))):
  JL J Q b n L ds (.inRegion ops (i::rest)::k) cs (Ao E H S):=BP O U V hb K (by rintro _ E' _ hle ⟨rfl,rfl⟩ K;exact Y E' hle K)
theorem BZ{f:FuncId}{args:Array Operand}{ats:Array TypeId}{vs:List Value}{seg:Seg}{R:Value→LH→Seg→Prop}(j:Nat)
  (O:AK J f vs E seg R) (U:Ez b n L ops i=some ⟨d,.call ⟨.value (.func f),args,ats⟩,ty,p,af,g⟩) (V:evs L args.toList=some vs) (hb:DW P f=true)
  (Y:Aw E H S) (Z:S[j]? =some seg) (ag:∀v E' seg',Le E E'→R v E' seg'→Aw E' H (S.set j seg')→JL J Q b n (AF L d v) ds (.inRegion ops rest::k) cs (Ao E' H (S.set j seg'))):
  JL J Q b n L ds (.inRegion ops (i::rest)::k) cs (Ao E H S):=by
 obtain⟨al,am,K⟩:=IW U;refine Oo j O al am ?_ hb V Y Z ag;simp only [CK,Bool.and_eq_true] at K ⊢;exact⟨K.1,K.2.1⟩
def K9(K:Array Field)(i:Nat):Option (Nat×TypeId):=match K[i]? with
 | some f=>some (f.offset,f.type)
 | none=>none
theorem Bc{r m m':Int}{u:TypeId}(h:As (m+m')=some r)(K:Ez b n L ops i=some ⟨d,.binOp .add t x y u,ty,p,af,g⟩)(O:ev L x=some (iV m))(U:ev L y=some (iV m'))
  (V:JL J Q b n (AF L d (iV r)) ds (.inRegion ops rest::k) cs s):JL J Q b n L ds (.inRegion ops (i::rest)::k) cs s:=AD K (fun _ q=>MG (q _ _ O) (q _ _ U) h) V
theorem Cd{r m m':Int}{u:TypeId}(h:As (m - m')=some r)(K:Ez b n L ops i=some ⟨d,.binOp .sub t x y u,ty,p,af,g⟩)(O:ev L x=some (iV m))(U:ev L y=some (iV m'))
  (V:JL J Q b n (AF L d (iV r)) ds (.inRegion ops rest::k) cs s):JL J Q b n L ds (.inRegion ops (i::rest)::k) cs s:=AD K (fun _ q=>Db (q _ _ O) (q _ _ U) h) V
theorem Bg{a:Option Addr}{e:TypeId}{l c:Nat}{ats:Array TypeId}(ht:P.underlying t=some (.slice e))(K:Ez b n L ops i=some ⟨d,.call ⟨.builtin .len,#[x],ats⟩,ty,p,af,g⟩)(O:ats[0]? =some t)(U:ev L x=some (.slice a l c))
  (V:JL J Q b n (AF L d (.int .i64 l)) ds (.inRegion ops rest::k) cs s):JL J Q b n L ds (.inRegion ops (i::rest)::k) cs s:=AD K (fun _ q=>Yl.len O ht (q _ _ U)) V
theorem BJ{bk o O off:Nat}{U:Array Field}{V:Nat}(ht:P.underlying t=some (.struct U))(Y:BE P ft=some (O+1))(Z:Ez b n L ops i=some ⟨d,.fieldAddr t x V,ty,p,af,g⟩)(ag:ev L x=some (.pointer (some ⟨bk,o,none⟩)))(K:K9 U V=some (off,ft))
  (al:JL J Q b n (AF L d (.pointer (some ⟨bk,o+off,none⟩))) ds (.inRegion ops rest::k) cs s):
  JL J Q b n L ds (.inRegion ops (i::rest)::k) cs s:=by
 unfold K9 at K;split at K
 ·rename_i f am;cases K;refine AD Z (fun ρ h=>Se (a:=⟨bk,o,none⟩) O f.offset ht Y am rfl rfl (h _ _ ag)) ?_;rw [DJ rfl];exact al
 ·cases K
theorem BY{bk o:Nat}{ws:List Value}(j:Nat)(K:At E bk o ws)(ht:De P t=some false)(O:Ez b n L ops i=some ⟨d,.load t x,ty,p,af,g⟩)(U:ev L x=some (.pointer (some ⟨bk,o+j,none⟩)))(V:ws[j]? =some v)
  (Y:JL J Q b n (AF L d v) ds (.inRegion ops rest::k) cs (Ao E H S)):
  JL J Q b n L ds (.inRegion ops (i::rest)::k) cs (Ao E H S):=
 AD O (fun _ h=>Yl.load ht (h _ _ U) (At.JY K V)) Y
theorem Pe{bk off:Nat}{c:Array Value}(j:Nat)(K:Aw E H S)(O:BE P t=some v.cells.size)(U:Ez b n L ops i=some ⟨d,.store t x y,ty,p,af,g⟩)
  (V:ev L x=some (.pointer (some ⟨bk,off,none⟩))) (Y:ev L y=some v) (Z:S[j]? =some [(bk,.cells c e (0,0))])
  (h:Aw E H (S.set j [(bk,.cells (A0 c off v.cells.toList) e (0,0))])→JL J Q b n (AF L d undef) ds (.inRegion ops rest::k) cs (Ao E H (S.set j [(bk,.cells (A0 c off v.cells.toList) e (0,0))])))
  (hle:off+v.cells.size≤c.size:=by exact Nat.le_of_ble_eq_true rfl) (ag:∀u∈v.cells.toList,CI u=true:=by simp [Value.cells,CI]):
  JL J Q b n L ds (.inRegion ops (i::rest)::k) cs (Ao E H S):=by
 obtain⟨al,am,ap⟩:=IW U;exact JS.store j al am ap K V Y O ag Z hle h
theorem BO{bk o:Nat}{ws:List Value}(K:At E bk o ws)(ht:De P t=some true)(O:BE P t=some ws.length)(U:Ez b n L ops i=some ⟨d,.load t x,ty,p,af,g⟩)(V:ev L x=some (.pointer (some ⟨bk,o,none⟩)))
  (Y:JL J Q b n (AF L d (.agg ws.toArray)) ds (.inRegion ops rest::k) cs (Ao E H S)):
  JL J Q b n L ds (.inRegion ops (i::rest)::k) cs (Ao E H S):=
 AD U (fun _ h=>FY ht O (h _ _ V) (At.Yr K)) Y
variable {m:Nat}{D:Nat→Bool}{fuel:Nat}{listed:Array Bool}
theorem B8{bk o O off:Nat}{U:Array Field}{V:Nat}(i:Nat)(Y:DK ops m=true)(ht:P.underlying t=some (.struct U))(Z:BE P ft=some (O+1))(ag:s.q=false)(al:F6 n L ops i=some ⟨d,.fieldAddr t x V,ty,p,af,g⟩)(am:ev L x=some (.pointer (some ⟨bk,o,none⟩)))(K:K9 U V=some (off,ft))
  (ap:AX J Q b n ds ops k cs m D fuel (Be listed i) (AF L d (.pointer (some ⟨bk,o+off,none⟩))) s) (av:Fv ops listed m i=true:=by decide+kernel):AX J Q b n ds ops k cs m D (fuel+1) listed L s:=by
 unfold K9 at K;split at K
 ·rename_i f aY;cases K;refine BB i Y ag al (fun ρ h _ _=>Se (a:=⟨bk,o,none⟩) O f.offset ht Z aY rfl rfl (h _ _ am)) ?_ av;rw [DJ rfl];exact ap
 ·cases K
theorem Cv{bk o:Nat}{ws:List Value}(i:Nat)(K:DK ops m=true)(j:Nat)(O:At (BI D s).E bk o ws)(ht:De P t=some false)(U:s.q=false)(V:F6 n L ops i=some ⟨d,.load t x,ty,p,af,g⟩)(Y:ev L x=some (.pointer (some ⟨bk,o+j,none⟩)))(Z:ws[j]? =some v)
  (ag:AX J Q b n ds ops k cs m D fuel (Be listed i) (AF L d v) s) (al:Fv ops listed m i=true:=by decide+kernel):AX J Q b n ds ops k cs m D (fuel+1) listed L s:=
 BB i K U V (fun _ h _ hs=>Yl.load ht (h _ _ Y) (At.Pa O hs Z)) ag al
theorem Fa{bk o:Nat}{ws:List Value}(i:Nat)(K:DK ops m=true)(O:At (BI D s).E bk o ws)(ht:De P t=some true)(U:BE P t=some ws.length)(V:s.q=false)(Y:F6 n L ops i=some ⟨d,.load t x,ty,p,af,g⟩)(Z:ev L x=some (.pointer (some ⟨bk,o,none⟩)))
  (ag:AX J Q b n ds ops k cs m D fuel (Be listed i) (AF L d (.agg ws.toArray)) s) (al:Fv ops listed m i=true:=by decide+kernel):AX J Q b n ds ops k cs m D (fuel+1) listed L s:=
 BB i K V Y (fun _ h _ hs=>FY ht U (h _ _ Z) (At.O2 O hs)) ag al
end
end Pal
namespace Pal
open Go Go.Conc
abbrev A2:=List (List Int)×List (List Int)
abbrev BT:=List (List Int)×List (List Int)×List Nat
abbrev Ca:=Int×List Int×Nat
abbrev Bs:=Int×Int×List Ca
abbrev AI:=List (Int×Int)
abbrev BV:=List Int×Int×Nat
abbrev An:=Option Addr
abbrev Dp:Rp Ca:=rP rI (rP (rL rI) (rN .u16))
abbrev Ct:Rp Bs:=rP rI (rP rI (rL Dp))
abbrev Bo:Rp (Int×Int):=rP rI rI
theorem ip{α:Type}{p:Prop} [Decidable p] {A B:Option α}{r:α}(h:(if p then A else B)=some r)(c:p):A=some r:=by rwa [if_pos c] at h
theorem im{α:Type}{p:Prop} [Decidable p] {A B:Option α}{r:α}(h:(if p then A else B)=some r)(c:¬p):B=some r:=by rwa [if_neg c] at h
theorem ib{α:Type}{c:Bool}{A B:Option α}{r:α}(h:(if c=true then A else B)=some r)(K:c=false):B=some r:=by subst K;simpa using h
def Pk(n:Nat)(ops:Array Oper):List Nat→Nat→Env→Option (Nat×Env)
 | [],f,L=>some (f,L)
 | i::l,f+1,L=>match NQ n L ops i with
  | some L'=>Pk n ops l f L'
  | none=>none
 | _::_,0,_=>none
def O6(ops:Array Oper)(m:Nat):Array Bool→List Nat→Bool
 | _,[]=>true
 | listed,i::l=>Fv ops listed m i&&O6 ops m (Be listed i) l
def Tf:Array Bool→List Nat→Array Bool
 | listed,[]=>listed
 | listed,i::l=>Tf (Be listed i) l
theorem A4{P:Program}{J:Judge P}{Q:Goroutine→St→Prop}{b:Frame}{n:Nat}{ds:List Deferred}{k:List Item}{cs:List Frame}{s:St}{ops:Array Oper}{m:Nat}{D:Nat→Bool}{L':Env}{U:Nat}(V:DK ops m=true)(Y:s.q=false):
  ∀(l:List Nat) {fuel:Nat} {listed:Array Bool} {L:Env},Pk n ops l fuel L=some (U,L')→AX J Q b n ds ops k cs m D U (Tf listed l) L' s→(K:O6 ops m listed l=true:=by decide+kernel)→AX J Q b n ds ops k cs m D fuel listed L s
 | [],fuel,listed,L,h,O,_=>by cases h;exact O
 | i::l,fuel,listed,L,h,O,K=>by
  cases fuel with
  | zero=>cases h
  | succ fuel=>
   unfold O6 at K;rw [Bool.and_eq_true] at K;unfold Pk at h;split at h
   ·rename_i Z e;exact Cj i V Y e (A4 V Y l h O K.2) K.1
   ·cases h
theorem zg{P:Program}{J:Judge P}{Q:Goroutine→St→Prop}{b:Frame}{n:Nat}{L L':Env}{ds:List Deferred}{k k':List Item}{cs:List Frame}{s:St}(m:Nat)(h:Nh b n m k L=some (k',L'))(K:JL J Q b n L' ds k' cs s):JL J Q b n L ds k cs s:=JL.go m h K
abbrev bX(r:Nat)(c:Array Value)(t:TypeId):Seg:= [(r,.cells c t (0,0))]
end Pal
namespace Pal
open Go Go.Conc
section
variable {P:Program}{J:Judge P}{Q:Goroutine→St→Prop}{b:Frame}{n:Nat}{L L':Env}{ds:List Deferred}{k:List Item}{cs:List Frame}{s:St}{ops:Array Oper}{E H:LH}{S:List Seg}
variable {α:Type}{A B:Option α}{r:α}
theorem AL{c:Operand}{x y:Code}{p:Prop} [Decidable p] (K:(if p then A else B)=some r)(O:p→A=some r→JL J Q b n L ds (.code x::k) cs s)(U:¬p→B=some r→JL J Q b n L ds (.code y::k) cs s)
  (V:ev L c=some (.bool (decide p)):=by exact rfl):JL J Q b n L ds (.code (.cond c x y)::k) cs s:=OJ V (fun h=>O h (ip K h)) fun h=>U h (im K h)
theorem BH{c:Operand}{x y:Code}{t:Bool}(K:(if t=true then A else B)=some r)(O:t=true→A=some r→JL J Q b n L ds (.code x::k) cs s)(U:t=false→B=some r→JL J Q b n L ds (.code y::k) cs s)
  (V:ev L c=some (.bool t):=by exact rfl):JL J Q b n L ds (.code (.cond c x y)::k) cs s:=Q5 V (fun h=>O h (ip K h)) fun h=>U h (ib K h)
theorem Ee{q:Prop} [Decidable q] (i:Nat)(K:(if q then A else B)=some r)(O:q→A=some r→JL J Q b n (AF L (some i) (.bool true)) ds k cs s)(U:¬q→B=some r→JL J Q b n (AF L (some i) (.bool false)) ds k cs s)
  (V:look L i=some (.bool (decide q)):=by exact rfl):JL J Q b n L ds k cs s:=Vo V (fun h=>O h (ip K h)) fun h=>U h (im K h)
theorem DZ{t:Bool}(i:Nat)(K:(if t=true then A else B)=some r)(O:t=true→A=some r→JL J Q b n (AF L (some i) (.bool true)) ds k cs s)(U:t=false→B=some r→JL J Q b n (AF L (some i) (.bool false)) ds k cs s)
  (V:look L i=some (.bool t):=by exact rfl):JL J Q b n L ds k cs s:=U6 V (fun h=>O h (ip K h)) fun h=>U h (ib K h)
theorem CN{K O:Type}{c:Code}{body:K→Option (Bi K O)}{f:Nat}{U:K}{a:O}(Y:iter body f U=some a)(I:Env→St→K→Prop)(Z:I L' s U)
  (round:∀L s x,I L s x→(∀V,body x=some (.done V)→V=a)→(∃st,body x=some st)→(∀L' s' x',I L' s' x'→body x=some (.more x')→JL J Q b n L' ds (.inLoop c::k) cs s')→JL J Q b n L ds (.code c:: .inLoop c::k) cs s)
  (ag:G2 L L'=G3 L':=by exact rfl):JL J Q b n L ds (.code (.loop c)::k) cs s:=Iy L' ag (QW Y I Z round)
variable {m:Nat}{D:Nat→Bool}{fuel:Nat}{listed:Array Bool}
def NA(ops:Array Oper):Array Bool→List Nat→Bool
 | _,[]=>true
 | l,i::t=>Region.ready .any ops l== [i]&&NA ops (Be l i) t
theorem RR:∀{t:List Nat} {l:Array Bool},NA ops l t=true→∀u,Region.linearise.go .any ops t.length u l []=t
 | [],_,_,_=>rfl
 | i::t,l,h,u=>by
  unfold NA at h
  rw [Bool.and_eq_true,beq_iff_eq] at h
  exact YR h.1 (RR h.2) u
theorem Ci(t:List Nat)(O:JL J Q b n L ds (.inRegion ops t::k) cs s)(K:(Pd m listed&&NA ops listed t&&(fuel+1==t.length))=true:=by decide+kernel):AX J Q b n ds ops k cs m D (fuel+1) listed L s:=by
 rw [Bool.and_eq_true,Bool.and_eq_true,beq_iff_eq] at K;exact AX.leaf K.1.1 (by rw [K.2];exact RR K.1.2) O
theorem C6(m:Nat){id:Nat}(h:DK ops m=true→AX J Q b n ds ops k cs m EG ops.size (Array.replicate ops.size false) L (Ao E H S))(hm:P.follows .mixedOrders=true:=by exact rfl)(K:(b.kind != .early)=true:=by exact rfl)(ht:DK ops m=true:=by decide+kernel):
  JL J Q b n L ds (.code (.region id ops true)::k) cs (Ao E H S):=Wd m hm K ht h
theorem Dh(m:Nat)(bks:List Nat){id:Nat}(K:Gh S bks)(O:Aw E H S)(h:DK ops m=true→AX J Q b n ds ops k cs m (A5 bks) ops.size (Array.replicate ops.size false) L (Ao E H S))(hm:P.follows .mixedOrders=true:=by exact rfl)(U:(b.kind != .early)=true:=by exact rfl)(ht:DK ops m=true:=by decide+kernel):
  JL J Q b n L ds (.code (.region id ops true)::k) cs (Ao E H S):=Wy m bks K O hm U ht h
theorem Cy{α:Type}{pp:Rp α}{a:Option Addr}{c:Nat}{xs:List α}{xv:α}{K:Int}{d:Option Tmp}{x y:Operand}{t ty e:TypeId}{p:String}{af:Array Edge}{g:Option (Nat×Bool)}{kd:IntKind}(i:Nat)(O:Al pp E a c xs)(U:ix xs K=some xv)(V:DK ops m=true)(ht:P.underlying t=some (.slice e))(Y:BE P e=some pp.n)
  (h:∀bk o ws,pp.r E ws xv→At E bk o ws→AX J Q b n ds ops k cs m D fuel (Be listed i) (AF L d (.pointer (some ⟨bk,o,none⟩))) s)
  (Z:ops[i]? =some ⟨d,.indexAddr t x y,ty,p,af,g⟩:=by exact rfl) (ag:Fv ops listed m i=true:=by decide+kernel) (al:s.q=false:=by exact rfl)
  (hw:Bd L ops ⟨d,.indexAddr t x y,ty,p,af,g⟩=some true:=by exact rfl) (am:BF n d=true:=by exact rfl)
  (ap:ev L x=some (.slice a xs.length c):=by exact rfl) (av:ev L y=some (.int kd K):=by exact rfl):
  AX J Q b n ds ops k cs m D (fuel+1) listed L s:=Zb i O U Z V ag al hw am ap av ht Y h
end
end Pal
namespace Pal
open Go Go.Conc
section
variable {P:Program}{J:Judge P}{Q:Goroutine→St→Prop}{b:Frame}{n:Nat}{ds:List Deferred}{ops:Array Oper}{k:List Item}{cs:List Frame}{fuel:Nat}{D:Nat→Bool}{listed:Array Bool}{L L':Env}{s:St}{xl:List Nat}
variable {d:Option Tmp}{op:Op}{ty:TypeId}{p:String}{af:Array Edge}{g:Option (Nat×Bool)}{v:Value}
theorem GG(i:Nat)(pure:Bool)(K:s.q=false)(O:F6 n L ops i=some ⟨d,op,ty,p,af,g⟩)
  (U:∀ρ,ED L ρ→∀s':St,(pure=false→∀x o,(BI D s).E x=some o→s'.E x=some o)→Yl P ⟨d,op,ty,p,af,g⟩ ρ s' v)
  (V:Fy J Q b n ds ops k cs (A5 xl) D fuel (Be listed i) (AF L d v) s) (Y:J4 ops listed xl pure i=true:=by decide+kernel):Fy J Q b n ds ops k cs (A5 xl) D (fuel+1) listed L s:=by
 obtain⟨Z,ag,al⟩:=Of O;exact SE i pure Z Y K ag al U V
def PD(n:Nat)(L:Env)(ops:Array Oper)(i:Nat):Option Env:=
 match HW ops.toList i with
 | some ⟨d,op,ty,p,af,g⟩=>match Bd L ops ⟨d,op,ty,p,af,g⟩ with
  | some true=>match BF n d with
   | true=>match Ja L op with
    | some v=>match d with
     | some d=>some ((d,v)::L)
     | none=>some L
    | none=>none
   | false=>none
  | _=>none
 | none=>none
theorem Wq{i:Nat}(h:PD n L ops i=some L'):∃o v,ops[i]? =some o∧BF n o.dst=true∧Bd L ops o=some true∧Ja L o.op=some v∧L'=AF L o.dst v:=by
 unfold PD at h;split at h
 ·rename_i d op ty p af g K;rw [JD,Array.getElem?_toList] at K;split at h
  ·rename_i hw;split at h
   ·rename_i O;split at h
    ·rename_i v U;refine⟨_,v,K,O,hw,U,?_⟩;cases d with
     | none=>cases h;rfl
     | some d=>cases h;rfl
    ·cases h
   ·cases h
  ·cases h
 ·cases h
theorem Bp(i:Nat)(K:s.q=false)(h:PD n L ops i=some L')
  (O:Fy J Q b n ds ops k cs (A5 xl) D fuel (Be listed i) L' s) (U:J4 ops listed xl true i=true:=by decide+kernel):Fy J Q b n ds ops k cs (A5 xl) D (fuel+1) listed L s:=by
 obtain⟨o,v,V,Y,hw,Z,rfl⟩:=Wq h;exact SE i true V U K hw Y (fun ρ ag s' _=>MJ ag Z) O
end
end Pal
namespace Pal
open Go Go.Conc
section
variable {P:Program}{J:Judge P}{Q:Goroutine→St→Prop}{b:Frame}{n:Nat}{L L':Env}{ds:List Deferred}{k:List Item}{cs:List Frame}{s:St}{ops:Array Oper}{E H:LH}{S:List Seg}{i i2:Nat}{rest:List Nat}
variable {d d2:Option Tmp}{x y x2:Operand}{t t2 ft u ty ty2 e:TypeId}{p p2:String}{af af2:Array Edge}{g g2:Option (Nat×Bool)}{v w:Value}
theorem B4(O:Aw E H S)(h:∀r E',Le E E'→At E' r 0 v.cells.toList→Aw E' H (S++ [[]])→JL J Q b n (AF L d (.pointer (some ⟨r,0,none⟩))) ds (.inRegion ops rest::k) cs (Ao E' H (S++ [[]])))
  (U:Ez b n L ops i=some ⟨d,.box e x,ty,p,af,g⟩:=by exact rfl) (V:ev L x=some v:=by exact rfl):JL J Q b n L ds (.inRegion ops (i::rest)::k) cs (Ao E H S):=by
 obtain⟨Y,Z,ag⟩:=IW U;refine JS.box Y Z ag O V fun r al=>CV (bk:=r) (c:=v.cells) (e:=e) (f:=(0,0)) S.length al (by simp) fun E' hle am K=>?_;have ap:(S++ [[(r,Obj.cells v.cells e (0,0))]]).set S.length []=S++ [[]]:=by simp
 rw [ap] at K ⊢;exact h r E' hle am K
theorem CF{z:Value}(K:Aw E H S)(O:zeroOf P e=some z)(h:∀r,Aw E H (S++ [[(r,.cells z.cells e (0,0))]])→JL J Q b n (AF L d (.pointer (some ⟨r,0,none⟩))) ds (.inRegion ops rest::k) cs (Ao E H (S++ [[(r,.cells z.cells e (0,0))]])))
  (U:Ez b n L ops i=some ⟨d,.alloc e,ty,p,af,g⟩:=by exact rfl):JL J Q b n L ds (.inRegion ops (i::rest)::k) cs (Ao E H S):=by
 obtain⟨V,Y,Z⟩:=IW U;exact JS.alloc V Y Z K O h
theorem BR{bk off K:Nat}{c:Array Value}(j:Nat)(O:Aw E H S)(U:BE P t=some K)
  (h:Aw E H (S.set j [(bk,.cells (A0 c off v.cells.toList) e (0,0))])→JL J Q b n (AF L d undef) ds (.inRegion ops rest::k) cs (Ao E H (S.set j [(bk,.cells (A0 c off v.cells.toList) e (0,0))])))
  (V:Ez b n L ops i=some ⟨d,.store t x y,ty,p,af,g⟩:=by exact rfl) (Y:ev L x=some (.pointer (some ⟨bk,off,none⟩)):=by exact rfl) (Z:ev L y=some v:=by exact rfl) (ag:S[j]? =some [(bk,.cells c e (0,0))]:=by exact rfl)
  (al:K=v.cells.size:=by exact rfl) (hle:off+v.cells.size≤c.size:=by exact Nat.le_of_ble_eq_true rfl) (am:v.cells.toList.all CI=true:=by first | exact rfl | simp [Value.cells,CI]):
  JL J Q b n L ds (.inRegion ops (i::rest)::k) cs (Ao E H S):=Pe j O (by rw [← al];exact U) V Y Z ag h hle (List.all_eq_true.1 am)
theorem JL.fl{bk o o1 U off:Nat}{K:Array Field}{O:Nat}{ws:List Value}(j:Nat)(V:At E bk o ws)(ht:P.underlying t=some (.struct K))(Y:BE P ft=some (U+1))(Z:De P t2=some false)
  (ag:JL J Q b n (AF (AF L d (.pointer (some ⟨bk,o1+off,none⟩))) d2 v) ds (.inRegion ops rest::k) cs (Ao E H S))
  (al:Ez b n L ops i=some ⟨d,.fieldAddr t x O,ty,p,af,g⟩:=by exact rfl) (am:ev L x=some (.pointer (some ⟨bk,o1,none⟩)):=by exact rfl) (ap:K9 K O=some (off,ft):=by exact rfl)
  (av:Ez b n (AF L d (.pointer (some ⟨bk,o1+off,none⟩))) ops i2=some ⟨d2,.load t2 x2,ty2,p2,af2,g2⟩:=by exact rfl) (aY:ev (AF L d (.pointer (some ⟨bk,o1+off,none⟩))) x2=some (.pointer (some ⟨bk,o+j,none⟩)):=by exact rfl) (aZ:ws[j]? =some v:=by exact rfl):
  JL J Q b n L ds (.inRegion ops (i::i2::rest)::k) cs (Ao E H S):=BJ ht Y al am ap (BY j V Z av aY aZ ag)
theorem Ce{α:Type}{pp:Rp α}{a:Option Addr}{c:Nat}{xs:List α}{xv:α}{m:Int}{kd:IntKind}(K:Al pp E a c xs)(hm:ix xs m=some xv)(ht:P.underlying t=some (.slice e))(O:BE P e=some pp.n)
  (h:∀bk o ws,pp.r E ws xv→At E bk o ws→JL J Q b n (AF L d (.pointer (some ⟨bk,o,none⟩))) ds (.inRegion ops rest::k) cs (Ao E H S))
  (U:Ez b n L ops i=some ⟨d,.indexAddr t x y,ty,p,af,g⟩:=by exact rfl) (V:ev L x=some (.slice a xs.length c):=by exact rfl) (Y:ev L y=some (.int kd m):=by exact rfl):
  JL J Q b n L ds (.inRegion ops (i::rest)::k) cs (Ao E H S):=by
 obtain⟨Z,ag,al⟩:=IW U;exact XM K hm Z ag al V Y ht O h
theorem C4(K:List Seg)(O:Env){todo:List Item}{c:Code}(U:∀E',Le E E'→Aw E' H K→JL J Q b n O ds todo cs (Ao E' H K))
  (h:(∀{E':LH} {L:Env},Le E E'→Aw E' H K→G2 L O=G3 O→JL J Q b n L ds todo cs (Ao E' H K))→JL J Q b n L ds (.code c::todo) cs (Ao E H S)):JL J Q b n L ds (.code c::todo) cs (Ao E H S):=
 h fun V Y Z=>Az (U _ V Y) Z
theorem Dr{U:List Nat}(V Y:Nat)(K:List Seg)(O:Env){todo:List Item}(Z:∀E',Le E E'→Aw E' H K→JL J Q b n O ds (.inRegion ops (List.range' V Y)::todo) cs (Ao E' H K))
  (h:(∀{E':LH} {L:Env},Le E E'→Aw E' H K→G2 L O=G3 O→JL J Q b n L ds (.inRegion ops (List.range' V Y)::todo) cs (Ao E' H K))→JL J Q b n L ds (.inRegion ops U::todo) cs (Ao E H S)):JL J Q b n L ds (.inRegion ops U::todo) cs (Ao E H S):=
 h fun ag al am=>Az (Z _ ag al) am
theorem Cx{O ag:Type}{c:Code}{body:O→Option (Bi O ag)}{f:Nat}{V:O}{a:ag}{Y:LH}{k:List Item}(am:iter body f V=some a)(K:O→List Seg)(U:O→Env)(hle:Le Y E)(ap:Aw E H (K V))
  (round:∀x E',Le Y E'→Aw E' H (K x)→(∀al,body x=some (.done al)→al=a)→(∃st,body x=some st)→(∀{L':Env} {Z:LH} (x':O),Le Y Z→Aw Z H (K x')→G2 L' (U x')=G3 (U x')→body x=some (.more x')→JL J Q b n L' ds (.inLoop c::k) cs (Ao Z H (K x')))→JL J Q b n (U x) ds (.code c:: .inLoop c::k) cs (Ao E' H (K x)))
  (av:G2 L (U V)=G3 (U V):=by exact rfl) (aY:Ao E H S=Ao E H (K V):=by exact rfl):JL J Q b n L ds (.code (.loop c)::k) cs (Ao E H S):=by
 rw [aY];refine Iy _ av (QW am (fun L s x=>∃E',Jm Y H E' (K x) (U x) L s) ⟨E,rfl,rfl,hle,ap⟩ ?_);rintro _ _ x ⟨E',rfl,rfl,aZ,a0⟩ a1 hb a2;exact round x E' aZ a0 a1 hb fun x' a3 g2 a4 a5=>Az (a2 _ _ x' ⟨_,rfl,rfl,a3,g2⟩ a5) a4
theorem A3{f:FuncId}{fn:Func}{c:Code}{E:LH}{vs:List Value}{B:Seg}{R:Value→LH→Seg→Prop}(O:P.funcs[f]? =some fn)
  (h:∀(Q:Goroutine→St→Prop) (K:Frame) (cs:List Frame) (H:LH),Aw E H [B]→(∀{v:Value} {E':LH} {S':List Seg} {B':Seg},Le E E'→S'.flatten=B'→R v E' B'→Aw E' H S'→J.ok Q (G (K.finish v) cs) (Ao E' H S'))→JL J Q (base f) fn.ntmps (FK 0 vs) [] [.code c] (K::cs) (Ao E H [B]))
  (hb:fn.body=some c:=by exact rfl) (U:Nat.ble vs.length fn.ntmps=true:=by exact rfl):AK J f vs E B R:=
 JP O hb U fun Q K cs H V Y=>h Q K cs H V fun Z ag al am=>Y _ _ _ _ Z ag al am
variable {m:Nat}{fuel:Nat}{listed:Array Bool}{bks xl:List Nat}
theorem Fb{bk:Nat}{c:Array Value}{f:Nat×Nat}(i:Nat)(K:DK ops m=true)(o:Nat)(j:Nat)(O:Aw E H S)(U:De P t=some false)
  (V:AX J Q b n ds ops k cs m (A5 bks) fuel (Be listed i) (AF L d w) (Ao E H S)) (Y:F6 n L ops i=some ⟨d,.load t x,ty,p,af,g⟩:=by exact rfl) (Z:ev L x=some (.pointer (some ⟨bk,o,none⟩)):=by exact rfl)
  (ag:S[j]? =some [(bk,.cells c e f)]:=by exact rfl) (hw:c[o]? =some w:=by exact rfl) (al:A5 bks bk=true:=by simp [A5]) (am:Fv ops listed m i=true:=by decide+kernel):AX J Q b n ds ops k cs m (A5 bks) (fuel+1) listed L (Ao E H S):=
 BB i K rfl Y (fun ρ h s' hs=>Yl.load U (h _ _ Z) (Io (o:=o) j O ag al hs hw)) V am
theorem JG.lp{bk o:Nat}{ws:List Value}(i:Nat)(K:DK ops m=true)(j:Nat)(O:At E bk o ws)(U:Aw E H S)(V:Gh S bks)(Y:De P t=some false)
  (Z:AX J Q b n ds ops k cs m (A5 bks) fuel (Be listed i) (AF L d w) (Ao E H S)) (ag:F6 n L ops i=some ⟨d,.load t x,ty,p,af,g⟩:=by exact rfl) (al:ev L x=some (.pointer (some ⟨bk,o+j,none⟩)):=by exact rfl)
  (hw:ws[j]? =some w:=by exact rfl) (am:Fv ops listed m i=true:=by decide+kernel):AX J Q b n ds ops k cs m (A5 bks) (fuel+1) listed L (Ao E H S):=
 BB i K rfl ag (fun ρ h s' hs=>Yl.load Y (h _ _ al) (At.Pa (j:=j) O (O7 U hs V) hw)) Z am
theorem DY{bk o K:Nat}{c:Array Value}{f:Nat×Nat}(i:Nat)(O:DK ops m=true)(vs:List Value)(j:Nat)(U:Aw E H S)(hw:∀(q:Nat) w,vs[q]? =some w→c[o+q]? =some w)(V:De P t=some true)(Y:BE P t=some K)
  (Z:AX J Q b n ds ops k cs m (A5 bks) fuel (Be listed i) (AF L d (.agg vs.toArray)) (Ao E H S)) (ag:F6 n L ops i=some ⟨d,.load t x,ty,p,af,g⟩:=by exact rfl) (al:ev L x=some (.pointer (some ⟨bk,o,none⟩)):=by exact rfl)
  (am:S[j]? =some [(bk,.cells c e f)]:=by exact rfl) (ap:K=vs.length:=by exact rfl) (av:A5 bks bk=true:=by simp [A5]) (aY:Fv ops listed m i=true:=by decide+kernel):AX J Q b n ds ops k cs m (A5 bks) (fuel+1) listed L (Ao E H S):=
 BB i O rfl ag (fun ρ h s' hs=>FY (vs:=vs) V (by rw [← ap];exact Y) (h _ _ al) (fun q w aZ=>by rw [DJ rfl];exact Io j U am av hs (hw q w aZ))) Z aY
theorem F2{D:Nat→Bool}{α:Type}{xs:List α}{xv:α}{K:Int}{bk c O U:Nat}{kd:IntKind}(i:Nat)(V:DK ops m=true)(Y:xs.length=U)(hm:ix xs K=some xv)(ht:P.underlying t=some (.slice e))(Z:BE P e=some O)
  (ag:AX J Q b n ds ops k cs m D fuel (Be listed i) (AF L d (.pointer (some ⟨bk,K.toNat*O,none⟩))) s) (al:s.q=false:=by exact rfl) (am:F6 n L ops i=some ⟨d,.indexAddr t x y,ty,p,af,g⟩:=by exact rfl)
  (ap:ev L x=some (.slice (some ⟨bk,0,none⟩) U c):=by exact rfl) (av:ev L y=some (.int kd K):=by exact rfl) (aY:Fv ops listed m i=true:=by decide+kernel):AX J Q b n ds ops k cs m D (fuel+1) listed L s:=
 BB i V al am (fun ρ h s' hs=>Gw Y hm ht Z (h _ _ ap) (h _ _ av)) ag aY
theorem Cu{D:Nat→Bool}{α:Type}{xs:List α}{xv:α}{K:Int}{bk c O U:Nat}{kd:IntKind}(i:Nat)(V:xs.length=U)(hm:ix xs K=some xv)(ht:P.underlying t=some (.slice e))(Y:BE P e=some O)
  (Z:Fy J Q b n ds ops k cs (A5 xl) D fuel (Be listed i) (AF L d (.pointer (some ⟨bk,K.toNat*O,none⟩))) s) (ag:s.q=false:=by exact rfl) (al:F6 n L ops i=some ⟨d,.indexAddr t x y,ty,p,af,g⟩:=by exact rfl)
  (am:ev L x=some (.slice (some ⟨bk,0,none⟩) U c):=by exact rfl) (ap:ev L y=some (.int kd K):=by exact rfl) (av:J4 ops listed xl true i=true:=by decide+kernel):Fy J Q b n ds ops k cs (A5 xl) D (fuel+1) listed L s:=
 GG i true ag al (fun ρ h s' hs=>Gw V hm ht Y (h _ _ am) (h _ _ ap)) Z av
theorem Ef{bk o K:Nat}{c:Array Value}{f:Nat×Nat}(i:Nat)(vs:List Value)(j:Nat)(O:Aw E H S)(hw:∀(q:Nat) w,vs[q]? =some w→c[o+q]? =some w)(U:De P t=some true)(V:BE P t=some K)
  (Y:Fy J Q b n ds ops k cs (A5 xl) (A5 bks) fuel (Be listed i) (AF L d (.agg vs.toArray)) (Ao E H S)) (Z:F6 n L ops i=some ⟨d,.load t x,ty,p,af,g⟩:=by exact rfl) (ag:ev L x=some (.pointer (some ⟨bk,o,none⟩)):=by exact rfl)
  (al:S[j]? =some [(bk,.cells c e f)]:=by exact rfl) (am:K=vs.length:=by exact rfl) (ap:A5 bks bk=true:=by simp [A5]) (av:J4 ops listed xl false i=true:=by decide+kernel):Fy J Q b n ds ops k cs (A5 xl) (A5 bks) (fuel+1) listed L (Ao E H S):=
 GG i false rfl Z (fun ρ h s' hs=>FY (vs:=vs) U (by rw [← am];exact V) (h _ _ ag) (fun q w aY=>by rw [DJ rfl];exact Io j O al ap (hs rfl) (hw q w aY))) Y av
theorem Ed{bk off K:Nat}{c:Array Value}{D:Nat→Bool}(i j:Nat)(O:Aw E H S)(U:BE P t=some K)(hle:off+K≤c.size)
  (h:Aw E H (S.set j [(bk,.cells (A0 c off v.cells.toList) e (0,0))])→Fy J Q b n ds ops k cs (A5 xl) D fuel (Be listed i) (AF L d undef) (Ao E H (S.set j [(bk,.cells (A0 c off v.cells.toList) e (0,0))])))
  (V:F6 n L ops i=some ⟨d,.store t x y,ty,p,af,g⟩:=by exact rfl) (Y:ev L x=some (.pointer (some ⟨bk,off,none⟩)):=by exact rfl) (Z:ev L y=some v:=by exact rfl) (ag:S[j]? =some [(bk,.cells c e (0,0))]:=by exact rfl)
  (al:K=v.cells.size:=by exact rfl) (am:v.cells.toList.all CI=true:=by first | exact rfl | simp [Value.cells,CI]) (ap:Region.ready .any ops listed= [i]:=by decide+kernel) (av:A5 xl i=true:=by decide+kernel):
  Fy J Q b n ds ops k cs (A5 xl) D (fuel+1) listed L (Ao E H S):=by
 obtain⟨aY,aZ,a0⟩:=Of V;subst al;exact JB.store i j ap av aY aZ a0 O Y Z U (List.all_eq_true.1 am) ag hle h
end
end Pal
namespace Pal
open Go Go.Conc Go.Proofs
end Pal
namespace Pal
open Go Go.Conc Go.Proofs
end Pal
namespace Pal
open Go Go.Conc Go.Proofs
open Go.Proofs.Tryz
variable {J:Judge Tryz.prog}{E:LH}
def AW:=Bu Tryz.type3
def Bv:=Dv Tryz.underlying3
def Cc:=Bu Tryz.type27
def Gs:=Dv Tryz.underlying27
def BX:=Bu Tryz.type28
def CQ:=Dv Tryz.underlying28
def LX:=AS Tryz.func32 rfl
def BQ:=Bu Tryz.type22
def Cr:=Dv Tryz.underlying22
def Ic:=Bu Tryz.type90
def LV:=Dv Tryz.underlying90
def HF:=AS Tryz.func41 rfl
def CM:=Du Tryz.type3
def Er:=Du Tryz.type27
def Fo:=Du Tryz.type28
def GU:=Du Tryz.type24
def BD:=Bu Tryz.type24
def BW:=Dv Tryz.underlying24
def Ke:=AS Tryz.func104 rfl
def Ie:=Bu Tryz.type4
def NV:=AS Tryz.func103 rfl
def L3:=AS Tryz.func90 rfl
def II:=AS Tryz.func101 rfl
def FF:=Du Tryz.type183
def LQ:=Dv Tryz.underlying210
def Kj:=Bu Tryz.type210
def IJ:=AS Tryz.func89 rfl
def Jf:=AS Tryz.func120 rfl
def Ek:=Bu Tryz.type102
def GO:=Dv Tryz.underlying102
def Cs:=Bu Tryz.type104
def FT:=Dv Tryz.underlying104
def GR:=Du Tryz.type104
def Ga:=Bu Tryz.type139
def Ib:=Bu Tryz.type138
def LR:=Dv Tryz.underlying139
def Hg:=Bu Tryz.type25
def HE:=Dv Tryz.underlying25
def NZ:=Bu Tryz.type94
def LU:=Dv Tryz.underlying94
def Dt:=Bu Tryz.type95
def EN:=Dv Tryz.underlying95
def FE:=Dv Tryz.underlying173
def Dk:=Bu Tryz.type97
def Ia:=Du Tryz.type133
def AR:=Bu Tryz.type133
def LS:=Dv Tryz.underlying162
def Cp:=Dv Tryz.underlying133
def GQ:=AS Tryz.func134 rfl
def NU:=AS Tryz.func200 rfl
def NT:=AS Tryz.func178 rfl
def LW:=AS Tryz.func162 rfl
def FU:=Du Tryz.type97
def H8:=Dv Tryz.underlying97
def NY:=AS Tryz.func96 rfl
def Kh:=AS Tryz.func97 rfl
def L4:=AS Tryz.func99 rfl
def NS:=AS Tryz.func112 rfl
def LZ:=AS Tryz.func92 rfl
def Kf:=AS Tryz.func69 rfl
def L2:=AS Tryz.func93 rfl
def Ki:=AS Tryz.func78 rfl
def H9:=AS Tryz.func71 rfl
def NW:=AS Tryz.func72 rfl
def NX:=AS Tryz.func79 rfl
def Kg:=AS Tryz.func27 rfl
theorem mixed:Tryz.prog.follows .mixedOrders=true:=rfl
theorem Z8:Ts Tryz.prog 27:=⟨_,_,underlying27,by decide+kernel,by decide+kernel,by decide,by decide,underlying3,underlying3,rfl,rfl⟩
def f101(fuel:Nat)(p0:Int)(p1:Int)(p2:Int):Option Bool:= Option.bind (if p0<p1 then(some true) else(some (decide (p2<p0)))) fun K=> some K
theorem I2{p0:Int}{p1:Int}{p2:Int}{fuel:Nat}{r:Bool}(K:f101 fuel p0 p1 p2=some r):AK J 101 [iV p0,iV p1,iV p2] E [] (fun w E' B'=>w= .bool r∧B'= []):=by
 refine A3 func101 fun Q aZ cs H O V=>?_;unfold f101 at K;obtain⟨Y,Z,ag⟩:=bs K;refine zg 10 rfl (Dr 8 1 [] [(14,.bool Y)] (fun a0 al am=>?_) (fun U=>?_))
 ·refine zg 2 rfl ?_;obtain rfl:=oi ag;exact AA func101 rfl rfl (V al rfl ⟨rfl,rfl⟩ am)
 ·refine Ee 10 Z (fun ap av=>?_) (fun ap aY=>?_)
  ·refine zg 4 rfl ?_;obtain rfl:=oi av;exact U Ar O rfl
  ·refine zg 4 rfl ?_;obtain rfl:=oi aY;exact U Ar O rfl
def f104(fuel:Nat)(p0:Int)(p1:Int)(p2:Int):Option Bool:= Option.bind (if p1≤p0 then(some (decide (p0≤p2))) else(some false)) fun K=> some K
theorem Lf{p0:Int}{p1:Int}{p2:Int}{fuel:Nat}{r:Bool}(K:f104 fuel p0 p1 p2=some r):AK J 104 [iV p0,iV p1,iV p2] E [] (fun w E' B'=>w= .bool r∧B'= []):=by
 refine A3 func104 fun Q aZ cs H O V=>?_;unfold f104 at K;obtain⟨Y,Z,ag⟩:=bs K;refine zg 10 rfl (Dr 8 1 [] [(14,.bool Y)] (fun a0 al am=>?_) (fun U=>?_))
 ·refine zg 2 rfl ?_;obtain rfl:=oi ag;exact AA func104 rfl rfl (V al rfl ⟨rfl,rfl⟩ am)
 ·refine Ee 10 Z (fun ap av=>?_) (fun ap aY=>?_)
  ·refine zg 4 rfl ?_;obtain rfl:=oi av;exact U Ar O rfl
  ·refine zg 4 rfl ?_;obtain rfl:=oi aY;exact U Ar O rfl
def M9(fuel:Nat)(p0:List Int)(p1:List Int)(K:Int):Option (Bi Int ((Bool)⊕(Unit))):= Option.bind (if K<(p0.length:Int) then(some (decide (K<(p1.length:Int)))) else(some false)) fun O=> if O=true then((ix p0 K).bind fun U=> (ix p1 K).bind fun V=> if U≠V then(some (.done (Sum.inl false))) else((As (K+1)).bind fun Y=> some (.more Y))) else(some (.done (Sum.inr ())))
def f32(fuel:Nat)(p0:List Int)(p1:List Int):Option Bool:= Option.bind (iter (M9 fuel p0 p1) fuel 0) fun K=> Sum.elim (fun r=>some r) (fun O=> some (decide ((p0.length:Int)=(p1.length:Int)))) K
theorem Ns{K:An}{c2:Nat}{O:An}{U:Nat}{p0:List Int}{p1:List Int}(a7:Al rI E K c2 p0)(a8:Al rI E O U p1){fuel:Nat}{r:Bool}(av:f32 fuel p0 p1=some r):AK J 32 [sV K p0 c2,sV O p1 U] E [] (fun w E' B'=>w= .bool r∧B'= []):=by
 refine A3 func32 fun Q bH cs H a9 aY=>?_;unfold f32 at av;obtain⟨aZ,ba,a0⟩:=bs av;refine zg 9 rfl (Br (fun L s=>∃(a1:Unit) (a2:LH),aZ=Sum.inr a1∧Jm E H a2 [] [(0,sV K p0 c2),(1,sV O p1 U)] L s) ?_ ?_)
 ·rintro _ _ ⟨a1,a2,rfl,rfl,rfl,bb,bc⟩;have bd:=elim_inr a0;refine zg 3 rfl (Bg underlying28 rfl rfl rfl ?_);refine zg 1 rfl (Bg underlying28 rfl rfl rfl ?_);refine zg 3 rfl ?_;obtain rfl:=oi bd;exact AA func32 rfl rfl (aY bb rfl ⟨rfl,rfl⟩ bc)
 ·intro be;refine JL.block (Cx ba (fun Z=> []) (fun Z=> [(0,sV K p0 c2),(1,sV O p1 U),(5,iV Z)]) Ar a9 ?_);rintro Z al V a3 a4 ⟨bI,ag⟩ bf;have a5:=ag;unfold M9 at a5;refine zg 5 rfl (Bg underlying28 rfl rfl rfl ?_);obtain⟨bg,bh,bi⟩:=bs a5;refine zg 2 rfl (EC [] (fun L s=>∃(am:LH),Jm al H am [] [(0,sV K p0 c2),(1,sV O p1 U),(5,iV Z),(15,.bool bg)] L s) ?_ ?_)
  ·rintro _ _ ⟨am,rfl,rfl,Y,ap⟩;refine JL.done (BH bi (fun bj bl=>?_) (fun bj bm=>?_))
   ·refine zg 4 rfl (C6 8 fun ht=>?_);refine A4 ht rfl [0,1] rfl ?_;obtain⟨bJ,bn,bo⟩:=bs bl;refine Cy 2 (a7.Ah (V.Ab Y)) bn ht underlying28 AW ?_;rintro bK bL _ rfl bp;refine Cv 3 ht 0 bp Bv rfl rfl rfl rfl (A4 ht rfl [4,5] rfl ?_);obtain⟨bM,bq,br⟩:=bs bo;refine Cy 6 (a8.Ah (V.Ab Y)) bq ht underlying28 AW ?_;rintro bN bO _ rfl bu;refine Cv 7 ht 0 bu Bv rfl rfl rfl rfl (Ci [8] ?_);refine zg 2 rfl (AL br (fun bv bw=>?_) (fun bv bx=>?_))
    ·refine zg 4 rfl ?_;obtain rfl:=oi bw;obtain rfl:=a4 _ ag;have bz:=elim_inl a0;obtain rfl:=oi bz;exact AA func32 rfl rfl (aY (V.Ab Y) rfl ⟨rfl,rfl⟩ ap)
    ·obtain⟨bA,bB,bC⟩:=bs bx;refine zg 4 rfl (Bc bB rfl rfl rfl ?_);refine zg 2 rfl ?_;obtain rfl:=oi bC;exact bf bA (V.Ab Y) ap rfl ag
   ·refine JL.exit rfl ?_;obtain rfl:=oi bm;have bD:aZ=(Sum.inr ()):=(a4 _ ag).symm;exact Az (be _ _ ⟨(),am,bD,rfl,rfl,(V.Ab Y),ap⟩) rfl
  ·intro a6;refine Ee 10 bh (fun bE bF=>?_) (fun bE bG=>?_)
   ·refine zg 2 rfl (Bg underlying28 rfl rfl rfl ?_);refine zg 2 rfl ?_;obtain rfl:=oi bF;exact Az (a6 _ _ ⟨al,rfl,rfl,Ar,a3⟩) rfl
   ·refine zg 5 rfl ?_;obtain rfl:=oi bG;exact Az (a6 _ _ ⟨al,rfl,rfl,Ar,a3⟩) rfl
def MP(fuel:Nat)(p0:AI)(p1:AI)(K:Int):Option (Bi Int ((Bool)⊕(Unit))):= Option.bind (if K<(p0.length:Int) then(some (decide (K<(p1.length:Int)))) else(some false)) fun V=> if V=true then((ix p0 K).bind fun O=> (ix p1 K).bind fun U=> if ¬(O.1=U.1∧O.2=U.2) then(some (.done (Sum.inl false))) else((As (K+1)).bind fun Y=> some (.more Y))) else(some (.done (Sum.inr ())))
def f34(fuel:Nat)(p0:AI)(p1:AI):Option Bool:= Option.bind (iter (MP fuel p0 p1) fuel 0) fun K=> Sum.elim (fun r=>some r) (fun O=> some (decide ((p0.length:Int)=(p1.length:Int)))) K
theorem aB{K:An}{c2:Nat}{O:An}{U:Nat}{p0:AI}{p1:AI}(a9:Al Bo E K c2 p0)(ba:Al Bo E O U p1){fuel:Nat}{r:Bool}(av:f34 fuel p0 p1=some r):AK J 34 [sV K p0 c2,sV O p1 U] E [] (fun w E' B'=>w= .bool r∧B'= []):=by
 refine A3 func34 fun Q bJ cs H bb aY=>?_;unfold f34 at av;obtain⟨aZ,bc,a0⟩:=bs av;refine zg 9 rfl (Br (fun L s=>∃(a1:Unit) (a2:LH),aZ=Sum.inr a1∧Jm E H a2 [] [(0,sV K p0 c2),(1,sV O p1 U)] L s) ?_ ?_)
 ·rintro _ _ ⟨a1,a2,rfl,rfl,rfl,bd,be⟩;have bf:=elim_inr a0;refine zg 3 rfl (Bg underlying25 rfl rfl rfl ?_);refine zg 1 rfl (Bg underlying25 rfl rfl rfl ?_);refine zg 3 rfl ?_;obtain rfl:=oi bf;exact AA func34 rfl rfl (aY bd rfl ⟨rfl,rfl⟩ be)
 ·intro bg;refine JL.block (Cx bc (fun Z=> []) (fun Z=> [(0,sV K p0 c2),(1,sV O p1 U),(5,iV Z)]) Ar bb ?_);rintro Z al V a3 a4 ⟨bK,ag⟩ bh;have a5:=ag;unfold MP at a5;refine zg 5 rfl (Bg underlying25 rfl rfl rfl ?_);obtain⟨bi,bj,bl⟩:=bs a5;refine zg 2 rfl (EC [] (fun L s=>∃(am:LH),Jm al H am [] [(0,sV K p0 c2),(1,sV O p1 U),(5,iV Z),(15,.bool bi)] L s) ?_ ?_)
  ·rintro _ _ ⟨am,rfl,rfl,Y,ap⟩;refine JL.done (BH bl (fun bm bn=>?_) (fun bm bo=>?_))
   ·refine zg 4 rfl (C6 8 fun ht=>?_);refine A4 ht rfl [0,1] rfl ?_;obtain⟨a6,bp,bq⟩:=bs bn;refine Cy 2 (a9.Ah (V.Ab Y)) bp ht underlying25 Cc ?_;rintro bL bM _ ⟨_,_,rfl,rfl,rfl⟩ br;refine Fa 3 ht br Gs Cc rfl rfl rfl (A4 ht rfl [4,5] rfl ?_);obtain⟨a7,bu,bv⟩:=bs bq;refine Cy 6 (ba.Ah (V.Ab Y)) bu ht underlying25 Cc ?_;rintro bN bO _ ⟨_,_,rfl,rfl,rfl⟩ bw;refine Fa 7 ht bw Gs Cc rfl rfl rfl (Ci [8] ?_);refine AD (v:= .bool (decide (¬(a6.1=a7.1∧a6.2=a7.2)))) rfl (fun ρ h=>VT Z8 (h _ _ rfl) (h _ _ rfl)) (JL.done ?_);refine AL bv (fun bx bz=>?_) (fun bx bA=>?_)
    ·refine zg 4 rfl ?_;obtain rfl:=oi bz;obtain rfl:=a4 _ ag;have bB:=elim_inl a0;obtain rfl:=oi bB;exact AA func34 rfl rfl (aY (V.Ab Y) rfl ⟨rfl,rfl⟩ ap)
    ·obtain⟨bC,bD,bE⟩:=bs bA;refine zg 4 rfl (Bc bD rfl rfl rfl ?_);refine zg 2 rfl ?_;obtain rfl:=oi bE;exact bh bC (V.Ab Y) ap rfl ag
   ·refine JL.exit rfl ?_;obtain rfl:=oi bo;have bF:aZ=(Sum.inr ()):=(a4 _ ag).symm;exact Az (bg _ _ ⟨(),am,bF,rfl,rfl,(V.Ab Y),ap⟩) rfl
  ·intro a8;refine Ee 10 bj (fun bG bH=>?_) (fun bG bI=>?_)
   ·refine zg 2 rfl (Bg underlying25 rfl rfl rfl ?_);refine zg 2 rfl ?_;obtain rfl:=oi bH;exact Az (a8 _ _ ⟨al,rfl,rfl,Ar,a3⟩) rfl
   ·refine zg 5 rfl ?_;obtain rfl:=oi bI;exact Az (a8 _ _ ⟨al,rfl,rfl,Ar,a3⟩) rfl
def Nm(fuel:Nat)(p0:List (List Int))(p1:List (List Int))(K:Int):Option (Bi Int ((Bool)⊕(Unit))):= Option.bind (if K<(p0.length:Int) then(some (decide (K<(p1.length:Int)))) else(some false)) fun O=> if O=true then((ix p0 K).bind fun U=> (ix p1 K).bind fun V=> (f32 fuel U V).bind fun Y=> if(!Y)=true then(some (.done (Sum.inl false))) else((As (K+1)).bind fun Z=> some (.more Z))) else(some (.done (Sum.inr ())))
def f84(fuel:Nat)(p0:List (List Int))(p1:List (List Int)):Option Bool:= Option.bind (iter (Nm fuel p0 p1) fuel 0) fun K=> Sum.elim (fun r=>some r) (fun O=> some (decide ((p0.length:Int)=(p1.length:Int)))) K
theorem Te{K:An}{c2:Nat}{O:An}{U:Nat}{p0:List (List Int)}{p1:List (List Int)}(a9:Al (rL rI) E K c2 p0)(ba:Al (rL rI) E O U p1){fuel:Nat}{r:Bool}(ap:f84 fuel p0 p1=some r):AK J 84 [sV K p0 c2,sV O p1 U] E [] (fun w E' B'=>w= .bool r∧B'= []):=by
 refine A3 func84 fun Q bO cs H bb av=>?_;unfold f84 at ap;obtain⟨aY,bc,aZ⟩:=bs ap;refine zg 9 rfl (Br (fun L s=>∃(a0:Unit) (a1:LH),aY=Sum.inr a0∧Jm E H a1 [] [(0,sV K p0 c2),(1,sV O p1 U)] L s) ?_ ?_)
 ·rintro _ _ ⟨a0,a1,rfl,rfl,rfl,bd,be⟩;have bf:=elim_inr aZ;refine zg 3 rfl (Bg underlying22 rfl rfl rfl ?_);refine zg 1 rfl (Bg underlying22 rfl rfl rfl ?_);refine zg 3 rfl ?_;obtain rfl:=oi bf;exact AA func84 rfl rfl (av bd rfl ⟨rfl,rfl⟩ be)
 ·intro bg;refine JL.block (Cx bc (fun Z=> []) (fun Z=> [(0,sV K p0 c2),(1,sV O p1 U),(5,iV Z)]) Ar bb ?_);rintro Z al V a2 a3 ⟨bP,ag⟩ bh;have a4:=ag;unfold Nm at a4;refine zg 5 rfl (Bg underlying22 rfl rfl rfl ?_);obtain⟨bi,bj,bl⟩:=bs a4;refine zg 2 rfl (EC [] (fun L s=>∃(am:LH),Jm al H am [] [(0,sV K p0 c2),(1,sV O p1 U),(5,iV Z),(15,.bool bi)] L s) ?_ ?_)
  ·rintro _ _ ⟨am,rfl,rfl,Y,a5⟩;refine JL.done (BH bl (fun bm bn=>?_) (fun bm bo=>?_))
   ·refine zg 4 rfl (C6 8 fun ht=>?_);refine A4 ht rfl [0,1] rfl ?_;obtain⟨bQ,bp,bq⟩:=bs bn;refine Cy 2 (a9.Ah (V.Ab Y)) bp ht underlying22 BX ?_;rintro bR bS _ ⟨bT,bU,rfl,br⟩ bu;refine Cv 3 ht 0 bu CQ rfl rfl rfl rfl (A4 ht rfl [4,5] rfl ?_);obtain⟨bV,bv,bw⟩:=bs bq;refine Cy 6 (ba.Ah (V.Ab Y)) bv ht underlying22 BX ?_;rintro bW bY _ ⟨bZ,b0,rfl,bx⟩ bz;refine Cv 7 ht 0 bz CQ rfl rfl rfl rfl (Ci [8,9] ?_);obtain⟨bA,bB,bC⟩:=bs bw;refine BC (Ns br bx bB) rfl rfl LX a5 fun b1 a6 a7=>AD (v:= .bool (!bA)) rfl (fun ρ h=>Yl.not (h _ _ rfl)) (JL.done ?_);refine BH bC (fun bD bE=>?_) (fun bD bF=>?_)
    ·refine zg 4 rfl ?_;obtain rfl:=oi bE;obtain rfl:=a3 _ ag;have bG:=elim_inl aZ;obtain rfl:=oi bG;exact AA func84 rfl rfl (av ((V.Ab Y).Ab a6) rfl ⟨rfl,rfl⟩ a7)
    ·obtain⟨bH,bI,bJ⟩:=bs bF;refine zg 4 rfl (Bc bI rfl rfl rfl ?_);refine zg 2 rfl ?_;obtain rfl:=oi bJ;exact bh bH ((V.Ab Y).Ab a6) a7 rfl ag
   ·refine JL.exit rfl ?_;obtain rfl:=oi bo;have bK:aY=(Sum.inr ()):=(a3 _ ag).symm;exact Az (bg _ _ ⟨(),am,bK,rfl,rfl,(V.Ab Y),a5⟩) rfl
  ·intro a8;refine Ee 10 bj (fun bL bM=>?_) (fun bL bN=>?_)
   ·refine zg 2 rfl (Bg underlying22 rfl rfl rfl ?_);refine zg 2 rfl ?_;obtain rfl:=oi bM;exact Az (a8 _ _ ⟨al,rfl,rfl,Ar,a2⟩) rfl
   ·refine zg 5 rfl ?_;obtain rfl:=oi bN;exact Az (a8 _ _ ⟨al,rfl,rfl,Ar,a2⟩) rfl
def f33(fuel:Nat)(p0:A2)(p1:A2):Option Bool:= (f84 fuel p0.1 p1.1).bind fun K=> Option.bind (if K=true then((f84 fuel p0.2 p1.2).bind fun O=> some O) else(some false)) fun U=> some U
theorem ab{V:An}{c2:Nat}{Y:An}{Z:Nat}{ag:An}{al:Nat}{am:An}{ap:Nat}{p0:A2}{p1:A2}(a2:Al (rL rI) E V c2 p0.1)(a3:Al (rL rI) E Y Z p0.2)(a4:Al (rL rI) E ag al p1.1)(a5:Al (rL rI) E am ap p1.2){fuel:Nat}{r:Bool}(av:f33 fuel p0 p1=some r):AK J 33 [.agg #[sV V p0.1 c2,sV Y p0.2 Z],.agg #[sV ag p1.1 al,sV am p1.2 ap]] E [] (fun w E' B'=>w= .bool r∧B'= []):=by
 refine A3 func33 fun Q bp cs H a6 a7=>?_;unfold f33 at av;refine zg 2 rfl (B4 a6 fun bq br O aY a8=>?_);refine B4 a8 fun bu bv K aZ a9=>?_;refine zg 4 rfl (JL.fl 0 (aY.Ah K) underlying24 BQ Cr ?_);refine JL.fl 0 aZ underlying24 BQ Cr ?_;obtain⟨bw,ba,bb⟩:=bs av;refine BC (Te (a2.Ah (O.Ab K)) (a4.Ah (O.Ab K)) ba) rfl rfl (AS func84 rfl) a9 fun bx U a0=>?_;obtain⟨bc,bd,be⟩:=bs bb;refine zg 1 rfl (Dr 12 1 [] [(16,.bool bc)] (fun bz bf bg=>?_) (fun a1=>?_))
 ·refine zg 2 rfl ?_;obtain rfl:=oi be;exact AA func33 rfl rfl (a7 (((O.Ab K).Ab U).Ab bf) rfl ⟨rfl,rfl⟩ bg)
 ·refine DZ 10 bd (fun bh bi=>?_) (fun bh bj=>?_)
  ·refine JL.fl 1 (aY.Ah (K.Ab U)) underlying24 BQ Cr ?_;refine JL.fl 1 (aZ.Ah U) underlying24 BQ Cr ?_;obtain⟨bA,bl,bm⟩:=bs bi;refine BC (Te (a3.Ah ((O.Ab K).Ab U)) (a5.Ah ((O.Ab K).Ab U)) bl) rfl rfl (AS func84 rfl) a0 fun bB bn bo=>zg 1 rfl ?_;obtain rfl:=oi bm;exact a1 bn bo rfl
  ·refine zg 6 rfl ?_;obtain rfl:=oi bj;exact a1 Ar a0 rfl
def f23(fuel:Nat)(p0:List Int):Option ((BV)):= some (p0,0,2685821657736338717)
theorem aa{K:An}{c2:Nat}{p0:List Int}(Z:Al rI E K c2 p0){fuel:Nat}{r:(BV)}(O:f23 fuel p0=some r):AK J 23 [sV K p0 c2] E [] (fun w E' B'=>∃(U:Nat) (V:An) (Y:Nat),w= pV U 0∧B'= [(U,.cells #[sV V r.1 Y,iV r.2.1,.int .u64 ((r.2.2:Nat):Int)] 92 (0,0))]∧Al rI E' V Y r.1):=by
 refine A3 func23 fun Q av cs H ag al=>?_;unfold f23 at O;refine zg 7 rfl (AD (v:= .agg #[sV K p0 c2,iV 0,.int .u64 ((2685821657736338717:Nat):Int)]) rfl (fun ρ h=>Dg [(0,1),(1,1),(2,1)] h (Du type92) underlying92 ⟨rfl,Bu type28,rfl,Bu type3,rfl,Bu type90,trivial⟩ rfl rfl) ?_);refine JS.box (v:= .agg #[sV K p0 c2,iV 0,.int .u64 ((2685821657736338717:Nat):Int)]) rfl rfl rfl ag rfl fun am ap=>zg 2 rfl ?_;obtain rfl:=oi O;exact AA func23 rfl rfl (al Ar rfl ⟨am,K,c2,rfl,(by first | rfl | simp | (simp [Value.cells])),Z⟩ ap)
def f100(fuel:Nat)(p0:BV):Option (Nat×(BV)):= (As (p0.2.1+1)).bind fun O=> Option.bind (if O≤(p0.1.length:Int) then((As (O - 1)).bind fun U=> (ix p0.1 U).bind fun V=> some (((((Df O)*11400714819323198485) % 2 ^ 64) ^^^ (((Df V)*14029467366897019727) % 2 ^ 64)) % 2 ^ 64)) else(some (((Df O)*11400714819323198485) % 2 ^ 64))) fun K=> some (((((((((((p0.2.2 ^^^ K) % 2 ^ 64)*18397679294719823053) % 2 ^ 64) ^^^ (((((p0.2.2 ^^^ K) % 2 ^ 64)*18397679294719823053) % 2 ^ 64)>>>33)) % 2 ^ 64)*14181476777654086739) % 2 ^ 64) ^^^ (((((((((p0.2.2 ^^^ K) % 2 ^ 64)*18397679294719823053) % 2 ^ 64) ^^^ (((((p0.2.2 ^^^ K) % 2 ^ 64)*18397679294719823053) % 2 ^ 64)>>>33)) % 2 ^ 64)*14181476777654086739) % 2 ^ 64)>>>29)) % 2 ^ 64)>>>11,(p0.1,O,(((((p0.2.2 ^^^ K) % 2 ^ 64)*18397679294719823053) % 2 ^ 64) ^^^ (((((p0.2.2 ^^^ K) % 2 ^ 64)*18397679294719823053) % 2 ^ 64)>>>33)) % 2 ^ 64))
theorem ZM{bk:Nat}{V:An}{c2:Nat}{p0:BV}(ag:Al rI E V c2 p0.1){fuel:Nat}{r:Nat×(BV)}(al:f100 fuel p0=some r):AK J 100 [pV bk 0] E [(bk,.cells #[sV V p0.1 c2,iV p0.2.1,.int .u64 ((p0.2.2:Nat):Int)] 92 (0,0))] (fun w E' B'=>∃(am:An) (ap:Nat),w= .int .u64 ((r.1:Nat):Int)∧B'= [(bk,.cells #[sV am r.2.1 ap,iV r.2.2.1,.int .u64 ((r.2.2.2:Nat):Int)] 92 (0,0))]∧Al rI E' am ap r.2.1):=by
 refine A3 func100 fun Q bf cs H av a2=>?_;unfold f100 at al;refine zg 8 rfl (BJ underlying92 AW rfl rfl rfl ?_);refine AD (v:=iV p0.2.1) rfl (fun ρ h=>Yl.load Bv (h _ _ rfl) (DU (j:=0) (off:=1) av rfl rfl)) ?_;obtain⟨U,a3,a4⟩:=bs al;refine Bc a3 rfl rfl rfl (zg 1 rfl ?_);refine BJ underlying92 AW rfl rfl rfl (BR 0 av AW fun O=>?_);refine zg 5 rfl (BJ underlying92 AW rfl rfl rfl ?_);refine AD (v:=iV U) rfl (fun ρ h=>Yl.load Bv (h _ _ rfl) (DU (j:=0) (off:=1) O rfl rfl)) (AD (v:= .int .u64 ((Df U:Nat):Int)) rfl (fun ρ h=>Yl.Df underlying3 underlying90 (h _ _ rfl)) ?_);refine AD (v:= .int .u64 ((((Df U)*11400714819323198485) % 2 ^ 64:Nat):Int)) rfl (fun ρ h=>Mt (h _ _ rfl) (h _ _ rfl)) (zg 4 rfl ?_);refine Dh 9 [bk] ⟨⟨0,_,rfl⟩,trivial⟩ O fun ht=>A4 ht rfl [0,1] rfl (B8 2 ht underlying92 AW rfl rfl rfl rfl ?_);refine Fb 3 ht 1 0 O Bv ?_;refine A4 ht rfl [4,5] rfl (B8 6 ht underlying92 BX rfl rfl rfl rfl ?_);refine Fb 7 ht 0 0 O CQ ?_;refine BB 8 ht rfl rfl (fun ρ h s' hs=>Yl.len rfl underlying28 (h _ _ rfl)) (Ci [9] ?_);obtain⟨K,a5,a6⟩:=bs a4;refine zg 2 rfl (C4 [bX bk #[sV V p0.1 c2,iV U,.int .u64 ((p0.2.2:Nat):Int)] 92] [(0,pV bk 0),(3,.int .u64 ((K:Nat):Int))] (fun bg aY aZ=>?_) (fun a0=>?_))
 ·refine zg 5 rfl (BJ underlying92 Ic rfl rfl rfl ?_);refine AD (v:= .int .u64 ((p0.2.2:Nat):Int)) rfl (fun ρ h=>Yl.load LV (h _ _ rfl) (DU (j:=0) (off:=2) aZ rfl rfl)) (zg 1 rfl ?_);refine AD (v:= .int .u64 (((p0.2.2 ^^^ K) % 2 ^ 64:Nat):Int)) rfl (fun ρ h=>MK (h _ _ rfl) (h _ _ rfl)) (AD (v:= .int .u64 (((((p0.2.2 ^^^ K) % 2 ^ 64)*18397679294719823053) % 2 ^ 64:Nat):Int)) rfl (fun ρ h=>Mt (h _ _ rfl) (h _ _ rfl)) ?_);refine zg 1 rfl (BJ underlying92 Ic rfl rfl rfl ?_);refine BR 0 aZ Ic fun Y=>?_;refine zg 2 rfl (Dh 11 [bk] ⟨⟨0,_,rfl⟩,trivial⟩ Y fun ht=>?_);refine A4 ht rfl [0,1,2] rfl (B8 3 ht underlying92 Ic rfl rfl rfl rfl ?_);refine Fb 4 ht 2 0 Y LV ?_;refine A4 ht rfl [5,6] rfl (B8 7 ht underlying92 Ic rfl rfl rfl rfl ?_);refine Fb 8 ht 2 0 Y LV ?_;refine BB (v:= .int .u64 ((((((p0.2.2 ^^^ K) % 2 ^ 64)*18397679294719823053) % 2 ^ 64)>>>33:Nat):Int)) 9 ht rfl rfl (fun ρ h s' hs=>Jw 33 (h _ _ rfl) (h _ _ rfl) (by decide)) (BB (v:= .int .u64 (((((((p0.2.2 ^^^ K) % 2 ^ 64)*18397679294719823053) % 2 ^ 64) ^^^ (((((p0.2.2 ^^^ K) % 2 ^ 64)*18397679294719823053) % 2 ^ 64)>>>33)) % 2 ^ 64:Nat):Int)) 10 ht rfl rfl (fun ρ h s' hs=>MK (h _ _ rfl) (h _ _ rfl)) ?_);refine Ci [11,12,13] (zg 1 rfl ?_);refine BJ underlying92 Ic rfl rfl rfl (BR 0 Y Ic fun a1=>?_);refine zg 5 rfl (BJ underlying92 Ic rfl rfl rfl ?_);refine AD (v:= .int .u64 (((((((p0.2.2 ^^^ K) % 2 ^ 64)*18397679294719823053) % 2 ^ 64) ^^^ (((((p0.2.2 ^^^ K) % 2 ^ 64)*18397679294719823053) % 2 ^ 64)>>>33)) % 2 ^ 64:Nat):Int)) rfl (fun ρ h=>Yl.load LV (h _ _ rfl) (DU (j:=0) (off:=2) a1 rfl rfl)) (AD (v:= .int .u64 (((((((((p0.2.2 ^^^ K) % 2 ^ 64)*18397679294719823053) % 2 ^ 64) ^^^ (((((p0.2.2 ^^^ K) % 2 ^ 64)*18397679294719823053) % 2 ^ 64)>>>33)) % 2 ^ 64)*14181476777654086739) % 2 ^ 64:Nat):Int)) rfl (fun ρ h=>Mt (h _ _ rfl) (h _ _ rfl)) ?_);refine zg 6 rfl (AD (v:= .int .u64 ((((((((((p0.2.2 ^^^ K) % 2 ^ 64)*18397679294719823053) % 2 ^ 64) ^^^ (((((p0.2.2 ^^^ K) % 2 ^ 64)*18397679294719823053) % 2 ^ 64)>>>33)) % 2 ^ 64)*14181476777654086739) % 2 ^ 64)>>>29:Nat):Int)) rfl (fun ρ h=>Jw 29 (h _ _ rfl) (h _ _ rfl) (by decide)) ?_);refine AD (v:= .int .u64 (((((((((((p0.2.2 ^^^ K) % 2 ^ 64)*18397679294719823053) % 2 ^ 64) ^^^ (((((p0.2.2 ^^^ K) % 2 ^ 64)*18397679294719823053) % 2 ^ 64)>>>33)) % 2 ^ 64)*14181476777654086739) % 2 ^ 64) ^^^ (((((((((p0.2.2 ^^^ K) % 2 ^ 64)*18397679294719823053) % 2 ^ 64) ^^^ (((((p0.2.2 ^^^ K) % 2 ^ 64)*18397679294719823053) % 2 ^ 64)>>>33)) % 2 ^ 64)*14181476777654086739) % 2 ^ 64)>>>29)) % 2 ^ 64:Nat):Int)) rfl (fun ρ h=>MK (h _ _ rfl) (h _ _ rfl)) (AD (v:= .int .u64 ((((((((((((p0.2.2 ^^^ K) % 2 ^ 64)*18397679294719823053) % 2 ^ 64) ^^^ (((((p0.2.2 ^^^ K) % 2 ^ 64)*18397679294719823053) % 2 ^ 64)>>>33)) % 2 ^ 64)*14181476777654086739) % 2 ^ 64) ^^^ (((((((((p0.2.2 ^^^ K) % 2 ^ 64)*18397679294719823053) % 2 ^ 64) ^^^ (((((p0.2.2 ^^^ K) % 2 ^ 64)*18397679294719823053) % 2 ^ 64)>>>33)) % 2 ^ 64)*14181476777654086739) % 2 ^ 64)>>>29)) % 2 ^ 64)>>>11:Nat):Int)) rfl (fun ρ h=>Jw 11 (h _ _ rfl) (h _ _ rfl) (by decide)) ?_);refine zg 2 rfl ?_;obtain rfl:=oi a6;exact AA func100 rfl rfl (a2 aY rfl ⟨V,c2,rfl,rfl,(ag.Ah aY)⟩ a1)
 ·refine AL a5 (fun a7 a8=>?_) (fun a7 a9=>?_)
  ·refine Dh 14 [bk] ⟨⟨0,_,rfl⟩,trivial⟩ O fun ht=>A4 ht rfl [0,1,2] rfl (B8 3 ht underlying92 BX rfl rfl rfl rfl ?_);refine Fb 4 ht 0 0 O CQ ?_;refine A4 ht rfl [5,6] rfl (B8 7 ht underlying92 AW rfl rfl rfl rfl ?_);refine Fb 8 ht 1 0 O Bv ?_;obtain⟨bh,ba,bb⟩:=bs a8;refine BB 9 ht rfl rfl (fun ρ h s' hs=>Db (h _ _ rfl) (h _ _ rfl) ba) ?_;obtain⟨Z,bc,bd⟩:=bs bb;refine Cy 10 ag bc ht underlying28 AW ?_;rintro bi bj _ rfl be;refine JG.lp 11 ht 0 be O ⟨⟨0,_,rfl⟩,trivial⟩ Bv ?_;refine BB (v:= .int .u64 ((Df Z:Nat):Int)) 12 ht rfl rfl (fun ρ h s' hs=>Yl.Df underlying3 underlying90 (h _ _ rfl)) (BB (v:= .int .u64 ((((Df Z)*14029467366897019727) % 2 ^ 64:Nat):Int)) 13 ht rfl rfl (fun ρ h s' hs=>Mt (h _ _ rfl) (h _ _ rfl)) ?_);refine Ci [14,15] (AD (v:= .int .u64 ((((((Df U)*11400714819323198485) % 2 ^ 64) ^^^ (((Df Z)*14029467366897019727) % 2 ^ 64)) % 2 ^ 64:Nat):Int)) rfl (fun ρ h=>MK (h _ _ rfl) (h _ _ rfl)) ?_);refine zg 2 rfl ?_;obtain rfl:=oi bd;exact a0 Ar O rfl
  ·refine JL.skip ?_;obtain rfl:=oi a9;exact a0 Ar O rfl
def f41(fuel:Nat)(p0:BV)(p1:Int):Option (Int×(BV)):= (f100 fuel p0).bind fun K=> if p1<1 then(some (0,K.2)) else((Nt K.1 ((Df p1+1) % 2 ^ 64)).bind fun O=> some (LG O,K.2))
theorem HS{bk:Nat}{K:An}{c2:Nat}{p0:BV}{p1:Int}(aY:Al rI E K c2 p0.1){fuel:Nat}{r:Int×(BV)}(O:f41 fuel p0 p1=some r):AK J 41 [pV bk 0,iV p1] E [(bk,.cells #[sV K p0.1 c2,iV p0.2.1,.int .u64 ((p0.2.2:Nat):Int)] 92 (0,0))] (fun w E' B'=>∃(U:An) (V:Nat),w=iV r.1∧B'= [(bk,.cells #[sV U r.2.1 V,iV r.2.2.1,.int .u64 ((r.2.2.2:Nat):Int)] 92 (0,0))]∧Al rI E' U V r.2.1):=by
 refine A3 func41 fun Q a7 cs H aZ Y=>?_;unfold f41 at O;obtain⟨a8,a0,a1⟩:=bs O;refine zg 7 rfl (BZ 0 (ZM aY a0) rfl rfl (AS func100 rfl) aZ rfl ?_);rintro _ a9 _ Z ⟨ag,al,rfl,rfl,am⟩ ap;refine zg 8 rfl (AL a1 (fun a2 a3=>?_) (fun a2 a4=>?_))
 ·refine zg 4 rfl ?_;obtain rfl:=oi a3;exact AA func41 rfl rfl (Y Z rfl ⟨ag,al,rfl,rfl,am⟩ ap)
 ·refine zg 5 rfl (AD (v:= .int .u64 ((Df p1:Nat):Int)) rfl (fun ρ h=>Yl.Df underlying3 underlying90 (h _ _ rfl)) ?_);refine AD (v:= .int .u64 (((Df p1+1) % 2 ^ 64:Nat):Int)) rfl (fun ρ h=>Xv (h _ _ rfl) (h _ _ rfl)) ?_;obtain⟨av,a5,a6⟩:=bs a4;refine AD (v:= .int .u64 ((av:Nat):Int)) rfl (fun ρ h=>Wb (h _ _ rfl) (h _ _ rfl) a5) (AD (v:=iV (LG av)) rfl (fun ρ h=>YH underlying90 underlying3 (h _ _ rfl)) ?_);refine zg 2 rfl ?_;obtain rfl:=oi a6;exact AA func41 rfl rfl (Y Z rfl ⟨ag,al,rfl,rfl,am⟩ ap)
def f96(fuel:Nat)(p0:BV)(p1:Int)(p2:Int):Option (Int×(BV)):= (As (p2 - p1)).bind fun O=> (f41 fuel p0 O).bind fun K=> (As (p1+K.1)).bind fun U=> some (U,K.2)
theorem Pb{bk:Nat}{K:An}{c2:Nat}{p0:BV}{p1:Int}{p2:Int}(Y:Al rI E K c2 p0.1){fuel:Nat}{r:Int×(BV)}(O:f96 fuel p0 p1 p2=some r):AK J 96 [pV bk 0,iV p1,iV p2] E [(bk,.cells #[sV K p0.1 c2,iV p0.2.1,.int .u64 ((p0.2.2:Nat):Int)] 92 (0,0))] (fun w E' B'=>∃(U:An) (V:Nat),w=iV r.1∧B'= [(bk,.cells #[sV U r.2.1 V,iV r.2.2.1,.int .u64 ((r.2.2.2:Nat):Int)] 92 (0,0))]∧Al rI E' U V r.2.1):=by
 refine A3 func96 fun Q a5 cs H Z ag=>?_;unfold f96 at O;obtain⟨a6,al,am⟩:=bs O;refine zg 10 rfl (Cd al rfl rfl rfl ?_);obtain⟨a7,ap,av⟩:=bs am;refine BZ 0 (HS Y ap) rfl rfl HF Z rfl ?_;rintro _ a8 _ aY ⟨aZ,a0,rfl,rfl,a1⟩ a2;obtain⟨a9,a3,a4⟩:=bs av;refine Bc a3 rfl rfl rfl (zg 2 rfl ?_);obtain rfl:=oi a4;exact AA func96 rfl rfl (ag aY rfl ⟨aZ,a0,rfl,rfl,a1⟩ a2)
def f97(fuel:Nat)(p0:BV)(p1:Int):Option (Bool×(BV)):= (As (p1 - 1)).bind fun O=> (f41 fuel p0 O).bind fun K=> some (decide (K.1=0),K.2)
theorem Lp{bk:Nat}{K:An}{c2:Nat}{p0:BV}{p1:Int}(Y:Al rI E K c2 p0.1){fuel:Nat}{r:Bool×(BV)}(O:f97 fuel p0 p1=some r):AK J 97 [pV bk 0,iV p1] E [(bk,.cells #[sV K p0.1 c2,iV p0.2.1,.int .u64 ((p0.2.2:Nat):Int)] 92 (0,0))] (fun w E' B'=>∃(U:An) (V:Nat),w= .bool r.1∧B'= [(bk,.cells #[sV U r.2.1 V,iV r.2.2.1,.int .u64 ((r.2.2.2:Nat):Int)] 92 (0,0))]∧Al rI E' U V r.2.1):=by
 refine A3 func97 fun Q a3 cs H Z ag=>?_;unfold f97 at O;obtain⟨a4,al,am⟩:=bs O;refine zg 8 rfl (Cd al rfl rfl rfl ?_);obtain⟨a5,ap,av⟩:=bs am;refine BZ 0 (HS Y ap) rfl rfl HF Z rfl ?_;rintro _ a6 _ aY ⟨aZ,a0,rfl,rfl,a1⟩ a2;refine zg 3 rfl ?_;obtain rfl:=oi av;exact AA func97 rfl rfl (ag aY rfl ⟨aZ,a0,rfl,rfl,a1⟩ a2)
def f99(fuel:Nat)(p0:BV)(p1:List Int):Option (Int×(BV)):= (As ((p1.length:Int) - 1)).bind fun O=> (f41 fuel p0 O).bind fun K=> (ix p1 K.1).bind fun U=> some (U,K.2)
theorem NC{bk:Nat}{K:An}{c2:Nat}{O:An}{U:Nat}{p0:BV}{p1:List Int}(al:Al rI E K c2 p0.1)(am:Al rI E O U p1){fuel:Nat}{r:Int×(BV)}(V:f99 fuel p0 p1=some r):AK J 99 [pV bk 0,sV O p1 U] E [(bk,.cells #[sV K p0.1 c2,iV p0.2.1,.int .u64 ((p0.2.2:Nat):Int)] 92 (0,0))] (fun w E' B'=>∃(Y:An) (Z:Nat),w=iV r.1∧B'= [(bk,.cells #[sV Y r.2.1 Z,iV r.2.2.1,.int .u64 ((r.2.2.2:Nat):Int)] 92 (0,0))]∧Al rI E' Y Z r.2.1):=by
 refine A3 func99 fun Q a9 cs H ap av=>?_;unfold f99 at V;refine zg 9 rfl (Bg underlying28 rfl rfl rfl ?_);obtain⟨ba,aY,aZ⟩:=bs V;refine Cd aY rfl rfl rfl ?_;obtain⟨bb,a0,a1⟩:=bs aZ;refine BZ 0 (HS al a0) rfl rfl HF ap rfl ?_;rintro _ bc _ ag ⟨a2,a3,rfl,rfl,a4⟩ a5;obtain⟨bd,a6,a7⟩:=bs a1;refine Ce (am.Ah ag) a6 underlying28 AW ?_;rintro be bf _ rfl a8;refine BY 0 a8 Bv rfl rfl rfl (zg 2 rfl ?_);obtain rfl:=oi a7;exact AA func99 rfl rfl (av ag rfl ⟨a2,a3,rfl,rfl,a4⟩ a5)
def JR(fuel:Nat)(p0:List Int)(p1:Int)(K:(List Int)×Bool×Int):Option (Bi ((List Int)×Bool×Int) ((List Int)×Bool)):= if K.2.2<(p0.length:Int) then((ix p0 K.2.2).bind fun U=> Option.bind (if p1≤U then(some (!K.2.1)) else(some false)) fun V=> Option.bind (if V=true then((room K.1 p1).bind fun Y=> some (Y,true)) else(some (K.1,K.2.1))) fun O=> (ix p0 K.2.2).bind fun Z=> Option.bind (if Z≠p1 then((ix p0 K.2.2).bind fun ag=> (room O.1 ag).bind fun al=> some al) else(some O.1)) fun am=> (As (K.2.2+1)).bind fun ap=> some (.more (am,O.2,ap))) else(some (.done (K.1,K.2.1)))
def f98(fuel:Nat)(p0:List Int)(p1:Int):Option ((List Int)):= Option.bind (iter (JR fuel p0 p1) fuel ([],false,0)) fun K=> Option.bind (if(!K.2)=true then((room K.1 p1).bind fun O=> some O) else(some K.1)) fun U=> some U
theorem SY{Y:An}{c2:Nat}{p0:List Int}{p1:Int}(bc:Al rI E Y c2 p0){fuel:Nat}{r:(List Int)}(bl:f98 fuel p0 p1=some r):AK J 98 [sV Y p0 c2,iV p1] E [] (fun w E' B'=>∃(bm:An) (bn:Nat),w= sV bm r bn∧B'= []∧Al rI E' bm bn r):=by
 refine A3 func98 fun Q cY cs H bC bD=>?_;unfold f98 at bl;obtain⟨a3,bE,bF⟩:=bs bl;refine zg 17 rfl (Br (fun L s=>∃(Z:LH) (am:An) (ap:Nat) (a4:Seg),Jn E H Z [a4] [(1,iV p1),(5,sV am a3.1 ap),(6,.bool a3.2)] L s (OL 3 rI Z am ap a4 a3.1)) ?_ ?_)
 ·rintro _ _ ⟨Z,am,ap,a4,rfl,rfl,bG,bo,bp⟩;refine zg 4 rfl (AD (v:= .bool (!a3.2)) rfl (fun ρ h=>Yl.not (h _ _ rfl)) ?_);obtain⟨bq,bH,bI⟩:=bs bF;refine JL.done (Br (fun L s=>∃(bd:LH) (a5:An) (a6:Nat) (be:Seg),Jn Z H bd [be] [(5,sV a5 bq a6)] L s (OL 3 rI bd a5 a6 be bq)) ?_ ?_)
  ·rintro _ _ ⟨bd,a5,a6,be,rfl,rfl,bJ,bK,bL⟩;refine zg 5 rfl (B7 0 bL bK rfl fun cZ bM bN bO=>?_);obtain rfl:=oi bI;exact AA func98 rfl rfl (bD ((bG.Ab bJ).Ab bM) rfl ⟨a5,a6,rfl,rfl,bN⟩ bO)
  ·intro br;refine BH bH (fun bP bQ=>?_) (fun bP bR=>?_)
   ·obtain⟨c0,bS,bT⟩:=bs bQ;refine zg 3 rfl (JS.app (pp:=rI) (v:=iV p1) (a:=am) (c:=ap) 0 bS rfl rfl rfl rfl (fun _=>rfl) rfl (fun _=>rfl) rfl rfl rfl underlying28 underlying28 underlying28 AW (CR type3) CM rfl (by decide) (by decide) (by decide) (by decide) bp rfl bo rfl fun c1 bU bV bW bY bZ=>?_);refine zg 2 rfl ?_;obtain rfl:=oi bT;exact Az (br _ _ ⟨Z,bU,bV,bW,rfl,rfl,Ar,bZ,bY⟩) rfl
   ·refine JL.skip ?_;obtain rfl:=oi bR;exact Az (br _ _ ⟨Z,am,ap,a4,rfl,rfl,Ar,bo,bp⟩) rfl
 ·intro b0;refine JL.block (CN bE (fun L s K=>∃(O:LH) (U:An) (V:Nat) (ag:Seg),Jn E H O [ag] [(0,sV Y p0 c2),(1,iV p1),(5,sV U K.1 V),(6,.bool K.2.1),(7,iV K.2.2)] L s (OL 3 rI O U V ag K.1)) ⟨E,none,0,[],rfl,rfl,Ar,bC,OL.nil⟩ ?_);rintro _ _ K ⟨O,U,V,ag,rfl,rfl,av,bf,bg⟩ b1 ⟨c3,bh⟩ b2;have bu:=bh;unfold JR at bu;refine zg 5 rfl (Bg underlying28 rfl rfl rfl ?_);refine zg 2 rfl (AL bu (fun b3 b4=>?_) (fun b3 b5=>?_))
  ·obtain⟨c4,b6,b7⟩:=bs b4;refine zg 8 rfl (Ce (bc.Ah av) b6 underlying28 AW ?_);rintro c5 c6 _ rfl b8;refine BY 0 b8 Bv rfl rfl rfl ?_;obtain⟨b9,ca,cb⟩:=bs b7;refine zg 3 rfl (EC [] (fun L s=>∃(aY:LH),Jm O H aY [ag] [(0,sV Y p0 c2),(1,iV p1),(5,sV U K.1 V),(6,.bool K.2.1),(7,iV K.2.2),(23,.bool b9)] L s) ?_ ?_)
   ·rintro _ _ ⟨aY,rfl,rfl,aZ,bv⟩;obtain⟨a0,cc,cd⟩:=bs cb;refine JL.done (Br (fun L s=>∃(al:LH) (a1:An) (a2:Nat) (a7:Seg),Jn aY H al [a7] [(0,sV Y p0 c2),(1,iV p1),(5,sV a1 a0.1 a2),(6,.bool a0.2),(7,iV K.2.2)] L s (OL 3 rI al a1 a2 a7 a0.1)) ?_ ?_)
    ·rintro _ _ ⟨al,a1,a2,a7,rfl,rfl,bi,bw,bx⟩;obtain⟨c7,ce,cf⟩:=bs cd;refine zg 4 rfl (Ce (bc.Ah ((av.Ab aZ).Ab bi)) ce underlying28 AW ?_);rintro c8 c9 _ rfl cg;refine BY 0 cg Bv rfl rfl rfl ?_;obtain⟨bj,ci,ck⟩:=bs cf;refine zg 3 rfl (Br (fun L s=>∃(a8:LH) (a9:An) (ba:Nat) (bb:Seg),Jn al H a8 [bb] [(0,sV Y p0 c2),(1,iV p1),(5,sV a9 bj ba),(6,.bool a0.2),(7,iV K.2.2)] L s (OL 3 rI a8 a9 ba bb bj)) ?_ ?_)
     ·rintro _ _ ⟨a8,a9,ba,bb,rfl,rfl,cm,cn,co⟩;obtain⟨cp,cq,cr⟩:=bs ck;refine zg 3 rfl (Bc cq rfl rfl rfl ?_);refine zg 2 rfl ?_;obtain rfl:=oi cr;exact Az (b2 _ _ (bj,a0.2,cp) ⟨a8,a9,ba,bb,rfl,rfl,(((av.Ab aZ).Ab bi).Ab cm),cn,co⟩ bh) rfl
     ·intro bz;refine AL ci (fun ct cu=>?_) (fun ct cv=>?_)
      ·obtain⟨cw,cy,cz⟩:=bs cu;refine zg 4 rfl (Ce (bc.Ah ((av.Ab aZ).Ab bi)) cy underlying28 AW ?_);rintro da db _ rfl cA;refine BY 0 cA Bv rfl rfl rfl ?_;obtain⟨dc,cB,cC⟩:=bs cz;refine JS.app (pp:=rI) (v:=iV cw) (a:=a1) (c:=a2) 0 cB rfl rfl rfl rfl (fun _=>rfl) rfl (fun _=>rfl) rfl rfl rfl underlying28 underlying28 underlying28 AW (CR type3) CM rfl (by decide) (by decide) (by decide) (by decide) bx rfl bw rfl fun dd cD cE cF cG cH=>zg 2 rfl ?_;obtain rfl:=oi cC;exact Az (bz _ _ ⟨al,cD,cE,cF,rfl,rfl,Ar,cH,cG⟩) rfl
      ·refine JL.skip ?_;obtain rfl:=oi cv;exact Az (bz _ _ ⟨al,a1,a2,a7,rfl,rfl,Ar,bw,bx⟩) rfl
    ·intro bA;refine BH cc (fun cI cJ=>?_) (fun cI cK=>?_)
     ·obtain⟨de,cM,cN⟩:=bs cJ;refine zg 3 rfl (JS.app (pp:=rI) (v:=iV p1) (a:=U) (c:=V) 0 cM rfl rfl rfl rfl (fun _=>rfl) rfl (fun _=>rfl) rfl rfl rfl underlying28 underlying28 underlying28 AW (CR type3) CM rfl (by decide) (by decide) (by decide) (by decide) (bg.Ah aZ) rfl bv rfl fun df cO cP cQ cR cT=>?_);refine zg 3 rfl ?_;obtain rfl:=oi cN;exact Az (bA _ _ ⟨aY,cO,cP,cQ,rfl,rfl,Ar,cT,cR⟩) rfl
     ·refine JL.skip ?_;obtain rfl:=oi cK;exact Az (bA _ _ ⟨aY,U,V,ag,rfl,rfl,Ar,bv,(bg.Ah aZ)⟩) rfl
   ·intro bB;refine Ee 20 ca (fun cV cW=>?_) (fun cV cX=>?_)
    ·refine zg 1 rfl (AD (v:= .bool (!K.2.1)) rfl (fun ρ h=>Yl.not (h _ _ rfl)) ?_);refine zg 1 rfl ?_;obtain rfl:=oi cW;exact Az (bB _ _ ⟨O,rfl,rfl,Ar,bf⟩) rfl
    ·refine zg 3 rfl ?_;obtain rfl:=oi cX;exact Az (bB _ _ ⟨O,rfl,rfl,Ar,bf⟩) rfl
  ·refine JL.exit rfl ?_;obtain rfl:=oi b5;obtain rfl:=b1 _ bh;exact Az (b0 _ _ ⟨O,U,V,ag,rfl,rfl,av,bf,bg⟩) rfl
def f108(fuel:Nat)(p0:List Int):Option ((List Int)):= (Dd ([]:List Int) p0).bind fun K=> some K
theorem YG{K:An}{c2:Nat}{p0:List Int}(Y:Al rI E K c2 p0){fuel:Nat}{r:(List Int)}(O:f108 fuel p0=some r):AK J 108 [sV K p0 c2] E [] (fun w E' B'=>∃(U:An) (V:Nat),w= sV U r V∧B'= []∧Al rI E' U V r):=by
 refine A3 func108 fun Q a5 cs H Z ag=>?_;unfold f108 at O;refine zg 6 rfl (KX (pp:=rI) rfl rfl rfl underlying28 AW Z fun a6 a7 al am=>?_);obtain⟨a8,ap,av⟩:=bs O;refine zg 1 rfl (KN (pp:=rI) 1 ap rfl rfl rfl rfl rfl rfl rfl underlying28 underlying28 AW (CR type3) CM rfl (by decide) (by decide) al Y am rfl fun aY aZ a9 a0 a1=>?_);refine zg 2 rfl (B7 1 a0 a1 rfl fun ba a2 a3 a4=>?_);obtain rfl:=oi av;exact AA func108 rfl rfl (ag a2 rfl ⟨aY,aZ,rfl,rfl,a3⟩ a4)
def f27(fuel:Nat)(p0:AI):Option ((AI)):= (Dd ([]:AI) p0).bind fun K=> some K
theorem Pc{K:An}{c2:Nat}{p0:AI}(Y:Al Bo E K c2 p0){fuel:Nat}{r:(AI)}(O:f27 fuel p0=some r):AK J 27 [sV K p0 c2] E [] (fun w E' B'=>∃(U:An) (V:Nat),w= sV U r V∧B'= []∧Al Bo E' U V r):=by
 refine A3 func27 fun Q a5 cs H Z ag=>?_;unfold f27 at O;refine zg 6 rfl (KX (pp:=Bo) rfl rfl rfl underlying25 Cc Z fun a6 a7 al am=>?_);obtain⟨a8,ap,av⟩:=bs O;refine zg 1 rfl (KN (pp:=Bo) 1 ap rfl rfl rfl rfl rfl rfl rfl underlying25 underlying25 Cc (CR type27) Er rfl (by decide) (by decide) al Y am rfl fun aY aZ a9 a0 a1=>?_);refine zg 2 rfl (B7 1 a0 a1 rfl fun ba a2 a3 a4=>?_);obtain rfl:=oi av;exact AA func27 rfl rfl (ag a2 rfl ⟨aY,aZ,rfl,rfl,a3⟩ a4)
def Na(fuel:Nat)(p0:List (List Int))(K:(List (List Int))×Int):Option (Bi ((List (List Int))×Int) ((List (List Int)))):= if K.2<(p0.length:Int) then((ix p0 K.2).bind fun O=> (f108 fuel O).bind fun U=> (ix K.1 K.2).bind fun Y=> (As (K.2+1)).bind fun V=> some (.more ((K.1.set (Int.toNat K.2) U),V))) else(some (.done K.1))
def f77(fuel:Nat)(p0:List (List Int)):Option ((List (List Int))):= (F5 (p0.length:Int) ([]:List Int)).bind fun K=> Option.bind (iter (Na fuel p0) fuel (K,0)) fun O=> some O
theorem S5{Y:An}{c2:Nat}{p0:List (List Int)}(bd:Al (rL rI) E Y c2 p0){fuel:Nat}{r:(List (List Int))}(a3:f77 fuel p0=some r):AK J 77 [sV Y p0 c2] E [] (fun w E' B'=>∃(a4:An) (a5:Nat),w= sV a4 r a5∧B'= []∧Al (rL rI) E' a4 a5 r):=by
 refine A3 func77 fun Q b4 cs H be bf=>?_;unfold f77 at a3;refine zg 7 rfl (Bg underlying22 rfl rfl rfl ?_);obtain⟨bg,bh,bi⟩:=bs a3;refine JS.make (pp:=(rL rI)) bh rfl rfl rfl rfl rfl underlying22 BX (CR type28) (by decide) Fo (by decide) ⟨_,_,rfl,Al.nil⟩ be fun bj bl bm bn=>?_;obtain⟨a6,bo,bp⟩:=bs bi;refine zg 7 rfl (Br (fun L s=>∃(aY:LH) (Z:An) (ag:Nat) (aZ:Seg),Jn E H aY [aZ] [(3,sV Z a6 ag)] L s (OL 28 (rL rI) aY Z ag aZ a6)) ?_ ?_)
 ·rintro _ _ ⟨aY,Z,ag,aZ,rfl,rfl,bq,br,bu⟩;refine zg 5 rfl (B7 0 bu br rfl fun b5 bv bw bx=>?_);obtain rfl:=oi bp;exact AA func77 rfl rfl (bf (bq.Ab bv) rfl ⟨Z,ag,rfl,rfl,bw⟩ bx)
 ·intro bz;refine JL.block (CN bo (fun L s K=>∃(al:LH) (U:An) (V:Nat) (am:Seg),Jn E H al [am] [(0,sV Y p0 c2),(3,sV U K.1 V),(4,iV K.2)] L s (OL 28 (rL rI) al U V am K.1)) ⟨E,(AZ bj),bg.length,bl,rfl,rfl,Ar,bn,bm⟩ ?_);rintro _ _ K ⟨al,U,V,am,rfl,rfl,a0,a7,a8⟩ bA ⟨b6,a1⟩ bB;have a9:=a1;unfold Na at a9;refine zg 5 rfl (Bg underlying22 rfl rfl rfl ?_);refine zg 2 rfl (AL a9 (fun bC bD=>?_) (fun bC bE=>?_))
  ·obtain⟨bF,bG,bH⟩:=bs bD;refine zg 8 rfl (Ce (bd.Ah a0) bG underlying22 BX ?_);rintro bI bJ _ ⟨bK,bL,rfl,bM⟩ bN;refine BY 0 bN CQ rfl rfl rfl ?_;obtain⟨O,bO,bP⟩:=bs bH;refine BP (YG bM bO) rfl rfl (AS func108 rfl) a7 ?_;rintro _ bQ _ ba ⟨ap,av,rfl,rfl,bR⟩ bS;obtain⟨b7,bT,bU⟩:=bs bP;refine IZ 0 (a8.Ah ba) bT rfl rfl rfl rfl rfl rfl underlying22 BX ?_;rintro bb a2 f78 _ bV ⟨b8,b9,rfl,ca⟩ cb bW bY cc cd;refine JS.store (v:= sV ap O av) (off:=a2) 0 rfl rfl rfl bS rfl rfl BX (by simp [Value.cells,CI]) bV (by have:=bW;simp only [Rp.n,rK,rN,rB,rP,rL] at this;show _+1≤_;omega) fun bZ=>?_;have b0:=bY O [sV ap O av] ⟨_,_,rfl,bR⟩;have bc:(K.1.set (Int.toNat K.2) O).length=K.1.length:=List.length_set;refine Gf (L':= [(0,.slice Y p0.length c2),(3,.slice U ((K.1.set (Int.toNat K.2) O)).length V),(4,iV K.2),(8,iV K.2),(9,.slice Y p0.length c2),(10,iV (p0.length:Int)),(11,.bool (decide (K.2<(p0.length:Int)))),(14,.slice U ((K.1.set (Int.toNat K.2) O)).length V),(15,iV K.2),(16,.slice Y p0.length c2),(17,iV K.2),(18,pV bI bJ),(19,.slice bK bF.length bL),(20,.slice ap O.length av),(21,pV bb a2)]) ⟨rfl,by rw [bc];rfl,rfl,rfl,rfl,rfl,rfl,by rw [bc];rfl,rfl,rfl,rfl,rfl,rfl,rfl,rfl,trivial⟩ ?_;obtain⟨b1,b2,b3⟩:=bs bU;refine zg 4 rfl (Bc b2 rfl rfl rfl ?_);refine zg 2 rfl ?_;obtain rfl:=oi b3;exact Az (bB _ _ ((K.1.set (Int.toNat K.2) O),b1) ⟨bQ,U,V,[(bb,.cells (A0 f78 a2 [sV ap O av]) 28 (0,0))],rfl,rfl,(a0.Ab ba),bZ,b0⟩ a1) rfl
  ·refine JL.exit rfl ?_;obtain rfl:=oi bE;obtain rfl:=bA _ a1;exact Az (bz _ _ ⟨al,U,V,am,rfl,rfl,a0,a7,a8⟩) rfl
def f26(fuel:Nat)(p0:A2):Option ((A2)):= (f77 fuel p0.1).bind fun K=> (f77 fuel p0.2).bind fun O=> some (K,O)
theorem S2{ag:An}{c2:Nat}{am:An}{ap:Nat}{p0:A2}(a6:Al (rL rI) E ag c2 p0.1)(a7:Al (rL rI) E am ap p0.2){fuel:Nat}{r:(A2)}(av:f26 fuel p0=some r):AK J 26 [.agg #[sV ag p0.1 c2,sV am p0.2 ap]] E [] (fun w E' B'=>∃(aY:An) (aZ:Nat) (a0:An) (a1:Nat),w= .agg #[sV aY r.1 aZ,sV a0 r.2 a1]∧B'= []∧Al (rL rI) E' aY aZ r.1∧Al (rL rI) E' a0 a1 r.2):=by
 refine A3 func26 fun Q bm cs H a8 a9=>?_;unfold f26 at av;refine zg 2 rfl (B4 a8 fun bn bo al a2 ba=>?_);refine CF ba GU fun bp bb=>?_;refine zg 2 rfl (C6 5 fun ht=>?_);refine B8 0 ht underlying24 BQ rfl rfl rfl rfl (Cv 1 ht 0 a2 Cr rfl rfl rfl rfl ?_);refine B8 3 ht underlying24 BQ rfl rfl rfl rfl (Cv 4 ht 1 a2 Cr rfl rfl rfl rfl ?_);obtain⟨Y,bc,bd⟩:=bs av;refine JG.call (i:=2) (vs:= [sV ag p0.1 c2]) (S5 (a6.Ah al) bc) (by decide+kernel) rfl rfl rfl (AS func77 rfl) rfl bb ?_;rintro _ bq _ a3 ⟨K,O,rfl,rfl,be⟩ bf;refine Ci [5,6,7] ?_;obtain⟨Z,bg,bh⟩:=bs bd;refine BP (S5 (a7.Ah (al.Ab a3)) bg) rfl rfl (AS func77 rfl) bf ?_;rintro _ br _ a4 ⟨U,V,rfl,rfl,bi⟩ bj;refine AD (v:= .agg #[sV K Y O,sV U Z V]) rfl (fun ρ h=>Dg [(0,1),(1,1)] h GU underlying24 ⟨rfl,Bu type22,rfl,Bu type22,trivial⟩ rfl rfl) (BR 2 bj BD fun a5=>?_);refine JL.done ?_;obtain rfl:=oi bh;refine JL.ret (v:= .agg #[sV K Y O,sV U Z V]) rfl rfl (Co.list func26 rfl (vs:= [.agg #[sV K Y O,sV U Z V]]) ⟨⟨_,rfl,Ld.many (vs:= [sV K Y O,sV U Z V]) BW BD (FV (off:=0) 2 a5 rfl rfl)⟩,trivial⟩) (Iq 2 a5 rfl fun bl=>?_);exact a9 ((al.Ab a3).Ab a4) rfl ⟨K,O,U,V,rfl,rfl,(be.Ah a4),bi⟩ bl
def MS(fuel:Nat)(p0:List (List Int))(K:Int):Option (Bi Int ((Bool)⊕(Unit))):= Option.bind (if K<(p0.length:Int) then(some (decide (K<20))) else(some false)) fun O=> if O=true then((ix p0 K).bind fun U=> if 20<(U.length:Int) then(some (.done (Sum.inl true))) else((As (K+1)).bind fun V=> some (.more V))) else(some (.done (Sum.inr ())))
def f76(fuel:Nat)(p0:List (List Int)):Option Bool:= Option.bind (iter (MS fuel p0) fuel 0) fun K=> Sum.elim (fun r=>some r) (fun O=> some (decide (20<(p0.length:Int)))) K
theorem Tc{K:An}{c2:Nat}{p0:List (List Int)}(a5:Al (rL rI) E K c2 p0){fuel:Nat}{r:Bool}(am:f76 fuel p0=some r):AK J 76 [sV K p0 c2] E [] (fun w E' B'=>w= .bool r∧B'= []):=by
 refine A3 func76 fun Q bB cs H a6 ap=>?_;unfold f76 at am;obtain⟨av,a7,aY⟩:=bs am;refine zg 9 rfl (Br (fun L s=>∃(aZ:Unit) (a0:LH),av=Sum.inr aZ∧Jm E H a0 [] [(0,sV K p0 c2)] L s) ?_ ?_)
 ·rintro _ _ ⟨aZ,a0,rfl,rfl,rfl,a8,a9⟩;have ba:=elim_inr aY;refine zg 3 rfl (Bg underlying22 rfl rfl rfl ?_);refine zg 3 rfl ?_;obtain rfl:=oi ba;exact AA func76 rfl rfl (ap a8 rfl ⟨rfl,rfl⟩ a9)
 ·intro bb;refine JL.block (Cx a7 (fun O=> []) (fun O=> [(0,sV K p0 c2),(3,iV O)]) Ar a6 ?_);rintro O Z U a1 a2 ⟨bC,V⟩ bc;have a3:=V;unfold MS at a3;refine zg 5 rfl (Bg underlying22 rfl rfl rfl ?_);obtain⟨bd,be,bf⟩:=bs a3;refine zg 2 rfl (EC [] (fun L s=>∃(ag:LH),Jm Z H ag [] [(0,sV K p0 c2),(3,iV O),(11,.bool bd)] L s) ?_ ?_)
  ·rintro _ _ ⟨ag,rfl,rfl,Y,al⟩;refine JL.done (BH bf (fun bg bh=>?_) (fun bg bi=>?_))
   ·obtain⟨bD,bj,bl⟩:=bs bh;refine zg 7 rfl (Ce (a5.Ah (U.Ab Y)) bj underlying22 BX ?_);rintro bE bF _ ⟨bG,bH,rfl,bI⟩ bm;refine BY 0 bm CQ rfl rfl rfl (Bg underlying28 rfl rfl rfl ?_);refine zg 2 rfl (AL bl (fun bn bo=>?_) (fun bn bp=>?_))
    ·refine zg 4 rfl ?_;obtain rfl:=oi bo;obtain rfl:=a2 _ V;have bq:=elim_inl aY;obtain rfl:=oi bq;exact AA func76 rfl rfl (ap (U.Ab Y) rfl ⟨rfl,rfl⟩ al)
    ·obtain⟨br,bu,bv⟩:=bs bp;refine zg 4 rfl (Bc bu rfl rfl rfl ?_);refine zg 2 rfl ?_;obtain rfl:=oi bv;exact bc br (U.Ab Y) al rfl V
   ·refine JL.exit rfl ?_;obtain rfl:=oi bi;have bw:av=(Sum.inr ()):=(a2 _ V).symm;exact Az (bb _ _ ⟨(),ag,bw,rfl,rfl,(U.Ab Y),al⟩) rfl
  ·intro a4;refine Ee 8 be (fun bx bz=>?_) (fun bx bA=>?_)
   ·refine zg 3 rfl ?_;obtain rfl:=oi bz;exact Az (a4 _ _ ⟨Z,rfl,rfl,Ar,a1⟩) rfl
   ·refine zg 3 rfl ?_;obtain rfl:=oi bA;exact Az (a4 _ _ ⟨Z,rfl,rfl,Ar,a1⟩) rfl
def f21(fuel:Nat)(p0:A2):Option Bool:= (f76 fuel p0.1).bind fun K=> Option.bind (if K=true then(some true) else((f76 fuel p0.2).bind fun O=> some O)) fun U=> some U
theorem aq{U:An}{c2:Nat}{V:An}{Y:Nat}{p0:A2}(ap:Al (rL rI) E U c2 p0.1)(av:Al (rL rI) E V Y p0.2){fuel:Nat}{r:Bool}(Z:f21 fuel p0=some r):AK J 21 [.agg #[sV U p0.1 c2,sV V p0.2 Y]] E [] (fun w E' B'=>w= .bool r∧B'= []):=by
 refine A3 func21 fun Q bf cs H aY aZ=>?_;unfold f21 at Z;refine zg 2 rfl (B4 aY fun bg bh K ag a0=>?_);refine zg 4 rfl (JL.fl 0 ag underlying24 BQ Cr ?_);obtain⟨bi,a1,a2⟩:=bs Z;refine BC (Tc (ap.Ah K) a1) rfl rfl (AS func76 rfl) a0 fun bj O al=>?_;obtain⟨a3,a4,a5⟩:=bs a2;refine zg 1 rfl (Dr 8 1 [] [(10,.bool a3)] (fun bl a6 a7=>?_) (fun am=>?_))
 ·refine zg 2 rfl ?_;obtain rfl:=oi a5;exact AA func21 rfl rfl (aZ ((K.Ab O).Ab a6) rfl ⟨rfl,rfl⟩ a7)
 ·refine DZ 6 a4 (fun a8 a9=>?_) (fun a8 ba=>?_)
  ·refine zg 4 rfl ?_;obtain rfl:=oi a9;exact am Ar al rfl
  ·refine JL.fl 1 (ag.Ah O) underlying24 BQ Cr ?_;obtain⟨bm,bb,bc⟩:=bs ba;refine BC (Tc (av.Ah (K.Ab O)) bb) rfl rfl (AS func76 rfl) al fun bn bd be=>zg 1 rfl ?_;obtain rfl:=oi bc;exact am bd be rfl
def MF(fuel:Nat)(p0:A2)(p1:List Int)(K:Int):Option (Bi Int ((Int)⊕(Unit))):= if K<(p1.length:Int) then((ix p1 K).bind fun O=> (As ((p0.1.length:Int) - 1)).bind fun U=> (f104 fuel O 0 U).bind fun V=> if(!V)=true then(some (.done (Sum.inl 3))) else(Option.bind (if 0<K then((ix p1 K).bind fun Y=> (As (K - 1)).bind fun Z=> (ix p1 Z).bind fun ag=> some (decide (Y≤ag))) else(some false)) fun al=> if al=true then(some (.done (Sum.inl 5))) else((As (K+1)).bind fun am=> some (.more am)))) else(some (.done (Sum.inr ())))
def f114(fuel:Nat)(p0:A2)(p1:List Int):Option Int:= if(p1.length:Int)=0 then(some 7) else(if 3<(p1.length:Int) then(some 6) else(Option.bind (iter (MF fuel p0 p1) fuel 0) fun K=> Sum.elim (fun r=>some r) (fun O=> some 0) K))
theorem ZL{a1:An}{c2:Nat}{a2:An}{a3:Nat}{ag:An}{al:Nat}{p0:A2}{p1:List Int}(b8:Al (rL rI) E a1 c2 p0.1)(b9:Al (rL rI) E a2 a3 p0.2)(am:Al rI E ag al p1){fuel:Nat}{r:Int}(a4:f114 fuel p0 p1=some r):AK J 114 [.agg #[sV a1 p0.1 c2,sV a2 p0.2 a3],sV ag p1 al] E [] (fun w E' B'=>w=iV r∧B'= []):=by
 refine A3 func114 fun Q ca cs H bd U=>?_;unfold f114 at a4;refine zg 2 rfl (B4 bd fun a5 be K bf ap=>?_);refine zg 6 rfl (Bg underlying28 rfl rfl rfl ?_);refine zg 2 rfl (AL a4 (fun bg bh=>?_) (fun bg bi=>?_))
 ·refine zg 4 rfl ?_;obtain rfl:=oi bh;exact AA func114 rfl rfl (U K rfl ⟨rfl,rfl⟩ ap)
 ·refine zg 5 rfl (Bg underlying28 rfl rfl rfl ?_);refine zg 2 rfl (AL bi (fun bj bl=>?_) (fun bj bm=>?_))
  ·refine zg 4 rfl ?_;obtain rfl:=oi bl;exact AA func114 rfl rfl (U K rfl ⟨rfl,rfl⟩ ap)
  ·obtain⟨a6,bn,av⟩:=bs bm;refine zg 6 rfl (Br (fun L s=>∃(a7:Unit) (a8:LH),a6=Sum.inr a7∧Jm be H a8 [] [] L s) ?_ ?_)
   ·rintro _ _ ⟨a7,a8,rfl,rfl,rfl,bo,bp⟩;have bq:=elim_inr av;refine zg 4 rfl ?_;obtain rfl:=oi bq;exact AA func114 rfl rfl (U (K.Ab bo) rfl ⟨rfl,rfl⟩ bp)
   ·intro br;refine JL.block (Cx bn (fun V=> []) (fun V=> [(1,sV ag p1 al),(2,pV a5 0),(5,iV V)]) Ar ap ?_);rintro V bu O a9 aY ⟨cb,Y⟩ bv;have ba:=Y;unfold MF at ba;refine zg 5 rfl (Bg underlying28 rfl rfl rfl ?_);refine zg 2 rfl (AL ba (fun bw bx=>?_) (fun bw bz=>?_))
    ·refine zg 5 rfl (C6 8 fun ht=>?_);refine A4 ht rfl [0,1] rfl ?_;obtain⟨cc,bA,bB⟩:=bs bx;refine Cy 2 (am.Ah (K.Ab O)) bA ht underlying28 AW ?_;rintro cd ce _ rfl bC;refine Cv 3 ht 0 bC Bv rfl rfl rfl rfl (B8 4 ht underlying24 BQ rfl rfl rfl rfl ?_);refine Cv 5 ht 0 (bf.Ah O) Cr rfl rfl rfl rfl (BB 6 ht rfl rfl (fun ρ h s' hs=>Yl.len rfl underlying22 (h _ _ rfl)) ?_);obtain⟨cf,bD,bE⟩:=bs bB;refine BB 7 ht rfl rfl (fun ρ h s' hs=>Db (h _ _ rfl) (h _ _ rfl) bD) (Ci [8,9] ?_);obtain⟨bF,bG,bH⟩:=bs bE;refine BC (Lf bG) rfl rfl Ke a9 fun bI Z aZ=>AD (v:= .bool (!bF)) rfl (fun ρ h=>Yl.not (h _ _ rfl)) (JL.done ?_);refine BH bH (fun bJ bK=>?_) (fun bJ bL=>?_)
     ·refine zg 4 rfl ?_;obtain rfl:=oi bK;obtain rfl:=aY _ Y;have bM:=elim_inl av;obtain rfl:=oi bM;exact AA func114 rfl rfl (U ((K.Ab O).Ab Z) rfl ⟨rfl,rfl⟩ aZ)
     ·refine zg 2 rfl (C6 14 fun ht=>?_);refine A4 ht rfl [0,1,2] rfl ?_;obtain⟨bN,bb,bO⟩:=bs bL;refine EY 0 #[true,true,true,true,true,true,true,true,true,true,true,true,true,true] (fun L s=>L= [(1,sV ag p1 al),(2,pV a5 0),(5,iV V),(41,.bool bN)]∧s=Ao bI H [[]]) ?_ ?_
      ·rintro _ _ ⟨rfl,rfl⟩;refine AX.fin (by decide+kernel) (BH bO (fun bP bQ=>?_) (fun bP bR=>?_))
       ·refine zg 4 rfl ?_;obtain rfl:=oi bQ;obtain rfl:=aY _ Y;have bS:=elim_inl av;obtain rfl:=oi bS;exact AA func114 rfl rfl (U ((K.Ab O).Ab Z) rfl ⟨rfl,rfl⟩ aZ)
       ·obtain⟨bT,bU,bV⟩:=bs bR;refine zg 4 rfl (Bc bU rfl rfl rfl ?_);refine zg 2 rfl ?_;obtain rfl:=oi bV;exact bv bT (O.Ab Z) aZ rfl Y
      ·intro bc;refine FG (q:=0<V) (i:=30) rfl (fun a0=>?_) (fun a0=>?_)
       ·have bW:=ip bb a0;refine A4 ht rfl [3,4] rfl ?_;obtain⟨cg,bY,bZ⟩:=bs bW;refine Cy 5 (am.Ah ((K.Ab O).Ab Z)) bY ht underlying28 AW ?_;rintro ci ck _ rfl b0;refine Cv 6 ht 0 b0 Bv rfl rfl rfl rfl ?_;refine A4 ht rfl [7,8] rfl ?_;obtain⟨cm,b1,b2⟩:=bs bZ;refine BB 9 ht rfl rfl (fun ρ h s' hs=>Db (h _ _ rfl) (h _ _ rfl) b1) ?_;obtain⟨cn,b3,b4⟩:=bs b2;refine Cy 10 (am.Ah ((K.Ab O).Ab Z)) b3 ht underlying28 AW ?_;rintro co cp _ rfl b5;refine Cv 11 ht 0 b5 Bv rfl rfl rfl rfl ?_;refine A4 ht rfl [12,13] rfl ?_;obtain rfl:=oi b4;refine CZ ?_ (bc _ _ ⟨rfl,rfl⟩);exact⟨rfl,rfl,rfl,rfl,trivial⟩
       ·have b6:=im bb a0;refine A4 ht rfl [3,4,5,6,7,8,9,10,11,12,13] rfl ?_;obtain rfl:=oi b6;refine CZ ?_ (bc _ _ ⟨rfl,rfl⟩);exact⟨rfl,rfl,rfl,rfl,trivial⟩
    ·refine JL.exit rfl ?_;obtain rfl:=oi bz;have b7:a6=(Sum.inr ()):=(aY _ Y).symm;exact Az (br _ _ ⟨(),bu,b7,rfl,rfl,O,a9⟩) rfl
def MH(fuel:Nat)(p0:A2)(p1:Int)(p2:List Int)(K:Int):Option (Bi Int ((Int)⊕(Unit))):= if K<(p2.length:Int) then((ix p2 K).bind fun O=> (As ((p0.1.length:Int) - 1)).bind fun U=> (f104 fuel O 0 U).bind fun V=> if(!V)=true then(some (.done (Sum.inl 3))) else((ix p2 K).bind fun Y=> if Y=p1 then(some (.done (Sum.inl 8))) else(Option.bind (if 0<K then((ix p2 K).bind fun Z=> (As (K - 1)).bind fun ag=> (ix p2 ag).bind fun al=> some (decide (Z≤al))) else(some false)) fun am=> if am=true then(some (.done (Sum.inl 5))) else((As (K+1)).bind fun ap=> some (.more ap))))) else(some (.done (Sum.inr ())))
def f115(fuel:Nat)(p0:A2)(p1:Int)(p2:List Int):Option Int:= if 3<(p2.length:Int) then(some 6) else(Option.bind (iter (MH fuel p0 p1 p2) fuel 0) fun K=> Sum.elim (fun r=>some r) (fun O=> some 0) K)
theorem Za{a0:An}{c2:Nat}{a1:An}{a2:Nat}{ag:An}{al:Nat}{p0:A2}{p1:Int}{p2:List Int}(cc:Al (rL rI) E a0 c2 p0.1)(cd:Al (rL rI) E a1 a2 p0.2)(am:Al rI E ag al p2){fuel:Nat}{r:Int}(a3:f115 fuel p0 p1 p2=some r):AK J 115 [.agg #[sV a0 p0.1 c2,sV a1 p0.2 a2],iV p1,sV ag p2 al] E [] (fun w E' B'=>w=iV r∧B'= []):=by
 refine A3 func115 fun Q ce cs H bd Y=>?_;unfold f115 at a3;refine zg 2 rfl (B4 bd fun a4 be O bf a5=>?_);refine zg 6 rfl (Bg underlying28 rfl rfl rfl ?_);refine zg 2 rfl (AL a3 (fun bg bh=>?_) (fun bg bi=>?_))
 ·refine zg 4 rfl ?_;obtain rfl:=oi bh;exact AA func115 rfl rfl (Y O rfl ⟨rfl,rfl⟩ a5)
 ·obtain⟨a6,bj,ap⟩:=bs bi;refine zg 6 rfl (Br (fun L s=>∃(a7:Unit) (a8:LH),a6=Sum.inr a7∧Jm be H a8 [] [] L s) ?_ ?_)
  ·rintro _ _ ⟨a7,a8,rfl,rfl,rfl,bl,bm⟩;have bn:=elim_inr ap;refine zg 4 rfl ?_;obtain rfl:=oi bn;exact AA func115 rfl rfl (Y (O.Ab bl) rfl ⟨rfl,rfl⟩ bm)
  ·intro bo;refine JL.block (Cx bj (fun Z=> []) (fun Z=> [(1,iV p1),(2,sV ag p2 al),(3,pV a4 0),(7,iV Z)]) Ar a5 ?_);rintro Z bp K a9 av ⟨cf,V⟩ bq;have ba:=V;unfold MH at ba;refine zg 5 rfl (Bg underlying28 rfl rfl rfl ?_);refine zg 2 rfl (AL ba (fun br bu=>?_) (fun br bv=>?_))
   ·refine zg 5 rfl (C6 8 fun ht=>?_);refine A4 ht rfl [0,1] rfl ?_;obtain⟨cg,bw,bx⟩:=bs bu;refine Cy 2 (am.Ah (O.Ab K)) bw ht underlying28 AW ?_;rintro ci ck _ rfl bz;refine Cv 3 ht 0 bz Bv rfl rfl rfl rfl (B8 4 ht underlying24 BQ rfl rfl rfl rfl ?_);refine Cv 5 ht 0 (bf.Ah K) Cr rfl rfl rfl rfl (BB 6 ht rfl rfl (fun ρ h s' hs=>Yl.len rfl underlying22 (h _ _ rfl)) ?_);obtain⟨cm,bA,bB⟩:=bs bx;refine BB 7 ht rfl rfl (fun ρ h s' hs=>Db (h _ _ rfl) (h _ _ rfl) bA) (Ci [8,9] ?_);obtain⟨bC,bD,bE⟩:=bs bB;refine BC (Lf bD) rfl rfl Ke a9 fun bF U aY=>AD (v:= .bool (!bC)) rfl (fun ρ h=>Yl.not (h _ _ rfl)) (JL.done ?_);refine BH bE (fun bG bH=>?_) (fun bG bI=>?_)
    ·refine zg 4 rfl ?_;obtain rfl:=oi bH;obtain rfl:=av _ V;have bJ:=elim_inl ap;obtain rfl:=oi bJ;exact AA func115 rfl rfl (Y ((O.Ab K).Ab U) rfl ⟨rfl,rfl⟩ aY)
    ·obtain⟨cn,bK,bL⟩:=bs bI;refine zg 6 rfl (Ce (am.Ah ((O.Ab K).Ab U)) bK underlying28 AW ?_);rintro co cp _ rfl bM;refine BY 0 bM Bv rfl rfl rfl (zg 3 rfl ?_);refine AL bL (fun bN bO=>?_) (fun bN bP=>?_)
     ·refine zg 4 rfl ?_;obtain rfl:=oi bO;obtain rfl:=av _ V;have bQ:=elim_inl ap;obtain rfl:=oi bQ;exact AA func115 rfl rfl (Y ((O.Ab K).Ab U) rfl ⟨rfl,rfl⟩ aY)
     ·refine zg 2 rfl (C6 14 fun ht=>?_);refine A4 ht rfl [0,1,2] rfl ?_;obtain⟨bR,bb,bS⟩:=bs bP;refine EY 0 #[true,true,true,true,true,true,true,true,true,true,true,true,true,true] (fun L s=>L= [(1,iV p1),(2,sV ag p2 al),(3,pV a4 0),(7,iV Z),(46,.bool bR)]∧s=Ao bF H [[]]) ?_ ?_
      ·rintro _ _ ⟨rfl,rfl⟩;refine AX.fin (by decide+kernel) (BH bS (fun bT bU=>?_) (fun bT bV=>?_))
       ·refine zg 4 rfl ?_;obtain rfl:=oi bU;obtain rfl:=av _ V;have bW:=elim_inl ap;obtain rfl:=oi bW;exact AA func115 rfl rfl (Y ((O.Ab K).Ab U) rfl ⟨rfl,rfl⟩ aY)
       ·obtain⟨bY,bZ,b0⟩:=bs bV;refine zg 4 rfl (Bc bZ rfl rfl rfl ?_);refine zg 2 rfl ?_;obtain rfl:=oi b0;exact bq bY (K.Ab U) aY rfl V
      ·intro bc;refine FG (q:=0<Z) (i:=35) rfl (fun aZ=>?_) (fun aZ=>?_)
       ·have b1:=ip bb aZ;refine A4 ht rfl [3,4] rfl ?_;obtain⟨cq,b2,b3⟩:=bs b1;refine Cy 5 (am.Ah ((O.Ab K).Ab U)) b2 ht underlying28 AW ?_;rintro cr ct _ rfl b4;refine Cv 6 ht 0 b4 Bv rfl rfl rfl rfl ?_;refine A4 ht rfl [7,8] rfl ?_;obtain⟨cu,b5,b6⟩:=bs b3;refine BB 9 ht rfl rfl (fun ρ h s' hs=>Db (h _ _ rfl) (h _ _ rfl) b5) ?_;obtain⟨cv,b7,b8⟩:=bs b6;refine Cy 10 (am.Ah ((O.Ab K).Ab U)) b7 ht underlying28 AW ?_;rintro cw cy _ rfl b9;refine Cv 11 ht 0 b9 Bv rfl rfl rfl rfl ?_;refine A4 ht rfl [12,13] rfl ?_;obtain rfl:=oi b8;refine CZ ?_ (bc _ _ ⟨rfl,rfl⟩);exact⟨rfl,rfl,rfl,rfl,rfl,trivial⟩
       ·have ca:=im bb aZ;refine A4 ht rfl [3,4,5,6,7,8,9,10,11,12,13] rfl ?_;obtain rfl:=oi ca;refine CZ ?_ (bc _ _ ⟨rfl,rfl⟩);exact⟨rfl,rfl,rfl,rfl,rfl,trivial⟩
   ·refine JL.exit rfl ?_;obtain rfl:=oi bv;have cb:a6=(Sum.inr ()):=(av _ V).symm;exact Az (bo _ _ ⟨(),bp,cb,rfl,rfl,K,a9⟩) rfl
def M4(fuel:Nat)(p0:A2)(K:Int):Option (Bi Int ((Int)⊕(Unit))):= if K<(p0.1.length:Int) then((ix p0.1 K).bind fun V=> (f114 fuel p0 V).bind fun O=> if O≠0 then(some (.done (Sum.inl O))) else((ix p0.2 K).bind fun Y=> (f115 fuel p0 K Y).bind fun U=> if U≠0 then(some (.done (Sum.inl U))) else((As (K+1)).bind fun Z=> some (.more Z)))) else(some (.done (Sum.inr ())))
def f68(fuel:Nat)(p0:A2):Option Int:= if(p0.1.length:Int)=0 then(some 7) else(if 8<(p0.1.length:Int) then(some 6) else(if(p0.2.length:Int)≠(p0.1.length:Int) then(some 9) else(Option.bind (iter (M4 fuel p0) fuel 0) fun K=> Sum.elim (fun r=>some r) (fun O=> some 0) K)))
theorem aI{aZ:An}{c2:Nat}{a0:An}{a1:Nat}{p0:A2}(al:Al (rL rI) E aZ c2 p0.1)(am:Al (rL rI) E a0 a1 p0.2){fuel:Nat}{r:Int}(a2:f68 fuel p0=some r):AK J 68 [.agg #[sV aZ p0.1 c2,sV a0 p0.2 a1]] E [] (fun w E' B'=>w=iV r∧B'= []):=by
 refine A3 func68 fun Q b0 cs H bb Y=>?_;unfold f68 at a2;refine zg 2 rfl (B4 bb fun bc bd O U ag=>?_);refine zg 5 rfl (JL.fl 0 U underlying24 BQ Cr ?_);refine Bg underlying22 rfl rfl rfl (zg 2 rfl ?_);refine AL a2 (fun be bf=>?_) (fun be bg=>?_)
 ·refine zg 4 rfl ?_;obtain rfl:=oi bf;exact AA func68 rfl rfl (Y O rfl ⟨rfl,rfl⟩ ag)
 ·refine zg 4 rfl (JL.fl 0 U underlying24 BQ Cr ?_);refine Bg underlying22 rfl rfl rfl (zg 2 rfl ?_);refine AL bg (fun bh bi=>?_) (fun bh bj=>?_)
  ·refine zg 4 rfl ?_;obtain rfl:=oi bi;exact AA func68 rfl rfl (Y O rfl ⟨rfl,rfl⟩ ag)
  ·refine zg 4 rfl (JL.fl 1 U underlying24 BQ Cr ?_);refine Bg underlying22 rfl rfl rfl (JL.fl 0 U underlying24 BQ Cr ?_);refine Bg underlying22 rfl rfl rfl (zg 2 rfl ?_);refine AL bj (fun bl bm=>?_) (fun bl bn=>?_)
   ·refine zg 4 rfl ?_;obtain rfl:=oi bm;exact AA func68 rfl rfl (Y O rfl ⟨rfl,rfl⟩ ag)
   ·obtain⟨a3,bo,ap⟩:=bs bn;refine zg 6 rfl (Br (fun L s=>∃(a4:Unit) (a5:LH),a3=Sum.inr a4∧Jm bd H a5 [] [] L s) ?_ ?_)
    ·rintro _ _ ⟨a4,a5,rfl,rfl,rfl,bp,bq⟩;have br:=elim_inr ap;refine zg 4 rfl ?_;obtain rfl:=oi br;exact AA func68 rfl rfl (Y (O.Ab bp) rfl ⟨rfl,rfl⟩ bq)
    ·intro bu;refine JL.block (Cx bo (fun av=> []) (fun av=> [(1,pV bc 0),(3,iV av)]) Ar ag ?_);rintro av bv K a6 aY ⟨b1,Z⟩ bw;have a7:=Z;unfold M4 at a7;refine zg 4 rfl (JL.fl 0 (U.Ah K) underlying24 BQ Cr ?_);refine Bg underlying22 rfl rfl rfl (zg 2 rfl ?_);refine AL a7 (fun bx bz=>?_) (fun bx bA=>?_)
     ·refine zg 5 rfl (C6 6 fun ht=>?_);refine Fa 0 ht (U.Ah K) BW BD rfl rfl rfl (B8 1 ht underlying24 BQ rfl rfl rfl rfl ?_);refine Cv 2 ht 0 (U.Ah K) Cr rfl rfl rfl rfl (Cj 3 ht rfl rfl ?_);obtain⟨b2,bB,bC⟩:=bs bz;refine Cy 4 (al.Ah (O.Ab K)) bB ht underlying22 BX ?_;rintro b3 b4 _ ⟨b5,b6,rfl,bD⟩ bE;refine Cv 5 ht 0 bE CQ rfl rfl rfl rfl (Ci [6,7] ?_);obtain⟨b7,bF,bG⟩:=bs bC;refine BC (ZL (al.Ah (O.Ab K)) (am.Ah (O.Ab K)) bD bF) rfl rfl (AS func114 rfl) a6 fun b8 V a8=>zg 7 rfl (AL bG (fun bH bI=>?_) (fun bH bJ=>?_))
      ·refine zg 5 rfl ?_;obtain rfl:=oi bI;obtain rfl:=aY _ Z;have bK:=elim_inl ap;obtain rfl:=oi bK;exact AA func68 rfl rfl (Y ((O.Ab K).Ab V) rfl ⟨rfl,rfl⟩ a8)
      ·refine zg 2 rfl (C6 7 fun ht=>?_);refine Fa 0 ht (U.Ah (K.Ab V)) BW BD rfl rfl rfl (Cj 1 ht rfl rfl ?_);refine B8 2 ht underlying24 BQ rfl rfl rfl rfl (Cv 3 ht 1 (U.Ah (K.Ab V)) Cr rfl rfl rfl rfl ?_);refine Cj 4 ht rfl rfl ?_;obtain⟨b9,bL,bM⟩:=bs bJ;refine Cy 5 (am.Ah ((O.Ab K).Ab V)) bL ht underlying22 BX ?_;rintro ca cb _ ⟨cc,cd,rfl,bN⟩ bO;refine Cv 6 ht 0 bO CQ rfl rfl rfl rfl (Ci [7,8] ?_);obtain⟨ce,bP,bQ⟩:=bs bM;refine BC (Za (al.Ah ((O.Ab K).Ab V)) (am.Ah ((O.Ab K).Ab V)) bN bP) rfl rfl (AS func115 rfl) a8 fun cf a9 ba=>zg 7 rfl (AL bQ (fun bR bS=>?_) (fun bR bT=>?_))
       ·refine zg 5 rfl ?_;obtain rfl:=oi bS;obtain rfl:=aY _ Z;have bU:=elim_inl ap;obtain rfl:=oi bU;exact AA func68 rfl rfl (Y (((O.Ab K).Ab V).Ab a9) rfl ⟨rfl,rfl⟩ ba)
       ·obtain⟨bV,bW,bY⟩:=bs bT;refine zg 4 rfl (Bc bW rfl rfl rfl ?_);refine zg 2 rfl ?_;obtain rfl:=oi bY;exact bw bV ((K.Ab V).Ab a9) ba rfl Z
     ·refine JL.exit rfl ?_;obtain rfl:=oi bA;have bZ:a3=(Sum.inr ()):=(aY _ Z).symm;exact Az (bu _ _ ⟨(),bv,bZ,rfl,rfl,K,a6⟩) rfl
def M7(fuel:Nat)(p0:A2)(p1:AI)(K:Int):Option (Bi Int ((Int)⊕(Unit))):= if K<(p1.length:Int) then((ix p1 K).bind fun O=> (f104 fuel O.1 0 6).bind fun U=> if(!U)=true then(some (.done (Sum.inl 1))) else(Option.bind (if 0<K then((ix p1 K).bind fun V=> (As (K - 1)).bind fun Y=> (ix p1 Y).bind fun Z=> some (decide (V.1<Z.1))) else(some false)) fun ag=> if ag=true then(some (.done (Sum.inl 5))) else((ix p1 K).bind fun al=> (As ((p0.1.length:Int) - 1)).bind fun am=> (f104 fuel al.2 0 am).bind fun ap=> if(!ap)=true then(some (.done (Sum.inl 3))) else((As (K+1)).bind fun av=> some (.more av))))) else(some (.done (Sum.inr ())))
def f70(fuel:Nat)(p0:A2)(p1:AI):Option Int:= (f68 fuel p0).bind fun K=> if K≠0 then(some K) else(if 4<(p1.length:Int) then(some 6) else(Option.bind (iter (M7 fuel p0 p1) fuel 0) fun O=> Sum.elim (fun r=>some r) (fun U=> some 0) O))
theorem Tg{a2:An}{c2:Nat}{a3:An}{a4:Nat}{al:An}{am:Nat}{p0:A2}{p1:AI}(bh:Al (rL rI) E a2 c2 p0.1)(bi:Al (rL rI) E a3 a4 p0.2)(ap:Al Bo E al am p1){fuel:Nat}{r:Int}(a5:f70 fuel p0 p1=some r):AK J 70 [.agg #[sV a2 p0.1 c2,sV a3 p0.2 a4],sV al p1 am] E [] (fun w E' B'=>w=iV r∧B'= []):=by
 refine A3 func70 fun Q cu cs H bj Y=>?_;unfold f70 at a5;refine zg 2 rfl (B4 bj fun a6 cv K a7 bl=>?_);refine zg 5 rfl (BO a7 BW BD rfl rfl ?_);obtain⟨cw,bm,bn⟩:=bs a5;refine BC (aI (bh.Ah K) (bi.Ah K) bm) rfl rfl (AS func68 rfl) bl fun bo O aZ=>zg 7 rfl (AL bn (fun bp bq=>?_) (fun bp br=>?_))
 ·refine zg 5 rfl ?_;obtain rfl:=oi bq;exact AA func70 rfl rfl (Y (K.Ab O) rfl ⟨rfl,rfl⟩ aZ)
 ·refine zg 5 rfl (Bg underlying25 rfl rfl rfl ?_);refine zg 2 rfl (AL br (fun bu bv=>?_) (fun bu bw=>?_))
  ·refine zg 4 rfl ?_;obtain rfl:=oi bv;exact AA func70 rfl rfl (Y (K.Ab O) rfl ⟨rfl,rfl⟩ aZ)
  ·obtain⟨a8,bx,av⟩:=bs bw;refine zg 6 rfl (Br (fun L s=>∃(a9:Unit) (ba:LH),a8=Sum.inr a9∧Jm bo H ba [] [] L s) ?_ ?_)
   ·rintro _ _ ⟨a9,ba,rfl,rfl,rfl,bz,bA⟩;have bB:=elim_inr av;refine zg 4 rfl ?_;obtain rfl:=oi bB;exact AA func70 rfl rfl (Y ((K.Ab O).Ab bz) rfl ⟨rfl,rfl⟩ bA)
   ·intro bC;refine JL.block (Cx bx (fun ag=> []) (fun ag=> [(1,sV al p1 am),(2,pV a6 0),(6,iV ag)]) Ar aZ ?_);rintro ag bD U bb aY ⟨cy,Z⟩ bE;have bc:=Z;unfold M7 at bc;refine zg 5 rfl (Bg underlying25 rfl rfl rfl ?_);refine zg 2 rfl (AL bc (fun bF bG=>?_) (fun bF bH=>?_))
    ·obtain⟨cz,bI,bJ⟩:=bs bG;refine zg 8 rfl (Ce (ap.Ah ((K.Ab O).Ab U)) bI underlying25 Cc ?_);rintro cA cB _ ⟨_,_,rfl,rfl,rfl⟩ bK;refine JL.fl 0 bK underlying27 AW Bv ?_;obtain⟨bL,bM,bN⟩:=bs bJ;refine BC (Lf bM) rfl rfl Ke bb fun bO V a0=>AD (v:= .bool (!bL)) rfl (fun ρ h=>Yl.not (h _ _ rfl)) (JL.done ?_);refine BH bN (fun bP bQ=>?_) (fun bP bR=>?_)
     ·refine zg 4 rfl ?_;obtain rfl:=oi bQ;obtain rfl:=aY _ Z;have bS:=elim_inl av;obtain rfl:=oi bS;exact AA func70 rfl rfl (Y (((K.Ab O).Ab U).Ab V) rfl ⟨rfl,rfl⟩ a0)
     ·refine zg 3 rfl (C6 16 fun ht=>?_);refine A4 ht rfl [0,1,2] rfl ?_;obtain⟨bT,bd,bU⟩:=bs bR;refine EY 0 #[true,true,true,true,true,true,true,true,true,true,true,true,true,true,true,true] (fun L s=>L= [(1,sV al p1 am),(2,pV a6 0),(6,iV ag),(43,.bool bT)]∧s=Ao bO H [[]]) ?_ ?_
      ·rintro _ _ ⟨rfl,rfl⟩;refine AX.fin (by decide+kernel) (BH bU (fun bV bW=>?_) (fun bV bY=>?_))
       ·refine zg 4 rfl ?_;obtain rfl:=oi bW;obtain rfl:=aY _ Z;have bZ:=elim_inl av;obtain rfl:=oi bZ;exact AA func70 rfl rfl (Y (((K.Ab O).Ab U).Ab V) rfl ⟨rfl,rfl⟩ a0)
       ·refine zg 2 rfl (C6 9 fun ht=>?_);refine A4 ht rfl [0,1] rfl ?_;obtain⟨cC,b0,b1⟩:=bs bY;refine Cy 2 (ap.Ah (((K.Ab O).Ab U).Ab V)) b0 ht underlying25 Cc ?_;rintro cD cE _ ⟨_,_,rfl,rfl,rfl⟩ b2;refine B8 3 ht underlying27 AW rfl rfl rfl rfl (Cv 4 ht 1 b2 Bv rfl rfl rfl rfl ?_);refine B8 5 ht underlying24 BQ rfl rfl rfl rfl (Cv 6 ht 0 (a7.Ah ((O.Ab U).Ab V)) Cr rfl rfl rfl rfl ?_);refine BB 7 ht rfl rfl (fun ρ h s' hs=>Yl.len rfl underlying22 (h _ _ rfl)) ?_;obtain⟨cF,b3,b4⟩:=bs b1;refine BB 8 ht rfl rfl (fun ρ h s' hs=>Db (h _ _ rfl) (h _ _ rfl) b3) (Ci [9,10] ?_);obtain⟨b5,b6,b7⟩:=bs b4;refine BC (Lf b6) rfl rfl Ke a0 fun cG be bf=>AD (v:= .bool (!b5)) rfl (fun ρ h=>Yl.not (h _ _ rfl)) (JL.done ?_);refine BH b7 (fun b8 b9=>?_) (fun b8 ca=>?_)
        ·refine zg 4 rfl ?_;obtain rfl:=oi b9;obtain rfl:=aY _ Z;have cb:=elim_inl av;obtain rfl:=oi cb;exact AA func70 rfl rfl (Y ((((K.Ab O).Ab U).Ab V).Ab be) rfl ⟨rfl,rfl⟩ bf)
        ·obtain⟨cc,cd,ce⟩:=bs ca;refine zg 4 rfl (Bc cd rfl rfl rfl ?_);refine zg 2 rfl ?_;obtain rfl:=oi ce;exact bE cc ((U.Ab V).Ab be) bf rfl Z
      ·intro bg;refine FG (q:=0<ag) (i:=30) rfl (fun a1=>?_) (fun a1=>?_)
       ·have cf:=ip bd a1;refine A4 ht rfl [3,4] rfl ?_;obtain⟨cH,cg,ci⟩:=bs cf;refine Cy 5 (ap.Ah (((K.Ab O).Ab U).Ab V)) cg ht underlying25 Cc ?_;rintro cI cJ _ ⟨_,_,rfl,rfl,rfl⟩ ck;refine B8 6 ht underlying27 AW rfl rfl rfl rfl ?_;refine Cv 7 ht 0 ck Bv rfl rfl rfl rfl ?_;refine A4 ht rfl [8,9] rfl ?_;obtain⟨cK,cm,cn⟩:=bs ci;refine BB 10 ht rfl rfl (fun ρ h s' hs=>Db (h _ _ rfl) (h _ _ rfl) cm) ?_;obtain⟨cM,co,cp⟩:=bs cn;refine Cy 11 (ap.Ah (((K.Ab O).Ab U).Ab V)) co ht underlying25 Cc ?_;rintro cN cO _ ⟨_,_,rfl,rfl,rfl⟩ cq;refine B8 12 ht underlying27 AW rfl rfl rfl rfl ?_;refine Cv 13 ht 0 cq Bv rfl rfl rfl rfl ?_;refine A4 ht rfl [14,15] rfl ?_;obtain rfl:=oi cp;refine CZ ?_ (bg _ _ ⟨rfl,rfl⟩);exact⟨rfl,rfl,rfl,rfl,trivial⟩
       ·have cr:=im bd a1;refine A4 ht rfl [3,4,5,6,7,8,9,10,11,12,13,14,15] rfl ?_;obtain rfl:=oi cr;refine CZ ?_ (bg _ _ ⟨rfl,rfl⟩);exact⟨rfl,rfl,rfl,rfl,trivial⟩
    ·refine JL.exit rfl ?_;obtain rfl:=oi bH;have ct:a8=(Sum.inr ()):=(aY _ Z).symm;exact Az (bC _ _ ⟨(),bD,ct,rfl,rfl,U,bb⟩) rfl
def JF(fuel:Nat)(p0:A2)(p1:List Bool)(O:(List Bool)×Int)(K:(List Bool)×Int):Option (Bi ((List Bool)×Int) ((List Bool))):= (ix p0.1 O.2).bind fun V=> Option.bind (if K.2<(V.length:Int) then((ix p1 O.2).bind fun Y=> some Y) else(some false)) fun Z=> if Z=true then((ix p0.1 O.2).bind fun ag=> (ix ag K.2).bind fun U=> (ix K.1 U).bind fun am=> (As (K.2+1)).bind fun al=> some (.more ((K.1.set (Int.toNat U) true),al))) else(some (.done K.1))
def MN(fuel:Nat)(p0:A2)(p1:List Bool)(K:(List Bool)×Int):Option (Bi ((List Bool)×Int) ((List Bool))):= if K.2<(p1.length:Int) then(Option.bind (iter (JF fuel p0 p1 K) fuel (K.1,0)) fun O=> (As (K.2+1)).bind fun U=> some (.more (O,U))) else(some (.done K.1))
def f119(fuel:Nat)(p0:A2)(p1:List Bool):Option ((List Bool)):= (F5 (p1.length:Int) (false:Bool)).bind fun K=> Option.bind (iter (MN fuel p0 p1) fuel (K,0)) fun O=> some O
theorem ZW{bc:An}{c2:Nat}{bl:An}{bm:Nat}{Y:An}{Z:Nat}{p0:A2}{p1:List Bool}(bn:Al (rL rI) E bc c2 p0.1)(c3:Al (rL rI) E bl bm p0.2)(bH:Al rB E Y Z p1){fuel:Nat}{r:(List Bool)}(bo:f119 fuel p0 p1=some r):AK J 119 [.agg #[sV bc p0.1 c2,sV bl p0.2 bm],sV Y p1 Z] E [] (fun w E' B'=>∃(bp:An) (bq:Nat),w= sV bp r bq∧B'= []∧Al rB E' bp bq r):=by
 refine A3 func119 fun Q c4 cs H bI bJ=>?_;unfold f119 at bo;refine zg 2 rfl (B4 bI fun ap bd a4 br bK=>?_);refine zg 5 rfl (Bg underlying68 rfl rfl rfl ?_);obtain⟨bL,bM,bN⟩:=bs bo;refine JS.make (pp:=rB) bM rfl rfl rfl rfl rfl underlying68 Ie (CR type4) (by decide) (Du type4) (by decide) rfl bK fun bO bP bQ bR=>?_;obtain⟨bu,bS,bT⟩:=bs bN;refine zg 7 rfl (Br (fun L s=>∃(be:LH) (a5:An) (a6:Nat) (bf:Seg),Jn bd H be [bf] [(5,sV a5 bu a6)] L s (OL 4 rB be a5 a6 bf bu)) ?_ ?_)
 ·rintro _ _ ⟨be,a5,a6,bf,rfl,rfl,bU,bV,bW⟩;refine zg 5 rfl (B7 0 bW bV rfl fun c5 bY bZ b0=>?_);obtain rfl:=oi bT;exact AA func119 rfl rfl (bJ ((a4.Ab bU).Ab bY) rfl ⟨a5,a6,rfl,rfl,bZ⟩ b0)
 ·intro b1;refine JL.block (CN bS (fun L s O=>∃(ag:LH) (aZ:An) (a0:Nat) (a1:Seg),Jn bd H ag [a1] [(1,sV Y p1 Z),(2,pV ap 0),(5,sV aZ O.1 a0),(6,iV O.2)] L s (OL 4 rB ag aZ a0 a1 O.1)) ⟨bd,(AZ bO),bL.length,bP,rfl,rfl,Ar,bR,bQ⟩ ?_);rintro _ _ O ⟨ag,aZ,a0,a1,rfl,rfl,al,bv,bw⟩ b2 ⟨c6,bg⟩ b3;have bx:=bg;unfold MN at bx;refine zg 5 rfl (Bg underlying68 rfl rfl rfl ?_);refine zg 2 rfl (AL bx (fun b4 b5=>?_) (fun b4 b6=>?_))
  ·obtain⟨bh,b7,b8⟩:=bs b5;refine zg 7 rfl (Br (fun L s=>∃(a7:LH) (a8:An) (a9:Nat) (ba:Seg),Jn ag H a7 [ba] [(1,sV Y p1 Z),(2,pV ap 0),(5,sV a8 bh a9),(6,iV O.2)] L s (OL 4 rB a7 a8 a9 ba bh)) ?_ ?_)
   ·rintro _ _ ⟨a7,a8,a9,ba,rfl,rfl,b9,ca,cb⟩;obtain⟨cc,cd,ce⟩:=bs b8;refine zg 3 rfl (Bc cd rfl rfl rfl ?_);refine zg 2 rfl ?_;obtain rfl:=oi ce;exact Az (b3 _ _ (bh,cc) ⟨a7,a8,a9,ba,rfl,rfl,(al.Ab b9),ca,cb⟩ bg) rfl
   ·intro cf;refine JL.block (CN b7 (fun L s K=>∃(av:LH) (U:An) (V:Nat) (a2:Seg),Jn ag H av [a2] [(1,sV Y p1 Z),(2,pV ap 0),(5,sV U K.1 V),(6,iV O.2),(7,iV K.2)] L s (OL 4 rB av U V a2 K.1)) ⟨ag,aZ,a0,a1,rfl,rfl,Ar,bv,bw⟩ ?_);rintro _ _ K ⟨av,U,V,a2,rfl,rfl,am,bz,bA⟩ cg ⟨c7,bi⟩ ci;have bB:=bi;unfold JF at bB;refine zg 4 rfl (JL.fl 0 (br.Ah (al.Ab am)) underlying24 BQ Cr ?_);obtain⟨c8,ck,cm⟩:=bs bB;refine zg 1 rfl (Ce (bn.Ah ((a4.Ab al).Ab am)) ck underlying22 BX ?_);rintro c9 da _ ⟨db,dc,rfl,dd⟩ cn;refine BY 0 cn CQ rfl rfl rfl (Bg underlying28 rfl rfl rfl ?_);obtain⟨bC,co,cp⟩:=bs cm;refine zg 2 rfl (EC [] (fun L s=>∃(bb:LH),Jm av H bb [a2] [(1,sV Y p1 Z),(2,pV ap 0),(5,sV U K.1 V),(6,iV O.2),(7,iV K.2),(30,.bool bC)] L s) ?_ ?_)
    ·rintro _ _ ⟨bb,rfl,rfl,aY,bD⟩;refine JL.done (BH cp (fun cq cr=>?_) (fun cq ct=>?_))
     ·refine zg 5 rfl (JL.fl 0 (br.Ah ((al.Ab am).Ab aY)) underlying24 BQ Cr ?_);obtain⟨cu,cv,cw⟩:=bs cr;refine zg 1 rfl (Ce (bn.Ah (((a4.Ab al).Ab am).Ab aY)) cv underlying22 BX ?_);rintro cy cz _ ⟨cA,cB,rfl,cC⟩ cD;refine BY 0 cD CQ rfl rfl rfl ?_;obtain⟨a3,cE,cF⟩:=bs cw;refine zg 1 rfl (Ce cC cE underlying28 AW ?_);rintro cG cH _ rfl cI;refine BY 0 cI Bv rfl rfl rfl ?_;obtain⟨de,cJ,cK⟩:=bs cF;refine IZ 0 (bA.Ah aY) cJ rfl rfl rfl rfl rfl rfl underlying68 Ie ?_;rintro bE bj f141 _ cM rfl df cN cO dg dh;refine JS.store (v:= .bool true) (off:=bj) 0 rfl rfl rfl bD rfl rfl Ie (by simp [Value.cells,CI]) cM (by have:=cN;simp only [Rp.n,rK,rN,rB,rP,rL] at this;show _+1≤_;omega) fun cP=>?_;have cQ:=cO true [.bool true] rfl;have bF:(K.1.set (Int.toNat a3) true).length=K.1.length:=List.length_set;refine Gf (L':= [(1,.slice Y p1.length Z),(2,pV ap 0),(5,.slice U ((K.1.set (Int.toNat a3) true)).length V),(6,iV O.2),(7,iV K.2),(30,.bool bC),(33,.slice U ((K.1.set (Int.toNat a3) true)).length V),(34,pV ap 0),(35,.slice bc p0.1.length c2),(36,iV O.2),(37,pV cy cz),(38,.slice cA cu.length cB),(39,iV K.2),(40,pV cG cH),(41,iV a3),(42,pV bE bj)]) ⟨rfl,rfl,by rw [bF];rfl,rfl,rfl,rfl,by rw [bF];rfl,rfl,rfl,rfl,rfl,rfl,rfl,rfl,rfl,rfl,trivial⟩ ?_;obtain⟨cR,cT,cV⟩:=bs cK;refine zg 4 rfl (Bc cT rfl rfl rfl ?_);refine zg 2 rfl ?_;obtain rfl:=oi cV;exact Az (ci _ _ ((K.1.set (Int.toNat a3) true),cR) ⟨bb,U,V,[(bE,.cells (A0 f141 bj [.bool true]) 4 (0,0))],rfl,rfl,(am.Ab aY),cP,cQ⟩ bi) rfl
     ·refine JL.exit rfl ?_;obtain rfl:=oi ct;obtain rfl:=cg _ bi;exact Az (cf _ _ ⟨bb,U,V,a2,rfl,rfl,(am.Ab aY),bD,(bA.Ah aY)⟩) rfl
    ·intro bG;refine Ee 25 co (fun cW cX=>?_) (fun cW cY=>?_)
     ·obtain⟨di,cZ,c0⟩:=bs cX;refine zg 2 rfl (Ce (bH.Ah ((a4.Ab al).Ab am)) cZ underlying68 Ie ?_);rintro dj dk _ rfl c1;refine BY 0 c1 (Dv underlying4) rfl rfl rfl (zg 1 rfl ?_);obtain rfl:=oi c0;exact Az (bG _ _ ⟨av,rfl,rfl,Ar,bz⟩) rfl
     ·refine zg 5 rfl ?_;obtain rfl:=oi cY;exact Az (bG _ _ ⟨av,rfl,rfl,Ar,bz⟩) rfl
  ·refine JL.exit rfl ?_;obtain rfl:=oi b6;obtain rfl:=b2 _ bg;exact Az (b1 _ _ ⟨ag,aZ,a0,a1,rfl,rfl,al,bv,bw⟩) rfl
def Nf(fuel:Nat)(p0:A2)(p1:Int)(K:(List Bool)×Int):Option (Bi ((List Bool)×Int) ((List Bool))):= if K.2<p1 then((f119 fuel p0 K.1).bind fun O=> (As (K.2+1)).bind fun U=> some (.more (O,U))) else(some (.done K.1))
def f82(fuel:Nat)(p0:A2)(p1:Int):Option ((List Bool)):= (F5 (p0.1.length:Int) (false:Bool)).bind fun K=> (ix K (0)).bind fun U=> Option.bind (iter (Nf fuel p0 p1) fuel ((K.set (Int.toNat 0) true),0)) fun O=> some O
theorem ar{U:An}{c2:Nat}{av:An}{aY:Nat}{p0:A2}{p1:Int}(be:Al (rL rI) E U c2 p0.1)(bf:Al (rL rI) E av aY p0.2){fuel:Nat}{r:(List Bool)}(a4:f82 fuel p0 p1=some r):AK J 82 [.agg #[sV U p0.1 c2,sV av p0.2 aY],iV p1] E [] (fun w E' B'=>∃(a5:An) (a6:Nat),w= sV a5 r a6∧B'= []∧Al rB E' a5 a6 r):=by
 refine A3 func82 fun Q b1 cs H bg bh=>?_;unfold f82 at a4;refine zg 2 rfl (B4 bg fun aZ a7 a0 a8 bi=>?_);refine zg 4 rfl (JL.fl 0 a8 underlying24 BQ Cr ?_);refine Bg underlying22 rfl rfl rfl ?_;obtain⟨K,bj,bl⟩:=bs a4;refine JS.make (pp:=rB) bj rfl rfl rfl rfl rfl underlying68 Ie (CR type4) (by decide) (Du type4) (by decide) rfl bi fun V b2 bm bn=>?_;obtain⟨b3,bo,bp⟩:=bs bl;refine zg 5 rfl (IZ 2 bm bo rfl rfl rfl rfl rfl rfl underlying68 Ie ?_);rintro bq a9 f24 _ br rfl b4 bu bv b5 b6;refine JS.store (v:= .bool true) (off:=a9) 2 rfl rfl rfl bn rfl rfl Ie (by simp [Value.cells,CI]) br (by have:=bu;simp only [Rp.n,rK,rN,rB,rP,rL] at this;show _+1≤_;omega) fun bw=>?_;have bx:=bv true [.bool true] rfl;have a1:(K.set (Int.toNat 0) true).length=K.length:=List.length_set;refine Gf (L':= [(0,.agg #[.slice U p0.1.length c2,.slice av p0.2.length aY]),(1,iV p1),(2,pV aZ 0),(4,.slice none 0 0),(7,pV aZ 0),(8,.slice U p0.1.length c2),(9,iV (p0.1.length:Int)),(10,.slice (AZ V) ((K.set (Int.toNat 0) true)).length K.length),(5,.slice (AZ V) ((K.set (Int.toNat 0) true)).length K.length),(11,.slice (AZ V) ((K.set (Int.toNat 0) true)).length K.length),(12,pV bq a9)]) ⟨rfl,rfl,rfl,rfl,rfl,rfl,rfl,by rw [a1];rfl,by rw [a1];rfl,by rw [a1];rfl,rfl,trivial⟩ ?_;obtain⟨ba,bz,bA⟩:=bs bp;refine zg 6 rfl (Br (fun L s=>∃(a2:LH) (Y:An) (Z:Nat),Jn a7 H a2 [] [(5,sV Y ba Z)] L s (Al rB a2 Y Z ba)) ?_ ?_)
 ·rintro _ _ ⟨a2,Y,Z,rfl,rfl,bB,bC,bD⟩;refine zg 5 rfl ?_;obtain rfl:=oi bA;exact AA func82 rfl rfl (bh (a0.Ab bB) rfl ⟨Y,Z,rfl,rfl,bD⟩ bC)
 ·intro bE;refine JL.block (B7 2 bx bw rfl fun bF bG bH bI=>?_);refine CN bz (fun L s ag=>∃(al:LH) (am:An) (ap:Nat),Jn a7 H al [] [(1,iV p1),(2,pV aZ 0),(5,sV am ag.1 ap),(6,iV ag.2)] L s (Al rB al am ap ag.1)) ⟨bF,(AZ V),K.length,rfl,rfl,bG,bI,bH⟩ ?_;rintro _ _ ag ⟨al,am,ap,rfl,rfl,O,bb,bc⟩ bJ ⟨b7,a3⟩ bK;have bd:=a3;unfold Nf at bd;refine zg 7 rfl (AL bd (fun bL bM=>?_) (fun bL bN=>?_))
  ·refine zg 4 rfl (BO (a8.Ah O) BW BD rfl rfl ?_);obtain⟨bO,bP,bQ⟩:=bs bM;refine zg 1 rfl (BP (ZW (be.Ah (a0.Ab O)) (bf.Ah (a0.Ab O)) bc bP) rfl rfl (AS func119 rfl) bb ?_);rintro _ bR _ bS ⟨bT,bU,rfl,rfl,bV⟩ bW;obtain⟨bY,bZ,b0⟩:=bs bQ;refine zg 5 rfl (Bc bZ rfl rfl rfl ?_);refine zg 2 rfl ?_;obtain rfl:=oi b0;exact Az (bK _ _ (bO,bY) ⟨bR,bT,bU,rfl,rfl,(O.Ab bS),bW,bV⟩ a3) rfl
  ·refine JL.exit rfl ?_;obtain rfl:=oi bN;obtain rfl:=bJ _ a3;exact Az (bE _ _ ⟨al,am,ap,rfl,rfl,O,bb,bc⟩) rfl
def ME(fuel:Nat)(p0:List Int)(p1:Int)(K:Int):Option (Bi Int ((Bool)⊕(Unit))):= if K<(p0.length:Int) then((ix p0 K).bind fun O=> if O=p1 then(some (.done (Sum.inl true))) else((As (K+1)).bind fun U=> some (.more U))) else(some (.done (Sum.inr ())))
def f137(fuel:Nat)(p0:List Int)(p1:Int):Option Bool:= Option.bind (iter (ME fuel p0 p1) fuel 0) fun K=> Sum.elim (fun r=>some r) (fun O=> some false) K
theorem Zc{U:An}{c2:Nat}{p0:List Int}{p1:Int}(a0:Al rI E U c2 p0){fuel:Nat}{r:Bool}(Z:f137 fuel p0 p1=some r):AK J 137 [sV U p0 c2,iV p1] E [] (fun w E' B'=>w= .bool r∧B'= []):=by
 refine A3 func137 fun Q bo cs H a1 ag=>?_;unfold f137 at Z;obtain⟨al,a2,am⟩:=bs Z;refine zg 9 rfl (Br (fun L s=>∃(ap:Unit) (av:LH),al=Sum.inr ap∧Jm E H av [] [] L s) ?_ ?_)
 ·rintro _ _ ⟨ap,av,rfl,rfl,rfl,a3,a4⟩;have a5:=elim_inr am;refine zg 4 rfl ?_;obtain rfl:=oi a5;exact AA func137 rfl rfl (ag a3 rfl ⟨rfl,rfl⟩ a4)
 ·intro a6;refine JL.block (Cx a2 (fun V=> []) (fun V=> [(0,sV U p0 c2),(1,iV p1),(5,iV V)]) Ar a1 ?_);rintro V a7 K Y aY ⟨bp,O⟩ a8;have aZ:=O;unfold ME at aZ;refine zg 5 rfl (Bg underlying28 rfl rfl rfl ?_);refine zg 2 rfl (AL aZ (fun a9 ba=>?_) (fun a9 bb=>?_))
  ·obtain⟨bq,bc,bd⟩:=bs ba;refine zg 7 rfl (Ce (a0.Ah K) bc underlying28 AW ?_);rintro br bu _ rfl be;refine BY 0 be Bv rfl rfl rfl (zg 3 rfl ?_);refine AL bd (fun bf bg=>?_) (fun bf bh=>?_)
   ·refine zg 4 rfl ?_;obtain rfl:=oi bg;obtain rfl:=aY _ O;have bi:=elim_inl am;obtain rfl:=oi bi;exact AA func137 rfl rfl (ag K rfl ⟨rfl,rfl⟩ Y)
   ·obtain⟨bj,bl,bm⟩:=bs bh;refine zg 4 rfl (Bc bl rfl rfl rfl ?_);refine zg 2 rfl ?_;obtain rfl:=oi bm;exact a8 bj K Y rfl O
  ·refine JL.exit rfl ?_;obtain rfl:=oi bb;have bn:al=(Sum.inr ()):=(aY _ O).symm;exact Az (a6 _ _ ⟨(),a7,bn,rfl,rfl,K,Y⟩) rfl
def Mx(fuel:Nat)(p0:A2)(p1:AI)(p2:Int)(p3:Int)(p4:Int)(K:Int×Int):Option (Bi (Int×Int) ((Int)⊕(Int))):= if K.2<(p1.length:Int) then(Option.bind ((ix p1 K.2).bind fun O=> Option.bind (if O.1≠p3 then(some true) else(some (decide (O.2=p4)))) fun U=> if U=true then(some (Sum.inr K.1)) else(Option.bind (if K.2=p2 then(some true) else((ix p0.2 p4).bind fun V=> (f137 fuel V O.2).bind fun Y=> some (!Y))) fun Z=> if Z=true then(some (Sum.inl 100)) else((As (K.1+1)).bind fun ag=> some (Sum.inr ag)))) fun al=>Sum.elim (fun r=>some (.done (Sum.inl r))) (fun am=> (As (K.2+1)).bind fun ap=> some (.more (am,ap))) al) else(some (.done (Sum.inr K.1)))
def f118(fuel:Nat)(p0:A2)(p1:AI)(p2:Int)(p3:Int)(p4:Int):Option Int:= Option.bind (iter (Mx fuel p0 p1 p2 p3 p4) fuel (0,0)) fun K=> Sum.elim (fun r=>some r) (fun O=> some O) K
theorem Yo{a4:An}{c2:Nat}{a5:An}{a6:Nat}{O:An}{U:Nat}{p0:A2}{p1:AI}{p2:Int}{p3:Int}{p4:Int}(cC:Al (rL rI) E a4 c2 p0.1)(bq:Al (rL rI) E a5 a6 p0.2)(br:Al Bo E O U p1){fuel:Nat}{r:Int}(a7:f118 fuel p0 p1 p2 p3 p4=some r):AK J 118 [.agg #[sV a4 p0.1 c2,sV a5 p0.2 a6],sV O p1 U,iV p2,iV p3,iV p4] E [] (fun w E' B'=>w=iV r∧B'= []):=by
 refine A3 func118 fun Q cD cs H bu a8=>?_;unfold f118 at a7;refine zg 2 rfl (B4 bu fun al bv am bw bx=>?_);obtain⟨a9,bz,ba⟩:=bs a7;refine zg 11 rfl (Br (fun L s=>∃(aY:Int) (bb:LH),a9=Sum.inr aY∧Jm bv H bb [] [(11,iV aY)] L s) ?_ ?_)
 ·rintro _ _ ⟨aY,bb,rfl,rfl,rfl,bA,bB⟩;have bC:=elim_inr ba;refine zg 5 rfl ?_;obtain rfl:=oi bC;exact AA func118 rfl rfl (a8 (am.Ab bA) rfl ⟨rfl,rfl⟩ bB)
 ·intro bD;refine JL.block (Cx bz (fun K=> []) (fun K=> [(1,sV O p1 U),(2,iV p2),(3,iV p3),(4,iV p4),(5,pV al 0),(11,iV K.1),(12,iV K.2)]) Ar bx ?_);rintro K bc V bd be ⟨cE,ap⟩ bE;have bf:=ap;unfold Mx at bf;refine zg 5 rfl (Bg underlying25 rfl rfl rfl ?_);refine zg 2 rfl (AL bf (fun bF bG=>?_) (fun bF bH=>?_))
  ·obtain⟨bI,bJ,bg⟩:=bs bG;refine zg 2 rfl (Br (fun L s=>∃(av:Int) (bh:LH),bI=Sum.inr av∧Jm bc H bh [] [(1,sV O p1 U),(2,iV p2),(3,iV p3),(4,iV p4),(5,pV al 0),(11,iV av),(12,iV K.2)] L s) ?_ ?_)
   ·rintro _ _ ⟨av,bh,rfl,rfl,rfl,bK,bL⟩;have bM:=elim_inr bg;obtain⟨bN,bO,bP⟩:=bs bM;refine zg 2 rfl (Bc bO rfl rfl rfl ?_);refine zg 2 rfl ?_;obtain rfl:=oi bP;exact bE (av,bN) (V.Ab bK) bL rfl ap
   ·intro bi;obtain⟨bQ,bR,bS⟩:=bs bJ;refine zg 5 rfl (Ce (br.Ah (am.Ab V)) bR underlying25 Cc ?_);rintro cF cG _ ⟨_,_,rfl,rfl,rfl⟩ bT;refine BO bT Gs Cc rfl rfl (CF bd Er fun bU bV=>?_);refine BR 0 bV Cc fun bW=>?_;refine CV 0 bW rfl fun aZ Z a0 bj=>zg 4 rfl (JL.fl 0 a0 underlying27 AW Bv ?_);obtain⟨bY,bZ,b0⟩:=bs bS;refine zg 3 rfl (EC [] (fun L s=>∃(ag:LH),Jm aZ H ag [] [(1,sV O p1 U),(2,iV p2),(3,iV p3),(4,iV p4),(5,pV al 0),(11,iV K.1),(12,iV K.2),(13,pV bU 0),(33,.bool bY)] L s) ?_ ?_)
    ·rintro _ _ ⟨ag,rfl,rfl,Y,a1⟩;refine JL.done (BH b0 (fun b1 b2=>?_) (fun b1 b3=>?_))
     ·exact JL.exit rfl (Az (bi _ _ ⟨K.1,ag,(Option.some.inj b2).symm,rfl,rfl,(Z.Ab Y),a1⟩) rfl)
     ·refine zg 3 rfl (C6 14 fun ht=>?_);refine A4 ht rfl [0,1,2,3] rfl ?_;obtain⟨b4,bl,b5⟩:=bs b3;refine EY 0 #[true,true,true,true,true,true,true,true,true,true,true,true,true,true] (fun L s=>∃(a2:LH),Jm ag H a2 [] [(1,sV O p1 U),(2,iV p2),(3,iV p3),(4,iV p4),(5,pV al 0),(11,iV K.1),(12,iV K.2),(47,.bool b4)] L s) ?_ ?_
      ·rintro _ _ ⟨a2,rfl,rfl,bm,bn⟩;refine AX.fin (by decide+kernel) (BH b5 (fun b6 b7=>?_) (fun b6 b8=>?_))
       ·refine zg 4 rfl ?_;obtain rfl:=oi b7;have b9:=elim_inl bg;obtain rfl:=oi b9;obtain rfl:=be _ ap;have ca:=elim_inl ba;obtain rfl:=oi ca;exact AA func118 rfl rfl (a8 ((((am.Ab V).Ab Z).Ab Y).Ab bm) rfl ⟨rfl,rfl⟩ bn)
       ·obtain⟨cb,cc,cd⟩:=bs b8;refine zg 3 rfl (Bc cc rfl rfl rfl ?_);exact zg 3 rfl (Az (bi _ _ ⟨cb,a2,(Option.some.inj cd).symm,rfl,rfl,((Z.Ab Y).Ab bm),bn⟩) rfl)
      ·intro bo;refine FG (q:=K.2=p2) (i:=37) rfl (fun a3=>?_) (fun a3=>?_)
       ·have ce:=ip bl a3;refine A4 ht rfl [4,5,6,7,8,9,10,11,12,13] rfl ?_;obtain rfl:=oi ce;refine CZ ?_ (bo _ _ ⟨ag,rfl,rfl,Ar,a1⟩);exact⟨rfl,rfl,rfl,rfl,rfl,rfl,rfl,rfl,trivial⟩
       ·have cf:=im bl a3;refine B8 4 ht underlying24 BQ rfl rfl rfl rfl ?_;refine Cv 5 ht 1 (bw.Ah ((V.Ab Z).Ab Y)) Cr rfl rfl rfl rfl ?_;refine Cj 6 ht rfl rfl ?_;obtain⟨cg,ci,ck⟩:=bs cf;refine Cy 7 (bq.Ah (((am.Ab V).Ab Z).Ab Y)) ci ht underlying22 BX ?_;rintro cH cI _ ⟨cm,cn,rfl,co⟩ cp;refine Cv 8 ht 0 cp CQ rfl rfl rfl rfl ?_;refine B8 9 ht underlying27 AW rfl rfl rfl rfl ?_;refine Cv 10 ht 1 (a0.Ah Y) Bv rfl rfl rfl rfl ?_;obtain⟨cq,cr,ct⟩:=bs ck;refine JG.call (i:=11) (vs:= [sV cm cg cn,iV bQ.2]) (Zc co cr) (by decide+kernel) rfl rfl rfl (AS func137 rfl) rfl a1 ?_;rintro _ cu _ cv ⟨rfl,rfl⟩ cw;refine BB (v:= .bool (!cq)) 12 ht rfl rfl (fun ρ h s' hs=>Yl.not (h _ _ rfl)) ?_;refine Cj 13 ht rfl rfl ?_;obtain rfl:=oi ct;refine CZ ?_ (bo _ _ ⟨cu,rfl,rfl,cv,cw⟩);exact⟨rfl,rfl,rfl,rfl,rfl,rfl,rfl,rfl,trivial⟩
    ·intro bp;refine Ee 28 bZ (fun cy cz=>?_) (fun cy cA=>?_)
     ·refine zg 5 rfl ?_;obtain rfl:=oi cz;exact Az (bp _ _ ⟨aZ,rfl,rfl,Ar,bj⟩) rfl
     ·refine JL.fl 1 a0 underlying27 AW Bv ?_;refine zg 3 rfl ?_;obtain rfl:=oi cA;exact Az (bp _ _ ⟨aZ,rfl,rfl,Ar,bj⟩) rfl
  ·refine JL.exit rfl ?_;obtain rfl:=oi bH;have cB:a9=(Sum.inr K.1):=(be _ ap).symm;exact Az (bD _ _ ⟨K.1,bc,cB,rfl,rfl,V,bd⟩) rfl
def f117(fuel:Nat)(p0:AI):Option Int:= if(p0.length:Int)=0 then(some 0) else((As ((p0.length:Int) - 1)).bind fun K=> (ix p0 K).bind fun O=> some O.1)
theorem ZV{K:An}{c2:Nat}{p0:AI}(Y:Al Bo E K c2 p0){fuel:Nat}{r:Int}(O:f117 fuel p0=some r):AK J 117 [sV K p0 c2] E [] (fun w E' B'=>w=iV r∧B'= []):=by
 refine A3 func117 fun Q aZ cs H U V=>?_;unfold f117 at O;refine zg 8 rfl (Bg underlying25 rfl rfl rfl ?_);refine zg 2 rfl (AL O (fun c4 Z=>?_) (fun c4 ag=>?_))
 ·refine zg 4 rfl ?_;obtain rfl:=oi Z;exact AA func117 rfl rfl (V Ar rfl ⟨rfl,rfl⟩ U)
 ·refine zg 5 rfl (Bg underlying25 rfl rfl rfl ?_);obtain⟨a0,al,am⟩:=bs ag;refine Cd al rfl rfl rfl ?_;obtain⟨a1,ap,av⟩:=bs am;refine Ce Y ap underlying25 Cc ?_;rintro a2 a3 _ ⟨_,_,rfl,rfl,rfl⟩ aY;refine JL.fl 0 aY underlying27 AW Bv ?_;refine zg 2 rfl ?_;obtain rfl:=oi av;exact AA func117 rfl rfl (V Ar rfl ⟨rfl,rfl⟩ U)
def MM(fuel:Nat)(p0:List (List Int))(p1:Int)(K:Int×Int):Option (Bi (Int×Int) Int):= if K.2<(p0.length:Int) then((ix p0 K.2).bind fun O=> (ix O p1).bind fun U=> (As (K.1+U)).bind fun V=> (As (K.2+1)).bind fun Y=> some (.more (V,Y))) else(some (.done K.1))
def f105(fuel:Nat)(p0:List (List Int))(p1:Int):Option Int:= Option.bind (iter (MM fuel p0 p1) fuel (0,0)) fun K=> some K
theorem Sm{O:An}{c2:Nat}{p0:List (List Int)}{p1:Int}(al:Al (rL rI) E O c2 p0){fuel:Nat}{r:Int}(Y:f105 fuel p0 p1=some r):AK J 105 [sV O p0 c2,iV p1] E [] (fun w E' B'=>w=iV r∧B'= []):=by
 refine A3 func105 fun Q bm cs H am ap=>?_;unfold f105 at Y;obtain⟨av,aY,aZ⟩:=bs Y;refine zg 13 rfl (C4 [] [(5,iV av)] (fun bn a0 a1=>?_) (fun a2=>?_))
 ·refine zg 5 rfl ?_;obtain rfl:=oi aZ;exact AA func105 rfl rfl (ap a0 rfl ⟨rfl,rfl⟩ a1)
 ·refine JL.block (Cx aY (fun K=> []) (fun K=> [(0,sV O p0 c2),(1,iV p1),(5,iV K.1),(6,iV K.2)]) Ar am ?_);rintro K bo U Z a3 ⟨bp,V⟩ a4;have ag:=V;unfold MM at ag;refine zg 5 rfl (Bg underlying22 rfl rfl rfl ?_);refine zg 2 rfl (AL ag (fun a5 a6=>?_) (fun a5 a7=>?_))
  ·obtain⟨bq,a8,a9⟩:=bs a6;refine zg 7 rfl (Ce (al.Ah U) a8 underlying22 BX ?_);rintro br bu _ ⟨bv,bw,rfl,ba⟩ bb;refine BY 0 bb CQ rfl rfl rfl ?_;obtain⟨bx,bc,bd⟩:=bs a9;refine zg 1 rfl (Ce ba bc underlying28 AW ?_);rintro bz bA _ rfl be;refine BY 0 be Bv rfl rfl rfl ?_;obtain⟨bf,bg,bh⟩:=bs bd;refine Bc bg rfl rfl rfl ?_;obtain⟨bi,bj,bl⟩:=bs bh;refine zg 5 rfl (Bc bj rfl rfl rfl ?_);refine zg 2 rfl ?_;obtain rfl:=oi bl;exact a4 (bf,bi) U Z rfl V
  ·refine JL.exit rfl ?_;obtain rfl:=oi a7;obtain rfl:=a3 _ V;exact a2 U Z rfl
def f71(fuel:Nat):Option ((A2)):= some (([([1]:List Int),([2]:List Int),([3,4]:List Int),([4]:List Int),([5]:List Int),([5]:List Int)]:List (List Int)),([[],[],[],([2]:List Int),([2,3]:List Int),([3,4]:List Int)]:List (List Int)))
theorem Iw{fuel:Nat}{r:(A2)}(a0:f71 fuel=some r):AK J 71 [] E [] (fun w E' B'=>∃(a1:An) (a2:Nat) (a3:An) (a4:Nat),w= .agg #[sV a1 r.1 a2,sV a3 r.2 a4]∧B'= []∧Al (rL rI) E' a1 a2 r.1∧Al (rL rI) E' a3 a4 r.2):=by
 refine A3 func71 fun Q cu cs H be bf=>?_;unfold f71 at a0;refine zg 2 rfl (CF be GU fun K bg=>?_);refine zg 3 rfl (Dx (pp:=rI) [iV 1] [1] rfl rfl rfl underlying28 AW CM (by decide) rfl rfl rfl ⟨rfl,trivial⟩ bg fun bh a5 bi bj=>?_);refine Dx (pp:=rI) [iV 2] [2] rfl rfl rfl underlying28 AW CM (by decide) rfl rfl rfl ⟨rfl,trivial⟩ bj fun bl a6 bm bn=>Cq (S':= [[],[(K,.cells #[nS,nS] 24 (0,0))],a5,a6]) rfl bn fun bo=>Dx (pp:=rI) [iV 3,iV 4] [3,4] rfl rfl rfl underlying28 AW CM (by decide) rfl rfl rfl ⟨rfl,rfl,trivial⟩ bo fun bp a7 bq br=>Dx (pp:=rI) [iV 4] [4] rfl rfl rfl underlying28 AW CM (by decide) rfl rfl rfl ⟨rfl,trivial⟩ br fun bu a8 bv bw=>Dx (pp:=rI) [iV 5] [5] rfl rfl rfl underlying28 AW CM (by decide) rfl rfl rfl ⟨rfl,trivial⟩ bw fun bx a9 bz bA=>Cq (S':= [[],[(K,.cells #[nS,nS] 24 (0,0))],a5,a6,a7,a8,a9]) rfl bA fun bB=>Dx (pp:=rI) [iV 5] [5] rfl rfl rfl underlying28 AW CM (by decide) rfl rfl rfl ⟨rfl,trivial⟩ bB fun bC ba bD bE=>B7 2 bi bE rfl fun cv O bF bG=>B7 3 (bm.Ah O) bG rfl fun cw U bH bI=>Cq (S':= [[],[(K,.cells #[nS,nS] 24 (0,0))],[],[],a7,a8,a9,ba]) rfl bI fun bJ=>B7 4 (bq.Ah (O.Ab U)) bJ rfl fun cy V bK bL=>B7 5 (bv.Ah ((O.Ab U).Ab V)) bL rfl fun cz Y bM bN=>B7 6 (bz.Ah (((O.Ab U).Ab V).Ab Y)) bN rfl fun cA Z bO bP=>Cq (S':= [[],[(K,.cells #[nS,nS] 24 (0,0))],[],[],[],[],[],ba]) rfl bP fun bQ=>B7 7 (bD.Ah ((((O.Ab U).Ab V).Ab Y).Ab Z)) bQ rfl fun cB ag bR bS=>Dx (pp:=(rL rI)) [.slice (AZ bh) (([1]:List Int)).length 1,.slice (AZ bl) (([2]:List Int)).length 1,.slice (AZ bp) (([3,4]:List Int)).length 2,.slice (AZ bu) (([4]:List Int)).length 1,.slice (AZ bx) (([5]:List Int)).length 1,.slice (AZ bC) (([5]:List Int)).length 1] [([1]:List Int),([2]:List Int),([3,4]:List Int),([4]:List Int),([5]:List Int),([5]:List Int)] rfl rfl rfl underlying22 BX Fo (by decide) rfl rfl rfl ⟨⟨_,_,rfl,(bF.Ah ((((U.Ab V).Ab Y).Ab Z).Ab ag))⟩,⟨_,_,rfl,(bH.Ah (((V.Ab Y).Ab Z).Ab ag))⟩,⟨_,_,rfl,(bK.Ah ((Y.Ab Z).Ab ag))⟩,⟨_,_,rfl,(bM.Ah (Z.Ab ag))⟩,⟨_,_,rfl,(bO.Ah ag)⟩,⟨_,_,rfl,bR⟩,trivial⟩ bS fun al aZ bT bU=>Dx (pp:=rI) [iV 2] [2] rfl rfl rfl underlying28 AW CM (by decide) rfl rfl rfl ⟨rfl,trivial⟩ bU fun bV bW bY bZ=>Cq (S':= [[],[(K,.cells #[nS,nS] 24 (0,0))],[],[],[],[],[],[],aZ,bW]) rfl bZ fun b0=>Dx (pp:=rI) [iV 2,iV 3] [2,3] rfl rfl rfl underlying28 AW CM (by decide) rfl rfl rfl ⟨rfl,rfl,trivial⟩ b0 fun b1 b2 b3 b4=>Dx (pp:=rI) [iV 3,iV 4] [3,4] rfl rfl rfl underlying28 AW CM (by decide) rfl rfl rfl ⟨rfl,rfl,trivial⟩ b4 fun b5 b6 b7 b8=>B7 9 bY b8 rfl fun cC ap b9 ca=>?_;refine Cq (S':= [[],[(K,.cells #[nS,nS] 24 (0,0))],[],[],[],[],[],[],aZ,[],b2,b6]) rfl ca fun cb=>B7 10 (b3.Ah ap) cb rfl fun cD av cc cd=>B7 11 (b7.Ah (ap.Ab av)) cd rfl fun cE aY ce cf=>Dx (pp:=(rL rI)) [nS,nS,nS,.slice (AZ bV) (([2]:List Int)).length 1,.slice (AZ b1) (([2,3]:List Int)).length 2,.slice (AZ b5) (([3,4]:List Int)).length 2] [[],[],[],([2]:List Int),([2,3]:List Int),([3,4]:List Int)] rfl rfl rfl underlying22 BX Fo (by decide) rfl rfl rfl ⟨⟨_,_,rfl,Al.nil⟩,⟨_,_,rfl,Al.nil⟩,⟨_,_,rfl,Al.nil⟩,⟨_,_,rfl,(b9.Ah (av.Ab aY))⟩,⟨_,_,rfl,(cc.Ah aY)⟩,⟨_,_,rfl,ce⟩,trivial⟩ cf fun am cg ci ck=>Cq (S':= [[],[(K,.cells #[nS,nS] 24 (0,0))],[],[],[],[],[],[],aZ,[],[],[],cg]) rfl ck fun cm=>AD (v:= .agg #[.slice (AZ al) (([([1]:List Int),([2]:List Int),([3,4]:List Int),([4]:List Int),([5]:List Int),([5]:List Int)]:List (List Int))).length 6,.slice (AZ am) (([[],[],[],([2]:List Int),([2,3]:List Int),([3,4]:List Int)]:List (List Int))).length 6]) rfl (fun ρ h=>Dg [(0,1),(1,1)] h GU underlying24 ⟨rfl,Bu type22,rfl,Bu type22,trivial⟩ rfl rfl) (BR 1 cm BD fun cn=>?_);refine JL.done (B7 8 (bT.Ah ((ap.Ab av).Ab aY)) cn rfl fun cF bb co cp=>?_);refine B7 12 (ci.Ah bb) cp rfl fun cG bc cq cr=>Cq (S':= [[],[(K,.cells #[.slice (AZ al) (([([1]:List Int),([2]:List Int),([3,4]:List Int),([4]:List Int),([5]:List Int),([5]:List Int)]:List (List Int))).length 6,.slice (AZ am) (([[],[],[],([2]:List Int),([2,3]:List Int),([3,4]:List Int)]:List (List Int))).length 6] 24 (0,0))],[],[],[],[],[],[],[],[],[],[],[]]) rfl cr fun bd=>?_;obtain rfl:=oi a0;refine JL.ret (v:= .agg #[.slice (AZ al) (([([1]:List Int),([2]:List Int),([3,4]:List Int),([4]:List Int),([5]:List Int),([5]:List Int)]:List (List Int))).length 6,.slice (AZ am) (([[],[],[],([2]:List Int),([2,3]:List Int),([3,4]:List Int)]:List (List Int))).length 6]) rfl rfl (Co.list func71 rfl (vs:= [.agg #[.slice (AZ al) (([([1]:List Int),([2]:List Int),([3,4]:List Int),([4]:List Int),([5]:List Int),([5]:List Int)]:List (List Int))).length 6,.slice (AZ am) (([[],[],[],([2]:List Int),([2,3]:List Int),([3,4]:List Int)]:List (List Int))).length 6]]) ⟨⟨_,rfl,Ld.many (vs:= [.slice (AZ al) (([([1]:List Int),([2]:List Int),([3,4]:List Int),([4]:List Int),([5]:List Int),([5]:List Int)]:List (List Int))).length 6,.slice (AZ am) (([[],[],[],([2]:List Int),([2,3]:List Int),([3,4]:List Int)]:List (List Int))).length 6]) BW BD (FV (off:=0) 1 bd rfl rfl)⟩,trivial⟩) (Iq 1 bd rfl fun ct=>?_);exact bf ((((((((((O.Ab U).Ab V).Ab Y).Ab Z).Ab ag).Ab ap).Ab av).Ab aY).Ab bb).Ab bc) rfl ⟨(AZ al),6,(AZ am),6,rfl,rfl,(co.Ah bc),cq⟩ ct
def f72(fuel:Nat):Option ((AI)):= some ([(0,2),(1,4)]:AI)
theorem O4{fuel:Nat}{r:(AI)}(K:f72 fuel=some r):AK J 72 [] E [] (fun w E' B'=>∃(O:An) (U:Nat),w= sV O r U∧B'= []∧Al Bo E' O U r):=by
 refine A3 func72 fun Q aY cs H V Y=>?_;unfold f72 at K;refine zg 6 rfl (AD (v:= .agg #[iV 0,iV 2]) rfl (fun ρ h=>Dg [(0,1),(1,1)] h Er underlying27 ⟨rfl,Bu type3,rfl,Bu type3,trivial⟩ rfl rfl) ?_);refine AD (v:= .agg #[iV 1,iV 4]) rfl (fun ρ h=>Dg [(0,1),(1,1)] h Er underlying27 ⟨rfl,Bu type3,rfl,Bu type3,trivial⟩ rfl rfl) (Dx (pp:=Bo) [.agg #[iV 0,iV 2],.agg #[iV 1,iV 4]] [(0,2),(1,4)] rfl rfl rfl underlying25 Cc Er (by decide) rfl rfl rfl ⟨⟨_,_,rfl,rfl,rfl⟩,⟨_,_,rfl,rfl,rfl⟩,trivial⟩ V fun Z g2 ag al=>?_);refine zg 2 rfl (B7 1 ag al rfl fun aZ am ap av=>?_);obtain rfl:=oi K;exact AA func72 rfl rfl (Y am rfl ⟨(AZ Z),2,rfl,rfl,ap⟩ av)
def f73(fuel:Nat):Option ((AI)):= some ([(0,3),(1,3)]:AI)
theorem S7{fuel:Nat}{r:(AI)}(K:f73 fuel=some r):AK J 73 [] E [] (fun w E' B'=>∃(O:An) (U:Nat),w= sV O r U∧B'= []∧Al Bo E' O U r):=by
 refine A3 func73 fun Q aY cs H V Y=>?_;unfold f73 at K;refine zg 6 rfl (AD (v:= .agg #[iV 0,iV 3]) rfl (fun ρ h=>Dg [(0,1),(1,1)] h Er underlying27 ⟨rfl,Bu type3,rfl,Bu type3,trivial⟩ rfl rfl) ?_);refine AD (v:= .agg #[iV 1,iV 3]) rfl (fun ρ h=>Dg [(0,1),(1,1)] h Er underlying27 ⟨rfl,Bu type3,rfl,Bu type3,trivial⟩ rfl rfl) (Dx (pp:=Bo) [.agg #[iV 0,iV 3],.agg #[iV 1,iV 3]] [(0,3),(1,3)] rfl rfl rfl underlying25 Cc Er (by decide) rfl rfl rfl ⟨⟨_,_,rfl,rfl,rfl⟩,⟨_,_,rfl,rfl,rfl⟩,trivial⟩ V fun Z g2 ag al=>?_);refine zg 2 rfl (B7 1 ag al rfl fun aZ am ap av=>?_);obtain rfl:=oi K;exact AA func73 rfl rfl (Y am rfl ⟨(AZ Z),2,rfl,rfl,ap⟩ av)
end Pal
namespace Pal
open Go Go.Conc Go.Proofs
open Go.Proofs.Tryz
variable {J:Judge Tryz.prog}{E:LH}
def f103(fuel:Nat)(p0:Nat)(p1:Int):Option Bool:= (LA p0 p1).bind fun K=> (J8 K (1)).bind fun O=> some (decide ((((O):Nat):Int)=(((1):Nat):Int)))
theorem OR{p0:Nat}{p1:Int}{fuel:Nat}{r:Bool}(K:f103 fuel p0 p1=some r):AK J 103 [uV p0,iV p1] E [] (fun w E' B'=>w= .bool r∧B'= []):=by
 refine A3 func103 fun Q ap cs H O U=>?_;unfold f103 at K;obtain⟨V,Y,Z⟩:=bs K;refine zg 8 rfl (AD (v:= uV V) rfl (fun ρ h=>Ya (h _ _ rfl) (h _ _ rfl) Y) ?_);obtain⟨ag,al,am⟩:=bs Z;refine AD (v:= uV ag) rfl (fun ρ h=>Oh (h _ _ rfl) (h _ _ rfl) al) (zg 3 rfl ?_);obtain rfl:=oi am;exact AA func103 rfl rfl (U Ar rfl ⟨rfl,rfl⟩ O)
def f90(fuel:Nat)(p0:Nat)(p1:Int):Option Nat:= (Lq p1).bind fun K=> (Je p0 K).bind fun O=> some O
theorem Nq{p0:Nat}{p1:Int}{fuel:Nat}{r:Nat}(K:f90 fuel p0 p1=some r):AK J 90 [uV p0,iV p1] E [] (fun w E' B'=>w= uV r∧B'= []):=by
 refine A3 func90 fun Q ap cs H O U=>?_;unfold f90 at K;obtain⟨V,Y,Z⟩:=bs K;refine zg 8 rfl (AD (v:= uV V) rfl (fun ρ h=>WN (h _ _ rfl) (h _ _ rfl) Y) ?_);obtain⟨ag,al,am⟩:=bs Z;refine AD (v:= uV ag) rfl (fun ρ h=>Kv (h _ _ rfl) (h _ _ rfl) al) (zg 2 rfl ?_);obtain rfl:=oi am;exact AA func90 rfl rfl (U Ar rfl ⟨rfl,rfl⟩ O)
def MR(fuel:Nat)(p0:Nat)(K:(List Int)×Int):Option (Bi ((List Int)×Int) ((List Int))):= if K.2<16 then((f103 fuel p0 K.2).bind fun O=> Option.bind (if O=true then((room K.1 K.2).bind fun U=> some U) else(some K.1)) fun V=> (As (K.2+1)).bind fun Y=> some (.more (V,Y))) else(some (.done K.1))
def f89(fuel:Nat)(p0:Nat):Option ((List Int)):= Option.bind (iter (MR fuel p0) fuel ([],0)) fun K=> some K
theorem I6{p0:Nat}{fuel:Nat}{r:(List Int)}(a5:f89 fuel p0=some r):AK J 89 [uV p0] E [] (fun w E' B'=>∃(a6:An) (a7:Nat),w= sV a6 r a7∧B'= []∧Al rI E' a6 a7 r):=by
 refine A3 func89 fun Q bS cs H be bf=>?_;unfold f89 at a5;obtain⟨a8,bg,bh⟩:=bs a5;refine zg 13 rfl (Br (fun L s=>∃(aY:LH) (Y:An) (Z:Nat) (aZ:Seg),Jn E H aY [aZ] [(3,sV Y a8 Z)] L s (OL 3 rI aY Y Z aZ a8)) ?_ ?_)
 ·rintro _ _ ⟨aY,Y,Z,aZ,rfl,rfl,bi,bj,bl⟩;refine zg 5 rfl (B7 0 bl bj rfl fun bT bm bn bo=>?_);obtain rfl:=oi bh;exact AA func89 rfl rfl (bf (bi.Ab bm) rfl ⟨Y,Z,rfl,rfl,bn⟩ bo)
 ·intro bp;refine JL.block (CN bg (fun L s K=>∃(ag:LH) (O:An) (U:Nat) (V:Seg),Jn E H ag [V] [(0,uV p0),(3,sV O K.1 U),(5,iV K.2)] L s (OL 3 rI ag O U V K.1)) ⟨E,none,0,[],rfl,rfl,Ar,be,OL.nil⟩ ?_);rintro _ _ K ⟨ag,O,U,V,rfl,rfl,a9,ba,a0⟩ bq ⟨bU,a1⟩ br;have bb:=a1;unfold MR at bb;refine zg 5 rfl (AL bb (fun bu bv=>?_) (fun bu bw=>?_))
  ·obtain⟨bV,bx,bz⟩:=bs bv;refine zg 12 rfl (BC (OR bx) rfl rfl NV ba fun a2 a3 bc=>?_);obtain⟨a4,bA,bB⟩:=bs bz;refine JL.done (Br (fun L s=>∃(al:LH) (am:An) (ap:Nat) (av:Seg),Jn a2 H al [av] [(0,uV p0),(3,sV am a4 ap),(5,iV K.2)] L s (OL 3 rI al am ap av a4)) ?_ ?_)
   ·rintro _ _ ⟨al,am,ap,av,rfl,rfl,bC,bD,bE⟩;obtain⟨bF,bG,bH⟩:=bs bB;refine zg 2 rfl (Bc bG rfl rfl rfl ?_);refine zg 2 rfl ?_;obtain rfl:=oi bH;exact Az (br _ _ (a4,bF) ⟨al,am,ap,av,rfl,rfl,((a9.Ab a3).Ab bC),bD,bE⟩ a1) rfl
   ·intro bd;refine BH bA (fun bI bJ=>?_) (fun bI bK=>?_)
    ·obtain⟨bW,bL,bM⟩:=bs bJ;refine zg 3 rfl (JS.app (pp:=rI) (v:=iV K.2) (a:=O) (c:=U) 0 bL rfl rfl rfl rfl (fun _=>rfl) rfl (fun _=>rfl) rfl rfl rfl underlying28 underlying28 underlying28 AW (CR type3) CM rfl (by decide) (by decide) (by decide) (by decide) (a0.Ah a3) rfl bc rfl fun bY bN bO bP bQ bR=>?_);refine zg 2 rfl ?_;obtain rfl:=oi bM;exact Az (bd _ _ ⟨a2,bN,bO,bP,rfl,rfl,Ar,bR,bQ⟩) rfl
    ·refine JL.skip ?_;obtain rfl:=oi bK;exact Az (bd _ _ ⟨a2,O,U,V,rfl,rfl,Ar,bc,(a0.Ah a3)⟩) rfl
  ·refine JL.exit rfl ?_;obtain rfl:=oi bw;obtain rfl:=bq _ a1;exact Az (bp _ _ ⟨ag,O,U,V,rfl,rfl,a9,ba,a0⟩) rfl
def MC(fuel:Nat)(p0:List Int)(K:Nat×Int):Option (Bi (Nat×Int) Nat):= if K.2<(p0.length:Int) then((ix p0 K.2).bind fun O=> (f90 fuel K.1 O).bind fun U=> (As (K.2+1)).bind fun V=> some (.more (U,V))) else(some (.done K.1))
def f120(fuel:Nat)(p0:List Int):Option Nat:= Option.bind (iter (MC fuel p0) fuel (0,0)) fun K=> some K
theorem JU{O:An}{c2:Nat}{p0:List Int}(al:Al rI E O c2 p0){fuel:Nat}{r:Nat}(Y:f120 fuel p0=some r):AK J 120 [sV O p0 c2] E [] (fun w E' B'=>w= uV r∧B'= []):=by
 refine A3 func120 fun Q bj cs H am ap=>?_;unfold f120 at Y;refine zg 12 rfl (Bg underlying28 rfl rfl rfl ?_);obtain⟨av,aY,aZ⟩:=bs Y;refine zg 2 rfl (C4 [] [(3,uV av)] (fun bl a0 a1=>?_) (fun a2=>?_))
 ·refine zg 5 rfl ?_;obtain rfl:=oi aZ;exact AA func120 rfl rfl (ap a0 rfl ⟨rfl,rfl⟩ a1)
 ·refine JL.block (Cx aY (fun K=> []) (fun K=> [(3,uV K.1),(6,sV O p0 c2),(7,iV (p0.length:Int)),(8,iV K.2)]) Ar am ?_);rintro K bm U Z a3 ⟨bn,V⟩ a4;have ag:=V;unfold MC at ag;refine zg 5 rfl (AL ag (fun a5 a6=>?_) (fun a5 a7=>?_))
  ·obtain⟨bo,a8,a9⟩:=bs a6;refine zg 5 rfl (Ce (al.Ah U) a8 underlying28 AW ?_);rintro bp bq _ rfl ba;refine BY 0 ba Bv rfl rfl rfl ?_;obtain⟨bb,bc,bd⟩:=bs a9;refine zg 5 rfl (BC (Nq bc) rfl rfl L3 Z fun br be bf=>?_);obtain⟨bg,bh,bi⟩:=bs bd;refine zg 4 rfl (Bc bh rfl rfl rfl ?_);refine zg 2 rfl ?_;obtain rfl:=oi bi;exact a4 (bb,bg) (U.Ab be) bf rfl V
  ·refine JL.exit rfl ?_;obtain rfl:=oi a7;obtain rfl:=a3 _ V;exact a2 U Z rfl
def Jx(fuel:Nat)(p0:A2)(p1:Int)(p2:List Int)(p3:Bool)(K:Int):Option (Bi Int (((Option (Int×Int)))⊕(Unit))):= if K<(p2.length:Int) then((ix p2 K).bind fun O=> (As ((p0.1.length:Int) - 1)).bind fun U=> (f101 fuel O 0 U).bind fun V=> if V=true then(some (.done (Sum.inl (some (3,p1))))) else(Option.bind (if O=p1 then(some (!p3)) else(some false)) fun Y=> if Y=true then(some (.done (Sum.inl (some (8,p1))))) else(Option.bind (if 0<K then((As (K - 1)).bind fun Z=> (ix p2 Z).bind fun ag=> some (decide (O≤ag))) else(some false)) fun al=> if al=true then(some (.done (Sum.inl (some (5,p1))))) else((As (K+1)).bind fun am=> some (.more am))))) else(some (.done (Sum.inr ())))
def f136(fuel:Nat)(p0:A2)(p1:Int)(p2:List Int)(p3:Bool):Option ((Option (Int×Int))):= Option.bind (iter (Jx fuel p0 p1 p2 p3) fuel 0) fun K=> Sum.elim (fun r=>some r) (fun O=> some none) K
theorem SJ{a1:An}{c2:Nat}{a2:An}{a3:Nat}{K:An}{O:Nat}{p0:A2}{p1:Int}{p2:List Int}{p3:Bool}(ce:Al (rL rI) E a1 c2 p0.1)(cf:Al (rL rI) E a2 a3 p0.2)(a4:Al rI E K O p2){fuel:Nat}{r:(Option (Int×Int))}(a5:f136 fuel p0 p1 p2 p3=some r):AK J 136 [.agg #[sV a1 p0.1 c2,sV a2 p0.2 a3],iV p1,sV K p2 O,.bool p3] E [] (fun w E' B'=>∃(a6:Value),w=a6∧B'= []∧H2 183 a6 r):=by
 refine A3 func136 fun Q cg cs H bg al=>?_;unfold f136 at a5;refine zg 2 rfl (B4 bg fun aY bh V bi bj=>?_);refine zg 6 rfl (Bg underlying28 rfl rfl rfl ?_);obtain⟨a7,bl,am⟩:=bs a5;refine zg 2 rfl (Br (fun L s=>∃(a8:Unit) (a9:LH),a7=Sum.inr a8∧Jm bh H a9 [] [] L s) ?_ ?_)
 ·rintro _ _ ⟨a8,a9,rfl,rfl,rfl,bm,bn⟩;have bo:=elim_inr am;refine zg 4 rfl ?_;obtain rfl:=oi bo;exact AA func136 rfl rfl (al (V.Ab bm) rfl ⟨.nilIface,rfl,rfl,rfl⟩ bn)
 ·intro bp;refine JL.block (Cx bl (fun Y=> []) (fun Y=> [(1,iV p1),(2,sV K p2 O),(3,.bool p3),(4,pV aY 0),(11,sV K p2 O),(12,iV (p2.length:Int)),(13,iV Y)]) Ar bj ?_);rintro Y bq U ba ap ⟨ci,Z⟩ br;have bb:=Z;unfold Jx at bb;refine zg 5 rfl (AL bb (fun bu bv=>?_) (fun bu bw=>?_))
  ·obtain⟨bx,bz,bA⟩:=bs bv;refine zg 6 rfl (Ce (a4.Ah (V.Ab U)) bz underlying28 AW ?_);rintro ck cm _ rfl bB;refine BY 0 bB Bv rfl rfl rfl (zg 7 rfl ?_);refine JL.fl 0 (bi.Ah U) underlying24 BQ Cr ?_;refine Bg underlying22 rfl rfl rfl ?_;obtain⟨cn,bC,bD⟩:=bs bA;refine Cd bC rfl rfl rfl ?_;obtain⟨co,bE,bF⟩:=bs bD;refine BC (I2 bE) rfl rfl II ba fun cp ag aZ=>zg 2 rfl (BH bF (fun bG bH=>?_) (fun bG bI=>?_))
   ·refine zg 3 rfl (AD (v:= .agg #[iV 3,iV p1]) rfl (fun ρ h=>Dg [(0,1),(1,1)] h FF underlying183 ⟨rfl,Bu type39,rfl,Bu type3,trivial⟩ rfl rfl) ?_);refine AD (v:= .iface 183 (.agg #[iV 3,iV p1])) rfl (fun ρ h=>EV underlying183 (fun _ h=>by cases h) (h _ _ rfl)) (zg 2 rfl ?_);obtain rfl:=oi bH;obtain rfl:=ap _ Z;have bJ:=elim_inl am;obtain rfl:=oi bJ;exact AA func136 rfl rfl (al ((V.Ab U).Ab ag) rfl ⟨.iface 183 (.agg #[iV 3,iV p1]),rfl,rfl,rfl⟩ aZ)
   ·obtain⟨bK,bL,bM⟩:=bs bI;refine zg 6 rfl (Dr 7 1 [] [(1,iV p1),(2,sV K p2 O),(3,.bool p3),(4,pV aY 0),(9,iV Y),(10,iV bx),(11,sV K p2 O),(12,iV (p2.length:Int)),(13,iV Y),(35,.bool bK)] (fun cq av a0=>?_) (fun bc=>?_))
    ·refine zg 2 rfl (BH bM (fun bN bO=>?_) (fun bN bP=>?_))
     ·refine zg 3 rfl (AD (v:= .agg #[iV 8,iV p1]) rfl (fun ρ h=>Dg [(0,1),(1,1)] h FF underlying183 ⟨rfl,Bu type39,rfl,Bu type3,trivial⟩ rfl rfl) ?_);refine AD (v:= .iface 183 (.agg #[iV 8,iV p1])) rfl (fun ρ h=>EV underlying183 (fun _ h=>by cases h) (h _ _ rfl)) (zg 2 rfl ?_);obtain rfl:=oi bO;obtain rfl:=ap _ Z;have bQ:=elim_inl am;obtain rfl:=oi bQ;exact AA func136 rfl rfl (al (((V.Ab U).Ab ag).Ab av) rfl ⟨.iface 183 (.agg #[iV 8,iV p1]),rfl,rfl,rfl⟩ a0)
     ·obtain⟨bR,bS,bT⟩:=bs bP;refine zg 5 rfl (Dr 11 1 [] [(1,iV p1),(2,sV K p2 O),(3,.bool p3),(4,pV aY 0),(11,sV K p2 O),(12,iV (p2.length:Int)),(13,iV Y),(50,.bool bR)] (fun cr bd be=>?_) (fun bf=>?_))
      ·refine zg 2 rfl (BH bT (fun bU bV=>?_) (fun bU bW=>?_))
       ·refine zg 3 rfl (AD (v:= .agg #[iV 5,iV p1]) rfl (fun ρ h=>Dg [(0,1),(1,1)] h FF underlying183 ⟨rfl,Bu type39,rfl,Bu type3,trivial⟩ rfl rfl) ?_);refine AD (v:= .iface 183 (.agg #[iV 5,iV p1])) rfl (fun ρ h=>EV underlying183 (fun _ h=>by cases h) (h _ _ rfl)) (zg 2 rfl ?_);obtain rfl:=oi bV;obtain rfl:=ap _ Z;have bY:=elim_inl am;obtain rfl:=oi bY;exact AA func136 rfl rfl (al ((((V.Ab U).Ab ag).Ab av).Ab bd) rfl ⟨.iface 183 (.agg #[iV 5,iV p1]),rfl,rfl,rfl⟩ be)
       ·obtain⟨bZ,b0,b1⟩:=bs bW;refine zg 4 rfl (Bc b0 rfl rfl rfl ?_);refine zg 2 rfl ?_;obtain rfl:=oi b1;exact br bZ (((U.Ab ag).Ab av).Ab bd) be rfl Z
      ·refine Ee 42 bS (fun b2 b3=>?_) (fun b2 b4=>?_)
       ·obtain⟨ct,b5,b6⟩:=bs b3;refine zg 3 rfl (Cd b5 rfl rfl rfl ?_);obtain⟨cu,b7,b8⟩:=bs b6;refine Ce (a4.Ah (((V.Ab U).Ab ag).Ab av)) b7 underlying28 AW ?_;rintro cv cw _ rfl b9;refine BY 0 b9 Bv rfl rfl rfl (zg 2 rfl ?_);obtain rfl:=oi b8;exact bf Ar a0 rfl
       ·refine zg 8 rfl ?_;obtain rfl:=oi b4;exact bf Ar a0 rfl
    ·refine Ee 32 bL (fun ca cb=>?_) (fun ca cc=>?_)
     ·refine zg 1 rfl (AD (v:= .bool (!p3)) rfl (fun ρ h=>Yl.not (h _ _ rfl)) ?_);refine zg 1 rfl ?_;obtain rfl:=oi cb;exact bc Ar aZ rfl
     ·refine zg 3 rfl ?_;obtain rfl:=oi cc;exact bc Ar aZ rfl
  ·refine JL.exit rfl ?_;obtain rfl:=oi bw;have cd:a7=(Sum.inr ()):=(ap _ Z).symm;exact Az (bp _ _ ⟨(),bq,cd,rfl,rfl,U,ba⟩) rfl
def Ju(fuel:Nat)(p0:A2)(K:Int):Option (Bi Int (((Option (Int×Int)))⊕(Unit))):= if K<(p0.1.length:Int) then((ix p0.1 K).bind fun O=> if(O.length:Int)=0 then(some (.done (Sum.inl (some (7,K))))) else(if 3<(O.length:Int) then(some (.done (Sum.inl (some (6,K))))) else((f136 fuel p0 K O true).bind fun U=> if U.isSome=true then(some (.done (Sum.inl U))) else((ix p0.2 K).bind fun Y=> if 3<(Y.length:Int) then(some (.done (Sum.inl (some (6,K))))) else((ix p0.2 K).bind fun Z=> (f136 fuel p0 K Z false).bind fun V=> if V.isSome=true then(some (.done (Sum.inl V))) else((As (K+1)).bind fun ag=> some (.more ag))))))) else(some (.done (Sum.inr ())))
def f113(fuel:Nat)(p0:A2):Option ((Option (Int×Int))):= if(p0.1.length:Int)=0 then(some (some (7,0))) else(if 8<(p0.1.length:Int) then(some (some (6,0))) else(if(p0.2.length:Int)≠(p0.1.length:Int) then(some (some (9,0))) else(Option.bind (iter (Ju fuel p0) fuel 0) fun K=> Sum.elim (fun r=>some r) (fun O=> some none) K)))
theorem SM{aZ:An}{c2:Nat}{a2:An}{a3:Nat}{p0:A2}(a0:Al (rL rI) E aZ c2 p0.1)(ap:Al (rL rI) E a2 a3 p0.2){fuel:Nat}{r:(Option (Int×Int))}(a4:f113 fuel p0=some r):AK J 113 [.agg #[sV aZ p0.1 c2,sV a2 p0.2 a3]] E [] (fun w E' B'=>∃(a5:Value),w=a5∧B'= []∧H2 183 a5 r):=by
 refine A3 func113 fun Q cp cs H be Y=>?_;unfold f113 at a4;refine zg 2 rfl (B4 be fun bf bg O ag av=>?_);refine zg 5 rfl (JL.fl 0 ag underlying24 BQ Cr ?_);refine Bg underlying22 rfl rfl rfl (zg 9 rfl ?_);refine AL a4 (fun bh bi=>?_) (fun bh bj=>?_)
 ·refine zg 2 rfl (AD (v:= .agg #[iV 7,iV 0]) rfl (fun ρ h=>Dg [(0,1),(1,1)] h FF underlying183 ⟨rfl,Bu type39,rfl,Bu type3,trivial⟩ rfl rfl) ?_);refine AD (v:= .iface 183 (.agg #[iV 7,iV 0])) rfl (fun ρ h=>EV underlying183 (fun _ h=>by cases h) (h _ _ rfl)) (zg 2 rfl ?_);obtain rfl:=oi bi;exact AA func113 rfl rfl (Y O rfl ⟨.iface 183 (.agg #[iV 7,iV 0]),rfl,rfl,rfl⟩ av)
 ·refine zg 6 rfl (AL bj (fun bl bm=>?_) (fun bl bn=>?_))
  ·refine zg 2 rfl (AD (v:= .agg #[iV 6,iV 0]) rfl (fun ρ h=>Dg [(0,1),(1,1)] h FF underlying183 ⟨rfl,Bu type39,rfl,Bu type3,trivial⟩ rfl rfl) ?_);refine AD (v:= .iface 183 (.agg #[iV 6,iV 0])) rfl (fun ρ h=>EV underlying183 (fun _ h=>by cases h) (h _ _ rfl)) (zg 2 rfl ?_);obtain rfl:=oi bm;exact AA func113 rfl rfl (Y O rfl ⟨.iface 183 (.agg #[iV 6,iV 0]),rfl,rfl,rfl⟩ av)
  ·refine zg 2 rfl (JL.fl 1 ag underlying24 BQ Cr ?_);refine Bg underlying22 rfl rfl rfl (zg 4 rfl ?_);refine AL bn (fun bo bp=>?_) (fun bo bq=>?_)
   ·refine zg 2 rfl (AD (v:= .agg #[iV 9,iV 0]) rfl (fun ρ h=>Dg [(0,1),(1,1)] h FF underlying183 ⟨rfl,Bu type39,rfl,Bu type3,trivial⟩ rfl rfl) ?_);refine AD (v:= .iface 183 (.agg #[iV 9,iV 0])) rfl (fun ρ h=>EV underlying183 (fun _ h=>by cases h) (h _ _ rfl)) (zg 2 rfl ?_);obtain rfl:=oi bp;exact AA func113 rfl rfl (Y O rfl ⟨.iface 183 (.agg #[iV 9,iV 0]),rfl,rfl,rfl⟩ av)
   ·refine zg 5 rfl (JL.fl 0 ag underlying24 BQ Cr ?_);refine Bg underlying22 rfl rfl rfl ?_;obtain⟨a6,br,al⟩:=bs bq;refine zg 2 rfl (Br (fun L s=>∃(a7:Unit) (a8:LH),a6=Sum.inr a7∧Jm bg H a8 [] [] L s) ?_ ?_)
    ·rintro _ _ ⟨a7,a8,rfl,rfl,rfl,bu,bv⟩;have bw:=elim_inr al;refine zg 4 rfl ?_;obtain rfl:=oi bw;exact AA func113 rfl rfl (Y (O.Ab bu) rfl ⟨.nilIface,rfl,rfl,rfl⟩ bv)
    ·intro bx;refine JL.block (Cx br (fun U=> []) (fun U=> [(1,pV bf 0),(30,sV aZ p0.1 c2),(31,iV (p0.1.length:Int)),(32,iV U)]) Ar av ?_);rintro U bz K aY am ⟨cq,Z⟩ bA;have a9:=Z;unfold Ju at a9;refine zg 5 rfl (AL a9 (fun bB bC=>?_) (fun bB bD=>?_))
     ·obtain⟨cr,bE,bF⟩:=bs bC;refine zg 6 rfl (Ce (a0.Ah (O.Ab K)) bE underlying22 BX ?_);rintro ct cu _ ⟨cv,cw,rfl,bG⟩ bH;refine BY 0 bH CQ rfl rfl rfl (zg 7 rfl ?_);refine Bg underlying28 rfl rfl rfl (zg 2 rfl ?_);refine AL bF (fun bI bJ=>?_) (fun bI bK=>?_)
      ·refine zg 3 rfl (AD (v:= .agg #[iV 7,iV U]) rfl (fun ρ h=>Dg [(0,1),(1,1)] h FF underlying183 ⟨rfl,Bu type39,rfl,Bu type3,trivial⟩ rfl rfl) ?_);refine AD (v:= .iface 183 (.agg #[iV 7,iV U])) rfl (fun ρ h=>EV underlying183 (fun _ h=>by cases h) (h _ _ rfl)) (zg 2 rfl ?_);obtain rfl:=oi bJ;obtain rfl:=am _ Z;have bL:=elim_inl al;obtain rfl:=oi bL;exact AA func113 rfl rfl (Y (O.Ab K) rfl ⟨.iface 183 (.agg #[iV 7,iV U]),rfl,rfl,rfl⟩ aY)
      ·refine zg 5 rfl (Bg underlying28 rfl rfl rfl ?_);refine zg 2 rfl (AL bK (fun bM bN=>?_) (fun bM bO=>?_))
       ·refine zg 3 rfl (AD (v:= .agg #[iV 6,iV U]) rfl (fun ρ h=>Dg [(0,1),(1,1)] h FF underlying183 ⟨rfl,Bu type39,rfl,Bu type3,trivial⟩ rfl rfl) ?_);refine AD (v:= .iface 183 (.agg #[iV 6,iV U])) rfl (fun ρ h=>EV underlying183 (fun _ h=>by cases h) (h _ _ rfl)) (zg 2 rfl ?_);obtain rfl:=oi bN;obtain rfl:=am _ Z;have bP:=elim_inl al;obtain rfl:=oi bP;exact AA func113 rfl rfl (Y (O.Ab K) rfl ⟨.iface 183 (.agg #[iV 6,iV U]),rfl,rfl,rfl⟩ aY)
       ·refine zg 4 rfl (BO (ag.Ah K) BW BD rfl rfl ?_);obtain⟨bQ,bR,bS⟩:=bs bO;refine zg 2 rfl (BP (SJ (a0.Ah (O.Ab K)) (ap.Ah (O.Ab K)) bG bR) rfl rfl (AS func136 rfl) aY ?_);rintro bT cy _ V ⟨_,rfl,rfl,ba⟩ a1;refine zg 5 rfl (AD (v:= .bool bQ.isSome) rfl (fun ρ h=>Ov underlying149 ba (h _ _ rfl) (h _ _ rfl)) ?_);refine JL.done (BH bS (fun bU bV=>?_) (fun bU bW=>?_))
        ·refine zg 5 rfl ?_;obtain rfl:=oi bV;obtain rfl:=am _ Z;have bY:=elim_inl al;obtain rfl:=oi bY;exact AA func113 rfl rfl (Y ((O.Ab K).Ab V) rfl ⟨bT,rfl,rfl,ba⟩ a1)
        ·refine zg 4 rfl (JL.fl 1 (ag.Ah (K.Ab V)) underlying24 BQ Cr ?_);obtain⟨cz,bZ,b0⟩:=bs bW;refine zg 1 rfl (Ce (ap.Ah ((O.Ab K).Ab V)) bZ underlying22 BX ?_);rintro cA cB _ ⟨cC,cD,rfl,cE⟩ b1;refine BY 0 b1 CQ rfl rfl rfl (Bg underlying28 rfl rfl rfl ?_);refine zg 2 rfl (AL b0 (fun b2 b3=>?_) (fun b2 b4=>?_))
         ·refine zg 3 rfl (AD (v:= .agg #[iV 6,iV U]) rfl (fun ρ h=>Dg [(0,1),(1,1)] h FF underlying183 ⟨rfl,Bu type39,rfl,Bu type3,trivial⟩ rfl rfl) ?_);refine AD (v:= .iface 183 (.agg #[iV 6,iV U])) rfl (fun ρ h=>EV underlying183 (fun _ h=>by cases h) (h _ _ rfl)) (zg 2 rfl ?_);obtain rfl:=oi b3;obtain rfl:=am _ Z;have b5:=elim_inl al;obtain rfl:=oi b5;exact AA func113 rfl rfl (Y ((O.Ab K).Ab V) rfl ⟨.iface 183 (.agg #[iV 6,iV U]),rfl,rfl,rfl⟩ a1)
         ·refine zg 2 rfl (C6 7 fun ht=>?_);refine Fa 0 ht (ag.Ah (K.Ab V)) BW BD rfl rfl rfl (Cj 1 ht rfl rfl ?_);refine B8 2 ht underlying24 BQ rfl rfl rfl rfl (Cv 3 ht 1 (ag.Ah (K.Ab V)) Cr rfl rfl rfl rfl ?_);refine Cj 4 ht rfl rfl ?_;obtain⟨cF,b6,b7⟩:=bs b4;refine Cy 5 (ap.Ah ((O.Ab K).Ab V)) b6 ht underlying22 BX ?_;rintro cG cH _ ⟨cI,cJ,rfl,b8⟩ b9;refine Cv 6 ht 0 b9 CQ rfl rfl rfl rfl (Ci [7,8] ?_);obtain⟨ca,cb,cc⟩:=bs b7;refine BP (SJ (a0.Ah ((O.Ab K).Ab V)) (ap.Ah ((O.Ab K).Ab V)) b8 cb) rfl rfl (AS func136 rfl) a1 ?_;rintro cd cK _ bb ⟨_,rfl,rfl,bc⟩ bd;refine zg 5 rfl (AD (v:= .bool ca.isSome) rfl (fun ρ h=>Ov underlying149 bc (h _ _ rfl) (h _ _ rfl)) ?_);refine JL.done (BH cc (fun ce cf=>?_) (fun ce cg=>?_))
          ·refine zg 5 rfl ?_;obtain rfl:=oi cf;obtain rfl:=am _ Z;have ci:=elim_inl al;obtain rfl:=oi ci;exact AA func113 rfl rfl (Y (((O.Ab K).Ab V).Ab bb) rfl ⟨cd,rfl,rfl,bc⟩ bd)
          ·obtain⟨ck,cm,cn⟩:=bs cg;refine zg 3 rfl (Bc cm rfl rfl rfl ?_);refine zg 2 rfl ?_;obtain rfl:=oi cn;exact bA ck ((K.Ab V).Ab bb) bd rfl Z
     ·refine JL.exit rfl ?_;obtain rfl:=oi bD;have co:a6=(Sum.inr ()):=(am _ Z).symm;exact Az (bx _ _ ⟨(),bz,co,rfl,rfl,K,aY⟩) rfl
def Jy(fuel:Nat)(p0:A2)(p1:AI)(K:Int):Option (Bi Int (((Option (Int×Int)))⊕(Unit))):= if K<(p1.length:Int) then((ix p1 K).bind fun O=> (f101 fuel O.1 0 6).bind fun U=> if U=true then(some (.done (Sum.inl (some (1,K))))) else(Option.bind (if 0<K then((As (K - 1)).bind fun V=> (ix p1 V).bind fun Y=> some (decide (O.1<Y.1))) else(some false)) fun Z=> if Z=true then(some (.done (Sum.inl (some (5,K))))) else((As ((p0.1.length:Int) - 1)).bind fun ag=> (f101 fuel O.2 0 ag).bind fun al=> if al=true then(some (.done (Sum.inl (some (3,K))))) else((As (K+1)).bind fun am=> some (.more am))))) else(some (.done (Sum.inr ())))
def f116(fuel:Nat)(p0:A2)(p1:AI):Option ((Option (Int×Int))):= if 4<(p1.length:Int) then(some (some (6,0))) else(Option.bind (iter (Jy fuel p0 p1) fuel 0) fun K=> Sum.elim (fun r=>some r) (fun O=> some none) K)
theorem YA{a1:An}{c2:Nat}{a2:An}{a3:Nat}{Y:An}{Z:Nat}{p0:A2}{p1:AI}(cg:Al (rL rI) E a1 c2 p0.1)(ci:Al (rL rI) E a2 a3 p0.2)(a4:Al Bo E Y Z p1){fuel:Nat}{r:(Option (Int×Int))}(a5:f116 fuel p0 p1=some r):AK J 116 [.agg #[sV a1 p0.1 c2,sV a2 p0.2 a3],sV Y p1 Z] E [] (fun w E' B'=>∃(a6:Value),w=a6∧B'= []∧H2 183 a6 r):=by
 refine A3 func116 fun Q ck cs H bi am=>?_;unfold f116 at a5;refine zg 2 rfl (B4 bi fun a7 bj V bl a8=>?_);refine zg 6 rfl (Bg underlying25 rfl rfl rfl ?_);refine zg 2 rfl (AL a5 (fun bm bn=>?_) (fun bm bo=>?_))
 ·refine zg 2 rfl (AD (v:= .agg #[iV 6,iV 0]) rfl (fun ρ h=>Dg [(0,1),(1,1)] h FF underlying183 ⟨rfl,Bu type39,rfl,Bu type3,trivial⟩ rfl rfl) ?_);refine AD (v:= .iface 183 (.agg #[iV 6,iV 0])) rfl (fun ρ h=>EV underlying183 (fun _ h=>by cases h) (h _ _ rfl)) (zg 2 rfl ?_);obtain rfl:=oi bn;exact AA func116 rfl rfl (am V rfl ⟨.iface 183 (.agg #[iV 6,iV 0]),rfl,rfl,rfl⟩ a8)
 ·refine zg 5 rfl (Bg underlying25 rfl rfl rfl ?_);obtain⟨a9,bp,ap⟩:=bs bo;refine zg 2 rfl (Br (fun L s=>∃(ba:Unit) (bb:LH),a9=Sum.inr ba∧Jm bj H bb [] [] L s) ?_ ?_)
  ·rintro _ _ ⟨ba,bb,rfl,rfl,rfl,bq,br⟩;have bu:=elim_inr ap;refine zg 4 rfl ?_;obtain rfl:=oi bu;exact AA func116 rfl rfl (am (V.Ab bq) rfl ⟨.nilIface,rfl,rfl,rfl⟩ br)
  ·intro bv;refine JL.block (Cx bp (fun K=> []) (fun K=> [(1,sV Y p1 Z),(2,pV a7 0),(12,sV Y p1 Z),(13,iV (p1.length:Int)),(14,iV K)]) Ar a8 ?_);rintro K bw O bc av ⟨cm,ag⟩ bx;have bd:=ag;unfold Jy at bd;refine zg 5 rfl (AL bd (fun bz bA=>?_) (fun bz bB=>?_))
   ·obtain⟨cn,bC,bD⟩:=bs bA;refine zg 6 rfl (Ce (a4.Ah (V.Ab O)) bC underlying25 Cc ?_);rintro co cp _ ⟨_,_,rfl,rfl,rfl⟩ bE;refine BO bE Gs Cc rfl rfl (CF bc Er fun bF bG=>?_);refine zg 1 rfl (BR 0 bG Cc fun bH=>?_);refine CV 0 bH rfl fun cq al aY bI=>zg 4 rfl (JL.fl 0 aY underlying27 AW Bv ?_);obtain⟨cr,bJ,bK⟩:=bs bD;refine BC (I2 bJ) rfl rfl II bI fun bL U aZ=>zg 2 rfl (BH bK (fun bM bN=>?_) (fun bM bO=>?_))
    ·refine zg 3 rfl (AD (v:= .agg #[iV 1,iV K]) rfl (fun ρ h=>Dg [(0,1),(1,1)] h FF underlying183 ⟨rfl,Bu type39,rfl,Bu type3,trivial⟩ rfl rfl) ?_);refine AD (v:= .iface 183 (.agg #[iV 1,iV K])) rfl (fun ρ h=>EV underlying183 (fun _ h=>by cases h) (h _ _ rfl)) (zg 2 rfl ?_);obtain rfl:=oi bN;obtain rfl:=av _ ag;have bP:=elim_inl ap;obtain rfl:=oi bP;exact AA func116 rfl rfl (am (((V.Ab O).Ab al).Ab U) rfl ⟨.iface 183 (.agg #[iV 1,iV K]),rfl,rfl,rfl⟩ aZ)
    ·refine JL.seq (C6 13 fun ht=>?_);refine A4 ht rfl [0,1,2] rfl ?_;obtain⟨bQ,be,bR⟩:=bs bO;refine EY 1 #[true,true,true,true,true,true,true,true,true,true,true,true,true,false] (fun L s=>L= [(1,sV Y p1 Z),(2,pV a7 0),(5,iV K),(6,pV bF 0),(12,sV Y p1 Z),(13,iV (p1.length:Int)),(14,iV K),(39,.bool bQ)]∧s=Ao bL H [[],[]]) ?_ ?_
     ·rintro _ _ ⟨rfl,rfl⟩;refine Ci [13] (zg 2 rfl ?_);refine BH bR (fun bS bT=>?_) (fun bS bU=>?_)
      ·refine zg 3 rfl (AD (v:= .agg #[iV 5,iV K]) rfl (fun ρ h=>Dg [(0,1),(1,1)] h FF underlying183 ⟨rfl,Bu type39,rfl,Bu type3,trivial⟩ rfl rfl) ?_);refine AD (v:= .iface 183 (.agg #[iV 5,iV K])) rfl (fun ρ h=>EV underlying183 (fun _ h=>by cases h) (h _ _ rfl)) (zg 2 rfl ?_);obtain rfl:=oi bT;obtain rfl:=av _ ag;have bV:=elim_inl ap;obtain rfl:=oi bV;exact AA func116 rfl rfl (am (((V.Ab O).Ab al).Ab U) rfl ⟨.iface 183 (.agg #[iV 5,iV K]),rfl,rfl,rfl⟩ aZ)
      ·refine zg 2 rfl (JL.fl 1 (aY.Ah U) underlying27 AW Bv ?_);refine JL.fl 0 (bl.Ah ((O.Ab al).Ab U)) underlying24 BQ Cr ?_;refine Bg underlying22 rfl rfl rfl ?_;obtain⟨ct,bW,bY⟩:=bs bU;refine Cd bW rfl rfl rfl ?_;obtain⟨cu,bZ,b0⟩:=bs bY;refine BC (I2 bZ) rfl rfl II aZ fun cv bf bg=>zg 2 rfl (BH b0 (fun b1 b2=>?_) (fun b1 b3=>?_))
       ·refine zg 3 rfl (AD (v:= .agg #[iV 3,iV K]) rfl (fun ρ h=>Dg [(0,1),(1,1)] h FF underlying183 ⟨rfl,Bu type39,rfl,Bu type3,trivial⟩ rfl rfl) ?_);refine AD (v:= .iface 183 (.agg #[iV 3,iV K])) rfl (fun ρ h=>EV underlying183 (fun _ h=>by cases h) (h _ _ rfl)) (zg 2 rfl ?_);obtain rfl:=oi b2;obtain rfl:=av _ ag;have b4:=elim_inl ap;obtain rfl:=oi b4;exact AA func116 rfl rfl (am ((((V.Ab O).Ab al).Ab U).Ab bf) rfl ⟨.iface 183 (.agg #[iV 3,iV K]),rfl,rfl,rfl⟩ bg)
       ·obtain⟨b5,b6,b7⟩:=bs b3;refine zg 4 rfl (Bc b6 rfl rfl rfl ?_);refine zg 2 rfl ?_;obtain rfl:=oi b7;exact bx b5 (((O.Ab al).Ab U).Ab bf) bg rfl ag
     ·intro bh;refine FG (q:=0<K) (i:=29) rfl (fun a0=>?_) (fun a0=>?_)
      ·have b8:=ip be a0;refine B8 3 ht underlying27 AW rfl rfl rfl rfl ?_;refine Cv 4 ht 0 (aY.Ah U) Bv rfl rfl rfl rfl ?_;refine A4 ht rfl [5,6] rfl ?_;obtain⟨cw,b9,ca⟩:=bs b8;refine BB 7 ht rfl rfl (fun ρ h s' hs=>Db (h _ _ rfl) (h _ _ rfl) b9) ?_;obtain⟨cy,cb,cc⟩:=bs ca;refine Cy 8 (a4.Ah (((V.Ab O).Ab al).Ab U)) cb ht underlying25 Cc ?_;rintro cz cA _ ⟨_,_,rfl,rfl,rfl⟩ cd;refine B8 9 ht underlying27 AW rfl rfl rfl rfl ?_;refine Cv 10 ht 0 cd Bv rfl rfl rfl rfl ?_;refine A4 ht rfl [11,12] rfl ?_;obtain rfl:=oi cc;refine CZ ?_ (bh _ _ ⟨rfl,rfl⟩);exact⟨rfl,rfl,rfl,rfl,rfl,rfl,rfl,rfl,trivial⟩
      ·have ce:=im be a0;refine A4 ht rfl [3,4,5,6,7,8,9,10,11,12] rfl ?_;obtain rfl:=oi ce;refine CZ ?_ (bh _ _ ⟨rfl,rfl⟩);exact⟨rfl,rfl,rfl,rfl,rfl,rfl,rfl,rfl,trivial⟩
   ·refine JL.exit rfl ?_;obtain rfl:=oi bB;have cf:a9=(Sum.inr ()):=(av _ ag).symm;exact Az (bv _ _ ⟨(),bw,cf,rfl,rfl,O,bc⟩) rfl
end Pal
namespace Pal
open Go Go.Conc Go.Proofs Go.Extern
abbrev Eo(t:Nat):Value:= .pointer (some ⟨1,t,none⟩)
abbrev HZ(t:Nat):Value:= .iface 240 (.agg #[Eo t])
section
variable {s:St}{X:Halt→St→Prop}
theorem T1{Q:Value→St→Prop}(t:Addr):lp Tryz.prog (ReflectliteValue.unpack (.iface 185 (.pointer (some t)))) s Q X=(s.q=false∧∀r,s.E r=none→s.H r=none→Q (.agg #[Eo 185,.pointer (some ⟨r,0,none⟩),.int .u64 150]) (s.upd r (.cells #[.pointer (some t)] 185 (0,0)))):=by kernel_rfl
theorem T2{Q:Value→St→Prop}(c a:Int):lp Tryz.prog (ReflectliteValue.unpack (.iface 183 (.agg #[iV c,iV a]))) s Q X=(s.q=false∧∀r,s.E r=none→s.H r=none→Q (.agg #[Eo 183,.pointer (some ⟨r,0,none⟩),.int .u64 153]) (s.upd r (.cells #[iV c,iV a] 183 (0,0)))):=by kernel_rfl
theorem VX{Q:Value→St→Prop}(a:Addr):lp Tryz.prog (ReflectliteValue.methodAny (ReflectliteValue.valueError "reflectlite.Value.Type" 0) (fun t _ _ _=>ReflectliteType.toType t) #[.agg #[Eo 185,.pointer (some a),.int .u64 150]]) s Q X=Q (HZ 185) s:=by kernel_rfl
theorem Ub{Q:Value→St→Prop}(v:Value):lp Tryz.prog (ReflectliteType.typeOf #[.iface 183 v]) s Q X=Q (HZ 183) s:=by kernel_rfl
theorem So{Q:FuncId×Value→St→Prop}(h:Value):lp Tryz.prog (Go.method (Tryz.prog.types.size+Made.depth) 240 (.agg #[h]) "Kind") s Q X=Q (216,h) s:=by kernel_rfl
theorem Yu{Q:FuncId×Value→St→Prop}(h:Value):lp Tryz.prog (Go.method (Tryz.prog.types.size+Made.depth) 240 (.agg #[h]) "Elem") s Q X=Q (227,.agg #[h]) s:=by kernel_rfl
theorem Z3{Q:FuncId×Value→St→Prop}(h:Value):lp Tryz.prog (Go.method (Tryz.prog.types.size+Made.depth) 240 (.agg #[h]) "Implements") s Q X=Q (228,.agg #[h]) s:=by kernel_rfl
theorem aj{Q:FuncId×Value→St→Prop}(h:Value):lp Tryz.prog (Go.method (Tryz.prog.types.size+Made.depth) 240 (.agg #[h]) "AssignableTo") s Q X=Q (225,.agg #[h]) s:=by kernel_rfl
theorem V9{Q:Value→St→Prop}:lp Tryz.prog ((ReflectliteType.abiMethod fun t=>(fun a:Nat=>Value.int IntKind.u8 (a:Int))<$>Rtype.kind t) #[Eo 185]) s Q X=Q (.int .u8 22) s:=by kernel_rfl
theorem VD{Q:Value→St→Prop}:lp Tryz.prog ((ReflectliteType.abiMethod fun t=>(fun a:Nat=>Value.int IntKind.u8 (a:Int))<$>Rtype.kind t) #[Eo 183]) s Q X=Q (.int .u8 25) s:=by kernel_rfl
theorem Vr{Q:Value→St→Prop}:lp Tryz.prog (ReflectliteType.method ReflectliteType.elem #[.agg #[Eo 185]]) s Q X=Q (HZ 183) s:=by kernel_rfl
theorem VZ{Q:Value→St→Prop}:lp Tryz.prog (ReflectliteType.relation "Implements" ReflectliteType.implements_ #[.agg #[Eo 183],HZ 149]) s Q X=Q (.bool true) s:=by kernel_rfl
theorem XW{Q:Value→St→Prop}:lp Tryz.prog (ReflectliteType.relation "AssignableTo" ReflectliteType.assignableTo #[.agg #[Eo 183],HZ 183]) s Q X=Q (.bool true) s:=by kernel_rfl
theorem Qk{Q:Option (TypeId×Addr×Nat)→St→Prop}(a:Addr):lp Tryz.prog (ReflectliteValue.parts (.agg #[Eo 185,.pointer (some a),.int .u64 150])) s Q X=Q (some (185,a,150)) s:=by kernel_rfl
theorem UP{Q:Option (TypeId×Addr×Nat)→St→Prop}(a:Addr):lp Tryz.prog (ReflectliteValue.parts (.agg #[Eo 183,.pointer (some a),.int .u64 153])) s Q X=Q (some (183,a,153)) s:=by kernel_rfl
theorem Uu{Q:Option (TypeId×Addr×Nat)→St→Prop}(a:Addr):lp Tryz.prog (ReflectliteValue.parts (.agg #[Eo 183,.pointer (some a),.int .u64 409])) s Q X=Q (some (183,a,409)) s:=by kernel_rfl
theorem XY{Q:Option TypeId→St→Prop}:lp Tryz.prog (Rtype.elem? 185) s Q X=Q (some 183) s:=by kernel_rfl
theorem ZK{Q:Value→St→Prop}(p:Addr):lp Tryz.prog (ReflectliteValue.mk 183 p ReflectliteValue.flagAddr) s Q X=Q (.agg #[Eo 183,.pointer (some p),.int .u64 409]) s:=by kernel_rfl
theorem XO{Q:Bool→St→Prop}:lp Tryz.prog (Rtype.directlyAssignable 183 183) s Q X=Q true s:=by kernel_rfl
theorem QU{Q:Value→St→Prop}(a:Addr):lp Tryz.prog (loadVar 185 a) s Q X=(Mode.plain= .plain∧∃v,s.cell? a=some v∧Q v s):=by kernel_rfl
theorem Vw{Q:Value→St→Prop}(a:Addr):lp Tryz.prog (loadVar 183 a) s Q X=(Mode.plain= .plain∧∃v,s.cell? (a.add 0)=some v∧Mode.plain= .plain∧∃w,s.cell? (a.add 1)=some w∧Q (.agg #[v,w]) s):=by kernel_rfl
end
theorem Sv:CC Tryz.prog 164 (fun args=>ReflectliteValue.unpack (args.getD 0 (.tuple #[]))):=⟨⟨_,Tryz.func164,by kernel_rfl,by kernel_rfl,by kernel_rfl,by kernel_rfl⟩⟩
theorem Zz:CC Tryz.prog 165 (ReflectliteValue.methodAny (ReflectliteValue.valueError "reflectlite.Value.Type" 0) (fun t _ _ _=>ReflectliteType.toType t)):=⟨⟨_,Tryz.func165,by kernel_rfl,by kernel_rfl,by kernel_rfl,by kernel_rfl⟩⟩
theorem Yi:CC Tryz.prog 166 (ReflectliteValue.method (ReflectliteValue.valueError "reflectlite.Value.IsNil" 0) ReflectliteValue.isNil):=⟨⟨_,Tryz.func166,by kernel_rfl,by kernel_rfl,by kernel_rfl,by kernel_rfl⟩⟩
theorem Y1:CC Tryz.prog 188 ReflectliteType.typeOf:=⟨⟨_,Tryz.func188,by kernel_rfl,by kernel_rfl,by kernel_rfl,by kernel_rfl⟩⟩
theorem YK:CC Tryz.prog 189 (ReflectliteValue.method (ReflectliteValue.valueError "reflectlite.Value.Elem" 0) ReflectliteValue.elem):=⟨⟨_,Tryz.func189,by kernel_rfl,by kernel_rfl,by kernel_rfl,by kernel_rfl⟩⟩
theorem Y0:CC Tryz.prog 190 ReflectliteValue.set:=⟨⟨_,Tryz.func190,by kernel_rfl,by kernel_rfl,by kernel_rfl,by kernel_rfl⟩⟩
theorem SV:CC Tryz.prog 216 (ReflectliteType.abiMethod fun t=>(fun a:Nat=>Value.int IntKind.u8 (a:Int))<$>Rtype.kind t):=⟨⟨_,Tryz.func216,by kernel_rfl,by kernel_rfl,by kernel_rfl,by kernel_rfl⟩⟩
theorem Z6:CC Tryz.prog 225 (ReflectliteType.relation "AssignableTo" ReflectliteType.assignableTo):=⟨⟨_,Tryz.func225,by kernel_rfl,by kernel_rfl,by kernel_rfl,by kernel_rfl⟩⟩
theorem ZX:CC Tryz.prog 227 (ReflectliteType.method ReflectliteType.elem):=⟨⟨_,Tryz.func227,by kernel_rfl,by kernel_rfl,by kernel_rfl,by kernel_rfl⟩⟩
theorem YQ:CC Tryz.prog 228 (ReflectliteType.relation "Implements" ReflectliteType.implements_):=⟨⟨_,Tryz.func228,by kernel_rfl,by kernel_rfl,by kernel_rfl,by kernel_rfl⟩⟩
end Pal
namespace Pal
open Go Go.Conc
section
variable {P:Program}{J:Judge P}{Q:Goroutine→St→Prop}{b:Frame}{n:Nat}{ds:List Deferred}{ops:Array Oper}{k:List Item}{cs:List Frame}{m fuel:Nat}{D:Nat→Bool}{listed:Array Bool}{L:Env}{s:St}{E E' H:LH}{S:List Seg}
variable {d:Option Tmp}{x y:Operand}{t u ty e:TypeId}{p:String}{af:Array Edge}{g:Option (Nat×Bool)}{v:Value}{i:Nat}{kd:IntKind}
end
end Pal
namespace Pal
open Go Go.Conc
section
variable {P:Program}{J:Judge P}{Q:Goroutine→St→Prop}{b:Frame}{n:Nat}{L:Env}{ds:List Deferred}{k:List Item}{cs:List Frame}{s:St}{ops:Array Oper}{i:Nat}{rest:List Nat}{v:Value}
variable {d:Option Tmp}{x:Operand}{ty:TypeId}{p:String}{af:Array Edge}{g:Option (Nat×Bool)}
theorem Qg{f:FuncId}{e:Array Value→Sem Value}{args:Array Value}{Q:Next→St→Prop}{X:Halt→St→Prop}(he:CC P f e)(h:lp P (e args) s (fun v s'=>Q (.value v) s') X):lp P (callFunc f args) s Q X:=by
 obtain⟨fn,K,O,U,V,Y⟩:=he.h;unfold callFunc;simp only [bind,Sem.bind,program,lp,K,O,U,Bool.false_eq_true,if_false,if_true,mark,V,Y];refine⟨.inr ⟨f,rfl⟩,?_⟩;exact AH _ _ (Dq _ h (fun v s' Z=>Z) (fun _ _ ag=>ag))
theorem I5{f:FuncId}{e:Array Value→Sem Value}{args:Array Operand}{ats:Array TypeId}{vs:List Value}(he:CC P f e)(O:ops[i]? =some ⟨d,.call ⟨.value (.func f),args,ats⟩,ty,p,af,g⟩)(hw:Bd L ops ⟨d,.call ⟨.value (.func f),args,ats⟩,ty,p,af,g⟩=some true)(U:CK b n ⟨d,.call ⟨.value (.func f),args,ats⟩,ty,p,af,g⟩=true)(V:evs L args.toList=some vs)
  (h:lp P (e vs.toArray) s (fun v s'=>JL J Q b n (AF L d v) ds (.inRegion ops rest::k) cs s') (fun _ _=>False)):JL J Q b n L ds (.inRegion ops (i::rest)::k) cs s:=by
 refine JL.op O hw U fun ρ K=>?_;have Y:args.map ρ=vs.toArray:=by
  rw [← FW K V];apply Array.ext';simp
 have Z:ρ (.func f)= .func (.func f) #[] #[]:=K _ _ rfl;simp only [execOp,resolve,bind,Sem.bind,Deferred.ofValue,Z,pure,invoke];have ag: #[]++args.map ρ++ #[]=vs.toArray:=by rw [Y];simp
 rw [ag];exact Qg he h
theorem Lj{t:TypeId}{K O:Value}{name:String}{f:FuncId}{e:Array Value→Sem Value}{args:Array Operand}{ats:Array TypeId}{vs:List Value}(he:CC P f e)(hm:∀{s:St} {X:Halt→St→Prop} {Q:FuncId×Value→St→Prop},lp P (Go.method (P.types.size+Made.depth) t K name) s Q X=Q (f,O) s)
  (V:ops[i]? =some ⟨d,.call ⟨.invoke x name,args,ats⟩,ty,p,af,g⟩) (hw:Bd L ops ⟨d,.call ⟨.invoke x name,args,ats⟩,ty,p,af,g⟩=some true) (Y:CK b n ⟨d,.call ⟨.invoke x name,args,ats⟩,ty,p,af,g⟩=true) (Z:ev L x=some (.iface t K)) (ag:evs L args.toList=some vs)
  (h:lp P (e (O::vs).toArray) s (fun v s'=>JL J Q b n (AF L d v) ds (.inRegion ops rest::k) cs s') (fun _ _=>False)):JL J Q b n L ds (.inRegion ops (i::rest)::k) cs s:=by
 refine JL.op V hw Y fun ρ U=>?_;have al:args.map ρ=vs.toArray:=by
  rw [← FW U ag];apply Array.ext';simp
 have am:ρ x= .iface t K:=U _ _ Z;simp only [execOp,resolve,bind,Sem.bind,pure,invoke,am,al];have ap:(#[Value.iface t K]++vs.toArray)[0]? =some (.iface t K):=by simp
 have av:(#[Value.iface t K]++vs.toArray).extract 1 (#[Value.iface t K]++vs.toArray).size=vs.toArray:=by
  apply Array.ext';simp
 simp only [ap,av,callMethod,bind,Sem.bind,program,lp];refine AH _ _ ?_;rw [hm];have aY: #[O]++vs.toArray=(O::vs).toArray:=by apply Array.ext';simp
 rw [aY];exact Qg he h
end
end Pal
namespace Pal
open Go Go.Conc Go.Proofs
open Go.Proofs.Tryz
variable {J:Judge Tryz.prog}{E:LH}
def f135(fuel:Nat):Option Bool:= some false
theorem Zv{O:Value}{fuel:Nat}{r:Bool}(K:f135 fuel=some r):AK J 135 [.nilIface,O] E [] (fun w E' B'=>w= .bool r∧B'= []):=by
 refine A3 func135 fun Q Y cs H U V=>?_;unfold f135 at K;refine zg 8 rfl ?_;refine AD (v:= .bool true) rfl (fun ρ h=>QT underlying149 (show H2 0 .nilIface none from rfl) (h _ _ rfl) (h _ _ rfl)) (zg 6 rfl ?_);obtain rfl:=oi K;exact AA func135 rfl rfl (V Ar rfl ⟨rfl,rfl⟩ U)
def f112(fuel:Nat):Option Int:= (f135 fuel).bind fun K=> if K=true then(some 0) else(some 0)
theorem ZH{fuel:Nat}{r:Int}(O:f112 fuel=some r):AK J 112 [.nilIface] E [] (fun w E' B'=>w=iV r∧B'= []):=by
 refine A3 func112 fun Q a1 cs H Y U=>?_;unfold f112 at O;refine zg 6 rfl (CF Y FF fun Z ag=>?_);refine zg 5 rfl (AD (v:=(.iface 185 (pV Z 0))) rfl (fun ρ h=>EV underlying185 (fun _ h=>by cases h) (h _ _ rfl)) ?_);obtain⟨a2,al,am⟩:=bs O;refine BC (Zv al) rfl rfl (AS func135 rfl) ag fun a3 V K=>JL.done (BH am (fun ap av=>?_) (fun ap aY=>?_))
 ·refine zg 2 rfl (BJ underlying183 (Bu type39) rfl rfl rfl ?_);refine AD (v:=iV 0) rfl (fun ρ h=>Yl.load (Dv underlying39) (h _ _ rfl) (DU (j:=1) (off:=0) K rfl rfl)) (zg 2 rfl ?_);refine JS.drop 1 K rfl fun aZ=>?_;obtain rfl:=oi av;exact AA func112 rfl rfl (U V rfl ⟨rfl,rfl⟩ aZ)
 ·refine zg 5 rfl (JS.drop 1 K rfl fun a0=>?_);obtain rfl:=oi aY;exact AA func112 rfl rfl (U V rfl ⟨rfl,rfl⟩ a0)
def Lo(fuel:Nat)(p0:Option (Int×Int)):Option Int:=match p0 with
 | none=>f112 fuel
 | some _=>none
end Pal
namespace Pal
open Go Go.Conc Go.Proofs Go.Extern
def OV(b:Frame)(n:Nat):Nat→List Item→Env→List Item×Env
 | 0,k,L=>(k,L)
 | m+1,k,L=>match Nu b n L k with
  | some (k',L')=>OV b n m k' L'
  | none=>(k,L)
theorem zm{P:Program}{J:Judge P}{Q:Goroutine→St→Prop}{b:Frame}{n:Nat}{ds:List Deferred}{cs:List Frame}{s:St}:∀(m:Nat) {L L':Env} {k k':List Item},OV b n m k L=(k',L')→JL J Q b n L' ds k' cs s→JL J Q b n L ds k cs s
 | 0,L,L',k,k',h,K=>by cases h;exact K
 | m+1,L,L',k,k',h,K=>by
  unfold OV at h
  split at h
  ·rename_i e;exact SD e (zm m h K)
  ·cases h;exact K
theorem Re{E H:LH}{S:List Seg}{r:Nat}{o:Obj}(K:Aw E H S)(O:(Ao E H S).E r=none)(U:(Ao E H S).H r=none):Aw E H (S++ [[(r,o)]])∧(Ao E H S).upd r o=Ao E H (S++ [[(r,o)]]):=by
 obtain⟨a,b⟩:=IU O U o K;obtain⟨c,d⟩:=EB a;exact⟨d,b.trans c⟩
theorem YX{s:St}{X:Halt→St→Prop}{Q:Value→St→Prop}{o:Operand}(p:Addr):lp Tryz.prog (do eqGuard .eql 20 o (.const .nilIface) (.iface 185 (.pointer (some p))) .nilIface;binOp .eql 20 (.iface 185 (.pointer (some p))) .nilIface) s Q X=Q (.bool false) s:=by kernel_rfl
theorem VY{s:St}{ρ:Operand→Value}{d:Option Tmp}{x:Operand}{u ty:TypeId}{p:String}{af:Array Edge}{g:Option (Nat×Bool)}{a:Addr}(K:ρ x= .iface 185 (.pointer (some a)))(O:ρ (.const .nilIface)= .nilIface):Yl Tryz.prog ⟨d,.binOp .eql 20 x (.const .nilIface) u,ty,p,af,g⟩ ρ s (.bool false):=by
 refine Fp (sm:=do eqGuard .eql 20 x (.const .nilIface) (ρ x) (ρ (.const .nilIface));binOp .eql 20 (ρ x) (ρ (.const .nilIface))) rfl ?_
 rw [K,O];exact(YX a).mpr ⟨rfl,rfl⟩
theorem Tu(z:Sem Value)(f:TypeId→Addr→Nat→Nat→Sem Value)(v:Value):ReflectliteValue.method z f #[v]=Sem.bind (ReflectliteValue.parts v) (fun x=>match x with | none=>z | some (t,a,fl)=>f t a fl (fl % 32)):=rfl
theorem UM{s:St}{X:Halt→St→Prop}{Q:Value→St→Prop}(a p:Addr)(K:s.cell? a=some (.pointer (some p)))(h:Q (.bool false) s):lp Tryz.prog (ReflectliteValue.method (ReflectliteValue.valueError "reflectlite.Value.IsNil" 0) ReflectliteValue.isNil #[.agg #[Eo 185,.pointer (some a),.int .u64 150]]) s Q X:=by
 rw [Tu];refine AH (x:=ReflectliteValue.parts _) _ ((Qk a).mpr ?_);show lp Tryz.prog (Sem.bind (loadVar 185 a) _) s Q X;exact AH (x:=loadVar 185 a) _ ((QU a).mpr ⟨rfl,_,K,h⟩)
theorem UC{s:St}{X:Halt→St→Prop}{Q:Value→St→Prop}(a p:Addr)(K:s.cell? a=some (.pointer (some p)))(h:Q (.agg #[Eo 183,.pointer (some p),.int .u64 409]) s):lp Tryz.prog (ReflectliteValue.method (ReflectliteValue.valueError "reflectlite.Value.Elem" 0) ReflectliteValue.elem #[.agg #[Eo 185,.pointer (some a),.int .u64 150]]) s Q X:=by
 rw [Tu];refine AH (x:=ReflectliteValue.parts _) _ ((Qk a).mpr ?_);show lp Tryz.prog (Sem.bind (loadVar 185 a) _) s Q X;refine AH (x:=loadVar 185 a) _ ((QU a).mpr ⟨rfl,_,K,?_⟩);refine AH (x:=Rtype.elem? 185) _ (XY.mpr ?_);exact(ZK p).mpr h
theorem aX(v x:Value):ReflectliteValue.set #[v,x]=(do
  let (some (dst,a,fl),some (src,b,_)):=(← ReflectliteValue.parts v,← ReflectliteValue.parts x)
   | unsupported (.noEntry "extern/(internal/reflectlite.Value).Set.zeroValue")
  if fl / ReflectliteValue.flagAddr % 2==0 then unsupported (.noEntry "extern/(internal/reflectlite.Value).Set.unaddressable")
  let val ← loadVar src b
  if ← Rtype.directlyAssignable dst src then storeVar dst a val
  else if ← Rtype.implements dst src then
   if(← Rtype.kind src)==20 then
    match val with
    | .nilIface=>unsupported (.noEntry "extern/reflectlite: a nil value of one interface type handed on as a value of another")
    | _=>storeVar dst a val
   else storeVar dst a (.iface src val)
  else panicString ("reflectlite.Set: value of type " ++(← Rtype.spelt src)++ " is not assignable to type " ++(← Rtype.spelt dst))
  pure (.tuple #[])):=rfl
theorem XA{E H:LH}{S:List Seg}{X:Halt→St→Prop}{Q:Value→St→Prop}{bk r:Nat}{u w:Value}{c a:Int}(j:Nat)(V:Aw E H S)(K:S[j]? =some [(bk,.cells #[u,w] 183 (0,0))])(O:At E r 0 [iV c,iV a])(h:Aw E H (S.set j [(bk,.cells #[iV c,iV a] 183 (0,0))])→Q (.tuple #[]) (Ao E H (S.set j [(bk,.cells #[iV c,iV a] 183 (0,0))]))):
  lp Tryz.prog (ReflectliteValue.set #[.agg #[Eo 183,.pointer (some ⟨bk,0,none⟩),.int .u64 409],.agg #[Eo 183,.pointer (some ⟨r,0,none⟩),.int .u64 153]]) (Ao E H S) Q X:=by
 rw [aX];refine AH (x:=ReflectliteValue.parts _) _ ((Uu _).mpr ?_);refine AH (x:=ReflectliteValue.parts _) _ ((UP _).mpr ?_);refine AH (x:=loadVar 183 _) _ ((Vw _).mpr ⟨rfl,_,At.JY (j:=0) O rfl,rfl,_,At.JY (j:=1) O rfl,?_⟩);refine AH (x:=Rtype.directlyAssignable 183 183) _ (XO.mpr ?_);refine AH (x:=storeVar 183 _ _) _ ?_;obtain⟨Y,Z⟩:=Gd V K;rw [Y];refine N6 (pl:=(S.set j []).flatten.length) (Bu Tryz.type183) (by simp [Value.cells,CI]) Z (c:= #[u,w]) (e:=183) (by simp) (by simp [Value.cells]) fun U=>?_;have ag:((S.set j []).flatten++ [(bk,Obj.cells #[u,w] 183 (0,0))]).set (S.set j []).flatten.length (bk,.cells (A0 #[u,w] 0 (Value.agg #[iV c,iV a]).cells.toList) 183 (0,0))=(S.set j []).flatten++ [(bk,.cells #[iV c,iV a] 183 (0,0))]:=HN _ _ _ _;rw [ag] at U ⊢;obtain⟨al,am⟩:=Hn (seg':= [(bk,.cells #[iV c,iV a] 183 (0,0))]) K U;rw [al];exact h am
variable {J:Judge Tryz.prog}{E:LH}
theorem aN{c a:Int}{bk r:Nat}{u w:Value}(O:At E r 0 [.pointer (some ⟨bk,0,none⟩)]):AK J 167 [.iface 183 (.agg #[iV c,iV a]),.iface 185 (.pointer (some ⟨bk,0,none⟩)),.agg #[Eo 185,.pointer (some ⟨r,0,none⟩),.int .u64 150],HZ 183] E [(bk,.cells #[u,w] 183 (0,0))] (fun v E' B'=>v= .bool true∧B'= [(bk,.cells #[iV c,iV a] 183 (0,0))]):=by
 refine JP Tryz.func167 rfl rfl fun Q a2 cs H U V=>zm 60 rfl (JS.box (v:= .agg #[Eo 185,.pointer (some ⟨r,0,none⟩),.int .u64 150]) rfl rfl rfl U rfl fun a3 Y=>?_);refine CV 1 Y rfl fun a4 K Z ag=>zm 60 rfl (IM ?_);refine zm 60 rfl (I5 Y1 rfl rfl rfl rfl ?_);refine(Ub _).mpr ?_;refine zm 60 rfl (Lj Z6 (aj _) rfl rfl rfl rfl rfl ?_);refine XW.mpr (zm 60 rfl ?_);refine BO Z LQ Kj rfl rfl (I5 YK rfl rfl rfl rfl ?_);refine UC ⟨r,0,none⟩ ⟨bk,0,none⟩ (At.JY (j:=0) (O.Ah K) rfl) (zm 60 rfl ?_);refine I5 Sv rfl rfl rfl rfl ?_;refine(T2 c a).mpr ⟨rfl,fun a5 al am=>?_⟩;obtain⟨ap,av⟩:=Re (o:= .cells #[iV c,iV a] 183 (0,0)) ag al am;rw [av];refine CV 2 ap rfl fun a6 aY aZ a0=>I5 Y0 rfl rfl rfl rfl (XA 0 a0 rfl aZ fun a1=>?_);refine zm 60 rfl (AA Tryz.func167 rfl rfl ?_);exact V _ _ _ _ (K.trans aY) rfl ⟨rfl,rfl⟩ a1
theorem YE{c a:Int}{bk:Nat}{u w:Value}(Y:At E 0 0 [HZ 149]):AK J 135 [.iface 183 (.agg #[iV c,iV a]),.iface 185 (.pointer (some ⟨bk,0,none⟩))] E [(bk,.cells #[u,w] 183 (0,0))] (fun v E' B'=>v= .bool true∧B'= [(bk,.cells #[iV c,iV a] 183 (0,0))]):=by
 refine JP Tryz.func135 rfl rfl fun Q a4 cs H Z ag=>zm 60 rfl ?_;refine AD (v:= .bool false) rfl (fun ρ h=>QT Tryz.underlying149 (show H2 183 (.iface 183 (.agg #[iV c,iV a])) (some (c,a)) from rfl) (h _ _ rfl) (h _ _ rfl)) (zm 60 rfl ?_);refine AD rfl (fun ρ h=>VY (h _ _ rfl) (h _ _ rfl)) (zm 60 rfl ?_);refine I5 Sv rfl rfl rfl rfl ?_;refine(T1 _).mpr ⟨rfl,fun r al am=>?_⟩;obtain⟨ap,av⟩:=Re (o:= .cells #[.pointer (some ⟨bk,0,none⟩)] 185 (0,0)) Z al am;rw [av];refine JS.alloc rfl rfl rfl ap (Du Tryz.type210) fun a5 aY=>Pe (v:= .agg #[Eo 185,.pointer (some ⟨r,0,none⟩),.int .u64 150]) (off:=0) 2 aY Kj rfl rfl rfl rfl fun aZ=>zm 60 rfl (CV 1 aZ rfl fun a6 U V a0=>?_);refine CV 2 a0 rfl fun a7 K O a1=>BO O LQ Kj rfl rfl (I5 Zz rfl rfl rfl rfl ?_);refine(VX _).mpr ?_;refine zm 60 rfl (Lj SV (So _) rfl rfl rfl rfl rfl ?_);refine V9.mpr (zm 60 rfl ?_);refine BO (O) LQ Kj rfl rfl (I5 Yi rfl rfl rfl rfl ?_);refine UM ⟨r,0,none⟩ ⟨bk,0,none⟩ (At.JY (j:=0) (V.Ah K) rfl) (zm 60 rfl ?_);refine Lj ZX (Yu _) rfl rfl rfl rfl rfl (Vr.mpr ?_);refine zm 60 rfl (Lj SV (So _) rfl rfl rfl rfl rfl ?_);refine VD.mpr (zm 60 rfl ?_);refine BY 0 (Y.Ah (U.trans K)) (Dv Tryz.underlying213) rfl rfl rfl (Lj YQ (Z3 _) rfl rfl rfl rfl rfl ?_);refine VZ.mpr (zm 60 rfl ?_);refine AD (v:= .bool (!true)) rfl (fun ρ h=>Yl.not (h _ _ rfl)) (zm 60 rfl ?_);refine BO (O) LQ Kj rfl rfl (zm 60 rfl ?_);refine BZ 0 (aN (V.Ah K)) rfl rfl (AS Tryz.func167 rfl) a1 rfl ?_;rintro _ a8 _ a2 ⟨rfl,rfl⟩ a3;refine zm 60 rfl (AA Tryz.func135 rfl rfl ?_);exact ag _ _ _ _ ((U.trans K).trans a2) rfl ⟨rfl,rfl⟩ a3
theorem Vq{c a:Int}(K:At E 0 0 [HZ 149]):AK J 112 [.iface 183 (.agg #[iV c,iV a])] E [] (fun v E' B'=>v=iV c∧B'= []):=by
 refine JP Tryz.func112 rfl rfl fun Q ap cs H O U=>zm 60 rfl (JS.alloc rfl rfl rfl O FF fun av V=>?_);refine zm 60 rfl (AD rfl (fun ρ h=>EV Tryz.underlying185 (fun ms e=>by cases e) (h _ _ rfl)) ?_);refine BZ 1 (YE (u:=iV 0) (w:=iV 0) K) rfl rfl (AS Tryz.func135 rfl) V rfl ?_;rintro _ aY _ Y ⟨rfl,rfl⟩ Z;refine CV 1 Z rfl fun aZ ag al am=>zm 60 rfl (BJ Tryz.underlying183 (Bu Tryz.type39) rfl rfl rfl ?_);refine BY 0 al (Dv Tryz.underlying39) rfl rfl rfl (zm 60 rfl ?_);exact AA Tryz.func112 rfl rfl (U _ _ _ _ (Y.trans ag) rfl ⟨rfl,rfl⟩ am)
abbrev GE(E:LH):Prop:=At E 0 0 [HZ 149]
def Ln(fuel:Nat)(p0:Option (Int×Int)):Option Int:=match p0 with
 | none=>f112 fuel
 | some q=>some q.1
theorem OI{v:Value}{p0:Option (Int×Int)}(O:GE E)(h:H2 183 v p0){fuel:Nat}{r:Int}(K:Ln fuel p0=some r):AK J 112 [v] E [] (fun w E' B'=>w=iV r∧B'= []):=by
 match p0,h with
 | none,h=>obtain rfl:v= .nilIface:=h;exact ZH K
 | some (c,a),h=>
  obtain rfl:v= .iface 183 (.agg #[iV c,iV a]):=h;cases K;exact Vq O
end Pal
namespace Pal
open Go Go.Conc Go.Proofs Go.ChangeShapes Go.WideShapes Go.ChangeAt Go.RowKit
open Go.Proofs.YtboibffcmhheiaaGreatDoor
section
variable {H:Type}{enc:TypeId×Value→H}{W:World}{fuel:Nat}{cs:List Value}{x:DataW H×List MemPlace}
theorem Tryz.W0:Tryz.prog.cellsOf 28=1:=by kernel_rfl
theorem Tryz.XF:Tryz.prog.cellsOf 22=1:=by kernel_rfl
theorem Tryz.Xr:Tryz.prog.cellsOf 24=2:=by kernel_rfl
theorem IS(a:Addr):a.add 0=a:=by unfold Addr.add;rw [if_pos rfl]
theorem Q1(Y:DataW.trod enc Tryz.prog W 0 (fun _=>true) true fuel 28 cs=some x):∃(a:Option Addr) (c:Nat) (K:List Int),cs= [.slice a K.length c]∧Al rI (Eh W).E a c K:=by
 rcases open_ints Tryz.underlying28 Tryz.underlying3 Pal.Tryz.SH Y with⟨O,Z⟩ | ⟨a,len,cap,K,O,_,ag,hm,al,Z,U,hw⟩
 ·exact⟨none,0,[],O,Al.nil⟩
 ·simp only [if_true] at al;rcases Nat.eq_zero_or_pos cap with V | V
  ·have:len=0:=by omega
   subst this;subst V;exact⟨some a,0,[],O,Nat.le_refl _,.inl ⟨rfl,fun _ _=> .inr rfl⟩⟩
  ·have am:a.spot=none:=by
    have:=World.cell?_spot (U 0 (by omega))
    rwa [IS] at this
   obtain⟨ap,g2⟩:=V6 am ag (by omega) U;exact⟨some a,cap,K.take len,by rw [g2];exact O,ap⟩
theorem QY{b off:Nat}{v:Value}(h:W.cell? ⟨b,off,none⟩=some v):At (Eh W).E b off [v]:=by
 unfold World.cell? at h;split at h
 ·rename_i c e f hW;simp only [Option.isSome_none,Bool.false_eq_true,if_false] at h;refine⟨c,e,f,hW,fun j w K=>?_⟩
  match j,K with
  | 0,K=>simp at K;subst K;simpa using h
  | j+1,K=>simp at K
 ·cases h
theorem QV(a2:DataW.trod enc Tryz.prog W 0 (fun _=>true) true fuel 22 cs=some x):∃(a:Option Addr) (c:Nat) (U:List (List Int)),cs= [.slice a U.length c]∧Al (rL rI) (Eh W).E a c U:=by
 rcases DataW.trod_slice Tryz.underlying22 a2 with⟨am,a3⟩ | ⟨a,len,cap,elems,rest,n,_,am,a3,_,a4,_,hlen,ap,av,_⟩
 ·exact⟨none,0,[],am,Al.nil⟩
 ·rw [Tryz.W0] at ap av;simp only [Nat.mul_one] at ap av;rcases Nat.eq_zero_or_pos cap with aZ | aZ
  ·have:len=0:=by omega
   subst this;subst aZ;exact⟨some a,0,[],am,Nat.le_refl _,.inl ⟨rfl,fun _ _=> .inr rfl⟩⟩
  ·have a0:∀i,i<len→∃v y,W.cell? (a.add i)=some v∧DataW.trod enc Tryz.prog W 0 (fun _=>true) true n 28 [v]=some y:=fun i hi=>by
    have K:=ap i hi;rw [List.getElem?_eq_getElem (by omega)] at K;obtain⟨vs,O,ag⟩:=Option.bind_eq_some_iff.1 K;obtain⟨_,V,al⟩:=World.cells?_some O
    match vs,V with
    | [v],_=>
     have:=al 0 (by omega);refine⟨v,_,?_,ag⟩;have e:(a.add i).add 0=a.add i:=IS _;rw [e] at this;simpa using this
   have hs:a.spot=none:=by
    rcases Nat.eq_zero_or_pos len with K | K
    ·obtain⟨O,ag⟩:=av trivial;have V:=ag 0 (by omega);rw [List.getElem?_eq_getElem (by omega)] at V;obtain⟨vs,al,_⟩:=Option.bind_eq_some_iff.1 V;obtain⟨_,a5,a6⟩:=World.cells?_some al
     match vs,a5 with
     | [v],_=>
      have:=a6 0 (by omega);rw [K] at this;rw [IS,Nat.add_zero,IS] at this;exact World.cell?_spot this
    ·obtain⟨v,y,O,_⟩:=a0 0 K;rw [IS] at O;exact World.cell?_spot O
   have a1:∀i:Fin len,∃U:List Int,∃(Y:Option Addr) (Z:Nat),W.cell? (a.add i)=some (.slice Y U.length Z)∧Al rI (Eh W).E Y Z U:=fun i=>by
    obtain⟨v,y,O,ag⟩:=a0 i i.2;obtain⟨Y,Z,U,V,al⟩:=Q1 ag;simp only [List.cons.injEq,and_true] at V;subst V;exact⟨U,Y,Z,O,al⟩
   refine⟨some a,cap,List.ofFn fun i=>Classical.choose (a1 i),by simpa using am,by simpa using a4,.inr ⟨a.block,a.off,?_,fun i z aY=>?_⟩⟩
   ·obtain⟨b,o,s⟩:=a;simp only at hs;subst hs;rfl
   ·have hi:i<len:=by have:=(List.getElem?_eq_some_iff.1 aY).1;simpa using this
    simp [hi] at aY;obtain⟨Y,Z,K,O⟩:=Classical.choose_spec (a1 ⟨i,hi⟩);rw [aY] at K O;simp only at K;rw [DJ hs] at K;refine⟨[.slice Y z.length Z],⟨Y,Z,rfl,O⟩,?_⟩;have e:a.off+i*(rL rI).n=a.off+i:=by show a.off+i*1=_;omega
    rw [e];exact QY K
theorem WX{v:Value}{ag:Nat}{d:DataW H}{p:List MemPlace}(al:Value.okWide Tryz.prog W .any ag 24 v)(am:DataW.Trod enc Tryz.prog W 0 (fun _=>true) true 24 v d p):
  ∃(K:Option Addr) (O:Nat) (U:Option Addr) (c2:Nat) (J:List (List Int)×List (List Int)),v= .agg #[.slice K J.1.length O,.slice U J.2.length c2]∧Al (rL rI) (Eh W).E K O J.1∧Al (rL rI) (Eh W).E U c2 J.2:=by
 obtain⟨cs,rfl,Z⟩:=okWide_struct Tryz.underlying24 al;obtain⟨fuel,ap⟩:=am;obtain⟨a1,a2,n,_,a3,av,aY⟩:=trod_struct2 Tryz.underlying24 ap;obtain⟨K,O,z1,V,aZ⟩:=QV av;obtain⟨U,c2,a0,Y,g2⟩:=QV aY;refine⟨K,O,U,c2,(z1,a0),?_,aZ,g2⟩;rw [Tryz.XF] at V Y;rw [Tryz.Xr] at Z;simp only [Value.cells,List.drop_zero] at V Y;obtain⟨l⟩:=cs
 match l,Z with
 | [u,w],_=>
  simp at V Y;rw [V,Y]
theorem WS{W:World}{v:Value}{K:Nat}(O:Value.okWide Tryz.prog W .any K 3 v):∃z:Int,v=iV z:=okWide_int Tryz.underlying3 O
theorem Ws{v:Value}{O:Nat}{d:DataW H}{p:List MemPlace}(U:Value.okWide Tryz.prog W .any O 28 v)(V:DataW.Trod enc Tryz.prog W 0 (fun _=>true) true 28 v d p):
  ∃(a:Option Addr) (c:Nat) (K:List Int),v= .slice a K.length c∧Al rI (Eh W).E a c K:=by
 obtain⟨Z,len,cap,rfl⟩:=okWide_slice Tryz.underlying28 U;obtain⟨fuel,Y⟩:=V;obtain⟨a,c,K,e,g⟩:=Q1 Y;simp [Value.cells] at e;obtain⟨rfl,rfl,rfl⟩:=e;exact⟨_,_,_,rfl,g⟩
end
theorem Tryz.Xj:Tryz.prog.globalNamed "errors.errorType" =some 0:=by kernel_rfl
theorem Tryz.Yz:(Tryz.prog.cutTypes.find? (·.1== "internal/reflectlite.rtype")).map (·.2)=some 240:=by kernel_rfl
theorem Tryz.Yg:Tryz.prog.globals.size=1:=by kernel_rfl
theorem Tryz.Yw:(List.range Tryz.prog.types.size).all (fun t=> !Tryz.prog.rowNamed t [101,114,114,111,114] || t==149)=true:=by kernel_rfl
theorem WI{W:World}(h:laidMetH Tryz.prog [("errors.errorType",Rows.laid_errors_errorType)] W.memory):GE (Eh W).E:=by
 have U:=h.2 _ (List.mem_cons_self ..);obtain⟨name,u,ty,V,Y,Z,ag,K⟩:=U;have al:name= [101,114,114,111,114]:=(Option.some.inj V).symm;have am:u=240:=Option.some.inj (Y.symm.trans Tryz.Yz);subst al;subst am;have ap:ty=149:=by
  have:=List.all_eq_true.1 Tryz.Yw ty (List.mem_range.2 Z);rw [ag] at this;simpa using this
 subst ap;unfold World.var? at K;rw [Tryz.Xj] at K;simp only [Option.bind_some] at K;split at K
 ·rename_i c e f hW;simp only [Option.some.injEq] at K;subst K;refine⟨_,e,f,hW,fun j w O=>?_⟩;have av:typeHandle Tryz.prog 149= .pointer (some ⟨1,149,none⟩):=by unfold typeHandle;rw [Tryz.Yg]
  rw [av]
  match j,O with
  | 0,O=>simp at O;subst O;rfl
  | j+1,O=>simp at O
 ·cases K
end Pal
namespace Pal
open Go Go.Conc Go.Proofs Go.ChangeShapes Go.WideShapes Go.ChangeAt Go.RowKit
open Go.Proofs.YtboibffcmhheiaaGreatDoor
section
variable {H:Type}{enc:TypeId×Value→H}{W:World}{fuel:Nat}{cs:List Value}{x:DataW H×List MemPlace}
theorem Tryz.Sa:Tryz.prog.cellsOf 27=2:=by kernel_rfl
theorem Vf{b off:Nat}(O:0<cs.length)(h:∀j,j<cs.length→W.cell? ⟨b,off+j,none⟩=cs[j]?):At (Eh W).E b off cs:=by
 have U:=h 0 O;rw [List.getElem?_eq_getElem O] at U;obtain⟨f,e,fr,V,_⟩:=QY U;have hW:W.heap[b]? =some (.cells f e fr):=V;refine⟨f,e,fr,V,fun j w Y=>?_⟩;have Z:=(List.getElem?_eq_some_iff.1 Y).1;have K:=h j Z;rw [Y] at K;unfold World.cell? at K;simp only [hW] at K;simpa using K
theorem Yk{α:Type}{p:Rp α}{t e:TypeId}(ht:Tryz.prog.underlying t=some (.slice e))(a2:Tryz.prog.cellsOf e=p.n)(a3:0<p.n)
  (a4:∀n cs x,DataW.trod enc Tryz.prog W 0 (fun _=>true) true n e cs=some x→∃v,p.r (Eh W).E cs v)
  (a5:DataW.trod enc Tryz.prog W 0 (fun _=>true) true fuel t cs=some x):∃(a:Option Addr) (c:Nat) (ap:List α),cs= [.slice a ap.length c]∧Al p (Eh W).E a c ap:=by
 rcases DataW.trod_slice ht a5 with⟨Z,a6⟩ | ⟨a,len,cap,elems,rest,n,_,Z,a6,_,a7,_,hlen,av,aY,_⟩
 ·exact⟨none,0,[],Z,Al.nil⟩
 ·rw [a2] at av aY;rcases Nat.eq_zero_or_pos cap with aZ | aZ
  ·have:len=0:=by omega
   subst this;subst aZ;exact⟨some a,0,[],Z,Nat.le_refl _,.inl ⟨rfl,fun _ _=> .inr rfl⟩⟩
  ·have a0:∀i,i<len→∃vs y,vs.length=p.n∧(∀j,j<p.n→W.cell? ((a.add (i*p.n)).add j)=vs[j]?)∧DataW.trod enc Tryz.prog W 0 (fun _=>true) true n e vs=some y:=fun i hi=>by
    have K:=av i hi;rw [List.getElem?_eq_getElem (by omega)] at K;obtain⟨vs,al,V⟩:=Option.bind_eq_some_iff.1 K;obtain⟨_,O,am⟩:=World.cells?_some al;exact⟨vs,_,O,am,V⟩
   have hs:a.spot=none:=by
    have key:∀vs:List Value,vs.length=p.n→(∀j,j<p.n→W.cell? ((a.add (0*p.n)).add j)=vs[j]?)→a.spot=none:=fun vs ag U=>by
     have:=U 0 a3;rw [List.getElem?_eq_getElem (by omega),IS,Nat.zero_mul,IS] at this;exact World.cell?_spot this
    rcases Nat.eq_zero_or_pos len with K | K
    ·obtain⟨al,V⟩:=aY rfl;have O:=V 0 (by omega);rw [List.getElem?_eq_getElem (by omega)] at O;obtain⟨vs,am,_⟩:=Option.bind_eq_some_iff.1 O;obtain⟨_,ag,U⟩:=World.cells?_some am;rw [K] at U;exact key vs ag U
    ·obtain⟨vs,y,ag,U,_⟩:=a0 0 K;exact key vs ag U
   have a1:∀i:Fin len,∃z:α,∃vs,p.r (Eh W).E vs z∧At (Eh W).E a.block (a.off+i*p.n) vs:=fun i=>by
    obtain⟨vs,y,al,V,O⟩:=a0 i i.2;obtain⟨z,Y⟩:=a4 _ _ _ O;refine⟨z,vs,Y,Vf (by omega) fun j a8=>?_⟩;have:=V j (by omega);rw [DJ hs,DJ rfl] at this;exact this
   refine⟨some a,cap,List.ofFn fun i=>Classical.choose (a1 i),by simpa using Z,by simpa using a7,.inr ⟨a.block,a.off,?_,fun i z Y=>?_⟩⟩
   ·obtain⟨b,o,s⟩:=a;simp only at hs;subst hs;rfl
   ·have hi:i<len:=by have:=(List.getElem?_eq_some_iff.1 Y).1;simpa using this
    simp [hi] at Y;have:=Classical.choose_spec (a1 ⟨i,hi⟩);rw [Y] at this;exact this
theorem Qw(h:DataW.trod enc Tryz.prog W 0 (fun _=>true) true fuel 27 cs=some x):∃v:Int×Int,cs= [iV v.1,iV v.2]:=by
 obtain⟨Z,ag,n,_,U,V,Y⟩:=trod_struct2 Tryz.underlying27 h;obtain⟨n1,K,_⟩:=DataW.trod_int Tryz.underlying3 V;obtain⟨n2,O,_⟩:=DataW.trod_int Tryz.underlying3 Y;rw [Tryz.Sa] at U;rw [Pal.Tryz.SH] at K O;refine⟨(n1,n2),?_⟩
 match cs,U with
 | [u,w],_=>simp at K O;rw [K,O]
theorem UO{v:Value}{O:Nat}{d:DataW H}{p:List MemPlace}(U:Value.okWide Tryz.prog W .any O 25 v)(V:DataW.Trod enc Tryz.prog W 0 (fun _=>true) true 25 v d p):
  ∃(a:Option Addr) (c:Nat) (K:List (Int×Int)),v= .slice a K.length c∧Al (rP rI rI) (Eh W).E a c K:=by
 obtain⟨Z,len,cap,rfl⟩:=okWide_slice Tryz.underlying25 U;obtain⟨fuel,Y⟩:=V;obtain⟨a,c,K,e,g⟩:=Yk (p:=rP rI rI) Tryz.underlying25 Tryz.Sa (Nat.zero_lt_two) (fun n cs x h=>by
  obtain⟨v,rfl⟩:=Qw h
  exact⟨v,[iV v.1],[iV v.2],rfl,rfl,rfl⟩) Y
 simp [Value.cells] at e;obtain⟨rfl,rfl,rfl⟩:=e;exact⟨_,_,_,rfl,g⟩
theorem VF{v:Value}{K:Nat}{d:DataW H}{p:List MemPlace}(O:Value.okWide Tryz.prog W .any K 27 v)(U:DataW.Trod enc Tryz.prog W 0 (fun _=>true) true 27 v d p):∃l:Int×Int,v= .agg #[iV l.1,iV l.2]:=by
 obtain⟨cs,rfl,Y⟩:=okWide_struct Tryz.underlying27 O;obtain⟨fuel,V⟩:=U;obtain⟨l,e⟩:=Qw V;simp only [Value.cells] at e;refine⟨l,?_⟩;obtain⟨k⟩:=cs;simp only at e;rw [e]
end
end Pal
namespace Pal
open Go Go.Conc Go.Proofs
open Go.Proofs.Tryz
variable {J:Judge Tryz.prog}{E:LH}
def f69(fuel:Nat)(p0:A2)(p1:AI):Option Int:= (f113 fuel p0).bind fun K=> if K.isSome=true then((Lo fuel K).bind fun O=> some O) else((f116 fuel p0 p1).bind fun U=> (Lo fuel U).bind fun V=> some V)
def RZ(fuel:Nat)(p0:BT)(O:(List Int))(K:Nat×Int):Option (Bi (Nat×Int) Nat):= if K.2<(O.length:Int) then((ix O K.2).bind fun U=> (ix p0.1 U).bind fun V=> (f120 fuel V).bind fun Y=> (Je K.1 Y).bind fun Z=> (As (K.2+1)).bind fun ag=> some (.more (Z,ag))) else(some (.done K.1))
def f121(fuel:Nat)(p0:BT)(p1:Nat):Option Nat:= (f89 fuel p1).bind fun K=> Option.bind (iter (RZ fuel p0 K) fuel (0,0)) fun O=> some O
theorem Y8{k1:Nat}{o2:Nat}{Y:An}{Z:Nat}{ag:An}{al:Nat}{am:List Value}{p0:BT}{p1:Nat}(a1:At E k1 o2 (([sV Y p0.1 Z,sV ag p0.2.1 al]:List Value)++am))(a2:Al (rL rI) E Y Z p0.1)(bG:Al (rL rI) E ag al p0.2.1)(bH:(rA 13 (rN .u16)).r E am p0.2.2){fuel:Nat}{r:Nat}(ap:f121 fuel p0 p1=some r):AK J 121 [pV k1 o2,uV p1] E [] (fun w E' B'=>w= uV r∧B'= []):=by
 refine A3 func121 fun Q bI cs H a3 a4=>?_;unfold f121 at ap;obtain⟨av,a5,a6⟩:=bs ap;refine zg 12 rfl (BP (I6 a5) rfl rfl IJ a3 ?_);rintro _ bJ _ U ⟨a7,a8,rfl,rfl,a9⟩ ba;refine Bg underlying28 rfl rfl rfl ?_;obtain⟨bb,bc,bd⟩:=bs a6;refine zg 2 rfl (C4 [] [(5,uV bb)] (fun bK be bf=>?_) (fun bg=>?_))
 ·refine zg 5 rfl ?_;obtain rfl:=oi bd;exact AA func121 rfl rfl (a4 (U.Ab be) rfl ⟨rfl,rfl⟩ bf)
 ·refine JL.block (Cx bc (fun O=> []) (fun O=> [(0,pV k1 o2),(5,uV O.1),(9,sV a7 av a8),(10,iV (av.length:Int)),(11,iV O.2)]) Ar ba ?_);rintro O bL K aY bh ⟨bM,V⟩ bi;have aZ:=V;unfold RZ at aZ;refine zg 5 rfl (AL aZ (fun bj bl=>?_) (fun bj bm=>?_))
  ·obtain⟨bN,bn,bo⟩:=bs bl;refine zg 5 rfl (Ce (a9.Ah K) bn underlying28 AW ?_);rintro bO bP _ rfl bp;refine BY 0 bp Bv rfl rfl rfl (zg 6 rfl ?_);refine BJ underlying141 BD rfl rfl rfl (JL.fl 0 (a1.Ah (U.Ab K)) underlying24 BQ Cr ?_);obtain⟨bQ,bq,br⟩:=bs bo;refine zg 1 rfl (Ce (a2.Ah (U.Ab K)) bq underlying22 BX ?_);rintro bR bS _ ⟨bT,bU,rfl,bu⟩ bv;refine BY 0 bv CQ rfl rfl rfl ?_;obtain⟨bV,bw,bx⟩:=bs br;refine BC (JU bu bw) rfl rfl Jf aY fun bW bz bA=>?_;obtain⟨a0,bB,bC⟩:=bs bx;refine AD (v:= uV a0) rfl (fun ρ h=>Kv (h _ _ rfl) (h _ _ rfl) bB) ?_;obtain⟨bD,bE,bF⟩:=bs bC;refine zg 4 rfl (Bc bE rfl rfl rfl ?_);refine zg 2 rfl ?_;obtain rfl:=oi bF;exact bi (a0,bD) (K.Ab bz) bA rfl V
  ·refine JL.exit rfl ?_;obtain rfl:=oi bm;obtain rfl:=bh _ V;exact bg K aY rfl
def f130(fuel:Nat)(p0:Ca):Option Int:= (f89 fuel p0.2.2).bind fun K=> some (K.length:Int)
theorem ZF{K:An}{c2:Nat}{p0:Ca}(aY:Al rI E K c2 p0.2.1){fuel:Nat}{r:Int}(O:f130 fuel p0=some r):AK J 130 [.agg #[iV p0.1,sV K p0.2.1 c2,uV p0.2.2]] E [] (fun w E' B'=>w=iV r∧B'= []):=by
 refine A3 func130 fun Q aZ cs H U V=>?_;unfold f130 at O;refine zg 2 rfl (B4 U fun a0 a1 Y Z ag=>?_);refine zg 4 rfl (JL.fl 2 Z underlying104 Ek GO ?_);obtain⟨a2,al,am⟩:=bs O;refine BP (I6 al) rfl rfl IJ ag ?_;rintro _ a3 _ ap ⟨a4,a5,rfl,rfl,a6⟩ av;refine Bg underlying28 rfl rfl rfl (zg 2 rfl ?_);obtain rfl:=oi am;exact AA func130 rfl rfl (V (Y.Ab ap) rfl ⟨rfl,rfl⟩ av)
def SQ(fuel:Nat)(p0:List Ca)(K:Nat×Int):Option (Bi (Nat×Int) Nat):= if K.2<(p0.length:Int) then((ix p0 K.2).bind fun O=> (f90 fuel K.1 O.1).bind fun U=> (As (K.2+1)).bind fun V=> some (.more (U,V))) else(some (.done K.1))
def f87(fuel:Nat)(p0:List Ca):Option Nat:= Option.bind (iter (SQ fuel p0) fuel (0,0)) fun K=> some K
theorem ai{O:An}{c2:Nat}{p0:List (Ca)}(al:Al Dp E O c2 p0){fuel:Nat}{r:Nat}(Y:f87 fuel p0=some r):AK J 87 [sV O p0 c2] E [] (fun w E' B'=>w= uV r∧B'= []):=by
 refine A3 func87 fun Q bp cs H am ap=>?_;unfold f87 at Y;refine zg 12 rfl (Bg underlying95 rfl rfl rfl ?_);obtain⟨av,aY,aZ⟩:=bs Y;refine zg 2 rfl (C4 [] [(3,uV av)] (fun bq a0 a1=>?_) (fun a2=>?_))
 ·refine zg 5 rfl ?_;obtain rfl:=oi aZ;exact AA func87 rfl rfl (ap a0 rfl ⟨rfl,rfl⟩ a1)
 ·refine JL.block (Cx aY (fun K=> []) (fun K=> [(3,uV K.1),(6,sV O p0 c2),(7,iV (p0.length:Int)),(8,iV K.2)]) Ar am ?_);rintro K br U Z a3 ⟨bu,V⟩ a4;have ag:=V;unfold SQ at ag;refine zg 5 rfl (AL ag (fun a5 a6=>?_) (fun a5 a7=>?_))
  ·obtain⟨bv,a8,a9⟩:=bs a6;refine zg 5 rfl (Ce (al.Ah U) a8 underlying95 Cs ?_);rintro bw bx _ ⟨_,_,rfl,rfl,⟨_,_,rfl,⟨bz,bA,rfl,bB⟩,rfl⟩⟩ ba;refine BO ba FT Cs rfl rfl (CF Z GR fun bC bb=>?_);refine BR 0 bb Cs fun bc=>?_;refine CV 0 bc rfl fun bD bd be bf=>zg 3 rfl (JL.fl 0 be underlying104 AW Bv ?_);obtain⟨bg,bh,bi⟩:=bs a9;refine BC (Nq bh) rfl rfl L3 bf fun bE bj bl=>?_;obtain⟨bm,bn,bo⟩:=bs bi;refine zg 4 rfl (Bc bn rfl rfl rfl ?_);refine zg 2 rfl ?_;obtain rfl:=oi bo;exact a4 (bg,bm) ((U.Ab bd).Ab bj) bl rfl V
  ·refine JL.exit rfl ?_;obtain rfl:=oi a7;obtain rfl:=a3 _ V;exact a2 U Z rfl
def SF(fuel:Nat)(p0:BT)(O:Int)(K:Nat×Int):Option (Bi (Nat×Int) Nat):= if K.2<O then((f121 fuel p0 K.1).bind fun U=> (As (K.2+1)).bind fun V=> some (.more (U,V))) else(some (.done K.1))
def f88(fuel:Nat)(p0:BT)(p1:Ca)(p2:Int):Option Nat:= (As ((p1.2.1.length:Int) - 1)).bind fun K=> if p2≤K then((ix p1.2.1 p2).bind fun O=> (f120 fuel ([O]:List Int)).bind fun U=> some U) else((ix p1.2.1 K).bind fun V=> (f120 fuel ([V]:List Int)).bind fun Y=> (As (p2 - K)).bind fun Z=> Option.bind (iter (SF fuel p0 Z) fuel (Y,0)) fun ag=> some ag)
theorem Z9{k1:Nat}{o2:Nat}{al:An}{am:Nat}{ap:An}{av:Nat}{aY:List Value}{aZ:An}{a0:Nat}{p0:BT}{p1:Ca}{p2:Int}(a9:At E k1 o2 (([sV al p0.1 am,sV ap p0.2.1 av]:List Value)++aY))(ba:Al (rL rI) E al am p0.1)(bb:Al (rL rI) E ap av p0.2.1)(bc:(rA 13 (rN .u16)).r E aY p0.2.2)(a1:Al rI E aZ a0 p1.2.1){fuel:Nat}{r:Nat}(a2:f88 fuel p0 p1 p2=some r):AK J 88 [pV k1 o2,.agg #[iV p1.1,sV aZ p1.2.1 a0,uV p1.2.2],iV p2] E [] (fun w E' B'=>w= uV r∧B'= []):=by
 refine A3 func88 fun Q b6 cs H bd a3=>?_;unfold f88 at a2;refine zg 2 rfl (B4 bd fun b7 b8 K Z a4=>?_);refine zg 4 rfl (JL.fl 1 Z underlying104 BX CQ ?_);refine Bg underlying28 rfl rfl rfl ?_;obtain⟨b9,be,bf⟩:=bs a2;refine Cd be rfl rfl rfl (zg 9 rfl ?_);refine AL bf (fun bg bh=>?_) (fun bg bi=>?_)
 ·refine zg 2 rfl (JL.fl 1 Z underlying104 BX CQ ?_);obtain⟨a5,bj,bl⟩:=bs bh;refine zg 1 rfl (Ce (a1.Ah K) bj underlying28 AW ?_);rintro ca cb _ rfl bm;refine BY 0 bm Bv rfl rfl rfl (Dx (pp:=rI) [iV a5] [a5] rfl rfl rfl underlying28 AW CM (by decide) rfl rfl rfl ⟨rfl,trivial⟩ a4 fun cc cd bn bo=>?_);refine B7 2 bn bo rfl fun ce bp bq br=>?_;obtain⟨cf,bu,bv⟩:=bs bl;refine BC (JU bq bu) rfl rfl Jf br fun cg bw bx=>zg 2 rfl ?_;obtain rfl:=oi bv;exact AA func88 rfl rfl (a3 ((K.Ab bp).Ab bw) rfl ⟨rfl,rfl⟩ bx)
 ·refine zg 3 rfl (JL.fl 1 Z underlying104 BX CQ ?_);obtain⟨a6,bz,bA⟩:=bs bi;refine zg 1 rfl (Ce (a1.Ah K) bz underlying28 AW ?_);rintro ci ck _ rfl bB;refine BY 0 bB Bv rfl rfl rfl (Dx (pp:=rI) [iV a6] [a6] rfl rfl rfl underlying28 AW CM (by decide) rfl rfl rfl ⟨rfl,trivial⟩ a4 fun cm cn bC bD=>?_);refine B7 2 bC bD rfl fun co U bE bF=>?_;obtain⟨cp,bG,bH⟩:=bs bA;refine BC (JU bE bG) rfl rfl Jf bF fun cq V bI=>?_;obtain⟨bJ,bK,bL⟩:=bs bH;refine zg 7 rfl (Cd bK rfl rfl rfl ?_);obtain⟨bM,bN,bO⟩:=bs bL;refine zg 2 rfl (C4 [] [(8,uV bM)] (fun cr bP bQ=>?_) (fun bR=>?_))
  ·refine zg 5 rfl ?_;obtain rfl:=oi bO;exact AA func88 rfl rfl (a3 (((K.Ab U).Ab V).Ab bP) rfl ⟨rfl,rfl⟩ bQ)
  ·refine JL.block (Cx bN (fun Y=> []) (fun Y=> [(0,pV k1 o2),(8,uV Y.1),(32,iV bJ),(33,iV Y.2)]) Ar bI ?_);rintro Y ct O a7 bS ⟨cu,ag⟩ bT;have a8:=ag;unfold SF at a8;refine zg 5 rfl (AL a8 (fun bU bV=>?_) (fun bU bW=>?_))
   ·obtain⟨bY,bZ,b0⟩:=bs bV;refine zg 6 rfl (BC (Y8 (a9.Ah (((K.Ab U).Ab V).Ab O)) (ba.Ah (((K.Ab U).Ab V).Ab O)) (bb.Ah (((K.Ab U).Ab V).Ab O)) (Rp.Ah _ (((K.Ab U).Ab V).Ab O) bc) bZ) rfl rfl (AS func121 rfl) a7 fun cv b1 b2=>?_);obtain⟨b3,b4,b5⟩:=bs b0;refine zg 4 rfl (Bc b4 rfl rfl rfl ?_);refine zg 2 rfl ?_;obtain rfl:=oi b5;exact bT (bY,b3) (O.Ab b1) b2 rfl ag
   ·refine JL.exit rfl ?_;obtain rfl:=oi bW;obtain rfl:=bS _ ag;exact bR O a7 rfl
end Pal
namespace Pal
open Go Go.Conc Go.Proofs
open Go.Proofs.Tryz
variable {J:Judge Tryz.prog}{E:LH}
def Mn(fuel:Nat)(p0:BT)(O:(List Int))(K:Nat×Int):Option (Bi (Nat×Int) Nat):= if K.2<(O.length:Int) then((ix O K.2).bind fun U=> (ix p0.1 U).bind fun V=> (f120 fuel V).bind fun Y=> (Je K.1 Y).bind fun Z=> (As (K.2+1)).bind fun ag=> some (.more (Z,ag))) else(some (.done K.1))
def Lh(fuel:Nat)(p0:BT)(p1:Nat):Option (Nat×(BT)):= (f89 fuel p1).bind fun K=> Option.bind (iter (Mn fuel p0 K) fuel (0,0)) fun O=> some (O,p0)
theorem Yf{bk:Nat}{K:An}{c2:Nat}{O:An}{U:Nat}{V:List Value}{p0:BT}{p1:Nat}(av:Al (rL rI) E K c2 p0.1)(a7:Al (rL rI) E O U p0.2.1)(a8:(rA 13 (rN .u16)).r E V p0.2.2){fuel:Nat}{r:Nat×(BT)}(aY:Lh fuel p0 p1=some r):AK J 121 [pV bk 0,uV p1] E [(bk,.cells (([sV K p0.1 c2,sV O p0.2.1 U]:List Value)++V).toArray 141 (0,0))] (fun w E' B'=>∃(aZ:An) (a0:Nat) (a1:An) (a2:Nat) (a3:List Value),w= uV r.1∧B'= [(bk,.cells (([sV aZ r.2.1 a0,sV a1 r.2.2.1 a2]:List Value)++a3).toArray 141 (0,0))]∧Al (rL rI) E' aZ a0 r.2.1∧Al (rL rI) E' a1 a2 r.2.2.1∧(rA 13 (rN .u16)).r E' a3 r.2.2.2):=by
 refine A3 func121 fun Q bL cs H a9 ba=>?_;unfold Lh at aY;obtain⟨a4,bb,bc⟩:=bs aY;refine zg 12 rfl (BP (I6 bb) rfl rfl IJ a9 ?_);rintro _ bM _ Y ⟨bd,be,rfl,rfl,bf⟩ bg;refine Bg underlying28 rfl rfl rfl ?_;obtain⟨bh,bi,bj⟩:=bs bc;refine zg 2 rfl (C4 [bX bk (([sV K p0.1 c2,sV O p0.2.1 U]:List Value)++V).toArray 141] [(5,uV bh)] (fun bN Z bl=>?_) (fun bm=>?_))
 ·refine zg 5 rfl ?_;obtain rfl:=oi bj;exact AA func121 rfl rfl (ba (Y.Ab Z) rfl ⟨K,c2,O,U,V,rfl,rfl,(av.Ah (Y.Ab Z)),(a7.Ah (Y.Ab Z)),(Rp.Ah _ (Y.Ab Z) a8)⟩ bl)
 ·refine JL.block (Cx bi (fun ag=> [bX bk (([sV K p0.1 c2,sV O p0.2.1 U]:List Value)++V).toArray 141]) (fun ag=> [(0,pV bk 0),(5,uV ag.1),(9,sV bd a4 be),(10,iV (a4.length:Int)),(11,iV ag.2)]) Ar bg ?_);rintro ag bO al am bn ⟨bP,ap⟩ bo;have a5:=ap;unfold Mn at a5;refine zg 5 rfl (AL a5 (fun bp bq=>?_) (fun bp br=>?_))
  ·obtain⟨bQ,bu,bv⟩:=bs bq;refine zg 5 rfl (Ce (bf.Ah al) bu underlying28 AW ?_);rintro bR bS _ rfl bw;refine BY 0 bw Bv rfl rfl rfl (zg 6 rfl ?_);refine BJ underlying141 BD rfl rfl rfl (BJ underlying24 BQ rfl rfl rfl ?_);refine AD (v:= sV K p0.1 c2) rfl (fun ρ h=>Yl.load Cr (h _ _ rfl) (Vx (o:=0) (l:= [sV K p0.1 c2,sV O p0.2.1 U]) 0 am rfl rfl)) ?_;obtain⟨bT,bx,bz⟩:=bs bv;refine zg 1 rfl (Ce (av.Ah (Y.Ab al)) bx underlying22 BX ?_);rintro bU bV _ ⟨bW,bY,rfl,bA⟩ bB;refine BY 0 bB CQ rfl rfl rfl ?_;obtain⟨bZ,bC,bD⟩:=bs bz;refine BC (JU bA bC) rfl rfl Jf am fun b0 bE bF=>?_;obtain⟨a6,bG,bH⟩:=bs bD;refine AD (v:= uV a6) rfl (fun ρ h=>Kv (h _ _ rfl) (h _ _ rfl) bG) ?_;obtain⟨bI,bJ,bK⟩:=bs bH;refine zg 4 rfl (Bc bJ rfl rfl rfl ?_);refine zg 2 rfl ?_;obtain rfl:=oi bK;exact bo (a6,bI) (al.Ab bE) bF rfl ap
  ·refine JL.exit rfl ?_;obtain rfl:=oi br;obtain rfl:=bn _ ap;exact bm al am rfl
end Pal
namespace Pal
open Go Go.Conc Go.Proofs
open Go.Proofs.Tryz
variable {J:Judge Tryz.prog}{E:LH}
theorem YN:Tn Tryz.prog 138 .u16:=⟨_,underlying138,by decide+kernel,by decide,underlying102,rfl⟩
def K8(fuel:Nat)(K:(List (List Int))×(List (List Int))×(List Nat)×(List Nat)×Int):Option (Bi ((List (List Int))×(List (List Int))×(List Nat)×(List Nat)×Int) ((List (List Int))×(List (List Int))×(List Nat)×(List Nat))):= if K.2.2.2.2<12 then((As (K.2.2.2.2+1)).bind fun U=> (ix K.2.2.1 K.2.2.2.2).bind fun V=> (Lh fuel (K.1,K.2.1,K.2.2.1) V).bind fun O=> (ix K.2.2.2.1 U).bind fun Z=> (As (K.2.2.2.2+1)).bind fun Y=> some (.more (O.2.1,O.2.2.1,O.2.2.2,(K.2.2.2.1.set (Int.toNat U) O.1),Y))) else(some (.done (K.1,K.2.1,K.2.2.1,K.2.2.2.1)))
def Nc(fuel:Nat)(O:BT):Option (Bi BT (((Option BT))⊕Unit)):= Option.bind (iter (K8 fuel) fuel (O.1,O.2.1,O.2.2,O.2.2,0)) fun K=> if K.2.2.2≠K.2.2.1 then(some (.more (K.1,K.2.1,K.2.2.2))) else(some (.done (Sum.inl (some (K.1,K.2.1,K.2.2.1)))))
def f92(fuel:Nat)(p0:A2):Option ((Option BT)):= (ix (List.replicate 13 (0:Nat)) (0)).bind fun O=> Option.bind (iter (Nc fuel) fuel (p0.1,p0.2,((List.replicate 13 (0:Nat)).set (Int.toNat 0) 1))) fun K=> Sum.elim (fun r=>some r) (fun U=>none) K
theorem No{a4:An}{c2:Nat}{a5:An}{a6:Nat}{p0:A2}(bW:Al (rL rI) E a4 c2 p0.1)(bY:Al (rL rI) E a5 a6 p0.2){fuel:Nat}{r:(Option BT)}(bC:f92 fuel p0=some r):AK J 92 [.agg #[sV a4 p0.1 c2,sV a5 p0.2 a6]] E [] (fun w E' B'=>∃(bD:Value),w=bD∧B'= []∧Kb (rP (rL (rL rI)) (rP (rL (rL rI)) (rA 13 (rN .u16)))) E' bD r):=by
 refine A3 func92 fun Q cX cs H bZ b0=>?_;unfold f92 at bC;refine zg 2 rfl (B4 bZ fun cY a7 bv b1 b2=>?_);refine zg 5 rfl (BO b1 BW BD rfl rfl ?_);refine AD (v:= .agg (([sV a4 p0.1 c2,sV a5 p0.2 a6]:List Value)++(List.replicate 13 (uV 0):List Value)).toArray) rfl (fun ρ h=>Dg [(0,2),(2,13)] h (Du type141) underlying141 ⟨rfl,Bu type24,rfl,Bu type139,trivial⟩ rfl rfl) (JS.box (v:= .agg (([sV a4 p0.1 c2,sV a5 p0.2 a6]:List Value)++(List.replicate 13 (uV 0):List Value)).toArray) rfl rfl rfl b2 rfl fun U b3=>?_);refine zg 6 rfl (BJ underlying141 Ga rfl rfl rfl ?_);obtain⟨cZ,bw,b4⟩:=bs bC;obtain⟨_,rfl,_,_,c0⟩:=Ip (kk:=13) (pp:=(rN .u16)) (JN (E:=a7) (pp:=(rN .u16)) rfl) bw;refine AD (v:= .pointer (some ⟨U,2+Int.toNat (0)*1,none⟩)) rfl (fun ρ h=>Js (kk:=13) (pp:=(rN .u16)) (JN (E:=a7) (pp:=(rN .u16)) rfl) bw underlying139 Ib (h _ _ rfl) (h _ _ rfl)) (BJ underlying138 Ek rfl rfl rfl ?_);have bm:=OW (us:= [uV 1]) (y:=1) (JN (E:=a7) (pp:=(rN .u16)) rfl) bw rfl;refine Kt (v:= uV 1) (l:= [sV a4 p0.1 c2,sV a5 p0.2 a6]) (ws:=(List.replicate 13 (uV 0):List Value)) (us:= [uV 1]) (o:=Int.toNat (0)*1) 2 rfl rfl rfl b3 rfl rfl rfl Ek (by simp [Value.cells,CI]) rfl bm.2 fun bE=>?_;replace bm:=bm.1;generalize b5:Hw (List.replicate 13 (uV 0):List Value) (Int.toNat (0)*1) [uV 1]=bF at bE ⊢;have b6:(rA 13 (rN .u16)).r a7 bF ((List.replicate 13 (0:Nat)).set (Int.toNat 0) 1):=by rw [← b5];exact bm
 refine zg 2 rfl (JL.label ?_);obtain⟨c1,b7,b8⟩:=bs b4;refine Iy [(3,pV U 0)] rfl (Wm b7 (fun L s Z=>∃(V:LH) (bb:An) (bc:Nat) (bd:An) (be:Nat) (ag:List Value),Jn a7 H V [[(U,.cells (([sV bb Z.1 bc,sV bd Z.2.1 be]:List Value)++ag).toArray 141 (0,0))]] [(3,pV U 0)] L s (Al (rL rI) V bb bc Z.1∧Al (rL rI) V bd be Z.2.1∧(rA 13 (rN .u16)).r V ag Z.2.2)) ⟨a7,a4,c2,a5,a6,bF,rfl,rfl,Ar,bE,(bW.Ah bv),(bY.Ah bv),b6⟩ ?_);rintro _ _ Z ⟨V,bb,bc,bd,be,ag,rfl,rfl,bG,bH,b9,ca,aY⟩ cb ⟨c3,bx⟩ cc;have bI:=bx;unfold Nc at bI;refine zg 4 rfl (BJ underlying141 Ga rfl rfl rfl ?_);refine AD (v:= .agg ag.toArray) rfl (fun ρ h=>Kw (kk:=13) (pp:=(rN .u16)) aY LR Ga (h _ _ rfl) (Mm (l:= [sV bb Z.1 bc,sV bd Z.2.1 be]) 0 bH rfl)) (CF bH (Du type139) fun a8 cd=>?_);refine Kt (v:= .agg ag.toArray) (l:= []) (ws:=(List.replicate 13 (uV 0):List Value)) (us:=ag) (o:=0) 1 rfl rfl rfl cd rfl rfl rfl (by rw [Gg (kk:=13) (pp:=(rN .u16)) aY];exact Bu type139) ((rA 13 (rN .u16)).one aY) rfl (by rw [Gg (kk:=13) (pp:=(rN .u16)) aY,Gg (kk:=13) (pp:=(rN .u16)) (JN (E:=V) (pp:=(rN .u16)) rfl)];omega) fun bJ=>?_;rw [QO (by rw [Gg (kk:=13) (pp:=(rN .u16)) aY,Gg (kk:=13) (pp:=(rN .u16)) (JN (E:=V) (pp:=(rN .u16)) rfl)])] at bJ ⊢;obtain⟨K,ce,cf⟩:=bs bI;refine zg 6 rfl (Br (fun L s=>∃(aZ:LH) (a0:An) (a1:Nat) (al:An) (am:Nat) (a2:List Value) (ap:List Value),Jn V H aZ [bX U (([sV a0 K.1 a1,sV al K.2.1 am]:List Value)++a2).toArray 141,bX a8 (([]:List Value)++ap).toArray 139] [(3,pV U 0),(4,pV a8 0)] L s (Al (rL rI) aZ a0 a1 K.1∧Al (rL rI) aZ al am K.2.1∧(rA 13 (rN .u16)).r aZ a2 K.2.2.1∧(rA 13 (rN .u16)).r aZ ap K.2.2.2)) ?_ ?_)
 ·rintro _ _ ⟨aZ,a0,a1,al,am,a2,ap,rfl,rfl,bK,a9,bL,bM,bf,av⟩;refine zg 2 rfl (Dh 5 [a8,U] ⟨⟨1,_,rfl⟩,⟨0,_,rfl⟩,trivial⟩ a9 fun ht=>?_);refine BB (v:= .agg ap.toArray) 0 ht rfl rfl (fun ρ h s' hs=>Kw (kk:=13) (pp:=(rN .u16)) av LR Ga (h _ _ rfl) (Ol (l:= []) 1 a9 rfl (by simp [A5]) hs)) (A4 ht rfl [1,2] rfl ?_);refine B8 3 ht underlying141 Ga rfl rfl rfl rfl (BB (v:= .agg a2.toArray) 4 ht rfl rfl (fun ρ h s' hs=>Kw (kk:=13) (pp:=(rN .u16)) bf LR Ga (h _ _ rfl) (Ol (l:= [sV a0 K.1 a1,sV al K.2.1 am]) 0 a9 rfl (by simp [A5]) hs)) ?_);refine Ci [5] (AD (v:= .bool (decide (K.2.2.2≠K.2.2.1))) rfl (fun ρ h=>Vz underlying139 (by decide+kernel) YN Ib av bf (h _ _ rfl) (h _ _ rfl)) ?_);refine JL.done (AL cf (fun cg ci=>?_) (fun cg ck=>?_))
  ·refine zg 3 rfl (AD (v:= .agg ap.toArray) rfl (fun ρ h=>Kw (kk:=13) (pp:=(rN .u16)) av LR Ga (h _ _ rfl) (Mm (l:= []) 1 a9 rfl)) ?_);refine zg 1 rfl (BJ underlying141 Ga rfl rfl rfl ?_);refine Kt (v:= .agg ap.toArray) (l:= [sV a0 K.1 a1,sV al K.2.1 am]) (ws:=a2) (us:=ap) (o:=0) 0 rfl rfl rfl a9 rfl rfl rfl (by rw [Gg (kk:=13) (pp:=(rN .u16)) av];exact Bu type139) ((rA 13 (rN .u16)).one av) rfl (by rw [Gg (kk:=13) (pp:=(rN .u16)) av,Gg (kk:=13) (pp:=(rN .u16)) bf];omega) fun bN=>?_;rw [QO (by rw [Gg (kk:=13) (pp:=(rN .u16)) av,Gg (kk:=13) (pp:=(rN .u16)) bf])] at bN ⊢;refine JL.done (JL.goto rfl ?_);refine zg 2 rfl (JS.drop 1 bN rfl fun cm=>?_);obtain rfl:=oi ci;exact Az (cc _ _ (K.1,K.2.1,K.2.2.2) ⟨aZ,a0,a1,al,am,ap,rfl,rfl,(bG.Ab bK),cm,bL,bM,av⟩ bx) rfl
  ·refine zg 6 rfl (CV 0 a9 rfl fun c4 bn cn co=>?_);refine JS.drop 1 co rfl fun cp=>?_;obtain rfl:=oi ck;obtain rfl:=cb _ bx;have cq:=elim_inl b8;obtain rfl:=oi cq;exact AA func92 rfl rfl (b0 (((bv.Ab bG).Ab bK).Ab bn) rfl ⟨pV U 0,rfl,rfl,⟨_,_,_,rfl,cn,⟨[sV a0 K.1 a1],(([sV al K.2.1 am]:List Value)++a2),rfl,⟨_,_,rfl,(bL.Ah bn)⟩,⟨[sV al K.2.1 am],a2,rfl,⟨_,_,rfl,(bM.Ah bn)⟩,(Rp.Ah _ bn bf)⟩⟩⟩⟩ cp)
 ·intro cr;refine JL.block (CN ce (fun L s O=>∃(a3:LH) (bg:An) (bh:Nat) (bi:An) (bj:Nat) (bo:List Value) (ba:List Value),Jn V H a3 [bX U (([sV bg O.1 bh,sV bi O.2.1 bj]:List Value)++bo).toArray 141,bX a8 (([]:List Value)++ba).toArray 139] [(3,pV U 0),(4,pV a8 0),(18,iV O.2.2.2.2)] L s (Al (rL rI) a3 bg bh O.1∧Al (rL rI) a3 bi bj O.2.1∧(rA 13 (rN .u16)).r a3 bo O.2.2.1∧(rA 13 (rN .u16)).r a3 ba O.2.2.2.1)) ⟨V,bb,bc,bd,be,ag,ag,rfl,rfl,Ar,bJ,b9,ca,aY,aY⟩ ?_);rintro _ _ O ⟨a3,bg,bh,bi,bj,bo,ba,rfl,rfl,bO,bz,bP,bQ,bp,bq⟩ ct ⟨c5,bA⟩ cu;have bR:=bA;unfold K8 at bR;refine zg 5 rfl (AL bR (fun cv cw=>?_) (fun cv cy=>?_))
  ·obtain⟨bl,cz,cA⟩:=bs cw;refine zg 10 rfl (Bc cz rfl rfl rfl ?_);refine zg 4 rfl (BJ underlying141 Ga rfl rfl rfl ?_);obtain⟨cB,bS,cC⟩:=bs cA;obtain⟨_,rfl,_,_,cD⟩:=Ip (kk:=13) (pp:=(rN .u16)) bp bS;refine AD (v:= .pointer (some ⟨U,2+Int.toNat (O.2.2.2.2)*1,none⟩)) rfl (fun ρ h=>Js (kk:=13) (pp:=(rN .u16)) bp bS underlying139 Ib (h _ _ rfl) (h _ _ rfl)) (BJ underlying138 Ek rfl rfl rfl ?_);refine AD (v:= uV cB) rfl (fun ρ h=>Yl.load GO (h _ _ rfl) (U2 (l:= [sV bg O.1 bh,sV bi O.2.1 bj]) 0 bz rfl (cD 0 _ rfl))) ?_;obtain⟨Y,cE,cF⟩:=bs cC;refine BZ 0 (Yf bP bQ bp cE) rfl rfl (AS func121 rfl) bz rfl ?_;rintro _ bT _ br ⟨cG,cH,cI,cJ,J2,rfl,rfl,cK,cM,cN⟩ cO;obtain⟨c6,bB,cP⟩:=bs cF;obtain⟨_,rfl,_,_,c7⟩:=Ip (kk:=13) (pp:=(rN .u16)) (Rp.Ah _ br bq) bB;refine AD (v:= .pointer (some ⟨a8,0+Int.toNat (bl)*1,none⟩)) rfl (fun ρ h=>Js (kk:=13) (pp:=(rN .u16)) (Rp.Ah _ br bq) bB underlying139 Ib (h _ _ rfl) (h _ _ rfl)) (BJ underlying138 Ek rfl rfl rfl ?_);have bu:=OW (us:= [uV Y.1]) (y:=Y.1) (Rp.Ah _ br bq) bB rfl;refine Kt (v:= uV Y.1) (l:= []) (ws:=ba) (us:= [uV Y.1]) (o:=Int.toNat (bl)*1) 1 rfl rfl rfl cO rfl rfl rfl Ek (by simp [Value.cells,CI]) rfl bu.2 fun bU=>?_;replace bu:=bu.1;generalize cQ:Hw ba (Int.toNat (bl)*1) [uV Y.1]=bV at bU ⊢;have cR:(rA 13 (rN .u16)).r bT bV (O.2.2.2.1.set (Int.toNat bl) Y.1):=by rw [← cQ];exact bu
   obtain⟨cT,cV,cW⟩:=bs cP;refine zg 3 rfl (Bc cV rfl rfl rfl ?_);refine zg 2 rfl ?_;obtain rfl:=oi cW;exact Az (cu _ _ (Y.2.1,Y.2.2.1,Y.2.2.2,(O.2.2.2.1.set (Int.toNat bl) Y.1),cT) ⟨bT,cG,cH,cI,cJ,J2,bV,rfl,rfl,(bO.Ab br),bU,cK,cM,cN,cR⟩ bA) rfl
  ·refine JL.exit rfl ?_;obtain rfl:=oi cy;obtain rfl:=ct _ bA;exact Az (cr _ _ ⟨a3,bg,bh,bi,bj,bo,ba,rfl,rfl,bO,bz,bP,bQ,bp,bq⟩) rfl
end Pal
namespace Pal
open Go Go.Conc Go.Proofs
open Go.Proofs.Tryz
variable {J:Judge Tryz.prog}{E:LH}
def RY(fuel:Nat)(p0:BT)(O:Nat)(U:(List Int))(K:Int):Option (Bi Int ((Bool)⊕(Unit))):= if K<(U.length:Int) then((ix U K).bind fun V=> (f103 fuel O V).bind fun Y=> Option.bind (if Y=true then(some true) else((ix p0.2.1 V).bind fun Z=> (f120 fuel Z).bind fun ag=> (J8 O ag).bind fun al=> some (decide ((((al):Nat):Int)≠(((0):Nat):Int))))) fun am=> if am=true then(some (.done (Sum.inl true))) else((As (K+1)).bind fun ap=> some (.more ap))) else(some (.done (Sum.inr ())))
def f109(fuel:Nat)(p0:BT)(p1:Int)(p2:Int):Option Bool:= (ix p0.2.2 p2).bind fun K=> (ix p0.2.2 p1).bind fun O=> (f89 fuel O).bind fun U=> Option.bind (iter (RY fuel p0 K U) fuel 0) fun V=> Sum.elim (fun r=>some r) (fun Y=> some false) V
theorem Zx{k1:Nat}{o2:Nat}{O:An}{U:Nat}{V:An}{Y:Nat}{aY:List Value}{p0:BT}{p1:Int}{p2:Int}(av:At E k1 o2 (([sV O p0.1 U,sV V p0.2.1 Y]:List Value)++aY))(cf:Al (rL rI) E O U p0.1)(bi:Al (rL rI) E V Y p0.2.1)(aZ:(rA 13 (rN .u16)).r E aY p0.2.2){fuel:Nat}{r:Bool}(a0:f109 fuel p0 p1 p2=some r):AK J 109 [pV k1 o2,iV p1,iV p2] E [] (fun w E' B'=>w= .bool r∧B'= []):=by
 refine A3 func109 fun Q cg cs H bj a1=>?_;unfold f109 at a0;refine zg 9 rfl (BJ underlying141 Ga rfl rfl rfl ?_);obtain⟨a2,bl,bm⟩:=bs a0;refine OC (l:= [sV O p0.1 U,sV V p0.2.1 Y]) av aZ bl rfl rfl rfl rfl rfl underlying139 Ib ?_;rintro ci _ rfl bn;refine JL.fl 0 bn underlying138 Ek GO ?_;refine zg 8 rfl (BJ underlying141 Ga rfl rfl rfl ?_);obtain⟨ck,bo,bp⟩:=bs bm;refine OC (l:= [sV O p0.1 U,sV V p0.2.1 Y]) av aZ bo rfl rfl rfl rfl rfl underlying139 Ib ?_;rintro cm _ rfl bq;refine JL.fl 0 bq underlying138 Ek GO ?_;obtain⟨Z,br,bu⟩:=bs bp;refine BP (I6 br) rfl rfl IJ bj ?_;rintro _ bv _ ag ⟨a3,a4,rfl,rfl,bw⟩ bx;refine Bg underlying28 rfl rfl rfl ?_;obtain⟨a5,bz,a6⟩:=bs bu;refine zg 2 rfl (Br (fun L s=>∃(a7:Unit) (a8:LH),a5=Sum.inr a7∧Jm bv H a8 [] [] L s) ?_ ?_)
 ·rintro _ _ ⟨a7,a8,rfl,rfl,rfl,bA,bB⟩;have bC:=elim_inr a6;refine zg 4 rfl ?_;obtain rfl:=oi bC;exact AA func109 rfl rfl (a1 (ag.Ab bA) rfl ⟨rfl,rfl⟩ bB)
 ·intro bD;refine JL.block (Cx bz (fun al=> []) (fun al=> [(0,pV k1 o2),(7,uV a2),(24,sV a3 Z a4),(25,iV (Z.length:Int)),(26,iV al)]) Ar bx ?_);rintro al bE K a9 ba ⟨cn,am⟩ bF;have bb:=am;unfold RY at bb;refine zg 5 rfl (AL bb (fun bG bH=>?_) (fun bG bI=>?_))
  ·obtain⟨co,bJ,bK⟩:=bs bH;refine zg 5 rfl (Ce (bw.Ah K) bJ underlying28 AW ?_);rintro cp cq _ rfl bL;refine BY 0 bL Bv rfl rfl rfl ?_;obtain⟨cr,bM,bN⟩:=bs bK;refine zg 6 rfl (BC (OR bM) rfl rfl NV a9 fun bc ap bd=>?_);obtain⟨bO,bP,bQ⟩:=bs bN;refine zg 1 rfl (EC [] (fun L s=>∃(be:LH),Jm bc H be [] [(0,pV k1 o2),(7,uV a2),(24,sV a3 Z a4),(25,iV (Z.length:Int)),(26,iV al),(46,.bool bO)] L s) ?_ ?_)
   ·rintro _ _ ⟨be,rfl,rfl,bf,bg⟩;refine JL.done (BH bQ (fun bR bS=>?_) (fun bR bT=>?_))
    ·refine zg 4 rfl ?_;obtain rfl:=oi bS;obtain rfl:=ba _ am;have bU:=elim_inl a6;obtain rfl:=oi bU;exact AA func109 rfl rfl (a1 (((ag.Ab K).Ab ap).Ab bf) rfl ⟨rfl,rfl⟩ bg)
    ·obtain⟨bV,bW,bY⟩:=bs bT;refine zg 3 rfl (Bc bW rfl rfl rfl ?_);refine zg 2 rfl ?_;obtain rfl:=oi bY;exact bF bV ((K.Ab ap).Ab bf) bg rfl am
   ·intro bh;refine DZ 33 bP (fun bZ b0=>?_) (fun bZ b1=>?_)
    ·refine zg 13 rfl ?_;obtain rfl:=oi b0;exact Az (bh _ _ ⟨bc,rfl,rfl,Ar,bd⟩) rfl
    ·refine zg 3 rfl (BJ underlying141 BD rfl rfl rfl ?_);refine JL.fl 1 (av.Ah ((ag.Ab K).Ab ap)) underlying24 BQ Cr ?_;obtain⟨ct,b2,b3⟩:=bs b1;refine zg 1 rfl (Ce (bi.Ah ((ag.Ab K).Ab ap)) b2 underlying22 BX ?_);rintro cu cv _ ⟨cw,cy,rfl,b4⟩ b5;refine BY 0 b5 CQ rfl rfl rfl ?_;obtain⟨cz,b6,b7⟩:=bs b3;refine BC (JU b4 b6) rfl rfl Jf bd fun b8 b9 ca=>?_;obtain⟨cb,cc,cd⟩:=bs b7;refine AD (v:= uV cb) rfl (fun ρ h=>Oh (h _ _ rfl) (h _ _ rfl) cc) (zg 2 rfl ?_);obtain rfl:=oi cd;exact Az (bh _ _ ⟨b8,rfl,rfl,b9,ca⟩) rfl
  ·refine JL.exit rfl ?_;obtain rfl:=oi bI;have ce:a5=(Sum.inr ()):=(ba _ am).symm;exact Az (bD _ _ ⟨(),bE,ce,rfl,rfl,K,a9⟩) rfl
end Pal
namespace Pal
open Go Go.Conc Go.Proofs
open Go.Proofs.Tryz
variable {J:Judge Tryz.prog}{E:LH}
def Mv(fuel:Nat)(p0:List Int)(p1:Int)(K:Int):Option (Bi Int ((Int)⊕(Unit))):= if K<(p0.length:Int) then((ix p0 K).bind fun O=> if p1=O then(some (.done (Sum.inl K))) else((As (K+1)).bind fun U=> some (.more U))) else(some (.done (Sum.inr ())))
def f201(fuel:Nat)(p0:List Int)(p1:Int):Option Int:= Option.bind (iter (Mv fuel p0 p1) fuel 0) fun K=> Sum.elim (fun r=>some r) (fun O=> some (-1)) K
theorem ZB{U:An}{c2:Nat}{p0:List Int}{p1:Int}(a0:Al rI E U c2 p0){fuel:Nat}{r:Int}(Z:f201 fuel p0 p1=some r):AK J 201 [sV U p0 c2,iV p1] E [] (fun w E' B'=>w=iV r∧B'= []):=by
 refine A3 func201 fun Q bo cs H a1 ag=>?_;unfold f201 at Z;refine zg 8 rfl (Bg underlying28 rfl rfl rfl ?_);obtain⟨al,a2,am⟩:=bs Z;refine zg 2 rfl (Br (fun L s=>∃(ap:Unit) (av:LH),al=Sum.inr ap∧Jm E H av [] [] L s) ?_ ?_)
 ·rintro _ _ ⟨ap,av,rfl,rfl,rfl,a3,a4⟩;have a5:=elim_inr am;refine zg 4 rfl ?_;obtain rfl:=oi a5;exact AA func201 rfl rfl (ag a3 rfl ⟨rfl,rfl⟩ a4)
 ·intro a6;refine JL.block (Cx a2 (fun V=> []) (fun V=> [(0,sV U p0 c2),(1,iV p1),(7,iV (p0.length:Int)),(8,iV V)]) Ar a1 ?_);rintro V a7 K Y aY ⟨bp,O⟩ a8;have aZ:=O;unfold Mv at aZ;refine zg 5 rfl (AL aZ (fun a9 ba=>?_) (fun a9 bb=>?_))
  ·obtain⟨bq,bc,bd⟩:=bs ba;refine zg 13 rfl (Ce (a0.Ah K) bc underlying28 AW ?_);rintro br bu _ rfl be;refine BY 0 be Bv rfl rfl rfl (zg 2 rfl ?_);refine AL bd (fun bf bg=>?_) (fun bf bh=>?_)
   ·refine zg 5 rfl ?_;obtain rfl:=oi bg;obtain rfl:=aY _ O;have bi:=elim_inl am;obtain rfl:=oi bi;exact AA func201 rfl rfl (ag K rfl ⟨rfl,rfl⟩ Y)
   ·obtain⟨bj,bl,bm⟩:=bs bh;refine zg 3 rfl (Bc bl rfl rfl rfl ?_);refine zg 2 rfl ?_;obtain rfl:=oi bm;exact a8 bj K Y rfl O
  ·refine JL.exit rfl ?_;obtain rfl:=oi bb;have bn:al=(Sum.inr ()):=(aY _ O).symm;exact Az (a6 _ _ ⟨(),a7,bn,rfl,rfl,K,Y⟩) rfl
def f199(fuel:Nat)(p0:List Int)(p1:Int):Option Bool:= (f201 fuel p0 p1).bind fun K=> some (decide (0≤K))
theorem Zs{K:An}{c2:Nat}{p0:List Int}{p1:Int}(U:Al rI E K c2 p0){fuel:Nat}{r:Bool}(O:f199 fuel p0 p1=some r):AK J 199 [sV K p0 c2,iV p1] E [] (fun w E' B'=>w= .bool r∧B'= []):=by
 refine A3 func199 fun Q ap cs H V Y=>?_;unfold f199 at O;obtain⟨av,Z,ag⟩:=bs O;refine zg 8 rfl (BC (ZB U Z) rfl rfl (AS func201 rfl) V fun aY al am=>?_);refine zg 3 rfl ?_;obtain rfl:=oi ag;exact AA func199 rfl rfl (Y al rfl ⟨rfl,rfl⟩ am)
def f192(fuel:Nat)(p0:BT)(p1:Int)(p2:Int):Option ((Option (Int×Option Int))):= if p1=p2 then(some (some (p1,none))) else((ix p0.2.1 p1).bind fun K=> (f199 fuel K p2).bind fun O=> if O=true then(some (some (p1,some p2))) else(some none))
theorem ZR{k1:Nat}{o2:Nat}{O:An}{U:Nat}{V:An}{Y:Nat}{Z:List Value}{p0:BT}{p1:Int}{p2:Int}(aY:At E k1 o2 (([sV O p0.1 U,sV V p0.2.1 Y]:List Value)++Z))(bc:Al (rL rI) E O U p0.1)(aZ:Al (rL rI) E V Y p0.2.1)(bd:(rA 13 (rN .u16)).r E Z p0.2.2){fuel:Nat}{r:(Option (Int×Option Int))}(ag:f192 fuel p0 p1 p2=some r):AK J 192 [pV k1 o2,iV p1,iV p2] E [] (fun w E' B'=>∃(al:Value),w=al∧B'= []∧Pv 257 259 al r):=by
 refine A3 func192 fun Q be cs H am K=>?_;unfold f192 at ag;refine zg 13 rfl (AL ag (fun a0 a1=>?_) (fun a0 a2=>?_))
 ·refine zg 3 rfl (AD (v:= .agg #[iV p1]) rfl (fun ρ h=>Dg [(0,1)] h (Du type257) underlying257 ⟨rfl,Bu type3,trivial⟩ rfl rfl) ?_);refine AD (v:= .iface 257 (.agg #[iV p1])) rfl (fun ρ h=>EV underlying257 (fun _ h=>by cases h) (h _ _ rfl)) (zg 2 rfl ?_);obtain rfl:=oi a1;exact AA func192 rfl rfl (K Ar rfl ⟨.iface 257 (.agg #[iV p1]),rfl,rfl,rfl⟩ am)
 ·refine zg 4 rfl (BJ underlying141 BD rfl rfl rfl ?_);refine JL.fl 1 aY underlying24 BQ Cr ?_;obtain⟨bf,a3,a4⟩:=bs a2;refine zg 1 rfl (Ce aZ a3 underlying22 BX ?_);rintro bg bh _ ⟨bi,bj,rfl,a5⟩ a6;refine BY 0 a6 CQ rfl rfl rfl ?_;obtain⟨bl,a7,a8⟩:=bs a4;refine zg 1 rfl (BC (Zs a5 a7) rfl rfl (AS func199 rfl) am fun bm ap av=>?_);refine zg 2 rfl (BH a8 (fun a9 ba=>?_) (fun a9 bb=>?_))
  ·refine zg 4 rfl (AD (v:= .agg #[iV p1,iV p2]) rfl (fun ρ h=>Dg [(0,1),(1,1)] h (Du type259) underlying259 ⟨rfl,Bu type3,rfl,Bu type3,trivial⟩ rfl rfl) ?_);refine AD (v:= .iface 259 (.agg #[iV p1,iV p2])) rfl (fun ρ h=>EV underlying259 (fun _ h=>by cases h) (h _ _ rfl)) (zg 2 rfl ?_);obtain rfl:=oi ba;exact AA func192 rfl rfl (K ap rfl ⟨.iface 259 (.agg #[iV p1,iV p2]),rfl,rfl,rfl⟩ av)
  ·refine zg 6 rfl ?_;obtain rfl:=oi bb;exact AA func192 rfl rfl (K ap rfl ⟨.nilIface,rfl,rfl,rfl⟩ av)
end Pal
namespace Pal
open Go Go.Conc Go.Proofs
open Go.Proofs.Tryz
variable {J:Judge Tryz.prog}{E:LH}
def Ll(fuel:Nat)(p0:(BT)×(AI)×Ca):Option Int:= if(p0.2.1.length:Int)=0 then(some 0) else((As ((p0.2.1.length:Int) - 1)).bind fun K=> (ix p0.2.1 K).bind fun O=> some O.1)
theorem Xy{bk:Nat}{k1:Nat}{o2:Nat}{Z:An}{ag:Nat}{al:An}{am:Nat}{ap:List Value}{O:An}{U:Nat}{V:An}{Y:Nat}{p0:(BT)×(AI)×Ca}(a8:At E k1 o2 (([sV Z p0.1.1 ag,sV al p0.1.2.1 am]:List Value)++ap))(a9:Al (rL rI) E Z ag p0.1.1)(ba:Al (rL rI) E al am p0.1.2.1)(bb:(rA 13 (rN .u16)).r E ap p0.1.2.2)(aZ:Al Bo E O U p0.2.1)(bc:Al rI E V Y p0.2.2.2.1){fuel:Nat}{r:Int}(av:Ll fuel p0=some r):AK J 154 [pV bk 0] E [(bk,.cells #[pV k1 o2,sV O p0.2.1 U,iV p0.2.2.1,sV V p0.2.2.2.1 Y,uV p0.2.2.2.2] 175 (0,0))] (fun w E' B'=>w=iV r∧B'= [(bk,.cells #[pV k1 o2,sV O p0.2.1 U,iV p0.2.2.1,sV V p0.2.2.2.1 Y,uV p0.2.2.2.2] 175 (0,0))]):=by
 refine A3 func154 fun Q bd cs H K aY=>?_;unfold Ll at av;refine zg 9 rfl (BJ underlying175 Hg rfl rfl rfl ?_);refine AD (v:= sV O p0.2.1 U) rfl (fun ρ h=>Yl.load HE (h _ _ rfl) (DU (j:=0) (off:=1) K rfl rfl)) (Bg underlying25 rfl rfl rfl ?_);refine zg 2 rfl (AL av (fun a0 a1=>?_) (fun a0 a2=>?_))
 ·refine zg 4 rfl ?_;obtain rfl:=oi a1;exact AA func154 rfl rfl (aY Ar rfl ⟨rfl,rfl⟩ K)
 ·refine zg 2 rfl (Dh 10 [bk] ⟨⟨0,_,rfl⟩,trivial⟩ K fun ht=>?_);refine A4 ht rfl [0,1] rfl (B8 2 ht underlying175 Hg rfl rfl rfl rfl ?_);refine Fb 3 ht 1 0 K HE ?_;refine A4 ht rfl [4,5] rfl (B8 6 ht underlying175 Hg rfl rfl rfl rfl ?_);refine Fb 7 ht 1 0 K HE ?_;refine BB 8 ht rfl rfl (fun ρ h s' hs=>Yl.len rfl underlying25 (h _ _ rfl)) ?_;obtain⟨be,a3,a4⟩:=bs a2;refine BB 9 ht rfl rfl (fun ρ h s' hs=>Db (h _ _ rfl) (h _ _ rfl) a3) (Ci [10,11,12,13] ?_);obtain⟨bf,a5,a6⟩:=bs a4;refine Ce aZ a5 underlying25 Cc ?_;rintro bg bh _ ⟨_,_,rfl,rfl,rfl⟩ a7;refine JL.fl 0 a7 underlying27 AW Bv ?_;refine zg 2 rfl ?_;obtain rfl:=oi a6;exact AA func154 rfl rfl (aY Ar rfl ⟨rfl,rfl⟩ K)
def Mo(fuel:Nat)(p0:(BT)×(AI)×Ca)(p1:Int)(p2:Int)(K:Nat×Int):Option (Bi (Nat×Int) ((Nat×Bool)⊕(Nat))):= if K.2<(p0.2.1.length:Int) then(Option.bind ((ix p0.2.1 K.2).bind fun O=> if O.1≠p1 then(some (Sum.inr K.1)) else((f192 fuel p0.1 p2 O.2).bind fun U=> Option.bind (if J7 U=true then(some (Sum.inr K.1)) else(if LD U=true then((f90 fuel K.1 K.2).bind fun V=> some (Sum.inr V)) else(some (Sum.inl (0,false))))) fun Y=>Sum.elim (fun r=>some (Sum.inl r)) (fun Z=> some (Sum.inr Z)) Y)) fun ag=>Sum.elim (fun r=>some (.done (Sum.inl r))) (fun al=> (As (K.2+1)).bind fun am=> some (.more (al,am))) ag) else(some (.done (Sum.inr K.1)))
def Lr(fuel:Nat)(p0:(BT)×(AI)×Ca)(p1:Int)(p2:Int):Option (Nat×Bool):= Option.bind (iter (Mo fuel p0 p1 p2) fuel (0,0)) fun K=> Sum.elim (fun r=>some r) (fun O=> some (O,true)) K
theorem W6{bk:Nat}{k1:Nat}{o2:Nat}{a2:An}{a3:Nat}{a4:An}{a5:Nat}{a6:List Value}{K:An}{O:Nat}{Y:An}{Z:Nat}{p0:(BT)×(AI)×Ca}{p1:Int}{p2:Int}(br:At E k1 o2 (([sV a2 p0.1.1 a3,sV a4 p0.1.2.1 a5]:List Value)++a6))(bu:Al (rL rI) E a2 a3 p0.1.1)(bv:Al (rL rI) E a4 a5 p0.1.2.1)(bw:(rA 13 (rN .u16)).r E a6 p0.1.2.2)(bx:Al Bo E K O p0.2.1)(cq:Al rI E Y Z p0.2.2.2.1){fuel:Nat}{r:Nat×Bool}(a7:Lr fuel p0 p1 p2=some r):AK J 174 [pV bk 0,iV p1,iV p2] E [(bk,.cells #[pV k1 o2,sV K p0.2.1 O,iV p0.2.2.1,sV Y p0.2.2.2.1 Z,uV p0.2.2.2.2] 175 (0,0))] (fun w E' B'=>w= .tuple #[uV r.1,.bool r.2]∧B'= [(bk,.cells #[pV k1 o2,sV K p0.2.1 O,iV p0.2.2.1,sV Y p0.2.2.2.1 Z,uV p0.2.2.2.2] 175 (0,0))]):=by
 refine A3 func174 fun Q cr cs H a8 a9=>?_;unfold Lr at a7;refine zg 11 rfl (JL.label ?_);refine zg 5 rfl (BJ underlying175 Hg rfl rfl rfl ?_);refine AD (v:= sV K p0.2.1 O) rfl (fun ρ h=>Yl.load HE (h _ _ rfl) (DU (j:=0) (off:=1) a8 rfl rfl)) (Bg underlying25 rfl rfl rfl ?_);obtain⟨ba,bz,bb⟩:=bs a7;refine zg 2 rfl (Br (fun L s=>∃(aZ:Nat) (bc:LH),ba=Sum.inr aZ∧Jm E H bc [bX bk #[pV k1 o2,sV K p0.2.1 O,iV p0.2.2.1,sV Y p0.2.2.2.1 Z,uV p0.2.2.2.2] 175] [(8,uV aZ)] L s) ?_ ?_)
 ·rintro _ _ ⟨aZ,bc,rfl,rfl,rfl,bA,bB⟩;have bC:=elim_inr bb;refine zg 6 rfl ?_;obtain rfl:=oi bC;exact AA func174 rfl rfl (a9 bA rfl ⟨rfl,rfl⟩ bB)
 ·intro bD;refine JL.block (Cx bz (fun U=> [bX bk #[pV k1 o2,sV K p0.2.1 O,iV p0.2.2.1,sV Y p0.2.2.2.1 Z,uV p0.2.2.2.2] 175]) (fun U=> [(0,pV bk 0),(1,iV p1),(2,iV p2),(8,uV U.1),(14,sV K p0.2.1 O),(15,iV (p0.2.1.length:Int)),(16,iV U.2)]) Ar a8 ?_);rintro U bd V be bf ⟨ct,am⟩ bE;have bg:=am;unfold Mo at bg;refine zg 5 rfl (AL bg (fun bF bG=>?_) (fun bF bH=>?_))
  ·obtain⟨bI,bJ,bh⟩:=bs bG;refine zg 2 rfl (Br (fun L s=>∃(ap:Nat) (bi:LH),bI=Sum.inr ap∧Jm bd H bi [bX bk #[pV k1 o2,sV K p0.2.1 O,iV p0.2.2.1,sV Y p0.2.2.2.1 Z,uV p0.2.2.2.2] 175] [(0,pV bk 0),(1,iV p1),(2,iV p2),(8,uV ap),(14,sV K p0.2.1 O),(15,iV (p0.2.1.length:Int)),(16,iV U.2)] L s) ?_ ?_)
   ·rintro _ _ ⟨ap,bi,rfl,rfl,rfl,bK,bL⟩;have bM:=elim_inr bh;obtain⟨bN,bO,bP⟩:=bs bM;refine JL.region (Bc bO rfl rfl rfl ?_);refine zg 2 rfl ?_;obtain rfl:=oi bP;exact bE (ap,bN) (V.Ab bK) bL rfl am
   ·intro bj;obtain⟨cu,bQ,bR⟩:=bs bJ;refine zg 4 rfl (Ce (bx.Ah V) bQ underlying25 Cc ?_);rintro cv cw _ ⟨_,_,rfl,rfl,rfl⟩ bS;refine BO bS Gs Cc rfl rfl (CF be Er fun cy bT=>?_);refine zg 1 rfl (BR 1 bT Cc fun bU=>?_);refine CV 1 bU rfl fun bV ag bl al=>zg 4 rfl (JL.fl 0 bl underlying27 AW Bv ?_);refine zg 3 rfl (AL bR (fun bW bY=>?_) (fun bW bZ=>?_))
    ·exact JL.exit rfl (Az (bj _ _ ⟨U.1,bV,(Option.some.inj bY).symm,rfl,rfl,ag,al⟩) rfl)
    ·refine zg 2 rfl (Dh 7 [bk] ⟨⟨0,_,rfl⟩,trivial⟩ al fun ht=>?_);refine A4 ht rfl [0,1] rfl (B8 2 ht underlying175 NZ rfl rfl rfl rfl ?_);refine Fb 3 ht 0 0 al LU ?_;refine Cj 4 ht rfl rfl (B8 5 ht underlying27 AW rfl rfl rfl rfl ?_);refine JG.lp 6 ht 1 bl al ⟨⟨0,_,rfl⟩,trivial⟩ Bv ?_;refine Ci [7] ?_;obtain⟨av,b0,b1⟩:=bs bZ;refine BP (ZR (br.Ah (V.Ab ag)) (bu.Ah (V.Ab ag)) (bv.Ah (V.Ab ag)) (Rp.Ah _ (V.Ab ag) bw) b0) rfl rfl (AS func192 rfl) al ?_;rintro _ bm _ bn ⟨cz,rfl,rfl,bo⟩ a0;refine zg 4 rfl (AD (v:= .tuple #[(Pw av),.bool (J7 av)]) rfl (fun ρ h=>Uk (t2:=259) underlying257 (Du type257) (by decide) bo (h _ _ rfl)) ?_);obtain⟨b2,b3,bp⟩:=bs b1;refine zg 3 rfl (Br (fun L s=>∃(aY:Nat) (a1:LH),b2=Sum.inr aY∧Jm bm H a1 [bX bk #[pV k1 o2,sV K p0.2.1 O,iV p0.2.2.1,sV Y p0.2.2.2.1 Z,uV p0.2.2.2.2] 175] [(0,pV bk 0),(1,iV p1),(2,iV p2),(8,uV aY),(14,sV K p0.2.1 O),(15,iV (p0.2.1.length:Int)),(16,iV U.2)] L s) ?_ ?_)
     ·rintro _ _ ⟨aY,a1,rfl,rfl,rfl,b4,b5⟩;have b6:=elim_inr bp;exact zg 2 rfl (Az (bj _ _ ⟨aY,a1,(Option.some.inj b6).symm,rfl,rfl,((ag.Ab bn).Ab b4),b5⟩) rfl)
     ·intro bq;refine BH b3 (fun b7 b8=>?_) (fun b7 b9=>?_)
      ·exact JL.skip (Az (bq _ _ ⟨U.1,bm,(Option.some.inj b8).symm,rfl,rfl,Ar,a0⟩) rfl)
      ·refine zg 2 rfl (AD (v:= .tuple #[(Pz av),.bool (LD av)]) rfl (fun ρ h=>Uo (t1:=257) underlying259 (Du type259) (by decide) bo (h _ _ rfl)) ?_);refine zg 3 rfl (BH b9 (fun ca cb=>?_) (fun ca cc=>?_))
       ·obtain⟨cd,ce,cf⟩:=bs cb;refine zg 3 rfl (BC (Nq ce) rfl rfl L3 a0 fun cg ci ck=>?_);exact zg 2 rfl (Az (bq _ _ ⟨cd,cg,(Option.some.inj cf).symm,rfl,rfl,ci,ck⟩) rfl)
       ·refine zg 5 rfl ?_;obtain rfl:=oi cc;have cm:=elim_inl bp;obtain rfl:=oi cm;have cn:=elim_inl bh;obtain rfl:=oi cn;obtain rfl:=bf _ am;have co:=elim_inl bb;obtain rfl:=oi co;exact AA func174 rfl rfl (a9 ((V.Ab ag).Ab bn) rfl ⟨rfl,rfl⟩ a0)
  ·refine JL.exit rfl ?_;obtain rfl:=oi bH;have cp:ba=(Sum.inr U.1):=(bf _ am).symm;exact Az (bD _ _ ⟨U.1,bd,cp,rfl,rfl,V,be⟩) rfl
end Pal
namespace Pal
open Go Go.Conc Go.Proofs
open Go.Proofs.Tryz
variable {J:Judge Tryz.prog}{E:LH}
def Lm(fuel:Nat)(p0:List Int):Option ((List Int)):= (Dd ([]:List Int) p0).bind fun K=> some K
theorem Xo{ad:Addr}{c2:Nat}{p0:List Int}(V:Al rI E (some ad) c2 p0){fuel:Nat}{r:(List Int)}(K:Lm fuel p0=some r):AK J 175 [.slice (some ad) p0.length c2] E [] (fun w E' B'=>∃(O:An) (U:Nat) (g0:Seg),w= sV O r U∧B'=g0∧OL 3 rI E' O U g0 r):=by
 refine A3 func175 fun Q a2 cs H Y Z=>?_;unfold Lm at K;refine zg 8 rfl (AD (v:= .bool false) rfl (fun ρ h=>Mj (a:=(some ad)) underlying28 (h _ _ rfl) (h _ _ rfl)) ?_);refine zg 5 rfl (KX (pp:=rI) rfl rfl rfl underlying28 AW Y fun a3 g2 ag al=>?_);obtain⟨a4,am,ap⟩:=bs K;refine zg 1 rfl (KN (pp:=rI) 1 am rfl rfl rfl rfl rfl rfl rfl underlying28 underlying28 AW (CR type3) CM rfl (by decide) (by decide) ag V al rfl fun av aY aZ a0 a1=>?_);refine zg 2 rfl ?_;obtain rfl:=oi ap;exact AA func175 rfl rfl (Z Ar rfl ⟨av,aY,aZ,rfl,(by first | rfl | simp | (simp [Value.cells])),a0⟩ a1)
def S6(fuel:Nat)(p0:List Int):Option ((List Int)):= some ([])
theorem WO{c2:Nat}{p0:List Int}(Z:Al rI E none c2 p0){fuel:Nat}{r:(List Int)}(K:S6 fuel p0=some r):AK J 175 [sV none p0 c2] E [] (fun w E' B'=>∃(O:An) (U:Nat) (g0:Seg),w= sV O r U∧B'=g0∧OL 3 rI E' O U g0 r):=by
 refine A3 func175 fun Q ag cs H V Y=>?_;unfold S6 at K;refine zg 8 rfl (AD (v:= .bool true) rfl (fun ρ h=>Mj (a:=none) underlying28 (h _ _ rfl) (h _ _ rfl)) ?_);refine zg 6 rfl ?_;obtain rfl:=oi K;exact AA func175 rfl rfl (Y Ar rfl ⟨none,0,[],rfl,rfl,OL.nil⟩ V)
def f175(fuel:Nat)(p0:List Int):Option (List Int):=Lm fuel p0
theorem SR{O:An}{c2:Nat}{p0:List Int}(U:Al rI E O c2 p0){fuel:Nat}{r:List Int}(K:f175 fuel p0=some r):AK J 175 [.slice O p0.length c2] E [] (fun w E' B'=>∃(V:An) (Y:Nat) (g0:Seg),w= .slice V r.length Y∧B'=g0∧OL 3 rI E' V Y g0 r):=by
 cases O with
 | some ad=>exact Xo U K
 | none=>
  have Z:p0= []:=by
   rcases U.2 with h | ⟨_,_,h,_⟩
   ·exact h.1
   ·cases h
  subst Z;have ag:r= []:=by
   have al:Lm fuel []=some []:=rfl;unfold f175 at K;rw [al] at K;exact(Option.some.inj K).symm
  subst ag;exact WO (fuel:=fuel) U rfl
end Pal
namespace Pal
open Go Go.Conc Go.Proofs
open Go.Proofs.Tryz
def IB(fuel:Nat)(le:Int)(all:List (Ca))(tr:(Ca))(O:Int):Option (Int×List (Ca)):=
 Option.bind (
  if((all).length:Int)=0 then(
   some true
  ) else(
   some (decide (O<le))
  )
 ) fun U=>
 Option.bind (
  if U=true then(
   some (O,[])
  ) else(
   some (le,all)
  )
 ) fun K=>
 Option.bind (
  if O=K.1 then(
   (Dd K.2 ([tr]:List (Ca))).bind fun V=>
   some V
  ) else(
   some K.2
  )
 ) fun Y=>
 some (K.1,Y)
theorem Zq{J:Judge Tryz.prog}{E:LH}{bk:Nat}{age:Int}{le:Int}{a:An}{c:Nat}{g:Seg}{all:List (Ca)}(bh:OL 104 Dp E a c g all){Y:An}{Z:Nat}{tr:(Ca)}(bi:Al rI E Y Z tr.2.1){ag:Int}{fuel:Nat}{r:Int×List (Ca)}(a7:IB fuel le all tr ag=some r):
  AK J 122 [pV bk 1,.agg #[iV tr.1,.slice Y tr.2.1.length Z,uV tr.2.2],iV ag] E ([(bk,.cells #[iV age,iV le,.slice a all.length c] 133 (0,0))]++g) (fun w E' B'=>∃a8 a9 g',w= .tuple #[]∧B'= [(bk,.cells #[iV age,iV r.1,.slice a8 r.2.length a9] 133 (0,0))]++g'∧OL 104 Dp E' a8 a9 g' r.2):=by
 refine A3 func122 fun Q bZ cs H a2 bj=>?_;refine DG (S':= [[(bk,.cells #[iV age,iV le,.slice a all.length c] 133 (0,0))],g]) (by simp) a2 fun a2=>?_;unfold IB at a7;refine zg 2 rfl (B4 a2 fun ba a3 a4 bl al=>?_);refine zg 6 rfl (BJ underlying97 Dt rfl rfl rfl ?_);refine AD (v:= sV a all c) rfl (fun ρ h=>Yl.load EN (h _ _ rfl) (DU (j:=0) (off:=2) al rfl rfl)) (Bg underlying95 rfl rfl rfl ?_);obtain⟨bm,bn,bo⟩:=bs a7;refine zg 2 rfl (EC [] (fun L s=>∃(U:LH),Jm a3 H U [bX bk #[iV age,iV le,sV a all c] 133,g] [(0,pV bk 1),(2,iV ag),(4,pV ba 0),(19,.bool bm)] L s) ?_ ?_)
 ·rintro _ _ ⟨U,rfl,rfl,am,bb⟩;obtain⟨V,bp,bq⟩:=bs bo;refine JL.done (Br (fun L s=>∃(K:LH) (ap:An) (av:Nat) (aY:Seg),Jn U H K [bX bk #[iV age,iV V.1,sV ap V.2 av] 133,aY] [(0,pV bk 1),(2,iV ag),(4,pV ba 0)] L s (OL 104 Dp K ap av aY V.2)) ?_ ?_)
  ·rintro _ _ ⟨K,ap,av,aY,rfl,rfl,a5,O,bc⟩;refine zg 5 rfl (BJ underlying97 AW rfl rfl rfl ?_);refine AD (v:=iV V.1) rfl (fun ρ h=>Yl.load Bv (h _ _ rfl) (DU (j:=0) (off:=1) O rfl rfl)) ?_;obtain⟨bd,br,bu⟩:=bs bq;refine zg 2 rfl (Br (fun L s=>∃(a6:LH) (aZ:An) (a0:Nat) (a1:Seg),Jn K H a6 [bX bk #[iV age,iV V.1,sV aZ bd a0] 133,a1] [] L s (OL 104 Dp a6 aZ a0 a1 bd)) ?_ ?_)
   ·rintro _ _ ⟨a6,aZ,a0,a1,rfl,rfl,bv,bw,bx⟩;obtain rfl:=oi bu;exact JL.fin (v:= .tuple #[]) rfl rfl (Co.list func122 rfl (vs:= []) trivial) (bj (((a4.Ab am).Ab a5).Ab bv) rfl ⟨aZ,a0,a1,rfl,by simp,bx⟩ bw)
   ·intro be;refine AL br (fun bz bA=>?_) (fun bz bB=>?_)
    ·refine Dh 8 [bk] ⟨⟨0,_,rfl⟩,trivial⟩ O fun ht=>A4 ht rfl [0,1,2] rfl (B8 3 ht underlying97 Dt rfl rfl rfl rfl ?_);refine Fb 4 ht 2 0 O EN ?_;refine BB 5 ht rfl rfl (fun ρ h s' hs=>FY (vs:= [iV tr.1,sV Y tr.2.1 Z,uV tr.2.2]) FT Cs (h _ _ rfl) (At.O2 (bl.Ah (am.Ab a5)) (O7 O hs ⟨⟨0,_,rfl⟩,trivial⟩))) ?_;obtain⟨b0,bC,bD⟩:=bs bA;refine JG.one (i:=6) rfl (by decide+kernel) (Take.lit (pp:=Dp) (jp:=0) [.agg #[iV tr.1,sV Y tr.2.1 Z,uV tr.2.2]] ([tr]:List Ca) O rfl rfl rfl rfl underlying95 Cs GR (by decide) rfl rfl rfl ⟨⟨_,_,rfl,rfl,⟨_,_,rfl,⟨_,_,rfl,(bi.Ah ((a4.Ab am).Ab a5))⟩,rfl⟩⟩,trivial⟩ fun b1 b2 bE bF=>?_);refine JG.one (i:=7) rfl (by decide+kernel) (Take.app (pp:=Dp) (jp:=0) 1 2 bF rfl bC rfl rfl rfl rfl rfl rfl rfl underlying95 underlying95 Cs (CR type104) GR rfl (by decide) (by decide) bc bE rfl rfl rfl rfl fun bG bH b3 bI bJ bK=>?_);refine Ci [8,9,10] (EO 1 rfl bK fun bL=>?_);refine JS.drop 1 bL rfl fun bM=>zg 1 rfl (BJ underlying97 Dt rfl rfl rfl ?_);refine BR 0 bM Dt fun bN=>?_;refine JL.done (JS.drop 2 bN rfl fun bO=>?_);obtain rfl:=oi bD;exact Az (be _ _ ⟨K,bG,bH,bI,rfl,rfl,Ar,bO,bJ⟩) rfl
    ·refine JL.skip ?_;obtain rfl:=oi bB;exact Az (be _ _ ⟨K,ap,av,aY,rfl,rfl,Ar,O,bc⟩) rfl
  ·intro bf;refine BH bp (fun bP bQ=>?_) (fun bP bR=>?_)
   ·refine zg 5 rfl (BJ underlying97 AW rfl rfl rfl ?_);refine BR 0 bb AW fun bS=>?_;refine zg 1 rfl (BJ underlying97 Dt rfl rfl rfl ?_);refine BR 0 bS Dt fun bT=>?_;refine JL.done (JS.drop 1 bT rfl fun bU=>?_);obtain rfl:=oi bQ;exact Az (bf _ _ ⟨U,none,0,[],rfl,rfl,Ar,bU,OL.nil⟩) rfl
   ·refine JL.skip ?_;obtain rfl:=oi bR;exact Az (bf _ _ ⟨U,a,c,g,rfl,rfl,Ar,bb,(bh.Ah (a4.Ab am))⟩) rfl
 ·intro bg;refine Ee 12 bn (fun bV bW=>?_) (fun bV bY=>?_)
  ·refine zg 7 rfl ?_;obtain rfl:=oi bW;exact Az (bg _ _ ⟨a3,rfl,rfl,Ar,al⟩) rfl
  ·refine zg 3 rfl (BJ underlying97 AW rfl rfl rfl ?_);refine AD (v:=iV le) rfl (fun ρ h=>Yl.load Bv (h _ _ rfl) (DU (j:=0) (off:=1) al rfl rfl)) (zg 2 rfl ?_);obtain rfl:=oi bY;exact Az (bg _ _ ⟨a3,rfl,rfl,Ar,al⟩) rfl
theorem Zk{J:Judge Tryz.prog}{E:LH}{bk:Nat}{age:Int}{le:Int}{a:An}{c:Nat}{g:Seg}{all:List (Ca)}(bh:OL 104 Dp E a c g all){Y:An}{Z:Nat}{tr:(Ca)}(bi:Al rI E Y Z tr.2.1){ag:Int}{fuel:Nat}{r:Int×List (Ca)}(a7:IB fuel le all tr ag=some r):
  AK J 122 [pV bk 0,.agg #[iV tr.1,.slice Y tr.2.1.length Z,uV tr.2.2],iV ag] E ([(bk,.cells #[iV le,.slice a all.length c] 97 (0,0))]++g) (fun w E' B'=>∃a8 a9 g',w= .tuple #[]∧B'= [(bk,.cells #[iV r.1,.slice a8 r.2.length a9] 97 (0,0))]++g'∧OL 104 Dp E' a8 a9 g' r.2):=by
 refine A3 func122 fun Q bZ cs H a2 bj=>?_;refine DG (S':= [[(bk,.cells #[iV le,.slice a all.length c] 97 (0,0))],g]) (by simp) a2 fun a2=>?_;unfold IB at a7;refine zg 2 rfl (B4 a2 fun ba a3 a4 bl al=>?_);refine zg 6 rfl (BJ underlying97 Dt rfl rfl rfl ?_);refine AD (v:= sV a all c) rfl (fun ρ h=>Yl.load EN (h _ _ rfl) (DU (j:=0) (off:=1) al rfl rfl)) (Bg underlying95 rfl rfl rfl ?_);obtain⟨bm,bn,bo⟩:=bs a7;refine zg 2 rfl (EC [] (fun L s=>∃(U:LH),Jm a3 H U [bX bk #[iV le,sV a all c] 97,g] [(0,pV bk 0),(2,iV ag),(4,pV ba 0),(19,.bool bm)] L s) ?_ ?_)
 ·rintro _ _ ⟨U,rfl,rfl,am,bb⟩;obtain⟨V,bp,bq⟩:=bs bo;refine JL.done (Br (fun L s=>∃(K:LH) (ap:An) (av:Nat) (aY:Seg),Jn U H K [bX bk #[iV V.1,sV ap V.2 av] 97,aY] [(0,pV bk 0),(2,iV ag),(4,pV ba 0)] L s (OL 104 Dp K ap av aY V.2)) ?_ ?_)
  ·rintro _ _ ⟨K,ap,av,aY,rfl,rfl,a5,O,bc⟩;refine zg 5 rfl (BJ underlying97 AW rfl rfl rfl ?_);refine AD (v:=iV V.1) rfl (fun ρ h=>Yl.load Bv (h _ _ rfl) (DU (j:=0) (off:=0) O rfl rfl)) ?_;obtain⟨bd,br,bu⟩:=bs bq;refine zg 2 rfl (Br (fun L s=>∃(a6:LH) (aZ:An) (a0:Nat) (a1:Seg),Jn K H a6 [bX bk #[iV V.1,sV aZ bd a0] 97,a1] [] L s (OL 104 Dp a6 aZ a0 a1 bd)) ?_ ?_)
   ·rintro _ _ ⟨a6,aZ,a0,a1,rfl,rfl,bv,bw,bx⟩;obtain rfl:=oi bu;exact JL.fin (v:= .tuple #[]) rfl rfl (Co.list func122 rfl (vs:= []) trivial) (bj (((a4.Ab am).Ab a5).Ab bv) rfl ⟨aZ,a0,a1,rfl,by simp,bx⟩ bw)
   ·intro be;refine AL br (fun bz bA=>?_) (fun bz bB=>?_)
    ·refine Dh 8 [bk] ⟨⟨0,_,rfl⟩,trivial⟩ O fun ht=>A4 ht rfl [0,1,2] rfl (B8 3 ht underlying97 Dt rfl rfl rfl rfl ?_);refine Fb 4 ht 1 0 O EN ?_;refine BB 5 ht rfl rfl (fun ρ h s' hs=>FY (vs:= [iV tr.1,sV Y tr.2.1 Z,uV tr.2.2]) FT Cs (h _ _ rfl) (At.O2 (bl.Ah (am.Ab a5)) (O7 O hs ⟨⟨0,_,rfl⟩,trivial⟩))) ?_;obtain⟨b0,bC,bD⟩:=bs bA;refine JG.one (i:=6) rfl (by decide+kernel) (Take.lit (pp:=Dp) (jp:=0) [.agg #[iV tr.1,sV Y tr.2.1 Z,uV tr.2.2]] ([tr]:List Ca) O rfl rfl rfl rfl underlying95 Cs GR (by decide) rfl rfl rfl ⟨⟨_,_,rfl,rfl,⟨_,_,rfl,⟨_,_,rfl,(bi.Ah ((a4.Ab am).Ab a5))⟩,rfl⟩⟩,trivial⟩ fun b1 b2 bE bF=>?_);refine JG.one (i:=7) rfl (by decide+kernel) (Take.app (pp:=Dp) (jp:=0) 1 2 bF rfl bC rfl rfl rfl rfl rfl rfl rfl underlying95 underlying95 Cs (CR type104) GR rfl (by decide) (by decide) bc bE rfl rfl rfl rfl fun bG bH b3 bI bJ bK=>?_);refine Ci [8,9,10] (EO 1 rfl bK fun bL=>?_);refine JS.drop 1 bL rfl fun bM=>zg 1 rfl (BJ underlying97 Dt rfl rfl rfl ?_);refine BR 0 bM Dt fun bN=>?_;refine JL.done (JS.drop 2 bN rfl fun bO=>?_);obtain rfl:=oi bD;exact Az (be _ _ ⟨K,bG,bH,bI,rfl,rfl,Ar,bO,bJ⟩) rfl
    ·refine JL.skip ?_;obtain rfl:=oi bB;exact Az (be _ _ ⟨K,ap,av,aY,rfl,rfl,Ar,O,bc⟩) rfl
  ·intro bf;refine BH bp (fun bP bQ=>?_) (fun bP bR=>?_)
   ·refine zg 5 rfl (BJ underlying97 AW rfl rfl rfl ?_);refine BR 0 bb AW fun bS=>?_;refine zg 1 rfl (BJ underlying97 Dt rfl rfl rfl ?_);refine BR 0 bS Dt fun bT=>?_;refine JL.done (JS.drop 1 bT rfl fun bU=>?_);obtain rfl:=oi bQ;exact Az (bf _ _ ⟨U,none,0,[],rfl,rfl,Ar,bU,OL.nil⟩) rfl
   ·refine JL.skip ?_;obtain rfl:=oi bR;exact Az (bf _ _ ⟨U,a,c,g,rfl,rfl,Ar,bb,(bh.Ah (a4.Ab am))⟩) rfl
 ·intro bg;refine Ee 12 bn (fun bV bW=>?_) (fun bV bY=>?_)
  ·refine zg 7 rfl ?_;obtain rfl:=oi bW;exact Az (bg _ _ ⟨a3,rfl,rfl,Ar,al⟩) rfl
  ·refine zg 3 rfl (BJ underlying97 AW rfl rfl rfl ?_);refine AD (v:=iV le) rfl (fun ρ h=>Yl.load Bv (h _ _ rfl) (DU (j:=0) (off:=0) al rfl rfl)) (zg 2 rfl ?_);obtain rfl:=oi bY;exact Az (bg _ _ ⟨a3,rfl,rfl,Ar,al⟩) rfl
end Pal
namespace Pal
open Go Go.Conc Go.Proofs
open Go.Proofs.Tryz
def Lx(fuel:Nat)(O:BT)(lk:AI)(age:Int)(ms:List Int)(fl:Nat)(m:Int):Option (Option (List Int×Nat)):=
 (Lr fuel (O,lk,age,ms,fl) ((ms).length:Int) m).bind fun K=>
 if(!K.2)=true then(
  some none
 ) else(
  (f175 fuel ms).bind fun U=>
  (Dd U ([m]:List Int)).bind fun V=>
  (Je (fl) (K.1)).bind fun Y=>
  some (some (V,Y))
 )
theorem Ym{J:Judge Tryz.prog}{A:Type}{I:A→LH→Seg→Prop}(bM:∀x E E' X,Le E E'→I x E X→I x E' X){E:LH}{bk k1 o2:Nat}{bo bp K Z:An}{bq br O ag:Nat}{bu:List Value}{av:BT}{lk:AI}{age:Int}{ms:List Int}{fl:Nat}(bN:At E k1 o2 (([sV bo av.1 bq,sV bp av.2.1 br]:List Value)++bu))(bO:Al (rL rI) E bo bq av.1)(bP:Al (rL rI) E bp br av.2.1)(bQ:(rA 13 (rN .u16)).r E bu av.2.2)(bR:Al Bo E K O lk)(bb:Al rI E Z ag ms){bv:Value}{X:Seg}{acc acc':A}(bS:I acc E X){m:Int}{fuel:Nat}{r:Option (List Int×Nat)}(bw:Lx fuel av lk age ms fl m=some r)
  (bT:r=none→acc'=acc)
  (bx:∀q,r=some q→∀E' a c,Le E E'→Al rI E' a c q.1→ET J bv [] E' ([(bk,.cells #[pV k1 o2,.slice K lk.length O,iV age,.slice a q.1.length c,uV q.2] 175 (0,0))]++X) (fun w bU bV=>∃a2 a3 a4 Y,w= .bool true∧bV= [(bk,.cells #[pV k1 o2,.slice K lk.length O,a2,a3,a4] 175 (0,0))]++Y∧I acc' bU Y)):
  AK J 155 [pV bk 0,iV m,bv] E ([(bk,.cells #[pV k1 o2,.slice K lk.length O,iV age,.slice Z ms.length ag,uV fl] 175 (0,0))]++X) (fun w E' B'=>∃Y,w= .bool true∧B'= [(bk,.cells #[pV k1 o2,.slice K lk.length O,iV age,.slice Z ms.length ag,uV fl] 175 (0,0))]++Y∧I acc' E' Y):=by
 refine A3 func155 fun Q bz cs H bc bd=>?_;refine DG (S':= [[(bk,.cells #[pV k1 o2,.slice K lk.length O,iV age,.slice Z ms.length ag,uV fl] 175 (0,0))],X]) (by simp) bc fun bc=>?_;unfold Lx at bw;refine zg 2 rfl (B4 bc fun aY cM U am a5=>?_);refine zg 3 rfl (Dh 13 [bk] ⟨⟨0,_,rfl⟩,trivial⟩ a5 fun ht=>?_);refine JG.lp 0 ht 0 am a5 ⟨⟨0,_,rfl⟩,trivial⟩ FE ?_;refine JG.lp 1 ht 0 am a5 ⟨⟨0,_,rfl⟩,trivial⟩ FE ?_;refine Cj 2 ht rfl rfl (B8 3 ht underlying175 Cs rfl rfl rfl rfl ?_);refine B8 4 ht underlying104 BX rfl rfl rfl rfl (Fb 5 ht 3 0 a5 CQ ?_);refine BB 6 ht rfl rfl (fun ρ h s' hs=>Yl.len rfl underlying28 (h _ _ rfl)) (Cj 7 ht rfl rfl ?_);obtain⟨bW,bY,bZ⟩:=bs bw;refine QC (i:=8) (vs:= [pV bk 0,iV (ms.length:Int),iV m]) 0 ⟨⟨0,_,rfl⟩,trivial⟩ (W6 (bN.Ah U) (bO.Ah U) (bP.Ah U) (Rp.Ah _ U bQ) (bR.Ah U) (bb.Ah U) bY) (fun _ _ _ h=>h.2) (by decide+kernel) rfl rfl rfl (AS func174 rfl) rfl a5 rfl ?_;rintro _ cN V ⟨rfl,_⟩ be;refine A4 ht rfl [9,10,11,12] rfl (Ci [13] ?_);refine zg 6 rfl (AD (v:= .bool (!bW.2)) rfl (fun ρ h=>Yl.not (h _ _ rfl)) ?_);refine JL.done (BH bZ (fun b0 b1=>?_) (fun b0 b2=>?_))
 ·refine zg 4 rfl ?_;obtain rfl:=oi b1;exact AA func155 rfl rfl (bd (U.Ab V) rfl ⟨X,rfl,by simp,by rw [bT rfl];exact bM _ _ _ _ (U.Ab V) bS⟩ be)
 ·refine zg 3 rfl (BY 0 (am.Ah V) FE rfl rfl rfl ?_);refine zg 1 rfl (BJ underlying175 Cs rfl rfl rfl ?_);refine AD rfl (fun ρ h=>FY (vs:= [iV age,sV Z ms ag,uV fl]) FT Cs (h _ _ rfl) (FV (off:=2) 0 be rfl rfl)) (CF be GR fun aZ b3=>?_);refine BR 3 b3 Cs fun b4=>?_;refine CV 3 b4 rfl fun cO al bf b5=>Cq (S':= [[(bk,.cells #[pV k1 o2,sV K lk O,iV age,sV Z ms ag,uV fl] 175 (0,0))],X,[],[]]) rfl b5 fun bA=>zg 2 rfl (C6 7 fun ht=>?_);refine Cv 0 ht 0 (am.Ah (V.Ab al)) FE rfl rfl rfl rfl (B8 1 ht underlying104 BX rfl rfl rfl rfl ?_);refine Cv 2 ht 1 bf CQ rfl rfl rfl rfl (Cj 4 ht rfl rfl ?_);obtain⟨cP,bB,b6⟩:=bs b2;obtain⟨a0,bC,bD⟩:=bs b6;refine I3 (i:=3) (j:=5) rfl (by decide+kernel) ?_ ?_
  ·refine Take.HT (vs:= [sV Z ms ag]) bA (SR (bb.Ah ((U.Ab V).Ab al)) bB) rfl rfl rfl (AS func175 rfl) rfl ?_;rintro _ cQ _ a6 ⟨cR,cT,cV,rfl,rfl,b7⟩ b8;refine JG.one (i:=5) rfl (by decide+kernel) (Take.NK (pp:=rI) [iV m] ([m]:List Int) b8 rfl rfl rfl underlying28 AW CM (by decide) rfl rfl rfl ⟨rfl,trivial⟩ fun cW bE b9 ca=>?_);refine JG.one (i:=6) rfl (by decide+kernel) (Take.app0 (pp:=rI) 4 5 ca bC rfl rfl rfl rfl rfl rfl rfl underlying28 underlying28 AW (CR type3) CM rfl (by decide) (by decide) b7 b9 rfl rfl fun bF bG cX cb cc cd=>?_);refine Ci [7,8,9,10] (EO 4 rfl cd fun ce=>?_);refine JS.drop 4 ce rfl fun cf=>Cq (S':= [[(bk,.cells #[pV k1 o2,sV K lk O,iV age,sV Z ms ag,uV fl] 175 (0,0))],X,[],[],[],bE,cb]) rfl cf fun cg=>zg 1 rfl (BJ underlying175 Cs rfl rfl rfl ?_);refine BJ underlying104 BX rfl rfl rfl (BR 0 cg BX fun bH=>?_);refine zg 3 rfl (BY 0 (am.Ah ((V.Ab al).Ab a6)) FE rfl rfl rfl ?_);refine zg 1 rfl (BJ underlying175 Cs rfl rfl rfl ?_);refine BJ underlying104 Ek rfl rfl rfl (AD (v:= uV fl) rfl (fun ρ h=>Yl.load GO (h _ _ rfl) (DU (j:=0) (off:=4) bH rfl rfl)) ?_);obtain⟨a7,ci,ck⟩:=bs bD;refine zg 1 rfl (AD (v:= uV a7) rfl (fun ρ h=>Kv (h _ _ rfl) (h _ _ rfl) ci) ?_);refine zg 1 rfl (BJ underlying175 Cs rfl rfl rfl ?_);refine BJ underlying104 Ek rfl rfl rfl (BR 0 bH Ek fun cm=>?_);refine zg 2 rfl (B7 6 cc cm rfl fun cY a8 cn co=>?_);refine Cq (S':= [[(bk,.cells #[pV k1 o2,sV K lk O,iV age,sV bF a0 bG,uV a7] 175 (0,0))],X,[],[],[],bE,[]]) rfl co fun cp=>JS.drop 5 cp rfl fun cq=>?_;obtain rfl:=oi ck;refine JL.region (AD (v:= .func (.func 176) #[] [pV aZ 0,pV aY 0].toArray) rfl (fun ρ h=>IL (by simp) (by simp [h (.tmp 9) _ rfl,h (.tmp 3) _ rfl])) ?_);refine QB (vs:= []) (caps:= [pV aZ 0,pV aY 0]) rfl rfl rfl rfl rfl rfl (zg 4 rfl ?_);refine DG (S':= [[(bk,.cells #[pV k1 o2,sV K lk O,iV age,sV bF a0 bG,uV a7] 175 (0,0))]++X]) (by simp) cq fun bg=>Jk (vs:= []) 0 (bx (a0,a7) rfl _ _ _ ((((U.Ab V).Ab al).Ab a6).Ab a8) cn) rfl rfl rfl rfl rfl bg rfl ?_;rintro _ cr _ ap ⟨a2,a3,a4,Y,rfl,rfl,bh⟩ bi;refine zg 2 rfl (Gt rfl ?_);refine JO.Sg (vs:= []) (caps:= [pV aZ 0,pV aY 0]) rfl func176 rfl rfl (Nat.le_of_ble_eq_true rfl) fun T bj todo=>DG (S':= [[(bk,.cells #[pV k1 o2,.slice K lk.length O,a2,a3,a4] 175 (0,0))],Y]) (by simp) bi fun bl=>JL.region (BY 0 (am.Ah ((((V.Ab al).Ab a6).Ab a8).trans ap)) FE rfl rfl rfl ?_);refine BO (bf.Ah ((a6.Ab a8).trans ap)) FT Cs rfl rfl (zg 1 rfl ?_);refine BJ underlying175 Cs rfl rfl rfl (BR 0 bl Cs fun bm=>?_);refine Cq (S':= [[(bk,.cells #[pV k1 o2,.slice K lk.length O,iV age,.slice Z ms.length ag,uV fl] 175 (0,0))],Y]) rfl bm fun bn=>JL.done (JL.out rfl ?_);refine JO.leaveD rfl func176 rfl (.inl rfl) ?_;refine(?_:JO J Q (base 155) Tryz.f155.ntmps _ [] (bz::cs) _) T bj todo;exact JO.leave (v:= .bool true) rfl (Co.list func155 rfl (vs:= [.bool true]) ⟨rfl,trivial⟩) (bd (((((U.Ab V).Ab al).Ab a6).Ab a8).trans ap) rfl ⟨Y,rfl,by simp,bh⟩ bn)
  ·refine Take.NK (pp:=rI) [iV m] ([m]:List Int) bA rfl rfl rfl underlying28 AW CM (by decide) rfl rfl rfl ⟨rfl,trivial⟩ fun cZ bI ct cu=>JG.one (i:=3) rfl (by decide+kernel) (Take.HT (vs:= [sV Z ms ag]) cu (SR (bb.Ah ((U.Ab V).Ab al)) bB) rfl rfl rfl (AS func175 rfl) rfl ?_);rintro _ c0 _ a1 ⟨c1,c2,c3,rfl,rfl,cv⟩ cw;refine JG.one (i:=6) rfl (by decide+kernel) (Take.app0 (pp:=rI) 5 4 cw bC rfl rfl rfl rfl rfl rfl rfl underlying28 underlying28 AW (CR type3) CM rfl (by decide) (by decide) cv (ct.Ah a1) rfl rfl fun bJ bK c4 cy cz cA=>?_);refine Ci [7,8,9,10] (EO 5 rfl cA fun cB=>?_);refine JS.drop 5 cB rfl fun cC=>Cq (S':= [[(bk,.cells #[pV k1 o2,sV K lk O,iV age,sV Z ms ag,uV fl] 175 (0,0))],X,[],[],bI,[],cy]) rfl cC fun cD=>zg 1 rfl (BJ underlying175 Cs rfl rfl rfl ?_);refine BJ underlying104 BX rfl rfl rfl (BR 0 cD BX fun bL=>?_);refine zg 3 rfl (BY 0 (am.Ah ((V.Ab al).Ab a1)) FE rfl rfl rfl ?_);refine zg 1 rfl (BJ underlying175 Cs rfl rfl rfl ?_);refine BJ underlying104 Ek rfl rfl rfl (AD (v:= uV fl) rfl (fun ρ h=>Yl.load GO (h _ _ rfl) (DU (j:=0) (off:=4) bL rfl rfl)) ?_);obtain⟨a9,cE,cF⟩:=bs bD;refine zg 1 rfl (AD (v:= uV a9) rfl (fun ρ h=>Kv (h _ _ rfl) (h _ _ rfl) cE) ?_);refine zg 1 rfl (BJ underlying175 Cs rfl rfl rfl ?_);refine BJ underlying104 Ek rfl rfl rfl (BR 0 bL Ek fun cG=>?_);refine zg 2 rfl (B7 6 cz cG rfl fun c5 ba cH cI=>?_);refine Cq (S':= [[(bk,.cells #[pV k1 o2,sV K lk O,iV age,sV bJ a0 bK,uV a9] 175 (0,0))],X,[],[],bI,[],[]]) rfl cI fun cJ=>JS.drop 4 cJ rfl fun cK=>?_;obtain rfl:=oi cF;refine JL.region (AD (v:= .func (.func 176) #[] [pV aZ 0,pV aY 0].toArray) rfl (fun ρ h=>IL (by simp) (by simp [h (.tmp 9) _ rfl,h (.tmp 3) _ rfl])) ?_);refine QB (vs:= []) (caps:= [pV aZ 0,pV aY 0]) rfl rfl rfl rfl rfl rfl (zg 4 rfl ?_);refine DG (S':= [[(bk,.cells #[pV k1 o2,sV K lk O,iV age,sV bJ a0 bK,uV a9] 175 (0,0))]++X]) (by simp) cK fun bg=>Jk (vs:= []) 0 (bx (a0,a9) rfl _ _ _ ((((U.Ab V).Ab al).Ab a1).Ab ba) cH) rfl rfl rfl rfl rfl bg rfl ?_;rintro _ cr _ ap ⟨a2,a3,a4,Y,rfl,rfl,bh⟩ bi;refine zg 2 rfl (Gt rfl ?_);refine JO.Sg (vs:= []) (caps:= [pV aZ 0,pV aY 0]) rfl func176 rfl rfl (Nat.le_of_ble_eq_true rfl) fun T bj todo=>DG (S':= [[(bk,.cells #[pV k1 o2,.slice K lk.length O,a2,a3,a4] 175 (0,0))],Y]) (by simp) bi fun bl=>JL.region (BY 0 (am.Ah ((((V.Ab al).Ab a1).Ab ba).trans ap)) FE rfl rfl rfl ?_);refine BO (bf.Ah ((a1.Ab ba).trans ap)) FT Cs rfl rfl (zg 1 rfl ?_);refine BJ underlying175 Cs rfl rfl rfl (BR 0 bl Cs fun bm=>?_);refine Cq (S':= [[(bk,.cells #[pV k1 o2,.slice K lk.length O,iV age,.slice Z ms.length ag,uV fl] 175 (0,0))],Y]) rfl bm fun bn=>JL.done (JL.out rfl ?_);refine JO.leaveD rfl func176 rfl (.inl rfl) ?_;refine(?_:JO J Q (base 155) Tryz.f155.ntmps _ [] (bz::cs) _) T bj todo;exact JO.leave (v:= .bool true) rfl (Co.list func155 rfl (vs:= [.bool true]) ⟨rfl,trivial⟩) (bd (((((U.Ab V).Ab al).Ab a1).Ab ba).trans ap) rfl ⟨Y,rfl,by simp,bh⟩ bn)
end Pal
namespace Pal
open Go Go.Conc Go.Proofs
open Go.Proofs.Tryz
def Ls(fuel:Nat)(K:BT)(lk:AI)(age:Int)(ms:List Int)(fl:Nat)(n:Int):Option (Nat):=
 (ix K.1 (n)).bind fun O=>
 (f120 fuel O).bind fun U=>
 some U
theorem aS{J:Judge Tryz.prog}{E:LH}{bk k1 o2:Nat}{aY aZ O U:An}{a0 a1 V Y:Nat}{a2:List Value}{Z:BT}{lk:AI}{age:Int}{ms:List Int}{fl:Nat}(a6:At E k1 o2 (([sV aY Z.1 a0,sV aZ Z.2.1 a1]:List Value)++a2))(a7:Al (rL rI) E aY a0 Z.1)(bx:Al (rL rI) E aZ a1 Z.2.1)(bz:(rA 13 (rN .u16)).r E a2 Z.2.2)(bA:Al Bo E O V lk)(bB:Al rI E U Y ms){ag al:Nat}(a8:At E ag al [pV bk 0]){ap av kf am:Nat}(a9:At E kf am [.func (.func 153) #[] [pV ag al,pV ap av,pV kf am].toArray]){a3 on:Nat}{n:Int}(ba:At E a3 on [iV n]){X:Seg}{fuel:Nat}{r:Nat}(a4:Ls fuel Z lk age ms fl n=some r){R:Value→LH→Seg→Prop}
  (bb:∀E',Le E E'→AK J 153 [uV r,pV ag al,pV ap av,pV kf am] E' ([(bk,.cells #[pV k1 o2,.slice O lk.length V,iV age,.slice U ms.length Y,uV fl] 175 (0,0))]++X) R):
  AK J 156 [pV kf am,pV ag al,pV a3 on] E ([(bk,.cells #[pV k1 o2,.slice O lk.length V,iV age,.slice U ms.length Y,uV fl] 175 (0,0))]++X) R:=by
 refine JP func156 rfl rfl fun Q bC cs H K bc=>DG (S':= [[(bk,.cells #[pV k1 o2,.slice O lk.length V,iV age,.slice U ms.length Y,uV fl] 175 (0,0))],X]) (by simp) K fun K=>?_;unfold Ls at a4;refine zg 5 rfl (Dh 13 [bk] ⟨⟨0,_,rfl⟩,trivial⟩ K fun ht=>?_);refine JG.lp 0 ht 0 a9 K ⟨⟨0,_,rfl⟩,trivial⟩ (Dv underlying201) ?_;refine JG.lp 1 ht 0 a8 K ⟨⟨0,_,rfl⟩,trivial⟩ FE ?_;refine Cj 2 ht rfl rfl (B8 3 ht underlying175 NZ rfl rfl rfl rfl ?_);refine Fb 4 ht 0 0 K LU ?_;refine Cj 5 ht rfl rfl (B8 6 ht underlying141 BD rfl rfl rfl rfl ?_);refine B8 7 ht underlying24 BQ rfl rfl rfl rfl (JG.lp 8 ht 0 a6 K ⟨⟨0,_,rfl⟩,trivial⟩ Cr ?_);refine JG.lp 9 ht 0 ba K ⟨⟨0,_,rfl⟩,trivial⟩ Bv ?_;obtain⟨bd,be,bf⟩:=bs a4;refine Cy 10 a7 be ht underlying22 BX ?_;rintro bD bE _ ⟨bg,c4,rfl,bh⟩ bi;refine JG.lp 11 ht 0 bi K ⟨⟨0,_,rfl⟩,trivial⟩ CQ ?_;obtain⟨bj,bl,bm⟩:=bs bf;refine QZ (i:=12) ⟨⟨0,_,rfl⟩,trivial⟩ (vs:= [sV bg bd c4]) (JU bh bl) (by decide+kernel) rfl rfl rfl Jf rfl K ?_;rintro _ bn _ a5 ⟨rfl,rfl⟩ bo;refine Ci [13,14] ?_;obtain rfl:=oi bm;refine DG (S':= [[(bk,.cells #[pV k1 o2,.slice O lk.length V,iV age,.slice U ms.length Y,uV fl] 175 (0,0))]++X]) (by simp) bo fun bp=>?_;have bq:ET J (.func (.func 153) #[] [pV ag al,pV ap av,pV kf am].toArray) [uV bj] bn ([(bk,.cells #[pV k1 o2,.slice O lk.length V,iV age,.slice U ms.length Y,uV fl] 175 (0,0))]++X) R:=ET.ofFn (caps:= [pV ag al,pV ap av,pV kf am]) (AS func153 rfl) (bb _ a5);refine Jk 0 bq rfl rfl rfl rfl rfl bp rfl ?_;rintro w bF br bu bv bw;refine zg 2 rfl (AA func156 rfl rfl ?_);exact bc _ _ _ br (a5.Ab bu) (by simp) bv bw
end Pal
namespace Pal
open Go Go.Conc Go.Proofs
open Go.Proofs.Tryz
def I9(fuel:Nat)(K:BT)(lk:AI)(age:Int)(ms:List Int)(fl:Nat)(sm:Nat):Option (Option (List Int)):=
 (Ll fuel (K,lk,age,ms,fl)).bind fun O=>
 if O<((ms).length:Int) then(
  some none
 ) else(
  (f89 fuel sm).bind fun U=>
  some (some U)
 )
def Po(rec:Nat→List Int→Nat→List (List Int×Nat)→Option (List (List Int×Nat)))(fuel:Nat)(K:BT)(lk:AI)(age:Int)(ms:List Int)(fl:Nat)(ac:List (List Int×Nat))(n:Int):Option (List (List Int×Nat)):=
 (Lx fuel K lk age ms fl n).bind fun r=>match r with
  | none=>some ac
  | some q=>(Ls fuel K lk age q.1 q.2 n).bind fun s'=>rec s' q.1 q.2 ac
def J5(ok:List (List Int×Nat)→Bool)(rec:Nat→List Int→Nat→List (List Int×Nat)→Option (List (List Int×Nat)))(fuel:Nat)(K:BT)(lk:AI)(age:Int)(ms:List Int)(fl:Nat)(ac:List (List Int×Nat)):Option (List Int)→Option (List (List Int×Nat))
 | none=>if ok (ac++ [(ms,fl)])=true then some (ac++ [(ms,fl)]) else none
 | some l=>if l.length≤1000 then Ft (Po rec fuel K lk age ms fl) l ac else none
def IE(ok:List (List Int×Nat)→Bool)(fuel:Nat)(K:BT)(lk:AI)(age:Int):Nat→Nat→List Int→Nat→List (List Int×Nat)→Option (List (List Int×Nat))
 | 0,_,_,_,_=>none
 | g+1,sm,ms,fl,ac=>(I9 fuel K lk age ms fl sm).bind fun r=>J5 ok (IE ok fuel K lk age g) fuel K lk age ms fl ac r
theorem YM{J:Judge Tryz.prog}{I:List (List Int×Nat)→LH→Seg→Prop}(a4:∀x E E' X,Le E E'→I x E X→I x E' X){E:LH}{bk k1 o2:Nat}{br bu Y U:An}{bv bw Z V:Nat}{bx:List Value}{ap:BT}{lk:AI}{age:Int}{ms:List Int}{fl:Nat}(bf:At E k1 o2 (([sV br ap.1 bv,sV bu ap.2.1 bw]:List Value)++bx))(bg:Al (rL rI) E br bv ap.1)(bh:Al (rL rI) E bu bw ap.2.1)(bi:(rA 13 (rN .u16)).r E bx ap.2.2)(bj:Al Bo E Y Z lk)(bl:Al rI E U V ms){a0 a1:Nat}(a7:At E a0 a1 [pV bk 0]){a9 ba kf a2:Nat}(bL:At E kf a2 [.func (.func 153) #[] [pV a0 a1,pV a9 ba,pV kf a2].toArray]){bz:Value}(bM:At E a9 ba [bz]){X:Seg}{acc acc':List (List Int×Nat)}{ok:List (List Int×Nat)→Bool}(bA:I acc E X){rec:Nat→List Int→Nat→List (List Int×Nat)→Option (List (List Int×Nat))}(bN:∀s' av a5 ac bb,rec s' av a5 ac=some bb→∀E' K a c,Le E E'→Al rI E' a c av→I ac E' K→AK J 153 [uV s',pV a0 a1,pV a9 ba,pV kf a2] E' ([(bk,.cells #[pV k1 o2,.slice Y lk.length Z,iV age,(.slice a av.length c),(uV a5)] 175 (0,0))]++K) (fun w E' B'=>∃bm bn bo K,w= .bool true∧B'= [(bk,.cells #[pV k1 o2,.slice Y lk.length Z,bm,bn,bo] 175 (0,0))]++K∧I bb E' K))(bO:∀(E':LH) (K:Seg) (ac:List (List Int×Nat)) (av:List Int) (a5:Nat) (a:An) (c:Nat),Le E E'→Al rI E' a c av→I ac E' K→ok (ac++ [(av,a5)])=true→ET J bz [.agg #[iV age,.slice a av.length c,uV a5]] E' K (fun w bB bP=>w= .bool true∧I (ac++ [(av,a5)]) bB bP)){sm:Nat}{fuel:Nat}{r:Option (List Int)}(bC:I9 fuel ap lk age ms fl sm=some r)(ag:J5 ok rec fuel ap lk age ms fl acc r=some acc'):
  AK J 153 [uV sm,pV a0 a1,pV a9 ba,pV kf a2] E ([(bk,.cells #[pV k1 o2,.slice Y lk.length Z,iV age,.slice U ms.length V,uV fl] 175 (0,0))]++X) (fun w E' B'=>∃bm bn bo K,w= .bool true∧B'= [(bk,.cells #[pV k1 o2,.slice Y lk.length Z,bm,bn,bo] 175 (0,0))]++K∧I acc' E' K):=by
 refine A3 func153 fun Q ct cs H a3 bD=>?_;refine DG (S':= [[(bk,.cells #[pV k1 o2,.slice Y lk.length Z,iV age,.slice U ms.length V,uV fl] 175 (0,0))],X]) (by simp) a3 fun a3=>?_;unfold I9 at bC;refine zg 6 rfl (Dh 8 [bk] ⟨⟨0,_,rfl⟩,trivial⟩ a3 fun ht=>?_);refine JG.lp 0 ht 0 a7 a3 ⟨⟨0,_,rfl⟩,trivial⟩ FE ?_;refine Cj 1 ht rfl rfl (B8 2 ht underlying175 Cs rfl rfl rfl rfl ?_);refine B8 3 ht underlying104 BX rfl rfl rfl rfl (Fb 4 ht 3 0 a3 CQ ?_);refine BB 5 ht rfl rfl (fun ρ h s' hs=>Yl.len rfl underlying28 (h _ _ rfl)) (JG.lp 6 ht 0 a7 a3 ⟨⟨0,_,rfl⟩,trivial⟩ FE ?_);obtain⟨cu,bQ,bR⟩:=bs bC;refine QC (i:=7) (vs:= [pV bk 0]) 0 ⟨⟨0,_,rfl⟩,trivial⟩ (Xy bf bg bh bi bj bl bQ) (fun _ _ _ h=>h.2) (by decide+kernel) rfl rfl rfl (AS func154 rfl) rfl a3 rfl ?_;rintro _ bE O ⟨rfl,_⟩ aY;refine Ci [8] (zg 2 rfl ?_);refine AL bR (fun bS bT=>?_) (fun bS bU=>?_)
 ·refine JL.seq (Dh 5 [bk] ⟨⟨0,_,rfl⟩,trivial⟩ aY fun ht=>?_);refine JG.lp 0 ht 0 (bM.Ah O) aY ⟨⟨0,_,rfl⟩,trivial⟩ (Dv underlying200) ?_;refine JG.lp 1 ht 0 (a7.Ah O) aY ⟨⟨0,_,rfl⟩,trivial⟩ FE ?_;refine Cj 2 ht rfl rfl (B8 3 ht underlying175 Cs rfl rfl rfl rfl ?_);refine BB 4 ht rfl rfl (fun ρ h s' hs=>FY (vs:= [iV age,sV U ms V,uV fl]) FT Cs (h _ _ rfl) (Vd (o:=2) 0 aY rfl (by simp [A5]) hs rfl)) (Ci [5,6] ?_);obtain rfl:=oi bT;have bF:ok (acc++ [(ms,fl)])=true∧acc++ [(ms,fl)]=acc':=by
   simp only [J5] at ag;split at ag
   ·exact⟨by assumption,Option.some.inj ag⟩
   ·cases ag
  obtain⟨bV,bF⟩:=bF;subst acc';refine Jk (vs:= [.agg #[iV age,.slice U ms.length V,uV fl]]) 1 (bO _ _ _ _ _ _ _ O (bl.Ah O) (a4 _ _ _ _ O bA) bV) rfl rfl rfl rfl rfl aY rfl ?_;rintro _ cv bW bY ⟨rfl,bZ⟩ b0;refine zg 2 rfl (AA func153 rfl rfl ?_);exact bD (O.Ab bY) rfl ⟨iV age,.slice U ms.length V,uV fl,bW,rfl,by simp,bZ⟩ b0
 ·obtain⟨am,b1,b2⟩:=bs bU;refine zg 5 rfl (BP (I6 b1) rfl rfl IJ aY ?_);rintro _ b3 _ bp ⟨bG,bH,rfl,rfl,b4⟩ b5;refine Bg underlying28 rfl rfl rfl (zg 2 rfl ?_);obtain rfl:=oi b2;have b6:am.length≤1000∧Ft (Po rec fuel ap lk age ms fl) am acc=some acc':=by
   simp only [J5] at ag;split at ag
   ·exact⟨by assumption,ag⟩
   ·cases ag
  obtain⟨hlen,ag⟩:=b6;refine JL.block (Iy [(1,pV a0 a1),(3,pV kf a2),(24,sV bG am bH),(25,iV (am.length:Int)),(26,iV 0)] rfl ?_);refine DG (S':= [[(bk,.cells #[pV k1 o2,.slice Y lk.length Z,iV age,.slice U ms.length V,uV fl] 175 (0,0))],X]) (by simp) b5 fun b7=>TW (l:=am) ag (fun L s i ac=>∃bc a6,Jn b3 H bc [[(bk,.cells #[pV k1 o2,.slice Y lk.length Z,iV age,.slice U ms.length V,uV fl] 175 (0,0))],a6] [(1,pV a0 a1),(3,pV kf a2),(24,sV bG am bH),(25,iV (am.length:Int)),(26,iV ((i:Nat):Int))] L s (I ac bc a6)) ⟨_,X,rfl,rfl,Le.refl _,b7,a4 _ _ _ _ (O.Ab bp) bA⟩ ?_ ?_
  ·rintro _ _ i ac n bb ⟨bc,a6,rfl,rfl,a8,bq,bd⟩ b8 cw b9 ca;have cb:=(O.Ab bp).Ab a8;refine zg 5 rfl ?_;rw [decide_eq_true (show((i:Nat):Int)<(am.length:Int) by omega)];refine zg 6 rfl ?_;have cc:ix am ((i:Nat):Int)=some n:=by unfold ix;rw [if_pos (by omega)];exact b8
   refine Ce (b4.Ah a8) cc underlying28 AW ?_;rintro kk cy _ rfl cd;refine BY 0 cd Bv rfl rfl rfl (CF bq CM fun ce cf=>?_);refine BR 2 cf AW fun cg=>?_;refine CV 2 cg rfl fun cz be bI ci=>?_;have aZ:=cb.trans be;refine zg 3 rfl (BY 0 (a7.Ah aZ) FE rfl rfl rfl ?_);refine BY 0 bI Bv rfl rfl rfl (AD (v:= .func (.func 156) #[] [pV kf a2,pV a0 a1,pV ce 0].toArray) rfl (fun ρ h=>IL (by simp) (by simp [h (.tmp 3) _ rfl,h (.tmp 1) _ rfl,h (.tmp 7) _ rfl])) ?_);refine DG (S':= [[(bk,.cells #[pV k1 o2,.slice Y lk.length Z,iV age,.slice U ms.length V,uV fl] 175 (0,0))]++a6]) (by simp) ci fun aY=>?_;obtain⟨q,ck,bJ⟩:=Option.bind_eq_some_iff.1 b9;refine BZ 0 (Ym a4 (bf.Ah aZ) (bg.Ah aZ) (bh.Ah aZ) (Rp.Ah _ aZ bi) (bj.Ah aZ) (bl.Ah aZ) (acc':=bb) (a4 _ _ _ _ be bd) ck (fun e=>by subst e;exact(Option.some.inj bJ).symm) (fun p e E' a c hle bK=>?_)) rfl rfl (AS func155 rfl) aY rfl ?_
   ·subst e;obtain⟨s',cm,cn⟩:=Option.bind_eq_some_iff.1 bJ;have al:=aZ.trans hle;exact ET.ofFn (AS func156 rfl) (aS (bf.Ah al) (bg.Ah al) (bh.Ah al) (Rp.Ah _ al bi) (bj.Ah al) bK (a7.Ah al) (bL.Ah al) (bI.Ah hle) cm fun bB O=>bN _ _ _ _ _ cn _ _ _ _ (al.Ab O) (bK.Ah O) (a4 _ _ _ _ (hle.trans O) (a4 _ _ _ _ be bd)))
   rintro _ bE _ al ⟨K,rfl,rfl,co⟩ cp;refine AD (v:= .bool (!true)) rfl (fun ρ h=>Yl.not (h _ _ rfl)) (zg 5 rfl ?_);have cq:As (((i:Nat):Int)+1)=some (((i+1:Nat)):Int):=by unfold As;rw [if_pos (by omega)];simp
   refine Bc cq rfl rfl rfl (zg 2 rfl ?_);exact DG (S':= [[(bk,.cells #[pV k1 o2,.slice Y lk.length Z,iV age,.slice U ms.length V,uV fl] 175 (0,0))],K]) (by simp) cp fun cr=>Az (ca _ _ ⟨bE,K,rfl,rfl,(a8.Ab be).Ab al,cr,co⟩) rfl
  ·rintro _ _ ⟨bc,a6,rfl,rfl,a8,bq,bd⟩;refine zg 5 rfl ?_;rw [decide_eq_false (Int.lt_irrefl _)];refine zg 6 rfl (AA func153 rfl rfl ?_);exact bD ((O.Ab bp).Ab a8) rfl ⟨iV age,.slice U ms.length V,uV fl,a6,rfl,by simp,bd⟩ bq
end Pal
namespace Pal
open Go Go.Conc Go.Proofs
open Go.Proofs.Tryz
theorem X5{J:Judge Tryz.prog}{I:List (List Int×Nat)→LH→Seg→Prop}(bb:∀x E E' X,Le E E'→I x E X→I x E' X){E:LH}{bk k1 o2:Nat}{a5 a6 Z:An}{a7 a8 ag:Nat}{a9:List Value}{O:BT}{lk:AI}{age:Int}(bc:At E k1 o2 (([sV a5 O.1 a7,sV a6 O.2.1 a8]:List Value)++a9))(bd:Al (rL rI) E a5 a7 O.1)(be:Al (rL rI) E a6 a8 O.2.1)(bf:(rA 13 (rN .u16)).r E a9 O.2.2)(bg:Al Bo E Z ag lk){al am:Nat}(bh:At E al am [pV bk 0]){ap av kf aY:Nat}(bi:At E kf aY [.func (.func 153) #[] [pV al am,pV ap av,pV kf aY].toArray]){ba:Value}(bj:At E ap av [ba]){fuel:Nat}{ok:List (List Int×Nat)→Bool}(bl:∀(E':LH) (Y:Seg) (ac:List (List Int×Nat)) (K:List Int) (U:Nat) (a:An) (c:Nat),Le E E'→Al rI E' a c K→I ac E' Y→ok (ac++ [(K,U)])=true→ET J ba [.agg #[iV age,.slice a K.length c,uV U]] E' Y (fun w bm bn=>w= .bool true∧I (ac++ [(K,U)]) bm bn)):
  ∀(g sm:Nat) (ms:List Int) (fl:Nat) (ac V:List (List Int×Nat)),IE ok fuel O lk age g sm ms fl ac=some V→∀E' X a c,Le E E'→Al rI E' a c ms→I ac E' X→AK J 153 [uV sm,pV al am,pV ap av,pV kf aY] E' ([(bk,.cells #[pV k1 o2,.slice Z lk.length ag,iV age,(.slice a ms.length c),uV fl] 175 (0,0))]++X) (fun w E' B'=>∃bo bp bq Y,w= .bool true∧B'= [(bk,.cells #[pV k1 o2,.slice Z lk.length ag,bo,bp,bq] 175 (0,0))]++Y∧I V E' Y):=by
 intro g
 induction g with
 | zero=>intro sm ms fl ac V h;cases h
 | succ g br=>
  intro sm ms fl ac V h E' X a c hle bu bv;obtain⟨r,bw,bx⟩:=Option.bind_eq_some_iff.1 h;exact YM bb (bc.Ah hle) (bd.Ah hle) (be.Ah hle) (Rp.Ah _ hle bf) (bg.Ah hle) bu (bh.Ah hle) (bi.Ah hle) (bj.Ah hle) bv (rec:=IE ok fuel O lk age g) (fun s' K U ac V bz aZ a0 a1 c2 a2 a3 a4=>br s' K U ac V bz aZ a0 a1 c2 (hle.trans a2) a3 a4) (fun aZ a0 ac K U a1 c2 a2 a3 a4 bA=>bl aZ a0 ac K U a1 c2 (hle.trans a2) a3 a4 bA) bw bx
def J2(fuel:Nat)(K:BT)(lk:AI)(age:Int):Option Nat:=
 (ix K.2.2 (age)).bind fun O=>
 some O
theorem QN{J:Judge Tryz.prog}{I:List (List Int×Nat)→LH→Seg→Prop}(ba:∀x E E' X,Le E E'→I x E X→I x E' X){E:LH}{bk k1 o2:Nat}{a1 a2 Y:An}{a3 a4 Z:Nat}{bb:List Value}{V:BT}{lk:AI}{age:Int}(bc:At E k1 o2 (([sV a1 V.1 a3,sV a2 V.2.1 a4]:List Value)++bb))(bl:Al (rL rI) E a1 a3 V.1)(bm:Al (rL rI) E a2 a4 V.2.1)(a5:(rA 13 (rN .u16)).r E bb V.2.2)(bn:Al Bo E Y Z lk){av aY:Nat}(a6:At E av aY [pV bk 0]){bd be:Nat}(bf:At E bd be [iV age]){al am ap:Value}{bg:Go.Fn}{X:Seg}{acc acc':List (List Int×Nat)}(bo:I acc E X){ok:List (List Int×Nat)→Bool}{fuel:Nat}(bp:∀(E':LH) (U:Seg) (ac:List (List Int×Nat)) (aZ:List Int) (a7:Nat) (a:An) (c:Nat),Le E E'→Al rI E' a c aZ→I ac E' U→ok (ac++ [(aZ,a7)])=true→ET J (.func bg #[] #[]) [.agg #[iV age,.slice a aZ.length c,uV a7]] E' U (fun w bq br=>w= .bool true∧I (ac++ [(aZ,a7)]) bq br)){r:Nat}(bh:J2 fuel V lk age=some r)(bu:IE ok fuel V lk age fuel r [] 0 acc=some acc'):
  AK J 152 [.func bg #[] #[],pV bd be,pV av aY] E ([(bk,.cells #[pV k1 o2,.slice Y lk.length Z,al,am,ap] 175 (0,0))]++X) (fun w E' B'=>∃al am ap U,w= .tuple #[]∧B'= [(bk,.cells #[pV k1 o2,.slice Y lk.length Z,al,am,ap] 175 (0,0))]++U∧I acc' E' U):=by
 refine A3 func152 fun Q bZ cs H a8 bv=>?_;refine DG (S':= [[(bk,.cells #[pV k1 o2,.slice Y lk.length Z,al,am,ap] 175 (0,0))],X]) (by simp) a8 fun a8=>?_;unfold J2 at bh;refine zg 2 rfl (B4 a8 fun a9 b0 K bw bx=>?_);refine zg 3 rfl (BY 0 (a6.Ah K) FE rfl rfl rfl ?_);refine BY 0 (bf.Ah K) Bv rfl rfl rfl (AD (v:= .agg #[iV age,nS,uV 0]) rfl (fun ρ h=>Dg [(0,1),(1,1),(2,1)] h GR underlying104 ⟨rfl,Bu type3,rfl,Bu type28,rfl,Bu type102,trivial⟩ rfl rfl) ?_);refine zg 1 rfl (BJ underlying175 Cs rfl rfl rfl ?_);refine BR 0 bx Cs fun bz=>?_;refine zg 3 rfl (CF bz (Du type201) fun a0 bA=>?_);refine Cq (S':= [[(bk,.cells #[pV k1 o2,sV Y lk Z,iV age,nS,uV 0] 175 (0,0))],X,[],[(a0,.cells #[.nilFunc] 201 (0,0))]]) rfl bA fun bB=>zg 3 rfl (AD (v:= .func (.func 153) #[] ([pV av aY,pV a9 0,pV a0 0]:List Value).toArray) rfl (fun ρ h=>IL (by simp) (by simp [h (.tmp 2) _ rfl,h (.tmp 3) _ rfl,h (.tmp 4) _ rfl])) ?_);refine BR 3 bB (Bu type201) fun bC=>?_;refine CV 3 bC rfl fun bD O bi ag=>JL.done (Dh 11 [bk] ⟨⟨0,_,rfl⟩,trivial⟩ ag fun ht=>?_);refine JG.lp 0 ht 0 bi ag ⟨⟨0,_,rfl⟩,trivial⟩ (Dv underlying201) ?_;refine JG.lp 1 ht 0 (a6.Ah (K.Ab O)) ag ⟨⟨0,_,rfl⟩,trivial⟩ FE ?_;refine Cj 2 ht rfl rfl (B8 3 ht underlying175 NZ rfl rfl rfl rfl ?_);refine Fb 4 ht 0 0 ag LU ?_;refine JG.lp 5 ht 0 (bf.Ah (K.Ab O)) ag ⟨⟨0,_,rfl⟩,trivial⟩ Bv ?_;refine Cj 6 ht rfl rfl (B8 7 ht underlying141 Ga rfl rfl rfl rfl ?_);obtain⟨bE,bj,bF⟩:=bs bh;obtain⟨_,rfl,bG,_,_⟩:=S1 (kk:=13) (pp:=(rN .u16)) (Rp.Ah _ (K.Ab O) a5) (At.tail (l:= [sV a1 V.1 a3,sV a2 V.2.1 a4]) (bc.Ah (K.Ab O))) bj;refine BB (v:= .pointer (some ⟨k1,(o2+2+Int.toNat (age)*1),none⟩)) 8 ht rfl rfl (fun ρ h s' hs=>Js (kk:=13) (pp:=(rN .u16)) (Rp.Ah _ (K.Ab O) a5) bj underlying139 Ib (h _ _ rfl) (h _ _ rfl)) (B8 9 ht underlying138 Ek rfl rfl rfl rfl ?_);refine JG.lp 10 ht 0 bG ag ⟨⟨0,_,rfl⟩,trivial⟩ GO ?_;refine Ci [11] ?_;obtain rfl:=oi bF;have bH:ET J (.func (.func 153) #[] [pV av aY,pV a9 0,pV a0 0].toArray) [uV bE] bD ([(bk,.cells #[pV k1 o2,.slice Y lk.length Z,iV age,nS,uV 0] 175 (0,0))]++X) (fun w E' B'=>∃al am ap U,w= .bool true∧B'= [(bk,.cells #[pV k1 o2,.slice Y lk.length Z,al,am,ap] 175 (0,0))]++U∧I acc' E' U):=ET.ofFn (caps:= [pV av aY,pV a9 0,pV a0 0]) (AS func153 rfl) (X5 ba (bc.Ah (K.Ab O)) (bl.Ah (K.Ab O)) (bm.Ah (K.Ab O)) (Rp.Ah _ (K.Ab O) a5) (bn.Ah (K.Ab O)) (a6.Ah (K.Ab O)) bi (bw.Ah O) (fun bI bJ ac bK bL bM c2 bN bO bP bQ=>bp bI bJ ac bK bL bM c2 (((K.Ab O)).Ab bN) bO bP bQ) _ _ _ _ _ _ bu _ _ _ _ Ar Al.nil (ba _ _ _ _ (K.Ab O) bo));refine DG (S':= [[(bk,.cells #[pV k1 o2,.slice Y lk.length Z,iV age,nS,uV 0] 175 (0,0))]++X]) (by simp) ag fun bR=>Jk 0 bH rfl rfl rfl rfl rfl bR rfl ?_;rintro w b1 _ bS ⟨bT,bU,bV,U,rfl,rfl,bW⟩ bY;refine JL.done (JL.fin (v:= .tuple #[]) rfl rfl (Co.list func152 rfl (vs:= []) trivial) ?_);exact bv ((K.Ab O).trans bS) rfl ⟨bT,bU,bV,U,rfl,by simp,bW⟩ bY
end Pal
