/- ToothAges. Part 3 of 8. -/
import Derived.Test.YtboibffcmhheiaaGreatDoorTna
import Derived.Test.YtboibffcmhheiaaGreatDoorTnb
import Derived.Test.YtboibffcmhheiaaGreatDoorRows
import Derived.Test.YtboibffcmhheiaaGreatDoorChecked
import Derived.Conc.LeavingOf
import Derived.Conc.Holds
import Derived.Carry
import Derived.ChangeSame
import Derived.ChangeVars
import Derived.JoinedOf
import Derived.RowKit
import Derived.LaidLaws
import Derived.LaidHandle
import Derived.Stop.Joined
import Derived.Test.YtboibffcmhheiaaGreatDoorProg
import Derived.ProofKit
set_option linter.all false
set_option maxRecDepth 100000
namespace Pal
open Go Go.Conc
section
variable {P:Program}(J:Judge P)(Q:Goroutine→St→Prop)(b:Frame)(ds:List Deferred)(ops:Array Oper)(k:List Item)(cs:List Frame)(X D:Nat→Bool)
def JB:Nat→Array Bool→Array Value→St→Prop
 | 0,listed,T,s=>Region.ready .any ops listed= []∧J.ok Q (G (fr b T ds (.inRegion ops []::k)) cs) s
 | fuel+1,listed,T,s=>
  Region.ready .any ops listed≠ []∧s.q=false∧∀i∈Region.ready .any ops listed,∀o,ops[i]? =some o→(∀c,o.op≠ .defer c)∧
   (Region.wanted o (yielded ops T)=false→JB fuel (Bg listed i) (CO T o.dst undef) s)∧
   (Region.wanted o (yielded ops T)=true→X i=true→lp P (execOp (BN T) o) s (fun nx s'=>match nx with
    | .value v=>JB fuel (Bg listed i) (CO T o.dst v) s'
    | .skip=>JB fuel (Bg listed i) (CO T o.dst undef) s'
    | _=>False) (fun _ _=>False))∧
   (Region.wanted o (yielded ops T)=true→X i=false→lp P (execOp (BN T) o) (BI D s) (fun nx s'=>match nx with
    | .value v=>JB fuel (Bg listed i) (CO T o.dst v) (CK D s s')
    | .skip=>JB fuel (Bg listed i) (CO T o.dst undef) (CK D s s')
    | _=>False) (fun _ _=>False))
variable {J Q b ds ops k cs X D}
theorem Wv(V:b.kind≠ .early):∀(fuel t:Nat) (listed:Array Bool) (T:Array Value) (s:St),JB J Q b ds ops k cs X D fuel listed T s→
  J.ok Q (G (fr b T ds (.inRegion ops (Region.linearise.go .any ops fuel t listed [])::k)) cs) s:=by
 intro fuel
 induction fuel with
 | zero=>intro t listed T s h;simpa [Region.linearise.go] using h.2
 | succ fuel O=>
  intro t listed T s h;obtain⟨al,am,h⟩:=h;obtain⟨i,hi⟩:∃i,(Region.ready .any ops listed)[t % (Region.ready .any ops listed).length]? =some i:=by
   have:0<(Region.ready .any ops listed).length:=List.length_pos_iff.2 al;exact⟨_,List.getElem?_eq_getElem (Nat.mod_lt _ this)⟩
  have Y:=List.mem_of_getElem? hi;have hgo:Region.linearise.go .any ops (fuel+1) t listed []=i::Region.linearise.go .any ops fuel (t / (Region.ready .any ops listed).length) (Bg listed i) []:=by
   simp only [Region.linearise.go];change (match(Region.ready .any ops listed)[t % (Region.ready .any ops listed).length]? with
    | some i=>Region.linearise.go .any ops fuel (t / (Region.ready .any ops listed).length) (listed.setIfInBounds i true) [i]
    | none=> [].reverse)=_
   rw [hi];simp only;rw [linearise_go_acc];rfl
  rw [hgo];obtain⟨_,o,U,_⟩:=mem_ready.1 Y;obtain⟨Z,ap,av,a0⟩:=h i Y o U;cases hw:Region.wanted o (yielded ops T) with
  | false=>exact Judge.unwanted U hw (O _ _ _ _ (ap hw))
  | true=>
   cases ag:X i with
   | true=>
    refine Judge.oper U hw V (.inr Z) (Dw _ (av hw ag) ?_ (fun _ _ h=>h.elim));intro nx s' K;cases nx with
    | value v=>exact O _ _ _ _ K
    | skip=>exact O _ _ _ _ K
    | _=>exact K.elim
   | false=>
    refine Judge.RU D U hw V Z am (Dw _ (a0 hw ag) ?_ (fun _ _ h=>h));intro nx s' K;cases nx with
    | value v=>exact O _ _ _ _ K
    | skip=>exact O _ _ _ _ K
    | _=>exact K.elim
def waitAll(ops:Array Oper)(X:Nat→Bool)(i:Nat):Bool:=(List.range ops.size).all fun j=> !X j || waits ops ops.size j i
theorem JB.take{i:Nat}{oi:Oper}{w pure:Bool}{v:Value}(hi:ops[i]? =some oi)(bM:X i=false)(bD:(pure || waitAll ops X i)=true)(bN:Region.noSelect ops=true)(bO:∀c,oi.op≠ .defer c):
  ∀(fuel:Nat) (listed:Array Bool) (T:Array Value) (s:St),HT ops listed i oi=true→G2 ops listed=true→listed.size=ops.size→i∈Region.ready .any ops listed→s.q=false→Region.wanted oi (yielded ops T)=w→
   (w=true→∀s',s'.q=false→(pure=false→∀x o,(BI D s).E x=some o→s'.E x=some o)→Yl P oi (BN T) s' v)→
   JB J Q b ds ops k cs X D fuel (Bg listed i) (CO T oi.dst (if w then v else undef)) s→JB J Q b ds ops k cs X D (fuel+1) listed T s:=by
 have al:∀(j:Nat) (Y:Oper),ops[j]? =some Y→∀cs b,Y.op≠Op.select cs b:=fun j Y h cs b=>Region.noSelect_spec bN j Y cs b h;intro fuel
 induction fuel with
 | zero=>?_
 | succ fuel a1=>?_
 all_goals
  intro listed T s bE bF a2 bo a3 hw am h;refine⟨fun e=>(by rw [e] at bo;cases bo),a3,fun j bG Y O=>?_⟩;by_cases a4:j=i
  ·subst a4;obtain rfl:Y=oi:=by rw [hi] at O;exact(Option.some.inj O).symm
   refine⟨bO,fun br=>?_,fun ap K=>?_,fun ap K=>?_⟩
   ·rw [br] at hw;subst hw;exact h
   ·rw [bM] at K;cases K
   ·rw [ap] at hw;subst hw;refine Dw _ (am rfl (BI D s) a3 fun _ _ _ h=>h).out ?_ (fun _ _ h=>h);rintro nx s' ⟨rfl,rfl⟩;rw [Kz];exact h
  ·
   have bH:j∈Region.ready .any ops (Bg listed i):=ready_mono bG a4;obtain⟨av,U,bI,bu⟩:=mem_ready.1 bG;obtain rfl:U=Y:=by rw [O] at bI;exact(Option.some.inj bI).symm
   have bv:=(mem_ready.1 bo).1;have bP:(U.after.any fun e=>Region.binds .any e&&e.on==i)=false:=by
    rw [Array.any_eq_false];intro e he K;simp only [Bool.and_eq_true,beq_iff_eq] at K;have:=bu _ (Array.getElem_mem he) K.1;rw [K.2] at this;have a0:listed.getD i true=listed.getD i false∨listed.size≤i:=by
     rcases Nat.lt_or_ge i listed.size with q | q
     ·left;simp [Array.getD_eq_getD_getElem?,q]
     ·exact .inr q
    rcases a0 with a0 | a0
    ·rw [bv,this] at a0;cases a0
    ·rw [Array.getD_eq_getD_getElem?,Array.getElem?_eq_none a0] at this;simp at this
   have bQ:oi.apart ops U=true:=by
    have bw:j<ops.size:=(Array.getElem?_eq_some_iff.1 O).1;have:=List.all_eq_true.1 bE j (List.mem_range.2 bw);simp only [Bool.or_eq_true,beq_iff_eq] at this;rcases this with(q | q) | q
    ·exact absurd q a4
    ·rw [av] at q;cases q
    ·rw [O] at q;simp only [Bool.or_eq_true] at q;rw [bP] at q;exact q.resolve_left (by simp)
   obtain⟨bR,a5,a6⟩:=Oper.apart_spec bQ;obtain⟨p1,p2⟩:=GY (ops:=ops) (T:=T) (v:=if w then v else undef) (al j U O) bR
   first
    | exact absurd bH (by rw [h.1];simp)
    | (
     obtain⟨b3,_,h⟩:=h
     obtain⟨bS,br,bT,bU⟩:=h j bH U O
     have a7:Bg (Bg listed i) j=Bg (Bg listed j) i:=by
      unfold Bg;exact Array.setIfInBounds_comm _ _ (Ne.symm a4)
     have a8:i∈Region.ready .any ops (Bg listed j):=ready_mono bo (Ne.symm a4)
     have a9:HT ops (Bg listed j) i oi=true:=by
      refine List.all_eq_true.2 fun x K=>?_
      have:=List.all_eq_true.1 bE x K
      simp only [Bool.or_eq_true,beq_iff_eq] at this ⊢
      rcases this with(q | q) | q
      ·exact .inl (.inl q)
      ·left;right
       by_cases e:j=x
       ·subst e;rw [av] at q;cases q
       ·rw [Bg,getD_set_ne true e];exact q
      ·exact .inr q
     have bb:(Bg listed j).size=ops.size:=by unfold Bg;simpa using a2
     have bd:G2 ops (Bg listed j)=true:=by
      refine List.all_eq_true.2 fun x K=>?_
      cases bx:ops[x]? with
      | none=>simp
      | some bV=>
       simp only [Bool.or_eq_true,Bool.not_eq_true']
       by_cases e:j=x
       ·subst e
        obtain rfl:bV=U:=by rw [O] at bx;exact(Option.some.inj bx).symm
        right
        refine Array.all_eq_true'.2 fun e he=>?_
        cases hb:Region.binds .any e with
        | false=>simp
        | true=>
         have:=bu e he hb
         by_cases be:j=e.on
         ·rw [← be] at this
          have bz:j<listed.size:=by rw [a2];exact(Array.getElem?_eq_some_iff.1 O).1
          simp [Array.getD_eq_getD_getElem?,bz] at this av
          rw [av] at this;cases this
         ·rw [Bg,getD_set_ne false be];simpa using this
       ·cases bJ:(Bg listed j).getD x false with
        | false=>exact .inl rfl
        | true=>
         right
         have bW:listed.getD x false=true:=by rw [Bg,getD_set_ne false e] at bJ;exact bJ
         refine Array.all_eq_true'.2 fun bA he=>?_
         cases hb:Region.binds .any bA with
         | false=>simp
         | true=>
          have:=Of bF bx bW bA he hb
          by_cases be:j=bA.on
          ·rw [← be] at this
           have bz:j<listed.size:=by rw [a2];exact(Array.getElem?_eq_some_iff.1 O).1
           simp [Array.getD_eq_getD_getElem?,bz] at this av
           rw [av] at this;cases this
          ·rw [Bg,getD_set_ne false be];simpa using this
     refine⟨bS,fun bY=>?_,fun bB bp=>?_,fun bB bp=>?_⟩
     ·have:=br (by rw [p2];exact bY)
      rw [a7,HN a5] at this
      obtain⟨q1,q2⟩:=GY (ops:=ops) (T:=T) (d:=U.dst) (v:=undef) (o:=oi) (al i oi hi) a6
      exact a1 _ _ _ a9 bd bb a8 a3 (by rw [q2];exact hw) (fun V s' bZ bq=>by unfold Yl;rw [q1];exact(am V s' bZ bq).out) this
     ·
      have b0:pure=true:=by
       cases b1:pure with
       | true=>rfl
       | false=>
        exfalso
        rw [b1,Bool.false_or] at bD
        have bw:j<ops.size:=(Array.getElem?_eq_some_iff.1 O).1
        have ap:=List.all_eq_true.1 bD j (List.mem_range.2 bw)
        rw [bp] at ap
        simp only [Bool.not_true,Bool.false_or] at ap
        rcases P3 bF _ j U O (fun e he hb=>bu e he hb) ap with q | ⟨x,q1,q2⟩
        ·have b2:i<listed.size:=by rw [a2];exact(Array.getElem?_eq_some_iff.1 hi).1
         simp [Array.getD_eq_getD_getElem?,b2] at q bv
         rw [bv] at q;cases q
        ·have:¬x<listed.size:=by rw [a2];intro K;simp [K] at q1
         simp [Array.getD_eq_getD_getElem?,this] at q2
      have bi:=NT _ (bT (by rw [p2];exact bB) bp)
      rw [p1] at bi
      refine Dw _ bi ?_ (fun _ _ h=>h)
      rintro nx s' ⟨K,bq,bC⟩
      have bn:s'.q=false:=bC.trans a3
      have bK:pure=false→∀{α:Prop},α:=fun e=>by rw [b0] at e;cases e
      cases nx with
      | value u=>
       simp only at K ⊢
       rw [a7,HN a5] at K
       obtain⟨q1,q2⟩:=GY (ops:=ops) (T:=T) (d:=U.dst) (v:=u) (o:=oi) (al i oi hi) a6
       exact a1 _ _ _ a9 bd bb a8 bn (by rw [q2];exact hw) (fun V s2 Z ag=>by unfold Yl;rw [q1];exact(am V s2 Z (fun e=>bK e)).out) K
      | skip=>
       simp only at K ⊢
       rw [a7,HN a5] at K
       obtain⟨q1,q2⟩:=GY (ops:=ops) (T:=T) (d:=U.dst) (v:=undef) (o:=oi) (al i oi hi) a6
       exact a1 _ _ _ a9 bd bb a8 bn (by rw [q2];exact hw) (fun V s2 Z ag=>by unfold Yl;rw [q1];exact(am V s2 Z (fun e=>bK e)).out) K
      | _=>exact K.elim
     ·have bi:=NT _ (bU (by rw [p2];exact bB) bp)
      rw [p1] at bi
      refine Dw _ bi ?_ (fun _ _ h=>h)
      rintro nx s' ⟨K,bq,bC⟩
      have bL:=P7 (D:=D) bq
      have bn:(CK D s s').q=false:=by show s'.q=false;rw [bC];exact a3
      cases nx with
      | value u=>
       simp only at K ⊢
       rw [a7,HN a5] at K
       obtain⟨q1,q2⟩:=GY (ops:=ops) (T:=T) (d:=U.dst) (v:=u) (o:=oi) (al i oi hi) a6
       exact a1 _ _ _ a9 bd bb a8 bn (by rw [q2];exact hw) (fun V s2 Z ag=>by unfold Yl;rw [q1];exact(am V s2 Z (fun e=>by rw [bL] at ag;exact ag e)).out) K
      | skip=>
       simp only at K ⊢
       rw [a7,HN a5] at K
       obtain⟨q1,q2⟩:=GY (ops:=ops) (T:=T) (d:=U.dst) (v:=undef) (o:=oi) (al i oi hi) a6
       exact a1 _ _ _ a9 bd bb a8 bn (by rw [q2];exact hw) (fun V s2 Z ag=>by unfold Yl;rw [q1];exact(am V s2 Z (fun e=>by rw [bL] at ag;exact ag e)).out) K
      | _=>exact K.elim)
end
section
variable {P:Program}(J:Judge P)(Q:Goroutine→St→Prop)(b:Frame)(n:Nat)(ds:List Deferred)(ops:Array Oper)(k:List Item)(cs:List Frame)(X D:Nat→Bool)
def Fz(fuel:Nat)(listed:Array Bool)(L:Env)(s:St):Prop:=∀T,Has n L T→JB J Q b ds ops k cs X D fuel listed T s
end
def Kc(ops:Array Oper)(listed:Array Bool)(xs:List Nat)(pure:Bool)(i:Nat):Bool:=match ops[i]? with
 | some oi=> !A6 xs i&&(pure || waitAll ops (A6 xs) i)&&Region.noSelect ops&& !Dx oi.op&&HT ops listed i oi&&G2 ops listed&&listed.size==ops.size&&(Region.ready .any ops listed).contains i
 | none=>false
section
variable {P:Program}{J:Judge P}{Q:Goroutine→St→Prop}{b:Frame}{n:Nat}{ds:List Deferred}{ops:Array Oper}{k:List Item}{cs:List Frame}{fuel:Nat}{X D:Nat→Bool}{listed:Array Bool}{L:Env}{s:St}{E H:LH}{S:List Seg}{xl bks:List Nat}
variable {d:Option Tmp}{x y:Operand}{t u ty e:TypeId}{p:String}{af:Array Edge}{g:Option (Nat×Bool)}{v:Value}{i:Nat}{kd:IntKind}
theorem G1(xl bks:List Nat){id:Nat}(hm:P.follows .mixedOrders=true)(K:(b.kind != .early)=true)
  (h:Fz J Q b n ds ops k cs (A6 xl) (A6 bks) ops.size (Array.replicate ops.size false) L (Ao E H S)):JL J Q b n L ds (.code (.region id ops true)::k) cs (Ao E H S):=
 R0 rfl hm fun t T O=>Wv (by simpa using K) ops.size t _ T _ (h T O)
theorem SH{oi:Oper}(i:Nat)(pure:Bool)(hi:ops[i]? =some oi)(K:Kc ops listed xl pure i=true)(V:s.q=false)
  (hw:Bd L ops oi=some true) (Y:BH n oi.dst=true) (Z:∀ρ,EF L ρ→∀s':St,(pure=false→∀x o,(BI D s).E x=some o→s'.E x=some o)→Yl P oi ρ s' v)
  (h:Fz J Q b n ds ops k cs (A6 xl) D fuel (Bg listed i) (AF L oi.dst v) s):Fz J Q b n ds ops k cs (A6 xl) D (fuel+1) listed L s:=fun T O=>by
 simp only [Kc,hi,Bool.and_eq_true] at K
 obtain⟨⟨⟨⟨⟨⟨⟨ag,al⟩,am⟩,U⟩,ap⟩,av⟩,a0⟩,a1⟩:=K
 refine JB.take (w:=true) (v:=v) (pure:=pure) hi (by simpa using ag) al am (fun c K=>by rw [K] at U;simp [Dx] at U) fuel listed T s ap av (by simpa using a0) (by simpa using a1) V (Dc O hw) (fun _ s' a3 a2=>Z _ O.Gk s' a2) ?_
 exact h _ (O.put Y v)
theorem JB.fin(K:Region.ready .any ops listed= [])(h:JL J Q b n L ds k cs s):Fz J Q b n ds ops k cs X D 0 listed L s:=fun T O=>⟨K,JL.done h T O⟩
theorem JB.store{bk off:Nat}{c:Array Value}(i j:Nat)(U:Region.ready .any ops listed= [i])(ag:A6 xl i=true)(al:ops[i]? =some ⟨d,.store t x y,ty,p,af,g⟩)(hw:Bd L ops ⟨d,.store t x y,ty,p,af,g⟩=some true)(am:BH n d=true)(ap:Ax E H S)
  (av:ev L x=some (.pointer (some ⟨bk,off,none⟩))) (a0:ev L y=some v) (a1:BE P t=some v.cells.size) (a2:∀u∈v.cells.toList,CG u=true) (V:S[j]? =some [(bk,.cells c e (0,0))]) (hle:off+v.cells.size≤c.size)
  (h:Ax E H (S.set j [(bk,.cells (AX c off v.cells.toList) e (0,0))])→Fz J Q b n ds ops k cs (A6 xl) D fuel (Bg listed i) (AF L d undef) (Ao E H (S.set j [(bk,.cells (AX c off v.cells.toList) e (0,0))]))):
  Fz J Q b n ds ops k cs (A6 xl) D (fuel+1) listed L (Ao E H S):=fun T K=>by
 refine⟨by rw [U];simp,rfl,fun bb O o' Y=>?_⟩
 rw [U] at O
 simp at O
 subst O
 obtain rfl:o'=⟨d,.store t x y,ty,p,af,g⟩:=by rw [al] at Y;exact(Option.some.inj Y).symm
 have a3:=Dc K hw;refine⟨fun c a4=>(by cases a4),fun e=>?_,fun _ _=>?_,fun _ e=>?_⟩
 ·rw [a3] at e;cases e
 ·obtain⟨a5,a6⟩:=F2 ap V;rw [a5];show lp P (do Instr.storeAt t (BN T x) (BN T y);pure Next.skip) _ _ _
  rw [K.ev av,K.ev a0];refine AH _ _ ?_;unfold Instr.storeAt;simp only [Instr.sureAddr,bind,Sem.bind,pure];refine Mh (pl:=(S.set j []).flatten.length) a1 a2 a6 (c:=c) (e:=e) (by simp) hle fun Z=>?_;have a7:((S.set j []).flatten++ [(bk,Obj.cells c e (0,0))]).set (S.set j []).flatten.length (bk,.cells (AX c off v.cells.toList) e (0,0))=(S.set j []).flatten++ [(bk,.cells (AX c off v.cells.toList) e (0,0))]:=Hr _ _ _ _;rw [a7] at Z ⊢;obtain⟨a8,a9⟩:=G3 V Z;rw [a8];exact h a9 _ (K.put am undef)
 ·rw [ag] at e;cases e
end
end Pal
namespace Pal
open Go Go.Conc
theorem UR{E H:LH}{S:List Seg}{bks:List Nat}{bk o:Nat}{l ws:List Value}{e:TypeId}{f:Nat×Nat}{s':St}{w:Value}(j:Nat)(K:Ax E H S)(O:S[j]? =some [(bk,.cells (l++ws).toArray e f)])(U:A6 bks bk=true)(hs:∀x o,(BI (A6 bks) (Ao E H S)).E x=some o→s'.E x=some o)(V:ws[o]? =some w):s'.cell? ⟨bk,l.length+o,none⟩=some w:=by
 have:=OF j K O U hs o w V
 rwa [DK rfl] at this
section
variable {P:Program}{E H:LH}{B:List (Nat×Obj)}{t e ty:TypeId}
theorem TU{ats:Array TypeId}{a:Option Addr}{l K O m cx:Nat}{ax:Option Addr}{xs ys:List Value}{z:Value}{Q:Value→St→Prop}{X:Halt→St→Prop}
  (a4:ats[0]? =some t) {t1 a5:TypeId} (a6:ats[1]? =some t1) (a7:P.underlying t1=some (.slice a5)) (ht:P.underlying t=some (.slice e)) (a8:BE P e=some K) (hb:ES P e=some O) (a9:zeroOf P e=some z) (bb:z.cells.size=K)
  (bd:Nd E H B) (al:G8 (mk E H B) (.slice a l l) K xs)
  (Y:G8 (mk E H B) (.slice ax m cx) K ys) (bv:∀w∈ys,CG w=true) (bw:0<O) (bx:l+m≤2 ^ 40) (be:O≤64)
  (a2:m=0→Q (.slice a (l+m) l) (mk E H B))
  (bi:∀r Z am,l+m≤am→Z.size=am*K→Z.toList.take ((l+m)*K)=xs++ys→Nd E H (B++ [(r,.cells Z e (0,0))])→Q (.slice (some ⟨r,0,none⟩) (l+m) am) (mk E H (B++ [(r,.cells Z e (0,0))]))):
  lp P (Builtin.append_ ats ty #[.slice a l l,.slice ax m cx]) (mk E H B) Q X:=by
 unfold Builtin.append_;simp only [a4,a6,List.getElem?_toArray,List.getElem?_cons_zero,List.getElem?_cons_succ];refine AH _ _ (Dm ht ?_);refine AH _ _ (EX a8 ?_);refine AH _ _ (Dm a7 ?_);simp only [Hm,Bool.false_eq_true,if_false,Builtin.lenOf,Bool.not_false,if_true];have ag:ys.length=m*K:=by
  cases ax with
  | none=>obtain⟨U,V⟩:=Y;subst U V;simp
  | some ad=>exact Y.2.1
 have ap:xs.length=l*K:=by
  cases a with
  | none=>obtain⟨U,V⟩:=al;subst U V;simp
  | some ad=>exact al.2.1
 obtain⟨c,bz⟩:∃c,c=l:=⟨_,rfl⟩;split
 ·rename_i bA;have hm:m=0:=by omega
  have bn:ys= []:=List.eq_nil_of_length_eq_zero (by rw [ag,hm];simp);refine AH _ _ (Jq ⟨ax,cx,rfl⟩ Y ?_);subst bn;cases a with
  | none=>exact a2 hm
  | some ad=>exact a2 hm
 ·rename_i bB;have U:¬(((l+m:Nat):Int)>IntKind.i64.max∧(False∨O=0)):=by rintro⟨_,h | h⟩ <;> omega
  have V:¬(Builtin.nextslicecap (l+m) l*O>2 ^ 48):=by
   have:=Qd (need:=l+m) (old:=l) (by omega);have bC:Builtin.nextslicecap (l+m) l*O≤(2*(l+m)+768)*64:=Nat.mul_le_mul this be;omega
  obtain⟨inf,av,a0⟩:=Mq hb;refine AH _ _ (Il av ?_);rw [a0,if_neg U];refine AH _ _ (Il av ?_);rw [a0,if_neg V];refine AH _ _ ?_;simp only [choose,lp,Question.forced,Bool.false_eq_true,if_false];refine⟨rfl,fun bo=>?_⟩;generalize bp:(Question.appendCap (l+m) l e).cut bo=a1;have bq:l+m≤a1:=by rw [← bp];simp [Question.cut]
  refine AH _ _ (Il av ?_);rw [a0];have br:∀{α:Type} {f:Unit→Sem α} {Q:α→St→Prop},lp P (f ()) (mk E H B) Q X→lp P (askRoom (a1*O)>>=f) (mk E H B) Q X:=by
   intro α f Q a3;refine AH _ _ ?_;unfold askRoom;split
   ·exact⟨.inl ⟨rfl,rfl⟩,a3⟩
   ·exact a3
  refine br (AH _ _ (Jq ⟨a,l,rfl⟩ al ?_));refine AH _ _ (Jq ⟨ax,cx,rfl⟩ Y ?_);refine AH _ _ (Gf a9 ?_);refine AH _ _ (Ho bd fun r bu=>?_);refine bi r _ a1 bq ?_ ?_ bu
  ·simp only [Array.size_append,List.size_toArray,PX,bb,ap,ag];rw [← Nat.add_mul,← Nat.add_mul];congr 1;omega
  ·simp only [Array.toList_append];rw [List.take_append_of_le_length (by simp [ap,ag,Nat.add_mul])];rw [List.take_of_length_le (by simp [ap,ag,Nat.add_mul])]
end
theorem Al.spot{α:Type}{pp:Rp α}{E:LH}{a:Option Addr}{c:Nat}{xs:List α}(h:Al pp E a c xs):∀ad,a=some ad→ad.spot=none∨c=0:=fun ad K=>by
 rcases h.2 with⟨_,h⟩ | ⟨bk,off,h,_⟩
 ·exact h ad K
 ·rw [h] at K;cases K;exact .inl rfl
theorem Al.full{α:Type}{pp:Rp α}{E:LH}{a:Option Addr}{c:Nat}{xs:List α}(h:Al pp E a c xs):Al pp E a xs.length xs:=⟨Nat.le_refl _,h.2.imp (fun⟨h,_⟩=>⟨h,fun _ _=> .inr (by rw [h];rfl)⟩) id⟩
theorem Al.RF{α:Type}{pp:Rp α}{E H:LH}{B:List (Nat×Obj)}{a:Option Addr}{c:Nat}{ys:List α}(Z:Al pp E a c ys):
  ∃K:List (List Value),K.length=ys.length∧(∀(i:Nat) x ws,ys[i]? =some x→K[i]? =some ws→pp.r E ws x)∧G8 (mk E H B) (.slice a ys.length c) pp.n K.flatten∧∀w∈K.flatten,CG w=true:=by
 obtain⟨K,U,Y,V⟩:=Z.rows;have ag:=Iw U Y;refine⟨K,U,Y,?_,fun w hw=>?_⟩
 ·rcases V with⟨V,a1⟩ | ⟨bk,off,rfl,V⟩
  ·subst V;have:K= []:=List.eq_nil_of_length_eq_zero U;subst this;cases a with
   | none=>exact⟨rfl,rfl⟩
   | some ad=>exact⟨.inr rfl,by simp,Nat.zero_le _,fun q w O=>by simp at O⟩
  ·refine⟨.inl rfl,by rw [Mi ag,U],Z.1,fun q w O=>?_⟩;obtain⟨q1,m,ws,al,am,ap⟩:=Oj ag O;have:=(V q1 ws al).cell (H:=H) (B:=B) am;subst ap;rw [← Nat.add_assoc];exact this
 ·obtain⟨us,av,hw⟩:=List.mem_flatten.1 hw;obtain⟨q,O⟩:=List.mem_iff_getElem?.1 av;have a0:q<ys.length:=by rw [← U];exact(List.getElem?_eq_some_iff.1 O).1
  exact pp.one (Y q _ us (List.getElem?_eq_getElem a0) O) w hw
section
variable {P:Program}{J:Judge P}{Q:Goroutine→St→Prop}{b:Frame}{n:Nat}{ds:List Deferred}{ops:Array Oper}{k:List Item}{cs:List Frame}{L:Env}{s:St}{E E' H:LH}{S:List Seg}
variable {d:Option Tmp}{x y z1:Operand}{t u ty e:TypeId}{p:String}{af:Array Edge}{g:Option (Nat×Bool)}{v:Value}{i:Nat}{rest:List Nat}{kd:IntKind}{ρ:Operand→Value}
theorem Ud{a:Option Addr}{l c K:Nat}(O:∀ad,a=some ad→ad.spot=none∨c=0)(U:l≤c)(ht:P.underlying t=some (.slice e))(V:BE P e=some K)(Y:ρ x= .slice a l c)(Z:ρ y=iV (l:Int))(ag:ρ z1=iV (l:Int)):
  Yl P ⟨d,.slice t x none (some y) (some z1),ty,p,af,g⟩ ρ s (.slice a l l):=by
 have h:=Yl.slice (P:=P) (s:=s) (d:=d) (ty:=ty) (p:=p) (af:=af) (g:=g) (olo:=none) (ohi:=some y) (omx:=some z1) (lo:=0) (hi:=l) (mx:=l) ht V Y ag Z rfl U (Nat.le_refl _) (Nat.zero_le _);have al:(if l=0 then a else a.map (·.add (0*K)))=a:=by
  split
  ·rfl
  ·cases a with
   | none=>rfl
   | some ad=>
    have:=(O ad rfl).resolve_right (by omega);simp only [Option.map_some,Nat.zero_mul];rw [DK this];obtain⟨b,o,sp⟩:=ad;simp only at this;subst this;simp
 rw [al] at h;simpa using h
theorem Un{α:Type}{pp:Rp α}{t1:TypeId}{V c cx:Nat}{a ax:Option Addr}{xs ys Y:List α}{ats:Array TypeId}{z:Value}(U:De xs ys=some Y)
  (a1:ops[i]? =some ⟨d,.call ⟨.builtin .append,#[x,y],ats⟩,ty,p,af,g⟩) (hw:Bd L ops ⟨d,.call ⟨.builtin .append,#[x,y],ats⟩,ty,p,af,g⟩=some true) (a2:CP b n ⟨d,.call ⟨.builtin .append,#[x,y],ats⟩,ty,p,af,g⟩=true)
  (a3:ev L x=some (.slice a xs.length xs.length)) (a4:ev L y=some (.slice ax ys.length cx)) (a5:ats[0]? =some t) (a6:ats[1]? =some t1) (ht:P.underlying t=some (.slice e)) (a7:P.underlying t1=some (.slice e)) (a8:BE P e=some pp.n) (hb:ES P e=some V) (a9:zeroOf P e=some z) (bb:z.cells.size=pp.n)
  (bd:0<V) (be:V≤64) (Z:Al pp E a c xs) (bi:Al pp E ax cx ys) (ag:Ax E H S)
  (h:∀E' al K,Le E E'→Al pp E' al K Y→Ax E' H (S++ [[]])→JL J Q b n (AF L d (.slice al Y.length K)) ds (.inRegion ops rest::k) cs (Ao E' H (S++ [[]]))):
  JL J Q b n L ds (.inRegion ops (i::rest)::k) cs (Ao E H S):=by
 unfold De at U;split at U
 rotate_left
 ·cases U
 rename_i bn;cases U;obtain⟨wss,am,bo,bp,bI⟩:=Al.RF (H:=H) (B:=S.flatten) Z.full;obtain⟨bq,br,bu,bv,bw⟩:=Al.RF (H:=H) (B:=S.flatten) bi;have hlen:(xs++ys).length=xs.length+ys.length:=by simp
 show JL J Q b n L ds (.inRegion ops (i::rest)::k) cs (mk E H S.flatten);refine JL.op a1 hw a2 fun ρ ap=>?_;rw [Mg,ap x _ a3,ap y _ a4];refine AH _ _ (TU a5 a6 a7 ht a8 hb a9 bb ag bp bv bw bd bn be ?_ ?_)
 ·intro hm;have bx:ys= []:=List.eq_nil_of_length_eq_zero hm;subst bx;have bz:Ax E H (S++ [[]]):=by unfold Ax at*;rw [GZ,List.append_nil];exact ag
  have bA:mk E H S.flatten=Ao E H (S++ [[]]):=by unfold Ao;rw [GZ,List.append_nil]
  rw [bA];have:=h E a xs.length (Le.refl _) (by rw [List.append_nil];exact Z.full) bz;rw [hlen] at this;exact this
 ·intro r O K bB bC bD bE;have bF:OL e pp E (some ⟨r,0,none⟩) K [(r,.cells O e (0,0))] (xs++ys):=
   ⟨wss++bq,.inr ⟨r,O,rfl,rfl,bC,by rw [hlen];exact bB,by rw [hlen,List.flatten_append];exact bD.symm⟩,by simp [am,br],Om am bo bu⟩
  have av:=EE (S:=S) (seg:= [(r,.cells O e (0,0))]) bE;show JL J Q b n _ ds _ cs (mk E H (S.flatten++ [(r,.cells O e (0,0))]));rw [av.1];refine B5 S.length bF av.2 (by simp) fun E' hle bG a0=>?_;have bH:(S++ [[(r,Obj.cells O e (0,0))]]).set S.length []=S++ [[]]:=Hr _ _ _ _;rw [bH] at a0 ⊢;have:=h E' (some ⟨r,0,none⟩) K hle bG a0;rw [hlen] at this;exact this
end
end Pal
namespace Pal
open Go Go.Conc
open Go.ConcN (sumTo upd sumTo_upd upd_ne upd_same)
def K8(P:Program)(R:Value→St→Prop):GP:=fun g s=>
 g.status= .running∧∃v,R v s∧∀w,stepG P true g w= .ended (.done v) w #[]
section
variable {P:Program}{R:Value→St→Prop}{J:Judge P}{n:Nat}{L:Env}{s:St}{b:Frame}
theorem JO.end{fn:Func}{t:Tmp}{v:Value}(K:b.kind= .normal)(hi:P.inits.idxOf? b.fn=none)(O:P.funcs[b.fn]? =some fn)(U:fn.results= #[.tmp t])(V:look L t=some v)(Y:R v s):JO J (K8 P R) b n L [] [] s:=fun T Z todo=>by
 refine J.stop ⟨rfl,v,Y,fun w=>?_⟩
 have e:results fn T=Sem.pure v:=by
  have:=Z.at_ t v V;simp only [results,U,Array.mapM_eq_mapM_toList];show Sem.pure (T.getD t undef)=_;rw [this]
 have ag:(results fn T).run P w= .ok v w:=by rw [e];rfl
 have al:(results fn T).events P w #[]= #[]:=by rw [e];simp [Sem.events_pure']
 simp [G,stepG,unwind,Ew,O,ag,al,doReturn,K,GStep.after,hi,seen_none]
end
section
variable {P:Program}{R:Value→St→Prop}
def Lr(P:Program)(R:Value→St→Prop)(K:World)(s₀:St)(v:Value)(w':World):Prop:=
 ∃s,R v s∧Fits s w'∧(∀b o,s₀.E b=some o→s.E b=some o)∧w'.tape=K.tape∧w'.os=K.os∧w'.output=K.output
def PE(P:Program)(R:Value→St→Prop)(K:World)(s₀:St)(O:Nat)(m:Machine)(t:Trace):Prop:=
 ∃gs w sl q Sh g s,m=crowd gs w sl∧Gs P gs w t q Sh g s∧K8 P R g s∧O=sumTo gs.size q∧(∀b o,s₀.E b=some o→s.E b=some o)∧w.tape=K.tape∧w.os=K.os∧w.output=K.output
theorem VG{ap:World}{s₀:St}(a2:Nat)(m:Machine)(t:Trace)(h:PE P R ap s₀ a2 m t):
  (∃o w ops,stepT P m=(.ended o w,ops)∧Good P (Lr P R ap s₀) m o w (t++ops))∨(∃m' ops a3,stepT P m=(.next m',ops)∧a3<a2∧PE P R ap s₀ a3 m' (t++ops)):=by
 obtain⟨gs,w,sl,q,Sh,g,s,rfl,hC,bp,rfl,a4,a5,a6,a7⟩:=h;obtain⟨Z,v,a8,a9⟩:=bp;have bq:∀x∈gs,awake x:=by
  intro x V;obtain⟨i,hi,rfl⟩:=Array.mem_iff_getElem.1 V;rcases Nat.eq_zero_or_pos i with rfl | av
  ·have:gs[0]=g:=by simpa [Array.getElem?_eq_getElem hi] using hC.main
   rw [this];exact awake_of (.inl Z)
  ·exact awake_of ((hC.lv.old i _ av (Array.getElem?_eq_getElem hi)).status.elim .inl fun x=> .inr (.inr x))
 obtain⟨i,x,d,bb,hi,V,bd⟩:=crowd_pick (P:=P) (w:=w) (sl:=sl) bq ⟨0,g,hC.main,Z⟩;have be:=hC.at_ d;have br:0<gs.size:=(Array.getElem?_eq_some_iff.1 hC.main).1;have bu:∀(a:Nat) (fn:FuncId) (pos:String),MemOp.ofEvents a fn pos #[]= #[]:=fun a fn pos=>by rw [ofEvents_eq];simp
 rcases Nat.eq_zero_or_pos i with rfl | av
 ·obtain rfl:x=g:=by rw [hC.main] at hi;exact(Option.some.inj hi).symm
  have ag:=runT_many_ended (P:=P) (sl:=bb) (i:=0) hi (show stepG P (0==0) x (w.at d)=_ from a9 (w.at d));rw [bu] at ag;refine .inl ⟨_,_,_,bd.trans ag,v,rfl,⟨s,a8,be.CW.fits 0 br,a4,a5,a6,a7⟩,?_,?_,⟨fun y K=>?_,rfl⟩,fun j y K O=>?_⟩
  ·simpa using hC.CW.clean
  ·simpa using hC.over
  ·obtain⟨j,O⟩:=List.mem_iff_getElem?.1 K;rw [List.getElem?_drop] at O;exact⟨_,(hC.lv.old (1+j) y (by omega) (by simpa [crowd] using O)).leaves⟩
  ·have Y:=hC.lv.old j y (by omega) K;exact⟨q j,by simp only [Array.append_empty];exact Y.hears w⟩
 ·have Y:=hC.lv.old i x av hi;have bv:(i==0)=false:=by simp;omega
  have bi:i<gs.size:=(Array.getElem?_eq_some_iff.1 hi).1;cases a0:q i with
  | zero=>rw [a0] at Y;rw [Y.1] at V;cases V
  | succ k=>
   rw [a0] at Y;rcases Y with⟨bw,_⟩ | ⟨_,x',es,hm,bx,bz⟩
   ·rw [bw] at V;cases V
   have bD:sumTo gs.size (upd q i k)+(k+1)=sumTo gs.size q+k:=by
    have:=sumTo_upd q k id bi;simpa [a0] using this
   have ag:=runT_crowd_go (P:=P) (sl:=bb) (i:=i) hi (by rw [bv];exact bx (w.at d));have a1:((gs.map (woken P x x' (w.at d))).setIfInBounds i x').size=gs.size:=by simp
   have al:∀op∈MemOp.ofEvents i x.frame.fn x.frame.place es,op.g=i:=fun op U=>by obtain⟨e,_,rfl⟩:=mem_ofEvents U;rfl
   have bn:∀op∈MemOp.ofEvents i x.frame.fn x.frame.place es,op.act.touch? =none:=fun op U=>by obtain⟨e,he,rfl⟩:=mem_ofEvents U;exact touch_mute (hm e he)
   have bA:Gs P ((gs.map (woken P x x' (w.at d))).setIfInBounds i x') (w.at d) (t++MemOp.ofEvents i x.frame.fn x.frame.place es) (upd q i k) Sh g s:=by
    refine⟨?_,⟨fun j y O K=>?_,fun j O=>?_⟩,?_,?_,?_⟩
    ·have bB:i≠0:=by omega
     rw [Array.getElem?_setIfInBounds_ne bB,Array.getElem?_map,hC.main];simp [woken_run Z]
    ·by_cases am:i=j
     ·subst am;rw [Array.getElem?_setIfInBounds_self_of_lt (by simpa using bi)] at K;obtain rfl:=Option.some.inj K;rw [upd_same,Deaf_own];exact bz
     ·rw [Array.getElem?_setIfInBounds_ne am,Array.getElem?_map] at K;obtain⟨z,bC,rfl⟩:=Option.map_eq_some_iff.1 K;have bo:=hC.lv.old j z O bC;rw [woken_quitsD bo,upd_ne q k (Ne.symm am),Deaf_other t am _ al];exact bo
    ·rw [Deaf_other t (g':=i) (by simp at O;omega) _ al];exact hC.lv.above j (by simpa using O)
    ·rw [a1];exact be.CW.mute al bn (fun op U=>by obtain⟨e,he,rfl⟩:=mem_ofEvents U;exact low_mute (hm e he) _) rfl
    ·exact handedOver_app hC.over fun op U=> .inr (bn op U)
    ·rw [Deaf_other t (by omega) _ al];exact hC.hears
   exact .inr ⟨_,_,_,bd.trans ag,by rw [← a1];rw [a1];omega,_,_,_,_,_,_,_,rfl,bA,⟨Z,v,a8,a9⟩,rfl,a4,a5,a6,a7⟩
theorem ends{gs:Array Goroutine}{w:World}{sl:Option (Nat×Nat)}{t:Trace}{q:Nat→Nat}{Sh:Nat→Prop}{g:Goroutine}{s:St}(hC:Gs P gs w t q Sh g s)(O:K8 P R g s):
  ∃N last o w' K,runNT P (N+1) (crowd gs w sl) t=(.ended o w',K)∧runN P N (crowd gs w sl)= .next last∧step P last= .ended o w'∧Good P (Lr P R w s) last o w' K:=
 run_of_inv Nat.lt_wfRel.wf (PE P R w s) (Good P (Lr P R w s)) VG _ _ _ ⟨gs,w,sl,q,Sh,g,s,rfl,hC,O,rfl,fun _ _ h=>h,rfl,rfl,rfl⟩
theorem Ut{m m':Machine}{t K:Trace}{n:Nat}(h:runNT P n m t=(.next m',K)):runN P n m= .next m':=by rw [← runNT_fst P n m t,h]
def Ef(W:World):St:=⟨fun b=>W.heap[b]?,fun _=>none,false⟩
theorem WE{W:World}{g:Goroutine}(h:(DJ P).ok (K8 P R) g (Ef W)):
  ∃M last o w' K,runNT P (M+1) (solo g W) #[]=(.ended o w',K)∧runN P M (solo g W)= .next last∧step P last= .ended o w'∧Good P (Lr P R W (Ef W)) last o w' K:=by
 have hC:Gs P #[g] W #[] (fun _=>0) (fun _=>False) g (Ef W):=by
  have V:∀{i:Nat} {a:Touch},touchAt #[] i=some a→False:=fun {i a} h=>by simp [touchAt,Trace.act?] at h
  refine⟨rfl,leavers_one P g,⟨fun i hi=>?_,fun i j hi Z bo=>by simp at hi Z;omega,fun i hi b hb=>hb.elim,fun b hb=>hb.elim,fun said=>?_,by simp,fun i _ b _ x a O=>(V O).elim,fun i _ b _ x a O=>(V O).elim⟩,fun i g hg=>by simp [Trace.g?] at hg,rfl⟩
  ·have:i=0:=by simp at hi;exact hi
   subst this;exact⟨fun b o U=>U,fun b o U=>(by cases U),fun b _=>rfl⟩
  ·rintro⟨i,j,_,⟨a,b,ag,_⟩,_⟩;simp [Trace.act?] at ag
 obtain⟨n,gs',w',al,K,bp,bq,g',s',Y,am,ap,av,a0,a1,a2⟩:=h #[g] W none #[] _ _ hC;obtain⟨N,last,o,a3,a4,k1,a5,a6,a7⟩:=ends (sl:=al) am ap;refine⟨n+N,last,o,a3,a4,?_,?_,a6,?_⟩
 ·rw [solo_eq_crowd,Nat.add_assoc,runNT_add,Y];exact k1
 ·have a8:=Ut Y;rw [solo_eq_crowd,runN_add,a8];exact a5
 ·obtain⟨v,e,⟨s2,a9,bb,bd,be,bi,bn⟩,r⟩:=a7;exact⟨v,e,⟨s2,a9,bb,fun b o hb=>bd b o (av b o hb),be.trans a0,bi.trans a1,bn.trans a2⟩,r⟩
end
end Pal
namespace Pal
open Go Go.Conc
theorem Vx{P:Program}{Q:Goroutine→St→Prop}{E H:LH}{f:FuncId}{fn:Func}{c:Code}{vs:List Value}(U:P.funcs[f]? =some fn)(hb:fn.body=some c)(Z:fn.ntmps=fn.ntmps)(ag:vs.length≤fn.ntmps)
  (h:JL (DJ P) Q (base f) fn.ntmps (FM 0 vs) [] [.code c] [] (Ao E H [[]])):(DJ P).ok Q (G (Frame.enter P f vs.toArray .normal) []) (mk E H []):=by
 have he:Frame.enter P f vs.toArray .normal=fr (base f) (vs.toArray++Array.replicate (fn.ntmps - vs.length) undef) [] [.code c]:=by
  simp [Frame.enter,fr,U,hb,base];rfl
 rw [he];have V:mk E H []=Ao E H [[]]:=by unfold Ao;simp
 rw [V];refine h _ ⟨by simp;omega,fun t v ht=>?_⟩;obtain⟨_,K⟩:=Ju ht;have Y:t<vs.length:=by
  rcases Nat.lt_or_ge t vs.length with O | O
  ·exact O
  ·simp at K;have:=(List.getElem?_eq_some_iff.1 K).1;omega
 rw [Array.getD_eq_getD_getElem?,Array.getElem?_append_left (by simpa using Y)];simp at K;simp [K]
end Pal
namespace Pal
open Go Go.Conc Go.Proofs Go.ChangeShapes Go.WideShapes Go.ChangeAt Go.RowKit
open Go.Proofs.YtboibffcmhheiaaGreatDoor (Rows.laid_errors_errorType)
theorem Tryz.own:ownKnob Tryz.prog.godebug=none:=by kernel_rfl
theorem Tryz.laidOut:laidOutB Tryz.prog=true:=by kernel_rfl
theorem Tryz.Sw:Tryz.prog.cellsOf 3=1:=by kernel_rfl
theorem Wh{W:World}{a:Addr}{len cap:Nat}{K:List Int}(V:a.spot=none)(ap:len≤cap)(ag:len≤K.length)(al:∀i,i<K.length→W.cell? (a.add i)=some (.int .i64 (K.getD i 0))):
  Al rI (Ef W).E (some a) cap (K.take len)∧(K.take len).length=len:=by
 have Z:(K.take len).length=len:=by simp [Nat.min_eq_left ag]
 refine⟨⟨by omega,.inr ⟨a.block,a.off,?_,fun i x Y=>⟨[iV x],rfl,?_⟩⟩⟩,Z⟩
 ·obtain⟨b,o,s⟩:=a;simp only at V;subst V;rfl
 ·have hi:i<len:=by rw [← Z];exact(List.getElem?_eq_some_iff.1 Y).1
  have O:=al i (by omega);have am:K.getD i 0=x:=by
   rw [List.getElem?_take_of_lt hi] at Y;rw [List.getD_eq_getElem?_getD,Y];rfl
  rw [am,DK V] at O;unfold World.cell? at O;split at O
  ·rename_i c e f hW;simp only [Option.isSome_none,Bool.false_eq_true,if_false] at O;refine⟨c,e,f,hW,fun j w U=>?_⟩
   match j,U with
   | 0,U=>
    simp at U;subst U;show c[a.off+i*1+0]? =some (.int .i64 x);simpa using O
   | j+1,U=>simp at U
  ·cases O
theorem T7{R:Value→St→Prop}{W w':World}{v:Value}(h:Lr Tryz.prog R W (Ef W) v w'):(∃s,R v s)∧Below W.heap.size W w':=by
 obtain⟨s,V,Y,Z,ht,ag,al⟩:=h;have hb:∀k,k<W.heap.size→w'.heap[k]? =W.heap[k]? :=fun k O=>by
  have K:(Ef W).E k=some W.heap[k]:=Array.getElem?_eq_getElem O;have U:=Y.e k _ (Z k _ K);rw [U,Array.getElem?_eq_getElem O]
 refine⟨⟨s,V⟩,⟨ag,ht,al,?_,hb⟩⟩;rcases Nat.eq_zero_or_pos W.heap.size with am | am
 ·omega
 ·have K:=hb (W.heap.size - 1) (by omega);have ap:W.heap[W.heap.size - 1]? =some W.heap[W.heap.size - 1]:=Array.getElem?_eq_getElem (by omega);rw [ap] at K;have U:=(Array.getElem?_eq_some_iff.1 K).1;omega
noncomputable def Qq(os:Os):World:=
 let w0:=World.holding Tryz.prog os ⟨#[],#[],[]⟩
 {w0 with heap:=w0.heap.modify 0 fun
   | .cells _ t frozen=> .cells #[.iface 240 (.agg #[.pointer (some ⟨1,149,none⟩)])] t frozen
   | o=>o}
theorem TV(os:Os)(args:Array Value):laidMetH Tryz.prog [("errors.errorType",Go.Proofs.YtboibffcmhheiaaGreatDoor.Rows.laid_errors_errorType)] ((Qq os).forCall (fun _ _=>0) ⟨#[],args,[]⟩).memory:=
 laidMetH_of_parts (laidMet_nil _ _) (by kernel_rfl)
end Pal
namespace Pal
open Go Go.Conc
theorem oi{α:Type}{a b:α}(h:some a=some b):a=b:=Option.some.inj h
theorem bs{α β:Type}{o:Option α}{f:α→Option β}{r:β}(h:o.bind f=some r):∃x,o=some x∧f x=some r:=bind_some h
def G5(L:Env):Env→List (Option Value)
 | []=> []
 | (t,_)::L'=>look L t::G5 L L'
def G7:Env→List (Option Value)
 | []=> []
 | (_,v)::L'=>some v::G7 L'
theorem Na{L:Env}:∀{L':Env},G5 L L'=G7 L'→Sub L' L
 | [],_=>trivial
 | (t,v)::L',h=>by
  simp only [G5,G7,List.cons.injEq] at h
  exact⟨h.1,Na h.2⟩
section
variable {P:Program}{J:Judge P}{Q:Goroutine→St→Prop}{b:Frame}{n:Nat}{L L':Env}{ds:List Deferred}{k k':List Item}{cs:List Frame}{s:St}{ops:Array Oper}{i:Nat}{rest:List Nat}{v:Value}
variable {d:Option Tmp}{op:Op}{ty:TypeId}{p:String}{af:Array Edge}{g:Option (Nat×Bool)}
theorem IC(L':Env)(h:G5 L L'=G7 L')(k':JL J Q b n L' ds k cs s):JL J Q b n L ds k cs s:=Gi (Na h) k'
theorem Ay(k':JL J Q b n L' ds k cs s)(h:G5 L L'=G7 L'):JL J Q b n L ds k cs s:=Gi (Na h) k'
def Ey(b:Frame)(n:Nat)(L:Env)(ops:Array Oper)(i:Nat):Option Oper:=
 match H3 ops.toList i with
 | some ⟨d,op,ty,p,af,g⟩=>match Bd L ops ⟨d,op,ty,p,af,g⟩ with
  | some true=>match CP b n ⟨d,op,ty,p,af,g⟩ with
   | true=>some ⟨d,op,ty,p,af,g⟩
   | false=>none
  | _=>none
 | none=>none
theorem I0{o:Oper}(h:Ey b n L ops i=some o):ops[i]? =some o∧Bd L ops o=some true∧CP b n o=true:=by
 unfold Ey at h;split at h
 ·rename_i K;rw [JH,Array.getElem?_toList] at K;split at h
  ·rename_i hw;split at h
   ·rename_i O;cases h;exact⟨K,hw,O⟩
   ·cases h
  ·cases h
 ·cases h
theorem AB(K:Ey b n L ops i=some ⟨d,op,ty,p,af,g⟩)(h:∀ρ,EF L ρ→Yl P ⟨d,op,ty,p,af,g⟩ ρ s v)(O:JL J Q b n (AF L d v) ds (.inRegion ops rest::k) cs s):
  JL J Q b n L ds (.inRegion ops (i::rest)::k) cs s:=
 let ⟨U,V,Y⟩:=I0 K
 Ba U V Y h O
theorem J3{f:FuncId}{fn:Func}{c:Code}{E:LH}{vs:List Value}{B:Seg}{R:Value→LH→Seg→Prop}(O:P.funcs[f]? =some fn)(hb:fn.body=some c)(U:Nat.ble vs.length fn.ntmps=true)
  (h:∀(Q:Goroutine→St→Prop) (K:Frame) (cs:List Frame) (H:LH),Ax E H [B]→(∀v E' S' B',Le E E'→S'.flatten=B'→R v E' B'→Ax E' H S'→J.ok Q (G (K.finish v) cs) (Ao E' H S'))→JL J Q (base f) fn.ntmps (FM 0 vs) [] [.code c] (K::cs) (Ao E H [B])):AL J f vs E B R:=
 AL.enter O hb (Nat.le_of_ble_eq_true U) h
def N3(n:Nat)(L:Env)(ops:Array Oper)(i:Nat):Option Env:=
 match H3 ops.toList i with
 | some ⟨d,op,ty,p,af,g⟩=>match Bd L ops ⟨d,op,ty,p,af,g⟩ with
  | some true=>match BH n d with
   | true=>match Jf L op with
    | some v=>match d with
     | some d=>some ((d,v)::L)
     | none=>some L
    | none=>none
   | false=>none
  | some false=>match BH n d with
   | true=>match d with
    | some d=>some ((d,undef)::L)
    | none=>some L
   | false=>none
  | none=>none
 | none=>none
def F9(n:Nat)(L:Env)(ops:Array Oper)(i:Nat):Option Oper:=
 match H3 ops.toList i with
 | some ⟨d,op,ty,p,af,g⟩=>match Bd L ops ⟨d,op,ty,p,af,g⟩ with
  | some true=>match BH n d with
   | true=>some ⟨d,op,ty,p,af,g⟩
   | false=>none
  | _=>none
 | none=>none
theorem Ox{o:Oper}(h:F9 n L ops i=some o):ops[i]? =some o∧Bd L ops o=some true∧BH n o.dst=true:=by
 unfold F9 at h;split at h
 ·rename_i K;rw [JH,Array.getElem?_toList] at K;split at h
  ·rename_i hw;split at h
   ·rename_i O;cases h;exact⟨K,hw,O⟩
   ·cases h
  ·cases h
 ·cases h
theorem Ws(h:N3 n L ops i=some L'):∃o,ops[i]? =some o∧BH n o.dst=true∧((∃v,Bd L ops o=some true∧Jf L o.op=some v∧L'=AF L o.dst v)∨(Bd L ops o=some false∧L'=AF L o.dst undef)):=by
 unfold N3 at h;split at h
 ·rename_i d op ty p af g O;rw [JH,Array.getElem?_toList] at O;refine⟨_,O,?_⟩;split at h
  ·rename_i hw;split at h
   ·rename_i K;refine⟨K,.inl ?_⟩;split at h
    ·rename_i v U;refine⟨v,hw,U,?_⟩;cases d with
     | none=>cases h;rfl
     | some d=>cases h;rfl
    ·cases h
   ·cases h
  ·rename_i hw;split at h
   ·rename_i K;refine⟨K,.inr ⟨hw,?_⟩⟩;cases d with
    | none=>cases h;rfl
    | some d=>cases h;rfl
   ·cases h
  ·cases h
 ·cases h
variable {m:Nat}{D:Nat→Bool}{fuel:Nat}{listed:Array Bool}
theorem Ch(i:Nat)(K:DN ops m=true)(O:s.q=false)(h:N3 n L ops i=some L')
  (U:AY J Q b n ds ops k cs m D fuel (Bg listed i) L' s) (V:Fx ops listed m i=true:=by decide+kernel):AY J Q b n ds ops k cs m D (fuel+1) listed L s:=by
 obtain⟨o,Y,Z,⟨v,hw,ag,rfl⟩ | ⟨hw,rfl⟩⟩:=Ws h
 ·exact OZ i Y K V O hw Z (fun ρ al s' _=>MR al ag) U
 ·exact aE i Y K V O hw Z U
theorem Bx(i:Nat)(K:DN ops m=true)(O:s.q=false)(U:F9 n L ops i=some ⟨d,op,ty,p,af,g⟩)
  (V:∀ρ,EF L ρ→∀s':St,(∀x o,(BI D s).E x=some o→s'.E x=some o)→Yl P ⟨d,op,ty,p,af,g⟩ ρ s' v)
  (Y:AY J Q b n ds ops k cs m D fuel (Bg listed i) (AF L d v) s) (Z:Fx ops listed m i=true:=by decide+kernel):AY J Q b n ds ops k cs m D (fuel+1) listed L s:=by
 obtain⟨ag,al,am⟩:=Ox U;exact OZ i ag K Z O al am V Y
end
end Pal
namespace Pal
open Go Go.Conc
abbrev Jn(E H E':LH)(S:List Seg)(K L:Env)(s:St)(R:Prop):Prop:=L=K∧s=Ao E' H S∧Le E E'∧Ax E' H S∧R
abbrev Jm(E H E':LH)(S:List Seg)(K L:Env)(s:St):Prop:=L=K∧s=Ao E' H S∧Le E E'∧Ax E' H S
def NX(L:Env):List ResultVar→Option (List Value)
 | []=>some []
 | .tmp t::rs=>match look L t with
  | some v=>match NX L rs with
   | some vs=>some (v::vs)
   | none=>none
  | none=>none
 | _=>none
theorem RG{P:Program}{L:Env}{s:St}:∀{rs:List ResultVar} {vs:List Value},NX L rs=some vs→RV P L s rs vs
 | [],vs,h=>by cases h;trivial
 | .tmp t::rs,vs,h=>by
  unfold NX at h
  split at h
  ·rename_i v K
   split at h
   ·rename_i ws hw;cases h;exact⟨K,RG hw⟩
   ·cases h
  ·cases h
 | .cell _ _::_,_,h=>by cases h
section
variable {P:Program}{J:Judge P}{Q:Goroutine→St→Prop}{b:Frame}{n:Nat}{L L':Env}{ds:List Deferred}{k k':List Item}{cs:List Frame}{s:St}{ops:Array Oper}{i:Nat}{rest:List Nat}{v:Value}{E H:LH}{S:List Seg}
variable {d:Option Tmp}{op:Op}{x y:Operand}{t ft ty e:TypeId}{p:String}{af:Array Edge}{g:Option (Nat×Bool)}
theorem AD{c:Frame}{fn:Func}{vs:List Value}(O:P.funcs[b.fn]? =some fn)(K:(b.kind== .normal&&b.roundOf.isNone)=true)(U:NX L fn.results.toList=some vs)(h:J.ok Q (G (c.finish (MQ vs)) cs) s):JL J Q b n L [] (.code .ret::k) (c::cs) s:=by
 simp only [Bool.and_eq_true,beq_iff_eq,Option.isNone_iff_eq_none] at K;exact JL.ret K.1 K.2 (Cd.list O rfl (RG U)) h
theorem BL{f:FuncId}{args:Array Operand}{ats:Array TypeId}{vs:List Value}{R:Value→LH→Seg→Prop}
  (O:AL J f vs E [] R) (U:Ey b n L ops i=some ⟨d,.call ⟨.value (.func f),args,ats⟩,ty,p,af,g⟩) (V:evs L args.toList=some vs) (hb:DY P f=true)
  (Y:Ax E H S) (Z:∀v E' seg',Le E E'→R v E' seg'→Ax E' H (S++ [seg'])→JL J Q b n (AF L d v) ds (.inRegion ops rest::k) cs (Ao E' H (S++ [seg']))):
  JL J Q b n L ds (.inRegion ops (i::rest)::k) cs (Ao E H S):=by
 obtain⟨ag,al,K⟩:=I0 U;refine JS.call O ag al ?_ hb V Y Z;simp only [CP,Bool.and_eq_true] at K ⊢;exact⟨K.1,K.2.1⟩
theorem BD{f:FuncId}{args:Array Operand}{ats:Array TypeId}{vs:List Value}{v:Value}
  (O:AL J f vs E [] (fun w E' B'=>w=v∧B'= [])) (U:Ey b n L ops i=some ⟨d,.call ⟨.value (.func f),args,ats⟩,ty,p,af,g⟩) (V:evs L args.toList=some vs) (hb:DY P f=true)
  (K:Ax E H S) (Y:∀E',Le E E'→Ax E' H (S++ [[]])→JL J Q b n (AF L d v) ds (.inRegion ops rest::k) cs (Ao E' H (S++ [[]]))):
  JL J Q b n L ds (.inRegion ops (i::rest)::k) cs (Ao E H S):=BL O U V hb K (by rintro _ E' _ hle ⟨rfl,rfl⟩ K;exact Y E' hle K)
theorem B6{f:FuncId}{args:Array Operand}{ats:Array TypeId}{vs:List Value}{seg:Seg}{R:Value→LH→Seg→Prop}(j:Nat)
  (O:AL J f vs E seg R) (U:Ey b n L ops i=some ⟨d,.call ⟨.value (.func f),args,ats⟩,ty,p,af,g⟩) (V:evs L args.toList=some vs) (hb:DY P f=true)
  (Y:Ax E H S) (Z:S[j]? =some seg) (ag:∀v E' seg',Le E E'→R v E' seg'→Ax E' H (S.set j seg')→JL J Q b n (AF L d v) ds (.inRegion ops rest::k) cs (Ao E' H (S.set j seg'))):
  JL J Q b n L ds (.inRegion ops (i::rest)::k) cs (Ao E H S):=by
 obtain⟨al,am,K⟩:=I0 U;refine OB j O al am ?_ hb V Y Z ag;simp only [CP,Bool.and_eq_true] at K ⊢;exact⟨K.1,K.2.1⟩
def Lf(K:Array Field)(i:Nat):Option (Nat×TypeId):=match K[i]? with
 | some f=>some (f.offset,f.type)
 | none=>none
theorem Be{r m m':Int}{u:TypeId}(h:As (m+m')=some r)(K:Ey b n L ops i=some ⟨d,.binOp .add t x y u,ty,p,af,g⟩)(O:ev L x=some (iV m))(U:ev L y=some (iV m'))
  (V:JL J Q b n (AF L d (iV r)) ds (.inRegion ops rest::k) cs s):JL J Q b n L ds (.inRegion ops (i::rest)::k) cs s:=AB K (fun _ q=>MY (q _ _ O) (q _ _ U) h) V
theorem Ci{r m m':Int}{u:TypeId}(h:As (m - m')=some r)(K:Ey b n L ops i=some ⟨d,.binOp .sub t x y u,ty,p,af,g⟩)(O:ev L x=some (iV m))(U:ev L y=some (iV m'))
  (V:JL J Q b n (AF L d (iV r)) ds (.inRegion ops rest::k) cs s):JL J Q b n L ds (.inRegion ops (i::rest)::k) cs s:=AB K (fun _ q=>C5 (q _ _ O) (q _ _ U) h) V
theorem Bh{a:Option Addr}{e:TypeId}{l c:Nat}{ats:Array TypeId}(ht:P.underlying t=some (.slice e))(K:Ey b n L ops i=some ⟨d,.call ⟨.builtin .len,#[x],ats⟩,ty,p,af,g⟩)(O:ats[0]? =some t)(U:ev L x=some (.slice a l c))
  (V:JL J Q b n (AF L d (.int .i64 l)) ds (.inRegion ops rest::k) cs s):JL J Q b n L ds (.inRegion ops (i::rest)::k) cs s:=AB K (fun _ q=>Yl.len O ht (q _ _ U)) V
theorem BJ{bk o O off:Nat}{U:Array Field}{V:Nat}(ht:P.underlying t=some (.struct U))(Y:BE P ft=some (O+1))(Z:Ey b n L ops i=some ⟨d,.fieldAddr t x V,ty,p,af,g⟩)(ag:ev L x=some (.pointer (some ⟨bk,o,none⟩)))(K:Lf U V=some (off,ft))
  (al:JL J Q b n (AF L d (.pointer (some ⟨bk,o+off,none⟩))) ds (.inRegion ops rest::k) cs s):
  JL J Q b n L ds (.inRegion ops (i::rest)::k) cs s:=by
 unfold Lf at K;split at K
 ·rename_i f am;cases K;refine AB Z (fun ρ h=>SC (a:=⟨bk,o,none⟩) O f.offset ht Y am rfl rfl (h _ _ ag)) ?_;rw [DK rfl];exact al
 ·cases K
theorem BW{bk o:Nat}{ws:List Value}(j:Nat)(K:At E bk o ws)(ht:Dg P t=some false)(O:Ey b n L ops i=some ⟨d,.load t x,ty,p,af,g⟩)(U:ev L x=some (.pointer (some ⟨bk,o+j,none⟩)))(V:ws[j]? =some v)
  (Y:JL J Q b n (AF L d v) ds (.inRegion ops rest::k) cs (Ao E H S)):
  JL J Q b n L ds (.inRegion ops (i::rest)::k) cs (Ao E H S):=
 AB O (fun _ h=>Yl.load ht (h _ _ U) (At.J6 K V)) Y
theorem Pn{bk off:Nat}{c:Array Value}(j:Nat)(K:Ax E H S)(O:BE P t=some v.cells.size)(U:Ey b n L ops i=some ⟨d,.store t x y,ty,p,af,g⟩)
  (V:ev L x=some (.pointer (some ⟨bk,off,none⟩))) (Y:ev L y=some v) (Z:S[j]? =some [(bk,.cells c e (0,0))])
  (h:Ax E H (S.set j [(bk,.cells (AX c off v.cells.toList) e (0,0))])→JL J Q b n (AF L d undef) ds (.inRegion ops rest::k) cs (Ao E H (S.set j [(bk,.cells (AX c off v.cells.toList) e (0,0))])))
  (hle:off+v.cells.size≤c.size:=by exact Nat.le_of_ble_eq_true rfl) (ag:∀u∈v.cells.toList,CG u=true:=by simp [Value.cells,CG]):
  JL J Q b n L ds (.inRegion ops (i::rest)::k) cs (Ao E H S):=by
 obtain⟨al,am,ap⟩:=I0 U;exact JS.store j al am ap K V Y O ag Z hle h
theorem BQ{bk o:Nat}{ws:List Value}(K:At E bk o ws)(ht:Dg P t=some true)(O:BE P t=some ws.length)(U:Ey b n L ops i=some ⟨d,.load t x,ty,p,af,g⟩)(V:ev L x=some (.pointer (some ⟨bk,o,none⟩)))
  (Y:JL J Q b n (AF L d (.agg ws.toArray)) ds (.inRegion ops rest::k) cs (Ao E H S)):
  JL J Q b n L ds (.inRegion ops (i::rest)::k) cs (Ao E H S):=
 AB U (fun _ h=>FJ ht O (h _ _ V) (At.Z6 K)) Y
variable {m:Nat}{D:Nat→Bool}{fuel:Nat}{listed:Array Bool}
theorem Ca{bk o O off:Nat}{U:Array Field}{V:Nat}(i:Nat)(Y:DN ops m=true)(ht:P.underlying t=some (.struct U))(Z:BE P ft=some (O+1))(ag:s.q=false)(al:F9 n L ops i=some ⟨d,.fieldAddr t x V,ty,p,af,g⟩)(am:ev L x=some (.pointer (some ⟨bk,o,none⟩)))(K:Lf U V=some (off,ft))
  (ap:AY J Q b n ds ops k cs m D fuel (Bg listed i) (AF L d (.pointer (some ⟨bk,o+off,none⟩))) s) (av:Fx ops listed m i=true:=by decide+kernel):AY J Q b n ds ops k cs m D (fuel+1) listed L s:=by
 unfold Lf at K;split at K
 ·rename_i f a0;cases K;refine Bx i Y ag al (fun ρ h _ _=>SC (a:=⟨bk,o,none⟩) O f.offset ht Z a0 rfl rfl (h _ _ am)) ?_ av;rw [DK rfl];exact ap
 ·cases K
theorem Co{bk o:Nat}{ws:List Value}(i:Nat)(K:DN ops m=true)(j:Nat)(O:At (BI D s).E bk o ws)(ht:Dg P t=some false)(U:s.q=false)(V:F9 n L ops i=some ⟨d,.load t x,ty,p,af,g⟩)(Y:ev L x=some (.pointer (some ⟨bk,o+j,none⟩)))(Z:ws[j]? =some v)
  (ag:AY J Q b n ds ops k cs m D fuel (Bg listed i) (AF L d v) s) (al:Fx ops listed m i=true:=by decide+kernel):AY J Q b n ds ops k cs m D (fuel+1) listed L s:=
 Bx i K U V (fun _ h _ hs=>Yl.load ht (h _ _ Y) (At.Pg O hs Z)) ag al
theorem Fb{bk o:Nat}{ws:List Value}(i:Nat)(K:DN ops m=true)(O:At (BI D s).E bk o ws)(ht:Dg P t=some true)(U:BE P t=some ws.length)(V:s.q=false)(Y:F9 n L ops i=some ⟨d,.load t x,ty,p,af,g⟩)(Z:ev L x=some (.pointer (some ⟨bk,o,none⟩)))
  (ag:AY J Q b n ds ops k cs m D fuel (Bg listed i) (AF L d (.agg ws.toArray)) s) (al:Fx ops listed m i=true:=by decide+kernel):AY J Q b n ds ops k cs m D (fuel+1) listed L s:=
 Bx i K V Y (fun _ h _ hs=>FJ ht U (h _ _ Z) (At.OV O hs)) ag al
end
end Pal
namespace Pal
open Go Go.Conc
abbrev A1:=List (List Int)×List (List Int)
abbrev BU:=List (List Int)×List (List Int)×List Nat
abbrev Ce:=Int×List Int×Nat
abbrev Bu:=Int×Int×List Ce
abbrev AI:=List (Int×Int)
abbrev BX:=List Int×Int×Nat
abbrev An:=Option Addr
abbrev Dr:Rp Ce:=rP rI (rP (rL rI) (rN .u16))
abbrev Cw:Rp Bu:=rP rI (rP rI (rL Dr))
abbrev Bp:Rp (Int×Int):=rP rI rI
theorem ip{α:Type}{p:Prop} [Decidable p] {A B:Option α}{r:α}(h:(if p then A else B)=some r)(c:p):A=some r:=by rwa [if_pos c] at h
theorem im{α:Type}{p:Prop} [Decidable p] {A B:Option α}{r:α}(h:(if p then A else B)=some r)(c:¬p):B=some r:=by rwa [if_neg c] at h
theorem ib{α:Type}{c:Bool}{A B:Option α}{r:α}(h:(if c=true then A else B)=some r)(K:c=false):B=some r:=by subst K;simpa using h
def Pw(n:Nat)(ops:Array Oper):List Nat→Nat→Env→Option (Nat×Env)
 | [],f,L=>some (f,L)
 | i::l,f+1,L=>match N3 n L ops i with
  | some L'=>Pw n ops l f L'
  | none=>none
 | _::_,0,_=>none
def Pf(ops:Array Oper)(m:Nat):Array Bool→List Nat→Bool
 | _,[]=>true
 | listed,i::l=>Fx ops listed m i&&Pf ops m (Bg listed i) l
def Tm:Array Bool→List Nat→Array Bool
 | listed,[]=>listed
 | listed,i::l=>Tm (Bg listed i) l
theorem A2{P:Program}{J:Judge P}{Q:Goroutine→St→Prop}{b:Frame}{n:Nat}{ds:List Deferred}{k:List Item}{cs:List Frame}{s:St}{ops:Array Oper}{m:Nat}{D:Nat→Bool}{L':Env}{U:Nat}(V:DN ops m=true)(Y:s.q=false):
  ∀(l:List Nat) {fuel:Nat} {listed:Array Bool} {L:Env},Pw n ops l fuel L=some (U,L')→AY J Q b n ds ops k cs m D U (Tm listed l) L' s→(K:Pf ops m listed l=true:=by decide+kernel)→AY J Q b n ds ops k cs m D fuel listed L s
 | [],fuel,listed,L,h,O,_=>by cases h;exact O
 | i::l,fuel,listed,L,h,O,K=>by
  cases fuel with
  | zero=>cases h
  | succ fuel=>
   unfold Pf at K;rw [Bool.and_eq_true] at K;unfold Pw at h;split at h
   ·rename_i Z e;exact Ch i V Y e (A2 V Y l h O K.2) K.1
   ·cases h
theorem zg{P:Program}{J:Judge P}{Q:Goroutine→St→Prop}{b:Frame}{n:Nat}{L L':Env}{ds:List Deferred}{k k':List Item}{cs:List Frame}{s:St}(m:Nat)(h:Np b n m k L=some (k',L'))(K:JL J Q b n L' ds k' cs s):JL J Q b n L ds k cs s:=JL.go m h K
abbrev bX(r:Nat)(c:Array Value)(t:TypeId):Seg:= [(r,.cells c t (0,0))]
end Pal
namespace Pal
open Go Go.Conc
section
variable {P:Program}{J:Judge P}{Q:Goroutine→St→Prop}{b:Frame}{n:Nat}{L L':Env}{ds:List Deferred}{k:List Item}{cs:List Frame}{s:St}{ops:Array Oper}{E H:LH}{S:List Seg}
variable {α:Type}{A B:Option α}{r:α}
theorem AN{c:Operand}{x y:Code}{p:Prop} [Decidable p] (K:(if p then A else B)=some r)(O:p→A=some r→JL J Q b n L ds (.code x::k) cs s)(U:¬p→B=some r→JL J Q b n L ds (.code y::k) cs s)
  (V:ev L c=some (.bool (decide p)):=by exact rfl):JL J Q b n L ds (.code (.cond c x y)::k) cs s:=O5 V (fun h=>O h (ip K h)) fun h=>U h (im K h)
theorem BF{c:Operand}{x y:Code}{t:Bool}(K:(if t=true then A else B)=some r)(O:t=true→A=some r→JL J Q b n L ds (.code x::k) cs s)(U:t=false→B=some r→JL J Q b n L ds (.code y::k) cs s)
  (V:ev L c=some (.bool t):=by exact rfl):JL J Q b n L ds (.code (.cond c x y)::k) cs s:=QZ V (fun h=>O h (ip K h)) fun h=>U h (ib K h)
theorem D7{q:Prop} [Decidable q] (i:Nat)(K:(if q then A else B)=some r)(O:q→A=some r→JL J Q b n (AF L (some i) (.bool true)) ds k cs s)(U:¬q→B=some r→JL J Q b n (AF L (some i) (.bool false)) ds k cs s)
  (V:look L i=some (.bool (decide q)):=by exact rfl):JL J Q b n L ds k cs s:=U4 V (fun h=>O h (ip K h)) fun h=>U h (im K h)
theorem DO{t:Bool}(i:Nat)(K:(if t=true then A else B)=some r)(O:t=true→A=some r→JL J Q b n (AF L (some i) (.bool true)) ds k cs s)(U:t=false→B=some r→JL J Q b n (AF L (some i) (.bool false)) ds k cs s)
  (V:look L i=some (.bool t):=by exact rfl):JL J Q b n L ds k cs s:=UJ V (fun h=>O h (ip K h)) fun h=>U h (ib K h)
theorem CN{K O:Type}{c:Code}{body:K→Option (Bi K O)}{f:Nat}{U:K}{a:O}(Y:iter body f U=some a)(I:Env→St→K→Prop)(Z:I L' s U)
  (round:∀L s x,I L s x→(∀V,body x=some (.done V)→V=a)→(∃st,body x=some st)→(∀L' s' x',I L' s' x'→body x=some (.more x')→JL J Q b n L' ds (.inLoop c::k) cs s')→JL J Q b n L ds (.code c:: .inLoop c::k) cs s)
  (ag:G5 L L'=G7 L':=by exact rfl):JL J Q b n L ds (.code (.loop c)::k) cs s:=IC L' ag (Q4 Y I Z round)
variable {m:Nat}{D:Nat→Bool}{fuel:Nat}{listed:Array Bool}
def NN(ops:Array Oper):Array Bool→List Nat→Bool
 | _,[]=>true
 | l,i::t=>Region.ready .any ops l== [i]&&NN ops (Bg l i) t
theorem RI:∀{t:List Nat} {l:Array Bool},NN ops l t=true→∀u,Region.linearise.go .any ops t.length u l []=t
 | [],_,_,_=>rfl
 | i::t,l,h,u=>by
  unfold NN at h
  rw [Bool.and_eq_true,beq_iff_eq] at h
  exact ZQ h.1 (RI h.2) u
theorem Cg(t:List Nat)(O:JL J Q b n L ds (.inRegion ops t::k) cs s)(K:(Pq m listed&&NN ops listed t&&(fuel+1==t.length))=true:=by decide+kernel):AY J Q b n ds ops k cs m D (fuel+1) listed L s:=by
 rw [Bool.and_eq_true,Bool.and_eq_true,beq_iff_eq] at K;exact AY.leaf K.1.1 (by rw [K.2];exact RI K.1.2) O
theorem CZ(m:Nat){id:Nat}(h:DN ops m=true→AY J Q b n ds ops k cs m El ops.size (Array.replicate ops.size false) L (Ao E H S))(hm:P.follows .mixedOrders=true:=by exact rfl)(K:(b.kind != .early)=true:=by exact rfl)(ht:DN ops m=true:=by decide+kernel):
  JL J Q b n L ds (.code (.region id ops true)::k) cs (Ao E H S):=Wo m hm K ht h
theorem Di(m:Nat)(bks:List Nat){id:Nat}(K:Gm S bks)(O:Ax E H S)(h:DN ops m=true→AY J Q b n ds ops k cs m (A6 bks) ops.size (Array.replicate ops.size false) L (Ao E H S))(hm:P.follows .mixedOrders=true:=by exact rfl)(U:(b.kind != .early)=true:=by exact rfl)(ht:DN ops m=true:=by decide+kernel):
  JL J Q b n L ds (.code (.region id ops true)::k) cs (Ao E H S):=Wc m bks K O hm U ht h
theorem Cv{α:Type}{pp:Rp α}{a:Option Addr}{c:Nat}{xs:List α}{xv:α}{K:Int}{d:Option Tmp}{x y:Operand}{t ty e:TypeId}{p:String}{af:Array Edge}{g:Option (Nat×Bool)}{kd:IntKind}(i:Nat)(O:Al pp E a c xs)(U:ix xs K=some xv)(V:DN ops m=true)(ht:P.underlying t=some (.slice e))(Y:BE P e=some pp.n)
  (h:∀bk o ws,pp.r E ws xv→At E bk o ws→AY J Q b n ds ops k cs m D fuel (Bg listed i) (AF L d (.pointer (some ⟨bk,o,none⟩))) s)
  (Z:ops[i]? =some ⟨d,.indexAddr t x y,ty,p,af,g⟩:=by exact rfl) (ag:Fx ops listed m i=true:=by decide+kernel) (al:s.q=false:=by exact rfl)
  (hw:Bd L ops ⟨d,.indexAddr t x y,ty,p,af,g⟩=some true:=by exact rfl) (am:BH n d=true:=by exact rfl)
  (ap:ev L x=some (.slice a xs.length c):=by exact rfl) (av:ev L y=some (.int kd K):=by exact rfl):
  AY J Q b n ds ops k cs m D (fuel+1) listed L s:=YM i O U Z V ag al hw am ap av ht Y h
end
end Pal
namespace Pal
open Go Go.Conc
section
variable {P:Program}{J:Judge P}{Q:Goroutine→St→Prop}{b:Frame}{n:Nat}{ds:List Deferred}{ops:Array Oper}{k:List Item}{cs:List Frame}{fuel:Nat}{D:Nat→Bool}{listed:Array Bool}{L L':Env}{s:St}{xl:List Nat}
variable {d:Option Tmp}{op:Op}{ty:TypeId}{p:String}{af:Array Edge}{g:Option (Nat×Bool)}{v:Value}
theorem GJ(i:Nat)(pure:Bool)(K:s.q=false)(O:F9 n L ops i=some ⟨d,op,ty,p,af,g⟩)
  (U:∀ρ,EF L ρ→∀s':St,(pure=false→∀x o,(BI D s).E x=some o→s'.E x=some o)→Yl P ⟨d,op,ty,p,af,g⟩ ρ s' v)
  (V:Fz J Q b n ds ops k cs (A6 xl) D fuel (Bg listed i) (AF L d v) s) (Y:Kc ops listed xl pure i=true:=by decide+kernel):Fz J Q b n ds ops k cs (A6 xl) D (fuel+1) listed L s:=by
 obtain⟨Z,ag,al⟩:=Ox O;exact SH i pure Z Y K ag al U V
def PK(n:Nat)(L:Env)(ops:Array Oper)(i:Nat):Option Env:=
 match H3 ops.toList i with
 | some ⟨d,op,ty,p,af,g⟩=>match Bd L ops ⟨d,op,ty,p,af,g⟩ with
  | some true=>match BH n d with
   | true=>match Jf L op with
    | some v=>match d with
     | some d=>some ((d,v)::L)
     | none=>some L
    | none=>none
   | false=>none
  | _=>none
 | none=>none
theorem VC{i:Nat}(h:PK n L ops i=some L'):∃o v,ops[i]? =some o∧BH n o.dst=true∧Bd L ops o=some true∧Jf L o.op=some v∧L'=AF L o.dst v:=by
 unfold PK at h;split at h
 ·rename_i d op ty p af g K;rw [JH,Array.getElem?_toList] at K;split at h
  ·rename_i hw;split at h
   ·rename_i O;split at h
    ·rename_i v U;refine⟨_,v,K,O,hw,U,?_⟩;cases d with
     | none=>cases h;rfl
     | some d=>cases h;rfl
    ·cases h
   ·cases h
  ·cases h
 ·cases h
theorem Bt(i:Nat)(K:s.q=false)(h:PK n L ops i=some L')
  (O:Fz J Q b n ds ops k cs (A6 xl) D fuel (Bg listed i) L' s) (U:Kc ops listed xl true i=true:=by decide+kernel):Fz J Q b n ds ops k cs (A6 xl) D (fuel+1) listed L s:=by
 obtain⟨o,v,V,Y,hw,Z,rfl⟩:=VC h;exact SH i true V U K hw Y (fun ρ ag s' _=>MR ag Z) O
end
end Pal
namespace Pal
open Go Go.Conc
section
variable {P:Program}{J:Judge P}{Q:Goroutine→St→Prop}{b:Frame}{n:Nat}{L L':Env}{ds:List Deferred}{k:List Item}{cs:List Frame}{s:St}{ops:Array Oper}{E H:LH}{S:List Seg}{i i2:Nat}{rest:List Nat}
variable {d d2:Option Tmp}{x y x2:Operand}{t t2 ft u ty ty2 e:TypeId}{p p2:String}{af af2:Array Edge}{g g2:Option (Nat×Bool)}{v w:Value}
theorem B4(O:Ax E H S)(h:∀r E',Le E E'→At E' r 0 v.cells.toList→Ax E' H (S++ [[]])→JL J Q b n (AF L d (.pointer (some ⟨r,0,none⟩))) ds (.inRegion ops rest::k) cs (Ao E' H (S++ [[]])))
  (U:Ey b n L ops i=some ⟨d,.box e x,ty,p,af,g⟩:=by exact rfl) (V:ev L x=some v:=by exact rfl):JL J Q b n L ds (.inRegion ops (i::rest)::k) cs (Ao E H S):=by
 obtain⟨Y,Z,ag⟩:=I0 U;refine JS.box Y Z ag O V fun r al=>CV (bk:=r) (c:=v.cells) (e:=e) (f:=(0,0)) S.length al (by simp) fun E' hle am K=>?_;have ap:(S++ [[(r,Obj.cells v.cells e (0,0))]]).set S.length []=S++ [[]]:=by simp
 rw [ap] at K ⊢;exact h r E' hle am K
theorem Cz{z:Value}(K:Ax E H S)(O:zeroOf P e=some z)(h:∀r,Ax E H (S++ [[(r,.cells z.cells e (0,0))]])→JL J Q b n (AF L d (.pointer (some ⟨r,0,none⟩))) ds (.inRegion ops rest::k) cs (Ao E H (S++ [[(r,.cells z.cells e (0,0))]])))
  (U:Ey b n L ops i=some ⟨d,.alloc e,ty,p,af,g⟩:=by exact rfl):JL J Q b n L ds (.inRegion ops (i::rest)::k) cs (Ao E H S):=by
 obtain⟨V,Y,Z⟩:=I0 U;exact JS.alloc V Y Z K O h
theorem BM{bk off K:Nat}{c:Array Value}(j:Nat)(O:Ax E H S)(U:BE P t=some K)
  (h:Ax E H (S.set j [(bk,.cells (AX c off v.cells.toList) e (0,0))])→JL J Q b n (AF L d undef) ds (.inRegion ops rest::k) cs (Ao E H (S.set j [(bk,.cells (AX c off v.cells.toList) e (0,0))])))
  (V:Ey b n L ops i=some ⟨d,.store t x y,ty,p,af,g⟩:=by exact rfl) (Y:ev L x=some (.pointer (some ⟨bk,off,none⟩)):=by exact rfl) (Z:ev L y=some v:=by exact rfl) (ag:S[j]? =some [(bk,.cells c e (0,0))]:=by exact rfl)
  (al:K=v.cells.size:=by exact rfl) (hle:off+v.cells.size≤c.size:=by exact Nat.le_of_ble_eq_true rfl) (am:v.cells.toList.all CG=true:=by first | exact rfl | simp [Value.cells,CG]):
  JL J Q b n L ds (.inRegion ops (i::rest)::k) cs (Ao E H S):=Pn j O (by rw [← al];exact U) V Y Z ag h hle (List.all_eq_true.1 am)
theorem JL.fl{bk o o1 U off:Nat}{K:Array Field}{O:Nat}{ws:List Value}(j:Nat)(V:At E bk o ws)(ht:P.underlying t=some (.struct K))(Y:BE P ft=some (U+1))(Z:Dg P t2=some false)
  (ag:JL J Q b n (AF (AF L d (.pointer (some ⟨bk,o1+off,none⟩))) d2 v) ds (.inRegion ops rest::k) cs (Ao E H S))
  (al:Ey b n L ops i=some ⟨d,.fieldAddr t x O,ty,p,af,g⟩:=by exact rfl) (am:ev L x=some (.pointer (some ⟨bk,o1,none⟩)):=by exact rfl) (ap:Lf K O=some (off,ft):=by exact rfl)
  (av:Ey b n (AF L d (.pointer (some ⟨bk,o1+off,none⟩))) ops i2=some ⟨d2,.load t2 x2,ty2,p2,af2,g2⟩:=by exact rfl) (a0:ev (AF L d (.pointer (some ⟨bk,o1+off,none⟩))) x2=some (.pointer (some ⟨bk,o+j,none⟩)):=by exact rfl) (a1:ws[j]? =some v:=by exact rfl):
  JL J Q b n L ds (.inRegion ops (i::i2::rest)::k) cs (Ao E H S):=BJ ht Y al am ap (BW j V Z av a0 a1 ag)
theorem B9{α:Type}{pp:Rp α}{a:Option Addr}{c:Nat}{xs:List α}{xv:α}{m:Int}{kd:IntKind}(K:Al pp E a c xs)(hm:ix xs m=some xv)(ht:P.underlying t=some (.slice e))(O:BE P e=some pp.n)
  (h:∀bk o ws,pp.r E ws xv→At E bk o ws→JL J Q b n (AF L d (.pointer (some ⟨bk,o,none⟩))) ds (.inRegion ops rest::k) cs (Ao E H S))
  (U:Ey b n L ops i=some ⟨d,.indexAddr t x y,ty,p,af,g⟩:=by exact rfl) (V:ev L x=some (.slice a xs.length c):=by exact rfl) (Y:ev L y=some (.int kd m):=by exact rfl):
  JL J Q b n L ds (.inRegion ops (i::rest)::k) cs (Ao E H S):=by
 obtain⟨Z,ag,al⟩:=I0 U;exact XL K hm Z ag al V Y ht O h
theorem C7(K:List Seg)(O:Env){todo:List Item}{c:Code}(U:∀E',Le E E'→Ax E' H K→JL J Q b n O ds todo cs (Ao E' H K))
  (h:(∀{E':LH} {L:Env},Le E E'→Ax E' H K→G5 L O=G7 O→JL J Q b n L ds todo cs (Ao E' H K))→JL J Q b n L ds (.code c::todo) cs (Ao E H S)):JL J Q b n L ds (.code c::todo) cs (Ao E H S):=
 h fun V Y Z=>Ay (U _ V Y) Z
theorem Dq{U:List Nat}(V Y:Nat)(K:List Seg)(O:Env){todo:List Item}(Z:∀E',Le E E'→Ax E' H K→JL J Q b n O ds (.inRegion ops (List.range' V Y)::todo) cs (Ao E' H K))
  (h:(∀{E':LH} {L:Env},Le E E'→Ax E' H K→G5 L O=G7 O→JL J Q b n L ds (.inRegion ops (List.range' V Y)::todo) cs (Ao E' H K))→JL J Q b n L ds (.inRegion ops U::todo) cs (Ao E H S)):JL J Q b n L ds (.inRegion ops U::todo) cs (Ao E H S):=
 h fun ag al am=>Ay (Z _ ag al) am
theorem Cy{O ag:Type}{c:Code}{body:O→Option (Bi O ag)}{f:Nat}{V:O}{a:ag}{Y:LH}{k:List Item}(am:iter body f V=some a)(K:O→List Seg)(U:O→Env)(hle:Le Y E)(ap:Ax E H (K V))
  (round:∀x E',Le Y E'→Ax E' H (K x)→(∀al,body x=some (.done al)→al=a)→(∃st,body x=some st)→(∀{L':Env} {Z:LH} (x':O),Le Y Z→Ax Z H (K x')→G5 L' (U x')=G7 (U x')→body x=some (.more x')→JL J Q b n L' ds (.inLoop c::k) cs (Ao Z H (K x')))→JL J Q b n (U x) ds (.code c:: .inLoop c::k) cs (Ao E' H (K x)))
  (av:G5 L (U V)=G7 (U V):=by exact rfl) (a0:Ao E H S=Ao E H (K V):=by exact rfl):JL J Q b n L ds (.code (.loop c)::k) cs (Ao E H S):=by
 rw [a0];refine IC _ av (Q4 am (fun L s x=>∃E',Jm Y H E' (K x) (U x) L s) ⟨E,rfl,rfl,hle,ap⟩ ?_);rintro _ _ x ⟨E',rfl,rfl,a1,a2⟩ a3 hb a4;exact round x E' a1 a2 a3 hb fun x' a5 g2 a6 a7=>Ay (a4 _ _ x' ⟨_,rfl,rfl,a5,g2⟩ a7) a6
theorem A4{f:FuncId}{fn:Func}{c:Code}{E:LH}{vs:List Value}{B:Seg}{R:Value→LH→Seg→Prop}(O:P.funcs[f]? =some fn)
  (h:∀(Q:Goroutine→St→Prop) (K:Frame) (cs:List Frame) (H:LH),Ax E H [B]→(∀{v:Value} {E':LH} {S':List Seg} {B':Seg},Le E E'→S'.flatten=B'→R v E' B'→Ax E' H S'→J.ok Q (G (K.finish v) cs) (Ao E' H S'))→JL J Q (base f) fn.ntmps (FM 0 vs) [] [.code c] (K::cs) (Ao E H [B]))
  (hb:fn.body=some c:=by exact rfl) (U:Nat.ble vs.length fn.ntmps=true:=by exact rfl):AL J f vs E B R:=
 J3 O hb U fun Q K cs H V Y=>h Q K cs H V fun Z ag al am=>Y _ _ _ _ Z ag al am
variable {m:Nat}{fuel:Nat}{listed:Array Bool}{bks xl:List Nat}
theorem Fc{bk:Nat}{c:Array Value}{f:Nat×Nat}(i:Nat)(K:DN ops m=true)(o:Nat)(j:Nat)(O:Ax E H S)(U:Dg P t=some false)
  (V:AY J Q b n ds ops k cs m (A6 bks) fuel (Bg listed i) (AF L d w) (Ao E H S)) (Y:F9 n L ops i=some ⟨d,.load t x,ty,p,af,g⟩:=by exact rfl) (Z:ev L x=some (.pointer (some ⟨bk,o,none⟩)):=by exact rfl)
  (ag:S[j]? =some [(bk,.cells c e f)]:=by exact rfl) (hw:c[o]? =some w:=by exact rfl) (al:A6 bks bk=true:=by simp [A6]) (am:Fx ops listed m i=true:=by decide+kernel):AY J Q b n ds ops k cs m (A6 bks) (fuel+1) listed L (Ao E H S):=
 Bx i K rfl Y (fun ρ h s' hs=>Yl.load U (h _ _ Z) (Iu (o:=o) j O ag al hs hw)) V am
theorem JG.lp{bk o:Nat}{ws:List Value}(i:Nat)(K:DN ops m=true)(j:Nat)(O:At E bk o ws)(U:Ax E H S)(V:Gm S bks)(Y:Dg P t=some false)
  (Z:AY J Q b n ds ops k cs m (A6 bks) fuel (Bg listed i) (AF L d w) (Ao E H S)) (ag:F9 n L ops i=some ⟨d,.load t x,ty,p,af,g⟩:=by exact rfl) (al:ev L x=some (.pointer (some ⟨bk,o+j,none⟩)):=by exact rfl)
  (hw:ws[j]? =some w:=by exact rfl) (am:Fx ops listed m i=true:=by decide+kernel):AY J Q b n ds ops k cs m (A6 bks) (fuel+1) listed L (Ao E H S):=
 Bx i K rfl ag (fun ρ h s' hs=>Yl.load Y (h _ _ al) (At.Pg (j:=j) O (Pl U hs V) hw)) Z am
theorem DZ{bk o K:Nat}{c:Array Value}{f:Nat×Nat}(i:Nat)(O:DN ops m=true)(vs:List Value)(j:Nat)(U:Ax E H S)(hw:∀(q:Nat) w,vs[q]? =some w→c[o+q]? =some w)(V:Dg P t=some true)(Y:BE P t=some K)
  (Z:AY J Q b n ds ops k cs m (A6 bks) fuel (Bg listed i) (AF L d (.agg vs.toArray)) (Ao E H S)) (ag:F9 n L ops i=some ⟨d,.load t x,ty,p,af,g⟩:=by exact rfl) (al:ev L x=some (.pointer (some ⟨bk,o,none⟩)):=by exact rfl)
  (am:S[j]? =some [(bk,.cells c e f)]:=by exact rfl) (ap:K=vs.length:=by exact rfl) (av:A6 bks bk=true:=by simp [A6]) (a0:Fx ops listed m i=true:=by decide+kernel):AY J Q b n ds ops k cs m (A6 bks) (fuel+1) listed L (Ao E H S):=
 Bx i O rfl ag (fun ρ h s' hs=>FJ (vs:=vs) V (by rw [← ap];exact Y) (h _ _ al) (fun q w a1=>by rw [DK rfl];exact Iu j U am av hs (hw q w a1))) Z a0
theorem F7{D:Nat→Bool}{α:Type}{xs:List α}{xv:α}{K:Int}{bk c O U:Nat}{kd:IntKind}(i:Nat)(V:DN ops m=true)(Y:xs.length=U)(hm:ix xs K=some xv)(ht:P.underlying t=some (.slice e))(Z:BE P e=some O)
  (ag:AY J Q b n ds ops k cs m D fuel (Bg listed i) (AF L d (.pointer (some ⟨bk,K.toNat*O,none⟩))) s) (al:s.q=false:=by exact rfl) (am:F9 n L ops i=some ⟨d,.indexAddr t x y,ty,p,af,g⟩:=by exact rfl)
  (ap:ev L x=some (.slice (some ⟨bk,0,none⟩) U c):=by exact rfl) (av:ev L y=some (.int kd K):=by exact rfl) (a0:Fx ops listed m i=true:=by decide+kernel):AY J Q b n ds ops k cs m D (fuel+1) listed L s:=
 Bx i V al am (fun ρ h s' hs=>Gw Y hm ht Z (h _ _ ap) (h _ _ av)) ag a0
theorem Cx{D:Nat→Bool}{α:Type}{xs:List α}{xv:α}{K:Int}{bk c O U:Nat}{kd:IntKind}(i:Nat)(V:xs.length=U)(hm:ix xs K=some xv)(ht:P.underlying t=some (.slice e))(Y:BE P e=some O)
  (Z:Fz J Q b n ds ops k cs (A6 xl) D fuel (Bg listed i) (AF L d (.pointer (some ⟨bk,K.toNat*O,none⟩))) s) (ag:s.q=false:=by exact rfl) (al:F9 n L ops i=some ⟨d,.indexAddr t x y,ty,p,af,g⟩:=by exact rfl)
  (am:ev L x=some (.slice (some ⟨bk,0,none⟩) U c):=by exact rfl) (ap:ev L y=some (.int kd K):=by exact rfl) (av:Kc ops listed xl true i=true:=by decide+kernel):Fz J Q b n ds ops k cs (A6 xl) D (fuel+1) listed L s:=
 GJ i true ag al (fun ρ h s' hs=>Gw V hm ht Y (h _ _ am) (h _ _ ap)) Z av
theorem Ec{bk o K:Nat}{c:Array Value}{f:Nat×Nat}(i:Nat)(vs:List Value)(j:Nat)(O:Ax E H S)(hw:∀(q:Nat) w,vs[q]? =some w→c[o+q]? =some w)(U:Dg P t=some true)(V:BE P t=some K)
  (Y:Fz J Q b n ds ops k cs (A6 xl) (A6 bks) fuel (Bg listed i) (AF L d (.agg vs.toArray)) (Ao E H S)) (Z:F9 n L ops i=some ⟨d,.load t x,ty,p,af,g⟩:=by exact rfl) (ag:ev L x=some (.pointer (some ⟨bk,o,none⟩)):=by exact rfl)
  (al:S[j]? =some [(bk,.cells c e f)]:=by exact rfl) (am:K=vs.length:=by exact rfl) (ap:A6 bks bk=true:=by simp [A6]) (av:Kc ops listed xl false i=true:=by decide+kernel):Fz J Q b n ds ops k cs (A6 xl) (A6 bks) (fuel+1) listed L (Ao E H S):=
 GJ i false rfl Z (fun ρ h s' hs=>FJ (vs:=vs) U (by rw [← am];exact V) (h _ _ ag) (fun q w a0=>by rw [DK rfl];exact Iu j O al ap (hs rfl) (hw q w a0))) Y av
theorem Ed{bk off K:Nat}{c:Array Value}{D:Nat→Bool}(i j:Nat)(O:Ax E H S)(U:BE P t=some K)(hle:off+K≤c.size)
  (h:Ax E H (S.set j [(bk,.cells (AX c off v.cells.toList) e (0,0))])→Fz J Q b n ds ops k cs (A6 xl) D fuel (Bg listed i) (AF L d undef) (Ao E H (S.set j [(bk,.cells (AX c off v.cells.toList) e (0,0))])))
  (V:F9 n L ops i=some ⟨d,.store t x y,ty,p,af,g⟩:=by exact rfl) (Y:ev L x=some (.pointer (some ⟨bk,off,none⟩)):=by exact rfl) (Z:ev L y=some v:=by exact rfl) (ag:S[j]? =some [(bk,.cells c e (0,0))]:=by exact rfl)
  (al:K=v.cells.size:=by exact rfl) (am:v.cells.toList.all CG=true:=by first | exact rfl | simp [Value.cells,CG]) (ap:Region.ready .any ops listed= [i]:=by decide+kernel) (av:A6 xl i=true:=by decide+kernel):
  Fz J Q b n ds ops k cs (A6 xl) D (fuel+1) listed L (Ao E H S):=by
 obtain⟨a0,a1,a2⟩:=Ox V;subst al;exact JB.store i j ap av a0 a1 a2 O Y Z U (List.all_eq_true.1 am) ag hle h
end
end Pal
namespace Pal
open Go Go.Conc Go.Proofs
end Pal
namespace Pal
open Go Go.Conc Go.Proofs
end Pal
namespace Pal
open Go Go.Conc Go.Proofs
open Go.Proofs.Tryz
variable {J:Judge Tryz.prog}{E:LH}
def AU:=Bo Tryz.type3
def Bv:=Dv Tryz.underlying3
def Cc:=Bo Tryz.type27
def Gt:=Dv Tryz.underlying27
def BV:=Bo Tryz.type28
def CQ:=Dv Tryz.underlying28
def Km:=AR Tryz.func32 rfl
def BS:=Bo Tryz.type22
def Ct:=Dv Tryz.underlying22
def Ij:=Bo Tryz.type90
def L8:=Dv Tryz.underlying90
def HK:=AR Tryz.func41 rfl
def CM:=Du Tryz.type3
def Er:=Du Tryz.type27
def Fp:=Du Tryz.type28
def GW:=Du Tryz.type24
def BC:=Bo Tryz.type24
def BY:=Dv Tryz.underlying24
def Kl:=AR Tryz.func104 rfl
def Ik:=Bo Tryz.type4
def N7:=AR Tryz.func103 rfl
def Me:=AR Tryz.func90 rfl
def IS:=AR Tryz.func101 rfl
def FH:=Du Tryz.type183
def L6:=Dv Tryz.underlying210
def Kr:=Bo Tryz.type210
def Ig:=AR Tryz.func89 rfl
def Jp:=AR Tryz.func120 rfl
def Ei:=Bo Tryz.type102
def GR:=Dv Tryz.underlying102
def Cu:=Bo Tryz.type104
def FX:=Dv Tryz.underlying104
def GV:=Du Tryz.type104
def Gd:=Bo Tryz.type139
def Ii:=Bo Tryz.type138
def L4:=Dv Tryz.underlying139
def Hl:=Bo Tryz.type25
def HJ:=Dv Tryz.underlying25
def Ob:=Bo Tryz.type94
def L9:=Dv Tryz.underlying94
def Dt:=Bo Tryz.type95
def EC:=Dv Tryz.underlying95
def FG:=Dv Tryz.underlying173
def Dl:=Bo Tryz.type97
def Ie:=Du Tryz.type133
def AS:=Bo Tryz.type133
def L5:=Dv Tryz.underlying162
def Cr:=Dv Tryz.underlying133
def GU:=AR Tryz.func134 rfl
def N4:=AR Tryz.func200 rfl
def N6:=AR Tryz.func178 rfl
def Ma:=AR Tryz.func162 rfl
def FY:=Du Tryz.type97
def Ic:=Dv Tryz.underlying97
def N8:=AR Tryz.func96 rfl
def Kp:=AR Tryz.func97 rfl
def Mc:=AR Tryz.func99 rfl
def N5:=AR Tryz.func112 rfl
def Mb:=AR Tryz.func92 rfl
def Ko:=AR Tryz.func69 rfl
def Md:=AR Tryz.func93 rfl
def HM:=Du Tryz.type81
def Kn:=AR Tryz.func78 rfl
def Ge:=Bo Tryz.type81
def Jo:=Dv Tryz.underlying81
def Ih:=AR Tryz.func71 rfl
def Oa:=AR Tryz.func72 rfl
def N9:=AR Tryz.func79 rfl
def Kq:=AR Tryz.func27 rfl
theorem mixed:Tryz.prog.follows .mixedOrders=true:=rfl
theorem aU:PH Tryz.prog 27:=⟨_,_,underlying27,by decide+kernel,by decide+kernel,by decide,by decide,underlying3,underlying3,rfl,rfl⟩
def f101(fuel:Nat)(p0:Int)(p1:Int)(p2:Int):Option Bool:= Option.bind (if p0<p1 then(some true) else(some (decide (p2<p0)))) fun K=> some K
theorem I8{p0:Int}{p1:Int}{p2:Int}{fuel:Nat}{r:Bool}(K:f101 fuel p0 p1 p2=some r):AL J 101 [iV p0,iV p1,iV p2] E [] (fun w E' B'=>w= .bool r∧B'= []):=by
 refine A4 func101 fun Q a1 cs H O V=>?_;unfold f101 at K;obtain⟨Y,Z,ag⟩:=bs K;refine zg 10 rfl (Dq 8 1 [] [(14,.bool Y)] (fun a2 al am=>?_) (fun U=>?_))
 ·refine zg 2 rfl ?_;obtain rfl:=oi ag;exact AD func101 rfl rfl (V al rfl ⟨rfl,rfl⟩ am)
 ·refine D7 10 Z (fun ap av=>?_) (fun ap a0=>?_)
  ·refine zg 4 rfl ?_;obtain rfl:=oi av;exact U Ar O rfl
  ·refine zg 4 rfl ?_;obtain rfl:=oi a0;exact U Ar O rfl
def f104(fuel:Nat)(p0:Int)(p1:Int)(p2:Int):Option Bool:= Option.bind (if p1≤p0 then(some (decide (p0≤p2))) else(some false)) fun K=> some K
theorem Lc{p0:Int}{p1:Int}{p2:Int}{fuel:Nat}{r:Bool}(K:f104 fuel p0 p1 p2=some r):AL J 104 [iV p0,iV p1,iV p2] E [] (fun w E' B'=>w= .bool r∧B'= []):=by
 refine A4 func104 fun Q a1 cs H O V=>?_;unfold f104 at K;obtain⟨Y,Z,ag⟩:=bs K;refine zg 10 rfl (Dq 8 1 [] [(14,.bool Y)] (fun a2 al am=>?_) (fun U=>?_))
 ·refine zg 2 rfl ?_;obtain rfl:=oi ag;exact AD func104 rfl rfl (V al rfl ⟨rfl,rfl⟩ am)
 ·refine D7 10 Z (fun ap av=>?_) (fun ap a0=>?_)
  ·refine zg 4 rfl ?_;obtain rfl:=oi av;exact U Ar O rfl
  ·refine zg 4 rfl ?_;obtain rfl:=oi a0;exact U Ar O rfl
def Ns(fuel:Nat)(p0:List Int)(p1:List Int)(K:Int):Option (Bi Int ((Bool)⊕(Unit))):= Option.bind (if K<(p0.length:Int) then(some (decide (K<(p1.length:Int)))) else(some false)) fun O=> if O=true then((ix p0 K).bind fun U=> (ix p1 K).bind fun V=> if U≠V then(some (.done (Sum.inl false))) else((As (K+1)).bind fun Y=> some (.more Y))) else(some (.done (Sum.inr ())))
def f32(fuel:Nat)(p0:List Int)(p1:List Int):Option Bool:= Option.bind (iter (Ns fuel p0 p1) fuel 0) fun K=> Sum.elim (fun r=>some r) (fun O=> some (decide ((p0.length:Int)=(p1.length:Int)))) K
theorem LB{K:An}{c2:Nat}{O:An}{U:Nat}{p0:List Int}{p1:List Int}(a9:Al rI E K c2 p0)(bb:Al rI E O U p1){fuel:Nat}{r:Bool}(av:f32 fuel p0 p1=some r):AL J 32 [sV K p0 c2,sV O p1 U] E [] (fun w E' B'=>w= .bool r∧B'= []):=by
 refine A4 func32 fun Q bR cs H bd a0=>?_;unfold f32 at av;obtain⟨a1,be,a2⟩:=bs av;refine zg 9 rfl (Br (fun L s=>∃(a3:Unit) (a4:LH),a1=Sum.inr a3∧Jm E H a4 [] [(0,sV K p0 c2),(1,sV O p1 U)] L s) ?_ ?_)
 ·rintro _ _ ⟨a3,a4,rfl,rfl,rfl,bi,bn⟩;have bo:=elim_inr a2;refine zg 3 rfl (Bh underlying28 rfl rfl rfl ?_);refine zg 1 rfl (Bh underlying28 rfl rfl rfl ?_);refine zg 3 rfl ?_;obtain rfl:=oi bo;exact AD func32 rfl rfl (a0 bi rfl ⟨rfl,rfl⟩ bn)
 ·intro bp;refine JL.block (Cy be (fun Z=> []) (fun Z=> [(0,sV K p0 c2),(1,sV O p1 U),(5,iV Z)]) Ar bd ?_);rintro Z al V a5 a6 ⟨bS,ag⟩ bq;have a7:=ag;unfold Ns at a7;refine zg 5 rfl (Bh underlying28 rfl rfl rfl ?_);obtain⟨br,bu,bv⟩:=bs a7;refine zg 2 rfl (Et [] (fun L s=>∃(am:LH),Jm al H am [] [(0,sV K p0 c2),(1,sV O p1 U),(5,iV Z),(15,.bool br)] L s) ?_ ?_)
  ·rintro _ _ ⟨am,rfl,rfl,Y,ap⟩;refine JL.done (BF bv (fun bw bx=>?_) (fun bw bz=>?_))
   ·refine zg 4 rfl (CZ 8 fun ht=>?_);refine A2 ht rfl [0,1] rfl ?_;obtain⟨bT,bA,bB⟩:=bs bx;refine Cv 2 (a9.Ah (V.Ac Y)) bA ht underlying28 AU ?_;rintro bU bV _ rfl bC;refine Co 3 ht 0 bC Bv rfl rfl rfl rfl (A2 ht rfl [4,5] rfl ?_);obtain⟨bW,bD,bE⟩:=bs bB;refine Cv 6 (bb.Ah (V.Ac Y)) bD ht underlying28 AU ?_;rintro bY bZ _ rfl bF;refine Co 7 ht 0 bF Bv rfl rfl rfl rfl (Cg [8] ?_);refine zg 2 rfl (AN bE (fun bG bH=>?_) (fun bG bI=>?_))
    ·refine zg 4 rfl ?_;obtain rfl:=oi bH;obtain rfl:=a6 _ ag;have bJ:=elim_inl a2;obtain rfl:=oi bJ;exact AD func32 rfl rfl (a0 (V.Ac Y) rfl ⟨rfl,rfl⟩ ap)
    ·obtain⟨bK,bL,bM⟩:=bs bI;refine zg 4 rfl (Be bL rfl rfl rfl ?_);refine zg 2 rfl ?_;obtain rfl:=oi bM;exact bq bK (V.Ac Y) ap rfl ag
   ·refine JL.exit rfl ?_;obtain rfl:=oi bz;have bN:a1=(Sum.inr ()):=(a6 _ ag).symm;exact Ay (bp _ _ ⟨(),am,bN,rfl,rfl,(V.Ac Y),ap⟩) rfl
  ·intro a8;refine D7 10 bu (fun bO bP=>?_) (fun bO bQ=>?_)
   ·refine zg 2 rfl (Bh underlying28 rfl rfl rfl ?_);refine zg 2 rfl ?_;obtain rfl:=oi bP;exact Ay (a8 _ _ ⟨al,rfl,rfl,Ar,a5⟩) rfl
   ·refine zg 5 rfl ?_;obtain rfl:=oi bQ;exact Ay (a8 _ _ ⟨al,rfl,rfl,Ar,a5⟩) rfl
def Nn(fuel:Nat)(p0:AI)(p1:AI)(K:Int):Option (Bi Int ((Bool)⊕(Unit))):= Option.bind (if K<(p0.length:Int) then(some (decide (K<(p1.length:Int)))) else(some false)) fun V=> if V=true then((ix p0 K).bind fun O=> (ix p1 K).bind fun U=> if ¬(O.1=U.1∧O.2=U.2) then(some (.done (Sum.inl false))) else((As (K+1)).bind fun Y=> some (.more Y))) else(some (.done (Sum.inr ())))
def f34(fuel:Nat)(p0:AI)(p1:AI):Option Bool:= Option.bind (iter (Nn fuel p0 p1) fuel 0) fun K=> Sum.elim (fun r=>some r) (fun O=> some (decide ((p0.length:Int)=(p1.length:Int)))) K
theorem aF{K:An}{c2:Nat}{O:An}{U:Nat}{p0:AI}{p1:AI}(bd:Al Bp E K c2 p0)(be:Al Bp E O U p1){fuel:Nat}{r:Bool}(av:f34 fuel p0 p1=some r):AL J 34 [sV K p0 c2,sV O p1 U] E [] (fun w E' B'=>w= .bool r∧B'= []):=by
 refine A4 func34 fun Q bT cs H bi a0=>?_;unfold f34 at av;obtain⟨a1,bn,a2⟩:=bs av;refine zg 9 rfl (Br (fun L s=>∃(a3:Unit) (a4:LH),a1=Sum.inr a3∧Jm E H a4 [] [(0,sV K p0 c2),(1,sV O p1 U)] L s) ?_ ?_)
 ·rintro _ _ ⟨a3,a4,rfl,rfl,rfl,bo,bp⟩;have bq:=elim_inr a2;refine zg 3 rfl (Bh underlying25 rfl rfl rfl ?_);refine zg 1 rfl (Bh underlying25 rfl rfl rfl ?_);refine zg 3 rfl ?_;obtain rfl:=oi bq;exact AD func34 rfl rfl (a0 bo rfl ⟨rfl,rfl⟩ bp)
 ·intro br;refine JL.block (Cy bn (fun Z=> []) (fun Z=> [(0,sV K p0 c2),(1,sV O p1 U),(5,iV Z)]) Ar bi ?_);rintro Z al V a5 a6 ⟨bU,ag⟩ bu;have a7:=ag;unfold Nn at a7;refine zg 5 rfl (Bh underlying25 rfl rfl rfl ?_);obtain⟨bv,bw,bx⟩:=bs a7;refine zg 2 rfl (Et [] (fun L s=>∃(am:LH),Jm al H am [] [(0,sV K p0 c2),(1,sV O p1 U),(5,iV Z),(15,.bool bv)] L s) ?_ ?_)
  ·rintro _ _ ⟨am,rfl,rfl,Y,ap⟩;refine JL.done (BF bx (fun bz bA=>?_) (fun bz bB=>?_))
   ·refine zg 4 rfl (CZ 8 fun ht=>?_);refine A2 ht rfl [0,1] rfl ?_;obtain⟨a8,bC,bD⟩:=bs bA;refine Cv 2 (bd.Ah (V.Ac Y)) bC ht underlying25 Cc ?_;rintro bV bW _ ⟨_,_,rfl,rfl,rfl⟩ bE;refine Fb 3 ht bE Gt Cc rfl rfl rfl (A2 ht rfl [4,5] rfl ?_);obtain⟨a9,bF,bG⟩:=bs bD;refine Cv 6 (be.Ah (V.Ac Y)) bF ht underlying25 Cc ?_;rintro bY bZ _ ⟨_,_,rfl,rfl,rfl⟩ bH;refine Fb 7 ht bH Gt Cc rfl rfl rfl (Cg [8] ?_);refine AB (v:= .bool (decide (¬(a8.1=a9.1∧a8.2=a9.2)))) rfl (fun ρ h=>QV aU (h _ _ rfl) (h _ _ rfl)) (JL.done ?_);refine AN bG (fun bI bJ=>?_) (fun bI bK=>?_)
    ·refine zg 4 rfl ?_;obtain rfl:=oi bJ;obtain rfl:=a6 _ ag;have bL:=elim_inl a2;obtain rfl:=oi bL;exact AD func34 rfl rfl (a0 (V.Ac Y) rfl ⟨rfl,rfl⟩ ap)
    ·obtain⟨bM,bN,bO⟩:=bs bK;refine zg 4 rfl (Be bN rfl rfl rfl ?_);refine zg 2 rfl ?_;obtain rfl:=oi bO;exact bu bM (V.Ac Y) ap rfl ag
   ·refine JL.exit rfl ?_;obtain rfl:=oi bB;have bP:a1=(Sum.inr ()):=(a6 _ ag).symm;exact Ay (br _ _ ⟨(),am,bP,rfl,rfl,(V.Ac Y),ap⟩) rfl
  ·intro bb;refine D7 10 bw (fun bQ bR=>?_) (fun bQ bS=>?_)
   ·refine zg 2 rfl (Bh underlying25 rfl rfl rfl ?_);refine zg 2 rfl ?_;obtain rfl:=oi bR;exact Ay (bb _ _ ⟨al,rfl,rfl,Ar,a5⟩) rfl
   ·refine zg 5 rfl ?_;obtain rfl:=oi bS;exact Ay (bb _ _ ⟨al,rfl,rfl,Ar,a5⟩) rfl
def Nv(fuel:Nat)(p0:List (List Int))(p1:List (List Int))(K:Int):Option (Bi Int ((Bool)⊕(Unit))):= Option.bind (if K<(p0.length:Int) then(some (decide (K<(p1.length:Int)))) else(some false)) fun O=> if O=true then((ix p0 K).bind fun U=> (ix p1 K).bind fun V=> (f32 fuel U V).bind fun Y=> if(!Y)=true then(some (.done (Sum.inl false))) else((As (K+1)).bind fun Z=> some (.more Z))) else(some (.done (Sum.inr ())))
def f84(fuel:Nat)(p0:List (List Int))(p1:List (List Int)):Option Bool:= Option.bind (iter (Nv fuel p0 p1) fuel 0) fun K=> Sum.elim (fun r=>some r) (fun O=> some (decide ((p0.length:Int)=(p1.length:Int)))) K
theorem Tj{K:An}{c2:Nat}{O:An}{U:Nat}{p0:List (List Int)}{p1:List (List Int)}(bd:Al (rL rI) E K c2 p0)(be:Al (rL rI) E O U p1){fuel:Nat}{r:Bool}(ap:f84 fuel p0 p1=some r):AL J 84 [sV K p0 c2,sV O p1 U] E [] (fun w E' B'=>w= .bool r∧B'= []):=by
 refine A4 func84 fun Q bZ cs H bi av=>?_;unfold f84 at ap;obtain⟨a0,bn,a1⟩:=bs ap;refine zg 9 rfl (Br (fun L s=>∃(a2:Unit) (a3:LH),a0=Sum.inr a2∧Jm E H a3 [] [(0,sV K p0 c2),(1,sV O p1 U)] L s) ?_ ?_)
 ·rintro _ _ ⟨a2,a3,rfl,rfl,rfl,bo,bp⟩;have bq:=elim_inr a1;refine zg 3 rfl (Bh underlying22 rfl rfl rfl ?_);refine zg 1 rfl (Bh underlying22 rfl rfl rfl ?_);refine zg 3 rfl ?_;obtain rfl:=oi bq;exact AD func84 rfl rfl (av bo rfl ⟨rfl,rfl⟩ bp)
 ·intro br;refine JL.block (Cy bn (fun Z=> []) (fun Z=> [(0,sV K p0 c2),(1,sV O p1 U),(5,iV Z)]) Ar bi ?_);rintro Z al V a4 a5 ⟨b0,ag⟩ bu;have a6:=ag;unfold Nv at a6;refine zg 5 rfl (Bh underlying22 rfl rfl rfl ?_);obtain⟨bv,bw,bx⟩:=bs a6;refine zg 2 rfl (Et [] (fun L s=>∃(am:LH),Jm al H am [] [(0,sV K p0 c2),(1,sV O p1 U),(5,iV Z),(15,.bool bv)] L s) ?_ ?_)
  ·rintro _ _ ⟨am,rfl,rfl,Y,a7⟩;refine JL.done (BF bx (fun bz bA=>?_) (fun bz bB=>?_))
   ·refine zg 4 rfl (CZ 8 fun ht=>?_);refine A2 ht rfl [0,1] rfl ?_;obtain⟨b1,bC,bD⟩:=bs bA;refine Cv 2 (bd.Ah (V.Ac Y)) bC ht underlying22 BV ?_;rintro b2 b3 _ ⟨b4,b5,rfl,bE⟩ bF;refine Co 3 ht 0 bF CQ rfl rfl rfl rfl (A2 ht rfl [4,5] rfl ?_);obtain⟨b6,bG,bH⟩:=bs bD;refine Cv 6 (be.Ah (V.Ac Y)) bG ht underlying22 BV ?_;rintro b7 b8 _ ⟨b9,ca,rfl,bI⟩ bJ;refine Co 7 ht 0 bJ CQ rfl rfl rfl rfl (Cg [8,9] ?_);obtain⟨bK,bL,bM⟩:=bs bH;refine BD (LB bE bI bL) rfl rfl Km a7 fun cb a8 a9=>AB (v:= .bool (!bK)) rfl (fun ρ h=>Yl.not (h _ _ rfl)) (JL.done ?_);refine BF bM (fun bN bO=>?_) (fun bN bP=>?_)
    ·refine zg 4 rfl ?_;obtain rfl:=oi bO;obtain rfl:=a5 _ ag;have bQ:=elim_inl a1;obtain rfl:=oi bQ;exact AD func84 rfl rfl (av ((V.Ac Y).Ac a8) rfl ⟨rfl,rfl⟩ a9)
    ·obtain⟨bR,bS,bT⟩:=bs bP;refine zg 4 rfl (Be bS rfl rfl rfl ?_);refine zg 2 rfl ?_;obtain rfl:=oi bT;exact bu bR ((V.Ac Y).Ac a8) a9 rfl ag
   ·refine JL.exit rfl ?_;obtain rfl:=oi bB;have bU:a0=(Sum.inr ()):=(a5 _ ag).symm;exact Ay (br _ _ ⟨(),am,bU,rfl,rfl,(V.Ac Y),a7⟩) rfl
  ·intro bb;refine D7 10 bw (fun bV bW=>?_) (fun bV bY=>?_)
   ·refine zg 2 rfl (Bh underlying22 rfl rfl rfl ?_);refine zg 2 rfl ?_;obtain rfl:=oi bW;exact Ay (bb _ _ ⟨al,rfl,rfl,Ar,a4⟩) rfl
   ·refine zg 5 rfl ?_;obtain rfl:=oi bY;exact Ay (bb _ _ ⟨al,rfl,rfl,Ar,a4⟩) rfl
def f33(fuel:Nat)(p0:A1)(p1:A1):Option Bool:= (f84 fuel p0.1 p1.1).bind fun K=> Option.bind (if K=true then((f84 fuel p0.2 p1.2).bind fun O=> some O) else(some false)) fun U=> some U
theorem aG{V:An}{c2:Nat}{Y:An}{Z:Nat}{ag:An}{al:Nat}{am:An}{ap:Nat}{p0:A1}{p1:A1}(a4:Al (rL rI) E V c2 p0.1)(a5:Al (rL rI) E Y Z p0.2)(a6:Al (rL rI) E ag al p1.1)(a7:Al (rL rI) E am ap p1.2){fuel:Nat}{r:Bool}(av:f33 fuel p0 p1=some r):AL J 33 [.agg #[sV V p0.1 c2,sV Y p0.2 Z],.agg #[sV ag p1.1 al,sV am p1.2 ap]] E [] (fun w E' B'=>w= .bool r∧B'= []):=by
 refine A4 func33 fun Q bC cs H a8 a9=>?_;unfold f33 at av;refine zg 2 rfl (B4 a8 fun bD bE O a0 bb=>?_);refine B4 bb fun bF bG K a1 bd=>?_;refine zg 4 rfl (JL.fl 0 (a0.Ah K) underlying24 BS Ct ?_);refine JL.fl 0 a1 underlying24 BS Ct ?_;obtain⟨bH,be,bi⟩:=bs av;refine BD (Tj (a4.Ah (O.Ac K)) (a6.Ah (O.Ac K)) be) rfl rfl (AR func84 rfl) bd fun bI U a2=>?_;obtain⟨bn,bo,bp⟩:=bs bi;refine zg 1 rfl (Dq 12 1 [] [(16,.bool bn)] (fun bJ bq br=>?_) (fun a3=>?_))
 ·refine zg 2 rfl ?_;obtain rfl:=oi bp;exact AD func33 rfl rfl (a9 (((O.Ac K).Ac U).Ac bq) rfl ⟨rfl,rfl⟩ br)
 ·refine DO 10 bo (fun bu bv=>?_) (fun bu bw=>?_)
  ·refine JL.fl 1 (a0.Ah (K.Ac U)) underlying24 BS Ct ?_;refine JL.fl 1 (a1.Ah U) underlying24 BS Ct ?_;obtain⟨bK,bx,bz⟩:=bs bv;refine BD (Tj (a5.Ah ((O.Ac K).Ac U)) (a7.Ah ((O.Ac K).Ac U)) bx) rfl rfl (AR func84 rfl) a2 fun bL bA bB=>zg 1 rfl ?_;obtain rfl:=oi bz;exact a3 bA bB rfl
  ·refine zg 6 rfl ?_;obtain rfl:=oi bw;exact a3 Ar a2 rfl
def f23(fuel:Nat)(p0:List Int):Option ((BX)):= some (p0,0,2685821657736338717)
theorem aW{K:An}{c2:Nat}{p0:List Int}(Z:Al rI E K c2 p0){fuel:Nat}{r:(BX)}(O:f23 fuel p0=some r):AL J 23 [sV K p0 c2] E [] (fun w E' B'=>∃(U:Nat) (V:An) (Y:Nat),w= pV U 0∧B'= [(U,.cells #[sV V r.1 Y,iV r.2.1,.int .u64 ((r.2.2:Nat):Int)] 92 (0,0))]∧Al rI E' V Y r.1):=by
 refine A4 func23 fun Q av cs H ag al=>?_;unfold f23 at O;refine zg 7 rfl (AB (v:= .agg #[sV K p0 c2,iV 0,.int .u64 ((2685821657736338717:Nat):Int)]) rfl (fun ρ h=>CY [(0,1),(1,1),(2,1)] h (Du type92) underlying92 ⟨rfl,Bo type28,rfl,Bo type3,rfl,Bo type90,trivial⟩ rfl rfl) ?_);refine JS.box (v:= .agg #[sV K p0 c2,iV 0,.int .u64 ((2685821657736338717:Nat):Int)]) rfl rfl rfl ag rfl fun am ap=>zg 2 rfl ?_;obtain rfl:=oi O;exact AD func23 rfl rfl (al Ar rfl ⟨am,K,c2,rfl,(by first | rfl | simp | (simp [Value.cells])),Z⟩ ap)
def f100(fuel:Nat)(p0:BX):Option (Nat×(BX)):= (As (p0.2.1+1)).bind fun O=> Option.bind (if O≤(p0.1.length:Int) then((As (O - 1)).bind fun U=> (ix p0.1 U).bind fun V=> some (((((Dh O)*11400714819323198485) % 2 ^ 64) ^^^ (((Dh V)*14029467366897019727) % 2 ^ 64)) % 2 ^ 64)) else(some (((Dh O)*11400714819323198485) % 2 ^ 64))) fun K=> some (((((((((((p0.2.2 ^^^ K) % 2 ^ 64)*18397679294719823053) % 2 ^ 64) ^^^ (((((p0.2.2 ^^^ K) % 2 ^ 64)*18397679294719823053) % 2 ^ 64)>>>33)) % 2 ^ 64)*14181476777654086739) % 2 ^ 64) ^^^ (((((((((p0.2.2 ^^^ K) % 2 ^ 64)*18397679294719823053) % 2 ^ 64) ^^^ (((((p0.2.2 ^^^ K) % 2 ^ 64)*18397679294719823053) % 2 ^ 64)>>>33)) % 2 ^ 64)*14181476777654086739) % 2 ^ 64)>>>29)) % 2 ^ 64)>>>11,(p0.1,O,(((((p0.2.2 ^^^ K) % 2 ^ 64)*18397679294719823053) % 2 ^ 64) ^^^ (((((p0.2.2 ^^^ K) % 2 ^ 64)*18397679294719823053) % 2 ^ 64)>>>33)) % 2 ^ 64))
theorem aa{bk:Nat}{V:An}{c2:Nat}{p0:BX}(ag:Al rI E V c2 p0.1){fuel:Nat}{r:Nat×(BX)}(al:f100 fuel p0=some r):AL J 100 [pV bk 0] E [(bk,.cells #[sV V p0.1 c2,iV p0.2.1,.int .u64 ((p0.2.2:Nat):Int)] 92 (0,0))] (fun w E' B'=>∃(am:An) (ap:Nat),w= .int .u64 ((r.1:Nat):Int)∧B'= [(bk,.cells #[sV am r.2.1 ap,iV r.2.2.1,.int .u64 ((r.2.2.2:Nat):Int)] 92 (0,0))]∧Al rI E' am ap r.2.1):=by
 refine A4 func100 fun Q bq cs H av a4=>?_;unfold f100 at al;refine zg 8 rfl (BJ underlying92 AU rfl rfl rfl ?_);refine AB (v:=iV p0.2.1) rfl (fun ρ h=>Yl.load Bv (h _ _ rfl) (DW (j:=0) (off:=1) av rfl rfl)) ?_;obtain⟨U,a5,a6⟩:=bs al;refine Be a5 rfl rfl rfl (zg 1 rfl ?_);refine BJ underlying92 AU rfl rfl rfl (BM 0 av AU fun O=>?_);refine zg 5 rfl (BJ underlying92 AU rfl rfl rfl ?_);refine AB (v:=iV U) rfl (fun ρ h=>Yl.load Bv (h _ _ rfl) (DW (j:=0) (off:=1) O rfl rfl)) (AB (v:= .int .u64 ((Dh U:Nat):Int)) rfl (fun ρ h=>Yl.Dh underlying3 underlying90 (h _ _ rfl)) ?_);refine AB (v:= .int .u64 ((((Dh U)*11400714819323198485) % 2 ^ 64:Nat):Int)) rfl (fun ρ h=>MU (h _ _ rfl) (h _ _ rfl)) (zg 4 rfl ?_);refine Di 9 [bk] ⟨⟨0,_,rfl⟩,trivial⟩ O fun ht=>A2 ht rfl [0,1] rfl (Ca 2 ht underlying92 AU rfl rfl rfl rfl ?_);refine Fc 3 ht 1 0 O Bv ?_;refine A2 ht rfl [4,5] rfl (Ca 6 ht underlying92 BV rfl rfl rfl rfl ?_);refine Fc 7 ht 0 0 O CQ ?_;refine Bx 8 ht rfl rfl (fun ρ h s' hs=>Yl.len rfl underlying28 (h _ _ rfl)) (Cg [9] ?_);obtain⟨K,a7,a8⟩:=bs a6;refine zg 2 rfl (C7 [bX bk #[sV V p0.1 c2,iV U,.int .u64 ((p0.2.2:Nat):Int)] 92] [(0,pV bk 0),(3,.int .u64 ((K:Nat):Int))] (fun br a0 a1=>?_) (fun a2=>?_))
 ·refine zg 5 rfl (BJ underlying92 Ij rfl rfl rfl ?_);refine AB (v:= .int .u64 ((p0.2.2:Nat):Int)) rfl (fun ρ h=>Yl.load L8 (h _ _ rfl) (DW (j:=0) (off:=2) a1 rfl rfl)) (zg 1 rfl ?_);refine AB (v:= .int .u64 (((p0.2.2 ^^^ K) % 2 ^ 64:Nat):Int)) rfl (fun ρ h=>MH (h _ _ rfl) (h _ _ rfl)) (AB (v:= .int .u64 (((((p0.2.2 ^^^ K) % 2 ^ 64)*18397679294719823053) % 2 ^ 64:Nat):Int)) rfl (fun ρ h=>MU (h _ _ rfl) (h _ _ rfl)) ?_);refine zg 1 rfl (BJ underlying92 Ij rfl rfl rfl ?_);refine BM 0 a1 Ij fun Y=>?_;refine zg 2 rfl (Di 11 [bk] ⟨⟨0,_,rfl⟩,trivial⟩ Y fun ht=>?_);refine A2 ht rfl [0,1,2] rfl (Ca 3 ht underlying92 Ij rfl rfl rfl rfl ?_);refine Fc 4 ht 2 0 Y L8 ?_;refine A2 ht rfl [5,6] rfl (Ca 7 ht underlying92 Ij rfl rfl rfl rfl ?_);refine Fc 8 ht 2 0 Y L8 ?_;refine Bx (v:= .int .u64 ((((((p0.2.2 ^^^ K) % 2 ^ 64)*18397679294719823053) % 2 ^ 64)>>>33:Nat):Int)) 9 ht rfl rfl (fun ρ h s' hs=>JF 33 (h _ _ rfl) (h _ _ rfl) (by decide)) (Bx (v:= .int .u64 (((((((p0.2.2 ^^^ K) % 2 ^ 64)*18397679294719823053) % 2 ^ 64) ^^^ (((((p0.2.2 ^^^ K) % 2 ^ 64)*18397679294719823053) % 2 ^ 64)>>>33)) % 2 ^ 64:Nat):Int)) 10 ht rfl rfl (fun ρ h s' hs=>MH (h _ _ rfl) (h _ _ rfl)) ?_);refine Cg [11,12,13] (zg 1 rfl ?_);refine BJ underlying92 Ij rfl rfl rfl (BM 0 Y Ij fun a3=>?_);refine zg 5 rfl (BJ underlying92 Ij rfl rfl rfl ?_);refine AB (v:= .int .u64 (((((((p0.2.2 ^^^ K) % 2 ^ 64)*18397679294719823053) % 2 ^ 64) ^^^ (((((p0.2.2 ^^^ K) % 2 ^ 64)*18397679294719823053) % 2 ^ 64)>>>33)) % 2 ^ 64:Nat):Int)) rfl (fun ρ h=>Yl.load L8 (h _ _ rfl) (DW (j:=0) (off:=2) a3 rfl rfl)) (AB (v:= .int .u64 (((((((((p0.2.2 ^^^ K) % 2 ^ 64)*18397679294719823053) % 2 ^ 64) ^^^ (((((p0.2.2 ^^^ K) % 2 ^ 64)*18397679294719823053) % 2 ^ 64)>>>33)) % 2 ^ 64)*14181476777654086739) % 2 ^ 64:Nat):Int)) rfl (fun ρ h=>MU (h _ _ rfl) (h _ _ rfl)) ?_);refine zg 6 rfl (AB (v:= .int .u64 ((((((((((p0.2.2 ^^^ K) % 2 ^ 64)*18397679294719823053) % 2 ^ 64) ^^^ (((((p0.2.2 ^^^ K) % 2 ^ 64)*18397679294719823053) % 2 ^ 64)>>>33)) % 2 ^ 64)*14181476777654086739) % 2 ^ 64)>>>29:Nat):Int)) rfl (fun ρ h=>JF 29 (h _ _ rfl) (h _ _ rfl) (by decide)) ?_);refine AB (v:= .int .u64 (((((((((((p0.2.2 ^^^ K) % 2 ^ 64)*18397679294719823053) % 2 ^ 64) ^^^ (((((p0.2.2 ^^^ K) % 2 ^ 64)*18397679294719823053) % 2 ^ 64)>>>33)) % 2 ^ 64)*14181476777654086739) % 2 ^ 64) ^^^ (((((((((p0.2.2 ^^^ K) % 2 ^ 64)*18397679294719823053) % 2 ^ 64) ^^^ (((((p0.2.2 ^^^ K) % 2 ^ 64)*18397679294719823053) % 2 ^ 64)>>>33)) % 2 ^ 64)*14181476777654086739) % 2 ^ 64)>>>29)) % 2 ^ 64:Nat):Int)) rfl (fun ρ h=>MH (h _ _ rfl) (h _ _ rfl)) (AB (v:= .int .u64 ((((((((((((p0.2.2 ^^^ K) % 2 ^ 64)*18397679294719823053) % 2 ^ 64) ^^^ (((((p0.2.2 ^^^ K) % 2 ^ 64)*18397679294719823053) % 2 ^ 64)>>>33)) % 2 ^ 64)*14181476777654086739) % 2 ^ 64) ^^^ (((((((((p0.2.2 ^^^ K) % 2 ^ 64)*18397679294719823053) % 2 ^ 64) ^^^ (((((p0.2.2 ^^^ K) % 2 ^ 64)*18397679294719823053) % 2 ^ 64)>>>33)) % 2 ^ 64)*14181476777654086739) % 2 ^ 64)>>>29)) % 2 ^ 64)>>>11:Nat):Int)) rfl (fun ρ h=>JF 11 (h _ _ rfl) (h _ _ rfl) (by decide)) ?_);refine zg 2 rfl ?_;obtain rfl:=oi a8;exact AD func100 rfl rfl (a4 a0 rfl ⟨V,c2,rfl,rfl,(ag.Ah a0)⟩ a3)
 ·refine AN a7 (fun a9 bb=>?_) (fun a9 bd=>?_)
  ·refine Di 14 [bk] ⟨⟨0,_,rfl⟩,trivial⟩ O fun ht=>A2 ht rfl [0,1,2] rfl (Ca 3 ht underlying92 BV rfl rfl rfl rfl ?_);refine Fc 4 ht 0 0 O CQ ?_;refine A2 ht rfl [5,6] rfl (Ca 7 ht underlying92 AU rfl rfl rfl rfl ?_);refine Fc 8 ht 1 0 O Bv ?_;obtain⟨bu,be,bi⟩:=bs bb;refine Bx 9 ht rfl rfl (fun ρ h s' hs=>C5 (h _ _ rfl) (h _ _ rfl) be) ?_;obtain⟨Z,bn,bo⟩:=bs bi;refine Cv 10 ag bn ht underlying28 AU ?_;rintro bv bw _ rfl bp;refine JG.lp 11 ht 0 bp O ⟨⟨0,_,rfl⟩,trivial⟩ Bv ?_;refine Bx (v:= .int .u64 ((Dh Z:Nat):Int)) 12 ht rfl rfl (fun ρ h s' hs=>Yl.Dh underlying3 underlying90 (h _ _ rfl)) (Bx (v:= .int .u64 ((((Dh Z)*14029467366897019727) % 2 ^ 64:Nat):Int)) 13 ht rfl rfl (fun ρ h s' hs=>MU (h _ _ rfl) (h _ _ rfl)) ?_);refine Cg [14,15] (AB (v:= .int .u64 ((((((Dh U)*11400714819323198485) % 2 ^ 64) ^^^ (((Dh Z)*14029467366897019727) % 2 ^ 64)) % 2 ^ 64:Nat):Int)) rfl (fun ρ h=>MH (h _ _ rfl) (h _ _ rfl)) ?_);refine zg 2 rfl ?_;obtain rfl:=oi bo;exact a2 Ar O rfl
  ·refine JL.skip ?_;obtain rfl:=oi bd;exact a2 Ar O rfl
def f41(fuel:Nat)(p0:BX)(p1:Int):Option (Int×(BX)):= (f100 fuel p0).bind fun K=> if p1<1 then(some (0,K.2)) else((NO K.1 ((Dh p1+1) % 2 ^ 64)).bind fun O=> some (LQ O,K.2))
theorem HX{bk:Nat}{K:An}{c2:Nat}{p0:BX}{p1:Int}(a0:Al rI E K c2 p0.1){fuel:Nat}{r:Int×(BX)}(O:f41 fuel p0 p1=some r):AL J 41 [pV bk 0,iV p1] E [(bk,.cells #[sV K p0.1 c2,iV p0.2.1,.int .u64 ((p0.2.2:Nat):Int)] 92 (0,0))] (fun w E' B'=>∃(U:An) (V:Nat),w=iV r.1∧B'= [(bk,.cells #[sV U r.2.1 V,iV r.2.2.1,.int .u64 ((r.2.2.2:Nat):Int)] 92 (0,0))]∧Al rI E' U V r.2.1):=by
 refine A4 func41 fun Q a9 cs H a1 Y=>?_;unfold f41 at O;obtain⟨bb,a2,a3⟩:=bs O;refine zg 7 rfl (B6 0 (aa a0 a2) rfl rfl (AR func100 rfl) a1 rfl ?_);rintro _ bd _ Z ⟨ag,al,rfl,rfl,am⟩ ap;refine zg 8 rfl (AN a3 (fun a4 a5=>?_) (fun a4 a6=>?_))
 ·refine zg 4 rfl ?_;obtain rfl:=oi a5;exact AD func41 rfl rfl (Y Z rfl ⟨ag,al,rfl,rfl,am⟩ ap)
 ·refine zg 5 rfl (AB (v:= .int .u64 ((Dh p1:Nat):Int)) rfl (fun ρ h=>Yl.Dh underlying3 underlying90 (h _ _ rfl)) ?_);refine AB (v:= .int .u64 (((Dh p1+1) % 2 ^ 64:Nat):Int)) rfl (fun ρ h=>Ye (h _ _ rfl) (h _ _ rfl)) ?_;obtain⟨av,a7,a8⟩:=bs a6;refine AB (v:= .int .u64 ((av:Nat):Int)) rfl (fun ρ h=>VU (h _ _ rfl) (h _ _ rfl) a7) (AB (v:=iV (LQ av)) rfl (fun ρ h=>YW underlying90 underlying3 (h _ _ rfl)) ?_);refine zg 2 rfl ?_;obtain rfl:=oi a8;exact AD func41 rfl rfl (Y Z rfl ⟨ag,al,rfl,rfl,am⟩ ap)
def f96(fuel:Nat)(p0:BX)(p1:Int)(p2:Int):Option (Int×(BX)):= (As (p2 - p1)).bind fun O=> (f41 fuel p0 O).bind fun K=> (As (p1+K.1)).bind fun U=> some (U,K.2)
theorem Pe{bk:Nat}{K:An}{c2:Nat}{p0:BX}{p1:Int}{p2:Int}(Y:Al rI E K c2 p0.1){fuel:Nat}{r:Int×(BX)}(O:f96 fuel p0 p1 p2=some r):AL J 96 [pV bk 0,iV p1,iV p2] E [(bk,.cells #[sV K p0.1 c2,iV p0.2.1,.int .u64 ((p0.2.2:Nat):Int)] 92 (0,0))] (fun w E' B'=>∃(U:An) (V:Nat),w=iV r.1∧B'= [(bk,.cells #[sV U r.2.1 V,iV r.2.2.1,.int .u64 ((r.2.2.2:Nat):Int)] 92 (0,0))]∧Al rI E' U V r.2.1):=by
 refine A4 func96 fun Q a7 cs H Z ag=>?_;unfold f96 at O;obtain⟨a8,al,am⟩:=bs O;refine zg 10 rfl (Ci al rfl rfl rfl ?_);obtain⟨a9,ap,av⟩:=bs am;refine B6 0 (HX Y ap) rfl rfl HK Z rfl ?_;rintro _ bb _ a0 ⟨a1,a2,rfl,rfl,a3⟩ a4;obtain⟨bd,a5,a6⟩:=bs av;refine Be a5 rfl rfl rfl (zg 2 rfl ?_);obtain rfl:=oi a6;exact AD func96 rfl rfl (ag a0 rfl ⟨a1,a2,rfl,rfl,a3⟩ a4)
def f97(fuel:Nat)(p0:BX)(p1:Int):Option (Bool×(BX)):= (As (p1 - 1)).bind fun O=> (f41 fuel p0 O).bind fun K=> some (decide (K.1=0),K.2)
theorem Lx{bk:Nat}{K:An}{c2:Nat}{p0:BX}{p1:Int}(Y:Al rI E K c2 p0.1){fuel:Nat}{r:Bool×(BX)}(O:f97 fuel p0 p1=some r):AL J 97 [pV bk 0,iV p1] E [(bk,.cells #[sV K p0.1 c2,iV p0.2.1,.int .u64 ((p0.2.2:Nat):Int)] 92 (0,0))] (fun w E' B'=>∃(U:An) (V:Nat),w= .bool r.1∧B'= [(bk,.cells #[sV U r.2.1 V,iV r.2.2.1,.int .u64 ((r.2.2.2:Nat):Int)] 92 (0,0))]∧Al rI E' U V r.2.1):=by
 refine A4 func97 fun Q a5 cs H Z ag=>?_;unfold f97 at O;obtain⟨a6,al,am⟩:=bs O;refine zg 8 rfl (Ci al rfl rfl rfl ?_);obtain⟨a7,ap,av⟩:=bs am;refine B6 0 (HX Y ap) rfl rfl HK Z rfl ?_;rintro _ a8 _ a0 ⟨a1,a2,rfl,rfl,a3⟩ a4;refine zg 3 rfl ?_;obtain rfl:=oi av;exact AD func97 rfl rfl (ag a0 rfl ⟨a1,a2,rfl,rfl,a3⟩ a4)
def f99(fuel:Nat)(p0:BX)(p1:List Int):Option (Int×(BX)):= (As ((p1.length:Int) - 1)).bind fun O=> (f41 fuel p0 O).bind fun K=> (ix p1 K.1).bind fun U=> some (U,K.2)
theorem NQ{bk:Nat}{K:An}{c2:Nat}{O:An}{U:Nat}{p0:BX}{p1:List Int}(al:Al rI E K c2 p0.1)(am:Al rI E O U p1){fuel:Nat}{r:Int×(BX)}(V:f99 fuel p0 p1=some r):AL J 99 [pV bk 0,sV O p1 U] E [(bk,.cells #[sV K p0.1 c2,iV p0.2.1,.int .u64 ((p0.2.2:Nat):Int)] 92 (0,0))] (fun w E' B'=>∃(Y:An) (Z:Nat),w=iV r.1∧B'= [(bk,.cells #[sV Y r.2.1 Z,iV r.2.2.1,.int .u64 ((r.2.2.2:Nat):Int)] 92 (0,0))]∧Al rI E' Y Z r.2.1):=by
 refine A4 func99 fun Q bd cs H ap av=>?_;unfold f99 at V;refine zg 9 rfl (Bh underlying28 rfl rfl rfl ?_);obtain⟨be,a0,a1⟩:=bs V;refine Ci a0 rfl rfl rfl ?_;obtain⟨bi,a2,a3⟩:=bs a1;refine B6 0 (HX al a2) rfl rfl HK ap rfl ?_;rintro _ bn _ ag ⟨a4,a5,rfl,rfl,a6⟩ a7;obtain⟨bo,a8,a9⟩:=bs a3;refine B9 (am.Ah ag) a8 underlying28 AU ?_;rintro bp bq _ rfl bb;refine BW 0 bb Bv rfl rfl rfl (zg 2 rfl ?_);obtain rfl:=oi a9;exact AD func99 rfl rfl (av ag rfl ⟨a4,a5,rfl,rfl,a6⟩ a7)
def JZ(fuel:Nat)(p0:List Int)(p1:Int)(K:(List Int)×Bool×Int):Option (Bi ((List Int)×Bool×Int) ((List Int)×Bool)):= if K.2.2<(p0.length:Int) then((ix p0 K.2.2).bind fun U=> Option.bind (if p1≤U then(some (!K.2.1)) else(some false)) fun V=> Option.bind (if V=true then((room K.1 p1).bind fun Y=> some (Y,true)) else(some (K.1,K.2.1))) fun O=> (ix p0 K.2.2).bind fun Z=> Option.bind (if Z≠p1 then((ix p0 K.2.2).bind fun ag=> (room O.1 ag).bind fun al=> some al) else(some O.1)) fun am=> (As (K.2.2+1)).bind fun ap=> some (.more (am,O.2,ap))) else(some (.done (K.1,K.2.1)))
def f98(fuel:Nat)(p0:List Int)(p1:Int):Option ((List Int)):= Option.bind (iter (JZ fuel p0 p1) fuel ([],false,0)) fun K=> Option.bind (if(!K.2)=true then((room K.1 p1).bind fun O=> some O) else(some K.1)) fun U=> some U
theorem Tr{Y:An}{c2:Nat}{p0:List Int}{p1:Int}(bn:Al rI E Y c2 p0){fuel:Nat}{r:(List Int)}(bx:f98 fuel p0 p1=some r):AL J 98 [sV Y p0 c2,iV p1] E [] (fun w E' B'=>∃(bz:An) (bA:Nat),w= sV bz r bA∧B'= []∧Al rI E' bz bA r):=by
 refine A4 func98 fun Q c9 cs H bM bN=>?_;unfold f98 at bx;obtain⟨a5,bO,bP⟩:=bs bx;refine zg 17 rfl (Br (fun L s=>∃(Z:LH) (am:An) (ap:Nat) (a6:Seg),Jn E H Z [a6] [(1,iV p1),(5,sV am a5.1 ap),(6,.bool a5.2)] L s (OL 3 rI Z am ap a6 a5.1)) ?_ ?_)
 ·rintro _ _ ⟨Z,am,ap,a6,rfl,rfl,bQ,bB,bC⟩;refine zg 4 rfl (AB (v:= .bool (!a5.2)) rfl (fun ρ h=>Yl.not (h _ _ rfl)) ?_);obtain⟨bD,bR,bS⟩:=bs bP;refine JL.done (Br (fun L s=>∃(bo:LH) (a7:An) (a8:Nat) (bp:Seg),Jn Z H bo [bp] [(5,sV a7 bD a8)] L s (OL 3 rI bo a7 a8 bp bD)) ?_ ?_)
  ·rintro _ _ ⟨bo,a7,a8,bp,rfl,rfl,bT,bU,bV⟩;refine zg 5 rfl (B5 0 bV bU rfl fun da bW bY bZ=>?_);obtain rfl:=oi bS;exact AD func98 rfl rfl (bN ((bQ.Ac bT).Ac bW) rfl ⟨a7,a8,rfl,rfl,bY⟩ bZ)
  ·intro bE;refine BF bR (fun b0 b1=>?_) (fun b0 b2=>?_)
   ·obtain⟨db,b3,b4⟩:=bs b1;refine zg 3 rfl (JS.app (pp:=rI) (v:=iV p1) (a:=am) (c:=ap) 0 b3 rfl rfl rfl rfl (fun _=>rfl) rfl (fun _=>rfl) rfl rfl rfl underlying28 underlying28 underlying28 AU (CR type3) CM rfl (by decide) (by decide) (by decide) (by decide) bC rfl bB rfl fun dc b5 b6 b7 b8 b9=>?_);refine zg 2 rfl ?_;obtain rfl:=oi b4;exact Ay (bE _ _ ⟨Z,b5,b6,b7,rfl,rfl,Ar,b9,b8⟩) rfl
   ·refine JL.skip ?_;obtain rfl:=oi b2;exact Ay (bE _ _ ⟨Z,am,ap,a6,rfl,rfl,Ar,bB,bC⟩) rfl
 ·intro ca;refine JL.block (CN bO (fun L s K=>∃(O:LH) (U:An) (V:Nat) (ag:Seg),Jn E H O [ag] [(0,sV Y p0 c2),(1,iV p1),(5,sV U K.1 V),(6,.bool K.2.1),(7,iV K.2.2)] L s (OL 3 rI O U V ag K.1)) ⟨E,none,0,[],rfl,rfl,Ar,bM,OL.nil⟩ ?_);rintro _ _ K ⟨O,U,V,ag,rfl,rfl,av,bq,br⟩ cb ⟨dd,bu⟩ cc;have bF:=bu;unfold JZ at bF;refine zg 5 rfl (Bh underlying28 rfl rfl rfl ?_);refine zg 2 rfl (AN bF (fun cd ce=>?_) (fun cd cf=>?_))
  ·obtain⟨de,cg,ci⟩:=bs ce;refine zg 8 rfl (B9 (bn.Ah av) cg underlying28 AU ?_);rintro df dg _ rfl ck;refine BW 0 ck Bv rfl rfl rfl ?_;obtain⟨cm,cn,co⟩:=bs ci;refine zg 3 rfl (Et [] (fun L s=>∃(a0:LH),Jm O H a0 [ag] [(0,sV Y p0 c2),(1,iV p1),(5,sV U K.1 V),(6,.bool K.2.1),(7,iV K.2.2),(23,.bool cm)] L s) ?_ ?_)
   ·rintro _ _ ⟨a0,rfl,rfl,a1,bG⟩;obtain⟨a2,cp,cq⟩:=bs co;refine JL.done (Br (fun L s=>∃(al:LH) (a3:An) (a4:Nat) (a9:Seg),Jn a0 H al [a9] [(0,sV Y p0 c2),(1,iV p1),(5,sV a3 a2.1 a4),(6,.bool a2.2),(7,iV K.2.2)] L s (OL 3 rI al a3 a4 a9 a2.1)) ?_ ?_)
    ·rintro _ _ ⟨al,a3,a4,a9,rfl,rfl,bv,bH,bI⟩;obtain⟨dh,cr,ct⟩:=bs cq;refine zg 4 rfl (B9 (bn.Ah ((av.Ac a1).Ac bv)) cr underlying28 AU ?_);rintro di dj _ rfl cu;refine BW 0 cu Bv rfl rfl rfl ?_;obtain⟨bw,cv,cw⟩:=bs ct;refine zg 3 rfl (Br (fun L s=>∃(bb:LH) (bd:An) (be:Nat) (bi:Seg),Jn al H bb [bi] [(0,sV Y p0 c2),(1,iV p1),(5,sV bd bw be),(6,.bool a2.2),(7,iV K.2.2)] L s (OL 3 rI bb bd be bi bw)) ?_ ?_)
     ·rintro _ _ ⟨bb,bd,be,bi,rfl,rfl,cy,cz,cA⟩;obtain⟨cB,cC,cD⟩:=bs cw;refine zg 3 rfl (Be cC rfl rfl rfl ?_);refine zg 2 rfl ?_;obtain rfl:=oi cD;exact Ay (cc _ _ (bw,a2.2,cB) ⟨bb,bd,be,bi,rfl,rfl,(((av.Ac a1).Ac bv).Ac cy),cz,cA⟩ bu) rfl
     ·intro bJ;refine AN cv (fun cE cF=>?_) (fun cE cG=>?_)
      ·obtain⟨cH,cI,cJ⟩:=bs cF;refine zg 4 rfl (B9 (bn.Ah ((av.Ac a1).Ac bv)) cI underlying28 AU ?_);rintro dk dl _ rfl cK;refine BW 0 cK Bv rfl rfl rfl ?_;obtain⟨dm,cM,cN⟩:=bs cJ;refine JS.app (pp:=rI) (v:=iV cH) (a:=a3) (c:=a4) 0 cM rfl rfl rfl rfl (fun _=>rfl) rfl (fun _=>rfl) rfl rfl rfl underlying28 underlying28 underlying28 AU (CR type3) CM rfl (by decide) (by decide) (by decide) (by decide) bI rfl bH rfl fun dn cO cP cQ cR cT=>zg 2 rfl ?_;obtain rfl:=oi cN;exact Ay (bJ _ _ ⟨al,cO,cP,cQ,rfl,rfl,Ar,cT,cR⟩) rfl
      ·refine JL.skip ?_;obtain rfl:=oi cG;exact Ay (bJ _ _ ⟨al,a3,a4,a9,rfl,rfl,Ar,bH,bI⟩) rfl
    ·intro bK;refine BF cp (fun cV cW=>?_) (fun cV cX=>?_)
     ·obtain⟨dp,cY,cZ⟩:=bs cW;refine zg 3 rfl (JS.app (pp:=rI) (v:=iV p1) (a:=U) (c:=V) 0 cY rfl rfl rfl rfl (fun _=>rfl) rfl (fun _=>rfl) rfl rfl rfl underlying28 underlying28 underlying28 AU (CR type3) CM rfl (by decide) (by decide) (by decide) (by decide) (br.Ah a1) rfl bG rfl fun dq c0 c1 c3 c4 c5=>?_);refine zg 3 rfl ?_;obtain rfl:=oi cZ;exact Ay (bK _ _ ⟨a0,c0,c1,c3,rfl,rfl,Ar,c5,c4⟩) rfl
     ·refine JL.skip ?_;obtain rfl:=oi cX;exact Ay (bK _ _ ⟨a0,U,V,ag,rfl,rfl,Ar,bG,(br.Ah a1)⟩) rfl
   ·intro bL;refine D7 20 cn (fun c6 c7=>?_) (fun c6 c8=>?_)
    ·refine zg 1 rfl (AB (v:= .bool (!K.2.1)) rfl (fun ρ h=>Yl.not (h _ _ rfl)) ?_);refine zg 1 rfl ?_;obtain rfl:=oi c7;exact Ay (bL _ _ ⟨O,rfl,rfl,Ar,bq⟩) rfl
    ·refine zg 3 rfl ?_;obtain rfl:=oi c8;exact Ay (bL _ _ ⟨O,rfl,rfl,Ar,bq⟩) rfl
  ·refine JL.exit rfl ?_;obtain rfl:=oi cf;obtain rfl:=cb _ bu;exact Ay (ca _ _ ⟨O,U,V,ag,rfl,rfl,av,bq,br⟩) rfl
def f108(fuel:Nat)(p0:List Int):Option ((List Int)):= (De ([]:List Int) p0).bind fun K=> some K
theorem YQ{K:An}{c2:Nat}{p0:List Int}(Y:Al rI E K c2 p0){fuel:Nat}{r:(List Int)}(O:f108 fuel p0=some r):AL J 108 [sV K p0 c2] E [] (fun w E' B'=>∃(U:An) (V:Nat),w= sV U r V∧B'= []∧Al rI E' U V r):=by
 refine A4 func108 fun Q a7 cs H Z ag=>?_;unfold f108 at O;refine zg 6 rfl (K9 (pp:=rI) rfl rfl rfl underlying28 AU Z fun a8 a9 al am=>?_);obtain⟨bb,ap,av⟩:=bs O;refine zg 1 rfl (KZ (pp:=rI) 1 ap rfl rfl rfl rfl rfl rfl rfl underlying28 underlying28 AU (CR type3) CM rfl (by decide) (by decide) al Y am rfl fun a0 a1 bd a2 a3=>?_);refine zg 2 rfl (B5 1 a2 a3 rfl fun be a4 a5 a6=>?_);obtain rfl:=oi av;exact AD func108 rfl rfl (ag a4 rfl ⟨a0,a1,rfl,rfl,a5⟩ a6)
def f27(fuel:Nat)(p0:AI):Option ((AI)):= (De ([]:AI) p0).bind fun K=> some K
theorem Pk{K:An}{c2:Nat}{p0:AI}(Y:Al Bp E K c2 p0){fuel:Nat}{r:(AI)}(O:f27 fuel p0=some r):AL J 27 [sV K p0 c2] E [] (fun w E' B'=>∃(U:An) (V:Nat),w= sV U r V∧B'= []∧Al Bp E' U V r):=by
 refine A4 func27 fun Q a7 cs H Z ag=>?_;unfold f27 at O;refine zg 6 rfl (K9 (pp:=Bp) rfl rfl rfl underlying25 Cc Z fun a8 a9 al am=>?_);obtain⟨bb,ap,av⟩:=bs O;refine zg 1 rfl (KZ (pp:=Bp) 1 ap rfl rfl rfl rfl rfl rfl rfl underlying25 underlying25 Cc (CR type27) Er rfl (by decide) (by decide) al Y am rfl fun a0 a1 bd a2 a3=>?_);refine zg 2 rfl (B5 1 a2 a3 rfl fun be a4 a5 a6=>?_);obtain rfl:=oi av;exact AD func27 rfl rfl (ag a4 rfl ⟨a0,a1,rfl,rfl,a5⟩ a6)
def M6(fuel:Nat)(p0:List (List Int))(K:(List (List Int))×Int):Option (Bi ((List (List Int))×Int) ((List (List Int)))):= if K.2<(p0.length:Int) then((ix p0 K.2).bind fun O=> (f108 fuel O).bind fun U=> (ix K.1 K.2).bind fun Y=> (As (K.2+1)).bind fun V=> some (.more ((K.1.set (Int.toNat K.2) U),V))) else(some (.done K.1))
def f77(fuel:Nat)(p0:List (List Int)):Option ((List (List Int))):= (F5 (p0.length:Int) ([]:List Int)).bind fun K=> Option.bind (iter (M6 fuel p0) fuel (K,0)) fun O=> some O
theorem Td{Y:An}{c2:Nat}{p0:List (List Int)}(bo:Al (rL rI) E Y c2 p0){fuel:Nat}{r:(List (List Int))}(a5:f77 fuel p0=some r):AL J 77 [sV Y p0 c2] E [] (fun w E' B'=>∃(a6:An) (a7:Nat),w= sV a6 r a7∧B'= []∧Al (rL rI) E' a6 a7 r):=by
 refine A4 func77 fun Q ce cs H bp bq=>?_;unfold f77 at a5;refine zg 7 rfl (Bh underlying22 rfl rfl rfl ?_);obtain⟨br,bu,bv⟩:=bs a5;refine JS.make (pp:=(rL rI)) bu rfl rfl rfl rfl rfl underlying22 BV (CR type28) (by decide) Fp (by decide) ⟨_,_,rfl,Al.nil⟩ bp fun bw bx bz bA=>?_;obtain⟨a8,bB,bC⟩:=bs bv;refine zg 7 rfl (Br (fun L s=>∃(a0:LH) (Z:An) (ag:Nat) (a1:Seg),Jn E H a0 [a1] [(3,sV Z a8 ag)] L s (OL 28 (rL rI) a0 Z ag a1 a8)) ?_ ?_)
 ·rintro _ _ ⟨a0,Z,ag,a1,rfl,rfl,bD,bE,bF⟩;refine zg 5 rfl (B5 0 bF bE rfl fun cf bG bH bI=>?_);obtain rfl:=oi bC;exact AD func77 rfl rfl (bq (bD.Ac bG) rfl ⟨Z,ag,rfl,rfl,bH⟩ bI)
 ·intro bJ;refine JL.block (CN bB (fun L s K=>∃(al:LH) (U:An) (V:Nat) (am:Seg),Jn E H al [am] [(0,sV Y p0 c2),(3,sV U K.1 V),(4,iV K.2)] L s (OL 28 (rL rI) al U V am K.1)) ⟨E,(AZ bw),br.length,bx,rfl,rfl,Ar,bA,bz⟩ ?_);rintro _ _ K ⟨al,U,V,am,rfl,rfl,a2,a9,bb⟩ bK ⟨cg,a3⟩ bL;have bd:=a3;unfold M6 at bd;refine zg 5 rfl (Bh underlying22 rfl rfl rfl ?_);refine zg 2 rfl (AN bd (fun bM bN=>?_) (fun bM bO=>?_))
  ·obtain⟨bP,bQ,bR⟩:=bs bN;refine zg 8 rfl (B9 (bo.Ah a2) bQ underlying22 BV ?_);rintro bS bT _ ⟨bU,bV,rfl,bW⟩ bY;refine BW 0 bY CQ rfl rfl rfl ?_;obtain⟨O,bZ,b0⟩:=bs bR;refine BL (YQ bW bZ) rfl rfl (AR func108 rfl) a9 ?_;rintro _ b1 _ be ⟨ap,av,rfl,rfl,b2⟩ b3;obtain⟨ci,b4,b5⟩:=bs b0;refine I4 0 (bb.Ah be) b4 rfl rfl rfl rfl rfl rfl underlying22 BV ?_;rintro bi a4 f78 _ b6 ⟨ck,cm,rfl,cn⟩ co b7 b8 cp cq;refine JS.store (v:= sV ap O av) (off:=a4) 0 rfl rfl rfl b3 rfl rfl BV (by simp [Value.cells,CG]) b6 (by have:=b7;simp only [Rp.n,rK,rN,rB,rP,rL] at this;show _+1≤_;omega) fun b9=>?_;have ca:=b8 O [sV ap O av] ⟨_,_,rfl,b2⟩;have bn:(K.1.set (Int.toNat K.2) O).length=K.1.length:=List.length_set;refine Gi (L':= [(0,.slice Y p0.length c2),(3,.slice U ((K.1.set (Int.toNat K.2) O)).length V),(4,iV K.2),(8,iV K.2),(9,.slice Y p0.length c2),(10,iV (p0.length:Int)),(11,.bool (decide (K.2<(p0.length:Int)))),(14,.slice U ((K.1.set (Int.toNat K.2) O)).length V),(15,iV K.2),(16,.slice Y p0.length c2),(17,iV K.2),(18,pV bS bT),(19,.slice bU bP.length bV),(20,.slice ap O.length av),(21,pV bi a4)]) ⟨rfl,by rw [bn];rfl,rfl,rfl,rfl,rfl,rfl,by rw [bn];rfl,rfl,rfl,rfl,rfl,rfl,rfl,rfl,trivial⟩ ?_;obtain⟨cb,cc,cd⟩:=bs b5;refine zg 4 rfl (Be cc rfl rfl rfl ?_);refine zg 2 rfl ?_;obtain rfl:=oi cd;exact Ay (bL _ _ ((K.1.set (Int.toNat K.2) O),cb) ⟨b1,U,V,[(bi,.cells (AX f78 a4 [sV ap O av]) 28 (0,0))],rfl,rfl,(a2.Ac be),b9,ca⟩ a3) rfl
  ·refine JL.exit rfl ?_;obtain rfl:=oi bO;obtain rfl:=bK _ a3;exact Ay (bJ _ _ ⟨al,U,V,am,rfl,rfl,a2,a9,bb⟩) rfl
def f26(fuel:Nat)(p0:A1):Option ((A1)):= (f77 fuel p0.1).bind fun K=> (f77 fuel p0.2).bind fun O=> some (K,O)
theorem Tp{ag:An}{c2:Nat}{am:An}{ap:Nat}{p0:A1}(a8:Al (rL rI) E ag c2 p0.1)(a9:Al (rL rI) E am ap p0.2){fuel:Nat}{r:(A1)}(av:f26 fuel p0=some r):AL J 26 [.agg #[sV ag p0.1 c2,sV am p0.2 ap]] E [] (fun w E' B'=>∃(a0:An) (a1:Nat) (a2:An) (a3:Nat),w= .agg #[sV a0 r.1 a1,sV a2 r.2 a3]∧B'= []∧Al (rL rI) E' a0 a1 r.1∧Al (rL rI) E' a2 a3 r.2):=by
 refine A4 func26 fun Q bz cs H bb bd=>?_;unfold f26 at av;refine zg 2 rfl (B4 bb fun bA bB al a4 be=>?_);refine Cz be GW fun bC bi=>?_;refine zg 2 rfl (CZ 5 fun ht=>?_);refine Ca 0 ht underlying24 BS rfl rfl rfl rfl (Co 1 ht 0 a4 Ct rfl rfl rfl rfl ?_);refine Ca 3 ht underlying24 BS rfl rfl rfl rfl (Co 4 ht 1 a4 Ct rfl rfl rfl rfl ?_);obtain⟨Y,bn,bo⟩:=bs av;refine JG.call (i:=2) (vs:= [sV ag p0.1 c2]) (Td (a8.Ah al) bn) (by decide+kernel) rfl rfl rfl (AR func77 rfl) rfl bi ?_;rintro _ bD _ a5 ⟨K,O,rfl,rfl,bp⟩ bq;refine Cg [5,6,7] ?_;obtain⟨Z,br,bu⟩:=bs bo;refine BL (Td (a9.Ah (al.Ac a5)) br) rfl rfl (AR func77 rfl) bq ?_;rintro _ bE _ a6 ⟨U,V,rfl,rfl,bv⟩ bw;refine AB (v:= .agg #[sV K Y O,sV U Z V]) rfl (fun ρ h=>CY [(0,1),(1,1)] h GW underlying24 ⟨rfl,Bo type22,rfl,Bo type22,trivial⟩ rfl rfl) (BM 2 bw BC fun a7=>?_);refine JL.done ?_;obtain rfl:=oi bu;refine JL.ret (v:= .agg #[sV K Y O,sV U Z V]) rfl rfl (Cd.list func26 rfl (vs:= [.agg #[sV K Y O,sV U Z V]]) ⟨⟨_,rfl,Ld.many (vs:= [sV K Y O,sV U Z V]) BY BC (ED (off:=0) 2 a7 rfl rfl)⟩,trivial⟩) (Gx 2 a7 rfl fun bx=>?_);exact bd ((al.Ac a5).Ac a6) rfl ⟨K,O,U,V,rfl,rfl,(bp.Ah a6),bv⟩ bx
def NA(fuel:Nat)(p0:List (List Int))(K:Int):Option (Bi Int ((Bool)⊕(Unit))):= Option.bind (if K<(p0.length:Int) then(some (decide (K<20))) else(some false)) fun O=> if O=true then((ix p0 K).bind fun U=> if 20<(U.length:Int) then(some (.done (Sum.inl true))) else((As (K+1)).bind fun V=> some (.more V))) else(some (.done (Sum.inr ())))
def f76(fuel:Nat)(p0:List (List Int)):Option Bool:= Option.bind (iter (NA fuel p0) fuel 0) fun K=> Sum.elim (fun r=>some r) (fun O=> some (decide (20<(p0.length:Int)))) K
theorem Tc{K:An}{c2:Nat}{p0:List (List Int)}(a7:Al (rL rI) E K c2 p0){fuel:Nat}{r:Bool}(am:f76 fuel p0=some r):AL J 76 [sV K p0 c2] E [] (fun w E' B'=>w= .bool r∧B'= []):=by
 refine A4 func76 fun Q bL cs H a8 ap=>?_;unfold f76 at am;obtain⟨av,a9,a0⟩:=bs am;refine zg 9 rfl (Br (fun L s=>∃(a1:Unit) (a2:LH),av=Sum.inr a1∧Jm E H a2 [] [(0,sV K p0 c2)] L s) ?_ ?_)
 ·rintro _ _ ⟨a1,a2,rfl,rfl,rfl,bb,bd⟩;have be:=elim_inr a0;refine zg 3 rfl (Bh underlying22 rfl rfl rfl ?_);refine zg 3 rfl ?_;obtain rfl:=oi be;exact AD func76 rfl rfl (ap bb rfl ⟨rfl,rfl⟩ bd)
 ·intro bi;refine JL.block (Cy a9 (fun O=> []) (fun O=> [(0,sV K p0 c2),(3,iV O)]) Ar a8 ?_);rintro O Z U a3 a4 ⟨bM,V⟩ bn;have a5:=V;unfold NA at a5;refine zg 5 rfl (Bh underlying22 rfl rfl rfl ?_);obtain⟨bo,bp,bq⟩:=bs a5;refine zg 2 rfl (Et [] (fun L s=>∃(ag:LH),Jm Z H ag [] [(0,sV K p0 c2),(3,iV O),(11,.bool bo)] L s) ?_ ?_)
  ·rintro _ _ ⟨ag,rfl,rfl,Y,al⟩;refine JL.done (BF bq (fun br bu=>?_) (fun br bv=>?_))
   ·obtain⟨bN,bw,bx⟩:=bs bu;refine zg 7 rfl (B9 (a7.Ah (U.Ac Y)) bw underlying22 BV ?_);rintro bO bP _ ⟨bQ,bR,rfl,bS⟩ bz;refine BW 0 bz CQ rfl rfl rfl (Bh underlying28 rfl rfl rfl ?_);refine zg 2 rfl (AN bx (fun bA bB=>?_) (fun bA bC=>?_))
    ·refine zg 4 rfl ?_;obtain rfl:=oi bB;obtain rfl:=a4 _ V;have bD:=elim_inl a0;obtain rfl:=oi bD;exact AD func76 rfl rfl (ap (U.Ac Y) rfl ⟨rfl,rfl⟩ al)
    ·obtain⟨bE,bF,bG⟩:=bs bC;refine zg 4 rfl (Be bF rfl rfl rfl ?_);refine zg 2 rfl ?_;obtain rfl:=oi bG;exact bn bE (U.Ac Y) al rfl V
   ·refine JL.exit rfl ?_;obtain rfl:=oi bv;have bH:av=(Sum.inr ()):=(a4 _ V).symm;exact Ay (bi _ _ ⟨(),ag,bH,rfl,rfl,(U.Ac Y),al⟩) rfl
  ·intro a6;refine D7 8 bp (fun bI bJ=>?_) (fun bI bK=>?_)
   ·refine zg 3 rfl ?_;obtain rfl:=oi bJ;exact Ay (a6 _ _ ⟨Z,rfl,rfl,Ar,a3⟩) rfl
   ·refine zg 3 rfl ?_;obtain rfl:=oi bK;exact Ay (a6 _ _ ⟨Z,rfl,rfl,Ar,a3⟩) rfl
def f21(fuel:Nat)(p0:A1):Option Bool:= (f76 fuel p0.1).bind fun K=> Option.bind (if K=true then(some true) else((f76 fuel p0.2).bind fun O=> some O)) fun U=> some U
theorem ay{U:An}{c2:Nat}{V:An}{Y:Nat}{p0:A1}(ap:Al (rL rI) E U c2 p0.1)(av:Al (rL rI) E V Y p0.2){fuel:Nat}{r:Bool}(Z:f21 fuel p0=some r):AL J 21 [.agg #[sV U p0.1 c2,sV V p0.2 Y]] E [] (fun w E' B'=>w= .bool r∧B'= []):=by
 refine A4 func21 fun Q bq cs H a0 a1=>?_;unfold f21 at Z;refine zg 2 rfl (B4 a0 fun br bu K ag a2=>?_);refine zg 4 rfl (JL.fl 0 ag underlying24 BS Ct ?_);obtain⟨bv,a3,a4⟩:=bs Z;refine BD (Tc (ap.Ah K) a3) rfl rfl (AR func76 rfl) a2 fun bw O al=>?_;obtain⟨a5,a6,a7⟩:=bs a4;refine zg 1 rfl (Dq 8 1 [] [(10,.bool a5)] (fun bx a8 a9=>?_) (fun am=>?_))
 ·refine zg 2 rfl ?_;obtain rfl:=oi a7;exact AD func21 rfl rfl (a1 ((K.Ac O).Ac a8) rfl ⟨rfl,rfl⟩ a9)
 ·refine DO 6 a6 (fun bb bd=>?_) (fun bb be=>?_)
  ·refine zg 4 rfl ?_;obtain rfl:=oi bd;exact am Ar al rfl
  ·refine JL.fl 1 (ag.Ah O) underlying24 BS Ct ?_;obtain⟨bz,bi,bn⟩:=bs be;refine BD (Tc (av.Ah (K.Ac O)) bi) rfl rfl (AR func76 rfl) al fun bA bo bp=>zg 1 rfl ?_;obtain rfl:=oi bn;exact am bo bp rfl
def MK(fuel:Nat)(p0:A1)(p1:List Int)(K:Int):Option (Bi Int ((Int)⊕(Unit))):= if K<(p1.length:Int) then((ix p1 K).bind fun O=> (As ((p0.1.length:Int) - 1)).bind fun U=> (f104 fuel O 0 U).bind fun V=> if(!V)=true then(some (.done (Sum.inl 3))) else(Option.bind (if 0<K then((ix p1 K).bind fun Y=> (As (K - 1)).bind fun Z=> (ix p1 Z).bind fun ag=> some (decide (Y≤ag))) else(some false)) fun al=> if al=true then(some (.done (Sum.inl 5))) else((As (K+1)).bind fun am=> some (.more am)))) else(some (.done (Sum.inr ())))
def f114(fuel:Nat)(p0:A1)(p1:List Int):Option Int:= if(p1.length:Int)=0 then(some 7) else(if 3<(p1.length:Int) then(some 6) else(Option.bind (iter (MK fuel p0 p1) fuel 0) fun K=> Sum.elim (fun r=>some r) (fun O=> some 0) K))
theorem ZF{a3:An}{c2:Nat}{a4:An}{a5:Nat}{ag:An}{al:Nat}{p0:A1}{p1:List Int}(ck:Al (rL rI) E a3 c2 p0.1)(cm:Al (rL rI) E a4 a5 p0.2)(am:Al rI E ag al p1){fuel:Nat}{r:Int}(a6:f114 fuel p0 p1=some r):AL J 114 [.agg #[sV a3 p0.1 c2,sV a4 p0.2 a5],sV ag p1 al] E [] (fun w E' B'=>w=iV r∧B'= []):=by
 refine A4 func114 fun Q cn cs H bo U=>?_;unfold f114 at a6;refine zg 2 rfl (B4 bo fun a7 bp K bq ap=>?_);refine zg 6 rfl (Bh underlying28 rfl rfl rfl ?_);refine zg 2 rfl (AN a6 (fun br bu=>?_) (fun br bv=>?_))
 ·refine zg 4 rfl ?_;obtain rfl:=oi bu;exact AD func114 rfl rfl (U K rfl ⟨rfl,rfl⟩ ap)
 ·refine zg 5 rfl (Bh underlying28 rfl rfl rfl ?_);refine zg 2 rfl (AN bv (fun bw bx=>?_) (fun bw bz=>?_))
  ·refine zg 4 rfl ?_;obtain rfl:=oi bx;exact AD func114 rfl rfl (U K rfl ⟨rfl,rfl⟩ ap)
  ·obtain⟨a8,bA,av⟩:=bs bz;refine zg 6 rfl (Br (fun L s=>∃(a9:Unit) (bb:LH),a8=Sum.inr a9∧Jm bp H bb [] [] L s) ?_ ?_)
   ·rintro _ _ ⟨a9,bb,rfl,rfl,rfl,bB,bC⟩;have bD:=elim_inr av;refine zg 4 rfl ?_;obtain rfl:=oi bD;exact AD func114 rfl rfl (U (K.Ac bB) rfl ⟨rfl,rfl⟩ bC)
   ·intro bE;refine JL.block (Cy bA (fun V=> []) (fun V=> [(1,sV ag p1 al),(2,pV a7 0),(5,iV V)]) Ar ap ?_);rintro V bF O bd a0 ⟨co,Y⟩ bG;have be:=Y;unfold MK at be;refine zg 5 rfl (Bh underlying28 rfl rfl rfl ?_);refine zg 2 rfl (AN be (fun bH bI=>?_) (fun bH bJ=>?_))
    ·refine zg 5 rfl (CZ 8 fun ht=>?_);refine A2 ht rfl [0,1] rfl ?_;obtain⟨cp,bK,bL⟩:=bs bI;refine Cv 2 (am.Ah (K.Ac O)) bK ht underlying28 AU ?_;rintro cq cr _ rfl bM;refine Co 3 ht 0 bM Bv rfl rfl rfl rfl (Ca 4 ht underlying24 BS rfl rfl rfl rfl ?_);refine Co 5 ht 0 (bq.Ah O) Ct rfl rfl rfl rfl (Bx 6 ht rfl rfl (fun ρ h s' hs=>Yl.len rfl underlying22 (h _ _ rfl)) ?_);obtain⟨ct,bN,bO⟩:=bs bL;refine Bx 7 ht rfl rfl (fun ρ h s' hs=>C5 (h _ _ rfl) (h _ _ rfl) bN) (Cg [8,9] ?_);obtain⟨bP,bQ,bR⟩:=bs bO;refine BD (Lc bQ) rfl rfl Kl bd fun bS Z a1=>AB (v:= .bool (!bP)) rfl (fun ρ h=>Yl.not (h _ _ rfl)) (JL.done ?_);refine BF bR (fun bT bU=>?_) (fun bT bV=>?_)
     ·refine zg 4 rfl ?_;obtain rfl:=oi bU;obtain rfl:=a0 _ Y;have bW:=elim_inl av;obtain rfl:=oi bW;exact AD func114 rfl rfl (U ((K.Ac O).Ac Z) rfl ⟨rfl,rfl⟩ a1)
     ·refine zg 2 rfl (CZ 14 fun ht=>?_);refine A2 ht rfl [0,1,2] rfl ?_;obtain⟨bY,bi,bZ⟩:=bs bV;refine EO 0 #[true,true,true,true,true,true,true,true,true,true,true,true,true,true] (fun L s=>L= [(1,sV ag p1 al),(2,pV a7 0),(5,iV V),(41,.bool bY)]∧s=Ao bS H [[]]) ?_ ?_
      ·rintro _ _ ⟨rfl,rfl⟩;refine AY.fin (by decide+kernel) (BF bZ (fun b0 b1=>?_) (fun b0 b2=>?_))
       ·refine zg 4 rfl ?_;obtain rfl:=oi b1;obtain rfl:=a0 _ Y;have b3:=elim_inl av;obtain rfl:=oi b3;exact AD func114 rfl rfl (U ((K.Ac O).Ac Z) rfl ⟨rfl,rfl⟩ a1)
       ·obtain⟨b4,b5,b6⟩:=bs b2;refine zg 4 rfl (Be b5 rfl rfl rfl ?_);refine zg 2 rfl ?_;obtain rfl:=oi b6;exact bG b4 (O.Ac Z) a1 rfl Y
      ·intro bn;refine FI (q:=0<V) (i:=30) rfl (fun a2=>?_) (fun a2=>?_)
       ·have b7:=ip bi a2;refine A2 ht rfl [3,4] rfl ?_;obtain⟨cu,b8,b9⟩:=bs b7;refine Cv 5 (am.Ah ((K.Ac O).Ac Z)) b8 ht underlying28 AU ?_;rintro cv cw _ rfl ca;refine Co 6 ht 0 ca Bv rfl rfl rfl rfl ?_;refine A2 ht rfl [7,8] rfl ?_;obtain⟨cy,cb,cc⟩:=bs b9;refine Bx 9 ht rfl rfl (fun ρ h s' hs=>C5 (h _ _ rfl) (h _ _ rfl) cb) ?_;obtain⟨cz,cd,ce⟩:=bs cc;refine Cv 10 (am.Ah ((K.Ac O).Ac Z)) cd ht underlying28 AU ?_;rintro cA cB _ rfl cf;refine Co 11 ht 0 cf Bv rfl rfl rfl rfl ?_;refine A2 ht rfl [12,13] rfl ?_;obtain rfl:=oi ce;refine C4 ?_ (bn _ _ ⟨rfl,rfl⟩);exact⟨rfl,rfl,rfl,rfl,trivial⟩
       ·have cg:=im bi a2;refine A2 ht rfl [3,4,5,6,7,8,9,10,11,12,13] rfl ?_;obtain rfl:=oi cg;refine C4 ?_ (bn _ _ ⟨rfl,rfl⟩);exact⟨rfl,rfl,rfl,rfl,trivial⟩
    ·refine JL.exit rfl ?_;obtain rfl:=oi bJ;have ci:a8=(Sum.inr ()):=(a0 _ Y).symm;exact Ay (bE _ _ ⟨(),bF,ci,rfl,rfl,O,bd⟩) rfl
def MS(fuel:Nat)(p0:A1)(p1:Int)(p2:List Int)(K:Int):Option (Bi Int ((Int)⊕(Unit))):= if K<(p2.length:Int) then((ix p2 K).bind fun O=> (As ((p0.1.length:Int) - 1)).bind fun U=> (f104 fuel O 0 U).bind fun V=> if(!V)=true then(some (.done (Sum.inl 3))) else((ix p2 K).bind fun Y=> if Y=p1 then(some (.done (Sum.inl 8))) else(Option.bind (if 0<K then((ix p2 K).bind fun Z=> (As (K - 1)).bind fun ag=> (ix p2 ag).bind fun al=> some (decide (Z≤al))) else(some false)) fun am=> if am=true then(some (.done (Sum.inl 5))) else((As (K+1)).bind fun ap=> some (.more ap))))) else(some (.done (Sum.inr ())))
def f115(fuel:Nat)(p0:A1)(p1:Int)(p2:List Int):Option Int:= if 3<(p2.length:Int) then(some 6) else(Option.bind (iter (MS fuel p0 p1 p2) fuel 0) fun K=> Sum.elim (fun r=>some r) (fun O=> some 0) K)
theorem Y1{a2:An}{c2:Nat}{a3:An}{a4:Nat}{ag:An}{al:Nat}{p0:A1}{p1:Int}{p2:List Int}(cp:Al (rL rI) E a2 c2 p0.1)(cq:Al (rL rI) E a3 a4 p0.2)(am:Al rI E ag al p2){fuel:Nat}{r:Int}(a5:f115 fuel p0 p1 p2=some r):AL J 115 [.agg #[sV a2 p0.1 c2,sV a3 p0.2 a4],iV p1,sV ag p2 al] E [] (fun w E' B'=>w=iV r∧B'= []):=by
 refine A4 func115 fun Q cr cs H bo Y=>?_;unfold f115 at a5;refine zg 2 rfl (B4 bo fun a6 bp O bq a7=>?_);refine zg 6 rfl (Bh underlying28 rfl rfl rfl ?_);refine zg 2 rfl (AN a5 (fun br bu=>?_) (fun br bv=>?_))
 ·refine zg 4 rfl ?_;obtain rfl:=oi bu;exact AD func115 rfl rfl (Y O rfl ⟨rfl,rfl⟩ a7)
 ·obtain⟨a8,bw,ap⟩:=bs bv;refine zg 6 rfl (Br (fun L s=>∃(a9:Unit) (bb:LH),a8=Sum.inr a9∧Jm bp H bb [] [] L s) ?_ ?_)
  ·rintro _ _ ⟨a9,bb,rfl,rfl,rfl,bx,bz⟩;have bA:=elim_inr ap;refine zg 4 rfl ?_;obtain rfl:=oi bA;exact AD func115 rfl rfl (Y (O.Ac bx) rfl ⟨rfl,rfl⟩ bz)
  ·intro bB;refine JL.block (Cy bw (fun Z=> []) (fun Z=> [(1,iV p1),(2,sV ag p2 al),(3,pV a6 0),(7,iV Z)]) Ar a7 ?_);rintro Z bC K bd av ⟨ct,V⟩ bD;have be:=V;unfold MS at be;refine zg 5 rfl (Bh underlying28 rfl rfl rfl ?_);refine zg 2 rfl (AN be (fun bE bF=>?_) (fun bE bG=>?_))
   ·refine zg 5 rfl (CZ 8 fun ht=>?_);refine A2 ht rfl [0,1] rfl ?_;obtain⟨cu,bH,bI⟩:=bs bF;refine Cv 2 (am.Ah (O.Ac K)) bH ht underlying28 AU ?_;rintro cv cw _ rfl bJ;refine Co 3 ht 0 bJ Bv rfl rfl rfl rfl (Ca 4 ht underlying24 BS rfl rfl rfl rfl ?_);refine Co 5 ht 0 (bq.Ah K) Ct rfl rfl rfl rfl (Bx 6 ht rfl rfl (fun ρ h s' hs=>Yl.len rfl underlying22 (h _ _ rfl)) ?_);obtain⟨cy,bK,bL⟩:=bs bI;refine Bx 7 ht rfl rfl (fun ρ h s' hs=>C5 (h _ _ rfl) (h _ _ rfl) bK) (Cg [8,9] ?_);obtain⟨bM,bN,bO⟩:=bs bL;refine BD (Lc bN) rfl rfl Kl bd fun bP U a0=>AB (v:= .bool (!bM)) rfl (fun ρ h=>Yl.not (h _ _ rfl)) (JL.done ?_);refine BF bO (fun bQ bR=>?_) (fun bQ bS=>?_)
    ·refine zg 4 rfl ?_;obtain rfl:=oi bR;obtain rfl:=av _ V;have bT:=elim_inl ap;obtain rfl:=oi bT;exact AD func115 rfl rfl (Y ((O.Ac K).Ac U) rfl ⟨rfl,rfl⟩ a0)
    ·obtain⟨cz,bU,bV⟩:=bs bS;refine zg 6 rfl (B9 (am.Ah ((O.Ac K).Ac U)) bU underlying28 AU ?_);rintro cA cB _ rfl bW;refine BW 0 bW Bv rfl rfl rfl (zg 3 rfl ?_);refine AN bV (fun bY bZ=>?_) (fun bY b0=>?_)
     ·refine zg 4 rfl ?_;obtain rfl:=oi bZ;obtain rfl:=av _ V;have b1:=elim_inl ap;obtain rfl:=oi b1;exact AD func115 rfl rfl (Y ((O.Ac K).Ac U) rfl ⟨rfl,rfl⟩ a0)
     ·refine zg 2 rfl (CZ 14 fun ht=>?_);refine A2 ht rfl [0,1,2] rfl ?_;obtain⟨b2,bi,b3⟩:=bs b0;refine EO 0 #[true,true,true,true,true,true,true,true,true,true,true,true,true,true] (fun L s=>L= [(1,iV p1),(2,sV ag p2 al),(3,pV a6 0),(7,iV Z),(46,.bool b2)]∧s=Ao bP H [[]]) ?_ ?_
      ·rintro _ _ ⟨rfl,rfl⟩;refine AY.fin (by decide+kernel) (BF b3 (fun b4 b5=>?_) (fun b4 b6=>?_))
       ·refine zg 4 rfl ?_;obtain rfl:=oi b5;obtain rfl:=av _ V;have b7:=elim_inl ap;obtain rfl:=oi b7;exact AD func115 rfl rfl (Y ((O.Ac K).Ac U) rfl ⟨rfl,rfl⟩ a0)
       ·obtain⟨b8,b9,ca⟩:=bs b6;refine zg 4 rfl (Be b9 rfl rfl rfl ?_);refine zg 2 rfl ?_;obtain rfl:=oi ca;exact bD b8 (K.Ac U) a0 rfl V
      ·intro bn;refine FI (q:=0<Z) (i:=35) rfl (fun a1=>?_) (fun a1=>?_)
       ·have cb:=ip bi a1;refine A2 ht rfl [3,4] rfl ?_;obtain⟨cC,cc,cd⟩:=bs cb;refine Cv 5 (am.Ah ((O.Ac K).Ac U)) cc ht underlying28 AU ?_;rintro cD cE _ rfl ce;refine Co 6 ht 0 ce Bv rfl rfl rfl rfl ?_;refine A2 ht rfl [7,8] rfl ?_;obtain⟨cF,cf,cg⟩:=bs cd;refine Bx 9 ht rfl rfl (fun ρ h s' hs=>C5 (h _ _ rfl) (h _ _ rfl) cf) ?_;obtain⟨cG,ci,ck⟩:=bs cg;refine Cv 10 (am.Ah ((O.Ac K).Ac U)) ci ht underlying28 AU ?_;rintro cH cI _ rfl cm;refine Co 11 ht 0 cm Bv rfl rfl rfl rfl ?_;refine A2 ht rfl [12,13] rfl ?_;obtain rfl:=oi ck;refine C4 ?_ (bn _ _ ⟨rfl,rfl⟩);exact⟨rfl,rfl,rfl,rfl,rfl,trivial⟩
       ·have cn:=im bi a1;refine A2 ht rfl [3,4,5,6,7,8,9,10,11,12,13] rfl ?_;obtain rfl:=oi cn;refine C4 ?_ (bn _ _ ⟨rfl,rfl⟩);exact⟨rfl,rfl,rfl,rfl,rfl,trivial⟩
   ·refine JL.exit rfl ?_;obtain rfl:=oi bG;have co:a8=(Sum.inr ()):=(av _ V).symm;exact Ay (bB _ _ ⟨(),bC,co,rfl,rfl,K,bd⟩) rfl
def Nh(fuel:Nat)(p0:A1)(K:Int):Option (Bi Int ((Int)⊕(Unit))):= if K<(p0.1.length:Int) then((ix p0.1 K).bind fun V=> (f114 fuel p0 V).bind fun O=> if O≠0 then(some (.done (Sum.inl O))) else((ix p0.2 K).bind fun Y=> (f115 fuel p0 K Y).bind fun U=> if U≠0 then(some (.done (Sum.inl U))) else((As (K+1)).bind fun Z=> some (.more Z)))) else(some (.done (Sum.inr ())))
def f68(fuel:Nat)(p0:A1):Option Int:= if(p0.1.length:Int)=0 then(some 7) else(if 8<(p0.1.length:Int) then(some 6) else(if(p0.2.length:Int)≠(p0.1.length:Int) then(some 9) else(Option.bind (iter (Nh fuel p0) fuel 0) fun K=> Sum.elim (fun r=>some r) (fun O=> some 0) K)))
theorem ao{a1:An}{c2:Nat}{a2:An}{a3:Nat}{p0:A1}(al:Al (rL rI) E a1 c2 p0.1)(am:Al (rL rI) E a2 a3 p0.2){fuel:Nat}{r:Int}(a4:f68 fuel p0=some r):AL J 68 [.agg #[sV a1 p0.1 c2,sV a2 p0.2 a3]] E [] (fun w E' B'=>w=iV r∧B'= []):=by
 refine A4 func68 fun Q ca cs H bi Y=>?_;unfold f68 at a4;refine zg 2 rfl (B4 bi fun bn bo O U ag=>?_);refine zg 5 rfl (JL.fl 0 U underlying24 BS Ct ?_);refine Bh underlying22 rfl rfl rfl (zg 2 rfl ?_);refine AN a4 (fun bp bq=>?_) (fun bp br=>?_)
 ·refine zg 4 rfl ?_;obtain rfl:=oi bq;exact AD func68 rfl rfl (Y O rfl ⟨rfl,rfl⟩ ag)
 ·refine zg 4 rfl (JL.fl 0 U underlying24 BS Ct ?_);refine Bh underlying22 rfl rfl rfl (zg 2 rfl ?_);refine AN br (fun bu bv=>?_) (fun bu bw=>?_)
  ·refine zg 4 rfl ?_;obtain rfl:=oi bv;exact AD func68 rfl rfl (Y O rfl ⟨rfl,rfl⟩ ag)
  ·refine zg 4 rfl (JL.fl 1 U underlying24 BS Ct ?_);refine Bh underlying22 rfl rfl rfl (JL.fl 0 U underlying24 BS Ct ?_);refine Bh underlying22 rfl rfl rfl (zg 2 rfl ?_);refine AN bw (fun bx bz=>?_) (fun bx bA=>?_)
   ·refine zg 4 rfl ?_;obtain rfl:=oi bz;exact AD func68 rfl rfl (Y O rfl ⟨rfl,rfl⟩ ag)
   ·obtain⟨a5,bB,ap⟩:=bs bA;refine zg 6 rfl (Br (fun L s=>∃(a6:Unit) (a7:LH),a5=Sum.inr a6∧Jm bo H a7 [] [] L s) ?_ ?_)
    ·rintro _ _ ⟨a6,a7,rfl,rfl,rfl,bC,bD⟩;have bE:=elim_inr ap;refine zg 4 rfl ?_;obtain rfl:=oi bE;exact AD func68 rfl rfl (Y (O.Ac bC) rfl ⟨rfl,rfl⟩ bD)
    ·intro bF;refine JL.block (Cy bB (fun av=> []) (fun av=> [(1,pV bn 0),(3,iV av)]) Ar ag ?_);rintro av bG K a8 a0 ⟨cb,Z⟩ bH;have a9:=Z;unfold Nh at a9;refine zg 4 rfl (JL.fl 0 (U.Ah K) underlying24 BS Ct ?_);refine Bh underlying22 rfl rfl rfl (zg 2 rfl ?_);refine AN a9 (fun bI bJ=>?_) (fun bI bK=>?_)
     ·refine zg 5 rfl (CZ 6 fun ht=>?_);refine Fb 0 ht (U.Ah K) BY BC rfl rfl rfl (Ca 1 ht underlying24 BS rfl rfl rfl rfl ?_);refine Co 2 ht 0 (U.Ah K) Ct rfl rfl rfl rfl (Ch 3 ht rfl rfl ?_);obtain⟨cc,bL,bM⟩:=bs bJ;refine Cv 4 (al.Ah (O.Ac K)) bL ht underlying22 BV ?_;rintro cd ce _ ⟨cf,cg,rfl,bN⟩ bO;refine Co 5 ht 0 bO CQ rfl rfl rfl rfl (Cg [6,7] ?_);obtain⟨ci,bP,bQ⟩:=bs bM;refine BD (ZF (al.Ah (O.Ac K)) (am.Ah (O.Ac K)) bN bP) rfl rfl (AR func114 rfl) a8 fun ck V bb=>zg 7 rfl (AN bQ (fun bR bS=>?_) (fun bR bT=>?_))
      ·refine zg 5 rfl ?_;obtain rfl:=oi bS;obtain rfl:=a0 _ Z;have bU:=elim_inl ap;obtain rfl:=oi bU;exact AD func68 rfl rfl (Y ((O.Ac K).Ac V) rfl ⟨rfl,rfl⟩ bb)
      ·refine zg 2 rfl (CZ 7 fun ht=>?_);refine Fb 0 ht (U.Ah (K.Ac V)) BY BC rfl rfl rfl (Ch 1 ht rfl rfl ?_);refine Ca 2 ht underlying24 BS rfl rfl rfl rfl (Co 3 ht 1 (U.Ah (K.Ac V)) Ct rfl rfl rfl rfl ?_);refine Ch 4 ht rfl rfl ?_;obtain⟨cm,bV,bW⟩:=bs bT;refine Cv 5 (am.Ah ((O.Ac K).Ac V)) bV ht underlying22 BV ?_;rintro cn co _ ⟨cp,cq,rfl,bY⟩ bZ;refine Co 6 ht 0 bZ CQ rfl rfl rfl rfl (Cg [7,8] ?_);obtain⟨cr,b0,b1⟩:=bs bW;refine BD (Y1 (al.Ah ((O.Ac K).Ac V)) (am.Ah ((O.Ac K).Ac V)) bY b0) rfl rfl (AR func115 rfl) bb fun ct bd be=>zg 7 rfl (AN b1 (fun b2 b3=>?_) (fun b2 b4=>?_))
       ·refine zg 5 rfl ?_;obtain rfl:=oi b3;obtain rfl:=a0 _ Z;have b5:=elim_inl ap;obtain rfl:=oi b5;exact AD func68 rfl rfl (Y (((O.Ac K).Ac V).Ac bd) rfl ⟨rfl,rfl⟩ be)
       ·obtain⟨b6,b7,b8⟩:=bs b4;refine zg 4 rfl (Be b7 rfl rfl rfl ?_);refine zg 2 rfl ?_;obtain rfl:=oi b8;exact bH b6 ((K.Ac V).Ac bd) be rfl Z
     ·refine JL.exit rfl ?_;obtain rfl:=oi bK;have b9:a5=(Sum.inr ()):=(a0 _ Z).symm;exact Ay (bF _ _ ⟨(),bG,b9,rfl,rfl,K,a8⟩) rfl
def Nb(fuel:Nat)(p0:A1)(p1:AI)(K:Int):Option (Bi Int ((Int)⊕(Unit))):= if K<(p1.length:Int) then((ix p1 K).bind fun O=> (f104 fuel O.1 0 6).bind fun U=> if(!U)=true then(some (.done (Sum.inl 1))) else(Option.bind (if 0<K then((ix p1 K).bind fun V=> (As (K - 1)).bind fun Y=> (ix p1 Y).bind fun Z=> some (decide (V.1<Z.1))) else(some false)) fun ag=> if ag=true then(some (.done (Sum.inl 5))) else((ix p1 K).bind fun al=> (As ((p0.1.length:Int) - 1)).bind fun am=> (f104 fuel al.2 0 am).bind fun ap=> if(!ap)=true then(some (.done (Sum.inl 3))) else((As (K+1)).bind fun av=> some (.more av))))) else(some (.done (Sum.inr ())))
def f70(fuel:Nat)(p0:A1)(p1:AI):Option Int:= (f68 fuel p0).bind fun K=> if K≠0 then(some K) else(if 4<(p1.length:Int) then(some 6) else(Option.bind (iter (Nb fuel p0 p1) fuel 0) fun O=> Sum.elim (fun r=>some r) (fun U=> some 0) O))
theorem Tb{a4:An}{c2:Nat}{a5:An}{a6:Nat}{al:An}{am:Nat}{p0:A1}{p1:AI}(bu:Al (rL rI) E a4 c2 p0.1)(bv:Al (rL rI) E a5 a6 p0.2)(ap:Al Bp E al am p1){fuel:Nat}{r:Int}(a7:f70 fuel p0 p1=some r):AL J 70 [.agg #[sV a4 p0.1 c2,sV a5 p0.2 a6],sV al p1 am] E [] (fun w E' B'=>w=iV r∧B'= []):=by
 refine A4 func70 fun Q cF cs H bw Y=>?_;unfold f70 at a7;refine zg 2 rfl (B4 bw fun a8 cG K a9 bx=>?_);refine zg 5 rfl (BQ a9 BY BC rfl rfl ?_);obtain⟨cH,bz,bA⟩:=bs a7;refine BD (ao (bu.Ah K) (bv.Ah K) bz) rfl rfl (AR func68 rfl) bx fun bB O a1=>zg 7 rfl (AN bA (fun bC bD=>?_) (fun bC bE=>?_))
 ·refine zg 5 rfl ?_;obtain rfl:=oi bD;exact AD func70 rfl rfl (Y (K.Ac O) rfl ⟨rfl,rfl⟩ a1)
 ·refine zg 5 rfl (Bh underlying25 rfl rfl rfl ?_);refine zg 2 rfl (AN bE (fun bF bG=>?_) (fun bF bH=>?_))
  ·refine zg 4 rfl ?_;obtain rfl:=oi bG;exact AD func70 rfl rfl (Y (K.Ac O) rfl ⟨rfl,rfl⟩ a1)
  ·obtain⟨bb,bI,av⟩:=bs bH;refine zg 6 rfl (Br (fun L s=>∃(bd:Unit) (be:LH),bb=Sum.inr bd∧Jm bB H be [] [] L s) ?_ ?_)
   ·rintro _ _ ⟨bd,be,rfl,rfl,rfl,bJ,bK⟩;have bL:=elim_inr av;refine zg 4 rfl ?_;obtain rfl:=oi bL;exact AD func70 rfl rfl (Y ((K.Ac O).Ac bJ) rfl ⟨rfl,rfl⟩ bK)
   ·intro bM;refine JL.block (Cy bI (fun ag=> []) (fun ag=> [(1,sV al p1 am),(2,pV a8 0),(6,iV ag)]) Ar a1 ?_);rintro ag bN U bi a0 ⟨cI,Z⟩ bO;have bn:=Z;unfold Nb at bn;refine zg 5 rfl (Bh underlying25 rfl rfl rfl ?_);refine zg 2 rfl (AN bn (fun bP bQ=>?_) (fun bP bR=>?_))
    ·obtain⟨cJ,bS,bT⟩:=bs bQ;refine zg 8 rfl (B9 (ap.Ah ((K.Ac O).Ac U)) bS underlying25 Cc ?_);rintro cK cM _ ⟨_,_,rfl,rfl,rfl⟩ bU;refine JL.fl 0 bU underlying27 AU Bv ?_;obtain⟨bV,bW,bY⟩:=bs bT;refine BD (Lc bW) rfl rfl Kl bi fun bZ V a2=>AB (v:= .bool (!bV)) rfl (fun ρ h=>Yl.not (h _ _ rfl)) (JL.done ?_);refine BF bY (fun b0 b1=>?_) (fun b0 b2=>?_)
     ·refine zg 4 rfl ?_;obtain rfl:=oi b1;obtain rfl:=a0 _ Z;have b3:=elim_inl av;obtain rfl:=oi b3;exact AD func70 rfl rfl (Y (((K.Ac O).Ac U).Ac V) rfl ⟨rfl,rfl⟩ a2)
     ·refine zg 3 rfl (CZ 16 fun ht=>?_);refine A2 ht rfl [0,1,2] rfl ?_;obtain⟨b4,bo,b5⟩:=bs b2;refine EO 0 #[true,true,true,true,true,true,true,true,true,true,true,true,true,true,true,true] (fun L s=>L= [(1,sV al p1 am),(2,pV a8 0),(6,iV ag),(43,.bool b4)]∧s=Ao bZ H [[]]) ?_ ?_
      ·rintro _ _ ⟨rfl,rfl⟩;refine AY.fin (by decide+kernel) (BF b5 (fun b6 b7=>?_) (fun b6 b8=>?_))
       ·refine zg 4 rfl ?_;obtain rfl:=oi b7;obtain rfl:=a0 _ Z;have b9:=elim_inl av;obtain rfl:=oi b9;exact AD func70 rfl rfl (Y (((K.Ac O).Ac U).Ac V) rfl ⟨rfl,rfl⟩ a2)
       ·refine zg 2 rfl (CZ 9 fun ht=>?_);refine A2 ht rfl [0,1] rfl ?_;obtain⟨cN,ca,cb⟩:=bs b8;refine Cv 2 (ap.Ah (((K.Ac O).Ac U).Ac V)) ca ht underlying25 Cc ?_;rintro cO cP _ ⟨_,_,rfl,rfl,rfl⟩ cc;refine Ca 3 ht underlying27 AU rfl rfl rfl rfl (Co 4 ht 1 cc Bv rfl rfl rfl rfl ?_);refine Ca 5 ht underlying24 BS rfl rfl rfl rfl (Co 6 ht 0 (a9.Ah ((O.Ac U).Ac V)) Ct rfl rfl rfl rfl ?_);refine Bx 7 ht rfl rfl (fun ρ h s' hs=>Yl.len rfl underlying22 (h _ _ rfl)) ?_;obtain⟨cQ,cd,ce⟩:=bs cb;refine Bx 8 ht rfl rfl (fun ρ h s' hs=>C5 (h _ _ rfl) (h _ _ rfl) cd) (Cg [9,10] ?_);obtain⟨cf,cg,ci⟩:=bs ce;refine BD (Lc cg) rfl rfl Kl a2 fun cR bp bq=>AB (v:= .bool (!cf)) rfl (fun ρ h=>Yl.not (h _ _ rfl)) (JL.done ?_);refine BF ci (fun ck cm=>?_) (fun ck cn=>?_)
        ·refine zg 4 rfl ?_;obtain rfl:=oi cm;obtain rfl:=a0 _ Z;have co:=elim_inl av;obtain rfl:=oi co;exact AD func70 rfl rfl (Y ((((K.Ac O).Ac U).Ac V).Ac bp) rfl ⟨rfl,rfl⟩ bq)
        ·obtain⟨cp,cq,cr⟩:=bs cn;refine zg 4 rfl (Be cq rfl rfl rfl ?_);refine zg 2 rfl ?_;obtain rfl:=oi cr;exact bO cp ((U.Ac V).Ac bp) bq rfl Z
      ·intro br;refine FI (q:=0<ag) (i:=30) rfl (fun a3=>?_) (fun a3=>?_)
       ·have ct:=ip bo a3;refine A2 ht rfl [3,4] rfl ?_;obtain⟨cT,cu,cv⟩:=bs ct;refine Cv 5 (ap.Ah (((K.Ac O).Ac U).Ac V)) cu ht underlying25 Cc ?_;rintro cV cW _ ⟨_,_,rfl,rfl,rfl⟩ cw;refine Ca 6 ht underlying27 AU rfl rfl rfl rfl ?_;refine Co 7 ht 0 cw Bv rfl rfl rfl rfl ?_;refine A2 ht rfl [8,9] rfl ?_;obtain⟨cX,cy,cz⟩:=bs cv;refine Bx 10 ht rfl rfl (fun ρ h s' hs=>C5 (h _ _ rfl) (h _ _ rfl) cy) ?_;obtain⟨cY,cA,cB⟩:=bs cz;refine Cv 11 (ap.Ah (((K.Ac O).Ac U).Ac V)) cA ht underlying25 Cc ?_;rintro cZ c0 _ ⟨_,_,rfl,rfl,rfl⟩ cC;refine Ca 12 ht underlying27 AU rfl rfl rfl rfl ?_;refine Co 13 ht 0 cC Bv rfl rfl rfl rfl ?_;refine A2 ht rfl [14,15] rfl ?_;obtain rfl:=oi cB;refine C4 ?_ (br _ _ ⟨rfl,rfl⟩);exact⟨rfl,rfl,rfl,rfl,trivial⟩
       ·have cD:=im bo a3;refine A2 ht rfl [3,4,5,6,7,8,9,10,11,12,13,14,15] rfl ?_;obtain rfl:=oi cD;refine C4 ?_ (br _ _ ⟨rfl,rfl⟩);exact⟨rfl,rfl,rfl,rfl,trivial⟩
    ·refine JL.exit rfl ?_;obtain rfl:=oi bR;have cE:bb=(Sum.inr ()):=(a0 _ Z).symm;exact Ay (bM _ _ ⟨(),bN,cE,rfl,rfl,U,bi⟩) rfl
def JR(fuel:Nat)(p0:A1)(p1:List Bool)(O:(List Bool)×Int)(K:(List Bool)×Int):Option (Bi ((List Bool)×Int) ((List Bool))):= (ix p0.1 O.2).bind fun V=> Option.bind (if K.2<(V.length:Int) then((ix p1 O.2).bind fun Y=> some Y) else(some false)) fun Z=> if Z=true then((ix p0.1 O.2).bind fun ag=> (ix ag K.2).bind fun U=> (ix K.1 U).bind fun am=> (As (K.2+1)).bind fun al=> some (.more ((K.1.set (Int.toNat U) true),al))) else(some (.done K.1))
def MV(fuel:Nat)(p0:A1)(p1:List Bool)(K:(List Bool)×Int):Option (Bi ((List Bool)×Int) ((List Bool))):= if K.2<(p1.length:Int) then(Option.bind (iter (JR fuel p0 p1 K) fuel (K.1,0)) fun O=> (As (K.2+1)).bind fun U=> some (.more (O,U))) else(some (.done K.1))
def f119(fuel:Nat)(p0:A1)(p1:List Bool):Option ((List Bool)):= (F5 (p1.length:Int) (false:Bool)).bind fun K=> Option.bind (iter (MV fuel p0 p1) fuel (K,0)) fun O=> some O
theorem Zi{bn:An}{c2:Nat}{bx:An}{bz:Nat}{Y:An}{Z:Nat}{p0:A1}{p1:List Bool}(bA:Al (rL rI) E bn c2 p0.1)(dd:Al (rL rI) E bx bz p0.2)(bR:Al rB E Y Z p1){fuel:Nat}{r:(List Bool)}(bB:f119 fuel p0 p1=some r):AL J 119 [.agg #[sV bn p0.1 c2,sV bx p0.2 bz],sV Y p1 Z] E [] (fun w E' B'=>∃(bC:An) (bD:Nat),w= sV bC r bD∧B'= []∧Al rB E' bC bD r):=by
 refine A4 func119 fun Q de cs H bS bT=>?_;unfold f119 at bB;refine zg 2 rfl (B4 bS fun ap bo a6 bE bU=>?_);refine zg 5 rfl (Bh underlying68 rfl rfl rfl ?_);obtain⟨bV,bW,bY⟩:=bs bB;refine JS.make (pp:=rB) bW rfl rfl rfl rfl rfl underlying68 Ik (CR type4) (by decide) (Du type4) (by decide) rfl bU fun bZ b0 b1 b2=>?_;obtain⟨bF,b3,b4⟩:=bs bY;refine zg 7 rfl (Br (fun L s=>∃(bp:LH) (a7:An) (a8:Nat) (bq:Seg),Jn bo H bp [bq] [(5,sV a7 bF a8)] L s (OL 4 rB bp a7 a8 bq bF)) ?_ ?_)
 ·rintro _ _ ⟨bp,a7,a8,bq,rfl,rfl,b5,b6,b7⟩;refine zg 5 rfl (B5 0 b7 b6 rfl fun df b8 b9 ca=>?_);obtain rfl:=oi b4;exact AD func119 rfl rfl (bT ((a6.Ac b5).Ac b8) rfl ⟨a7,a8,rfl,rfl,b9⟩ ca)
 ·intro cb;refine JL.block (CN b3 (fun L s O=>∃(ag:LH) (a1:An) (a2:Nat) (a3:Seg),Jn bo H ag [a3] [(1,sV Y p1 Z),(2,pV ap 0),(5,sV a1 O.1 a2),(6,iV O.2)] L s (OL 4 rB ag a1 a2 a3 O.1)) ⟨bo,(AZ bZ),bV.length,b0,rfl,rfl,Ar,b2,b1⟩ ?_);rintro _ _ O ⟨ag,a1,a2,a3,rfl,rfl,al,bG,bH⟩ cc ⟨dg,br⟩ cd;have bI:=br;unfold MV at bI;refine zg 5 rfl (Bh underlying68 rfl rfl rfl ?_);refine zg 2 rfl (AN bI (fun ce cf=>?_) (fun ce cg=>?_))
  ·obtain⟨bu,ci,ck⟩:=bs cf;refine zg 7 rfl (Br (fun L s=>∃(a9:LH) (bb:An) (bd:Nat) (be:Seg),Jn ag H a9 [be] [(1,sV Y p1 Z),(2,pV ap 0),(5,sV bb bu bd),(6,iV O.2)] L s (OL 4 rB a9 bb bd be bu)) ?_ ?_)
   ·rintro _ _ ⟨a9,bb,bd,be,rfl,rfl,cm,cn,co⟩;obtain⟨cp,cq,cr⟩:=bs ck;refine zg 3 rfl (Be cq rfl rfl rfl ?_);refine zg 2 rfl ?_;obtain rfl:=oi cr;exact Ay (cd _ _ (bu,cp) ⟨a9,bb,bd,be,rfl,rfl,(al.Ac cm),cn,co⟩ br) rfl
   ·intro ct;refine JL.block (CN ci (fun L s K=>∃(av:LH) (U:An) (V:Nat) (a4:Seg),Jn ag H av [a4] [(1,sV Y p1 Z),(2,pV ap 0),(5,sV U K.1 V),(6,iV O.2),(7,iV K.2)] L s (OL 4 rB av U V a4 K.1)) ⟨ag,a1,a2,a3,rfl,rfl,Ar,bG,bH⟩ ?_);rintro _ _ K ⟨av,U,V,a4,rfl,rfl,am,bJ,bK⟩ cu ⟨dh,bv⟩ cv;have bL:=bv;unfold JR at bL;refine zg 4 rfl (JL.fl 0 (bE.Ah (al.Ac am)) underlying24 BS Ct ?_);obtain⟨di,cw,cy⟩:=bs bL;refine zg 1 rfl (B9 (bA.Ah ((a6.Ac al).Ac am)) cw underlying22 BV ?_);rintro dj dk _ ⟨dl,dm,rfl,dn⟩ cz;refine BW 0 cz CQ rfl rfl rfl (Bh underlying28 rfl rfl rfl ?_);obtain⟨bM,cA,cB⟩:=bs cy;refine zg 2 rfl (Et [] (fun L s=>∃(bi:LH),Jm av H bi [a4] [(1,sV Y p1 Z),(2,pV ap 0),(5,sV U K.1 V),(6,iV O.2),(7,iV K.2),(30,.bool bM)] L s) ?_ ?_)
    ·rintro _ _ ⟨bi,rfl,rfl,a0,bN⟩;refine JL.done (BF cB (fun cC cD=>?_) (fun cC cE=>?_))
     ·refine zg 5 rfl (JL.fl 0 (bE.Ah ((al.Ac am).Ac a0)) underlying24 BS Ct ?_);obtain⟨cF,cG,cH⟩:=bs cD;refine zg 1 rfl (B9 (bA.Ah (((a6.Ac al).Ac am).Ac a0)) cG underlying22 BV ?_);rintro cI cJ _ ⟨cK,cM,rfl,cN⟩ cO;refine BW 0 cO CQ rfl rfl rfl ?_;obtain⟨a5,cP,cQ⟩:=bs cH;refine zg 1 rfl (B9 cN cP underlying28 AU ?_);rintro cR cT _ rfl cV;refine BW 0 cV Bv rfl rfl rfl ?_;obtain⟨dp,cW,cX⟩:=bs cQ;refine I4 0 (bK.Ah a0) cW rfl rfl rfl rfl rfl rfl underlying68 Ik ?_;rintro bO bw f141 _ cY rfl dq cZ c0 dr dt;refine JS.store (v:= .bool true) (off:=bw) 0 rfl rfl rfl bN rfl rfl Ik (by simp [Value.cells,CG]) cY (by have:=cZ;simp only [Rp.n,rK,rN,rB,rP,rL] at this;show _+1≤_;omega) fun c1=>?_;have c3:=c0 true [.bool true] rfl;have bP:(K.1.set (Int.toNat a5) true).length=K.1.length:=List.length_set;refine Gi (L':= [(1,.slice Y p1.length Z),(2,pV ap 0),(5,.slice U ((K.1.set (Int.toNat a5) true)).length V),(6,iV O.2),(7,iV K.2),(30,.bool bM),(33,.slice U ((K.1.set (Int.toNat a5) true)).length V),(34,pV ap 0),(35,.slice bn p0.1.length c2),(36,iV O.2),(37,pV cI cJ),(38,.slice cK cF.length cM),(39,iV K.2),(40,pV cR cT),(41,iV a5),(42,pV bO bw)]) ⟨rfl,rfl,by rw [bP];rfl,rfl,rfl,rfl,by rw [bP];rfl,rfl,rfl,rfl,rfl,rfl,rfl,rfl,rfl,rfl,trivial⟩ ?_;obtain⟨c4,c5,c6⟩:=bs cX;refine zg 4 rfl (Be c5 rfl rfl rfl ?_);refine zg 2 rfl ?_;obtain rfl:=oi c6;exact Ay (cv _ _ ((K.1.set (Int.toNat a5) true),c4) ⟨bi,U,V,[(bO,.cells (AX f141 bw [.bool true]) 4 (0,0))],rfl,rfl,(am.Ac a0),c1,c3⟩ bv) rfl
     ·refine JL.exit rfl ?_;obtain rfl:=oi cE;obtain rfl:=cu _ bv;exact Ay (ct _ _ ⟨bi,U,V,a4,rfl,rfl,(am.Ac a0),bN,(bK.Ah a0)⟩) rfl
    ·intro bQ;refine D7 25 cA (fun c7 c8=>?_) (fun c7 c9=>?_)
     ·obtain⟨du,da,db⟩:=bs c8;refine zg 2 rfl (B9 (bR.Ah ((a6.Ac al).Ac am)) da underlying68 Ik ?_);rintro dv dw _ rfl dc;refine BW 0 dc (Dv underlying4) rfl rfl rfl (zg 1 rfl ?_);obtain rfl:=oi db;exact Ay (bQ _ _ ⟨av,rfl,rfl,Ar,bJ⟩) rfl
     ·refine zg 5 rfl ?_;obtain rfl:=oi c9;exact Ay (bQ _ _ ⟨av,rfl,rfl,Ar,bJ⟩) rfl
  ·refine JL.exit rfl ?_;obtain rfl:=oi cg;obtain rfl:=cc _ br;exact Ay (cb _ _ ⟨ag,a1,a2,a3,rfl,rfl,al,bG,bH⟩) rfl
def M3(fuel:Nat)(p0:A1)(p1:Int)(K:(List Bool)×Int):Option (Bi ((List Bool)×Int) ((List Bool))):= if K.2<p1 then((f119 fuel p0 K.1).bind fun O=> (As (K.2+1)).bind fun U=> some (.more (O,U))) else(some (.done K.1))
def f82(fuel:Nat)(p0:A1)(p1:Int):Option ((List Bool)):= (F5 (p0.1.length:Int) (false:Bool)).bind fun K=> (ix K (0)).bind fun U=> Option.bind (iter (M3 fuel p0 p1) fuel ((K.set (Int.toNat 0) true),0)) fun O=> some O
theorem aq{U:An}{c2:Nat}{av:An}{a0:Nat}{p0:A1}{p1:Int}(bp:Al (rL rI) E U c2 p0.1)(bq:Al (rL rI) E av a0 p0.2){fuel:Nat}{r:(List Bool)}(a6:f82 fuel p0 p1=some r):AL J 82 [.agg #[sV U p0.1 c2,sV av p0.2 a0],iV p1] E [] (fun w E' B'=>∃(a7:An) (a8:Nat),w= sV a7 r a8∧B'= []∧Al rB E' a7 a8 r):=by
 refine A4 func82 fun Q cb cs H br bu=>?_;unfold f82 at a6;refine zg 2 rfl (B4 br fun a1 a9 a2 bb bv=>?_);refine zg 4 rfl (JL.fl 0 bb underlying24 BS Ct ?_);refine Bh underlying22 rfl rfl rfl ?_;obtain⟨K,bw,bx⟩:=bs a6;refine JS.make (pp:=rB) bw rfl rfl rfl rfl rfl underlying68 Ik (CR type4) (by decide) (Du type4) (by decide) rfl bv fun V cc bz bA=>?_;obtain⟨cd,bB,bC⟩:=bs bx;refine zg 5 rfl (I4 2 bz bB rfl rfl rfl rfl rfl rfl underlying68 Ik ?_);rintro bD bd f24 _ bE rfl ce bF bG cf cg;refine JS.store (v:= .bool true) (off:=bd) 2 rfl rfl rfl bA rfl rfl Ik (by simp [Value.cells,CG]) bE (by have:=bF;simp only [Rp.n,rK,rN,rB,rP,rL] at this;show _+1≤_;omega) fun bH=>?_;have bI:=bG true [.bool true] rfl;have a3:(K.set (Int.toNat 0) true).length=K.length:=List.length_set;refine Gi (L':= [(0,.agg #[.slice U p0.1.length c2,.slice av p0.2.length a0]),(1,iV p1),(2,pV a1 0),(4,.slice none 0 0),(7,pV a1 0),(8,.slice U p0.1.length c2),(9,iV (p0.1.length:Int)),(10,.slice (AZ V) ((K.set (Int.toNat 0) true)).length K.length),(5,.slice (AZ V) ((K.set (Int.toNat 0) true)).length K.length),(11,.slice (AZ V) ((K.set (Int.toNat 0) true)).length K.length),(12,pV bD bd)]) ⟨rfl,rfl,rfl,rfl,rfl,rfl,rfl,by rw [a3];rfl,by rw [a3];rfl,by rw [a3];rfl,rfl,trivial⟩ ?_;obtain⟨be,bJ,bK⟩:=bs bC;refine zg 6 rfl (Br (fun L s=>∃(a4:LH) (Y:An) (Z:Nat),Jn a9 H a4 [] [(5,sV Y be Z)] L s (Al rB a4 Y Z be)) ?_ ?_)
 ·rintro _ _ ⟨a4,Y,Z,rfl,rfl,bL,bM,bN⟩;refine zg 5 rfl ?_;obtain rfl:=oi bK;exact AD func82 rfl rfl (bu (a2.Ac bL) rfl ⟨Y,Z,rfl,rfl,bN⟩ bM)
 ·intro bO;refine JL.block (B5 2 bI bH rfl fun bP bQ bR bS=>?_);refine CN bJ (fun L s ag=>∃(al:LH) (am:An) (ap:Nat),Jn a9 H al [] [(1,iV p1),(2,pV a1 0),(5,sV am ag.1 ap),(6,iV ag.2)] L s (Al rB al am ap ag.1)) ⟨bP,(AZ V),K.length,rfl,rfl,bQ,bS,bR⟩ ?_;rintro _ _ ag ⟨al,am,ap,rfl,rfl,O,bi,bn⟩ bT ⟨ci,a5⟩ bU;have bo:=a5;unfold M3 at bo;refine zg 7 rfl (AN bo (fun bV bW=>?_) (fun bV bY=>?_))
  ·refine zg 4 rfl (BQ (bb.Ah O) BY BC rfl rfl ?_);obtain⟨bZ,b0,b1⟩:=bs bW;refine zg 1 rfl (BL (Zi (bp.Ah (a2.Ac O)) (bq.Ah (a2.Ac O)) bn b0) rfl rfl (AR func119 rfl) bi ?_);rintro _ b2 _ b3 ⟨b4,b5,rfl,rfl,b6⟩ b7;obtain⟨b8,b9,ca⟩:=bs b1;refine zg 5 rfl (Be b9 rfl rfl rfl ?_);refine zg 2 rfl ?_;obtain rfl:=oi ca;exact Ay (bU _ _ (bZ,b8) ⟨b2,b4,b5,rfl,rfl,(O.Ac b3),b7,b6⟩ a5) rfl
  ·refine JL.exit rfl ?_;obtain rfl:=oi bY;obtain rfl:=bT _ a5;exact Ay (bO _ _ ⟨al,am,ap,rfl,rfl,O,bi,bn⟩) rfl
def MX(fuel:Nat)(p0:List Int)(p1:Int)(K:Int):Option (Bi Int ((Bool)⊕(Unit))):= if K<(p0.length:Int) then((ix p0 K).bind fun O=> if O=p1 then(some (.done (Sum.inl true))) else((As (K+1)).bind fun U=> some (.more U))) else(some (.done (Sum.inr ())))
def f137(fuel:Nat)(p0:List Int)(p1:Int):Option Bool:= Option.bind (iter (MX fuel p0 p1) fuel 0) fun K=> Sum.elim (fun r=>some r) (fun O=> some false) K
theorem ZO{U:An}{c2:Nat}{p0:List Int}{p1:Int}(a2:Al rI E U c2 p0){fuel:Nat}{r:Bool}(Z:f137 fuel p0 p1=some r):AL J 137 [sV U p0 c2,iV p1] E [] (fun w E' B'=>w= .bool r∧B'= []):=by
 refine A4 func137 fun Q bB cs H a3 ag=>?_;unfold f137 at Z;obtain⟨al,a4,am⟩:=bs Z;refine zg 9 rfl (Br (fun L s=>∃(ap:Unit) (av:LH),al=Sum.inr ap∧Jm E H av [] [] L s) ?_ ?_)
 ·rintro _ _ ⟨ap,av,rfl,rfl,rfl,a5,a6⟩;have a7:=elim_inr am;refine zg 4 rfl ?_;obtain rfl:=oi a7;exact AD func137 rfl rfl (ag a5 rfl ⟨rfl,rfl⟩ a6)
 ·intro a8;refine JL.block (Cy a4 (fun V=> []) (fun V=> [(0,sV U p0 c2),(1,iV p1),(5,iV V)]) Ar a3 ?_);rintro V a9 K Y a0 ⟨bC,O⟩ bb;have a1:=O;unfold MX at a1;refine zg 5 rfl (Bh underlying28 rfl rfl rfl ?_);refine zg 2 rfl (AN a1 (fun bd be=>?_) (fun bd bi=>?_))
  ·obtain⟨bD,bn,bo⟩:=bs be;refine zg 7 rfl (B9 (a2.Ah K) bn underlying28 AU ?_);rintro bE bF _ rfl bp;refine BW 0 bp Bv rfl rfl rfl (zg 3 rfl ?_);refine AN bo (fun bq br=>?_) (fun bq bu=>?_)
   ·refine zg 4 rfl ?_;obtain rfl:=oi br;obtain rfl:=a0 _ O;have bv:=elim_inl am;obtain rfl:=oi bv;exact AD func137 rfl rfl (ag K rfl ⟨rfl,rfl⟩ Y)
   ·obtain⟨bw,bx,bz⟩:=bs bu;refine zg 4 rfl (Be bx rfl rfl rfl ?_);refine zg 2 rfl ?_;obtain rfl:=oi bz;exact bb bw K Y rfl O
  ·refine JL.exit rfl ?_;obtain rfl:=oi bi;have bA:al=(Sum.inr ()):=(a0 _ O).symm;exact Ay (a8 _ _ ⟨(),a9,bA,rfl,rfl,K,Y⟩) rfl
def MM(fuel:Nat)(p0:A1)(p1:AI)(p2:Int)(p3:Int)(p4:Int)(K:Int×Int):Option (Bi (Int×Int) ((Int)⊕(Int))):= if K.2<(p1.length:Int) then(Option.bind ((ix p1 K.2).bind fun O=> Option.bind (if O.1≠p3 then(some true) else(some (decide (O.2=p4)))) fun U=> if U=true then(some (Sum.inr K.1)) else(Option.bind (if K.2=p2 then(some true) else((ix p0.2 p4).bind fun V=> (f137 fuel V O.2).bind fun Y=> some (!Y))) fun Z=> if Z=true then(some (Sum.inl 100)) else((As (K.1+1)).bind fun ag=> some (Sum.inr ag)))) fun al=>Sum.elim (fun r=>some (.done (Sum.inl r))) (fun am=> (As (K.2+1)).bind fun ap=> some (.more (am,ap))) al) else(some (.done (Sum.inr K.1)))
def f118(fuel:Nat)(p0:A1)(p1:AI)(p2:Int)(p3:Int)(p4:Int):Option Int:= Option.bind (iter (MM fuel p0 p1 p2 p3 p4) fuel (0,0)) fun K=> Sum.elim (fun r=>some r) (fun O=> some O) K
theorem YE{a6:An}{c2:Nat}{a7:An}{a8:Nat}{O:An}{U:Nat}{p0:A1}{p1:AI}{p2:Int}{p3:Int}{p4:Int}(cN:Al (rL rI) E a6 c2 p0.1)(bD:Al (rL rI) E a7 a8 p0.2)(bE:Al Bp E O U p1){fuel:Nat}{r:Int}(a9:f118 fuel p0 p1 p2 p3 p4=some r):AL J 118 [.agg #[sV a6 p0.1 c2,sV a7 p0.2 a8],sV O p1 U,iV p2,iV p3,iV p4] E [] (fun w E' B'=>w=iV r∧B'= []):=by
 refine A4 func118 fun Q cO cs H bF bb=>?_;unfold f118 at a9;refine zg 2 rfl (B4 bF fun al bG am bH bI=>?_);obtain⟨bd,bJ,be⟩:=bs a9;refine zg 11 rfl (Br (fun L s=>∃(a0:Int) (bi:LH),bd=Sum.inr a0∧Jm bG H bi [] [(11,iV a0)] L s) ?_ ?_)
 ·rintro _ _ ⟨a0,bi,rfl,rfl,rfl,bK,bL⟩;have bM:=elim_inr be;refine zg 5 rfl ?_;obtain rfl:=oi bM;exact AD func118 rfl rfl (bb (am.Ac bK) rfl ⟨rfl,rfl⟩ bL)
 ·intro bN;refine JL.block (Cy bJ (fun K=> []) (fun K=> [(1,sV O p1 U),(2,iV p2),(3,iV p3),(4,iV p4),(5,pV al 0),(11,iV K.1),(12,iV K.2)]) Ar bI ?_);rintro K bn V bo bp ⟨cP,ap⟩ bO;have bq:=ap;unfold MM at bq;refine zg 5 rfl (Bh underlying25 rfl rfl rfl ?_);refine zg 2 rfl (AN bq (fun bP bQ=>?_) (fun bP bR=>?_))
  ·obtain⟨bS,bT,br⟩:=bs bQ;refine zg 2 rfl (Br (fun L s=>∃(av:Int) (bu:LH),bS=Sum.inr av∧Jm bn H bu [] [(1,sV O p1 U),(2,iV p2),(3,iV p3),(4,iV p4),(5,pV al 0),(11,iV av),(12,iV K.2)] L s) ?_ ?_)
   ·rintro _ _ ⟨av,bu,rfl,rfl,rfl,bU,bV⟩;have bW:=elim_inr br;obtain⟨bY,bZ,b0⟩:=bs bW;refine zg 2 rfl (Be bZ rfl rfl rfl ?_);refine zg 2 rfl ?_;obtain rfl:=oi b0;exact bO (av,bY) (V.Ac bU) bV rfl ap
   ·intro bv;obtain⟨b1,b2,b3⟩:=bs bT;refine zg 5 rfl (B9 (bE.Ah (am.Ac V)) b2 underlying25 Cc ?_);rintro cQ cR _ ⟨_,_,rfl,rfl,rfl⟩ b4;refine BQ b4 Gt Cc rfl rfl (Cz bo Er fun b5 b6=>?_);refine BM 0 b6 Cc fun b7=>?_;refine CV 0 b7 rfl fun a1 Z a2 bw=>zg 4 rfl (JL.fl 0 a2 underlying27 AU Bv ?_);obtain⟨b8,b9,ca⟩:=bs b3;refine zg 3 rfl (Et [] (fun L s=>∃(ag:LH),Jm a1 H ag [] [(1,sV O p1 U),(2,iV p2),(3,iV p3),(4,iV p4),(5,pV al 0),(11,iV K.1),(12,iV K.2),(13,pV b5 0),(33,.bool b8)] L s) ?_ ?_)
    ·rintro _ _ ⟨ag,rfl,rfl,Y,a3⟩;refine JL.done (BF ca (fun cb cc=>?_) (fun cb cd=>?_))
     ·exact JL.exit rfl (Ay (bv _ _ ⟨K.1,ag,(Option.some.inj cc).symm,rfl,rfl,(Z.Ac Y),a3⟩) rfl)
     ·refine zg 3 rfl (CZ 14 fun ht=>?_);refine A2 ht rfl [0,1,2,3] rfl ?_;obtain⟨ce,bx,cf⟩:=bs cd;refine EO 0 #[true,true,true,true,true,true,true,true,true,true,true,true,true,true] (fun L s=>∃(a4:LH),Jm ag H a4 [] [(1,sV O p1 U),(2,iV p2),(3,iV p3),(4,iV p4),(5,pV al 0),(11,iV K.1),(12,iV K.2),(47,.bool ce)] L s) ?_ ?_
      ·rintro _ _ ⟨a4,rfl,rfl,bz,bA⟩;refine AY.fin (by decide+kernel) (BF cf (fun cg ci=>?_) (fun cg ck=>?_))
       ·refine zg 4 rfl ?_;obtain rfl:=oi ci;have cm:=elim_inl br;obtain rfl:=oi cm;obtain rfl:=bp _ ap;have cn:=elim_inl be;obtain rfl:=oi cn;exact AD func118 rfl rfl (bb ((((am.Ac V).Ac Z).Ac Y).Ac bz) rfl ⟨rfl,rfl⟩ bA)
       ·obtain⟨co,cp,cq⟩:=bs ck;refine zg 3 rfl (Be cp rfl rfl rfl ?_);exact zg 3 rfl (Ay (bv _ _ ⟨co,a4,(Option.some.inj cq).symm,rfl,rfl,((Z.Ac Y).Ac bz),bA⟩) rfl)
      ·intro bB;refine FI (q:=K.2=p2) (i:=37) rfl (fun a5=>?_) (fun a5=>?_)
       ·have cr:=ip bx a5;refine A2 ht rfl [4,5,6,7,8,9,10,11,12,13] rfl ?_;obtain rfl:=oi cr;refine C4 ?_ (bB _ _ ⟨ag,rfl,rfl,Ar,a3⟩);exact⟨rfl,rfl,rfl,rfl,rfl,rfl,rfl,rfl,trivial⟩
       ·have ct:=im bx a5;refine Ca 4 ht underlying24 BS rfl rfl rfl rfl ?_;refine Co 5 ht 1 (bH.Ah ((V.Ac Z).Ac Y)) Ct rfl rfl rfl rfl ?_;refine Ch 6 ht rfl rfl ?_;obtain⟨cu,cv,cw⟩:=bs ct;refine Cv 7 (bD.Ah (((am.Ac V).Ac Z).Ac Y)) cv ht underlying22 BV ?_;rintro cT cV _ ⟨cy,cz,rfl,cA⟩ cB;refine Co 8 ht 0 cB CQ rfl rfl rfl rfl ?_;refine Ca 9 ht underlying27 AU rfl rfl rfl rfl ?_;refine Co 10 ht 1 (a2.Ah Y) Bv rfl rfl rfl rfl ?_;obtain⟨cC,cD,cE⟩:=bs cw;refine JG.call (i:=11) (vs:= [sV cy cu cz,iV b1.2]) (ZO cA cD) (by decide+kernel) rfl rfl rfl (AR func137 rfl) rfl a3 ?_;rintro _ cF _ cG ⟨rfl,rfl⟩ cH;refine Bx (v:= .bool (!cC)) 12 ht rfl rfl (fun ρ h s' hs=>Yl.not (h _ _ rfl)) ?_;refine Ch 13 ht rfl rfl ?_;obtain rfl:=oi cE;refine C4 ?_ (bB _ _ ⟨cF,rfl,rfl,cG,cH⟩);exact⟨rfl,rfl,rfl,rfl,rfl,rfl,rfl,rfl,trivial⟩
    ·intro bC;refine D7 28 b9 (fun cI cJ=>?_) (fun cI cK=>?_)
     ·refine zg 5 rfl ?_;obtain rfl:=oi cJ;exact Ay (bC _ _ ⟨a1,rfl,rfl,Ar,bw⟩) rfl
     ·refine JL.fl 1 a2 underlying27 AU Bv ?_;refine zg 3 rfl ?_;obtain rfl:=oi cK;exact Ay (bC _ _ ⟨a1,rfl,rfl,Ar,bw⟩) rfl
  ·refine JL.exit rfl ?_;obtain rfl:=oi bR;have cM:bd=(Sum.inr K.1):=(bp _ ap).symm;exact Ay (bN _ _ ⟨K.1,bn,cM,rfl,rfl,V,bo⟩) rfl
def f117(fuel:Nat)(p0:AI):Option Int:= if(p0.length:Int)=0 then(some 0) else((As ((p0.length:Int) - 1)).bind fun K=> (ix p0 K).bind fun O=> some O.1)
theorem Y5{K:An}{c2:Nat}{p0:AI}(Y:Al Bp E K c2 p0){fuel:Nat}{r:Int}(O:f117 fuel p0=some r):AL J 117 [sV K p0 c2] E [] (fun w E' B'=>w=iV r∧B'= []):=by
 refine A4 func117 fun Q a1 cs H U V=>?_;unfold f117 at O;refine zg 8 rfl (Bh underlying25 rfl rfl rfl ?_);refine zg 2 rfl (AN O (fun c4 Z=>?_) (fun c4 ag=>?_))
 ·refine zg 4 rfl ?_;obtain rfl:=oi Z;exact AD func117 rfl rfl (V Ar rfl ⟨rfl,rfl⟩ U)
 ·refine zg 5 rfl (Bh underlying25 rfl rfl rfl ?_);obtain⟨a2,al,am⟩:=bs ag;refine Ci al rfl rfl rfl ?_;obtain⟨a3,ap,av⟩:=bs am;refine B9 Y ap underlying25 Cc ?_;rintro a4 a5 _ ⟨_,_,rfl,rfl,rfl⟩ a0;refine JL.fl 0 a0 underlying27 AU Bv ?_;refine zg 2 rfl ?_;obtain rfl:=oi av;exact AD func117 rfl rfl (V Ar rfl ⟨rfl,rfl⟩ U)
def No(fuel:Nat)(p0:List (List Int))(p2:Int)(O:(List Int)×Int)(K:Bool×Int):Option (Bi (Bool×Int) Bool):= Option.bind (if K.2≤p2 then((ix p0 O.2).bind fun U=> some (decide (K.2<(U.length:Int)))) else(some false)) fun V=> if V=true then(Option.bind (if K.1=true then(some true) else((ix p0 O.2).bind fun Y=> (ix Y K.2).bind fun Z=> some (decide (0<Z)))) fun ag=> (As (K.2+1)).bind fun al=> some (.more (ag,al))) else(some (.done K.1))
def Nk(fuel:Nat)(p0:List (List Int))(p1:Int)(p2:Int)(K:(List Int)×Int):Option (Bi ((List Int)×Int) ((List Int))):= if K.2<(p0.length:Int) then(Option.bind (iter (No fuel p0 p2 K) fuel (false,p1)) fun O=> Option.bind (if O=true then((room K.1 K.2).bind fun U=> some U) else(some K.1)) fun V=> (As (K.2+1)).bind fun Y=> some (.more (V,Y))) else(some (.done K.1))
def f81(fuel:Nat)(p0:List (List Int))(p1:Int)(p2:Int):Option ((List Int)):= Option.bind (iter (Nk fuel p0 p1 p2) fuel ([],0)) fun K=> some K
theorem S7{Y:An}{c2:Nat}{p0:List (List Int)}{p1:Int}{p2:Int}(bo:Al (rL rI) E Y c2 p0){fuel:Nat}{r:(List Int)}(bp:f81 fuel p0 p1 p2=some r):AL J 81 [sV Y p0 c2,iV p1,iV p2] E [] (fun w E' B'=>∃(bq:An) (br:Nat),w= sV bq r br∧B'= []∧Al rI E' bq br r):=by
 refine A4 func81 fun Q cW cs H bG bH=>?_;unfold f81 at bp;obtain⟨bu,bI,bJ⟩:=bs bp;refine zg 13 rfl (Br (fun L s=>∃(a4:LH) (ag:An) (al:Nat) (a5:Seg),Jn E H a4 [a5] [(7,sV ag bu al)] L s (OL 3 rI a4 ag al a5 bu)) ?_ ?_)
 ·rintro _ _ ⟨a4,ag,al,a5,rfl,rfl,bK,bL,bM⟩;refine zg 5 rfl (B5 0 bM bL rfl fun cX bN bO bP=>?_);obtain rfl:=oi bJ;exact AD func81 rfl rfl (bH (bK.Ac bN) rfl ⟨ag,al,rfl,rfl,bO⟩ bP)
 ·intro bQ;refine JL.block (CN bI (fun L s K=>∃(am:LH) (O:An) (U:Nat) (V:Seg),Jn E H am [V] [(0,sV Y p0 c2),(1,iV p1),(2,iV p2),(7,sV O K.1 U),(8,iV K.2)] L s (OL 3 rI am O U V K.1)) ⟨E,none,0,[],rfl,rfl,Ar,bG,OL.nil⟩ ?_);rintro _ _ K ⟨am,O,U,V,rfl,rfl,ap,bv,a6⟩ bR ⟨cY,a7⟩ bS;have bw:=a7;unfold Nk at bw;refine zg 5 rfl (Bh underlying22 rfl rfl rfl ?_);refine zg 2 rfl (AN bw (fun bT bU=>?_) (fun bT bV=>?_))
  ·obtain⟨bW,bY,bZ⟩:=bs bU;refine zg 13 rfl (C7 [V] [(0,sV Y p0 c2),(1,iV p1),(2,iV p2),(7,sV O K.1 U),(8,iV K.2),(9,.bool bW)] (fun a8 a9 bx=>?_) (fun b0=>?_))
   ·obtain⟨bb,b1,b2⟩:=bs bZ;refine zg 4 rfl (Br (fun L s=>∃(av:LH) (a0:An) (a1:Nat) (a2:Seg),Jn a8 H av [a2] [(0,sV Y p0 c2),(1,iV p1),(2,iV p2),(7,sV a0 bb a1),(8,iV K.2)] L s (OL 3 rI av a0 a1 a2 bb)) ?_ ?_)
    ·rintro _ _ ⟨av,a0,a1,a2,rfl,rfl,b3,b4,b5⟩;obtain⟨b6,b7,b8⟩:=bs b2;refine zg 3 rfl (Be b7 rfl rfl rfl ?_);refine zg 2 rfl ?_;obtain rfl:=oi b8;exact Ay (bS _ _ (bb,b6) ⟨av,a0,a1,a2,rfl,rfl,((ap.Ac a9).Ac b3),b4,b5⟩ a7) rfl
    ·intro bz;refine BF b1 (fun b9 ca=>?_) (fun b9 cb=>?_)
     ·obtain⟨cZ,cc,cd⟩:=bs ca;refine zg 3 rfl (JS.app (pp:=rI) (v:=iV K.2) (a:=O) (c:=U) 0 cc rfl rfl rfl rfl (fun _=>rfl) rfl (fun _=>rfl) rfl rfl rfl underlying28 underlying28 underlying28 AU (CR type3) CM rfl (by decide) (by decide) (by decide) (by decide) (a6.Ah a9) rfl bx rfl fun c0 ce cf cg ci ck=>?_);refine zg 2 rfl ?_;obtain rfl:=oi cd;exact Ay (bz _ _ ⟨a8,ce,cf,cg,rfl,rfl,Ar,ck,ci⟩) rfl
     ·refine JL.skip ?_;obtain rfl:=oi cb;exact Ay (bz _ _ ⟨a8,O,U,V,rfl,rfl,Ar,bx,(a6.Ah a9)⟩) rfl
   ·refine JL.block (Cy bY (fun Z=> [V]) (fun Z=> [(0,sV Y p0 c2),(1,iV p1),(2,iV p2),(7,sV O K.1 U),(8,iV K.2),(9,.bool Z.1),(10,iV Z.2)]) Ar bv ?_);rintro Z bd a3 bA cm ⟨c1,be⟩ cn;have bB:=be;unfold No at bB;obtain⟨co,cp,cq⟩:=bs bB;refine zg 7 rfl (Et [] (fun L s=>∃(bC:LH),Jm bd H bC [V] [(0,sV Y p0 c2),(1,iV p1),(2,iV p2),(7,sV O K.1 U),(8,iV K.2),(9,.bool Z.1),(10,iV Z.2),(29,.bool co)] L s) ?_ ?_)
    ·rintro _ _ ⟨bC,rfl,rfl,bi,bn⟩;refine JL.done (BF cq (fun cr ct=>?_) (fun cr cu=>?_))
     ·obtain⟨bD,cv,cw⟩:=bs ct;refine zg 6 rfl (Dq 11 1 [V] [(0,sV Y p0 c2),(1,iV p1),(2,iV p2),(7,sV O K.1 U),(8,iV K.2),(10,iV Z.2),(42,.bool bD)] (fun c3 cy cz=>?_) (fun bE=>?_))
      ·obtain⟨cA,cB,cC⟩:=bs cw;refine zg 5 rfl (Be cB rfl rfl rfl ?_);refine zg 2 rfl ?_;obtain rfl:=oi cC;exact cn (bD,cA) ((a3.Ac bi).Ac cy) cz rfl be
      ·refine DO 33 cv (fun cD cE=>?_) (fun cD cF=>?_)
       ·refine zg 9 rfl ?_;obtain rfl:=oi cE;exact bE Ar bn rfl
       ·obtain⟨c4,cG,cH⟩:=bs cF;refine zg 2 rfl (B9 (bo.Ah ((ap.Ac a3).Ac bi)) cG underlying22 BV ?_);rintro c5 c6 _ ⟨c7,c8,rfl,cI⟩ cJ;refine BW 0 cJ CQ rfl rfl rfl ?_;obtain⟨c9,cK,cM⟩:=bs cH;refine zg 1 rfl (B9 cI cK underlying28 AU ?_);rintro da db _ rfl cN;refine BW 0 cN Bv rfl rfl rfl (zg 2 rfl ?_);obtain rfl:=oi cM;exact bE Ar bn rfl
     ·refine JL.exit rfl ?_;obtain rfl:=oi cu;obtain rfl:=cm _ be;exact b0 (a3.Ac bi) bn rfl
    ·intro bF;refine D7 21 cp (fun cO cP=>?_) (fun cO cQ=>?_)
     ·obtain⟨dc,cR,cT⟩:=bs cP;refine zg 3 rfl (B9 (bo.Ah (ap.Ac a3)) cR underlying22 BV ?_);rintro dd de _ ⟨df,dg,rfl,dh⟩ cV;refine BW 0 cV CQ rfl rfl rfl (Bh underlying28 rfl rfl rfl ?_);refine zg 2 rfl ?_;obtain rfl:=oi cT;exact Ay (bF _ _ ⟨bd,rfl,rfl,Ar,bA⟩) rfl
     ·refine zg 8 rfl ?_;obtain rfl:=oi cQ;exact Ay (bF _ _ ⟨bd,rfl,rfl,Ar,bA⟩) rfl
  ·refine JL.exit rfl ?_;obtain rfl:=oi bV;obtain rfl:=bR _ a7;exact Ay (bQ _ _ ⟨am,O,U,V,rfl,rfl,ap,bv,a6⟩) rfl
def f71(fuel:Nat):Option ((A1)):= some (([([1]:List Int),([2]:List Int),([3,4]:List Int),([4]:List Int),([5]:List Int),([5]:List Int)]:List (List Int)),([[],[],[],([2]:List Int),([2,3]:List Int),([3,4]:List Int)]:List (List Int)))
theorem IF{fuel:Nat}{r:(A1)}(a2:f71 fuel=some r):AL J 71 [] E [] (fun w E' B'=>∃(a3:An) (a4:Nat) (a5:An) (a6:Nat),w= .agg #[sV a3 r.1 a4,sV a5 r.2 a6]∧B'= []∧Al (rL rI) E' a3 a4 r.1∧Al (rL rI) E' a5 a6 r.2):=by
 refine A4 func71 fun Q cF cs H bp bq=>?_;unfold f71 at a2;refine zg 2 rfl (Cz bp GW fun K br=>?_);refine zg 3 rfl (DC (pp:=rI) [iV 1] [1] rfl rfl rfl underlying28 AU CM (by decide) rfl rfl rfl ⟨rfl,trivial⟩ br fun bu a7 bv bw=>?_);refine DC (pp:=rI) [iV 2] [2] rfl rfl rfl underlying28 AU CM (by decide) rfl rfl rfl ⟨rfl,trivial⟩ bw fun bx a8 bz bA=>Cs (S':= [[],[(K,.cells #[nS,nS] 24 (0,0))],a7,a8]) rfl bA fun bB=>DC (pp:=rI) [iV 3,iV 4] [3,4] rfl rfl rfl underlying28 AU CM (by decide) rfl rfl rfl ⟨rfl,rfl,trivial⟩ bB fun bC a9 bD bE=>DC (pp:=rI) [iV 4] [4] rfl rfl rfl underlying28 AU CM (by decide) rfl rfl rfl ⟨rfl,trivial⟩ bE fun bF bb bG bH=>DC (pp:=rI) [iV 5] [5] rfl rfl rfl underlying28 AU CM (by decide) rfl rfl rfl ⟨rfl,trivial⟩ bH fun bI bd bJ bK=>Cs (S':= [[],[(K,.cells #[nS,nS] 24 (0,0))],a7,a8,a9,bb,bd]) rfl bK fun bL=>DC (pp:=rI) [iV 5] [5] rfl rfl rfl underlying28 AU CM (by decide) rfl rfl rfl ⟨rfl,trivial⟩ bL fun bM be bN bO=>B5 2 bv bO rfl fun cG O bP bQ=>B5 3 (bz.Ah O) bQ rfl fun cH U bR bS=>Cs (S':= [[],[(K,.cells #[nS,nS] 24 (0,0))],[],[],a9,bb,bd,be]) rfl bS fun bT=>B5 4 (bD.Ah (O.Ac U)) bT rfl fun cI V bU bV=>B5 5 (bG.Ah ((O.Ac U).Ac V)) bV rfl fun cJ Y bW bY=>B5 6 (bJ.Ah (((O.Ac U).Ac V).Ac Y)) bY rfl fun cK Z bZ b0=>Cs (S':= [[],[(K,.cells #[nS,nS] 24 (0,0))],[],[],[],[],[],be]) rfl b0 fun b1=>B5 7 (bN.Ah ((((O.Ac U).Ac V).Ac Y).Ac Z)) b1 rfl fun cM ag b2 b3=>DC (pp:=(rL rI)) [.slice (AZ bu) (([1]:List Int)).length 1,.slice (AZ bx) (([2]:List Int)).length 1,.slice (AZ bC) (([3,4]:List Int)).length 2,.slice (AZ bF) (([4]:List Int)).length 1,.slice (AZ bI) (([5]:List Int)).length 1,.slice (AZ bM) (([5]:List Int)).length 1] [([1]:List Int),([2]:List Int),([3,4]:List Int),([4]:List Int),([5]:List Int),([5]:List Int)] rfl rfl rfl underlying22 BV Fp (by decide) rfl rfl rfl ⟨⟨_,_,rfl,(bP.Ah ((((U.Ac V).Ac Y).Ac Z).Ac ag))⟩,⟨_,_,rfl,(bR.Ah (((V.Ac Y).Ac Z).Ac ag))⟩,⟨_,_,rfl,(bU.Ah ((Y.Ac Z).Ac ag))⟩,⟨_,_,rfl,(bW.Ah (Z.Ac ag))⟩,⟨_,_,rfl,(bZ.Ah ag)⟩,⟨_,_,rfl,b2⟩,trivial⟩ b3 fun al a1 b4 b5=>DC (pp:=rI) [iV 2] [2] rfl rfl rfl underlying28 AU CM (by decide) rfl rfl rfl ⟨rfl,trivial⟩ b5 fun b6 b7 b8 b9=>Cs (S':= [[],[(K,.cells #[nS,nS] 24 (0,0))],[],[],[],[],[],[],a1,b7]) rfl b9 fun ca=>DC (pp:=rI) [iV 2,iV 3] [2,3] rfl rfl rfl underlying28 AU CM (by decide) rfl rfl rfl ⟨rfl,rfl,trivial⟩ ca fun cb cc cd ce=>DC (pp:=rI) [iV 3,iV 4] [3,4] rfl rfl rfl underlying28 AU CM (by decide) rfl rfl rfl ⟨rfl,rfl,trivial⟩ ce fun cf cg ci ck=>B5 9 b8 ck rfl fun cN ap cm cn=>?_;refine Cs (S':= [[],[(K,.cells #[nS,nS] 24 (0,0))],[],[],[],[],[],[],a1,[],cc,cg]) rfl cn fun co=>B5 10 (cd.Ah ap) co rfl fun cO av cp cq=>B5 11 (ci.Ah (ap.Ac av)) cq rfl fun cP a0 cr ct=>DC (pp:=(rL rI)) [nS,nS,nS,.slice (AZ b6) (([2]:List Int)).length 1,.slice (AZ cb) (([2,3]:List Int)).length 2,.slice (AZ cf) (([3,4]:List Int)).length 2] [[],[],[],([2]:List Int),([2,3]:List Int),([3,4]:List Int)] rfl rfl rfl underlying22 BV Fp (by decide) rfl rfl rfl ⟨⟨_,_,rfl,Al.nil⟩,⟨_,_,rfl,Al.nil⟩,⟨_,_,rfl,Al.nil⟩,⟨_,_,rfl,(cm.Ah (av.Ac a0))⟩,⟨_,_,rfl,(cp.Ah a0)⟩,⟨_,_,rfl,cr⟩,trivial⟩ ct fun am cu cv cw=>Cs (S':= [[],[(K,.cells #[nS,nS] 24 (0,0))],[],[],[],[],[],[],a1,[],[],[],cu]) rfl cw fun cy=>AB (v:= .agg #[.slice (AZ al) (([([1]:List Int),([2]:List Int),([3,4]:List Int),([4]:List Int),([5]:List Int),([5]:List Int)]:List (List Int))).length 6,.slice (AZ am) (([[],[],[],([2]:List Int),([2,3]:List Int),([3,4]:List Int)]:List (List Int))).length 6]) rfl (fun ρ h=>CY [(0,1),(1,1)] h GW underlying24 ⟨rfl,Bo type22,rfl,Bo type22,trivial⟩ rfl rfl) (BM 1 cy BC fun cz=>?_);refine JL.done (B5 8 (b4.Ah ((ap.Ac av).Ac a0)) cz rfl fun cQ bi cA cB=>?_);refine B5 12 (cv.Ah bi) cB rfl fun cR bn cC cD=>Cs (S':= [[],[(K,.cells #[.slice (AZ al) (([([1]:List Int),([2]:List Int),([3,4]:List Int),([4]:List Int),([5]:List Int),([5]:List Int)]:List (List Int))).length 6,.slice (AZ am) (([[],[],[],([2]:List Int),([2,3]:List Int),([3,4]:List Int)]:List (List Int))).length 6] 24 (0,0))],[],[],[],[],[],[],[],[],[],[],[]]) rfl cD fun bo=>?_;obtain rfl:=oi a2;refine JL.ret (v:= .agg #[.slice (AZ al) (([([1]:List Int),([2]:List Int),([3,4]:List Int),([4]:List Int),([5]:List Int),([5]:List Int)]:List (List Int))).length 6,.slice (AZ am) (([[],[],[],([2]:List Int),([2,3]:List Int),([3,4]:List Int)]:List (List Int))).length 6]) rfl rfl (Cd.list func71 rfl (vs:= [.agg #[.slice (AZ al) (([([1]:List Int),([2]:List Int),([3,4]:List Int),([4]:List Int),([5]:List Int),([5]:List Int)]:List (List Int))).length 6,.slice (AZ am) (([[],[],[],([2]:List Int),([2,3]:List Int),([3,4]:List Int)]:List (List Int))).length 6]]) ⟨⟨_,rfl,Ld.many (vs:= [.slice (AZ al) (([([1]:List Int),([2]:List Int),([3,4]:List Int),([4]:List Int),([5]:List Int),([5]:List Int)]:List (List Int))).length 6,.slice (AZ am) (([[],[],[],([2]:List Int),([2,3]:List Int),([3,4]:List Int)]:List (List Int))).length 6]) BY BC (ED (off:=0) 1 bo rfl rfl)⟩,trivial⟩) (Gx 1 bo rfl fun cE=>?_);exact bq ((((((((((O.Ac U).Ac V).Ac Y).Ac Z).Ac ag).Ac ap).Ac av).Ac a0).Ac bi).Ac bn) rfl ⟨(AZ al),6,(AZ am),6,rfl,rfl,(cA.Ah bn),cC⟩ cE
def f72(fuel:Nat):Option ((AI)):= some ([(0,2),(1,4)]:AI)
theorem Pj{fuel:Nat}{r:(AI)}(K:f72 fuel=some r):AL J 72 [] E [] (fun w E' B'=>∃(O:An) (U:Nat),w= sV O r U∧B'= []∧Al Bp E' O U r):=by
 refine A4 func72 fun Q a0 cs H V Y=>?_;unfold f72 at K;refine zg 6 rfl (AB (v:= .agg #[iV 0,iV 2]) rfl (fun ρ h=>CY [(0,1),(1,1)] h Er underlying27 ⟨rfl,Bo type3,rfl,Bo type3,trivial⟩ rfl rfl) ?_);refine AB (v:= .agg #[iV 1,iV 4]) rfl (fun ρ h=>CY [(0,1),(1,1)] h Er underlying27 ⟨rfl,Bo type3,rfl,Bo type3,trivial⟩ rfl rfl) (DC (pp:=Bp) [.agg #[iV 0,iV 2],.agg #[iV 1,iV 4]] [(0,2),(1,4)] rfl rfl rfl underlying25 Cc Er (by decide) rfl rfl rfl ⟨⟨_,_,rfl,rfl,rfl⟩,⟨_,_,rfl,rfl,rfl⟩,trivial⟩ V fun Z g2 ag al=>?_);refine zg 2 rfl (B5 1 ag al rfl fun a1 am ap av=>?_);obtain rfl:=oi K;exact AD func72 rfl rfl (Y am rfl ⟨(AZ Z),2,rfl,rfl,ap⟩ av)
def f73(fuel:Nat):Option ((AI)):= some ([(0,3),(1,3)]:AI)
theorem S9{fuel:Nat}{r:(AI)}(K:f73 fuel=some r):AL J 73 [] E [] (fun w E' B'=>∃(O:An) (U:Nat),w= sV O r U∧B'= []∧Al Bp E' O U r):=by
 refine A4 func73 fun Q a0 cs H V Y=>?_;unfold f73 at K;refine zg 6 rfl (AB (v:= .agg #[iV 0,iV 3]) rfl (fun ρ h=>CY [(0,1),(1,1)] h Er underlying27 ⟨rfl,Bo type3,rfl,Bo type3,trivial⟩ rfl rfl) ?_);refine AB (v:= .agg #[iV 1,iV 3]) rfl (fun ρ h=>CY [(0,1),(1,1)] h Er underlying27 ⟨rfl,Bo type3,rfl,Bo type3,trivial⟩ rfl rfl) (DC (pp:=Bp) [.agg #[iV 0,iV 3],.agg #[iV 1,iV 3]] [(0,3),(1,3)] rfl rfl rfl underlying25 Cc Er (by decide) rfl rfl rfl ⟨⟨_,_,rfl,rfl,rfl⟩,⟨_,_,rfl,rfl,rfl⟩,trivial⟩ V fun Z g2 ag al=>?_);refine zg 2 rfl (B5 1 ag al rfl fun a1 am ap av=>?_);obtain rfl:=oi K;exact AD func73 rfl rfl (Y am rfl ⟨(AZ Z),2,rfl,rfl,ap⟩ av)
end Pal
namespace Pal
open Go Go.Conc Go.Proofs
open Go.Proofs.Tryz
variable {J:Judge Tryz.prog}{E:LH}
def f103(fuel:Nat)(p0:Nat)(p1:Int):Option Bool:= (LI p0 p1).bind fun K=> (Kf K (1)).bind fun O=> some (decide ((((O):Nat):Int)=(((1):Nat):Int)))
theorem O3{p0:Nat}{p1:Int}{fuel:Nat}{r:Bool}(K:f103 fuel p0 p1=some r):AL J 103 [uV p0,iV p1] E [] (fun w E' B'=>w= .bool r∧B'= []):=by
 refine A4 func103 fun Q ap cs H O U=>?_;unfold f103 at K;obtain⟨V,Y,Z⟩:=bs K;refine zg 8 rfl (AB (v:= uV V) rfl (fun ρ h=>XN (h _ _ rfl) (h _ _ rfl) Y) ?_);obtain⟨ag,al,am⟩:=bs Z;refine AB (v:= uV ag) rfl (fun ρ h=>Ow (h _ _ rfl) (h _ _ rfl) al) (zg 3 rfl ?_);obtain rfl:=oi am;exact AD func103 rfl rfl (U Ar rfl ⟨rfl,rfl⟩ O)
def f90(fuel:Nat)(p0:Nat)(p1:Int):Option Nat:= (Lu p1).bind fun K=> (Jl p0 K).bind fun O=> some O
theorem NH{p0:Nat}{p1:Int}{fuel:Nat}{r:Nat}(K:f90 fuel p0 p1=some r):AL J 90 [uV p0,iV p1] E [] (fun w E' B'=>w= uV r∧B'= []):=by
 refine A4 func90 fun Q ap cs H O U=>?_;unfold f90 at K;obtain⟨V,Y,Z⟩:=bs K;refine zg 8 rfl (AB (v:= uV V) rfl (fun ρ h=>Yg (h _ _ rfl) (h _ _ rfl) Y) ?_);obtain⟨ag,al,am⟩:=bs Z;refine AB (v:= uV ag) rfl (fun ρ h=>KG (h _ _ rfl) (h _ _ rfl) al) (zg 2 rfl ?_);obtain rfl:=oi am;exact AD func90 rfl rfl (U Ar rfl ⟨rfl,rfl⟩ O)
def Nj(fuel:Nat)(p0:Nat)(K:(List Int)×Int):Option (Bi ((List Int)×Int) ((List Int))):= if K.2<16 then((f103 fuel p0 K.2).bind fun O=> Option.bind (if O=true then((room K.1 K.2).bind fun U=> some U) else(some K.1)) fun V=> (As (K.2+1)).bind fun Y=> some (.more (V,Y))) else(some (.done K.1))
def f89(fuel:Nat)(p0:Nat):Option ((List Int)):= Option.bind (iter (Nj fuel p0) fuel ([],0)) fun K=> some K
theorem IG{p0:Nat}{fuel:Nat}{r:(List Int)}(a7:f89 fuel p0=some r):AL J 89 [uV p0] E [] (fun w E' B'=>∃(a8:An) (a9:Nat),w= sV a8 r a9∧B'= []∧Al rI E' a8 a9 r):=by
 refine A4 func89 fun Q b3 cs H bp bq=>?_;unfold f89 at a7;obtain⟨bb,br,bu⟩:=bs a7;refine zg 13 rfl (Br (fun L s=>∃(a0:LH) (Y:An) (Z:Nat) (a1:Seg),Jn E H a0 [a1] [(3,sV Y bb Z)] L s (OL 3 rI a0 Y Z a1 bb)) ?_ ?_)
 ·rintro _ _ ⟨a0,Y,Z,a1,rfl,rfl,bv,bw,bx⟩;refine zg 5 rfl (B5 0 bx bw rfl fun b4 bz bA bB=>?_);obtain rfl:=oi bu;exact AD func89 rfl rfl (bq (bv.Ac bz) rfl ⟨Y,Z,rfl,rfl,bA⟩ bB)
 ·intro bC;refine JL.block (CN br (fun L s K=>∃(ag:LH) (O:An) (U:Nat) (V:Seg),Jn E H ag [V] [(0,uV p0),(3,sV O K.1 U),(5,iV K.2)] L s (OL 3 rI ag O U V K.1)) ⟨E,none,0,[],rfl,rfl,Ar,bp,OL.nil⟩ ?_);rintro _ _ K ⟨ag,O,U,V,rfl,rfl,bd,be,a2⟩ bD ⟨b5,a3⟩ bE;have bi:=a3;unfold Nj at bi;refine zg 5 rfl (AN bi (fun bF bG=>?_) (fun bF bH=>?_))
  ·obtain⟨b6,bI,bJ⟩:=bs bG;refine zg 12 rfl (BD (O3 bI) rfl rfl N7 be fun a4 a5 bn=>?_);obtain⟨a6,bK,bL⟩:=bs bJ;refine JL.done (Br (fun L s=>∃(al:LH) (am:An) (ap:Nat) (av:Seg),Jn a4 H al [av] [(0,uV p0),(3,sV am a6 ap),(5,iV K.2)] L s (OL 3 rI al am ap av a6)) ?_ ?_)
   ·rintro _ _ ⟨al,am,ap,av,rfl,rfl,bM,bN,bO⟩;obtain⟨bP,bQ,bR⟩:=bs bL;refine zg 2 rfl (Be bQ rfl rfl rfl ?_);refine zg 2 rfl ?_;obtain rfl:=oi bR;exact Ay (bE _ _ (a6,bP) ⟨al,am,ap,av,rfl,rfl,((bd.Ac a5).Ac bM),bN,bO⟩ a3) rfl
   ·intro bo;refine BF bK (fun bS bT=>?_) (fun bS bU=>?_)
    ·obtain⟨b7,bV,bW⟩:=bs bT;refine zg 3 rfl (JS.app (pp:=rI) (v:=iV K.2) (a:=O) (c:=U) 0 bV rfl rfl rfl rfl (fun _=>rfl) rfl (fun _=>rfl) rfl rfl rfl underlying28 underlying28 underlying28 AU (CR type3) CM rfl (by decide) (by decide) (by decide) (by decide) (a2.Ah a5) rfl bn rfl fun b8 bY bZ b0 b1 b2=>?_);refine zg 2 rfl ?_;obtain rfl:=oi bW;exact Ay (bo _ _ ⟨a4,bY,bZ,b0,rfl,rfl,Ar,b2,b1⟩) rfl
    ·refine JL.skip ?_;obtain rfl:=oi bU;exact Ay (bo _ _ ⟨a4,O,U,V,rfl,rfl,Ar,bn,(a2.Ah a5)⟩) rfl
  ·refine JL.exit rfl ?_;obtain rfl:=oi bH;obtain rfl:=bD _ a3;exact Ay (bC _ _ ⟨ag,O,U,V,rfl,rfl,bd,be,a2⟩) rfl
def ML(fuel:Nat)(p0:List Int)(K:Nat×Int):Option (Bi (Nat×Int) Nat):= if K.2<(p0.length:Int) then((ix p0 K.2).bind fun O=> (f90 fuel K.1 O).bind fun U=> (As (K.2+1)).bind fun V=> some (.more (U,V))) else(some (.done K.1))
def f120(fuel:Nat)(p0:List Int):Option Nat:= Option.bind (iter (ML fuel p0) fuel (0,0)) fun K=> some K
theorem J2{O:An}{c2:Nat}{p0:List Int}(al:Al rI E O c2 p0){fuel:Nat}{r:Nat}(Y:f120 fuel p0=some r):AL J 120 [sV O p0 c2] E [] (fun w E' B'=>w= uV r∧B'= []):=by
 refine A4 func120 fun Q bw cs H am ap=>?_;unfold f120 at Y;refine zg 12 rfl (Bh underlying28 rfl rfl rfl ?_);obtain⟨av,a0,a1⟩:=bs Y;refine zg 2 rfl (C7 [] [(3,uV av)] (fun bx a2 a3=>?_) (fun a4=>?_))
 ·refine zg 5 rfl ?_;obtain rfl:=oi a1;exact AD func120 rfl rfl (ap a2 rfl ⟨rfl,rfl⟩ a3)
 ·refine JL.block (Cy a0 (fun K=> []) (fun K=> [(3,uV K.1),(6,sV O p0 c2),(7,iV (p0.length:Int)),(8,iV K.2)]) Ar am ?_);rintro K bz U Z a5 ⟨bA,V⟩ a6;have ag:=V;unfold ML at ag;refine zg 5 rfl (AN ag (fun a7 a8=>?_) (fun a7 a9=>?_))
  ·obtain⟨bB,bb,bd⟩:=bs a8;refine zg 5 rfl (B9 (al.Ah U) bb underlying28 AU ?_);rintro bC bD _ rfl be;refine BW 0 be Bv rfl rfl rfl ?_;obtain⟨bi,bn,bo⟩:=bs bd;refine zg 5 rfl (BD (NH bn) rfl rfl Me Z fun bE bp bq=>?_);obtain⟨br,bu,bv⟩:=bs bo;refine zg 4 rfl (Be bu rfl rfl rfl ?_);refine zg 2 rfl ?_;obtain rfl:=oi bv;exact a6 (bi,br) (U.Ac bp) bq rfl V
  ·refine JL.exit rfl ?_;obtain rfl:=oi a9;obtain rfl:=a5 _ V;exact a4 U Z rfl
def JI(fuel:Nat)(p0:A1)(p1:Int)(p2:List Int)(p3:Bool)(K:Int):Option (Bi Int (((Option (Int×Int)))⊕(Unit))):= if K<(p2.length:Int) then((ix p2 K).bind fun O=> (As ((p0.1.length:Int) - 1)).bind fun U=> (f101 fuel O 0 U).bind fun V=> if V=true then(some (.done (Sum.inl (some (3,p1))))) else(Option.bind (if O=p1 then(some (!p3)) else(some false)) fun Y=> if Y=true then(some (.done (Sum.inl (some (8,p1))))) else(Option.bind (if 0<K then((As (K - 1)).bind fun Z=> (ix p2 Z).bind fun ag=> some (decide (O≤ag))) else(some false)) fun al=> if al=true then(some (.done (Sum.inl (some (5,p1))))) else((As (K+1)).bind fun am=> some (.more am))))) else(some (.done (Sum.inr ())))
def f136(fuel:Nat)(p0:A1)(p1:Int)(p2:List Int)(p3:Bool):Option ((Option (Int×Int))):= Option.bind (iter (JI fuel p0 p1 p2 p3) fuel 0) fun K=> Sum.elim (fun r=>some r) (fun O=> some none) K
theorem S4{a3:An}{c2:Nat}{a4:An}{a5:Nat}{K:An}{O:Nat}{p0:A1}{p1:Int}{p2:List Int}{p3:Bool}(cr:Al (rL rI) E a3 c2 p0.1)(ct:Al (rL rI) E a4 a5 p0.2)(a6:Al rI E K O p2){fuel:Nat}{r:(Option (Int×Int))}(a7:f136 fuel p0 p1 p2 p3=some r):AL J 136 [.agg #[sV a3 p0.1 c2,sV a4 p0.2 a5],iV p1,sV K p2 O,.bool p3] E [] (fun w E' B'=>∃(a8:Value),w=a8∧B'= []∧H5 183 a8 r):=by
 refine A4 func136 fun Q cu cs H br al=>?_;unfold f136 at a7;refine zg 2 rfl (B4 br fun a0 bu V bv bw=>?_);refine zg 6 rfl (Bh underlying28 rfl rfl rfl ?_);obtain⟨a9,bx,am⟩:=bs a7;refine zg 2 rfl (Br (fun L s=>∃(bb:Unit) (bd:LH),a9=Sum.inr bb∧Jm bu H bd [] [] L s) ?_ ?_)
 ·rintro _ _ ⟨bb,bd,rfl,rfl,rfl,bz,bA⟩;have bB:=elim_inr am;refine zg 4 rfl ?_;obtain rfl:=oi bB;exact AD func136 rfl rfl (al (V.Ac bz) rfl ⟨.nilIface,rfl,rfl,rfl⟩ bA)
 ·intro bC;refine JL.block (Cy bx (fun Y=> []) (fun Y=> [(1,iV p1),(2,sV K p2 O),(3,.bool p3),(4,pV a0 0),(11,sV K p2 O),(12,iV (p2.length:Int)),(13,iV Y)]) Ar bw ?_);rintro Y bD U be ap ⟨cv,Z⟩ bE;have bi:=Z;unfold JI at bi;refine zg 5 rfl (AN bi (fun bF bG=>?_) (fun bF bH=>?_))
  ·obtain⟨bI,bJ,bK⟩:=bs bG;refine zg 6 rfl (B9 (a6.Ah (V.Ac U)) bJ underlying28 AU ?_);rintro cw cy _ rfl bL;refine BW 0 bL Bv rfl rfl rfl (zg 7 rfl ?_);refine JL.fl 0 (bv.Ah U) underlying24 BS Ct ?_;refine Bh underlying22 rfl rfl rfl ?_;obtain⟨cz,bM,bN⟩:=bs bK;refine Ci bM rfl rfl rfl ?_;obtain⟨cA,bO,bP⟩:=bs bN;refine BD (I8 bO) rfl rfl IS be fun cB ag a1=>zg 2 rfl (BF bP (fun bQ bR=>?_) (fun bQ bS=>?_))
   ·refine zg 3 rfl (AB (v:= .agg #[iV 3,iV p1]) rfl (fun ρ h=>CY [(0,1),(1,1)] h FH underlying183 ⟨rfl,Bo type39,rfl,Bo type3,trivial⟩ rfl rfl) ?_);refine AB (v:= .iface 183 (.agg #[iV 3,iV p1])) rfl (fun ρ h=>EW underlying183 (fun _ h=>by cases h) (h _ _ rfl)) (zg 2 rfl ?_);obtain rfl:=oi bR;obtain rfl:=ap _ Z;have bT:=elim_inl am;obtain rfl:=oi bT;exact AD func136 rfl rfl (al ((V.Ac U).Ac ag) rfl ⟨.iface 183 (.agg #[iV 3,iV p1]),rfl,rfl,rfl⟩ a1)
   ·obtain⟨bU,bV,bW⟩:=bs bS;refine zg 6 rfl (Dq 7 1 [] [(1,iV p1),(2,sV K p2 O),(3,.bool p3),(4,pV a0 0),(9,iV Y),(10,iV bI),(11,sV K p2 O),(12,iV (p2.length:Int)),(13,iV Y),(35,.bool bU)] (fun cC av a2=>?_) (fun bn=>?_))
    ·refine zg 2 rfl (BF bW (fun bY bZ=>?_) (fun bY b0=>?_))
     ·refine zg 3 rfl (AB (v:= .agg #[iV 8,iV p1]) rfl (fun ρ h=>CY [(0,1),(1,1)] h FH underlying183 ⟨rfl,Bo type39,rfl,Bo type3,trivial⟩ rfl rfl) ?_);refine AB (v:= .iface 183 (.agg #[iV 8,iV p1])) rfl (fun ρ h=>EW underlying183 (fun _ h=>by cases h) (h _ _ rfl)) (zg 2 rfl ?_);obtain rfl:=oi bZ;obtain rfl:=ap _ Z;have b1:=elim_inl am;obtain rfl:=oi b1;exact AD func136 rfl rfl (al (((V.Ac U).Ac ag).Ac av) rfl ⟨.iface 183 (.agg #[iV 8,iV p1]),rfl,rfl,rfl⟩ a2)
     ·obtain⟨b2,b3,b4⟩:=bs b0;refine zg 5 rfl (Dq 11 1 [] [(1,iV p1),(2,sV K p2 O),(3,.bool p3),(4,pV a0 0),(11,sV K p2 O),(12,iV (p2.length:Int)),(13,iV Y),(50,.bool b2)] (fun cD bo bp=>?_) (fun bq=>?_))
      ·refine zg 2 rfl (BF b4 (fun b5 b6=>?_) (fun b5 b7=>?_))
       ·refine zg 3 rfl (AB (v:= .agg #[iV 5,iV p1]) rfl (fun ρ h=>CY [(0,1),(1,1)] h FH underlying183 ⟨rfl,Bo type39,rfl,Bo type3,trivial⟩ rfl rfl) ?_);refine AB (v:= .iface 183 (.agg #[iV 5,iV p1])) rfl (fun ρ h=>EW underlying183 (fun _ h=>by cases h) (h _ _ rfl)) (zg 2 rfl ?_);obtain rfl:=oi b6;obtain rfl:=ap _ Z;have b8:=elim_inl am;obtain rfl:=oi b8;exact AD func136 rfl rfl (al ((((V.Ac U).Ac ag).Ac av).Ac bo) rfl ⟨.iface 183 (.agg #[iV 5,iV p1]),rfl,rfl,rfl⟩ bp)
       ·obtain⟨b9,ca,cb⟩:=bs b7;refine zg 4 rfl (Be ca rfl rfl rfl ?_);refine zg 2 rfl ?_;obtain rfl:=oi cb;exact bE b9 (((U.Ac ag).Ac av).Ac bo) bp rfl Z
      ·refine D7 42 b3 (fun cc cd=>?_) (fun cc ce=>?_)
       ·obtain⟨cE,cf,cg⟩:=bs cd;refine zg 3 rfl (Ci cf rfl rfl rfl ?_);obtain⟨cF,ci,ck⟩:=bs cg;refine B9 (a6.Ah (((V.Ac U).Ac ag).Ac av)) ci underlying28 AU ?_;rintro cG cH _ rfl cm;refine BW 0 cm Bv rfl rfl rfl (zg 2 rfl ?_);obtain rfl:=oi ck;exact bq Ar a2 rfl
       ·refine zg 8 rfl ?_;obtain rfl:=oi ce;exact bq Ar a2 rfl
    ·refine D7 32 bV (fun cn co=>?_) (fun cn cp=>?_)
     ·refine zg 1 rfl (AB (v:= .bool (!p3)) rfl (fun ρ h=>Yl.not (h _ _ rfl)) ?_);refine zg 1 rfl ?_;obtain rfl:=oi co;exact bn Ar a1 rfl
     ·refine zg 3 rfl ?_;obtain rfl:=oi cp;exact bn Ar a1 rfl
  ·refine JL.exit rfl ?_;obtain rfl:=oi bH;have cq:a9=(Sum.inr ()):=(ap _ Z).symm;exact Ay (bC _ _ ⟨(),bD,cq,rfl,rfl,U,be⟩) rfl
def JK(fuel:Nat)(p0:A1)(K:Int):Option (Bi Int (((Option (Int×Int)))⊕(Unit))):= if K<(p0.1.length:Int) then((ix p0.1 K).bind fun O=> if(O.length:Int)=0 then(some (.done (Sum.inl (some (7,K))))) else(if 3<(O.length:Int) then(some (.done (Sum.inl (some (6,K))))) else((f136 fuel p0 K O true).bind fun U=> if U.isSome=true then(some (.done (Sum.inl U))) else((ix p0.2 K).bind fun Y=> if 3<(Y.length:Int) then(some (.done (Sum.inl (some (6,K))))) else((ix p0.2 K).bind fun Z=> (f136 fuel p0 K Z false).bind fun V=> if V.isSome=true then(some (.done (Sum.inl V))) else((As (K+1)).bind fun ag=> some (.more ag))))))) else(some (.done (Sum.inr ())))
def f113(fuel:Nat)(p0:A1):Option ((Option (Int×Int))):= if(p0.1.length:Int)=0 then(some (some (7,0))) else(if 8<(p0.1.length:Int) then(some (some (6,0))) else(if(p0.2.length:Int)≠(p0.1.length:Int) then(some (some (9,0))) else(Option.bind (iter (JK fuel p0) fuel 0) fun K=> Sum.elim (fun r=>some r) (fun O=> some none) K)))
theorem S2{a1:An}{c2:Nat}{a4:An}{a5:Nat}{p0:A1}(a2:Al (rL rI) E a1 c2 p0.1)(ap:Al (rL rI) E a4 a5 p0.2){fuel:Nat}{r:(Option (Int×Int))}(a6:f113 fuel p0=some r):AL J 113 [.agg #[sV a1 p0.1 c2,sV a4 p0.2 a5]] E [] (fun w E' B'=>∃(a7:Value),w=a7∧B'= []∧H5 183 a7 r):=by
 refine A4 func113 fun Q cB cs H bp Y=>?_;unfold f113 at a6;refine zg 2 rfl (B4 bp fun bq br O ag av=>?_);refine zg 5 rfl (JL.fl 0 ag underlying24 BS Ct ?_);refine Bh underlying22 rfl rfl rfl (zg 9 rfl ?_);refine AN a6 (fun bu bv=>?_) (fun bu bw=>?_)
 ·refine zg 2 rfl (AB (v:= .agg #[iV 7,iV 0]) rfl (fun ρ h=>CY [(0,1),(1,1)] h FH underlying183 ⟨rfl,Bo type39,rfl,Bo type3,trivial⟩ rfl rfl) ?_);refine AB (v:= .iface 183 (.agg #[iV 7,iV 0])) rfl (fun ρ h=>EW underlying183 (fun _ h=>by cases h) (h _ _ rfl)) (zg 2 rfl ?_);obtain rfl:=oi bv;exact AD func113 rfl rfl (Y O rfl ⟨.iface 183 (.agg #[iV 7,iV 0]),rfl,rfl,rfl⟩ av)
 ·refine zg 6 rfl (AN bw (fun bx bz=>?_) (fun bx bA=>?_))
  ·refine zg 2 rfl (AB (v:= .agg #[iV 6,iV 0]) rfl (fun ρ h=>CY [(0,1),(1,1)] h FH underlying183 ⟨rfl,Bo type39,rfl,Bo type3,trivial⟩ rfl rfl) ?_);refine AB (v:= .iface 183 (.agg #[iV 6,iV 0])) rfl (fun ρ h=>EW underlying183 (fun _ h=>by cases h) (h _ _ rfl)) (zg 2 rfl ?_);obtain rfl:=oi bz;exact AD func113 rfl rfl (Y O rfl ⟨.iface 183 (.agg #[iV 6,iV 0]),rfl,rfl,rfl⟩ av)
  ·refine zg 2 rfl (JL.fl 1 ag underlying24 BS Ct ?_);refine Bh underlying22 rfl rfl rfl (zg 4 rfl ?_);refine AN bA (fun bB bC=>?_) (fun bB bD=>?_)
   ·refine zg 2 rfl (AB (v:= .agg #[iV 9,iV 0]) rfl (fun ρ h=>CY [(0,1),(1,1)] h FH underlying183 ⟨rfl,Bo type39,rfl,Bo type3,trivial⟩ rfl rfl) ?_);refine AB (v:= .iface 183 (.agg #[iV 9,iV 0])) rfl (fun ρ h=>EW underlying183 (fun _ h=>by cases h) (h _ _ rfl)) (zg 2 rfl ?_);obtain rfl:=oi bC;exact AD func113 rfl rfl (Y O rfl ⟨.iface 183 (.agg #[iV 9,iV 0]),rfl,rfl,rfl⟩ av)
   ·refine zg 5 rfl (JL.fl 0 ag underlying24 BS Ct ?_);refine Bh underlying22 rfl rfl rfl ?_;obtain⟨a8,bE,al⟩:=bs bD;refine zg 2 rfl (Br (fun L s=>∃(a9:Unit) (bb:LH),a8=Sum.inr a9∧Jm br H bb [] [] L s) ?_ ?_)
    ·rintro _ _ ⟨a9,bb,rfl,rfl,rfl,bF,bG⟩;have bH:=elim_inr al;refine zg 4 rfl ?_;obtain rfl:=oi bH;exact AD func113 rfl rfl (Y (O.Ac bF) rfl ⟨.nilIface,rfl,rfl,rfl⟩ bG)
    ·intro bI;refine JL.block (Cy bE (fun U=> []) (fun U=> [(1,pV bq 0),(30,sV a1 p0.1 c2),(31,iV (p0.1.length:Int)),(32,iV U)]) Ar av ?_);rintro U bJ K a0 am ⟨cC,Z⟩ bK;have bd:=Z;unfold JK at bd;refine zg 5 rfl (AN bd (fun bL bM=>?_) (fun bL bN=>?_))
     ·obtain⟨cD,bO,bP⟩:=bs bM;refine zg 6 rfl (B9 (a2.Ah (O.Ac K)) bO underlying22 BV ?_);rintro cE cF _ ⟨cG,cH,rfl,bQ⟩ bR;refine BW 0 bR CQ rfl rfl rfl (zg 7 rfl ?_);refine Bh underlying28 rfl rfl rfl (zg 2 rfl ?_);refine AN bP (fun bS bT=>?_) (fun bS bU=>?_)
      ·refine zg 3 rfl (AB (v:= .agg #[iV 7,iV U]) rfl (fun ρ h=>CY [(0,1),(1,1)] h FH underlying183 ⟨rfl,Bo type39,rfl,Bo type3,trivial⟩ rfl rfl) ?_);refine AB (v:= .iface 183 (.agg #[iV 7,iV U])) rfl (fun ρ h=>EW underlying183 (fun _ h=>by cases h) (h _ _ rfl)) (zg 2 rfl ?_);obtain rfl:=oi bT;obtain rfl:=am _ Z;have bV:=elim_inl al;obtain rfl:=oi bV;exact AD func113 rfl rfl (Y (O.Ac K) rfl ⟨.iface 183 (.agg #[iV 7,iV U]),rfl,rfl,rfl⟩ a0)
      ·refine zg 5 rfl (Bh underlying28 rfl rfl rfl ?_);refine zg 2 rfl (AN bU (fun bW bY=>?_) (fun bW bZ=>?_))
       ·refine zg 3 rfl (AB (v:= .agg #[iV 6,iV U]) rfl (fun ρ h=>CY [(0,1),(1,1)] h FH underlying183 ⟨rfl,Bo type39,rfl,Bo type3,trivial⟩ rfl rfl) ?_);refine AB (v:= .iface 183 (.agg #[iV 6,iV U])) rfl (fun ρ h=>EW underlying183 (fun _ h=>by cases h) (h _ _ rfl)) (zg 2 rfl ?_);obtain rfl:=oi bY;obtain rfl:=am _ Z;have b0:=elim_inl al;obtain rfl:=oi b0;exact AD func113 rfl rfl (Y (O.Ac K) rfl ⟨.iface 183 (.agg #[iV 6,iV U]),rfl,rfl,rfl⟩ a0)
       ·refine zg 4 rfl (BQ (ag.Ah K) BY BC rfl rfl ?_);obtain⟨b1,b2,b3⟩:=bs bZ;refine zg 2 rfl (BL (S4 (a2.Ah (O.Ac K)) (ap.Ah (O.Ac K)) bQ b2) rfl rfl (AR func136 rfl) a0 ?_);rintro b4 cI _ V ⟨_,rfl,rfl,be⟩ a3;refine zg 5 rfl (AB (v:= .bool b1.isSome) rfl (fun ρ h=>Oz underlying149 be (h _ _ rfl) (h _ _ rfl)) ?_);refine JL.done (BF b3 (fun b5 b6=>?_) (fun b5 b7=>?_))
        ·refine zg 5 rfl ?_;obtain rfl:=oi b6;obtain rfl:=am _ Z;have b8:=elim_inl al;obtain rfl:=oi b8;exact AD func113 rfl rfl (Y ((O.Ac K).Ac V) rfl ⟨b4,rfl,rfl,be⟩ a3)
        ·refine zg 4 rfl (JL.fl 1 (ag.Ah (K.Ac V)) underlying24 BS Ct ?_);obtain⟨cJ,b9,ca⟩:=bs b7;refine zg 1 rfl (B9 (ap.Ah ((O.Ac K).Ac V)) b9 underlying22 BV ?_);rintro cK cM _ ⟨cN,cO,rfl,cP⟩ cb;refine BW 0 cb CQ rfl rfl rfl (Bh underlying28 rfl rfl rfl ?_);refine zg 2 rfl (AN ca (fun cc cd=>?_) (fun cc ce=>?_))
         ·refine zg 3 rfl (AB (v:= .agg #[iV 6,iV U]) rfl (fun ρ h=>CY [(0,1),(1,1)] h FH underlying183 ⟨rfl,Bo type39,rfl,Bo type3,trivial⟩ rfl rfl) ?_);refine AB (v:= .iface 183 (.agg #[iV 6,iV U])) rfl (fun ρ h=>EW underlying183 (fun _ h=>by cases h) (h _ _ rfl)) (zg 2 rfl ?_);obtain rfl:=oi cd;obtain rfl:=am _ Z;have cf:=elim_inl al;obtain rfl:=oi cf;exact AD func113 rfl rfl (Y ((O.Ac K).Ac V) rfl ⟨.iface 183 (.agg #[iV 6,iV U]),rfl,rfl,rfl⟩ a3)
         ·refine zg 2 rfl (CZ 7 fun ht=>?_);refine Fb 0 ht (ag.Ah (K.Ac V)) BY BC rfl rfl rfl (Ch 1 ht rfl rfl ?_);refine Ca 2 ht underlying24 BS rfl rfl rfl rfl (Co 3 ht 1 (ag.Ah (K.Ac V)) Ct rfl rfl rfl rfl ?_);refine Ch 4 ht rfl rfl ?_;obtain⟨cQ,cg,ci⟩:=bs ce;refine Cv 5 (ap.Ah ((O.Ac K).Ac V)) cg ht underlying22 BV ?_;rintro cR cT _ ⟨cV,cW,rfl,ck⟩ cm;refine Co 6 ht 0 cm CQ rfl rfl rfl rfl (Cg [7,8] ?_);obtain⟨cn,co,cp⟩:=bs ci;refine BL (S4 (a2.Ah ((O.Ac K).Ac V)) (ap.Ah ((O.Ac K).Ac V)) ck co) rfl rfl (AR func136 rfl) a3 ?_;rintro cq cX _ bi ⟨_,rfl,rfl,bn⟩ bo;refine zg 5 rfl (AB (v:= .bool cn.isSome) rfl (fun ρ h=>Oz underlying149 bn (h _ _ rfl) (h _ _ rfl)) ?_);refine JL.done (BF cp (fun cr ct=>?_) (fun cr cu=>?_))
          ·refine zg 5 rfl ?_;obtain rfl:=oi ct;obtain rfl:=am _ Z;have cv:=elim_inl al;obtain rfl:=oi cv;exact AD func113 rfl rfl (Y (((O.Ac K).Ac V).Ac bi) rfl ⟨cq,rfl,rfl,bn⟩ bo)
          ·obtain⟨cw,cy,cz⟩:=bs cu;refine zg 3 rfl (Be cy rfl rfl rfl ?_);refine zg 2 rfl ?_;obtain rfl:=oi cz;exact bK cw ((K.Ac V).Ac bi) bo rfl Z
     ·refine JL.exit rfl ?_;obtain rfl:=oi bN;have cA:a8=(Sum.inr ()):=(am _ Z).symm;exact Ay (bI _ _ ⟨(),bJ,cA,rfl,rfl,K,a0⟩) rfl
def JE(fuel:Nat)(p0:A1)(p1:AI)(K:Int):Option (Bi Int (((Option (Int×Int)))⊕(Unit))):= if K<(p1.length:Int) then((ix p1 K).bind fun O=> (f101 fuel O.1 0 6).bind fun U=> if U=true then(some (.done (Sum.inl (some (1,K))))) else(Option.bind (if 0<K then((As (K - 1)).bind fun V=> (ix p1 V).bind fun Y=> some (decide (O.1<Y.1))) else(some false)) fun Z=> if Z=true then(some (.done (Sum.inl (some (5,K))))) else((As ((p0.1.length:Int) - 1)).bind fun ag=> (f101 fuel O.2 0 ag).bind fun al=> if al=true then(some (.done (Sum.inl (some (3,K))))) else((As (K+1)).bind fun am=> some (.more am))))) else(some (.done (Sum.inr ())))
def f116(fuel:Nat)(p0:A1)(p1:AI):Option ((Option (Int×Int))):= if 4<(p1.length:Int) then(some (some (6,0))) else(Option.bind (iter (JE fuel p0 p1) fuel 0) fun K=> Sum.elim (fun r=>some r) (fun O=> some none) K)
theorem YP{a3:An}{c2:Nat}{a4:An}{a5:Nat}{Y:An}{Z:Nat}{p0:A1}{p1:AI}(cu:Al (rL rI) E a3 c2 p0.1)(cv:Al (rL rI) E a4 a5 p0.2)(a6:Al Bp E Y Z p1){fuel:Nat}{r:(Option (Int×Int))}(a7:f116 fuel p0 p1=some r):AL J 116 [.agg #[sV a3 p0.1 c2,sV a4 p0.2 a5],sV Y p1 Z] E [] (fun w E' B'=>∃(a8:Value),w=a8∧B'= []∧H5 183 a8 r):=by
 refine A4 func116 fun Q cw cs H bv am=>?_;unfold f116 at a7;refine zg 2 rfl (B4 bv fun a9 bw V bx bb=>?_);refine zg 6 rfl (Bh underlying25 rfl rfl rfl ?_);refine zg 2 rfl (AN a7 (fun bz bA=>?_) (fun bz bB=>?_))
 ·refine zg 2 rfl (AB (v:= .agg #[iV 6,iV 0]) rfl (fun ρ h=>CY [(0,1),(1,1)] h FH underlying183 ⟨rfl,Bo type39,rfl,Bo type3,trivial⟩ rfl rfl) ?_);refine AB (v:= .iface 183 (.agg #[iV 6,iV 0])) rfl (fun ρ h=>EW underlying183 (fun _ h=>by cases h) (h _ _ rfl)) (zg 2 rfl ?_);obtain rfl:=oi bA;exact AD func116 rfl rfl (am V rfl ⟨.iface 183 (.agg #[iV 6,iV 0]),rfl,rfl,rfl⟩ bb)
 ·refine zg 5 rfl (Bh underlying25 rfl rfl rfl ?_);obtain⟨bd,bC,ap⟩:=bs bB;refine zg 2 rfl (Br (fun L s=>∃(be:Unit) (bi:LH),bd=Sum.inr be∧Jm bw H bi [] [] L s) ?_ ?_)
  ·rintro _ _ ⟨be,bi,rfl,rfl,rfl,bD,bE⟩;have bF:=elim_inr ap;refine zg 4 rfl ?_;obtain rfl:=oi bF;exact AD func116 rfl rfl (am (V.Ac bD) rfl ⟨.nilIface,rfl,rfl,rfl⟩ bE)
  ·intro bG;refine JL.block (Cy bC (fun K=> []) (fun K=> [(1,sV Y p1 Z),(2,pV a9 0),(12,sV Y p1 Z),(13,iV (p1.length:Int)),(14,iV K)]) Ar bb ?_);rintro K bH O bn av ⟨cy,ag⟩ bI;have bo:=ag;unfold JE at bo;refine zg 5 rfl (AN bo (fun bJ bK=>?_) (fun bJ bL=>?_))
   ·obtain⟨cz,bM,bN⟩:=bs bK;refine zg 6 rfl (B9 (a6.Ah (V.Ac O)) bM underlying25 Cc ?_);rintro cA cB _ ⟨_,_,rfl,rfl,rfl⟩ bO;refine BQ bO Gt Cc rfl rfl (Cz bn Er fun bP bQ=>?_);refine zg 1 rfl (BM 0 bQ Cc fun bR=>?_);refine CV 0 bR rfl fun cC al a0 bS=>zg 4 rfl (JL.fl 0 a0 underlying27 AU Bv ?_);obtain⟨cD,bT,bU⟩:=bs bN;refine BD (I8 bT) rfl rfl IS bS fun bV U a1=>zg 2 rfl (BF bU (fun bW bY=>?_) (fun bW bZ=>?_))
    ·refine zg 3 rfl (AB (v:= .agg #[iV 1,iV K]) rfl (fun ρ h=>CY [(0,1),(1,1)] h FH underlying183 ⟨rfl,Bo type39,rfl,Bo type3,trivial⟩ rfl rfl) ?_);refine AB (v:= .iface 183 (.agg #[iV 1,iV K])) rfl (fun ρ h=>EW underlying183 (fun _ h=>by cases h) (h _ _ rfl)) (zg 2 rfl ?_);obtain rfl:=oi bY;obtain rfl:=av _ ag;have b0:=elim_inl ap;obtain rfl:=oi b0;exact AD func116 rfl rfl (am (((V.Ac O).Ac al).Ac U) rfl ⟨.iface 183 (.agg #[iV 1,iV K]),rfl,rfl,rfl⟩ a1)
    ·refine JL.seq (CZ 13 fun ht=>?_);refine A2 ht rfl [0,1,2] rfl ?_;obtain⟨b1,bp,b2⟩:=bs bZ;refine EO 1 #[true,true,true,true,true,true,true,true,true,true,true,true,true,false] (fun L s=>L= [(1,sV Y p1 Z),(2,pV a9 0),(5,iV K),(6,pV bP 0),(12,sV Y p1 Z),(13,iV (p1.length:Int)),(14,iV K),(39,.bool b1)]∧s=Ao bV H [[],[]]) ?_ ?_
     ·rintro _ _ ⟨rfl,rfl⟩;refine Cg [13] (zg 2 rfl ?_);refine BF b2 (fun b3 b4=>?_) (fun b3 b5=>?_)
      ·refine zg 3 rfl (AB (v:= .agg #[iV 5,iV K]) rfl (fun ρ h=>CY [(0,1),(1,1)] h FH underlying183 ⟨rfl,Bo type39,rfl,Bo type3,trivial⟩ rfl rfl) ?_);refine AB (v:= .iface 183 (.agg #[iV 5,iV K])) rfl (fun ρ h=>EW underlying183 (fun _ h=>by cases h) (h _ _ rfl)) (zg 2 rfl ?_);obtain rfl:=oi b4;obtain rfl:=av _ ag;have b6:=elim_inl ap;obtain rfl:=oi b6;exact AD func116 rfl rfl (am (((V.Ac O).Ac al).Ac U) rfl ⟨.iface 183 (.agg #[iV 5,iV K]),rfl,rfl,rfl⟩ a1)
      ·refine zg 2 rfl (JL.fl 1 (a0.Ah U) underlying27 AU Bv ?_);refine JL.fl 0 (bx.Ah ((O.Ac al).Ac U)) underlying24 BS Ct ?_;refine Bh underlying22 rfl rfl rfl ?_;obtain⟨cE,b7,b8⟩:=bs b5;refine Ci b7 rfl rfl rfl ?_;obtain⟨cF,b9,ca⟩:=bs b8;refine BD (I8 b9) rfl rfl IS a1 fun cG bq br=>zg 2 rfl (BF ca (fun cb cc=>?_) (fun cb cd=>?_))
       ·refine zg 3 rfl (AB (v:= .agg #[iV 3,iV K]) rfl (fun ρ h=>CY [(0,1),(1,1)] h FH underlying183 ⟨rfl,Bo type39,rfl,Bo type3,trivial⟩ rfl rfl) ?_);refine AB (v:= .iface 183 (.agg #[iV 3,iV K])) rfl (fun ρ h=>EW underlying183 (fun _ h=>by cases h) (h _ _ rfl)) (zg 2 rfl ?_);obtain rfl:=oi cc;obtain rfl:=av _ ag;have ce:=elim_inl ap;obtain rfl:=oi ce;exact AD func116 rfl rfl (am ((((V.Ac O).Ac al).Ac U).Ac bq) rfl ⟨.iface 183 (.agg #[iV 3,iV K]),rfl,rfl,rfl⟩ br)
       ·obtain⟨cf,cg,ci⟩:=bs cd;refine zg 4 rfl (Be cg rfl rfl rfl ?_);refine zg 2 rfl ?_;obtain rfl:=oi ci;exact bI cf (((O.Ac al).Ac U).Ac bq) br rfl ag
     ·intro bu;refine FI (q:=0<K) (i:=29) rfl (fun a2=>?_) (fun a2=>?_)
      ·have ck:=ip bp a2;refine Ca 3 ht underlying27 AU rfl rfl rfl rfl ?_;refine Co 4 ht 0 (a0.Ah U) Bv rfl rfl rfl rfl ?_;refine A2 ht rfl [5,6] rfl ?_;obtain⟨cH,cm,cn⟩:=bs ck;refine Bx 7 ht rfl rfl (fun ρ h s' hs=>C5 (h _ _ rfl) (h _ _ rfl) cm) ?_;obtain⟨cI,co,cp⟩:=bs cn;refine Cv 8 (a6.Ah (((V.Ac O).Ac al).Ac U)) co ht underlying25 Cc ?_;rintro cJ cK _ ⟨_,_,rfl,rfl,rfl⟩ cq;refine Ca 9 ht underlying27 AU rfl rfl rfl rfl ?_;refine Co 10 ht 0 cq Bv rfl rfl rfl rfl ?_;refine A2 ht rfl [11,12] rfl ?_;obtain rfl:=oi cp;refine C4 ?_ (bu _ _ ⟨rfl,rfl⟩);exact⟨rfl,rfl,rfl,rfl,rfl,rfl,rfl,rfl,trivial⟩
      ·have cr:=im bp a2;refine A2 ht rfl [3,4,5,6,7,8,9,10,11,12] rfl ?_;obtain rfl:=oi cr;refine C4 ?_ (bu _ _ ⟨rfl,rfl⟩);exact⟨rfl,rfl,rfl,rfl,rfl,rfl,rfl,rfl,trivial⟩
   ·refine JL.exit rfl ?_;obtain rfl:=oi bL;have ct:bd=(Sum.inr ()):=(av _ ag).symm;exact Ay (bG _ _ ⟨(),bH,ct,rfl,rfl,O,bn⟩) rfl
end Pal
namespace Pal
open Go Go.Conc Go.Proofs Go.Extern
abbrev Em(t:Nat):Value:= .pointer (some ⟨1,t,none⟩)
abbrev H6(t:Nat):Value:= .iface 240 (.agg #[Em t])
section
variable {s:St}{X:Halt→St→Prop}
theorem T3{Q:Value→St→Prop}(t:Addr):lp Tryz.prog (ReflectliteValue.unpack (.iface 185 (.pointer (some t)))) s Q X=(s.q=false∧∀r,s.E r=none→s.H r=none→Q (.agg #[Em 185,.pointer (some ⟨r,0,none⟩),.int .u64 150]) (s.upd r (.cells #[.pointer (some t)] 185 (0,0)))):=by kernel_rfl
theorem T8{Q:Value→St→Prop}(c a:Int):lp Tryz.prog (ReflectliteValue.unpack (.iface 183 (.agg #[iV c,iV a]))) s Q X=(s.q=false∧∀r,s.E r=none→s.H r=none→Q (.agg #[Em 183,.pointer (some ⟨r,0,none⟩),.int .u64 153]) (s.upd r (.cells #[iV c,iV a] 183 (0,0)))):=by kernel_rfl
theorem WM{Q:Value→St→Prop}(a:Addr):lp Tryz.prog (ReflectliteValue.methodAny (ReflectliteValue.valueError "reflectlite.Value.Type" 0) (fun t _ _ _=>ReflectliteType.toType t) #[.agg #[Em 185,.pointer (some a),.int .u64 150]]) s Q X=Q (H6 185) s:=by kernel_rfl
theorem Uy{Q:Value→St→Prop}(v:Value):lp Tryz.prog (ReflectliteType.typeOf #[.iface 183 v]) s Q X=Q (H6 183) s:=by kernel_rfl
theorem Su{Q:FuncId×Value→St→Prop}(h:Value):lp Tryz.prog (Go.method (Tryz.prog.types.size+Made.depth) 240 (.agg #[h]) "Kind") s Q X=Q (216,h) s:=by kernel_rfl
theorem YC{Q:FuncId×Value→St→Prop}(h:Value):lp Tryz.prog (Go.method (Tryz.prog.types.size+Made.depth) 240 (.agg #[h]) "Elem") s Q X=Q (227,.agg #[h]) s:=by kernel_rfl
theorem Z9{Q:FuncId×Value→St→Prop}(h:Value):lp Tryz.prog (Go.method (Tryz.prog.types.size+Made.depth) 240 (.agg #[h]) "Implements") s Q X=Q (228,.agg #[h]) s:=by kernel_rfl
theorem aV{Q:FuncId×Value→St→Prop}(h:Value):lp Tryz.prog (Go.method (Tryz.prog.types.size+Made.depth) 240 (.agg #[h]) "AssignableTo") s Q X=Q (225,.agg #[h]) s:=by kernel_rfl
theorem V0{Q:Value→St→Prop}:lp Tryz.prog ((ReflectliteType.abiMethod fun t=>(fun a:Nat=>Value.int IntKind.u8 (a:Int))<$>Rtype.kind t) #[Em 185]) s Q X=Q (.int .u8 22) s:=by kernel_rfl
theorem Wl{Q:Value→St→Prop}:lp Tryz.prog ((ReflectliteType.abiMethod fun t=>(fun a:Nat=>Value.int IntKind.u8 (a:Int))<$>Rtype.kind t) #[Em 183]) s Q X=Q (.int .u8 25) s:=by kernel_rfl
theorem VM{Q:Value→St→Prop}:lp Tryz.prog (ReflectliteType.method ReflectliteType.elem #[.agg #[Em 185]]) s Q X=Q (H6 183) s:=by kernel_rfl
theorem VE{Q:Value→St→Prop}:lp Tryz.prog (ReflectliteType.relation "Implements" ReflectliteType.implements_ #[.agg #[Em 183],H6 149]) s Q X=Q (.bool true) s:=by kernel_rfl
theorem XG{Q:Value→St→Prop}:lp Tryz.prog (ReflectliteType.relation "AssignableTo" ReflectliteType.assignableTo #[.agg #[Em 183],H6 183]) s Q X=Q (.bool true) s:=by kernel_rfl
theorem QM{Q:Option (TypeId×Addr×Nat)→St→Prop}(a:Addr):lp Tryz.prog (ReflectliteValue.parts (.agg #[Em 185,.pointer (some a),.int .u64 150])) s Q X=Q (some (185,a,150)) s:=by kernel_rfl
theorem UW{Q:Option (TypeId×Addr×Nat)→St→Prop}(a:Addr):lp Tryz.prog (ReflectliteValue.parts (.agg #[Em 183,.pointer (some a),.int .u64 153])) s Q X=Q (some (183,a,153)) s:=by kernel_rfl
theorem Uj{Q:Option (TypeId×Addr×Nat)→St→Prop}(a:Addr):lp Tryz.prog (ReflectliteValue.parts (.agg #[Em 183,.pointer (some a),.int .u64 409])) s Q X=Q (some (183,a,409)) s:=by kernel_rfl
theorem X5{Q:Option TypeId→St→Prop}:lp Tryz.prog (Rtype.elem? 185) s Q X=Q (some 183) s:=by kernel_rfl
theorem Zd{Q:Value→St→Prop}(p:Addr):lp Tryz.prog (ReflectliteValue.mk 183 p ReflectliteValue.flagAddr) s Q X=Q (.agg #[Em 183,.pointer (some p),.int .u64 409]) s:=by kernel_rfl
theorem Yb{Q:Bool→St→Prop}:lp Tryz.prog (Rtype.directlyAssignable 183 183) s Q X=Q true s:=by kernel_rfl
theorem Q1{Q:Value→St→Prop}(a:Addr):lp Tryz.prog (loadVar 185 a) s Q X=(Mode.plain= .plain∧∃v,s.cell? a=some v∧Q v s):=by kernel_rfl
theorem Wr{Q:Value→St→Prop}(a:Addr):lp Tryz.prog (loadVar 183 a) s Q X=(Mode.plain= .plain∧∃v,s.cell? (a.add 0)=some v∧Mode.plain= .plain∧∃w,s.cell? (a.add 1)=some w∧Q (.agg #[v,w]) s):=by kernel_rfl
end
theorem SV:CH Tryz.prog 164 (fun args=>ReflectliteValue.unpack (args.getD 0 (.tuple #[]))):=⟨⟨_,Tryz.func164,by kernel_rfl,by kernel_rfl,by kernel_rfl,by kernel_rfl⟩⟩
theorem YT:CH Tryz.prog 165 (ReflectliteValue.methodAny (ReflectliteValue.valueError "reflectlite.Value.Type" 0) (fun t _ _ _=>ReflectliteType.toType t)):=⟨⟨_,Tryz.func165,by kernel_rfl,by kernel_rfl,by kernel_rfl,by kernel_rfl⟩⟩
theorem YF:CH Tryz.prog 166 (ReflectliteValue.method (ReflectliteValue.valueError "reflectlite.Value.IsNil" 0) ReflectliteValue.isNil):=⟨⟨_,Tryz.func166,by kernel_rfl,by kernel_rfl,by kernel_rfl,by kernel_rfl⟩⟩
theorem Y4:CH Tryz.prog 188 ReflectliteType.typeOf:=⟨⟨_,Tryz.func188,by kernel_rfl,by kernel_rfl,by kernel_rfl,by kernel_rfl⟩⟩
theorem Zb:CH Tryz.prog 189 (ReflectliteValue.method (ReflectliteValue.valueError "reflectlite.Value.Elem" 0) ReflectliteValue.elem):=⟨⟨_,Tryz.func189,by kernel_rfl,by kernel_rfl,by kernel_rfl,by kernel_rfl⟩⟩
theorem ZH:CH Tryz.prog 190 ReflectliteValue.set:=⟨⟨_,Tryz.func190,by kernel_rfl,by kernel_rfl,by kernel_rfl,by kernel_rfl⟩⟩
theorem SS:CH Tryz.prog 216 (ReflectliteType.abiMethod fun t=>(fun a:Nat=>Value.int IntKind.u8 (a:Int))<$>Rtype.kind t):=⟨⟨_,Tryz.func216,by kernel_rfl,by kernel_rfl,by kernel_rfl,by kernel_rfl⟩⟩
theorem ab:CH Tryz.prog 225 (ReflectliteType.relation "AssignableTo" ReflectliteType.assignableTo):=⟨⟨_,Tryz.func225,by kernel_rfl,by kernel_rfl,by kernel_rfl,by kernel_rfl⟩⟩
theorem Zr:CH Tryz.prog 227 (ReflectliteType.method ReflectliteType.elem):=⟨⟨_,Tryz.func227,by kernel_rfl,by kernel_rfl,by kernel_rfl,by kernel_rfl⟩⟩
theorem YS:CH Tryz.prog 228 (ReflectliteType.relation "Implements" ReflectliteType.implements_):=⟨⟨_,Tryz.func228,by kernel_rfl,by kernel_rfl,by kernel_rfl,by kernel_rfl⟩⟩
end Pal
namespace Pal
open Go Go.Conc
section
variable {P:Program}{J:Judge P}{Q:Goroutine→St→Prop}{b:Frame}{n:Nat}{ds:List Deferred}{ops:Array Oper}{k:List Item}{cs:List Frame}{m fuel:Nat}{D:Nat→Bool}{listed:Array Bool}{L:Env}{s:St}{E E' H:LH}{S:List Seg}
variable {d:Option Tmp}{x y:Operand}{t u ty e:TypeId}{p:String}{af:Array Edge}{g:Option (Nat×Bool)}{v:Value}{i:Nat}{kd:IntKind}
end
end Pal
namespace Pal
open Go Go.Conc
section
variable {P:Program}{J:Judge P}{Q:Goroutine→St→Prop}{b:Frame}{n:Nat}{L:Env}{ds:List Deferred}{k:List Item}{cs:List Frame}{s:St}{ops:Array Oper}{i:Nat}{rest:List Nat}{v:Value}
variable {d:Option Tmp}{x:Operand}{ty:TypeId}{p:String}{af:Array Edge}{g:Option (Nat×Bool)}
theorem QH{f:FuncId}{e:Array Value→Sem Value}{args:Array Value}{Q:Next→St→Prop}{X:Halt→St→Prop}(he:CH P f e)(h:lp P (e args) s (fun v s'=>Q (.value v) s') X):lp P (callFunc f args) s Q X:=by
 obtain⟨fn,K,O,U,V,Y⟩:=he.h;unfold callFunc;simp only [bind,Sem.bind,program,lp,K,O,U,Bool.false_eq_true,if_false,if_true,mark,V,Y];refine⟨.inr ⟨f,rfl⟩,?_⟩;exact AH _ _ (Dw _ h (fun v s' Z=>Z) (fun _ _ ag=>ag))
theorem Je{f:FuncId}{e:Array Value→Sem Value}{args:Array Operand}{ats:Array TypeId}{vs:List Value}(he:CH P f e)(O:ops[i]? =some ⟨d,.call ⟨.value (.func f),args,ats⟩,ty,p,af,g⟩)(hw:Bd L ops ⟨d,.call ⟨.value (.func f),args,ats⟩,ty,p,af,g⟩=some true)(U:CP b n ⟨d,.call ⟨.value (.func f),args,ats⟩,ty,p,af,g⟩=true)(V:evs L args.toList=some vs)
  (h:lp P (e vs.toArray) s (fun v s'=>JL J Q b n (AF L d v) ds (.inRegion ops rest::k) cs s') (fun _ _=>False)):JL J Q b n L ds (.inRegion ops (i::rest)::k) cs s:=by
 refine JL.op O hw U fun ρ K=>?_;have Y:args.map ρ=vs.toArray:=by
  rw [← FZ K V];apply Array.ext';simp
 have Z:ρ (.func f)= .func (.func f) #[] #[]:=K _ _ rfl;simp only [execOp,resolve,bind,Sem.bind,Deferred.ofValue,Z,pure,invoke];have ag: #[]++args.map ρ++ #[]=vs.toArray:=by rw [Y];simp
 rw [ag];exact QH he h
theorem Lz{t:TypeId}{K O:Value}{name:String}{f:FuncId}{e:Array Value→Sem Value}{args:Array Operand}{ats:Array TypeId}{vs:List Value}(he:CH P f e)(hm:∀{s:St} {X:Halt→St→Prop} {Q:FuncId×Value→St→Prop},lp P (Go.method (P.types.size+Made.depth) t K name) s Q X=Q (f,O) s)
  (V:ops[i]? =some ⟨d,.call ⟨.invoke x name,args,ats⟩,ty,p,af,g⟩) (hw:Bd L ops ⟨d,.call ⟨.invoke x name,args,ats⟩,ty,p,af,g⟩=some true) (Y:CP b n ⟨d,.call ⟨.invoke x name,args,ats⟩,ty,p,af,g⟩=true) (Z:ev L x=some (.iface t K)) (ag:evs L args.toList=some vs)
  (h:lp P (e (O::vs).toArray) s (fun v s'=>JL J Q b n (AF L d v) ds (.inRegion ops rest::k) cs s') (fun _ _=>False)):JL J Q b n L ds (.inRegion ops (i::rest)::k) cs s:=by
 refine JL.op V hw Y fun ρ U=>?_;have al:args.map ρ=vs.toArray:=by
  rw [← FZ U ag];apply Array.ext';simp
 have am:ρ x= .iface t K:=U _ _ Z;simp only [execOp,resolve,bind,Sem.bind,pure,invoke,am,al];have ap:(#[Value.iface t K]++vs.toArray)[0]? =some (.iface t K):=by simp
 have av:(#[Value.iface t K]++vs.toArray).extract 1 (#[Value.iface t K]++vs.toArray).size=vs.toArray:=by
  apply Array.ext';simp
 simp only [ap,av,callMethod,bind,Sem.bind,program,lp];refine AH _ _ ?_;rw [hm];have a0: #[O]++vs.toArray=(O::vs).toArray:=by apply Array.ext';simp
 rw [a0];exact QH he h
end
end Pal
namespace Pal
open Go Go.Conc Go.Proofs
open Go.Proofs.Tryz
variable {J:Judge Tryz.prog}{E:LH}
def f135(fuel:Nat):Option Bool:= some false
theorem YN{O:Value}{fuel:Nat}{r:Bool}(K:f135 fuel=some r):AL J 135 [.nilIface,O] E [] (fun w E' B'=>w= .bool r∧B'= []):=by
 refine A4 func135 fun Q Y cs H U V=>?_;unfold f135 at K;refine zg 8 rfl ?_;refine AB (v:= .bool true) rfl (fun ρ h=>Rh underlying149 (show H5 0 .nilIface none from rfl) (h _ _ rfl) (h _ _ rfl)) (zg 6 rfl ?_);obtain rfl:=oi K;exact AD func135 rfl rfl (V Ar rfl ⟨rfl,rfl⟩ U)
def f112(fuel:Nat):Option Int:= (f135 fuel).bind fun K=> if K=true then(some 0) else(some 0)
theorem Z1{fuel:Nat}{r:Int}(O:f112 fuel=some r):AL J 112 [.nilIface] E [] (fun w E' B'=>w=iV r∧B'= []):=by
 refine A4 func112 fun Q a3 cs H Y U=>?_;unfold f112 at O;refine zg 6 rfl (Cz Y FH fun Z ag=>?_);refine zg 5 rfl (AB (v:=(.iface 185 (pV Z 0))) rfl (fun ρ h=>EW underlying185 (fun _ h=>by cases h) (h _ _ rfl)) ?_);obtain⟨a4,al,am⟩:=bs O;refine BD (YN al) rfl rfl (AR func135 rfl) ag fun a5 V K=>JL.done (BF am (fun ap av=>?_) (fun ap a0=>?_))
 ·refine zg 2 rfl (BJ underlying183 (Bo type39) rfl rfl rfl ?_);refine AB (v:=iV 0) rfl (fun ρ h=>Yl.load (Dv underlying39) (h _ _ rfl) (DW (j:=1) (off:=0) K rfl rfl)) (zg 2 rfl ?_);refine JS.drop 1 K rfl fun a1=>?_;obtain rfl:=oi av;exact AD func112 rfl rfl (U V rfl ⟨rfl,rfl⟩ a1)
 ·refine zg 5 rfl (JS.drop 1 K rfl fun a2=>?_);obtain rfl:=oi a0;exact AD func112 rfl rfl (U V rfl ⟨rfl,rfl⟩ a2)
def Ls(fuel:Nat)(p0:Option (Int×Int)):Option Int:=match p0 with
 | none=>f112 fuel
 | some _=>none
end Pal
namespace Pal
open Go Go.Conc Go.Proofs Go.Extern
def O6(b:Frame)(n:Nat):Nat→List Item→Env→List Item×Env
 | 0,k,L=>(k,L)
 | m+1,k,L=>match NP b n L k with
  | some (k',L')=>O6 b n m k' L'
  | none=>(k,L)
theorem zm{P:Program}{J:Judge P}{Q:Goroutine→St→Prop}{b:Frame}{n:Nat}{ds:List Deferred}{cs:List Frame}{s:St}:∀(m:Nat) {L L':Env} {k k':List Item},O6 b n m k L=(k',L')→JL J Q b n L' ds k' cs s→JL J Q b n L ds k cs s
 | 0,L,L',k,k',h,K=>by cases h;exact K
 | m+1,L,L',k,k',h,K=>by
  unfold O6 at h
  split at h
  ·rename_i e;exact Sr e (zm m h K)
  ·cases h;exact K
theorem Rt{E H:LH}{S:List Seg}{r:Nat}{o:Obj}(K:Ax E H S)(O:(Ao E H S).E r=none)(U:(Ao E H S).H r=none):Ax E H (S++ [[(r,o)]])∧(Ao E H S).upd r o=Ao E H (S++ [[(r,o)]]):=by
 obtain⟨a,b⟩:=I1 O U o K;obtain⟨c,d⟩:=EE a;exact⟨d,b.trans c⟩
theorem ZT{s:St}{X:Halt→St→Prop}{Q:Value→St→Prop}{o:Operand}(p:Addr):lp Tryz.prog (do eqGuard .eql 20 o (.const .nilIface) (.iface 185 (.pointer (some p))) .nilIface;binOp .eql 20 (.iface 185 (.pointer (some p))) .nilIface) s Q X=Q (.bool false) s:=by kernel_rfl
theorem V1{s:St}{ρ:Operand→Value}{d:Option Tmp}{x:Operand}{u ty:TypeId}{p:String}{af:Array Edge}{g:Option (Nat×Bool)}{a:Addr}(K:ρ x= .iface 185 (.pointer (some a)))(O:ρ (.const .nilIface)= .nilIface):Yl Tryz.prog ⟨d,.binOp .eql 20 x (.const .nilIface) u,ty,p,af,g⟩ ρ s (.bool false):=by
 refine Fq (sm:=do eqGuard .eql 20 x (.const .nilIface) (ρ x) (ρ (.const .nilIface));binOp .eql 20 (ρ x) (ρ (.const .nilIface))) rfl ?_
 rw [K,O];exact(ZT a).mpr ⟨rfl,rfl⟩
theorem TF(z:Sem Value)(f:TypeId→Addr→Nat→Nat→Sem Value)(v:Value):ReflectliteValue.method z f #[v]=Sem.bind (ReflectliteValue.parts v) (fun x=>match x with | none=>z | some (t,a,fl)=>f t a fl (fl % 32)):=rfl
theorem Vt{s:St}{X:Halt→St→Prop}{Q:Value→St→Prop}(a p:Addr)(K:s.cell? a=some (.pointer (some p)))(h:Q (.bool false) s):lp Tryz.prog (ReflectliteValue.method (ReflectliteValue.valueError "reflectlite.Value.IsNil" 0) ReflectliteValue.isNil #[.agg #[Em 185,.pointer (some a),.int .u64 150]]) s Q X:=by
 rw [TF];refine AH (x:=ReflectliteValue.parts _) _ ((QM a).mpr ?_);show lp Tryz.prog (Sem.bind (loadVar 185 a) _) s Q X;exact AH (x:=loadVar 185 a) _ ((Q1 a).mpr ⟨rfl,_,K,h⟩)
theorem UN{s:St}{X:Halt→St→Prop}{Q:Value→St→Prop}(a p:Addr)(K:s.cell? a=some (.pointer (some p)))(h:Q (.agg #[Em 183,.pointer (some p),.int .u64 409]) s):lp Tryz.prog (ReflectliteValue.method (ReflectliteValue.valueError "reflectlite.Value.Elem" 0) ReflectliteValue.elem #[.agg #[Em 185,.pointer (some a),.int .u64 150]]) s Q X:=by
 rw [TF];refine AH (x:=ReflectliteValue.parts _) _ ((QM a).mpr ?_);show lp Tryz.prog (Sem.bind (loadVar 185 a) _) s Q X;refine AH (x:=loadVar 185 a) _ ((Q1 a).mpr ⟨rfl,_,K,?_⟩);refine AH (x:=Rtype.elem? 185) _ (X5.mpr ?_);exact(Zd p).mpr h
theorem bm(v x:Value):ReflectliteValue.set #[v,x]=(do
  let (some (dst,a,fl),some (src,b,_)):=(← ReflectliteValue.parts v,← ReflectliteValue.parts x)
   | unsupported (.noEntry "extern/(internal/reflectlite.Value).Set.zeroValue")
  if fl / ReflectliteValue.flagAddr % 2==0 then unsupported (.noEntry "extern/(internal/reflectlite.Value).Set.unaddressable")
  let val ← loadVar src b
  if ← Rtype.directlyAssignable dst src then storeVar dst a val
  else if ← Rtype.implements dst src then
   if(← Rtype.kind src)==20 then
    match val with
    | .nilIface=>unsupported (.noEntry "extern/reflectlite: a nil value of one interface type handed on as a value of another")
    | _=>storeVar dst a val
   else storeVar dst a (.iface src val)
  else panicString ("reflectlite.Set: value of type " ++(← Rtype.spelt src)++ " is not assignable to type " ++(← Rtype.spelt dst))
  pure (.tuple #[])):=rfl
theorem XM{E H:LH}{S:List Seg}{X:Halt→St→Prop}{Q:Value→St→Prop}{bk r:Nat}{u w:Value}{c a:Int}(j:Nat)(V:Ax E H S)(K:S[j]? =some [(bk,.cells #[u,w] 183 (0,0))])(O:At E r 0 [iV c,iV a])(h:Ax E H (S.set j [(bk,.cells #[iV c,iV a] 183 (0,0))])→Q (.tuple #[]) (Ao E H (S.set j [(bk,.cells #[iV c,iV a] 183 (0,0))]))):
  lp Tryz.prog (ReflectliteValue.set #[.agg #[Em 183,.pointer (some ⟨bk,0,none⟩),.int .u64 409],.agg #[Em 183,.pointer (some ⟨r,0,none⟩),.int .u64 153]]) (Ao E H S) Q X:=by
 rw [bm];refine AH (x:=ReflectliteValue.parts _) _ ((Uj _).mpr ?_);refine AH (x:=ReflectliteValue.parts _) _ ((UW _).mpr ?_);refine AH (x:=loadVar 183 _) _ ((Wr _).mpr ⟨rfl,_,At.J6 (j:=0) O rfl,rfl,_,At.J6 (j:=1) O rfl,?_⟩);refine AH (x:=Rtype.directlyAssignable 183 183) _ (Yb.mpr ?_);refine AH (x:=storeVar 183 _ _) _ ?_;obtain⟨Y,Z⟩:=F2 V K;rw [Y];refine Mh (pl:=(S.set j []).flatten.length) (Bo Tryz.type183) (by simp [Value.cells,CG]) Z (c:= #[u,w]) (e:=183) (by simp) (by simp [Value.cells]) fun U=>?_;have ag:((S.set j []).flatten++ [(bk,Obj.cells #[u,w] 183 (0,0))]).set (S.set j []).flatten.length (bk,.cells (AX #[u,w] 0 (Value.agg #[iV c,iV a]).cells.toList) 183 (0,0))=(S.set j []).flatten++ [(bk,.cells #[iV c,iV a] 183 (0,0))]:=Hr _ _ _ _;rw [ag] at U ⊢;obtain⟨al,am⟩:=G3 (seg':= [(bk,.cells #[iV c,iV a] 183 (0,0))]) K U;rw [al];exact h am
variable {J:Judge Tryz.prog}{E:LH}
theorem aP{c a:Int}{bk r:Nat}{u w:Value}(O:At E r 0 [.pointer (some ⟨bk,0,none⟩)]):AL J 167 [.iface 183 (.agg #[iV c,iV a]),.iface 185 (.pointer (some ⟨bk,0,none⟩)),.agg #[Em 185,.pointer (some ⟨r,0,none⟩),.int .u64 150],H6 183] E [(bk,.cells #[u,w] 183 (0,0))] (fun v E' B'=>v= .bool true∧B'= [(bk,.cells #[iV c,iV a] 183 (0,0))]):=by
 refine J3 Tryz.func167 rfl rfl fun Q a4 cs H U V=>zm 60 rfl (JS.box (v:= .agg #[Em 185,.pointer (some ⟨r,0,none⟩),.int .u64 150]) rfl rfl rfl U rfl fun a5 Y=>?_);refine CV 1 Y rfl fun a6 K Z ag=>zm 60 rfl (IY ?_);refine zm 60 rfl (Je Y4 rfl rfl rfl rfl ?_);refine(Uy _).mpr ?_;refine zm 60 rfl (Lz ab (aV _) rfl rfl rfl rfl rfl ?_);refine XG.mpr (zm 60 rfl ?_);refine BQ Z L6 Kr rfl rfl (Je Zb rfl rfl rfl rfl ?_);refine UN ⟨r,0,none⟩ ⟨bk,0,none⟩ (At.J6 (j:=0) (O.Ah K) rfl) (zm 60 rfl ?_);refine Je SV rfl rfl rfl rfl ?_;refine(T8 c a).mpr ⟨rfl,fun a7 al am=>?_⟩;obtain⟨ap,av⟩:=Rt (o:= .cells #[iV c,iV a] 183 (0,0)) ag al am;rw [av];refine CV 2 ap rfl fun a8 a0 a1 a2=>Je ZH rfl rfl rfl rfl (XM 0 a2 rfl a1 fun a3=>?_);refine zm 60 rfl (AD Tryz.func167 rfl rfl ?_);exact V _ _ _ _ (K.trans a0) rfl ⟨rfl,rfl⟩ a3
theorem Ze{c a:Int}{bk:Nat}{u w:Value}(Y:At E 0 0 [H6 149]):AL J 135 [.iface 183 (.agg #[iV c,iV a]),.iface 185 (.pointer (some ⟨bk,0,none⟩))] E [(bk,.cells #[u,w] 183 (0,0))] (fun v E' B'=>v= .bool true∧B'= [(bk,.cells #[iV c,iV a] 183 (0,0))]):=by
 refine J3 Tryz.func135 rfl rfl fun Q a6 cs H Z ag=>zm 60 rfl ?_;refine AB (v:= .bool false) rfl (fun ρ h=>Rh Tryz.underlying149 (show H5 183 (.iface 183 (.agg #[iV c,iV a])) (some (c,a)) from rfl) (h _ _ rfl) (h _ _ rfl)) (zm 60 rfl ?_);refine AB rfl (fun ρ h=>V1 (h _ _ rfl) (h _ _ rfl)) (zm 60 rfl ?_);refine Je SV rfl rfl rfl rfl ?_;refine(T3 _).mpr ⟨rfl,fun r al am=>?_⟩;obtain⟨ap,av⟩:=Rt (o:= .cells #[.pointer (some ⟨bk,0,none⟩)] 185 (0,0)) Z al am;rw [av];refine JS.alloc rfl rfl rfl ap (Du Tryz.type210) fun a7 a0=>Pn (v:= .agg #[Em 185,.pointer (some ⟨r,0,none⟩),.int .u64 150]) (off:=0) 2 a0 Kr rfl rfl rfl rfl fun a1=>zm 60 rfl (CV 1 a1 rfl fun a8 U V a2=>?_);refine CV 2 a2 rfl fun a9 K O a3=>BQ O L6 Kr rfl rfl (Je YT rfl rfl rfl rfl ?_);refine(WM _).mpr ?_;refine zm 60 rfl (Lz SS (Su _) rfl rfl rfl rfl rfl ?_);refine V0.mpr (zm 60 rfl ?_);refine BQ (O) L6 Kr rfl rfl (Je YF rfl rfl rfl rfl ?_);refine Vt ⟨r,0,none⟩ ⟨bk,0,none⟩ (At.J6 (j:=0) (V.Ah K) rfl) (zm 60 rfl ?_);refine Lz Zr (YC _) rfl rfl rfl rfl rfl (VM.mpr ?_);refine zm 60 rfl (Lz SS (Su _) rfl rfl rfl rfl rfl ?_);refine Wl.mpr (zm 60 rfl ?_);refine BW 0 (Y.Ah (U.trans K)) (Dv Tryz.underlying213) rfl rfl rfl (Lz YS (Z9 _) rfl rfl rfl rfl rfl ?_);refine VE.mpr (zm 60 rfl ?_);refine AB (v:= .bool (!true)) rfl (fun ρ h=>Yl.not (h _ _ rfl)) (zm 60 rfl ?_);refine BQ (O) L6 Kr rfl rfl (zm 60 rfl ?_);refine B6 0 (aP (V.Ah K)) rfl rfl (AR Tryz.func167 rfl) a3 rfl ?_;rintro _ bb _ a4 ⟨rfl,rfl⟩ a5;refine zm 60 rfl (AD Tryz.func135 rfl rfl ?_);exact ag _ _ _ _ ((U.trans K).trans a4) rfl ⟨rfl,rfl⟩ a5
theorem WI{c a:Int}(K:At E 0 0 [H6 149]):AL J 112 [.iface 183 (.agg #[iV c,iV a])] E [] (fun v E' B'=>v=iV c∧B'= []):=by
 refine J3 Tryz.func112 rfl rfl fun Q ap cs H O U=>zm 60 rfl (JS.alloc rfl rfl rfl O FH fun av V=>?_);refine zm 60 rfl (AB rfl (fun ρ h=>EW Tryz.underlying185 (fun ms e=>by cases e) (h _ _ rfl)) ?_);refine B6 1 (Ze (u:=iV 0) (w:=iV 0) K) rfl rfl (AR Tryz.func135 rfl) V rfl ?_;rintro _ a0 _ Y ⟨rfl,rfl⟩ Z;refine CV 1 Z rfl fun a1 ag al am=>zm 60 rfl (BJ Tryz.underlying183 (Bo Tryz.type39) rfl rfl rfl ?_);refine BW 0 al (Dv Tryz.underlying39) rfl rfl rfl (zm 60 rfl ?_);exact AD Tryz.func112 rfl rfl (U _ _ _ _ (Y.trans ag) rfl ⟨rfl,rfl⟩ am)
abbrev GE(E:LH):Prop:=At E 0 0 [H6 149]
def Lt(fuel:Nat)(p0:Option (Int×Int)):Option Int:=match p0 with
 | none=>f112 fuel
 | some q=>some q.1
theorem OM{v:Value}{p0:Option (Int×Int)}(O:GE E)(h:H5 183 v p0){fuel:Nat}{r:Int}(K:Lt fuel p0=some r):AL J 112 [v] E [] (fun w E' B'=>w=iV r∧B'= []):=by
 match p0,h with
 | none,h=>obtain rfl:v= .nilIface:=h;exact Z1 K
 | some (c,a),h=>
  obtain rfl:v= .iface 183 (.agg #[iV c,iV a]):=h;cases K;exact WI O
end Pal
namespace Pal
open Go Go.Conc Go.Proofs Go.ChangeShapes Go.WideShapes Go.ChangeAt Go.RowKit
open Go.Proofs.YtboibffcmhheiaaGreatDoor
section
variable {H:Type}{enc:TypeId×Value→H}{W:World}{fuel:Nat}{cs:List Value}{x:DataW H×List MemPlace}
theorem Tryz.Xk:Tryz.prog.cellsOf 28=1:=by kernel_rfl
theorem Tryz.XK:Tryz.prog.cellsOf 22=1:=by kernel_rfl
theorem Tryz.Xd:Tryz.prog.cellsOf 24=2:=by kernel_rfl
theorem IW(a:Addr):a.add 0=a:=by unfold Addr.add;rw [if_pos rfl]
theorem Rm(Y:DataW.trod enc Tryz.prog W 0 (fun _=>true) true fuel 28 cs=some x):∃(a:Option Addr) (c:Nat) (K:List Int),cs= [.slice a K.length c]∧Al rI (Ef W).E a c K:=by
 rcases open_ints Tryz.underlying28 Tryz.underlying3 Pal.Tryz.Sw Y with⟨O,Z⟩ | ⟨a,len,cap,K,O,_,ag,hm,al,Z,U,hw⟩
 ·exact⟨none,0,[],O,Al.nil⟩
 ·simp only [if_true] at al;rcases Nat.eq_zero_or_pos cap with V | V
  ·have:len=0:=by omega
   subst this;subst V;exact⟨some a,0,[],O,Nat.le_refl _,.inl ⟨rfl,fun _ _=> .inr rfl⟩⟩
  ·have am:a.spot=none:=by
    have:=World.cell?_spot (U 0 (by omega))
    rwa [IW] at this
   obtain⟨ap,g2⟩:=Wh am ag (by omega) U;exact⟨some a,cap,K.take len,by rw [g2];exact O,ap⟩
theorem Rr{b off:Nat}{v:Value}(h:W.cell? ⟨b,off,none⟩=some v):At (Ef W).E b off [v]:=by
 unfold World.cell? at h;split at h
 ·rename_i c e f hW;simp only [Option.isSome_none,Bool.false_eq_true,if_false] at h;refine⟨c,e,f,hW,fun j w K=>?_⟩
  match j,K with
  | 0,K=>simp at K;subst K;simpa using h
  | j+1,K=>simp at K
 ·cases h
theorem Rf(a4:DataW.trod enc Tryz.prog W 0 (fun _=>true) true fuel 22 cs=some x):∃(a:Option Addr) (c:Nat) (U:List (List Int)),cs= [.slice a U.length c]∧Al (rL rI) (Ef W).E a c U:=by
 rcases DataW.trod_slice Tryz.underlying22 a4 with⟨am,a5⟩ | ⟨a,len,cap,elems,rest,n,_,am,a5,_,a6,_,hlen,ap,av,_⟩
 ·exact⟨none,0,[],am,Al.nil⟩
 ·rw [Tryz.Xk] at ap av;simp only [Nat.mul_one] at ap av;rcases Nat.eq_zero_or_pos cap with a1 | a1
  ·have:len=0:=by omega
   subst this;subst a1;exact⟨some a,0,[],am,Nat.le_refl _,.inl ⟨rfl,fun _ _=> .inr rfl⟩⟩
  ·have a2:∀i,i<len→∃v y,W.cell? (a.add i)=some v∧DataW.trod enc Tryz.prog W 0 (fun _=>true) true n 28 [v]=some y:=fun i hi=>by
    have K:=ap i hi;rw [List.getElem?_eq_getElem (by omega)] at K;obtain⟨vs,O,ag⟩:=Option.bind_eq_some_iff.1 K;obtain⟨_,V,al⟩:=World.cells?_some O
    match vs,V with
    | [v],_=>
     have:=al 0 (by omega);refine⟨v,_,?_,ag⟩;have e:(a.add i).add 0=a.add i:=IW _;rw [e] at this;simpa using this
   have hs:a.spot=none:=by
    rcases Nat.eq_zero_or_pos len with K | K
    ·obtain⟨O,ag⟩:=av trivial;have V:=ag 0 (by omega);rw [List.getElem?_eq_getElem (by omega)] at V;obtain⟨vs,al,_⟩:=Option.bind_eq_some_iff.1 V;obtain⟨_,a7,a8⟩:=World.cells?_some al
     match vs,a7 with
     | [v],_=>
      have:=a8 0 (by omega);rw [K] at this;rw [IW,Nat.add_zero,IW] at this;exact World.cell?_spot this
    ·obtain⟨v,y,O,_⟩:=a2 0 K;rw [IW] at O;exact World.cell?_spot O
   have a3:∀i:Fin len,∃U:List Int,∃(Y:Option Addr) (Z:Nat),W.cell? (a.add i)=some (.slice Y U.length Z)∧Al rI (Ef W).E Y Z U:=fun i=>by
    obtain⟨v,y,O,ag⟩:=a2 i i.2;obtain⟨Y,Z,U,V,al⟩:=Rm ag;simp only [List.cons.injEq,and_true] at V;subst V;exact⟨U,Y,Z,O,al⟩
   refine⟨some a,cap,List.ofFn fun i=>Classical.choose (a3 i),by simpa using am,by simpa using a6,.inr ⟨a.block,a.off,?_,fun i z a0=>?_⟩⟩
   ·obtain⟨b,o,s⟩:=a;simp only at hs;subst hs;rfl
   ·have hi:i<len:=by have:=(List.getElem?_eq_some_iff.1 a0).1;simpa using this
    simp [hi] at a0;obtain⟨Y,Z,K,O⟩:=Classical.choose_spec (a3 ⟨i,hi⟩);rw [a0] at K O;simp only at K;rw [DK hs] at K;refine⟨[.slice Y z.length Z],⟨Y,Z,rfl,O⟩,?_⟩;have e:a.off+i*(rL rI).n=a.off+i:=by show a.off+i*1=_;omega
    rw [e];exact Rr K
theorem WX{v:Value}{ag:Nat}{d:DataW H}{p:List MemPlace}(al:Value.okWide Tryz.prog W .any ag 24 v)(am:DataW.Trod enc Tryz.prog W 0 (fun _=>true) true 24 v d p):
  ∃(K:Option Addr) (O:Nat) (U:Option Addr) (c2:Nat) (J:List (List Int)×List (List Int)),v= .agg #[.slice K J.1.length O,.slice U J.2.length c2]∧Al (rL rI) (Ef W).E K O J.1∧Al (rL rI) (Ef W).E U c2 J.2:=by
 obtain⟨cs,rfl,Z⟩:=okWide_struct Tryz.underlying24 al;obtain⟨fuel,ap⟩:=am;obtain⟨a3,a4,n,_,a5,av,a0⟩:=trod_struct2 Tryz.underlying24 ap;obtain⟨K,O,z1,V,a1⟩:=Rf av;obtain⟨U,c2,a2,Y,g2⟩:=Rf a0;refine⟨K,O,U,c2,(z1,a2),?_,a1,g2⟩;rw [Tryz.XK] at V Y;rw [Tryz.Xd] at Z;simp only [Value.cells,List.drop_zero] at V Y;obtain⟨l⟩:=cs
 match l,Z with
 | [u,w],_=>
  simp at V Y;rw [V,Y]
theorem X9{W:World}{v:Value}{K:Nat}(O:Value.okWide Tryz.prog W .any K 3 v):∃z:Int,v=iV z:=okWide_int Tryz.underlying3 O
theorem VZ{v:Value}{O:Nat}{d:DataW H}{p:List MemPlace}(U:Value.okWide Tryz.prog W .any O 28 v)(V:DataW.Trod enc Tryz.prog W 0 (fun _=>true) true 28 v d p):
  ∃(a:Option Addr) (c:Nat) (K:List Int),v= .slice a K.length c∧Al rI (Ef W).E a c K:=by
 obtain⟨Z,len,cap,rfl⟩:=okWide_slice Tryz.underlying28 U;obtain⟨fuel,Y⟩:=V;obtain⟨a,c,K,e,g⟩:=Rm Y;simp [Value.cells] at e;obtain⟨rfl,rfl,rfl⟩:=e;exact⟨_,_,_,rfl,g⟩
end
theorem Tryz.XF:Tryz.prog.globalNamed "errors.errorType" =some 0:=by kernel_rfl
theorem Tryz.Zx:(Tryz.prog.cutTypes.find? (·.1== "internal/reflectlite.rtype")).map (·.2)=some 240:=by kernel_rfl
theorem Tryz.XW:Tryz.prog.globals.size=1:=by kernel_rfl
theorem Tryz.Zf:(List.range Tryz.prog.types.size).all (fun t=> !Tryz.prog.rowNamed t [101,114,114,111,114] || t==149)=true:=by kernel_rfl
theorem Xw{W:World}(h:laidMetH Tryz.prog [("errors.errorType",Rows.laid_errors_errorType)] W.memory):GE (Ef W).E:=by
 have U:=h.2 _ (List.mem_cons_self ..);obtain⟨name,u,ty,V,Y,Z,ag,K⟩:=U;have al:name= [101,114,114,111,114]:=(Option.some.inj V).symm;have am:u=240:=Option.some.inj (Y.symm.trans Tryz.Zx);subst al;subst am;have ap:ty=149:=by
  have:=List.all_eq_true.1 Tryz.Zf ty (List.mem_range.2 Z);rw [ag] at this;simpa using this
 subst ap;unfold World.var? at K;rw [Tryz.XF] at K;simp only [Option.bind_some] at K;split at K
 ·rename_i c e f hW;simp only [Option.some.injEq] at K;subst K;refine⟨_,e,f,hW,fun j w O=>?_⟩;have av:typeHandle Tryz.prog 149= .pointer (some ⟨1,149,none⟩):=by unfold typeHandle;rw [Tryz.XW]
  rw [av]
  match j,O with
  | 0,O=>simp at O;subst O;rfl
  | j+1,O=>simp at O
 ·cases K
end Pal
namespace Pal
open Go Go.Conc Go.Proofs Go.ChangeShapes Go.WideShapes Go.ChangeAt Go.RowKit
open Go.Proofs.YtboibffcmhheiaaGreatDoor
section
variable {H:Type}{enc:TypeId×Value→H}{W:World}{fuel:Nat}{cs:List Value}{x:DataW H×List MemPlace}
theorem Tryz.RX:Tryz.prog.cellsOf 27=2:=by kernel_rfl
theorem U7{b off:Nat}(O:0<cs.length)(h:∀j,j<cs.length→W.cell? ⟨b,off+j,none⟩=cs[j]?):At (Ef W).E b off cs:=by
 have U:=h 0 O;rw [List.getElem?_eq_getElem O] at U;obtain⟨f,e,fr,V,_⟩:=Rr U;have hW:W.heap[b]? =some (.cells f e fr):=V;refine⟨f,e,fr,V,fun j w Y=>?_⟩;have Z:=(List.getElem?_eq_some_iff.1 Y).1;have K:=h j Z;rw [Y] at K;unfold World.cell? at K;simp only [hW] at K;simpa using K
theorem ae{α:Type}{p:Rp α}{t e:TypeId}(ht:Tryz.prog.underlying t=some (.slice e))(a4:Tryz.prog.cellsOf e=p.n)(a5:0<p.n)
  (a6:∀n cs x,DataW.trod enc Tryz.prog W 0 (fun _=>true) true n e cs=some x→∃v,p.r (Ef W).E cs v)
  (a7:DataW.trod enc Tryz.prog W 0 (fun _=>true) true fuel t cs=some x):∃(a:Option Addr) (c:Nat) (ap:List α),cs= [.slice a ap.length c]∧Al p (Ef W).E a c ap:=by
 rcases DataW.trod_slice ht a7 with⟨Z,a8⟩ | ⟨a,len,cap,elems,rest,n,_,Z,a8,_,a9,_,hlen,av,a0,_⟩
 ·exact⟨none,0,[],Z,Al.nil⟩
 ·rw [a4] at av a0;rcases Nat.eq_zero_or_pos cap with a1 | a1
  ·have:len=0:=by omega
   subst this;subst a1;exact⟨some a,0,[],Z,Nat.le_refl _,.inl ⟨rfl,fun _ _=> .inr rfl⟩⟩
  ·have a2:∀i,i<len→∃vs y,vs.length=p.n∧(∀j,j<p.n→W.cell? ((a.add (i*p.n)).add j)=vs[j]?)∧DataW.trod enc Tryz.prog W 0 (fun _=>true) true n e vs=some y:=fun i hi=>by
    have K:=av i hi;rw [List.getElem?_eq_getElem (by omega)] at K;obtain⟨vs,al,V⟩:=Option.bind_eq_some_iff.1 K;obtain⟨_,O,am⟩:=World.cells?_some al;exact⟨vs,_,O,am,V⟩
   have hs:a.spot=none:=by
    have key:∀vs:List Value,vs.length=p.n→(∀j,j<p.n→W.cell? ((a.add (0*p.n)).add j)=vs[j]?)→a.spot=none:=fun vs ag U=>by
     have:=U 0 a5;rw [List.getElem?_eq_getElem (by omega),IW,Nat.zero_mul,IW] at this;exact World.cell?_spot this
    rcases Nat.eq_zero_or_pos len with K | K
    ·obtain⟨al,V⟩:=a0 rfl;have O:=V 0 (by omega);rw [List.getElem?_eq_getElem (by omega)] at O;obtain⟨vs,am,_⟩:=Option.bind_eq_some_iff.1 O;obtain⟨_,ag,U⟩:=World.cells?_some am;rw [K] at U;exact key vs ag U
    ·obtain⟨vs,y,ag,U,_⟩:=a2 0 K;exact key vs ag U
   have a3:∀i:Fin len,∃z:α,∃vs,p.r (Ef W).E vs z∧At (Ef W).E a.block (a.off+i*p.n) vs:=fun i=>by
    obtain⟨vs,y,al,V,O⟩:=a2 i i.2;obtain⟨z,Y⟩:=a6 _ _ _ O;refine⟨z,vs,Y,U7 (by omega) fun j bb=>?_⟩;have:=V j (by omega);rw [DK hs,DK rfl] at this;exact this
   refine⟨some a,cap,List.ofFn fun i=>Classical.choose (a3 i),by simpa using Z,by simpa using a9,.inr ⟨a.block,a.off,?_,fun i z Y=>?_⟩⟩
   ·obtain⟨b,o,s⟩:=a;simp only at hs;subst hs;rfl
   ·have hi:i<len:=by have:=(List.getElem?_eq_some_iff.1 Y).1;simpa using this
    simp [hi] at Y;have:=Classical.choose_spec (a3 ⟨i,hi⟩);rw [Y] at this;exact this
theorem QJ(h:DataW.trod enc Tryz.prog W 0 (fun _=>true) true fuel 27 cs=some x):∃v:Int×Int,cs= [iV v.1,iV v.2]:=by
 obtain⟨Z,ag,n,_,U,V,Y⟩:=trod_struct2 Tryz.underlying27 h;obtain⟨n1,K,_⟩:=DataW.trod_int Tryz.underlying3 V;obtain⟨n2,O,_⟩:=DataW.trod_int Tryz.underlying3 Y;rw [Tryz.RX] at U;rw [Pal.Tryz.Sw] at K O;refine⟨(n1,n2),?_⟩
 match cs,U with
 | [u,w],_=>simp at K O;rw [K,O]
theorem Vk{v:Value}{O:Nat}{d:DataW H}{p:List MemPlace}(U:Value.okWide Tryz.prog W .any O 25 v)(V:DataW.Trod enc Tryz.prog W 0 (fun _=>true) true 25 v d p):
  ∃(a:Option Addr) (c:Nat) (K:List (Int×Int)),v= .slice a K.length c∧Al (rP rI rI) (Ef W).E a c K:=by
 obtain⟨Z,len,cap,rfl⟩:=okWide_slice Tryz.underlying25 U;obtain⟨fuel,Y⟩:=V;obtain⟨a,c,K,e,g⟩:=ae (p:=rP rI rI) Tryz.underlying25 Tryz.RX (Nat.zero_lt_two) (fun n cs x h=>by
  obtain⟨v,rfl⟩:=QJ h
  exact⟨v,[iV v.1],[iV v.2],rfl,rfl,rfl⟩) Y
 simp [Value.cells] at e;obtain⟨rfl,rfl,rfl⟩:=e;exact⟨_,_,_,rfl,g⟩
theorem WB{v:Value}{K:Nat}{d:DataW H}{p:List MemPlace}(O:Value.okWide Tryz.prog W .any K 27 v)(U:DataW.Trod enc Tryz.prog W 0 (fun _=>true) true 27 v d p):∃l:Int×Int,v= .agg #[iV l.1,iV l.2]:=by
 obtain⟨cs,rfl,Y⟩:=okWide_struct Tryz.underlying27 O;obtain⟨fuel,V⟩:=U;obtain⟨l,e⟩:=QJ V;simp only [Value.cells] at e;refine⟨l,?_⟩;obtain⟨k⟩:=cs;simp only at e;rw [e]
end
end Pal
namespace Pal
open Go Go.Conc Go.Proofs
open Go.Proofs.Tryz
variable {J:Judge Tryz.prog}{E:LH}
def f69(fuel:Nat)(p0:A1)(p1:AI):Option Int:= (f113 fuel p0).bind fun K=> if K.isSome=true then((Ls fuel K).bind fun O=> some O) else((f116 fuel p0 p1).bind fun U=> (Ls fuel U).bind fun V=> some V)
def RP(fuel:Nat)(p0:BU)(O:(List Int))(K:Nat×Int):Option (Bi (Nat×Int) Nat):= if K.2<(O.length:Int) then((ix O K.2).bind fun U=> (ix p0.1 U).bind fun V=> (f120 fuel V).bind fun Y=> (Jl K.1 Y).bind fun Z=> (As (K.2+1)).bind fun ag=> some (.more (Z,ag))) else(some (.done K.1))
def f121(fuel:Nat)(p0:BU)(p1:Nat):Option Nat:= (f89 fuel p1).bind fun K=> Option.bind (iter (RP fuel p0 K) fuel (0,0)) fun O=> some O
theorem YY{k1:Nat}{o2:Nat}{Y:An}{Z:Nat}{ag:An}{al:Nat}{am:List Value}{p0:BU}{p1:Nat}(a3:At E k1 o2 (([sV Y p0.1 Z,sV ag p0.2.1 al]:List Value)++am))(a4:Al (rL rI) E Y Z p0.1)(bQ:Al (rL rI) E ag al p0.2.1)(bR:(rA 13 (rN .u16)).r E am p0.2.2){fuel:Nat}{r:Nat}(ap:f121 fuel p0 p1=some r):AL J 121 [pV k1 o2,uV p1] E [] (fun w E' B'=>w= uV r∧B'= []):=by
 refine A4 func121 fun Q bS cs H a5 a6=>?_;unfold f121 at ap;obtain⟨av,a7,a8⟩:=bs ap;refine zg 12 rfl (BL (IG a7) rfl rfl Ig a5 ?_);rintro _ bT _ U ⟨a9,bb,rfl,rfl,bd⟩ be;refine Bh underlying28 rfl rfl rfl ?_;obtain⟨bi,bn,bo⟩:=bs a8;refine zg 2 rfl (C7 [] [(5,uV bi)] (fun bU bp bq=>?_) (fun br=>?_))
 ·refine zg 5 rfl ?_;obtain rfl:=oi bo;exact AD func121 rfl rfl (a6 (U.Ac bp) rfl ⟨rfl,rfl⟩ bq)
 ·refine JL.block (Cy bn (fun O=> []) (fun O=> [(0,pV k1 o2),(5,uV O.1),(9,sV a9 av bb),(10,iV (av.length:Int)),(11,iV O.2)]) Ar be ?_);rintro O bV K a0 bu ⟨bW,V⟩ bv;have a1:=V;unfold RP at a1;refine zg 5 rfl (AN a1 (fun bw bx=>?_) (fun bw bz=>?_))
  ·obtain⟨bY,bA,bB⟩:=bs bx;refine zg 5 rfl (B9 (bd.Ah K) bA underlying28 AU ?_);rintro bZ b0 _ rfl bC;refine BW 0 bC Bv rfl rfl rfl (zg 6 rfl ?_);refine BJ underlying141 BC rfl rfl rfl (JL.fl 0 (a3.Ah (U.Ac K)) underlying24 BS Ct ?_);obtain⟨b1,bD,bE⟩:=bs bB;refine zg 1 rfl (B9 (a4.Ah (U.Ac K)) bD underlying22 BV ?_);rintro b2 b3 _ ⟨b4,b5,rfl,bF⟩ bG;refine BW 0 bG CQ rfl rfl rfl ?_;obtain⟨b6,bH,bI⟩:=bs bE;refine BD (J2 bF bH) rfl rfl Jp a0 fun b7 bJ bK=>?_;obtain⟨a2,bL,bM⟩:=bs bI;refine AB (v:= uV a2) rfl (fun ρ h=>KG (h _ _ rfl) (h _ _ rfl) bL) ?_;obtain⟨bN,bO,bP⟩:=bs bM;refine zg 4 rfl (Be bO rfl rfl rfl ?_);refine zg 2 rfl ?_;obtain rfl:=oi bP;exact bv (a2,bN) (K.Ac bJ) bK rfl V
  ·refine JL.exit rfl ?_;obtain rfl:=oi bz;obtain rfl:=bu _ V;exact br K a0 rfl
def f130(fuel:Nat)(p0:Ce):Option Int:= (f89 fuel p0.2.2).bind fun K=> some (K.length:Int)
theorem ZJ{K:An}{c2:Nat}{p0:Ce}(a0:Al rI E K c2 p0.2.1){fuel:Nat}{r:Int}(O:f130 fuel p0=some r):AL J 130 [.agg #[iV p0.1,sV K p0.2.1 c2,uV p0.2.2]] E [] (fun w E' B'=>w=iV r∧B'= []):=by
 refine A4 func130 fun Q a1 cs H U V=>?_;unfold f130 at O;refine zg 2 rfl (B4 U fun a2 a3 Y Z ag=>?_);refine zg 4 rfl (JL.fl 2 Z underlying104 Ei GR ?_);obtain⟨a4,al,am⟩:=bs O;refine BL (IG al) rfl rfl Ig ag ?_;rintro _ a5 _ ap ⟨a6,a7,rfl,rfl,a8⟩ av;refine Bh underlying28 rfl rfl rfl (zg 2 rfl ?_);obtain rfl:=oi am;exact AD func130 rfl rfl (V (Y.Ac ap) rfl ⟨rfl,rfl⟩ av)
def Nf(fuel:Nat)(p0:List Ce)(K:Nat×Int):Option (Bi (Nat×Int) Nat):= if K.2<(p0.length:Int) then((ix p0 K.2).bind fun O=> (f90 fuel K.1 O.1).bind fun U=> (As (K.2+1)).bind fun V=> some (.more (U,V))) else(some (.done K.1))
def f87(fuel:Nat)(p0:List Ce):Option Nat:= Option.bind (iter (Nf fuel p0) fuel (0,0)) fun K=> some K
theorem Tk{O:An}{c2:Nat}{p0:List (Ce)}(al:Al Dr E O c2 p0){fuel:Nat}{r:Nat}(Y:f87 fuel p0=some r):AL J 87 [sV O p0 c2] E [] (fun w E' B'=>w= uV r∧B'= []):=by
 refine A4 func87 fun Q bC cs H am ap=>?_;unfold f87 at Y;refine zg 12 rfl (Bh underlying95 rfl rfl rfl ?_);obtain⟨av,a0,a1⟩:=bs Y;refine zg 2 rfl (C7 [] [(3,uV av)] (fun bD a2 a3=>?_) (fun a4=>?_))
 ·refine zg 5 rfl ?_;obtain rfl:=oi a1;exact AD func87 rfl rfl (ap a2 rfl ⟨rfl,rfl⟩ a3)
 ·refine JL.block (Cy a0 (fun K=> []) (fun K=> [(3,uV K.1),(6,sV O p0 c2),(7,iV (p0.length:Int)),(8,iV K.2)]) Ar am ?_);rintro K bE U Z a5 ⟨bF,V⟩ a6;have ag:=V;unfold Nf at ag;refine zg 5 rfl (AN ag (fun a7 a8=>?_) (fun a7 a9=>?_))
  ·obtain⟨bG,bb,bd⟩:=bs a8;refine zg 5 rfl (B9 (al.Ah U) bb underlying95 Cu ?_);rintro bH bI _ ⟨_,_,rfl,rfl,⟨_,_,rfl,⟨bJ,bK,rfl,bL⟩,rfl⟩⟩ be;refine BQ be FX Cu rfl rfl (Cz Z GV fun bM bi=>?_);refine BM 0 bi Cu fun bn=>?_;refine CV 0 bn rfl fun bN bo bp bq=>zg 3 rfl (JL.fl 0 bp underlying104 AU Bv ?_);obtain⟨br,bu,bv⟩:=bs bd;refine BD (NH bu) rfl rfl Me bq fun bO bw bx=>?_;obtain⟨bz,bA,bB⟩:=bs bv;refine zg 4 rfl (Be bA rfl rfl rfl ?_);refine zg 2 rfl ?_;obtain rfl:=oi bB;exact a6 (br,bz) ((U.Ac bo).Ac bw) bx rfl V
  ·refine JL.exit rfl ?_;obtain rfl:=oi a9;obtain rfl:=a5 _ V;exact a4 U Z rfl
def SX(fuel:Nat)(p0:BU)(O:Int)(K:Nat×Int):Option (Bi (Nat×Int) Nat):= if K.2<O then((f121 fuel p0 K.1).bind fun U=> (As (K.2+1)).bind fun V=> some (.more (U,V))) else(some (.done K.1))
def f88(fuel:Nat)(p0:BU)(p1:Ce)(p2:Int):Option Nat:= (As ((p1.2.1.length:Int) - 1)).bind fun K=> if p2≤K then((ix p1.2.1 p2).bind fun O=> (f120 fuel ([O]:List Int)).bind fun U=> some U) else((ix p1.2.1 K).bind fun V=> (f120 fuel ([V]:List Int)).bind fun Y=> (As (p2 - K)).bind fun Z=> Option.bind (iter (SX fuel p0 Z) fuel (Y,0)) fun ag=> some ag)
theorem aR{k1:Nat}{o2:Nat}{al:An}{am:Nat}{ap:An}{av:Nat}{a0:List Value}{a1:An}{a2:Nat}{p0:BU}{p1:Ce}{p2:Int}(bd:At E k1 o2 (([sV al p0.1 am,sV ap p0.2.1 av]:List Value)++a0))(be:Al (rL rI) E al am p0.1)(bi:Al (rL rI) E ap av p0.2.1)(bn:(rA 13 (rN .u16)).r E a0 p0.2.2)(a3:Al rI E a1 a2 p1.2.1){fuel:Nat}{r:Nat}(a4:f88 fuel p0 p1 p2=some r):AL J 88 [pV k1 o2,.agg #[iV p1.1,sV a1 p1.2.1 a2,uV p1.2.2],iV p2] E [] (fun w E' B'=>w= uV r∧B'= []):=by
 refine A4 func88 fun Q cg cs H bo a5=>?_;unfold f88 at a4;refine zg 2 rfl (B4 bo fun ci ck K Z a6=>?_);refine zg 4 rfl (JL.fl 1 Z underlying104 BV CQ ?_);refine Bh underlying28 rfl rfl rfl ?_;obtain⟨cm,bp,bq⟩:=bs a4;refine Ci bp rfl rfl rfl (zg 9 rfl ?_);refine AN bq (fun br bu=>?_) (fun br bv=>?_)
 ·refine zg 2 rfl (JL.fl 1 Z underlying104 BV CQ ?_);obtain⟨a7,bw,bx⟩:=bs bu;refine zg 1 rfl (B9 (a3.Ah K) bw underlying28 AU ?_);rintro cn co _ rfl bz;refine BW 0 bz Bv rfl rfl rfl (DC (pp:=rI) [iV a7] [a7] rfl rfl rfl underlying28 AU CM (by decide) rfl rfl rfl ⟨rfl,trivial⟩ a6 fun cp cq bA bB=>?_);refine B5 2 bA bB rfl fun cr bC bD bE=>?_;obtain⟨ct,bF,bG⟩:=bs bx;refine BD (J2 bD bF) rfl rfl Jp bE fun cu bH bI=>zg 2 rfl ?_;obtain rfl:=oi bG;exact AD func88 rfl rfl (a5 ((K.Ac bC).Ac bH) rfl ⟨rfl,rfl⟩ bI)
 ·refine zg 3 rfl (JL.fl 1 Z underlying104 BV CQ ?_);obtain⟨a8,bJ,bK⟩:=bs bv;refine zg 1 rfl (B9 (a3.Ah K) bJ underlying28 AU ?_);rintro cv cw _ rfl bL;refine BW 0 bL Bv rfl rfl rfl (DC (pp:=rI) [iV a8] [a8] rfl rfl rfl underlying28 AU CM (by decide) rfl rfl rfl ⟨rfl,trivial⟩ a6 fun cy cz bM bN=>?_);refine B5 2 bM bN rfl fun cA U bO bP=>?_;obtain⟨cB,bQ,bR⟩:=bs bK;refine BD (J2 bO bQ) rfl rfl Jp bP fun cC V bS=>?_;obtain⟨bT,bU,bV⟩:=bs bR;refine zg 7 rfl (Ci bU rfl rfl rfl ?_);obtain⟨bW,bY,bZ⟩:=bs bV;refine zg 2 rfl (C7 [] [(8,uV bW)] (fun cD b0 b1=>?_) (fun b2=>?_))
  ·refine zg 5 rfl ?_;obtain rfl:=oi bZ;exact AD func88 rfl rfl (a5 (((K.Ac U).Ac V).Ac b0) rfl ⟨rfl,rfl⟩ b1)
  ·refine JL.block (Cy bY (fun Y=> []) (fun Y=> [(0,pV k1 o2),(8,uV Y.1),(32,iV bT),(33,iV Y.2)]) Ar bS ?_);rintro Y cE O a9 b3 ⟨cF,ag⟩ b4;have bb:=ag;unfold SX at bb;refine zg 5 rfl (AN bb (fun b5 b6=>?_) (fun b5 b7=>?_))
   ·obtain⟨b8,b9,ca⟩:=bs b6;refine zg 6 rfl (BD (YY (bd.Ah (((K.Ac U).Ac V).Ac O)) (be.Ah (((K.Ac U).Ac V).Ac O)) (bi.Ah (((K.Ac U).Ac V).Ac O)) (Rp.Ah _ (((K.Ac U).Ac V).Ac O) bn) b9) rfl rfl (AR func121 rfl) a9 fun cG cb cc=>?_);obtain⟨cd,ce,cf⟩:=bs ca;refine zg 4 rfl (Be ce rfl rfl rfl ?_);refine zg 2 rfl ?_;obtain rfl:=oi cf;exact b4 (b8,cd) (O.Ac cb) cc rfl ag
   ·refine JL.exit rfl ?_;obtain rfl:=oi b7;obtain rfl:=b3 _ ag;exact b2 O a9 rfl
end Pal
namespace Pal
open Go Go.Conc Go.Proofs
open Go.Proofs.Tryz
variable {J:Judge Tryz.prog}{E:LH}
def MC(fuel:Nat)(p0:BU)(O:(List Int))(K:Nat×Int):Option (Bi (Nat×Int) Nat):= if K.2<(O.length:Int) then((ix O K.2).bind fun U=> (ix p0.1 U).bind fun V=> (f120 fuel V).bind fun Y=> (Jl K.1 Y).bind fun Z=> (As (K.2+1)).bind fun ag=> some (.more (Z,ag))) else(some (.done K.1))
def Ly(fuel:Nat)(p0:BU)(p1:Nat):Option (Nat×(BU)):= (f89 fuel p1).bind fun K=> Option.bind (iter (MC fuel p0 K) fuel (0,0)) fun O=> some (O,p0)
theorem WW{bk:Nat}{K:An}{c2:Nat}{O:An}{U:Nat}{V:List Value}{p0:BU}{p1:Nat}(av:Al (rL rI) E K c2 p0.1)(a9:Al (rL rI) E O U p0.2.1)(bb:(rA 13 (rN .u16)).r E V p0.2.2){fuel:Nat}{r:Nat×(BU)}(a0:Ly fuel p0 p1=some r):AL J 121 [pV bk 0,uV p1] E [(bk,.cells (([sV K p0.1 c2,sV O p0.2.1 U]:List Value)++V).toArray 141 (0,0))] (fun w E' B'=>∃(a1:An) (a2:Nat) (a3:An) (a4:Nat) (a5:List Value),w= uV r.1∧B'= [(bk,.cells (([sV a1 r.2.1 a2,sV a3 r.2.2.1 a4]:List Value)++a5).toArray 141 (0,0))]∧Al (rL rI) E' a1 a2 r.2.1∧Al (rL rI) E' a3 a4 r.2.2.1∧(rA 13 (rN .u16)).r E' a5 r.2.2.2):=by
 refine A4 func121 fun Q bV cs H bd be=>?_;unfold Ly at a0;obtain⟨a6,bi,bn⟩:=bs a0;refine zg 12 rfl (BL (IG bi) rfl rfl Ig bd ?_);rintro _ bW _ Y ⟨bo,bp,rfl,rfl,bq⟩ br;refine Bh underlying28 rfl rfl rfl ?_;obtain⟨bu,bv,bw⟩:=bs bn;refine zg 2 rfl (C7 [bX bk (([sV K p0.1 c2,sV O p0.2.1 U]:List Value)++V).toArray 141] [(5,uV bu)] (fun bY Z bx=>?_) (fun bz=>?_))
 ·refine zg 5 rfl ?_;obtain rfl:=oi bw;exact AD func121 rfl rfl (be (Y.Ac Z) rfl ⟨K,c2,O,U,V,rfl,rfl,(av.Ah (Y.Ac Z)),(a9.Ah (Y.Ac Z)),(Rp.Ah _ (Y.Ac Z) bb)⟩ bx)
 ·refine JL.block (Cy bv (fun ag=> [bX bk (([sV K p0.1 c2,sV O p0.2.1 U]:List Value)++V).toArray 141]) (fun ag=> [(0,pV bk 0),(5,uV ag.1),(9,sV bo a6 bp),(10,iV (a6.length:Int)),(11,iV ag.2)]) Ar br ?_);rintro ag bZ al am bA ⟨b0,ap⟩ bB;have a7:=ap;unfold MC at a7;refine zg 5 rfl (AN a7 (fun bC bD=>?_) (fun bC bE=>?_))
  ·obtain⟨b1,bF,bG⟩:=bs bD;refine zg 5 rfl (B9 (bq.Ah al) bF underlying28 AU ?_);rintro b2 b3 _ rfl bH;refine BW 0 bH Bv rfl rfl rfl (zg 6 rfl ?_);refine BJ underlying141 BC rfl rfl rfl (BJ underlying24 BS rfl rfl rfl ?_);refine AB (v:= sV K p0.1 c2) rfl (fun ρ h=>Yl.load Ct (h _ _ rfl) (VB (o:=0) (l:= [sV K p0.1 c2,sV O p0.2.1 U]) 0 am rfl rfl)) ?_;obtain⟨b4,bI,bJ⟩:=bs bG;refine zg 1 rfl (B9 (av.Ah (Y.Ac al)) bI underlying22 BV ?_);rintro b5 b6 _ ⟨b7,b8,rfl,bK⟩ bL;refine BW 0 bL CQ rfl rfl rfl ?_;obtain⟨b9,bM,bN⟩:=bs bJ;refine BD (J2 bK bM) rfl rfl Jp am fun ca bO bP=>?_;obtain⟨a8,bQ,bR⟩:=bs bN;refine AB (v:= uV a8) rfl (fun ρ h=>KG (h _ _ rfl) (h _ _ rfl) bQ) ?_;obtain⟨bS,bT,bU⟩:=bs bR;refine zg 4 rfl (Be bT rfl rfl rfl ?_);refine zg 2 rfl ?_;obtain rfl:=oi bU;exact bB (a8,bS) (al.Ac bO) bP rfl ap
  ·refine JL.exit rfl ?_;obtain rfl:=oi bE;obtain rfl:=bA _ ap;exact bz al am rfl
end Pal
namespace Pal
open Go Go.Conc Go.Proofs
open Go.Proofs.Tryz
variable {J:Judge Tryz.prog}{E:LH}
theorem Yv:TB Tryz.prog 138 .u16:=⟨_,underlying138,by decide+kernel,by decide,underlying102,rfl⟩
def Lo(fuel:Nat)(K:(List (List Int))×(List (List Int))×(List Nat)×(List Nat)×Int):Option (Bi ((List (List Int))×(List (List Int))×(List Nat)×(List Nat)×Int) ((List (List Int))×(List (List Int))×(List Nat)×(List Nat))):= if K.2.2.2.2<12 then((As (K.2.2.2.2+1)).bind fun U=> (ix K.2.2.1 K.2.2.2.2).bind fun V=> (Ly fuel (K.1,K.2.1,K.2.2.1) V).bind fun O=> (ix K.2.2.2.1 U).bind fun Z=> (As (K.2.2.2.2+1)).bind fun Y=> some (.more (O.2.1,O.2.2.1,O.2.2.2,(K.2.2.2.1.set (Int.toNat U) O.1),Y))) else(some (.done (K.1,K.2.1,K.2.2.1,K.2.2.2.1)))
def M1(fuel:Nat)(O:BU):Option (Bi BU (((Option BU))⊕Unit)):= Option.bind (iter (Lo fuel) fuel (O.1,O.2.1,O.2.2,O.2.2,0)) fun K=> if K.2.2.2≠K.2.2.1 then(some (.more (K.1,K.2.1,K.2.2.2))) else(some (.done (Sum.inl (some (K.1,K.2.1,K.2.2.1)))))
def f92(fuel:Nat)(p0:A1):Option ((Option BU)):= (ix (List.replicate 13 (0:Nat)) (0)).bind fun O=> Option.bind (iter (M1 fuel) fuel (p0.1,p0.2,((List.replicate 13 (0:Nat)).set (Int.toNat 0) 1))) fun K=> Sum.elim (fun r=>some r) (fun U=>none) K
theorem NG{a6:An}{c2:Nat}{a7:An}{a8:Nat}{p0:A1}(b7:Al (rL rI) E a6 c2 p0.1)(b8:Al (rL rI) E a7 a8 p0.2){fuel:Nat}{r:(Option BU)}(bM:f92 fuel p0=some r):AL J 92 [.agg #[sV a6 p0.1 c2,sV a7 p0.2 a8]] E [] (fun w E' B'=>∃(bN:Value),w=bN∧B'= []∧Ki (rP (rL (rL rI)) (rP (rL (rL rI)) (rA 13 (rN .u16)))) E' bN r):=by
 refine A4 func92 fun Q c8 cs H b9 ca=>?_;unfold f92 at bM;refine zg 2 rfl (B4 b9 fun c9 a9 bG cb cc=>?_);refine zg 5 rfl (BQ cb BY BC rfl rfl ?_);refine AB (v:= .agg (([sV a6 p0.1 c2,sV a7 p0.2 a8]:List Value)++(List.replicate 13 (uV 0):List Value)).toArray) rfl (fun ρ h=>CY [(0,2),(2,13)] h (Du type141) underlying141 ⟨rfl,Bo type24,rfl,Bo type139,trivial⟩ rfl rfl) (JS.box (v:= .agg (([sV a6 p0.1 c2,sV a7 p0.2 a8]:List Value)++(List.replicate 13 (uV 0):List Value)).toArray) rfl rfl rfl cc rfl fun U cd=>?_);refine zg 6 rfl (BJ underlying141 Gd rfl rfl rfl ?_);obtain⟨da,bH,ce⟩:=bs bM;obtain⟨_,rfl,_,_,db⟩:=Ir (kk:=13) (pp:=(rN .u16)) (J1 (E:=a9) (pp:=(rN .u16)) rfl) bH;refine AB (v:= .pointer (some ⟨U,2+Int.toNat (0)*1,none⟩)) rfl (fun ρ h=>JC (kk:=13) (pp:=(rN .u16)) (J1 (E:=a9) (pp:=(rN .u16)) rfl) bH underlying139 Ii (h _ _ rfl) (h _ _ rfl)) (BJ underlying138 Ei rfl rfl rfl ?_);have bz:=Pc (us:= [uV 1]) (y:=1) (J1 (E:=a9) (pp:=(rN .u16)) rfl) bH rfl;refine KD (v:= uV 1) (l:= [sV a6 p0.1 c2,sV a7 p0.2 a8]) (ws:=(List.replicate 13 (uV 0):List Value)) (us:= [uV 1]) (o:=Int.toNat (0)*1) 2 rfl rfl rfl cd rfl rfl rfl Ei (by simp [Value.cells,CG]) rfl bz.2 fun bO=>?_;replace bz:=bz.1;generalize cf:HA (List.replicate 13 (uV 0):List Value) (Int.toNat (0)*1) [uV 1]=bP at bO ⊢;have cg:(rA 13 (rN .u16)).r a9 bP ((List.replicate 13 (0:Nat)).set (Int.toNat 0) 1):=by rw [← cf];exact bz
 refine zg 2 rfl (JL.label ?_);obtain⟨dc,ci,ck⟩:=bs ce;refine IC [(3,pV U 0)] rfl (WJ ci (fun L s Z=>∃(V:LH) (bi:An) (bn:Nat) (bo:An) (bp:Nat) (ag:List Value),Jn a9 H V [[(U,.cells (([sV bi Z.1 bn,sV bo Z.2.1 bp]:List Value)++ag).toArray 141 (0,0))]] [(3,pV U 0)] L s (Al (rL rI) V bi bn Z.1∧Al (rL rI) V bo bp Z.2.1∧(rA 13 (rN .u16)).r V ag Z.2.2)) ⟨a9,a6,c2,a7,a8,bP,rfl,rfl,Ar,bO,(b7.Ah bG),(b8.Ah bG),cg⟩ ?_);rintro _ _ Z ⟨V,bi,bn,bo,bp,ag,rfl,rfl,bQ,bR,cm,cn,a0⟩ co ⟨dd,bI⟩ cp;have bS:=bI;unfold M1 at bS;refine zg 4 rfl (BJ underlying141 Gd rfl rfl rfl ?_);refine AB (v:= .agg ag.toArray) rfl (fun ρ h=>KN (kk:=13) (pp:=(rN .u16)) a0 L4 Gd (h _ _ rfl) (Mv (l:= [sV bi Z.1 bn,sV bo Z.2.1 bp]) 0 bR rfl)) (Cz bR (Du type139) fun bb cq=>?_);refine KD (v:= .agg ag.toArray) (l:= []) (ws:=(List.replicate 13 (uV 0):List Value)) (us:=ag) (o:=0) 1 rfl rfl rfl cq rfl rfl rfl (by rw [Gj (kk:=13) (pp:=(rN .u16)) a0];exact Bo type139) ((rA 13 (rN .u16)).one a0) rfl (by rw [Gj (kk:=13) (pp:=(rN .u16)) a0,Gj (kk:=13) (pp:=(rN .u16)) (J1 (E:=V) (pp:=(rN .u16)) rfl)];omega) fun bT=>?_;rw [QY (by rw [Gj (kk:=13) (pp:=(rN .u16)) a0,Gj (kk:=13) (pp:=(rN .u16)) (J1 (E:=V) (pp:=(rN .u16)) rfl)])] at bT ⊢;obtain⟨K,cr,ct⟩:=bs bS;refine zg 6 rfl (Br (fun L s=>∃(a1:LH) (a2:An) (a3:Nat) (al:An) (am:Nat) (a4:List Value) (ap:List Value),Jn V H a1 [bX U (([sV a2 K.1 a3,sV al K.2.1 am]:List Value)++a4).toArray 141,bX bb (([]:List Value)++ap).toArray 139] [(3,pV U 0),(4,pV bb 0)] L s (Al (rL rI) a1 a2 a3 K.1∧Al (rL rI) a1 al am K.2.1∧(rA 13 (rN .u16)).r a1 a4 K.2.2.1∧(rA 13 (rN .u16)).r a1 ap K.2.2.2)) ?_ ?_)
 ·rintro _ _ ⟨a1,a2,a3,al,am,a4,ap,rfl,rfl,bU,bd,bV,bW,bq,av⟩;refine zg 2 rfl (Di 5 [bb,U] ⟨⟨1,_,rfl⟩,⟨0,_,rfl⟩,trivial⟩ bd fun ht=>?_);refine Bx (v:= .agg ap.toArray) 0 ht rfl rfl (fun ρ h s' hs=>KN (kk:=13) (pp:=(rN .u16)) av L4 Gd (h _ _ rfl) (OF (l:= []) 1 bd rfl (by simp [A6]) hs)) (A2 ht rfl [1,2] rfl ?_);refine Ca 3 ht underlying141 Gd rfl rfl rfl rfl (Bx (v:= .agg a4.toArray) 4 ht rfl rfl (fun ρ h s' hs=>KN (kk:=13) (pp:=(rN .u16)) bq L4 Gd (h _ _ rfl) (OF (l:= [sV a2 K.1 a3,sV al K.2.1 am]) 0 bd rfl (by simp [A6]) hs)) ?_);refine Cg [5] (AB (v:= .bool (decide (K.2.2.2≠K.2.2.1))) rfl (fun ρ h=>VR underlying139 (by decide+kernel) Yv Ii av bq (h _ _ rfl) (h _ _ rfl)) ?_);refine JL.done (AN ct (fun cu cv=>?_) (fun cu cw=>?_))
  ·refine zg 3 rfl (AB (v:= .agg ap.toArray) rfl (fun ρ h=>KN (kk:=13) (pp:=(rN .u16)) av L4 Gd (h _ _ rfl) (Mv (l:= []) 1 bd rfl)) ?_);refine zg 1 rfl (BJ underlying141 Gd rfl rfl rfl ?_);refine KD (v:= .agg ap.toArray) (l:= [sV a2 K.1 a3,sV al K.2.1 am]) (ws:=a4) (us:=ap) (o:=0) 0 rfl rfl rfl bd rfl rfl rfl (by rw [Gj (kk:=13) (pp:=(rN .u16)) av];exact Bo type139) ((rA 13 (rN .u16)).one av) rfl (by rw [Gj (kk:=13) (pp:=(rN .u16)) av,Gj (kk:=13) (pp:=(rN .u16)) bq];omega) fun bY=>?_;rw [QY (by rw [Gj (kk:=13) (pp:=(rN .u16)) av,Gj (kk:=13) (pp:=(rN .u16)) bq])] at bY ⊢;refine JL.done (JL.goto rfl ?_);refine zg 2 rfl (JS.drop 1 bY rfl fun cy=>?_);obtain rfl:=oi cv;exact Ay (cp _ _ (K.1,K.2.1,K.2.2.2) ⟨a1,a2,a3,al,am,ap,rfl,rfl,(bQ.Ac bU),cy,bV,bW,av⟩ bI) rfl
  ·refine zg 6 rfl (CV 0 bd rfl fun de bA cz cA=>?_);refine JS.drop 1 cA rfl fun cB=>?_;obtain rfl:=oi cw;obtain rfl:=co _ bI;have cC:=elim_inl ck;obtain rfl:=oi cC;exact AD func92 rfl rfl (ca (((bG.Ac bQ).Ac bU).Ac bA) rfl ⟨pV U 0,rfl,rfl,⟨_,_,_,rfl,cz,⟨[sV a2 K.1 a3],(([sV al K.2.1 am]:List Value)++a4),rfl,⟨_,_,rfl,(bV.Ah bA)⟩,⟨[sV al K.2.1 am],a4,rfl,⟨_,_,rfl,(bW.Ah bA)⟩,(Rp.Ah _ bA bq)⟩⟩⟩⟩ cB)
 ·intro cD;refine JL.block (CN cr (fun L s O=>∃(a5:LH) (br:An) (bu:Nat) (bv:An) (bw:Nat) (bB:List Value) (be:List Value),Jn V H a5 [bX U (([sV br O.1 bu,sV bv O.2.1 bw]:List Value)++bB).toArray 141,bX bb (([]:List Value)++be).toArray 139] [(3,pV U 0),(4,pV bb 0),(18,iV O.2.2.2.2)] L s (Al (rL rI) a5 br bu O.1∧Al (rL rI) a5 bv bw O.2.1∧(rA 13 (rN .u16)).r a5 bB O.2.2.1∧(rA 13 (rN .u16)).r a5 be O.2.2.2.1)) ⟨V,bi,bn,bo,bp,ag,ag,rfl,rfl,Ar,bT,cm,cn,a0,a0⟩ ?_);rintro _ _ O ⟨a5,br,bu,bv,bw,bB,be,rfl,rfl,bZ,bJ,b0,b1,bC,bD⟩ cE ⟨df,bK⟩ cF;have b2:=bK;unfold Lo at b2;refine zg 5 rfl (AN b2 (fun cG cH=>?_) (fun cG cI=>?_))
  ·obtain⟨bx,cJ,cK⟩:=bs cH;refine zg 10 rfl (Be cJ rfl rfl rfl ?_);refine zg 4 rfl (BJ underlying141 Gd rfl rfl rfl ?_);obtain⟨cM,b3,cN⟩:=bs cK;obtain⟨_,rfl,_,_,cO⟩:=Ir (kk:=13) (pp:=(rN .u16)) bC b3;refine AB (v:= .pointer (some ⟨U,2+Int.toNat (O.2.2.2.2)*1,none⟩)) rfl (fun ρ h=>JC (kk:=13) (pp:=(rN .u16)) bC b3 underlying139 Ii (h _ _ rfl) (h _ _ rfl)) (BJ underlying138 Ei rfl rfl rfl ?_);refine AB (v:= uV cM) rfl (fun ρ h=>Yl.load GR (h _ _ rfl) (UP (l:= [sV br O.1 bu,sV bv O.2.1 bw]) 0 bJ rfl (cO 0 _ rfl))) ?_;obtain⟨Y,cP,cQ⟩:=bs cN;refine B6 0 (WW b0 b1 bC cP) rfl rfl (AR func121 rfl) bJ rfl ?_;rintro _ b4 _ bE ⟨cR,cT,cV,cW,Ke,rfl,rfl,cX,cY,cZ⟩ c0;obtain⟨dg,bL,c1⟩:=bs cQ;obtain⟨_,rfl,_,_,dh⟩:=Ir (kk:=13) (pp:=(rN .u16)) (Rp.Ah _ bE bD) bL;refine AB (v:= .pointer (some ⟨bb,0+Int.toNat (bx)*1,none⟩)) rfl (fun ρ h=>JC (kk:=13) (pp:=(rN .u16)) (Rp.Ah _ bE bD) bL underlying139 Ii (h _ _ rfl) (h _ _ rfl)) (BJ underlying138 Ei rfl rfl rfl ?_);have bF:=Pc (us:= [uV Y.1]) (y:=Y.1) (Rp.Ah _ bE bD) bL rfl;refine KD (v:= uV Y.1) (l:= []) (ws:=be) (us:= [uV Y.1]) (o:=Int.toNat (bx)*1) 1 rfl rfl rfl c0 rfl rfl rfl Ei (by simp [Value.cells,CG]) rfl bF.2 fun b5=>?_;replace bF:=bF.1;generalize c3:HA be (Int.toNat (bx)*1) [uV Y.1]=b6 at b5 ⊢;have c4:(rA 13 (rN .u16)).r b4 b6 (O.2.2.2.1.set (Int.toNat bx) Y.1):=by rw [← c3];exact bF
   obtain⟨c5,c6,c7⟩:=bs c1;refine zg 3 rfl (Be c6 rfl rfl rfl ?_);refine zg 2 rfl ?_;obtain rfl:=oi c7;exact Ay (cF _ _ (Y.2.1,Y.2.2.1,Y.2.2.2,(O.2.2.2.1.set (Int.toNat bx) Y.1),c5) ⟨b4,cR,cT,cV,cW,Ke,b6,rfl,rfl,(bZ.Ac bE),b5,cX,cY,cZ,c4⟩ bK) rfl
  ·refine JL.exit rfl ?_;obtain rfl:=oi cI;obtain rfl:=cE _ bK;exact Ay (cD _ _ ⟨a5,br,bu,bv,bw,bB,be,rfl,rfl,bZ,bJ,b0,b1,bC,bD⟩) rfl
end Pal
namespace Pal
open Go Go.Conc Go.Proofs
open Go.Proofs.Tryz
variable {J:Judge Tryz.prog}{E:LH}
def RZ(fuel:Nat)(p0:BU)(O:Nat)(U:(List Int))(K:Int):Option (Bi Int ((Bool)⊕(Unit))):= if K<(U.length:Int) then((ix U K).bind fun V=> (f103 fuel O V).bind fun Y=> Option.bind (if Y=true then(some true) else((ix p0.2.1 V).bind fun Z=> (f120 fuel Z).bind fun ag=> (Kf O ag).bind fun al=> some (decide ((((al):Nat):Int)≠(((0):Nat):Int))))) fun am=> if am=true then(some (.done (Sum.inl true))) else((As (K+1)).bind fun ap=> some (.more ap))) else(some (.done (Sum.inr ())))
def f109(fuel:Nat)(p0:BU)(p1:Int)(p2:Int):Option Bool:= (ix p0.2.2 p2).bind fun K=> (ix p0.2.2 p1).bind fun O=> (f89 fuel O).bind fun U=> Option.bind (iter (RZ fuel p0 K U) fuel 0) fun V=> Sum.elim (fun r=>some r) (fun Y=> some false) V
theorem ZL{k1:Nat}{o2:Nat}{O:An}{U:Nat}{V:An}{Y:Nat}{a0:List Value}{p0:BU}{p1:Int}{p2:Int}(av:At E k1 o2 (([sV O p0.1 U,sV V p0.2.1 Y]:List Value)++a0))(ct:Al (rL rI) E O U p0.1)(bv:Al (rL rI) E V Y p0.2.1)(a1:(rA 13 (rN .u16)).r E a0 p0.2.2){fuel:Nat}{r:Bool}(a2:f109 fuel p0 p1 p2=some r):AL J 109 [pV k1 o2,iV p1,iV p2] E [] (fun w E' B'=>w= .bool r∧B'= []):=by
 refine A4 func109 fun Q cu cs H bw a3=>?_;unfold f109 at a2;refine zg 9 rfl (BJ underlying141 Gd rfl rfl rfl ?_);obtain⟨a4,bx,bz⟩:=bs a2;refine ON (l:= [sV O p0.1 U,sV V p0.2.1 Y]) av a1 bx rfl rfl rfl rfl rfl underlying139 Ii ?_;rintro cv _ rfl bA;refine JL.fl 0 bA underlying138 Ei GR ?_;refine zg 8 rfl (BJ underlying141 Gd rfl rfl rfl ?_);obtain⟨cw,bB,bC⟩:=bs bz;refine ON (l:= [sV O p0.1 U,sV V p0.2.1 Y]) av a1 bB rfl rfl rfl rfl rfl underlying139 Ii ?_;rintro cy _ rfl bD;refine JL.fl 0 bD underlying138 Ei GR ?_;obtain⟨Z,bE,bF⟩:=bs bC;refine BL (IG bE) rfl rfl Ig bw ?_;rintro _ bG _ ag ⟨a5,a6,rfl,rfl,bH⟩ bI;refine Bh underlying28 rfl rfl rfl ?_;obtain⟨a7,bJ,a8⟩:=bs bF;refine zg 2 rfl (Br (fun L s=>∃(a9:Unit) (bb:LH),a7=Sum.inr a9∧Jm bG H bb [] [] L s) ?_ ?_)
 ·rintro _ _ ⟨a9,bb,rfl,rfl,rfl,bK,bL⟩;have bM:=elim_inr a8;refine zg 4 rfl ?_;obtain rfl:=oi bM;exact AD func109 rfl rfl (a3 (ag.Ac bK) rfl ⟨rfl,rfl⟩ bL)
 ·intro bN;refine JL.block (Cy bJ (fun al=> []) (fun al=> [(0,pV k1 o2),(7,uV a4),(24,sV a5 Z a6),(25,iV (Z.length:Int)),(26,iV al)]) Ar bI ?_);rintro al bO K bd be ⟨cz,am⟩ bP;have bi:=am;unfold RZ at bi;refine zg 5 rfl (AN bi (fun bQ bR=>?_) (fun bQ bS=>?_))
  ·obtain⟨cA,bT,bU⟩:=bs bR;refine zg 5 rfl (B9 (bH.Ah K) bT underlying28 AU ?_);rintro cB cC _ rfl bV;refine BW 0 bV Bv rfl rfl rfl ?_;obtain⟨cD,bW,bY⟩:=bs bU;refine zg 6 rfl (BD (O3 bW) rfl rfl N7 bd fun bn ap bo=>?_);obtain⟨bZ,b0,b1⟩:=bs bY;refine zg 1 rfl (Et [] (fun L s=>∃(bp:LH),Jm bn H bp [] [(0,pV k1 o2),(7,uV a4),(24,sV a5 Z a6),(25,iV (Z.length:Int)),(26,iV al),(46,.bool bZ)] L s) ?_ ?_)
   ·rintro _ _ ⟨bp,rfl,rfl,bq,br⟩;refine JL.done (BF b1 (fun b2 b3=>?_) (fun b2 b4=>?_))
    ·refine zg 4 rfl ?_;obtain rfl:=oi b3;obtain rfl:=be _ am;have b5:=elim_inl a8;obtain rfl:=oi b5;exact AD func109 rfl rfl (a3 (((ag.Ac K).Ac ap).Ac bq) rfl ⟨rfl,rfl⟩ br)
    ·obtain⟨b6,b7,b8⟩:=bs b4;refine zg 3 rfl (Be b7 rfl rfl rfl ?_);refine zg 2 rfl ?_;obtain rfl:=oi b8;exact bP b6 ((K.Ac ap).Ac bq) br rfl am
   ·intro bu;refine DO 33 b0 (fun b9 ca=>?_) (fun b9 cb=>?_)
    ·refine zg 13 rfl ?_;obtain rfl:=oi ca;exact Ay (bu _ _ ⟨bn,rfl,rfl,Ar,bo⟩) rfl
    ·refine zg 3 rfl (BJ underlying141 BC rfl rfl rfl ?_);refine JL.fl 1 (av.Ah ((ag.Ac K).Ac ap)) underlying24 BS Ct ?_;obtain⟨cE,cc,cd⟩:=bs cb;refine zg 1 rfl (B9 (bv.Ah ((ag.Ac K).Ac ap)) cc underlying22 BV ?_);rintro cF cG _ ⟨cH,cI,rfl,ce⟩ cf;refine BW 0 cf CQ rfl rfl rfl ?_;obtain⟨cJ,cg,ci⟩:=bs cd;refine BD (J2 ce cg) rfl rfl Jp bo fun ck cm cn=>?_;obtain⟨co,cp,cq⟩:=bs ci;refine AB (v:= uV co) rfl (fun ρ h=>Ow (h _ _ rfl) (h _ _ rfl) cp) (zg 2 rfl ?_);obtain rfl:=oi cq;exact Ay (bu _ _ ⟨ck,rfl,rfl,cm,cn⟩) rfl
  ·refine JL.exit rfl ?_;obtain rfl:=oi bS;have cr:a7=(Sum.inr ()):=(be _ am).symm;exact Ay (bN _ _ ⟨(),bO,cr,rfl,rfl,K,bd⟩) rfl
end Pal
namespace Pal
open Go Go.Conc Go.Proofs
open Go.Proofs.Tryz
variable {J:Judge Tryz.prog}{E:LH}
def MN(fuel:Nat)(p0:List Int)(p1:Int)(K:Int):Option (Bi Int ((Int)⊕(Unit))):= if K<(p0.length:Int) then((ix p0 K).bind fun O=> if p1=O then(some (.done (Sum.inl K))) else((As (K+1)).bind fun U=> some (.more U))) else(some (.done (Sum.inr ())))
def f201(fuel:Nat)(p0:List Int)(p1:Int):Option Int:= Option.bind (iter (MN fuel p0 p1) fuel 0) fun K=> Sum.elim (fun r=>some r) (fun O=> some (-1)) K
theorem Z5{U:An}{c2:Nat}{p0:List Int}{p1:Int}(a2:Al rI E U c2 p0){fuel:Nat}{r:Int}(Z:f201 fuel p0 p1=some r):AL J 201 [sV U p0 c2,iV p1] E [] (fun w E' B'=>w=iV r∧B'= []):=by
 refine A4 func201 fun Q bB cs H a3 ag=>?_;unfold f201 at Z;refine zg 8 rfl (Bh underlying28 rfl rfl rfl ?_);obtain⟨al,a4,am⟩:=bs Z;refine zg 2 rfl (Br (fun L s=>∃(ap:Unit) (av:LH),al=Sum.inr ap∧Jm E H av [] [] L s) ?_ ?_)
 ·rintro _ _ ⟨ap,av,rfl,rfl,rfl,a5,a6⟩;have a7:=elim_inr am;refine zg 4 rfl ?_;obtain rfl:=oi a7;exact AD func201 rfl rfl (ag a5 rfl ⟨rfl,rfl⟩ a6)
 ·intro a8;refine JL.block (Cy a4 (fun V=> []) (fun V=> [(0,sV U p0 c2),(1,iV p1),(7,iV (p0.length:Int)),(8,iV V)]) Ar a3 ?_);rintro V a9 K Y a0 ⟨bC,O⟩ bb;have a1:=O;unfold MN at a1;refine zg 5 rfl (AN a1 (fun bd be=>?_) (fun bd bi=>?_))
  ·obtain⟨bD,bn,bo⟩:=bs be;refine zg 13 rfl (B9 (a2.Ah K) bn underlying28 AU ?_);rintro bE bF _ rfl bp;refine BW 0 bp Bv rfl rfl rfl (zg 2 rfl ?_);refine AN bo (fun bq br=>?_) (fun bq bu=>?_)
   ·refine zg 5 rfl ?_;obtain rfl:=oi br;obtain rfl:=a0 _ O;have bv:=elim_inl am;obtain rfl:=oi bv;exact AD func201 rfl rfl (ag K rfl ⟨rfl,rfl⟩ Y)
   ·obtain⟨bw,bx,bz⟩:=bs bu;refine zg 3 rfl (Be bx rfl rfl rfl ?_);refine zg 2 rfl ?_;obtain rfl:=oi bz;exact bb bw K Y rfl O
  ·refine JL.exit rfl ?_;obtain rfl:=oi bi;have bA:al=(Sum.inr ()):=(a0 _ O).symm;exact Ay (a8 _ _ ⟨(),a9,bA,rfl,rfl,K,Y⟩) rfl
def f199(fuel:Nat)(p0:List Int)(p1:Int):Option Bool:= (f201 fuel p0 p1).bind fun K=> some (decide (0≤K))
theorem YV{K:An}{c2:Nat}{p0:List Int}{p1:Int}(U:Al rI E K c2 p0){fuel:Nat}{r:Bool}(O:f199 fuel p0 p1=some r):AL J 199 [sV K p0 c2,iV p1] E [] (fun w E' B'=>w= .bool r∧B'= []):=by
 refine A4 func199 fun Q ap cs H V Y=>?_;unfold f199 at O;obtain⟨av,Z,ag⟩:=bs O;refine zg 8 rfl (BD (Z5 U Z) rfl rfl (AR func201 rfl) V fun a0 al am=>?_);refine zg 3 rfl ?_;obtain rfl:=oi ag;exact AD func199 rfl rfl (Y al rfl ⟨rfl,rfl⟩ am)
def f192(fuel:Nat)(p0:BU)(p1:Int)(p2:Int):Option ((Option (Int×Option Int))):= if p1=p2 then(some (some (p1,none))) else((ix p0.2.1 p1).bind fun K=> (f199 fuel K p2).bind fun O=> if O=true then(some (some (p1,some p2))) else(some none))
theorem ZR{k1:Nat}{o2:Nat}{O:An}{U:Nat}{V:An}{Y:Nat}{Z:List Value}{p0:BU}{p1:Int}{p2:Int}(a0:At E k1 o2 (([sV O p0.1 U,sV V p0.2.1 Y]:List Value)++Z))(bn:Al (rL rI) E O U p0.1)(a1:Al (rL rI) E V Y p0.2.1)(bo:(rA 13 (rN .u16)).r E Z p0.2.2){fuel:Nat}{r:(Option (Int×Option Int))}(ag:f192 fuel p0 p1 p2=some r):AL J 192 [pV k1 o2,iV p1,iV p2] E [] (fun w E' B'=>∃(al:Value),w=al∧B'= []∧PQ 257 259 al r):=by
 refine A4 func192 fun Q bp cs H am K=>?_;unfold f192 at ag;refine zg 13 rfl (AN ag (fun a2 a3=>?_) (fun a2 a4=>?_))
 ·refine zg 3 rfl (AB (v:= .agg #[iV p1]) rfl (fun ρ h=>CY [(0,1)] h (Du type257) underlying257 ⟨rfl,Bo type3,trivial⟩ rfl rfl) ?_);refine AB (v:= .iface 257 (.agg #[iV p1])) rfl (fun ρ h=>EW underlying257 (fun _ h=>by cases h) (h _ _ rfl)) (zg 2 rfl ?_);obtain rfl:=oi a3;exact AD func192 rfl rfl (K Ar rfl ⟨.iface 257 (.agg #[iV p1]),rfl,rfl,rfl⟩ am)
 ·refine zg 4 rfl (BJ underlying141 BC rfl rfl rfl ?_);refine JL.fl 1 a0 underlying24 BS Ct ?_;obtain⟨bq,a5,a6⟩:=bs a4;refine zg 1 rfl (B9 a1 a5 underlying22 BV ?_);rintro br bu _ ⟨bv,bw,rfl,a7⟩ a8;refine BW 0 a8 CQ rfl rfl rfl ?_;obtain⟨bx,a9,bb⟩:=bs a6;refine zg 1 rfl (BD (YV a7 a9) rfl rfl (AR func199 rfl) am fun bz ap av=>?_);refine zg 2 rfl (BF bb (fun bd be=>?_) (fun bd bi=>?_))
  ·refine zg 4 rfl (AB (v:= .agg #[iV p1,iV p2]) rfl (fun ρ h=>CY [(0,1),(1,1)] h (Du type259) underlying259 ⟨rfl,Bo type3,rfl,Bo type3,trivial⟩ rfl rfl) ?_);refine AB (v:= .iface 259 (.agg #[iV p1,iV p2])) rfl (fun ρ h=>EW underlying259 (fun _ h=>by cases h) (h _ _ rfl)) (zg 2 rfl ?_);obtain rfl:=oi be;exact AD func192 rfl rfl (K ap rfl ⟨.iface 259 (.agg #[iV p1,iV p2]),rfl,rfl,rfl⟩ av)
  ·refine zg 6 rfl ?_;obtain rfl:=oi bi;exact AD func192 rfl rfl (K ap rfl ⟨.nilIface,rfl,rfl,rfl⟩ av)
end Pal
namespace Pal
open Go Go.Conc Go.Proofs
open Go.Proofs.Tryz
variable {J:Judge Tryz.prog}{E:LH}
def LA(fuel:Nat)(p0:(BU)×(AI)×Ce):Option Int:= if(p0.2.1.length:Int)=0 then(some 0) else((As ((p0.2.1.length:Int) - 1)).bind fun K=> (ix p0.2.1 K).bind fun O=> some O.1)
theorem Yr{bk:Nat}{k1:Nat}{o2:Nat}{Z:An}{ag:Nat}{al:An}{am:Nat}{ap:List Value}{O:An}{U:Nat}{V:An}{Y:Nat}{p0:(BU)×(AI)×Ce}(bb:At E k1 o2 (([sV Z p0.1.1 ag,sV al p0.1.2.1 am]:List Value)++ap))(bd:Al (rL rI) E Z ag p0.1.1)(be:Al (rL rI) E al am p0.1.2.1)(bi:(rA 13 (rN .u16)).r E ap p0.1.2.2)(a1:Al Bp E O U p0.2.1)(bn:Al rI E V Y p0.2.2.2.1){fuel:Nat}{r:Int}(av:LA fuel p0=some r):AL J 154 [pV bk 0] E [(bk,.cells #[pV k1 o2,sV O p0.2.1 U,iV p0.2.2.1,sV V p0.2.2.2.1 Y,uV p0.2.2.2.2] 175 (0,0))] (fun w E' B'=>w=iV r∧B'= [(bk,.cells #[pV k1 o2,sV O p0.2.1 U,iV p0.2.2.1,sV V p0.2.2.2.1 Y,uV p0.2.2.2.2] 175 (0,0))]):=by
 refine A4 func154 fun Q bo cs H K a0=>?_;unfold LA at av;refine zg 9 rfl (BJ underlying175 Hl rfl rfl rfl ?_);refine AB (v:= sV O p0.2.1 U) rfl (fun ρ h=>Yl.load HJ (h _ _ rfl) (DW (j:=0) (off:=1) K rfl rfl)) (Bh underlying25 rfl rfl rfl ?_);refine zg 2 rfl (AN av (fun a2 a3=>?_) (fun a2 a4=>?_))
 ·refine zg 4 rfl ?_;obtain rfl:=oi a3;exact AD func154 rfl rfl (a0 Ar rfl ⟨rfl,rfl⟩ K)
 ·refine zg 2 rfl (Di 10 [bk] ⟨⟨0,_,rfl⟩,trivial⟩ K fun ht=>?_);refine A2 ht rfl [0,1] rfl (Ca 2 ht underlying175 Hl rfl rfl rfl rfl ?_);refine Fc 3 ht 1 0 K HJ ?_;refine A2 ht rfl [4,5] rfl (Ca 6 ht underlying175 Hl rfl rfl rfl rfl ?_);refine Fc 7 ht 1 0 K HJ ?_;refine Bx 8 ht rfl rfl (fun ρ h s' hs=>Yl.len rfl underlying25 (h _ _ rfl)) ?_;obtain⟨bp,a5,a6⟩:=bs a4;refine Bx 9 ht rfl rfl (fun ρ h s' hs=>C5 (h _ _ rfl) (h _ _ rfl) a5) (Cg [10,11,12,13] ?_);obtain⟨bq,a7,a8⟩:=bs a6;refine B9 a1 a7 underlying25 Cc ?_;rintro br bu _ ⟨_,_,rfl,rfl,rfl⟩ a9;refine JL.fl 0 a9 underlying27 AU Bv ?_;refine zg 2 rfl ?_;obtain rfl:=oi a8;exact AD func154 rfl rfl (a0 Ar rfl ⟨rfl,rfl⟩ K)
def Mz(fuel:Nat)(p0:(BU)×(AI)×Ce)(p1:Int)(p2:Int)(K:Nat×Int):Option (Bi (Nat×Int) ((Nat×Bool)⊕(Nat))):= if K.2<(p0.2.1.length:Int) then(Option.bind ((ix p0.2.1 K.2).bind fun O=> if O.1≠p1 then(some (Sum.inr K.1)) else((f192 fuel p0.1 p2 O.2).bind fun U=> Option.bind (if J7 U=true then(some (Sum.inr K.1)) else(if LG U=true then((f90 fuel K.1 K.2).bind fun V=> some (Sum.inr V)) else(some (Sum.inl (0,false))))) fun Y=>Sum.elim (fun r=>some (Sum.inl r)) (fun Z=> some (Sum.inr Z)) Y)) fun ag=>Sum.elim (fun r=>some (.done (Sum.inl r))) (fun al=> (As (K.2+1)).bind fun am=> some (.more (al,am))) ag) else(some (.done (Sum.inr K.1)))
def Lw(fuel:Nat)(p0:(BU)×(AI)×Ce)(p1:Int)(p2:Int):Option (Nat×Bool):= Option.bind (iter (Mz fuel p0 p1 p2) fuel (0,0)) fun K=> Sum.elim (fun r=>some r) (fun O=> some (O,true)) K
theorem WU{bk:Nat}{k1:Nat}{o2:Nat}{a4:An}{a5:Nat}{a6:An}{a7:Nat}{a8:List Value}{K:An}{O:Nat}{Y:An}{Z:Nat}{p0:(BU)×(AI)×Ce}{p1:Int}{p2:Int}(bE:At E k1 o2 (([sV a4 p0.1.1 a5,sV a6 p0.1.2.1 a7]:List Value)++a8))(bF:Al (rL rI) E a4 a5 p0.1.1)(bG:Al (rL rI) E a6 a7 p0.1.2.1)(bH:(rA 13 (rN .u16)).r E a8 p0.1.2.2)(bI:Al Bp E K O p0.2.1)(cC:Al rI E Y Z p0.2.2.2.1){fuel:Nat}{r:Nat×Bool}(a9:Lw fuel p0 p1 p2=some r):AL J 174 [pV bk 0,iV p1,iV p2] E [(bk,.cells #[pV k1 o2,sV K p0.2.1 O,iV p0.2.2.1,sV Y p0.2.2.2.1 Z,uV p0.2.2.2.2] 175 (0,0))] (fun w E' B'=>w= .tuple #[uV r.1,.bool r.2]∧B'= [(bk,.cells #[pV k1 o2,sV K p0.2.1 O,iV p0.2.2.1,sV Y p0.2.2.2.1 Z,uV p0.2.2.2.2] 175 (0,0))]):=by
 refine A4 func174 fun Q cD cs H bb bd=>?_;unfold Lw at a9;refine zg 11 rfl (JL.label ?_);refine zg 5 rfl (BJ underlying175 Hl rfl rfl rfl ?_);refine AB (v:= sV K p0.2.1 O) rfl (fun ρ h=>Yl.load HJ (h _ _ rfl) (DW (j:=0) (off:=1) bb rfl rfl)) (Bh underlying25 rfl rfl rfl ?_);obtain⟨be,bJ,bi⟩:=bs a9;refine zg 2 rfl (Br (fun L s=>∃(a1:Nat) (bn:LH),be=Sum.inr a1∧Jm E H bn [bX bk #[pV k1 o2,sV K p0.2.1 O,iV p0.2.2.1,sV Y p0.2.2.2.1 Z,uV p0.2.2.2.2] 175] [(8,uV a1)] L s) ?_ ?_)
 ·rintro _ _ ⟨a1,bn,rfl,rfl,rfl,bK,bL⟩;have bM:=elim_inr bi;refine zg 6 rfl ?_;obtain rfl:=oi bM;exact AD func174 rfl rfl (bd bK rfl ⟨rfl,rfl⟩ bL)
 ·intro bN;refine JL.block (Cy bJ (fun U=> [bX bk #[pV k1 o2,sV K p0.2.1 O,iV p0.2.2.1,sV Y p0.2.2.2.1 Z,uV p0.2.2.2.2] 175]) (fun U=> [(0,pV bk 0),(1,iV p1),(2,iV p2),(8,uV U.1),(14,sV K p0.2.1 O),(15,iV (p0.2.1.length:Int)),(16,iV U.2)]) Ar bb ?_);rintro U bo V bp bq ⟨cE,am⟩ bO;have br:=am;unfold Mz at br;refine zg 5 rfl (AN br (fun bP bQ=>?_) (fun bP bR=>?_))
  ·obtain⟨bS,bT,bu⟩:=bs bQ;refine zg 2 rfl (Br (fun L s=>∃(ap:Nat) (bv:LH),bS=Sum.inr ap∧Jm bo H bv [bX bk #[pV k1 o2,sV K p0.2.1 O,iV p0.2.2.1,sV Y p0.2.2.2.1 Z,uV p0.2.2.2.2] 175] [(0,pV bk 0),(1,iV p1),(2,iV p2),(8,uV ap),(14,sV K p0.2.1 O),(15,iV (p0.2.1.length:Int)),(16,iV U.2)] L s) ?_ ?_)
   ·rintro _ _ ⟨ap,bv,rfl,rfl,rfl,bU,bV⟩;have bW:=elim_inr bu;obtain⟨bY,bZ,b0⟩:=bs bW;refine JL.region (Be bZ rfl rfl rfl ?_);refine zg 2 rfl ?_;obtain rfl:=oi b0;exact bO (ap,bY) (V.Ac bU) bV rfl am
   ·intro bw;obtain⟨cF,b1,b2⟩:=bs bT;refine zg 4 rfl (B9 (bI.Ah V) b1 underlying25 Cc ?_);rintro cG cH _ ⟨_,_,rfl,rfl,rfl⟩ b3;refine BQ b3 Gt Cc rfl rfl (Cz bp Er fun cI b4=>?_);refine zg 1 rfl (BM 1 b4 Cc fun b5=>?_);refine CV 1 b5 rfl fun b6 ag bx al=>zg 4 rfl (JL.fl 0 bx underlying27 AU Bv ?_);refine zg 3 rfl (AN b2 (fun b7 b8=>?_) (fun b7 b9=>?_))
    ·exact JL.exit rfl (Ay (bw _ _ ⟨U.1,b6,(Option.some.inj b8).symm,rfl,rfl,ag,al⟩) rfl)
    ·refine zg 2 rfl (Di 7 [bk] ⟨⟨0,_,rfl⟩,trivial⟩ al fun ht=>?_);refine A2 ht rfl [0,1] rfl (Ca 2 ht underlying175 Ob rfl rfl rfl rfl ?_);refine Fc 3 ht 0 0 al L9 ?_;refine Ch 4 ht rfl rfl (Ca 5 ht underlying27 AU rfl rfl rfl rfl ?_);refine JG.lp 6 ht 1 bx al ⟨⟨0,_,rfl⟩,trivial⟩ Bv ?_;refine Cg [7] ?_;obtain⟨av,ca,cb⟩:=bs b9;refine BL (ZR (bE.Ah (V.Ac ag)) (bF.Ah (V.Ac ag)) (bG.Ah (V.Ac ag)) (Rp.Ah _ (V.Ac ag) bH) ca) rfl rfl (AR func192 rfl) al ?_;rintro _ bz _ bA ⟨cJ,rfl,rfl,bB⟩ a2;refine zg 4 rfl (AB (v:= .tuple #[(PN av),.bool (J7 av)]) rfl (fun ρ h=>Uq (t2:=259) underlying257 (Du type257) (by decide) bB (h _ _ rfl)) ?_);obtain⟨cc,cd,bC⟩:=bs cb;refine zg 3 rfl (Br (fun L s=>∃(a0:Nat) (a3:LH),cc=Sum.inr a0∧Jm bz H a3 [bX bk #[pV k1 o2,sV K p0.2.1 O,iV p0.2.2.1,sV Y p0.2.2.2.1 Z,uV p0.2.2.2.2] 175] [(0,pV bk 0),(1,iV p1),(2,iV p2),(8,uV a0),(14,sV K p0.2.1 O),(15,iV (p0.2.1.length:Int)),(16,iV U.2)] L s) ?_ ?_)
     ·rintro _ _ ⟨a0,a3,rfl,rfl,rfl,ce,cf⟩;have cg:=elim_inr bC;exact zg 2 rfl (Ay (bw _ _ ⟨a0,a3,(Option.some.inj cg).symm,rfl,rfl,((ag.Ac bA).Ac ce),cf⟩) rfl)
     ·intro bD;refine BF cd (fun ci ck=>?_) (fun ci cm=>?_)
      ·exact JL.skip (Ay (bD _ _ ⟨U.1,bz,(Option.some.inj ck).symm,rfl,rfl,Ar,a2⟩) rfl)
      ·refine zg 2 rfl (AB (v:= .tuple #[(PS av),.bool (LG av)]) rfl (fun ρ h=>UF (t1:=257) underlying259 (Du type259) (by decide) bB (h _ _ rfl)) ?_);refine zg 3 rfl (BF cm (fun cn co=>?_) (fun cn cp=>?_))
       ·obtain⟨cq,cr,ct⟩:=bs co;refine zg 3 rfl (BD (NH cr) rfl rfl Me a2 fun cu cv cw=>?_);exact zg 2 rfl (Ay (bD _ _ ⟨cq,cu,(Option.some.inj ct).symm,rfl,rfl,cv,cw⟩) rfl)
       ·refine zg 5 rfl ?_;obtain rfl:=oi cp;have cy:=elim_inl bC;obtain rfl:=oi cy;have cz:=elim_inl bu;obtain rfl:=oi cz;obtain rfl:=bq _ am;have cA:=elim_inl bi;obtain rfl:=oi cA;exact AD func174 rfl rfl (bd ((V.Ac ag).Ac bA) rfl ⟨rfl,rfl⟩ a2)
  ·refine JL.exit rfl ?_;obtain rfl:=oi bR;have cB:be=(Sum.inr U.1):=(bq _ am).symm;exact Ay (bN _ _ ⟨U.1,bo,cB,rfl,rfl,V,bp⟩) rfl
end Pal
namespace Pal
open Go Go.Conc Go.Proofs
open Go.Proofs.Tryz
variable {J:Judge Tryz.prog}{E:LH}
def Lq(fuel:Nat)(p0:List Int):Option ((List Int)):= (De ([]:List Int) p0).bind fun K=> some K
theorem X0{ad:Addr}{c2:Nat}{p0:List Int}(V:Al rI E (some ad) c2 p0){fuel:Nat}{r:(List Int)}(K:Lq fuel p0=some r):AL J 175 [.slice (some ad) p0.length c2] E [] (fun w E' B'=>∃(O:An) (U:Nat) (g0:Seg),w= sV O r U∧B'=g0∧OL 3 rI E' O U g0 r):=by
 refine A4 func175 fun Q a4 cs H Y Z=>?_;unfold Lq at K;refine zg 8 rfl (AB (v:= .bool false) rfl (fun ρ h=>Ms (a:=(some ad)) underlying28 (h _ _ rfl) (h _ _ rfl)) ?_);refine zg 5 rfl (K9 (pp:=rI) rfl rfl rfl underlying28 AU Y fun a5 g2 ag al=>?_);obtain⟨a6,am,ap⟩:=bs K;refine zg 1 rfl (KZ (pp:=rI) 1 am rfl rfl rfl rfl rfl rfl rfl underlying28 underlying28 AU (CR type3) CM rfl (by decide) (by decide) ag V al rfl fun av a0 a1 a2 a3=>?_);refine zg 2 rfl ?_;obtain rfl:=oi ap;exact AD func175 rfl rfl (Z Ar rfl ⟨av,a0,a1,rfl,(by first | rfl | simp | (simp [Value.cells])),a2⟩ a3)
def Tg(fuel:Nat)(p0:List Int):Option ((List Int)):= some ([])
theorem X4{c2:Nat}{p0:List Int}(Z:Al rI E none c2 p0){fuel:Nat}{r:(List Int)}(K:Tg fuel p0=some r):AL J 175 [sV none p0 c2] E [] (fun w E' B'=>∃(O:An) (U:Nat) (g0:Seg),w= sV O r U∧B'=g0∧OL 3 rI E' O U g0 r):=by
 refine A4 func175 fun Q ag cs H V Y=>?_;unfold Tg at K;refine zg 8 rfl (AB (v:= .bool true) rfl (fun ρ h=>Ms (a:=none) underlying28 (h _ _ rfl) (h _ _ rfl)) ?_);refine zg 6 rfl ?_;obtain rfl:=oi K;exact AD func175 rfl rfl (Y Ar rfl ⟨none,0,[],rfl,rfl,OL.nil⟩ V)
def f175(fuel:Nat)(p0:List Int):Option (List Int):=Lq fuel p0
theorem SF{O:An}{c2:Nat}{p0:List Int}(U:Al rI E O c2 p0){fuel:Nat}{r:List Int}(K:f175 fuel p0=some r):AL J 175 [.slice O p0.length c2] E [] (fun w E' B'=>∃(V:An) (Y:Nat) (g0:Seg),w= .slice V r.length Y∧B'=g0∧OL 3 rI E' V Y g0 r):=by
 cases O with
 | some ad=>exact X0 U K
 | none=>
  have Z:p0= []:=by
   rcases U.2 with h | ⟨_,_,h,_⟩
   ·exact h.1
   ·cases h
  subst Z;have ag:r= []:=by
   have al:Lq fuel []=some []:=rfl;unfold f175 at K;rw [al] at K;exact(Option.some.inj K).symm
  subst ag;exact X4 (fuel:=fuel) U rfl
end Pal
namespace Pal
open Go Go.Conc Go.Proofs
open Go.Proofs.Tryz
def II(fuel:Nat)(le:Int)(all:List (Ce))(tr:(Ce))(O:Int):Option (Int×List (Ce)):=
 Option.bind (
  if((all).length:Int)=0 then(
   some true
  ) else(
   some (decide (O<le))
  )
 ) fun U=>
 Option.bind (
  if U=true then(
   some (O,[])
  ) else(
   some (le,all)
  )
 ) fun K=>
 Option.bind (
  if O=K.1 then(
   (De K.2 ([tr]:List (Ce))).bind fun V=>
   some V
  ) else(
   some K.2
  )
 ) fun Y=>
 some (K.1,Y)
theorem ZZ{J:Judge Tryz.prog}{E:LH}{bk:Nat}{age:Int}{le:Int}{a:An}{c:Nat}{g:Seg}{all:List (Ce)}(bu:OL 104 Dr E a c g all){Y:An}{Z:Nat}{tr:(Ce)}(bv:Al rI E Y Z tr.2.1){ag:Int}{fuel:Nat}{r:Int×List (Ce)}(a9:II fuel le all tr ag=some r):
  AL J 122 [pV bk 1,.agg #[iV tr.1,.slice Y tr.2.1.length Z,uV tr.2.2],iV ag] E ([(bk,.cells #[iV age,iV le,.slice a all.length c] 133 (0,0))]++g) (fun w E' B'=>∃bb bd g',w= .tuple #[]∧B'= [(bk,.cells #[iV age,iV r.1,.slice bb r.2.length bd] 133 (0,0))]++g'∧OL 104 Dr E' bb bd g' r.2):=by
 refine A4 func122 fun Q b9 cs H a4 bw=>?_;refine DI (S':= [[(bk,.cells #[iV age,iV le,.slice a all.length c] 133 (0,0))],g]) (by simp) a4 fun a4=>?_;unfold II at a9;refine zg 2 rfl (B4 a4 fun be a5 a6 bx al=>?_);refine zg 6 rfl (BJ underlying97 Dt rfl rfl rfl ?_);refine AB (v:= sV a all c) rfl (fun ρ h=>Yl.load EC (h _ _ rfl) (DW (j:=0) (off:=2) al rfl rfl)) (Bh underlying95 rfl rfl rfl ?_);obtain⟨bz,bA,bB⟩:=bs a9;refine zg 2 rfl (Et [] (fun L s=>∃(U:LH),Jm a5 H U [bX bk #[iV age,iV le,sV a all c] 133,g] [(0,pV bk 1),(2,iV ag),(4,pV be 0),(19,.bool bz)] L s) ?_ ?_)
 ·rintro _ _ ⟨U,rfl,rfl,am,bi⟩;obtain⟨V,bC,bD⟩:=bs bB;refine JL.done (Br (fun L s=>∃(K:LH) (ap:An) (av:Nat) (a0:Seg),Jn U H K [bX bk #[iV age,iV V.1,sV ap V.2 av] 133,a0] [(0,pV bk 1),(2,iV ag),(4,pV be 0)] L s (OL 104 Dr K ap av a0 V.2)) ?_ ?_)
  ·rintro _ _ ⟨K,ap,av,a0,rfl,rfl,a7,O,bn⟩;refine zg 5 rfl (BJ underlying97 AU rfl rfl rfl ?_);refine AB (v:=iV V.1) rfl (fun ρ h=>Yl.load Bv (h _ _ rfl) (DW (j:=0) (off:=1) O rfl rfl)) ?_;obtain⟨bo,bE,bF⟩:=bs bD;refine zg 2 rfl (Br (fun L s=>∃(a8:LH) (a1:An) (a2:Nat) (a3:Seg),Jn K H a8 [bX bk #[iV age,iV V.1,sV a1 bo a2] 133,a3] [] L s (OL 104 Dr a8 a1 a2 a3 bo)) ?_ ?_)
   ·rintro _ _ ⟨a8,a1,a2,a3,rfl,rfl,bG,bH,bI⟩;obtain rfl:=oi bF;exact JL.fin (v:= .tuple #[]) rfl rfl (Cd.list func122 rfl (vs:= []) trivial) (bw (((a6.Ac am).Ac a7).Ac bG) rfl ⟨a1,a2,a3,rfl,by simp,bI⟩ bH)
   ·intro bp;refine AN bE (fun bJ bK=>?_) (fun bJ bL=>?_)
    ·refine Di 8 [bk] ⟨⟨0,_,rfl⟩,trivial⟩ O fun ht=>A2 ht rfl [0,1,2] rfl (Ca 3 ht underlying97 Dt rfl rfl rfl rfl ?_);refine Fc 4 ht 2 0 O EC ?_;refine Bx 5 ht rfl rfl (fun ρ h s' hs=>FJ (vs:= [iV tr.1,sV Y tr.2.1 Z,uV tr.2.2]) FX Cu (h _ _ rfl) (At.OV (bx.Ah (am.Ac a7)) (Pl O hs ⟨⟨0,_,rfl⟩,trivial⟩))) ?_;obtain⟨ca,bM,bN⟩:=bs bK;refine JG.one (i:=6) rfl (by decide+kernel) (Take.lit (pp:=Dr) (jp:=0) [.agg #[iV tr.1,sV Y tr.2.1 Z,uV tr.2.2]] ([tr]:List Ce) O rfl rfl rfl rfl underlying95 Cu GV (by decide) rfl rfl rfl ⟨⟨_,_,rfl,rfl,⟨_,_,rfl,⟨_,_,rfl,(bv.Ah ((a6.Ac am).Ac a7))⟩,rfl⟩⟩,trivial⟩ fun cb cc bO bP=>?_);refine JG.one (i:=7) rfl (by decide+kernel) (Take.app (pp:=Dr) (jp:=0) 1 2 bP rfl bM rfl rfl rfl rfl rfl rfl rfl underlying95 underlying95 Cu (CR type104) GV rfl (by decide) (by decide) bn bO rfl rfl rfl rfl fun bQ bR cd bS bT bU=>?_);refine Cg [8,9,10] (EP 1 rfl bU fun bV=>?_);refine JS.drop 1 bV rfl fun bW=>zg 1 rfl (BJ underlying97 Dt rfl rfl rfl ?_);refine BM 0 bW Dt fun bY=>?_;refine JL.done (JS.drop 2 bY rfl fun bZ=>?_);obtain rfl:=oi bN;exact Ay (bp _ _ ⟨K,bQ,bR,bS,rfl,rfl,Ar,bZ,bT⟩) rfl
    ·refine JL.skip ?_;obtain rfl:=oi bL;exact Ay (bp _ _ ⟨K,ap,av,a0,rfl,rfl,Ar,O,bn⟩) rfl
  ·intro bq;refine BF bC (fun b0 b1=>?_) (fun b0 b2=>?_)
   ·refine zg 5 rfl (BJ underlying97 AU rfl rfl rfl ?_);refine BM 0 bi AU fun b3=>?_;refine zg 1 rfl (BJ underlying97 Dt rfl rfl rfl ?_);refine BM 0 b3 Dt fun b4=>?_;refine JL.done (JS.drop 1 b4 rfl fun b5=>?_);obtain rfl:=oi b1;exact Ay (bq _ _ ⟨U,none,0,[],rfl,rfl,Ar,b5,OL.nil⟩) rfl
   ·refine JL.skip ?_;obtain rfl:=oi b2;exact Ay (bq _ _ ⟨U,a,c,g,rfl,rfl,Ar,bi,(bu.Ah (a6.Ac am))⟩) rfl
 ·intro br;refine D7 12 bA (fun b6 b7=>?_) (fun b6 b8=>?_)
  ·refine zg 7 rfl ?_;obtain rfl:=oi b7;exact Ay (br _ _ ⟨a5,rfl,rfl,Ar,al⟩) rfl
  ·refine zg 3 rfl (BJ underlying97 AU rfl rfl rfl ?_);refine AB (v:=iV le) rfl (fun ρ h=>Yl.load Bv (h _ _ rfl) (DW (j:=0) (off:=1) al rfl rfl)) (zg 2 rfl ?_);obtain rfl:=oi b8;exact Ay (br _ _ ⟨a5,rfl,rfl,Ar,al⟩) rfl
theorem YU{J:Judge Tryz.prog}{E:LH}{bk:Nat}{age:Int}{le:Int}{a:An}{c:Nat}{g:Seg}{all:List (Ce)}(bu:OL 104 Dr E a c g all){Y:An}{Z:Nat}{tr:(Ce)}(bv:Al rI E Y Z tr.2.1){ag:Int}{fuel:Nat}{r:Int×List (Ce)}(a9:II fuel le all tr ag=some r):
  AL J 122 [pV bk 0,.agg #[iV tr.1,.slice Y tr.2.1.length Z,uV tr.2.2],iV ag] E ([(bk,.cells #[iV le,.slice a all.length c] 97 (0,0))]++g) (fun w E' B'=>∃bb bd g',w= .tuple #[]∧B'= [(bk,.cells #[iV r.1,.slice bb r.2.length bd] 97 (0,0))]++g'∧OL 104 Dr E' bb bd g' r.2):=by
 refine A4 func122 fun Q b9 cs H a4 bw=>?_;refine DI (S':= [[(bk,.cells #[iV le,.slice a all.length c] 97 (0,0))],g]) (by simp) a4 fun a4=>?_;unfold II at a9;refine zg 2 rfl (B4 a4 fun be a5 a6 bx al=>?_);refine zg 6 rfl (BJ underlying97 Dt rfl rfl rfl ?_);refine AB (v:= sV a all c) rfl (fun ρ h=>Yl.load EC (h _ _ rfl) (DW (j:=0) (off:=1) al rfl rfl)) (Bh underlying95 rfl rfl rfl ?_);obtain⟨bz,bA,bB⟩:=bs a9;refine zg 2 rfl (Et [] (fun L s=>∃(U:LH),Jm a5 H U [bX bk #[iV le,sV a all c] 97,g] [(0,pV bk 0),(2,iV ag),(4,pV be 0),(19,.bool bz)] L s) ?_ ?_)
 ·rintro _ _ ⟨U,rfl,rfl,am,bi⟩;obtain⟨V,bC,bD⟩:=bs bB;refine JL.done (Br (fun L s=>∃(K:LH) (ap:An) (av:Nat) (a0:Seg),Jn U H K [bX bk #[iV V.1,sV ap V.2 av] 97,a0] [(0,pV bk 0),(2,iV ag),(4,pV be 0)] L s (OL 104 Dr K ap av a0 V.2)) ?_ ?_)
  ·rintro _ _ ⟨K,ap,av,a0,rfl,rfl,a7,O,bn⟩;refine zg 5 rfl (BJ underlying97 AU rfl rfl rfl ?_);refine AB (v:=iV V.1) rfl (fun ρ h=>Yl.load Bv (h _ _ rfl) (DW (j:=0) (off:=0) O rfl rfl)) ?_;obtain⟨bo,bE,bF⟩:=bs bD;refine zg 2 rfl (Br (fun L s=>∃(a8:LH) (a1:An) (a2:Nat) (a3:Seg),Jn K H a8 [bX bk #[iV V.1,sV a1 bo a2] 97,a3] [] L s (OL 104 Dr a8 a1 a2 a3 bo)) ?_ ?_)
   ·rintro _ _ ⟨a8,a1,a2,a3,rfl,rfl,bG,bH,bI⟩;obtain rfl:=oi bF;exact JL.fin (v:= .tuple #[]) rfl rfl (Cd.list func122 rfl (vs:= []) trivial) (bw (((a6.Ac am).Ac a7).Ac bG) rfl ⟨a1,a2,a3,rfl,by simp,bI⟩ bH)
   ·intro bp;refine AN bE (fun bJ bK=>?_) (fun bJ bL=>?_)
    ·refine Di 8 [bk] ⟨⟨0,_,rfl⟩,trivial⟩ O fun ht=>A2 ht rfl [0,1,2] rfl (Ca 3 ht underlying97 Dt rfl rfl rfl rfl ?_);refine Fc 4 ht 1 0 O EC ?_;refine Bx 5 ht rfl rfl (fun ρ h s' hs=>FJ (vs:= [iV tr.1,sV Y tr.2.1 Z,uV tr.2.2]) FX Cu (h _ _ rfl) (At.OV (bx.Ah (am.Ac a7)) (Pl O hs ⟨⟨0,_,rfl⟩,trivial⟩))) ?_;obtain⟨ca,bM,bN⟩:=bs bK;refine JG.one (i:=6) rfl (by decide+kernel) (Take.lit (pp:=Dr) (jp:=0) [.agg #[iV tr.1,sV Y tr.2.1 Z,uV tr.2.2]] ([tr]:List Ce) O rfl rfl rfl rfl underlying95 Cu GV (by decide) rfl rfl rfl ⟨⟨_,_,rfl,rfl,⟨_,_,rfl,⟨_,_,rfl,(bv.Ah ((a6.Ac am).Ac a7))⟩,rfl⟩⟩,trivial⟩ fun cb cc bO bP=>?_);refine JG.one (i:=7) rfl (by decide+kernel) (Take.app (pp:=Dr) (jp:=0) 1 2 bP rfl bM rfl rfl rfl rfl rfl rfl rfl underlying95 underlying95 Cu (CR type104) GV rfl (by decide) (by decide) bn bO rfl rfl rfl rfl fun bQ bR cd bS bT bU=>?_);refine Cg [8,9,10] (EP 1 rfl bU fun bV=>?_);refine JS.drop 1 bV rfl fun bW=>zg 1 rfl (BJ underlying97 Dt rfl rfl rfl ?_);refine BM 0 bW Dt fun bY=>?_;refine JL.done (JS.drop 2 bY rfl fun bZ=>?_);obtain rfl:=oi bN;exact Ay (bp _ _ ⟨K,bQ,bR,bS,rfl,rfl,Ar,bZ,bT⟩) rfl
    ·refine JL.skip ?_;obtain rfl:=oi bL;exact Ay (bp _ _ ⟨K,ap,av,a0,rfl,rfl,Ar,O,bn⟩) rfl
  ·intro bq;refine BF bC (fun b0 b1=>?_) (fun b0 b2=>?_)
   ·refine zg 5 rfl (BJ underlying97 AU rfl rfl rfl ?_);refine BM 0 bi AU fun b3=>?_;refine zg 1 rfl (BJ underlying97 Dt rfl rfl rfl ?_);refine BM 0 b3 Dt fun b4=>?_;refine JL.done (JS.drop 1 b4 rfl fun b5=>?_);obtain rfl:=oi b1;exact Ay (bq _ _ ⟨U,none,0,[],rfl,rfl,Ar,b5,OL.nil⟩) rfl
   ·refine JL.skip ?_;obtain rfl:=oi b2;exact Ay (bq _ _ ⟨U,a,c,g,rfl,rfl,Ar,bi,(bu.Ah (a6.Ac am))⟩) rfl
 ·intro br;refine D7 12 bA (fun b6 b7=>?_) (fun b6 b8=>?_)
  ·refine zg 7 rfl ?_;obtain rfl:=oi b7;exact Ay (br _ _ ⟨a5,rfl,rfl,Ar,al⟩) rfl
  ·refine zg 3 rfl (BJ underlying97 AU rfl rfl rfl ?_);refine AB (v:=iV le) rfl (fun ρ h=>Yl.load Bv (h _ _ rfl) (DW (j:=0) (off:=0) al rfl rfl)) (zg 2 rfl ?_);obtain rfl:=oi b8;exact Ay (br _ _ ⟨a5,rfl,rfl,Ar,al⟩) rfl
end Pal
namespace Pal
open Go Go.Conc Go.Proofs
open Go.Proofs.Tryz
def LF(fuel:Nat)(O:BU)(lk:AI)(age:Int)(ms:List Int)(fl:Nat)(m:Int):Option (Option (List Int×Nat)):=
 (Lw fuel (O,lk,age,ms,fl) ((ms).length:Int) m).bind fun K=>
 if(!K.2)=true then(
  some none
 ) else(
  (f175 fuel ms).bind fun U=>
  (De U ([m]:List Int)).bind fun V=>
  (Jl (fl) (K.1)).bind fun Y=>
  some (some (V,Y))
 )
theorem YB{J:Judge Tryz.prog}{A:Type}{I:A→LH→Seg→Prop}(bW:∀x E E' X,Le E E'→I x E X→I x E' X){E:LH}{bk k1 o2:Nat}{bB bC K Z:An}{bD bE O ag:Nat}{bF:List Value}{av:BU}{lk:AI}{age:Int}{ms:List Int}{fl:Nat}(bY:At E k1 o2 (([sV bB av.1 bD,sV bC av.2.1 bE]:List Value)++bF))(bZ:Al (rL rI) E bB bD av.1)(b0:Al (rL rI) E bC bE av.2.1)(b1:(rA 13 (rN .u16)).r E bF av.2.2)(b2:Al Bp E K O lk)(bi:Al rI E Z ag ms){bG:Value}{X:Seg}{acc acc':A}(b3:I acc E X){m:Int}{fuel:Nat}{r:Option (List Int×Nat)}(bH:LF fuel av lk age ms fl m=some r)
  (b4:r=none→acc'=acc)
  (bI:∀q,r=some q→∀E' a c,Le E E'→Al rI E' a c q.1→EU J bG [] E' ([(bk,.cells #[pV k1 o2,.slice K lk.length O,iV age,.slice a q.1.length c,uV q.2] 175 (0,0))]++X) (fun w b5 b6=>∃a4 a5 a6 Y,w= .bool true∧b6= [(bk,.cells #[pV k1 o2,.slice K lk.length O,a4,a5,a6] 175 (0,0))]++Y∧I acc' b5 Y)):
  AL J 155 [pV bk 0,iV m,bG] E ([(bk,.cells #[pV k1 o2,.slice K lk.length O,iV age,.slice Z ms.length ag,uV fl] 175 (0,0))]++X) (fun w E' B'=>∃Y,w= .bool true∧B'= [(bk,.cells #[pV k1 o2,.slice K lk.length O,iV age,.slice Z ms.length ag,uV fl] 175 (0,0))]++Y∧I acc' E' Y):=by
 refine A4 func155 fun Q bJ cs H bn bo=>?_;refine DI (S':= [[(bk,.cells #[pV k1 o2,.slice K lk.length O,iV age,.slice Z ms.length ag,uV fl] 175 (0,0))],X]) (by simp) bn fun bn=>?_;unfold LF at bH;refine zg 2 rfl (B4 bn fun a0 cY U am a7=>?_);refine zg 3 rfl (Di 13 [bk] ⟨⟨0,_,rfl⟩,trivial⟩ a7 fun ht=>?_);refine JG.lp 0 ht 0 am a7 ⟨⟨0,_,rfl⟩,trivial⟩ FG ?_;refine JG.lp 1 ht 0 am a7 ⟨⟨0,_,rfl⟩,trivial⟩ FG ?_;refine Ch 2 ht rfl rfl (Ca 3 ht underlying175 Cu rfl rfl rfl rfl ?_);refine Ca 4 ht underlying104 BV rfl rfl rfl rfl (Fc 5 ht 3 0 a7 CQ ?_);refine Bx 6 ht rfl rfl (fun ρ h s' hs=>Yl.len rfl underlying28 (h _ _ rfl)) (Ch 7 ht rfl rfl ?_);obtain⟨b7,b8,b9⟩:=bs bH;refine QP (i:=8) (vs:= [pV bk 0,iV (ms.length:Int),iV m]) 0 ⟨⟨0,_,rfl⟩,trivial⟩ (WU (bY.Ah U) (bZ.Ah U) (b0.Ah U) (Rp.Ah _ U b1) (b2.Ah U) (bi.Ah U) b8) (fun _ _ _ h=>h.2) (by decide+kernel) rfl rfl rfl (AR func174 rfl) rfl a7 rfl ?_;rintro _ cZ V ⟨rfl,_⟩ bp;refine A2 ht rfl [9,10,11,12] rfl (Cg [13] ?_);refine zg 6 rfl (AB (v:= .bool (!b7.2)) rfl (fun ρ h=>Yl.not (h _ _ rfl)) ?_);refine JL.done (BF b9 (fun ca cb=>?_) (fun ca cc=>?_))
 ·refine zg 4 rfl ?_;obtain rfl:=oi cb;exact AD func155 rfl rfl (bo (U.Ac V) rfl ⟨X,rfl,by simp,by rw [b4 rfl];exact bW _ _ _ _ (U.Ac V) b3⟩ bp)
 ·refine zg 3 rfl (BW 0 (am.Ah V) FG rfl rfl rfl ?_);refine zg 1 rfl (BJ underlying175 Cu rfl rfl rfl ?_);refine AB rfl (fun ρ h=>FJ (vs:= [iV age,sV Z ms ag,uV fl]) FX Cu (h _ _ rfl) (ED (off:=2) 0 bp rfl rfl)) (Cz bp GV fun a1 cd=>?_);refine BM 3 cd Cu fun ce=>?_;refine CV 3 ce rfl fun c0 al bq cf=>Cs (S':= [[(bk,.cells #[pV k1 o2,sV K lk O,iV age,sV Z ms ag,uV fl] 175 (0,0))],X,[],[]]) rfl cf fun bK=>zg 2 rfl (CZ 7 fun ht=>?_);refine Co 0 ht 0 (am.Ah (V.Ac al)) FG rfl rfl rfl rfl (Ca 1 ht underlying104 BV rfl rfl rfl rfl ?_);refine Co 2 ht 1 bq CQ rfl rfl rfl rfl (Ch 4 ht rfl rfl ?_);obtain⟨c1,bL,cg⟩:=bs cc;obtain⟨a2,bM,bN⟩:=bs cg;refine IB (i:=3) (j:=5) rfl (by decide+kernel) ?_ ?_
  ·refine Take.G9 (vs:= [sV Z ms ag]) bK (SF (bi.Ah ((U.Ac V).Ac al)) bL) rfl rfl rfl (AR func175 rfl) rfl ?_;rintro _ c2 _ a8 ⟨c3,c4,c5,rfl,rfl,ci⟩ ck;refine JG.one (i:=5) rfl (by decide+kernel) (Take.NV (pp:=rI) [iV m] ([m]:List Int) ck rfl rfl rfl underlying28 AU CM (by decide) rfl rfl rfl ⟨rfl,trivial⟩ fun c6 bO cm cn=>?_);refine JG.one (i:=6) rfl (by decide+kernel) (Take.app0 (pp:=rI) 4 5 cn bM rfl rfl rfl rfl rfl rfl rfl underlying28 underlying28 AU (CR type3) CM rfl (by decide) (by decide) ci cm rfl rfl fun bP bQ c7 co cp cq=>?_);refine Cg [7,8,9,10] (EP 4 rfl cq fun cr=>?_);refine JS.drop 4 cr rfl fun ct=>Cs (S':= [[(bk,.cells #[pV k1 o2,sV K lk O,iV age,sV Z ms ag,uV fl] 175 (0,0))],X,[],[],[],bO,co]) rfl ct fun cu=>zg 1 rfl (BJ underlying175 Cu rfl rfl rfl ?_);refine BJ underlying104 BV rfl rfl rfl (BM 0 cu BV fun bR=>?_);refine zg 3 rfl (BW 0 (am.Ah ((V.Ac al).Ac a8)) FG rfl rfl rfl ?_);refine zg 1 rfl (BJ underlying175 Cu rfl rfl rfl ?_);refine BJ underlying104 Ei rfl rfl rfl (AB (v:= uV fl) rfl (fun ρ h=>Yl.load GR (h _ _ rfl) (DW (j:=0) (off:=4) bR rfl rfl)) ?_);obtain⟨a9,cv,cw⟩:=bs bN;refine zg 1 rfl (AB (v:= uV a9) rfl (fun ρ h=>KG (h _ _ rfl) (h _ _ rfl) cv) ?_);refine zg 1 rfl (BJ underlying175 Cu rfl rfl rfl ?_);refine BJ underlying104 Ei rfl rfl rfl (BM 0 bR Ei fun cy=>?_);refine zg 2 rfl (B5 6 cp cy rfl fun c8 bb cz cA=>?_);refine Cs (S':= [[(bk,.cells #[pV k1 o2,sV K lk O,iV age,sV bP a2 bQ,uV a9] 175 (0,0))],X,[],[],[],bO,[]]) rfl cA fun cB=>JS.drop 5 cB rfl fun cC=>?_;obtain rfl:=oi cw;refine JL.region (AB (v:= .func (.func 176) #[] [pV a1 0,pV a0 0].toArray) rfl (fun ρ h=>IV (by simp) (by simp [h (.tmp 9) _ rfl,h (.tmp 3) _ rfl])) ?_);refine Qu (vs:= []) (caps:= [pV a1 0,pV a0 0]) rfl rfl rfl rfl rfl rfl (zg 4 rfl ?_);refine DI (S':= [[(bk,.cells #[pV k1 o2,sV K lk O,iV age,sV bP a2 bQ,uV a9] 175 (0,0))]++X]) (by simp) cC fun br=>Jy (vs:= []) 0 (bI (a2,a9) rfl _ _ _ ((((U.Ac V).Ac al).Ac a8).Ac bb) cz) rfl rfl rfl rfl rfl br rfl ?_;rintro _ cD _ ap ⟨a4,a5,a6,Y,rfl,rfl,bu⟩ bv;refine zg 2 rfl (Gu rfl ?_);refine JO.SO (vs:= []) (caps:= [pV a1 0,pV a0 0]) rfl func176 rfl rfl (Nat.le_of_ble_eq_true rfl) fun T bw todo=>DI (S':= [[(bk,.cells #[pV k1 o2,.slice K lk.length O,a4,a5,a6] 175 (0,0))],Y]) (by simp) bv fun bx=>JL.region (BW 0 (am.Ah ((((V.Ac al).Ac a8).Ac bb).trans ap)) FG rfl rfl rfl ?_);refine BQ (bq.Ah ((a8.Ac bb).trans ap)) FX Cu rfl rfl (zg 1 rfl ?_);refine BJ underlying175 Cu rfl rfl rfl (BM 0 bx Cu fun bz=>?_);refine Cs (S':= [[(bk,.cells #[pV k1 o2,.slice K lk.length O,iV age,.slice Z ms.length ag,uV fl] 175 (0,0))],Y]) rfl bz fun bA=>JL.done (JL.out rfl ?_);refine JO.leaveD rfl func176 rfl (.inl rfl) ?_;refine(?_:JO J Q (base 155) Tryz.f155.ntmps _ [] (bJ::cs) _) T bw todo;exact JO.leave (v:= .bool true) rfl (Cd.list func155 rfl (vs:= [.bool true]) ⟨rfl,trivial⟩) (bo (((((U.Ac V).Ac al).Ac a8).Ac bb).trans ap) rfl ⟨Y,rfl,by simp,bu⟩ bA)
  ·refine Take.NV (pp:=rI) [iV m] ([m]:List Int) bK rfl rfl rfl underlying28 AU CM (by decide) rfl rfl rfl ⟨rfl,trivial⟩ fun c9 bS cE cF=>JG.one (i:=3) rfl (by decide+kernel) (Take.G9 (vs:= [sV Z ms ag]) cF (SF (bi.Ah ((U.Ac V).Ac al)) bL) rfl rfl rfl (AR func175 rfl) rfl ?_);rintro _ da _ a3 ⟨db,dc,dd,rfl,rfl,cG⟩ cH;refine JG.one (i:=6) rfl (by decide+kernel) (Take.app0 (pp:=rI) 5 4 cH bM rfl rfl rfl rfl rfl rfl rfl underlying28 underlying28 AU (CR type3) CM rfl (by decide) (by decide) cG (cE.Ah a3) rfl rfl fun bT bU de cI cJ cK=>?_);refine Cg [7,8,9,10] (EP 5 rfl cK fun cM=>?_);refine JS.drop 5 cM rfl fun cN=>Cs (S':= [[(bk,.cells #[pV k1 o2,sV K lk O,iV age,sV Z ms ag,uV fl] 175 (0,0))],X,[],[],bS,[],cI]) rfl cN fun cO=>zg 1 rfl (BJ underlying175 Cu rfl rfl rfl ?_);refine BJ underlying104 BV rfl rfl rfl (BM 0 cO BV fun bV=>?_);refine zg 3 rfl (BW 0 (am.Ah ((V.Ac al).Ac a3)) FG rfl rfl rfl ?_);refine zg 1 rfl (BJ underlying175 Cu rfl rfl rfl ?_);refine BJ underlying104 Ei rfl rfl rfl (AB (v:= uV fl) rfl (fun ρ h=>Yl.load GR (h _ _ rfl) (DW (j:=0) (off:=4) bV rfl rfl)) ?_);obtain⟨bd,cP,cQ⟩:=bs bN;refine zg 1 rfl (AB (v:= uV bd) rfl (fun ρ h=>KG (h _ _ rfl) (h _ _ rfl) cP) ?_);refine zg 1 rfl (BJ underlying175 Cu rfl rfl rfl ?_);refine BJ underlying104 Ei rfl rfl rfl (BM 0 bV Ei fun cR=>?_);refine zg 2 rfl (B5 6 cJ cR rfl fun df be cT cV=>?_);refine Cs (S':= [[(bk,.cells #[pV k1 o2,sV K lk O,iV age,sV bT a2 bU,uV bd] 175 (0,0))],X,[],[],bS,[],[]]) rfl cV fun cW=>JS.drop 4 cW rfl fun cX=>?_;obtain rfl:=oi cQ;refine JL.region (AB (v:= .func (.func 176) #[] [pV a1 0,pV a0 0].toArray) rfl (fun ρ h=>IV (by simp) (by simp [h (.tmp 9) _ rfl,h (.tmp 3) _ rfl])) ?_);refine Qu (vs:= []) (caps:= [pV a1 0,pV a0 0]) rfl rfl rfl rfl rfl rfl (zg 4 rfl ?_);refine DI (S':= [[(bk,.cells #[pV k1 o2,sV K lk O,iV age,sV bT a2 bU,uV bd] 175 (0,0))]++X]) (by simp) cX fun br=>Jy (vs:= []) 0 (bI (a2,bd) rfl _ _ _ ((((U.Ac V).Ac al).Ac a3).Ac be) cT) rfl rfl rfl rfl rfl br rfl ?_;rintro _ cD _ ap ⟨a4,a5,a6,Y,rfl,rfl,bu⟩ bv;refine zg 2 rfl (Gu rfl ?_);refine JO.SO (vs:= []) (caps:= [pV a1 0,pV a0 0]) rfl func176 rfl rfl (Nat.le_of_ble_eq_true rfl) fun T bw todo=>DI (S':= [[(bk,.cells #[pV k1 o2,.slice K lk.length O,a4,a5,a6] 175 (0,0))],Y]) (by simp) bv fun bx=>JL.region (BW 0 (am.Ah ((((V.Ac al).Ac a3).Ac be).trans ap)) FG rfl rfl rfl ?_);refine BQ (bq.Ah ((a3.Ac be).trans ap)) FX Cu rfl rfl (zg 1 rfl ?_);refine BJ underlying175 Cu rfl rfl rfl (BM 0 bx Cu fun bz=>?_);refine Cs (S':= [[(bk,.cells #[pV k1 o2,.slice K lk.length O,iV age,.slice Z ms.length ag,uV fl] 175 (0,0))],Y]) rfl bz fun bA=>JL.done (JL.out rfl ?_);refine JO.leaveD rfl func176 rfl (.inl rfl) ?_;refine(?_:JO J Q (base 155) Tryz.f155.ntmps _ [] (bJ::cs) _) T bw todo;exact JO.leave (v:= .bool true) rfl (Cd.list func155 rfl (vs:= [.bool true]) ⟨rfl,trivial⟩) (bo (((((U.Ac V).Ac al).Ac a3).Ac be).trans ap) rfl ⟨Y,rfl,by simp,bu⟩ bA)
end Pal
namespace Pal
open Go Go.Conc Go.Proofs
open Go.Proofs.Tryz
def LM(fuel:Nat)(K:BU)(lk:AI)(age:Int)(ms:List Int)(fl:Nat)(n:Int):Option (Nat):=
 (ix K.1 (n)).bind fun O=>
 (f120 fuel O).bind fun U=>
 some U
theorem bg{J:Judge Tryz.prog}{E:LH}{bk k1 o2:Nat}{a0 a1 O U:An}{a2 a3 V Y:Nat}{a4:List Value}{Z:BU}{lk:AI}{age:Int}{ms:List Int}{fl:Nat}(a8:At E k1 o2 (([sV a0 Z.1 a2,sV a1 Z.2.1 a3]:List Value)++a4))(a9:Al (rL rI) E a0 a2 Z.1)(bI:Al (rL rI) E a1 a3 Z.2.1)(bJ:(rA 13 (rN .u16)).r E a4 Z.2.2)(bK:Al Bp E O V lk)(bL:Al rI E U Y ms){ag al:Nat}(bb:At E ag al [pV bk 0]){ap av kf am:Nat}(bd:At E kf am [.func (.func 153) #[] [pV ag al,pV ap av,pV kf am].toArray]){a5 on:Nat}{n:Int}(be:At E a5 on [iV n]){X:Seg}{fuel:Nat}{r:Nat}(a6:LM fuel Z lk age ms fl n=some r){R:Value→LH→Seg→Prop}
  (bi:∀E',Le E E'→AL J 153 [uV r,pV ag al,pV ap av,pV kf am] E' ([(bk,.cells #[pV k1 o2,.slice O lk.length V,iV age,.slice U ms.length Y,uV fl] 175 (0,0))]++X) R):
  AL J 156 [pV kf am,pV ag al,pV a5 on] E ([(bk,.cells #[pV k1 o2,.slice O lk.length V,iV age,.slice U ms.length Y,uV fl] 175 (0,0))]++X) R:=by
 refine J3 func156 rfl rfl fun Q bM cs H K bn=>DI (S':= [[(bk,.cells #[pV k1 o2,.slice O lk.length V,iV age,.slice U ms.length Y,uV fl] 175 (0,0))],X]) (by simp) K fun K=>?_;unfold LM at a6;refine zg 5 rfl (Di 13 [bk] ⟨⟨0,_,rfl⟩,trivial⟩ K fun ht=>?_);refine JG.lp 0 ht 0 bd K ⟨⟨0,_,rfl⟩,trivial⟩ (Dv underlying201) ?_;refine JG.lp 1 ht 0 bb K ⟨⟨0,_,rfl⟩,trivial⟩ FG ?_;refine Ch 2 ht rfl rfl (Ca 3 ht underlying175 Ob rfl rfl rfl rfl ?_);refine Fc 4 ht 0 0 K L9 ?_;refine Ch 5 ht rfl rfl (Ca 6 ht underlying141 BC rfl rfl rfl rfl ?_);refine Ca 7 ht underlying24 BS rfl rfl rfl rfl (JG.lp 8 ht 0 a8 K ⟨⟨0,_,rfl⟩,trivial⟩ Ct ?_);refine JG.lp 9 ht 0 be K ⟨⟨0,_,rfl⟩,trivial⟩ Bv ?_;obtain⟨bo,bp,bq⟩:=bs a6;refine Cv 10 a9 bp ht underlying22 BV ?_;rintro bN bO _ ⟨br,c4,rfl,bu⟩ bv;refine JG.lp 11 ht 0 bv K ⟨⟨0,_,rfl⟩,trivial⟩ CQ ?_;obtain⟨bw,bx,bz⟩:=bs bq;refine Q2 (i:=12) ⟨⟨0,_,rfl⟩,trivial⟩ (vs:= [sV br bo c4]) (J2 bu bx) (by decide+kernel) rfl rfl rfl Jp rfl K ?_;rintro _ bA _ a7 ⟨rfl,rfl⟩ bB;refine Cg [13,14] ?_;obtain rfl:=oi bz;refine DI (S':= [[(bk,.cells #[pV k1 o2,.slice O lk.length V,iV age,.slice U ms.length Y,uV fl] 175 (0,0))]++X]) (by simp) bB fun bC=>?_;have bD:EU J (.func (.func 153) #[] [pV ag al,pV ap av,pV kf am].toArray) [uV bw] bA ([(bk,.cells #[pV k1 o2,.slice O lk.length V,iV age,.slice U ms.length Y,uV fl] 175 (0,0))]++X) R:=EU.ofFn (caps:= [pV ag al,pV ap av,pV kf am]) (AR func153 rfl) (bi _ a7);refine Jy 0 bD rfl rfl rfl rfl rfl bC rfl ?_;rintro w bP bE bF bG bH;refine zg 2 rfl (AD func156 rfl rfl ?_);exact bn _ _ _ bE (a7.Ac bF) (by simp) bG bH
end Pal
namespace Pal
open Go Go.Conc Go.Proofs
open Go.Proofs.Tryz
def Jk(fuel:Nat)(K:BU)(lk:AI)(age:Int)(ms:List Int)(fl:Nat)(sm:Nat):Option (Option (List Int)):=
 (LA fuel (K,lk,age,ms,fl)).bind fun O=>
 if O<((ms).length:Int) then(
  some none
 ) else(
  (f89 fuel sm).bind fun U=>
  some (some U)
 )
def Px(rec:Nat→List Int→Nat→List (List Int×Nat)→Option (List (List Int×Nat)))(fuel:Nat)(K:BU)(lk:AI)(age:Int)(ms:List Int)(fl:Nat)(ac:List (List Int×Nat))(n:Int):Option (List (List Int×Nat)):=
 (LF fuel K lk age ms fl n).bind fun r=>match r with
  | none=>some ac
  | some q=>(LM fuel K lk age q.1 q.2 n).bind fun s'=>rec s' q.1 q.2 ac
def Kg(ok:List (List Int×Nat)→Bool)(rec:Nat→List Int→Nat→List (List Int×Nat)→Option (List (List Int×Nat)))(fuel:Nat)(K:BU)(lk:AI)(age:Int)(ms:List Int)(fl:Nat)(ac:List (List Int×Nat)):Option (List Int)→Option (List (List Int×Nat))
 | none=>if ok (ac++ [(ms,fl)])=true then some (ac++ [(ms,fl)]) else none
 | some l=>if l.length≤1000 then Fu (Px rec fuel K lk age ms fl) l ac else none
def IN(ok:List (List Int×Nat)→Bool)(fuel:Nat)(K:BU)(lk:AI)(age:Int):Nat→Nat→List Int→Nat→List (List Int×Nat)→Option (List (List Int×Nat))
 | 0,_,_,_,_=>none
 | g+1,sm,ms,fl,ac=>(Jk fuel K lk age ms fl sm).bind fun r=>Kg ok (IN ok fuel K lk age g) fuel K lk age ms fl ac r
theorem ai{J:Judge Tryz.prog}{I:List (List Int×Nat)→LH→Seg→Prop}(a6:∀x E E' X,Le E E'→I x E X→I x E' X){E:LH}{bk k1 o2:Nat}{bE bF Y U:An}{bG bH Z V:Nat}{bI:List Value}{ap:BU}{lk:AI}{age:Int}{ms:List Int}{fl:Nat}(bq:At E k1 o2 (([sV bE ap.1 bG,sV bF ap.2.1 bH]:List Value)++bI))(br:Al (rL rI) E bE bG ap.1)(bu:Al (rL rI) E bF bH ap.2.1)(bv:(rA 13 (rN .u16)).r E bI ap.2.2)(bw:Al Bp E Y Z lk)(bx:Al rI E U V ms){a2 a3:Nat}(a9:At E a2 a3 [pV bk 0]){bd be kf a4:Nat}(bV:At E kf a4 [.func (.func 153) #[] [pV a2 a3,pV bd be,pV kf a4].toArray]){bJ:Value}(bW:At E bd be [bJ]){X:Seg}{acc acc':List (List Int×Nat)}{ok:List (List Int×Nat)→Bool}(bK:I acc E X){rec:Nat→List Int→Nat→List (List Int×Nat)→Option (List (List Int×Nat))}(bY:∀s' av a7 ac bi,rec s' av a7 ac=some bi→∀E' K a c,Le E E'→Al rI E' a c av→I ac E' K→AL J 153 [uV s',pV a2 a3,pV bd be,pV kf a4] E' ([(bk,.cells #[pV k1 o2,.slice Y lk.length Z,iV age,(.slice a av.length c),(uV a7)] 175 (0,0))]++K) (fun w E' B'=>∃bz bA bB K,w= .bool true∧B'= [(bk,.cells #[pV k1 o2,.slice Y lk.length Z,bz,bA,bB] 175 (0,0))]++K∧I bi E' K))(bZ:∀(E':LH) (K:Seg) (ac:List (List Int×Nat)) (av:List Int) (a7:Nat) (a:An) (c:Nat),Le E E'→Al rI E' a c av→I ac E' K→ok (ac++ [(av,a7)])=true→EU J bJ [.agg #[iV age,.slice a av.length c,uV a7]] E' K (fun w bL b0=>w= .bool true∧I (ac++ [(av,a7)]) bL b0)){sm:Nat}{fuel:Nat}{r:Option (List Int)}(bM:Jk fuel ap lk age ms fl sm=some r)(ag:Kg ok rec fuel ap lk age ms fl acc r=some acc'):
  AL J 153 [uV sm,pV a2 a3,pV bd be,pV kf a4] E ([(bk,.cells #[pV k1 o2,.slice Y lk.length Z,iV age,.slice U ms.length V,uV fl] 175 (0,0))]++X) (fun w E' B'=>∃bz bA bB K,w= .bool true∧B'= [(bk,.cells #[pV k1 o2,.slice Y lk.length Z,bz,bA,bB] 175 (0,0))]++K∧I acc' E' K):=by
 refine A4 func153 fun Q cE cs H a5 bN=>?_;refine DI (S':= [[(bk,.cells #[pV k1 o2,.slice Y lk.length Z,iV age,.slice U ms.length V,uV fl] 175 (0,0))],X]) (by simp) a5 fun a5=>?_;unfold Jk at bM;refine zg 6 rfl (Di 8 [bk] ⟨⟨0,_,rfl⟩,trivial⟩ a5 fun ht=>?_);refine JG.lp 0 ht 0 a9 a5 ⟨⟨0,_,rfl⟩,trivial⟩ FG ?_;refine Ch 1 ht rfl rfl (Ca 2 ht underlying175 Cu rfl rfl rfl rfl ?_);refine Ca 3 ht underlying104 BV rfl rfl rfl rfl (Fc 4 ht 3 0 a5 CQ ?_);refine Bx 5 ht rfl rfl (fun ρ h s' hs=>Yl.len rfl underlying28 (h _ _ rfl)) (JG.lp 6 ht 0 a9 a5 ⟨⟨0,_,rfl⟩,trivial⟩ FG ?_);obtain⟨cF,b1,b2⟩:=bs bM;refine QP (i:=7) (vs:= [pV bk 0]) 0 ⟨⟨0,_,rfl⟩,trivial⟩ (Yr bq br bu bv bw bx b1) (fun _ _ _ h=>h.2) (by decide+kernel) rfl rfl rfl (AR func154 rfl) rfl a5 rfl ?_;rintro _ bO O ⟨rfl,_⟩ a0;refine Cg [8] (zg 2 rfl ?_);refine AN b2 (fun b3 b4=>?_) (fun b3 b5=>?_)
 ·refine JL.seq (Di 5 [bk] ⟨⟨0,_,rfl⟩,trivial⟩ a0 fun ht=>?_);refine JG.lp 0 ht 0 (bW.Ah O) a0 ⟨⟨0,_,rfl⟩,trivial⟩ (Dv underlying200) ?_;refine JG.lp 1 ht 0 (a9.Ah O) a0 ⟨⟨0,_,rfl⟩,trivial⟩ FG ?_;refine Ch 2 ht rfl rfl (Ca 3 ht underlying175 Cu rfl rfl rfl rfl ?_);refine Bx 4 ht rfl rfl (fun ρ h s' hs=>FJ (vs:= [iV age,sV U ms V,uV fl]) FX Cu (h _ _ rfl) (Vl (o:=2) 0 a0 rfl (by simp [A6]) hs rfl)) (Cg [5,6] ?_);obtain rfl:=oi b4;have bP:ok (acc++ [(ms,fl)])=true∧acc++ [(ms,fl)]=acc':=by
   simp only [Kg] at ag;split at ag
   ·exact⟨by assumption,Option.some.inj ag⟩
   ·cases ag
  obtain⟨b6,bP⟩:=bP;subst acc';refine Jy (vs:= [.agg #[iV age,.slice U ms.length V,uV fl]]) 1 (bZ _ _ _ _ _ _ _ O (bx.Ah O) (a6 _ _ _ _ O bK) b6) rfl rfl rfl rfl rfl a0 rfl ?_;rintro _ cG b7 b8 ⟨rfl,b9⟩ ca;refine zg 2 rfl (AD func153 rfl rfl ?_);exact bN (O.Ac b8) rfl ⟨iV age,.slice U ms.length V,uV fl,b7,rfl,by simp,b9⟩ ca
 ·obtain⟨am,cb,cc⟩:=bs b5;refine zg 5 rfl (BL (IG cb) rfl rfl Ig a0 ?_);rintro _ cd _ bC ⟨bQ,bR,rfl,rfl,ce⟩ cf;refine Bh underlying28 rfl rfl rfl (zg 2 rfl ?_);obtain rfl:=oi cc;have cg:am.length≤1000∧Fu (Px rec fuel ap lk age ms fl) am acc=some acc':=by
   simp only [Kg] at ag;split at ag
   ·exact⟨by assumption,ag⟩
   ·cases ag
  obtain⟨hlen,ag⟩:=cg;refine JL.block (IC [(1,pV a2 a3),(3,pV kf a4),(24,sV bQ am bR),(25,iV (am.length:Int)),(26,iV 0)] rfl ?_);refine DI (S':= [[(bk,.cells #[pV k1 o2,.slice Y lk.length Z,iV age,.slice U ms.length V,uV fl] 175 (0,0))],X]) (by simp) cf fun ci=>Ub (l:=am) ag (fun L s i ac=>∃bn a8,Jn cd H bn [[(bk,.cells #[pV k1 o2,.slice Y lk.length Z,iV age,.slice U ms.length V,uV fl] 175 (0,0))],a8] [(1,pV a2 a3),(3,pV kf a4),(24,sV bQ am bR),(25,iV (am.length:Int)),(26,iV ((i:Nat):Int))] L s (I ac bn a8)) ⟨_,X,rfl,rfl,Le.refl _,ci,a6 _ _ _ _ (O.Ac bC) bK⟩ ?_ ?_
  ·rintro _ _ i ac n bi ⟨bn,a8,rfl,rfl,bb,bD,bo⟩ ck cH cm cn;have co:=(O.Ac bC).Ac bb;refine zg 5 rfl ?_;rw [decide_eq_true (show((i:Nat):Int)<(am.length:Int) by omega)];refine zg 6 rfl ?_;have cp:ix am ((i:Nat):Int)=some n:=by unfold ix;rw [if_pos (by omega)];exact ck
   refine B9 (ce.Ah bb) cp underlying28 AU ?_;rintro kk cI _ rfl cq;refine BW 0 cq Bv rfl rfl rfl (Cz bD CM fun cr ct=>?_);refine BM 2 ct AU fun cu=>?_;refine CV 2 cu rfl fun cJ bp bS cv=>?_;have a1:=co.trans bp;refine zg 3 rfl (BW 0 (a9.Ah a1) FG rfl rfl rfl ?_);refine BW 0 bS Bv rfl rfl rfl (AB (v:= .func (.func 156) #[] [pV kf a4,pV a2 a3,pV cr 0].toArray) rfl (fun ρ h=>IV (by simp) (by simp [h (.tmp 3) _ rfl,h (.tmp 1) _ rfl,h (.tmp 7) _ rfl])) ?_);refine DI (S':= [[(bk,.cells #[pV k1 o2,.slice Y lk.length Z,iV age,.slice U ms.length V,uV fl] 175 (0,0))]++a8]) (by simp) cv fun a0=>?_;obtain⟨q,cw,bT⟩:=Option.bind_eq_some_iff.1 cm;refine B6 0 (YB a6 (bq.Ah a1) (br.Ah a1) (bu.Ah a1) (Rp.Ah _ a1 bv) (bw.Ah a1) (bx.Ah a1) (acc':=bi) (a6 _ _ _ _ bp bo) cw (fun e=>by subst e;exact(Option.some.inj bT).symm) (fun p e E' a c hle bU=>?_)) rfl rfl (AR func155 rfl) a0 rfl ?_
   ·subst e;obtain⟨s',cy,cz⟩:=Option.bind_eq_some_iff.1 bT;have al:=a1.trans hle;exact EU.ofFn (AR func156 rfl) (bg (bq.Ah al) (br.Ah al) (bu.Ah al) (Rp.Ah _ al bv) (bw.Ah al) bU (a9.Ah al) (bV.Ah al) (bS.Ah hle) cy fun bL O=>bY _ _ _ _ _ cz _ _ _ _ (al.Ac O) (bU.Ah O) (a6 _ _ _ _ (hle.trans O) (a6 _ _ _ _ bp bo)))
   rintro _ bO _ al ⟨K,rfl,rfl,cA⟩ cB;refine AB (v:= .bool (!true)) rfl (fun ρ h=>Yl.not (h _ _ rfl)) (zg 5 rfl ?_);have cC:As (((i:Nat):Int)+1)=some (((i+1:Nat)):Int):=by unfold As;rw [if_pos (by omega)];simp
   refine Be cC rfl rfl rfl (zg 2 rfl ?_);exact DI (S':= [[(bk,.cells #[pV k1 o2,.slice Y lk.length Z,iV age,.slice U ms.length V,uV fl] 175 (0,0))],K]) (by simp) cB fun cD=>Ay (cn _ _ ⟨bO,K,rfl,rfl,(bb.Ac bp).Ac al,cD,cA⟩) rfl
  ·rintro _ _ ⟨bn,a8,rfl,rfl,bb,bD,bo⟩;refine zg 5 rfl ?_;rw [decide_eq_false (Int.lt_irrefl _)];refine zg 6 rfl (AD func153 rfl rfl ?_);exact bN ((O.Ac bC).Ac bb) rfl ⟨iV age,.slice U ms.length V,uV fl,a8,rfl,by simp,bo⟩ bD
end Pal
