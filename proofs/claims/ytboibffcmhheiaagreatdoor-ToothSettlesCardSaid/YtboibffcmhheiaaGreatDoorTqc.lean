/- ToothSettles. Part 3 of 8. -/
import Derived.Test.YtboibffcmhheiaaGreatDoorTqa
import Derived.Test.YtboibffcmhheiaaGreatDoorTqb
import Derived.Test.YtboibffcmhheiaaGreatDoorRows
import Derived.Test.YtboibffcmhheiaaGreatDoorChecked
import Derived.Conc.LeavingOf
import Derived.Conc.Holds
import Derived.Carry
import Derived.ChangeSame
import Derived.ChangeVars
import Derived.JoinedOf
import Derived.RowKit
import Derived.LaidLaws
import Derived.LaidHandle
import Derived.Stop.Joined
import Derived.Test.YtboibffcmhheiaaGreatDoorProg
import Derived.ProofKit
set_option linter.all false
set_option maxRecDepth 100000
namespace Pal
open Go Go.Conc
section
variable {P:Program}(J:Judge P)(Q:Gs_)(b:Frame)(ds:Ld_)(ops:Ao_)(k:Li_)(cs:Lf_)(X D:Nat→Bool)
def JB:Nat→Array Bool→AD→St→Prop
 | 0,listed,T,s=>Region.ready .any ops listed= []∧J.ok Q (G (fr b T ds (.inRegion ops []::k)) cs) s
 | fuel+1,listed,T,s=>
  Region.ready .any ops listed≠ []∧s.q=false∧∀i∈Region.ready .any ops listed,∀o,ops[i]? =some o→(∀c,o.op≠ .defer c)∧
   (Region.wanted o (yielded ops T)=false→JB fuel (Bi listed i) (CX T o.dst undef) s)∧
   (Region.wanted o (yielded ops T)=true→X i=true→lp P (execOp (BO T) o) s (fun nx s'=>match nx with
    | .value v=>JB fuel (Bi listed i) (CX T o.dst v) s'
    | .skip=>JB fuel (Bi listed i) (CX T o.dst undef) s'
    | _=>False) (fun _ _=>False))∧
   (Region.wanted o (yielded ops T)=true→X i=false→lp P (execOp (BO T) o) (BK D s) (fun nx s'=>match nx with
    | .value v=>JB fuel (Bi listed i) (CX T o.dst v) (CP D s s')
    | .skip=>JB fuel (Bi listed i) (CX T o.dst undef) (CP D s s')
    | _=>False) (fun _ _=>False))
variable {J Q b ds ops k cs X D}
theorem W2(V:b.kind≠ .early):∀(fuel t:Nat) (listed:Array Bool) (T:AD) (s:St),JB J Q b ds ops k cs X D fuel listed T s→
  J.ok Q (G (fr b T ds (.inRegion ops (Region.linearise.go .any ops fuel t listed [])::k)) cs) s:=by
 intro fuel
 induction fuel with
 | zero=>intro t listed T s h;simpa [Region.linearise.go] using h.2
 | succ fuel O=>
  intro t listed T s h;obtain⟨al,am,h⟩:=h;obtain⟨i,hi⟩:∃i,(Region.ready .any ops listed)[t % (Region.ready .any ops listed).length]? =some i:=by
   have:0<(Region.ready .any ops listed).length:=List.length_pos_iff.2 al;exact⟨_,List.getElem?_eq_getElem (Nat.mod_lt _ this)⟩
  have Y:=List.mem_of_getElem? hi;have hgo:Region.linearise.go .any ops (fuel+1) t listed []=i::Region.linearise.go .any ops fuel (t / (Region.ready .any ops listed).length) (Bi listed i) []:=by
   simp only [Region.linearise.go];change (match(Region.ready .any ops listed)[t % (Region.ready .any ops listed).length]? with
    | some i=>Region.linearise.go .any ops fuel (t / (Region.ready .any ops listed).length) (listed.setIfInBounds i true) [i]
    | none=> [].reverse)=_
   rw [hi];simp only;rw [linearise_go_acc];rfl
  rw [hgo];obtain⟨_,o,U,_⟩:=mem_ready.1 Y;obtain⟨Z,ap,av,a0⟩:=h i Y o U;cases hw:Region.wanted o (yielded ops T) with
  | false=>exact Judge.unwanted U hw (O _ _ _ _ (ap hw))
  | true=>
   cases ag:X i with
   | true=>
    refine Judge.oper U hw V (.inr Z) (Dz _ (av hw ag) ?_ (fun _ _ h=>h.elim));intro nx s' K;cases nx with
    | value v=>exact O _ _ _ _ K
    | skip=>exact O _ _ _ _ K
    | _=>exact K.elim
   | false=>
    refine Judge.Sa D U hw V Z am (Dz _ (a0 hw ag) ?_ (fun _ _ h=>h));intro nx s' K;cases nx with
    | value v=>exact O _ _ _ _ K
    | skip=>exact O _ _ _ _ K
    | _=>exact K.elim
def waitAll(ops:Ao_)(X:Nat→Bool)(i:Nat):Bool:=(List.range ops.size).all fun j=> !X j || waits ops ops.size j i
theorem JB.take{i:Nat}{oi:Oper}{w pure:Bool}{v:Value}(hi:ops[i]? =some oi)(ce:X i=false)(b5:(pure || waitAll ops X i)=true)(cf:Region.noSelect ops=true)(cg:∀c,oi.op≠ .defer c):
  ∀(fuel:Nat) (listed:Array Bool) (T:AD) (s:St),HZ ops listed i oi=true→G9 ops listed=true→listed.size=ops.size→i∈Region.ready .any ops listed→s.q=false→Region.wanted oi (yielded ops T)=w→
   (w=true→∀s',s'.q=false→(pure=false→∀x o,(BK D s).E x=some o→s'.E x=some o)→Yl P oi (BO T) s' v)→
   JB J Q b ds ops k cs X D fuel (Bi listed i) (CX T oi.dst (if w then v else undef)) s→JB J Q b ds ops k cs X D (fuel+1) listed T s:=by
 have al:∀(j:Nat) (Y:Oper),ops[j]? =some Y→∀cs b,Y.op≠Op.select cs b:=fun j Y h cs b=>Region.noSelect_spec cf j Y cs b h;intro fuel
 induction fuel with
 | zero=>?_
 | succ fuel a1=>?_
 all_goals
  intro listed T s b6 b7 a2 bv a3 hw am h;refine⟨fun e=>(by rw [e] at bv;cases bv),a3,fun j b8 Y O=>?_⟩;by_cases a4:j=i
  ·subst a4;obtain rfl:Y=oi:=by rw [hi] at O;exact(Option.some.inj O).symm
   refine⟨cg,fun bV=>?_,fun ap K=>?_,fun ap K=>?_⟩
   ·rw [bV] at hw;subst hw;exact h
   ·rw [ce] at K;cases K
   ·rw [ap] at hw;subst hw;refine Dz _ (am rfl (BK D s) a3 fun _ _ _ h=>h).out ?_ (fun _ _ h=>h);rintro nx s' ⟨rfl,rfl⟩;rw [KH];exact h
  ·
   have b9:j∈Region.ready .any ops (Bi listed i):=ready_mono b8 a4;obtain⟨av,U,ca,bW⟩:=mem_ready.1 b8;obtain rfl:U=Y:=by rw [O] at ca;exact(Option.some.inj ca).symm
   have bY:=(mem_ready.1 bv).1;have ci:(U.after.any fun e=>Region.binds .any e&&e.on==i)=false:=by
    rw [Array.any_eq_false];intro e he K;simp only [Bool.and_eq_true,beq_iff_eq] at K;have:=bW _ (Array.getElem_mem he) K.1;rw [K.2] at this;have a0:listed.getD i true=listed.getD i false∨listed.size≤i:=by
     rcases Nat.lt_or_ge i listed.size with q | q
     ·left;simp [Array.getD_eq_getD_getElem?,q]
     ·exact .inr q
    rcases a0 with a0 | a0
    ·rw [bY,this] at a0;cases a0
    ·rw [Array.getD_eq_getD_getElem?,Array.getElem?_eq_none a0] at this;simp at this
   have ck:oi.apart ops U=true:=by
    have bZ:j<ops.size:=(Array.getElem?_eq_some_iff.1 O).1;have:=List.all_eq_true.1 b6 j (List.mem_range.2 bZ);simp only [Bool.or_eq_true,beq_iff_eq] at this;rcases this with(q | q) | q
    ·exact absurd q a4
    ·rw [av] at q;cases q
    ·rw [O] at q;simp only [Bool.or_eq_true] at q;rw [ci] at q;exact q.resolve_left (by simp)
   obtain⟨cm,a5,a6⟩:=Oper.apart_spec ck;obtain⟨p1,p2⟩:=G2 (ops:=ops) (T:=T) (v:=if w then v else undef) (al j U O) cm
   first
    | exact absurd b9 (by rw [h.1];simp)
    | (
     obtain⟨cz,_,h⟩:=h
     obtain⟨cn,bV,co,cp⟩:=h j b9 U O
     have a7:Bi (Bi listed i) j=Bi (Bi listed j) i:=by
      unfold Bi;exact Array.setIfInBounds_comm _ _ (Ne.symm a4)
     have a8:i∈Region.ready .any ops (Bi listed j):=ready_mono bv (Ne.symm a4)
     have a9:HZ ops (Bi listed j) i oi=true:=by
      refine List.all_eq_true.2 fun x K=>?_
      have:=List.all_eq_true.1 b6 x K
      simp only [Bool.or_eq_true,beq_iff_eq] at this ⊢
      rcases this with(q | q) | q
      ·exact .inl (.inl q)
      ·left;right
       by_cases e:j=x
       ·subst e;rw [av] at q;cases q
       ·rw [Bi,getD_set_ne true e];exact q
      ·exact .inr q
     have bb:(Bi listed j).size=ops.size:=by unfold Bi;simpa using a2
     have bd:G9 ops (Bi listed j)=true:=by
      refine List.all_eq_true.2 fun x K=>?_
      cases b0:ops[x]? with
      | none=>simp
      | some cq=>
       simp only [Bool.or_eq_true,Bool.not_eq_true']
       by_cases e:j=x
       ·subst e
        obtain rfl:cq=U:=by rw [O] at b0;exact(Option.some.inj b0).symm
        right
        refine Array.all_eq_true'.2 fun e he=>?_
        cases hb:Region.binds .any e with
        | false=>simp
        | true=>
         have:=bW e he hb
         by_cases be:j=e.on
         ·rw [← be] at this
          have b1:j<listed.size:=by rw [a2];exact(Array.getElem?_eq_some_iff.1 O).1
          simp [Array.getD_eq_getD_getElem?,b1] at this av
          rw [av] at this;cases this
         ·rw [Bi,getD_set_ne false be];simpa using this
       ·cases cb:(Bi listed j).getD x false with
        | false=>exact .inl rfl
        | true=>
         right
         have cr:listed.getD x false=true:=by rw [Bi,getD_set_ne false e] at cb;exact cb
         refine Array.all_eq_true'.2 fun b2 he=>?_
         cases hb:Region.binds .any b2 with
         | false=>simp
         | true=>
          have:=OG b7 b0 cr b2 he hb
          by_cases be:j=b2.on
          ·rw [← be] at this
           have b1:j<listed.size:=by rw [a2];exact(Array.getElem?_eq_some_iff.1 O).1
           simp [Array.getD_eq_getD_getElem?,b1] at this av
           rw [av] at this;cases this
          ·rw [Bi,getD_set_ne false be];simpa using this
     refine⟨cn,fun ct=>?_,fun b3 bw=>?_,fun b3 bw=>?_⟩
     ·have:=bV (by rw [p2];exact ct)
      rw [a7,HO a5] at this
      obtain⟨q1,q2⟩:=G2 (ops:=ops) (T:=T) (d:=U.dst) (v:=undef) (o:=oi) (al i oi hi) a6
      exact a1 _ _ _ a9 bd bb a8 a3 (by rw [q2];exact hw) (fun V s' cu bU=>by unfold Yl;rw [q1];exact(am V s' cu bU).out) this
     ·
      have cv:pure=true:=by
       cases cw:pure with
       | true=>rfl
       | false=>
        exfalso
        rw [cw,Bool.false_or] at b5
        have bZ:j<ops.size:=(Array.getElem?_eq_some_iff.1 O).1
        have ap:=List.all_eq_true.1 b5 j (List.mem_range.2 bZ)
        rw [bw] at ap
        simp only [Bool.not_true,Bool.false_or] at ap
        rcases Qw b7 _ j U O (fun e he hb=>bW e he hb) ap with q | ⟨x,q1,q2⟩
        ·have cy:i<listed.size:=by rw [a2];exact(Array.getElem?_eq_some_iff.1 hi).1
         simp [Array.getD_eq_getD_getElem?,cy] at q bY
         rw [bY] at q;cases q
        ·have:¬x<listed.size:=by rw [a2];intro K;simp [K] at q1
         simp [Array.getD_eq_getD_getElem?,this] at q2
      have bi:=Of _ (co (by rw [p2];exact b3) bw)
      rw [p1] at bi
      refine Dz _ bi ?_ (fun _ _ h=>h)
      rintro nx s' ⟨K,bU,b4⟩
      have bo:s'.q=false:=b4.trans a3
      have cc:pure=false→∀{α:Prop},α:=fun e=>by rw [cv] at e;cases e
      cases nx with
      | value u=>
       simp only at K ⊢
       rw [a7,HO a5] at K
       obtain⟨q1,q2⟩:=G2 (ops:=ops) (T:=T) (d:=U.dst) (v:=u) (o:=oi) (al i oi hi) a6
       exact a1 _ _ _ a9 bd bb a8 bo (by rw [q2];exact hw) (fun V s2 Z ag=>by unfold Yl;rw [q1];exact(am V s2 Z (fun e=>cc e)).out) K
      | skip=>
       simp only at K ⊢
       rw [a7,HO a5] at K
       obtain⟨q1,q2⟩:=G2 (ops:=ops) (T:=T) (d:=U.dst) (v:=undef) (o:=oi) (al i oi hi) a6
       exact a1 _ _ _ a9 bd bb a8 bo (by rw [q2];exact hw) (fun V s2 Z ag=>by unfold Yl;rw [q1];exact(am V s2 Z (fun e=>cc e)).out) K
      | _=>exact K.elim
     ·have bi:=Of _ (cp (by rw [p2];exact b3) bw)
      rw [p1] at bi
      refine Dz _ bi ?_ (fun _ _ h=>h)
      rintro nx s' ⟨K,bU,b4⟩
      have cd:=Qz (D:=D) bU
      have bo:(CP D s s').q=false:=by show s'.q=false;rw [b4];exact a3
      cases nx with
      | value u=>
       simp only at K ⊢
       rw [a7,HO a5] at K
       obtain⟨q1,q2⟩:=G2 (ops:=ops) (T:=T) (d:=U.dst) (v:=u) (o:=oi) (al i oi hi) a6
       exact a1 _ _ _ a9 bd bb a8 bo (by rw [q2];exact hw) (fun V s2 Z ag=>by unfold Yl;rw [q1];exact(am V s2 Z (fun e=>by rw [cd] at ag;exact ag e)).out) K
      | skip=>
       simp only at K ⊢
       rw [a7,HO a5] at K
       obtain⟨q1,q2⟩:=G2 (ops:=ops) (T:=T) (d:=U.dst) (v:=undef) (o:=oi) (al i oi hi) a6
       exact a1 _ _ _ a9 bd bb a8 bo (by rw [q2];exact hw) (fun V s2 Z ag=>by unfold Yl;rw [q1];exact(am V s2 Z (fun e=>by rw [cd] at ag;exact ag e)).out) K
      | _=>exact K.elim)
end
section
variable {P:Program}(J:Judge P)(Q:Gs_)(b:Frame)(n:Nat)(ds:Ld_)(ops:Ao_)(k:Li_)(cs:Lf_)(X D:Nat→Bool)
def FI(fuel:Nat)(listed:Array Bool)(L:Env)(s:St):Prop:=∀T,Has n L T→JB J Q b ds ops k cs X D fuel listed T s
end
def Kn(ops:Ao_)(listed:Array Bool)(xs:List Nat)(pure:Bool)(i:Nat):Bool:=match ops[i]? with
 | some oi=> !A7 xs i&&(pure || waitAll ops (A7 xs) i)&&Region.noSelect ops&& !Du oi.op&&HZ ops listed i oi&&G9 ops listed&&listed.size==ops.size&&(Region.ready .any ops listed).contains i
 | none=>false
section
variable {P:Program}{J:Judge P}{Q:Gs_}{b:Frame}{n:Nat}{ds:Ld_}{ops:Ao_}{k:Li_}{cs:Lf_}{fuel:Nat}{X D:Nat→Bool}{listed:Array Bool}{L:Env}{s:St}{E H:LH}{S:List Seg}{xl bks:List Nat}
variable {d:Option Tmp}{x y:Operand}{t u ty e:TypeId}{p:String}{af:Ae_}{g:On_}{v:Value}{i:Nat}{kd:IntKind}
theorem G4(xl bks:List Nat){id:Nat}(hm:P.follows .mixedOrders=true)(K:(b.kind != .early)=true)
  (h:FI J Q b n ds ops k cs (A7 xl) (A7 bks) ops.size (Array.replicate ops.size false) L (An E H S)):JL J Q b n L ds (.code (.region id ops true)::k) cs (An E H S):=
 Sx rfl hm fun t T O=>W2 (by simpa using K) ops.size t _ T _ (h T O)
theorem SQ{oi:Oper}(i:Nat)(pure:Bool)(hi:ops[i]? =some oi)(K:Kn ops listed xl pure i=true)(V:s.q=false)
  (hw:Bf L ops oi=some true) (Y:BE n oi.dst=true) (Z:∀ρ,EL L ρ→∀s':St,(pure=false→∀x o,(BK D s).E x=some o→s'.E x=some o)→Yl P oi ρ s' v)
  (h:FI J Q b n ds ops k cs (A7 xl) D fuel (Bi listed i) (AI L oi.dst v) s):FI J Q b n ds ops k cs (A7 xl) D (fuel+1) listed L s:=fun T O=>by
 simp only [Kn,hi,Bool.and_eq_true] at K
 obtain⟨⟨⟨⟨⟨⟨⟨ag,al⟩,am⟩,U⟩,ap⟩,av⟩,a0⟩,a1⟩:=K
 refine JB.take (w:=true) (v:=v) (pure:=pure) hi (by simpa using ag) al am (fun c K=>by rw [K] at U;simp [Du] at U) fuel listed T s ap av (by simpa using a0) (by simpa using a1) V (Dh O hw) (fun _ s' a3 a2=>Z _ O.Gr s' a2) ?_
 exact h _ (O.put Y v)
theorem JB.fin(K:Region.ready .any ops listed= [])(h:JL J Q b n L ds k cs s):FI J Q b n ds ops k cs X D 0 listed L s:=fun T O=>⟨K,JL.done h T O⟩
theorem JB.store{bk off:Nat}{c:AD}(i j:Nat)(U:Region.ready .any ops listed= [i])(ag:A7 xl i=true)(al:ops[i]? =some ⟨d,.store t x y,ty,p,af,g⟩)(hw:Bf L ops ⟨d,.store t x y,ty,p,af,g⟩=some true)(am:BE n d=true)(ap:Ax E H S)
  (av:ev L x=some (.pointer (some ⟨bk,off,none⟩))) (a0:ev L y=some v) (a1:BD P t=some v.cells.size) (a2:∀u∈v.cells.toList,CY u=true) (V:S[j]? =some [(bk,.cells c e (0,0))]) (hle:off+v.cells.size≤c.size)
  (h:Ax E H (S.set j [(bk,.cells (A2 c off v.cells.toList) e (0,0))])→FI J Q b n ds ops k cs (A7 xl) D fuel (Bi listed i) (AI L d undef) (An E H (S.set j [(bk,.cells (A2 c off v.cells.toList) e (0,0))]))):
  FI J Q b n ds ops k cs (A7 xl) D (fuel+1) listed L (An E H S):=fun T K=>by
 refine⟨by rw [U];simp,rfl,fun bb O o' Y=>?_⟩
 rw [U] at O
 simp at O
 subst O
 obtain rfl:o'=⟨d,.store t x y,ty,p,af,g⟩:=by rw [al] at Y;exact(Option.some.inj Y).symm
 have a3:=Dh K hw;refine⟨fun c a4=>(by cases a4),fun e=>?_,fun _ _=>?_,fun _ e=>?_⟩
 ·rw [a3] at e;cases e
 ·obtain⟨a5,a6⟩:=Gp ap V;rw [a5];show lp P (do Instr.storeAt t (BO T x) (BO T y);pure Next.skip) _ _ _
  rw [K.ev av,K.ev a0];refine AH _ _ ?_;unfold Instr.storeAt;simp only [Instr.sureAddr,bind,Sem.bind,pure];refine OH (pl:=(S.set j []).flatten.length) a1 a2 a6 (c:=c) (e:=e) (by simp) hle fun Z=>?_;have a7:((S.set j []).flatten++ [(bk,Obj.cells c e (0,0))]).set (S.set j []).flatten.length (bk,.cells (A2 c off v.cells.toList) e (0,0))=(S.set j []).flatten++ [(bk,.cells (A2 c off v.cells.toList) e (0,0))]:=HU _ _ _ _;rw [a7] at Z ⊢;obtain⟨a8,a9⟩:=Hv V Z;rw [a8];exact h a9 _ (K.put am undef)
 ·rw [ag] at e;cases e
end
end Pal
namespace Pal
open Go Go.Conc
theorem VN{E H:LH}{S:List Seg}{bks:List Nat}{bk o:Nat}{l ws:Lv_}{e:TypeId}{f:Nat×Nat}{s':St}{w:Value}(j:Nat)(K:Ax E H S)(O:S[j]? =some [(bk,.cells (l++ws).toArray e f)])(U:A7 bks bk=true)(hs:∀x o,(BK (A7 bks) (An E H S)).E x=some o→s'.E x=some o)(V:ws[o]? =some w):s'.cell? ⟨bk,l.length+o,none⟩=some w:=by
 have:=O6 j K O U hs o w V
 rwa [Dp rfl] at this
section
variable {P:Program}{E H:LH}{B:List (Nat×Obj)}{t e ty:TypeId}
theorem Uh{ats:Array TypeId}{a:Option Addr}{l K O m cx:Nat}{ax:Option Addr}{xs ys:Lv_}{z:Value}{Q:Value→St→Prop}{X:Halt→St→Prop}
  (a4:ats[0]? =some t) {t1 a5:TypeId} (a6:ats[1]? =some t1) (a7:P.underlying t1=some (.slice a5)) (ht:P.underlying t=some (.slice e)) (a8:BD P e=some K) (hb:EE P e=some O) (a9:zeroOf P e=some z) (bb:z.cells.size=K)
  (bd:Nd E H B) (al:GK (mk E H B) (.slice a l l) K xs)
  (Y:GK (mk E H B) (.slice ax m cx) K ys) (bY:∀w∈ys,CY w=true) (bZ:0<O) (b0:l+m≤2 ^ 40) (be:O≤64)
  (a2:m=0→Q (.slice a (l+m) l) (mk E H B))
  (bi:∀r Z am,l+m≤am→Z.size=am*K→Z.toList.take ((l+m)*K)=xs++ys→Nd E H (B++ [(r,.cells Z e (0,0))])→Q (.slice (some ⟨r,0,none⟩) (l+m) am) (mk E H (B++ [(r,.cells Z e (0,0))]))):
  lp P (Builtin.append_ ats ty #[.slice a l l,.slice ax m cx]) (mk E H B) Q X:=by
 unfold Builtin.append_;simp only [a4,a6,List.getElem?_toArray,List.getElem?_cons_zero,List.getElem?_cons_succ];refine AH _ _ (Dm ht ?_);refine AH _ _ (EX a8 ?_);refine AH _ _ (Dm a7 ?_);simp only [Hn,Bool.false_eq_true,if_false,Builtin.lenOf,Bool.not_false,if_true];have ag:ys.length=m*K:=by
  cases ax with
  | none=>obtain⟨U,V⟩:=Y;subst U V;simp
  | some ad=>exact Y.2.1
 have ap:xs.length=l*K:=by
  cases a with
  | none=>obtain⟨U,V⟩:=al;subst U V;simp
  | some ad=>exact al.2.1
 obtain⟨c,b1⟩:∃c,c=l:=⟨_,rfl⟩;split
 ·rename_i b2;have hm:m=0:=by omega
  have bo:ys= []:=List.eq_nil_of_length_eq_zero (by rw [ag,hm];simp);refine AH _ _ (Jx ⟨ax,cx,rfl⟩ Y ?_);subst bo;cases a with
  | none=>exact a2 hm
  | some ad=>exact a2 hm
 ·rename_i b3;have U:¬(((l+m:Nat):Int)>IntKind.i64.max∧(False∨O=0)):=by rintro⟨_,h | h⟩ <;> omega
  have V:¬(Builtin.nextslicecap (l+m) l*O>2 ^ 48):=by
   have:=QI (need:=l+m) (old:=l) (by omega);have b4:Builtin.nextslicecap (l+m) l*O≤(2*(l+m)+768)*64:=Nat.mul_le_mul this be;omega
  obtain⟨inf,av,a0⟩:=MA hb;refine AH _ _ (Ir av ?_);rw [a0,if_neg U];refine AH _ _ (Ir av ?_);rw [a0,if_neg V];refine AH _ _ ?_;simp only [choose,lp,Question.forced,Bool.false_eq_true,if_false];refine⟨rfl,fun bv=>?_⟩;generalize bw:(Question.appendCap (l+m) l e).cut bv=a1;have bU:l+m≤a1:=by rw [← bw];simp [Question.cut]
  refine AH _ _ (Ir av ?_);rw [a0];have bV:∀{α:Type} {f:Unit→Sem α} {Q:α→St→Prop},lp P (f ()) (mk E H B) Q X→lp P (askRoom (a1*O)>>=f) (mk E H B) Q X:=by
   intro α f Q a3;refine AH _ _ ?_;unfold askRoom;split
   ·exact⟨.inl ⟨rfl,rfl⟩,a3⟩
   ·exact a3
  refine bV (AH _ _ (Jx ⟨a,l,rfl⟩ al ?_));refine AH _ _ (Jx ⟨ax,cx,rfl⟩ Y ?_);refine AH _ _ (Gk a9 ?_);refine AH _ _ (G1 bd fun r bW=>?_);refine bi r _ a1 bU ?_ ?_ bW
  ·simp only [Array.size_append,List.size_toArray,Qp,bb,ap,ag];rw [← Nat.add_mul,← Nat.add_mul];congr 1;omega
  ·simp only [Array.toList_append];rw [List.take_append_of_le_length (by simp [ap,ag,Nat.add_mul])];rw [List.take_of_length_le (by simp [ap,ag,Nat.add_mul])]
end
theorem Al.spot{α:Type}{pp:Rp α}{E:LH}{a:Option Addr}{c:Nat}{xs:List α}(h:Al pp E a c xs):∀ad,a=some ad→ad.spot=none∨c=0:=fun ad K=>by
 rcases h.2 with⟨_,h⟩ | ⟨bk,off,h,_⟩
 ·exact h ad K
 ·rw [h] at K;cases K;exact .inl rfl
theorem Al.full{α:Type}{pp:Rp α}{E:LH}{a:Option Addr}{c:Nat}{xs:List α}(h:Al pp E a c xs):Al pp E a xs.length xs:=⟨Nat.le_refl _,h.2.imp (fun⟨h,_⟩=>⟨h,fun _ _=> .inr (by rw [h];rfl)⟩) id⟩
theorem Al.O8{α:Type}{pp:Rp α}{E H:LH}{B:List (Nat×Obj)}{a:Option Addr}{c:Nat}{ys:List α}(Z:Al pp E a c ys):
  ∃K:List (Lv_),K.length=ys.length∧(∀(i:Nat) x ws,ys[i]? =some x→K[i]? =some ws→pp.r E ws x)∧GK (mk E H B) (.slice a ys.length c) pp.n K.flatten∧∀w∈K.flatten,CY w=true:=by
 obtain⟨K,U,Y,V⟩:=Z.rows;have ag:=Iw U Y;refine⟨K,U,Y,?_,fun w hw=>?_⟩
 ·rcases V with⟨V,a1⟩ | ⟨bk,off,rfl,V⟩
  ·subst V;have:K= []:=List.eq_nil_of_length_eq_zero U;subst this;cases a with
   | none=>exact⟨rfl,rfl⟩
   | some ad=>exact⟨.inr rfl,by simp,Nat.zero_le _,fun q w O=>by simp at O⟩
  ·refine⟨.inl rfl,by rw [Ms ag,U],Z.1,fun q w O=>?_⟩;obtain⟨q1,m,ws,al,am,ap⟩:=OI ag O;have:=(V q1 ws al).cell (H:=H) (B:=B) am;subst ap;rw [← Nat.add_assoc];exact this
 ·obtain⟨us,av,hw⟩:=List.mem_flatten.1 hw;obtain⟨q,O⟩:=List.mem_iff_getElem?.1 av;have a0:q<ys.length:=by rw [← U];exact(List.getElem?_eq_some_iff.1 O).1
  exact pp.one (Y q _ us (List.getElem?_eq_getElem a0) O) w hw
section
variable {P:Program}{J:Judge P}{Q:Gs_}{b:Frame}{n:Nat}{ds:Ld_}{ops:Ao_}{k:Li_}{cs:Lf_}{L:Env}{s:St}{E E' H:LH}{S:List Seg}
variable {d:Option Tmp}{x y z1:Operand}{t u ty e:TypeId}{p:String}{af:Ae_}{g:On_}{v:Value}{i:Nat}{rest:List Nat}{kd:IntKind}{ρ:Operand→Value}
theorem UO{a:Option Addr}{l c K:Nat}(O:∀ad,a=some ad→ad.spot=none∨c=0)(U:l≤c)(ht:P.underlying t=some (.slice e))(V:BD P e=some K)(Y:ρ x= .slice a l c)(Z:ρ y=iV (l:Int))(ag:ρ z1=iV (l:Int)):
  Yl P ⟨d,.slice t x none (some y) (some z1),ty,p,af,g⟩ ρ s (.slice a l l):=by
 have h:=Yl.slice (P:=P) (s:=s) (d:=d) (ty:=ty) (p:=p) (af:=af) (g:=g) (olo:=none) (ohi:=some y) (omx:=some z1) (lo:=0) (hi:=l) (mx:=l) ht V Y ag Z rfl U (Nat.le_refl _) (Nat.zero_le _);have al:(if l=0 then a else a.map (·.add (0*K)))=a:=by
  split
  ·rfl
  ·cases a with
   | none=>rfl
   | some ad=>
    have:=(O ad rfl).resolve_right (by omega);simp only [Option.map_some,Nat.zero_mul];rw [Dp this];obtain⟨b,o,sp⟩:=ad;simp only at this;subst this;simp
 rw [al] at h;simpa using h
theorem UL{α:Type}{pp:Rp α}{t1:TypeId}{V c cx:Nat}{a ax:Option Addr}{xs ys Y:List α}{ats:Array TypeId}{z:Value}(U:CQ xs ys=some Y)
  (a1:ops[i]? =some ⟨d,.call ⟨.builtin .append,#[x,y],ats⟩,ty,p,af,g⟩) (hw:Bf L ops ⟨d,.call ⟨.builtin .append,#[x,y],ats⟩,ty,p,af,g⟩=some true) (a2:CS b n ⟨d,.call ⟨.builtin .append,#[x,y],ats⟩,ty,p,af,g⟩=true)
  (a3:ev L x=some (.slice a xs.length xs.length)) (a4:ev L y=some (.slice ax ys.length cx)) (a5:ats[0]? =some t) (a6:ats[1]? =some t1) (ht:P.underlying t=some (.slice e)) (a7:P.underlying t1=some (.slice e)) (a8:BD P e=some pp.n) (hb:EE P e=some V) (a9:zeroOf P e=some z) (bb:z.cells.size=pp.n)
  (bd:0<V) (be:V≤64) (Z:Al pp E a c xs) (bi:Al pp E ax cx ys) (ag:Ax E H S)
  (h:∀E' al K,Le E E'→Al pp E' al K Y→Ax E' H (S++ [[]])→JL J Q b n (AI L d (.slice al Y.length K)) ds (.inRegion ops rest::k) cs (An E' H (S++ [[]]))):
  JL J Q b n L ds (.inRegion ops (i::rest)::k) cs (An E H S):=by
 unfold CQ at U;split at U
 rotate_left
 ·cases U
 rename_i bo;cases U;obtain⟨wss,am,bv,bw,ca⟩:=Al.O8 (H:=H) (B:=S.flatten) Z.full;obtain⟨bU,bV,bW,bY,bZ⟩:=Al.O8 (H:=H) (B:=S.flatten) bi;have hlen:(xs++ys).length=xs.length+ys.length:=by simp
 show JL J Q b n L ds (.inRegion ops (i::rest)::k) cs (mk E H S.flatten);refine JL.op a1 hw a2 fun ρ ap=>?_;rw [Mp,ap x _ a3,ap y _ a4];refine AH _ _ (Uh a5 a6 a7 ht a8 hb a9 bb ag bw bY bZ bd bo be ?_ ?_)
 ·intro hm;have b0:ys= []:=List.eq_nil_of_length_eq_zero hm;subst b0;have b1:Ax E H (S++ [[]]):=by unfold Ax at*;rw [G3,List.append_nil];exact ag
  have b2:mk E H S.flatten=An E H (S++ [[]]):=by unfold An;rw [G3,List.append_nil]
  rw [b2];have:=h E a xs.length (Le.refl _) (by rw [List.append_nil];exact Z.full) b1;rw [hlen] at this;exact this
 ·intro r O K b3 b4 b5 b6;have b7:OL e pp E (some ⟨r,0,none⟩) K [(r,.cells O e (0,0))] (xs++ys):=
   ⟨wss++bU,.inr ⟨r,O,rfl,rfl,b4,by rw [hlen];exact b3,by rw [hlen,List.flatten_append];exact b5.symm⟩,by simp [am,bV],OP am bv bW⟩
  have av:=Eo (S:=S) (seg:= [(r,.cells O e (0,0))]) b6;show JL J Q b n _ ds _ cs (mk E H (S.flatten++ [(r,.cells O e (0,0))]));rw [av.1];refine BU S.length b7 av.2 (by simp) fun E' hle b8 a0=>?_;have b9:(S++ [[(r,Obj.cells O e (0,0))]]).set S.length []=S++ [[]]:=HU _ _ _ _;rw [b9] at a0 ⊢;have:=h E' (some ⟨r,0,none⟩) K hle b8 a0;rw [hlen] at this;exact this
end
end Pal
namespace Pal
open Go Go.Conc
open Go.ConcN (sumTo upd sumTo_upd upd_ne upd_same)
def La(P:Program)(R:Value→St→Prop):GP:=fun g s=>
 g.status= .running∧∃v,R v s∧∀w,stepG P true g w= .ended (.done v) w #[]
section
variable {P:Program}{R:Value→St→Prop}{J:Judge P}{n:Nat}{L:Env}{s:St}{b:Frame}
theorem JO.end{fn:Func}{t:Tmp}{v:Value}(K:b.kind= .normal)(hi:P.inits.idxOf? b.fn=none)(O:P.funcs[b.fn]? =some fn)(U:fn.results= #[.tmp t])(V:look L t=some v)(Y:R v s):JO J (La P R) b n L [] [] s:=fun T Z todo=>by
 refine J.stop ⟨rfl,v,Y,fun w=>?_⟩
 have e:results fn T=Sem.pure v:=by
  have:=Z.at_ t v V;simp only [results,U,Array.mapM_eq_mapM_toList];show Sem.pure (T.getD t undef)=_;rw [this]
 have ag:(results fn T).run P w= .ok v w:=by rw [e];rfl
 have al:(results fn T).events P w #[]= #[]:=by rw [e];simp [Sem.events_pure']
 simp [G,stepG,unwind,EC,O,ag,al,doReturn,K,GStep.after,hi,seen_none]
end
section
variable {P:Program}{R:Value→St→Prop}
def LA(P:Program)(R:Value→St→Prop)(K:World)(s₀:St)(v:Value)(w':World):Prop:=
 ∃s,R v s∧Fits s w'∧(∀b o,s₀.E b=some o→s.E b=some o)∧w'.tape=K.tape∧w'.os=K.os∧w'.output=K.output
def Qa(P:Program)(R:Value→St→Prop)(K:World)(s₀:St)(O:Nat)(m:Machine)(t:Trace):Prop:=
 ∃gs w sl q Sh g s,m=crowd gs w sl∧Gy P gs w t q Sh g s∧La P R g s∧O=sumTo gs.size q∧(∀b o,s₀.E b=some o→s.E b=some o)∧w.tape=K.tape∧w.os=K.os∧w.output=K.output
theorem WM{ap:World}{s₀:St}(a2:Nat)(m:Machine)(t:Trace)(h:Qa P R ap s₀ a2 m t):
  (∃o w ops,stepT P m=(.ended o w,ops)∧Good P (LA P R ap s₀) m o w (t++ops))∨(∃m' ops a3,stepT P m=(.next m',ops)∧a3<a2∧Qa P R ap s₀ a3 m' (t++ops)):=by
 obtain⟨gs,w,sl,q,Sh,g,s,rfl,hC,bw,rfl,a4,a5,a6,a7⟩:=h;obtain⟨Z,v,a8,a9⟩:=bw;have bU:∀x∈gs,awake x:=by
  intro x V;obtain⟨i,hi,rfl⟩:=Array.mem_iff_getElem.1 V;rcases Nat.eq_zero_or_pos i with rfl | av
  ·have:gs[0]=g:=by simpa [Array.getElem?_eq_getElem hi] using hC.main
   rw [this];exact awake_of (.inl Z)
  ·exact awake_of ((hC.lv.old i _ av (Array.getElem?_eq_getElem hi)).status.elim .inl fun x=> .inr (.inr x))
 obtain⟨i,x,d,bb,hi,V,bd⟩:=crowd_pick (P:=P) (w:=w) (sl:=sl) bU ⟨0,g,hC.main,Z⟩;have be:=hC.at_ d;have bV:0<gs.size:=(Array.getElem?_eq_some_iff.1 hC.main).1;have bW:∀(a:Nat) (fn:FuncId) (pos:String),MemOp.ofEvents a fn pos #[]= #[]:=fun a fn pos=>by rw [ofEvents_eq];simp
 rcases Nat.eq_zero_or_pos i with rfl | av
 ·obtain rfl:x=g:=by rw [hC.main] at hi;exact(Option.some.inj hi).symm
  have ag:=runT_many_ended (P:=P) (sl:=bb) (i:=0) hi (show stepG P (0==0) x (w.at d)=_ from a9 (w.at d));rw [bW] at ag;refine .inl ⟨_,_,_,bd.trans ag,v,rfl,⟨s,a8,be.C4.fits 0 bV,a4,a5,a6,a7⟩,?_,?_,⟨fun y K=>?_,rfl⟩,fun j y K O=>?_⟩
  ·simpa using hC.C4.clean
  ·simpa using hC.over
  ·obtain⟨j,O⟩:=List.mem_iff_getElem?.1 K;rw [List.getElem?_drop] at O;exact⟨_,(hC.lv.old (1+j) y (by omega) (by simpa [crowd] using O)).leaves⟩
  ·have Y:=hC.lv.old j y (by omega) K;exact⟨q j,by simp only [Array.append_empty];exact Y.hears w⟩
 ·have Y:=hC.lv.old i x av hi;have bY:(i==0)=false:=by simp;omega
  have bi:i<gs.size:=(Array.getElem?_eq_some_iff.1 hi).1;cases a0:q i with
  | zero=>rw [a0] at Y;rw [Y.1] at V;cases V
  | succ k=>
   rw [a0] at Y;rcases Y with⟨bZ,_⟩ | ⟨_,x',es,hm,b0,b1⟩
   ·rw [bZ] at V;cases V
   have b5:sumTo gs.size (upd q i k)+(k+1)=sumTo gs.size q+k:=by
    have:=sumTo_upd q k id bi;simpa [a0] using this
   have ag:=runT_crowd_go (P:=P) (sl:=bb) (i:=i) hi (by rw [bY];exact b0 (w.at d));have a1:((gs.map (woken P x x' (w.at d))).setIfInBounds i x').size=gs.size:=by simp
   have al:∀op∈MemOp.ofEvents i x.frame.fn x.frame.place es,op.g=i:=fun op U=>by obtain⟨e,_,rfl⟩:=mem_ofEvents U;rfl
   have bo:∀op∈MemOp.ofEvents i x.frame.fn x.frame.place es,op.act.touch? =none:=fun op U=>by obtain⟨e,he,rfl⟩:=mem_ofEvents U;exact touch_mute (hm e he)
   have b2:Gy P ((gs.map (woken P x x' (w.at d))).setIfInBounds i x') (w.at d) (t++MemOp.ofEvents i x.frame.fn x.frame.place es) (upd q i k) Sh g s:=by
    refine⟨?_,⟨fun j y O K=>?_,fun j O=>?_⟩,?_,?_,?_⟩
    ·have b3:i≠0:=by omega
     rw [Array.getElem?_setIfInBounds_ne b3,Array.getElem?_map,hC.main];simp [woken_run Z]
    ·by_cases am:i=j
     ·subst am;rw [Array.getElem?_setIfInBounds_self_of_lt (by simpa using bi)] at K;obtain rfl:=Option.some.inj K;rw [upd_same,Deaf_own];exact b1
     ·rw [Array.getElem?_setIfInBounds_ne am,Array.getElem?_map] at K;obtain⟨z,b4,rfl⟩:=Option.map_eq_some_iff.1 K;have bv:=hC.lv.old j z O b4;rw [woken_quitsD bv,upd_ne q k (Ne.symm am),Deaf_other t am _ al];exact bv
    ·rw [Deaf_other t (g':=i) (by simp at O;omega) _ al];exact hC.lv.above j (by simpa using O)
    ·rw [a1];exact be.C4.mute al bo (fun op U=>by obtain⟨e,he,rfl⟩:=mem_ofEvents U;exact low_mute (hm e he) _) rfl
    ·exact handedOver_app hC.over fun op U=> .inr (bo op U)
    ·rw [Deaf_other t (by omega) _ al];exact hC.hears
   exact .inr ⟨_,_,_,bd.trans ag,by rw [← a1];rw [a1];omega,_,_,_,_,_,_,_,rfl,b2,⟨Z,v,a8,a9⟩,rfl,a4,a5,a6,a7⟩
theorem ends{gs:Array Goroutine}{w:World}{sl:Option (Nat×Nat)}{t:Trace}{q:Nat→Nat}{Sh:Nat→Prop}{g:Goroutine}{s:St}(hC:Gy P gs w t q Sh g s)(O:La P R g s):
  ∃N last o w' K,runNT P (N+1) (crowd gs w sl) t=(.ended o w',K)∧runN P N (crowd gs w sl)= .next last∧step P last= .ended o w'∧Good P (LA P R w s) last o w' K:=
 run_of_inv Nat.lt_wfRel.wf (Qa P R w s) (Good P (LA P R w s)) WM _ _ _ ⟨gs,w,sl,q,Sh,g,s,rfl,hC,O,rfl,fun _ _ h=>h,rfl,rfl,rfl⟩
theorem UN{m m':Machine}{t K:Trace}{n:Nat}(h:runNT P n m t=(.next m',K)):runN P n m= .next m':=by rw [← runNT_fst P n m t,h]
def El(W:World):St:=⟨fun b=>W.heap[b]?,fun _=>none,false⟩
theorem Wc{W:World}{g:Goroutine}(h:(D4 P).ok (La P R) g (El W)):
  ∃M last o w' K,runNT P (M+1) (solo g W) #[]=(.ended o w',K)∧runN P M (solo g W)= .next last∧step P last= .ended o w'∧Good P (LA P R W (El W)) last o w' K:=by
 have hC:Gy P #[g] W #[] (fun _=>0) (fun _=>False) g (El W):=by
  have V:∀{i:Nat} {a:Touch},touchAt #[] i=some a→False:=fun {i a} h=>by simp [touchAt,Trace.act?] at h
  refine⟨rfl,leavers_one P g,⟨fun i hi=>?_,fun i j hi Z bv=>by simp at hi Z;omega,fun i hi b hb=>hb.elim,fun b hb=>hb.elim,fun said=>?_,by simp,fun i _ b _ x a O=>(V O).elim,fun i _ b _ x a O=>(V O).elim⟩,fun i g hg=>by simp [Trace.g?] at hg,rfl⟩
  ·have:i=0:=by simp at hi;exact hi
   subst this;exact⟨fun b o U=>U,fun b o U=>(by cases U),fun b _=>rfl⟩
  ·rintro⟨i,j,_,⟨a,b,ag,_⟩,_⟩;simp [Trace.act?] at ag
 obtain⟨n,gs',w',al,K,bw,bU,g',s',Y,am,ap,av,a0,a1,a2⟩:=h #[g] W none #[] _ _ hC;obtain⟨N,last,o,a3,a4,k1,a5,a6,a7⟩:=ends (sl:=al) am ap;refine⟨n+N,last,o,a3,a4,?_,?_,a6,?_⟩
 ·rw [solo_eq_crowd,Nat.add_assoc,runNT_add,Y];exact k1
 ·have a8:=UN Y;rw [solo_eq_crowd,runN_add,a8];exact a5
 ·obtain⟨v,e,⟨s2,a9,bb,bd,be,bi,bo⟩,r⟩:=a7;exact⟨v,e,⟨s2,a9,bb,fun b o hb=>bd b o (av b o hb),be.trans a0,bi.trans a1,bo.trans a2⟩,r⟩
end
end Pal
namespace Pal
open Go Go.Conc
theorem VS{P:Program}{Q:Gs_}{E H:LH}{f:FuncId}{fn:Func}{c:Code}{vs:Lv_}(U:P.funcs[f]? =some fn)(hb:fn.body=some c)(Z:fn.ntmps=fn.ntmps)(ag:vs.length≤fn.ntmps)
  (h:JL (D4 P) Q (base f) fn.ntmps (FR 0 vs) [] [.code c] [] (An E H [[]])):(D4 P).ok Q (G (Frame.enter P f vs.toArray .normal) []) (mk E H []):=by
 have he:Frame.enter P f vs.toArray .normal=fr (base f) (vs.toArray++Array.replicate (fn.ntmps - vs.length) undef) [] [.code c]:=by
  simp [Frame.enter,fr,U,hb,base];rfl
 rw [he];have V:mk E H []=An E H [[]]:=by unfold An;simp
 rw [V];refine h _ ⟨by simp;omega,fun t v ht=>?_⟩;obtain⟨_,K⟩:=JC ht;have Y:t<vs.length:=by
  rcases Nat.lt_or_ge t vs.length with O | O
  ·exact O
  ·simp at K;have:=(List.getElem?_eq_some_iff.1 K).1;omega
 rw [Array.getD_eq_getD_getElem?,Array.getElem?_append_left (by simpa using Y)];simp at K;simp [K]
end Pal
namespace Pal
open Go Go.Conc Go.Proofs Go.ChangeShapes Go.WideShapes Go.ChangeAt Go.RowKit
open Go.Proofs.YtboibffcmhheiaaGreatDoor (Rows.laid_errors_errorType)
theorem Tryz.own:ownKnob Tryz.prog.godebug=none:=by kernel_rfl
theorem Tryz.laidOut:laidOutB Tryz.prog=true:=by kernel_rfl
theorem Tryz.Ta:Tryz.prog.cellsOf 3=1:=by kernel_rfl
theorem Wj{W:World}{a:Addr}{len cap:Nat}{K:List Int}(V:a.spot=none)(ap:len≤cap)(ag:len≤K.length)(al:∀i,i<K.length→W.cell? (a.add i)=some (.int .i64 (K.getD i 0))):
  Al rI (El W).E (some a) cap (K.take len)∧(K.take len).length=len:=by
 have Z:(K.take len).length=len:=by simp [Nat.min_eq_left ag]
 refine⟨⟨by omega,.inr ⟨a.block,a.off,?_,fun i x Y=>⟨[iV x],rfl,?_⟩⟩⟩,Z⟩
 ·obtain⟨b,o,s⟩:=a;simp only at V;subst V;rfl
 ·have hi:i<len:=by rw [← Z];exact(List.getElem?_eq_some_iff.1 Y).1
  have O:=al i (by omega);have am:K.getD i 0=x:=by
   rw [List.getElem?_take_of_lt hi] at Y;rw [List.getD_eq_getElem?_getD,Y];rfl
  rw [am,Dp V] at O;unfold World.cell? at O;split at O
  ·rename_i c e f hW;simp only [Option.isSome_none,Bool.false_eq_true,if_false] at O;refine⟨c,e,f,hW,fun j w U=>?_⟩
   match j,U with
   | 0,U=>
    simp at U;subst U;show c[a.off+i*1+0]? =some (.int .i64 x);simpa using O
   | j+1,U=>simp at U
  ·cases O
theorem Ut{R:Value→St→Prop}{W w':World}{v:Value}(h:LA Tryz.prog R W (El W) v w'):(∃s,R v s)∧Below W.heap.size W w':=by
 obtain⟨s,V,Y,Z,ht,ag,al⟩:=h;have hb:∀k,k<W.heap.size→w'.heap[k]? =W.heap[k]? :=fun k O=>by
  have K:(El W).E k=some W.heap[k]:=Array.getElem?_eq_getElem O;have U:=Y.e k _ (Z k _ K);rw [U,Array.getElem?_eq_getElem O]
 refine⟨⟨s,V⟩,⟨ag,ht,al,?_,hb⟩⟩;rcases Nat.eq_zero_or_pos W.heap.size with am | am
 ·omega
 ·have K:=hb (W.heap.size - 1) (by omega);have ap:W.heap[W.heap.size - 1]? =some W.heap[W.heap.size - 1]:=Array.getElem?_eq_getElem (by omega);rw [ap] at K;have U:=(Array.getElem?_eq_some_iff.1 K).1;omega
noncomputable def Rf(os:Os):World:=
 let w0:=World.holding Tryz.prog os ⟨#[],#[],[]⟩
 {w0 with heap:=w0.heap.modify 0 fun
   | .cells _ t frozen=> .cells #[.iface 240 (.agg #[.pointer (some ⟨1,149,none⟩)])] t frozen
   | o=>o}
theorem Ui(os:Os)(args:AD):laidMetH Tryz.prog [("errors.errorType",Go.Proofs.YtboibffcmhheiaaGreatDoor.Rows.laid_errors_errorType)] ((Rf os).forCall (fun _ _=>0) ⟨#[],args,[]⟩).memory:=
 laidMetH_of_parts (laidMet_nil _ _) (by kernel_rfl)
end Pal
namespace Pal
open Go Go.Conc
theorem oi{α:Type}{a b:α}(h:some a=some b):a=b:=Option.some.inj h
theorem bs{α β:Type}{o:Option α}{f:α→Option β}{r:β}(h:o.bind f=some r):∃x,o=some x∧f x=some r:=bind_some h
def G8(L:Env):Env→List (Option Value)
 | []=> []
 | (t,_)::L'=>look L t::G8 L L'
def Ha:Env→List (Option Value)
 | []=> []
 | (_,v)::L'=>some v::Ha L'
theorem No{L:Env}:∀{L':Env},G8 L L'=Ha L'→Sub L' L
 | [],_=>trivial
 | (t,v)::L',h=>by
  simp only [G8,Ha,List.cons.injEq] at h
  exact⟨h.1,No h.2⟩
section
variable {P:Program}{J:Judge P}{Q:Gs_}{b:Frame}{n:Nat}{L L':Env}{ds:Ld_}{k k':Li_}{cs:Lf_}{s:St}{ops:Ao_}{i:Nat}{rest:List Nat}{v:Value}
variable {d:Option Tmp}{op:Op}{ty:TypeId}{p:String}{af:Ae_}{g:On_}
theorem IJ(L':Env)(h:G8 L L'=Ha L')(k':JL J Q b n L' ds k cs s):JL J Q b n L ds k cs s:=Gn (No h) k'
theorem Ay(k':JL J Q b n L' ds k cs s)(h:G8 L L'=Ha L'):JL J Q b n L ds k cs s:=Gn (No h) k'
def EH(b:Frame)(n:Nat)(L:Env)(ops:Ao_)(i:Nat):Option Oper:=
 match H7 ops.toList i with
 | some ⟨d,op,ty,p,af,g⟩=>match Bf L ops ⟨d,op,ty,p,af,g⟩ with
  | some true=>match CS b n ⟨d,op,ty,p,af,g⟩ with
   | true=>some ⟨d,op,ty,p,af,g⟩
   | false=>none
  | _=>none
 | none=>none
theorem I4{o:Oper}(h:EH b n L ops i=some o):ops[i]? =some o∧Bf L ops o=some true∧CS b n o=true:=by
 unfold EH at h;split at h
 ·rename_i K;rw [JR,Array.getElem?_toList] at K;split at h
  ·rename_i hw;split at h
   ·rename_i O;cases h;exact⟨K,hw,O⟩
   ·cases h
  ·cases h
 ·cases h
theorem AF(K:EH b n L ops i=some ⟨d,op,ty,p,af,g⟩)(h:∀ρ,EL L ρ→Yl P ⟨d,op,ty,p,af,g⟩ ρ s v)(O:JL J Q b n (AI L d v) ds (.inRegion ops rest::k) cs s):
  JL J Q b n L ds (.inRegion ops (i::rest)::k) cs s:=
 let ⟨U,V,Y⟩:=I4 K
 Bb U V Y h O
theorem Ka{f:FuncId}{fn:Func}{c:Code}{E:LH}{vs:Lv_}{B:Seg}{R:Value→LH→Seg→Prop}(O:P.funcs[f]? =some fn)(hb:fn.body=some c)(U:Nat.ble vs.length fn.ntmps=true)
  (h:∀(Q:Gs_) (K:Frame) (cs:Lf_) (H:LH),Ax E H [B]→(∀v E' S' B',Le E E'→S'.flatten=B'→R v E' B'→Ax E' H S'→J.ok Q (G (K.finish v) cs) (An E' H S'))→JL J Q (base f) fn.ntmps (FR 0 vs) [] [.code c] (K::cs) (An E H [B])):AN J f vs E B R:=
 AN.enter O hb (Nat.le_of_ble_eq_true U) h
def Oo(n:Nat)(L:Env)(ops:Ao_)(i:Nat):Option Env:=
 match H7 ops.toList i with
 | some ⟨d,op,ty,p,af,g⟩=>match Bf L ops ⟨d,op,ty,p,af,g⟩ with
  | some true=>match BE n d with
   | true=>match Jk L op with
    | some v=>match d with
     | some d=>some ((d,v)::L)
     | none=>some L
    | none=>none
   | false=>none
  | some false=>match BE n d with
   | true=>match d with
    | some d=>some ((d,undef)::L)
    | none=>some L
   | false=>none
  | none=>none
 | none=>none
def Gc(n:Nat)(L:Env)(ops:Ao_)(i:Nat):Option Oper:=
 match H7 ops.toList i with
 | some ⟨d,op,ty,p,af,g⟩=>match Bf L ops ⟨d,op,ty,p,af,g⟩ with
  | some true=>match BE n d with
   | true=>some ⟨d,op,ty,p,af,g⟩
   | false=>none
  | _=>none
 | none=>none
theorem OX{o:Oper}(h:Gc n L ops i=some o):ops[i]? =some o∧Bf L ops o=some true∧BE n o.dst=true:=by
 unfold Gc at h;split at h
 ·rename_i K;rw [JR,Array.getElem?_toList] at K;split at h
  ·rename_i hw;split at h
   ·rename_i O;cases h;exact⟨K,hw,O⟩
   ·cases h
  ·cases h
 ·cases h
theorem V4(h:Oo n L ops i=some L'):∃o,ops[i]? =some o∧BE n o.dst=true∧((∃v,Bf L ops o=some true∧Jk L o.op=some v∧L'=AI L o.dst v)∨(Bf L ops o=some false∧L'=AI L o.dst undef)):=by
 unfold Oo at h;split at h
 ·rename_i d op ty p af g O;rw [JR,Array.getElem?_toList] at O;refine⟨_,O,?_⟩;split at h
  ·rename_i hw;split at h
   ·rename_i K;refine⟨K,.inl ?_⟩;split at h
    ·rename_i v U;refine⟨v,hw,U,?_⟩;cases d with
     | none=>cases h;rfl
     | some d=>cases h;rfl
    ·cases h
   ·cases h
  ·rename_i hw;split at h
   ·rename_i K;refine⟨K,.inr ⟨hw,?_⟩⟩;cases d with
    | none=>cases h;rfl
    | some d=>cases h;rfl
   ·cases h
  ·cases h
 ·cases h
variable {m:Nat}{D:Nat→Bool}{fuel:Nat}{listed:Array Bool}
theorem Ck(i:Nat)(K:DR ops m=true)(O:s.q=false)(h:Oo n L ops i=some L')
  (U:AY J Q b n ds ops k cs m D fuel (Bi listed i) L' s) (V:FD ops listed m i=true:=by decide+kernel):AY J Q b n ds ops k cs m D (fuel+1) listed L s:=by
 obtain⟨o,Y,Z,⟨v,hw,ag,rfl⟩ | ⟨hw,rfl⟩⟩:=V4 h
 ·exact Np i Y K V O hw Z (fun ρ al s' _=>M1 al ag) U
 ·exact bH i Y K V O hw Z U
theorem BA(i:Nat)(K:DR ops m=true)(O:s.q=false)(U:Gc n L ops i=some ⟨d,op,ty,p,af,g⟩)
  (V:∀ρ,EL L ρ→∀s':St,(∀x o,(BK D s).E x=some o→s'.E x=some o)→Yl P ⟨d,op,ty,p,af,g⟩ ρ s' v)
  (Y:AY J Q b n ds ops k cs m D fuel (Bi listed i) (AI L d v) s) (Z:FD ops listed m i=true:=by decide+kernel):AY J Q b n ds ops k cs m D (fuel+1) listed L s:=by
 obtain⟨ag,al,am⟩:=OX U;exact Np i ag K Z O al am V Y
end
end Pal
namespace Pal
open Go Go.Conc
abbrev Jn(E H E':LH)(S:List Seg)(K L:Env)(s:St)(R:Prop):Prop:=L=K∧s=An E' H S∧Le E E'∧Ax E' H S∧R
abbrev Jm(E H E':LH)(S:List Seg)(K L:Env)(s:St):Prop:=L=K∧s=An E' H S∧Le E E'∧Ax E' H S
def Og(L:Env):List ResultVar→Option (Lv_)
 | []=>some []
 | .tmp t::rs=>match look L t with
  | some v=>match Og L rs with
   | some vs=>some (v::vs)
   | none=>none
  | none=>none
 | _=>none
theorem SE{P:Program}{L:Env}{s:St}:∀{rs:List ResultVar} {vs:Lv_},Og L rs=some vs→RV P L s rs vs
 | [],vs,h=>by cases h;trivial
 | .tmp t::rs,vs,h=>by
  unfold Og at h
  split at h
  ·rename_i v K
   split at h
   ·rename_i ws hw;cases h;exact⟨K,SE hw⟩
   ·cases h
  ·cases h
 | .cell _ _::_,_,h=>by cases h
section
variable {P:Program}{J:Judge P}{Q:Gs_}{b:Frame}{n:Nat}{L L':Env}{ds:Ld_}{k k':Li_}{cs:Lf_}{s:St}{ops:Ao_}{i:Nat}{rest:List Nat}{v:Value}{E H:LH}{S:List Seg}
variable {d:Option Tmp}{op:Op}{x y:Operand}{t ft ty e:TypeId}{p:String}{af:Ae_}{g:On_}
theorem AB{c:Frame}{fn:Func}{vs:Lv_}(O:P.funcs[b.fn]? =some fn)(K:(b.kind== .normal&&b.roundOf.isNone)=true)(U:Og L fn.results.toList=some vs)(h:J.ok Q (G (c.finish (MS vs)) cs) s):JL J Q b n L [] (.code .ret::k) (c::cs) s:=by
 simp only [Bool.and_eq_true,beq_iff_eq,Option.isNone_iff_eq_none] at K;exact JL.ret K.1 K.2 (Cm.list O rfl (SE U)) h
theorem BN{f:FuncId}{args:Array Operand}{ats:Array TypeId}{vs:Lv_}{R:Value→LH→Seg→Prop}
  (O:AN J f vs E [] R) (U:EH b n L ops i=some ⟨d,.call ⟨.value (.func f),args,ats⟩,ty,p,af,g⟩) (V:evs L args.toList=some vs) (hb:D3 P f=true)
  (Y:Ax E H S) (Z:∀v E' seg',Le E E'→R v E' seg'→Ax E' H (S++ [seg'])→JL J Q b n (AI L d v) ds (.inRegion ops rest::k) cs (An E' H (S++ [seg']))):
  JL J Q b n L ds (.inRegion ops (i::rest)::k) cs (An E H S):=by
 obtain⟨ag,al,K⟩:=I4 U;refine JS.call O ag al ?_ hb V Y Z;simp only [CS,Bool.and_eq_true] at K ⊢;exact⟨K.1,K.2.1⟩
theorem BH{f:FuncId}{args:Array Operand}{ats:Array TypeId}{vs:Lv_}{v:Value}
  (O:AN J f vs E [] (fun w E' B'=>w=v∧B'= [])) (U:EH b n L ops i=some ⟨d,.call ⟨.value (.func f),args,ats⟩,ty,p,af,g⟩) (V:evs L args.toList=some vs) (hb:D3 P f=true)
  (K:Ax E H S) (Y:∀E',Le E E'→Ax E' H (S++ [[]])→JL J Q b n (AI L d v) ds (.inRegion ops rest::k) cs (An E' H (S++ [[]]))):
  JL J Q b n L ds (.inRegion ops (i::rest)::k) cs (An E H S):=BN O U V hb K (by rintro _ E' _ hle ⟨rfl,rfl⟩ K;exact Y E' hle K)
theorem B8{f:FuncId}{args:Array Operand}{ats:Array TypeId}{vs:Lv_}{seg:Seg}{R:Value→LH→Seg→Prop}(j:Nat)
  (O:AN J f vs E seg R) (U:EH b n L ops i=some ⟨d,.call ⟨.value (.func f),args,ats⟩,ty,p,af,g⟩) (V:evs L args.toList=some vs) (hb:D3 P f=true)
  (Y:Ax E H S) (Z:S[j]? =some seg) (ag:∀v E' seg',Le E E'→R v E' seg'→Ax E' H (S.set j seg')→JL J Q b n (AI L d v) ds (.inRegion ops rest::k) cs (An E' H (S.set j seg'))):
  JL J Q b n L ds (.inRegion ops (i::rest)::k) cs (An E H S):=by
 obtain⟨al,am,K⟩:=I4 U;refine O7 j O al am ?_ hb V Y Z ag;simp only [CS,Bool.and_eq_true] at K ⊢;exact⟨K.1,K.2.1⟩
def Ln(K:Array Field)(i:Nat):Option (Nat×TypeId):=match K[i]? with
 | some f=>some (f.offset,f.type)
 | none=>none
theorem Ba{r m m':Int}{u:TypeId}(h:As (m+m')=some r)(K:EH b n L ops i=some ⟨d,.binOp .add t x y u,ty,p,af,g⟩)(O:ev L x=some (iV m))(U:ev L y=some (iV m'))
  (V:JL J Q b n (AI L d (iV r)) ds (.inRegion ops rest::k) cs s):JL J Q b n L ds (.inRegion ops (i::rest)::k) cs s:=AF K (fun _ q=>MT (q _ _ O) (q _ _ U) h) V
theorem Cl{r m m':Int}{u:TypeId}(h:As (m - m')=some r)(K:EH b n L ops i=some ⟨d,.binOp .sub t x y u,ty,p,af,g⟩)(O:ev L x=some (iV m))(U:ev L y=some (iV m'))
  (V:JL J Q b n (AI L d (iV r)) ds (.inRegion ops rest::k) cs s):JL J Q b n L ds (.inRegion ops (i::rest)::k) cs s:=AF K (fun _ q=>Da (q _ _ O) (q _ _ U) h) V
theorem Bh{a:Option Addr}{e:TypeId}{l c:Nat}{ats:Array TypeId}(ht:P.underlying t=some (.slice e))(K:EH b n L ops i=some ⟨d,.call ⟨.builtin .len,#[x],ats⟩,ty,p,af,g⟩)(O:ats[0]? =some t)(U:ev L x=some (.slice a l c))
  (V:JL J Q b n (AI L d (.int .i64 l)) ds (.inRegion ops rest::k) cs s):JL J Q b n L ds (.inRegion ops (i::rest)::k) cs s:=AF K (fun _ q=>Yl.len O ht (q _ _ U)) V
theorem BL{bk o O off:Nat}{U:Array Field}{V:Nat}(ht:P.underlying t=some (.struct U))(Y:BD P ft=some (O+1))(Z:EH b n L ops i=some ⟨d,.fieldAddr t x V,ty,p,af,g⟩)(ag:ev L x=some (.pointer (some ⟨bk,o,none⟩)))(K:Ln U V=some (off,ft))
  (al:JL J Q b n (AI L d (.pointer (some ⟨bk,o+off,none⟩))) ds (.inRegion ops rest::k) cs s):
  JL J Q b n L ds (.inRegion ops (i::rest)::k) cs s:=by
 unfold Ln at K;split at K
 ·rename_i f am;cases K;refine AF Z (fun ρ h=>S7 (a:=⟨bk,o,none⟩) O f.offset ht Y am rfl rfl (h _ _ ag)) ?_;rw [Dp rfl];exact al
 ·cases K
theorem B4{bk o:Nat}{ws:Lv_}(j:Nat)(K:At E bk o ws)(ht:Dk P t=some false)(O:EH b n L ops i=some ⟨d,.load t x,ty,p,af,g⟩)(U:ev L x=some (.pointer (some ⟨bk,o+j,none⟩)))(V:ws[j]? =some v)
  (Y:JL J Q b n (AI L d v) ds (.inRegion ops rest::k) cs (An E H S)):
  JL J Q b n L ds (.inRegion ops (i::rest)::k) cs (An E H S):=
 AF O (fun _ h=>Yl.load ht (h _ _ U) (At.Kf K V)) Y
theorem PL{bk off:Nat}{c:AD}(j:Nat)(K:Ax E H S)(O:BD P t=some v.cells.size)(U:EH b n L ops i=some ⟨d,.store t x y,ty,p,af,g⟩)
  (V:ev L x=some (.pointer (some ⟨bk,off,none⟩))) (Y:ev L y=some v) (Z:S[j]? =some [(bk,.cells c e (0,0))])
  (h:Ax E H (S.set j [(bk,.cells (A2 c off v.cells.toList) e (0,0))])→JL J Q b n (AI L d undef) ds (.inRegion ops rest::k) cs (An E H (S.set j [(bk,.cells (A2 c off v.cells.toList) e (0,0))])))
  (hle:off+v.cells.size≤c.size:=by exact Nat.le_of_ble_eq_true rfl) (ag:∀u∈v.cells.toList,CY u=true:=by simp [Value.cells,CY]):
  JL J Q b n L ds (.inRegion ops (i::rest)::k) cs (An E H S):=by
 obtain⟨al,am,ap⟩:=I4 U;exact JS.store j al am ap K V Y O ag Z hle h
theorem BX{bk o:Nat}{ws:Lv_}(K:At E bk o ws)(ht:Dk P t=some true)(O:BD P t=some ws.length)(U:EH b n L ops i=some ⟨d,.load t x,ty,p,af,g⟩)(V:ev L x=some (.pointer (some ⟨bk,o,none⟩)))
  (Y:JL J Q b n (AI L d (.agg ws.toArray)) ds (.inRegion ops rest::k) cs (An E H S)):
  JL J Q b n L ds (.inRegion ops (i::rest)::k) cs (An E H S):=
 AF U (fun _ h=>F5 ht O (h _ _ V) (At.Y7 K)) Y
variable {m:Nat}{D:Nat→Bool}{fuel:Nat}{listed:Array Bool}
theorem B9{bk o O off:Nat}{U:Array Field}{V:Nat}(i:Nat)(Y:DR ops m=true)(ht:P.underlying t=some (.struct U))(Z:BD P ft=some (O+1))(ag:s.q=false)(al:Gc n L ops i=some ⟨d,.fieldAddr t x V,ty,p,af,g⟩)(am:ev L x=some (.pointer (some ⟨bk,o,none⟩)))(K:Ln U V=some (off,ft))
  (ap:AY J Q b n ds ops k cs m D fuel (Bi listed i) (AI L d (.pointer (some ⟨bk,o+off,none⟩))) s) (av:FD ops listed m i=true:=by decide+kernel):AY J Q b n ds ops k cs m D (fuel+1) listed L s:=by
 unfold Ln at K;split at K
 ·rename_i f a0;cases K;refine BA i Y ag al (fun ρ h _ _=>S7 (a:=⟨bk,o,none⟩) O f.offset ht Z a0 rfl rfl (h _ _ am)) ?_ av;rw [Dp rfl];exact ap
 ·cases K
theorem Cz{bk o:Nat}{ws:Lv_}(i:Nat)(K:DR ops m=true)(j:Nat)(O:At (BK D s).E bk o ws)(ht:Dk P t=some false)(U:s.q=false)(V:Gc n L ops i=some ⟨d,.load t x,ty,p,af,g⟩)(Y:ev L x=some (.pointer (some ⟨bk,o+j,none⟩)))(Z:ws[j]? =some v)
  (ag:AY J Q b n ds ops k cs m D fuel (Bi listed i) (AI L d v) s) (al:FD ops listed m i=true:=by decide+kernel):AY J Q b n ds ops k cs m D (fuel+1) listed L s:=
 BA i K U V (fun _ h _ hs=>Yl.load ht (h _ _ Y) (At.PQ O hs Z)) ag al
theorem Fi{bk o:Nat}{ws:Lv_}(i:Nat)(K:DR ops m=true)(O:At (BK D s).E bk o ws)(ht:Dk P t=some true)(U:BD P t=some ws.length)(V:s.q=false)(Y:Gc n L ops i=some ⟨d,.load t x,ty,p,af,g⟩)(Z:ev L x=some (.pointer (some ⟨bk,o,none⟩)))
  (ag:AY J Q b n ds ops k cs m D fuel (Bi listed i) (AI L d (.agg ws.toArray)) s) (al:FD ops listed m i=true:=by decide+kernel):AY J Q b n ds ops k cs m D (fuel+1) listed L s:=
 BA i K V Y (fun _ h _ hs=>F5 ht U (h _ _ Z) (At.PE O hs)) ag al
end
end Pal
namespace Pal
open Go Go.Conc
abbrev A9:=List (List Int)×List (List Int)
abbrev BY:=List (List Int)×List (List Int)×List Nat
abbrev Cf:=Int×List Int×Nat
abbrev Bw:=Int×Int×List Cf
abbrev AJ:=List (Int×Int)
abbrev B7:=List Int×Int×Nat
abbrev Ap:=Option Addr
abbrev Dx:Rp Cf:=rP rI (rP (rL rI) (rN .u16))
abbrev CB:Rp Bw:=rP rI (rP rI (rL Dx))
abbrev Bg:Rp (Int×Int):=rP rI rI
theorem ip{α:Type}{p:Prop} [Decidable p] {A B:Option α}{r:α}(h:(if p then A else B)=some r)(c:p):A=some r:=by rwa [if_pos c] at h
theorem im{α:Type}{p:Prop} [Decidable p] {A B:Option α}{r:α}(h:(if p then A else B)=some r)(c:¬p):B=some r:=by rwa [if_neg c] at h
theorem ib{α:Type}{c:Bool}{A B:Option α}{r:α}(h:(if c=true then A else B)=some r)(K:c=false):B=some r:=by subst K;simpa using h
def P1(n:Nat)(ops:Ao_):List Nat→Nat→Env→Option (Nat×Env)
 | [],f,L=>some (f,L)
 | i::l,f+1,L=>match Oo n L ops i with
  | some L'=>P1 n ops l f L'
  | none=>none
 | _::_,0,_=>none
def PZ(ops:Ao_)(m:Nat):Array Bool→List Nat→Bool
 | _,[]=>true
 | listed,i::l=>FD ops listed m i&&PZ ops m (Bi listed i) l
def TL:Array Bool→List Nat→Array Bool
 | listed,[]=>listed
 | listed,i::l=>TL (Bi listed i) l
theorem AZ{P:Program}{J:Judge P}{Q:Gs_}{b:Frame}{n:Nat}{ds:Ld_}{k:Li_}{cs:Lf_}{s:St}{ops:Ao_}{m:Nat}{D:Nat→Bool}{L':Env}{U:Nat}(V:DR ops m=true)(Y:s.q=false):
  ∀(l:List Nat) {fuel:Nat} {listed:Array Bool} {L:Env},P1 n ops l fuel L=some (U,L')→AY J Q b n ds ops k cs m D U (TL listed l) L' s→(K:PZ ops m listed l=true:=by decide+kernel)→AY J Q b n ds ops k cs m D fuel listed L s
 | [],fuel,listed,L,h,O,_=>by cases h;exact O
 | i::l,fuel,listed,L,h,O,K=>by
  cases fuel with
  | zero=>cases h
  | succ fuel=>
   unfold PZ at K;rw [Bool.and_eq_true] at K;unfold P1 at h;split at h
   ·rename_i Z e;exact Ck i V Y e (AZ V Y l h O K.2) K.1
   ·cases h
theorem zg{P:Program}{J:Judge P}{Q:Gs_}{b:Frame}{n:Nat}{L L':Env}{ds:Ld_}{k k':Li_}{cs:Lf_}{s:St}(m:Nat)(h:Nz b n m k L=some (k',L'))(K:JL J Q b n L' ds k' cs s):JL J Q b n L ds k cs s:=JL.go m h K
abbrev bX(r:Nat)(c:AD)(t:TypeId):Seg:= [(r,.cells c t (0,0))]
end Pal
namespace Pal
open Go Go.Conc
section
variable {P:Program}{J:Judge P}{Q:Gs_}{b:Frame}{n:Nat}{L L':Env}{ds:Ld_}{k:Li_}{cs:Lf_}{s:St}{ops:Ao_}{E H:LH}{S:List Seg}
variable {α:Type}{A B:Option α}{r:α}
theorem AM{c:Operand}{x y:Code}{p:Prop} [Decidable p] (K:(if p then A else B)=some r)(O:p→A=some r→JL J Q b n L ds (.code x::k) cs s)(U:¬p→B=some r→JL J Q b n L ds (.code y::k) cs s)
  (V:ev L c=some (.bool (decide p)):=by exact rfl):JL J Q b n L ds (.code (.cond c x y)::k) cs s:=PH V (fun h=>O h (ip K h)) fun h=>U h (im K h)
theorem BI{c:Operand}{x y:Code}{t:Bool}(K:(if t=true then A else B)=some r)(O:t=true→A=some r→JL J Q b n L ds (.code x::k) cs s)(U:t=false→B=some r→JL J Q b n L ds (.code y::k) cs s)
  (V:ev L c=some (.bool t):=by exact rfl):JL J Q b n L ds (.code (.cond c x y)::k) cs s:=RD V (fun h=>O h (ip K h)) fun h=>U h (ib K h)
theorem Es{q:Prop} [Decidable q] (i:Nat)(K:(if q then A else B)=some r)(O:q→A=some r→JL J Q b n (AI L (some i) (.bool true)) ds k cs s)(U:¬q→B=some r→JL J Q b n (AI L (some i) (.bool false)) ds k cs s)
  (V:look L i=some (.bool (decide q)):=by exact rfl):JL J Q b n L ds k cs s:=Vp V (fun h=>O h (ip K h)) fun h=>U h (im K h)
theorem DU{t:Bool}(i:Nat)(K:(if t=true then A else B)=some r)(O:t=true→A=some r→JL J Q b n (AI L (some i) (.bool true)) ds k cs s)(U:t=false→B=some r→JL J Q b n (AI L (some i) (.bool false)) ds k cs s)
  (V:look L i=some (.bool t):=by exact rfl):JL J Q b n L ds k cs s:=Vw V (fun h=>O h (ip K h)) fun h=>U h (ib K h)
theorem CV{K O:Type}{c:Code}{body:K→Option (Bd K O)}{f:Nat}{U:K}{a:O}(Y:iter body f U=some a)(I:Env→St→K→Prop)(Z:I L' s U)
  (round:∀L s x,I L s x→(∀V,body x=some (.done V)→V=a)→(∃st,body x=some st)→(∀L' s' x',I L' s' x'→body x=some (.more x')→JL J Q b n L' ds (.inLoop c::k) cs s')→JL J Q b n L ds (.code c:: .inLoop c::k) cs s)
  (ag:G8 L L'=Ha L':=by exact rfl):JL J Q b n L ds (.code (.loop c)::k) cs s:=IJ L' ag (RM Y I Z round)
variable {m:Nat}{D:Nat→Bool}{fuel:Nat}{listed:Array Bool}
def Oc(ops:Ao_):Array Bool→List Nat→Bool
 | _,[]=>true
 | l,i::t=>Region.ready .any ops l== [i]&&Oc ops (Bi l i) t
theorem Sp:∀{t:List Nat} {l:Array Bool},Oc ops l t=true→∀u,Region.linearise.go .any ops t.length u l []=t
 | [],_,_,_=>rfl
 | i::t,l,h,u=>by
  unfold Oc at h
  rw [Bool.and_eq_true,beq_iff_eq] at h
  exact ab h.1 (Sp h.2) u
theorem Cj(t:List Nat)(O:JL J Q b n L ds (.inRegion ops t::k) cs s)(K:(PK m listed&&Oc ops listed t&&(fuel+1==t.length))=true:=by decide+kernel):AY J Q b n ds ops k cs m D (fuel+1) listed L s:=by
 rw [Bool.and_eq_true,Bool.and_eq_true,beq_iff_eq] at K;exact AY.leaf K.1.1 (by rw [K.2];exact Sp K.1.2) O
theorem C5(m:Nat){id:Nat}(h:DR ops m=true→AY J Q b n ds ops k cs m Ee ops.size (Array.replicate ops.size false) L (An E H S))(hm:P.follows .mixedOrders=true:=by exact rfl)(K:(b.kind != .early)=true:=by exact rfl)(ht:DR ops m=true:=by decide+kernel):
  JL J Q b n L ds (.code (.region id ops true)::k) cs (An E H S):=Ws m hm K ht h
theorem Dq(m:Nat)(bks:List Nat){id:Nat}(K:Gt S bks)(O:Ax E H S)(h:DR ops m=true→AY J Q b n ds ops k cs m (A7 bks) ops.size (Array.replicate ops.size false) L (An E H S))(hm:P.follows .mixedOrders=true:=by exact rfl)(U:(b.kind != .early)=true:=by exact rfl)(ht:DR ops m=true:=by decide+kernel):
  JL J Q b n L ds (.code (.region id ops true)::k) cs (An E H S):=V7 m bks K O hm U ht h
theorem CN{α:Type}{pp:Rp α}{a:Option Addr}{c:Nat}{xs:List α}{xv:α}{K:Int}{d:Option Tmp}{x y:Operand}{t ty e:TypeId}{p:String}{af:Ae_}{g:On_}{kd:IntKind}(i:Nat)(O:Al pp E a c xs)(U:ix xs K=some xv)(V:DR ops m=true)(ht:P.underlying t=some (.slice e))(Y:BD P e=some pp.n)
  (h:∀bk o ws,pp.r E ws xv→At E bk o ws→AY J Q b n ds ops k cs m D fuel (Bi listed i) (AI L d (.pointer (some ⟨bk,o,none⟩))) s)
  (Z:ops[i]? =some ⟨d,.indexAddr t x y,ty,p,af,g⟩:=by exact rfl) (ag:FD ops listed m i=true:=by decide+kernel) (al:s.q=false:=by exact rfl)
  (hw:Bf L ops ⟨d,.indexAddr t x y,ty,p,af,g⟩=some true:=by exact rfl) (am:BE n d=true:=by exact rfl)
  (ap:ev L x=some (.slice a xs.length c):=by exact rfl) (av:ev L y=some (.int kd K):=by exact rfl):
  AY J Q b n ds ops k cs m D (fuel+1) listed L s:=YV i O U Z V ag al hw am ap av ht Y h
end
end Pal
namespace Pal
open Go Go.Conc
section
variable {P:Program}{J:Judge P}{Q:Gs_}{b:Frame}{n:Nat}{ds:Ld_}{ops:Ao_}{k:Li_}{cs:Lf_}{fuel:Nat}{D:Nat→Bool}{listed:Array Bool}{L L':Env}{s:St}{xl:List Nat}
variable {d:Option Tmp}{op:Op}{ty:TypeId}{p:String}{af:Ae_}{g:On_}{v:Value}
theorem GM(i:Nat)(pure:Bool)(K:s.q=false)(O:Gc n L ops i=some ⟨d,op,ty,p,af,g⟩)
  (U:∀ρ,EL L ρ→∀s':St,(pure=false→∀x o,(BK D s).E x=some o→s'.E x=some o)→Yl P ⟨d,op,ty,p,af,g⟩ ρ s' v)
  (V:FI J Q b n ds ops k cs (A7 xl) D fuel (Bi listed i) (AI L d v) s) (Y:Kn ops listed xl pure i=true:=by decide+kernel):FI J Q b n ds ops k cs (A7 xl) D (fuel+1) listed L s:=by
 obtain⟨Z,ag,al⟩:=OX O;exact SQ i pure Z Y K ag al U V
def Qi(n:Nat)(L:Env)(ops:Ao_)(i:Nat):Option Env:=
 match H7 ops.toList i with
 | some ⟨d,op,ty,p,af,g⟩=>match Bf L ops ⟨d,op,ty,p,af,g⟩ with
  | some true=>match BE n d with
   | true=>match Jk L op with
    | some v=>match d with
     | some d=>some ((d,v)::L)
     | none=>some L
    | none=>none
   | false=>none
  | _=>none
 | none=>none
theorem We{i:Nat}(h:Qi n L ops i=some L'):∃o v,ops[i]? =some o∧BE n o.dst=true∧Bf L ops o=some true∧Jk L o.op=some v∧L'=AI L o.dst v:=by
 unfold Qi at h;split at h
 ·rename_i d op ty p af g K;rw [JR,Array.getElem?_toList] at K;split at h
  ·rename_i hw;split at h
   ·rename_i O;split at h
    ·rename_i v U;refine⟨_,v,K,O,hw,U,?_⟩;cases d with
     | none=>cases h;rfl
     | some d=>cases h;rfl
    ·cases h
   ·cases h
  ·cases h
 ·cases h
theorem Bu(i:Nat)(K:s.q=false)(h:Qi n L ops i=some L')
  (O:FI J Q b n ds ops k cs (A7 xl) D fuel (Bi listed i) L' s) (U:Kn ops listed xl true i=true:=by decide+kernel):FI J Q b n ds ops k cs (A7 xl) D (fuel+1) listed L s:=by
 obtain⟨o,v,V,Y,hw,Z,rfl⟩:=We h;exact SQ i true V U K hw Y (fun ρ ag s' _=>M1 ag Z) O
end
end Pal
namespace Pal
open Go Go.Conc
section
variable {P:Program}{J:Judge P}{Q:Gs_}{b:Frame}{n:Nat}{L L':Env}{ds:Ld_}{k:Li_}{cs:Lf_}{s:St}{ops:Ao_}{E H:LH}{S:List Seg}{i i2:Nat}{rest:List Nat}
variable {d d2:Option Tmp}{x y x2:Operand}{t t2 ft u ty ty2 e:TypeId}{p p2:String}{af af2:Ae_}{g g2:On_}{v w:Value}
theorem Ca(O:Ax E H S)(h:∀r E',Le E E'→At E' r 0 v.cells.toList→Ax E' H (S++ [[]])→JL J Q b n (AI L d (.pointer (some ⟨r,0,none⟩))) ds (.inRegion ops rest::k) cs (An E' H (S++ [[]])))
  (U:EH b n L ops i=some ⟨d,.box e x,ty,p,af,g⟩:=by exact rfl) (V:ev L x=some v:=by exact rfl):JL J Q b n L ds (.inRegion ops (i::rest)::k) cs (An E H S):=by
 obtain⟨Y,Z,ag⟩:=I4 U;refine JS.box Y Z ag O V fun r al=>C8 (bk:=r) (c:=v.cells) (e:=e) (f:=(0,0)) S.length al (by simp) fun E' hle am K=>?_;have ap:(S++ [[(r,Obj.cells v.cells e (0,0))]]).set S.length []=S++ [[]]:=by simp
 rw [ap] at K ⊢;exact h r E' hle am K
theorem CW{z:Value}(K:Ax E H S)(O:zeroOf P e=some z)(h:∀r,Ax E H (S++ [[(r,.cells z.cells e (0,0))]])→JL J Q b n (AI L d (.pointer (some ⟨r,0,none⟩))) ds (.inRegion ops rest::k) cs (An E H (S++ [[(r,.cells z.cells e (0,0))]])))
  (U:EH b n L ops i=some ⟨d,.alloc e,ty,p,af,g⟩:=by exact rfl):JL J Q b n L ds (.inRegion ops (i::rest)::k) cs (An E H S):=by
 obtain⟨V,Y,Z⟩:=I4 U;exact JS.alloc V Y Z K O h
theorem BW{bk off K:Nat}{c:AD}(j:Nat)(O:Ax E H S)(U:BD P t=some K)
  (h:Ax E H (S.set j [(bk,.cells (A2 c off v.cells.toList) e (0,0))])→JL J Q b n (AI L d undef) ds (.inRegion ops rest::k) cs (An E H (S.set j [(bk,.cells (A2 c off v.cells.toList) e (0,0))])))
  (V:EH b n L ops i=some ⟨d,.store t x y,ty,p,af,g⟩:=by exact rfl) (Y:ev L x=some (.pointer (some ⟨bk,off,none⟩)):=by exact rfl) (Z:ev L y=some v:=by exact rfl) (ag:S[j]? =some [(bk,.cells c e (0,0))]:=by exact rfl)
  (al:K=v.cells.size:=by exact rfl) (hle:off+v.cells.size≤c.size:=by exact Nat.le_of_ble_eq_true rfl) (am:v.cells.toList.all CY=true:=by first | exact rfl | simp [Value.cells,CY]):
  JL J Q b n L ds (.inRegion ops (i::rest)::k) cs (An E H S):=PL j O (by rw [← al];exact U) V Y Z ag h hle (List.all_eq_true.1 am)
theorem JL.fl{bk o o1 U off:Nat}{K:Array Field}{O:Nat}{ws:Lv_}(j:Nat)(V:At E bk o ws)(ht:P.underlying t=some (.struct K))(Y:BD P ft=some (U+1))(Z:Dk P t2=some false)
  (ag:JL J Q b n (AI (AI L d (.pointer (some ⟨bk,o1+off,none⟩))) d2 v) ds (.inRegion ops rest::k) cs (An E H S))
  (al:EH b n L ops i=some ⟨d,.fieldAddr t x O,ty,p,af,g⟩:=by exact rfl) (am:ev L x=some (.pointer (some ⟨bk,o1,none⟩)):=by exact rfl) (ap:Ln K O=some (off,ft):=by exact rfl)
  (av:EH b n (AI L d (.pointer (some ⟨bk,o1+off,none⟩))) ops i2=some ⟨d2,.load t2 x2,ty2,p2,af2,g2⟩:=by exact rfl) (a0:ev (AI L d (.pointer (some ⟨bk,o1+off,none⟩))) x2=some (.pointer (some ⟨bk,o+j,none⟩)):=by exact rfl) (a1:ws[j]? =some v:=by exact rfl):
  JL J Q b n L ds (.inRegion ops (i::i2::rest)::k) cs (An E H S):=BL ht Y al am ap (B4 j V Z av a0 a1 ag)
theorem Ce{α:Type}{pp:Rp α}{a:Option Addr}{c:Nat}{xs:List α}{xv:α}{m:Int}{kd:IntKind}(K:Al pp E a c xs)(hm:ix xs m=some xv)(ht:P.underlying t=some (.slice e))(O:BD P e=some pp.n)
  (h:∀bk o ws,pp.r E ws xv→At E bk o ws→JL J Q b n (AI L d (.pointer (some ⟨bk,o,none⟩))) ds (.inRegion ops rest::k) cs (An E H S))
  (U:EH b n L ops i=some ⟨d,.indexAddr t x y,ty,p,af,g⟩:=by exact rfl) (V:ev L x=some (.slice a xs.length c):=by exact rfl) (Y:ev L y=some (.int kd m):=by exact rfl):
  JL J Q b n L ds (.inRegion ops (i::rest)::k) cs (An E H S):=by
 obtain⟨Z,ag,al⟩:=I4 U;exact Yh K hm Z ag al V Y ht O h
theorem CK(K:List Seg)(O:Env){todo:Li_}{c:Code}(U:∀E',Le E E'→Ax E' H K→JL J Q b n O ds todo cs (An E' H K))
  (h:(∀{E':LH} {L:Env},Le E E'→Ax E' H K→G8 L O=Ha O→JL J Q b n L ds todo cs (An E' H K))→JL J Q b n L ds (.code c::todo) cs (An E H S)):JL J Q b n L ds (.code c::todo) cs (An E H S):=
 h fun V Y Z=>Ay (U _ V Y) Z
theorem Dv{U:List Nat}(V Y:Nat)(K:List Seg)(O:Env){todo:Li_}(Z:∀E',Le E E'→Ax E' H K→JL J Q b n O ds (.inRegion ops (List.range' V Y)::todo) cs (An E' H K))
  (h:(∀{E':LH} {L:Env},Le E E'→Ax E' H K→G8 L O=Ha O→JL J Q b n L ds (.inRegion ops (List.range' V Y)::todo) cs (An E' H K))→JL J Q b n L ds (.inRegion ops U::todo) cs (An E H S)):JL J Q b n L ds (.inRegion ops U::todo) cs (An E H S):=
 h fun ag al am=>Ay (Z _ ag al) am
theorem Cp{O ag:Type}{c:Code}{body:O→Option (Bd O ag)}{f:Nat}{V:O}{a:ag}{Y:LH}{k:Li_}(am:iter body f V=some a)(K:O→List Seg)(U:O→Env)(hle:Le Y E)(ap:Ax E H (K V))
  (round:∀x E',Le Y E'→Ax E' H (K x)→(∀al,body x=some (.done al)→al=a)→(∃st,body x=some st)→(∀{L':Env} {Z:LH} (x':O),Le Y Z→Ax Z H (K x')→G8 L' (U x')=Ha (U x')→body x=some (.more x')→JL J Q b n L' ds (.inLoop c::k) cs (An Z H (K x')))→JL J Q b n (U x) ds (.code c:: .inLoop c::k) cs (An E' H (K x)))
  (av:G8 L (U V)=Ha (U V):=by exact rfl) (a0:An E H S=An E H (K V):=by exact rfl):JL J Q b n L ds (.code (.loop c)::k) cs (An E H S):=by
 rw [a0];refine IJ _ av (RM am (fun L s x=>∃E',Jm Y H E' (K x) (U x) L s) ⟨E,rfl,rfl,hle,ap⟩ ?_);rintro _ _ x ⟨E',rfl,rfl,a1,a2⟩ a3 hb a4;exact round x E' a1 a2 a3 hb fun x' a5 g2 a6 a7=>Ay (a4 _ _ x' ⟨_,rfl,rfl,a5,g2⟩ a7) a6
theorem A3{f:FuncId}{fn:Func}{c:Code}{E:LH}{vs:Lv_}{B:Seg}{R:Value→LH→Seg→Prop}(O:P.funcs[f]? =some fn)
  (h:∀(Q:Gs_) (K:Frame) (cs:Lf_) (H:LH),Ax E H [B]→(∀{v:Value} {E':LH} {S':List Seg} {B':Seg},Le E E'→S'.flatten=B'→R v E' B'→Ax E' H S'→J.ok Q (G (K.finish v) cs) (An E' H S'))→JL J Q (base f) fn.ntmps (FR 0 vs) [] [.code c] (K::cs) (An E H [B]))
  (hb:fn.body=some c:=by exact rfl) (U:Nat.ble vs.length fn.ntmps=true:=by exact rfl):AN J f vs E B R:=
 Ka O hb U fun Q K cs H V Y=>h Q K cs H V fun Z ag al am=>Y _ _ _ _ Z ag al am
variable {m:Nat}{fuel:Nat}{listed:Array Bool}{bks xl:List Nat}
theorem Fj{bk:Nat}{c:AD}{f:Nat×Nat}(i:Nat)(K:DR ops m=true)(o:Nat)(j:Nat)(O:Ax E H S)(U:Dk P t=some false)
  (V:AY J Q b n ds ops k cs m (A7 bks) fuel (Bi listed i) (AI L d w) (An E H S)) (Y:Gc n L ops i=some ⟨d,.load t x,ty,p,af,g⟩:=by exact rfl) (Z:ev L x=some (.pointer (some ⟨bk,o,none⟩)):=by exact rfl)
  (ag:S[j]? =some [(bk,.cells c e f)]:=by exact rfl) (hw:c[o]? =some w:=by exact rfl) (al:A7 bks bk=true:=by simp [A7]) (am:FD ops listed m i=true:=by decide+kernel):AY J Q b n ds ops k cs m (A7 bks) (fuel+1) listed L (An E H S):=
 BA i K rfl Y (fun ρ h s' hs=>Yl.load U (h _ _ Z) (Iv (o:=o) j O ag al hs hw)) V am
theorem JG.lp{bk o:Nat}{ws:Lv_}(i:Nat)(K:DR ops m=true)(j:Nat)(O:At E bk o ws)(U:Ax E H S)(V:Gt S bks)(Y:Dk P t=some false)
  (Z:AY J Q b n ds ops k cs m (A7 bks) fuel (Bi listed i) (AI L d w) (An E H S)) (ag:Gc n L ops i=some ⟨d,.load t x,ty,p,af,g⟩:=by exact rfl) (al:ev L x=some (.pointer (some ⟨bk,o+j,none⟩)):=by exact rfl)
  (hw:ws[j]? =some w:=by exact rfl) (am:FD ops listed m i=true:=by decide+kernel):AY J Q b n ds ops k cs m (A7 bks) (fuel+1) listed L (An E H S):=
 BA i K rfl ag (fun ρ h s' hs=>Yl.load Y (h _ _ al) (At.PQ (j:=j) O (PM U hs V) hw)) Z am
theorem D6{bk o K:Nat}{c:AD}{f:Nat×Nat}(i:Nat)(O:DR ops m=true)(vs:Lv_)(j:Nat)(U:Ax E H S)(hw:∀(q:Nat) w,vs[q]? =some w→c[o+q]? =some w)(V:Dk P t=some true)(Y:BD P t=some K)
  (Z:AY J Q b n ds ops k cs m (A7 bks) fuel (Bi listed i) (AI L d (.agg vs.toArray)) (An E H S)) (ag:Gc n L ops i=some ⟨d,.load t x,ty,p,af,g⟩:=by exact rfl) (al:ev L x=some (.pointer (some ⟨bk,o,none⟩)):=by exact rfl)
  (am:S[j]? =some [(bk,.cells c e f)]:=by exact rfl) (ap:K=vs.length:=by exact rfl) (av:A7 bks bk=true:=by simp [A7]) (a0:FD ops listed m i=true:=by decide+kernel):AY J Q b n ds ops k cs m (A7 bks) (fuel+1) listed L (An E H S):=
 BA i O rfl ag (fun ρ h s' hs=>F5 (vs:=vs) V (by rw [← ap];exact Y) (h _ _ al) (fun q w a1=>by rw [Dp rfl];exact Iv j U am av hs (hw q w a1))) Z a0
theorem Ga{D:Nat→Bool}{α:Type}{xs:List α}{xv:α}{K:Int}{bk c O U:Nat}{kd:IntKind}(i:Nat)(V:DR ops m=true)(Y:xs.length=U)(hm:ix xs K=some xv)(ht:P.underlying t=some (.slice e))(Z:BD P e=some O)
  (ag:AY J Q b n ds ops k cs m D fuel (Bi listed i) (AI L d (.pointer (some ⟨bk,K.toNat*O,none⟩))) s) (al:s.q=false:=by exact rfl) (am:Gc n L ops i=some ⟨d,.indexAddr t x y,ty,p,af,g⟩:=by exact rfl)
  (ap:ev L x=some (.slice (some ⟨bk,0,none⟩) U c):=by exact rfl) (av:ev L y=some (.int kd K):=by exact rfl) (a0:FD ops listed m i=true:=by decide+kernel):AY J Q b n ds ops k cs m D (fuel+1) listed L s:=
 BA i V al am (fun ρ h s' hs=>GD Y hm ht Z (h _ _ ap) (h _ _ av)) ag a0
theorem CC{D:Nat→Bool}{α:Type}{xs:List α}{xv:α}{K:Int}{bk c O U:Nat}{kd:IntKind}(i:Nat)(V:xs.length=U)(hm:ix xs K=some xv)(ht:P.underlying t=some (.slice e))(Y:BD P e=some O)
  (Z:FI J Q b n ds ops k cs (A7 xl) D fuel (Bi listed i) (AI L d (.pointer (some ⟨bk,K.toNat*O,none⟩))) s) (ag:s.q=false:=by exact rfl) (al:Gc n L ops i=some ⟨d,.indexAddr t x y,ty,p,af,g⟩:=by exact rfl)
  (am:ev L x=some (.slice (some ⟨bk,0,none⟩) U c):=by exact rfl) (ap:ev L y=some (.int kd K):=by exact rfl) (av:Kn ops listed xl true i=true:=by decide+kernel):FI J Q b n ds ops k cs (A7 xl) D (fuel+1) listed L s:=
 GM i true ag al (fun ρ h s' hs=>GD V hm ht Y (h _ _ am) (h _ _ ap)) Z av
theorem Ei{bk o K:Nat}{c:AD}{f:Nat×Nat}(i:Nat)(vs:Lv_)(j:Nat)(O:Ax E H S)(hw:∀(q:Nat) w,vs[q]? =some w→c[o+q]? =some w)(U:Dk P t=some true)(V:BD P t=some K)
  (Y:FI J Q b n ds ops k cs (A7 xl) (A7 bks) fuel (Bi listed i) (AI L d (.agg vs.toArray)) (An E H S)) (Z:Gc n L ops i=some ⟨d,.load t x,ty,p,af,g⟩:=by exact rfl) (ag:ev L x=some (.pointer (some ⟨bk,o,none⟩)):=by exact rfl)
  (al:S[j]? =some [(bk,.cells c e f)]:=by exact rfl) (am:K=vs.length:=by exact rfl) (ap:A7 bks bk=true:=by simp [A7]) (av:Kn ops listed xl false i=true:=by decide+kernel):FI J Q b n ds ops k cs (A7 xl) (A7 bks) (fuel+1) listed L (An E H S):=
 GM i false rfl Z (fun ρ h s' hs=>F5 (vs:=vs) U (by rw [← am];exact V) (h _ _ ag) (fun q w a0=>by rw [Dp rfl];exact Iv j O al ap (hs rfl) (hw q w a0))) Y av
theorem Ej{bk off K:Nat}{c:AD}{D:Nat→Bool}(i j:Nat)(O:Ax E H S)(U:BD P t=some K)(hle:off+K≤c.size)
  (h:Ax E H (S.set j [(bk,.cells (A2 c off v.cells.toList) e (0,0))])→FI J Q b n ds ops k cs (A7 xl) D fuel (Bi listed i) (AI L d undef) (An E H (S.set j [(bk,.cells (A2 c off v.cells.toList) e (0,0))])))
  (V:Gc n L ops i=some ⟨d,.store t x y,ty,p,af,g⟩:=by exact rfl) (Y:ev L x=some (.pointer (some ⟨bk,off,none⟩)):=by exact rfl) (Z:ev L y=some v:=by exact rfl) (ag:S[j]? =some [(bk,.cells c e (0,0))]:=by exact rfl)
  (al:K=v.cells.size:=by exact rfl) (am:v.cells.toList.all CY=true:=by first | exact rfl | simp [Value.cells,CY]) (ap:Region.ready .any ops listed= [i]:=by decide+kernel) (av:A7 xl i=true:=by decide+kernel):
  FI J Q b n ds ops k cs (A7 xl) D (fuel+1) listed L (An E H S):=by
 obtain⟨a0,a1,a2⟩:=OX V;subst al;exact JB.store i j ap av a0 a1 a2 O Y Z U (List.all_eq_true.1 am) ag hle h
end
end Pal
namespace Pal
open Go Go.Conc Go.Proofs
end Pal
namespace Pal
open Go Go.Conc Go.Proofs
end Pal
namespace Pal
open Go Go.Conc Go.Proofs
open Go.Proofs.Tryz
variable {J:Judge Tryz.prog}{E:LH}
def AX:=Bv Tryz.type3
def By:=DI Tryz.underlying3
def BF:=Bv Tryz.type27
def Gh:=DI Tryz.underlying27
def BZ:=Bv Tryz.type28
def CZ:=DI Tryz.underlying28
def Mj:=AV Tryz.func32 rfl
def BR:=Bv Tryz.type22
def Cv:=DI Tryz.underlying22
def Ip:=Bv Tryz.type90
def Mc:=DI Tryz.underlying90
def HK:=AV Tryz.func41 rfl
def CU:=DG Tryz.type3
def C7:=DG Tryz.type27
def Fx:=DG Tryz.type28
def GZ:=DG Tryz.type24
def BJ:=Bv Tryz.type24
def Cd:=DI Tryz.underlying24
def Mg:=AV Tryz.func104 rfl
def Iq:=Bv Tryz.type4
def Ow:=AV Tryz.func103 rfl
def Mh:=AV Tryz.func90 rfl
def IU:=AV Tryz.func101 rfl
def FP:=DG Tryz.type183
def Mb:=DI Tryz.underlying210
def KB:=Bv Tryz.type210
def IV:=AV Tryz.func89 rfl
def Jw:=AV Tryz.func120 rfl
def En:=Bv Tryz.type102
def GW:=DI Tryz.underlying102
def Cx:=Bv Tryz.type104
def F1:=DI Tryz.underlying104
def GY:=DG Tryz.type104
def Gj:=Bv Tryz.type139
def Io:=Bv Tryz.type138
def Ma:=DI Tryz.underlying139
def HM:=Bv Tryz.type25
def Ij:=DI Tryz.underlying25
def OC:=Bv Tryz.type94
def Md:=DI Tryz.underlying94
def DF:=Bv Tryz.type95
def EV:=DI Tryz.underlying95
def FO:=DI Tryz.underlying173
def Dy:=Bv Tryz.type97
def Il:=DG Tryz.type133
def AS:=Bv Tryz.type133
def L9:=DI Tryz.underlying162
def Cu:=DI Tryz.underlying133
def GX:=AV Tryz.func134 rfl
def Ov:=AV Tryz.func200 rfl
def Ox:=AV Tryz.func178 rfl
def Mf:=AV Tryz.func162 rfl
def Gi:=DG Tryz.type97
def Ik:=DI Tryz.underlying97
def Me:=AV Tryz.func168 rfl
def OA:=AV Tryz.func96 rfl
def Kz:=AV Tryz.func97 rfl
def Mi:=AV Tryz.func99 rfl
def Oy:=AV Tryz.func112 rfl
def Mm:=AV Tryz.func92 rfl
def Kx:=AV Tryz.func69 rfl
def Ml:=AV Tryz.func93 rfl
def Mn:=AV Tryz.func78 rfl
def Im:=AV Tryz.func71 rfl
def OB:=AV Tryz.func72 rfl
def Oz:=AV Tryz.func79 rfl
def Ky:=AV Tryz.func27 rfl
theorem mixed:Tryz.prog.follows .mixedOrders=true:=rfl
theorem aU:TY Tryz.prog 27:=⟨_,_,underlying27,by decide+kernel,by decide+kernel,by decide,by decide,underlying3,underlying3,rfl,rfl⟩
def f101(fuel:Nat)(p0:Int)(p1:Int)(p2:Int):Option Bool:= Option.bind (if p0<p1 then(some true) else(some (decide (p2<p0)))) fun K=> some K
theorem Jc{p0:Int}{p1:Int}{p2:Int}{fuel:Nat}{r:Bool}(K:f101 fuel p0 p1 p2=some r):AN J 101 [iV p0,iV p1,iV p2] E [] (fun w E' B'=>w= .bool r∧B'= []):=by
 refine A3 func101 fun Q a1 cs H O V=>?_;unfold f101 at K;obtain⟨Y,Z,ag⟩:=bs K;refine zg 10 rfl (Dv 8 1 [] [(14,.bool Y)] (fun a2 al am=>?_) (fun U=>?_))
 ·refine zg 2 rfl ?_;obtain rfl:=oi ag;exact AB func101 rfl rfl (V al rfl ⟨rfl,rfl⟩ am)
 ·refine Es 10 Z (fun ap av=>?_) (fun ap a0=>?_)
  ·refine zg 4 rfl ?_;obtain rfl:=oi av;exact U Ar O rfl
  ·refine zg 4 rfl ?_;obtain rfl:=oi a0;exact U Ar O rfl
def f104(fuel:Nat)(p0:Int)(p1:Int)(p2:Int):Option Bool:= Option.bind (if p1≤p0 then(some (decide (p0≤p2))) else(some false)) fun K=> some K
theorem NG{p0:Int}{p1:Int}{p2:Int}{fuel:Nat}{r:Bool}(K:f104 fuel p0 p1 p2=some r):AN J 104 [iV p0,iV p1,iV p2] E [] (fun w E' B'=>w= .bool r∧B'= []):=by
 refine A3 func104 fun Q a1 cs H O V=>?_;unfold f104 at K;obtain⟨Y,Z,ag⟩:=bs K;refine zg 10 rfl (Dv 8 1 [] [(14,.bool Y)] (fun a2 al am=>?_) (fun U=>?_))
 ·refine zg 2 rfl ?_;obtain rfl:=oi ag;exact AB func104 rfl rfl (V al rfl ⟨rfl,rfl⟩ am)
 ·refine Es 10 Z (fun ap av=>?_) (fun ap a0=>?_)
  ·refine zg 4 rfl ?_;obtain rfl:=oi av;exact U Ar O rfl
  ·refine zg 4 rfl ?_;obtain rfl:=oi a0;exact U Ar O rfl
def NQ(fuel:Nat)(p0:List Int)(p1:List Int)(K:Int):Option (Bd Int ((Bool)⊕(Unit))):= Option.bind (if K<(p0.length:Int) then(some (decide (K<(p1.length:Int)))) else(some false)) fun O=> if O=true then((ix p0 K).bind fun U=> (ix p1 K).bind fun V=> if U≠V then(some (.done (Sum.inl false))) else((As (K+1)).bind fun Y=> some (.more Y))) else(some (.done (Sum.inr ())))
def f32(fuel:Nat)(p0:List Int)(p1:List Int):Option Bool:= Option.bind (iter (NQ fuel p0 p1) fuel 0) fun K=> Sum.elim (fun r=>some r) (fun O=> some (decide ((p0.length:Int)=(p1.length:Int)))) K
theorem Oa{K:Ap}{c2:Nat}{O:Ap}{U:Nat}{p0:List Int}{p1:List Int}(a9:Al rI E K c2 p0)(bb:Al rI E O U p1){fuel:Nat}{r:Bool}(av:f32 fuel p0 p1=some r):AN J 32 [sV K p0 c2,sV O p1 U] E [] (fun w E' B'=>w= .bool r∧B'= []):=by
 refine A3 func32 fun Q cm cs H bd a0=>?_;unfold f32 at av;obtain⟨a1,be,a2⟩:=bs av;refine zg 9 rfl (Bt (fun L s=>∃(a3:Unit) (a4:LH),a1=Sum.inr a3∧Jm E H a4 [] [(0,sV K p0 c2),(1,sV O p1 U)] L s) ?_ ?_)
 ·rintro _ _ ⟨a3,a4,rfl,rfl,rfl,bi,bo⟩;have bv:=elim_inr a2;refine zg 3 rfl (Bh underlying28 rfl rfl rfl ?_);refine zg 1 rfl (Bh underlying28 rfl rfl rfl ?_);refine zg 3 rfl ?_;obtain rfl:=oi bv;exact AB func32 rfl rfl (a0 bi rfl ⟨rfl,rfl⟩ bo)
 ·intro bw;refine JL.block (Cp be (fun Z=> []) (fun Z=> [(0,sV K p0 c2),(1,sV O p1 U),(5,iV Z)]) Ar bd ?_);rintro Z al V a5 a6 ⟨cn,ag⟩ bU;have a7:=ag;unfold NQ at a7;refine zg 5 rfl (Bh underlying28 rfl rfl rfl ?_);obtain⟨bV,bW,bY⟩:=bs a7;refine zg 2 rfl (EY [] (fun L s=>∃(am:LH),Jm al H am [] [(0,sV K p0 c2),(1,sV O p1 U),(5,iV Z),(15,.bool bV)] L s) ?_ ?_)
  ·rintro _ _ ⟨am,rfl,rfl,Y,ap⟩;refine JL.done (BI bY (fun bZ b0=>?_) (fun bZ b1=>?_))
   ·refine zg 4 rfl (C5 8 fun ht=>?_);refine AZ ht rfl [0,1] rfl ?_;obtain⟨co,b2,b3⟩:=bs b0;refine CN 2 (a9.Ai (V.Ac Y)) b2 ht underlying28 AX ?_;rintro cp cq _ rfl b4;refine Cz 3 ht 0 b4 By rfl rfl rfl rfl (AZ ht rfl [4,5] rfl ?_);obtain⟨cr,b5,b6⟩:=bs b3;refine CN 6 (bb.Ai (V.Ac Y)) b5 ht underlying28 AX ?_;rintro ct cu _ rfl b7;refine Cz 7 ht 0 b7 By rfl rfl rfl rfl (Cj [8] ?_);refine zg 2 rfl (AM b6 (fun b8 b9=>?_) (fun b8 ca=>?_))
    ·refine zg 4 rfl ?_;obtain rfl:=oi b9;obtain rfl:=a6 _ ag;have cb:=elim_inl a2;obtain rfl:=oi cb;exact AB func32 rfl rfl (a0 (V.Ac Y) rfl ⟨rfl,rfl⟩ ap)
    ·obtain⟨cc,cd,ce⟩:=bs ca;refine zg 4 rfl (Ba cd rfl rfl rfl ?_);refine zg 2 rfl ?_;obtain rfl:=oi ce;exact bU cc (V.Ac Y) ap rfl ag
   ·refine JL.exit rfl ?_;obtain rfl:=oi b1;have cf:a1=(Sum.inr ()):=(a6 _ ag).symm;exact Ay (bw _ _ ⟨(),am,cf,rfl,rfl,(V.Ac Y),ap⟩) rfl
  ·intro a8;refine Es 10 bW (fun cg ci=>?_) (fun cg ck=>?_)
   ·refine zg 2 rfl (Bh underlying28 rfl rfl rfl ?_);refine zg 2 rfl ?_;obtain rfl:=oi ci;exact Ay (a8 _ _ ⟨al,rfl,rfl,Ar,a5⟩) rfl
   ·refine zg 5 rfl ?_;obtain rfl:=oi ck;exact Ay (a8 _ _ ⟨al,rfl,rfl,Ar,a5⟩) rfl
def NI(fuel:Nat)(p0:AJ)(p1:AJ)(K:Int):Option (Bd Int ((Bool)⊕(Unit))):= Option.bind (if K<(p0.length:Int) then(some (decide (K<(p1.length:Int)))) else(some false)) fun V=> if V=true then((ix p0 K).bind fun O=> (ix p1 K).bind fun U=> if ¬(O.1=U.1∧O.2=U.2) then(some (.done (Sum.inl false))) else((As (K+1)).bind fun Y=> some (.more Y))) else(some (.done (Sum.inr ())))
def f34(fuel:Nat)(p0:AJ)(p1:AJ):Option Bool:= Option.bind (iter (NI fuel p0 p1) fuel 0) fun K=> Sum.elim (fun r=>some r) (fun O=> some (decide ((p0.length:Int)=(p1.length:Int)))) K
theorem bp{K:Ap}{c2:Nat}{O:Ap}{U:Nat}{p0:AJ}{p1:AJ}(bd:Al Bg E K c2 p0)(be:Al Bg E O U p1){fuel:Nat}{r:Bool}(av:f34 fuel p0 p1=some r):AN J 34 [sV K p0 c2,sV O p1 U] E [] (fun w E' B'=>w= .bool r∧B'= []):=by
 refine A3 func34 fun Q co cs H bi a0=>?_;unfold f34 at av;obtain⟨a1,bo,a2⟩:=bs av;refine zg 9 rfl (Bt (fun L s=>∃(a3:Unit) (a4:LH),a1=Sum.inr a3∧Jm E H a4 [] [(0,sV K p0 c2),(1,sV O p1 U)] L s) ?_ ?_)
 ·rintro _ _ ⟨a3,a4,rfl,rfl,rfl,bv,bw⟩;have bU:=elim_inr a2;refine zg 3 rfl (Bh underlying25 rfl rfl rfl ?_);refine zg 1 rfl (Bh underlying25 rfl rfl rfl ?_);refine zg 3 rfl ?_;obtain rfl:=oi bU;exact AB func34 rfl rfl (a0 bv rfl ⟨rfl,rfl⟩ bw)
 ·intro bV;refine JL.block (Cp bo (fun Z=> []) (fun Z=> [(0,sV K p0 c2),(1,sV O p1 U),(5,iV Z)]) Ar bi ?_);rintro Z al V a5 a6 ⟨cp,ag⟩ bW;have a7:=ag;unfold NI at a7;refine zg 5 rfl (Bh underlying25 rfl rfl rfl ?_);obtain⟨bY,bZ,b0⟩:=bs a7;refine zg 2 rfl (EY [] (fun L s=>∃(am:LH),Jm al H am [] [(0,sV K p0 c2),(1,sV O p1 U),(5,iV Z),(15,.bool bY)] L s) ?_ ?_)
  ·rintro _ _ ⟨am,rfl,rfl,Y,ap⟩;refine JL.done (BI b0 (fun b1 b2=>?_) (fun b1 b3=>?_))
   ·refine zg 4 rfl (C5 8 fun ht=>?_);refine AZ ht rfl [0,1] rfl ?_;obtain⟨a8,b4,b5⟩:=bs b2;refine CN 2 (bd.Ai (V.Ac Y)) b4 ht underlying25 BF ?_;rintro cq cr _ ⟨_,_,rfl,rfl,rfl⟩ b6;refine Fi 3 ht b6 Gh BF rfl rfl rfl (AZ ht rfl [4,5] rfl ?_);obtain⟨a9,b7,b8⟩:=bs b5;refine CN 6 (be.Ai (V.Ac Y)) b7 ht underlying25 BF ?_;rintro ct cu _ ⟨_,_,rfl,rfl,rfl⟩ b9;refine Fi 7 ht b9 Gh BF rfl rfl rfl (Cj [8] ?_);refine AF (v:= .bool (decide (¬(a8.1=a9.1∧a8.2=a9.2)))) rfl (fun ρ h=>V3 aU (h _ _ rfl) (h _ _ rfl)) (JL.done ?_);refine AM b8 (fun ca cb=>?_) (fun ca cc=>?_)
    ·refine zg 4 rfl ?_;obtain rfl:=oi cb;obtain rfl:=a6 _ ag;have cd:=elim_inl a2;obtain rfl:=oi cd;exact AB func34 rfl rfl (a0 (V.Ac Y) rfl ⟨rfl,rfl⟩ ap)
    ·obtain⟨ce,cf,cg⟩:=bs cc;refine zg 4 rfl (Ba cf rfl rfl rfl ?_);refine zg 2 rfl ?_;obtain rfl:=oi cg;exact bW ce (V.Ac Y) ap rfl ag
   ·refine JL.exit rfl ?_;obtain rfl:=oi b3;have ci:a1=(Sum.inr ()):=(a6 _ ag).symm;exact Ay (bV _ _ ⟨(),am,ci,rfl,rfl,(V.Ac Y),ap⟩) rfl
  ·intro bb;refine Es 10 bZ (fun ck cm=>?_) (fun ck cn=>?_)
   ·refine zg 2 rfl (Bh underlying25 rfl rfl rfl ?_);refine zg 2 rfl ?_;obtain rfl:=oi cm;exact Ay (bb _ _ ⟨al,rfl,rfl,Ar,a5⟩) rfl
   ·refine zg 5 rfl ?_;obtain rfl:=oi cn;exact Ay (bb _ _ ⟨al,rfl,rfl,Ar,a5⟩) rfl
def Nc(fuel:Nat)(p0:List (List Int))(p1:List (List Int))(K:Int):Option (Bd Int ((Bool)⊕(Unit))):= Option.bind (if K<(p0.length:Int) then(some (decide (K<(p1.length:Int)))) else(some false)) fun O=> if O=true then((ix p0 K).bind fun U=> (ix p1 K).bind fun V=> (f32 fuel U V).bind fun Y=> if(!Y)=true then(some (.done (Sum.inl false))) else((As (K+1)).bind fun Z=> some (.more Z))) else(some (.done (Sum.inr ())))
def f84(fuel:Nat)(p0:List (List Int))(p1:List (List Int)):Option Bool:= Option.bind (iter (Nc fuel p0 p1) fuel 0) fun K=> Sum.elim (fun r=>some r) (fun O=> some (decide ((p0.length:Int)=(p1.length:Int)))) K
theorem TM{K:Ap}{c2:Nat}{O:Ap}{U:Nat}{p0:List (List Int)}{p1:List (List Int)}(bd:Al (rL rI) E K c2 p0)(be:Al (rL rI) E O U p1){fuel:Nat}{r:Bool}(ap:f84 fuel p0 p1=some r):AN J 84 [sV K p0 c2,sV O p1 U] E [] (fun w E' B'=>w= .bool r∧B'= []):=by
 refine A3 func84 fun Q cu cs H bi av=>?_;unfold f84 at ap;obtain⟨a0,bo,a1⟩:=bs ap;refine zg 9 rfl (Bt (fun L s=>∃(a2:Unit) (a3:LH),a0=Sum.inr a2∧Jm E H a3 [] [(0,sV K p0 c2),(1,sV O p1 U)] L s) ?_ ?_)
 ·rintro _ _ ⟨a2,a3,rfl,rfl,rfl,bv,bw⟩;have bU:=elim_inr a1;refine zg 3 rfl (Bh underlying22 rfl rfl rfl ?_);refine zg 1 rfl (Bh underlying22 rfl rfl rfl ?_);refine zg 3 rfl ?_;obtain rfl:=oi bU;exact AB func84 rfl rfl (av bv rfl ⟨rfl,rfl⟩ bw)
 ·intro bV;refine JL.block (Cp bo (fun Z=> []) (fun Z=> [(0,sV K p0 c2),(1,sV O p1 U),(5,iV Z)]) Ar bi ?_);rintro Z al V a4 a5 ⟨cv,ag⟩ bW;have a6:=ag;unfold Nc at a6;refine zg 5 rfl (Bh underlying22 rfl rfl rfl ?_);obtain⟨bY,bZ,b0⟩:=bs a6;refine zg 2 rfl (EY [] (fun L s=>∃(am:LH),Jm al H am [] [(0,sV K p0 c2),(1,sV O p1 U),(5,iV Z),(15,.bool bY)] L s) ?_ ?_)
  ·rintro _ _ ⟨am,rfl,rfl,Y,a7⟩;refine JL.done (BI b0 (fun b1 b2=>?_) (fun b1 b3=>?_))
   ·refine zg 4 rfl (C5 8 fun ht=>?_);refine AZ ht rfl [0,1] rfl ?_;obtain⟨cw,b4,b5⟩:=bs b2;refine CN 2 (bd.Ai (V.Ac Y)) b4 ht underlying22 BZ ?_;rintro cy cz _ ⟨cA,cB,rfl,b6⟩ b7;refine Cz 3 ht 0 b7 CZ rfl rfl rfl rfl (AZ ht rfl [4,5] rfl ?_);obtain⟨cC,b8,b9⟩:=bs b5;refine CN 6 (be.Ai (V.Ac Y)) b8 ht underlying22 BZ ?_;rintro cD cE _ ⟨cF,cG,rfl,ca⟩ cb;refine Cz 7 ht 0 cb CZ rfl rfl rfl rfl (Cj [8,9] ?_);obtain⟨cc,cd,ce⟩:=bs b9;refine BH (Oa b6 ca cd) rfl rfl Mj a7 fun cH a8 a9=>AF (v:= .bool (!cc)) rfl (fun ρ h=>Yl.not (h _ _ rfl)) (JL.done ?_);refine BI ce (fun cf cg=>?_) (fun cf ci=>?_)
    ·refine zg 4 rfl ?_;obtain rfl:=oi cg;obtain rfl:=a5 _ ag;have ck:=elim_inl a1;obtain rfl:=oi ck;exact AB func84 rfl rfl (av ((V.Ac Y).Ac a8) rfl ⟨rfl,rfl⟩ a9)
    ·obtain⟨cm,cn,co⟩:=bs ci;refine zg 4 rfl (Ba cn rfl rfl rfl ?_);refine zg 2 rfl ?_;obtain rfl:=oi co;exact bW cm ((V.Ac Y).Ac a8) a9 rfl ag
   ·refine JL.exit rfl ?_;obtain rfl:=oi b3;have cp:a0=(Sum.inr ()):=(a5 _ ag).symm;exact Ay (bV _ _ ⟨(),am,cp,rfl,rfl,(V.Ac Y),a7⟩) rfl
  ·intro bb;refine Es 10 bZ (fun cq cr=>?_) (fun cq ct=>?_)
   ·refine zg 2 rfl (Bh underlying22 rfl rfl rfl ?_);refine zg 2 rfl ?_;obtain rfl:=oi cr;exact Ay (bb _ _ ⟨al,rfl,rfl,Ar,a4⟩) rfl
   ·refine zg 5 rfl ?_;obtain rfl:=oi ct;exact Ay (bb _ _ ⟨al,rfl,rfl,Ar,a4⟩) rfl
def f33(fuel:Nat)(p0:A9)(p1:A9):Option Bool:= (f84 fuel p0.1 p1.1).bind fun K=> Option.bind (if K=true then((f84 fuel p0.2 p1.2).bind fun O=> some O) else(some false)) fun U=> some U
theorem ba{V:Ap}{c2:Nat}{Y:Ap}{Z:Nat}{ag:Ap}{al:Nat}{am:Ap}{ap:Nat}{p0:A9}{p1:A9}(a4:Al (rL rI) E V c2 p0.1)(a5:Al (rL rI) E Y Z p0.2)(a6:Al (rL rI) E ag al p1.1)(a7:Al (rL rI) E am ap p1.2){fuel:Nat}{r:Bool}(av:f33 fuel p0 p1=some r):AN J 33 [.agg #[sV V p0.1 c2,sV Y p0.2 Z],.agg #[sV ag p1.1 al,sV am p1.2 ap]] E [] (fun w E' B'=>w= .bool r∧B'= []):=by
 refine A3 func33 fun Q b4 cs H a8 a9=>?_;unfold f33 at av;refine zg 2 rfl (Ca a8 fun b5 b6 O a0 bb=>?_);refine Ca bb fun b7 b8 K a1 bd=>?_;refine zg 4 rfl (JL.fl 0 (a0.Ai K) underlying24 BR Cv ?_);refine JL.fl 0 a1 underlying24 BR Cv ?_;obtain⟨b9,be,bi⟩:=bs av;refine BH (TM (a4.Ai (O.Ac K)) (a6.Ai (O.Ac K)) be) rfl rfl (AV func84 rfl) bd fun ca U a2=>?_;obtain⟨bo,bv,bw⟩:=bs bi;refine zg 1 rfl (Dv 12 1 [] [(16,.bool bo)] (fun cb bU bV=>?_) (fun a3=>?_))
 ·refine zg 2 rfl ?_;obtain rfl:=oi bw;exact AB func33 rfl rfl (a9 (((O.Ac K).Ac U).Ac bU) rfl ⟨rfl,rfl⟩ bV)
 ·refine DU 10 bv (fun bW bY=>?_) (fun bW bZ=>?_)
  ·refine JL.fl 1 (a0.Ai (K.Ac U)) underlying24 BR Cv ?_;refine JL.fl 1 (a1.Ai U) underlying24 BR Cv ?_;obtain⟨cc,b0,b1⟩:=bs bY;refine BH (TM (a5.Ai ((O.Ac K).Ac U)) (a7.Ai ((O.Ac K).Ac U)) b0) rfl rfl (AV func84 rfl) a2 fun cd b2 b3=>zg 1 rfl ?_;obtain rfl:=oi b1;exact a3 b2 b3 rfl
  ·refine zg 6 rfl ?_;obtain rfl:=oi bZ;exact a3 Ar a2 rfl
def f23(fuel:Nat)(p0:List Int):Option ((B7)):= some (p0,0,2685821657736338717)
theorem bf{K:Ap}{c2:Nat}{p0:List Int}(Z:Al rI E K c2 p0){fuel:Nat}{r:(B7)}(O:f23 fuel p0=some r):AN J 23 [sV K p0 c2] E [] (fun w E' B'=>∃(U:Nat) (V:Ap) (Y:Nat),w= pV U 0∧B'= [(U,.cells #[sV V r.1 Y,iV r.2.1,.int .u64 ((r.2.2:Nat):Int)] 92 (0,0))]∧Al rI E' V Y r.1):=by
 refine A3 func23 fun Q av cs H ag al=>?_;unfold f23 at O;refine zg 7 rfl (AF (v:= .agg #[sV K p0 c2,iV 0,.int .u64 ((2685821657736338717:Nat):Int)]) rfl (fun ρ h=>Di [(0,1),(1,1),(2,1)] h (DG type92) underlying92 ⟨rfl,Bv type28,rfl,Bv type3,rfl,Bv type90,trivial⟩ rfl rfl) ?_);refine JS.box (v:= .agg #[sV K p0 c2,iV 0,.int .u64 ((2685821657736338717:Nat):Int)]) rfl rfl rfl ag rfl fun am ap=>zg 2 rfl ?_;obtain rfl:=oi O;exact AB func23 rfl rfl (al Ar rfl ⟨am,K,c2,rfl,(by first | rfl | simp | (simp [Value.cells])),Z⟩ ap)
def f100(fuel:Nat)(p0:B7):Option (Nat×(B7)):= (As (p0.2.1+1)).bind fun O=> Option.bind (if O≤(p0.1.length:Int) then((As (O - 1)).bind fun U=> (ix p0.1 U).bind fun V=> some (((((Dl O)*11400714819323198485) % 2 ^ 64) ^^^ (((Dl V)*14029467366897019727) % 2 ^ 64)) % 2 ^ 64)) else(some (((Dl O)*11400714819323198485) % 2 ^ 64))) fun K=> some (((((((((((p0.2.2 ^^^ K) % 2 ^ 64)*18397679294719823053) % 2 ^ 64) ^^^ (((((p0.2.2 ^^^ K) % 2 ^ 64)*18397679294719823053) % 2 ^ 64)>>>33)) % 2 ^ 64)*14181476777654086739) % 2 ^ 64) ^^^ (((((((((p0.2.2 ^^^ K) % 2 ^ 64)*18397679294719823053) % 2 ^ 64) ^^^ (((((p0.2.2 ^^^ K) % 2 ^ 64)*18397679294719823053) % 2 ^ 64)>>>33)) % 2 ^ 64)*14181476777654086739) % 2 ^ 64)>>>29)) % 2 ^ 64)>>>11,(p0.1,O,(((((p0.2.2 ^^^ K) % 2 ^ 64)*18397679294719823053) % 2 ^ 64) ^^^ (((((p0.2.2 ^^^ K) % 2 ^ 64)*18397679294719823053) % 2 ^ 64)>>>33)) % 2 ^ 64))
theorem Z1{bk:Nat}{V:Ap}{c2:Nat}{p0:B7}(ag:Al rI E V c2 p0.1){fuel:Nat}{r:Nat×(B7)}(al:f100 fuel p0=some r):AN J 100 [pV bk 0] E [(bk,.cells #[sV V p0.1 c2,iV p0.2.1,.int .u64 ((p0.2.2:Nat):Int)] 92 (0,0))] (fun w E' B'=>∃(am:Ap) (ap:Nat),w= .int .u64 ((r.1:Nat):Int)∧B'= [(bk,.cells #[sV am r.2.1 ap,iV r.2.2.1,.int .u64 ((r.2.2.2:Nat):Int)] 92 (0,0))]∧Al rI E' am ap r.2.1):=by
 refine A3 func100 fun Q bU cs H av a4=>?_;unfold f100 at al;refine zg 8 rfl (BL underlying92 AX rfl rfl rfl ?_);refine AF (v:=iV p0.2.1) rfl (fun ρ h=>Yl.load By (h _ _ rfl) (D1 (j:=0) (off:=1) av rfl rfl)) ?_;obtain⟨U,a5,a6⟩:=bs al;refine Ba a5 rfl rfl rfl (zg 1 rfl ?_);refine BL underlying92 AX rfl rfl rfl (BW 0 av AX fun O=>?_);refine zg 5 rfl (BL underlying92 AX rfl rfl rfl ?_);refine AF (v:=iV U) rfl (fun ρ h=>Yl.load By (h _ _ rfl) (D1 (j:=0) (off:=1) O rfl rfl)) (AF (v:= .int .u64 ((Dl U:Nat):Int)) rfl (fun ρ h=>Yl.Dl underlying3 underlying90 (h _ _ rfl)) ?_);refine AF (v:= .int .u64 ((((Dl U)*11400714819323198485) % 2 ^ 64:Nat):Int)) rfl (fun ρ h=>Na (h _ _ rfl) (h _ _ rfl)) (zg 4 rfl ?_);refine Dq 9 [bk] ⟨⟨0,_,rfl⟩,trivial⟩ O fun ht=>AZ ht rfl [0,1] rfl (B9 2 ht underlying92 AX rfl rfl rfl rfl ?_);refine Fj 3 ht 1 0 O By ?_;refine AZ ht rfl [4,5] rfl (B9 6 ht underlying92 BZ rfl rfl rfl rfl ?_);refine Fj 7 ht 0 0 O CZ ?_;refine BA 8 ht rfl rfl (fun ρ h s' hs=>Yl.len rfl underlying28 (h _ _ rfl)) (Cj [9] ?_);obtain⟨K,a7,a8⟩:=bs a6;refine zg 2 rfl (CK [bX bk #[sV V p0.1 c2,iV U,.int .u64 ((p0.2.2:Nat):Int)] 92] [(0,pV bk 0),(3,.int .u64 ((K:Nat):Int))] (fun bV a0 a1=>?_) (fun a2=>?_))
 ·refine zg 5 rfl (BL underlying92 Ip rfl rfl rfl ?_);refine AF (v:= .int .u64 ((p0.2.2:Nat):Int)) rfl (fun ρ h=>Yl.load Mc (h _ _ rfl) (D1 (j:=0) (off:=2) a1 rfl rfl)) (zg 1 rfl ?_);refine AF (v:= .int .u64 (((p0.2.2 ^^^ K) % 2 ^ 64:Nat):Int)) rfl (fun ρ h=>Nb (h _ _ rfl) (h _ _ rfl)) (AF (v:= .int .u64 (((((p0.2.2 ^^^ K) % 2 ^ 64)*18397679294719823053) % 2 ^ 64:Nat):Int)) rfl (fun ρ h=>Na (h _ _ rfl) (h _ _ rfl)) ?_);refine zg 1 rfl (BL underlying92 Ip rfl rfl rfl ?_);refine BW 0 a1 Ip fun Y=>?_;refine zg 2 rfl (Dq 11 [bk] ⟨⟨0,_,rfl⟩,trivial⟩ Y fun ht=>?_);refine AZ ht rfl [0,1,2] rfl (B9 3 ht underlying92 Ip rfl rfl rfl rfl ?_);refine Fj 4 ht 2 0 Y Mc ?_;refine AZ ht rfl [5,6] rfl (B9 7 ht underlying92 Ip rfl rfl rfl rfl ?_);refine Fj 8 ht 2 0 Y Mc ?_;refine BA (v:= .int .u64 ((((((p0.2.2 ^^^ K) % 2 ^ 64)*18397679294719823053) % 2 ^ 64)>>>33:Nat):Int)) 9 ht rfl rfl (fun ρ h s' hs=>J2 33 (h _ _ rfl) (h _ _ rfl) (by decide)) (BA (v:= .int .u64 (((((((p0.2.2 ^^^ K) % 2 ^ 64)*18397679294719823053) % 2 ^ 64) ^^^ (((((p0.2.2 ^^^ K) % 2 ^ 64)*18397679294719823053) % 2 ^ 64)>>>33)) % 2 ^ 64:Nat):Int)) 10 ht rfl rfl (fun ρ h s' hs=>Nb (h _ _ rfl) (h _ _ rfl)) ?_);refine Cj [11,12,13] (zg 1 rfl ?_);refine BL underlying92 Ip rfl rfl rfl (BW 0 Y Ip fun a3=>?_);refine zg 5 rfl (BL underlying92 Ip rfl rfl rfl ?_);refine AF (v:= .int .u64 (((((((p0.2.2 ^^^ K) % 2 ^ 64)*18397679294719823053) % 2 ^ 64) ^^^ (((((p0.2.2 ^^^ K) % 2 ^ 64)*18397679294719823053) % 2 ^ 64)>>>33)) % 2 ^ 64:Nat):Int)) rfl (fun ρ h=>Yl.load Mc (h _ _ rfl) (D1 (j:=0) (off:=2) a3 rfl rfl)) (AF (v:= .int .u64 (((((((((p0.2.2 ^^^ K) % 2 ^ 64)*18397679294719823053) % 2 ^ 64) ^^^ (((((p0.2.2 ^^^ K) % 2 ^ 64)*18397679294719823053) % 2 ^ 64)>>>33)) % 2 ^ 64)*14181476777654086739) % 2 ^ 64:Nat):Int)) rfl (fun ρ h=>Na (h _ _ rfl) (h _ _ rfl)) ?_);refine zg 6 rfl (AF (v:= .int .u64 ((((((((((p0.2.2 ^^^ K) % 2 ^ 64)*18397679294719823053) % 2 ^ 64) ^^^ (((((p0.2.2 ^^^ K) % 2 ^ 64)*18397679294719823053) % 2 ^ 64)>>>33)) % 2 ^ 64)*14181476777654086739) % 2 ^ 64)>>>29:Nat):Int)) rfl (fun ρ h=>J2 29 (h _ _ rfl) (h _ _ rfl) (by decide)) ?_);refine AF (v:= .int .u64 (((((((((((p0.2.2 ^^^ K) % 2 ^ 64)*18397679294719823053) % 2 ^ 64) ^^^ (((((p0.2.2 ^^^ K) % 2 ^ 64)*18397679294719823053) % 2 ^ 64)>>>33)) % 2 ^ 64)*14181476777654086739) % 2 ^ 64) ^^^ (((((((((p0.2.2 ^^^ K) % 2 ^ 64)*18397679294719823053) % 2 ^ 64) ^^^ (((((p0.2.2 ^^^ K) % 2 ^ 64)*18397679294719823053) % 2 ^ 64)>>>33)) % 2 ^ 64)*14181476777654086739) % 2 ^ 64)>>>29)) % 2 ^ 64:Nat):Int)) rfl (fun ρ h=>Nb (h _ _ rfl) (h _ _ rfl)) (AF (v:= .int .u64 ((((((((((((p0.2.2 ^^^ K) % 2 ^ 64)*18397679294719823053) % 2 ^ 64) ^^^ (((((p0.2.2 ^^^ K) % 2 ^ 64)*18397679294719823053) % 2 ^ 64)>>>33)) % 2 ^ 64)*14181476777654086739) % 2 ^ 64) ^^^ (((((((((p0.2.2 ^^^ K) % 2 ^ 64)*18397679294719823053) % 2 ^ 64) ^^^ (((((p0.2.2 ^^^ K) % 2 ^ 64)*18397679294719823053) % 2 ^ 64)>>>33)) % 2 ^ 64)*14181476777654086739) % 2 ^ 64)>>>29)) % 2 ^ 64)>>>11:Nat):Int)) rfl (fun ρ h=>J2 11 (h _ _ rfl) (h _ _ rfl) (by decide)) ?_);refine zg 2 rfl ?_;obtain rfl:=oi a8;exact AB func100 rfl rfl (a4 a0 rfl ⟨V,c2,rfl,rfl,(ag.Ai a0)⟩ a3)
 ·refine AM a7 (fun a9 bb=>?_) (fun a9 bd=>?_)
  ·refine Dq 14 [bk] ⟨⟨0,_,rfl⟩,trivial⟩ O fun ht=>AZ ht rfl [0,1,2] rfl (B9 3 ht underlying92 BZ rfl rfl rfl rfl ?_);refine Fj 4 ht 0 0 O CZ ?_;refine AZ ht rfl [5,6] rfl (B9 7 ht underlying92 AX rfl rfl rfl rfl ?_);refine Fj 8 ht 1 0 O By ?_;obtain⟨bW,be,bi⟩:=bs bb;refine BA 9 ht rfl rfl (fun ρ h s' hs=>Da (h _ _ rfl) (h _ _ rfl) be) ?_;obtain⟨Z,bo,bv⟩:=bs bi;refine CN 10 ag bo ht underlying28 AX ?_;rintro bY bZ _ rfl bw;refine JG.lp 11 ht 0 bw O ⟨⟨0,_,rfl⟩,trivial⟩ By ?_;refine BA (v:= .int .u64 ((Dl Z:Nat):Int)) 12 ht rfl rfl (fun ρ h s' hs=>Yl.Dl underlying3 underlying90 (h _ _ rfl)) (BA (v:= .int .u64 ((((Dl Z)*14029467366897019727) % 2 ^ 64:Nat):Int)) 13 ht rfl rfl (fun ρ h s' hs=>Na (h _ _ rfl) (h _ _ rfl)) ?_);refine Cj [14,15] (AF (v:= .int .u64 ((((((Dl U)*11400714819323198485) % 2 ^ 64) ^^^ (((Dl Z)*14029467366897019727) % 2 ^ 64)) % 2 ^ 64:Nat):Int)) rfl (fun ρ h=>Nb (h _ _ rfl) (h _ _ rfl)) ?_);refine zg 2 rfl ?_;obtain rfl:=oi bv;exact a2 Ar O rfl
  ·refine JL.skip ?_;obtain rfl:=oi bd;exact a2 Ar O rfl
def f41(fuel:Nat)(p0:B7)(p1:Int):Option (Int×(B7)):= (f100 fuel p0).bind fun K=> if p1<1 then(some (0,K.2)) else((N9 K.1 ((Dl p1+1) % 2 ^ 64)).bind fun O=> some (L2 O,K.2))
theorem H2{bk:Nat}{K:Ap}{c2:Nat}{p0:B7}{p1:Int}(a0:Al rI E K c2 p0.1){fuel:Nat}{r:Int×(B7)}(O:f41 fuel p0 p1=some r):AN J 41 [pV bk 0,iV p1] E [(bk,.cells #[sV K p0.1 c2,iV p0.2.1,.int .u64 ((p0.2.2:Nat):Int)] 92 (0,0))] (fun w E' B'=>∃(U:Ap) (V:Nat),w=iV r.1∧B'= [(bk,.cells #[sV U r.2.1 V,iV r.2.2.1,.int .u64 ((r.2.2.2:Nat):Int)] 92 (0,0))]∧Al rI E' U V r.2.1):=by
 refine A3 func41 fun Q a9 cs H a1 Y=>?_;unfold f41 at O;obtain⟨bb,a2,a3⟩:=bs O;refine zg 7 rfl (B8 0 (Z1 a0 a2) rfl rfl (AV func100 rfl) a1 rfl ?_);rintro _ bd _ Z ⟨ag,al,rfl,rfl,am⟩ ap;refine zg 8 rfl (AM a3 (fun a4 a5=>?_) (fun a4 a6=>?_))
 ·refine zg 4 rfl ?_;obtain rfl:=oi a5;exact AB func41 rfl rfl (Y Z rfl ⟨ag,al,rfl,rfl,am⟩ ap)
 ·refine zg 5 rfl (AF (v:= .int .u64 ((Dl p1:Nat):Int)) rfl (fun ρ h=>Yl.Dl underlying3 underlying90 (h _ _ rfl)) ?_);refine AF (v:= .int .u64 (((Dl p1+1) % 2 ^ 64:Nat):Int)) rfl (fun ρ h=>Yp (h _ _ rfl) (h _ _ rfl)) ?_;obtain⟨av,a7,a8⟩:=bs a6;refine AF (v:= .int .u64 ((av:Nat):Int)) rfl (fun ρ h=>WO (h _ _ rfl) (h _ _ rfl) a7) (AF (v:=iV (L2 av)) rfl (fun ρ h=>YU underlying90 underlying3 (h _ _ rfl)) ?_);refine zg 2 rfl ?_;obtain rfl:=oi a8;exact AB func41 rfl rfl (Y Z rfl ⟨ag,al,rfl,rfl,am⟩ ap)
def f96(fuel:Nat)(p0:B7)(p1:Int)(p2:Int):Option (Int×(B7)):= (As (p2 - p1)).bind fun O=> (f41 fuel p0 O).bind fun K=> (As (p1+K.1)).bind fun U=> some (U,K.2)
theorem PV{bk:Nat}{K:Ap}{c2:Nat}{p0:B7}{p1:Int}{p2:Int}(Y:Al rI E K c2 p0.1){fuel:Nat}{r:Int×(B7)}(O:f96 fuel p0 p1 p2=some r):AN J 96 [pV bk 0,iV p1,iV p2] E [(bk,.cells #[sV K p0.1 c2,iV p0.2.1,.int .u64 ((p0.2.2:Nat):Int)] 92 (0,0))] (fun w E' B'=>∃(U:Ap) (V:Nat),w=iV r.1∧B'= [(bk,.cells #[sV U r.2.1 V,iV r.2.2.1,.int .u64 ((r.2.2.2:Nat):Int)] 92 (0,0))]∧Al rI E' U V r.2.1):=by
 refine A3 func96 fun Q a7 cs H Z ag=>?_;unfold f96 at O;obtain⟨a8,al,am⟩:=bs O;refine zg 10 rfl (Cl al rfl rfl rfl ?_);obtain⟨a9,ap,av⟩:=bs am;refine B8 0 (H2 Y ap) rfl rfl HK Z rfl ?_;rintro _ bb _ a0 ⟨a1,a2,rfl,rfl,a3⟩ a4;obtain⟨bd,a5,a6⟩:=bs av;refine Ba a5 rfl rfl rfl (zg 2 rfl ?_);obtain rfl:=oi a6;exact AB func96 rfl rfl (ag a0 rfl ⟨a1,a2,rfl,rfl,a3⟩ a4)
def f97(fuel:Nat)(p0:B7)(p1:Int):Option (Bool×(B7)):= (As (p1 - 1)).bind fun O=> (f41 fuel p0 O).bind fun K=> some (decide (K.1=0),K.2)
theorem LI{bk:Nat}{K:Ap}{c2:Nat}{p0:B7}{p1:Int}(Y:Al rI E K c2 p0.1){fuel:Nat}{r:Bool×(B7)}(O:f97 fuel p0 p1=some r):AN J 97 [pV bk 0,iV p1] E [(bk,.cells #[sV K p0.1 c2,iV p0.2.1,.int .u64 ((p0.2.2:Nat):Int)] 92 (0,0))] (fun w E' B'=>∃(U:Ap) (V:Nat),w= .bool r.1∧B'= [(bk,.cells #[sV U r.2.1 V,iV r.2.2.1,.int .u64 ((r.2.2.2:Nat):Int)] 92 (0,0))]∧Al rI E' U V r.2.1):=by
 refine A3 func97 fun Q a5 cs H Z ag=>?_;unfold f97 at O;obtain⟨a6,al,am⟩:=bs O;refine zg 8 rfl (Cl al rfl rfl rfl ?_);obtain⟨a7,ap,av⟩:=bs am;refine B8 0 (H2 Y ap) rfl rfl HK Z rfl ?_;rintro _ a8 _ a0 ⟨a1,a2,rfl,rfl,a3⟩ a4;refine zg 3 rfl ?_;obtain rfl:=oi av;exact AB func97 rfl rfl (ag a0 rfl ⟨a1,a2,rfl,rfl,a3⟩ a4)
def f99(fuel:Nat)(p0:B7)(p1:List Int):Option (Int×(B7)):= (As ((p1.length:Int) - 1)).bind fun O=> (f41 fuel p0 O).bind fun K=> (ix p1 K.1).bind fun U=> some (U,K.2)
theorem NY{bk:Nat}{K:Ap}{c2:Nat}{O:Ap}{U:Nat}{p0:B7}{p1:List Int}(al:Al rI E K c2 p0.1)(am:Al rI E O U p1){fuel:Nat}{r:Int×(B7)}(V:f99 fuel p0 p1=some r):AN J 99 [pV bk 0,sV O p1 U] E [(bk,.cells #[sV K p0.1 c2,iV p0.2.1,.int .u64 ((p0.2.2:Nat):Int)] 92 (0,0))] (fun w E' B'=>∃(Y:Ap) (Z:Nat),w=iV r.1∧B'= [(bk,.cells #[sV Y r.2.1 Z,iV r.2.2.1,.int .u64 ((r.2.2.2:Nat):Int)] 92 (0,0))]∧Al rI E' Y Z r.2.1):=by
 refine A3 func99 fun Q bd cs H ap av=>?_;unfold f99 at V;refine zg 9 rfl (Bh underlying28 rfl rfl rfl ?_);obtain⟨be,a0,a1⟩:=bs V;refine Cl a0 rfl rfl rfl ?_;obtain⟨bi,a2,a3⟩:=bs a1;refine B8 0 (H2 al a2) rfl rfl HK ap rfl ?_;rintro _ bo _ ag ⟨a4,a5,rfl,rfl,a6⟩ a7;obtain⟨bv,a8,a9⟩:=bs a3;refine Ce (am.Ai ag) a8 underlying28 AX ?_;rintro bw bU _ rfl bb;refine B4 0 bb By rfl rfl rfl (zg 2 rfl ?_);obtain rfl:=oi a9;exact AB func99 rfl rfl (av ag rfl ⟨a4,a5,rfl,rfl,a6⟩ a7)
def J7(fuel:Nat)(p0:List Int)(p1:Int)(K:(List Int)×Bool×Int):Option (Bd ((List Int)×Bool×Int) ((List Int)×Bool)):= if K.2.2<(p0.length:Int) then((ix p0 K.2.2).bind fun U=> Option.bind (if p1≤U then(some (!K.2.1)) else(some false)) fun V=> Option.bind (if V=true then((room K.1 p1).bind fun Y=> some (Y,true)) else(some (K.1,K.2.1))) fun O=> (ix p0 K.2.2).bind fun Z=> Option.bind (if Z≠p1 then((ix p0 K.2.2).bind fun ag=> (room O.1 ag).bind fun al=> some al) else(some O.1)) fun am=> (As (K.2.2+1)).bind fun ap=> some (.more (am,O.2,ap))) else(some (.done (K.1,K.2.1)))
def f98(fuel:Nat)(p0:List Int)(p1:Int):Option ((List Int)):= Option.bind (iter (J7 fuel p0 p1) fuel ([],false,0)) fun K=> Option.bind (if(!K.2)=true then((room K.1 p1).bind fun O=> some O) else(some K.1)) fun U=> some U
theorem TN{Y:Ap}{c2:Nat}{p0:List Int}{p1:Int}(bo:Al rI E Y c2 p0){fuel:Nat}{r:(List Int)}(b0:f98 fuel p0 p1=some r):AN J 98 [sV Y p0 c2,iV p1] E [] (fun w E' B'=>∃(b1:Ap) (b2:Nat),w= sV b1 r b2∧B'= []∧Al rI E' b1 b2 r):=by
 refine A3 func98 fun Q dC cs H ce cf=>?_;unfold f98 at b0;obtain⟨a5,cg,ci⟩:=bs b0;refine zg 17 rfl (Bt (fun L s=>∃(Z:LH) (am:Ap) (ap:Nat) (a6:Seg),Jn E H Z [a6] [(1,iV p1),(5,sV am a5.1 ap),(6,.bool a5.2)] L s (OL 3 rI Z am ap a6 a5.1)) ?_ ?_)
 ·rintro _ _ ⟨Z,am,ap,a6,rfl,rfl,ck,b3,b4⟩;refine zg 4 rfl (AF (v:= .bool (!a5.2)) rfl (fun ρ h=>Yl.not (h _ _ rfl)) ?_);obtain⟨b5,cm,cn⟩:=bs ci;refine JL.done (Bt (fun L s=>∃(bv:LH) (a7:Ap) (a8:Nat) (bw:Seg),Jn Z H bv [bw] [(5,sV a7 b5 a8)] L s (OL 3 rI bv a7 a8 bw b5)) ?_ ?_)
  ·rintro _ _ ⟨bv,a7,a8,bw,rfl,rfl,co,cp,cq⟩;refine zg 5 rfl (BU 0 cq cp rfl fun dD cr ct cu=>?_);obtain rfl:=oi cn;exact AB func98 rfl rfl (cf ((ck.Ac co).Ac cr) rfl ⟨a7,a8,rfl,rfl,ct⟩ cu)
  ·intro b6;refine BI cm (fun cv cw=>?_) (fun cv cy=>?_)
   ·obtain⟨dE,cz,cA⟩:=bs cw;refine zg 3 rfl (JS.app (pp:=rI) (v:=iV p1) (a:=am) (c:=ap) 0 cz rfl rfl rfl rfl (fun _=>rfl) rfl (fun _=>rfl) rfl rfl rfl underlying28 underlying28 underlying28 AX (Cy type3) CU rfl (by decide) (by decide) (by decide) (by decide) b4 rfl b3 rfl fun dF cB cC cD cE cF=>?_);refine zg 2 rfl ?_;obtain rfl:=oi cA;exact Ay (b6 _ _ ⟨Z,cB,cC,cD,rfl,rfl,Ar,cF,cE⟩) rfl
   ·refine JL.skip ?_;obtain rfl:=oi cy;exact Ay (b6 _ _ ⟨Z,am,ap,a6,rfl,rfl,Ar,b3,b4⟩) rfl
 ·intro cG;refine JL.block (CV cg (fun L s K=>∃(O:LH) (U:Ap) (V:Nat) (ag:Seg),Jn E H O [ag] [(0,sV Y p0 c2),(1,iV p1),(5,sV U K.1 V),(6,.bool K.2.1),(7,iV K.2.2)] L s (OL 3 rI O U V ag K.1)) ⟨E,none,0,[],rfl,rfl,Ar,ce,OL.nil⟩ ?_);rintro _ _ K ⟨O,U,V,ag,rfl,rfl,av,bU,bV⟩ cH ⟨dG,bW⟩ cI;have b7:=bW;unfold J7 at b7;refine zg 5 rfl (Bh underlying28 rfl rfl rfl ?_);refine zg 2 rfl (AM b7 (fun cJ cK=>?_) (fun cJ cM=>?_))
  ·obtain⟨dH,cN,cO⟩:=bs cK;refine zg 8 rfl (Ce (bo.Ai av) cN underlying28 AX ?_);rintro dI dJ _ rfl cP;refine B4 0 cP By rfl rfl rfl ?_;obtain⟨cQ,cR,cT⟩:=bs cO;refine zg 3 rfl (EY [] (fun L s=>∃(a0:LH),Jm O H a0 [ag] [(0,sV Y p0 c2),(1,iV p1),(5,sV U K.1 V),(6,.bool K.2.1),(7,iV K.2.2),(23,.bool cQ)] L s) ?_ ?_)
   ·rintro _ _ ⟨a0,rfl,rfl,a1,b8⟩;obtain⟨a2,cV,cW⟩:=bs cT;refine JL.done (Bt (fun L s=>∃(al:LH) (a3:Ap) (a4:Nat) (a9:Seg),Jn a0 H al [a9] [(0,sV Y p0 c2),(1,iV p1),(5,sV a3 a2.1 a4),(6,.bool a2.2),(7,iV K.2.2)] L s (OL 3 rI al a3 a4 a9 a2.1)) ?_ ?_)
    ·rintro _ _ ⟨al,a3,a4,a9,rfl,rfl,bY,b9,ca⟩;obtain⟨dK,cX,cY⟩:=bs cW;refine zg 4 rfl (Ce (bo.Ai ((av.Ac a1).Ac bY)) cX underlying28 AX ?_);rintro dL dM _ rfl cZ;refine B4 0 cZ By rfl rfl rfl ?_;obtain⟨bZ,c0,c1⟩:=bs cY;refine zg 3 rfl (Bt (fun L s=>∃(bb:LH) (bd:Ap) (be:Nat) (bi:Seg),Jn al H bb [bi] [(0,sV Y p0 c2),(1,iV p1),(5,sV bd bZ be),(6,.bool a2.2),(7,iV K.2.2)] L s (OL 3 rI bb bd be bi bZ)) ?_ ?_)
     ·rintro _ _ ⟨bb,bd,be,bi,rfl,rfl,c3,c4,c5⟩;obtain⟨c6,c7,c8⟩:=bs c1;refine zg 3 rfl (Ba c7 rfl rfl rfl ?_);refine zg 2 rfl ?_;obtain rfl:=oi c8;exact Ay (cI _ _ (bZ,a2.2,c6) ⟨bb,bd,be,bi,rfl,rfl,(((av.Ac a1).Ac bY).Ac c3),c4,c5⟩ bW) rfl
     ·intro cb;refine AM c0 (fun c9 da=>?_) (fun c9 db=>?_)
      ·obtain⟨dc,dd,de⟩:=bs da;refine zg 4 rfl (Ce (bo.Ai ((av.Ac a1).Ac bY)) dd underlying28 AX ?_);rintro dN dO _ rfl df;refine B4 0 df By rfl rfl rfl ?_;obtain⟨dP,dg,dh⟩:=bs de;refine JS.app (pp:=rI) (v:=iV dc) (a:=a3) (c:=a4) 0 dg rfl rfl rfl rfl (fun _=>rfl) rfl (fun _=>rfl) rfl rfl rfl underlying28 underlying28 underlying28 AX (Cy type3) CU rfl (by decide) (by decide) (by decide) (by decide) ca rfl b9 rfl fun dQ di dj dk dl dm=>zg 2 rfl ?_;obtain rfl:=oi dh;exact Ay (cb _ _ ⟨al,di,dj,dk,rfl,rfl,Ar,dm,dl⟩) rfl
      ·refine JL.skip ?_;obtain rfl:=oi db;exact Ay (cb _ _ ⟨al,a3,a4,a9,rfl,rfl,Ar,b9,ca⟩) rfl
    ·intro cc;refine BI cV (fun dn dp=>?_) (fun dn dq=>?_)
     ·obtain⟨dR,dr,dt⟩:=bs dp;refine zg 3 rfl (JS.app (pp:=rI) (v:=iV p1) (a:=U) (c:=V) 0 dr rfl rfl rfl rfl (fun _=>rfl) rfl (fun _=>rfl) rfl rfl rfl underlying28 underlying28 underlying28 AX (Cy type3) CU rfl (by decide) (by decide) (by decide) (by decide) (bV.Ai a1) rfl b8 rfl fun dS du dv dw dx dy=>?_);refine zg 3 rfl ?_;obtain rfl:=oi dt;exact Ay (cc _ _ ⟨a0,du,dv,dw,rfl,rfl,Ar,dy,dx⟩) rfl
     ·refine JL.skip ?_;obtain rfl:=oi dq;exact Ay (cc _ _ ⟨a0,U,V,ag,rfl,rfl,Ar,b8,(bV.Ai a1)⟩) rfl
   ·intro cd;refine Es 20 cR (fun dz dA=>?_) (fun dz dB=>?_)
    ·refine zg 1 rfl (AF (v:= .bool (!K.2.1)) rfl (fun ρ h=>Yl.not (h _ _ rfl)) ?_);refine zg 1 rfl ?_;obtain rfl:=oi dA;exact Ay (cd _ _ ⟨O,rfl,rfl,Ar,bU⟩) rfl
    ·refine zg 3 rfl ?_;obtain rfl:=oi dB;exact Ay (cd _ _ ⟨O,rfl,rfl,Ar,bU⟩) rfl
  ·refine JL.exit rfl ?_;obtain rfl:=oi cM;obtain rfl:=cH _ bW;exact Ay (cG _ _ ⟨O,U,V,ag,rfl,rfl,av,bU,bV⟩) rfl
def f108(fuel:Nat)(p0:List Int):Option ((List Int)):= (CQ ([]:List Int) p0).bind fun K=> some K
theorem Z2{K:Ap}{c2:Nat}{p0:List Int}(Y:Al rI E K c2 p0){fuel:Nat}{r:(List Int)}(O:f108 fuel p0=some r):AN J 108 [sV K p0 c2] E [] (fun w E' B'=>∃(U:Ap) (V:Nat),w= sV U r V∧B'= []∧Al rI E' U V r):=by
 refine A3 func108 fun Q a7 cs H Z ag=>?_;unfold f108 at O;refine zg 6 rfl (Lj (pp:=rI) rfl rfl rfl underlying28 AX Z fun a8 a9 al am=>?_);obtain⟨bb,ap,av⟩:=bs O;refine zg 1 rfl (G6 (pp:=rI) 1 ap rfl rfl rfl rfl rfl rfl rfl underlying28 underlying28 AX (Cy type3) CU rfl (by decide) (by decide) al Y am rfl fun a0 a1 bd a2 a3=>?_);refine zg 2 rfl (BU 1 a2 a3 rfl fun be a4 a5 a6=>?_);obtain rfl:=oi av;exact AB func108 rfl rfl (ag a4 rfl ⟨a0,a1,rfl,rfl,a5⟩ a6)
def f27(fuel:Nat)(p0:AJ):Option ((AJ)):= (CQ ([]:AJ) p0).bind fun K=> some K
theorem PW{K:Ap}{c2:Nat}{p0:AJ}(Y:Al Bg E K c2 p0){fuel:Nat}{r:(AJ)}(O:f27 fuel p0=some r):AN J 27 [sV K p0 c2] E [] (fun w E' B'=>∃(U:Ap) (V:Nat),w= sV U r V∧B'= []∧Al Bg E' U V r):=by
 refine A3 func27 fun Q a7 cs H Z ag=>?_;unfold f27 at O;refine zg 6 rfl (Lj (pp:=Bg) rfl rfl rfl underlying25 BF Z fun a8 a9 al am=>?_);obtain⟨bb,ap,av⟩:=bs O;refine zg 1 rfl (G6 (pp:=Bg) 1 ap rfl rfl rfl rfl rfl rfl rfl underlying25 underlying25 BF (Cy type27) C7 rfl (by decide) (by decide) al Y am rfl fun a0 a1 bd a2 a3=>?_);refine zg 2 rfl (BU 1 a2 a3 rfl fun be a4 a5 a6=>?_);obtain rfl:=oi av;exact AB func27 rfl rfl (ag a4 rfl ⟨a0,a1,rfl,rfl,a5⟩ a6)
def NB(fuel:Nat)(p0:List (List Int))(K:(List (List Int))×Int):Option (Bd ((List (List Int))×Int) ((List (List Int)))):= if K.2<(p0.length:Int) then((ix p0 K.2).bind fun O=> (f108 fuel O).bind fun U=> (ix K.1 K.2).bind fun Y=> (As (K.2+1)).bind fun V=> some (.more ((K.1.set (Int.toNat K.2) U),V))) else(some (.done K.1))
def f77(fuel:Nat)(p0:List (List Int)):Option ((List (List Int))):= (F9 (p0.length:Int) ([]:List Int)).bind fun K=> Option.bind (iter (NB fuel p0) fuel (K,0)) fun O=> some O
theorem TD{Y:Ap}{c2:Nat}{p0:List (List Int)}(bv:Al (rL rI) E Y c2 p0){fuel:Nat}{r:(List (List Int))}(a5:f77 fuel p0=some r):AN J 77 [sV Y p0 c2] E [] (fun w E' B'=>∃(a6:Ap) (a7:Nat),w= sV a6 r a7∧B'= []∧Al (rL rI) E' a6 a7 r):=by
 refine A3 func77 fun Q cK cs H bw bU=>?_;unfold f77 at a5;refine zg 7 rfl (Bh underlying22 rfl rfl rfl ?_);obtain⟨bV,bW,bY⟩:=bs a5;refine JS.make (pp:=(rL rI)) bW rfl rfl rfl rfl rfl underlying22 BZ (Cy type28) (by decide) Fx (by decide) ⟨_,_,rfl,Al.nil⟩ bw fun bZ b0 b1 b2=>?_;obtain⟨a8,b3,b4⟩:=bs bY;refine zg 7 rfl (Bt (fun L s=>∃(a0:LH) (Z:Ap) (ag:Nat) (a1:Seg),Jn E H a0 [a1] [(3,sV Z a8 ag)] L s (OL 28 (rL rI) a0 Z ag a1 a8)) ?_ ?_)
 ·rintro _ _ ⟨a0,Z,ag,a1,rfl,rfl,b5,b6,b7⟩;refine zg 5 rfl (BU 0 b7 b6 rfl fun cM b8 b9 ca=>?_);obtain rfl:=oi b4;exact AB func77 rfl rfl (bU (b5.Ac b8) rfl ⟨Z,ag,rfl,rfl,b9⟩ ca)
 ·intro cb;refine JL.block (CV b3 (fun L s K=>∃(al:LH) (U:Ap) (V:Nat) (am:Seg),Jn E H al [am] [(0,sV Y p0 c2),(3,sV U K.1 V),(4,iV K.2)] L s (OL 28 (rL rI) al U V am K.1)) ⟨E,(A0 bZ),bV.length,b0,rfl,rfl,Ar,b2,b1⟩ ?_);rintro _ _ K ⟨al,U,V,am,rfl,rfl,a2,a9,bb⟩ cc ⟨cN,a3⟩ cd;have bd:=a3;unfold NB at bd;refine zg 5 rfl (Bh underlying22 rfl rfl rfl ?_);refine zg 2 rfl (AM bd (fun ce cf=>?_) (fun ce cg=>?_))
  ·obtain⟨ci,ck,cm⟩:=bs cf;refine zg 8 rfl (Ce (bv.Ai a2) ck underlying22 BZ ?_);rintro cn co _ ⟨cp,cq,rfl,cr⟩ ct;refine B4 0 ct CZ rfl rfl rfl ?_;obtain⟨O,cu,cv⟩:=bs cm;refine BN (Z2 cr cu) rfl rfl (AV func108 rfl) a9 ?_;rintro _ cw _ be ⟨ap,av,rfl,rfl,cy⟩ cz;obtain⟨cO,cA,cB⟩:=bs cv;refine I7 0 (bb.Ai be) cA rfl rfl rfl rfl rfl rfl underlying22 BZ ?_;rintro bi a4 f78 _ cC ⟨cP,cQ,rfl,cR⟩ cT cD cE cV cW;refine JS.store (v:= sV ap O av) (off:=a4) 0 rfl rfl rfl cz rfl rfl BZ (by simp [Value.cells,CY]) cC (by have:=cD;simp only [Rp.n,rK,rN,rB,rP,rL] at this;show _+1≤_;omega) fun cF=>?_;have cG:=cE O [sV ap O av] ⟨_,_,rfl,cy⟩;have bo:(K.1.set (Int.toNat K.2) O).length=K.1.length:=List.length_set;refine Gn (L':= [(0,.slice Y p0.length c2),(3,.slice U ((K.1.set (Int.toNat K.2) O)).length V),(4,iV K.2),(8,iV K.2),(9,.slice Y p0.length c2),(10,iV (p0.length:Int)),(11,.bool (decide (K.2<(p0.length:Int)))),(14,.slice U ((K.1.set (Int.toNat K.2) O)).length V),(15,iV K.2),(16,.slice Y p0.length c2),(17,iV K.2),(18,pV cn co),(19,.slice cp ci.length cq),(20,.slice ap O.length av),(21,pV bi a4)]) ⟨rfl,by rw [bo];rfl,rfl,rfl,rfl,rfl,rfl,by rw [bo];rfl,rfl,rfl,rfl,rfl,rfl,rfl,rfl,trivial⟩ ?_;obtain⟨cH,cI,cJ⟩:=bs cB;refine zg 4 rfl (Ba cI rfl rfl rfl ?_);refine zg 2 rfl ?_;obtain rfl:=oi cJ;exact Ay (cd _ _ ((K.1.set (Int.toNat K.2) O),cH) ⟨cw,U,V,[(bi,.cells (A2 f78 a4 [sV ap O av]) 28 (0,0))],rfl,rfl,(a2.Ac be),cF,cG⟩ a3) rfl
  ·refine JL.exit rfl ?_;obtain rfl:=oi cg;obtain rfl:=cc _ a3;exact Ay (cb _ _ ⟨al,U,V,am,rfl,rfl,a2,a9,bb⟩) rfl
def f26(fuel:Nat)(p0:A9):Option ((A9)):= (f77 fuel p0.1).bind fun K=> (f77 fuel p0.2).bind fun O=> some (K,O)
theorem Tx{ag:Ap}{c2:Nat}{am:Ap}{ap:Nat}{p0:A9}(a8:Al (rL rI) E ag c2 p0.1)(a9:Al (rL rI) E am ap p0.2){fuel:Nat}{r:(A9)}(av:f26 fuel p0=some r):AN J 26 [.agg #[sV ag p0.1 c2,sV am p0.2 ap]] E [] (fun w E' B'=>∃(a0:Ap) (a1:Nat) (a2:Ap) (a3:Nat),w= .agg #[sV a0 r.1 a1,sV a2 r.2 a3]∧B'= []∧Al (rL rI) E' a0 a1 r.1∧Al (rL rI) E' a2 a3 r.2):=by
 refine A3 func26 fun Q b1 cs H bb bd=>?_;unfold f26 at av;refine zg 2 rfl (Ca bb fun b2 b3 al a4 be=>?_);refine CW be GZ fun b4 bi=>?_;refine zg 2 rfl (C5 5 fun ht=>?_);refine B9 0 ht underlying24 BR rfl rfl rfl rfl (Cz 1 ht 0 a4 Cv rfl rfl rfl rfl ?_);refine B9 3 ht underlying24 BR rfl rfl rfl rfl (Cz 4 ht 1 a4 Cv rfl rfl rfl rfl ?_);obtain⟨Y,bo,bv⟩:=bs av;refine JG.call (i:=2) (vs:= [sV ag p0.1 c2]) (TD (a8.Ai al) bo) (by decide+kernel) rfl rfl rfl (AV func77 rfl) rfl bi ?_;rintro _ b5 _ a5 ⟨K,O,rfl,rfl,bw⟩ bU;refine Cj [5,6,7] ?_;obtain⟨Z,bV,bW⟩:=bs bv;refine BN (TD (a9.Ai (al.Ac a5)) bV) rfl rfl (AV func77 rfl) bU ?_;rintro _ b6 _ a6 ⟨U,V,rfl,rfl,bY⟩ bZ;refine AF (v:= .agg #[sV K Y O,sV U Z V]) rfl (fun ρ h=>Di [(0,1),(1,1)] h GZ underlying24 ⟨rfl,Bv type22,rfl,Bv type22,trivial⟩ rfl rfl) (BW 2 bZ BJ fun a7=>?_);refine JL.done ?_;obtain rfl:=oi bW;refine JL.ret (v:= .agg #[sV K Y O,sV U Z V]) rfl rfl (Cm.list func26 rfl (vs:= [.agg #[sV K Y O,sV U Z V]]) ⟨⟨_,rfl,Ld.many (vs:= [sV K Y O,sV U Z V]) Cd BJ (F2 (off:=0) 2 a7 rfl rfl)⟩,trivial⟩) (IA 2 a7 rfl fun b0=>?_);exact bd ((al.Ac a5).Ac a6) rfl ⟨K,O,U,V,rfl,rfl,(bw.Ai a6),bY⟩ b0
def NF(fuel:Nat)(p0:List (List Int))(K:Int):Option (Bd Int ((Bool)⊕(Unit))):= Option.bind (if K<(p0.length:Int) then(some (decide (K<20))) else(some false)) fun O=> if O=true then((ix p0 K).bind fun U=> if 20<(U.length:Int) then(some (.done (Sum.inl true))) else((As (K+1)).bind fun V=> some (.more V))) else(some (.done (Sum.inr ())))
def f76(fuel:Nat)(p0:List (List Int)):Option Bool:= Option.bind (iter (NF fuel p0) fuel 0) fun K=> Sum.elim (fun r=>some r) (fun O=> some (decide (20<(p0.length:Int)))) K
theorem Tw{K:Ap}{c2:Nat}{p0:List (List Int)}(a7:Al (rL rI) E K c2 p0){fuel:Nat}{r:Bool}(am:f76 fuel p0=some r):AN J 76 [sV K p0 c2] E [] (fun w E' B'=>w= .bool r∧B'= []):=by
 refine A3 func76 fun Q cd cs H a8 ap=>?_;unfold f76 at am;obtain⟨av,a9,a0⟩:=bs am;refine zg 9 rfl (Bt (fun L s=>∃(a1:Unit) (a2:LH),av=Sum.inr a1∧Jm E H a2 [] [(0,sV K p0 c2)] L s) ?_ ?_)
 ·rintro _ _ ⟨a1,a2,rfl,rfl,rfl,bb,bd⟩;have be:=elim_inr a0;refine zg 3 rfl (Bh underlying22 rfl rfl rfl ?_);refine zg 3 rfl ?_;obtain rfl:=oi be;exact AB func76 rfl rfl (ap bb rfl ⟨rfl,rfl⟩ bd)
 ·intro bi;refine JL.block (Cp a9 (fun O=> []) (fun O=> [(0,sV K p0 c2),(3,iV O)]) Ar a8 ?_);rintro O Z U a3 a4 ⟨ce,V⟩ bo;have a5:=V;unfold NF at a5;refine zg 5 rfl (Bh underlying22 rfl rfl rfl ?_);obtain⟨bv,bw,bU⟩:=bs a5;refine zg 2 rfl (EY [] (fun L s=>∃(ag:LH),Jm Z H ag [] [(0,sV K p0 c2),(3,iV O),(11,.bool bv)] L s) ?_ ?_)
  ·rintro _ _ ⟨ag,rfl,rfl,Y,al⟩;refine JL.done (BI bU (fun bV bW=>?_) (fun bV bY=>?_))
   ·obtain⟨cf,bZ,b0⟩:=bs bW;refine zg 7 rfl (Ce (a7.Ai (U.Ac Y)) bZ underlying22 BZ ?_);rintro cg ci _ ⟨ck,cm,rfl,cn⟩ b1;refine B4 0 b1 CZ rfl rfl rfl (Bh underlying28 rfl rfl rfl ?_);refine zg 2 rfl (AM b0 (fun b2 b3=>?_) (fun b2 b4=>?_))
    ·refine zg 4 rfl ?_;obtain rfl:=oi b3;obtain rfl:=a4 _ V;have b5:=elim_inl a0;obtain rfl:=oi b5;exact AB func76 rfl rfl (ap (U.Ac Y) rfl ⟨rfl,rfl⟩ al)
    ·obtain⟨b6,b7,b8⟩:=bs b4;refine zg 4 rfl (Ba b7 rfl rfl rfl ?_);refine zg 2 rfl ?_;obtain rfl:=oi b8;exact bo b6 (U.Ac Y) al rfl V
   ·refine JL.exit rfl ?_;obtain rfl:=oi bY;have b9:av=(Sum.inr ()):=(a4 _ V).symm;exact Ay (bi _ _ ⟨(),ag,b9,rfl,rfl,(U.Ac Y),al⟩) rfl
  ·intro a6;refine Es 8 bw (fun ca cb=>?_) (fun ca cc=>?_)
   ·refine zg 3 rfl ?_;obtain rfl:=oi cb;exact Ay (a6 _ _ ⟨Z,rfl,rfl,Ar,a3⟩) rfl
   ·refine zg 3 rfl ?_;obtain rfl:=oi cc;exact Ay (a6 _ _ ⟨Z,rfl,rfl,Ar,a3⟩) rfl
def f21(fuel:Nat)(p0:A9):Option Bool:= (f76 fuel p0.1).bind fun K=> Option.bind (if K=true then(some true) else((f76 fuel p0.2).bind fun O=> some O)) fun U=> some U
theorem bc{U:Ap}{c2:Nat}{V:Ap}{Y:Nat}{p0:A9}(ap:Al (rL rI) E U c2 p0.1)(av:Al (rL rI) E V Y p0.2){fuel:Nat}{r:Bool}(Z:f21 fuel p0=some r):AN J 21 [.agg #[sV U p0.1 c2,sV V p0.2 Y]] E [] (fun w E' B'=>w= .bool r∧B'= []):=by
 refine A3 func21 fun Q bU cs H a0 a1=>?_;unfold f21 at Z;refine zg 2 rfl (Ca a0 fun bV bW K ag a2=>?_);refine zg 4 rfl (JL.fl 0 ag underlying24 BR Cv ?_);obtain⟨bY,a3,a4⟩:=bs Z;refine BH (Tw (ap.Ai K) a3) rfl rfl (AV func76 rfl) a2 fun bZ O al=>?_;obtain⟨a5,a6,a7⟩:=bs a4;refine zg 1 rfl (Dv 8 1 [] [(10,.bool a5)] (fun b0 a8 a9=>?_) (fun am=>?_))
 ·refine zg 2 rfl ?_;obtain rfl:=oi a7;exact AB func21 rfl rfl (a1 ((K.Ac O).Ac a8) rfl ⟨rfl,rfl⟩ a9)
 ·refine DU 6 a6 (fun bb bd=>?_) (fun bb be=>?_)
  ·refine zg 4 rfl ?_;obtain rfl:=oi bd;exact am Ar al rfl
  ·refine JL.fl 1 (ag.Ai O) underlying24 BR Cv ?_;obtain⟨b1,bi,bo⟩:=bs be;refine BH (Tw (av.Ai (K.Ac O)) bi) rfl rfl (AV func76 rfl) al fun b2 bv bw=>zg 1 rfl ?_;obtain rfl:=oi bo;exact am bv bw rfl
def MW(fuel:Nat)(p0:A9)(p1:List Int)(K:Int):Option (Bd Int ((Int)⊕(Unit))):= if K<(p1.length:Int) then((ix p1 K).bind fun O=> (As ((p0.1.length:Int) - 1)).bind fun U=> (f104 fuel O 0 U).bind fun V=> if(!V)=true then(some (.done (Sum.inl 3))) else(Option.bind (if 0<K then((ix p1 K).bind fun Y=> (As (K - 1)).bind fun Z=> (ix p1 Z).bind fun ag=> some (decide (Y≤ag))) else(some false)) fun al=> if al=true then(some (.done (Sum.inl 5))) else((As (K+1)).bind fun am=> some (.more am)))) else(some (.done (Sum.inr ())))
def f114(fuel:Nat)(p0:A9)(p1:List Int):Option Int:= if(p1.length:Int)=0 then(some 7) else(if 3<(p1.length:Int) then(some 6) else(Option.bind (iter (MW fuel p0 p1) fuel 0) fun K=> Sum.elim (fun r=>some r) (fun O=> some 0) K))
theorem ZM{a3:Ap}{c2:Nat}{a4:Ap}{a5:Nat}{ag:Ap}{al:Nat}{p0:A9}{p1:List Int}(cP:Al (rL rI) E a3 c2 p0.1)(cQ:Al (rL rI) E a4 a5 p0.2)(am:Al rI E ag al p1){fuel:Nat}{r:Int}(a6:f114 fuel p0 p1=some r):AN J 114 [.agg #[sV a3 p0.1 c2,sV a4 p0.2 a5],sV ag p1 al] E [] (fun w E' B'=>w=iV r∧B'= []):=by
 refine A3 func114 fun Q cR cs H bv U=>?_;unfold f114 at a6;refine zg 2 rfl (Ca bv fun a7 bw K bU ap=>?_);refine zg 6 rfl (Bh underlying28 rfl rfl rfl ?_);refine zg 2 rfl (AM a6 (fun bV bW=>?_) (fun bV bY=>?_))
 ·refine zg 4 rfl ?_;obtain rfl:=oi bW;exact AB func114 rfl rfl (U K rfl ⟨rfl,rfl⟩ ap)
 ·refine zg 5 rfl (Bh underlying28 rfl rfl rfl ?_);refine zg 2 rfl (AM bY (fun bZ b0=>?_) (fun bZ b1=>?_))
  ·refine zg 4 rfl ?_;obtain rfl:=oi b0;exact AB func114 rfl rfl (U K rfl ⟨rfl,rfl⟩ ap)
  ·obtain⟨a8,b2,av⟩:=bs b1;refine zg 6 rfl (Bt (fun L s=>∃(a9:Unit) (bb:LH),a8=Sum.inr a9∧Jm bw H bb [] [] L s) ?_ ?_)
   ·rintro _ _ ⟨a9,bb,rfl,rfl,rfl,b3,b4⟩;have b5:=elim_inr av;refine zg 4 rfl ?_;obtain rfl:=oi b5;exact AB func114 rfl rfl (U (K.Ac b3) rfl ⟨rfl,rfl⟩ b4)
   ·intro b6;refine JL.block (Cp b2 (fun V=> []) (fun V=> [(1,sV ag p1 al),(2,pV a7 0),(5,iV V)]) Ar ap ?_);rintro V b7 O bd a0 ⟨cT,Y⟩ b8;have be:=Y;unfold MW at be;refine zg 5 rfl (Bh underlying28 rfl rfl rfl ?_);refine zg 2 rfl (AM be (fun b9 ca=>?_) (fun b9 cb=>?_))
    ·refine zg 5 rfl (C5 8 fun ht=>?_);refine AZ ht rfl [0,1] rfl ?_;obtain⟨cV,cc,cd⟩:=bs ca;refine CN 2 (am.Ai (K.Ac O)) cc ht underlying28 AX ?_;rintro cW cX _ rfl ce;refine Cz 3 ht 0 ce By rfl rfl rfl rfl (B9 4 ht underlying24 BR rfl rfl rfl rfl ?_);refine Cz 5 ht 0 (bU.Ai O) Cv rfl rfl rfl rfl (BA 6 ht rfl rfl (fun ρ h s' hs=>Yl.len rfl underlying22 (h _ _ rfl)) ?_);obtain⟨cY,cf,cg⟩:=bs cd;refine BA 7 ht rfl rfl (fun ρ h s' hs=>Da (h _ _ rfl) (h _ _ rfl) cf) (Cj [8,9] ?_);obtain⟨ci,ck,cm⟩:=bs cg;refine BH (NG ck) rfl rfl Mg bd fun cn Z a1=>AF (v:= .bool (!ci)) rfl (fun ρ h=>Yl.not (h _ _ rfl)) (JL.done ?_);refine BI cm (fun co cp=>?_) (fun co cq=>?_)
     ·refine zg 4 rfl ?_;obtain rfl:=oi cp;obtain rfl:=a0 _ Y;have cr:=elim_inl av;obtain rfl:=oi cr;exact AB func114 rfl rfl (U ((K.Ac O).Ac Z) rfl ⟨rfl,rfl⟩ a1)
     ·refine zg 2 rfl (C5 14 fun ht=>?_);refine AZ ht rfl [0,1,2] rfl ?_;obtain⟨ct,bi,cu⟩:=bs cq;refine Eg 0 #[true,true,true,true,true,true,true,true,true,true,true,true,true,true] (fun L s=>L= [(1,sV ag p1 al),(2,pV a7 0),(5,iV V),(41,.bool ct)]∧s=An cn H [[]]) ?_ ?_
      ·rintro _ _ ⟨rfl,rfl⟩;refine AY.fin (by decide+kernel) (BI cu (fun cv cw=>?_) (fun cv cy=>?_))
       ·refine zg 4 rfl ?_;obtain rfl:=oi cw;obtain rfl:=a0 _ Y;have cz:=elim_inl av;obtain rfl:=oi cz;exact AB func114 rfl rfl (U ((K.Ac O).Ac Z) rfl ⟨rfl,rfl⟩ a1)
       ·obtain⟨cA,cB,cC⟩:=bs cy;refine zg 4 rfl (Ba cB rfl rfl rfl ?_);refine zg 2 rfl ?_;obtain rfl:=oi cC;exact b8 cA (O.Ac Z) a1 rfl Y
      ·intro bo;refine EW (q:=0<V) (i:=30) rfl (fun a2=>?_) (fun a2=>?_)
       ·have cD:=ip bi a2;refine AZ ht rfl [3,4] rfl ?_;obtain⟨cZ,cE,cF⟩:=bs cD;refine CN 5 (am.Ai ((K.Ac O).Ac Z)) cE ht underlying28 AX ?_;rintro c0 c1 _ rfl cG;refine Cz 6 ht 0 cG By rfl rfl rfl rfl ?_;refine AZ ht rfl [7,8] rfl ?_;obtain⟨c3,cH,cI⟩:=bs cF;refine BA 9 ht rfl rfl (fun ρ h s' hs=>Da (h _ _ rfl) (h _ _ rfl) cH) ?_;obtain⟨c4,cJ,cK⟩:=bs cI;refine CN 10 (am.Ai ((K.Ac O).Ac Z)) cJ ht underlying28 AX ?_;rintro c5 c6 _ rfl cM;refine Cz 11 ht 0 cM By rfl rfl rfl rfl ?_;refine AZ ht rfl [12,13] rfl ?_;obtain rfl:=oi cK;refine CH ?_ (bo _ _ ⟨rfl,rfl⟩);exact⟨rfl,rfl,rfl,rfl,trivial⟩
       ·have cN:=im bi a2;refine AZ ht rfl [3,4,5,6,7,8,9,10,11,12,13] rfl ?_;obtain rfl:=oi cN;refine CH ?_ (bo _ _ ⟨rfl,rfl⟩);exact⟨rfl,rfl,rfl,rfl,trivial⟩
    ·refine JL.exit rfl ?_;obtain rfl:=oi cb;have cO:a8=(Sum.inr ()):=(a0 _ Y).symm;exact Ay (b6 _ _ ⟨(),b7,cO,rfl,rfl,O,bd⟩) rfl
def MQ(fuel:Nat)(p0:A9)(p1:Int)(p2:List Int)(K:Int):Option (Bd Int ((Int)⊕(Unit))):= if K<(p2.length:Int) then((ix p2 K).bind fun O=> (As ((p0.1.length:Int) - 1)).bind fun U=> (f104 fuel O 0 U).bind fun V=> if(!V)=true then(some (.done (Sum.inl 3))) else((ix p2 K).bind fun Y=> if Y=p1 then(some (.done (Sum.inl 8))) else(Option.bind (if 0<K then((ix p2 K).bind fun Z=> (As (K - 1)).bind fun ag=> (ix p2 ag).bind fun al=> some (decide (Z≤al))) else(some false)) fun am=> if am=true then(some (.done (Sum.inl 5))) else((As (K+1)).bind fun ap=> some (.more ap))))) else(some (.done (Sum.inr ())))
def f115(fuel:Nat)(p0:A9)(p1:Int)(p2:List Int):Option Int:= if 3<(p2.length:Int) then(some 6) else(Option.bind (iter (MQ fuel p0 p1 p2) fuel 0) fun K=> Sum.elim (fun r=>some r) (fun O=> some 0) K)
theorem YT{a2:Ap}{c2:Nat}{a3:Ap}{a4:Nat}{ag:Ap}{al:Nat}{p0:A9}{p1:Int}{p2:List Int}(cV:Al (rL rI) E a2 c2 p0.1)(cW:Al (rL rI) E a3 a4 p0.2)(am:Al rI E ag al p2){fuel:Nat}{r:Int}(a5:f115 fuel p0 p1 p2=some r):AN J 115 [.agg #[sV a2 p0.1 c2,sV a3 p0.2 a4],iV p1,sV ag p2 al] E [] (fun w E' B'=>w=iV r∧B'= []):=by
 refine A3 func115 fun Q cX cs H bv Y=>?_;unfold f115 at a5;refine zg 2 rfl (Ca bv fun a6 bw O bU a7=>?_);refine zg 6 rfl (Bh underlying28 rfl rfl rfl ?_);refine zg 2 rfl (AM a5 (fun bV bW=>?_) (fun bV bY=>?_))
 ·refine zg 4 rfl ?_;obtain rfl:=oi bW;exact AB func115 rfl rfl (Y O rfl ⟨rfl,rfl⟩ a7)
 ·obtain⟨a8,bZ,ap⟩:=bs bY;refine zg 6 rfl (Bt (fun L s=>∃(a9:Unit) (bb:LH),a8=Sum.inr a9∧Jm bw H bb [] [] L s) ?_ ?_)
  ·rintro _ _ ⟨a9,bb,rfl,rfl,rfl,b0,b1⟩;have b2:=elim_inr ap;refine zg 4 rfl ?_;obtain rfl:=oi b2;exact AB func115 rfl rfl (Y (O.Ac b0) rfl ⟨rfl,rfl⟩ b1)
  ·intro b3;refine JL.block (Cp bZ (fun Z=> []) (fun Z=> [(1,iV p1),(2,sV ag p2 al),(3,pV a6 0),(7,iV Z)]) Ar a7 ?_);rintro Z b4 K bd av ⟨cY,V⟩ b5;have be:=V;unfold MQ at be;refine zg 5 rfl (Bh underlying28 rfl rfl rfl ?_);refine zg 2 rfl (AM be (fun b6 b7=>?_) (fun b6 b8=>?_))
   ·refine zg 5 rfl (C5 8 fun ht=>?_);refine AZ ht rfl [0,1] rfl ?_;obtain⟨cZ,b9,ca⟩:=bs b7;refine CN 2 (am.Ai (O.Ac K)) b9 ht underlying28 AX ?_;rintro c0 c1 _ rfl cb;refine Cz 3 ht 0 cb By rfl rfl rfl rfl (B9 4 ht underlying24 BR rfl rfl rfl rfl ?_);refine Cz 5 ht 0 (bU.Ai K) Cv rfl rfl rfl rfl (BA 6 ht rfl rfl (fun ρ h s' hs=>Yl.len rfl underlying22 (h _ _ rfl)) ?_);obtain⟨c3,cc,cd⟩:=bs ca;refine BA 7 ht rfl rfl (fun ρ h s' hs=>Da (h _ _ rfl) (h _ _ rfl) cc) (Cj [8,9] ?_);obtain⟨ce,cf,cg⟩:=bs cd;refine BH (NG cf) rfl rfl Mg bd fun ci U a0=>AF (v:= .bool (!ce)) rfl (fun ρ h=>Yl.not (h _ _ rfl)) (JL.done ?_);refine BI cg (fun ck cm=>?_) (fun ck cn=>?_)
    ·refine zg 4 rfl ?_;obtain rfl:=oi cm;obtain rfl:=av _ V;have co:=elim_inl ap;obtain rfl:=oi co;exact AB func115 rfl rfl (Y ((O.Ac K).Ac U) rfl ⟨rfl,rfl⟩ a0)
    ·obtain⟨c4,cp,cq⟩:=bs cn;refine zg 6 rfl (Ce (am.Ai ((O.Ac K).Ac U)) cp underlying28 AX ?_);rintro c5 c6 _ rfl cr;refine B4 0 cr By rfl rfl rfl (zg 3 rfl ?_);refine AM cq (fun ct cu=>?_) (fun ct cv=>?_)
     ·refine zg 4 rfl ?_;obtain rfl:=oi cu;obtain rfl:=av _ V;have cw:=elim_inl ap;obtain rfl:=oi cw;exact AB func115 rfl rfl (Y ((O.Ac K).Ac U) rfl ⟨rfl,rfl⟩ a0)
     ·refine zg 2 rfl (C5 14 fun ht=>?_);refine AZ ht rfl [0,1,2] rfl ?_;obtain⟨cy,bi,cz⟩:=bs cv;refine Eg 0 #[true,true,true,true,true,true,true,true,true,true,true,true,true,true] (fun L s=>L= [(1,iV p1),(2,sV ag p2 al),(3,pV a6 0),(7,iV Z),(46,.bool cy)]∧s=An ci H [[]]) ?_ ?_
      ·rintro _ _ ⟨rfl,rfl⟩;refine AY.fin (by decide+kernel) (BI cz (fun cA cB=>?_) (fun cA cC=>?_))
       ·refine zg 4 rfl ?_;obtain rfl:=oi cB;obtain rfl:=av _ V;have cD:=elim_inl ap;obtain rfl:=oi cD;exact AB func115 rfl rfl (Y ((O.Ac K).Ac U) rfl ⟨rfl,rfl⟩ a0)
       ·obtain⟨cE,cF,cG⟩:=bs cC;refine zg 4 rfl (Ba cF rfl rfl rfl ?_);refine zg 2 rfl ?_;obtain rfl:=oi cG;exact b5 cE (K.Ac U) a0 rfl V
      ·intro bo;refine EW (q:=0<Z) (i:=35) rfl (fun a1=>?_) (fun a1=>?_)
       ·have cH:=ip bi a1;refine AZ ht rfl [3,4] rfl ?_;obtain⟨c7,cI,cJ⟩:=bs cH;refine CN 5 (am.Ai ((O.Ac K).Ac U)) cI ht underlying28 AX ?_;rintro c8 c9 _ rfl cK;refine Cz 6 ht 0 cK By rfl rfl rfl rfl ?_;refine AZ ht rfl [7,8] rfl ?_;obtain⟨da,cM,cN⟩:=bs cJ;refine BA 9 ht rfl rfl (fun ρ h s' hs=>Da (h _ _ rfl) (h _ _ rfl) cM) ?_;obtain⟨db,cO,cP⟩:=bs cN;refine CN 10 (am.Ai ((O.Ac K).Ac U)) cO ht underlying28 AX ?_;rintro dc dd _ rfl cQ;refine Cz 11 ht 0 cQ By rfl rfl rfl rfl ?_;refine AZ ht rfl [12,13] rfl ?_;obtain rfl:=oi cP;refine CH ?_ (bo _ _ ⟨rfl,rfl⟩);exact⟨rfl,rfl,rfl,rfl,rfl,trivial⟩
       ·have cR:=im bi a1;refine AZ ht rfl [3,4,5,6,7,8,9,10,11,12,13] rfl ?_;obtain rfl:=oi cR;refine CH ?_ (bo _ _ ⟨rfl,rfl⟩);exact⟨rfl,rfl,rfl,rfl,rfl,trivial⟩
   ·refine JL.exit rfl ?_;obtain rfl:=oi b8;have cT:a8=(Sum.inr ()):=(av _ V).symm;exact Ay (b3 _ _ ⟨(),b4,cT,rfl,rfl,K,bd⟩) rfl
def Nh(fuel:Nat)(p0:A9)(K:Int):Option (Bd Int ((Int)⊕(Unit))):= if K<(p0.1.length:Int) then((ix p0.1 K).bind fun V=> (f114 fuel p0 V).bind fun O=> if O≠0 then(some (.done (Sum.inl O))) else((ix p0.2 K).bind fun Y=> (f115 fuel p0 K Y).bind fun U=> if U≠0 then(some (.done (Sum.inl U))) else((As (K+1)).bind fun Z=> some (.more Z)))) else(some (.done (Sum.inr ())))
def f68(fuel:Nat)(p0:A9):Option Int:= if(p0.1.length:Int)=0 then(some 7) else(if 8<(p0.1.length:Int) then(some 6) else(if(p0.2.length:Int)≠(p0.1.length:Int) then(some 9) else(Option.bind (iter (Nh fuel p0) fuel 0) fun K=> Sum.elim (fun r=>some r) (fun O=> some 0) K)))
theorem bC{a1:Ap}{c2:Nat}{a2:Ap}{a3:Nat}{p0:A9}(al:Al (rL rI) E a1 c2 p0.1)(am:Al (rL rI) E a2 a3 p0.2){fuel:Nat}{r:Int}(a4:f68 fuel p0=some r):AN J 68 [.agg #[sV a1 p0.1 c2,sV a2 p0.2 a3]] E [] (fun w E' B'=>w=iV r∧B'= []):=by
 refine A3 func68 fun Q cG cs H bi Y=>?_;unfold f68 at a4;refine zg 2 rfl (Ca bi fun bo bv O U ag=>?_);refine zg 5 rfl (JL.fl 0 U underlying24 BR Cv ?_);refine Bh underlying22 rfl rfl rfl (zg 2 rfl ?_);refine AM a4 (fun bw bU=>?_) (fun bw bV=>?_)
 ·refine zg 4 rfl ?_;obtain rfl:=oi bU;exact AB func68 rfl rfl (Y O rfl ⟨rfl,rfl⟩ ag)
 ·refine zg 4 rfl (JL.fl 0 U underlying24 BR Cv ?_);refine Bh underlying22 rfl rfl rfl (zg 2 rfl ?_);refine AM bV (fun bW bY=>?_) (fun bW bZ=>?_)
  ·refine zg 4 rfl ?_;obtain rfl:=oi bY;exact AB func68 rfl rfl (Y O rfl ⟨rfl,rfl⟩ ag)
  ·refine zg 4 rfl (JL.fl 1 U underlying24 BR Cv ?_);refine Bh underlying22 rfl rfl rfl (JL.fl 0 U underlying24 BR Cv ?_);refine Bh underlying22 rfl rfl rfl (zg 2 rfl ?_);refine AM bZ (fun b0 b1=>?_) (fun b0 b2=>?_)
   ·refine zg 4 rfl ?_;obtain rfl:=oi b1;exact AB func68 rfl rfl (Y O rfl ⟨rfl,rfl⟩ ag)
   ·obtain⟨a5,b3,ap⟩:=bs b2;refine zg 6 rfl (Bt (fun L s=>∃(a6:Unit) (a7:LH),a5=Sum.inr a6∧Jm bv H a7 [] [] L s) ?_ ?_)
    ·rintro _ _ ⟨a6,a7,rfl,rfl,rfl,b4,b5⟩;have b6:=elim_inr ap;refine zg 4 rfl ?_;obtain rfl:=oi b6;exact AB func68 rfl rfl (Y (O.Ac b4) rfl ⟨rfl,rfl⟩ b5)
    ·intro b7;refine JL.block (Cp b3 (fun av=> []) (fun av=> [(1,pV bo 0),(3,iV av)]) Ar ag ?_);rintro av b8 K a8 a0 ⟨cH,Z⟩ b9;have a9:=Z;unfold Nh at a9;refine zg 4 rfl (JL.fl 0 (U.Ai K) underlying24 BR Cv ?_);refine Bh underlying22 rfl rfl rfl (zg 2 rfl ?_);refine AM a9 (fun ca cb=>?_) (fun ca cc=>?_)
     ·refine zg 5 rfl (C5 6 fun ht=>?_);refine Fi 0 ht (U.Ai K) Cd BJ rfl rfl rfl (B9 1 ht underlying24 BR rfl rfl rfl rfl ?_);refine Cz 2 ht 0 (U.Ai K) Cv rfl rfl rfl rfl (Ck 3 ht rfl rfl ?_);obtain⟨cI,cd,ce⟩:=bs cb;refine CN 4 (al.Ai (O.Ac K)) cd ht underlying22 BZ ?_;rintro cJ cK _ ⟨cM,cN,rfl,cf⟩ cg;refine Cz 5 ht 0 cg CZ rfl rfl rfl rfl (Cj [6,7] ?_);obtain⟨cO,ci,ck⟩:=bs ce;refine BH (ZM (al.Ai (O.Ac K)) (am.Ai (O.Ac K)) cf ci) rfl rfl (AV func114 rfl) a8 fun cP V bb=>zg 7 rfl (AM ck (fun cm cn=>?_) (fun cm co=>?_))
      ·refine zg 5 rfl ?_;obtain rfl:=oi cn;obtain rfl:=a0 _ Z;have cp:=elim_inl ap;obtain rfl:=oi cp;exact AB func68 rfl rfl (Y ((O.Ac K).Ac V) rfl ⟨rfl,rfl⟩ bb)
      ·refine zg 2 rfl (C5 7 fun ht=>?_);refine Fi 0 ht (U.Ai (K.Ac V)) Cd BJ rfl rfl rfl (Ck 1 ht rfl rfl ?_);refine B9 2 ht underlying24 BR rfl rfl rfl rfl (Cz 3 ht 1 (U.Ai (K.Ac V)) Cv rfl rfl rfl rfl ?_);refine Ck 4 ht rfl rfl ?_;obtain⟨cQ,cq,cr⟩:=bs co;refine CN 5 (am.Ai ((O.Ac K).Ac V)) cq ht underlying22 BZ ?_;rintro cR cT _ ⟨cV,cW,rfl,ct⟩ cu;refine Cz 6 ht 0 cu CZ rfl rfl rfl rfl (Cj [7,8] ?_);obtain⟨cX,cv,cw⟩:=bs cr;refine BH (YT (al.Ai ((O.Ac K).Ac V)) (am.Ai ((O.Ac K).Ac V)) ct cv) rfl rfl (AV func115 rfl) bb fun cY bd be=>zg 7 rfl (AM cw (fun cy cz=>?_) (fun cy cA=>?_))
       ·refine zg 5 rfl ?_;obtain rfl:=oi cz;obtain rfl:=a0 _ Z;have cB:=elim_inl ap;obtain rfl:=oi cB;exact AB func68 rfl rfl (Y (((O.Ac K).Ac V).Ac bd) rfl ⟨rfl,rfl⟩ be)
       ·obtain⟨cC,cD,cE⟩:=bs cA;refine zg 4 rfl (Ba cD rfl rfl rfl ?_);refine zg 2 rfl ?_;obtain rfl:=oi cE;exact b9 cC ((K.Ac V).Ac bd) be rfl Z
     ·refine JL.exit rfl ?_;obtain rfl:=oi cc;have cF:a5=(Sum.inr ()):=(a0 _ Z).symm;exact Ay (b7 _ _ ⟨(),b8,cF,rfl,rfl,K,a8⟩) rfl
def Ny(fuel:Nat)(p0:A9)(p1:AJ)(K:Int):Option (Bd Int ((Int)⊕(Unit))):= if K<(p1.length:Int) then((ix p1 K).bind fun O=> (f104 fuel O.1 0 6).bind fun U=> if(!U)=true then(some (.done (Sum.inl 1))) else(Option.bind (if 0<K then((ix p1 K).bind fun V=> (As (K - 1)).bind fun Y=> (ix p1 Y).bind fun Z=> some (decide (V.1<Z.1))) else(some false)) fun ag=> if ag=true then(some (.done (Sum.inl 5))) else((ix p1 K).bind fun al=> (As ((p0.1.length:Int) - 1)).bind fun am=> (f104 fuel al.2 0 am).bind fun ap=> if(!ap)=true then(some (.done (Sum.inl 3))) else((As (K+1)).bind fun av=> some (.more av))))) else(some (.done (Sum.inr ())))
def f70(fuel:Nat)(p0:A9)(p1:AJ):Option Int:= (f68 fuel p0).bind fun K=> if K≠0 then(some K) else(if 4<(p1.length:Int) then(some 6) else(Option.bind (iter (Ny fuel p0 p1) fuel 0) fun O=> Sum.elim (fun r=>some r) (fun U=> some 0) O))
theorem bj{a4:Ap}{c2:Nat}{a5:Ap}{a6:Nat}{al:Ap}{am:Nat}{p0:A9}{p1:AJ}(bW:Al (rL rI) E a4 c2 p0.1)(bY:Al (rL rI) E a5 a6 p0.2)(ap:Al Bg E al am p1){fuel:Nat}{r:Int}(a7:f70 fuel p0 p1=some r):AN J 70 [.agg #[sV a4 p0.1 c2,sV a5 p0.2 a6],sV al p1 am] E [] (fun w E' B'=>w=iV r∧B'= []):=by
 refine A3 func70 fun Q da cs H bZ Y=>?_;unfold f70 at a7;refine zg 2 rfl (Ca bZ fun a8 db K a9 b0=>?_);refine zg 5 rfl (BX a9 Cd BJ rfl rfl ?_);obtain⟨dc,b1,b2⟩:=bs a7;refine BH (bC (bW.Ai K) (bY.Ai K) b1) rfl rfl (AV func68 rfl) b0 fun b3 O a1=>zg 7 rfl (AM b2 (fun b4 b5=>?_) (fun b4 b6=>?_))
 ·refine zg 5 rfl ?_;obtain rfl:=oi b5;exact AB func70 rfl rfl (Y (K.Ac O) rfl ⟨rfl,rfl⟩ a1)
 ·refine zg 5 rfl (Bh underlying25 rfl rfl rfl ?_);refine zg 2 rfl (AM b6 (fun b7 b8=>?_) (fun b7 b9=>?_))
  ·refine zg 4 rfl ?_;obtain rfl:=oi b8;exact AB func70 rfl rfl (Y (K.Ac O) rfl ⟨rfl,rfl⟩ a1)
  ·obtain⟨bb,ca,av⟩:=bs b9;refine zg 6 rfl (Bt (fun L s=>∃(bd:Unit) (be:LH),bb=Sum.inr bd∧Jm b3 H be [] [] L s) ?_ ?_)
   ·rintro _ _ ⟨bd,be,rfl,rfl,rfl,cb,cc⟩;have cd:=elim_inr av;refine zg 4 rfl ?_;obtain rfl:=oi cd;exact AB func70 rfl rfl (Y ((K.Ac O).Ac cb) rfl ⟨rfl,rfl⟩ cc)
   ·intro ce;refine JL.block (Cp ca (fun ag=> []) (fun ag=> [(1,sV al p1 am),(2,pV a8 0),(6,iV ag)]) Ar a1 ?_);rintro ag cf U bi a0 ⟨dd,Z⟩ cg;have bo:=Z;unfold Ny at bo;refine zg 5 rfl (Bh underlying25 rfl rfl rfl ?_);refine zg 2 rfl (AM bo (fun ci ck=>?_) (fun ci cm=>?_))
    ·obtain⟨de,cn,co⟩:=bs ck;refine zg 8 rfl (Ce (ap.Ai ((K.Ac O).Ac U)) cn underlying25 BF ?_);rintro df dg _ ⟨_,_,rfl,rfl,rfl⟩ cp;refine JL.fl 0 cp underlying27 AX By ?_;obtain⟨cq,cr,ct⟩:=bs co;refine BH (NG cr) rfl rfl Mg bi fun cu V a2=>AF (v:= .bool (!cq)) rfl (fun ρ h=>Yl.not (h _ _ rfl)) (JL.done ?_);refine BI ct (fun cv cw=>?_) (fun cv cy=>?_)
     ·refine zg 4 rfl ?_;obtain rfl:=oi cw;obtain rfl:=a0 _ Z;have cz:=elim_inl av;obtain rfl:=oi cz;exact AB func70 rfl rfl (Y (((K.Ac O).Ac U).Ac V) rfl ⟨rfl,rfl⟩ a2)
     ·refine zg 3 rfl (C5 16 fun ht=>?_);refine AZ ht rfl [0,1,2] rfl ?_;obtain⟨cA,bv,cB⟩:=bs cy;refine Eg 0 #[true,true,true,true,true,true,true,true,true,true,true,true,true,true,true,true] (fun L s=>L= [(1,sV al p1 am),(2,pV a8 0),(6,iV ag),(43,.bool cA)]∧s=An cu H [[]]) ?_ ?_
      ·rintro _ _ ⟨rfl,rfl⟩;refine AY.fin (by decide+kernel) (BI cB (fun cC cD=>?_) (fun cC cE=>?_))
       ·refine zg 4 rfl ?_;obtain rfl:=oi cD;obtain rfl:=a0 _ Z;have cF:=elim_inl av;obtain rfl:=oi cF;exact AB func70 rfl rfl (Y (((K.Ac O).Ac U).Ac V) rfl ⟨rfl,rfl⟩ a2)
       ·refine zg 2 rfl (C5 9 fun ht=>?_);refine AZ ht rfl [0,1] rfl ?_;obtain⟨dh,cG,cH⟩:=bs cE;refine CN 2 (ap.Ai (((K.Ac O).Ac U).Ac V)) cG ht underlying25 BF ?_;rintro di dj _ ⟨_,_,rfl,rfl,rfl⟩ cI;refine B9 3 ht underlying27 AX rfl rfl rfl rfl (Cz 4 ht 1 cI By rfl rfl rfl rfl ?_);refine B9 5 ht underlying24 BR rfl rfl rfl rfl (Cz 6 ht 0 (a9.Ai ((O.Ac U).Ac V)) Cv rfl rfl rfl rfl ?_);refine BA 7 ht rfl rfl (fun ρ h s' hs=>Yl.len rfl underlying22 (h _ _ rfl)) ?_;obtain⟨dk,cJ,cK⟩:=bs cH;refine BA 8 ht rfl rfl (fun ρ h s' hs=>Da (h _ _ rfl) (h _ _ rfl) cJ) (Cj [9,10] ?_);obtain⟨cM,cN,cO⟩:=bs cK;refine BH (NG cN) rfl rfl Mg a2 fun dl bw bU=>AF (v:= .bool (!cM)) rfl (fun ρ h=>Yl.not (h _ _ rfl)) (JL.done ?_);refine BI cO (fun cP cQ=>?_) (fun cP cR=>?_)
        ·refine zg 4 rfl ?_;obtain rfl:=oi cQ;obtain rfl:=a0 _ Z;have cT:=elim_inl av;obtain rfl:=oi cT;exact AB func70 rfl rfl (Y ((((K.Ac O).Ac U).Ac V).Ac bw) rfl ⟨rfl,rfl⟩ bU)
        ·obtain⟨cV,cW,cX⟩:=bs cR;refine zg 4 rfl (Ba cW rfl rfl rfl ?_);refine zg 2 rfl ?_;obtain rfl:=oi cX;exact cg cV ((U.Ac V).Ac bw) bU rfl Z
      ·intro bV;refine EW (q:=0<ag) (i:=30) rfl (fun a3=>?_) (fun a3=>?_)
       ·have cY:=ip bv a3;refine AZ ht rfl [3,4] rfl ?_;obtain⟨dm,cZ,c0⟩:=bs cY;refine CN 5 (ap.Ai (((K.Ac O).Ac U).Ac V)) cZ ht underlying25 BF ?_;rintro dn dp _ ⟨_,_,rfl,rfl,rfl⟩ c1;refine B9 6 ht underlying27 AX rfl rfl rfl rfl ?_;refine Cz 7 ht 0 c1 By rfl rfl rfl rfl ?_;refine AZ ht rfl [8,9] rfl ?_;obtain⟨dq,c3,c4⟩:=bs c0;refine BA 10 ht rfl rfl (fun ρ h s' hs=>Da (h _ _ rfl) (h _ _ rfl) c3) ?_;obtain⟨dr,c5,c6⟩:=bs c4;refine CN 11 (ap.Ai (((K.Ac O).Ac U).Ac V)) c5 ht underlying25 BF ?_;rintro dt du _ ⟨_,_,rfl,rfl,rfl⟩ c7;refine B9 12 ht underlying27 AX rfl rfl rfl rfl ?_;refine Cz 13 ht 0 c7 By rfl rfl rfl rfl ?_;refine AZ ht rfl [14,15] rfl ?_;obtain rfl:=oi c6;refine CH ?_ (bV _ _ ⟨rfl,rfl⟩);exact⟨rfl,rfl,rfl,rfl,trivial⟩
       ·have c8:=im bv a3;refine AZ ht rfl [3,4,5,6,7,8,9,10,11,12,13,14,15] rfl ?_;obtain rfl:=oi c8;refine CH ?_ (bV _ _ ⟨rfl,rfl⟩);exact⟨rfl,rfl,rfl,rfl,trivial⟩
    ·refine JL.exit rfl ?_;obtain rfl:=oi cm;have c9:bb=(Sum.inr ()):=(a0 _ Z).symm;exact Ay (ce _ _ ⟨(),cf,c9,rfl,rfl,U,bi⟩) rfl
def J1(fuel:Nat)(p0:A9)(p1:List Bool)(O:(List Bool)×Int)(K:(List Bool)×Int):Option (Bd ((List Bool)×Int) ((List Bool))):= (ix p0.1 O.2).bind fun V=> Option.bind (if K.2<(V.length:Int) then((ix p1 O.2).bind fun Y=> some Y) else(some false)) fun Z=> if Z=true then((ix p0.1 O.2).bind fun ag=> (ix ag K.2).bind fun U=> (ix K.1 U).bind fun am=> (As (K.2+1)).bind fun al=> some (.more ((K.1.set (Int.toNat U) true),al))) else(some (.done K.1))
def M4(fuel:Nat)(p0:A9)(p1:List Bool)(K:(List Bool)×Int):Option (Bd ((List Bool)×Int) ((List Bool))):= if K.2<(p1.length:Int) then(Option.bind (iter (J1 fuel p0 p1 K) fuel (K.1,0)) fun O=> (As (K.2+1)).bind fun U=> some (.more (O,U))) else(some (.done K.1))
def f119(fuel:Nat)(p0:A9)(p1:List Bool):Option ((List Bool)):= (F9 (p1.length:Int) (false:Bool)).bind fun K=> Option.bind (iter (M4 fuel p0 p1) fuel (K,0)) fun O=> some O
theorem Zc{bo:Ap}{c2:Nat}{b0:Ap}{b1:Nat}{Y:Ap}{Z:Nat}{p0:A9}{p1:List Bool}(b2:Al (rL rI) E bo c2 p0.1)(dG:Al (rL rI) E b0 b1 p0.2)(cm:Al rB E Y Z p1){fuel:Nat}{r:(List Bool)}(b3:f119 fuel p0 p1=some r):AN J 119 [.agg #[sV bo p0.1 c2,sV b0 p0.2 b1],sV Y p1 Z] E [] (fun w E' B'=>∃(b4:Ap) (b5:Nat),w= sV b4 r b5∧B'= []∧Al rB E' b4 b5 r):=by
 refine A3 func119 fun Q dH cs H cn co=>?_;unfold f119 at b3;refine zg 2 rfl (Ca cn fun ap bv a6 b6 cp=>?_);refine zg 5 rfl (Bh underlying68 rfl rfl rfl ?_);obtain⟨cq,cr,ct⟩:=bs b3;refine JS.make (pp:=rB) cr rfl rfl rfl rfl rfl underlying68 Iq (Cy type4) (by decide) (DG type4) (by decide) rfl cp fun cu cv cw cy=>?_;obtain⟨b7,cz,cA⟩:=bs ct;refine zg 7 rfl (Bt (fun L s=>∃(bw:LH) (a7:Ap) (a8:Nat) (bU:Seg),Jn bv H bw [bU] [(5,sV a7 b7 a8)] L s (OL 4 rB bw a7 a8 bU b7)) ?_ ?_)
 ·rintro _ _ ⟨bw,a7,a8,bU,rfl,rfl,cB,cC,cD⟩;refine zg 5 rfl (BU 0 cD cC rfl fun dI cE cF cG=>?_);obtain rfl:=oi cA;exact AB func119 rfl rfl (co ((a6.Ac cB).Ac cE) rfl ⟨a7,a8,rfl,rfl,cF⟩ cG)
 ·intro cH;refine JL.block (CV cz (fun L s O=>∃(ag:LH) (a1:Ap) (a2:Nat) (a3:Seg),Jn bv H ag [a3] [(1,sV Y p1 Z),(2,pV ap 0),(5,sV a1 O.1 a2),(6,iV O.2)] L s (OL 4 rB ag a1 a2 a3 O.1)) ⟨bv,(A0 cu),cq.length,cv,rfl,rfl,Ar,cy,cw⟩ ?_);rintro _ _ O ⟨ag,a1,a2,a3,rfl,rfl,al,b8,b9⟩ cI ⟨dJ,bV⟩ cJ;have ca:=bV;unfold M4 at ca;refine zg 5 rfl (Bh underlying68 rfl rfl rfl ?_);refine zg 2 rfl (AM ca (fun cK cM=>?_) (fun cK cN=>?_))
  ·obtain⟨bW,cO,cP⟩:=bs cM;refine zg 7 rfl (Bt (fun L s=>∃(a9:LH) (bb:Ap) (bd:Nat) (be:Seg),Jn ag H a9 [be] [(1,sV Y p1 Z),(2,pV ap 0),(5,sV bb bW bd),(6,iV O.2)] L s (OL 4 rB a9 bb bd be bW)) ?_ ?_)
   ·rintro _ _ ⟨a9,bb,bd,be,rfl,rfl,cQ,cR,cT⟩;obtain⟨cV,cW,cX⟩:=bs cP;refine zg 3 rfl (Ba cW rfl rfl rfl ?_);refine zg 2 rfl ?_;obtain rfl:=oi cX;exact Ay (cJ _ _ (bW,cV) ⟨a9,bb,bd,be,rfl,rfl,(al.Ac cQ),cR,cT⟩ bV) rfl
   ·intro cY;refine JL.block (CV cO (fun L s K=>∃(av:LH) (U:Ap) (V:Nat) (a4:Seg),Jn ag H av [a4] [(1,sV Y p1 Z),(2,pV ap 0),(5,sV U K.1 V),(6,iV O.2),(7,iV K.2)] L s (OL 4 rB av U V a4 K.1)) ⟨ag,a1,a2,a3,rfl,rfl,Ar,b8,b9⟩ ?_);rintro _ _ K ⟨av,U,V,a4,rfl,rfl,am,cb,cc⟩ cZ ⟨dK,bY⟩ c0;have cd:=bY;unfold J1 at cd;refine zg 4 rfl (JL.fl 0 (b6.Ai (al.Ac am)) underlying24 BR Cv ?_);obtain⟨dL,c1,c3⟩:=bs cd;refine zg 1 rfl (Ce (b2.Ai ((a6.Ac al).Ac am)) c1 underlying22 BZ ?_);rintro dM dN _ ⟨dO,dP,rfl,dQ⟩ c4;refine B4 0 c4 CZ rfl rfl rfl (Bh underlying28 rfl rfl rfl ?_);obtain⟨ce,c5,c6⟩:=bs c3;refine zg 2 rfl (EY [] (fun L s=>∃(bi:LH),Jm av H bi [a4] [(1,sV Y p1 Z),(2,pV ap 0),(5,sV U K.1 V),(6,iV O.2),(7,iV K.2),(30,.bool ce)] L s) ?_ ?_)
    ·rintro _ _ ⟨bi,rfl,rfl,a0,cf⟩;refine JL.done (BI c6 (fun c7 c8=>?_) (fun c7 c9=>?_))
     ·refine zg 5 rfl (JL.fl 0 (b6.Ai ((al.Ac am).Ac a0)) underlying24 BR Cv ?_);obtain⟨da,db,dc⟩:=bs c8;refine zg 1 rfl (Ce (b2.Ai (((a6.Ac al).Ac am).Ac a0)) db underlying22 BZ ?_);rintro dd de _ ⟨df,dg,rfl,dh⟩ di;refine B4 0 di CZ rfl rfl rfl ?_;obtain⟨a5,dj,dk⟩:=bs dc;refine zg 1 rfl (Ce dh dj underlying28 AX ?_);rintro dl dm _ rfl dn;refine B4 0 dn By rfl rfl rfl ?_;obtain⟨dR,dp,dq⟩:=bs dk;refine I7 0 (cc.Ai a0) dp rfl rfl rfl rfl rfl rfl underlying68 Iq ?_;rintro cg bZ f141 _ dr rfl dS dt du dT dU;refine JS.store (v:= .bool true) (off:=bZ) 0 rfl rfl rfl cf rfl rfl Iq (by simp [Value.cells,CY]) dr (by have:=dt;simp only [Rp.n,rK,rN,rB,rP,rL] at this;show _+1≤_;omega) fun dv=>?_;have dw:=du true [.bool true] rfl;have ci:(K.1.set (Int.toNat a5) true).length=K.1.length:=List.length_set;refine Gn (L':= [(1,.slice Y p1.length Z),(2,pV ap 0),(5,.slice U ((K.1.set (Int.toNat a5) true)).length V),(6,iV O.2),(7,iV K.2),(30,.bool ce),(33,.slice U ((K.1.set (Int.toNat a5) true)).length V),(34,pV ap 0),(35,.slice bo p0.1.length c2),(36,iV O.2),(37,pV dd de),(38,.slice df da.length dg),(39,iV K.2),(40,pV dl dm),(41,iV a5),(42,pV cg bZ)]) ⟨rfl,rfl,by rw [ci];rfl,rfl,rfl,rfl,by rw [ci];rfl,rfl,rfl,rfl,rfl,rfl,rfl,rfl,rfl,rfl,trivial⟩ ?_;obtain⟨dx,dy,dz⟩:=bs dq;refine zg 4 rfl (Ba dy rfl rfl rfl ?_);refine zg 2 rfl ?_;obtain rfl:=oi dz;exact Ay (c0 _ _ ((K.1.set (Int.toNat a5) true),dx) ⟨bi,U,V,[(cg,.cells (A2 f141 bZ [.bool true]) 4 (0,0))],rfl,rfl,(am.Ac a0),dv,dw⟩ bY) rfl
     ·refine JL.exit rfl ?_;obtain rfl:=oi c9;obtain rfl:=cZ _ bY;exact Ay (cY _ _ ⟨bi,U,V,a4,rfl,rfl,(am.Ac a0),cf,(cc.Ai a0)⟩) rfl
    ·intro ck;refine Es 25 c5 (fun dA dB=>?_) (fun dA dC=>?_)
     ·obtain⟨dV,dD,dE⟩:=bs dB;refine zg 2 rfl (Ce (cm.Ai ((a6.Ac al).Ac am)) dD underlying68 Iq ?_);rintro dW dX _ rfl dF;refine B4 0 dF (DI underlying4) rfl rfl rfl (zg 1 rfl ?_);obtain rfl:=oi dE;exact Ay (ck _ _ ⟨av,rfl,rfl,Ar,cb⟩) rfl
     ·refine zg 5 rfl ?_;obtain rfl:=oi dC;exact Ay (ck _ _ ⟨av,rfl,rfl,Ar,cb⟩) rfl
  ·refine JL.exit rfl ?_;obtain rfl:=oi cN;obtain rfl:=cI _ bV;exact Ay (cH _ _ ⟨ag,a1,a2,a3,rfl,rfl,al,b8,b9⟩) rfl
def Nq(fuel:Nat)(p0:A9)(p1:Int)(K:(List Bool)×Int):Option (Bd ((List Bool)×Int) ((List Bool))):= if K.2<p1 then((f119 fuel p0 K.1).bind fun O=> (As (K.2+1)).bind fun U=> some (.more (O,U))) else(some (.done K.1))
def f82(fuel:Nat)(p0:A9)(p1:Int):Option ((List Bool)):= (F9 (p0.1.length:Int) (false:Bool)).bind fun K=> (ix K (0)).bind fun U=> Option.bind (iter (Nq fuel p0 p1) fuel ((K.set (Int.toNat 0) true),0)) fun O=> some O
theorem bL{U:Ap}{c2:Nat}{av:Ap}{a0:Nat}{p0:A9}{p1:Int}(bw:Al (rL rI) E U c2 p0.1)(bU:Al (rL rI) E av a0 p0.2){fuel:Nat}{r:(List Bool)}(a6:f82 fuel p0 p1=some r):AN J 82 [.agg #[sV U p0.1 c2,sV av p0.2 a0],iV p1] E [] (fun w E' B'=>∃(a7:Ap) (a8:Nat),w= sV a7 r a8∧B'= []∧Al rB E' a7 a8 r):=by
 refine A3 func82 fun Q cH cs H bV bW=>?_;unfold f82 at a6;refine zg 2 rfl (Ca bV fun a1 a9 a2 bb bY=>?_);refine zg 4 rfl (JL.fl 0 bb underlying24 BR Cv ?_);refine Bh underlying22 rfl rfl rfl ?_;obtain⟨K,bZ,b0⟩:=bs a6;refine JS.make (pp:=rB) bZ rfl rfl rfl rfl rfl underlying68 Iq (Cy type4) (by decide) (DG type4) (by decide) rfl bY fun V cI b1 b2=>?_;obtain⟨cJ,b3,b4⟩:=bs b0;refine zg 5 rfl (I7 2 b1 b3 rfl rfl rfl rfl rfl rfl underlying68 Iq ?_);rintro b5 bd f24 _ b6 rfl cK b7 b8 cM cN;refine JS.store (v:= .bool true) (off:=bd) 2 rfl rfl rfl b2 rfl rfl Iq (by simp [Value.cells,CY]) b6 (by have:=b7;simp only [Rp.n,rK,rN,rB,rP,rL] at this;show _+1≤_;omega) fun b9=>?_;have ca:=b8 true [.bool true] rfl;have a3:(K.set (Int.toNat 0) true).length=K.length:=List.length_set;refine Gn (L':= [(0,.agg #[.slice U p0.1.length c2,.slice av p0.2.length a0]),(1,iV p1),(2,pV a1 0),(4,.slice none 0 0),(7,pV a1 0),(8,.slice U p0.1.length c2),(9,iV (p0.1.length:Int)),(10,.slice (A0 V) ((K.set (Int.toNat 0) true)).length K.length),(5,.slice (A0 V) ((K.set (Int.toNat 0) true)).length K.length),(11,.slice (A0 V) ((K.set (Int.toNat 0) true)).length K.length),(12,pV b5 bd)]) ⟨rfl,rfl,rfl,rfl,rfl,rfl,rfl,by rw [a3];rfl,by rw [a3];rfl,by rw [a3];rfl,rfl,trivial⟩ ?_;obtain⟨be,cb,cc⟩:=bs b4;refine zg 6 rfl (Bt (fun L s=>∃(a4:LH) (Y:Ap) (Z:Nat),Jn a9 H a4 [] [(5,sV Y be Z)] L s (Al rB a4 Y Z be)) ?_ ?_)
 ·rintro _ _ ⟨a4,Y,Z,rfl,rfl,cd,ce,cf⟩;refine zg 5 rfl ?_;obtain rfl:=oi cc;exact AB func82 rfl rfl (bW (a2.Ac cd) rfl ⟨Y,Z,rfl,rfl,cf⟩ ce)
 ·intro cg;refine JL.block (BU 2 ca b9 rfl fun ci ck cm cn=>?_);refine CV cb (fun L s ag=>∃(al:LH) (am:Ap) (ap:Nat),Jn a9 H al [] [(1,iV p1),(2,pV a1 0),(5,sV am ag.1 ap),(6,iV ag.2)] L s (Al rB al am ap ag.1)) ⟨ci,(A0 V),K.length,rfl,rfl,ck,cn,cm⟩ ?_;rintro _ _ ag ⟨al,am,ap,rfl,rfl,O,bi,bo⟩ co ⟨cO,a5⟩ cp;have bv:=a5;unfold Nq at bv;refine zg 7 rfl (AM bv (fun cq cr=>?_) (fun cq ct=>?_))
  ·refine zg 4 rfl (BX (bb.Ai O) Cd BJ rfl rfl ?_);obtain⟨cu,cv,cw⟩:=bs cr;refine zg 1 rfl (BN (Zc (bw.Ai (a2.Ac O)) (bU.Ai (a2.Ac O)) bo cv) rfl rfl (AV func119 rfl) bi ?_);rintro _ cy _ cz ⟨cA,cB,rfl,rfl,cC⟩ cD;obtain⟨cE,cF,cG⟩:=bs cw;refine zg 5 rfl (Ba cF rfl rfl rfl ?_);refine zg 2 rfl ?_;obtain rfl:=oi cG;exact Ay (cp _ _ (cu,cE) ⟨cy,cA,cB,rfl,rfl,(O.Ac cz),cD,cC⟩ a5) rfl
  ·refine JL.exit rfl ?_;obtain rfl:=oi ct;obtain rfl:=co _ a5;exact Ay (cg _ _ ⟨al,am,ap,rfl,rfl,O,bi,bo⟩) rfl
def M3(fuel:Nat)(p0:List Int)(p1:Int)(K:Int):Option (Bd Int ((Bool)⊕(Unit))):= if K<(p0.length:Int) then((ix p0 K).bind fun O=> if O=p1 then(some (.done (Sum.inl true))) else((As (K+1)).bind fun U=> some (.more U))) else(some (.done (Sum.inr ())))
def f137(fuel:Nat)(p0:List Int)(p1:Int):Option Bool:= Option.bind (iter (M3 fuel p0 p1) fuel 0) fun K=> Sum.elim (fun r=>some r) (fun O=> some false) K
theorem YW{U:Ap}{c2:Nat}{p0:List Int}{p1:Int}(a2:Al rI E U c2 p0){fuel:Nat}{r:Bool}(Z:f137 fuel p0 p1=some r):AN J 137 [sV U p0 c2,iV p1] E [] (fun w E' B'=>w= .bool r∧B'= []):=by
 refine A3 func137 fun Q b3 cs H a3 ag=>?_;unfold f137 at Z;obtain⟨al,a4,am⟩:=bs Z;refine zg 9 rfl (Bt (fun L s=>∃(ap:Unit) (av:LH),al=Sum.inr ap∧Jm E H av [] [] L s) ?_ ?_)
 ·rintro _ _ ⟨ap,av,rfl,rfl,rfl,a5,a6⟩;have a7:=elim_inr am;refine zg 4 rfl ?_;obtain rfl:=oi a7;exact AB func137 rfl rfl (ag a5 rfl ⟨rfl,rfl⟩ a6)
 ·intro a8;refine JL.block (Cp a4 (fun V=> []) (fun V=> [(0,sV U p0 c2),(1,iV p1),(5,iV V)]) Ar a3 ?_);rintro V a9 K Y a0 ⟨b4,O⟩ bb;have a1:=O;unfold M3 at a1;refine zg 5 rfl (Bh underlying28 rfl rfl rfl ?_);refine zg 2 rfl (AM a1 (fun bd be=>?_) (fun bd bi=>?_))
  ·obtain⟨b5,bo,bv⟩:=bs be;refine zg 7 rfl (Ce (a2.Ai K) bo underlying28 AX ?_);rintro b6 b7 _ rfl bw;refine B4 0 bw By rfl rfl rfl (zg 3 rfl ?_);refine AM bv (fun bU bV=>?_) (fun bU bW=>?_)
   ·refine zg 4 rfl ?_;obtain rfl:=oi bV;obtain rfl:=a0 _ O;have bY:=elim_inl am;obtain rfl:=oi bY;exact AB func137 rfl rfl (ag K rfl ⟨rfl,rfl⟩ Y)
   ·obtain⟨bZ,b0,b1⟩:=bs bW;refine zg 4 rfl (Ba b0 rfl rfl rfl ?_);refine zg 2 rfl ?_;obtain rfl:=oi b1;exact bb bZ K Y rfl O
  ·refine JL.exit rfl ?_;obtain rfl:=oi bi;have b2:al=(Sum.inr ()):=(a0 _ O).symm;exact Ay (a8 _ _ ⟨(),a9,b2,rfl,rfl,K,Y⟩) rfl
def MU(fuel:Nat)(p0:A9)(p1:AJ)(p2:Int)(p3:Int)(p4:Int)(K:Int×Int):Option (Bd (Int×Int) ((Int)⊕(Int))):= if K.2<(p1.length:Int) then(Option.bind ((ix p1 K.2).bind fun O=> Option.bind (if O.1≠p3 then(some true) else(some (decide (O.2=p4)))) fun U=> if U=true then(some (Sum.inr K.1)) else(Option.bind (if K.2=p2 then(some true) else((ix p0.2 p4).bind fun V=> (f137 fuel V O.2).bind fun Y=> some (!Y))) fun Z=> if Z=true then(some (Sum.inl 100)) else((As (K.1+1)).bind fun ag=> some (Sum.inr ag)))) fun al=>Sum.elim (fun r=>some (.done (Sum.inl r))) (fun am=> (As (K.2+1)).bind fun ap=> some (.more (am,ap))) al) else(some (.done (Sum.inr K.1)))
def f118(fuel:Nat)(p0:A9)(p1:AJ)(p2:Int)(p3:Int)(p4:Int):Option Int:= Option.bind (iter (MU fuel p0 p1 p2 p3 p4) fuel (0,0)) fun K=> Sum.elim (fun r=>some r) (fun O=> some O) K
theorem Z9{a6:Ap}{c2:Nat}{a7:Ap}{a8:Nat}{O:Ap}{U:Nat}{p0:A9}{p1:AJ}{p2:Int}{p3:Int}{p4:Int}(dh:Al (rL rI) E a6 c2 p0.1)(b5:Al (rL rI) E a7 a8 p0.2)(b6:Al Bg E O U p1){fuel:Nat}{r:Int}(a9:f118 fuel p0 p1 p2 p3 p4=some r):AN J 118 [.agg #[sV a6 p0.1 c2,sV a7 p0.2 a8],sV O p1 U,iV p2,iV p3,iV p4] E [] (fun w E' B'=>w=iV r∧B'= []):=by
 refine A3 func118 fun Q di cs H b7 bb=>?_;unfold f118 at a9;refine zg 2 rfl (Ca b7 fun al b8 am b9 ca=>?_);obtain⟨bd,cb,be⟩:=bs a9;refine zg 11 rfl (Bt (fun L s=>∃(a0:Int) (bi:LH),bd=Sum.inr a0∧Jm b8 H bi [] [(11,iV a0)] L s) ?_ ?_)
 ·rintro _ _ ⟨a0,bi,rfl,rfl,rfl,cc,cd⟩;have ce:=elim_inr be;refine zg 5 rfl ?_;obtain rfl:=oi ce;exact AB func118 rfl rfl (bb (am.Ac cc) rfl ⟨rfl,rfl⟩ cd)
 ·intro cf;refine JL.block (Cp cb (fun K=> []) (fun K=> [(1,sV O p1 U),(2,iV p2),(3,iV p3),(4,iV p4),(5,pV al 0),(11,iV K.1),(12,iV K.2)]) Ar ca ?_);rintro K bo V bv bw ⟨dj,ap⟩ cg;have bU:=ap;unfold MU at bU;refine zg 5 rfl (Bh underlying25 rfl rfl rfl ?_);refine zg 2 rfl (AM bU (fun ci ck=>?_) (fun ci cm=>?_))
  ·obtain⟨cn,co,bV⟩:=bs ck;refine zg 2 rfl (Bt (fun L s=>∃(av:Int) (bW:LH),cn=Sum.inr av∧Jm bo H bW [] [(1,sV O p1 U),(2,iV p2),(3,iV p3),(4,iV p4),(5,pV al 0),(11,iV av),(12,iV K.2)] L s) ?_ ?_)
   ·rintro _ _ ⟨av,bW,rfl,rfl,rfl,cp,cq⟩;have cr:=elim_inr bV;obtain⟨ct,cu,cv⟩:=bs cr;refine zg 2 rfl (Ba cu rfl rfl rfl ?_);refine zg 2 rfl ?_;obtain rfl:=oi cv;exact cg (av,ct) (V.Ac cp) cq rfl ap
   ·intro bY;obtain⟨cw,cy,cz⟩:=bs co;refine zg 5 rfl (Ce (b6.Ai (am.Ac V)) cy underlying25 BF ?_);rintro dk dl _ ⟨_,_,rfl,rfl,rfl⟩ cA;refine BX cA Gh BF rfl rfl (CW bv C7 fun cB cC=>?_);refine BW 0 cC BF fun cD=>?_;refine C8 0 cD rfl fun a1 Z a2 bZ=>zg 4 rfl (JL.fl 0 a2 underlying27 AX By ?_);obtain⟨cE,cF,cG⟩:=bs cz;refine zg 3 rfl (EY [] (fun L s=>∃(ag:LH),Jm a1 H ag [] [(1,sV O p1 U),(2,iV p2),(3,iV p3),(4,iV p4),(5,pV al 0),(11,iV K.1),(12,iV K.2),(13,pV cB 0),(33,.bool cE)] L s) ?_ ?_)
    ·rintro _ _ ⟨ag,rfl,rfl,Y,a3⟩;refine JL.done (BI cG (fun cH cI=>?_) (fun cH cJ=>?_))
     ·exact JL.exit rfl (Ay (bY _ _ ⟨K.1,ag,(Option.some.inj cI).symm,rfl,rfl,(Z.Ac Y),a3⟩) rfl)
     ·refine zg 3 rfl (C5 14 fun ht=>?_);refine AZ ht rfl [0,1,2,3] rfl ?_;obtain⟨cK,b0,cM⟩:=bs cJ;refine Eg 0 #[true,true,true,true,true,true,true,true,true,true,true,true,true,true] (fun L s=>∃(a4:LH),Jm ag H a4 [] [(1,sV O p1 U),(2,iV p2),(3,iV p3),(4,iV p4),(5,pV al 0),(11,iV K.1),(12,iV K.2),(47,.bool cK)] L s) ?_ ?_
      ·rintro _ _ ⟨a4,rfl,rfl,b1,b2⟩;refine AY.fin (by decide+kernel) (BI cM (fun cN cO=>?_) (fun cN cP=>?_))
       ·refine zg 4 rfl ?_;obtain rfl:=oi cO;have cQ:=elim_inl bV;obtain rfl:=oi cQ;obtain rfl:=bw _ ap;have cR:=elim_inl be;obtain rfl:=oi cR;exact AB func118 rfl rfl (bb ((((am.Ac V).Ac Z).Ac Y).Ac b1) rfl ⟨rfl,rfl⟩ b2)
       ·obtain⟨cT,cV,cW⟩:=bs cP;refine zg 3 rfl (Ba cV rfl rfl rfl ?_);exact zg 3 rfl (Ay (bY _ _ ⟨cT,a4,(Option.some.inj cW).symm,rfl,rfl,((Z.Ac Y).Ac b1),b2⟩) rfl)
      ·intro b3;refine EW (q:=K.2=p2) (i:=37) rfl (fun a5=>?_) (fun a5=>?_)
       ·have cX:=ip b0 a5;refine AZ ht rfl [4,5,6,7,8,9,10,11,12,13] rfl ?_;obtain rfl:=oi cX;refine CH ?_ (b3 _ _ ⟨ag,rfl,rfl,Ar,a3⟩);exact⟨rfl,rfl,rfl,rfl,rfl,rfl,rfl,rfl,trivial⟩
       ·have cY:=im b0 a5;refine B9 4 ht underlying24 BR rfl rfl rfl rfl ?_;refine Cz 5 ht 1 (b9.Ai ((V.Ac Z).Ac Y)) Cv rfl rfl rfl rfl ?_;refine Ck 6 ht rfl rfl ?_;obtain⟨cZ,c0,c1⟩:=bs cY;refine CN 7 (b5.Ai (((am.Ac V).Ac Z).Ac Y)) c0 ht underlying22 BZ ?_;rintro dm dn _ ⟨c3,c4,rfl,c5⟩ c6;refine Cz 8 ht 0 c6 CZ rfl rfl rfl rfl ?_;refine B9 9 ht underlying27 AX rfl rfl rfl rfl ?_;refine Cz 10 ht 1 (a2.Ai Y) By rfl rfl rfl rfl ?_;obtain⟨c7,c8,c9⟩:=bs c1;refine JG.call (i:=11) (vs:= [sV c3 cZ c4,iV cw.2]) (YW c5 c8) (by decide+kernel) rfl rfl rfl (AV func137 rfl) rfl a3 ?_;rintro _ da _ db ⟨rfl,rfl⟩ dc;refine BA (v:= .bool (!c7)) 12 ht rfl rfl (fun ρ h s' hs=>Yl.not (h _ _ rfl)) ?_;refine Ck 13 ht rfl rfl ?_;obtain rfl:=oi c9;refine CH ?_ (b3 _ _ ⟨da,rfl,rfl,db,dc⟩);exact⟨rfl,rfl,rfl,rfl,rfl,rfl,rfl,rfl,trivial⟩
    ·intro b4;refine Es 28 cF (fun dd de=>?_) (fun dd df=>?_)
     ·refine zg 5 rfl ?_;obtain rfl:=oi de;exact Ay (b4 _ _ ⟨a1,rfl,rfl,Ar,bZ⟩) rfl
     ·refine JL.fl 1 a2 underlying27 AX By ?_;refine zg 3 rfl ?_;obtain rfl:=oi df;exact Ay (b4 _ _ ⟨a1,rfl,rfl,Ar,bZ⟩) rfl
  ·refine JL.exit rfl ?_;obtain rfl:=oi cm;have dg:bd=(Sum.inr K.1):=(bw _ ap).symm;exact Ay (cf _ _ ⟨K.1,bo,dg,rfl,rfl,V,bv⟩) rfl
def f117(fuel:Nat)(p0:AJ):Option Int:= if(p0.length:Int)=0 then(some 0) else((As ((p0.length:Int) - 1)).bind fun K=> (ix p0 K).bind fun O=> some O.1)
theorem Y9{K:Ap}{c2:Nat}{p0:AJ}(Y:Al Bg E K c2 p0){fuel:Nat}{r:Int}(O:f117 fuel p0=some r):AN J 117 [sV K p0 c2] E [] (fun w E' B'=>w=iV r∧B'= []):=by
 refine A3 func117 fun Q a1 cs H U V=>?_;unfold f117 at O;refine zg 8 rfl (Bh underlying25 rfl rfl rfl ?_);refine zg 2 rfl (AM O (fun c4 Z=>?_) (fun c4 ag=>?_))
 ·refine zg 4 rfl ?_;obtain rfl:=oi Z;exact AB func117 rfl rfl (V Ar rfl ⟨rfl,rfl⟩ U)
 ·refine zg 5 rfl (Bh underlying25 rfl rfl rfl ?_);obtain⟨a2,al,am⟩:=bs ag;refine Cl al rfl rfl rfl ?_;obtain⟨a3,ap,av⟩:=bs am;refine Ce Y ap underlying25 BF ?_;rintro a4 a5 _ ⟨_,_,rfl,rfl,rfl⟩ a0;refine JL.fl 0 a0 underlying27 AX By ?_;refine zg 2 rfl ?_;obtain rfl:=oi av;exact AB func117 rfl rfl (V Ar rfl ⟨rfl,rfl⟩ U)
def NS(fuel:Nat)(p0:List (List Int))(p2:Int)(O:(List Int)×Int)(K:Bool×Int):Option (Bd (Bool×Int) Bool):= Option.bind (if K.2≤p2 then((ix p0 O.2).bind fun U=> some (decide (K.2<(U.length:Int)))) else(some false)) fun V=> if V=true then(Option.bind (if K.1=true then(some true) else((ix p0 O.2).bind fun Y=> (ix Y K.2).bind fun Z=> some (decide (0<Z)))) fun ag=> (As (K.2+1)).bind fun al=> some (.more (ag,al))) else(some (.done K.1))
def Nu(fuel:Nat)(p0:List (List Int))(p1:Int)(p2:Int)(K:(List Int)×Int):Option (Bd ((List Int)×Int) ((List Int))):= if K.2<(p0.length:Int) then(Option.bind (iter (NS fuel p0 p2 K) fuel (false,p1)) fun O=> Option.bind (if O=true then((room K.1 K.2).bind fun U=> some U) else(some K.1)) fun V=> (As (K.2+1)).bind fun Y=> some (.more (V,Y))) else(some (.done K.1))
def f81(fuel:Nat)(p0:List (List Int))(p1:Int)(p2:Int):Option ((List Int)):= Option.bind (iter (Nu fuel p0 p1 p2) fuel ([],0)) fun K=> some K
theorem TC{Y:Ap}{c2:Nat}{p0:List (List Int)}{p1:Int}{p2:Int}(bv:Al (rL rI) E Y c2 p0){fuel:Nat}{r:(List Int)}(bw:f81 fuel p0 p1 p2=some r):AN J 81 [sV Y p0 c2,iV p1,iV p2] E [] (fun w E' B'=>∃(bU:Ap) (bV:Nat),w= sV bU r bV∧B'= []∧Al rI E' bU bV r):=by
 refine A3 func81 fun Q dp cs H b8 b9=>?_;unfold f81 at bw;obtain⟨bW,ca,cb⟩:=bs bw;refine zg 13 rfl (Bt (fun L s=>∃(a4:LH) (ag:Ap) (al:Nat) (a5:Seg),Jn E H a4 [a5] [(7,sV ag bW al)] L s (OL 3 rI a4 ag al a5 bW)) ?_ ?_)
 ·rintro _ _ ⟨a4,ag,al,a5,rfl,rfl,cc,cd,ce⟩;refine zg 5 rfl (BU 0 ce cd rfl fun dq cf cg ci=>?_);obtain rfl:=oi cb;exact AB func81 rfl rfl (b9 (cc.Ac cf) rfl ⟨ag,al,rfl,rfl,cg⟩ ci)
 ·intro ck;refine JL.block (CV ca (fun L s K=>∃(am:LH) (O:Ap) (U:Nat) (V:Seg),Jn E H am [V] [(0,sV Y p0 c2),(1,iV p1),(2,iV p2),(7,sV O K.1 U),(8,iV K.2)] L s (OL 3 rI am O U V K.1)) ⟨E,none,0,[],rfl,rfl,Ar,b8,OL.nil⟩ ?_);rintro _ _ K ⟨am,O,U,V,rfl,rfl,ap,bY,a6⟩ cm ⟨dr,a7⟩ cn;have bZ:=a7;unfold Nu at bZ;refine zg 5 rfl (Bh underlying22 rfl rfl rfl ?_);refine zg 2 rfl (AM bZ (fun co cp=>?_) (fun co cq=>?_))
  ·obtain⟨cr,ct,cu⟩:=bs cp;refine zg 13 rfl (CK [V] [(0,sV Y p0 c2),(1,iV p1),(2,iV p2),(7,sV O K.1 U),(8,iV K.2),(9,.bool cr)] (fun a8 a9 b0=>?_) (fun cv=>?_))
   ·obtain⟨bb,cw,cy⟩:=bs cu;refine zg 4 rfl (Bt (fun L s=>∃(av:LH) (a0:Ap) (a1:Nat) (a2:Seg),Jn a8 H av [a2] [(0,sV Y p0 c2),(1,iV p1),(2,iV p2),(7,sV a0 bb a1),(8,iV K.2)] L s (OL 3 rI av a0 a1 a2 bb)) ?_ ?_)
    ·rintro _ _ ⟨av,a0,a1,a2,rfl,rfl,cz,cA,cB⟩;obtain⟨cC,cD,cE⟩:=bs cy;refine zg 3 rfl (Ba cD rfl rfl rfl ?_);refine zg 2 rfl ?_;obtain rfl:=oi cE;exact Ay (cn _ _ (bb,cC) ⟨av,a0,a1,a2,rfl,rfl,((ap.Ac a9).Ac cz),cA,cB⟩ a7) rfl
    ·intro b1;refine BI cw (fun cF cG=>?_) (fun cF cH=>?_)
     ·obtain⟨dt,cI,cJ⟩:=bs cG;refine zg 3 rfl (JS.app (pp:=rI) (v:=iV K.2) (a:=O) (c:=U) 0 cI rfl rfl rfl rfl (fun _=>rfl) rfl (fun _=>rfl) rfl rfl rfl underlying28 underlying28 underlying28 AX (Cy type3) CU rfl (by decide) (by decide) (by decide) (by decide) (a6.Ai a9) rfl b0 rfl fun du cK cM cN cO cP=>?_);refine zg 2 rfl ?_;obtain rfl:=oi cJ;exact Ay (b1 _ _ ⟨a8,cK,cM,cN,rfl,rfl,Ar,cP,cO⟩) rfl
     ·refine JL.skip ?_;obtain rfl:=oi cH;exact Ay (b1 _ _ ⟨a8,O,U,V,rfl,rfl,Ar,b0,(a6.Ai a9)⟩) rfl
   ·refine JL.block (Cp ct (fun Z=> [V]) (fun Z=> [(0,sV Y p0 c2),(1,iV p1),(2,iV p2),(7,sV O K.1 U),(8,iV K.2),(9,.bool Z.1),(10,iV Z.2)]) Ar bY ?_);rintro Z bd a3 b2 cQ ⟨dv,be⟩ cR;have b3:=be;unfold NS at b3;obtain⟨cT,cV,cW⟩:=bs b3;refine zg 7 rfl (EY [] (fun L s=>∃(b4:LH),Jm bd H b4 [V] [(0,sV Y p0 c2),(1,iV p1),(2,iV p2),(7,sV O K.1 U),(8,iV K.2),(9,.bool Z.1),(10,iV Z.2),(29,.bool cT)] L s) ?_ ?_)
    ·rintro _ _ ⟨b4,rfl,rfl,bi,bo⟩;refine JL.done (BI cW (fun cX cY=>?_) (fun cX cZ=>?_))
     ·obtain⟨b5,c0,c1⟩:=bs cY;refine zg 6 rfl (Dv 11 1 [V] [(0,sV Y p0 c2),(1,iV p1),(2,iV p2),(7,sV O K.1 U),(8,iV K.2),(10,iV Z.2),(42,.bool b5)] (fun dw c3 c4=>?_) (fun b6=>?_))
      ·obtain⟨c5,c6,c7⟩:=bs c1;refine zg 5 rfl (Ba c6 rfl rfl rfl ?_);refine zg 2 rfl ?_;obtain rfl:=oi c7;exact cR (b5,c5) ((a3.Ac bi).Ac c3) c4 rfl be
      ·refine DU 33 c0 (fun c8 c9=>?_) (fun c8 da=>?_)
       ·refine zg 9 rfl ?_;obtain rfl:=oi c9;exact b6 Ar bo rfl
       ·obtain⟨dx,db,dc⟩:=bs da;refine zg 2 rfl (Ce (bv.Ai ((ap.Ac a3).Ac bi)) db underlying22 BZ ?_);rintro dy dz _ ⟨dA,dB,rfl,dd⟩ de;refine B4 0 de CZ rfl rfl rfl ?_;obtain⟨dC,df,dg⟩:=bs dc;refine zg 1 rfl (Ce dd df underlying28 AX ?_);rintro dD dE _ rfl dh;refine B4 0 dh By rfl rfl rfl (zg 2 rfl ?_);obtain rfl:=oi dg;exact b6 Ar bo rfl
     ·refine JL.exit rfl ?_;obtain rfl:=oi cZ;obtain rfl:=cQ _ be;exact cv (a3.Ac bi) bo rfl
    ·intro b7;refine Es 21 cV (fun di dj=>?_) (fun di dk=>?_)
     ·obtain⟨dF,dl,dm⟩:=bs dj;refine zg 3 rfl (Ce (bv.Ai (ap.Ac a3)) dl underlying22 BZ ?_);rintro dG dH _ ⟨dI,dJ,rfl,dK⟩ dn;refine B4 0 dn CZ rfl rfl rfl (Bh underlying28 rfl rfl rfl ?_);refine zg 2 rfl ?_;obtain rfl:=oi dm;exact Ay (b7 _ _ ⟨bd,rfl,rfl,Ar,b2⟩) rfl
     ·refine zg 8 rfl ?_;obtain rfl:=oi dk;exact Ay (b7 _ _ ⟨bd,rfl,rfl,Ar,b2⟩) rfl
  ·refine JL.exit rfl ?_;obtain rfl:=oi cq;obtain rfl:=cm _ a7;exact Ay (ck _ _ ⟨am,O,U,V,rfl,rfl,ap,bY,a6⟩) rfl
def f71(fuel:Nat):Option ((A9)):= some (([([1]:List Int),([2]:List Int),([3,4]:List Int),([4]:List Int),([5]:List Int),([5]:List Int)]:List (List Int)),([[],[],[],([2]:List Int),([2,3]:List Int),([3,4]:List Int)]:List (List Int)))
theorem IG{fuel:Nat}{r:(A9)}(a2:f71 fuel=some r):AN J 71 [] E [] (fun w E' B'=>∃(a3:Ap) (a4:Nat) (a5:Ap) (a6:Nat),w= .agg #[sV a3 r.1 a4,sV a5 r.2 a6]∧B'= []∧Al (rL rI) E' a3 a4 r.1∧Al (rL rI) E' a5 a6 r.2):=by
 refine A3 func71 fun Q c9 cs H bw bU=>?_;unfold f71 at a2;refine zg 2 rfl (CW bw GZ fun K bV=>?_);refine zg 3 rfl (DK (pp:=rI) [iV 1] [1] rfl rfl rfl underlying28 AX CU (by decide) rfl rfl rfl ⟨rfl,trivial⟩ bV fun bW a7 bY bZ=>?_);refine DK (pp:=rI) [iV 2] [2] rfl rfl rfl underlying28 AX CU (by decide) rfl rfl rfl ⟨rfl,trivial⟩ bZ fun b0 a8 b1 b2=>Cw (S':= [[],[(K,.cells #[nS,nS] 24 (0,0))],a7,a8]) rfl b2 fun b3=>DK (pp:=rI) [iV 3,iV 4] [3,4] rfl rfl rfl underlying28 AX CU (by decide) rfl rfl rfl ⟨rfl,rfl,trivial⟩ b3 fun b4 a9 b5 b6=>DK (pp:=rI) [iV 4] [4] rfl rfl rfl underlying28 AX CU (by decide) rfl rfl rfl ⟨rfl,trivial⟩ b6 fun b7 bb b8 b9=>DK (pp:=rI) [iV 5] [5] rfl rfl rfl underlying28 AX CU (by decide) rfl rfl rfl ⟨rfl,trivial⟩ b9 fun ca bd cb cc=>Cw (S':= [[],[(K,.cells #[nS,nS] 24 (0,0))],a7,a8,a9,bb,bd]) rfl cc fun cd=>DK (pp:=rI) [iV 5] [5] rfl rfl rfl underlying28 AX CU (by decide) rfl rfl rfl ⟨rfl,trivial⟩ cd fun ce be cf cg=>BU 2 bY cg rfl fun da O ci ck=>BU 3 (b1.Ai O) ck rfl fun db U cm cn=>Cw (S':= [[],[(K,.cells #[nS,nS] 24 (0,0))],[],[],a9,bb,bd,be]) rfl cn fun co=>BU 4 (b5.Ai (O.Ac U)) co rfl fun dc V cp cq=>BU 5 (b8.Ai ((O.Ac U).Ac V)) cq rfl fun dd Y cr ct=>BU 6 (cb.Ai (((O.Ac U).Ac V).Ac Y)) ct rfl fun de Z cu cv=>Cw (S':= [[],[(K,.cells #[nS,nS] 24 (0,0))],[],[],[],[],[],be]) rfl cv fun cw=>BU 7 (cf.Ai ((((O.Ac U).Ac V).Ac Y).Ac Z)) cw rfl fun df ag cy cz=>DK (pp:=(rL rI)) [.slice (A0 bW) (([1]:List Int)).length 1,.slice (A0 b0) (([2]:List Int)).length 1,.slice (A0 b4) (([3,4]:List Int)).length 2,.slice (A0 b7) (([4]:List Int)).length 1,.slice (A0 ca) (([5]:List Int)).length 1,.slice (A0 ce) (([5]:List Int)).length 1] [([1]:List Int),([2]:List Int),([3,4]:List Int),([4]:List Int),([5]:List Int),([5]:List Int)] rfl rfl rfl underlying22 BZ Fx (by decide) rfl rfl rfl ⟨⟨_,_,rfl,(ci.Ai ((((U.Ac V).Ac Y).Ac Z).Ac ag))⟩,⟨_,_,rfl,(cm.Ai (((V.Ac Y).Ac Z).Ac ag))⟩,⟨_,_,rfl,(cp.Ai ((Y.Ac Z).Ac ag))⟩,⟨_,_,rfl,(cr.Ai (Z.Ac ag))⟩,⟨_,_,rfl,(cu.Ai ag)⟩,⟨_,_,rfl,cy⟩,trivial⟩ cz fun al a1 cA cB=>DK (pp:=rI) [iV 2] [2] rfl rfl rfl underlying28 AX CU (by decide) rfl rfl rfl ⟨rfl,trivial⟩ cB fun cC cD cE cF=>Cw (S':= [[],[(K,.cells #[nS,nS] 24 (0,0))],[],[],[],[],[],[],a1,cD]) rfl cF fun cG=>DK (pp:=rI) [iV 2,iV 3] [2,3] rfl rfl rfl underlying28 AX CU (by decide) rfl rfl rfl ⟨rfl,rfl,trivial⟩ cG fun cH cI cJ cK=>DK (pp:=rI) [iV 3,iV 4] [3,4] rfl rfl rfl underlying28 AX CU (by decide) rfl rfl rfl ⟨rfl,rfl,trivial⟩ cK fun cM cN cO cP=>BU 9 cE cP rfl fun dg ap cQ cR=>?_;refine Cw (S':= [[],[(K,.cells #[nS,nS] 24 (0,0))],[],[],[],[],[],[],a1,[],cI,cN]) rfl cR fun cT=>BU 10 (cJ.Ai ap) cT rfl fun dh av cV cW=>BU 11 (cO.Ai (ap.Ac av)) cW rfl fun di a0 cX cY=>DK (pp:=(rL rI)) [nS,nS,nS,.slice (A0 cC) (([2]:List Int)).length 1,.slice (A0 cH) (([2,3]:List Int)).length 2,.slice (A0 cM) (([3,4]:List Int)).length 2] [[],[],[],([2]:List Int),([2,3]:List Int),([3,4]:List Int)] rfl rfl rfl underlying22 BZ Fx (by decide) rfl rfl rfl ⟨⟨_,_,rfl,Al.nil⟩,⟨_,_,rfl,Al.nil⟩,⟨_,_,rfl,Al.nil⟩,⟨_,_,rfl,(cQ.Ai (av.Ac a0))⟩,⟨_,_,rfl,(cV.Ai a0)⟩,⟨_,_,rfl,cX⟩,trivial⟩ cY fun am cZ c0 c1=>Cw (S':= [[],[(K,.cells #[nS,nS] 24 (0,0))],[],[],[],[],[],[],a1,[],[],[],cZ]) rfl c1 fun c2=>AF (v:= .agg #[.slice (A0 al) (([([1]:List Int),([2]:List Int),([3,4]:List Int),([4]:List Int),([5]:List Int),([5]:List Int)]:List (List Int))).length 6,.slice (A0 am) (([[],[],[],([2]:List Int),([2,3]:List Int),([3,4]:List Int)]:List (List Int))).length 6]) rfl (fun ρ h=>Di [(0,1),(1,1)] h GZ underlying24 ⟨rfl,Bv type22,rfl,Bv type22,trivial⟩ rfl rfl) (BW 1 c2 BJ fun c3=>?_);refine JL.done (BU 8 (cA.Ai ((ap.Ac av).Ac a0)) c3 rfl fun dj bi c4 c5=>?_);refine BU 12 (c0.Ai bi) c5 rfl fun dk bo c6 c7=>Cw (S':= [[],[(K,.cells #[.slice (A0 al) (([([1]:List Int),([2]:List Int),([3,4]:List Int),([4]:List Int),([5]:List Int),([5]:List Int)]:List (List Int))).length 6,.slice (A0 am) (([[],[],[],([2]:List Int),([2,3]:List Int),([3,4]:List Int)]:List (List Int))).length 6] 24 (0,0))],[],[],[],[],[],[],[],[],[],[],[]]) rfl c7 fun bv=>?_;obtain rfl:=oi a2;refine JL.ret (v:= .agg #[.slice (A0 al) (([([1]:List Int),([2]:List Int),([3,4]:List Int),([4]:List Int),([5]:List Int),([5]:List Int)]:List (List Int))).length 6,.slice (A0 am) (([[],[],[],([2]:List Int),([2,3]:List Int),([3,4]:List Int)]:List (List Int))).length 6]) rfl rfl (Cm.list func71 rfl (vs:= [.agg #[.slice (A0 al) (([([1]:List Int),([2]:List Int),([3,4]:List Int),([4]:List Int),([5]:List Int),([5]:List Int)]:List (List Int))).length 6,.slice (A0 am) (([[],[],[],([2]:List Int),([2,3]:List Int),([3,4]:List Int)]:List (List Int))).length 6]]) ⟨⟨_,rfl,Ld.many (vs:= [.slice (A0 al) (([([1]:List Int),([2]:List Int),([3,4]:List Int),([4]:List Int),([5]:List Int),([5]:List Int)]:List (List Int))).length 6,.slice (A0 am) (([[],[],[],([2]:List Int),([2,3]:List Int),([3,4]:List Int)]:List (List Int))).length 6]) Cd BJ (F2 (off:=0) 1 bv rfl rfl)⟩,trivial⟩) (IA 1 bv rfl fun c8=>?_);exact bU ((((((((((O.Ac U).Ac V).Ac Y).Ac Z).Ac ag).Ac ap).Ac av).Ac a0).Ac bi).Ac bo) rfl ⟨(A0 al),6,(A0 am),6,rfl,rfl,(c4.Ai bo),c6⟩ c8
def f72(fuel:Nat):Option ((AJ)):= some ([(0,2),(1,4)]:AJ)
theorem PO{fuel:Nat}{r:(AJ)}(K:f72 fuel=some r):AN J 72 [] E [] (fun w E' B'=>∃(O:Ap) (U:Nat),w= sV O r U∧B'= []∧Al Bg E' O U r):=by
 refine A3 func72 fun Q a0 cs H V Y=>?_;unfold f72 at K;refine zg 6 rfl (AF (v:= .agg #[iV 0,iV 2]) rfl (fun ρ h=>Di [(0,1),(1,1)] h C7 underlying27 ⟨rfl,Bv type3,rfl,Bv type3,trivial⟩ rfl rfl) ?_);refine AF (v:= .agg #[iV 1,iV 4]) rfl (fun ρ h=>Di [(0,1),(1,1)] h C7 underlying27 ⟨rfl,Bv type3,rfl,Bv type3,trivial⟩ rfl rfl) (DK (pp:=Bg) [.agg #[iV 0,iV 2],.agg #[iV 1,iV 4]] [(0,2),(1,4)] rfl rfl rfl underlying25 BF C7 (by decide) rfl rfl rfl ⟨⟨_,_,rfl,rfl,rfl⟩,⟨_,_,rfl,rfl,rfl⟩,trivial⟩ V fun Z g2 ag al=>?_);refine zg 2 rfl (BU 1 ag al rfl fun a1 am ap av=>?_);obtain rfl:=oi K;exact AB func72 rfl rfl (Y am rfl ⟨(A0 Z),2,rfl,rfl,ap⟩ av)
def f73(fuel:Nat):Option ((AJ)):= some ([(0,3),(1,3)]:AJ)
theorem TE{fuel:Nat}{r:(AJ)}(K:f73 fuel=some r):AN J 73 [] E [] (fun w E' B'=>∃(O:Ap) (U:Nat),w= sV O r U∧B'= []∧Al Bg E' O U r):=by
 refine A3 func73 fun Q a0 cs H V Y=>?_;unfold f73 at K;refine zg 6 rfl (AF (v:= .agg #[iV 0,iV 3]) rfl (fun ρ h=>Di [(0,1),(1,1)] h C7 underlying27 ⟨rfl,Bv type3,rfl,Bv type3,trivial⟩ rfl rfl) ?_);refine AF (v:= .agg #[iV 1,iV 3]) rfl (fun ρ h=>Di [(0,1),(1,1)] h C7 underlying27 ⟨rfl,Bv type3,rfl,Bv type3,trivial⟩ rfl rfl) (DK (pp:=Bg) [.agg #[iV 0,iV 3],.agg #[iV 1,iV 3]] [(0,3),(1,3)] rfl rfl rfl underlying25 BF C7 (by decide) rfl rfl rfl ⟨⟨_,_,rfl,rfl,rfl⟩,⟨_,_,rfl,rfl,rfl⟩,trivial⟩ V fun Z g2 ag al=>?_);refine zg 2 rfl (BU 1 ag al rfl fun a1 am ap av=>?_);obtain rfl:=oi K;exact AB func73 rfl rfl (Y am rfl ⟨(A0 Z),2,rfl,rfl,ap⟩ av)
end Pal
namespace Pal
open Go Go.Conc Go.Proofs
open Go.Proofs.Tryz
variable {J:Judge Tryz.prog}{E:LH}
def f103(fuel:Nat)(p0:Nat)(p1:Int):Option Bool:= (LO p0 p1).bind fun K=> (Kk K (1)).bind fun O=> some (decide ((((O):Nat):Int)=(((1):Nat):Int)))
theorem Pv{p0:Nat}{p1:Int}{fuel:Nat}{r:Bool}(K:f103 fuel p0 p1=some r):AN J 103 [uV p0,iV p1] E [] (fun w E' B'=>w= .bool r∧B'= []):=by
 refine A3 func103 fun Q ap cs H O U=>?_;unfold f103 at K;obtain⟨V,Y,Z⟩:=bs K;refine zg 8 rfl (AF (v:= uV V) rfl (fun ρ h=>XW (h _ _ rfl) (h _ _ rfl) Y) ?_);obtain⟨ag,al,am⟩:=bs Z;refine AF (v:= uV ag) rfl (fun ρ h=>OT (h _ _ rfl) (h _ _ rfl) al) (zg 3 rfl ?_);obtain rfl:=oi am;exact AB func103 rfl rfl (U Ar rfl ⟨rfl,rfl⟩ O)
def f90(fuel:Nat)(p0:Nat)(p1:Int):Option Nat:= (LF p1).bind fun K=> (Jv p0 K).bind fun O=> some O
theorem NW{p0:Nat}{p1:Int}{fuel:Nat}{r:Nat}(K:f90 fuel p0 p1=some r):AN J 90 [uV p0,iV p1] E [] (fun w E' B'=>w= uV r∧B'= []):=by
 refine A3 func90 fun Q ap cs H O U=>?_;unfold f90 at K;obtain⟨V,Y,Z⟩:=bs K;refine zg 8 rfl (AF (v:= uV V) rfl (fun ρ h=>Xy (h _ _ rfl) (h _ _ rfl) Y) ?_);obtain⟨ag,al,am⟩:=bs Z;refine AF (v:= uV ag) rfl (fun ρ h=>KX (h _ _ rfl) (h _ _ rfl) al) (zg 2 rfl ?_);obtain rfl:=oi am;exact AB func90 rfl rfl (U Ar rfl ⟨rfl,rfl⟩ O)
def NO(fuel:Nat)(p0:Nat)(K:(List Int)×Int):Option (Bd ((List Int)×Int) ((List Int))):= if K.2<16 then((f103 fuel p0 K.2).bind fun O=> Option.bind (if O=true then((room K.1 K.2).bind fun U=> some U) else(some K.1)) fun V=> (As (K.2+1)).bind fun Y=> some (.more (V,Y))) else(some (.done K.1))
def f89(fuel:Nat)(p0:Nat):Option ((List Int)):= Option.bind (iter (NO fuel p0) fuel ([],0)) fun K=> some K
theorem Jh{p0:Nat}{fuel:Nat}{r:(List Int)}(a7:f89 fuel p0=some r):AN J 89 [uV p0] E [] (fun w E' B'=>∃(a8:Ap) (a9:Nat),w= sV a8 r a9∧B'= []∧Al rI E' a8 a9 r):=by
 refine A3 func89 fun Q cz cs H bw bU=>?_;unfold f89 at a7;obtain⟨bb,bV,bW⟩:=bs a7;refine zg 13 rfl (Bt (fun L s=>∃(a0:LH) (Y:Ap) (Z:Nat) (a1:Seg),Jn E H a0 [a1] [(3,sV Y bb Z)] L s (OL 3 rI a0 Y Z a1 bb)) ?_ ?_)
 ·rintro _ _ ⟨a0,Y,Z,a1,rfl,rfl,bY,bZ,b0⟩;refine zg 5 rfl (BU 0 b0 bZ rfl fun cA b1 b2 b3=>?_);obtain rfl:=oi bW;exact AB func89 rfl rfl (bU (bY.Ac b1) rfl ⟨Y,Z,rfl,rfl,b2⟩ b3)
 ·intro b4;refine JL.block (CV bV (fun L s K=>∃(ag:LH) (O:Ap) (U:Nat) (V:Seg),Jn E H ag [V] [(0,uV p0),(3,sV O K.1 U),(5,iV K.2)] L s (OL 3 rI ag O U V K.1)) ⟨E,none,0,[],rfl,rfl,Ar,bw,OL.nil⟩ ?_);rintro _ _ K ⟨ag,O,U,V,rfl,rfl,bd,be,a2⟩ b5 ⟨cB,a3⟩ b6;have bi:=a3;unfold NO at bi;refine zg 5 rfl (AM bi (fun b7 b8=>?_) (fun b7 b9=>?_))
  ·obtain⟨cC,ca,cb⟩:=bs b8;refine zg 12 rfl (BH (Pv ca) rfl rfl Ow be fun a4 a5 bo=>?_);obtain⟨a6,cc,cd⟩:=bs cb;refine JL.done (Bt (fun L s=>∃(al:LH) (am:Ap) (ap:Nat) (av:Seg),Jn a4 H al [av] [(0,uV p0),(3,sV am a6 ap),(5,iV K.2)] L s (OL 3 rI al am ap av a6)) ?_ ?_)
   ·rintro _ _ ⟨al,am,ap,av,rfl,rfl,ce,cf,cg⟩;obtain⟨ci,ck,cm⟩:=bs cd;refine zg 2 rfl (Ba ck rfl rfl rfl ?_);refine zg 2 rfl ?_;obtain rfl:=oi cm;exact Ay (b6 _ _ (a6,ci) ⟨al,am,ap,av,rfl,rfl,((bd.Ac a5).Ac ce),cf,cg⟩ a3) rfl
   ·intro bv;refine BI cc (fun cn co=>?_) (fun cn cp=>?_)
    ·obtain⟨cD,cq,cr⟩:=bs co;refine zg 3 rfl (JS.app (pp:=rI) (v:=iV K.2) (a:=O) (c:=U) 0 cq rfl rfl rfl rfl (fun _=>rfl) rfl (fun _=>rfl) rfl rfl rfl underlying28 underlying28 underlying28 AX (Cy type3) CU rfl (by decide) (by decide) (by decide) (by decide) (a2.Ai a5) rfl bo rfl fun cE ct cu cv cw cy=>?_);refine zg 2 rfl ?_;obtain rfl:=oi cr;exact Ay (bv _ _ ⟨a4,ct,cu,cv,rfl,rfl,Ar,cy,cw⟩) rfl
    ·refine JL.skip ?_;obtain rfl:=oi cp;exact Ay (bv _ _ ⟨a4,O,U,V,rfl,rfl,Ar,bo,(a2.Ai a5)⟩) rfl
  ·refine JL.exit rfl ?_;obtain rfl:=oi b9;obtain rfl:=b5 _ a3;exact Ay (b4 _ _ ⟨ag,O,U,V,rfl,rfl,bd,be,a2⟩) rfl
def MN(fuel:Nat)(p0:List Int)(K:Nat×Int):Option (Bd (Nat×Int) Nat):= if K.2<(p0.length:Int) then((ix p0 K.2).bind fun O=> (f90 fuel K.1 O).bind fun U=> (As (K.2+1)).bind fun V=> some (.more (U,V))) else(some (.done K.1))
def f120(fuel:Nat)(p0:List Int):Option Nat:= Option.bind (iter (MN fuel p0) fuel (0,0)) fun K=> some K
theorem Kb{O:Ap}{c2:Nat}{p0:List Int}(al:Al rI E O c2 p0){fuel:Nat}{r:Nat}(Y:f120 fuel p0=some r):AN J 120 [sV O p0 c2] E [] (fun w E' B'=>w= uV r∧B'= []):=by
 refine A3 func120 fun Q bZ cs H am ap=>?_;unfold f120 at Y;refine zg 12 rfl (Bh underlying28 rfl rfl rfl ?_);obtain⟨av,a0,a1⟩:=bs Y;refine zg 2 rfl (CK [] [(3,uV av)] (fun b0 a2 a3=>?_) (fun a4=>?_))
 ·refine zg 5 rfl ?_;obtain rfl:=oi a1;exact AB func120 rfl rfl (ap a2 rfl ⟨rfl,rfl⟩ a3)
 ·refine JL.block (Cp a0 (fun K=> []) (fun K=> [(3,uV K.1),(6,sV O p0 c2),(7,iV (p0.length:Int)),(8,iV K.2)]) Ar am ?_);rintro K b1 U Z a5 ⟨b2,V⟩ a6;have ag:=V;unfold MN at ag;refine zg 5 rfl (AM ag (fun a7 a8=>?_) (fun a7 a9=>?_))
  ·obtain⟨b3,bb,bd⟩:=bs a8;refine zg 5 rfl (Ce (al.Ai U) bb underlying28 AX ?_);rintro b4 b5 _ rfl be;refine B4 0 be By rfl rfl rfl ?_;obtain⟨bi,bo,bv⟩:=bs bd;refine zg 5 rfl (BH (NW bo) rfl rfl Mh Z fun b6 bw bU=>?_);obtain⟨bV,bW,bY⟩:=bs bv;refine zg 4 rfl (Ba bW rfl rfl rfl ?_);refine zg 2 rfl ?_;obtain rfl:=oi bY;exact a6 (bi,bV) (U.Ac bw) bU rfl V
  ·refine JL.exit rfl ?_;obtain rfl:=oi a9;obtain rfl:=a5 _ V;exact a4 U Z rfl
def JU(fuel:Nat)(p0:A9)(p1:Int)(p2:List Int)(p3:Bool)(K:Int):Option (Bd Int (((Option (Int×Int)))⊕(Unit))):= if K<(p2.length:Int) then((ix p2 K).bind fun O=> (As ((p0.1.length:Int) - 1)).bind fun U=> (f101 fuel O 0 U).bind fun V=> if V=true then(some (.done (Sum.inl (some (3,p1))))) else(Option.bind (if O=p1 then(some (!p3)) else(some false)) fun Y=> if Y=true then(some (.done (Sum.inl (some (8,p1))))) else(Option.bind (if 0<K then((As (K - 1)).bind fun Z=> (ix p2 Z).bind fun ag=> some (decide (O≤ag))) else(some false)) fun al=> if al=true then(some (.done (Sum.inl (some (5,p1))))) else((As (K+1)).bind fun am=> some (.more am))))) else(some (.done (Sum.inr ())))
def f136(fuel:Nat)(p0:A9)(p1:Int)(p2:List Int)(p3:Bool):Option ((Option (Int×Int))):= Option.bind (iter (JU fuel p0 p1 p2 p3) fuel 0) fun K=> Sum.elim (fun r=>some r) (fun O=> some none) K
theorem Tc{a3:Ap}{c2:Nat}{a4:Ap}{a5:Nat}{K:Ap}{O:Nat}{p0:A9}{p1:Int}{p2:List Int}{p3:Bool}(cX:Al (rL rI) E a3 c2 p0.1)(cY:Al (rL rI) E a4 a5 p0.2)(a6:Al rI E K O p2){fuel:Nat}{r:(Option (Int×Int))}(a7:f136 fuel p0 p1 p2 p3=some r):AN J 136 [.agg #[sV a3 p0.1 c2,sV a4 p0.2 a5],iV p1,sV K p2 O,.bool p3] E [] (fun w E' B'=>∃(a8:Value),w=a8∧B'= []∧Ig 183 a8 r):=by
 refine A3 func136 fun Q cZ cs H bV al=>?_;unfold f136 at a7;refine zg 2 rfl (Ca bV fun a0 bW V bY bZ=>?_);refine zg 6 rfl (Bh underlying28 rfl rfl rfl ?_);obtain⟨a9,b0,am⟩:=bs a7;refine zg 2 rfl (Bt (fun L s=>∃(bb:Unit) (bd:LH),a9=Sum.inr bb∧Jm bW H bd [] [] L s) ?_ ?_)
 ·rintro _ _ ⟨bb,bd,rfl,rfl,rfl,b1,b2⟩;have b3:=elim_inr am;refine zg 4 rfl ?_;obtain rfl:=oi b3;exact AB func136 rfl rfl (al (V.Ac b1) rfl ⟨.nilIface,rfl,rfl,rfl⟩ b2)
 ·intro b4;refine JL.block (Cp b0 (fun Y=> []) (fun Y=> [(1,iV p1),(2,sV K p2 O),(3,.bool p3),(4,pV a0 0),(11,sV K p2 O),(12,iV (p2.length:Int)),(13,iV Y)]) Ar bZ ?_);rintro Y b5 U be ap ⟨c0,Z⟩ b6;have bi:=Z;unfold JU at bi;refine zg 5 rfl (AM bi (fun b7 b8=>?_) (fun b7 b9=>?_))
  ·obtain⟨ca,cb,cc⟩:=bs b8;refine zg 6 rfl (Ce (a6.Ai (V.Ac U)) cb underlying28 AX ?_);rintro c1 c3 _ rfl cd;refine B4 0 cd By rfl rfl rfl (zg 7 rfl ?_);refine JL.fl 0 (bY.Ai U) underlying24 BR Cv ?_;refine Bh underlying22 rfl rfl rfl ?_;obtain⟨c4,ce,cf⟩:=bs cc;refine Cl ce rfl rfl rfl ?_;obtain⟨c5,cg,ci⟩:=bs cf;refine BH (Jc cg) rfl rfl IU be fun c6 ag a1=>zg 2 rfl (BI ci (fun ck cm=>?_) (fun ck cn=>?_))
   ·refine zg 3 rfl (AF (v:= .agg #[iV 3,iV p1]) rfl (fun ρ h=>Di [(0,1),(1,1)] h FP underlying183 ⟨rfl,Bv type39,rfl,Bv type3,trivial⟩ rfl rfl) ?_);refine AF (v:= .iface 183 (.agg #[iV 3,iV p1])) rfl (fun ρ h=>Ff underlying183 (fun _ h=>by cases h) (h _ _ rfl)) (zg 2 rfl ?_);obtain rfl:=oi cm;obtain rfl:=ap _ Z;have co:=elim_inl am;obtain rfl:=oi co;exact AB func136 rfl rfl (al ((V.Ac U).Ac ag) rfl ⟨.iface 183 (.agg #[iV 3,iV p1]),rfl,rfl,rfl⟩ a1)
   ·obtain⟨cp,cq,cr⟩:=bs cn;refine zg 6 rfl (Dv 7 1 [] [(1,iV p1),(2,sV K p2 O),(3,.bool p3),(4,pV a0 0),(9,iV Y),(10,iV ca),(11,sV K p2 O),(12,iV (p2.length:Int)),(13,iV Y),(35,.bool cp)] (fun c7 av a2=>?_) (fun bo=>?_))
    ·refine zg 2 rfl (BI cr (fun ct cu=>?_) (fun ct cv=>?_))
     ·refine zg 3 rfl (AF (v:= .agg #[iV 8,iV p1]) rfl (fun ρ h=>Di [(0,1),(1,1)] h FP underlying183 ⟨rfl,Bv type39,rfl,Bv type3,trivial⟩ rfl rfl) ?_);refine AF (v:= .iface 183 (.agg #[iV 8,iV p1])) rfl (fun ρ h=>Ff underlying183 (fun _ h=>by cases h) (h _ _ rfl)) (zg 2 rfl ?_);obtain rfl:=oi cu;obtain rfl:=ap _ Z;have cw:=elim_inl am;obtain rfl:=oi cw;exact AB func136 rfl rfl (al (((V.Ac U).Ac ag).Ac av) rfl ⟨.iface 183 (.agg #[iV 8,iV p1]),rfl,rfl,rfl⟩ a2)
     ·obtain⟨cy,cz,cA⟩:=bs cv;refine zg 5 rfl (Dv 11 1 [] [(1,iV p1),(2,sV K p2 O),(3,.bool p3),(4,pV a0 0),(11,sV K p2 O),(12,iV (p2.length:Int)),(13,iV Y),(50,.bool cy)] (fun c8 bv bw=>?_) (fun bU=>?_))
      ·refine zg 2 rfl (BI cA (fun cB cC=>?_) (fun cB cD=>?_))
       ·refine zg 3 rfl (AF (v:= .agg #[iV 5,iV p1]) rfl (fun ρ h=>Di [(0,1),(1,1)] h FP underlying183 ⟨rfl,Bv type39,rfl,Bv type3,trivial⟩ rfl rfl) ?_);refine AF (v:= .iface 183 (.agg #[iV 5,iV p1])) rfl (fun ρ h=>Ff underlying183 (fun _ h=>by cases h) (h _ _ rfl)) (zg 2 rfl ?_);obtain rfl:=oi cC;obtain rfl:=ap _ Z;have cE:=elim_inl am;obtain rfl:=oi cE;exact AB func136 rfl rfl (al ((((V.Ac U).Ac ag).Ac av).Ac bv) rfl ⟨.iface 183 (.agg #[iV 5,iV p1]),rfl,rfl,rfl⟩ bw)
       ·obtain⟨cF,cG,cH⟩:=bs cD;refine zg 4 rfl (Ba cG rfl rfl rfl ?_);refine zg 2 rfl ?_;obtain rfl:=oi cH;exact b6 cF (((U.Ac ag).Ac av).Ac bv) bw rfl Z
      ·refine Es 42 cz (fun cI cJ=>?_) (fun cI cK=>?_)
       ·obtain⟨c9,cM,cN⟩:=bs cJ;refine zg 3 rfl (Cl cM rfl rfl rfl ?_);obtain⟨da,cO,cP⟩:=bs cN;refine Ce (a6.Ai (((V.Ac U).Ac ag).Ac av)) cO underlying28 AX ?_;rintro db dc _ rfl cQ;refine B4 0 cQ By rfl rfl rfl (zg 2 rfl ?_);obtain rfl:=oi cP;exact bU Ar a2 rfl
       ·refine zg 8 rfl ?_;obtain rfl:=oi cK;exact bU Ar a2 rfl
    ·refine Es 32 cq (fun cR cT=>?_) (fun cR cV=>?_)
     ·refine zg 1 rfl (AF (v:= .bool (!p3)) rfl (fun ρ h=>Yl.not (h _ _ rfl)) ?_);refine zg 1 rfl ?_;obtain rfl:=oi cT;exact bo Ar a1 rfl
     ·refine zg 3 rfl ?_;obtain rfl:=oi cV;exact bo Ar a1 rfl
  ·refine JL.exit rfl ?_;obtain rfl:=oi b9;have cW:a9=(Sum.inr ()):=(ap _ Z).symm;exact Ay (b4 _ _ ⟨(),b5,cW,rfl,rfl,U,be⟩) rfl
def JV(fuel:Nat)(p0:A9)(K:Int):Option (Bd Int (((Option (Int×Int)))⊕(Unit))):= if K<(p0.1.length:Int) then((ix p0.1 K).bind fun O=> if(O.length:Int)=0 then(some (.done (Sum.inl (some (7,K))))) else(if 3<(O.length:Int) then(some (.done (Sum.inl (some (6,K))))) else((f136 fuel p0 K O true).bind fun U=> if U.isSome=true then(some (.done (Sum.inl U))) else((ix p0.2 K).bind fun Y=> if 3<(Y.length:Int) then(some (.done (Sum.inl (some (6,K))))) else((ix p0.2 K).bind fun Z=> (f136 fuel p0 K Z false).bind fun V=> if V.isSome=true then(some (.done (Sum.inl V))) else((As (K+1)).bind fun ag=> some (.more ag))))))) else(some (.done (Sum.inr ())))
def f113(fuel:Nat)(p0:A9):Option ((Option (Int×Int))):= if(p0.1.length:Int)=0 then(some (some (7,0))) else(if 8<(p0.1.length:Int) then(some (some (6,0))) else(if(p0.2.length:Int)≠(p0.1.length:Int) then(some (some (9,0))) else(Option.bind (iter (JV fuel p0) fuel 0) fun K=> Sum.elim (fun r=>some r) (fun O=> some none) K)))
theorem SP{a1:Ap}{c2:Nat}{a4:Ap}{a5:Nat}{p0:A9}(a2:Al (rL rI) E a1 c2 p0.1)(ap:Al (rL rI) E a4 a5 p0.2){fuel:Nat}{r:(Option (Int×Int))}(a6:f113 fuel p0=some r):AN J 113 [.agg #[sV a1 p0.1 c2,sV a4 p0.2 a5]] E [] (fun w E' B'=>∃(a7:Value),w=a7∧B'= []∧Ig 183 a7 r):=by
 refine A3 func113 fun Q c6 cs H bw Y=>?_;unfold f113 at a6;refine zg 2 rfl (Ca bw fun bU bV O ag av=>?_);refine zg 5 rfl (JL.fl 0 ag underlying24 BR Cv ?_);refine Bh underlying22 rfl rfl rfl (zg 9 rfl ?_);refine AM a6 (fun bW bY=>?_) (fun bW bZ=>?_)
 ·refine zg 2 rfl (AF (v:= .agg #[iV 7,iV 0]) rfl (fun ρ h=>Di [(0,1),(1,1)] h FP underlying183 ⟨rfl,Bv type39,rfl,Bv type3,trivial⟩ rfl rfl) ?_);refine AF (v:= .iface 183 (.agg #[iV 7,iV 0])) rfl (fun ρ h=>Ff underlying183 (fun _ h=>by cases h) (h _ _ rfl)) (zg 2 rfl ?_);obtain rfl:=oi bY;exact AB func113 rfl rfl (Y O rfl ⟨.iface 183 (.agg #[iV 7,iV 0]),rfl,rfl,rfl⟩ av)
 ·refine zg 6 rfl (AM bZ (fun b0 b1=>?_) (fun b0 b2=>?_))
  ·refine zg 2 rfl (AF (v:= .agg #[iV 6,iV 0]) rfl (fun ρ h=>Di [(0,1),(1,1)] h FP underlying183 ⟨rfl,Bv type39,rfl,Bv type3,trivial⟩ rfl rfl) ?_);refine AF (v:= .iface 183 (.agg #[iV 6,iV 0])) rfl (fun ρ h=>Ff underlying183 (fun _ h=>by cases h) (h _ _ rfl)) (zg 2 rfl ?_);obtain rfl:=oi b1;exact AB func113 rfl rfl (Y O rfl ⟨.iface 183 (.agg #[iV 6,iV 0]),rfl,rfl,rfl⟩ av)
  ·refine zg 2 rfl (JL.fl 1 ag underlying24 BR Cv ?_);refine Bh underlying22 rfl rfl rfl (zg 4 rfl ?_);refine AM b2 (fun b3 b4=>?_) (fun b3 b5=>?_)
   ·refine zg 2 rfl (AF (v:= .agg #[iV 9,iV 0]) rfl (fun ρ h=>Di [(0,1),(1,1)] h FP underlying183 ⟨rfl,Bv type39,rfl,Bv type3,trivial⟩ rfl rfl) ?_);refine AF (v:= .iface 183 (.agg #[iV 9,iV 0])) rfl (fun ρ h=>Ff underlying183 (fun _ h=>by cases h) (h _ _ rfl)) (zg 2 rfl ?_);obtain rfl:=oi b4;exact AB func113 rfl rfl (Y O rfl ⟨.iface 183 (.agg #[iV 9,iV 0]),rfl,rfl,rfl⟩ av)
   ·refine zg 5 rfl (JL.fl 0 ag underlying24 BR Cv ?_);refine Bh underlying22 rfl rfl rfl ?_;obtain⟨a8,b6,al⟩:=bs b5;refine zg 2 rfl (Bt (fun L s=>∃(a9:Unit) (bb:LH),a8=Sum.inr a9∧Jm bV H bb [] [] L s) ?_ ?_)
    ·rintro _ _ ⟨a9,bb,rfl,rfl,rfl,b7,b8⟩;have b9:=elim_inr al;refine zg 4 rfl ?_;obtain rfl:=oi b9;exact AB func113 rfl rfl (Y (O.Ac b7) rfl ⟨.nilIface,rfl,rfl,rfl⟩ b8)
    ·intro ca;refine JL.block (Cp b6 (fun U=> []) (fun U=> [(1,pV bU 0),(30,sV a1 p0.1 c2),(31,iV (p0.1.length:Int)),(32,iV U)]) Ar av ?_);rintro U cb K a0 am ⟨c7,Z⟩ cc;have bd:=Z;unfold JV at bd;refine zg 5 rfl (AM bd (fun cd ce=>?_) (fun cd cf=>?_))
     ·obtain⟨c8,cg,ci⟩:=bs ce;refine zg 6 rfl (Ce (a2.Ai (O.Ac K)) cg underlying22 BZ ?_);rintro c9 da _ ⟨db,dc,rfl,ck⟩ cm;refine B4 0 cm CZ rfl rfl rfl (zg 7 rfl ?_);refine Bh underlying28 rfl rfl rfl (zg 2 rfl ?_);refine AM ci (fun cn co=>?_) (fun cn cp=>?_)
      ·refine zg 3 rfl (AF (v:= .agg #[iV 7,iV U]) rfl (fun ρ h=>Di [(0,1),(1,1)] h FP underlying183 ⟨rfl,Bv type39,rfl,Bv type3,trivial⟩ rfl rfl) ?_);refine AF (v:= .iface 183 (.agg #[iV 7,iV U])) rfl (fun ρ h=>Ff underlying183 (fun _ h=>by cases h) (h _ _ rfl)) (zg 2 rfl ?_);obtain rfl:=oi co;obtain rfl:=am _ Z;have cq:=elim_inl al;obtain rfl:=oi cq;exact AB func113 rfl rfl (Y (O.Ac K) rfl ⟨.iface 183 (.agg #[iV 7,iV U]),rfl,rfl,rfl⟩ a0)
      ·refine zg 5 rfl (Bh underlying28 rfl rfl rfl ?_);refine zg 2 rfl (AM cp (fun cr ct=>?_) (fun cr cu=>?_))
       ·refine zg 3 rfl (AF (v:= .agg #[iV 6,iV U]) rfl (fun ρ h=>Di [(0,1),(1,1)] h FP underlying183 ⟨rfl,Bv type39,rfl,Bv type3,trivial⟩ rfl rfl) ?_);refine AF (v:= .iface 183 (.agg #[iV 6,iV U])) rfl (fun ρ h=>Ff underlying183 (fun _ h=>by cases h) (h _ _ rfl)) (zg 2 rfl ?_);obtain rfl:=oi ct;obtain rfl:=am _ Z;have cv:=elim_inl al;obtain rfl:=oi cv;exact AB func113 rfl rfl (Y (O.Ac K) rfl ⟨.iface 183 (.agg #[iV 6,iV U]),rfl,rfl,rfl⟩ a0)
       ·refine zg 4 rfl (BX (ag.Ai K) Cd BJ rfl rfl ?_);obtain⟨cw,cy,cz⟩:=bs cu;refine zg 2 rfl (BN (Tc (a2.Ai (O.Ac K)) (ap.Ai (O.Ac K)) ck cy) rfl rfl (AV func136 rfl) a0 ?_);rintro cA dd _ V ⟨_,rfl,rfl,be⟩ a3;refine zg 5 rfl (AF (v:= .bool cw.isSome) rfl (fun ρ h=>O2 underlying149 be (h _ _ rfl) (h _ _ rfl)) ?_);refine JL.done (BI cz (fun cB cC=>?_) (fun cB cD=>?_))
        ·refine zg 5 rfl ?_;obtain rfl:=oi cC;obtain rfl:=am _ Z;have cE:=elim_inl al;obtain rfl:=oi cE;exact AB func113 rfl rfl (Y ((O.Ac K).Ac V) rfl ⟨cA,rfl,rfl,be⟩ a3)
        ·refine zg 4 rfl (JL.fl 1 (ag.Ai (K.Ac V)) underlying24 BR Cv ?_);obtain⟨de,cF,cG⟩:=bs cD;refine zg 1 rfl (Ce (ap.Ai ((O.Ac K).Ac V)) cF underlying22 BZ ?_);rintro df dg _ ⟨dh,di,rfl,dj⟩ cH;refine B4 0 cH CZ rfl rfl rfl (Bh underlying28 rfl rfl rfl ?_);refine zg 2 rfl (AM cG (fun cI cJ=>?_) (fun cI cK=>?_))
         ·refine zg 3 rfl (AF (v:= .agg #[iV 6,iV U]) rfl (fun ρ h=>Di [(0,1),(1,1)] h FP underlying183 ⟨rfl,Bv type39,rfl,Bv type3,trivial⟩ rfl rfl) ?_);refine AF (v:= .iface 183 (.agg #[iV 6,iV U])) rfl (fun ρ h=>Ff underlying183 (fun _ h=>by cases h) (h _ _ rfl)) (zg 2 rfl ?_);obtain rfl:=oi cJ;obtain rfl:=am _ Z;have cM:=elim_inl al;obtain rfl:=oi cM;exact AB func113 rfl rfl (Y ((O.Ac K).Ac V) rfl ⟨.iface 183 (.agg #[iV 6,iV U]),rfl,rfl,rfl⟩ a3)
         ·refine zg 2 rfl (C5 7 fun ht=>?_);refine Fi 0 ht (ag.Ai (K.Ac V)) Cd BJ rfl rfl rfl (Ck 1 ht rfl rfl ?_);refine B9 2 ht underlying24 BR rfl rfl rfl rfl (Cz 3 ht 1 (ag.Ai (K.Ac V)) Cv rfl rfl rfl rfl ?_);refine Ck 4 ht rfl rfl ?_;obtain⟨dk,cN,cO⟩:=bs cK;refine CN 5 (ap.Ai ((O.Ac K).Ac V)) cN ht underlying22 BZ ?_;rintro dl dm _ ⟨dn,dp,rfl,cP⟩ cQ;refine Cz 6 ht 0 cQ CZ rfl rfl rfl rfl (Cj [7,8] ?_);obtain⟨cR,cT,cV⟩:=bs cO;refine BN (Tc (a2.Ai ((O.Ac K).Ac V)) (ap.Ai ((O.Ac K).Ac V)) cP cT) rfl rfl (AV func136 rfl) a3 ?_;rintro cW dq _ bi ⟨_,rfl,rfl,bo⟩ bv;refine zg 5 rfl (AF (v:= .bool cR.isSome) rfl (fun ρ h=>O2 underlying149 bo (h _ _ rfl) (h _ _ rfl)) ?_);refine JL.done (BI cV (fun cX cY=>?_) (fun cX cZ=>?_))
          ·refine zg 5 rfl ?_;obtain rfl:=oi cY;obtain rfl:=am _ Z;have c0:=elim_inl al;obtain rfl:=oi c0;exact AB func113 rfl rfl (Y (((O.Ac K).Ac V).Ac bi) rfl ⟨cW,rfl,rfl,bo⟩ bv)
          ·obtain⟨c1,c3,c4⟩:=bs cZ;refine zg 3 rfl (Ba c3 rfl rfl rfl ?_);refine zg 2 rfl ?_;obtain rfl:=oi c4;exact cc c1 ((K.Ac V).Ac bi) bv rfl Z
     ·refine JL.exit rfl ?_;obtain rfl:=oi cf;have c5:a8=(Sum.inr ()):=(am _ Z).symm;exact Ay (ca _ _ ⟨(),cb,c5,rfl,rfl,K,a0⟩) rfl
def J4(fuel:Nat)(p0:A9)(p1:AJ)(K:Int):Option (Bd Int (((Option (Int×Int)))⊕(Unit))):= if K<(p1.length:Int) then((ix p1 K).bind fun O=> (f101 fuel O.1 0 6).bind fun U=> if U=true then(some (.done (Sum.inl (some (1,K))))) else(Option.bind (if 0<K then((As (K - 1)).bind fun V=> (ix p1 V).bind fun Y=> some (decide (O.1<Y.1))) else(some false)) fun Z=> if Z=true then(some (.done (Sum.inl (some (5,K))))) else((As ((p0.1.length:Int) - 1)).bind fun ag=> (f101 fuel O.2 0 ag).bind fun al=> if al=true then(some (.done (Sum.inl (some (3,K))))) else((As (K+1)).bind fun am=> some (.more am))))) else(some (.done (Sum.inr ())))
def f116(fuel:Nat)(p0:A9)(p1:AJ):Option ((Option (Int×Int))):= if 4<(p1.length:Int) then(some (some (6,0))) else(Option.bind (iter (J4 fuel p0 p1) fuel 0) fun K=> Sum.elim (fun r=>some r) (fun O=> some none) K)
theorem ZC{a3:Ap}{c2:Nat}{a4:Ap}{a5:Nat}{Y:Ap}{Z:Nat}{p0:A9}{p1:AJ}(cZ:Al (rL rI) E a3 c2 p0.1)(c0:Al (rL rI) E a4 a5 p0.2)(a6:Al Bg E Y Z p1){fuel:Nat}{r:(Option (Int×Int))}(a7:f116 fuel p0 p1=some r):AN J 116 [.agg #[sV a3 p0.1 c2,sV a4 p0.2 a5],sV Y p1 Z] E [] (fun w E' B'=>∃(a8:Value),w=a8∧B'= []∧Ig 183 a8 r):=by
 refine A3 func116 fun Q c1 cs H bY am=>?_;unfold f116 at a7;refine zg 2 rfl (Ca bY fun a9 bZ V b0 bb=>?_);refine zg 6 rfl (Bh underlying25 rfl rfl rfl ?_);refine zg 2 rfl (AM a7 (fun b1 b2=>?_) (fun b1 b3=>?_))
 ·refine zg 2 rfl (AF (v:= .agg #[iV 6,iV 0]) rfl (fun ρ h=>Di [(0,1),(1,1)] h FP underlying183 ⟨rfl,Bv type39,rfl,Bv type3,trivial⟩ rfl rfl) ?_);refine AF (v:= .iface 183 (.agg #[iV 6,iV 0])) rfl (fun ρ h=>Ff underlying183 (fun _ h=>by cases h) (h _ _ rfl)) (zg 2 rfl ?_);obtain rfl:=oi b2;exact AB func116 rfl rfl (am V rfl ⟨.iface 183 (.agg #[iV 6,iV 0]),rfl,rfl,rfl⟩ bb)
 ·refine zg 5 rfl (Bh underlying25 rfl rfl rfl ?_);obtain⟨bd,b4,ap⟩:=bs b3;refine zg 2 rfl (Bt (fun L s=>∃(be:Unit) (bi:LH),bd=Sum.inr be∧Jm bZ H bi [] [] L s) ?_ ?_)
  ·rintro _ _ ⟨be,bi,rfl,rfl,rfl,b5,b6⟩;have b7:=elim_inr ap;refine zg 4 rfl ?_;obtain rfl:=oi b7;exact AB func116 rfl rfl (am (V.Ac b5) rfl ⟨.nilIface,rfl,rfl,rfl⟩ b6)
  ·intro b8;refine JL.block (Cp b4 (fun K=> []) (fun K=> [(1,sV Y p1 Z),(2,pV a9 0),(12,sV Y p1 Z),(13,iV (p1.length:Int)),(14,iV K)]) Ar bb ?_);rintro K b9 O bo av ⟨c3,ag⟩ ca;have bv:=ag;unfold J4 at bv;refine zg 5 rfl (AM bv (fun cb cc=>?_) (fun cb cd=>?_))
   ·obtain⟨c4,ce,cf⟩:=bs cc;refine zg 6 rfl (Ce (a6.Ai (V.Ac O)) ce underlying25 BF ?_);rintro c5 c6 _ ⟨_,_,rfl,rfl,rfl⟩ cg;refine BX cg Gh BF rfl rfl (CW bo C7 fun ci ck=>?_);refine zg 1 rfl (BW 0 ck BF fun cm=>?_);refine C8 0 cm rfl fun c7 al a0 cn=>zg 4 rfl (JL.fl 0 a0 underlying27 AX By ?_);obtain⟨c8,co,cp⟩:=bs cf;refine BH (Jc co) rfl rfl IU cn fun cq U a1=>zg 2 rfl (BI cp (fun cr ct=>?_) (fun cr cu=>?_))
    ·refine zg 3 rfl (AF (v:= .agg #[iV 1,iV K]) rfl (fun ρ h=>Di [(0,1),(1,1)] h FP underlying183 ⟨rfl,Bv type39,rfl,Bv type3,trivial⟩ rfl rfl) ?_);refine AF (v:= .iface 183 (.agg #[iV 1,iV K])) rfl (fun ρ h=>Ff underlying183 (fun _ h=>by cases h) (h _ _ rfl)) (zg 2 rfl ?_);obtain rfl:=oi ct;obtain rfl:=av _ ag;have cv:=elim_inl ap;obtain rfl:=oi cv;exact AB func116 rfl rfl (am (((V.Ac O).Ac al).Ac U) rfl ⟨.iface 183 (.agg #[iV 1,iV K]),rfl,rfl,rfl⟩ a1)
    ·refine JL.seq (C5 13 fun ht=>?_);refine AZ ht rfl [0,1,2] rfl ?_;obtain⟨cw,bw,cy⟩:=bs cu;refine Eg 1 #[true,true,true,true,true,true,true,true,true,true,true,true,true,false] (fun L s=>L= [(1,sV Y p1 Z),(2,pV a9 0),(5,iV K),(6,pV ci 0),(12,sV Y p1 Z),(13,iV (p1.length:Int)),(14,iV K),(39,.bool cw)]∧s=An cq H [[],[]]) ?_ ?_
     ·rintro _ _ ⟨rfl,rfl⟩;refine Cj [13] (zg 2 rfl ?_);refine BI cy (fun cz cA=>?_) (fun cz cB=>?_)
      ·refine zg 3 rfl (AF (v:= .agg #[iV 5,iV K]) rfl (fun ρ h=>Di [(0,1),(1,1)] h FP underlying183 ⟨rfl,Bv type39,rfl,Bv type3,trivial⟩ rfl rfl) ?_);refine AF (v:= .iface 183 (.agg #[iV 5,iV K])) rfl (fun ρ h=>Ff underlying183 (fun _ h=>by cases h) (h _ _ rfl)) (zg 2 rfl ?_);obtain rfl:=oi cA;obtain rfl:=av _ ag;have cC:=elim_inl ap;obtain rfl:=oi cC;exact AB func116 rfl rfl (am (((V.Ac O).Ac al).Ac U) rfl ⟨.iface 183 (.agg #[iV 5,iV K]),rfl,rfl,rfl⟩ a1)
      ·refine zg 2 rfl (JL.fl 1 (a0.Ai U) underlying27 AX By ?_);refine JL.fl 0 (b0.Ai ((O.Ac al).Ac U)) underlying24 BR Cv ?_;refine Bh underlying22 rfl rfl rfl ?_;obtain⟨c9,cD,cE⟩:=bs cB;refine Cl cD rfl rfl rfl ?_;obtain⟨da,cF,cG⟩:=bs cE;refine BH (Jc cF) rfl rfl IU a1 fun db bU bV=>zg 2 rfl (BI cG (fun cH cI=>?_) (fun cH cJ=>?_))
       ·refine zg 3 rfl (AF (v:= .agg #[iV 3,iV K]) rfl (fun ρ h=>Di [(0,1),(1,1)] h FP underlying183 ⟨rfl,Bv type39,rfl,Bv type3,trivial⟩ rfl rfl) ?_);refine AF (v:= .iface 183 (.agg #[iV 3,iV K])) rfl (fun ρ h=>Ff underlying183 (fun _ h=>by cases h) (h _ _ rfl)) (zg 2 rfl ?_);obtain rfl:=oi cI;obtain rfl:=av _ ag;have cK:=elim_inl ap;obtain rfl:=oi cK;exact AB func116 rfl rfl (am ((((V.Ac O).Ac al).Ac U).Ac bU) rfl ⟨.iface 183 (.agg #[iV 3,iV K]),rfl,rfl,rfl⟩ bV)
       ·obtain⟨cM,cN,cO⟩:=bs cJ;refine zg 4 rfl (Ba cN rfl rfl rfl ?_);refine zg 2 rfl ?_;obtain rfl:=oi cO;exact ca cM (((O.Ac al).Ac U).Ac bU) bV rfl ag
     ·intro bW;refine EW (q:=0<K) (i:=29) rfl (fun a2=>?_) (fun a2=>?_)
      ·have cP:=ip bw a2;refine B9 3 ht underlying27 AX rfl rfl rfl rfl ?_;refine Cz 4 ht 0 (a0.Ai U) By rfl rfl rfl rfl ?_;refine AZ ht rfl [5,6] rfl ?_;obtain⟨dc,cQ,cR⟩:=bs cP;refine BA 7 ht rfl rfl (fun ρ h s' hs=>Da (h _ _ rfl) (h _ _ rfl) cQ) ?_;obtain⟨dd,cT,cV⟩:=bs cR;refine CN 8 (a6.Ai (((V.Ac O).Ac al).Ac U)) cT ht underlying25 BF ?_;rintro de df _ ⟨_,_,rfl,rfl,rfl⟩ cW;refine B9 9 ht underlying27 AX rfl rfl rfl rfl ?_;refine Cz 10 ht 0 cW By rfl rfl rfl rfl ?_;refine AZ ht rfl [11,12] rfl ?_;obtain rfl:=oi cV;refine CH ?_ (bW _ _ ⟨rfl,rfl⟩);exact⟨rfl,rfl,rfl,rfl,rfl,rfl,rfl,rfl,trivial⟩
      ·have cX:=im bw a2;refine AZ ht rfl [3,4,5,6,7,8,9,10,11,12] rfl ?_;obtain rfl:=oi cX;refine CH ?_ (bW _ _ ⟨rfl,rfl⟩);exact⟨rfl,rfl,rfl,rfl,rfl,rfl,rfl,rfl,trivial⟩
   ·refine JL.exit rfl ?_;obtain rfl:=oi cd;have cY:bd=(Sum.inr ()):=(av _ ag).symm;exact Ay (b8 _ _ ⟨(),b9,cY,rfl,rfl,O,bo⟩) rfl
end Pal
namespace Pal
open Go Go.Conc Go.Proofs Go.Extern
abbrev Ex(t:Nat):Value:= .pointer (some ⟨1,t,none⟩)
abbrev Ie(t:Nat):Value:= .iface 240 (.agg #[Ex t])
section
variable {s:St}{X:Halt→St→Prop}
theorem Uv{Q:Value→St→Prop}(t:Addr):lp Tryz.prog (ReflectliteValue.unpack (.iface 185 (.pointer (some t)))) s Q X=(s.q=false∧∀r,s.E r=none→s.H r=none→Q (.agg #[Ex 185,.pointer (some ⟨r,0,none⟩),.int .u64 150]) (s.upd r (.cells #[.pointer (some t)] 185 (0,0)))):=by kernel_rfl
theorem Uo{Q:Value→St→Prop}(c a:Int):lp Tryz.prog (ReflectliteValue.unpack (.iface 183 (.agg #[iV c,iV a]))) s Q X=(s.q=false∧∀r,s.E r=none→s.H r=none→Q (.agg #[Ex 183,.pointer (some ⟨r,0,none⟩),.int .u64 153]) (s.upd r (.cells #[iV c,iV a] 183 (0,0)))):=by kernel_rfl
theorem VZ{Q:Value→St→Prop}(a:Addr):lp Tryz.prog (ReflectliteValue.methodAny (ReflectliteValue.valueError "reflectlite.Value.Type" 0) (fun t _ _ _=>ReflectliteType.toType t) #[.agg #[Ex 185,.pointer (some a),.int .u64 150]]) s Q X=Q (Ie 185) s:=by kernel_rfl
theorem UX{Q:Value→St→Prop}(v:Value):lp Tryz.prog (ReflectliteType.typeOf #[.iface 183 v]) s Q X=Q (Ie 183) s:=by kernel_rfl
theorem SY{Q:FuncId×Value→St→Prop}(h:Value):lp Tryz.prog (Go.method (Tryz.prog.types.size+Made.depth) 240 (.agg #[h]) "Kind") s Q X=Q (216,h) s:=by kernel_rfl
theorem ZO{Q:FuncId×Value→St→Prop}(h:Value):lp Tryz.prog (Go.method (Tryz.prog.types.size+Made.depth) 240 (.agg #[h]) "Elem") s Q X=Q (227,.agg #[h]) s:=by kernel_rfl
theorem aq{Q:FuncId×Value→St→Prop}(h:Value):lp Tryz.prog (Go.method (Tryz.prog.types.size+Made.depth) 240 (.agg #[h]) "Implements") s Q X=Q (228,.agg #[h]) s:=by kernel_rfl
theorem aS{Q:FuncId×Value→St→Prop}(h:Value):lp Tryz.prog (Go.method (Tryz.prog.types.size+Made.depth) 240 (.agg #[h]) "AssignableTo") s Q X=Q (225,.agg #[h]) s:=by kernel_rfl
theorem Wm{Q:Value→St→Prop}:lp Tryz.prog ((ReflectliteType.abiMethod fun t=>(fun a:Nat=>Value.int IntKind.u8 (a:Int))<$>Rtype.kind t) #[Ex 185]) s Q X=Q (.int .u8 22) s:=by kernel_rfl
theorem W6{Q:Value→St→Prop}:lp Tryz.prog ((ReflectliteType.abiMethod fun t=>(fun a:Nat=>Value.int IntKind.u8 (a:Int))<$>Rtype.kind t) #[Ex 183]) s Q X=Q (.int .u8 25) s:=by kernel_rfl
theorem W8{Q:Value→St→Prop}:lp Tryz.prog (ReflectliteType.method ReflectliteType.elem #[.agg #[Ex 185]]) s Q X=Q (Ie 183) s:=by kernel_rfl
theorem Wq{Q:Value→St→Prop}:lp Tryz.prog (ReflectliteType.relation "Implements" ReflectliteType.implements_ #[.agg #[Ex 183],Ie 149]) s Q X=Q (.bool true) s:=by kernel_rfl
theorem Xn{Q:Value→St→Prop}:lp Tryz.prog (ReflectliteType.relation "AssignableTo" ReflectliteType.assignableTo #[.agg #[Ex 183],Ie 183]) s Q X=Q (.bool true) s:=by kernel_rfl
theorem Q3{Q:Option (TypeId×Addr×Nat)→St→Prop}(a:Addr):lp Tryz.prog (ReflectliteValue.parts (.agg #[Ex 185,.pointer (some a),.int .u64 150])) s Q X=Q (some (185,a,150)) s:=by kernel_rfl
theorem Vg{Q:Option (TypeId×Addr×Nat)→St→Prop}(a:Addr):lp Tryz.prog (ReflectliteValue.parts (.agg #[Ex 183,.pointer (some a),.int .u64 153])) s Q X=Q (some (183,a,153)) s:=by kernel_rfl
theorem UF{Q:Option (TypeId×Addr×Nat)→St→Prop}(a:Addr):lp Tryz.prog (ReflectliteValue.parts (.agg #[Ex 183,.pointer (some a),.int .u64 409])) s Q X=Q (some (183,a,409)) s:=by kernel_rfl
theorem XK{Q:Option TypeId→St→Prop}:lp Tryz.prog (Rtype.elem? 185) s Q X=Q (some 183) s:=by kernel_rfl
theorem ZS{Q:Value→St→Prop}(p:Addr):lp Tryz.prog (ReflectliteValue.mk 183 p ReflectliteValue.flagAddr) s Q X=Q (.agg #[Ex 183,.pointer (some p),.int .u64 409]) s:=by kernel_rfl
theorem Yg{Q:Bool→St→Prop}:lp Tryz.prog (Rtype.directlyAssignable 183 183) s Q X=Q true s:=by kernel_rfl
theorem Rt{Q:Value→St→Prop}(a:Addr):lp Tryz.prog (loadVar 185 a) s Q X=(Mode.plain= .plain∧∃v,s.cell? a=some v∧Q v s):=by kernel_rfl
theorem Wo{Q:Value→St→Prop}(a:Addr):lp Tryz.prog (loadVar 183 a) s Q X=(Mode.plain= .plain∧∃v,s.cell? (a.add 0)=some v∧Mode.plain= .plain∧∃w,s.cell? (a.add 1)=some w∧Q (.agg #[v,w]) s):=by kernel_rfl
end
theorem SX:CO Tryz.prog 164 (fun args=>ReflectliteValue.unpack (args.getD 0 (.tuple #[]))):=⟨⟨_,Tryz.func164,by kernel_rfl,by kernel_rfl,by kernel_rfl,by kernel_rfl⟩⟩
theorem Zb:CO Tryz.prog 165 (ReflectliteValue.methodAny (ReflectliteValue.valueError "reflectlite.Value.Type" 0) (fun t _ _ _=>ReflectliteType.toType t)):=⟨⟨_,Tryz.func165,by kernel_rfl,by kernel_rfl,by kernel_rfl,by kernel_rfl⟩⟩
theorem ZW:CO Tryz.prog 166 (ReflectliteValue.method (ReflectliteValue.valueError "reflectlite.Value.IsNil" 0) ReflectliteValue.isNil):=⟨⟨_,Tryz.func166,by kernel_rfl,by kernel_rfl,by kernel_rfl,by kernel_rfl⟩⟩
theorem aH:CO Tryz.prog 188 ReflectliteType.typeOf:=⟨⟨_,Tryz.func188,by kernel_rfl,by kernel_rfl,by kernel_rfl,by kernel_rfl⟩⟩
theorem aB:CO Tryz.prog 189 (ReflectliteValue.method (ReflectliteValue.valueError "reflectlite.Value.Elem" 0) ReflectliteValue.elem):=⟨⟨_,Tryz.func189,by kernel_rfl,by kernel_rfl,by kernel_rfl,by kernel_rfl⟩⟩
theorem Zo:CO Tryz.prog 190 ReflectliteValue.set:=⟨⟨_,Tryz.func190,by kernel_rfl,by kernel_rfl,by kernel_rfl,by kernel_rfl⟩⟩
theorem Tg:CO Tryz.prog 216 (ReflectliteType.abiMethod fun t=>(fun a:Nat=>Value.int IntKind.u8 (a:Int))<$>Rtype.kind t):=⟨⟨_,Tryz.func216,by kernel_rfl,by kernel_rfl,by kernel_rfl,by kernel_rfl⟩⟩
theorem ZB:CO Tryz.prog 225 (ReflectliteType.relation "AssignableTo" ReflectliteType.assignableTo):=⟨⟨_,Tryz.func225,by kernel_rfl,by kernel_rfl,by kernel_rfl,by kernel_rfl⟩⟩
theorem Ze:CO Tryz.prog 227 (ReflectliteType.method ReflectliteType.elem):=⟨⟨_,Tryz.func227,by kernel_rfl,by kernel_rfl,by kernel_rfl,by kernel_rfl⟩⟩
theorem YX:CO Tryz.prog 228 (ReflectliteType.relation "Implements" ReflectliteType.implements_):=⟨⟨_,Tryz.func228,by kernel_rfl,by kernel_rfl,by kernel_rfl,by kernel_rfl⟩⟩
end Pal
namespace Pal
open Go Go.Conc
section
variable {P:Program}{J:Judge P}{Q:Gs_}{b:Frame}{n:Nat}{ds:Ld_}{ops:Ao_}{k:Li_}{cs:Lf_}{m fuel:Nat}{D:Nat→Bool}{listed:Array Bool}{L:Env}{s:St}{E E' H:LH}{S:List Seg}
variable {d:Option Tmp}{x y:Operand}{t u ty e:TypeId}{p:String}{af:Ae_}{g:On_}{v:Value}{i:Nat}{kd:IntKind}
end
end Pal
namespace Pal
open Go Go.Conc
section
variable {P:Program}{J:Judge P}{Q:Gs_}{b:Frame}{n:Nat}{L:Env}{ds:Ld_}{k:Li_}{cs:Lf_}{s:St}{ops:Ao_}{i:Nat}{rest:List Nat}{v:Value}
variable {d:Option Tmp}{x:Operand}{ty:TypeId}{p:String}{af:Ae_}{g:On_}
theorem QX{f:FuncId}{e:AD→Sem Value}{args:AD}{Q:Next→St→Prop}{X:Halt→St→Prop}(he:CO P f e)(h:lp P (e args) s (fun v s'=>Q (.value v) s') X):lp P (callFunc f args) s Q X:=by
 obtain⟨fn,K,O,U,V,Y⟩:=he.h;unfold callFunc;simp only [bind,Sem.bind,program,lp,K,O,U,Bool.false_eq_true,if_false,if_true,mark,V,Y];refine⟨.inr ⟨f,rfl⟩,?_⟩;exact AH _ _ (Dz _ h (fun v s' Z=>Z) (fun _ _ ag=>ag))
theorem Je{f:FuncId}{e:AD→Sem Value}{args:Array Operand}{ats:Array TypeId}{vs:Lv_}(he:CO P f e)(O:ops[i]? =some ⟨d,.call ⟨.value (.func f),args,ats⟩,ty,p,af,g⟩)(hw:Bf L ops ⟨d,.call ⟨.value (.func f),args,ats⟩,ty,p,af,g⟩=some true)(U:CS b n ⟨d,.call ⟨.value (.func f),args,ats⟩,ty,p,af,g⟩=true)(V:evs L args.toList=some vs)
  (h:lp P (e vs.toArray) s (fun v s'=>JL J Q b n (AI L d v) ds (.inRegion ops rest::k) cs s') (fun _ _=>False)):JL J Q b n L ds (.inRegion ops (i::rest)::k) cs s:=by
 refine JL.op O hw U fun ρ K=>?_;have Y:args.map ρ=vs.toArray:=by
  rw [← F4 K V];apply Array.ext';simp
 have Z:ρ (.func f)= .func (.func f) #[] #[]:=K _ _ rfl;simp only [execOp,resolve,bind,Sem.bind,Deferred.ofValue,Z,pure,invoke];have ag: #[]++args.map ρ++ #[]=vs.toArray:=by rw [Y];simp
 rw [ag];exact QX he h
theorem LG{t:TypeId}{K O:Value}{name:String}{f:FuncId}{e:AD→Sem Value}{args:Array Operand}{ats:Array TypeId}{vs:Lv_}(he:CO P f e)(hm:∀{s:St} {X:Halt→St→Prop} {Q:FuncId×Value→St→Prop},lp P (Go.method (P.types.size+Made.depth) t K name) s Q X=Q (f,O) s)
  (V:ops[i]? =some ⟨d,.call ⟨.invoke x name,args,ats⟩,ty,p,af,g⟩) (hw:Bf L ops ⟨d,.call ⟨.invoke x name,args,ats⟩,ty,p,af,g⟩=some true) (Y:CS b n ⟨d,.call ⟨.invoke x name,args,ats⟩,ty,p,af,g⟩=true) (Z:ev L x=some (.iface t K)) (ag:evs L args.toList=some vs)
  (h:lp P (e (O::vs).toArray) s (fun v s'=>JL J Q b n (AI L d v) ds (.inRegion ops rest::k) cs s') (fun _ _=>False)):JL J Q b n L ds (.inRegion ops (i::rest)::k) cs s:=by
 refine JL.op V hw Y fun ρ U=>?_;have al:args.map ρ=vs.toArray:=by
  rw [← F4 U ag];apply Array.ext';simp
 have am:ρ x= .iface t K:=U _ _ Z;simp only [execOp,resolve,bind,Sem.bind,pure,invoke,am,al];have ap:(#[Value.iface t K]++vs.toArray)[0]? =some (.iface t K):=by simp
 have av:(#[Value.iface t K]++vs.toArray).extract 1 (#[Value.iface t K]++vs.toArray).size=vs.toArray:=by
  apply Array.ext';simp
 simp only [ap,av,callMethod,bind,Sem.bind,program,lp];refine AH _ _ ?_;rw [hm];have a0: #[O]++vs.toArray=(O::vs).toArray:=by apply Array.ext';simp
 rw [a0];exact QX he h
end
end Pal
namespace Pal
open Go Go.Conc Go.Proofs
open Go.Proofs.Tryz
variable {J:Judge Tryz.prog}{E:LH}
def f135(fuel:Nat):Option Bool:= some false
theorem Z0{O:Value}{fuel:Nat}{r:Bool}(K:f135 fuel=some r):AN J 135 [.nilIface,O] E [] (fun w E' B'=>w= .bool r∧B'= []):=by
 refine A3 func135 fun Q Y cs H U V=>?_;unfold f135 at K;refine zg 8 rfl ?_;refine AF (v:= .bool true) rfl (fun ρ h=>RO underlying149 (show Ig 0 .nilIface none from rfl) (h _ _ rfl) (h _ _ rfl)) (zg 6 rfl ?_);obtain rfl:=oi K;exact AB func135 rfl rfl (V Ar rfl ⟨rfl,rfl⟩ U)
def f112(fuel:Nat):Option Int:= (f135 fuel).bind fun K=> if K=true then(some 0) else(some 0)
theorem Z5{fuel:Nat}{r:Int}(O:f112 fuel=some r):AN J 112 [.nilIface] E [] (fun w E' B'=>w=iV r∧B'= []):=by
 refine A3 func112 fun Q a3 cs H Y U=>?_;unfold f112 at O;refine zg 6 rfl (CW Y FP fun Z ag=>?_);refine zg 5 rfl (AF (v:=(.iface 185 (pV Z 0))) rfl (fun ρ h=>Ff underlying185 (fun _ h=>by cases h) (h _ _ rfl)) ?_);obtain⟨a4,al,am⟩:=bs O;refine BH (Z0 al) rfl rfl (AV func135 rfl) ag fun a5 V K=>JL.done (BI am (fun ap av=>?_) (fun ap a0=>?_))
 ·refine zg 2 rfl (BL underlying183 (Bv type39) rfl rfl rfl ?_);refine AF (v:=iV 0) rfl (fun ρ h=>Yl.load (DI underlying39) (h _ _ rfl) (D1 (j:=1) (off:=0) K rfl rfl)) (zg 2 rfl ?_);refine JS.drop 1 K rfl fun a1=>?_;obtain rfl:=oi av;exact AB func112 rfl rfl (U V rfl ⟨rfl,rfl⟩ a1)
 ·refine zg 5 rfl (JS.drop 1 K rfl fun a2=>?_);obtain rfl:=oi a0;exact AB func112 rfl rfl (U V rfl ⟨rfl,rfl⟩ a2)
def Ly(fuel:Nat)(p0:Option (Int×Int)):Option Int:=match p0 with
 | none=>f112 fuel
 | some _=>none
end Pal
namespace Pal
open Go Go.Conc Go.Proofs Go.Extern
def Pw(b:Frame)(n:Nat):Nat→Li_→Env→Li_×Env
 | 0,k,L=>(k,L)
 | m+1,k,L=>match N3 b n L k with
  | some (k',L')=>Pw b n m k' L'
  | none=>(k,L)
theorem zm{P:Program}{J:Judge P}{Q:Gs_}{b:Frame}{n:Nat}{ds:Ld_}{cs:Lf_}{s:St}:∀(m:Nat) {L L':Env} {k k':Li_},Pw b n m k L=(k',L')→JL J Q b n L' ds k' cs s→JL J Q b n L ds k cs s
 | 0,L,L',k,k',h,K=>by cases h;exact K
 | m+1,L,L',k,k',h,K=>by
  unfold Pw at h
  split at h
  ·rename_i e;exact Tf e (zm m h K)
  ·cases h;exact K
theorem Rw{E H:LH}{S:List Seg}{r:Nat}{o:Obj}(K:Ax E H S)(O:(An E H S).E r=none)(U:(An E H S).H r=none):Ax E H (S++ [[(r,o)]])∧(An E H S).upd r o=An E H (S++ [[(r,o)]]):=by
 obtain⟨a,b⟩:=I2 O U o K;obtain⟨c,d⟩:=Eo a;exact⟨d,b.trans c⟩
theorem Zy{s:St}{X:Halt→St→Prop}{Q:Value→St→Prop}{o:Operand}(p:Addr):lp Tryz.prog (do eqGuard .eql 20 o (.const .nilIface) (.iface 185 (.pointer (some p))) .nilIface;binOp .eql 20 (.iface 185 (.pointer (some p))) .nilIface) s Q X=Q (.bool false) s:=by kernel_rfl
theorem Wy{s:St}{ρ:Operand→Value}{d:Option Tmp}{x:Operand}{u ty:TypeId}{p:String}{af:Ae_}{g:On_}{a:Addr}(K:ρ x= .iface 185 (.pointer (some a)))(O:ρ (.const .nilIface)= .nilIface):Yl Tryz.prog ⟨d,.binOp .eql 20 x (.const .nilIface) u,ty,p,af,g⟩ ρ s (.bool false):=by
 refine Fz (sm:=do eqGuard .eql 20 x (.const .nilIface) (ρ x) (ρ (.const .nilIface));binOp .eql 20 (ρ x) (ρ (.const .nilIface))) rfl ?_
 rw [K,O];exact(Zy a).mpr ⟨rfl,rfl⟩
theorem T2(z:Sem Value)(f:TypeId→Addr→Nat→Nat→Sem Value)(v:Value):ReflectliteValue.method z f #[v]=Sem.bind (ReflectliteValue.parts v) (fun x=>match x with | none=>z | some (t,a,fl)=>f t a fl (fl % 32)):=rfl
theorem VI{s:St}{X:Halt→St→Prop}{Q:Value→St→Prop}(a p:Addr)(K:s.cell? a=some (.pointer (some p)))(h:Q (.bool false) s):lp Tryz.prog (ReflectliteValue.method (ReflectliteValue.valueError "reflectlite.Value.IsNil" 0) ReflectliteValue.isNil #[.agg #[Ex 185,.pointer (some a),.int .u64 150]]) s Q X:=by
 rw [T2];refine AH (x:=ReflectliteValue.parts _) _ ((Q3 a).mpr ?_);show lp Tryz.prog (Sem.bind (loadVar 185 a) _) s Q X;exact AH (x:=loadVar 185 a) _ ((Rt a).mpr ⟨rfl,_,K,h⟩)
theorem Vs{s:St}{X:Halt→St→Prop}{Q:Value→St→Prop}(a p:Addr)(K:s.cell? a=some (.pointer (some p)))(h:Q (.agg #[Ex 183,.pointer (some p),.int .u64 409]) s):lp Tryz.prog (ReflectliteValue.method (ReflectliteValue.valueError "reflectlite.Value.Elem" 0) ReflectliteValue.elem #[.agg #[Ex 185,.pointer (some a),.int .u64 150]]) s Q X:=by
 rw [T2];refine AH (x:=ReflectliteValue.parts _) _ ((Q3 a).mpr ?_);show lp Tryz.prog (Sem.bind (loadVar 185 a) _) s Q X;refine AH (x:=loadVar 185 a) _ ((Rt a).mpr ⟨rfl,_,K,?_⟩);refine AH (x:=Rtype.elem? 185) _ (XK.mpr ?_);exact(ZS p).mpr h
theorem bT(v x:Value):ReflectliteValue.set #[v,x]=(do
  let (some (dst,a,fl),some (src,b,_)):=(← ReflectliteValue.parts v,← ReflectliteValue.parts x)
   | unsupported (.noEntry "extern/(internal/reflectlite.Value).Set.zeroValue")
  if fl / ReflectliteValue.flagAddr % 2==0 then unsupported (.noEntry "extern/(internal/reflectlite.Value).Set.unaddressable")
  let val ← loadVar src b
  if ← Rtype.directlyAssignable dst src then storeVar dst a val
  else if ← Rtype.implements dst src then
   if(← Rtype.kind src)==20 then
    match val with
    | .nilIface=>unsupported (.noEntry "extern/reflectlite: a nil value of one interface type handed on as a value of another")
    | _=>storeVar dst a val
   else storeVar dst a (.iface src val)
  else panicString ("reflectlite.Set: value of type " ++(← Rtype.spelt src)++ " is not assignable to type " ++(← Rtype.spelt dst))
  pure (.tuple #[])):=rfl
theorem Xh{E H:LH}{S:List Seg}{X:Halt→St→Prop}{Q:Value→St→Prop}{bk r:Nat}{u w:Value}{c a:Int}(j:Nat)(V:Ax E H S)(K:S[j]? =some [(bk,.cells #[u,w] 183 (0,0))])(O:At E r 0 [iV c,iV a])(h:Ax E H (S.set j [(bk,.cells #[iV c,iV a] 183 (0,0))])→Q (.tuple #[]) (An E H (S.set j [(bk,.cells #[iV c,iV a] 183 (0,0))]))):
  lp Tryz.prog (ReflectliteValue.set #[.agg #[Ex 183,.pointer (some ⟨bk,0,none⟩),.int .u64 409],.agg #[Ex 183,.pointer (some ⟨r,0,none⟩),.int .u64 153]]) (An E H S) Q X:=by
 rw [bT];refine AH (x:=ReflectliteValue.parts _) _ ((UF _).mpr ?_);refine AH (x:=ReflectliteValue.parts _) _ ((Vg _).mpr ?_);refine AH (x:=loadVar 183 _) _ ((Wo _).mpr ⟨rfl,_,At.Kf (j:=0) O rfl,rfl,_,At.Kf (j:=1) O rfl,?_⟩);refine AH (x:=Rtype.directlyAssignable 183 183) _ (Yg.mpr ?_);refine AH (x:=storeVar 183 _ _) _ ?_;obtain⟨Y,Z⟩:=Gp V K;rw [Y];refine OH (pl:=(S.set j []).flatten.length) (Bv Tryz.type183) (by simp [Value.cells,CY]) Z (c:= #[u,w]) (e:=183) (by simp) (by simp [Value.cells]) fun U=>?_;have ag:((S.set j []).flatten++ [(bk,Obj.cells #[u,w] 183 (0,0))]).set (S.set j []).flatten.length (bk,.cells (A2 #[u,w] 0 (Value.agg #[iV c,iV a]).cells.toList) 183 (0,0))=(S.set j []).flatten++ [(bk,.cells #[iV c,iV a] 183 (0,0))]:=HU _ _ _ _;rw [ag] at U ⊢;obtain⟨al,am⟩:=Hv (seg':= [(bk,.cells #[iV c,iV a] 183 (0,0))]) K U;rw [al];exact h am
variable {J:Judge Tryz.prog}{E:LH}
theorem bg{c a:Int}{bk r:Nat}{u w:Value}(O:At E r 0 [.pointer (some ⟨bk,0,none⟩)]):AN J 167 [.iface 183 (.agg #[iV c,iV a]),.iface 185 (.pointer (some ⟨bk,0,none⟩)),.agg #[Ex 185,.pointer (some ⟨r,0,none⟩),.int .u64 150],Ie 183] E [(bk,.cells #[u,w] 183 (0,0))] (fun v E' B'=>v= .bool true∧B'= [(bk,.cells #[iV c,iV a] 183 (0,0))]):=by
 refine Ka Tryz.func167 rfl rfl fun Q a4 cs H U V=>zm 60 rfl (JS.box (v:= .agg #[Ex 185,.pointer (some ⟨r,0,none⟩),.int .u64 150]) rfl rfl rfl U rfl fun a5 Y=>?_);refine C8 1 Y rfl fun a6 K Z ag=>zm 60 rfl (IY ?_);refine zm 60 rfl (Je aH rfl rfl rfl rfl ?_);refine(UX _).mpr ?_;refine zm 60 rfl (LG ZB (aS _) rfl rfl rfl rfl rfl ?_);refine Xn.mpr (zm 60 rfl ?_);refine BX Z Mb KB rfl rfl (Je aB rfl rfl rfl rfl ?_);refine Vs ⟨r,0,none⟩ ⟨bk,0,none⟩ (At.Kf (j:=0) (O.Ai K) rfl) (zm 60 rfl ?_);refine Je SX rfl rfl rfl rfl ?_;refine(Uo c a).mpr ⟨rfl,fun a7 al am=>?_⟩;obtain⟨ap,av⟩:=Rw (o:= .cells #[iV c,iV a] 183 (0,0)) ag al am;rw [av];refine C8 2 ap rfl fun a8 a0 a1 a2=>Je Zo rfl rfl rfl rfl (Xh 0 a2 rfl a1 fun a3=>?_);refine zm 60 rfl (AB Tryz.func167 rfl rfl ?_);exact V _ _ _ _ (K.trans a0) rfl ⟨rfl,rfl⟩ a3
theorem Zz{c a:Int}{bk:Nat}{u w:Value}(Y:At E 0 0 [Ie 149]):AN J 135 [.iface 183 (.agg #[iV c,iV a]),.iface 185 (.pointer (some ⟨bk,0,none⟩))] E [(bk,.cells #[u,w] 183 (0,0))] (fun v E' B'=>v= .bool true∧B'= [(bk,.cells #[iV c,iV a] 183 (0,0))]):=by
 refine Ka Tryz.func135 rfl rfl fun Q a6 cs H Z ag=>zm 60 rfl ?_;refine AF (v:= .bool false) rfl (fun ρ h=>RO Tryz.underlying149 (show Ig 183 (.iface 183 (.agg #[iV c,iV a])) (some (c,a)) from rfl) (h _ _ rfl) (h _ _ rfl)) (zm 60 rfl ?_);refine AF rfl (fun ρ h=>Wy (h _ _ rfl) (h _ _ rfl)) (zm 60 rfl ?_);refine Je SX rfl rfl rfl rfl ?_;refine(Uv _).mpr ⟨rfl,fun r al am=>?_⟩;obtain⟨ap,av⟩:=Rw (o:= .cells #[.pointer (some ⟨bk,0,none⟩)] 185 (0,0)) Z al am;rw [av];refine JS.alloc rfl rfl rfl ap (DG Tryz.type210) fun a7 a0=>PL (v:= .agg #[Ex 185,.pointer (some ⟨r,0,none⟩),.int .u64 150]) (off:=0) 2 a0 KB rfl rfl rfl rfl fun a1=>zm 60 rfl (C8 1 a1 rfl fun a8 U V a2=>?_);refine C8 2 a2 rfl fun a9 K O a3=>BX O Mb KB rfl rfl (Je Zb rfl rfl rfl rfl ?_);refine(VZ _).mpr ?_;refine zm 60 rfl (LG Tg (SY _) rfl rfl rfl rfl rfl ?_);refine Wm.mpr (zm 60 rfl ?_);refine BX (O) Mb KB rfl rfl (Je ZW rfl rfl rfl rfl ?_);refine VI ⟨r,0,none⟩ ⟨bk,0,none⟩ (At.Kf (j:=0) (V.Ai K) rfl) (zm 60 rfl ?_);refine LG Ze (ZO _) rfl rfl rfl rfl rfl (W8.mpr ?_);refine zm 60 rfl (LG Tg (SY _) rfl rfl rfl rfl rfl ?_);refine W6.mpr (zm 60 rfl ?_);refine B4 0 (Y.Ai (U.trans K)) (DI Tryz.underlying213) rfl rfl rfl (LG YX (aq _) rfl rfl rfl rfl rfl ?_);refine Wq.mpr (zm 60 rfl ?_);refine AF (v:= .bool (!true)) rfl (fun ρ h=>Yl.not (h _ _ rfl)) (zm 60 rfl ?_);refine BX (O) Mb KB rfl rfl (zm 60 rfl ?_);refine B8 0 (bg (V.Ai K)) rfl rfl (AV Tryz.func167 rfl) a3 rfl ?_;rintro _ bb _ a4 ⟨rfl,rfl⟩ a5;refine zm 60 rfl (AB Tryz.func135 rfl rfl ?_);exact ag _ _ _ _ ((U.trans K).trans a4) rfl ⟨rfl,rfl⟩ a5
theorem Ww{c a:Int}(K:At E 0 0 [Ie 149]):AN J 112 [.iface 183 (.agg #[iV c,iV a])] E [] (fun v E' B'=>v=iV c∧B'= []):=by
 refine Ka Tryz.func112 rfl rfl fun Q ap cs H O U=>zm 60 rfl (JS.alloc rfl rfl rfl O FP fun av V=>?_);refine zm 60 rfl (AF rfl (fun ρ h=>Ff Tryz.underlying185 (fun ms e=>by cases e) (h _ _ rfl)) ?_);refine B8 1 (Zz (u:=iV 0) (w:=iV 0) K) rfl rfl (AV Tryz.func135 rfl) V rfl ?_;rintro _ a0 _ Y ⟨rfl,rfl⟩ Z;refine C8 1 Z rfl fun a1 ag al am=>zm 60 rfl (BL Tryz.underlying183 (Bv Tryz.type39) rfl rfl rfl ?_);refine B4 0 al (DI Tryz.underlying39) rfl rfl rfl (zm 60 rfl ?_);exact AB Tryz.func112 rfl rfl (U _ _ _ _ (Y.trans ag) rfl ⟨rfl,rfl⟩ am)
abbrev GE(E:LH):Prop:=At E 0 0 [Ie 149]
def LB(fuel:Nat)(p0:Option (Int×Int)):Option Int:=match p0 with
 | none=>f112 fuel
 | some q=>some q.1
theorem Pm{v:Value}{p0:Option (Int×Int)}(O:GE E)(h:Ig 183 v p0){fuel:Nat}{r:Int}(K:LB fuel p0=some r):AN J 112 [v] E [] (fun w E' B'=>w=iV r∧B'= []):=by
 match p0,h with
 | none,h=>obtain rfl:v= .nilIface:=h;exact Z5 K
 | some (c,a),h=>
  obtain rfl:v= .iface 183 (.agg #[iV c,iV a]):=h;cases K;exact Ww O
end Pal
namespace Pal
open Go Go.Conc Go.Proofs Go.ChangeShapes Go.WideShapes Go.ChangeAt Go.RowKit
open Go.Proofs.YtboibffcmhheiaaGreatDoor
section
variable {H:Type}{enc:TypeId×Value→H}{W:World}{fuel:Nat}{cs:Lv_}{x:DataW H×List MemPlace}
theorem Tryz.XD:Tryz.prog.cellsOf 28=1:=by kernel_rfl
theorem Tryz.XZ:Tryz.prog.cellsOf 22=1:=by kernel_rfl
theorem Tryz.Yj:Tryz.prog.cellsOf 24=2:=by kernel_rfl
theorem IX(a:Addr):a.add 0=a:=by unfold Addr.add;rw [if_pos rfl]
theorem Rx(Y:DataW.trod enc Tryz.prog W 0 (fun _=>true) true fuel 28 cs=some x):∃(a:Option Addr) (c:Nat) (K:List Int),cs= [.slice a K.length c]∧Al rI (El W).E a c K:=by
 rcases open_ints Tryz.underlying28 Tryz.underlying3 Pal.Tryz.Ta Y with⟨O,Z⟩ | ⟨a,len,cap,K,O,_,ag,hm,al,Z,U,hw⟩
 ·exact⟨none,0,[],O,Al.nil⟩
 ·simp only [if_true] at al;rcases Nat.eq_zero_or_pos cap with V | V
  ·have:len=0:=by omega
   subst this;subst V;exact⟨some a,0,[],O,Nat.le_refl _,.inl ⟨rfl,fun _ _=> .inr rfl⟩⟩
  ·have am:a.spot=none:=by
    have:=World.cell?_spot (U 0 (by omega))
    rwa [IX] at this
   obtain⟨ap,g2⟩:=Wj am ag (by omega) U;exact⟨some a,cap,K.take len,by rw [g2];exact O,ap⟩
theorem R4{b off:Nat}{v:Value}(h:W.cell? ⟨b,off,none⟩=some v):At (El W).E b off [v]:=by
 unfold World.cell? at h;split at h
 ·rename_i c e f hW;simp only [Option.isSome_none,Bool.false_eq_true,if_false] at h;refine⟨c,e,f,hW,fun j w K=>?_⟩
  match j,K with
  | 0,K=>simp at K;subst K;simpa using h
  | j+1,K=>simp at K
 ·cases h
theorem Rq(a4:DataW.trod enc Tryz.prog W 0 (fun _=>true) true fuel 22 cs=some x):∃(a:Option Addr) (c:Nat) (U:List (List Int)),cs= [.slice a U.length c]∧Al (rL rI) (El W).E a c U:=by
 rcases DataW.trod_slice Tryz.underlying22 a4 with⟨am,a5⟩ | ⟨a,len,cap,elems,rest,n,_,am,a5,_,a6,_,hlen,ap,av,_⟩
 ·exact⟨none,0,[],am,Al.nil⟩
 ·rw [Tryz.XD] at ap av;simp only [Nat.mul_one] at ap av;rcases Nat.eq_zero_or_pos cap with a1 | a1
  ·have:len=0:=by omega
   subst this;subst a1;exact⟨some a,0,[],am,Nat.le_refl _,.inl ⟨rfl,fun _ _=> .inr rfl⟩⟩
  ·have a2:∀i,i<len→∃v y,W.cell? (a.add i)=some v∧DataW.trod enc Tryz.prog W 0 (fun _=>true) true n 28 [v]=some y:=fun i hi=>by
    have K:=ap i hi;rw [List.getElem?_eq_getElem (by omega)] at K;obtain⟨vs,O,ag⟩:=Option.bind_eq_some_iff.1 K;obtain⟨_,V,al⟩:=World.cells?_some O
    match vs,V with
    | [v],_=>
     have:=al 0 (by omega);refine⟨v,_,?_,ag⟩;have e:(a.add i).add 0=a.add i:=IX _;rw [e] at this;simpa using this
   have hs:a.spot=none:=by
    rcases Nat.eq_zero_or_pos len with K | K
    ·obtain⟨O,ag⟩:=av trivial;have V:=ag 0 (by omega);rw [List.getElem?_eq_getElem (by omega)] at V;obtain⟨vs,al,_⟩:=Option.bind_eq_some_iff.1 V;obtain⟨_,a7,a8⟩:=World.cells?_some al
     match vs,a7 with
     | [v],_=>
      have:=a8 0 (by omega);rw [K] at this;rw [IX,Nat.add_zero,IX] at this;exact World.cell?_spot this
    ·obtain⟨v,y,O,_⟩:=a2 0 K;rw [IX] at O;exact World.cell?_spot O
   have a3:∀i:Fin len,∃U:List Int,∃(Y:Option Addr) (Z:Nat),W.cell? (a.add i)=some (.slice Y U.length Z)∧Al rI (El W).E Y Z U:=fun i=>by
    obtain⟨v,y,O,ag⟩:=a2 i i.2;obtain⟨Y,Z,U,V,al⟩:=Rx ag;simp only [List.cons.injEq,and_true] at V;subst V;exact⟨U,Y,Z,O,al⟩
   refine⟨some a,cap,List.ofFn fun i=>Classical.choose (a3 i),by simpa using am,by simpa using a6,.inr ⟨a.block,a.off,?_,fun i z a0=>?_⟩⟩
   ·obtain⟨b,o,s⟩:=a;simp only at hs;subst hs;rfl
   ·have hi:i<len:=by have:=(List.getElem?_eq_some_iff.1 a0).1;simpa using this
    simp [hi] at a0;obtain⟨Y,Z,K,O⟩:=Classical.choose_spec (a3 ⟨i,hi⟩);rw [a0] at K O;simp only at K;rw [Dp hs] at K;refine⟨[.slice Y z.length Z],⟨Y,Z,rfl,O⟩,?_⟩;have e:a.off+i*(rL rI).n=a.off+i:=by show a.off+i*1=_;omega
    rw [e];exact R4 K
theorem YH{v:Value}{ag:Nat}{d:DataW H}{p:List MemPlace}(al:Value.okWide Tryz.prog W .any ag 24 v)(am:DataW.Trod enc Tryz.prog W 0 (fun _=>true) true 24 v d p):
  ∃(K:Option Addr) (O:Nat) (U:Option Addr) (c2:Nat) (J:List (List Int)×List (List Int)),v= .agg #[.slice K J.1.length O,.slice U J.2.length c2]∧Al (rL rI) (El W).E K O J.1∧Al (rL rI) (El W).E U c2 J.2:=by
 obtain⟨cs,rfl,Z⟩:=okWide_struct Tryz.underlying24 al;obtain⟨fuel,ap⟩:=am;obtain⟨a3,a4,n,_,a5,av,a0⟩:=trod_struct2 Tryz.underlying24 ap;obtain⟨K,O,z1,V,a1⟩:=Rq av;obtain⟨U,c2,a2,Y,g2⟩:=Rq a0;refine⟨K,O,U,c2,(z1,a2),?_,a1,g2⟩;rw [Tryz.XZ] at V Y;rw [Tryz.Yj] at Z;simp only [Value.cells,List.drop_zero] at V Y;obtain⟨l⟩:=cs
 match l,Z with
 | [u,w],_=>
  simp at V Y;rw [V,Y]
theorem WH{v:Value}{O:Nat}{d:DataW H}{p:List MemPlace}(U:Value.okWide Tryz.prog W .any O 28 v)(V:DataW.Trod enc Tryz.prog W 0 (fun _=>true) true 28 v d p):
  ∃(a:Option Addr) (c:Nat) (K:List Int),v= .slice a K.length c∧Al rI (El W).E a c K:=by
 obtain⟨Z,len,cap,rfl⟩:=okWide_slice Tryz.underlying28 U;obtain⟨fuel,Y⟩:=V;obtain⟨a,c,K,e,g⟩:=Rx Y;simp [Value.cells] at e;obtain⟨rfl,rfl,rfl⟩:=e;exact⟨_,_,_,rfl,g⟩
end
theorem Tryz.XP:Tryz.prog.globalNamed "errors.errorType" =some 0:=by kernel_rfl
theorem Tryz.Zm:(Tryz.prog.cutTypes.find? (·.1== "internal/reflectlite.rtype")).map (·.2)=some 240:=by kernel_rfl
theorem Tryz.Xk:Tryz.prog.globals.size=1:=by kernel_rfl
theorem Tryz.aE:(List.range Tryz.prog.types.size).all (fun t=> !Tryz.prog.rowNamed t [101,114,114,111,114] || t==149)=true:=by kernel_rfl
theorem X7{W:World}(h:laidMetH Tryz.prog [("errors.errorType",Rows.laid_errors_errorType)] W.memory):GE (El W).E:=by
 have U:=h.2 _ (List.mem_cons_self ..);obtain⟨name,u,ty,V,Y,Z,ag,K⟩:=U;have al:name= [101,114,114,111,114]:=(Option.some.inj V).symm;have am:u=240:=Option.some.inj (Y.symm.trans Tryz.Zm);subst al;subst am;have ap:ty=149:=by
  have:=List.all_eq_true.1 Tryz.aE ty (List.mem_range.2 Z);rw [ag] at this;simpa using this
 subst ap;unfold World.var? at K;rw [Tryz.XP] at K;simp only [Option.bind_some] at K;split at K
 ·rename_i c e f hW;simp only [Option.some.injEq] at K;subst K;refine⟨_,e,f,hW,fun j w O=>?_⟩;have av:typeHandle Tryz.prog 149= .pointer (some ⟨1,149,none⟩):=by unfold typeHandle;rw [Tryz.Xk]
  rw [av]
  match j,O with
  | 0,O=>simp at O;subst O;rfl
  | j+1,O=>simp at O
 ·cases K
end Pal
namespace Pal
open Go Go.Conc Go.Proofs Go.ChangeShapes Go.WideShapes Go.ChangeAt Go.RowKit
open Go.Proofs.YtboibffcmhheiaaGreatDoor
section
variable {H:Type}{enc:TypeId×Value→H}{W:World}{fuel:Nat}{cs:Lv_}{x:DataW H×List MemPlace}
theorem Tryz.Sd:Tryz.prog.cellsOf 27=2:=by kernel_rfl
theorem VQ{b off:Nat}(O:0<cs.length)(h:∀j,j<cs.length→W.cell? ⟨b,off+j,none⟩=cs[j]?):At (El W).E b off cs:=by
 have U:=h 0 O;rw [List.getElem?_eq_getElem O] at U;obtain⟨f,e,fr,V,_⟩:=R4 U;have hW:W.heap[b]? =some (.cells f e fr):=V;refine⟨f,e,fr,V,fun j w Y=>?_⟩;have Z:=(List.getElem?_eq_some_iff.1 Y).1;have K:=h j Z;rw [Y] at K;unfold World.cell? at K;simp only [hW] at K;simpa using K
theorem Z8{α:Type}{p:Rp α}{t e:TypeId}(ht:Tryz.prog.underlying t=some (.slice e))(a4:Tryz.prog.cellsOf e=p.n)(a5:0<p.n)
  (a6:∀n cs x,DataW.trod enc Tryz.prog W 0 (fun _=>true) true n e cs=some x→∃v,p.r (El W).E cs v)
  (a7:DataW.trod enc Tryz.prog W 0 (fun _=>true) true fuel t cs=some x):∃(a:Option Addr) (c:Nat) (ap:List α),cs= [.slice a ap.length c]∧Al p (El W).E a c ap:=by
 rcases DataW.trod_slice ht a7 with⟨Z,a8⟩ | ⟨a,len,cap,elems,rest,n,_,Z,a8,_,a9,_,hlen,av,a0,_⟩
 ·exact⟨none,0,[],Z,Al.nil⟩
 ·rw [a4] at av a0;rcases Nat.eq_zero_or_pos cap with a1 | a1
  ·have:len=0:=by omega
   subst this;subst a1;exact⟨some a,0,[],Z,Nat.le_refl _,.inl ⟨rfl,fun _ _=> .inr rfl⟩⟩
  ·have a2:∀i,i<len→∃vs y,vs.length=p.n∧(∀j,j<p.n→W.cell? ((a.add (i*p.n)).add j)=vs[j]?)∧DataW.trod enc Tryz.prog W 0 (fun _=>true) true n e vs=some y:=fun i hi=>by
    have K:=av i hi;rw [List.getElem?_eq_getElem (by omega)] at K;obtain⟨vs,al,V⟩:=Option.bind_eq_some_iff.1 K;obtain⟨_,O,am⟩:=World.cells?_some al;exact⟨vs,_,O,am,V⟩
   have hs:a.spot=none:=by
    have key:∀vs:Lv_,vs.length=p.n→(∀j,j<p.n→W.cell? ((a.add (0*p.n)).add j)=vs[j]?)→a.spot=none:=fun vs ag U=>by
     have:=U 0 a5;rw [List.getElem?_eq_getElem (by omega),IX,Nat.zero_mul,IX] at this;exact World.cell?_spot this
    rcases Nat.eq_zero_or_pos len with K | K
    ·obtain⟨al,V⟩:=a0 rfl;have O:=V 0 (by omega);rw [List.getElem?_eq_getElem (by omega)] at O;obtain⟨vs,am,_⟩:=Option.bind_eq_some_iff.1 O;obtain⟨_,ag,U⟩:=World.cells?_some am;rw [K] at U;exact key vs ag U
    ·obtain⟨vs,y,ag,U,_⟩:=a2 0 K;exact key vs ag U
   have a3:∀i:Fin len,∃z:α,∃vs,p.r (El W).E vs z∧At (El W).E a.block (a.off+i*p.n) vs:=fun i=>by
    obtain⟨vs,y,al,V,O⟩:=a2 i i.2;obtain⟨z,Y⟩:=a6 _ _ _ O;refine⟨z,vs,Y,VQ (by omega) fun j bb=>?_⟩;have:=V j (by omega);rw [Dp hs,Dp rfl] at this;exact this
   refine⟨some a,cap,List.ofFn fun i=>Classical.choose (a3 i),by simpa using Z,by simpa using a9,.inr ⟨a.block,a.off,?_,fun i z Y=>?_⟩⟩
   ·obtain⟨b,o,s⟩:=a;simp only at hs;subst hs;rfl
   ·have hi:i<len:=by have:=(List.getElem?_eq_some_iff.1 Y).1;simpa using this
    simp [hi] at Y;have:=Classical.choose_spec (a3 ⟨i,hi⟩);rw [Y] at this;exact this
theorem Ra(h:DataW.trod enc Tryz.prog W 0 (fun _=>true) true fuel 27 cs=some x):∃v:Int×Int,cs= [iV v.1,iV v.2]:=by
 obtain⟨Z,ag,n,_,U,V,Y⟩:=trod_struct2 Tryz.underlying27 h;obtain⟨n1,K,_⟩:=DataW.trod_int Tryz.underlying3 V;obtain⟨n2,O,_⟩:=DataW.trod_int Tryz.underlying3 Y;rw [Tryz.Sd] at U;rw [Pal.Tryz.Ta] at K O;refine⟨(n1,n2),?_⟩
 match cs,U with
 | [u,w],_=>simp at K O;rw [K,O]
theorem Vt{v:Value}{O:Nat}{d:DataW H}{p:List MemPlace}(U:Value.okWide Tryz.prog W .any O 25 v)(V:DataW.Trod enc Tryz.prog W 0 (fun _=>true) true 25 v d p):
  ∃(a:Option Addr) (c:Nat) (K:List (Int×Int)),v= .slice a K.length c∧Al (rP rI rI) (El W).E a c K:=by
 obtain⟨Z,len,cap,rfl⟩:=okWide_slice Tryz.underlying25 U;obtain⟨fuel,Y⟩:=V;obtain⟨a,c,K,e,g⟩:=Z8 (p:=rP rI rI) Tryz.underlying25 Tryz.Sd (Nat.zero_lt_two) (fun n cs x h=>by
  obtain⟨v,rfl⟩:=Ra h
  exact⟨v,[iV v.1],[iV v.2],rfl,rfl,rfl⟩) Y
 simp [Value.cells] at e;obtain⟨rfl,rfl,rfl⟩:=e;exact⟨_,_,_,rfl,g⟩
theorem V1{v:Value}{K:Nat}{d:DataW H}{p:List MemPlace}(O:Value.okWide Tryz.prog W .any K 27 v)(U:DataW.Trod enc Tryz.prog W 0 (fun _=>true) true 27 v d p):∃l:Int×Int,v= .agg #[iV l.1,iV l.2]:=by
 obtain⟨cs,rfl,Y⟩:=okWide_struct Tryz.underlying27 O;obtain⟨fuel,V⟩:=U;obtain⟨l,e⟩:=Ra V;simp only [Value.cells] at e;refine⟨l,?_⟩;obtain⟨k⟩:=cs;simp only at e;rw [e]
end
end Pal
namespace Pal
open Go Go.Conc Go.Proofs
open Go.Proofs.Tryz
variable {J:Judge Tryz.prog}{E:LH}
def f69(fuel:Nat)(p0:A9)(p1:AJ):Option Int:= (f113 fuel p0).bind fun K=> if K.isSome=true then((Ly fuel K).bind fun O=> some O) else((f116 fuel p0 p1).bind fun U=> (Ly fuel U).bind fun V=> some V)
def Pa(fuel:Nat)(p0:BY)(O:(List Int))(K:Nat×Int):Option (Bd (Nat×Int) Nat):= if K.2<(O.length:Int) then((ix O K.2).bind fun U=> (ix p0.1 U).bind fun V=> (f120 fuel V).bind fun Y=> (Jv K.1 Y).bind fun Z=> (As (K.2+1)).bind fun ag=> some (.more (Z,ag))) else(some (.done K.1))
def f121(fuel:Nat)(p0:BY)(p1:Nat):Option Nat:= (f89 fuel p1).bind fun K=> Option.bind (iter (Pa fuel p0 K) fuel (0,0)) fun O=> some O
theorem an{k1:Nat}{o2:Nat}{Y:Ap}{Z:Nat}{ag:Ap}{al:Nat}{am:Lv_}{p0:BY}{p1:Nat}(a3:At E k1 o2 (([sV Y p0.1 Z,sV ag p0.2.1 al]:Lv_)++am))(a4:Al (rL rI) E Y Z p0.1)(ck:Al (rL rI) E ag al p0.2.1)(cm:(rA 13 (rN .u16)).r E am p0.2.2){fuel:Nat}{r:Nat}(ap:f121 fuel p0 p1=some r):AN J 121 [pV k1 o2,uV p1] E [] (fun w E' B'=>w= uV r∧B'= []):=by
 refine A3 func121 fun Q cn cs H a5 a6=>?_;unfold f121 at ap;obtain⟨av,a7,a8⟩:=bs ap;refine zg 12 rfl (BN (Jh a7) rfl rfl IV a5 ?_);rintro _ co _ U ⟨a9,bb,rfl,rfl,bd⟩ be;refine Bh underlying28 rfl rfl rfl ?_;obtain⟨bi,bo,bv⟩:=bs a8;refine zg 2 rfl (CK [] [(5,uV bi)] (fun cp bw bU=>?_) (fun bV=>?_))
 ·refine zg 5 rfl ?_;obtain rfl:=oi bv;exact AB func121 rfl rfl (a6 (U.Ac bw) rfl ⟨rfl,rfl⟩ bU)
 ·refine JL.block (Cp bo (fun O=> []) (fun O=> [(0,pV k1 o2),(5,uV O.1),(9,sV a9 av bb),(10,iV (av.length:Int)),(11,iV O.2)]) Ar be ?_);rintro O cq K a0 bW ⟨cr,V⟩ bY;have a1:=V;unfold Pa at a1;refine zg 5 rfl (AM a1 (fun bZ b0=>?_) (fun bZ b1=>?_))
  ·obtain⟨ct,b2,b3⟩:=bs b0;refine zg 5 rfl (Ce (bd.Ai K) b2 underlying28 AX ?_);rintro cu cv _ rfl b4;refine B4 0 b4 By rfl rfl rfl (zg 6 rfl ?_);refine BL underlying141 BJ rfl rfl rfl (JL.fl 0 (a3.Ai (U.Ac K)) underlying24 BR Cv ?_);obtain⟨cw,b5,b6⟩:=bs b3;refine zg 1 rfl (Ce (a4.Ai (U.Ac K)) b5 underlying22 BZ ?_);rintro cy cz _ ⟨cA,cB,rfl,b7⟩ b8;refine B4 0 b8 CZ rfl rfl rfl ?_;obtain⟨cC,b9,ca⟩:=bs b6;refine BH (Kb b7 b9) rfl rfl Jw a0 fun cD cb cc=>?_;obtain⟨a2,cd,ce⟩:=bs ca;refine AF (v:= uV a2) rfl (fun ρ h=>KX (h _ _ rfl) (h _ _ rfl) cd) ?_;obtain⟨cf,cg,ci⟩:=bs ce;refine zg 4 rfl (Ba cg rfl rfl rfl ?_);refine zg 2 rfl ?_;obtain rfl:=oi ci;exact bY (a2,cf) (K.Ac cb) cc rfl V
  ·refine JL.exit rfl ?_;obtain rfl:=oi b1;obtain rfl:=bW _ V;exact bV K a0 rfl
def f130(fuel:Nat)(p0:Cf):Option Int:= (f89 fuel p0.2.2).bind fun K=> some (K.length:Int)
theorem Zh{K:Ap}{c2:Nat}{p0:Cf}(a0:Al rI E K c2 p0.2.1){fuel:Nat}{r:Int}(O:f130 fuel p0=some r):AN J 130 [.agg #[iV p0.1,sV K p0.2.1 c2,uV p0.2.2]] E [] (fun w E' B'=>w=iV r∧B'= []):=by
 refine A3 func130 fun Q a1 cs H U V=>?_;unfold f130 at O;refine zg 2 rfl (Ca U fun a2 a3 Y Z ag=>?_);refine zg 4 rfl (JL.fl 2 Z underlying104 En GW ?_);obtain⟨a4,al,am⟩:=bs O;refine BN (Jh al) rfl rfl IV ag ?_;rintro _ a5 _ ap ⟨a6,a7,rfl,rfl,a8⟩ av;refine Bh underlying28 rfl rfl rfl (zg 2 rfl ?_);obtain rfl:=oi am;exact AB func130 rfl rfl (V (Y.Ac ap) rfl ⟨rfl,rfl⟩ av)
def NH(fuel:Nat)(p0:List Cf)(K:Nat×Int):Option (Bd (Nat×Int) Nat):= if K.2<(p0.length:Int) then((ix p0 K.2).bind fun O=> (f90 fuel K.1 O.1).bind fun U=> (As (K.2+1)).bind fun V=> some (.more (U,V))) else(some (.done K.1))
def f87(fuel:Nat)(p0:List Cf):Option Nat:= Option.bind (iter (NH fuel p0) fuel (0,0)) fun K=> some K
theorem bh{O:Ap}{c2:Nat}{p0:List (Cf)}(al:Al Dx E O c2 p0){fuel:Nat}{r:Nat}(Y:f87 fuel p0=some r):AN J 87 [sV O p0 c2] E [] (fun w E' B'=>w= uV r∧B'= []):=by
 refine A3 func87 fun Q b4 cs H am ap=>?_;unfold f87 at Y;refine zg 12 rfl (Bh underlying95 rfl rfl rfl ?_);obtain⟨av,a0,a1⟩:=bs Y;refine zg 2 rfl (CK [] [(3,uV av)] (fun b5 a2 a3=>?_) (fun a4=>?_))
 ·refine zg 5 rfl ?_;obtain rfl:=oi a1;exact AB func87 rfl rfl (ap a2 rfl ⟨rfl,rfl⟩ a3)
 ·refine JL.block (Cp a0 (fun K=> []) (fun K=> [(3,uV K.1),(6,sV O p0 c2),(7,iV (p0.length:Int)),(8,iV K.2)]) Ar am ?_);rintro K b6 U Z a5 ⟨b7,V⟩ a6;have ag:=V;unfold NH at ag;refine zg 5 rfl (AM ag (fun a7 a8=>?_) (fun a7 a9=>?_))
  ·obtain⟨b8,bb,bd⟩:=bs a8;refine zg 5 rfl (Ce (al.Ai U) bb underlying95 Cx ?_);rintro b9 ca _ ⟨_,_,rfl,rfl,⟨_,_,rfl,⟨cb,cc,rfl,cd⟩,rfl⟩⟩ be;refine BX be F1 Cx rfl rfl (CW Z GY fun ce bi=>?_);refine BW 0 bi Cx fun bo=>?_;refine C8 0 bo rfl fun cf bv bw bU=>zg 3 rfl (JL.fl 0 bw underlying104 AX By ?_);obtain⟨bV,bW,bY⟩:=bs bd;refine BH (NW bW) rfl rfl Mh bU fun cg bZ b0=>?_;obtain⟨b1,b2,b3⟩:=bs bY;refine zg 4 rfl (Ba b2 rfl rfl rfl ?_);refine zg 2 rfl ?_;obtain rfl:=oi b3;exact a6 (bV,b1) ((U.Ac bv).Ac bZ) b0 rfl V
  ·refine JL.exit rfl ?_;obtain rfl:=oi a9;obtain rfl:=a5 _ V;exact a4 U Z rfl
def NU(fuel:Nat)(p0:BY)(O:Int)(K:Nat×Int):Option (Bd (Nat×Int) Nat):= if K.2<O then((f121 fuel p0 K.1).bind fun U=> (As (K.2+1)).bind fun V=> some (.more (U,V))) else(some (.done K.1))
def f88(fuel:Nat)(p0:BY)(p1:Cf)(p2:Int):Option Nat:= (As ((p1.2.1.length:Int) - 1)).bind fun K=> if p2≤K then((ix p1.2.1 p2).bind fun O=> (f120 fuel ([O]:List Int)).bind fun U=> some U) else((ix p1.2.1 K).bind fun V=> (f120 fuel ([V]:List Int)).bind fun Y=> (As (p2 - K)).bind fun Z=> Option.bind (iter (NU fuel p0 Z) fuel (Y,0)) fun ag=> some ag)
theorem bl{k1:Nat}{o2:Nat}{al:Ap}{am:Nat}{ap:Ap}{av:Nat}{a0:Lv_}{a1:Ap}{a2:Nat}{p0:BY}{p1:Cf}{p2:Int}(bd:At E k1 o2 (([sV al p0.1 am,sV ap p0.2.1 av]:Lv_)++a0))(be:Al (rL rI) E al am p0.1)(bi:Al (rL rI) E ap av p0.2.1)(bo:(rA 13 (rN .u16)).r E a0 p0.2.2)(a3:Al rI E a1 a2 p1.2.1){fuel:Nat}{r:Nat}(a4:f88 fuel p0 p1 p2=some r):AN J 88 [pV k1 o2,.agg #[iV p1.1,sV a1 p1.2.1 a2,uV p1.2.2],iV p2] E [] (fun w E' B'=>w= uV r∧B'= []):=by
 refine A3 func88 fun Q cN cs H bv a5=>?_;unfold f88 at a4;refine zg 2 rfl (Ca bv fun cO cP K Z a6=>?_);refine zg 4 rfl (JL.fl 1 Z underlying104 BZ CZ ?_);refine Bh underlying28 rfl rfl rfl ?_;obtain⟨cQ,bw,bU⟩:=bs a4;refine Cl bw rfl rfl rfl (zg 9 rfl ?_);refine AM bU (fun bV bW=>?_) (fun bV bY=>?_)
 ·refine zg 2 rfl (JL.fl 1 Z underlying104 BZ CZ ?_);obtain⟨a7,bZ,b0⟩:=bs bW;refine zg 1 rfl (Ce (a3.Ai K) bZ underlying28 AX ?_);rintro cR cT _ rfl b1;refine B4 0 b1 By rfl rfl rfl (DK (pp:=rI) [iV a7] [a7] rfl rfl rfl underlying28 AX CU (by decide) rfl rfl rfl ⟨rfl,trivial⟩ a6 fun cV cW b2 b3=>?_);refine BU 2 b2 b3 rfl fun cX b4 b5 b6=>?_;obtain⟨cY,b7,b8⟩:=bs b0;refine BH (Kb b5 b7) rfl rfl Jw b6 fun cZ b9 ca=>zg 2 rfl ?_;obtain rfl:=oi b8;exact AB func88 rfl rfl (a5 ((K.Ac b4).Ac b9) rfl ⟨rfl,rfl⟩ ca)
 ·refine zg 3 rfl (JL.fl 1 Z underlying104 BZ CZ ?_);obtain⟨a8,cb,cc⟩:=bs bY;refine zg 1 rfl (Ce (a3.Ai K) cb underlying28 AX ?_);rintro c0 c1 _ rfl cd;refine B4 0 cd By rfl rfl rfl (DK (pp:=rI) [iV a8] [a8] rfl rfl rfl underlying28 AX CU (by decide) rfl rfl rfl ⟨rfl,trivial⟩ a6 fun c2 c3 ce cf=>?_);refine BU 2 ce cf rfl fun c4 U cg ci=>?_;obtain⟨c5,ck,cm⟩:=bs cc;refine BH (Kb cg ck) rfl rfl Jw ci fun c6 V cn=>?_;obtain⟨co,cp,cq⟩:=bs cm;refine zg 7 rfl (Cl cp rfl rfl rfl ?_);obtain⟨cr,ct,cu⟩:=bs cq;refine zg 2 rfl (CK [] [(8,uV cr)] (fun c7 cv cw=>?_) (fun cy=>?_))
  ·refine zg 5 rfl ?_;obtain rfl:=oi cu;exact AB func88 rfl rfl (a5 (((K.Ac U).Ac V).Ac cv) rfl ⟨rfl,rfl⟩ cw)
  ·refine JL.block (Cp ct (fun Y=> []) (fun Y=> [(0,pV k1 o2),(8,uV Y.1),(32,iV co),(33,iV Y.2)]) Ar cn ?_);rintro Y c8 O a9 cz ⟨c9,ag⟩ cA;have bb:=ag;unfold NU at bb;refine zg 5 rfl (AM bb (fun cB cC=>?_) (fun cB cD=>?_))
   ·obtain⟨cE,cF,cG⟩:=bs cC;refine zg 6 rfl (BH (an (bd.Ai (((K.Ac U).Ac V).Ac O)) (be.Ai (((K.Ac U).Ac V).Ac O)) (bi.Ai (((K.Ac U).Ac V).Ac O)) (Rp.Ai _ (((K.Ac U).Ac V).Ac O) bo) cF) rfl rfl (AV func121 rfl) a9 fun da cH cI=>?_);obtain⟨cJ,cK,cM⟩:=bs cG;refine zg 4 rfl (Ba cK rfl rfl rfl ?_);refine zg 2 rfl ?_;obtain rfl:=oi cM;exact cA (cE,cJ) (O.Ac cH) cI rfl ag
   ·refine JL.exit rfl ?_;obtain rfl:=oi cD;obtain rfl:=cz _ ag;exact cy O a9 rfl
end Pal
namespace Pal
open Go Go.Conc Go.Proofs
open Go.Proofs.Tryz
variable {J:Judge Tryz.prog}{E:LH}
def JJ(fuel:Nat)(p0:BY)(O:(List Int))(K:Nat×Int):Option (Bd (Nat×Int) Nat):= if K.2<(O.length:Int) then((ix O K.2).bind fun U=> (ix p0.1 U).bind fun V=> (f120 fuel V).bind fun Y=> (Jv K.1 Y).bind fun Z=> (As (K.2+1)).bind fun ag=> some (.more (Z,ag))) else(some (.done K.1))
def Ki(fuel:Nat)(p0:BY)(p1:Nat):Option (Nat×(BY)):= (f89 fuel p1).bind fun K=> Option.bind (iter (JJ fuel p0 K) fuel (0,0)) fun O=> some (O,p0)
theorem Xq{bk:Nat}{K:Ap}{c2:Nat}{O:Ap}{U:Nat}{V:Lv_}{p0:BY}{p1:Nat}(av:Al (rL rI) E K c2 p0.1)(a9:Al (rL rI) E O U p0.2.1)(bb:(rA 13 (rN .u16)).r E V p0.2.2){fuel:Nat}{r:Nat×(BY)}(a0:Ki fuel p0 p1=some r):AN J 121 [pV bk 0,uV p1] E [(bk,.cells (([sV K p0.1 c2,sV O p0.2.1 U]:Lv_)++V).toArray 141 (0,0))] (fun w E' B'=>∃(a1:Ap) (a2:Nat) (a3:Ap) (a4:Nat) (a5:Lv_),w= uV r.1∧B'= [(bk,.cells (([sV a1 r.2.1 a2,sV a3 r.2.2.1 a4]:Lv_)++a5).toArray 141 (0,0))]∧Al (rL rI) E' a1 a2 r.2.1∧Al (rL rI) E' a3 a4 r.2.2.1∧(rA 13 (rN .u16)).r E' a5 r.2.2.2):=by
 refine A3 func121 fun Q cq cs H bd be=>?_;unfold Ki at a0;obtain⟨a6,bi,bo⟩:=bs a0;refine zg 12 rfl (BN (Jh bi) rfl rfl IV bd ?_);rintro _ cr _ Y ⟨bv,bw,rfl,rfl,bU⟩ bV;refine Bh underlying28 rfl rfl rfl ?_;obtain⟨bW,bY,bZ⟩:=bs bo;refine zg 2 rfl (CK [bX bk (([sV K p0.1 c2,sV O p0.2.1 U]:Lv_)++V).toArray 141] [(5,uV bW)] (fun ct Z b0=>?_) (fun b1=>?_))
 ·refine zg 5 rfl ?_;obtain rfl:=oi bZ;exact AB func121 rfl rfl (be (Y.Ac Z) rfl ⟨K,c2,O,U,V,rfl,rfl,(av.Ai (Y.Ac Z)),(a9.Ai (Y.Ac Z)),(Rp.Ai _ (Y.Ac Z) bb)⟩ b0)
 ·refine JL.block (Cp bY (fun ag=> [bX bk (([sV K p0.1 c2,sV O p0.2.1 U]:Lv_)++V).toArray 141]) (fun ag=> [(0,pV bk 0),(5,uV ag.1),(9,sV bv a6 bw),(10,iV (a6.length:Int)),(11,iV ag.2)]) Ar bV ?_);rintro ag cu al am b2 ⟨cv,ap⟩ b3;have a7:=ap;unfold JJ at a7;refine zg 5 rfl (AM a7 (fun b4 b5=>?_) (fun b4 b6=>?_))
  ·obtain⟨cw,b7,b8⟩:=bs b5;refine zg 5 rfl (Ce (bU.Ai al) b7 underlying28 AX ?_);rintro cy cz _ rfl b9;refine B4 0 b9 By rfl rfl rfl (zg 6 rfl ?_);refine BL underlying141 BJ rfl rfl rfl (BL underlying24 BR rfl rfl rfl ?_);refine AF (v:= sV K p0.1 c2) rfl (fun ρ h=>Yl.load Cv (h _ _ rfl) (WV (o:=0) (l:= [sV K p0.1 c2,sV O p0.2.1 U]) 0 am rfl rfl)) ?_;obtain⟨cA,ca,cb⟩:=bs b8;refine zg 1 rfl (Ce (av.Ai (Y.Ac al)) ca underlying22 BZ ?_);rintro cB cC _ ⟨cD,cE,rfl,cc⟩ cd;refine B4 0 cd CZ rfl rfl rfl ?_;obtain⟨cF,ce,cf⟩:=bs cb;refine BH (Kb cc ce) rfl rfl Jw am fun cG cg ci=>?_;obtain⟨a8,ck,cm⟩:=bs cf;refine AF (v:= uV a8) rfl (fun ρ h=>KX (h _ _ rfl) (h _ _ rfl) ck) ?_;obtain⟨cn,co,cp⟩:=bs cm;refine zg 4 rfl (Ba co rfl rfl rfl ?_);refine zg 2 rfl ?_;obtain rfl:=oi cp;exact b3 (a8,cn) (al.Ac cg) ci rfl ap
  ·refine JL.exit rfl ?_;obtain rfl:=oi b6;obtain rfl:=b2 _ ap;exact b1 al am rfl
end Pal
namespace Pal
open Go Go.Conc Go.Proofs
open Go.Proofs.Tryz
variable {J:Judge Tryz.prog}{E:LH}
theorem Za:T1 Tryz.prog 138 .u16:=⟨_,underlying138,by decide+kernel,by decide,underlying102,rfl⟩
def Lr(fuel:Nat)(K:(List (List Int))×(List (List Int))×(List Nat)×(List Nat)×Int):Option (Bd ((List (List Int))×(List (List Int))×(List Nat)×(List Nat)×Int) ((List (List Int))×(List (List Int))×(List Nat)×(List Nat))):= if K.2.2.2.2<12 then((As (K.2.2.2.2+1)).bind fun U=> (ix K.2.2.1 K.2.2.2.2).bind fun V=> (Ki fuel (K.1,K.2.1,K.2.2.1) V).bind fun O=> (ix K.2.2.2.1 U).bind fun Z=> (As (K.2.2.2.2+1)).bind fun Y=> some (.more (O.2.1,O.2.2.1,O.2.2.2,(K.2.2.2.1.set (Int.toNat U) O.1),Y))) else(some (.done (K.1,K.2.1,K.2.2.1,K.2.2.2.1)))
def Nm(fuel:Nat)(O:BY):Option (Bd BY (((Option BY))⊕Unit)):= Option.bind (iter (Lr fuel) fuel (O.1,O.2.1,O.2.2,O.2.2,0)) fun K=> if K.2.2.2≠K.2.2.1 then(some (.more (K.1,K.2.1,K.2.2.2))) else(some (.done (Sum.inl (some (K.1,K.2.1,K.2.2.1)))))
def f92(fuel:Nat)(p0:A9):Option ((Option BY)):= (ix (List.replicate 13 (0:Nat)) (0)).bind fun O=> Option.bind (iter (Nm fuel) fuel (p0.1,p0.2,((List.replicate 13 (0:Nat)).set (Int.toNat 0) 1))) fun K=> Sum.elim (fun r=>some r) (fun U=>none) K
theorem Od{a6:Ap}{c2:Nat}{a7:Ap}{a8:Nat}{p0:A9}(cD:Al (rL rI) E a6 c2 p0.1)(cE:Al (rL rI) E a7 a8 p0.2){fuel:Nat}{r:(Option BY)}(ce:f92 fuel p0=some r):AN J 92 [.agg #[sV a6 p0.1 c2,sV a7 p0.2 a8]] E [] (fun w E' B'=>∃(cf:Value),w=cf∧B'= []∧Kt (rP (rL (rL rI)) (rP (rL (rL rI)) (rA 13 (rN .u16)))) E' cf r):=by
 refine A3 func92 fun Q dB cs H cF cG=>?_;unfold f92 at ce;refine zg 2 rfl (Ca cF fun dC a9 b8 cH cI=>?_);refine zg 5 rfl (BX cH Cd BJ rfl rfl ?_);refine AF (v:= .agg (([sV a6 p0.1 c2,sV a7 p0.2 a8]:Lv_)++(List.replicate 13 (uV 0):Lv_)).toArray) rfl (fun ρ h=>Di [(0,2),(2,13)] h (DG type141) underlying141 ⟨rfl,Bv type24,rfl,Bv type139,trivial⟩ rfl rfl) (JS.box (v:= .agg (([sV a6 p0.1 c2,sV a7 p0.2 a8]:Lv_)++(List.replicate 13 (uV 0):Lv_)).toArray) rfl rfl rfl cI rfl fun U cJ=>?_);refine zg 6 rfl (BL underlying141 Gj rfl rfl rfl ?_);obtain⟨dD,b9,cK⟩:=bs ce;obtain⟨_,rfl,_,_,dE⟩:=Iy (kk:=13) (pp:=(rN .u16)) (J9 (E:=a9) (pp:=(rN .u16)) rfl) b9;refine AF (v:= .pointer (some ⟨U,2+Int.toNat (0)*1,none⟩)) rfl (fun ρ h=>JI (kk:=13) (pp:=(rN .u16)) (J9 (E:=a9) (pp:=(rN .u16)) rfl) b9 underlying139 Io (h _ _ rfl) (h _ _ rfl)) (BL underlying138 En rfl rfl rfl ?_);have b1:=Ps (us:= [uV 1]) (y:=1) (J9 (E:=a9) (pp:=(rN .u16)) rfl) b9 rfl;refine KN (v:= uV 1) (l:= [sV a6 p0.1 c2,sV a7 p0.2 a8]) (ws:=(List.replicate 13 (uV 0):Lv_)) (us:= [uV 1]) (o:=Int.toNat (0)*1) 2 rfl rfl rfl cJ rfl rfl rfl En (by simp [Value.cells,CY]) rfl b1.2 fun cg=>?_;replace b1:=b1.1;generalize cM:HD (List.replicate 13 (uV 0):Lv_) (Int.toNat (0)*1) [uV 1]=ci at cg ⊢;have cN:(rA 13 (rN .u16)).r a9 ci ((List.replicate 13 (0:Nat)).set (Int.toNat 0) 1):=by rw [← cM];exact b1
 refine zg 2 rfl (JL.label ?_);obtain⟨dF,cO,cP⟩:=bs cK;refine IJ [(3,pV U 0)] rfl (V2 cO (fun L s Z=>∃(V:LH) (bi:Ap) (bo:Nat) (bv:Ap) (bw:Nat) (ag:Lv_),Jn a9 H V [[(U,.cells (([sV bi Z.1 bo,sV bv Z.2.1 bw]:Lv_)++ag).toArray 141 (0,0))]] [(3,pV U 0)] L s (Al (rL rI) V bi bo Z.1∧Al (rL rI) V bv bw Z.2.1∧(rA 13 (rN .u16)).r V ag Z.2.2)) ⟨a9,a6,c2,a7,a8,ci,rfl,rfl,Ar,cg,(cD.Ai b8),(cE.Ai b8),cN⟩ ?_);rintro _ _ Z ⟨V,bi,bo,bv,bw,ag,rfl,rfl,ck,cm,cQ,cR,a0⟩ cT ⟨dG,ca⟩ cV;have cn:=ca;unfold Nm at cn;refine zg 4 rfl (BL underlying141 Gj rfl rfl rfl ?_);refine AF (v:= .agg ag.toArray) rfl (fun ρ h=>K7 (kk:=13) (pp:=(rN .u16)) a0 Ma Gj (h _ _ rfl) (MI (l:= [sV bi Z.1 bo,sV bv Z.2.1 bw]) 0 cm rfl)) (CW cm (DG type139) fun bb cW=>?_);refine KN (v:= .agg ag.toArray) (l:= []) (ws:=(List.replicate 13 (uV 0):Lv_)) (us:=ag) (o:=0) 1 rfl rfl rfl cW rfl rfl rfl (by rw [Gq (kk:=13) (pp:=(rN .u16)) a0];exact Bv type139) ((rA 13 (rN .u16)).one a0) rfl (by rw [Gq (kk:=13) (pp:=(rN .u16)) a0,Gq (kk:=13) (pp:=(rN .u16)) (J9 (E:=V) (pp:=(rN .u16)) rfl)];omega) fun co=>?_;rw [Ro (by rw [Gq (kk:=13) (pp:=(rN .u16)) a0,Gq (kk:=13) (pp:=(rN .u16)) (J9 (E:=V) (pp:=(rN .u16)) rfl)])] at co ⊢;obtain⟨K,cX,cY⟩:=bs cn;refine zg 6 rfl (Bt (fun L s=>∃(a1:LH) (a2:Ap) (a3:Nat) (al:Ap) (am:Nat) (a4:Lv_) (ap:Lv_),Jn V H a1 [bX U (([sV a2 K.1 a3,sV al K.2.1 am]:Lv_)++a4).toArray 141,bX bb (([]:Lv_)++ap).toArray 139] [(3,pV U 0),(4,pV bb 0)] L s (Al (rL rI) a1 a2 a3 K.1∧Al (rL rI) a1 al am K.2.1∧(rA 13 (rN .u16)).r a1 a4 K.2.2.1∧(rA 13 (rN .u16)).r a1 ap K.2.2.2)) ?_ ?_)
 ·rintro _ _ ⟨a1,a2,a3,al,am,a4,ap,rfl,rfl,cp,bd,cq,cr,bU,av⟩;refine zg 2 rfl (Dq 5 [bb,U] ⟨⟨1,_,rfl⟩,⟨0,_,rfl⟩,trivial⟩ bd fun ht=>?_);refine BA (v:= .agg ap.toArray) 0 ht rfl rfl (fun ρ h s' hs=>K7 (kk:=13) (pp:=(rN .u16)) av Ma Gj (h _ _ rfl) (O6 (l:= []) 1 bd rfl (by simp [A7]) hs)) (AZ ht rfl [1,2] rfl ?_);refine B9 3 ht underlying141 Gj rfl rfl rfl rfl (BA (v:= .agg a4.toArray) 4 ht rfl rfl (fun ρ h s' hs=>K7 (kk:=13) (pp:=(rN .u16)) bU Ma Gj (h _ _ rfl) (O6 (l:= [sV a2 K.1 a3,sV al K.2.1 am]) 0 bd rfl (by simp [A7]) hs)) ?_);refine Cj [5] (AF (v:= .bool (decide (K.2.2.2≠K.2.2.1))) rfl (fun ρ h=>W9 underlying139 (by decide+kernel) Za Io av bU (h _ _ rfl) (h _ _ rfl)) ?_);refine JL.done (AM cY (fun cZ c0=>?_) (fun cZ c1=>?_))
  ·refine zg 3 rfl (AF (v:= .agg ap.toArray) rfl (fun ρ h=>K7 (kk:=13) (pp:=(rN .u16)) av Ma Gj (h _ _ rfl) (MI (l:= []) 1 bd rfl)) ?_);refine zg 1 rfl (BL underlying141 Gj rfl rfl rfl ?_);refine KN (v:= .agg ap.toArray) (l:= [sV a2 K.1 a3,sV al K.2.1 am]) (ws:=a4) (us:=ap) (o:=0) 0 rfl rfl rfl bd rfl rfl rfl (by rw [Gq (kk:=13) (pp:=(rN .u16)) av];exact Bv type139) ((rA 13 (rN .u16)).one av) rfl (by rw [Gq (kk:=13) (pp:=(rN .u16)) av,Gq (kk:=13) (pp:=(rN .u16)) bU];omega) fun ct=>?_;rw [Ro (by rw [Gq (kk:=13) (pp:=(rN .u16)) av,Gq (kk:=13) (pp:=(rN .u16)) bU])] at ct ⊢;refine JL.done (JL.goto rfl ?_);refine zg 2 rfl (JS.drop 1 ct rfl fun c3=>?_);obtain rfl:=oi c0;exact Ay (cV _ _ (K.1,K.2.1,K.2.2.2) ⟨a1,a2,a3,al,am,ap,rfl,rfl,(ck.Ac cp),c3,cq,cr,av⟩ ca) rfl
  ·refine zg 6 rfl (C8 0 bd rfl fun dH b2 c4 c5=>?_);refine JS.drop 1 c5 rfl fun c6=>?_;obtain rfl:=oi c1;obtain rfl:=cT _ ca;have c7:=elim_inl cP;obtain rfl:=oi c7;exact AB func92 rfl rfl (cG (((b8.Ac ck).Ac cp).Ac b2) rfl ⟨pV U 0,rfl,rfl,⟨_,_,_,rfl,c4,⟨[sV a2 K.1 a3],(([sV al K.2.1 am]:Lv_)++a4),rfl,⟨_,_,rfl,(cq.Ai b2)⟩,⟨[sV al K.2.1 am],a4,rfl,⟨_,_,rfl,(cr.Ai b2)⟩,(Rp.Ai _ b2 bU)⟩⟩⟩⟩ c6)
 ·intro c8;refine JL.block (CV cX (fun L s O=>∃(a5:LH) (bV:Ap) (bW:Nat) (bY:Ap) (bZ:Nat) (b3:Lv_) (be:Lv_),Jn V H a5 [bX U (([sV bV O.1 bW,sV bY O.2.1 bZ]:Lv_)++b3).toArray 141,bX bb (([]:Lv_)++be).toArray 139] [(3,pV U 0),(4,pV bb 0),(18,iV O.2.2.2.2)] L s (Al (rL rI) a5 bV bW O.1∧Al (rL rI) a5 bY bZ O.2.1∧(rA 13 (rN .u16)).r a5 b3 O.2.2.1∧(rA 13 (rN .u16)).r a5 be O.2.2.2.1)) ⟨V,bi,bo,bv,bw,ag,ag,rfl,rfl,Ar,co,cQ,cR,a0,a0⟩ ?_);rintro _ _ O ⟨a5,bV,bW,bY,bZ,b3,be,rfl,rfl,cu,cb,cv,cw,b4,b5⟩ c9 ⟨dI,cc⟩ da;have cy:=cc;unfold Lr at cy;refine zg 5 rfl (AM cy (fun db dc=>?_) (fun db dd=>?_))
  ·obtain⟨b0,de,df⟩:=bs dc;refine zg 10 rfl (Ba de rfl rfl rfl ?_);refine zg 4 rfl (BL underlying141 Gj rfl rfl rfl ?_);obtain⟨dg,cz,dh⟩:=bs df;obtain⟨_,rfl,_,_,di⟩:=Iy (kk:=13) (pp:=(rN .u16)) b4 cz;refine AF (v:= .pointer (some ⟨U,2+Int.toNat (O.2.2.2.2)*1,none⟩)) rfl (fun ρ h=>JI (kk:=13) (pp:=(rN .u16)) b4 cz underlying139 Io (h _ _ rfl) (h _ _ rfl)) (BL underlying138 En rfl rfl rfl ?_);refine AF (v:= uV dg) rfl (fun ρ h=>Yl.load GW (h _ _ rfl) (Vy (l:= [sV bV O.1 bW,sV bY O.2.1 bZ]) 0 cb rfl (di 0 _ rfl))) ?_;obtain⟨Y,dj,dk⟩:=bs dh;refine B8 0 (Xq cv cw b4 dj) rfl rfl (AV func121 rfl) cb rfl ?_;rintro _ cA _ b6 ⟨dl,dm,dn,dp,Kq,rfl,rfl,dq,dr,dt⟩ du;obtain⟨dJ,cd,dv⟩:=bs dk;obtain⟨_,rfl,_,_,dK⟩:=Iy (kk:=13) (pp:=(rN .u16)) (Rp.Ai _ b6 b5) cd;refine AF (v:= .pointer (some ⟨bb,0+Int.toNat (b0)*1,none⟩)) rfl (fun ρ h=>JI (kk:=13) (pp:=(rN .u16)) (Rp.Ai _ b6 b5) cd underlying139 Io (h _ _ rfl) (h _ _ rfl)) (BL underlying138 En rfl rfl rfl ?_);have b7:=Ps (us:= [uV Y.1]) (y:=Y.1) (Rp.Ai _ b6 b5) cd rfl;refine KN (v:= uV Y.1) (l:= []) (ws:=be) (us:= [uV Y.1]) (o:=Int.toNat (b0)*1) 1 rfl rfl rfl du rfl rfl rfl En (by simp [Value.cells,CY]) rfl b7.2 fun cB=>?_;replace b7:=b7.1;generalize dw:HD be (Int.toNat (b0)*1) [uV Y.1]=cC at cB ⊢;have dx:(rA 13 (rN .u16)).r cA cC (O.2.2.2.1.set (Int.toNat b0) Y.1):=by rw [← dw];exact b7
   obtain⟨dy,dz,dA⟩:=bs dv;refine zg 3 rfl (Ba dz rfl rfl rfl ?_);refine zg 2 rfl ?_;obtain rfl:=oi dA;exact Ay (da _ _ (Y.2.1,Y.2.2.1,Y.2.2.2,(O.2.2.2.1.set (Int.toNat b0) Y.1),dy) ⟨cA,dl,dm,dn,dp,Kq,cC,rfl,rfl,(cu.Ac b6),cB,dq,dr,dt,dx⟩ cc) rfl
  ·refine JL.exit rfl ?_;obtain rfl:=oi dd;obtain rfl:=c9 _ cc;exact Ay (c8 _ _ ⟨a5,bV,bW,bY,bZ,b3,be,rfl,rfl,cu,cb,cv,cw,b4,b5⟩) rfl
end Pal
namespace Pal
open Go Go.Conc Go.Proofs
open Go.Proofs.Tryz
variable {J:Judge Tryz.prog}{E:LH}
def Se(fuel:Nat)(p0:BY)(O:Nat)(U:(List Int))(K:Int):Option (Bd Int ((Bool)⊕(Unit))):= if K<(U.length:Int) then((ix U K).bind fun V=> (f103 fuel O V).bind fun Y=> Option.bind (if Y=true then(some true) else((ix p0.2.1 V).bind fun Z=> (f120 fuel Z).bind fun ag=> (Kk O ag).bind fun al=> some (decide ((((al):Nat):Int)≠(((0):Nat):Int))))) fun am=> if am=true then(some (.done (Sum.inl true))) else((As (K+1)).bind fun ap=> some (.more ap))) else(some (.done (Sum.inr ())))
def f109(fuel:Nat)(p0:BY)(p1:Int)(p2:Int):Option Bool:= (ix p0.2.2 p2).bind fun K=> (ix p0.2.2 p1).bind fun O=> (f89 fuel O).bind fun U=> Option.bind (iter (Se fuel p0 K U) fuel 0) fun V=> Sum.elim (fun r=>some r) (fun Y=> some false) V
theorem Y2{k1:Nat}{o2:Nat}{O:Ap}{U:Nat}{V:Ap}{Y:Nat}{a0:Lv_}{p0:BY}{p1:Int}{p2:Int}(av:At E k1 o2 (([sV O p0.1 U,sV V p0.2.1 Y]:Lv_)++a0))(cY:Al (rL rI) E O U p0.1)(bY:Al (rL rI) E V Y p0.2.1)(a1:(rA 13 (rN .u16)).r E a0 p0.2.2){fuel:Nat}{r:Bool}(a2:f109 fuel p0 p1 p2=some r):AN J 109 [pV k1 o2,iV p1,iV p2] E [] (fun w E' B'=>w= .bool r∧B'= []):=by
 refine A3 func109 fun Q cZ cs H bZ a3=>?_;unfold f109 at a2;refine zg 9 rfl (BL underlying141 Gj rfl rfl rfl ?_);obtain⟨a4,b0,b1⟩:=bs a2;refine Pk (l:= [sV O p0.1 U,sV V p0.2.1 Y]) av a1 b0 rfl rfl rfl rfl rfl underlying139 Io ?_;rintro c0 _ rfl b2;refine JL.fl 0 b2 underlying138 En GW ?_;refine zg 8 rfl (BL underlying141 Gj rfl rfl rfl ?_);obtain⟨c1,b3,b4⟩:=bs b1;refine Pk (l:= [sV O p0.1 U,sV V p0.2.1 Y]) av a1 b3 rfl rfl rfl rfl rfl underlying139 Io ?_;rintro c2 _ rfl b5;refine JL.fl 0 b5 underlying138 En GW ?_;obtain⟨Z,b6,b7⟩:=bs b4;refine BN (Jh b6) rfl rfl IV bZ ?_;rintro _ b8 _ ag ⟨a5,a6,rfl,rfl,b9⟩ ca;refine Bh underlying28 rfl rfl rfl ?_;obtain⟨a7,cb,a8⟩:=bs b7;refine zg 2 rfl (Bt (fun L s=>∃(a9:Unit) (bb:LH),a7=Sum.inr a9∧Jm b8 H bb [] [] L s) ?_ ?_)
 ·rintro _ _ ⟨a9,bb,rfl,rfl,rfl,cc,cd⟩;have ce:=elim_inr a8;refine zg 4 rfl ?_;obtain rfl:=oi ce;exact AB func109 rfl rfl (a3 (ag.Ac cc) rfl ⟨rfl,rfl⟩ cd)
 ·intro cf;refine JL.block (Cp cb (fun al=> []) (fun al=> [(0,pV k1 o2),(7,uV a4),(24,sV a5 Z a6),(25,iV (Z.length:Int)),(26,iV al)]) Ar ca ?_);rintro al cg K bd be ⟨c3,am⟩ ci;have bi:=am;unfold Se at bi;refine zg 5 rfl (AM bi (fun ck cm=>?_) (fun ck cn=>?_))
  ·obtain⟨c4,co,cp⟩:=bs cm;refine zg 5 rfl (Ce (b9.Ai K) co underlying28 AX ?_);rintro c5 c6 _ rfl cq;refine B4 0 cq By rfl rfl rfl ?_;obtain⟨c7,cr,ct⟩:=bs cp;refine zg 6 rfl (BH (Pv cr) rfl rfl Ow bd fun bo ap bv=>?_);obtain⟨cu,cv,cw⟩:=bs ct;refine zg 1 rfl (EY [] (fun L s=>∃(bw:LH),Jm bo H bw [] [(0,pV k1 o2),(7,uV a4),(24,sV a5 Z a6),(25,iV (Z.length:Int)),(26,iV al),(46,.bool cu)] L s) ?_ ?_)
   ·rintro _ _ ⟨bw,rfl,rfl,bU,bV⟩;refine JL.done (BI cw (fun cy cz=>?_) (fun cy cA=>?_))
    ·refine zg 4 rfl ?_;obtain rfl:=oi cz;obtain rfl:=be _ am;have cB:=elim_inl a8;obtain rfl:=oi cB;exact AB func109 rfl rfl (a3 (((ag.Ac K).Ac ap).Ac bU) rfl ⟨rfl,rfl⟩ bV)
    ·obtain⟨cC,cD,cE⟩:=bs cA;refine zg 3 rfl (Ba cD rfl rfl rfl ?_);refine zg 2 rfl ?_;obtain rfl:=oi cE;exact ci cC ((K.Ac ap).Ac bU) bV rfl am
   ·intro bW;refine DU 33 cv (fun cF cG=>?_) (fun cF cH=>?_)
    ·refine zg 13 rfl ?_;obtain rfl:=oi cG;exact Ay (bW _ _ ⟨bo,rfl,rfl,Ar,bv⟩) rfl
    ·refine zg 3 rfl (BL underlying141 BJ rfl rfl rfl ?_);refine JL.fl 1 (av.Ai ((ag.Ac K).Ac ap)) underlying24 BR Cv ?_;obtain⟨c8,cI,cJ⟩:=bs cH;refine zg 1 rfl (Ce (bY.Ai ((ag.Ac K).Ac ap)) cI underlying22 BZ ?_);rintro c9 da _ ⟨db,dc,rfl,cK⟩ cM;refine B4 0 cM CZ rfl rfl rfl ?_;obtain⟨dd,cN,cO⟩:=bs cJ;refine BH (Kb cK cN) rfl rfl Jw bv fun cP cQ cR=>?_;obtain⟨cT,cV,cW⟩:=bs cO;refine AF (v:= uV cT) rfl (fun ρ h=>OT (h _ _ rfl) (h _ _ rfl) cV) (zg 2 rfl ?_);obtain rfl:=oi cW;exact Ay (bW _ _ ⟨cP,rfl,rfl,cQ,cR⟩) rfl
  ·refine JL.exit rfl ?_;obtain rfl:=oi cn;have cX:a7=(Sum.inr ()):=(be _ am).symm;exact Ay (cf _ _ ⟨(),cg,cX,rfl,rfl,K,bd⟩) rfl
end Pal
namespace Pal
open Go Go.Conc Go.Proofs
open Go.Proofs.Tryz
variable {J:Judge Tryz.prog}{E:LH}
def MP(fuel:Nat)(p0:List Int)(p1:Int)(K:Int):Option (Bd Int ((Int)⊕(Unit))):= if K<(p0.length:Int) then((ix p0 K).bind fun O=> if p1=O then(some (.done (Sum.inl K))) else((As (K+1)).bind fun U=> some (.more U))) else(some (.done (Sum.inr ())))
def f201(fuel:Nat)(p0:List Int)(p1:Int):Option Int:= Option.bind (iter (MP fuel p0 p1) fuel 0) fun K=> Sum.elim (fun r=>some r) (fun O=> some (-1)) K
theorem ZJ{U:Ap}{c2:Nat}{p0:List Int}{p1:Int}(a2:Al rI E U c2 p0){fuel:Nat}{r:Int}(Z:f201 fuel p0 p1=some r):AN J 201 [sV U p0 c2,iV p1] E [] (fun w E' B'=>w=iV r∧B'= []):=by
 refine A3 func201 fun Q b3 cs H a3 ag=>?_;unfold f201 at Z;refine zg 8 rfl (Bh underlying28 rfl rfl rfl ?_);obtain⟨al,a4,am⟩:=bs Z;refine zg 2 rfl (Bt (fun L s=>∃(ap:Unit) (av:LH),al=Sum.inr ap∧Jm E H av [] [] L s) ?_ ?_)
 ·rintro _ _ ⟨ap,av,rfl,rfl,rfl,a5,a6⟩;have a7:=elim_inr am;refine zg 4 rfl ?_;obtain rfl:=oi a7;exact AB func201 rfl rfl (ag a5 rfl ⟨rfl,rfl⟩ a6)
 ·intro a8;refine JL.block (Cp a4 (fun V=> []) (fun V=> [(0,sV U p0 c2),(1,iV p1),(7,iV (p0.length:Int)),(8,iV V)]) Ar a3 ?_);rintro V a9 K Y a0 ⟨b4,O⟩ bb;have a1:=O;unfold MP at a1;refine zg 5 rfl (AM a1 (fun bd be=>?_) (fun bd bi=>?_))
  ·obtain⟨b5,bo,bv⟩:=bs be;refine zg 13 rfl (Ce (a2.Ai K) bo underlying28 AX ?_);rintro b6 b7 _ rfl bw;refine B4 0 bw By rfl rfl rfl (zg 2 rfl ?_);refine AM bv (fun bU bV=>?_) (fun bU bW=>?_)
   ·refine zg 5 rfl ?_;obtain rfl:=oi bV;obtain rfl:=a0 _ O;have bY:=elim_inl am;obtain rfl:=oi bY;exact AB func201 rfl rfl (ag K rfl ⟨rfl,rfl⟩ Y)
   ·obtain⟨bZ,b0,b1⟩:=bs bW;refine zg 3 rfl (Ba b0 rfl rfl rfl ?_);refine zg 2 rfl ?_;obtain rfl:=oi b1;exact bb bZ K Y rfl O
  ·refine JL.exit rfl ?_;obtain rfl:=oi bi;have b2:al=(Sum.inr ()):=(a0 _ O).symm;exact Ay (a8 _ _ ⟨(),a9,b2,rfl,rfl,K,Y⟩) rfl
def f199(fuel:Nat)(p0:List Int)(p1:Int):Option Bool:= (f201 fuel p0 p1).bind fun K=> some (decide (0≤K))
theorem ZI{K:Ap}{c2:Nat}{p0:List Int}{p1:Int}(U:Al rI E K c2 p0){fuel:Nat}{r:Bool}(O:f199 fuel p0 p1=some r):AN J 199 [sV K p0 c2,iV p1] E [] (fun w E' B'=>w= .bool r∧B'= []):=by
 refine A3 func199 fun Q ap cs H V Y=>?_;unfold f199 at O;obtain⟨av,Z,ag⟩:=bs O;refine zg 8 rfl (BH (ZJ U Z) rfl rfl (AV func201 rfl) V fun a0 al am=>?_);refine zg 3 rfl ?_;obtain rfl:=oi ag;exact AB func199 rfl rfl (Y al rfl ⟨rfl,rfl⟩ am)
def f192(fuel:Nat)(p0:BY)(p1:Int)(p2:Int):Option ((Option (Int×Option Int))):= if p1=p2 then(some (some (p1,none))) else((ix p0.2.1 p1).bind fun K=> (f199 fuel K p2).bind fun O=> if O=true then(some (some (p1,some p2))) else(some none))
theorem Zr{k1:Nat}{o2:Nat}{O:Ap}{U:Nat}{V:Ap}{Y:Nat}{Z:Lv_}{p0:BY}{p1:Int}{p2:Int}(a0:At E k1 o2 (([sV O p0.1 U,sV V p0.2.1 Y]:Lv_)++Z))(bo:Al (rL rI) E O U p0.1)(a1:Al (rL rI) E V Y p0.2.1)(bv:(rA 13 (rN .u16)).r E Z p0.2.2){fuel:Nat}{r:(Option (Int×Option Int))}(ag:f192 fuel p0 p1 p2=some r):AN J 192 [pV k1 o2,iV p1,iV p2] E [] (fun w E' B'=>∃(al:Value),w=al∧B'= []∧Qh 257 259 al r):=by
 refine A3 func192 fun Q bw cs H am K=>?_;unfold f192 at ag;refine zg 13 rfl (AM ag (fun a2 a3=>?_) (fun a2 a4=>?_))
 ·refine zg 3 rfl (AF (v:= .agg #[iV p1]) rfl (fun ρ h=>Di [(0,1)] h (DG type257) underlying257 ⟨rfl,Bv type3,trivial⟩ rfl rfl) ?_);refine AF (v:= .iface 257 (.agg #[iV p1])) rfl (fun ρ h=>Ff underlying257 (fun _ h=>by cases h) (h _ _ rfl)) (zg 2 rfl ?_);obtain rfl:=oi a3;exact AB func192 rfl rfl (K Ar rfl ⟨.iface 257 (.agg #[iV p1]),rfl,rfl,rfl⟩ am)
 ·refine zg 4 rfl (BL underlying141 BJ rfl rfl rfl ?_);refine JL.fl 1 a0 underlying24 BR Cv ?_;obtain⟨bU,a5,a6⟩:=bs a4;refine zg 1 rfl (Ce a1 a5 underlying22 BZ ?_);rintro bV bW _ ⟨bY,bZ,rfl,a7⟩ a8;refine B4 0 a8 CZ rfl rfl rfl ?_;obtain⟨b0,a9,bb⟩:=bs a6;refine zg 1 rfl (BH (ZI a7 a9) rfl rfl (AV func199 rfl) am fun b1 ap av=>?_);refine zg 2 rfl (BI bb (fun bd be=>?_) (fun bd bi=>?_))
  ·refine zg 4 rfl (AF (v:= .agg #[iV p1,iV p2]) rfl (fun ρ h=>Di [(0,1),(1,1)] h (DG type259) underlying259 ⟨rfl,Bv type3,rfl,Bv type3,trivial⟩ rfl rfl) ?_);refine AF (v:= .iface 259 (.agg #[iV p1,iV p2])) rfl (fun ρ h=>Ff underlying259 (fun _ h=>by cases h) (h _ _ rfl)) (zg 2 rfl ?_);obtain rfl:=oi be;exact AB func192 rfl rfl (K ap rfl ⟨.iface 259 (.agg #[iV p1,iV p2]),rfl,rfl,rfl⟩ av)
  ·refine zg 6 rfl ?_;obtain rfl:=oi bi;exact AB func192 rfl rfl (K ap rfl ⟨.nilIface,rfl,rfl,rfl⟩ av)
end Pal
namespace Pal
open Go Go.Conc Go.Proofs
open Go.Proofs.Tryz
variable {J:Judge Tryz.prog}{E:LH}
def Lz(fuel:Nat)(p0:(BY)×(AJ)×Cf):Option Int:= if(p0.2.1.length:Int)=0 then(some 0) else((As ((p0.2.1.length:Int) - 1)).bind fun K=> (ix p0.2.1 K).bind fun O=> some O.1)
theorem X5{bk:Nat}{k1:Nat}{o2:Nat}{Z:Ap}{ag:Nat}{al:Ap}{am:Nat}{ap:Lv_}{O:Ap}{U:Nat}{V:Ap}{Y:Nat}{p0:(BY)×(AJ)×Cf}(bb:At E k1 o2 (([sV Z p0.1.1 ag,sV al p0.1.2.1 am]:Lv_)++ap))(bd:Al (rL rI) E Z ag p0.1.1)(be:Al (rL rI) E al am p0.1.2.1)(bi:(rA 13 (rN .u16)).r E ap p0.1.2.2)(a1:Al Bg E O U p0.2.1)(bo:Al rI E V Y p0.2.2.2.1){fuel:Nat}{r:Int}(av:Lz fuel p0=some r):AN J 154 [pV bk 0] E [(bk,.cells #[pV k1 o2,sV O p0.2.1 U,iV p0.2.2.1,sV V p0.2.2.2.1 Y,uV p0.2.2.2.2] 175 (0,0))] (fun w E' B'=>w=iV r∧B'= [(bk,.cells #[pV k1 o2,sV O p0.2.1 U,iV p0.2.2.1,sV V p0.2.2.2.1 Y,uV p0.2.2.2.2] 175 (0,0))]):=by
 refine A3 func154 fun Q bv cs H K a0=>?_;unfold Lz at av;refine zg 9 rfl (BL underlying175 HM rfl rfl rfl ?_);refine AF (v:= sV O p0.2.1 U) rfl (fun ρ h=>Yl.load Ij (h _ _ rfl) (D1 (j:=0) (off:=1) K rfl rfl)) (Bh underlying25 rfl rfl rfl ?_);refine zg 2 rfl (AM av (fun a2 a3=>?_) (fun a2 a4=>?_))
 ·refine zg 4 rfl ?_;obtain rfl:=oi a3;exact AB func154 rfl rfl (a0 Ar rfl ⟨rfl,rfl⟩ K)
 ·refine zg 2 rfl (Dq 10 [bk] ⟨⟨0,_,rfl⟩,trivial⟩ K fun ht=>?_);refine AZ ht rfl [0,1] rfl (B9 2 ht underlying175 HM rfl rfl rfl rfl ?_);refine Fj 3 ht 1 0 K Ij ?_;refine AZ ht rfl [4,5] rfl (B9 6 ht underlying175 HM rfl rfl rfl rfl ?_);refine Fj 7 ht 1 0 K Ij ?_;refine BA 8 ht rfl rfl (fun ρ h s' hs=>Yl.len rfl underlying25 (h _ _ rfl)) ?_;obtain⟨bw,a5,a6⟩:=bs a4;refine BA 9 ht rfl rfl (fun ρ h s' hs=>Da (h _ _ rfl) (h _ _ rfl) a5) (Cj [10,11,12,13] ?_);obtain⟨bU,a7,a8⟩:=bs a6;refine Ce a1 a7 underlying25 BF ?_;rintro bV bW _ ⟨_,_,rfl,rfl,rfl⟩ a9;refine JL.fl 0 a9 underlying27 AX By ?_;refine zg 2 rfl ?_;obtain rfl:=oi a8;exact AB func154 rfl rfl (a0 Ar rfl ⟨rfl,rfl⟩ K)
def MJ(fuel:Nat)(p0:(BY)×(AJ)×Cf)(p1:Int)(p2:Int)(K:Nat×Int):Option (Bd (Nat×Int) ((Nat×Bool)⊕(Nat))):= if K.2<(p0.2.1.length:Int) then(Option.bind ((ix p0.2.1 K.2).bind fun O=> if O.1≠p1 then(some (Sum.inr K.1)) else((f192 fuel p0.1 p2 O.2).bind fun U=> Option.bind (if Kj U=true then(some (Sum.inr K.1)) else(if LJ U=true then((f90 fuel K.1 K.2).bind fun V=> some (Sum.inr V)) else(some (Sum.inl (0,false))))) fun Y=>Sum.elim (fun r=>some (Sum.inl r)) (fun Z=> some (Sum.inr Z)) Y)) fun ag=>Sum.elim (fun r=>some (.done (Sum.inl r))) (fun al=> (As (K.2+1)).bind fun am=> some (.more (al,am))) ag) else(some (.done (Sum.inr K.1)))
def LD(fuel:Nat)(p0:(BY)×(AJ)×Cf)(p1:Int)(p2:Int):On_:= Option.bind (iter (MJ fuel p0 p1 p2) fuel (0,0)) fun K=> Sum.elim (fun r=>some r) (fun O=> some (O,true)) K
theorem Xo{bk:Nat}{k1:Nat}{o2:Nat}{a4:Ap}{a5:Nat}{a6:Ap}{a7:Nat}{a8:Lv_}{K:Ap}{O:Nat}{Y:Ap}{Z:Nat}{p0:(BY)×(AJ)×Cf}{p1:Int}{p2:Int}(b6:At E k1 o2 (([sV a4 p0.1.1 a5,sV a6 p0.1.2.1 a7]:Lv_)++a8))(b7:Al (rL rI) E a4 a5 p0.1.1)(b8:Al (rL rI) E a6 a7 p0.1.2.1)(b9:(rA 13 (rN .u16)).r E a8 p0.1.2.2)(ca:Al Bg E K O p0.2.1)(c6:Al rI E Y Z p0.2.2.2.1){fuel:Nat}{r:Nat×Bool}(a9:LD fuel p0 p1 p2=some r):AN J 174 [pV bk 0,iV p1,iV p2] E [(bk,.cells #[pV k1 o2,sV K p0.2.1 O,iV p0.2.2.1,sV Y p0.2.2.2.1 Z,uV p0.2.2.2.2] 175 (0,0))] (fun w E' B'=>w= .tuple #[uV r.1,.bool r.2]∧B'= [(bk,.cells #[pV k1 o2,sV K p0.2.1 O,iV p0.2.2.1,sV Y p0.2.2.2.1 Z,uV p0.2.2.2.2] 175 (0,0))]):=by
 refine A3 func174 fun Q c7 cs H bb bd=>?_;unfold LD at a9;refine zg 11 rfl (JL.label ?_);refine zg 5 rfl (BL underlying175 HM rfl rfl rfl ?_);refine AF (v:= sV K p0.2.1 O) rfl (fun ρ h=>Yl.load Ij (h _ _ rfl) (D1 (j:=0) (off:=1) bb rfl rfl)) (Bh underlying25 rfl rfl rfl ?_);obtain⟨be,cb,bi⟩:=bs a9;refine zg 2 rfl (Bt (fun L s=>∃(a1:Nat) (bo:LH),be=Sum.inr a1∧Jm E H bo [bX bk #[pV k1 o2,sV K p0.2.1 O,iV p0.2.2.1,sV Y p0.2.2.2.1 Z,uV p0.2.2.2.2] 175] [(8,uV a1)] L s) ?_ ?_)
 ·rintro _ _ ⟨a1,bo,rfl,rfl,rfl,cc,cd⟩;have ce:=elim_inr bi;refine zg 6 rfl ?_;obtain rfl:=oi ce;exact AB func174 rfl rfl (bd cc rfl ⟨rfl,rfl⟩ cd)
 ·intro cf;refine JL.block (Cp cb (fun U=> [bX bk #[pV k1 o2,sV K p0.2.1 O,iV p0.2.2.1,sV Y p0.2.2.2.1 Z,uV p0.2.2.2.2] 175]) (fun U=> [(0,pV bk 0),(1,iV p1),(2,iV p2),(8,uV U.1),(14,sV K p0.2.1 O),(15,iV (p0.2.1.length:Int)),(16,iV U.2)]) Ar bb ?_);rintro U bv V bw bU ⟨c8,am⟩ cg;have bV:=am;unfold MJ at bV;refine zg 5 rfl (AM bV (fun ci ck=>?_) (fun ci cm=>?_))
  ·obtain⟨cn,co,bW⟩:=bs ck;refine zg 2 rfl (Bt (fun L s=>∃(ap:Nat) (bY:LH),cn=Sum.inr ap∧Jm bv H bY [bX bk #[pV k1 o2,sV K p0.2.1 O,iV p0.2.2.1,sV Y p0.2.2.2.1 Z,uV p0.2.2.2.2] 175] [(0,pV bk 0),(1,iV p1),(2,iV p2),(8,uV ap),(14,sV K p0.2.1 O),(15,iV (p0.2.1.length:Int)),(16,iV U.2)] L s) ?_ ?_)
   ·rintro _ _ ⟨ap,bY,rfl,rfl,rfl,cp,cq⟩;have cr:=elim_inr bW;obtain⟨ct,cu,cv⟩:=bs cr;refine JL.region (Ba cu rfl rfl rfl ?_);refine zg 2 rfl ?_;obtain rfl:=oi cv;exact cg (ap,ct) (V.Ac cp) cq rfl am
   ·intro bZ;obtain⟨c9,cw,cy⟩:=bs co;refine zg 4 rfl (Ce (ca.Ai V) cw underlying25 BF ?_);rintro da db _ ⟨_,_,rfl,rfl,rfl⟩ cz;refine BX cz Gh BF rfl rfl (CW bw C7 fun dc cA=>?_);refine zg 1 rfl (BW 1 cA BF fun cB=>?_);refine C8 1 cB rfl fun cC ag b0 al=>zg 4 rfl (JL.fl 0 b0 underlying27 AX By ?_);refine zg 3 rfl (AM cy (fun cD cE=>?_) (fun cD cF=>?_))
    ·exact JL.exit rfl (Ay (bZ _ _ ⟨U.1,cC,(Option.some.inj cE).symm,rfl,rfl,ag,al⟩) rfl)
    ·refine zg 2 rfl (Dq 7 [bk] ⟨⟨0,_,rfl⟩,trivial⟩ al fun ht=>?_);refine AZ ht rfl [0,1] rfl (B9 2 ht underlying175 OC rfl rfl rfl rfl ?_);refine Fj 3 ht 0 0 al Md ?_;refine Ck 4 ht rfl rfl (B9 5 ht underlying27 AX rfl rfl rfl rfl ?_);refine JG.lp 6 ht 1 b0 al ⟨⟨0,_,rfl⟩,trivial⟩ By ?_;refine Cj [7] ?_;obtain⟨av,cG,cH⟩:=bs cF;refine BN (Zr (b6.Ai (V.Ac ag)) (b7.Ai (V.Ac ag)) (b8.Ai (V.Ac ag)) (Rp.Ai _ (V.Ac ag) b9) cG) rfl rfl (AV func192 rfl) al ?_;rintro _ b1 _ b2 ⟨dd,rfl,rfl,b3⟩ a2;refine zg 4 rfl (AF (v:= .tuple #[(Qf av),.bool (Kj av)]) rfl (fun ρ h=>U0 (t2:=259) underlying257 (DG type257) (by decide) b3 (h _ _ rfl)) ?_);obtain⟨cI,cJ,b4⟩:=bs cH;refine zg 3 rfl (Bt (fun L s=>∃(a0:Nat) (a3:LH),cI=Sum.inr a0∧Jm b1 H a3 [bX bk #[pV k1 o2,sV K p0.2.1 O,iV p0.2.2.1,sV Y p0.2.2.2.1 Z,uV p0.2.2.2.2] 175] [(0,pV bk 0),(1,iV p1),(2,iV p2),(8,uV a0),(14,sV K p0.2.1 O),(15,iV (p0.2.1.length:Int)),(16,iV U.2)] L s) ?_ ?_)
     ·rintro _ _ ⟨a0,a3,rfl,rfl,rfl,cK,cM⟩;have cN:=elim_inr b4;exact zg 2 rfl (Ay (bZ _ _ ⟨a0,a3,(Option.some.inj cN).symm,rfl,rfl,((ag.Ac b2).Ac cK),cM⟩) rfl)
     ·intro b5;refine BI cJ (fun cO cP=>?_) (fun cO cQ=>?_)
      ·exact JL.skip (Ay (b5 _ _ ⟨U.1,b1,(Option.some.inj cP).symm,rfl,rfl,Ar,a2⟩) rfl)
      ·refine zg 2 rfl (AF (v:= .tuple #[(Qk av),.bool (LJ av)]) rfl (fun ρ h=>UB (t1:=257) underlying259 (DG type259) (by decide) b3 (h _ _ rfl)) ?_);refine zg 3 rfl (BI cQ (fun cR cT=>?_) (fun cR cV=>?_))
       ·obtain⟨cW,cX,cY⟩:=bs cT;refine zg 3 rfl (BH (NW cX) rfl rfl Mh a2 fun cZ c0 c1=>?_);exact zg 2 rfl (Ay (b5 _ _ ⟨cW,cZ,(Option.some.inj cY).symm,rfl,rfl,c0,c1⟩) rfl)
       ·refine zg 5 rfl ?_;obtain rfl:=oi cV;have c2:=elim_inl b4;obtain rfl:=oi c2;have c3:=elim_inl bW;obtain rfl:=oi c3;obtain rfl:=bU _ am;have c4:=elim_inl bi;obtain rfl:=oi c4;exact AB func174 rfl rfl (bd ((V.Ac ag).Ac b2) rfl ⟨rfl,rfl⟩ a2)
  ·refine JL.exit rfl ?_;obtain rfl:=oi cm;have c5:be=(Sum.inr U.1):=(bU _ am).symm;exact Ay (cf _ _ ⟨U.1,bv,c5,rfl,rfl,V,bw⟩) rfl
end Pal
namespace Pal
open Go Go.Conc Go.Proofs
open Go.Proofs.Tryz
variable {J:Judge Tryz.prog}{E:LH}
def LC(fuel:Nat)(p0:List Int):Option ((List Int)):= (CQ ([]:List Int) p0).bind fun K=> some K
theorem YB{ad:Addr}{c2:Nat}{p0:List Int}(V:Al rI E (some ad) c2 p0){fuel:Nat}{r:(List Int)}(K:LC fuel p0=some r):AN J 175 [.slice (some ad) p0.length c2] E [] (fun w E' B'=>∃(O:Ap) (U:Nat) (g0:Seg),w= sV O r U∧B'=g0∧OL 3 rI E' O U g0 r):=by
 refine A3 func175 fun Q a4 cs H Y Z=>?_;unfold LC at K;refine zg 8 rfl (AF (v:= .bool false) rfl (fun ρ h=>ME (a:=(some ad)) underlying28 (h _ _ rfl) (h _ _ rfl)) ?_);refine zg 5 rfl (Lj (pp:=rI) rfl rfl rfl underlying28 AX Y fun a5 g2 ag al=>?_);obtain⟨a6,am,ap⟩:=bs K;refine zg 1 rfl (G6 (pp:=rI) 1 am rfl rfl rfl rfl rfl rfl rfl underlying28 underlying28 AX (Cy type3) CU rfl (by decide) (by decide) ag V al rfl fun av a0 a1 a2 a3=>?_);refine zg 2 rfl ?_;obtain rfl:=oi ap;exact AB func175 rfl rfl (Z Ar rfl ⟨av,a0,a1,rfl,(by first | rfl | simp | (simp [Value.cells])),a2⟩ a3)
def TJ(fuel:Nat)(p0:List Int):Option ((List Int)):= some ([])
theorem XE{c2:Nat}{p0:List Int}(Z:Al rI E none c2 p0){fuel:Nat}{r:(List Int)}(K:TJ fuel p0=some r):AN J 175 [sV none p0 c2] E [] (fun w E' B'=>∃(O:Ap) (U:Nat) (g0:Seg),w= sV O r U∧B'=g0∧OL 3 rI E' O U g0 r):=by
 refine A3 func175 fun Q ag cs H V Y=>?_;unfold TJ at K;refine zg 8 rfl (AF (v:= .bool true) rfl (fun ρ h=>ME (a:=none) underlying28 (h _ _ rfl) (h _ _ rfl)) ?_);refine zg 6 rfl ?_;obtain rfl:=oi K;exact AB func175 rfl rfl (Y Ar rfl ⟨none,0,[],rfl,rfl,OL.nil⟩ V)
def f175(fuel:Nat)(p0:List Int):Option (List Int):=LC fuel p0
theorem To{O:Ap}{c2:Nat}{p0:List Int}(U:Al rI E O c2 p0){fuel:Nat}{r:List Int}(K:f175 fuel p0=some r):AN J 175 [.slice O p0.length c2] E [] (fun w E' B'=>∃(V:Ap) (Y:Nat) (g0:Seg),w= .slice V r.length Y∧B'=g0∧OL 3 rI E' V Y g0 r):=by
 cases O with
 | some ad=>exact YB U K
 | none=>
  have Z:p0= []:=by
   rcases U.2 with h | ⟨_,_,h,_⟩
   ·exact h.1
   ·cases h
  subst Z;have ag:r= []:=by
   have al:LC fuel []=some []:=rfl;unfold f175 at K;rw [al] at K;exact(Option.some.inj K).symm
  subst ag;exact XE (fuel:=fuel) U rfl
end Pal
namespace Pal
open Go Go.Conc Go.Proofs
open Go.Proofs.Tryz
def IK(fuel:Nat)(le:Int)(all:List (Cf))(tr:(Cf))(O:Int):Option (Int×List (Cf)):=
 Option.bind (
  if((all).length:Int)=0 then(
   some true
  ) else(
   some (decide (O<le))
  )
 ) fun U=>
 Option.bind (
  if U=true then(
   some (O,[])
  ) else(
   some (le,all)
  )
 ) fun K=>
 Option.bind (
  if O=K.1 then(
   (CQ K.2 ([tr]:List (Cf))).bind fun V=>
   some V
  ) else(
   some K.2
  )
 ) fun Y=>
 some (K.1,Y)
theorem YY{J:Judge Tryz.prog}{E:LH}{bk:Nat}{age:Int}{le:Int}{a:Ap}{c:Nat}{g:Seg}{all:List (Cf)}(bW:OL 104 Dx E a c g all){Y:Ap}{Z:Nat}{tr:(Cf)}(bY:Al rI E Y Z tr.2.1){ag:Int}{fuel:Nat}{r:Int×List (Cf)}(a9:IK fuel le all tr ag=some r):
  AN J 122 [pV bk 1,.agg #[iV tr.1,.slice Y tr.2.1.length Z,uV tr.2.2],iV ag] E ([(bk,.cells #[iV age,iV le,.slice a all.length c] 133 (0,0))]++g) (fun w E' B'=>∃bb bd g',w= .tuple #[]∧B'= [(bk,.cells #[iV age,iV r.1,.slice bb r.2.length bd] 133 (0,0))]++g'∧OL 104 Dx E' bb bd g' r.2):=by
 refine A3 func122 fun Q cF cs H a4 bZ=>?_;refine DN (S':= [[(bk,.cells #[iV age,iV le,.slice a all.length c] 133 (0,0))],g]) (by simp) a4 fun a4=>?_;unfold IK at a9;refine zg 2 rfl (Ca a4 fun be a5 a6 b0 al=>?_);refine zg 6 rfl (BL underlying97 DF rfl rfl rfl ?_);refine AF (v:= sV a all c) rfl (fun ρ h=>Yl.load EV (h _ _ rfl) (D1 (j:=0) (off:=2) al rfl rfl)) (Bh underlying95 rfl rfl rfl ?_);obtain⟨b1,b2,b3⟩:=bs a9;refine zg 2 rfl (EY [] (fun L s=>∃(U:LH),Jm a5 H U [bX bk #[iV age,iV le,sV a all c] 133,g] [(0,pV bk 1),(2,iV ag),(4,pV be 0),(19,.bool b1)] L s) ?_ ?_)
 ·rintro _ _ ⟨U,rfl,rfl,am,bi⟩;obtain⟨V,b4,b5⟩:=bs b3;refine JL.done (Bt (fun L s=>∃(K:LH) (ap:Ap) (av:Nat) (a0:Seg),Jn U H K [bX bk #[iV age,iV V.1,sV ap V.2 av] 133,a0] [(0,pV bk 1),(2,iV ag),(4,pV be 0)] L s (OL 104 Dx K ap av a0 V.2)) ?_ ?_)
  ·rintro _ _ ⟨K,ap,av,a0,rfl,rfl,a7,O,bo⟩;refine zg 5 rfl (BL underlying97 AX rfl rfl rfl ?_);refine AF (v:=iV V.1) rfl (fun ρ h=>Yl.load By (h _ _ rfl) (D1 (j:=0) (off:=1) O rfl rfl)) ?_;obtain⟨bv,b6,b7⟩:=bs b5;refine zg 2 rfl (Bt (fun L s=>∃(a8:LH) (a1:Ap) (a2:Nat) (a3:Seg),Jn K H a8 [bX bk #[iV age,iV V.1,sV a1 bv a2] 133,a3] [] L s (OL 104 Dx a8 a1 a2 a3 bv)) ?_ ?_)
   ·rintro _ _ ⟨a8,a1,a2,a3,rfl,rfl,b8,b9,ca⟩;obtain rfl:=oi b7;exact JL.fin (v:= .tuple #[]) rfl rfl (Cm.list func122 rfl (vs:= []) trivial) (bZ (((a6.Ac am).Ac a7).Ac b8) rfl ⟨a1,a2,a3,rfl,by simp,ca⟩ b9)
   ·intro bw;refine AM b6 (fun cb cc=>?_) (fun cb cd=>?_)
    ·refine Dq 8 [bk] ⟨⟨0,_,rfl⟩,trivial⟩ O fun ht=>AZ ht rfl [0,1,2] rfl (B9 3 ht underlying97 DF rfl rfl rfl rfl ?_);refine Fj 4 ht 2 0 O EV ?_;refine BA 5 ht rfl rfl (fun ρ h s' hs=>F5 (vs:= [iV tr.1,sV Y tr.2.1 Z,uV tr.2.2]) F1 Cx (h _ _ rfl) (At.PE (b0.Ai (am.Ac a7)) (PM O hs ⟨⟨0,_,rfl⟩,trivial⟩))) ?_;obtain⟨cG,ce,cf⟩:=bs cc;refine JG.one (i:=6) rfl (by decide+kernel) (Take.lit (pp:=Dx) (jp:=0) [.agg #[iV tr.1,sV Y tr.2.1 Z,uV tr.2.2]] ([tr]:List Cf) O rfl rfl rfl rfl underlying95 Cx GY (by decide) rfl rfl rfl ⟨⟨_,_,rfl,rfl,⟨_,_,rfl,⟨_,_,rfl,(bY.Ai ((a6.Ac am).Ac a7))⟩,rfl⟩⟩,trivial⟩ fun cH cI cg ci=>?_);refine JG.one (i:=7) rfl (by decide+kernel) (Take.app (pp:=Dx) (jp:=0) 1 2 ci rfl ce rfl rfl rfl rfl rfl rfl rfl underlying95 underlying95 Cx (Cy type104) GY rfl (by decide) (by decide) bo cg rfl rfl rfl rfl fun ck cm cJ cn co cp=>?_);refine Cj [8,9,10] (Ep 1 rfl cp fun cq=>?_);refine JS.drop 1 cq rfl fun cr=>zg 1 rfl (BL underlying97 DF rfl rfl rfl ?_);refine BW 0 cr DF fun ct=>?_;refine JL.done (JS.drop 2 ct rfl fun cu=>?_);obtain rfl:=oi cf;exact Ay (bw _ _ ⟨K,ck,cm,cn,rfl,rfl,Ar,cu,co⟩) rfl
    ·refine JL.skip ?_;obtain rfl:=oi cd;exact Ay (bw _ _ ⟨K,ap,av,a0,rfl,rfl,Ar,O,bo⟩) rfl
  ·intro bU;refine BI b4 (fun cv cw=>?_) (fun cv cy=>?_)
   ·refine zg 5 rfl (BL underlying97 AX rfl rfl rfl ?_);refine BW 0 bi AX fun cz=>?_;refine zg 1 rfl (BL underlying97 DF rfl rfl rfl ?_);refine BW 0 cz DF fun cA=>?_;refine JL.done (JS.drop 1 cA rfl fun cB=>?_);obtain rfl:=oi cw;exact Ay (bU _ _ ⟨U,none,0,[],rfl,rfl,Ar,cB,OL.nil⟩) rfl
   ·refine JL.skip ?_;obtain rfl:=oi cy;exact Ay (bU _ _ ⟨U,a,c,g,rfl,rfl,Ar,bi,(bW.Ai (a6.Ac am))⟩) rfl
 ·intro bV;refine Es 12 b2 (fun cC cD=>?_) (fun cC cE=>?_)
  ·refine zg 7 rfl ?_;obtain rfl:=oi cD;exact Ay (bV _ _ ⟨a5,rfl,rfl,Ar,al⟩) rfl
  ·refine zg 3 rfl (BL underlying97 AX rfl rfl rfl ?_);refine AF (v:=iV le) rfl (fun ρ h=>Yl.load By (h _ _ rfl) (D1 (j:=0) (off:=1) al rfl rfl)) (zg 2 rfl ?_);obtain rfl:=oi cE;exact Ay (bV _ _ ⟨a5,rfl,rfl,Ar,al⟩) rfl
theorem Y4{J:Judge Tryz.prog}{E:LH}{bk:Nat}{age:Int}{le:Int}{a:Ap}{c:Nat}{g:Seg}{all:List (Cf)}(bW:OL 104 Dx E a c g all){Y:Ap}{Z:Nat}{tr:(Cf)}(bY:Al rI E Y Z tr.2.1){ag:Int}{fuel:Nat}{r:Int×List (Cf)}(a9:IK fuel le all tr ag=some r):
  AN J 122 [pV bk 0,.agg #[iV tr.1,.slice Y tr.2.1.length Z,uV tr.2.2],iV ag] E ([(bk,.cells #[iV le,.slice a all.length c] 97 (0,0))]++g) (fun w E' B'=>∃bb bd g',w= .tuple #[]∧B'= [(bk,.cells #[iV r.1,.slice bb r.2.length bd] 97 (0,0))]++g'∧OL 104 Dx E' bb bd g' r.2):=by
 refine A3 func122 fun Q cF cs H a4 bZ=>?_;refine DN (S':= [[(bk,.cells #[iV le,.slice a all.length c] 97 (0,0))],g]) (by simp) a4 fun a4=>?_;unfold IK at a9;refine zg 2 rfl (Ca a4 fun be a5 a6 b0 al=>?_);refine zg 6 rfl (BL underlying97 DF rfl rfl rfl ?_);refine AF (v:= sV a all c) rfl (fun ρ h=>Yl.load EV (h _ _ rfl) (D1 (j:=0) (off:=1) al rfl rfl)) (Bh underlying95 rfl rfl rfl ?_);obtain⟨b1,b2,b3⟩:=bs a9;refine zg 2 rfl (EY [] (fun L s=>∃(U:LH),Jm a5 H U [bX bk #[iV le,sV a all c] 97,g] [(0,pV bk 0),(2,iV ag),(4,pV be 0),(19,.bool b1)] L s) ?_ ?_)
 ·rintro _ _ ⟨U,rfl,rfl,am,bi⟩;obtain⟨V,b4,b5⟩:=bs b3;refine JL.done (Bt (fun L s=>∃(K:LH) (ap:Ap) (av:Nat) (a0:Seg),Jn U H K [bX bk #[iV V.1,sV ap V.2 av] 97,a0] [(0,pV bk 0),(2,iV ag),(4,pV be 0)] L s (OL 104 Dx K ap av a0 V.2)) ?_ ?_)
  ·rintro _ _ ⟨K,ap,av,a0,rfl,rfl,a7,O,bo⟩;refine zg 5 rfl (BL underlying97 AX rfl rfl rfl ?_);refine AF (v:=iV V.1) rfl (fun ρ h=>Yl.load By (h _ _ rfl) (D1 (j:=0) (off:=0) O rfl rfl)) ?_;obtain⟨bv,b6,b7⟩:=bs b5;refine zg 2 rfl (Bt (fun L s=>∃(a8:LH) (a1:Ap) (a2:Nat) (a3:Seg),Jn K H a8 [bX bk #[iV V.1,sV a1 bv a2] 97,a3] [] L s (OL 104 Dx a8 a1 a2 a3 bv)) ?_ ?_)
   ·rintro _ _ ⟨a8,a1,a2,a3,rfl,rfl,b8,b9,ca⟩;obtain rfl:=oi b7;exact JL.fin (v:= .tuple #[]) rfl rfl (Cm.list func122 rfl (vs:= []) trivial) (bZ (((a6.Ac am).Ac a7).Ac b8) rfl ⟨a1,a2,a3,rfl,by simp,ca⟩ b9)
   ·intro bw;refine AM b6 (fun cb cc=>?_) (fun cb cd=>?_)
    ·refine Dq 8 [bk] ⟨⟨0,_,rfl⟩,trivial⟩ O fun ht=>AZ ht rfl [0,1,2] rfl (B9 3 ht underlying97 DF rfl rfl rfl rfl ?_);refine Fj 4 ht 1 0 O EV ?_;refine BA 5 ht rfl rfl (fun ρ h s' hs=>F5 (vs:= [iV tr.1,sV Y tr.2.1 Z,uV tr.2.2]) F1 Cx (h _ _ rfl) (At.PE (b0.Ai (am.Ac a7)) (PM O hs ⟨⟨0,_,rfl⟩,trivial⟩))) ?_;obtain⟨cG,ce,cf⟩:=bs cc;refine JG.one (i:=6) rfl (by decide+kernel) (Take.lit (pp:=Dx) (jp:=0) [.agg #[iV tr.1,sV Y tr.2.1 Z,uV tr.2.2]] ([tr]:List Cf) O rfl rfl rfl rfl underlying95 Cx GY (by decide) rfl rfl rfl ⟨⟨_,_,rfl,rfl,⟨_,_,rfl,⟨_,_,rfl,(bY.Ai ((a6.Ac am).Ac a7))⟩,rfl⟩⟩,trivial⟩ fun cH cI cg ci=>?_);refine JG.one (i:=7) rfl (by decide+kernel) (Take.app (pp:=Dx) (jp:=0) 1 2 ci rfl ce rfl rfl rfl rfl rfl rfl rfl underlying95 underlying95 Cx (Cy type104) GY rfl (by decide) (by decide) bo cg rfl rfl rfl rfl fun ck cm cJ cn co cp=>?_);refine Cj [8,9,10] (Ep 1 rfl cp fun cq=>?_);refine JS.drop 1 cq rfl fun cr=>zg 1 rfl (BL underlying97 DF rfl rfl rfl ?_);refine BW 0 cr DF fun ct=>?_;refine JL.done (JS.drop 2 ct rfl fun cu=>?_);obtain rfl:=oi cf;exact Ay (bw _ _ ⟨K,ck,cm,cn,rfl,rfl,Ar,cu,co⟩) rfl
    ·refine JL.skip ?_;obtain rfl:=oi cd;exact Ay (bw _ _ ⟨K,ap,av,a0,rfl,rfl,Ar,O,bo⟩) rfl
  ·intro bU;refine BI b4 (fun cv cw=>?_) (fun cv cy=>?_)
   ·refine zg 5 rfl (BL underlying97 AX rfl rfl rfl ?_);refine BW 0 bi AX fun cz=>?_;refine zg 1 rfl (BL underlying97 DF rfl rfl rfl ?_);refine BW 0 cz DF fun cA=>?_;refine JL.done (JS.drop 1 cA rfl fun cB=>?_);obtain rfl:=oi cw;exact Ay (bU _ _ ⟨U,none,0,[],rfl,rfl,Ar,cB,OL.nil⟩) rfl
   ·refine JL.skip ?_;obtain rfl:=oi cy;exact Ay (bU _ _ ⟨U,a,c,g,rfl,rfl,Ar,bi,(bW.Ai (a6.Ac am))⟩) rfl
 ·intro bV;refine Es 12 b2 (fun cC cD=>?_) (fun cC cE=>?_)
  ·refine zg 7 rfl ?_;obtain rfl:=oi cD;exact Ay (bV _ _ ⟨a5,rfl,rfl,Ar,al⟩) rfl
  ·refine zg 3 rfl (BL underlying97 AX rfl rfl rfl ?_);refine AF (v:=iV le) rfl (fun ρ h=>Yl.load By (h _ _ rfl) (D1 (j:=0) (off:=0) al rfl rfl)) (zg 2 rfl ?_);obtain rfl:=oi cE;exact Ay (bV _ _ ⟨a5,rfl,rfl,Ar,al⟩) rfl
end Pal
namespace Pal
open Go Go.Conc Go.Proofs
open Go.Proofs.Tryz
def LU(fuel:Nat)(O:BY)(lk:AJ)(age:Int)(ms:List Int)(fl:Nat)(m:Int):Option (Option (List Int×Nat)):=
 (LD fuel (O,lk,age,ms,fl) ((ms).length:Int) m).bind fun K=>
 if(!K.2)=true then(
  some none
 ) else(
  (f175 fuel ms).bind fun U=>
  (CQ U ([m]:List Int)).bind fun V=>
  (Jv (fl) (K.1)).bind fun Y=>
  some (some (V,Y))
 )
theorem ZV{J:Judge Tryz.prog}{A:Type}{I:A→LH→Seg→Prop}(cr:∀x E E' X,Le E E'→I x E X→I x E' X){E:LH}{bk k1 o2:Nat}{b3 b4 K Z:Ap}{b5 b6 O ag:Nat}{b7:Lv_}{av:BY}{lk:AJ}{age:Int}{ms:List Int}{fl:Nat}(ct:At E k1 o2 (([sV b3 av.1 b5,sV b4 av.2.1 b6]:Lv_)++b7))(cu:Al (rL rI) E b3 b5 av.1)(cv:Al (rL rI) E b4 b6 av.2.1)(cw:(rA 13 (rN .u16)).r E b7 av.2.2)(cy:Al Bg E K O lk)(bi:Al rI E Z ag ms){b8:Value}{X:Seg}{acc acc':A}(cz:I acc E X){m:Int}{fuel:Nat}{r:Option (List Int×Nat)}(b9:LU fuel av lk age ms fl m=some r)
  (cA:r=none→acc'=acc)
  (ca:∀q,r=some q→∀E' a c,Le E E'→Al rI E' a c q.1→Fb J b8 [] E' ([(bk,.cells #[pV k1 o2,.slice K lk.length O,iV age,.slice a q.1.length c,uV q.2] 175 (0,0))]++X) (fun w cB cC=>∃a4 a5 a6 Y,w= .bool true∧cC= [(bk,.cells #[pV k1 o2,.slice K lk.length O,a4,a5,a6] 175 (0,0))]++Y∧I acc' cB Y)):
  AN J 155 [pV bk 0,iV m,b8] E ([(bk,.cells #[pV k1 o2,.slice K lk.length O,iV age,.slice Z ms.length ag,uV fl] 175 (0,0))]++X) (fun w E' B'=>∃Y,w= .bool true∧B'= [(bk,.cells #[pV k1 o2,.slice K lk.length O,iV age,.slice Z ms.length ag,uV fl] 175 (0,0))]++Y∧I acc' E' Y):=by
 refine A3 func155 fun Q cb cs H bo bv=>?_;refine DN (S':= [[(bk,.cells #[pV k1 o2,.slice K lk.length O,iV age,.slice Z ms.length ag,uV fl] 175 (0,0))],X]) (by simp) bo fun bo=>?_;unfold LU at b9;refine zg 2 rfl (Ca bo fun a0 dq U am a7=>?_);refine zg 3 rfl (Dq 13 [bk] ⟨⟨0,_,rfl⟩,trivial⟩ a7 fun ht=>?_);refine JG.lp 0 ht 0 am a7 ⟨⟨0,_,rfl⟩,trivial⟩ FO ?_;refine JG.lp 1 ht 0 am a7 ⟨⟨0,_,rfl⟩,trivial⟩ FO ?_;refine Ck 2 ht rfl rfl (B9 3 ht underlying175 Cx rfl rfl rfl rfl ?_);refine B9 4 ht underlying104 BZ rfl rfl rfl rfl (Fj 5 ht 3 0 a7 CZ ?_);refine BA 6 ht rfl rfl (fun ρ h s' hs=>Yl.len rfl underlying28 (h _ _ rfl)) (Ck 7 ht rfl rfl ?_);obtain⟨cD,cE,cF⟩:=bs b9;refine Rb (i:=8) (vs:= [pV bk 0,iV (ms.length:Int),iV m]) 0 ⟨⟨0,_,rfl⟩,trivial⟩ (Xo (ct.Ai U) (cu.Ai U) (cv.Ai U) (Rp.Ai _ U cw) (cy.Ai U) (bi.Ai U) cE) (fun _ _ _ h=>h.2) (by decide+kernel) rfl rfl rfl (AV func174 rfl) rfl a7 rfl ?_;rintro _ dr V ⟨rfl,_⟩ bw;refine AZ ht rfl [9,10,11,12] rfl (Cj [13] ?_);refine zg 6 rfl (AF (v:= .bool (!cD.2)) rfl (fun ρ h=>Yl.not (h _ _ rfl)) ?_);refine JL.done (BI cF (fun cG cH=>?_) (fun cG cI=>?_))
 ·refine zg 4 rfl ?_;obtain rfl:=oi cH;exact AB func155 rfl rfl (bv (U.Ac V) rfl ⟨X,rfl,by simp,by rw [cA rfl];exact cr _ _ _ _ (U.Ac V) cz⟩ bw)
 ·refine zg 3 rfl (B4 0 (am.Ai V) FO rfl rfl rfl ?_);refine zg 1 rfl (BL underlying175 Cx rfl rfl rfl ?_);refine AF rfl (fun ρ h=>F5 (vs:= [iV age,sV Z ms ag,uV fl]) F1 Cx (h _ _ rfl) (F2 (off:=2) 0 bw rfl rfl)) (CW bw GY fun a1 cJ=>?_);refine BW 3 cJ Cx fun cK=>?_;refine C8 3 cK rfl fun dt al bU cM=>Cw (S':= [[(bk,.cells #[pV k1 o2,sV K lk O,iV age,sV Z ms ag,uV fl] 175 (0,0))],X,[],[]]) rfl cM fun cc=>zg 2 rfl (C5 7 fun ht=>?_);refine Cz 0 ht 0 (am.Ai (V.Ac al)) FO rfl rfl rfl rfl (B9 1 ht underlying104 BZ rfl rfl rfl rfl ?_);refine Cz 2 ht 1 bU CZ rfl rfl rfl rfl (Ck 4 ht rfl rfl ?_);obtain⟨du,cd,cN⟩:=bs cI;obtain⟨a2,ce,cf⟩:=bs cN;refine HX (i:=3) (j:=5) rfl (by decide+kernel) ?_ ?_
  ·refine Take.H0 (vs:= [sV Z ms ag]) cc (To (bi.Ai ((U.Ac V).Ac al)) cd) rfl rfl rfl (AV func175 rfl) rfl ?_;rintro _ dv _ a8 ⟨dw,dx,dy,rfl,rfl,cO⟩ cP;refine JG.one (i:=5) rfl (by decide+kernel) (Take.Js (pp:=rI) [iV m] ([m]:List Int) cP rfl rfl rfl underlying28 AX CU (by decide) rfl rfl rfl ⟨rfl,trivial⟩ fun dz cg cQ cR=>?_);refine JG.one (i:=6) rfl (by decide+kernel) (Take.app0 (pp:=rI) 4 5 cR ce rfl rfl rfl rfl rfl rfl rfl underlying28 underlying28 AX (Cy type3) CU rfl (by decide) (by decide) cO cQ rfl rfl fun ci ck dA cT cV cW=>?_);refine Cj [7,8,9,10] (Ep 4 rfl cW fun cX=>?_);refine JS.drop 4 cX rfl fun cY=>Cw (S':= [[(bk,.cells #[pV k1 o2,sV K lk O,iV age,sV Z ms ag,uV fl] 175 (0,0))],X,[],[],[],cg,cT]) rfl cY fun cZ=>zg 1 rfl (BL underlying175 Cx rfl rfl rfl ?_);refine BL underlying104 BZ rfl rfl rfl (BW 0 cZ BZ fun cm=>?_);refine zg 3 rfl (B4 0 (am.Ai ((V.Ac al).Ac a8)) FO rfl rfl rfl ?_);refine zg 1 rfl (BL underlying175 Cx rfl rfl rfl ?_);refine BL underlying104 En rfl rfl rfl (AF (v:= uV fl) rfl (fun ρ h=>Yl.load GW (h _ _ rfl) (D1 (j:=0) (off:=4) cm rfl rfl)) ?_);obtain⟨a9,c0,c1⟩:=bs cf;refine zg 1 rfl (AF (v:= uV a9) rfl (fun ρ h=>KX (h _ _ rfl) (h _ _ rfl) c0) ?_);refine zg 1 rfl (BL underlying175 Cx rfl rfl rfl ?_);refine BL underlying104 En rfl rfl rfl (BW 0 cm En fun c2=>?_);refine zg 2 rfl (BU 6 cV c2 rfl fun dB bb c3 c4=>?_);refine Cw (S':= [[(bk,.cells #[pV k1 o2,sV K lk O,iV age,sV ci a2 ck,uV a9] 175 (0,0))],X,[],[],[],cg,[]]) rfl c4 fun c5=>JS.drop 5 c5 rfl fun c6=>?_;obtain rfl:=oi c1;refine JL.region (AF (v:= .func (.func 176) #[] [pV a1 0,pV a0 0].toArray) rfl (fun ρ h=>IZ (by simp) (by simp [h (.tmp 9) _ rfl,h (.tmp 3) _ rfl])) ?_);refine QZ (vs:= []) (caps:= [pV a1 0,pV a0 0]) rfl rfl rfl rfl rfl rfl (zg 4 rfl ?_);refine DN (S':= [[(bk,.cells #[pV k1 o2,sV K lk O,iV age,sV ci a2 ck,uV a9] 175 (0,0))]++X]) (by simp) c6 fun bV=>JH (vs:= []) 0 (ca (a2,a9) rfl _ _ _ ((((U.Ac V).Ac al).Ac a8).Ac bb) c3) rfl rfl rfl rfl rfl bV rfl ?_;rintro _ c7 _ ap ⟨a4,a5,a6,Y,rfl,rfl,bW⟩ bY;refine zg 2 rfl (Hp rfl ?_);refine JO.S9 (vs:= []) (caps:= [pV a1 0,pV a0 0]) rfl func176 rfl rfl (Nat.le_of_ble_eq_true rfl) fun T bZ todo=>DN (S':= [[(bk,.cells #[pV k1 o2,.slice K lk.length O,a4,a5,a6] 175 (0,0))],Y]) (by simp) bY fun b0=>JL.region (B4 0 (am.Ai ((((V.Ac al).Ac a8).Ac bb).trans ap)) FO rfl rfl rfl ?_);refine BX (bU.Ai ((a8.Ac bb).trans ap)) F1 Cx rfl rfl (zg 1 rfl ?_);refine BL underlying175 Cx rfl rfl rfl (BW 0 b0 Cx fun b1=>?_);refine Cw (S':= [[(bk,.cells #[pV k1 o2,.slice K lk.length O,iV age,.slice Z ms.length ag,uV fl] 175 (0,0))],Y]) rfl b1 fun b2=>JL.done (JL.out rfl ?_);refine JO.leaveD rfl func176 rfl (.inl rfl) ?_;refine(?_:JO J Q (base 155) Tryz.f155.ntmps _ [] (cb::cs) _) T bZ todo;exact JO.leave (v:= .bool true) rfl (Cm.list func155 rfl (vs:= [.bool true]) ⟨rfl,trivial⟩) (bv (((((U.Ac V).Ac al).Ac a8).Ac bb).trans ap) rfl ⟨Y,rfl,by simp,bW⟩ b2)
  ·refine Take.Js (pp:=rI) [iV m] ([m]:List Int) cc rfl rfl rfl underlying28 AX CU (by decide) rfl rfl rfl ⟨rfl,trivial⟩ fun dC cn c8 c9=>JG.one (i:=3) rfl (by decide+kernel) (Take.H0 (vs:= [sV Z ms ag]) c9 (To (bi.Ai ((U.Ac V).Ac al)) cd) rfl rfl rfl (AV func175 rfl) rfl ?_);rintro _ dD _ a3 ⟨dE,dF,dG,rfl,rfl,da⟩ db;refine JG.one (i:=6) rfl (by decide+kernel) (Take.app0 (pp:=rI) 5 4 db ce rfl rfl rfl rfl rfl rfl rfl underlying28 underlying28 AX (Cy type3) CU rfl (by decide) (by decide) da (c8.Ai a3) rfl rfl fun co cp dH dc dd de=>?_);refine Cj [7,8,9,10] (Ep 5 rfl de fun df=>?_);refine JS.drop 5 df rfl fun dg=>Cw (S':= [[(bk,.cells #[pV k1 o2,sV K lk O,iV age,sV Z ms ag,uV fl] 175 (0,0))],X,[],[],cn,[],dc]) rfl dg fun dh=>zg 1 rfl (BL underlying175 Cx rfl rfl rfl ?_);refine BL underlying104 BZ rfl rfl rfl (BW 0 dh BZ fun cq=>?_);refine zg 3 rfl (B4 0 (am.Ai ((V.Ac al).Ac a3)) FO rfl rfl rfl ?_);refine zg 1 rfl (BL underlying175 Cx rfl rfl rfl ?_);refine BL underlying104 En rfl rfl rfl (AF (v:= uV fl) rfl (fun ρ h=>Yl.load GW (h _ _ rfl) (D1 (j:=0) (off:=4) cq rfl rfl)) ?_);obtain⟨bd,di,dj⟩:=bs cf;refine zg 1 rfl (AF (v:= uV bd) rfl (fun ρ h=>KX (h _ _ rfl) (h _ _ rfl) di) ?_);refine zg 1 rfl (BL underlying175 Cx rfl rfl rfl ?_);refine BL underlying104 En rfl rfl rfl (BW 0 cq En fun dk=>?_);refine zg 2 rfl (BU 6 dd dk rfl fun dI be dl dm=>?_);refine Cw (S':= [[(bk,.cells #[pV k1 o2,sV K lk O,iV age,sV co a2 cp,uV bd] 175 (0,0))],X,[],[],cn,[],[]]) rfl dm fun dn=>JS.drop 4 dn rfl fun dp=>?_;obtain rfl:=oi dj;refine JL.region (AF (v:= .func (.func 176) #[] [pV a1 0,pV a0 0].toArray) rfl (fun ρ h=>IZ (by simp) (by simp [h (.tmp 9) _ rfl,h (.tmp 3) _ rfl])) ?_);refine QZ (vs:= []) (caps:= [pV a1 0,pV a0 0]) rfl rfl rfl rfl rfl rfl (zg 4 rfl ?_);refine DN (S':= [[(bk,.cells #[pV k1 o2,sV K lk O,iV age,sV co a2 cp,uV bd] 175 (0,0))]++X]) (by simp) dp fun bV=>JH (vs:= []) 0 (ca (a2,bd) rfl _ _ _ ((((U.Ac V).Ac al).Ac a3).Ac be) dl) rfl rfl rfl rfl rfl bV rfl ?_;rintro _ c7 _ ap ⟨a4,a5,a6,Y,rfl,rfl,bW⟩ bY;refine zg 2 rfl (Hp rfl ?_);refine JO.S9 (vs:= []) (caps:= [pV a1 0,pV a0 0]) rfl func176 rfl rfl (Nat.le_of_ble_eq_true rfl) fun T bZ todo=>DN (S':= [[(bk,.cells #[pV k1 o2,.slice K lk.length O,a4,a5,a6] 175 (0,0))],Y]) (by simp) bY fun b0=>JL.region (B4 0 (am.Ai ((((V.Ac al).Ac a3).Ac be).trans ap)) FO rfl rfl rfl ?_);refine BX (bU.Ai ((a3.Ac be).trans ap)) F1 Cx rfl rfl (zg 1 rfl ?_);refine BL underlying175 Cx rfl rfl rfl (BW 0 b0 Cx fun b1=>?_);refine Cw (S':= [[(bk,.cells #[pV k1 o2,.slice K lk.length O,iV age,.slice Z ms.length ag,uV fl] 175 (0,0))],Y]) rfl b1 fun b2=>JL.done (JL.out rfl ?_);refine JO.leaveD rfl func176 rfl (.inl rfl) ?_;refine(?_:JO J Q (base 155) Tryz.f155.ntmps _ [] (cb::cs) _) T bZ todo;exact JO.leave (v:= .bool true) rfl (Cm.list func155 rfl (vs:= [.bool true]) ⟨rfl,trivial⟩) (bv (((((U.Ac V).Ac al).Ac a3).Ac be).trans ap) rfl ⟨Y,rfl,by simp,bW⟩ b2)
end Pal
namespace Pal
open Go Go.Conc Go.Proofs
open Go.Proofs.Tryz
def LS(fuel:Nat)(K:BY)(lk:AJ)(age:Int)(ms:List Int)(fl:Nat)(n:Int):Option (Nat):=
 (ix K.1 (n)).bind fun O=>
 (f120 fuel O).bind fun U=>
 some U
theorem bO{J:Judge Tryz.prog}{E:LH}{bk k1 o2:Nat}{a0 a1 O U:Ap}{a2 a3 V Y:Nat}{a4:Lv_}{Z:BY}{lk:AJ}{age:Int}{ms:List Int}{fl:Nat}(a8:At E k1 o2 (([sV a0 Z.1 a2,sV a1 Z.2.1 a3]:Lv_)++a4))(a9:Al (rL rI) E a0 a2 Z.1)(ca:Al (rL rI) E a1 a3 Z.2.1)(cb:(rA 13 (rN .u16)).r E a4 Z.2.2)(cc:Al Bg E O V lk)(cd:Al rI E U Y ms){ag al:Nat}(bb:At E ag al [pV bk 0]){ap av kf am:Nat}(bd:At E kf am [.func (.func 153) #[] [pV ag al,pV ap av,pV kf am].toArray]){a5 on:Nat}{n:Int}(be:At E a5 on [iV n]){X:Seg}{fuel:Nat}{r:Nat}(a6:LS fuel Z lk age ms fl n=some r){R:Value→LH→Seg→Prop}
  (bi:∀E',Le E E'→AN J 153 [uV r,pV ag al,pV ap av,pV kf am] E' ([(bk,.cells #[pV k1 o2,.slice O lk.length V,iV age,.slice U ms.length Y,uV fl] 175 (0,0))]++X) R):
  AN J 156 [pV kf am,pV ag al,pV a5 on] E ([(bk,.cells #[pV k1 o2,.slice O lk.length V,iV age,.slice U ms.length Y,uV fl] 175 (0,0))]++X) R:=by
 refine Ka func156 rfl rfl fun Q ce cs H K bo=>DN (S':= [[(bk,.cells #[pV k1 o2,.slice O lk.length V,iV age,.slice U ms.length Y,uV fl] 175 (0,0))],X]) (by simp) K fun K=>?_;unfold LS at a6;refine zg 5 rfl (Dq 13 [bk] ⟨⟨0,_,rfl⟩,trivial⟩ K fun ht=>?_);refine JG.lp 0 ht 0 bd K ⟨⟨0,_,rfl⟩,trivial⟩ (DI underlying201) ?_;refine JG.lp 1 ht 0 bb K ⟨⟨0,_,rfl⟩,trivial⟩ FO ?_;refine Ck 2 ht rfl rfl (B9 3 ht underlying175 OC rfl rfl rfl rfl ?_);refine Fj 4 ht 0 0 K Md ?_;refine Ck 5 ht rfl rfl (B9 6 ht underlying141 BJ rfl rfl rfl rfl ?_);refine B9 7 ht underlying24 BR rfl rfl rfl rfl (JG.lp 8 ht 0 a8 K ⟨⟨0,_,rfl⟩,trivial⟩ Cv ?_);refine JG.lp 9 ht 0 be K ⟨⟨0,_,rfl⟩,trivial⟩ By ?_;obtain⟨bv,bw,bU⟩:=bs a6;refine CN 10 a9 bw ht underlying22 BZ ?_;rintro cf cg _ ⟨bV,c4,rfl,bW⟩ bY;refine JG.lp 11 ht 0 bY K ⟨⟨0,_,rfl⟩,trivial⟩ CZ ?_;obtain⟨bZ,b0,b1⟩:=bs bU;refine Rs (i:=12) ⟨⟨0,_,rfl⟩,trivial⟩ (vs:= [sV bV bv c4]) (Kb bW b0) (by decide+kernel) rfl rfl rfl Jw rfl K ?_;rintro _ b2 _ a7 ⟨rfl,rfl⟩ b3;refine Cj [13,14] ?_;obtain rfl:=oi b1;refine DN (S':= [[(bk,.cells #[pV k1 o2,.slice O lk.length V,iV age,.slice U ms.length Y,uV fl] 175 (0,0))]++X]) (by simp) b3 fun b4=>?_;have b5:Fb J (.func (.func 153) #[] [pV ag al,pV ap av,pV kf am].toArray) [uV bZ] b2 ([(bk,.cells #[pV k1 o2,.slice O lk.length V,iV age,.slice U ms.length Y,uV fl] 175 (0,0))]++X) R:=Fb.ofFn (caps:= [pV ag al,pV ap av,pV kf am]) (AV func153 rfl) (bi _ a7);refine JH 0 b5 rfl rfl rfl rfl rfl b4 rfl ?_;rintro w ci b6 b7 b8 b9;refine zg 2 rfl (AB func156 rfl rfl ?_);exact bo _ _ _ b6 (a7.Ac b7) (by simp) b8 b9
end Pal
namespace Pal
open Go Go.Conc Go.Proofs
open Go.Proofs.Tryz
def Jo(fuel:Nat)(K:BY)(lk:AJ)(age:Int)(ms:List Int)(fl:Nat)(sm:Nat):Option (Option (List Int)):=
 (Lz fuel (K,lk,age,ms,fl)).bind fun O=>
 if O<((ms).length:Int) then(
  some none
 ) else(
  (f89 fuel sm).bind fun U=>
  some (some U)
 )
def P8(rec:Nat→List Int→Nat→List (List Int×Nat)→Option (List (List Int×Nat)))(fuel:Nat)(K:BY)(lk:AJ)(age:Int)(ms:List Int)(fl:Nat)(ac:List (List Int×Nat))(n:Int):Option (List (List Int×Nat)):=
 (LU fuel K lk age ms fl n).bind fun r=>match r with
  | none=>some ac
  | some q=>(LS fuel K lk age q.1 q.2 n).bind fun s'=>rec s' q.1 q.2 ac
def Ko(ok:List (List Int×Nat)→Bool)(rec:Nat→List Int→Nat→List (List Int×Nat)→Option (List (List Int×Nat)))(fuel:Nat)(K:BY)(lk:AJ)(age:Int)(ms:List Int)(fl:Nat)(ac:List (List Int×Nat)):Option (List Int)→Option (List (List Int×Nat))
 | none=>if ok (ac++ [(ms,fl)])=true then some (ac++ [(ms,fl)]) else none
 | some l=>if l.length≤1000 then FB (P8 rec fuel K lk age ms fl) l ac else none
def IQ(ok:List (List Int×Nat)→Bool)(fuel:Nat)(K:BY)(lk:AJ)(age:Int):Nat→Nat→List Int→Nat→List (List Int×Nat)→Option (List (List Int×Nat))
 | 0,_,_,_,_=>none
 | g+1,sm,ms,fl,ac=>(Jo fuel K lk age ms fl sm).bind fun r=>Ko ok (IQ ok fuel K lk age g) fuel K lk age ms fl ac r
theorem Zw{J:Judge Tryz.prog}{I:List (List Int×Nat)→LH→Seg→Prop}(a6:∀x E E' X,Le E E'→I x E X→I x E' X){E:LH}{bk k1 o2:Nat}{b6 b7 Y U:Ap}{b8 b9 Z V:Nat}{ca:Lv_}{ap:BY}{lk:AJ}{age:Int}{ms:List Int}{fl:Nat}(bU:At E k1 o2 (([sV b6 ap.1 b8,sV b7 ap.2.1 b9]:Lv_)++ca))(bV:Al (rL rI) E b6 b8 ap.1)(bW:Al (rL rI) E b7 b9 ap.2.1)(bY:(rA 13 (rN .u16)).r E ca ap.2.2)(bZ:Al Bg E Y Z lk)(b0:Al rI E U V ms){a2 a3:Nat}(a9:At E a2 a3 [pV bk 0]){bd be kf a4:Nat}(cq:At E kf a4 [.func (.func 153) #[] [pV a2 a3,pV bd be,pV kf a4].toArray]){cb:Value}(cr:At E bd be [cb]){X:Seg}{acc acc':List (List Int×Nat)}{ok:List (List Int×Nat)→Bool}(cc:I acc E X){rec:Nat→List Int→Nat→List (List Int×Nat)→Option (List (List Int×Nat))}(ct:∀s' av a7 ac bi,rec s' av a7 ac=some bi→∀E' K a c,Le E E'→Al rI E' a c av→I ac E' K→AN J 153 [uV s',pV a2 a3,pV bd be,pV kf a4] E' ([(bk,.cells #[pV k1 o2,.slice Y lk.length Z,iV age,(.slice a av.length c),(uV a7)] 175 (0,0))]++K) (fun w E' B'=>∃b1 b2 b3 K,w= .bool true∧B'= [(bk,.cells #[pV k1 o2,.slice Y lk.length Z,b1,b2,b3] 175 (0,0))]++K∧I bi E' K))(cu:∀(E':LH) (K:Seg) (ac:List (List Int×Nat)) (av:List Int) (a7:Nat) (a:Ap) (c:Nat),Le E E'→Al rI E' a c av→I ac E' K→ok (ac++ [(av,a7)])=true→Fb J cb [.agg #[iV age,.slice a av.length c,uV a7]] E' K (fun w cd cv=>w= .bool true∧I (ac++ [(av,a7)]) cd cv)){sm:Nat}{fuel:Nat}{r:Option (List Int)}(ce:Jo fuel ap lk age ms fl sm=some r)(ag:Ko ok rec fuel ap lk age ms fl acc r=some acc'):
  AN J 153 [uV sm,pV a2 a3,pV bd be,pV kf a4] E ([(bk,.cells #[pV k1 o2,.slice Y lk.length Z,iV age,.slice U ms.length V,uV fl] 175 (0,0))]++X) (fun w E' B'=>∃b1 b2 b3 K,w= .bool true∧B'= [(bk,.cells #[pV k1 o2,.slice Y lk.length Z,b1,b2,b3] 175 (0,0))]++K∧I acc' E' K):=by
 refine A3 func153 fun Q c8 cs H a5 cf=>?_;refine DN (S':= [[(bk,.cells #[pV k1 o2,.slice Y lk.length Z,iV age,.slice U ms.length V,uV fl] 175 (0,0))],X]) (by simp) a5 fun a5=>?_;unfold Jo at ce;refine zg 6 rfl (Dq 8 [bk] ⟨⟨0,_,rfl⟩,trivial⟩ a5 fun ht=>?_);refine JG.lp 0 ht 0 a9 a5 ⟨⟨0,_,rfl⟩,trivial⟩ FO ?_;refine Ck 1 ht rfl rfl (B9 2 ht underlying175 Cx rfl rfl rfl rfl ?_);refine B9 3 ht underlying104 BZ rfl rfl rfl rfl (Fj 4 ht 3 0 a5 CZ ?_);refine BA 5 ht rfl rfl (fun ρ h s' hs=>Yl.len rfl underlying28 (h _ _ rfl)) (JG.lp 6 ht 0 a9 a5 ⟨⟨0,_,rfl⟩,trivial⟩ FO ?_);obtain⟨c9,cw,cy⟩:=bs ce;refine Rb (i:=7) (vs:= [pV bk 0]) 0 ⟨⟨0,_,rfl⟩,trivial⟩ (X5 bU bV bW bY bZ b0 cw) (fun _ _ _ h=>h.2) (by decide+kernel) rfl rfl rfl (AV func154 rfl) rfl a5 rfl ?_;rintro _ cg O ⟨rfl,_⟩ a0;refine Cj [8] (zg 2 rfl ?_);refine AM cy (fun cz cA=>?_) (fun cz cB=>?_)
 ·refine JL.seq (Dq 5 [bk] ⟨⟨0,_,rfl⟩,trivial⟩ a0 fun ht=>?_);refine JG.lp 0 ht 0 (cr.Ai O) a0 ⟨⟨0,_,rfl⟩,trivial⟩ (DI underlying200) ?_;refine JG.lp 1 ht 0 (a9.Ai O) a0 ⟨⟨0,_,rfl⟩,trivial⟩ FO ?_;refine Ck 2 ht rfl rfl (B9 3 ht underlying175 Cx rfl rfl rfl rfl ?_);refine BA 4 ht rfl rfl (fun ρ h s' hs=>F5 (vs:= [iV age,sV U ms V,uV fl]) F1 Cx (h _ _ rfl) (Vn (o:=2) 0 a0 rfl (by simp [A7]) hs rfl)) (Cj [5,6] ?_);obtain rfl:=oi cA;have ci:ok (acc++ [(ms,fl)])=true∧acc++ [(ms,fl)]=acc':=by
   simp only [Ko] at ag;split at ag
   ·exact⟨by assumption,Option.some.inj ag⟩
   ·cases ag
  obtain⟨cC,ci⟩:=ci;subst acc';refine JH (vs:= [.agg #[iV age,.slice U ms.length V,uV fl]]) 1 (cu _ _ _ _ _ _ _ O (b0.Ai O) (a6 _ _ _ _ O cc) cC) rfl rfl rfl rfl rfl a0 rfl ?_;rintro _ da cD cE ⟨rfl,cF⟩ cG;refine zg 2 rfl (AB func153 rfl rfl ?_);exact cf (O.Ac cE) rfl ⟨iV age,.slice U ms.length V,uV fl,cD,rfl,by simp,cF⟩ cG
 ·obtain⟨am,cH,cI⟩:=bs cB;refine zg 5 rfl (BN (Jh cH) rfl rfl IV a0 ?_);rintro _ cJ _ b4 ⟨ck,cm,rfl,rfl,cK⟩ cM;refine Bh underlying28 rfl rfl rfl (zg 2 rfl ?_);obtain rfl:=oi cI;have cN:am.length≤1000∧FB (P8 rec fuel ap lk age ms fl) am acc=some acc':=by
   simp only [Ko] at ag;split at ag
   ·exact⟨by assumption,ag⟩
   ·cases ag
  obtain⟨hlen,ag⟩:=cN;refine JL.block (IJ [(1,pV a2 a3),(3,pV kf a4),(24,sV ck am cm),(25,iV (am.length:Int)),(26,iV 0)] rfl ?_);refine DN (S':= [[(bk,.cells #[pV k1 o2,.slice Y lk.length Z,iV age,.slice U ms.length V,uV fl] 175 (0,0))],X]) (by simp) cM fun cO=>UA (l:=am) ag (fun L s i ac=>∃bo a8,Jn cJ H bo [[(bk,.cells #[pV k1 o2,.slice Y lk.length Z,iV age,.slice U ms.length V,uV fl] 175 (0,0))],a8] [(1,pV a2 a3),(3,pV kf a4),(24,sV ck am cm),(25,iV (am.length:Int)),(26,iV ((i:Nat):Int))] L s (I ac bo a8)) ⟨_,X,rfl,rfl,Le.refl _,cO,a6 _ _ _ _ (O.Ac b4) cc⟩ ?_ ?_
  ·rintro _ _ i ac n bi ⟨bo,a8,rfl,rfl,bb,b5,bv⟩ cP db cQ cR;have cT:=(O.Ac b4).Ac bb;refine zg 5 rfl ?_;rw [decide_eq_true (show((i:Nat):Int)<(am.length:Int) by omega)];refine zg 6 rfl ?_;have cV:ix am ((i:Nat):Int)=some n:=by unfold ix;rw [if_pos (by omega)];exact cP
   refine Ce (cK.Ai bb) cV underlying28 AX ?_;rintro kk dc _ rfl cW;refine B4 0 cW By rfl rfl rfl (CW b5 CU fun cX cY=>?_);refine BW 2 cY AX fun cZ=>?_;refine C8 2 cZ rfl fun dd bw cn c0=>?_;have a1:=cT.trans bw;refine zg 3 rfl (B4 0 (a9.Ai a1) FO rfl rfl rfl ?_);refine B4 0 cn By rfl rfl rfl (AF (v:= .func (.func 156) #[] [pV kf a4,pV a2 a3,pV cX 0].toArray) rfl (fun ρ h=>IZ (by simp) (by simp [h (.tmp 3) _ rfl,h (.tmp 1) _ rfl,h (.tmp 7) _ rfl])) ?_);refine DN (S':= [[(bk,.cells #[pV k1 o2,.slice Y lk.length Z,iV age,.slice U ms.length V,uV fl] 175 (0,0))]++a8]) (by simp) c0 fun a0=>?_;obtain⟨q,c1,co⟩:=Option.bind_eq_some_iff.1 cQ;refine B8 0 (ZV a6 (bU.Ai a1) (bV.Ai a1) (bW.Ai a1) (Rp.Ai _ a1 bY) (bZ.Ai a1) (b0.Ai a1) (acc':=bi) (a6 _ _ _ _ bw bv) c1 (fun e=>by subst e;exact(Option.some.inj co).symm) (fun p e E' a c hle cp=>?_)) rfl rfl (AV func155 rfl) a0 rfl ?_
   ·subst e;obtain⟨s',c2,c3⟩:=Option.bind_eq_some_iff.1 co;have al:=a1.trans hle;exact Fb.ofFn (AV func156 rfl) (bO (bU.Ai al) (bV.Ai al) (bW.Ai al) (Rp.Ai _ al bY) (bZ.Ai al) cp (a9.Ai al) (cq.Ai al) (cn.Ai hle) c2 fun cd O=>ct _ _ _ _ _ c3 _ _ _ _ (al.Ac O) (cp.Ai O) (a6 _ _ _ _ (hle.trans O) (a6 _ _ _ _ bw bv)))
   rintro _ cg _ al ⟨K,rfl,rfl,c4⟩ c5;refine AF (v:= .bool (!true)) rfl (fun ρ h=>Yl.not (h _ _ rfl)) (zg 5 rfl ?_);have c6:As (((i:Nat):Int)+1)=some (((i+1:Nat)):Int):=by unfold As;rw [if_pos (by omega)];simp
   refine Ba c6 rfl rfl rfl (zg 2 rfl ?_);exact DN (S':= [[(bk,.cells #[pV k1 o2,.slice Y lk.length Z,iV age,.slice U ms.length V,uV fl] 175 (0,0))],K]) (by simp) c5 fun c7=>Ay (cR _ _ ⟨cg,K,rfl,rfl,(bb.Ac bw).Ac al,c7,c4⟩) rfl
  ·rintro _ _ ⟨bo,a8,rfl,rfl,bb,b5,bv⟩;refine zg 5 rfl ?_;rw [decide_eq_false (Int.lt_irrefl _)];refine zg 6 rfl (AB func153 rfl rfl ?_);exact cf ((O.Ac b4).Ac bb) rfl ⟨iV age,.slice U ms.length V,uV fl,a8,rfl,by simp,bv⟩ b5
end Pal
