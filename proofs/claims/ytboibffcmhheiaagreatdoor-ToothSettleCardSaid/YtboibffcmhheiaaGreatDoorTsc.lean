/- ToothSettle. Part 3 of 8. -/
import Derived.Test.YtboibffcmhheiaaGreatDoorTsa
import Derived.Test.YtboibffcmhheiaaGreatDoorTsb
import Derived.Test.YtboibffcmhheiaaGreatDoorRows
import Derived.Test.YtboibffcmhheiaaGreatDoorChecked
import Derived.Conc.LeavingOf
import Derived.Conc.Holds
import Derived.Carry
import Derived.ChangeSame
import Derived.ChangeVars
import Derived.JoinedOf
import Derived.RowKit
import Derived.LaidLaws
import Derived.LaidHandle
import Derived.Stop.Joined
import Derived.Test.YtboibffcmhheiaaGreatDoorProg
import Derived.Conc.WgGenN3
set_option linter.all false
set_option maxRecDepth 100000
namespace Pal
open Go Go.Conc
section
variable {P:Program}(J:Judge P)(Q:Gs_)(b:Frame)(ds:Ld_)(ops:Ao_)(k:Li_)(cs:Lf_)(X D:Nat→Bool)
def JB:Nat→Array Bool→Ax→St→Prop
 | 0,listed,T,s=>Region.ready .any ops listed= []∧J.ok Q (G (fr b T ds (.inRegion ops []::k)) cs) s
 | fuel+1,listed,T,s=>
  Region.ready .any ops listed≠ []∧s.q=false∧∀i∈Region.ready .any ops listed,∀o,ops[i]? =some o→(∀c,o.op≠ .defer c)∧
   (Region.wanted o (yielded ops T)=false→JB fuel (Bd listed i) (CN T o.dst undef) s)∧
   (Region.wanted o (yielded ops T)=true→X i=true→lp P (execOp (BI T) o) s (fun nx s'=>match nx with
    | .value v=>JB fuel (Bd listed i) (CN T o.dst v) s'
    | .skip=>JB fuel (Bd listed i) (CN T o.dst undef) s'
    | _=>False) (fun _ _=>False))∧
   (Region.wanted o (yielded ops T)=true→X i=false→lp P (execOp (BI T) o) (BB D s) (fun nx s'=>match nx with
    | .value v=>JB fuel (Bd listed i) (CN T o.dst v) (CF D s s')
    | .skip=>JB fuel (Bd listed i) (CN T o.dst undef) (CF D s s')
    | _=>False) (fun _ _=>False))
variable {J Q b ds ops k cs X D}
theorem US(V:b.kind≠ .early):∀(fuel t:Nat) (listed:Array Bool) (T:Ax) (s:St),JB J Q b ds ops k cs X D fuel listed T s→
  J.ok Q (G (fr b T ds (.inRegion ops (Region.linearise.go .any ops fuel t listed [])::k)) cs) s:=by
 intro fuel
 induction fuel with
 | zero=>intro t listed T s h;simpa [Region.linearise.go] using h.2
 | succ fuel O=>
  intro t listed T s h;obtain⟨aa,ab,h⟩:=h;obtain⟨i,hi⟩:∃i,(Region.ready .any ops listed)[t % (Region.ready .any ops listed).length]? =some i:=by
   have:0<(Region.ready .any ops listed).length:=List.length_pos_iff.2 aa;exact⟨_,List.getElem?_eq_getElem (Nat.mod_lt _ this)⟩
  have W:=List.mem_of_getElem? hi;have hgo:Region.linearise.go .any ops (fuel+1) t listed []=i::Region.linearise.go .any ops fuel (t / (Region.ready .any ops listed).length) (Bd listed i) []:=by
   simp only [Region.linearise.go];change (match(Region.ready .any ops listed)[t % (Region.ready .any ops listed).length]? with
    | some i=>Region.linearise.go .any ops fuel (t / (Region.ready .any ops listed).length) (listed.setIfInBounds i true) [i]
    | none=> [].reverse)=_
   rw [hi];simp only;rw [linearise_go_acc];rfl
  rw [hgo];obtain⟨_,o,U,_⟩:=mem_ready.1 W;obtain⟨hd,ae,ag,ah⟩:=h i W o U;cases hw:Region.wanted o (yielded ops T) with
  | false=>exact Judge.unwanted U hw (O _ _ _ _ (ae hw))
  | true=>
   cases Z:X i with
   | true=>
    refine Judge.oper U hw V (.inr hd) (Ds _ (ag hw Z) ?_ (fun _ _ h=>h.elim));intro nx s' K;cases nx with
    | value v=>exact O _ _ _ _ K
    | skip=>exact O _ _ _ _ K
    | _=>exact K.elim
   | false=>
    refine Judge.Rl D U hw V hd ab (Ds _ (ah hw Z) ?_ (fun _ _ h=>h));intro nx s' K;cases nx with
    | value v=>exact O _ _ _ _ K
    | skip=>exact O _ _ _ _ K
    | _=>exact K.elim
def waitAll(ops:Ao_)(X:Nat→Bool)(i:Nat):Bool:=(List.range ops.size).all fun j=> !X j || waits ops ops.size j i
theorem JB.take{i:Nat}{oi:Oper}{w pure:Bool}{v:Value}(hi:ops[i]? =some oi)(aU:X i=false)(aL:(pure || waitAll ops X i)=true)(aV:Region.noSelect ops=true)(aW:∀c,oi.op≠ .defer c):
  ∀(fuel:Nat) (listed:Array Bool) (T:Ax) (s:St),HH ops listed i oi=true→GX ops listed=true→listed.size=ops.size→i∈Region.ready .any ops listed→s.q=false→Region.wanted oi (yielded ops T)=w→
   (w=true→∀s',s'.q=false→(pure=false→∀x o,(BB D s).E x=some o→s'.E x=some o)→Yl P oi (BI T) s' v)→
   JB J Q b ds ops k cs X D fuel (Bd listed i) (CN T oi.dst (if w then v else undef)) s→JB J Q b ds ops k cs X D (fuel+1) listed T s:=by
 have ab:∀(j:Nat) (W:Oper),ops[j]? =some W→∀cs b,W.op≠Op.select cs b:=fun j W h cs b=>Region.noSelect_spec aV j W cs b h;intro fuel
 induction fuel with
 | zero=>?_
 | succ fuel aj=>?_
 all_goals
  intro listed T s aM aN ak az al hw ae h;refine⟨fun e=>(by rw [e] at az;cases az),al,fun j aO W O=>?_⟩;by_cases am:j=i
  ·subst am;obtain rfl:W=oi:=by rw [hi] at O;exact(Option.some.inj O).symm
   refine⟨aW,fun aC=>?_,fun ag K=>?_,fun ag K=>?_⟩
   ·rw [aC] at hw;subst hw;exact h
   ·rw [aU] at K;cases K
   ·rw [ag] at hw;subst hw;refine Ds _ (ae rfl (BB D s) al fun _ _ _ h=>h).out ?_ (fun _ _ h=>h);rintro nx s' ⟨rfl,rfl⟩;rw [J8];exact h
  ·
   have aP:j∈Region.ready .any ops (Bd listed i):=ready_mono aO am;obtain⟨ah,U,aQ,aD⟩:=mem_ready.1 aO;obtain rfl:U=W:=by rw [O] at aQ;exact(Option.some.inj aQ).symm
   have aE:=(mem_ready.1 az).1;have aX:(U.after.any fun e=>Region.binds .any e&&e.on==i)=false:=by
    rw [Array.any_eq_false];intro e he K;simp only [Bool.and_eq_true,beq_iff_eq] at K;have:=aD _ (Array.getElem_mem he) K.1;rw [K.2] at this;have ai:listed.getD i true=listed.getD i false∨listed.size≤i:=by
     rcases Nat.lt_or_ge i listed.size with q | q
     ·left;simp [Array.getD_eq_getD_getElem?,q]
     ·exact .inr q
    rcases ai with ai | ai
    ·rw [aE,this] at ai;cases ai
    ·rw [Array.getD_eq_getD_getElem?,Array.getElem?_eq_none ai] at this;simp at this
   have aY:oi.apart ops U=true:=by
    have aF:j<ops.size:=(Array.getElem?_eq_some_iff.1 O).1;have:=List.all_eq_true.1 aM j (List.mem_range.2 aF);simp only [Bool.or_eq_true,beq_iff_eq] at this;rcases this with(q | q) | q
    ·exact absurd q am
    ·rw [ah] at q;cases q
    ·rw [O] at q;simp only [Bool.or_eq_true] at q;rw [aX] at q;exact q.resolve_left (by simp)
   obtain⟨aZ,an,ao⟩:=Oper.apart_spec aY;obtain⟨p1,p2⟩:=GO (ops:=ops) (T:=T) (v:=if w then v else undef) (ab j U O) aZ
   first
    | exact absurd aP (by rw [h.1];simp)
    | (
     obtain⟨a9,_,h⟩:=h
     obtain⟨hd,aC,a0,a1⟩:=h j aP U O
     have ap:Bd (Bd listed i) j=Bd (Bd listed j) i:=by
      unfold Bd;exact Array.setIfInBounds_comm _ _ (Ne.symm am)
     have aq:i∈Region.ready .any ops (Bd listed j):=ready_mono az (Ne.symm am)
     have ar:HH ops (Bd listed j) i oi=true:=by
      refine List.all_eq_true.2 fun x K=>?_
      have:=List.all_eq_true.1 aM x K
      simp only [Bool.or_eq_true,beq_iff_eq] at this ⊢
      rcases this with(q | q) | q
      ·exact .inl (.inl q)
      ·left;right
       by_cases e:j=x
       ·subst e;rw [ah] at q;cases q
       ·rw [Bd,getD_set_ne true e];exact q
      ·exact .inr q
     have au:(Bd listed j).size=ops.size:=by unfold Bd;simpa using ak
     have av:GX ops (Bd listed j)=true:=by
      refine List.all_eq_true.2 fun x K=>?_
      cases aG:ops[x]? with
      | none=>simp
      | some a2=>
       simp only [Bool.or_eq_true,Bool.not_eq_true']
       by_cases e:j=x
       ·subst e
        obtain rfl:a2=U:=by rw [O] at aG;exact(Option.some.inj aG).symm
        right
        refine Array.all_eq_true'.2 fun e he=>?_
        cases hb:Region.binds .any e with
        | false=>simp
        | true=>
         have:=aD e he hb
         by_cases e2:j=e.on
         ·rw [← e2] at this
          have aH:j<listed.size:=by rw [ak];exact(Array.getElem?_eq_some_iff.1 O).1
          simp [Array.getD_eq_getD_getElem?,aH] at this ah
          rw [ah] at this;cases this
         ·rw [Bd,getD_set_ne false e2];simpa using this
       ·cases aR:(Bd listed j).getD x false with
        | false=>exact .inl rfl
        | true=>
         right
         have a3:listed.getD x false=true:=by rw [Bd,getD_set_ne false e] at aR;exact aR
         refine Array.all_eq_true'.2 fun aI he=>?_
         cases hb:Region.binds .any aI with
         | false=>simp
         | true=>
          have:=NR aN aG a3 aI he hb
          by_cases e2:j=aI.on
          ·rw [← e2] at this
           have aH:j<listed.size:=by rw [ak];exact(Array.getElem?_eq_some_iff.1 O).1
           simp [Array.getD_eq_getD_getElem?,aH] at this ah
           rw [ah] at this;cases this
          ·rw [Bd,getD_set_ne false e2];simpa using this
     refine⟨hd,fun a4=>?_,fun aJ aA=>?_,fun aJ aA=>?_⟩
     ·have:=aC (by rw [p2];exact a4)
      rw [ap,HA an] at this
      obtain⟨q1,q2⟩:=GO (ops:=ops) (T:=T) (d:=U.dst) (v:=undef) (o:=oi) (ab i oi hi) ao
      exact aj _ _ _ ar av au aq al (by rw [q2];exact hw) (fun V s' a5 aB=>by unfold Yl;rw [q1];exact(ae V s' a5 aB).out) this
     ·
      have a6:pure=true:=by
       cases a7:pure with
       | true=>rfl
       | false=>
        exfalso
        rw [a7,Bool.false_or] at aL
        have aF:j<ops.size:=(Array.getElem?_eq_some_iff.1 O).1
        have ag:=List.all_eq_true.1 aL j (List.mem_range.2 aF)
        rw [aA] at ag
        simp only [Bool.not_true,Bool.false_or] at ag
        rcases Pv aN _ j U O (fun e he hb=>aD e he hb) ag with q | ⟨x,q1,q2⟩
        ·have a8:i<listed.size:=by rw [ak];exact(Array.getElem?_eq_some_iff.1 hi).1
         simp [Array.getD_eq_getD_getElem?,a8] at q aE
         rw [aE] at q;cases q
        ·have:¬x<listed.size:=by rw [ak];intro K;simp [K] at q1
         simp [Array.getD_eq_getD_getElem?,this] at q2
      have aw:=Np _ (a0 (by rw [p2];exact aJ) aA)
      rw [p1] at aw
      refine Ds _ aw ?_ (fun _ _ h=>h)
      rintro nx s' ⟨K,aB,aK⟩
      have ay:s'.q=false:=aK.trans al
      have aS:pure=false→∀{α:Prop},α:=fun e=>by rw [a6] at e;cases e
      cases nx with
      | value u=>
       simp only at K ⊢
       rw [ap,HA an] at K
       obtain⟨q1,q2⟩:=GO (ops:=ops) (T:=T) (d:=U.dst) (v:=u) (o:=oi) (ab i oi hi) ao
       exact aj _ _ _ ar av au aq ay (by rw [q2];exact hw) (fun V s2 Z aa=>by unfold Yl;rw [q1];exact(ae V s2 Z (fun e=>aS e)).out) K
      | skip=>
       simp only at K ⊢
       rw [ap,HA an] at K
       obtain⟨q1,q2⟩:=GO (ops:=ops) (T:=T) (d:=U.dst) (v:=undef) (o:=oi) (ab i oi hi) ao
       exact aj _ _ _ ar av au aq ay (by rw [q2];exact hw) (fun V s2 Z aa=>by unfold Yl;rw [q1];exact(ae V s2 Z (fun e=>aS e)).out) K
      | _=>exact K.elim
     ·have aw:=Np _ (a1 (by rw [p2];exact aJ) aA)
      rw [p1] at aw
      refine Ds _ aw ?_ (fun _ _ h=>h)
      rintro nx s' ⟨K,aB,aK⟩
      have aT:=PD (D:=D) aB
      have ay:(CF D s s').q=false:=by show s'.q=false;rw [aK];exact al
      cases nx with
      | value u=>
       simp only at K ⊢
       rw [ap,HA an] at K
       obtain⟨q1,q2⟩:=GO (ops:=ops) (T:=T) (d:=U.dst) (v:=u) (o:=oi) (ab i oi hi) ao
       exact aj _ _ _ ar av au aq ay (by rw [q2];exact hw) (fun V s2 Z aa=>by unfold Yl;rw [q1];exact(ae V s2 Z (fun e=>by rw [aT] at aa;exact aa e)).out) K
      | skip=>
       simp only at K ⊢
       rw [ap,HA an] at K
       obtain⟨q1,q2⟩:=GO (ops:=ops) (T:=T) (d:=U.dst) (v:=undef) (o:=oi) (ab i oi hi) ao
       exact aj _ _ _ ar av au aq ay (by rw [q2];exact hw) (fun V s2 Z aa=>by unfold Yl;rw [q1];exact(ae V s2 Z (fun e=>by rw [aT] at aa;exact aa e)).out) K
      | _=>exact K.elim)
end
section
variable {P:Program}(J:Judge P)(Q:Gs_)(b:Frame)(n:Nat)(ds:Ld_)(ops:Ao_)(k:Li_)(cs:Lf_)(X D:Nat→Bool)
def Fu(fuel:Nat)(listed:Array Bool)(L:Env)(s:St):Prop:=∀T,Has n L T→JB J Q b ds ops k cs X D fuel listed T s
end
def JP(ops:Ao_)(listed:Array Bool)(xs:List Nat)(pure:Bool)(i:Nat):Bool:=match ops[i]? with
 | some oi=> !A5 xs i&&(pure || waitAll ops (A5 xs) i)&&Region.noSelect ops&& !DI oi.op&&HH ops listed i oi&&GX ops listed&&listed.size==ops.size&&(Region.ready .any ops listed).contains i
 | none=>false
section
variable {P:Program}{J:Judge P}{Q:Gs_}{b:Frame}{n:Nat}{ds:Ld_}{ops:Ao_}{k:Li_}{cs:Lf_}{fuel:Nat}{X D:Nat→Bool}{listed:Array Bool}{L:Env}{s:St}{E H:LH}{S:List Seg}{xl bks:List Nat}
variable {d:Option Tmp}{x y:Operand}{t u ty e:TypeId}{p:String}{af:Ae_}{g:On_}{v:Value}{i:Nat}{kd:IntKind}
theorem GR(xl bks:List Nat){id:Nat}(hm:P.follows .mixedOrders=true)(K:(b.kind != .early)=true)
  (h:Fu J Q b n ds ops k cs (A5 xl) (A5 bks) ops.size (Array.replicate ops.size false) L (Ak E H S)):JL J Q b n L ds (.code (.region id ops true)::k) cs (Ak E H S):=
 Q3 rfl hm fun t T O=>US (by simpa using K) ops.size t _ T _ (h T O)
theorem Sc{oi:Oper}(i:Nat)(pure:Bool)(hi:ops[i]? =some oi)(K:JP ops listed xl pure i=true)(V:s.q=false)
  (hw:Bg L ops oi=some true) (W:BE n oi.dst=true) (Z:∀ρ,Eu L ρ→∀s':St,(pure=false→∀x o,(BB D s).E x=some o→s'.E x=some o)→Yl P oi ρ s' v)
  (h:Fu J Q b n ds ops k cs (A5 xl) D fuel (Bd listed i) (AB L oi.dst v) s):Fu J Q b n ds ops k cs (A5 xl) D (fuel+1) listed L s:=fun T O=>by
 simp only [JP,hi,Bool.and_eq_true] at K
 obtain⟨⟨⟨⟨⟨⟨⟨aa,ab⟩,ae⟩,U⟩,ag⟩,ah⟩,ai⟩,aj⟩:=K
 refine JB.take (w:=true) (v:=v) (pure:=pure) hi (by simpa using aa) ab ae (fun c K=>by rw [K] at U;simp [DI] at U) fuel listed T s ag ah (by simpa using ai) (by simpa using aj) V (C7 O hw) (fun _ s' al ak=>Z _ O.Gi s' ak) ?_
 exact h _ (O.put W v)
theorem JB.fin(K:Region.ready .any ops listed= [])(h:JL J Q b n L ds k cs s):Fu J Q b n ds ops k cs X D 0 listed L s:=fun T O=>⟨K,JL.done h T O⟩
theorem JB.store{bk off:Nat}{c:Ax}(i j:Nat)(U:Region.ready .any ops listed= [i])(aa:A5 xl i=true)(ab:ops[i]? =some ⟨d,.store t x y,ty,p,af,g⟩)(hw:Bg L ops ⟨d,.store t x y,ty,p,af,g⟩=some true)(ae:BE n d=true)(ag:Ar E H S)
  (ah:ev L x=some (.pointer (some ⟨bk,off,none⟩))) (ai:ev L y=some v) (aj:Bz P t=some v.cells.size) (ak:∀u∈v.cells.toList,CM u=true) (V:S[j]? =some [(bk,.cells c e (0,0))]) (hle:off+v.cells.size≤c.size)
  (h:Ar E H (S.set j [(bk,.cells (Be c off v.cells.toList) e (0,0))])→Fu J Q b n ds ops k cs (A5 xl) D fuel (Bd listed i) (AB L d undef) (Ak E H (S.set j [(bk,.cells (Be c off v.cells.toList) e (0,0))]))):
  Fu J Q b n ds ops k cs (A5 xl) D (fuel+1) listed L (Ak E H S):=fun T K=>by
 refine⟨by rw [U];simp,rfl,fun au O o' W=>?_⟩
 rw [U] at O
 simp at O
 subst O
 obtain rfl:o'=⟨d,.store t x y,ty,p,af,g⟩:=by rw [ab] at W;exact(Option.some.inj W).symm
 have al:=C7 K hw;refine⟨fun c am=>(by cases am),fun e=>?_,fun _ _=>?_,fun _ e=>?_⟩
 ·rw [al] at e;cases e
 ·obtain⟨an,ao⟩:=Ge ag V;rw [an];show lp P (do Instr.storeAt t (BI T x) (BI T y);pure Next.skip) _ _ _
  rw [K.ev ah,K.ev ai];refine AJ _ _ ?_;unfold Instr.storeAt;simp only [Instr.sureAddr,bind,Sem.bind,pure];refine Py (pl:=(S.set j []).flatten.length) aj ak ao (c:=c) (e:=e) (by simp) hle fun Z=>?_;have ap:((S.set j []).flatten++ [(bk,Obj.cells c e (0,0))]).set (S.set j []).flatten.length (bk,.cells (Be c off v.cells.toList) e (0,0))=(S.set j []).flatten++ [(bk,.cells (Be c off v.cells.toList) e (0,0))]:=Hf _ _ _ _;rw [ap] at Z ⊢;obtain⟨aq,ar⟩:=HJ V Z;rw [aq];exact h ar _ (K.put ae undef)
 ·rw [aa] at e;cases e
end
end Pal
namespace Pal
open Go Go.Conc
theorem TY{E H:LH}{S:List Seg}{bks:List Nat}{bk o:Nat}{l ws:Lv_}{e:TypeId}{f:Nat×Nat}{s':St}{w:Value}(j:Nat)(K:Ar E H S)(O:S[j]? =some [(bk,.cells (l++ws).toArray e f)])(U:A5 bks bk=true)(hs:∀x o,(BB (A5 bks) (Ak E H S)).E x=some o→s'.E x=some o)(V:ws[o]? =some w):s'.cell? ⟨bk,l.length+o,none⟩=some w:=by
 have:=N7 j K O U hs o w V
 rwa [Ed rfl] at this
section
variable {P:Program}{E H:LH}{B:List (Nat×Obj)}{t e ty:TypeId}
theorem S6{ats:Array TypeId}{a:Option Addr}{l sz K m cx:Nat}{ax:Option Addr}{xs ys:Lv_}{z:Value}{Q:Value→St→Prop}{X:Halt→St→Prop}
  (al:ats[0]? =some t) {t1 am:TypeId} (an:ats[1]? =some t1) (ao:P.underlying t1=some (.slice am)) (ht:P.underlying t=some (.slice e)) (ap:Bz P e=some sz) (hb:Ez P e=some K) (aq:zeroOf P e=some z) (ar:z.cells.size=sz)
  (au:Nd E H B) (aa:Gz (mk E H B) (.slice a l l) sz xs)
  (V:Gz (mk E H B) (.slice ax m cx) sz ys) (aE:∀w∈ys,CM w=true) (aF:0<K) (aG:l+m≤2 ^ 40) (av:K≤64)
  (aj:m=0→Q (.slice a (l+m) l) (mk E H B))
  (aw:∀r W ab,l+m≤ab→W.size=ab*sz→W.toList.take ((l+m)*sz)=xs++ys→Nd E H (B++ [(r,.cells W e (0,0))])→Q (.slice (some ⟨r,0,none⟩) (l+m) ab) (mk E H (B++ [(r,.cells W e (0,0))]))):
  lp P (Builtin.append_ ats ty #[.slice a l l,.slice ax m cx]) (mk E H B) Q X:=by
 unfold Builtin.append_;simp only [al,an,List.getElem?_toArray,List.getElem?_cons_zero,List.getElem?_cons_succ];refine AJ _ _ (Dz ht ?_);refine AJ _ _ (ET ap ?_);refine AJ _ _ (Dz ao ?_);simp only [G9,Bool.false_eq_true,if_false,Builtin.lenOf,Bool.not_false,if_true];have Z:ys.length=m*sz:=by
  cases ax with
  | none=>obtain⟨O,U⟩:=V;subst O U;simp
  | some ad=>exact V.2.1
 have ae:xs.length=l*sz:=by
  cases a with
  | none=>obtain⟨O,U⟩:=aa;subst O U;simp
  | some ad=>exact aa.2.1
 obtain⟨c,aH⟩:∃c,c=l:=⟨_,rfl⟩;split
 ·rename_i aI;have hm:m=0:=by omega
  have ay:ys= []:=List.eq_nil_of_length_eq_zero (by rw [Z,hm];simp);refine AJ _ _ (I1 ⟨ax,cx,rfl⟩ V ?_);subst ay;cases a with
  | none=>exact aj hm
  | some ad=>exact aj hm
 ·rename_i aJ;have O:¬(((l+m:Nat):Int)>IntKind.i64.max∧(False∨K=0)):=by rintro⟨_,h | h⟩ <;> omega
  have U:¬(Builtin.nextslicecap (l+m) l*K>2 ^ 48):=by
   have:=PN (need:=l+m) (old:=l) (by omega);have aK:Builtin.nextslicecap (l+m) l*K≤(2*(l+m)+768)*64:=Nat.mul_le_mul this av;omega
  obtain⟨inf,ag,ah⟩:=LR hb;refine AJ _ _ (HZ ag ?_);rw [ah,if_neg O];refine AJ _ _ (HZ ag ?_);rw [ah,if_neg U];refine AJ _ _ ?_;simp only [choose,lp,Question.forced,Bool.false_eq_true,if_false];refine⟨rfl,fun az=>?_⟩;generalize aA:(Question.appendCap (l+m) l e).cut az=ai;have aB:l+m≤ai:=by rw [← aA];simp [Question.cut]
  refine AJ _ _ (HZ ag ?_);rw [ah];have aC:∀{α:Type} {f:Unit→Sem α} {Q:α→St→Prop},lp P (f ()) (mk E H B) Q X→lp P (askRoom (ai*K)>>=f) (mk E H B) Q X:=by
   intro α f Q ak;refine AJ _ _ ?_;unfold askRoom;split
   ·exact⟨.inl ⟨rfl,rfl⟩,ak⟩
   ·exact ak
  refine aC (AJ _ _ (I1 ⟨a,l,rfl⟩ aa ?_));refine AJ _ _ (I1 ⟨ax,cx,rfl⟩ V ?_);refine AJ _ _ (F8 aq ?_);refine AJ _ _ (Hb au fun r aD=>?_);refine aw r _ ai aB ?_ ?_ aD
  ·simp only [Array.size_append,List.size_toArray,Po,ar,ae,Z];rw [← Nat.add_mul,← Nat.add_mul];congr 1;omega
  ·simp only [Array.toList_append];rw [List.take_append_of_le_length (by simp [ae,Z,Nat.add_mul])];rw [List.take_of_length_le (by simp [ae,Z,Nat.add_mul])]
end
theorem Ao.spot{α:Type}{pp:Rp α}{E:LH}{a:Option Addr}{c:Nat}{xs:List α}(h:Ao pp E a c xs):∀ad,a=some ad→ad.spot=none∨c=0:=fun ad K=>by
 rcases h.2 with⟨_,h⟩ | ⟨bk,off,h,_⟩
 ·exact h ad K
 ·rw [h] at K;cases K;exact .inl rfl
theorem Ao.full{α:Type}{pp:Rp α}{E:LH}{a:Option Addr}{c:Nat}{xs:List α}(h:Ao pp E a c xs):Ao pp E a xs.length xs:=⟨Nat.le_refl _,h.2.imp (fun⟨h,_⟩=>⟨h,fun _ _=> .inr (by rw [h];rfl)⟩) id⟩
theorem Ao.Rg{α:Type}{pp:Rp α}{E H:LH}{B:List (Nat×Obj)}{a:Option Addr}{c:Nat}{ys:List α}(Z:Ao pp E a c ys):
  ∃K:List (Lv_),K.length=ys.length∧(∀(i:Nat) x ws,ys[i]? =some x→K[i]? =some ws→pp.r E ws x)∧Gz (mk E H B) (.slice a ys.length c) pp.n K.flatten∧∀w∈K.flatten,CM w=true:=by
 obtain⟨K,U,W,V⟩:=Z.rows;have aa:=HD U W;refine⟨K,U,W,?_,fun w hw=>?_⟩
 ·rcases V with⟨V,ai⟩ | ⟨bk,off,rfl,V⟩
  ·subst V;have:K= []:=List.eq_nil_of_length_eq_zero U;subst this;cases a with
   | none=>exact⟨rfl,rfl⟩
   | some ad=>exact⟨.inr rfl,by simp,Nat.zero_le _,fun q w O=>by simp at O⟩
  ·refine⟨.inl rfl,by rw [LJ aa,U],Z.1,fun q w O=>?_⟩;obtain⟨q1,m,ws,ab,e2,ae⟩:=NQ aa O;have:=(V q1 ws ab).cell (H:=H) (B:=B) e2;subst ae;rw [← Nat.add_assoc];exact this
 ·obtain⟨us,ag,hw⟩:=List.mem_flatten.1 hw;obtain⟨q,O⟩:=List.mem_iff_getElem?.1 ag;have ah:q<ys.length:=by rw [← U];exact(List.getElem?_eq_some_iff.1 O).1
  exact pp.one (W q _ us (List.getElem?_eq_getElem ah) O) w hw
section
variable {P:Program}{J:Judge P}{Q:Gs_}{b:Frame}{n:Nat}{ds:Ld_}{ops:Ao_}{k:Li_}{cs:Lf_}{L:Env}{s:St}{E E' H:LH}{S:List Seg}
variable {d:Option Tmp}{x y z1:Operand}{t u ty e:TypeId}{p:String}{af:Ae_}{g:On_}{v:Value}{i:Nat}{rest:List Nat}{kd:IntKind}{ρ:Operand→Value}
theorem TD{a:Option Addr}{l c sz:Nat}(K:∀ad,a=some ad→ad.spot=none∨c=0)(O:l≤c)(ht:P.underlying t=some (.slice e))(U:Bz P e=some sz)(V:ρ x= .slice a l c)(W:ρ y=iV (l:Int))(Z:ρ z1=iV (l:Int)):
  Yl P ⟨d,.slice t x none (some y) (some z1),ty,p,af,g⟩ ρ s (.slice a l l):=by
 have h:=Yl.slice (P:=P) (s:=s) (d:=d) (ty:=ty) (p:=p) (af:=af) (g:=g) (olo:=none) (ohi:=some y) (omx:=some z1) (lo:=0) (hi:=l) (mx:=l) ht U V Z W rfl O (Nat.le_refl _) (Nat.zero_le _);have aa:(if l=0 then a else a.map (·.add (0*sz)))=a:=by
  split
  ·rfl
  ·cases a with
   | none=>rfl
   | some ad=>
    have:=(K ad rfl).resolve_right (by omega);simp only [Option.map_some,Nat.zero_mul];rw [Ed this];obtain⟨b,o,sp⟩:=ad;simp only at this;subst this;simp
 rw [aa] at h;simpa using h
theorem TJ{α:Type}{pp:Rp α}{t1:TypeId}{V c cx:Nat}{a ax:Option Addr}{xs ys W:List α}{ats:Array TypeId}{z:Value}(U:Dl xs ys=some W)
  (aj:ops[i]? =some ⟨d,.call ⟨.builtin .append,#[x,y],ats⟩,ty,p,af,g⟩) (hw:Bg L ops ⟨d,.call ⟨.builtin .append,#[x,y],ats⟩,ty,p,af,g⟩=some true) (ak:CR b n ⟨d,.call ⟨.builtin .append,#[x,y],ats⟩,ty,p,af,g⟩=true)
  (al:ev L x=some (.slice a xs.length xs.length)) (am:ev L y=some (.slice ax ys.length cx)) (an:ats[0]? =some t) (ao:ats[1]? =some t1) (ht:P.underlying t=some (.slice e)) (ap:P.underlying t1=some (.slice e)) (aq:Bz P e=some pp.n) (hb:Ez P e=some V) (ar:zeroOf P e=some z) (au:z.cells.size=pp.n)
  (av:0<V) (aw:V≤64) (Z:Ao pp E a c xs) (ay:Ao pp E ax cx ys) (aa:Ar E H S)
  (h:∀E' ab K,Le E E'→Ao pp E' ab K W→Ar E' H (S++ [[]])→JL J Q b n (AB L d (.slice ab W.length K)) ds (.inRegion ops rest::k) cs (Ak E' H (S++ [[]]))):
  JL J Q b n L ds (.inRegion ops (i::rest)::k) cs (Ak E H S):=by
 unfold Dl at U;split at U
 rotate_left
 ·cases U
 rename_i az;cases U;obtain⟨wss,ae,aA,aB,aR⟩:=Ao.Rg (H:=H) (B:=S.flatten) Z.full;obtain⟨aC,aD,aE,aF,aG⟩:=Ao.Rg (H:=H) (B:=S.flatten) ay;have hlen:(xs++ys).length=xs.length+ys.length:=by simp
 show JL J Q b n L ds (.inRegion ops (i::rest)::k) cs (mk E H S.flatten);refine JL.op aj hw ak fun ρ ag=>?_;rw [LI,ag x _ al,ag y _ am];refine AJ _ _ (S6 an ao ap ht aq hb ar au aa aB aF aG av az aw ?_ ?_)
 ·intro hm;have aH:ys= []:=List.eq_nil_of_length_eq_zero hm;subst aH;have aI:Ar E H (S++ [[]]):=by unfold Ar at*;rw [FV,List.append_nil];exact aa
  have aJ:mk E H S.flatten=Ak E H (S++ [[]]):=by unfold Ak;rw [FV,List.append_nil]
  rw [aJ];have:=h E a xs.length (Le.refl _) (by rw [List.append_nil];exact Z.full) aI;rw [hlen] at this;exact this
 ·intro r O K aK aL aM aN;have aO:OL e pp E (some ⟨r,0,none⟩) K [(r,.cells O e (0,0))] (xs++ys):=
   ⟨wss++aC,.inr ⟨r,O,rfl,rfl,aL,by rw [hlen];exact aK,by rw [hlen,List.flatten_append];exact aM.symm⟩,by simp [ae,aD],NU ae aA aE⟩
  have ah:=EG (S:=S) (seg:= [(r,.cells O e (0,0))]) aN;show JL J Q b n _ ds _ cs (mk E H (S.flatten++ [(r,.cells O e (0,0))]));rw [ah.1];refine Ca S.length aO ah.2 (by simp) fun E' hle aP ai=>?_;have aQ:(S++ [[(r,Obj.cells O e (0,0))]]).set S.length []=S++ [[]]:=Hf _ _ _ _;rw [aQ] at ai ⊢;have:=h E' (some ⟨r,0,none⟩) K hle aP ai;rw [hlen] at this;exact this
end
end Pal
namespace Pal
open Go Go.Conc
open Go.ConcN (sumTo upd sumTo_upd upd_ne upd_same)
def Kq(P:Program)(R:Value→St→Prop):GP:=fun g s=>
 g.status= .running∧∃v,R v s∧∀w,stepG P true g w= .ended (.done v) w #[]
section
variable {P:Program}{R:Value→St→Prop}{J:Judge P}{n:Nat}{L:Env}{s:St}{b:Frame}
theorem JO.end{fn:Func}{t:Tmp}{v:Value}(K:b.kind= .normal)(hi:P.inits.idxOf? b.fn=none)(O:P.funcs[b.fn]? =some fn)(U:fn.results= #[.tmp t])(V:look L t=some v)(W:R v s):JO J (Kq P R) b n L [] [] s:=fun T Z todo=>by
 refine J.stop ⟨rfl,v,W,fun w=>?_⟩
 have e:results fn T=Sem.pure v:=by
  have:=Z.at_ t v V;simp only [results,U,Array.mapM_eq_mapM_toList];show Sem.pure (T.getD t undef)=_;rw [this]
 have aa:(results fn T).run P w= .ok v w:=by rw [e];rfl
 have e2:(results fn T).events P w #[]= #[]:=by rw [e];simp [Sem.events_pure']
 simp [G,stepG,unwind,Er,O,aa,e2,doReturn,K,GStep.after,hi,seen_none]
end
section
variable {P:Program}{R:Value→St→Prop}
def KH(P:Program)(R:Value→St→Prop)(K:World)(s₀:St)(v:Value)(w':World):Prop:=
 ∃s,R v s∧Fits s w'∧(∀b o,s₀.E b=some o→s.E b=some o)∧w'.tape=K.tape∧w'.os=K.os∧w'.output=K.output
def O6(P:Program)(R:Value→St→Prop)(K:World)(s₀:St)(O:Nat)(m:Machine)(t:Trace):Prop:=
 ∃gs w sl q Sh g s,m=crowd gs w sl∧Gm P gs w t q Sh g s∧Kq P R g s∧O=sumTo gs.size q∧(∀b o,s₀.E b=some o→s.E b=some o)∧w.tape=K.tape∧w.os=K.os∧w.output=K.output
theorem UW{ag:World}{s₀:St}(ak:Nat)(m:Machine)(t:Trace)(h:O6 P R ag s₀ ak m t):
  (∃o w ops,stepT P m=(.ended o w,ops)∧Good P (KH P R ag s₀) m o w (t++ops))∨(∃m' ops al,stepT P m=(.next m',ops)∧al<ak∧O6 P R ag s₀ al m' (t++ops)):=by
 obtain⟨gs,w,sl,q,Sh,g,s,rfl,hC,aB,rfl,am,an,ao,ap⟩:=h;obtain⟨Z,v,aq,ar⟩:=aB;have aC:∀x∈gs,awake x:=by
  intro x V;obtain⟨i,hi,rfl⟩:=Array.mem_iff_getElem.1 V;rcases Nat.eq_zero_or_pos i with rfl | ah
  ·have:gs[0]=g:=by simpa [Array.getElem?_eq_getElem hi] using hC.main
   rw [this];exact awake_of (.inl Z)
  ·exact awake_of ((hC.lv.old i _ ah (Array.getElem?_eq_getElem hi)).status.elim .inl fun x=> .inr (.inr x))
 obtain⟨i,x,d,au,hi,V,av⟩:=crowd_pick (P:=P) (w:=w) (sl:=sl) aC ⟨0,g,hC.main,Z⟩;have aw:=hC.at_ d;have aD:0<gs.size:=(Array.getElem?_eq_some_iff.1 hC.main).1;have aE:∀(a:Nat) (fn:FuncId) (pos:String),MemOp.ofEvents a fn pos #[]= #[]:=fun a fn pos=>by rw [ofEvents_eq];simp
 rcases Nat.eq_zero_or_pos i with rfl | ah
 ·obtain rfl:x=g:=by rw [hC.main] at hi;exact(Option.some.inj hi).symm
  have aa:=runT_many_ended (P:=P) (sl:=au) (i:=0) hi (show stepG P (0==0) x (w.at d)=_ from ar (w.at d));rw [aE] at aa;refine .inl ⟨_,_,_,av.trans aa,v,rfl,⟨s,aq,aw.CQ.fits 0 aD,am,an,ao,ap⟩,?_,?_,⟨fun y K=>?_,rfl⟩,fun j y K O=>?_⟩
  ·simpa using hC.CQ.clean
  ·simpa using hC.over
  ·obtain⟨j,O⟩:=List.mem_iff_getElem?.1 K;rw [List.getElem?_drop] at O;exact⟨_,(hC.lv.old (1+j) y (by omega) (by simpa [crowd] using O)).leaves⟩
  ·have W:=hC.lv.old j y (by omega) K;exact⟨q j,by simp only [Array.append_empty];exact W.hears w⟩
 ·have W:=hC.lv.old i x ah hi;have aF:(i==0)=false:=by simp;omega
  have ay:i<gs.size:=(Array.getElem?_eq_some_iff.1 hi).1;cases ai:q i with
  | zero=>rw [ai] at W;rw [W.1] at V;cases V
  | succ k=>
   rw [ai] at W;rcases W with⟨aG,_⟩ | ⟨_,x',es,hm,aH,aI⟩
   ·rw [aG] at V;cases V
   have aM:sumTo gs.size (upd q i k)+(k+1)=sumTo gs.size q+k:=by
    have:=sumTo_upd q k id ay;simpa [ai] using this
   have aa:=runT_crowd_go (P:=P) (sl:=au) (i:=i) hi (by rw [aF];exact aH (w.at d));have aj:((gs.map (woken P x x' (w.at d))).setIfInBounds i x').size=gs.size:=by simp
   have ab:∀op∈MemOp.ofEvents i x.frame.fn x.frame.place es,op.g=i:=fun op U=>by obtain⟨e,_,rfl⟩:=mem_ofEvents U;rfl
   have az:∀op∈MemOp.ofEvents i x.frame.fn x.frame.place es,op.act.touch? =none:=fun op U=>by obtain⟨e,he,rfl⟩:=mem_ofEvents U;exact touch_mute (hm e he)
   have aJ:Gm P ((gs.map (woken P x x' (w.at d))).setIfInBounds i x') (w.at d) (t++MemOp.ofEvents i x.frame.fn x.frame.place es) (upd q i k) Sh g s:=by
    refine⟨?_,⟨fun j y O K=>?_,fun j O=>?_⟩,?_,?_,?_⟩
    ·have aK:i≠0:=by omega
     rw [Array.getElem?_setIfInBounds_ne aK,Array.getElem?_map,hC.main];simp [woken_run Z]
    ·by_cases ae:i=j
     ·subst ae;rw [Array.getElem?_setIfInBounds_self_of_lt (by simpa using ay)] at K;obtain rfl:=Option.some.inj K;rw [upd_same,Deaf_own];exact aI
     ·rw [Array.getElem?_setIfInBounds_ne ae,Array.getElem?_map] at K;obtain⟨z,aL,rfl⟩:=Option.map_eq_some_iff.1 K;have aA:=hC.lv.old j z O aL;rw [woken_quitsD aA,upd_ne q k (Ne.symm ae),Deaf_other t ae _ ab];exact aA
    ·rw [Deaf_other t (g':=i) (by simp at O;omega) _ ab];exact hC.lv.above j (by simpa using O)
    ·rw [aj];exact aw.CQ.mute ab az (fun op U=>by obtain⟨e,he,rfl⟩:=mem_ofEvents U;exact low_mute (hm e he) _) rfl
    ·exact handedOver_app hC.over fun op U=> .inr (az op U)
    ·rw [Deaf_other t (by omega) _ ab];exact hC.hears
   exact .inr ⟨_,_,_,av.trans aa,by rw [← aj];rw [aj];omega,_,_,_,_,_,_,_,rfl,aJ,⟨Z,v,aq,ar⟩,rfl,am,an,ao,ap⟩
theorem ends{gs:Array Goroutine}{w:World}{sl:Option (Nat×Nat)}{t:Trace}{q:Nat→Nat}{Sh:Nat→Prop}{g:Goroutine}{s:St}(hC:Gm P gs w t q Sh g s)(O:Kq P R g s):
  ∃N last o w' K,runNT P (N+1) (crowd gs w sl) t=(.ended o w',K)∧runN P N (crowd gs w sl)= .next last∧step P last= .ended o w'∧Good P (KH P R w s) last o w' K:=
 run_of_inv Nat.lt_wfRel.wf (O6 P R w s) (Good P (KH P R w s)) UW _ _ _ ⟨gs,w,sl,q,Sh,g,s,rfl,hC,O,rfl,fun _ _ h=>h,rfl,rfl,rfl⟩
theorem Tv{m m':Machine}{t K:Trace}{n:Nat}(h:runNT P n m t=(.next m',K)):runN P n m= .next m':=by rw [← runNT_fst P n m t,h]
def Io(W:World):St:=⟨fun b=>W.heap[b]?,fun _=>none,false⟩
theorem Vo{W:World}{g:Goroutine}(h:(DN P).ok (Kq P R) g (Io W)):
  ∃M last o w' K,runNT P (M+1) (solo g W) #[]=(.ended o w',K)∧runN P M (solo g W)= .next last∧step P last= .ended o w'∧Good P (KH P R W (Io W)) last o w' K:=by
 have hC:Gm P #[g] W #[] (fun _=>0) (fun _=>False) g (Io W):=by
  have V:∀{i:Nat} {a:Touch},touchAt #[] i=some a→False:=fun {i a} h=>by simp [touchAt,Trace.act?] at h
  refine⟨rfl,leavers_one P g,⟨fun i hi=>?_,fun i j hi aa aC=>by simp at hi aa;omega,fun i hi b hb=>hb.elim,fun b hb=>hb.elim,fun said=>?_,by simp,fun i _ b _ x a O=>(V O).elim,fun i _ b _ x a O=>(V O).elim⟩,fun i g ab=>by simp [Trace.g?] at ab,rfl⟩
  ·have:i=0:=by simp at hi;exact hi
   subst this;exact⟨fun b o U=>U,fun b o U=>(by cases U),fun b _=>rfl⟩
  ·rintro⟨i,j,_,⟨a,b,ae,_⟩,_⟩;simp [Trace.act?] at ae
 obtain⟨n,gs',w',ag,K,aD,aE,g',s',Z,ah,ai,aj,ak,al,am⟩:=h #[g] W none #[] _ _ hC;obtain⟨N,last,o,an,ao,k1,ap,aq,ar⟩:=ends (sl:=ag) ah ai;refine⟨n+N,last,o,an,ao,?_,?_,aq,?_⟩
 ·rw [solo_eq_crowd,Nat.add_assoc,runNT_add,Z];exact k1
 ·have au:=Tv Z;rw [solo_eq_crowd,runN_add,au];exact ap
 ·obtain⟨v,e,⟨s2,av,aw,ay,az,aA,aB⟩,r⟩:=ar;exact⟨v,e,⟨s2,av,aw,fun b o hb=>ay b o (aj b o hb),az.trans ak,aA.trans al,aB.trans am⟩,r⟩
end
end Pal
namespace Pal
open Go Go.Conc
theorem Ut{P:Program}{Q:Gs_}{E H:LH}{f:FuncId}{fn:Func}{c:Code}{vs:Lv_}(U:P.funcs[f]? =some fn)(hb:fn.body=some c)(Z:fn.ntmps=fn.ntmps)(aa:vs.length≤fn.ntmps)
  (h:JL (DN P) Q (base f) fn.ntmps (FH 0 vs) [] [.code c] [] (Ak E H [[]])):(DN P).ok Q (G (Frame.enter P f vs.toArray .normal) []) (mk E H []):=by
 have he:Frame.enter P f vs.toArray .normal=fr (base f) (vs.toArray++Array.replicate (fn.ntmps - vs.length) undef) [] [.code c]:=by
  simp [Frame.enter,fr,U,hb,base];rfl
 rw [he];have V:mk E H []=Ak E H [[]]:=by unfold Ak;simp
 rw [V];refine h _ ⟨by simp;omega,fun t v ht=>?_⟩;obtain⟨_,K⟩:=I3 ht;have W:t<vs.length:=by
  rcases Nat.lt_or_ge t vs.length with O | O
  ·exact O
  ·simp at K;have:=(List.getElem?_eq_some_iff.1 K).1;omega
 rw [Array.getD_eq_getD_getElem?,Array.getElem?_append_left (by simpa using W)];simp at K;simp [K]
end Pal
namespace Pal
open Go Go.Conc Go.Proofs Go.ChangeShapes Go.WideShapes Go.ChangeAt Go.RowKit
open Go.Proofs.YtboibffcmhheiaaGreatDoor (Rows.laid_errors_errorType)
theorem Tryz.own:ownKnob Tryz.prog.godebug=none:=by kernel_rfl
theorem Tryz.laidOut:laidOutB Tryz.prog=true:=by kernel_rfl
theorem Tryz.X4:Tryz.prog.cellsOf 3=1:=by kernel_rfl
theorem Vh{W:World}{a:Addr}{len cap:Nat}{K:List Int}(V:a.spot=none)(ah:len≤cap)(ab:len≤K.length)(ae:∀i,i<K.length→W.cell? (a.add i)=some (.int .i64 (K.getD i 0))):
  Ao rI (Io W).E (some a) cap (K.take len)∧(K.take len).length=len:=by
 have aa:(K.take len).length=len:=by simp [Nat.min_eq_left ab]
 refine⟨⟨by omega,.inr ⟨a.block,a.off,?_,fun i x Z=>⟨[iV x],rfl,?_⟩⟩⟩,aa⟩
 ·obtain⟨b,o,s⟩:=a;simp only at V;subst V;rfl
 ·have hi:i<len:=by rw [← aa];exact(List.getElem?_eq_some_iff.1 Z).1
  have O:=ae i (by omega);have ag:K.getD i 0=x:=by
   rw [List.getElem?_take_of_lt hi] at Z;rw [List.getD_eq_getElem?_getD,Z];rfl
  rw [ag,Ed V] at O;unfold World.cell? at O;split at O
  ·rename_i c e f hW;simp only [Option.isSome_none,Bool.false_eq_true,if_false] at O;refine⟨c,e,f,hW,fun j w U=>?_⟩
   match j,U with
   | 0,U=>
    simp at U;subst U;show c[a.off+i*1+0]? =some (.int .i64 x);simpa using O
   | j+1,U=>simp at U
  ·cases O
theorem Tn{W:World}{base:Nat}{t e:TypeId}{a:Addr}{len cap:Nat}(ht:Tryz.prog.underlying t=some (.slice e))(h:Value.okWide Tryz.prog W .any base t (.slice (some a) len cap)):a.spot=none∧len≤cap:=by
 simp only [Value.okWide,ht,Cell.okWide,Cell.ok] at h;exact⟨h.2.2.2.1,h.1⟩
theorem Th{R:Value→St→Prop}{W w':World}{v:Value}(h:KH Tryz.prog R W (Io W) v w'):(∃s,R v s)∧Below W.heap.size W w':=by
 obtain⟨s,V,Z,aa,ht,ab,ae⟩:=h;have hb:∀k,k<W.heap.size→w'.heap[k]? =W.heap[k]? :=fun k O=>by
  have K:(Io W).E k=some W.heap[k]:=Array.getElem?_eq_getElem O;have U:=Z.e k _ (aa k _ K);rw [U,Array.getElem?_eq_getElem O]
 refine⟨⟨s,V⟩,⟨ab,ht,ae,?_,hb⟩⟩;rcases Nat.eq_zero_or_pos W.heap.size with ag | ag
 ·omega
 ·have K:=hb (W.heap.size - 1) (by omega);have ah:W.heap[W.heap.size - 1]? =some W.heap[W.heap.size - 1]:=Array.getElem?_eq_getElem (by omega);rw [ah] at K;have U:=(Array.getElem?_eq_some_iff.1 K).1;omega
noncomputable def Qi(os:Os):World:=
 let w0:=World.holding Tryz.prog os ⟨#[],#[],[]⟩
 {w0 with heap:=w0.heap.modify 0 fun
   | .cells _ t frozen=> .cells #[.iface 240 (.agg #[.pointer (some ⟨1,149,none⟩)])] t frozen
   | o=>o}
theorem Ta(os:Os)(args:Ax):laidMetH Tryz.prog [("errors.errorType",Go.Proofs.YtboibffcmhheiaaGreatDoor.Rows.laid_errors_errorType)] ((Qi os).forCall (fun _ _=>0) ⟨#[],args,[]⟩).memory:=
 laidMetH_of_parts (laidMet_nil _ _) (by kernel_rfl)
end Pal
namespace Pal
open Go Go.Conc
theorem oi{α:Type}{a b:α}(h:some a=some b):a=b:=Option.some.inj h
theorem bs{α β:Type}{o:Option α}{f:α→Option β}{r:β}(h:o.bind f=some r):∃x,o=some x∧f x=some r:=bind_some h
def Hi(L:Env):Env→List (Option Value)
 | []=> []
 | (t,_)::L'=>look L t::Hi L L'
def Hl:Env→List (Option Value)
 | []=> []
 | (_,v)::L'=>some v::Hl L'
theorem OI{L:Env}:∀{L':Env},Hi L L'=Hl L'→Sub L' L
 | [],_=>trivial
 | (t,v)::L',h=>by
  simp only [Hi,Hl,List.cons.injEq] at h
  exact⟨h.1,OI h.2⟩
section
variable {P:Program}{J:Judge P}{Q:Gs_}{b:Frame}{n:Nat}{L L':Env}{ds:Ld_}{k k':Li_}{cs:Lf_}{s:St}{ops:Ao_}{i:Nat}{rest:List Nat}{v:Value}
variable {d:Option Tmp}{op:Op}{ty:TypeId}{p:String}{af:Ae_}{g:On_}
theorem Ie(L':Env)(h:Hi L L'=Hl L')(k':JL J Q b n L' ds k cs s):JL J Q b n L ds k cs s:=GV (OI h) k'
theorem Ay(k':JL J Q b n L' ds k cs s)(h:Hi L L'=Hl L'):JL J Q b n L ds k cs s:=GV (OI h) k'
def Ej(b:Frame)(n:Nat)(L:Env)(ops:Ao_)(i:Nat):Option Oper:=
 match HP ops.toList i with
 | some ⟨d,op,ty,p,af,g⟩=>match Bg L ops ⟨d,op,ty,p,af,g⟩ with
  | some true=>match CR b n ⟨d,op,ty,p,af,g⟩ with
   | true=>some ⟨d,op,ty,p,af,g⟩
   | false=>none
  | _=>none
 | none=>none
theorem IB{o:Oper}(h:Ej b n L ops i=some o):ops[i]? =some o∧Bg L ops o=some true∧CR b n o=true:=by
 unfold Ej at h;split at h
 ·rename_i K;rw [Jo,Array.getElem?_toList] at K;split at h
  ·rename_i hw;split at h
   ·rename_i O;cases h;exact⟨K,hw,O⟩
   ·cases h
  ·cases h
 ·cases h
theorem AA(K:Ej b n L ops i=some ⟨d,op,ty,p,af,g⟩)(h:∀ρ,Eu L ρ→Yl P ⟨d,op,ty,p,af,g⟩ ρ s v)(O:JL J Q b n (AB L d v) ds (.inRegion ops rest::k) cs s):
  JL J Q b n L ds (.inRegion ops (i::rest)::k) cs s:=
 let ⟨U,V,W⟩:=IB K
 A6 U V W h O
theorem OE{f:FuncId}{fn:Func}{c:Code}{E:LH}{vs:Lv_}{B:Seg}{R:Value→LH→Seg→Prop}(O:P.funcs[f]? =some fn)(hb:fn.body=some c)(U:Nat.ble vs.length fn.ntmps=true)
  (h:∀(Q:Gs_) (K:Frame) (cs:Lf_) (H:LH),Ar E H [B]→(∀v E' S' B',Le E E'→S'.flatten=B'→R v E' B'→Ar E' H S'→J.ok Q (G (K.finish v) cs) (Ak E' H S'))→JL J Q (base f) fn.ntmps (FH 0 vs) [] [.code c] (K::cs) (Ak E H [B])):AQ J f vs E B R:=
 AQ.enter O hb (Nat.le_of_ble_eq_true U) h
def Nt(n:Nat)(L:Env)(ops:Ao_)(i:Nat):Option Env:=
 match HP ops.toList i with
 | some ⟨d,op,ty,p,af,g⟩=>match Bg L ops ⟨d,op,ty,p,af,g⟩ with
  | some true=>match BE n d with
   | true=>match IS L op with
    | some v=>match d with
     | some d=>some ((d,v)::L)
     | none=>some L
    | none=>none
   | false=>none
  | some false=>match BE n d with
   | true=>match d with
    | some d=>some ((d,undef)::L)
    | none=>some L
   | false=>none
  | none=>none
 | none=>none
def F3(n:Nat)(L:Env)(ops:Ao_)(i:Nat):Option Oper:=
 match HP ops.toList i with
 | some ⟨d,op,ty,p,af,g⟩=>match Bg L ops ⟨d,op,ty,p,af,g⟩ with
  | some true=>match BE n d with
   | true=>some ⟨d,op,ty,p,af,g⟩
   | false=>none
  | _=>none
 | none=>none
theorem N1{o:Oper}(h:F3 n L ops i=some o):ops[i]? =some o∧Bg L ops o=some true∧BE n o.dst=true:=by
 unfold F3 at h;split at h
 ·rename_i K;rw [Jo,Array.getElem?_toList] at K;split at h
  ·rename_i hw;split at h
   ·rename_i O;cases h;exact⟨K,hw,O⟩
   ·cases h
  ·cases h
 ·cases h
theorem Vq(h:Nt n L ops i=some L'):∃o,ops[i]? =some o∧BE n o.dst=true∧((∃v,Bg L ops o=some true∧IS L o.op=some v∧L'=AB L o.dst v)∨(Bg L ops o=some false∧L'=AB L o.dst undef)):=by
 unfold Nt at h;split at h
 ·rename_i d op ty p af g O;rw [Jo,Array.getElem?_toList] at O;refine⟨_,O,?_⟩;split at h
  ·rename_i hw;split at h
   ·rename_i K;refine⟨K,.inl ?_⟩;split at h
    ·rename_i v U;refine⟨v,hw,U,?_⟩;cases d with
     | none=>cases h;rfl
     | some d=>cases h;rfl
    ·cases h
   ·cases h
  ·rename_i hw;split at h
   ·rename_i K;refine⟨K,.inr ⟨hw,?_⟩⟩;cases d with
    | none=>cases h;rfl
    | some d=>cases h;rfl
   ·cases h
  ·cases h
 ·cases h
variable {m:Nat}{D:Nat→Bool}{fuel:Nat}{listed:Array Bool}
theorem Cv(i:Nat)(K:Dt ops m=true)(O:s.q=false)(h:Nt n L ops i=some L')
  (U:AT J Q b n ds ops k cs m D fuel (Bd listed i) L' s) (V:Fj ops listed m i=true:=by decide+kernel):AT J Q b n ds ops k cs m D (fuel+1) listed L s:=by
 obtain⟨o,W,Z,⟨v,hw,aa,rfl⟩ | ⟨hw,rfl⟩⟩:=Vq h
 ·exact OQ i W K V O hw Z (fun ρ ab s' _=>Mm ab aa) U
 ·exact YT i W K V O hw Z U
theorem BC(i:Nat)(K:Dt ops m=true)(O:s.q=false)(U:F3 n L ops i=some ⟨d,op,ty,p,af,g⟩)
  (V:∀ρ,Eu L ρ→∀s':St,(∀x o,(BB D s).E x=some o→s'.E x=some o)→Yl P ⟨d,op,ty,p,af,g⟩ ρ s' v)
  (W:AT J Q b n ds ops k cs m D fuel (Bd listed i) (AB L d v) s) (Z:Fj ops listed m i=true:=by decide+kernel):AT J Q b n ds ops k cs m D (fuel+1) listed L s:=by
 obtain⟨aa,ab,ae⟩:=N1 U;exact OQ i aa K Z O ab ae V W
end
end Pal
namespace Pal
open Go Go.Conc
abbrev Jn(E H E':LH)(S:List Seg)(K L:Env)(s:St)(R:Prop):Prop:=L=K∧s=Ak E' H S∧Le E E'∧Ar E' H S∧R
abbrev Jm(E H E':LH)(S:List Seg)(K L:Env)(s:St):Prop:=L=K∧s=Ak E' H S∧Le E E'∧Ar E' H S
def Nn(L:Env):List ResultVar→Option (Lv_)
 | []=>some []
 | .tmp t::rs=>match look L t with
  | some v=>match Nn L rs with
   | some vs=>some (v::vs)
   | none=>none
  | none=>none
 | _=>none
theorem RG{P:Program}{L:Env}{s:St}:∀{rs:List ResultVar} {vs:Lv_},Nn L rs=some vs→RV P L s rs vs
 | [],vs,h=>by cases h;trivial
 | .tmp t::rs,vs,h=>by
  unfold Nn at h
  split at h
  ·rename_i v K
   split at h
   ·rename_i ws hw;cases h;exact⟨K,RG hw⟩
   ·cases h
  ·cases h
 | .cell _ _::_,_,h=>by cases h
section
variable {P:Program}{J:Judge P}{Q:Gs_}{b:Frame}{n:Nat}{L L':Env}{ds:Ld_}{k k':Li_}{cs:Lf_}{s:St}{ops:Ao_}{i:Nat}{rest:List Nat}{v:Value}{E H:LH}{S:List Seg}
variable {d:Option Tmp}{op:Op}{x y:Operand}{t ft ty e:TypeId}{p:String}{af:Ae_}{g:On_}
theorem AF{c:Frame}{fn:Func}{vs:Lv_}(O:P.funcs[b.fn]? =some fn)(K:(b.kind== .normal&&b.roundOf.isNone)=true)(U:Nn L fn.results.toList=some vs)(h:J.ok Q (G (c.finish (Mg vs)) cs) s):JL J Q b n L [] (.code .ret::k) (c::cs) s:=by
 simp only [Bool.and_eq_true,beq_iff_eq,Option.isNone_iff_eq_none] at K;exact JL.ret K.1 K.2 (B9.list O rfl (RG U)) h
theorem BO{f:FuncId}{args:Array Operand}{ats:Array TypeId}{vs:Lv_}{R:Value→LH→Seg→Prop}
  (O:AQ J f vs E [] R) (U:Ej b n L ops i=some ⟨d,.call ⟨.value (.func f),args,ats⟩,ty,p,af,g⟩) (V:evs L args.toList=some vs) (hb:D1 P f=true)
  (W:Ar E H S) (Z:∀v E' seg',Le E E'→R v E' seg'→Ar E' H (S++ [seg'])→JL J Q b n (AB L d v) ds (.inRegion ops rest::k) cs (Ak E' H (S++ [seg']))):
  JL J Q b n L ds (.inRegion ops (i::rest)::k) cs (Ak E H S):=by
 obtain⟨aa,ab,K⟩:=IB U;refine JS.call O aa ab ?_ hb V W Z;simp only [CR,Bool.and_eq_true] at K ⊢;exact⟨K.1,K.2.1⟩
theorem BH{f:FuncId}{args:Array Operand}{ats:Array TypeId}{vs:Lv_}{v:Value}
  (O:AQ J f vs E [] (fun w E' B'=>w=v∧B'= [])) (U:Ej b n L ops i=some ⟨d,.call ⟨.value (.func f),args,ats⟩,ty,p,af,g⟩) (V:evs L args.toList=some vs) (hb:D1 P f=true)
  (K:Ar E H S) (W:∀E',Le E E'→Ar E' H (S++ [[]])→JL J Q b n (AB L d v) ds (.inRegion ops rest::k) cs (Ak E' H (S++ [[]]))):
  JL J Q b n L ds (.inRegion ops (i::rest)::k) cs (Ak E H S):=BO O U V hb K (by rintro _ E' _ hle ⟨rfl,rfl⟩ K;exact W E' hle K)
theorem BY{f:FuncId}{args:Array Operand}{ats:Array TypeId}{vs:Lv_}{seg:Seg}{R:Value→LH→Seg→Prop}(j:Nat)
  (O:AQ J f vs E seg R) (U:Ej b n L ops i=some ⟨d,.call ⟨.value (.func f),args,ats⟩,ty,p,af,g⟩) (V:evs L args.toList=some vs) (hb:D1 P f=true)
  (W:Ar E H S) (Z:S[j]? =some seg) (aa:∀v E' seg',Le E E'→R v E' seg'→Ar E' H (S.set j seg')→JL J Q b n (AB L d v) ds (.inRegion ops rest::k) cs (Ak E' H (S.set j seg'))):
  JL J Q b n L ds (.inRegion ops (i::rest)::k) cs (Ak E H S):=by
 obtain⟨ab,ae,K⟩:=IB U;refine N5 j O ab ae ?_ hb V W Z aa;simp only [CR,Bool.and_eq_true] at K ⊢;exact⟨K.1,K.2.1⟩
def KF(K:Array Field)(i:Nat):Option (Nat×TypeId):=match K[i]? with
 | some f=>some (f.offset,f.type)
 | none=>none
theorem Ba{r m m':Int}{u:TypeId}(h:Au (m+m')=some r)(K:Ej b n L ops i=some ⟨d,.binOp .add t x y u,ty,p,af,g⟩)(O:ev L x=some (iV m))(U:ev L y=some (iV m'))
  (V:JL J Q b n (AB L d (iV r)) ds (.inRegion ops rest::k) cs s):JL J Q b n L ds (.inRegion ops (i::rest)::k) cs s:=AA K (fun _ q=>Rt (q _ _ O) (q _ _ U) h) V
theorem B7{r m m':Int}{u:TypeId}(h:Au (m - m')=some r)(K:Ej b n L ops i=some ⟨d,.binOp .sub t x y u,ty,p,af,g⟩)(O:ev L x=some (iV m))(U:ev L y=some (iV m'))
  (V:JL J Q b n (AB L d (iV r)) ds (.inRegion ops rest::k) cs s):JL J Q b n L ds (.inRegion ops (i::rest)::k) cs s:=AA K (fun _ q=>C8 (q _ _ O) (q _ _ U) h) V
theorem Bp{a:Option Addr}{e:TypeId}{l c:Nat}{ats:Array TypeId}(ht:P.underlying t=some (.slice e))(K:Ej b n L ops i=some ⟨d,.call ⟨.builtin .len,#[x],ats⟩,ty,p,af,g⟩)(O:ats[0]? =some t)(U:ev L x=some (.slice a l c))
  (V:JL J Q b n (AB L d (.int .i64 l)) ds (.inRegion ops rest::k) cs s):JL J Q b n L ds (.inRegion ops (i::rest)::k) cs s:=AA K (fun _ q=>Yl.len O ht (q _ _ U)) V
theorem BF{bk o sz off:Nat}{O:Array Field}{U:Nat}(ht:P.underlying t=some (.struct O))(V:Bz P ft=some (sz+1))(W:Ej b n L ops i=some ⟨d,.fieldAddr t x U,ty,p,af,g⟩)(Z:ev L x=some (.pointer (some ⟨bk,o,none⟩)))(K:KF O U=some (off,ft))
  (aa:JL J Q b n (AB L d (.pointer (some ⟨bk,o+off,none⟩))) ds (.inRegion ops rest::k) cs s):
  JL J Q b n L ds (.inRegion ops (i::rest)::k) cs s:=by
 unfold KF at K;split at K
 ·rename_i f ab;cases K;refine AA W (fun ρ h=>R6 (a:=⟨bk,o,none⟩) sz f.offset ht V ab rfl rfl (h _ _ Z)) ?_;rw [Ed rfl];exact aa
 ·cases K
theorem BW{bk o:Nat}{ws:Lv_}(j:Nat)(K:At E bk o ws)(ht:DJ P t=some false)(O:Ej b n L ops i=some ⟨d,.load t x,ty,p,af,g⟩)(U:ev L x=some (.pointer (some ⟨bk,o+j,none⟩)))(V:ws[j]? =some v)
  (W:JL J Q b n (AB L d v) ds (.inRegion ops rest::k) cs (Ak E H S)):
  JL J Q b n L ds (.inRegion ops (i::rest)::k) cs (Ak E H S):=
 AA O (fun _ h=>Yl.load ht (h _ _ U) (At.KS K V)) W
theorem SD{bk off:Nat}{c:Ax}(j:Nat)(K:Ar E H S)(O:Bz P t=some v.cells.size)(U:Ej b n L ops i=some ⟨d,.store t x y,ty,p,af,g⟩)
  (V:ev L x=some (.pointer (some ⟨bk,off,none⟩))) (W:ev L y=some v) (Z:S[j]? =some [(bk,.cells c e (0,0))])
  (h:Ar E H (S.set j [(bk,.cells (Be c off v.cells.toList) e (0,0))])→JL J Q b n (AB L d undef) ds (.inRegion ops rest::k) cs (Ak E H (S.set j [(bk,.cells (Be c off v.cells.toList) e (0,0))])))
  (hle:off+v.cells.size≤c.size:=by exact Nat.le_of_ble_eq_true rfl) (aa:∀u∈v.cells.toList,CM u=true:=by simp [Value.cells,CM]):
  JL J Q b n L ds (.inRegion ops (i::rest)::k) cs (Ak E H S):=by
 obtain⟨ab,ae,ag⟩:=IB U;exact JS.store j ab ae ag K V W O aa Z hle h
theorem Cm{bk o:Nat}{ws:Lv_}(K:At E bk o ws)(ht:DJ P t=some true)(O:Bz P t=some ws.length)(U:Ej b n L ops i=some ⟨d,.load t x,ty,p,af,g⟩)(V:ev L x=some (.pointer (some ⟨bk,o,none⟩)))
  (W:JL J Q b n (AB L d (.agg ws.toArray)) ds (.inRegion ops rest::k) cs (Ak E H S)):
  JL J Q b n L ds (.inRegion ops (i::rest)::k) cs (Ak E H S):=
 AA U (fun _ h=>FX ht O (h _ _ V) (At.Xy K)) W
variable {m:Nat}{D:Nat→Bool}{fuel:Nat}{listed:Array Bool}
theorem B6{bk o sz off:Nat}{O:Array Field}{U:Nat}(i:Nat)(V:Dt ops m=true)(ht:P.underlying t=some (.struct O))(W:Bz P ft=some (sz+1))(Z:s.q=false)(aa:F3 n L ops i=some ⟨d,.fieldAddr t x U,ty,p,af,g⟩)(ab:ev L x=some (.pointer (some ⟨bk,o,none⟩)))(K:KF O U=some (off,ft))
  (ae:AT J Q b n ds ops k cs m D fuel (Bd listed i) (AB L d (.pointer (some ⟨bk,o+off,none⟩))) s) (ag:Fj ops listed m i=true:=by decide+kernel):AT J Q b n ds ops k cs m D (fuel+1) listed L s:=by
 unfold KF at K;split at K
 ·rename_i f ah;cases K;refine BC i V Z aa (fun ρ h _ _=>R6 (a:=⟨bk,o,none⟩) sz f.offset ht W ah rfl rfl (h _ _ ab)) ?_ ag;rw [Ed rfl];exact ae
 ·cases K
theorem CI{bk o:Nat}{ws:Lv_}(i:Nat)(K:Dt ops m=true)(j:Nat)(O:At (BB D s).E bk o ws)(ht:DJ P t=some false)(U:s.q=false)(V:F3 n L ops i=some ⟨d,.load t x,ty,p,af,g⟩)(W:ev L x=some (.pointer (some ⟨bk,o+j,none⟩)))(Z:ws[j]? =some v)
  (aa:AT J Q b n ds ops k cs m D fuel (Bd listed i) (AB L d v) s) (ab:Fj ops listed m i=true:=by decide+kernel):AT J Q b n ds ops k cs m D (fuel+1) listed L s:=
 BC i K U V (fun _ h _ hs=>Yl.load ht (h _ _ W) (At.O2 O hs Z)) aa ab
theorem HF{bk o:Nat}{ws:Lv_}(i:Nat)(K:Dt ops m=true)(O:At (BB D s).E bk o ws)(ht:DJ P t=some true)(U:Bz P t=some ws.length)(V:s.q=false)(W:F3 n L ops i=some ⟨d,.load t x,ty,p,af,g⟩)(Z:ev L x=some (.pointer (some ⟨bk,o,none⟩)))
  (aa:AT J Q b n ds ops k cs m D fuel (Bd listed i) (AB L d (.agg ws.toArray)) s) (ab:Fj ops listed m i=true:=by decide+kernel):AT J Q b n ds ops k cs m D (fuel+1) listed L s:=
 BC i K V W (fun _ h _ hs=>FX ht U (h _ _ Z) (At.OS O hs)) aa ab
end
end Pal
namespace Pal
open Go Go.Conc
abbrev Bt:=List (List Int)×List (List Int)
abbrev BR:=List (List Int)×List (List Int)×List Nat
abbrev BZ:=Int×List Int×Nat
abbrev Bo:=Int×Int×List BZ
abbrev A4:=List (Int×Int)
abbrev B8:=List Int×Int×Nat
abbrev Ap:=Option Addr
abbrev Dm:Rp BZ:=rP rI (rP (rL rI) (rN .u16))
abbrev Cn:Rp Bo:=rP rI (rP rI (rL Dm))
abbrev BJ:Rp (Int×Int):=rP rI rI
theorem ip{α:Type}{p:Prop} [Decidable p] {A B:Option α}{r:α}(h:(if p then A else B)=some r)(c:p):A=some r:=by rwa [if_pos c] at h
theorem im{α:Type}{p:Prop} [Decidable p] {A B:Option α}{r:α}(h:(if p then A else B)=some r)(c:¬p):B=some r:=by rwa [if_neg c] at h
theorem ib{α:Type}{c:Bool}{A B:Option α}{r:α}(h:(if c=true then A else B)=some r)(K:c=false):B=some r:=by subst K;simpa using h
def O7(n:Nat)(ops:Ao_):List Nat→Nat→Env→Option (Nat×Env)
 | [],f,L=>some (f,L)
 | i::l,f+1,L=>match Nt n L ops i with
  | some L'=>O7 n ops l f L'
  | none=>none
 | _::_,0,_=>none
def O1(ops:Ao_)(m:Nat):Array Bool→List Nat→Bool
 | _,[]=>true
 | listed,i::l=>Fj ops listed m i&&O1 ops m (Bd listed i) l
def Sp:Array Bool→List Nat→Array Bool
 | listed,[]=>listed
 | listed,i::l=>Sp (Bd listed i) l
theorem Bi{P:Program}{J:Judge P}{Q:Gs_}{b:Frame}{n:Nat}{ds:Ld_}{k:Li_}{cs:Lf_}{s:St}{ops:Ao_}{m:Nat}{D:Nat→Bool}{L':Env}{U:Nat}(V:Dt ops m=true)(W:s.q=false):
  ∀(l:List Nat) {fuel:Nat} {listed:Array Bool} {L:Env},O7 n ops l fuel L=some (U,L')→AT J Q b n ds ops k cs m D U (Sp listed l) L' s→(K:O1 ops m listed l=true:=by decide+kernel)→AT J Q b n ds ops k cs m D fuel listed L s
 | [],fuel,listed,L,h,O,_=>by cases h;exact O
 | i::l,fuel,listed,L,h,O,K=>by
  cases fuel with
  | zero=>cases h
  | succ fuel=>
   unfold O1 at K;rw [Bool.and_eq_true] at K;unfold O7 at h;split at h
   ·rename_i Z e;exact Cv i V W e (Bi V W l h O K.2) K.1
   ·cases h
theorem zg{P:Program}{J:Judge P}{Q:Gs_}{b:Frame}{n:Nat}{L L':Env}{ds:Ld_}{k k':Li_}{cs:Lf_}{s:St}(m:Nat)(h:MW b n m k L=some (k',L'))(K:JL J Q b n L' ds k' cs s):JL J Q b n L ds k cs s:=JL.go m h K
abbrev bX(r:Nat)(c:Ax)(t:TypeId):Seg:= [(r,.cells c t (0,0))]
end Pal
namespace Pal
open Go Go.Conc
section
variable {P:Program}{J:Judge P}{Q:Gs_}{b:Frame}{n:Nat}{L L':Env}{ds:Ld_}{k:Li_}{cs:Lf_}{s:St}{ops:Ao_}{E H:LH}{S:List Seg}
variable {α:Type}{A B:Option α}{r:α}
theorem AK{c:Operand}{x y:Code}{p:Prop} [Decidable p] (K:(if p then A else B)=some r)(O:p→A=some r→JL J Q b n L ds (.code x::k) cs s)(U:¬p→B=some r→JL J Q b n L ds (.code y::k) cs s)
  (V:ev L c=some (.bool (decide p)):=by exact rfl):JL J Q b n L ds (.code (.cond c x y)::k) cs s:=OC V (fun h=>O h (ip K h)) fun h=>U h (im K h)
theorem BM{c:Operand}{x y:Code}{t:Bool}(K:(if t=true then A else B)=some r)(O:t=true→A=some r→JL J Q b n L ds (.code x::k) cs s)(U:t=false→B=some r→JL J Q b n L ds (.code y::k) cs s)
  (V:ev L c=some (.bool t):=by exact rfl):JL J Q b n L ds (.code (.cond c x y)::k) cs s:=QZ V (fun h=>O h (ip K h)) fun h=>U h (ib K h)
theorem Ew{q:Prop} [Decidable q] (i:Nat)(K:(if q then A else B)=some r)(O:q→A=some r→JL J Q b n (AB L (some i) (.bool true)) ds k cs s)(U:¬q→B=some r→JL J Q b n (AB L (some i) (.bool false)) ds k cs s)
  (V:look L i=some (.bool (decide q)):=by exact rfl):JL J Q b n L ds k cs s:=T6 V (fun h=>O h (ip K h)) fun h=>U h (im K h)
theorem Dj{t:Bool}(i:Nat)(K:(if t=true then A else B)=some r)(O:t=true→A=some r→JL J Q b n (AB L (some i) (.bool true)) ds k cs s)(U:t=false→B=some r→JL J Q b n (AB L (some i) (.bool false)) ds k cs s)
  (V:look L i=some (.bool t):=by exact rfl):JL J Q b n L ds k cs s:=Uf V (fun h=>O h (ip K h)) fun h=>U h (ib K h)
theorem CG{K O:Type}{c:Code}{body:K→Option (Bl K O)}{f:Nat}{U:K}{a:O}(W:iter body f U=some a)(I:Env→St→K→Prop)(Z:I L' s U)
  (round:∀L s x,I L s x→(∀V,body x=some (.done V)→V=a)→(∃st,body x=some st)→(∀L' s' x',I L' s' x'→body x=some (.more x')→JL J Q b n L' ds (.inLoop c::k) cs s')→JL J Q b n L ds (.code c:: .inLoop c::k) cs s)
  (aa:Hi L L'=Hl L':=by exact rfl):JL J Q b n L ds (.code (.loop c)::k) cs s:=Ie L' aa (QA W I Z round)
variable {m:Nat}{D:Nat→Bool}{fuel:Nat}{listed:Array Bool}
def M9(ops:Ao_):Array Bool→List Nat→Bool
 | _,[]=>true
 | l,i::t=>Region.ready .any ops l== [i]&&M9 ops (Bd l i) t
theorem Ru:∀{t:List Nat} {l:Array Bool},M9 ops l t=true→∀u,Region.linearise.go .any ops t.length u l []=t
 | [],_,_,_=>rfl
 | i::t,l,h,u=>by
  unfold M9 at h
  rw [Bool.and_eq_true,beq_iff_eq] at h
  exact Yb h.1 (Ru h.2) u
theorem Co(t:List Nat)(O:JL J Q b n L ds (.inRegion ops t::k) cs s)(K:(OY m listed&&M9 ops listed t&&(fuel+1==t.length))=true:=by decide+kernel):AT J Q b n ds ops k cs m D (fuel+1) listed L s:=by
 rw [Bool.and_eq_true,Bool.and_eq_true,beq_iff_eq] at K;exact AT.leaf K.1.1 (by rw [K.2];exact Ru K.1.2) O
theorem DG(m:Nat){id:Nat}(h:Dt ops m=true→AT J Q b n ds ops k cs m DV ops.size (Array.replicate ops.size false) L (Ak E H S))(hm:P.follows .mixedOrders=true:=by exact rfl)(K:(b.kind != .early)=true:=by exact rfl)(ht:Dt ops m=true:=by decide+kernel):
  JL J Q b n L ds (.code (.region id ops true)::k) cs (Ak E H S):=Vu m hm K ht h
theorem Dv(m:Nat)(bks:List Nat){id:Nat}(K:Gg S bks)(O:Ar E H S)(h:Dt ops m=true→AT J Q b n ds ops k cs m (A5 bks) ops.size (Array.replicate ops.size false) L (Ak E H S))(hm:P.follows .mixedOrders=true:=by exact rfl)(U:(b.kind != .early)=true:=by exact rfl)(ht:Dt ops m=true:=by decide+kernel):
  JL J Q b n L ds (.code (.region id ops true)::k) cs (Ak E H S):=Vy m bks K O hm U ht h
theorem Du{α:Type}{pp:Rp α}{a:Option Addr}{c:Nat}{xs:List α}{xv:α}{K:Int}{d:Option Tmp}{x y:Operand}{t ty e:TypeId}{p:String}{af:Ae_}{g:On_}{kd:IntKind}(i:Nat)(O:Ao pp E a c xs)(U:ix xs K=some xv)(V:Dt ops m=true)(ht:P.underlying t=some (.slice e))(W:Bz P e=some pp.n)
  (h:∀bk o ws,pp.r E ws xv→At E bk o ws→AT J Q b n ds ops k cs m D fuel (Bd listed i) (AB L d (.pointer (some ⟨bk,o,none⟩))) s)
  (Z:ops[i]? =some ⟨d,.indexAddr t x y,ty,p,af,g⟩:=by exact rfl) (aa:Fj ops listed m i=true:=by decide+kernel) (ab:s.q=false:=by exact rfl)
  (hw:Bg L ops ⟨d,.indexAddr t x y,ty,p,af,g⟩=some true:=by exact rfl) (ae:BE n d=true:=by exact rfl)
  (ag:ev L x=some (.slice a xs.length c):=by exact rfl) (ah:ev L y=some (.int kd K):=by exact rfl):
  AT J Q b n ds ops k cs m D (fuel+1) listed L s:=XB i O U Z V aa ab hw ae ag ah ht W h
end
end Pal
namespace Pal
open Go Go.Conc
section
variable {P:Program}{J:Judge P}{Q:Gs_}{b:Frame}{n:Nat}{ds:Ld_}{ops:Ao_}{k:Li_}{cs:Lf_}{fuel:Nat}{D:Nat→Bool}{listed:Array Bool}{L L':Env}{s:St}{xl:List Nat}
variable {d:Option Tmp}{op:Op}{ty:TypeId}{p:String}{af:Ae_}{g:On_}{v:Value}
theorem GC(i:Nat)(pure:Bool)(K:s.q=false)(O:F3 n L ops i=some ⟨d,op,ty,p,af,g⟩)
  (U:∀ρ,Eu L ρ→∀s':St,(pure=false→∀x o,(BB D s).E x=some o→s'.E x=some o)→Yl P ⟨d,op,ty,p,af,g⟩ ρ s' v)
  (V:Fu J Q b n ds ops k cs (A5 xl) D fuel (Bd listed i) (AB L d v) s) (W:JP ops listed xl pure i=true:=by decide+kernel):Fu J Q b n ds ops k cs (A5 xl) D (fuel+1) listed L s:=by
 obtain⟨Z,aa,ab⟩:=N1 O;exact Sc i pure Z W K aa ab U V
def Pj(n:Nat)(L:Env)(ops:Ao_)(i:Nat):Option Env:=
 match HP ops.toList i with
 | some ⟨d,op,ty,p,af,g⟩=>match Bg L ops ⟨d,op,ty,p,af,g⟩ with
  | some true=>match BE n d with
   | true=>match IS L op with
    | some v=>match d with
     | some d=>some ((d,v)::L)
     | none=>some L
    | none=>none
   | false=>none
  | _=>none
 | none=>none
theorem Ve{i:Nat}(h:Pj n L ops i=some L'):∃o v,ops[i]? =some o∧BE n o.dst=true∧Bg L ops o=some true∧IS L o.op=some v∧L'=AB L o.dst v:=by
 unfold Pj at h;split at h
 ·rename_i d op ty p af g K;rw [Jo,Array.getElem?_toList] at K;split at h
  ·rename_i hw;split at h
   ·rename_i O;split at h
    ·rename_i v U;refine⟨_,v,K,O,hw,U,?_⟩;cases d with
     | none=>cases h;rfl
     | some d=>cases h;rfl
    ·cases h
   ·cases h
  ·cases h
 ·cases h
theorem Bn(i:Nat)(K:s.q=false)(h:Pj n L ops i=some L')
  (O:Fu J Q b n ds ops k cs (A5 xl) D fuel (Bd listed i) L' s) (U:JP ops listed xl true i=true:=by decide+kernel):Fu J Q b n ds ops k cs (A5 xl) D (fuel+1) listed L s:=by
 obtain⟨o,v,V,W,hw,Z,rfl⟩:=Ve h;exact Sc i true V U K hw W (fun ρ aa s' _=>Mm aa Z) O
end
end Pal
namespace Pal
open Go Go.Conc
section
variable {P:Program}{J:Judge P}{Q:Gs_}{b:Frame}{n:Nat}{L L':Env}{ds:Ld_}{k:Li_}{cs:Lf_}{s:St}{ops:Ao_}{E H:LH}{S:List Seg}{i i2:Nat}{rest:List Nat}
variable {d d2:Option Tmp}{x y x2:Operand}{t t2 ft u ty ty2 e:TypeId}{p p2:String}{af af2:Ae_}{g g2:On_}{v w:Value}
theorem Cs(O:Ar E H S)(h:∀r E',Le E E'→At E' r 0 v.cells.toList→Ar E' H (S++ [[]])→JL J Q b n (AB L d (.pointer (some ⟨r,0,none⟩))) ds (.inRegion ops rest::k) cs (Ak E' H (S++ [[]])))
  (U:Ej b n L ops i=some ⟨d,.box e x,ty,p,af,g⟩:=by exact rfl) (V:ev L x=some v:=by exact rfl):JL J Q b n L ds (.inRegion ops (i::rest)::k) cs (Ak E H S):=by
 obtain⟨W,Z,aa⟩:=IB U;refine JS.box W Z aa O V fun r ab=>Dp (bk:=r) (c:=v.cells) (e:=e) (f:=(0,0)) S.length ab (by simp) fun E' hle ae K=>?_;have ag:(S++ [[(r,Obj.cells v.cells e (0,0))]]).set S.length []=S++ [[]]:=by simp
 rw [ag] at K ⊢;exact h r E' hle ae K
theorem CO{z:Value}(K:Ar E H S)(O:zeroOf P e=some z)(h:∀r,Ar E H (S++ [[(r,.cells z.cells e (0,0))]])→JL J Q b n (AB L d (.pointer (some ⟨r,0,none⟩))) ds (.inRegion ops rest::k) cs (Ak E H (S++ [[(r,.cells z.cells e (0,0))]])))
  (U:Ej b n L ops i=some ⟨d,.alloc e,ty,p,af,g⟩:=by exact rfl):JL J Q b n L ds (.inRegion ops (i::rest)::k) cs (Ak E H S):=by
 obtain⟨V,W,Z⟩:=IB U;exact JS.alloc V W Z K O h
theorem BQ{bk off sz:Nat}{c:Ax}(j:Nat)(K:Ar E H S)(O:Bz P t=some sz)
  (h:Ar E H (S.set j [(bk,.cells (Be c off v.cells.toList) e (0,0))])→JL J Q b n (AB L d undef) ds (.inRegion ops rest::k) cs (Ak E H (S.set j [(bk,.cells (Be c off v.cells.toList) e (0,0))])))
  (U:Ej b n L ops i=some ⟨d,.store t x y,ty,p,af,g⟩:=by exact rfl) (V:ev L x=some (.pointer (some ⟨bk,off,none⟩)):=by exact rfl) (W:ev L y=some v:=by exact rfl) (Z:S[j]? =some [(bk,.cells c e (0,0))]:=by exact rfl)
  (aa:sz=v.cells.size:=by exact rfl) (hle:off+v.cells.size≤c.size:=by exact Nat.le_of_ble_eq_true rfl) (ab:v.cells.toList.all CM=true:=by first | exact rfl | simp [Value.cells,CM]):
  JL J Q b n L ds (.inRegion ops (i::rest)::k) cs (Ak E H S):=SD j K (by rw [← aa];exact O) U V W Z h hle (List.all_eq_true.1 ab)
theorem JL.fl{bk o o1 sz off:Nat}{K:Array Field}{O:Nat}{ws:Lv_}(j:Nat)(U:At E bk o ws)(ht:P.underlying t=some (.struct K))(V:Bz P ft=some (sz+1))(W:DJ P t2=some false)
  (Z:JL J Q b n (AB (AB L d (.pointer (some ⟨bk,o1+off,none⟩))) d2 v) ds (.inRegion ops rest::k) cs (Ak E H S))
  (aa:Ej b n L ops i=some ⟨d,.fieldAddr t x O,ty,p,af,g⟩:=by exact rfl) (ab:ev L x=some (.pointer (some ⟨bk,o1,none⟩)):=by exact rfl) (ae:KF K O=some (off,ft):=by exact rfl)
  (ag:Ej b n (AB L d (.pointer (some ⟨bk,o1+off,none⟩))) ops i2=some ⟨d2,.load t2 x2,ty2,p2,af2,g2⟩:=by exact rfl) (ah:ev (AB L d (.pointer (some ⟨bk,o1+off,none⟩))) x2=some (.pointer (some ⟨bk,o+j,none⟩)):=by exact rfl) (ai:ws[j]? =some v:=by exact rfl):
  JL J Q b n L ds (.inRegion ops (i::i2::rest)::k) cs (Ak E H S):=BF ht V aa ab ae (BW j U W ag ah ai Z)
theorem Cb{α:Type}{pp:Rp α}{a:Option Addr}{c:Nat}{xs:List α}{xv:α}{m:Int}{kd:IntKind}(K:Ao pp E a c xs)(hm:ix xs m=some xv)(ht:P.underlying t=some (.slice e))(O:Bz P e=some pp.n)
  (h:∀bk o ws,pp.r E ws xv→At E bk o ws→JL J Q b n (AB L d (.pointer (some ⟨bk,o,none⟩))) ds (.inRegion ops rest::k) cs (Ak E H S))
  (U:Ej b n L ops i=some ⟨d,.indexAddr t x y,ty,p,af,g⟩:=by exact rfl) (V:ev L x=some (.slice a xs.length c):=by exact rfl) (W:ev L y=some (.int kd m):=by exact rfl):
  JL J Q b n L ds (.inRegion ops (i::rest)::k) cs (Ak E H S):=by
 obtain⟨Z,aa,ab⟩:=IB U;exact V5 K hm Z aa ab V W ht O h
theorem Cu(K:List Seg)(O:Env){todo:Li_}{c:Code}(U:∀E',Le E E'→Ar E' H K→JL J Q b n O ds todo cs (Ak E' H K))
  (h:(∀{E':LH} {L:Env},Le E E'→Ar E' H K→Hi L O=Hl O→JL J Q b n L ds todo cs (Ak E' H K))→JL J Q b n L ds (.code c::todo) cs (Ak E H S)):JL J Q b n L ds (.code c::todo) cs (Ak E H S):=
 h fun V W Z=>Ay (U _ V W) Z
theorem CV{U:List Nat}(V W:Nat)(K:List Seg)(O:Env){todo:Li_}(Z:∀E',Le E E'→Ar E' H K→JL J Q b n O ds (.inRegion ops (List.range' V W)::todo) cs (Ak E' H K))
  (h:(∀{E':LH} {L:Env},Le E E'→Ar E' H K→Hi L O=Hl O→JL J Q b n L ds (.inRegion ops (List.range' V W)::todo) cs (Ak E' H K))→JL J Q b n L ds (.inRegion ops U::todo) cs (Ak E H S)):JL J Q b n L ds (.inRegion ops U::todo) cs (Ak E H S):=
 h fun aa ab ae=>Ay (Z _ aa ab) ae
theorem CC{O aa:Type}{c:Code}{body:O→Option (Bl O aa)}{f:Nat}{V:O}{a:aa}{W:LH}{k:Li_}(ae:iter body f V=some a)(K:O→List Seg)(U:O→Env)(hle:Le W E)(ag:Ar E H (K V))
  (round:∀x E',Le W E'→Ar E' H (K x)→(∀ab,body x=some (.done ab)→ab=a)→(∃st,body x=some st)→(∀{L':Env} {Z:LH} (x':O),Le W Z→Ar Z H (K x')→Hi L' (U x')=Hl (U x')→body x=some (.more x')→JL J Q b n L' ds (.inLoop c::k) cs (Ak Z H (K x')))→JL J Q b n (U x) ds (.code c:: .inLoop c::k) cs (Ak E' H (K x)))
  (ah:Hi L (U V)=Hl (U V):=by exact rfl) (ai:Ak E H S=Ak E H (K V):=by exact rfl):JL J Q b n L ds (.code (.loop c)::k) cs (Ak E H S):=by
 rw [ai];refine Ie _ ah (QA ae (fun L s x=>∃E',Jm W H E' (K x) (U x) L s) ⟨E,rfl,rfl,hle,ag⟩ ?_);rintro _ _ x ⟨E',rfl,rfl,aj,ak⟩ hd hb al;exact round x E' aj ak hd hb fun x' am g2 an ao=>Ay (al _ _ x' ⟨_,rfl,rfl,am,g2⟩ ao) an
theorem Bc{f:FuncId}{fn:Func}{c:Code}{E:LH}{vs:Lv_}{B:Seg}{R:Value→LH→Seg→Prop}(O:P.funcs[f]? =some fn)
  (h:∀(Q:Gs_) (K:Frame) (cs:Lf_) (H:LH),Ar E H [B]→(∀{v:Value} {E':LH} {S':List Seg} {B':Seg},Le E E'→S'.flatten=B'→R v E' B'→Ar E' H S'→J.ok Q (G (K.finish v) cs) (Ak E' H S'))→JL J Q (base f) fn.ntmps (FH 0 vs) [] [.code c] (K::cs) (Ak E H [B]))
  (hb:fn.body=some c:=by exact rfl) (U:Nat.ble vs.length fn.ntmps=true:=by exact rfl):AQ J f vs E B R:=
 OE O hb U fun Q K cs H V W=>h Q K cs H V fun Z aa ab ae=>W _ _ _ _ Z aa ab ae
variable {m:Nat}{fuel:Nat}{listed:Array Bool}{bks xl:List Nat}
theorem EX{bk:Nat}{c:Ax}{f:Nat×Nat}(i:Nat)(K:Dt ops m=true)(o:Nat)(j:Nat)(O:Ar E H S)(U:DJ P t=some false)
  (V:AT J Q b n ds ops k cs m (A5 bks) fuel (Bd listed i) (AB L d w) (Ak E H S)) (W:F3 n L ops i=some ⟨d,.load t x,ty,p,af,g⟩:=by exact rfl) (Z:ev L x=some (.pointer (some ⟨bk,o,none⟩)):=by exact rfl)
  (aa:S[j]? =some [(bk,.cells c e f)]:=by exact rfl) (hw:c[o]? =some w:=by exact rfl) (ab:A5 bks bk=true:=by simp [A5]) (ae:Fj ops listed m i=true:=by decide+kernel):AT J Q b n ds ops k cs m (A5 bks) (fuel+1) listed L (Ak E H S):=
 BC i K rfl W (fun ρ h s' hs=>Yl.load U (h _ _ Z) (Kf (o:=o) j O aa ab hs hw)) V ae
theorem JG.lp{bk o:Nat}{ws:Lv_}(i:Nat)(K:Dt ops m=true)(j:Nat)(O:At E bk o ws)(U:Ar E H S)(V:Gg S bks)(W:DJ P t=some false)
  (Z:AT J Q b n ds ops k cs m (A5 bks) fuel (Bd listed i) (AB L d w) (Ak E H S)) (aa:F3 n L ops i=some ⟨d,.load t x,ty,p,af,g⟩:=by exact rfl) (ab:ev L x=some (.pointer (some ⟨bk,o+j,none⟩)):=by exact rfl)
  (hw:ws[j]? =some w:=by exact rfl) (ae:Fj ops listed m i=true:=by decide+kernel):AT J Q b n ds ops k cs m (A5 bks) (fuel+1) listed L (Ak E H S):=
 BC i K rfl aa (fun ρ h s' hs=>Yl.load W (h _ _ ab) (At.O2 (j:=j) O (OV U hs V) hw)) Z ae
theorem D2{bk o sz:Nat}{c:Ax}{f:Nat×Nat}(i:Nat)(K:Dt ops m=true)(vs:Lv_)(j:Nat)(O:Ar E H S)(hw:∀(q:Nat) w,vs[q]? =some w→c[o+q]? =some w)(U:DJ P t=some true)(V:Bz P t=some sz)
  (W:AT J Q b n ds ops k cs m (A5 bks) fuel (Bd listed i) (AB L d (.agg vs.toArray)) (Ak E H S)) (Z:F3 n L ops i=some ⟨d,.load t x,ty,p,af,g⟩:=by exact rfl) (aa:ev L x=some (.pointer (some ⟨bk,o,none⟩)):=by exact rfl)
  (ab:S[j]? =some [(bk,.cells c e f)]:=by exact rfl) (ae:sz=vs.length:=by exact rfl) (ag:A5 bks bk=true:=by simp [A5]) (ah:Fj ops listed m i=true:=by decide+kernel):AT J Q b n ds ops k cs m (A5 bks) (fuel+1) listed L (Ak E H S):=
 BC i K rfl Z (fun ρ h s' hs=>FX (vs:=vs) U (by rw [← ae];exact V) (h _ _ aa) (fun q w ai=>by rw [Ed rfl];exact Kf j O ab ag hs (hw q w ai))) W ah
theorem F0{D:Nat→Bool}{α:Type}{xs:List α}{xv:α}{K:Int}{bk c sz O:Nat}{kd:IntKind}(i:Nat)(U:Dt ops m=true)(V:xs.length=O)(hm:ix xs K=some xv)(ht:P.underlying t=some (.slice e))(W:Bz P e=some sz)
  (Z:AT J Q b n ds ops k cs m D fuel (Bd listed i) (AB L d (.pointer (some ⟨bk,K.toNat*sz,none⟩))) s) (aa:s.q=false:=by exact rfl) (ab:F3 n L ops i=some ⟨d,.indexAddr t x y,ty,p,af,g⟩:=by exact rfl)
  (ae:ev L x=some (.slice (some ⟨bk,0,none⟩) O c):=by exact rfl) (ag:ev L y=some (.int kd K):=by exact rfl) (ah:Fj ops listed m i=true:=by decide+kernel):AT J Q b n ds ops k cs m D (fuel+1) listed L s:=
 BC i U aa ab (fun ρ h s' hs=>Gu V hm ht W (h _ _ ae) (h _ _ ag)) Z ah
theorem Cq{D:Nat→Bool}{α:Type}{xs:List α}{xv:α}{K:Int}{bk c sz O:Nat}{kd:IntKind}(i:Nat)(U:xs.length=O)(hm:ix xs K=some xv)(ht:P.underlying t=some (.slice e))(V:Bz P e=some sz)
  (W:Fu J Q b n ds ops k cs (A5 xl) D fuel (Bd listed i) (AB L d (.pointer (some ⟨bk,K.toNat*sz,none⟩))) s) (Z:s.q=false:=by exact rfl) (aa:F3 n L ops i=some ⟨d,.indexAddr t x y,ty,p,af,g⟩:=by exact rfl)
  (ab:ev L x=some (.slice (some ⟨bk,0,none⟩) O c):=by exact rfl) (ae:ev L y=some (.int kd K):=by exact rfl) (ag:JP ops listed xl true i=true:=by decide+kernel):Fu J Q b n ds ops k cs (A5 xl) D (fuel+1) listed L s:=
 GC i true Z aa (fun ρ h s' hs=>Gu U hm ht V (h _ _ ab) (h _ _ ae)) W ag
theorem Eg{bk o sz:Nat}{c:Ax}{f:Nat×Nat}(i:Nat)(vs:Lv_)(j:Nat)(K:Ar E H S)(hw:∀(q:Nat) w,vs[q]? =some w→c[o+q]? =some w)(O:DJ P t=some true)(U:Bz P t=some sz)
  (V:Fu J Q b n ds ops k cs (A5 xl) (A5 bks) fuel (Bd listed i) (AB L d (.agg vs.toArray)) (Ak E H S)) (W:F3 n L ops i=some ⟨d,.load t x,ty,p,af,g⟩:=by exact rfl) (Z:ev L x=some (.pointer (some ⟨bk,o,none⟩)):=by exact rfl)
  (aa:S[j]? =some [(bk,.cells c e f)]:=by exact rfl) (ab:sz=vs.length:=by exact rfl) (ae:A5 bks bk=true:=by simp [A5]) (ag:JP ops listed xl false i=true:=by decide+kernel):Fu J Q b n ds ops k cs (A5 xl) (A5 bks) (fuel+1) listed L (Ak E H S):=
 GC i false rfl W (fun ρ h s' hs=>FX (vs:=vs) O (by rw [← ab];exact U) (h _ _ Z) (fun q w ah=>by rw [Ed rfl];exact Kf j K aa ae (hs rfl) (hw q w ah))) V ag
theorem Ef{bk off sz:Nat}{c:Ax}{D:Nat→Bool}(i j:Nat)(K:Ar E H S)(O:Bz P t=some sz)(hle:off+sz≤c.size)
  (h:Ar E H (S.set j [(bk,.cells (Be c off v.cells.toList) e (0,0))])→Fu J Q b n ds ops k cs (A5 xl) D fuel (Bd listed i) (AB L d undef) (Ak E H (S.set j [(bk,.cells (Be c off v.cells.toList) e (0,0))])))
  (U:F3 n L ops i=some ⟨d,.store t x y,ty,p,af,g⟩:=by exact rfl) (V:ev L x=some (.pointer (some ⟨bk,off,none⟩)):=by exact rfl) (W:ev L y=some v:=by exact rfl) (Z:S[j]? =some [(bk,.cells c e (0,0))]:=by exact rfl)
  (aa:sz=v.cells.size:=by exact rfl) (ab:v.cells.toList.all CM=true:=by first | exact rfl | simp [Value.cells,CM]) (ae:Region.ready .any ops listed= [i]:=by decide+kernel) (ag:A5 xl i=true:=by decide+kernel):
  Fu J Q b n ds ops k cs (A5 xl) D (fuel+1) listed L (Ak E H S):=by
 obtain⟨ah,ai,aj⟩:=N1 U;subst aa;exact JB.store i j ae ag ah ai aj K V W O (List.all_eq_true.1 ab) Z hle h
end
end Pal
namespace Pal
open Go Go.Conc Go.Proofs
end Pal
namespace Pal
open Go Go.Conc Go.Proofs
end Pal
namespace Pal
open Go Go.Conc Go.Proofs
open Go.Proofs.Tryz
variable {J:Judge Tryz.prog}{E:LH}
def AW:=Bq Tryz.type3
def Bx:=DZ Tryz.underlying3
def BV:=Bq Tryz.type28
def C4:=DZ Tryz.underlying28
def HY:=Bq Tryz.type90
def Lt:=DZ Tryz.underlying90
def Hw:=A2 Tryz.func41 rfl
def Cz:=DY Tryz.type3
def CS:=Bq Tryz.type27
def FD:=Bq Tryz.type4
def Nw:=DZ Tryz.underlying4
def Cl:=Bq Tryz.type22
def CW:=DZ Tryz.underlying22
def NA:=A2 Tryz.func104 rfl
def Cy:=DZ Tryz.underlying24
def Cc:=Bq Tryz.type24
def LD:=DY Tryz.type4
def J3:=DY Tryz.type24
def EF:=DY Tryz.type28
def F6:=DY Tryz.type27
def NB:=A2 Tryz.func103 rfl
def Lz:=A2 Tryz.func90 rfl
def Ir:=A2 Tryz.func101 rfl
def FP:=DY Tryz.type183
def Iq:=DZ Tryz.underlying27
def NC:=A2 Tryz.func112 rfl
def It:=A2 Tryz.func89 rfl
def I0:=A2 Tryz.func120 rfl
def El:=Bq Tryz.type102
def GK:=DZ Tryz.underlying102
def Ci:=Bq Tryz.type104
def FO:=DZ Tryz.underlying104
def GM:=DY Tryz.type104
def F7:=Bq Tryz.type139
def HX:=Bq Tryz.type138
def Lr:=DZ Tryz.underlying139
def Ly:=A2 Tryz.func92 rfl
def LG:=Bq Tryz.type25
def JZ:=DZ Tryz.underlying25
def NI:=Bq Tryz.type94
def Lu:=DZ Tryz.underlying94
def Dy:=Bq Tryz.type95
def EE:=DZ Tryz.underlying95
def FC:=DZ Tryz.underlying173
def Dh:=Bq Tryz.type97
def HV:=DY Tryz.type133
def AP:=Bq Tryz.type133
def Ls:=DZ Tryz.underlying162
def Ch:=DZ Tryz.underlying133
def GL:=A2 Tryz.func134 rfl
def Ny:=A2 Tryz.func200 rfl
def Nz:=A2 Tryz.func178 rfl
def Lx:=A2 Tryz.func162 rfl
def FQ:=DY Tryz.type97
def HU:=DZ Tryz.underlying97
def J1:=A2 Tryz.func69 rfl
def LA:=A2 Tryz.func93 rfl
def J0:=A2 Tryz.func78 rfl
def Lw:=A2 Tryz.func168 rfl
def HW:=A2 Tryz.func71 rfl
def ND:=A2 Tryz.func72 rfl
def NG:=A2 Tryz.func32 rfl
def NF:=A2 Tryz.func96 rfl
def J2:=A2 Tryz.func97 rfl
def LB:=A2 Tryz.func99 rfl
def LF:=Bq Tryz.type75
def NH:=A2 Tryz.func22 rfl
def J4:=Bq Tryz.type68
theorem mixed:Tryz.prog.follows .mixedOrders=true:=rfl
def f101(fuel:Nat)(p0:Int)(p1:Int)(p2:Int):Option Bool:= Option.bind (if p0<p1 then(some true) else(some (decide (p2<p0)))) fun K=> some K
theorem IJ{p0:Int}{p1:Int}{p2:Int}{fuel:Nat}{r:Bool}(K:f101 fuel p0 p1 p2=some r):AQ J 101 [iV p0,iV p1,iV p2] E [] (fun w E' B'=>w= .bool r∧B'= []):=by
 refine Bc func101 fun Q aj cs H O V=>?_;unfold f101 at K;obtain⟨W,Z,aa⟩:=bs K;refine zg 10 rfl (CV 8 1 [] [(14,.bool W)] (fun ak ab ae=>?_) (fun U=>?_))
 ·refine zg 2 rfl ?_;obtain rfl:=oi aa;exact AF func101 rfl rfl (V ab rfl ⟨rfl,rfl⟩ ae)
 ·refine Ew 10 Z (fun ag ah=>?_) (fun ag ai=>?_)
  ·refine zg 4 rfl ?_;obtain rfl:=oi ah;exact U Aq O rfl
  ·refine zg 4 rfl ?_;obtain rfl:=oi ai;exact U Aq O rfl
def f104(fuel:Nat)(p0:Int)(p1:Int)(p2:Int):Option Bool:= Option.bind (if p1≤p0 then(some (decide (p0≤p2))) else(some false)) fun K=> some K
theorem OG{p0:Int}{p1:Int}{p2:Int}{fuel:Nat}{r:Bool}(K:f104 fuel p0 p1 p2=some r):AQ J 104 [iV p0,iV p1,iV p2] E [] (fun w E' B'=>w= .bool r∧B'= []):=by
 refine Bc func104 fun Q aj cs H O V=>?_;unfold f104 at K;obtain⟨W,Z,aa⟩:=bs K;refine zg 10 rfl (CV 8 1 [] [(14,.bool W)] (fun ak ab ae=>?_) (fun U=>?_))
 ·refine zg 2 rfl ?_;obtain rfl:=oi aa;exact AF func104 rfl rfl (V ab rfl ⟨rfl,rfl⟩ ae)
 ·refine Ew 10 Z (fun ag ah=>?_) (fun ag ai=>?_)
  ·refine zg 4 rfl ?_;obtain rfl:=oi ah;exact U Aq O rfl
  ·refine zg 4 rfl ?_;obtain rfl:=oi ai;exact U Aq O rfl
def Md(fuel:Nat)(p0:List Int)(p1:Int)(K:Int):Option (Bl Int ((Int)⊕(Unit))):= if K<(p0.length:Int) then((ix p0 K).bind fun O=> if O=p1 then(some (.done (Sum.inl K))) else((Au (K+1)).bind fun U=> some (.more U))) else(some (.done (Sum.inr ())))
def f107(fuel:Nat)(p0:List Int)(p1:Int):Option Int:= Option.bind (iter (Md fuel p0 p1) fuel 0) fun K=> Sum.elim (fun r=>some r) (fun O=> some (-1)) K
theorem X7{U:Ap}{c2:Nat}{p0:List Int}{p1:Int}(ak:Ao rI E U c2 p0){fuel:Nat}{r:Int}(Z:f107 fuel p0 p1=some r):AQ J 107 [sV U p0 c2,iV p1] E [] (fun w E' B'=>w=iV r∧B'= []):=by
 refine Bc func107 fun Q aK cs H al aa=>?_;unfold f107 at Z;obtain⟨ab,am,ae⟩:=bs Z;refine zg 9 rfl (Bs (fun L s=>∃(ag:Unit) (ah:LH),ab=Sum.inr ag∧Jm E H ah [] [] L s) ?_ ?_)
 ·rintro _ _ ⟨ag,ah,rfl,rfl,rfl,an,ao⟩;have ap:=elim_inr ae;refine zg 4 rfl ?_;obtain rfl:=oi ap;exact AF func107 rfl rfl (aa an rfl ⟨rfl,rfl⟩ ao)
 ·intro aq;refine JL.block (CC am (fun V=> []) (fun V=> [(0,sV U p0 c2),(1,iV p1),(5,iV V)]) Aq al ?_);rintro V ar K W ai ⟨aL,O⟩ au;have aj:=O;unfold Md at aj;refine zg 5 rfl (Bp underlying28 rfl rfl rfl ?_);refine zg 2 rfl (AK aj (fun av aw=>?_) (fun av ay=>?_))
  ·obtain⟨aM,az,aA⟩:=bs aw;refine zg 7 rfl (Cb (ak.Ai K) az underlying28 AW ?_);rintro aN aO _ rfl aB;refine BW 0 aB Bx rfl rfl rfl (zg 3 rfl ?_);refine AK aA (fun aC aD=>?_) (fun aC aE=>?_)
   ·refine zg 5 rfl ?_;obtain rfl:=oi aD;obtain rfl:=ai _ O;have aF:=elim_inl ae;obtain rfl:=oi aF;exact AF func107 rfl rfl (aa K rfl ⟨rfl,rfl⟩ W)
   ·obtain⟨aG,aH,aI⟩:=bs aE;refine zg 4 rfl (Ba aH rfl rfl rfl ?_);refine zg 2 rfl ?_;obtain rfl:=oi aI;exact au aG K W rfl O
  ·refine JL.exit rfl ?_;obtain rfl:=oi ay;have aJ:ab=(Sum.inr ()):=(ai _ O).symm;exact Ay (aq _ _ ⟨(),ar,aJ,rfl,rfl,K,W⟩) rfl
def f53(fuel:Nat)(p0:List Int)(p1:Int):Option Bool:= (f107 fuel p0 p1).bind fun K=> some (decide (0≤K))
theorem YN{K:Ap}{c2:Nat}{p0:List Int}{p1:Int}(U:Ao rI E K c2 p0){fuel:Nat}{r:Bool}(O:f53 fuel p0 p1=some r):AQ J 53 [sV K p0 c2,iV p1] E [] (fun w E' B'=>w= .bool r∧B'= []):=by
 refine Bc func53 fun Q ag cs H V W=>?_;unfold f53 at O;obtain⟨ah,Z,aa⟩:=bs O;refine zg 8 rfl (BH (X7 U Z) rfl rfl (A2 func107 rfl) V fun ai ab ae=>?_);refine zg 3 rfl ?_;obtain rfl:=oi aa;exact AF func53 rfl rfl (W ab rfl ⟨rfl,rfl⟩ ae)
def Si(fuel:Nat)(p0:List Int)(p1:List Int)(K:Int):Option (Bl Int ((Bool)⊕(Unit))):= Option.bind (if K<(p0.length:Int) then(some (decide (K<(p1.length:Int)))) else(some false)) fun O=> if O=true then((ix p0 K).bind fun U=> (ix p1 K).bind fun V=> if U≠V then(some (.done (Sum.inl false))) else((Au (K+1)).bind fun W=> some (.more W))) else(some (.done (Sum.inr ())))
def f32(fuel:Nat)(p0:List Int)(p1:List Int):Option Bool:= Option.bind (iter (Si fuel p0 p1) fuel 0) fun K=> Sum.elim (fun r=>some r) (fun O=> some (decide ((p0.length:Int)=(p1.length:Int)))) K
theorem O5{K:Ap}{c2:Nat}{O:Ap}{U:Nat}{p0:List Int}{p1:List Int}(ar:Ao rI E K c2 p0)(au:Ao rI E O U p1){fuel:Nat}{r:Bool}(ah:f32 fuel p0 p1=some r):AQ J 32 [sV K p0 c2,sV O p1 U] E [] (fun w E' B'=>w= .bool r∧B'= []):=by
 refine Bc func32 fun Q a0 cs H av ai=>?_;unfold f32 at ah;obtain⟨aj,aw,ak⟩:=bs ah;refine zg 9 rfl (Bs (fun L s=>∃(al:Unit) (am:LH),aj=Sum.inr al∧Jm E H am [] [(0,sV K p0 c2),(1,sV O p1 U)] L s) ?_ ?_)
 ·rintro _ _ ⟨al,am,rfl,rfl,rfl,ay,az⟩;have aA:=elim_inr ak;refine zg 3 rfl (Bp underlying28 rfl rfl rfl ?_);refine zg 1 rfl (Bp underlying28 rfl rfl rfl ?_);refine zg 3 rfl ?_;obtain rfl:=oi aA;exact AF func32 rfl rfl (ai ay rfl ⟨rfl,rfl⟩ az)
 ·intro aB;refine JL.block (CC aw (fun Z=> []) (fun Z=> [(0,sV K p0 c2),(1,sV O p1 U),(5,iV Z)]) Aq av ?_);rintro Z ab V an ao ⟨a1,aa⟩ aC;have ap:=aa;unfold Si at ap;refine zg 5 rfl (Bp underlying28 rfl rfl rfl ?_);obtain⟨aD,aE,aF⟩:=bs ap;refine zg 2 rfl (Gb [] (fun L s=>∃(ae:LH),Jm ab H ae [] [(0,sV K p0 c2),(1,sV O p1 U),(5,iV Z),(15,.bool aD)] L s) ?_ ?_)
  ·rintro _ _ ⟨ae,rfl,rfl,W,ag⟩;refine JL.done (BM aF (fun aG aH=>?_) (fun aG aI=>?_))
   ·refine zg 4 rfl (DG 8 fun ht=>?_);refine Bi ht rfl [0,1] rfl ?_;obtain⟨a2,aJ,aK⟩:=bs aH;refine Du 2 (ar.Ai (V.Ac W)) aJ ht underlying28 AW ?_;rintro a3 a4 _ rfl aL;refine CI 3 ht 0 aL Bx rfl rfl rfl rfl (Bi ht rfl [4,5] rfl ?_);obtain⟨a5,aM,aN⟩:=bs aK;refine Du 6 (au.Ai (V.Ac W)) aM ht underlying28 AW ?_;rintro a6 a7 _ rfl aO;refine CI 7 ht 0 aO Bx rfl rfl rfl rfl (Co [8] ?_);refine zg 2 rfl (AK aN (fun aP aQ=>?_) (fun aP aR=>?_))
    ·refine zg 4 rfl ?_;obtain rfl:=oi aQ;obtain rfl:=ao _ aa;have aS:=elim_inl ak;obtain rfl:=oi aS;exact AF func32 rfl rfl (ai (V.Ac W) rfl ⟨rfl,rfl⟩ ag)
    ·obtain⟨aT,aU,aV⟩:=bs aR;refine zg 4 rfl (Ba aU rfl rfl rfl ?_);refine zg 2 rfl ?_;obtain rfl:=oi aV;exact aC aT (V.Ac W) ag rfl aa
   ·refine JL.exit rfl ?_;obtain rfl:=oi aI;have aW:aj=(Sum.inr ()):=(ao _ aa).symm;exact Ay (aB _ _ ⟨(),ae,aW,rfl,rfl,(V.Ac W),ag⟩) rfl
  ·intro aq;refine Ew 10 aE (fun aX aY=>?_) (fun aX aZ=>?_)
   ·refine zg 2 rfl (Bp underlying28 rfl rfl rfl ?_);refine zg 2 rfl ?_;obtain rfl:=oi aY;exact Ay (aq _ _ ⟨ab,rfl,rfl,Aq,an⟩) rfl
   ·refine zg 5 rfl ?_;obtain rfl:=oi aZ;exact Ay (aq _ _ ⟨ab,rfl,rfl,Aq,an⟩) rfl
def f23(fuel:Nat)(p0:List Int):Option ((B8)):= some (p0,0,2685821657736338717)
theorem YG{K:Ap}{c2:Nat}{p0:List Int}(Z:Ao rI E K c2 p0){fuel:Nat}{r:(B8)}(O:f23 fuel p0=some r):AQ J 23 [sV K p0 c2] E [] (fun w E' B'=>∃(U:Nat) (V:Ap) (W:Nat),w= pV U 0∧B'= [(U,.cells #[sV V r.1 W,iV r.2.1,.int .u64 ((r.2.2:Nat):Int)] 92 (0,0))]∧Ao rI E' V W r.1):=by
 refine Bc func23 fun Q ah cs H aa ab=>?_;unfold f23 at O;refine zg 7 rfl (AA (v:= .agg #[sV K p0 c2,iV 0,.int .u64 ((2685821657736338717:Nat):Int)]) rfl (fun ρ h=>Dc [(0,1),(1,1),(2,1)] h (DY type92) underlying92 ⟨rfl,Bq type28,rfl,Bq type3,rfl,Bq type90,trivial⟩ rfl rfl) ?_);refine JS.box (v:= .agg #[sV K p0 c2,iV 0,.int .u64 ((2685821657736338717:Nat):Int)]) rfl rfl rfl aa rfl fun ae ag=>zg 2 rfl ?_;obtain rfl:=oi O;exact AF func23 rfl rfl (ab Aq rfl ⟨ae,K,c2,rfl,(by first | rfl | simp | (simp [Value.cells])),Z⟩ ag)
def f100(fuel:Nat)(p0:B8):Option (Nat×(B8)):= (Au (p0.2.1+1)).bind fun O=> Option.bind (if O≤(p0.1.length:Int) then((Au (O - 1)).bind fun U=> (ix p0.1 U).bind fun V=> some (((((Da O)*11400714819323198485) % 2 ^ 64) ^^^ (((Da V)*14029467366897019727) % 2 ^ 64)) % 2 ^ 64)) else(some (((Da O)*11400714819323198485) % 2 ^ 64))) fun K=> some (((((((((((p0.2.2 ^^^ K) % 2 ^ 64)*18397679294719823053) % 2 ^ 64) ^^^ (((((p0.2.2 ^^^ K) % 2 ^ 64)*18397679294719823053) % 2 ^ 64)>>>33)) % 2 ^ 64)*14181476777654086739) % 2 ^ 64) ^^^ (((((((((p0.2.2 ^^^ K) % 2 ^ 64)*18397679294719823053) % 2 ^ 64) ^^^ (((((p0.2.2 ^^^ K) % 2 ^ 64)*18397679294719823053) % 2 ^ 64)>>>33)) % 2 ^ 64)*14181476777654086739) % 2 ^ 64)>>>29)) % 2 ^ 64)>>>11,(p0.1,O,(((((p0.2.2 ^^^ K) % 2 ^ 64)*18397679294719823053) % 2 ^ 64) ^^^ (((((p0.2.2 ^^^ K) % 2 ^ 64)*18397679294719823053) % 2 ^ 64)>>>33)) % 2 ^ 64))
theorem XW{bk:Nat}{V:Ap}{c2:Nat}{p0:B8}(aa:Ao rI E V c2 p0.1){fuel:Nat}{r:Nat×(B8)}(ab:f100 fuel p0=some r):AQ J 100 [pV bk 0] E [(bk,.cells #[sV V p0.1 c2,iV p0.2.1,.int .u64 ((p0.2.2:Nat):Int)] 92 (0,0))] (fun w E' B'=>∃(ae:Ap) (ag:Nat),w= .int .u64 ((r.1:Nat):Int)∧B'= [(bk,.cells #[sV ae r.2.1 ag,iV r.2.2.1,.int .u64 ((r.2.2.2:Nat):Int)] 92 (0,0))]∧Ao rI E' ae ag r.2.1):=by
 refine Bc func100 fun Q aC cs H ah am=>?_;unfold f100 at ab;refine zg 8 rfl (BF underlying92 AW rfl rfl rfl ?_);refine AA (v:=iV p0.2.1) rfl (fun ρ h=>Yl.load Bx (h _ _ rfl) (D5 (j:=0) (off:=1) ah rfl rfl)) ?_;obtain⟨U,an,ao⟩:=bs ab;refine Ba an rfl rfl rfl (zg 1 rfl ?_);refine BF underlying92 AW rfl rfl rfl (BQ 0 ah AW fun O=>?_);refine zg 5 rfl (BF underlying92 AW rfl rfl rfl ?_);refine AA (v:=iV U) rfl (fun ρ h=>Yl.load Bx (h _ _ rfl) (D5 (j:=0) (off:=1) O rfl rfl)) (AA (v:= .int .u64 ((Da U:Nat):Int)) rfl (fun ρ h=>Yl.Da underlying3 underlying90 (h _ _ rfl)) ?_);refine AA (v:= .int .u64 ((((Da U)*11400714819323198485) % 2 ^ 64:Nat):Int)) rfl (fun ρ h=>Mq (h _ _ rfl) (h _ _ rfl)) (zg 4 rfl ?_);refine Dv 9 [bk] ⟨⟨0,_,rfl⟩,trivial⟩ O fun ht=>Bi ht rfl [0,1] rfl (B6 2 ht underlying92 AW rfl rfl rfl rfl ?_);refine EX 3 ht 1 0 O Bx ?_;refine Bi ht rfl [4,5] rfl (B6 6 ht underlying92 BV rfl rfl rfl rfl ?_);refine EX 7 ht 0 0 O C4 ?_;refine BC 8 ht rfl rfl (fun ρ h s' hs=>Yl.len rfl underlying28 (h _ _ rfl)) (Co [9] ?_);obtain⟨K,ap,aq⟩:=bs ao;refine zg 2 rfl (Cu [bX bk #[sV V p0.1 c2,iV U,.int .u64 ((p0.2.2:Nat):Int)] 92] [(0,pV bk 0),(3,.int .u64 ((K:Nat):Int))] (fun aD ai aj=>?_) (fun ak=>?_))
 ·refine zg 5 rfl (BF underlying92 HY rfl rfl rfl ?_);refine AA (v:= .int .u64 ((p0.2.2:Nat):Int)) rfl (fun ρ h=>Yl.load Lt (h _ _ rfl) (D5 (j:=0) (off:=2) aj rfl rfl)) (zg 1 rfl ?_);refine AA (v:= .int .u64 (((p0.2.2 ^^^ K) % 2 ^ 64:Nat):Int)) rfl (fun ρ h=>Ml (h _ _ rfl) (h _ _ rfl)) (AA (v:= .int .u64 (((((p0.2.2 ^^^ K) % 2 ^ 64)*18397679294719823053) % 2 ^ 64:Nat):Int)) rfl (fun ρ h=>Mq (h _ _ rfl) (h _ _ rfl)) ?_);refine zg 1 rfl (BF underlying92 HY rfl rfl rfl ?_);refine BQ 0 aj HY fun W=>?_;refine zg 2 rfl (Dv 11 [bk] ⟨⟨0,_,rfl⟩,trivial⟩ W fun ht=>?_);refine Bi ht rfl [0,1,2] rfl (B6 3 ht underlying92 HY rfl rfl rfl rfl ?_);refine EX 4 ht 2 0 W Lt ?_;refine Bi ht rfl [5,6] rfl (B6 7 ht underlying92 HY rfl rfl rfl rfl ?_);refine EX 8 ht 2 0 W Lt ?_;refine BC (v:= .int .u64 ((((((p0.2.2 ^^^ K) % 2 ^ 64)*18397679294719823053) % 2 ^ 64)>>>33:Nat):Int)) 9 ht rfl rfl (fun ρ h s' hs=>Jp 33 (h _ _ rfl) (h _ _ rfl) (by decide)) (BC (v:= .int .u64 (((((((p0.2.2 ^^^ K) % 2 ^ 64)*18397679294719823053) % 2 ^ 64) ^^^ (((((p0.2.2 ^^^ K) % 2 ^ 64)*18397679294719823053) % 2 ^ 64)>>>33)) % 2 ^ 64:Nat):Int)) 10 ht rfl rfl (fun ρ h s' hs=>Ml (h _ _ rfl) (h _ _ rfl)) ?_);refine Co [11,12,13] (zg 1 rfl ?_);refine BF underlying92 HY rfl rfl rfl (BQ 0 W HY fun al=>?_);refine zg 5 rfl (BF underlying92 HY rfl rfl rfl ?_);refine AA (v:= .int .u64 (((((((p0.2.2 ^^^ K) % 2 ^ 64)*18397679294719823053) % 2 ^ 64) ^^^ (((((p0.2.2 ^^^ K) % 2 ^ 64)*18397679294719823053) % 2 ^ 64)>>>33)) % 2 ^ 64:Nat):Int)) rfl (fun ρ h=>Yl.load Lt (h _ _ rfl) (D5 (j:=0) (off:=2) al rfl rfl)) (AA (v:= .int .u64 (((((((((p0.2.2 ^^^ K) % 2 ^ 64)*18397679294719823053) % 2 ^ 64) ^^^ (((((p0.2.2 ^^^ K) % 2 ^ 64)*18397679294719823053) % 2 ^ 64)>>>33)) % 2 ^ 64)*14181476777654086739) % 2 ^ 64:Nat):Int)) rfl (fun ρ h=>Mq (h _ _ rfl) (h _ _ rfl)) ?_);refine zg 6 rfl (AA (v:= .int .u64 ((((((((((p0.2.2 ^^^ K) % 2 ^ 64)*18397679294719823053) % 2 ^ 64) ^^^ (((((p0.2.2 ^^^ K) % 2 ^ 64)*18397679294719823053) % 2 ^ 64)>>>33)) % 2 ^ 64)*14181476777654086739) % 2 ^ 64)>>>29:Nat):Int)) rfl (fun ρ h=>Jp 29 (h _ _ rfl) (h _ _ rfl) (by decide)) ?_);refine AA (v:= .int .u64 (((((((((((p0.2.2 ^^^ K) % 2 ^ 64)*18397679294719823053) % 2 ^ 64) ^^^ (((((p0.2.2 ^^^ K) % 2 ^ 64)*18397679294719823053) % 2 ^ 64)>>>33)) % 2 ^ 64)*14181476777654086739) % 2 ^ 64) ^^^ (((((((((p0.2.2 ^^^ K) % 2 ^ 64)*18397679294719823053) % 2 ^ 64) ^^^ (((((p0.2.2 ^^^ K) % 2 ^ 64)*18397679294719823053) % 2 ^ 64)>>>33)) % 2 ^ 64)*14181476777654086739) % 2 ^ 64)>>>29)) % 2 ^ 64:Nat):Int)) rfl (fun ρ h=>Ml (h _ _ rfl) (h _ _ rfl)) (AA (v:= .int .u64 ((((((((((((p0.2.2 ^^^ K) % 2 ^ 64)*18397679294719823053) % 2 ^ 64) ^^^ (((((p0.2.2 ^^^ K) % 2 ^ 64)*18397679294719823053) % 2 ^ 64)>>>33)) % 2 ^ 64)*14181476777654086739) % 2 ^ 64) ^^^ (((((((((p0.2.2 ^^^ K) % 2 ^ 64)*18397679294719823053) % 2 ^ 64) ^^^ (((((p0.2.2 ^^^ K) % 2 ^ 64)*18397679294719823053) % 2 ^ 64)>>>33)) % 2 ^ 64)*14181476777654086739) % 2 ^ 64)>>>29)) % 2 ^ 64)>>>11:Nat):Int)) rfl (fun ρ h=>Jp 11 (h _ _ rfl) (h _ _ rfl) (by decide)) ?_);refine zg 2 rfl ?_;obtain rfl:=oi aq;exact AF func100 rfl rfl (am ai rfl ⟨V,c2,rfl,rfl,(aa.Ai ai)⟩ al)
 ·refine AK ap (fun ar au=>?_) (fun ar av=>?_)
  ·refine Dv 14 [bk] ⟨⟨0,_,rfl⟩,trivial⟩ O fun ht=>Bi ht rfl [0,1,2] rfl (B6 3 ht underlying92 BV rfl rfl rfl rfl ?_);refine EX 4 ht 0 0 O C4 ?_;refine Bi ht rfl [5,6] rfl (B6 7 ht underlying92 AW rfl rfl rfl rfl ?_);refine EX 8 ht 1 0 O Bx ?_;obtain⟨aE,aw,ay⟩:=bs au;refine BC 9 ht rfl rfl (fun ρ h s' hs=>C8 (h _ _ rfl) (h _ _ rfl) aw) ?_;obtain⟨Z,az,aA⟩:=bs ay;refine Du 10 aa az ht underlying28 AW ?_;rintro aF aG _ rfl aB;refine JG.lp 11 ht 0 aB O ⟨⟨0,_,rfl⟩,trivial⟩ Bx ?_;refine BC (v:= .int .u64 ((Da Z:Nat):Int)) 12 ht rfl rfl (fun ρ h s' hs=>Yl.Da underlying3 underlying90 (h _ _ rfl)) (BC (v:= .int .u64 ((((Da Z)*14029467366897019727) % 2 ^ 64:Nat):Int)) 13 ht rfl rfl (fun ρ h s' hs=>Mq (h _ _ rfl) (h _ _ rfl)) ?_);refine Co [14,15] (AA (v:= .int .u64 ((((((Da U)*11400714819323198485) % 2 ^ 64) ^^^ (((Da Z)*14029467366897019727) % 2 ^ 64)) % 2 ^ 64:Nat):Int)) rfl (fun ρ h=>Ml (h _ _ rfl) (h _ _ rfl)) ?_);refine zg 2 rfl ?_;obtain rfl:=oi aA;exact ak Aq O rfl
  ·refine JL.skip ?_;obtain rfl:=oi av;exact ak Aq O rfl
def f41(fuel:Nat)(p0:B8)(p1:Int):Option (Int×(B8)):= (f100 fuel p0).bind fun K=> if p1<1 then(some (0,K.2)) else((Na K.1 ((Da p1+1) % 2 ^ 64)).bind fun O=> some (Ln O,K.2))
theorem HK{bk:Nat}{K:Ap}{c2:Nat}{p0:B8}{p1:Int}(ai:Ao rI E K c2 p0.1){fuel:Nat}{r:Int×(B8)}(O:f41 fuel p0 p1=some r):AQ J 41 [pV bk 0,iV p1] E [(bk,.cells #[sV K p0.1 c2,iV p0.2.1,.int .u64 ((p0.2.2:Nat):Int)] 92 (0,0))] (fun w E' B'=>∃(U:Ap) (V:Nat),w=iV r.1∧B'= [(bk,.cells #[sV U r.2.1 V,iV r.2.2.1,.int .u64 ((r.2.2.2:Nat):Int)] 92 (0,0))]∧Ao rI E' U V r.2.1):=by
 refine Bc func41 fun Q ar cs H aj W=>?_;unfold f41 at O;obtain⟨au,ak,al⟩:=bs O;refine zg 7 rfl (BY 0 (XW ai ak) rfl rfl (A2 func100 rfl) aj rfl ?_);rintro _ av _ Z ⟨aa,ab,rfl,rfl,ae⟩ ag;refine zg 8 rfl (AK al (fun am an=>?_) (fun am ao=>?_))
 ·refine zg 4 rfl ?_;obtain rfl:=oi an;exact AF func41 rfl rfl (W Z rfl ⟨aa,ab,rfl,rfl,ae⟩ ag)
 ·refine zg 5 rfl (AA (v:= .int .u64 ((Da p1:Nat):Int)) rfl (fun ρ h=>Yl.Da underlying3 underlying90 (h _ _ rfl)) ?_);refine AA (v:= .int .u64 (((Da p1+1) % 2 ^ 64:Nat):Int)) rfl (fun ρ h=>Wi (h _ _ rfl) (h _ _ rfl)) ?_;obtain⟨ah,ap,aq⟩:=bs ao;refine AA (v:= .int .u64 ((ah:Nat):Int)) rfl (fun ρ h=>Vv (h _ _ rfl) (h _ _ rfl) ap) (AA (v:=iV (Ln ah)) rfl (fun ρ h=>XA underlying90 underlying3 (h _ _ rfl)) ?_);refine zg 2 rfl ?_;obtain rfl:=oi aq;exact AF func41 rfl rfl (W Z rfl ⟨aa,ab,rfl,rfl,ae⟩ ag)
def f96(fuel:Nat)(p0:B8)(p1:Int)(p2:Int):Option (Int×(B8)):= (Au (p2 - p1)).bind fun O=> (f41 fuel p0 O).bind fun K=> (Au (p1+K.1)).bind fun U=> some (U,K.2)
theorem OU{bk:Nat}{K:Ap}{c2:Nat}{p0:B8}{p1:Int}{p2:Int}(W:Ao rI E K c2 p0.1){fuel:Nat}{r:Int×(B8)}(O:f96 fuel p0 p1 p2=some r):AQ J 96 [pV bk 0,iV p1,iV p2] E [(bk,.cells #[sV K p0.1 c2,iV p0.2.1,.int .u64 ((p0.2.2:Nat):Int)] 92 (0,0))] (fun w E' B'=>∃(U:Ap) (V:Nat),w=iV r.1∧B'= [(bk,.cells #[sV U r.2.1 V,iV r.2.2.1,.int .u64 ((r.2.2.2:Nat):Int)] 92 (0,0))]∧Ao rI E' U V r.2.1):=by
 refine Bc func96 fun Q ap cs H Z aa=>?_;unfold f96 at O;obtain⟨aq,ab,ae⟩:=bs O;refine zg 10 rfl (B7 ab rfl rfl rfl ?_);obtain⟨ar,ag,ah⟩:=bs ae;refine BY 0 (HK W ag) rfl rfl Hw Z rfl ?_;rintro _ au _ ai ⟨aj,ak,rfl,rfl,al⟩ am;obtain⟨av,an,ao⟩:=bs ah;refine Ba an rfl rfl rfl (zg 2 rfl ?_);obtain rfl:=oi ao;exact AF func96 rfl rfl (aa ai rfl ⟨aj,ak,rfl,rfl,al⟩ am)
def f97(fuel:Nat)(p0:B8)(p1:Int):Option (Bool×(B8)):= (Au (p1 - 1)).bind fun O=> (f41 fuel p0 O).bind fun K=> some (decide (K.1=0),K.2)
theorem KV{bk:Nat}{K:Ap}{c2:Nat}{p0:B8}{p1:Int}(W:Ao rI E K c2 p0.1){fuel:Nat}{r:Bool×(B8)}(O:f97 fuel p0 p1=some r):AQ J 97 [pV bk 0,iV p1] E [(bk,.cells #[sV K p0.1 c2,iV p0.2.1,.int .u64 ((p0.2.2:Nat):Int)] 92 (0,0))] (fun w E' B'=>∃(U:Ap) (V:Nat),w= .bool r.1∧B'= [(bk,.cells #[sV U r.2.1 V,iV r.2.2.1,.int .u64 ((r.2.2.2:Nat):Int)] 92 (0,0))]∧Ao rI E' U V r.2.1):=by
 refine Bc func97 fun Q an cs H Z aa=>?_;unfold f97 at O;obtain⟨ao,ab,ae⟩:=bs O;refine zg 8 rfl (B7 ab rfl rfl rfl ?_);obtain⟨ap,ag,ah⟩:=bs ae;refine BY 0 (HK W ag) rfl rfl Hw Z rfl ?_;rintro _ aq _ ai ⟨aj,ak,rfl,rfl,al⟩ am;refine zg 3 rfl ?_;obtain rfl:=oi ah;exact AF func97 rfl rfl (aa ai rfl ⟨aj,ak,rfl,rfl,al⟩ am)
def f99(fuel:Nat)(p0:B8)(p1:List Int):Option (Int×(B8)):= (Au ((p1.length:Int) - 1)).bind fun O=> (f41 fuel p0 O).bind fun K=> (ix p1 K.1).bind fun U=> some (U,K.2)
theorem M6{bk:Nat}{K:Ap}{c2:Nat}{O:Ap}{U:Nat}{p0:B8}{p1:List Int}(ab:Ao rI E K c2 p0.1)(ae:Ao rI E O U p1){fuel:Nat}{r:Int×(B8)}(V:f99 fuel p0 p1=some r):AQ J 99 [pV bk 0,sV O p1 U] E [(bk,.cells #[sV K p0.1 c2,iV p0.2.1,.int .u64 ((p0.2.2:Nat):Int)] 92 (0,0))] (fun w E' B'=>∃(W:Ap) (Z:Nat),w=iV r.1∧B'= [(bk,.cells #[sV W r.2.1 Z,iV r.2.2.1,.int .u64 ((r.2.2.2:Nat):Int)] 92 (0,0))]∧Ao rI E' W Z r.2.1):=by
 refine Bc func99 fun Q av cs H ag ah=>?_;unfold f99 at V;refine zg 9 rfl (Bp underlying28 rfl rfl rfl ?_);obtain⟨aw,ai,aj⟩:=bs V;refine B7 ai rfl rfl rfl ?_;obtain⟨ay,ak,al⟩:=bs aj;refine BY 0 (HK ab ak) rfl rfl Hw ag rfl ?_;rintro _ az _ aa ⟨am,an,rfl,rfl,ao⟩ ap;obtain⟨aA,aq,ar⟩:=bs al;refine Cb (ae.Ai aa) aq underlying28 AW ?_;rintro aB aC _ rfl au;refine BW 0 au Bx rfl rfl rfl (zg 2 rfl ?_);obtain rfl:=oi ar;exact AF func99 rfl rfl (ah aa rfl ⟨am,an,rfl,rfl,ao⟩ ap)
def Ju(fuel:Nat)(p0:List Int)(p1:Int)(K:(List Int)×Bool×Int):Option (Bl ((List Int)×Bool×Int) ((List Int)×Bool)):= if K.2.2<(p0.length:Int) then((ix p0 K.2.2).bind fun U=> Option.bind (if p1≤U then(some (!K.2.1)) else(some false)) fun V=> Option.bind (if V=true then((room K.1 p1).bind fun W=> some (W,true)) else(some (K.1,K.2.1))) fun O=> (ix p0 K.2.2).bind fun Z=> Option.bind (if Z≠p1 then((ix p0 K.2.2).bind fun aa=> (room O.1 aa).bind fun ab=> some ab) else(some O.1)) fun ae=> (Au (K.2.2+1)).bind fun ag=> some (.more (ae,O.2,ag))) else(some (.done (K.1,K.2.1)))
def f98(fuel:Nat)(p0:List Int)(p1:Int):Option ((List Int)):= Option.bind (iter (Ju fuel p0 p1) fuel ([],false,0)) fun K=> Option.bind (if(!K.2)=true then((room K.1 p1).bind fun O=> some O) else(some K.1)) fun U=> some U
theorem SF{W:Ap}{c2:Nat}{p0:List Int}{p1:Int}(az:Ao rI E W c2 p0){fuel:Nat}{r:(List Int)}(aH:f98 fuel p0 p1=some r):AQ J 98 [sV W p0 c2,iV p1] E [] (fun w E' B'=>∃(aI:Ap) (aJ:Nat),w= sV aI r aJ∧B'= []∧Ao rI E' aI aJ r):=by
 refine Bc func98 fun Q cd cs H aV aW=>?_;unfold f98 at aH;obtain⟨an,aX,aY⟩:=bs aH;refine zg 17 rfl (Bs (fun L s=>∃(Z:LH) (ae:Ap) (ag:Nat) (ao:Seg),Jn E H Z [ao] [(1,iV p1),(5,sV ae an.1 ag),(6,.bool an.2)] L s (OL 3 rI Z ae ag ao an.1)) ?_ ?_)
 ·rintro _ _ ⟨Z,ae,ag,ao,rfl,rfl,aZ,aK,aL⟩;refine zg 4 rfl (AA (v:= .bool (!an.2)) rfl (fun ρ h=>Yl.not (h _ _ rfl)) ?_);obtain⟨aM,a0,a1⟩:=bs aY;refine JL.done (Bs (fun L s=>∃(aA:LH) (ap:Ap) (aq:Nat) (aB:Seg),Jn Z H aA [aB] [(5,sV ap aM aq)] L s (OL 3 rI aA ap aq aB aM)) ?_ ?_)
  ·rintro _ _ ⟨aA,ap,aq,aB,rfl,rfl,a2,a3,a4⟩;refine zg 5 rfl (Ca 0 a4 a3 rfl fun ce a5 a6 a7=>?_);obtain rfl:=oi a1;exact AF func98 rfl rfl (aW ((aZ.Ac a2).Ac a5) rfl ⟨ap,aq,rfl,rfl,a6⟩ a7)
  ·intro aN;refine BM a0 (fun a8 a9=>?_) (fun a8 ba=>?_)
   ·obtain⟨cf,bb,bc⟩:=bs a9;refine zg 3 rfl (JS.app (pp:=rI) (v:=iV p1) (a:=ae) (c:=ag) 0 bb rfl rfl rfl rfl (fun _=>rfl) rfl (fun _=>rfl) rfl rfl rfl underlying28 underlying28 underlying28 AW (CP type3) Cz rfl (by decide) (by decide) (by decide) (by decide) aL rfl aK rfl fun cg bd be bf bg bh=>?_);refine zg 2 rfl ?_;obtain rfl:=oi bc;exact Ay (aN _ _ ⟨Z,bd,be,bf,rfl,rfl,Aq,bh,bg⟩) rfl
   ·refine JL.skip ?_;obtain rfl:=oi ba;exact Ay (aN _ _ ⟨Z,ae,ag,ao,rfl,rfl,Aq,aK,aL⟩) rfl
 ·intro bi;refine JL.block (CG aX (fun L s K=>∃(O:LH) (U:Ap) (V:Nat) (aa:Seg),Jn E H O [aa] [(0,sV W p0 c2),(1,iV p1),(5,sV U K.1 V),(6,.bool K.2.1),(7,iV K.2.2)] L s (OL 3 rI O U V aa K.1)) ⟨E,none,0,[],rfl,rfl,Aq,aV,OL.nil⟩ ?_);rintro _ _ K ⟨O,U,V,aa,rfl,rfl,ah,aC,aD⟩ bj ⟨ci,aE⟩ bl;have aO:=aE;unfold Ju at aO;refine zg 5 rfl (Bp underlying28 rfl rfl rfl ?_);refine zg 2 rfl (AK aO (fun bm bn=>?_) (fun bm bo=>?_))
  ·obtain⟨ck,bp,bq⟩:=bs bn;refine zg 8 rfl (Cb (az.Ai ah) bp underlying28 AW ?_);rintro cm cn _ rfl br;refine BW 0 br Bx rfl rfl rfl ?_;obtain⟨bu,bv,bw⟩:=bs bq;refine zg 3 rfl (Gb [] (fun L s=>∃(ai:LH),Jm O H ai [aa] [(0,sV W p0 c2),(1,iV p1),(5,sV U K.1 V),(6,.bool K.2.1),(7,iV K.2.2),(23,.bool bu)] L s) ?_ ?_)
   ·rintro _ _ ⟨ai,rfl,rfl,aj,aP⟩;obtain⟨ak,bx,bz⟩:=bs bw;refine JL.done (Bs (fun L s=>∃(ab:LH) (al:Ap) (am:Nat) (ar:Seg),Jn ai H ab [ar] [(0,sV W p0 c2),(1,iV p1),(5,sV al ak.1 am),(6,.bool ak.2),(7,iV K.2.2)] L s (OL 3 rI ab al am ar ak.1)) ?_ ?_)
    ·rintro _ _ ⟨ab,al,am,ar,rfl,rfl,aF,aQ,aR⟩;obtain⟨co,bA,bB⟩:=bs bz;refine zg 4 rfl (Cb (az.Ai ((ah.Ac aj).Ac aF)) bA underlying28 AW ?_);rintro cp cq _ rfl bC;refine BW 0 bC Bx rfl rfl rfl ?_;obtain⟨aG,bD,bE⟩:=bs bB;refine zg 3 rfl (Bs (fun L s=>∃(au:LH) (av:Ap) (aw:Nat) (ay:Seg),Jn ab H au [ay] [(0,sV W p0 c2),(1,iV p1),(5,sV av aG aw),(6,.bool ak.2),(7,iV K.2.2)] L s (OL 3 rI au av aw ay aG)) ?_ ?_)
     ·rintro _ _ ⟨au,av,aw,ay,rfl,rfl,bF,bG,bH⟩;obtain⟨bI,bJ,bK⟩:=bs bE;refine zg 3 rfl (Ba bJ rfl rfl rfl ?_);refine zg 2 rfl ?_;obtain rfl:=oi bK;exact Ay (bl _ _ (aG,ak.2,bI) ⟨au,av,aw,ay,rfl,rfl,(((ah.Ac aj).Ac aF).Ac bF),bG,bH⟩ aE) rfl
     ·intro aS;refine AK bD (fun bL bM=>?_) (fun bL bN=>?_)
      ·obtain⟨bO,bP,bQ⟩:=bs bM;refine zg 4 rfl (Cb (az.Ai ((ah.Ac aj).Ac aF)) bP underlying28 AW ?_);rintro cr ct _ rfl bR;refine BW 0 bR Bx rfl rfl rfl ?_;obtain⟨cu,bS,bT⟩:=bs bQ;refine JS.app (pp:=rI) (v:=iV bO) (a:=al) (c:=am) 0 bS rfl rfl rfl rfl (fun _=>rfl) rfl (fun _=>rfl) rfl rfl rfl underlying28 underlying28 underlying28 AW (CP type3) Cz rfl (by decide) (by decide) (by decide) (by decide) aR rfl aQ rfl fun cv bU bV bW bY bZ=>zg 2 rfl ?_;obtain rfl:=oi bT;exact Ay (aS _ _ ⟨ab,bU,bV,bW,rfl,rfl,Aq,bZ,bY⟩) rfl
      ·refine JL.skip ?_;obtain rfl:=oi bN;exact Ay (aS _ _ ⟨ab,al,am,ar,rfl,rfl,Aq,aQ,aR⟩) rfl
    ·intro aT;refine BM bx (fun b0 b1=>?_) (fun b0 b2=>?_)
     ·obtain⟨cw,b3,b4⟩:=bs b1;refine zg 3 rfl (JS.app (pp:=rI) (v:=iV p1) (a:=U) (c:=V) 0 b3 rfl rfl rfl rfl (fun _=>rfl) rfl (fun _=>rfl) rfl rfl rfl underlying28 underlying28 underlying28 AW (CP type3) Cz rfl (by decide) (by decide) (by decide) (by decide) (aD.Ai aj) rfl aP rfl fun cy b5 b6 b7 b8 b9=>?_);refine zg 3 rfl ?_;obtain rfl:=oi b4;exact Ay (aT _ _ ⟨ai,b5,b6,b7,rfl,rfl,Aq,b9,b8⟩) rfl
     ·refine JL.skip ?_;obtain rfl:=oi b2;exact Ay (aT _ _ ⟨ai,U,V,aa,rfl,rfl,Aq,aP,(aD.Ai aj)⟩) rfl
   ·intro aU;refine Ew 20 bv (fun ca cb=>?_) (fun ca cc=>?_)
    ·refine zg 1 rfl (AA (v:= .bool (!K.2.1)) rfl (fun ρ h=>Yl.not (h _ _ rfl)) ?_);refine zg 1 rfl ?_;obtain rfl:=oi cb;exact Ay (aU _ _ ⟨O,rfl,rfl,Aq,aC⟩) rfl
    ·refine zg 3 rfl ?_;obtain rfl:=oi cc;exact Ay (aU _ _ ⟨O,rfl,rfl,Aq,aC⟩) rfl
  ·refine JL.exit rfl ?_;obtain rfl:=oi bo;obtain rfl:=bj _ aE;exact Ay (bi _ _ ⟨O,U,V,aa,rfl,rfl,ah,aC,aD⟩) rfl
def f52(fuel:Nat)(p0:A4):Option Int:= if(p0.length:Int)=0 then(some 1) else((Au ((p0.length:Int) - 1)).bind fun K=> (ix p0 K).bind fun O=> (Au (O.1+1)).bind fun U=> some U)
theorem Yp{K:Ap}{c2:Nat}{p0:A4}(W:Ao BJ E K c2 p0){fuel:Nat}{r:Int}(O:f52 fuel p0=some r):AQ J 52 [sV K p0 c2] E [] (fun w E' B'=>w=iV r∧B'= []):=by
 refine Bc func52 fun Q al cs H U V=>?_;unfold f52 at O;refine zg 8 rfl (Bp underlying25 rfl rfl rfl ?_);refine zg 2 rfl (AK O (fun c4 Z=>?_) (fun c4 aa=>?_))
 ·refine zg 4 rfl ?_;obtain rfl:=oi Z;exact AF func52 rfl rfl (V Aq rfl ⟨rfl,rfl⟩ U)
 ·refine zg 5 rfl (Bp underlying25 rfl rfl rfl ?_);obtain⟨am,ab,ae⟩:=bs aa;refine B7 ab rfl rfl rfl ?_;obtain⟨an,ag,ah⟩:=bs ae;refine Cb W ag underlying25 CS ?_;rintro ao ap _ ⟨_,_,rfl,rfl,rfl⟩ ai;refine JL.fl 0 ai underlying27 AW Bx ?_;obtain⟨aq,aj,ak⟩:=bs ah;refine Ba aj rfl rfl rfl (zg 2 rfl ?_);obtain rfl:=oi ak;exact AF func52 rfl rfl (V Aq rfl ⟨rfl,rfl⟩ U)
def Mr(fuel:Nat)(p0:List Bool)(K:(List Int)×Int):Option (Bl ((List Int)×Int) ((List Int))):= if K.2<(p0.length:Int) then((ix p0 K.2).bind fun O=> Option.bind (if O=true then((room K.1 K.2).bind fun U=> some U) else(some K.1)) fun V=> (Au (K.2+1)).bind fun W=> some (.more (V,W))) else(some (.done K.1))
def f111(fuel:Nat)(p0:List Bool):Option ((List Int)):= Option.bind (iter (Mr fuel p0) fuel ([],0)) fun K=> some K
theorem XG{Z:Ap}{c2:Nat}{p0:List Bool}(az:Ao rB E Z c2 p0){fuel:Nat}{r:(List Int)}(aq:f111 fuel p0=some r):AQ J 111 [sV Z p0 c2] E [] (fun w E' B'=>∃(ar:Ap) (au:Nat),w= sV ar r au∧B'= []∧Ao rI E' ar au r):=by
 refine Bc func111 fun Q bb cs H aA aB=>?_;unfold f111 at aq;obtain⟨av,aC,aD⟩:=bs aq;refine zg 13 rfl (Bs (fun L s=>∃(aj:LH) (aa:Ap) (ab:Nat) (ak:Seg),Jn E H aj [ak] [(3,sV aa av ab)] L s (OL 3 rI aj aa ab ak av)) ?_ ?_)
 ·rintro _ _ ⟨aj,aa,ab,ak,rfl,rfl,aE,aF,aG⟩;refine zg 5 rfl (Ca 0 aG aF rfl fun bc aH aI aJ=>?_);obtain rfl:=oi aD;exact AF func111 rfl rfl (aB (aE.Ac aH) rfl ⟨aa,ab,rfl,rfl,aI⟩ aJ)
 ·intro aK;refine JL.block (CG aC (fun L s O=>∃(K:LH) (U:Ap) (V:Nat) (W:Seg),Jn E H K [W] [(0,sV Z p0 c2),(3,sV U O.1 V),(4,iV O.2)] L s (OL 3 rI K U V W O.1)) ⟨E,none,0,[],rfl,rfl,Aq,aA,OL.nil⟩ ?_);rintro _ _ O ⟨K,U,V,W,rfl,rfl,al,am,an⟩ aL ⟨bd,ao⟩ aM;have aw:=ao;unfold Mr at aw;refine zg 5 rfl (Bp underlying68 rfl rfl rfl ?_);refine zg 2 rfl (AK aw (fun aN aO=>?_) (fun aN aP=>?_))
  ·obtain⟨be,aQ,aR⟩:=bs aO;refine zg 7 rfl (Cb (az.Ai al) aQ underlying68 FD ?_);rintro bf bg _ rfl aS;refine BW 0 aS Nw rfl rfl rfl ?_;obtain⟨ap,aT,aU⟩:=bs aR;refine JL.done (Bs (fun L s=>∃(ae:LH) (ag:Ap) (ah:Nat) (ai:Seg),Jn K H ae [ai] [(0,sV Z p0 c2),(3,sV ag ap ah),(4,iV O.2)] L s (OL 3 rI ae ag ah ai ap)) ?_ ?_)
   ·rintro _ _ ⟨ae,ag,ah,ai,rfl,rfl,aV,aW,aX⟩;obtain⟨aY,aZ,a0⟩:=bs aU;refine zg 3 rfl (Ba aZ rfl rfl rfl ?_);refine zg 2 rfl ?_;obtain rfl:=oi a0;exact Ay (aM _ _ (ap,aY) ⟨ae,ag,ah,ai,rfl,rfl,(al.Ac aV),aW,aX⟩ ao) rfl
   ·intro ay;refine BM aT (fun a1 a2=>?_) (fun a1 a3=>?_)
    ·obtain⟨bh,a4,a5⟩:=bs a2;refine zg 3 rfl (JS.app (pp:=rI) (v:=iV O.2) (a:=U) (c:=V) 0 a4 rfl rfl rfl rfl (fun _=>rfl) rfl (fun _=>rfl) rfl rfl rfl underlying28 underlying28 underlying28 AW (CP type3) Cz rfl (by decide) (by decide) (by decide) (by decide) an rfl am rfl fun bi a6 a7 a8 a9 ba=>?_);refine zg 2 rfl ?_;obtain rfl:=oi a5;exact Ay (ay _ _ ⟨K,a6,a7,a8,rfl,rfl,Aq,ba,a9⟩) rfl
    ·refine JL.skip ?_;obtain rfl:=oi a3;exact Ay (ay _ _ ⟨K,U,V,W,rfl,rfl,Aq,am,an⟩) rfl
  ·refine JL.exit rfl ?_;obtain rfl:=oi aP;obtain rfl:=aL _ ao;exact Ay (aK _ _ ⟨K,U,V,W,rfl,rfl,al,am,an⟩) rfl
def L6(fuel:Nat)(p0:Bt)(p1:List Int)(K:Int):Option (Bl Int ((Int)⊕(Unit))):= if K<(p1.length:Int) then((ix p1 K).bind fun O=> (Au ((p0.1.length:Int) - 1)).bind fun U=> (f104 fuel O 0 U).bind fun V=> if(!V)=true then(some (.done (Sum.inl 3))) else(Option.bind (if 0<K then((ix p1 K).bind fun W=> (Au (K - 1)).bind fun Z=> (ix p1 Z).bind fun aa=> some (decide (W≤aa))) else(some false)) fun ab=> if ab=true then(some (.done (Sum.inl 5))) else((Au (K+1)).bind fun ae=> some (.more ae)))) else(some (.done (Sum.inr ())))
def f114(fuel:Nat)(p0:Bt)(p1:List Int):Option Int:= if(p1.length:Int)=0 then(some 7) else(if 3<(p1.length:Int) then(some 6) else(Option.bind (iter (L6 fuel p0 p1) fuel 0) fun K=> Sum.elim (fun r=>some r) (fun O=> some 0) K))
theorem X3{al:Ap}{c2:Nat}{am:Ap}{an:Nat}{aa:Ap}{ab:Nat}{p0:Bt}{p1:List Int}(br:Ao (rL rI) E al c2 p0.1)(bu:Ao (rL rI) E am an p0.2)(ae:Ao rI E aa ab p1){fuel:Nat}{r:Int}(ao:f114 fuel p0 p1=some r):AQ J 114 [.agg #[sV al p0.1 c2,sV am p0.2 an],sV aa p1 ab] E [] (fun w E' B'=>w=iV r∧B'= []):=by
 refine Bc func114 fun Q bv cs H aA U=>?_;unfold f114 at ao;refine zg 2 rfl (Cs aA fun ap aB K aC ag=>?_);refine zg 6 rfl (Bp underlying28 rfl rfl rfl ?_);refine zg 2 rfl (AK ao (fun aD aE=>?_) (fun aD aF=>?_))
 ·refine zg 4 rfl ?_;obtain rfl:=oi aE;exact AF func114 rfl rfl (U K rfl ⟨rfl,rfl⟩ ag)
 ·refine zg 5 rfl (Bp underlying28 rfl rfl rfl ?_);refine zg 2 rfl (AK aF (fun aG aH=>?_) (fun aG aI=>?_))
  ·refine zg 4 rfl ?_;obtain rfl:=oi aH;exact AF func114 rfl rfl (U K rfl ⟨rfl,rfl⟩ ag)
  ·obtain⟨aq,aJ,ah⟩:=bs aI;refine zg 6 rfl (Bs (fun L s=>∃(ar:Unit) (au:LH),aq=Sum.inr ar∧Jm aB H au [] [] L s) ?_ ?_)
   ·rintro _ _ ⟨ar,au,rfl,rfl,rfl,aK,aL⟩;have aM:=elim_inr ah;refine zg 4 rfl ?_;obtain rfl:=oi aM;exact AF func114 rfl rfl (U (K.Ac aK) rfl ⟨rfl,rfl⟩ aL)
   ·intro aN;refine JL.block (CC aJ (fun V=> []) (fun V=> [(1,sV aa p1 ab),(2,pV ap 0),(5,iV V)]) Aq ag ?_);rintro V aO O av ai ⟨bw,W⟩ aP;have aw:=W;unfold L6 at aw;refine zg 5 rfl (Bp underlying28 rfl rfl rfl ?_);refine zg 2 rfl (AK aw (fun aQ aR=>?_) (fun aQ aS=>?_))
    ·refine zg 5 rfl (DG 8 fun ht=>?_);refine Bi ht rfl [0,1] rfl ?_;obtain⟨bx,aT,aU⟩:=bs aR;refine Du 2 (ae.Ai (K.Ac O)) aT ht underlying28 AW ?_;rintro bz bA _ rfl aV;refine CI 3 ht 0 aV Bx rfl rfl rfl rfl (B6 4 ht underlying24 Cl rfl rfl rfl rfl ?_);refine CI 5 ht 0 (aC.Ai O) CW rfl rfl rfl rfl (BC 6 ht rfl rfl (fun ρ h s' hs=>Yl.len rfl underlying22 (h _ _ rfl)) ?_);obtain⟨bB,aW,aX⟩:=bs aU;refine BC 7 ht rfl rfl (fun ρ h s' hs=>C8 (h _ _ rfl) (h _ _ rfl) aW) (Co [8,9] ?_);obtain⟨aY,aZ,a0⟩:=bs aX;refine BH (OG aZ) rfl rfl NA av fun a1 Z aj=>AA (v:= .bool (!aY)) rfl (fun ρ h=>Yl.not (h _ _ rfl)) (JL.done ?_);refine BM a0 (fun a2 a3=>?_) (fun a2 a4=>?_)
     ·refine zg 4 rfl ?_;obtain rfl:=oi a3;obtain rfl:=ai _ W;have a5:=elim_inl ah;obtain rfl:=oi a5;exact AF func114 rfl rfl (U ((K.Ac O).Ac Z) rfl ⟨rfl,rfl⟩ aj)
     ·refine zg 2 rfl (DG 14 fun ht=>?_);refine Bi ht rfl [0,1,2] rfl ?_;obtain⟨a6,ay,a7⟩:=bs a4;refine FW 0 #[true,true,true,true,true,true,true,true,true,true,true,true,true,true] (fun L s=>L= [(1,sV aa p1 ab),(2,pV ap 0),(5,iV V),(41,.bool a6)]∧s=Ak a1 H [[]]) ?_ ?_
      ·rintro _ _ ⟨rfl,rfl⟩;refine AT.fin (by decide+kernel) (BM a7 (fun a8 a9=>?_) (fun a8 ba=>?_))
       ·refine zg 4 rfl ?_;obtain rfl:=oi a9;obtain rfl:=ai _ W;have bb:=elim_inl ah;obtain rfl:=oi bb;exact AF func114 rfl rfl (U ((K.Ac O).Ac Z) rfl ⟨rfl,rfl⟩ aj)
       ·obtain⟨bc,bd,be⟩:=bs ba;refine zg 4 rfl (Ba bd rfl rfl rfl ?_);refine zg 2 rfl ?_;obtain rfl:=oi be;exact aP bc (O.Ac Z) aj rfl W
      ·intro az;refine FT (q:=0<V) (i:=30) rfl (fun ak=>?_) (fun ak=>?_)
       ·have bf:=ip ay ak;refine Bi ht rfl [3,4] rfl ?_;obtain⟨bC,bg,bh⟩:=bs bf;refine Du 5 (ae.Ai ((K.Ac O).Ac Z)) bg ht underlying28 AW ?_;rintro bD bE _ rfl bi;refine CI 6 ht 0 bi Bx rfl rfl rfl rfl ?_;refine Bi ht rfl [7,8] rfl ?_;obtain⟨bF,bj,bl⟩:=bs bh;refine BC 9 ht rfl rfl (fun ρ h s' hs=>C8 (h _ _ rfl) (h _ _ rfl) bj) ?_;obtain⟨bG,bm,bn⟩:=bs bl;refine Du 10 (ae.Ai ((K.Ac O).Ac Z)) bm ht underlying28 AW ?_;rintro bH bI _ rfl bo;refine CI 11 ht 0 bo Bx rfl rfl rfl rfl ?_;refine Bi ht rfl [12,13] rfl ?_;obtain rfl:=oi bn;refine DD ?_ (az _ _ ⟨rfl,rfl⟩);exact⟨rfl,rfl,rfl,rfl,trivial⟩
       ·have bp:=im ay ak;refine Bi ht rfl [3,4,5,6,7,8,9,10,11,12,13] rfl ?_;obtain rfl:=oi bp;refine DD ?_ (az _ _ ⟨rfl,rfl⟩);exact⟨rfl,rfl,rfl,rfl,trivial⟩
    ·refine JL.exit rfl ?_;obtain rfl:=oi aS;have bq:aq=(Sum.inr ()):=(ai _ W).symm;exact Ay (aN _ _ ⟨(),aO,bq,rfl,rfl,O,av⟩) rfl
def L5(fuel:Nat)(p0:Bt)(p1:Int)(p2:List Int)(K:Int):Option (Bl Int ((Int)⊕(Unit))):= if K<(p2.length:Int) then((ix p2 K).bind fun O=> (Au ((p0.1.length:Int) - 1)).bind fun U=> (f104 fuel O 0 U).bind fun V=> if(!V)=true then(some (.done (Sum.inl 3))) else((ix p2 K).bind fun W=> if W=p1 then(some (.done (Sum.inl 8))) else(Option.bind (if 0<K then((ix p2 K).bind fun Z=> (Au (K - 1)).bind fun aa=> (ix p2 aa).bind fun ab=> some (decide (Z≤ab))) else(some false)) fun ae=> if ae=true then(some (.done (Sum.inl 5))) else((Au (K+1)).bind fun ag=> some (.more ag))))) else(some (.done (Sum.inr ())))
def f115(fuel:Nat)(p0:Bt)(p1:Int)(p2:List Int):Option Int:= if 3<(p2.length:Int) then(some 6) else(Option.bind (iter (L5 fuel p0 p1 p2) fuel 0) fun K=> Sum.elim (fun r=>some r) (fun O=> some 0) K)
theorem Yk{ak:Ap}{c2:Nat}{al:Ap}{am:Nat}{aa:Ap}{ab:Nat}{p0:Bt}{p1:Int}{p2:List Int}(bx:Ao (rL rI) E ak c2 p0.1)(bz:Ao (rL rI) E al am p0.2)(ae:Ao rI E aa ab p2){fuel:Nat}{r:Int}(an:f115 fuel p0 p1 p2=some r):AQ J 115 [.agg #[sV ak p0.1 c2,sV al p0.2 am],iV p1,sV aa p2 ab] E [] (fun w E' B'=>w=iV r∧B'= []):=by
 refine Bc func115 fun Q bA cs H aA W=>?_;unfold f115 at an;refine zg 2 rfl (Cs aA fun ao aB O aC ap=>?_);refine zg 6 rfl (Bp underlying28 rfl rfl rfl ?_);refine zg 2 rfl (AK an (fun aD aE=>?_) (fun aD aF=>?_))
 ·refine zg 4 rfl ?_;obtain rfl:=oi aE;exact AF func115 rfl rfl (W O rfl ⟨rfl,rfl⟩ ap)
 ·obtain⟨aq,aG,ag⟩:=bs aF;refine zg 6 rfl (Bs (fun L s=>∃(ar:Unit) (au:LH),aq=Sum.inr ar∧Jm aB H au [] [] L s) ?_ ?_)
  ·rintro _ _ ⟨ar,au,rfl,rfl,rfl,aH,aI⟩;have aJ:=elim_inr ag;refine zg 4 rfl ?_;obtain rfl:=oi aJ;exact AF func115 rfl rfl (W (O.Ac aH) rfl ⟨rfl,rfl⟩ aI)
  ·intro aK;refine JL.block (CC aG (fun Z=> []) (fun Z=> [(1,iV p1),(2,sV aa p2 ab),(3,pV ao 0),(7,iV Z)]) Aq ap ?_);rintro Z aL K av ah ⟨bB,V⟩ aM;have aw:=V;unfold L5 at aw;refine zg 5 rfl (Bp underlying28 rfl rfl rfl ?_);refine zg 2 rfl (AK aw (fun aN aO=>?_) (fun aN aP=>?_))
   ·refine zg 5 rfl (DG 8 fun ht=>?_);refine Bi ht rfl [0,1] rfl ?_;obtain⟨bC,aQ,aR⟩:=bs aO;refine Du 2 (ae.Ai (O.Ac K)) aQ ht underlying28 AW ?_;rintro bD bE _ rfl aS;refine CI 3 ht 0 aS Bx rfl rfl rfl rfl (B6 4 ht underlying24 Cl rfl rfl rfl rfl ?_);refine CI 5 ht 0 (aC.Ai K) CW rfl rfl rfl rfl (BC 6 ht rfl rfl (fun ρ h s' hs=>Yl.len rfl underlying22 (h _ _ rfl)) ?_);obtain⟨bF,aT,aU⟩:=bs aR;refine BC 7 ht rfl rfl (fun ρ h s' hs=>C8 (h _ _ rfl) (h _ _ rfl) aT) (Co [8,9] ?_);obtain⟨aV,aW,aX⟩:=bs aU;refine BH (OG aW) rfl rfl NA av fun aY U ai=>AA (v:= .bool (!aV)) rfl (fun ρ h=>Yl.not (h _ _ rfl)) (JL.done ?_);refine BM aX (fun aZ a0=>?_) (fun aZ a1=>?_)
    ·refine zg 4 rfl ?_;obtain rfl:=oi a0;obtain rfl:=ah _ V;have a2:=elim_inl ag;obtain rfl:=oi a2;exact AF func115 rfl rfl (W ((O.Ac K).Ac U) rfl ⟨rfl,rfl⟩ ai)
    ·obtain⟨bG,a3,a4⟩:=bs a1;refine zg 6 rfl (Cb (ae.Ai ((O.Ac K).Ac U)) a3 underlying28 AW ?_);rintro bH bI _ rfl a5;refine BW 0 a5 Bx rfl rfl rfl (zg 3 rfl ?_);refine AK a4 (fun a6 a7=>?_) (fun a6 a8=>?_)
     ·refine zg 4 rfl ?_;obtain rfl:=oi a7;obtain rfl:=ah _ V;have a9:=elim_inl ag;obtain rfl:=oi a9;exact AF func115 rfl rfl (W ((O.Ac K).Ac U) rfl ⟨rfl,rfl⟩ ai)
     ·refine zg 2 rfl (DG 14 fun ht=>?_);refine Bi ht rfl [0,1,2] rfl ?_;obtain⟨ba,ay,bb⟩:=bs a8;refine FW 0 #[true,true,true,true,true,true,true,true,true,true,true,true,true,true] (fun L s=>L= [(1,iV p1),(2,sV aa p2 ab),(3,pV ao 0),(7,iV Z),(46,.bool ba)]∧s=Ak aY H [[]]) ?_ ?_
      ·rintro _ _ ⟨rfl,rfl⟩;refine AT.fin (by decide+kernel) (BM bb (fun bc bd=>?_) (fun bc be=>?_))
       ·refine zg 4 rfl ?_;obtain rfl:=oi bd;obtain rfl:=ah _ V;have bf:=elim_inl ag;obtain rfl:=oi bf;exact AF func115 rfl rfl (W ((O.Ac K).Ac U) rfl ⟨rfl,rfl⟩ ai)
       ·obtain⟨bg,bh,bi⟩:=bs be;refine zg 4 rfl (Ba bh rfl rfl rfl ?_);refine zg 2 rfl ?_;obtain rfl:=oi bi;exact aM bg (K.Ac U) ai rfl V
      ·intro az;refine FT (q:=0<Z) (i:=35) rfl (fun aj=>?_) (fun aj=>?_)
       ·have bj:=ip ay aj;refine Bi ht rfl [3,4] rfl ?_;obtain⟨bJ,bl,bm⟩:=bs bj;refine Du 5 (ae.Ai ((O.Ac K).Ac U)) bl ht underlying28 AW ?_;rintro bK bL _ rfl bn;refine CI 6 ht 0 bn Bx rfl rfl rfl rfl ?_;refine Bi ht rfl [7,8] rfl ?_;obtain⟨bM,bo,bp⟩:=bs bm;refine BC 9 ht rfl rfl (fun ρ h s' hs=>C8 (h _ _ rfl) (h _ _ rfl) bo) ?_;obtain⟨bN,bq,br⟩:=bs bp;refine Du 10 (ae.Ai ((O.Ac K).Ac U)) bq ht underlying28 AW ?_;rintro bO bP _ rfl bu;refine CI 11 ht 0 bu Bx rfl rfl rfl rfl ?_;refine Bi ht rfl [12,13] rfl ?_;obtain rfl:=oi br;refine DD ?_ (az _ _ ⟨rfl,rfl⟩);exact⟨rfl,rfl,rfl,rfl,rfl,trivial⟩
       ·have bv:=im ay aj;refine Bi ht rfl [3,4,5,6,7,8,9,10,11,12,13] rfl ?_;obtain rfl:=oi bv;refine DD ?_ (az _ _ ⟨rfl,rfl⟩);exact⟨rfl,rfl,rfl,rfl,rfl,trivial⟩
   ·refine JL.exit rfl ?_;obtain rfl:=oi aP;have bw:aq=(Sum.inr ()):=(ah _ V).symm;exact Ay (aK _ _ ⟨(),aL,bw,rfl,rfl,K,av⟩) rfl
def MB(fuel:Nat)(p0:Bt)(K:Int):Option (Bl Int ((Int)⊕(Unit))):= if K<(p0.1.length:Int) then((ix p0.1 K).bind fun V=> (f114 fuel p0 V).bind fun O=> if O≠0 then(some (.done (Sum.inl O))) else((ix p0.2 K).bind fun W=> (f115 fuel p0 K W).bind fun U=> if U≠0 then(some (.done (Sum.inl U))) else((Au (K+1)).bind fun Z=> some (.more Z)))) else(some (.done (Sum.inr ())))
def f68(fuel:Nat)(p0:Bt):Option Int:= if(p0.1.length:Int)=0 then(some 7) else(if 8<(p0.1.length:Int) then(some 6) else(if(p0.2.length:Int)≠(p0.1.length:Int) then(some 9) else(Option.bind (iter (MB fuel p0) fuel 0) fun K=> Sum.elim (fun r=>some r) (fun O=> some 0) K)))
theorem YS{aj:Ap}{c2:Nat}{ak:Ap}{al:Nat}{p0:Bt}(ab:Ao (rL rI) E aj c2 p0.1)(ae:Ao (rL rI) E ak al p0.2){fuel:Nat}{r:Int}(am:f68 fuel p0=some r):AQ J 68 [.agg #[sV aj p0.1 c2,sV ak p0.2 al]] E [] (fun w E' B'=>w=iV r∧B'= []):=by
 refine Bc func68 fun Q bi cs H ay W=>?_;unfold f68 at am;refine zg 2 rfl (Cs ay fun az aA O U aa=>?_);refine zg 5 rfl (JL.fl 0 U underlying24 Cl CW ?_);refine Bp underlying22 rfl rfl rfl (zg 2 rfl ?_);refine AK am (fun aB aC=>?_) (fun aB aD=>?_)
 ·refine zg 4 rfl ?_;obtain rfl:=oi aC;exact AF func68 rfl rfl (W O rfl ⟨rfl,rfl⟩ aa)
 ·refine zg 4 rfl (JL.fl 0 U underlying24 Cl CW ?_);refine Bp underlying22 rfl rfl rfl (zg 2 rfl ?_);refine AK aD (fun aE aF=>?_) (fun aE aG=>?_)
  ·refine zg 4 rfl ?_;obtain rfl:=oi aF;exact AF func68 rfl rfl (W O rfl ⟨rfl,rfl⟩ aa)
  ·refine zg 4 rfl (JL.fl 1 U underlying24 Cl CW ?_);refine Bp underlying22 rfl rfl rfl (JL.fl 0 U underlying24 Cl CW ?_);refine Bp underlying22 rfl rfl rfl (zg 2 rfl ?_);refine AK aG (fun aH aI=>?_) (fun aH aJ=>?_)
   ·refine zg 4 rfl ?_;obtain rfl:=oi aI;exact AF func68 rfl rfl (W O rfl ⟨rfl,rfl⟩ aa)
   ·obtain⟨an,aK,ag⟩:=bs aJ;refine zg 6 rfl (Bs (fun L s=>∃(ao:Unit) (ap:LH),an=Sum.inr ao∧Jm aA H ap [] [] L s) ?_ ?_)
    ·rintro _ _ ⟨ao,ap,rfl,rfl,rfl,aL,aM⟩;have aN:=elim_inr ag;refine zg 4 rfl ?_;obtain rfl:=oi aN;exact AF func68 rfl rfl (W (O.Ac aL) rfl ⟨rfl,rfl⟩ aM)
    ·intro aO;refine JL.block (CC aK (fun ah=> []) (fun ah=> [(1,pV az 0),(3,iV ah)]) Aq aa ?_);rintro ah aP K aq ai ⟨bj,Z⟩ aQ;have ar:=Z;unfold MB at ar;refine zg 4 rfl (JL.fl 0 (U.Ai K) underlying24 Cl CW ?_);refine Bp underlying22 rfl rfl rfl (zg 2 rfl ?_);refine AK ar (fun aR aS=>?_) (fun aR aT=>?_)
     ·refine zg 5 rfl (DG 6 fun ht=>?_);refine HF 0 ht (U.Ai K) Cy Cc rfl rfl rfl (B6 1 ht underlying24 Cl rfl rfl rfl rfl ?_);refine CI 2 ht 0 (U.Ai K) CW rfl rfl rfl rfl (Cv 3 ht rfl rfl ?_);obtain⟨bl,aU,aV⟩:=bs aS;refine Du 4 (ab.Ai (O.Ac K)) aU ht underlying22 BV ?_;rintro bm bn _ ⟨bo,bp,rfl,aW⟩ aX;refine CI 5 ht 0 aX C4 rfl rfl rfl rfl (Co [6,7] ?_);obtain⟨bq,aY,aZ⟩:=bs aV;refine BH (X3 (ab.Ai (O.Ac K)) (ae.Ai (O.Ac K)) aW aY) rfl rfl (A2 func114 rfl) aq fun br V au=>zg 7 rfl (AK aZ (fun a0 a1=>?_) (fun a0 a2=>?_))
      ·refine zg 5 rfl ?_;obtain rfl:=oi a1;obtain rfl:=ai _ Z;have a3:=elim_inl ag;obtain rfl:=oi a3;exact AF func68 rfl rfl (W ((O.Ac K).Ac V) rfl ⟨rfl,rfl⟩ au)
      ·refine zg 2 rfl (DG 7 fun ht=>?_);refine HF 0 ht (U.Ai (K.Ac V)) Cy Cc rfl rfl rfl (Cv 1 ht rfl rfl ?_);refine B6 2 ht underlying24 Cl rfl rfl rfl rfl (CI 3 ht 1 (U.Ai (K.Ac V)) CW rfl rfl rfl rfl ?_);refine Cv 4 ht rfl rfl ?_;obtain⟨bu,a4,a5⟩:=bs a2;refine Du 5 (ae.Ai ((O.Ac K).Ac V)) a4 ht underlying22 BV ?_;rintro bv bw _ ⟨bx,bz,rfl,a6⟩ a7;refine CI 6 ht 0 a7 C4 rfl rfl rfl rfl (Co [7,8] ?_);obtain⟨bA,a8,a9⟩:=bs a5;refine BH (Yk (ab.Ai ((O.Ac K).Ac V)) (ae.Ai ((O.Ac K).Ac V)) a6 a8) rfl rfl (A2 func115 rfl) au fun bB av aw=>zg 7 rfl (AK a9 (fun ba bb=>?_) (fun ba bc=>?_))
       ·refine zg 5 rfl ?_;obtain rfl:=oi bb;obtain rfl:=ai _ Z;have bd:=elim_inl ag;obtain rfl:=oi bd;exact AF func68 rfl rfl (W (((O.Ac K).Ac V).Ac av) rfl ⟨rfl,rfl⟩ aw)
       ·obtain⟨be,bf,bg⟩:=bs bc;refine zg 4 rfl (Ba bf rfl rfl rfl ?_);refine zg 2 rfl ?_;obtain rfl:=oi bg;exact aQ be ((K.Ac V).Ac av) aw rfl Z
     ·refine JL.exit rfl ?_;obtain rfl:=oi aT;have bh:an=(Sum.inr ()):=(ai _ Z).symm;exact Ay (aO _ _ ⟨(),aP,bh,rfl,rfl,K,aq⟩) rfl
def Jj(fuel:Nat)(p0:Bt)(p1:List Bool)(O:(List Bool)×Int)(K:(List Bool)×Int):Option (Bl ((List Bool)×Int) ((List Bool))):= (ix p0.1 O.2).bind fun V=> Option.bind (if K.2<(V.length:Int) then((ix p1 O.2).bind fun W=> some W) else(some false)) fun Z=> if Z=true then((ix p0.1 O.2).bind fun aa=> (ix aa K.2).bind fun U=> (ix K.1 U).bind fun ae=> (Au (K.2+1)).bind fun ab=> some (.more ((K.1.set (Int.toNat U) true),ab))) else(some (.done K.1))
def Ms(fuel:Nat)(p0:Bt)(p1:List Bool)(K:(List Bool)×Int):Option (Bl ((List Bool)×Int) ((List Bool))):= if K.2<(p1.length:Int) then(Option.bind (iter (Jj fuel p0 p1 K) fuel (K.1,0)) fun O=> (Au (K.2+1)).bind fun U=> some (.more (O,U))) else(some (.done K.1))
def f119(fuel:Nat)(p0:Bt)(p1:List Bool):Option ((List Bool)):= (Gh (p1.length:Int) (false:Bool)).bind fun K=> Option.bind (iter (Ms fuel p0 p1) fuel (K,0)) fun O=> some O
theorem XL{az:Ap}{c2:Nat}{aH:Ap}{aI:Nat}{W:Ap}{Z:Nat}{p0:Bt}{p1:List Bool}(aJ:Ao (rL rI) E az c2 p0.1)(ci:Ao (rL rI) E aH aI p0.2)(a0:Ao rB E W Z p1){fuel:Nat}{r:(List Bool)}(aK:f119 fuel p0 p1=some r):AQ J 119 [.agg #[sV az p0.1 c2,sV aH p0.2 aI],sV W p1 Z] E [] (fun w E' B'=>∃(aL:Ap) (aM:Nat),w= sV aL r aM∧B'= []∧Ao rB E' aL aM r):=by
 refine Bc func119 fun Q ck cs H a1 a2=>?_;unfold f119 at aK;refine zg 2 rfl (Cs a1 fun ag aA ao aN a3=>?_);refine zg 5 rfl (Bp underlying68 rfl rfl rfl ?_);obtain⟨a4,a5,a6⟩:=bs aK;refine JS.make (pp:=rB) a5 rfl rfl rfl rfl rfl underlying68 FD (CP type4) (by decide) LD (by decide) rfl a3 fun a7 a8 a9 ba=>?_;obtain⟨aO,bb,bc⟩:=bs a6;refine zg 7 rfl (Bs (fun L s=>∃(aB:LH) (ap:Ap) (aq:Nat) (aC:Seg),Jn aA H aB [aC] [(5,sV ap aO aq)] L s (OL 4 rB aB ap aq aC aO)) ?_ ?_)
 ·rintro _ _ ⟨aB,ap,aq,aC,rfl,rfl,bd,be,bf⟩;refine zg 5 rfl (Ca 0 bf be rfl fun cm bg bh bi=>?_);obtain rfl:=oi bc;exact AF func119 rfl rfl (a2 ((ao.Ac bd).Ac bg) rfl ⟨ap,aq,rfl,rfl,bh⟩ bi)
 ·intro bj;refine JL.block (CG bb (fun L s O=>∃(aa:LH) (aj:Ap) (ak:Nat) (al:Seg),Jn aA H aa [al] [(1,sV W p1 Z),(2,pV ag 0),(5,sV aj O.1 ak),(6,iV O.2)] L s (OL 4 rB aa aj ak al O.1)) ⟨aA,(Bh a7),a4.length,a8,rfl,rfl,Aq,ba,a9⟩ ?_);rintro _ _ O ⟨aa,aj,ak,al,rfl,rfl,ab,aP,aQ⟩ bl ⟨cn,aD⟩ bm;have aR:=aD;unfold Ms at aR;refine zg 5 rfl (Bp underlying68 rfl rfl rfl ?_);refine zg 2 rfl (AK aR (fun bn bo=>?_) (fun bn bp=>?_))
  ·obtain⟨aE,bq,br⟩:=bs bo;refine zg 7 rfl (Bs (fun L s=>∃(ar:LH) (au:Ap) (av:Nat) (aw:Seg),Jn aa H ar [aw] [(1,sV W p1 Z),(2,pV ag 0),(5,sV au aE av),(6,iV O.2)] L s (OL 4 rB ar au av aw aE)) ?_ ?_)
   ·rintro _ _ ⟨ar,au,av,aw,rfl,rfl,bu,bv,bw⟩;obtain⟨bx,bz,bA⟩:=bs br;refine zg 3 rfl (Ba bz rfl rfl rfl ?_);refine zg 2 rfl ?_;obtain rfl:=oi bA;exact Ay (bm _ _ (aE,bx) ⟨ar,au,av,aw,rfl,rfl,(ab.Ac bu),bv,bw⟩ aD) rfl
   ·intro bB;refine JL.block (CG bq (fun L s K=>∃(ah:LH) (U:Ap) (V:Nat) (am:Seg),Jn aa H ah [am] [(1,sV W p1 Z),(2,pV ag 0),(5,sV U K.1 V),(6,iV O.2),(7,iV K.2)] L s (OL 4 rB ah U V am K.1)) ⟨aa,aj,ak,al,rfl,rfl,Aq,aP,aQ⟩ ?_);rintro _ _ K ⟨ah,U,V,am,rfl,rfl,ae,aS,aT⟩ bC ⟨co,aF⟩ bD;have aU:=aF;unfold Jj at aU;refine zg 4 rfl (JL.fl 0 (aN.Ai (ab.Ac ae)) underlying24 Cl CW ?_);obtain⟨cp,bE,bF⟩:=bs aU;refine zg 1 rfl (Cb (aJ.Ai ((ao.Ac ab).Ac ae)) bE underlying22 BV ?_);rintro cq cr _ ⟨ct,cu,rfl,cv⟩ bG;refine BW 0 bG C4 rfl rfl rfl (Bp underlying28 rfl rfl rfl ?_);obtain⟨aV,bH,bI⟩:=bs bF;refine zg 2 rfl (Gb [] (fun L s=>∃(ay:LH),Jm ah H ay [am] [(1,sV W p1 Z),(2,pV ag 0),(5,sV U K.1 V),(6,iV O.2),(7,iV K.2),(30,.bool aV)] L s) ?_ ?_)
    ·rintro _ _ ⟨ay,rfl,rfl,ai,aW⟩;refine JL.done (BM bI (fun bJ bK=>?_) (fun bJ bL=>?_))
     ·refine zg 5 rfl (JL.fl 0 (aN.Ai ((ab.Ac ae).Ac ai)) underlying24 Cl CW ?_);obtain⟨bM,bN,bO⟩:=bs bK;refine zg 1 rfl (Cb (aJ.Ai (((ao.Ac ab).Ac ae).Ac ai)) bN underlying22 BV ?_);rintro bP bQ _ ⟨bR,bS,rfl,bT⟩ bU;refine BW 0 bU C4 rfl rfl rfl ?_;obtain⟨an,bV,bW⟩:=bs bO;refine zg 1 rfl (Cb bT bV underlying28 AW ?_);rintro bY bZ _ rfl b0;refine BW 0 b0 Bx rfl rfl rfl ?_;obtain⟨cw,b1,b2⟩:=bs bW;refine L4 0 (aT.Ai ai) b1 rfl rfl rfl rfl rfl rfl underlying68 FD ?_;rintro aX aG f141 _ b3 rfl cy b4 b5 cz cA;refine JS.store (v:= .bool true) (off:=aG) 0 rfl rfl rfl aW rfl rfl FD (by simp [Value.cells,CM]) b3 (by have:=b4;simp only [Rp.n,rK,rN,rB,rP,rL] at this;show _+1≤_;omega) fun b6=>?_;have b7:=b5 true [.bool true] rfl;have aY:(K.1.set (Int.toNat an) true).length=K.1.length:=List.length_set;refine GV (L':= [(1,.slice W p1.length Z),(2,pV ag 0),(5,.slice U ((K.1.set (Int.toNat an) true)).length V),(6,iV O.2),(7,iV K.2),(30,.bool aV),(33,.slice U ((K.1.set (Int.toNat an) true)).length V),(34,pV ag 0),(35,.slice az p0.1.length c2),(36,iV O.2),(37,pV bP bQ),(38,.slice bR bM.length bS),(39,iV K.2),(40,pV bY bZ),(41,iV an),(42,pV aX aG)]) ⟨rfl,rfl,by rw [aY];rfl,rfl,rfl,rfl,by rw [aY];rfl,rfl,rfl,rfl,rfl,rfl,rfl,rfl,rfl,rfl,trivial⟩ ?_;obtain⟨b8,b9,ca⟩:=bs b2;refine zg 4 rfl (Ba b9 rfl rfl rfl ?_);refine zg 2 rfl ?_;obtain rfl:=oi ca;exact Ay (bD _ _ ((K.1.set (Int.toNat an) true),b8) ⟨ay,U,V,[(aX,.cells (Be f141 aG [.bool true]) 4 (0,0))],rfl,rfl,(ae.Ac ai),b6,b7⟩ aF) rfl
     ·refine JL.exit rfl ?_;obtain rfl:=oi bL;obtain rfl:=bC _ aF;exact Ay (bB _ _ ⟨ay,U,V,am,rfl,rfl,(ae.Ac ai),aW,(aT.Ai ai)⟩) rfl
    ·intro aZ;refine Ew 25 bH (fun cb cc=>?_) (fun cb cd=>?_)
     ·obtain⟨cB,ce,cf⟩:=bs cc;refine zg 2 rfl (Cb (a0.Ai ((ao.Ac ab).Ac ae)) ce underlying68 FD ?_);rintro cC cD _ rfl cg;refine BW 0 cg Nw rfl rfl rfl (zg 1 rfl ?_);obtain rfl:=oi cf;exact Ay (aZ _ _ ⟨ah,rfl,rfl,Aq,aS⟩) rfl
     ·refine zg 5 rfl ?_;obtain rfl:=oi cd;exact Ay (aZ _ _ ⟨ah,rfl,rfl,Aq,aS⟩) rfl
  ·refine JL.exit rfl ?_;obtain rfl:=oi bp;obtain rfl:=bl _ aD;exact Ay (bj _ _ ⟨aa,aj,ak,al,rfl,rfl,ab,aP,aQ⟩) rfl
def MO(fuel:Nat)(p0:Bt)(p1:Int)(K:(List Bool)×Int):Option (Bl ((List Bool)×Int) ((List Bool))):= if K.2<p1 then((f119 fuel p0 K.1).bind fun O=> (Au (K.2+1)).bind fun U=> some (.more (O,U))) else(some (.done K.1))
def f82(fuel:Nat)(p0:Bt)(p1:Int):Option ((List Bool)):= (Gh (p0.1.length:Int) (false:Bool)).bind fun K=> (ix K (0)).bind fun U=> Option.bind (iter (MO fuel p0 p1) fuel ((K.set (Int.toNat 0) true),0)) fun O=> some O
theorem YP{U:Ap}{c2:Nat}{ah:Ap}{ai:Nat}{p0:Bt}{p1:Int}(aB:Ao (rL rI) E U c2 p0.1)(aC:Ao (rL rI) E ah ai p0.2){fuel:Nat}{r:(List Bool)}(ao:f82 fuel p0 p1=some r):AQ J 82 [.agg #[sV U p0.1 c2,sV ah p0.2 ai],iV p1] E [] (fun w E' B'=>∃(ap:Ap) (aq:Nat),w= sV ap r aq∧B'= []∧Ao rB E' ap aq r):=by
 refine Bc func82 fun Q bj cs H aD aE=>?_;unfold f82 at ao;refine zg 2 rfl (Cs aD fun aj ar ak au aF=>?_);refine zg 4 rfl (JL.fl 0 au underlying24 Cl CW ?_);refine Bp underlying22 rfl rfl rfl ?_;obtain⟨K,aG,aH⟩:=bs ao;refine JS.make (pp:=rB) aG rfl rfl rfl rfl rfl underlying68 FD (CP type4) (by decide) LD (by decide) rfl aF fun V bl aI aJ=>?_;obtain⟨bm,aK,aL⟩:=bs aH;refine zg 5 rfl (L4 2 aI aK rfl rfl rfl rfl rfl rfl underlying68 FD ?_);rintro aM av f24 _ aN rfl bn aO aP bo bp;refine JS.store (v:= .bool true) (off:=av) 2 rfl rfl rfl aJ rfl rfl FD (by simp [Value.cells,CM]) aN (by have:=aO;simp only [Rp.n,rK,rN,rB,rP,rL] at this;show _+1≤_;omega) fun aQ=>?_;have aR:=aP true [.bool true] rfl;have al:(K.set (Int.toNat 0) true).length=K.length:=List.length_set;refine GV (L':= [(0,.agg #[.slice U p0.1.length c2,.slice ah p0.2.length ai]),(1,iV p1),(2,pV aj 0),(4,.slice none 0 0),(7,pV aj 0),(8,.slice U p0.1.length c2),(9,iV (p0.1.length:Int)),(10,.slice (Bh V) ((K.set (Int.toNat 0) true)).length K.length),(5,.slice (Bh V) ((K.set (Int.toNat 0) true)).length K.length),(11,.slice (Bh V) ((K.set (Int.toNat 0) true)).length K.length),(12,pV aM av)]) ⟨rfl,rfl,rfl,rfl,rfl,rfl,rfl,by rw [al];rfl,by rw [al];rfl,by rw [al];rfl,rfl,trivial⟩ ?_;obtain⟨aw,aS,aT⟩:=bs aL;refine zg 6 rfl (Bs (fun L s=>∃(am:LH) (W:Ap) (Z:Nat),Jn ar H am [] [(5,sV W aw Z)] L s (Ao rB am W Z aw)) ?_ ?_)
 ·rintro _ _ ⟨am,W,Z,rfl,rfl,aU,aV,aW⟩;refine zg 5 rfl ?_;obtain rfl:=oi aT;exact AF func82 rfl rfl (aE (ak.Ac aU) rfl ⟨W,Z,rfl,rfl,aW⟩ aV)
 ·intro aX;refine JL.block (Ca 2 aR aQ rfl fun aY aZ a0 a1=>?_);refine CG aS (fun L s aa=>∃(ab:LH) (ae:Ap) (ag:Nat),Jn ar H ab [] [(1,iV p1),(2,pV aj 0),(5,sV ae aa.1 ag),(6,iV aa.2)] L s (Ao rB ab ae ag aa.1)) ⟨aY,(Bh V),K.length,rfl,rfl,aZ,a1,a0⟩ ?_;rintro _ _ aa ⟨ab,ae,ag,rfl,rfl,O,ay,az⟩ a2 ⟨bq,an⟩ a3;have aA:=an;unfold MO at aA;refine zg 7 rfl (AK aA (fun a4 a5=>?_) (fun a4 a6=>?_))
  ·refine zg 4 rfl (Cm (au.Ai O) Cy Cc rfl rfl ?_);obtain⟨a7,a8,a9⟩:=bs a5;refine zg 1 rfl (BO (XL (aB.Ai (ak.Ac O)) (aC.Ai (ak.Ac O)) az a8) rfl rfl (A2 func119 rfl) ay ?_);rintro _ ba _ bb ⟨bc,bd,rfl,rfl,be⟩ bf;obtain⟨bg,bh,bi⟩:=bs a9;refine zg 5 rfl (Ba bh rfl rfl rfl ?_);refine zg 2 rfl ?_;obtain rfl:=oi bi;exact Ay (a3 _ _ (a7,bg) ⟨ba,bc,bd,rfl,rfl,(O.Ac bb),bf,be⟩ an) rfl
  ·refine JL.exit rfl ?_;obtain rfl:=oi a6;obtain rfl:=a2 _ an;exact Ay (aX _ _ ⟨ab,ae,ag,rfl,rfl,O,ay,az⟩) rfl
def f64(fuel:Nat)(p0:Bt)(p1:Int):Option ((List Int)×Int):= (f68 fuel p0).bind fun K=> if K≠0 then(some ([],K)) else((f104 fuel p1 0 12).bind fun O=> if(!O)=true then(some ([],1)) else((f82 fuel p0 p1).bind fun U=> (f111 fuel U).bind fun V=> some (V,0)))
theorem YK{W:Ap}{c2:Nat}{Z:Ap}{aa:Nat}{p0:Bt}{p1:Int}(ab:Ao (rL rI) E W c2 p0.1)(ae:Ao (rL rI) E Z aa p0.2){fuel:Nat}{r:(List Int)×Int}(ag:f64 fuel p0 p1=some r):AQ J 64 [.agg #[sV W p0.1 c2,sV Z p0.2 aa],iV p1] E [] (fun w E' B'=>∃(ah:Ap) (ai:Nat),w= .tuple #[sV ah r.1 ai,iV r.2]∧B'= []∧Ao rI E' ah ai r.1):=by
 refine Bc func64 fun Q aO cs H am V=>?_;unfold f64 at ag;refine zg 2 rfl (Cs am fun aP aQ K aj an=>?_);refine zg 6 rfl (Cm aj Cy Cc rfl rfl ?_);obtain⟨aR,ao,ap⟩:=bs ag;refine BH (YS (ab.Ai K) (ae.Ai K) ao) rfl rfl (A2 func68 rfl) an fun aS O ak=>zg 7 rfl (AK ap (fun aq ar=>?_) (fun aq au=>?_))
 ·refine zg 6 rfl ?_;obtain rfl:=oi ar;exact AF func64 rfl rfl (V (K.Ac O) rfl ⟨none,0,rfl,rfl,Ao.nil⟩ ak)
 ·obtain⟨av,aw,ay⟩:=bs au;refine zg 5 rfl (BH (OG aw) rfl rfl NA ak fun aT U al=>?_);refine AA (v:= .bool (!av)) rfl (fun ρ h=>Yl.not (h _ _ rfl)) (JL.done ?_);refine BM ay (fun az aA=>?_) (fun az aB=>?_)
  ·refine zg 5 rfl ?_;obtain rfl:=oi aA;exact AF func64 rfl rfl (V ((K.Ac O).Ac U) rfl ⟨none,0,rfl,rfl,Ao.nil⟩ al)
  ·refine zg 3 rfl (Cm (aj.Ai (O.Ac U)) Cy Cc rfl rfl ?_);obtain⟨aU,aC,aD⟩:=bs aB;refine zg 1 rfl (BO (YP (ab.Ai ((K.Ac O).Ac U)) (ae.Ai ((K.Ac O).Ac U)) aC) rfl rfl (A2 func82 rfl) al ?_);rintro _ aV _ aE ⟨aW,aX,rfl,rfl,aF⟩ aG;obtain⟨aY,aH,aI⟩:=bs aD;refine BO (XG aF aH) rfl rfl (A2 func111 rfl) aG ?_;rintro _ aZ _ aJ ⟨aK,aL,rfl,rfl,aM⟩ aN;refine zg 3 rfl ?_;obtain rfl:=oi aI;exact AF func64 rfl rfl (V ((((K.Ac O).Ac U).Ac aE).Ac aJ) rfl ⟨aK,aL,rfl,rfl,aM⟩ aN)
def MK(fuel:Nat)(p0:Bt)(p1:A4)(p2:List Int)(K:(List Bool)×Int×Int):Option (Bl ((List Bool)×Int×Int) (((List Bool)×Int×Bool)⊕((List Bool)×Int))):= if K.2.2<(p1.length:Int) then(Option.bind ((ix p1 K.2.2).bind fun V=> (ix p2 V.1).bind fun O=> (ix p1 K.2.2).bind fun W=> if O=W.2 then(some (Sum.inr (K.1,K.2.1))) else((ix p0.2 O).bind fun Z=> (ix p1 K.2.2).bind fun aa=> (f53 fuel Z aa.2).bind fun ab=> if(!ab)=true then(some (Sum.inl ([],0,false))) else((Au (K.2.1+1)).bind fun ae=> (ix K.1 K.2.2).bind fun ai=> some (Sum.inr ((K.1.set (Int.toNat K.2.2) true),ae))))) fun ag=>Sum.elim (fun r=>some (.done (Sum.inl r))) (fun U=> (Au (K.2.2+1)).bind fun ah=> some (.more (U.1,U.2,ah))) ag) else(some (.done (Sum.inr (K.1,K.2.1))))
def f54(fuel:Nat)(p0:Bt)(p1:A4)(p2:List Int):Option ((List Bool)×Int×Bool):= (Gh (p1.length:Int) (false:Bool)).bind fun O=> Option.bind (iter (MK fuel p0 p1 p2) fuel (O,0,0)) fun U=> Sum.elim (fun r=>some r) (fun K=> some (K.1,K.2,true)) U
theorem Yz{aH:Ap}{c2:Nat}{av:Ap}{aw:Nat}{O:Ap}{U:Nat}{ae:Ap}{ag:Nat}{p0:Bt}{p1:A4}{p2:List Int}(cv:Ao (rL rI) E aH c2 p0.1)(a3:Ao (rL rI) E av aw p0.2)(ay:Ao BJ E O U p1)(a4:Ao rI E ae ag p2){fuel:Nat}{r:(List Bool)×Int×Bool}(aI:f54 fuel p0 p1 p2=some r):AQ J 54 [.agg #[sV aH p0.1 c2,sV av p0.2 aw],sV O p1 U,sV ae p2 ag] E [] (fun w E' B'=>∃(aJ:Ap) (aK:Nat),w= .tuple #[sV aJ r.1 aK,iV r.2.1,.bool r.2.2]∧B'= []∧Ao rB E' aJ aK r.1):=by
 refine Bc func54 fun Q cw cs H a5 aL=>?_;unfold f54 at aI;refine zg 2 rfl (Cs a5 fun al az aa a6 a7=>?_);refine zg 7 rfl (Bp underlying25 rfl rfl rfl ?_);obtain⟨a8,a9,ba⟩:=bs aI;refine JS.make (pp:=rB) a9 rfl rfl rfl rfl rfl underlying68 FD (CP type4) (by decide) LD (by decide) rfl a7 fun bb bc bd be=>?_;obtain⟨aM,bf,aN⟩:=bs ba;refine zg 11 rfl (Bs (fun L s=>∃(ai:(List Bool)×Int) (aA:LH) (am:Ap) (an:Nat) (aB:Seg),aM=Sum.inr ai∧Jn az H aA [aB] [(9,sV am ai.1 an),(10,iV ai.2)] L s (OL 4 rB aA am an aB ai.1)) ?_ ?_)
 ·rintro _ _ ⟨ai,aA,am,an,aB,rfl,rfl,rfl,bg,bh,bi⟩;have bj:=elim_inr aN;refine zg 8 rfl (Ca 0 bi bh rfl fun cy bl bm bn=>?_);obtain rfl:=oi bj;exact AF func54 rfl rfl (aL ((aa.Ac bg).Ac bl) rfl ⟨am,an,rfl,rfl,bm⟩ bn)
 ·intro bo;refine JL.block (CG bf (fun L s K=>∃(ah:LH) (W:Ap) (Z:Nat) (aj:Seg),Jn az H ah [aj] [(1,sV O p1 U),(2,sV ae p2 ag),(3,pV al 0),(9,sV W K.1 Z),(10,iV K.2.1),(11,iV K.2.2)] L s (OL 4 rB ah W Z aj K.1)) ⟨az,(Bh bb),a8.length,bc,rfl,rfl,Aq,be,bd⟩ ?_);rintro _ _ K ⟨ah,W,Z,aj,rfl,rfl,V,aC,aD⟩ aO ⟨cz,ao⟩ bp;have aP:=ao;unfold MK at aP;refine zg 5 rfl (Bp underlying25 rfl rfl rfl ?_);refine zg 2 rfl (AK aP (fun bq br=>?_) (fun bq bu=>?_))
  ·obtain⟨bv,bw,aQ⟩:=bs br;refine zg 2 rfl (Bs (fun L s=>∃(ab:(List Bool)×Int) (ap:LH) (aq:Ap) (ar:Nat) (au:Seg),bv=Sum.inr ab∧Jn ah H ap [au] [(1,sV O p1 U),(2,sV ae p2 ag),(3,pV al 0),(9,sV aq ab.1 ar),(10,iV ab.2),(11,iV K.2.2)] L s (OL 4 rB ap aq ar au ab.1)) ?_ ?_)
   ·rintro _ _ ⟨ab,ap,aq,ar,au,rfl,rfl,rfl,bx,bz,bA⟩;have bB:=elim_inr aQ;obtain⟨bC,bD,bE⟩:=bs bB;refine zg 2 rfl (Ba bD rfl rfl rfl ?_);refine zg 2 rfl ?_;obtain rfl:=oi bE;exact Ay (bp _ _ (ab.1,ab.2,bC) ⟨ap,aq,ar,au,rfl,rfl,(V.Ac bx),bz,bA⟩ ao) rfl
   ·intro aR;obtain⟨bF,bG,bH⟩:=bs bw;refine zg 6 rfl (Cb (ay.Ai (aa.Ac V)) bG underlying25 CS ?_);rintro aS aT _ ⟨_,_,rfl,rfl,rfl⟩ bI;refine JL.fl 0 bI underlying27 AW Bx ?_;obtain⟨ak,bJ,bK⟩:=bs bH;refine Cb (a4.Ai (aa.Ac V)) bJ underlying28 AW ?_;rintro bL bM _ rfl bN;refine BW 0 bN Bx rfl rfl rfl ?_;obtain⟨aU,bO,bP⟩:=bs bK;refine zg 8 rfl (Cb (ay.Ai (aa.Ac V)) bO underlying25 CS ?_);rintro aV aW _ ⟨_,_,rfl,rfl,rfl⟩ bQ;refine JL.fl 1 bQ underlying27 AW Bx ?_;refine zg 2 rfl (AK bP (fun bR bS=>?_) (fun bR bT=>?_))
    ·exact JL.exit rfl (Ay (aR _ _ ⟨(K.1,K.2.1),ah,W,Z,aj,(Option.some.inj bS).symm,rfl,rfl,Aq,aC,aD⟩) rfl)
    ·refine zg 3 rfl (DG 10 fun ht=>?_);refine B6 0 ht underlying24 Cl rfl rfl rfl rfl (CI 1 ht 1 (a6.Ai V) CW rfl rfl rfl rfl ?_);refine Cv 2 ht rfl rfl ?_;obtain⟨bU,bV,bW⟩:=bs bT;refine Du 3 (a3.Ai (aa.Ac V)) bV ht underlying22 BV ?_;rintro bY bZ _ ⟨b0,b1,rfl,b2⟩ b3;refine CI 4 ht 0 b3 C4 rfl rfl rfl rfl (Bi ht rfl [5,6] rfl ?_);obtain⟨b4,b5,b6⟩:=bs bW;refine Du 7 (ay.Ai (aa.Ac V)) b5 ht underlying25 CS ?_;rintro aX aY _ ⟨_,_,rfl,rfl,rfl⟩ b7;refine B6 8 ht underlying27 AW rfl rfl rfl rfl (CI 9 ht 1 b7 Bx rfl rfl rfl rfl ?_);refine Co [10,11] ?_;obtain⟨aE,b8,b9⟩:=bs b6;refine BH (YN b2 b8) rfl rfl (A2 func53 rfl) aC fun ca aF aZ=>AA (v:= .bool (!aE)) rfl (fun ρ h=>Yl.not (h _ _ rfl)) (JL.done ?_);refine BM b9 (fun cb cc=>?_) (fun cb cd=>?_)
     ·refine zg 6 rfl (JS.drop 0 aZ rfl fun ce=>?_);obtain rfl:=oi cc;have cf:=elim_inl aQ;obtain rfl:=oi cf;obtain rfl:=aO _ ao;have cg:=elim_inl aN;obtain rfl:=oi cg;exact AF func54 rfl rfl (aL ((aa.Ac V).Ac aF) rfl ⟨none,0,rfl,rfl,Ao.nil⟩ ce)
     ·obtain⟨a0,ci,ck⟩:=bs cd;refine zg 5 rfl (Ba ci rfl rfl rfl ?_);obtain⟨cA,cm,cn⟩:=bs ck;refine L4 0 (aD.Ai aF) cm rfl rfl rfl rfl rfl rfl underlying68 FD ?_;rintro a1 aG f144 _ co rfl cB cp cq cC cD;refine JS.store (v:= .bool true) (off:=aG) 0 rfl rfl rfl aZ rfl rfl FD (by simp [Value.cells,CM]) co (by have:=cp;simp only [Rp.n,rK,rN,rB,rP,rL] at this;show _+1≤_;omega) fun cr=>?_;have ct:=cq true [.bool true] rfl;have a2:(K.1.set (Int.toNat K.2.2) true).length=K.1.length:=List.length_set;refine GV (L':= [(1,.slice O p1.length U),(2,.slice ae p2.length ag),(3,pV al 0),(9,.slice W ((K.1.set (Int.toNat K.2.2) true)).length Z),(10,iV K.2.1),(11,iV K.2.2),(16,iV K.2.2),(17,.slice O p1.length U),(18,iV (p1.length:Int)),(19,.bool (decide (K.2.2<(p1.length:Int)))),(22,.slice ae p2.length ag),(23,.slice O p1.length U),(24,iV K.2.2),(25,pV aS aT),(26,pV aS aT),(27,iV bF.1),(28,pV bL bM),(29,iV ak),(12,iV ak),(30,iV ak),(31,.slice O p1.length U),(32,iV K.2.2),(33,pV aV aW),(34,pV aV (aW+1)),(35,iV aU.2),(36,.bool (decide (ak=aU.2))),(37,pV al 1),(38,.slice av p0.2.length aw),(39,iV ak),(40,pV bY bZ),(41,.slice b0 bU.length b1),(42,.slice O p1.length U),(43,iV K.2.2),(44,pV aX aY),(45,pV aX (aY+1)),(46,iV b4.2),(47,.bool aE),(48,.bool (!aE)),(49,.slice W ((K.1.set (Int.toNat K.2.2) true)).length Z),(50,iV K.2.2),(51,iV K.2.1),(52,iV a0),(53,pV a1 aG)]) ⟨rfl,rfl,rfl,by rw [a2];rfl,rfl,rfl,rfl,rfl,rfl,rfl,rfl,rfl,rfl,rfl,rfl,rfl,rfl,rfl,rfl,rfl,rfl,rfl,rfl,rfl,rfl,rfl,rfl,rfl,rfl,rfl,rfl,rfl,rfl,rfl,rfl,rfl,rfl,rfl,by rw [a2];rfl,rfl,rfl,rfl,rfl,trivial⟩ ?_;exact zg 3 rfl (Ay (aR _ _ ⟨((K.1.set (Int.toNat K.2.2) true),a0),ca,W,Z,[(a1,.cells (Be f144 aG [.bool true]) 4 (0,0))],(Option.some.inj cn).symm,rfl,rfl,aF,cr,ct⟩) rfl)
  ·refine JL.exit rfl ?_;obtain rfl:=oi bu;have cu:aM=(Sum.inr (K.1,K.2.1)):=(aO _ ao).symm;exact Ay (bo _ _ ⟨(K.1,K.2.1),ah,W,Z,aj,cu,rfl,rfl,V,aC,aD⟩) rfl
def f71(fuel:Nat):Option ((Bt)):= some (([([1]:List Int),([2]:List Int),([3,4]:List Int),([4]:List Int),([5]:List Int),([5]:List Int)]:List (List Int)),([[],[],[],([2]:List Int),([2,3]:List Int),([3,4]:List Int)]:List (List Int)))
theorem Ic{fuel:Nat}{r:(Bt)}(ak:f71 fuel=some r):AQ J 71 [] E [] (fun w E' B'=>∃(al:Ap) (am:Nat) (an:Ap) (ao:Nat),w= .agg #[sV al r.1 am,sV an r.2 ao]∧B'= []∧Ao (rL rI) E' al am r.1∧Ao (rL rI) E' an ao r.2):=by
 refine Bc func71 fun Q bM cs H aB aC=>?_;unfold f71 at ak;refine zg 2 rfl (CO aB J3 fun K aD=>?_);refine zg 3 rfl (JS.lit (pp:=rI) [iV 1] [1] rfl rfl rfl underlying28 AW Cz (by decide) rfl rfl rfl ⟨rfl,trivial⟩ aD fun aE ap aF aG=>?_);refine JS.lit (pp:=rI) [iV 2] [2] rfl rfl rfl underlying28 AW Cz (by decide) rfl rfl rfl ⟨rfl,trivial⟩ aG fun aH aq aI aJ=>CB (S':= [[],[(K,.cells #[nS,nS] 24 (0,0))],ap,aq]) rfl aJ fun aK=>JS.lit (pp:=rI) [iV 3,iV 4] [3,4] rfl rfl rfl underlying28 AW Cz (by decide) rfl rfl rfl ⟨rfl,rfl,trivial⟩ aK fun aL ar aM aN=>JS.lit (pp:=rI) [iV 4] [4] rfl rfl rfl underlying28 AW Cz (by decide) rfl rfl rfl ⟨rfl,trivial⟩ aN fun aO au aP aQ=>JS.lit (pp:=rI) [iV 5] [5] rfl rfl rfl underlying28 AW Cz (by decide) rfl rfl rfl ⟨rfl,trivial⟩ aQ fun aR av aS aT=>CB (S':= [[],[(K,.cells #[nS,nS] 24 (0,0))],ap,aq,ar,au,av]) rfl aT fun aU=>JS.lit (pp:=rI) [iV 5] [5] rfl rfl rfl underlying28 AW Cz (by decide) rfl rfl rfl ⟨rfl,trivial⟩ aU fun aV aw aW aX=>Ca 2 aF aX rfl fun bN O aY aZ=>Ca 3 (aI.Ai O) aZ rfl fun bO U a0 a1=>CB (S':= [[],[(K,.cells #[nS,nS] 24 (0,0))],[],[],ar,au,av,aw]) rfl a1 fun a2=>Ca 4 (aM.Ai (O.Ac U)) a2 rfl fun bP V a3 a4=>Ca 5 (aP.Ai ((O.Ac U).Ac V)) a4 rfl fun bQ W a5 a6=>Ca 6 (aS.Ai (((O.Ac U).Ac V).Ac W)) a6 rfl fun bR Z a7 a8=>CB (S':= [[],[(K,.cells #[nS,nS] 24 (0,0))],[],[],[],[],[],aw]) rfl a8 fun a9=>Ca 7 (aW.Ai ((((O.Ac U).Ac V).Ac W).Ac Z)) a9 rfl fun bS aa ba bb=>JS.lit (pp:=(rL rI)) [.slice (Bh aE) (([1]:List Int)).length 1,.slice (Bh aH) (([2]:List Int)).length 1,.slice (Bh aL) (([3,4]:List Int)).length 2,.slice (Bh aO) (([4]:List Int)).length 1,.slice (Bh aR) (([5]:List Int)).length 1,.slice (Bh aV) (([5]:List Int)).length 1] [([1]:List Int),([2]:List Int),([3,4]:List Int),([4]:List Int),([5]:List Int),([5]:List Int)] rfl rfl rfl underlying22 BV EF (by decide) rfl rfl rfl ⟨⟨_,_,rfl,(aY.Ai ((((U.Ac V).Ac W).Ac Z).Ac aa))⟩,⟨_,_,rfl,(a0.Ai (((V.Ac W).Ac Z).Ac aa))⟩,⟨_,_,rfl,(a3.Ai ((W.Ac Z).Ac aa))⟩,⟨_,_,rfl,(a5.Ai (Z.Ac aa))⟩,⟨_,_,rfl,(a7.Ai aa)⟩,⟨_,_,rfl,ba⟩,trivial⟩ bb fun ab aj bc bd=>JS.lit (pp:=rI) [iV 2] [2] rfl rfl rfl underlying28 AW Cz (by decide) rfl rfl rfl ⟨rfl,trivial⟩ bd fun be bf bg bh=>CB (S':= [[],[(K,.cells #[nS,nS] 24 (0,0))],[],[],[],[],[],[],aj,bf]) rfl bh fun bi=>JS.lit (pp:=rI) [iV 2,iV 3] [2,3] rfl rfl rfl underlying28 AW Cz (by decide) rfl rfl rfl ⟨rfl,rfl,trivial⟩ bi fun bj bl bm bn=>JS.lit (pp:=rI) [iV 3,iV 4] [3,4] rfl rfl rfl underlying28 AW Cz (by decide) rfl rfl rfl ⟨rfl,rfl,trivial⟩ bn fun bo bp bq br=>Ca 9 bg br rfl fun bT ag bu bv=>?_;refine CB (S':= [[],[(K,.cells #[nS,nS] 24 (0,0))],[],[],[],[],[],[],aj,[],bl,bp]) rfl bv fun bw=>Ca 10 (bm.Ai ag) bw rfl fun bU ah bx bz=>Ca 11 (bq.Ai (ag.Ac ah)) bz rfl fun bV ai bA bB=>JS.lit (pp:=(rL rI)) [nS,nS,nS,.slice (Bh be) (([2]:List Int)).length 1,.slice (Bh bj) (([2,3]:List Int)).length 2,.slice (Bh bo) (([3,4]:List Int)).length 2] [[],[],[],([2]:List Int),([2,3]:List Int),([3,4]:List Int)] rfl rfl rfl underlying22 BV EF (by decide) rfl rfl rfl ⟨⟨_,_,rfl,Ao.nil⟩,⟨_,_,rfl,Ao.nil⟩,⟨_,_,rfl,Ao.nil⟩,⟨_,_,rfl,(bu.Ai (ah.Ac ai))⟩,⟨_,_,rfl,(bx.Ai ai)⟩,⟨_,_,rfl,bA⟩,trivial⟩ bB fun ae bC bD bE=>CB (S':= [[],[(K,.cells #[nS,nS] 24 (0,0))],[],[],[],[],[],[],aj,[],[],[],bC]) rfl bE fun bF=>AA (v:= .agg #[.slice (Bh ab) (([([1]:List Int),([2]:List Int),([3,4]:List Int),([4]:List Int),([5]:List Int),([5]:List Int)]:List (List Int))).length 6,.slice (Bh ae) (([[],[],[],([2]:List Int),([2,3]:List Int),([3,4]:List Int)]:List (List Int))).length 6]) rfl (fun ρ h=>Dc [(0,1),(1,1)] h J3 underlying24 ⟨rfl,Bq type22,rfl,Bq type22,trivial⟩ rfl rfl) (BQ 1 bF Cc fun bG=>?_);refine JL.done (Ca 8 (bc.Ai ((ag.Ac ah).Ac ai)) bG rfl fun bW ay bH bI=>?_);refine Ca 12 (bD.Ai ay) bI rfl fun bY az bJ bK=>CB (S':= [[],[(K,.cells #[.slice (Bh ab) (([([1]:List Int),([2]:List Int),([3,4]:List Int),([4]:List Int),([5]:List Int),([5]:List Int)]:List (List Int))).length 6,.slice (Bh ae) (([[],[],[],([2]:List Int),([2,3]:List Int),([3,4]:List Int)]:List (List Int))).length 6] 24 (0,0))],[],[],[],[],[],[],[],[],[],[],[]]) rfl bK fun aA=>?_;obtain rfl:=oi ak;refine JL.ret (v:= .agg #[.slice (Bh ab) (([([1]:List Int),([2]:List Int),([3,4]:List Int),([4]:List Int),([5]:List Int),([5]:List Int)]:List (List Int))).length 6,.slice (Bh ae) (([[],[],[],([2]:List Int),([2,3]:List Int),([3,4]:List Int)]:List (List Int))).length 6]) rfl rfl (B9.list func71 rfl (vs:= [.agg #[.slice (Bh ab) (([([1]:List Int),([2]:List Int),([3,4]:List Int),([4]:List Int),([5]:List Int),([5]:List Int)]:List (List Int))).length 6,.slice (Bh ae) (([[],[],[],([2]:List Int),([2,3]:List Int),([3,4]:List Int)]:List (List Int))).length 6]]) ⟨⟨_,rfl,Ld.many (vs:= [.slice (Bh ab) (([([1]:List Int),([2]:List Int),([3,4]:List Int),([4]:List Int),([5]:List Int),([5]:List Int)]:List (List Int))).length 6,.slice (Bh ae) (([[],[],[],([2]:List Int),([2,3]:List Int),([3,4]:List Int)]:List (List Int))).length 6]) Cy Cc (F9 (off:=0) 1 aA rfl rfl)⟩,trivial⟩) (ID 1 aA rfl fun bL=>?_);exact aC ((((((((((O.Ac U).Ac V).Ac W).Ac Z).Ac aa).Ac ag).Ac ah).Ac ai).Ac ay).Ac az) rfl ⟨(Bh ab),6,(Bh ae),6,rfl,rfl,(bH.Ai az),bJ⟩ bL
def f72(fuel:Nat):Option ((A4)):= some ([(0,2),(1,4)]:A4)
theorem OW{fuel:Nat}{r:(A4)}(K:f72 fuel=some r):AQ J 72 [] E [] (fun w E' B'=>∃(O:Ap) (U:Nat),w= sV O r U∧B'= []∧Ao BJ E' O U r):=by
 refine Bc func72 fun Q ai cs H V W=>?_;unfold f72 at K;refine zg 6 rfl (AA (v:= .agg #[iV 0,iV 2]) rfl (fun ρ h=>Dc [(0,1),(1,1)] h F6 underlying27 ⟨rfl,Bq type3,rfl,Bq type3,trivial⟩ rfl rfl) ?_);refine AA (v:= .agg #[iV 1,iV 4]) rfl (fun ρ h=>Dc [(0,1),(1,1)] h F6 underlying27 ⟨rfl,Bq type3,rfl,Bq type3,trivial⟩ rfl rfl) (JS.lit (pp:=BJ) [.agg #[iV 0,iV 2],.agg #[iV 1,iV 4]] [(0,2),(1,4)] rfl rfl rfl underlying25 CS F6 (by decide) rfl rfl rfl ⟨⟨_,_,rfl,rfl,rfl⟩,⟨_,_,rfl,rfl,rfl⟩,trivial⟩ V fun Z g2 aa ab=>?_);refine zg 2 rfl (Ca 1 aa ab rfl fun aj ae ag ah=>?_);obtain rfl:=oi K;exact AF func72 rfl rfl (W ae rfl ⟨(Bh Z),2,rfl,rfl,ag⟩ ah)
def f73(fuel:Nat):Option ((A4)):= some ([(0,3),(1,3)]:A4)
theorem SE{fuel:Nat}{r:(A4)}(K:f73 fuel=some r):AQ J 73 [] E [] (fun w E' B'=>∃(O:Ap) (U:Nat),w= sV O r U∧B'= []∧Ao BJ E' O U r):=by
 refine Bc func73 fun Q ai cs H V W=>?_;unfold f73 at K;refine zg 6 rfl (AA (v:= .agg #[iV 0,iV 3]) rfl (fun ρ h=>Dc [(0,1),(1,1)] h F6 underlying27 ⟨rfl,Bq type3,rfl,Bq type3,trivial⟩ rfl rfl) ?_);refine AA (v:= .agg #[iV 1,iV 3]) rfl (fun ρ h=>Dc [(0,1),(1,1)] h F6 underlying27 ⟨rfl,Bq type3,rfl,Bq type3,trivial⟩ rfl rfl) (JS.lit (pp:=BJ) [.agg #[iV 0,iV 3],.agg #[iV 1,iV 3]] [(0,3),(1,3)] rfl rfl rfl underlying25 CS F6 (by decide) rfl rfl rfl ⟨⟨_,_,rfl,rfl,rfl⟩,⟨_,_,rfl,rfl,rfl⟩,trivial⟩ V fun Z g2 aa ab=>?_);refine zg 2 rfl (Ca 1 aa ab rfl fun aj ae ag ah=>?_);obtain rfl:=oi K;exact AF func73 rfl rfl (W ae rfl ⟨(Bh Z),2,rfl,rfl,ag⟩ ah)
end Pal
namespace Pal
open Go Go.Conc Go.Proofs
open Go.Proofs.Tryz
variable {J:Judge Tryz.prog}{E:LH}
def f103(fuel:Nat)(p0:Nat)(p1:Int):Option Bool:= (Li p0 p1).bind fun K=> (JK K (1)).bind fun O=> some (decide ((((O):Nat):Int)=(((1):Nat):Int)))
theorem OK{p0:Nat}{p1:Int}{fuel:Nat}{r:Bool}(K:f103 fuel p0 p1=some r):AQ J 103 [uV p0,iV p1] E [] (fun w E' B'=>w= .bool r∧B'= []):=by
 refine Bc func103 fun Q ag cs H O U=>?_;unfold f103 at K;obtain⟨V,W,Z⟩:=bs K;refine zg 8 rfl (AA (v:= uV V) rfl (fun ρ h=>Wa (h _ _ rfl) (h _ _ rfl) W) ?_);obtain⟨aa,ab,ae⟩:=bs Z;refine AA (v:= uV aa) rfl (fun ρ h=>NW (h _ _ rfl) (h _ _ rfl) ab) (zg 3 rfl ?_);obtain rfl:=oi ae;exact AF func103 rfl rfl (U Aq rfl ⟨rfl,rfl⟩ O)
def f90(fuel:Nat)(p0:Nat)(p1:Int):Option Nat:= (KT p1).bind fun K=> (IX p0 K).bind fun O=> some O
theorem M8{p0:Nat}{p1:Int}{fuel:Nat}{r:Nat}(K:f90 fuel p0 p1=some r):AQ J 90 [uV p0,iV p1] E [] (fun w E' B'=>w= uV r∧B'= []):=by
 refine Bc func90 fun Q ag cs H O U=>?_;unfold f90 at K;obtain⟨V,W,Z⟩:=bs K;refine zg 8 rfl (AA (v:= uV V) rfl (fun ρ h=>VM (h _ _ rfl) (h _ _ rfl) W) ?_);obtain⟨aa,ab,ae⟩:=bs Z;refine AA (v:= uV aa) rfl (fun ρ h=>Kn (h _ _ rfl) (h _ _ rfl) ab) (zg 2 rfl ?_);obtain rfl:=oi ae;exact AF func90 rfl rfl (U Aq rfl ⟨rfl,rfl⟩ O)
def MX(fuel:Nat)(p0:Nat)(K:(List Int)×Int):Option (Bl ((List Int)×Int) ((List Int))):= if K.2<16 then((f103 fuel p0 K.2).bind fun O=> Option.bind (if O=true then((room K.1 K.2).bind fun U=> some U) else(some K.1)) fun V=> (Au (K.2+1)).bind fun W=> some (.more (V,W))) else(some (.done K.1))
def f89(fuel:Nat)(p0:Nat):Option ((List Int)):= Option.bind (iter (MX fuel p0) fuel ([],0)) fun K=> some K
theorem IL{p0:Nat}{fuel:Nat}{r:(List Int)}(ap:f89 fuel p0=some r):AQ J 89 [uV p0] E [] (fun w E' B'=>∃(aq:Ap) (ar:Nat),w= sV aq r ar∧B'= []∧Ao rI E' aq ar r):=by
 refine Bc func89 fun Q bb cs H aB aC=>?_;unfold f89 at ap;obtain⟨au,aD,aE⟩:=bs ap;refine zg 13 rfl (Bs (fun L s=>∃(ai:LH) (W:Ap) (Z:Nat) (aj:Seg),Jn E H ai [aj] [(3,sV W au Z)] L s (OL 3 rI ai W Z aj au)) ?_ ?_)
 ·rintro _ _ ⟨ai,W,Z,aj,rfl,rfl,aF,aG,aH⟩;refine zg 5 rfl (Ca 0 aH aG rfl fun bc aI aJ aK=>?_);obtain rfl:=oi aE;exact AF func89 rfl rfl (aC (aF.Ac aI) rfl ⟨W,Z,rfl,rfl,aJ⟩ aK)
 ·intro aL;refine JL.block (CG aD (fun L s K=>∃(aa:LH) (O:Ap) (U:Nat) (V:Seg),Jn E H aa [V] [(0,uV p0),(3,sV O K.1 U),(5,iV K.2)] L s (OL 3 rI aa O U V K.1)) ⟨E,none,0,[],rfl,rfl,Aq,aB,OL.nil⟩ ?_);rintro _ _ K ⟨aa,O,U,V,rfl,rfl,av,aw,ak⟩ aM ⟨bd,al⟩ aN;have ay:=al;unfold MX at ay;refine zg 5 rfl (AK ay (fun aO aP=>?_) (fun aO aQ=>?_))
  ·obtain⟨be,aR,aS⟩:=bs aP;refine zg 12 rfl (BH (OK aR) rfl rfl NB aw fun am an az=>?_);obtain⟨ao,aT,aU⟩:=bs aS;refine JL.done (Bs (fun L s=>∃(ab:LH) (ae:Ap) (ag:Nat) (ah:Seg),Jn am H ab [ah] [(0,uV p0),(3,sV ae ao ag),(5,iV K.2)] L s (OL 3 rI ab ae ag ah ao)) ?_ ?_)
   ·rintro _ _ ⟨ab,ae,ag,ah,rfl,rfl,aV,aW,aX⟩;obtain⟨aY,aZ,a0⟩:=bs aU;refine zg 2 rfl (Ba aZ rfl rfl rfl ?_);refine zg 2 rfl ?_;obtain rfl:=oi a0;exact Ay (aN _ _ (ao,aY) ⟨ab,ae,ag,ah,rfl,rfl,((av.Ac an).Ac aV),aW,aX⟩ al) rfl
   ·intro aA;refine BM aT (fun a1 a2=>?_) (fun a1 a3=>?_)
    ·obtain⟨bf,a4,a5⟩:=bs a2;refine zg 3 rfl (JS.app (pp:=rI) (v:=iV K.2) (a:=O) (c:=U) 0 a4 rfl rfl rfl rfl (fun _=>rfl) rfl (fun _=>rfl) rfl rfl rfl underlying28 underlying28 underlying28 AW (CP type3) Cz rfl (by decide) (by decide) (by decide) (by decide) (ak.Ai an) rfl az rfl fun bg a6 a7 a8 a9 ba=>?_);refine zg 2 rfl ?_;obtain rfl:=oi a5;exact Ay (aA _ _ ⟨am,a6,a7,a8,rfl,rfl,Aq,ba,a9⟩) rfl
    ·refine JL.skip ?_;obtain rfl:=oi a3;exact Ay (aA _ _ ⟨am,O,U,V,rfl,rfl,Aq,az,(ak.Ai an)⟩) rfl
  ·refine JL.exit rfl ?_;obtain rfl:=oi aQ;obtain rfl:=aM _ al;exact Ay (aL _ _ ⟨aa,O,U,V,rfl,rfl,av,aw,ak⟩) rfl
def Mb(fuel:Nat)(p0:List Int)(K:Nat×Int):Option (Bl (Nat×Int) Nat):= if K.2<(p0.length:Int) then((ix p0 K.2).bind fun O=> (f90 fuel K.1 O).bind fun U=> (Au (K.2+1)).bind fun V=> some (.more (U,V))) else(some (.done K.1))
def f120(fuel:Nat)(p0:List Int):Option Nat:= Option.bind (iter (Mb fuel p0) fuel (0,0)) fun K=> some K
theorem Js{O:Ap}{c2:Nat}{p0:List Int}(ab:Ao rI E O c2 p0){fuel:Nat}{r:Nat}(W:f120 fuel p0=some r):AQ J 120 [sV O p0 c2] E [] (fun w E' B'=>w= uV r∧B'= []):=by
 refine Bc func120 fun Q aG cs H ae ag=>?_;unfold f120 at W;refine zg 12 rfl (Bp underlying28 rfl rfl rfl ?_);obtain⟨ah,ai,aj⟩:=bs W;refine zg 2 rfl (Cu [] [(3,uV ah)] (fun aH ak al=>?_) (fun am=>?_))
 ·refine zg 5 rfl ?_;obtain rfl:=oi aj;exact AF func120 rfl rfl (ag ak rfl ⟨rfl,rfl⟩ al)
 ·refine JL.block (CC ai (fun K=> []) (fun K=> [(3,uV K.1),(6,sV O p0 c2),(7,iV (p0.length:Int)),(8,iV K.2)]) Aq ae ?_);rintro K aI U Z an ⟨aJ,V⟩ ao;have aa:=V;unfold Mb at aa;refine zg 5 rfl (AK aa (fun ap aq=>?_) (fun ap ar=>?_))
  ·obtain⟨aK,au,av⟩:=bs aq;refine zg 5 rfl (Cb (ab.Ai U) au underlying28 AW ?_);rintro aL aM _ rfl aw;refine BW 0 aw Bx rfl rfl rfl ?_;obtain⟨ay,az,aA⟩:=bs av;refine zg 5 rfl (BH (M8 az) rfl rfl Lz Z fun aN aB aC=>?_);obtain⟨aD,aE,aF⟩:=bs aA;refine zg 4 rfl (Ba aE rfl rfl rfl ?_);refine zg 2 rfl ?_;obtain rfl:=oi aF;exact ao (ay,aD) (U.Ac aB) aC rfl V
  ·refine JL.exit rfl ?_;obtain rfl:=oi ar;obtain rfl:=an _ V;exact am U Z rfl
def Jg(fuel:Nat)(p0:Bt)(p1:Int)(p2:List Int)(p3:Bool)(K:Int):Option (Bl Int (((Option (Int×Int)))⊕(Unit))):= if K<(p2.length:Int) then((ix p2 K).bind fun O=> (Au ((p0.1.length:Int) - 1)).bind fun U=> (f101 fuel O 0 U).bind fun V=> if V=true then(some (.done (Sum.inl (some (3,p1))))) else(Option.bind (if O=p1 then(some (!p3)) else(some false)) fun W=> if W=true then(some (.done (Sum.inl (some (8,p1))))) else(Option.bind (if 0<K then((Au (K - 1)).bind fun Z=> (ix p2 Z).bind fun aa=> some (decide (O≤aa))) else(some false)) fun ab=> if ab=true then(some (.done (Sum.inl (some (5,p1))))) else((Au (K+1)).bind fun ae=> some (.more ae))))) else(some (.done (Sum.inr ())))
def f136(fuel:Nat)(p0:Bt)(p1:Int)(p2:List Int)(p3:Bool):Option ((Option (Int×Int))):= Option.bind (iter (Jg fuel p0 p1 p2 p3) fuel 0) fun K=> Sum.elim (fun r=>some r) (fun O=> some none) K
theorem Sa{al:Ap}{c2:Nat}{am:Ap}{an:Nat}{K:Ap}{O:Nat}{p0:Bt}{p1:Int}{p2:List Int}{p3:Bool}(bA:Ao (rL rI) E al c2 p0.1)(bB:Ao (rL rI) E am an p0.2)(ao:Ao rI E K O p2){fuel:Nat}{r:(Option (Int×Int))}(ap:f136 fuel p0 p1 p2 p3=some r):AQ J 136 [.agg #[sV al p0.1 c2,sV am p0.2 an],iV p1,sV K p2 O,.bool p3] E [] (fun w E' B'=>∃(aq:Value),w=aq∧B'= []∧Ij 183 aq r):=by
 refine Bc func136 fun Q bC cs H aD ab=>?_;unfold f136 at ap;refine zg 2 rfl (Cs aD fun ai aE V aF aG=>?_);refine zg 6 rfl (Bp underlying28 rfl rfl rfl ?_);obtain⟨ar,aH,ae⟩:=bs ap;refine zg 2 rfl (Bs (fun L s=>∃(au:Unit) (av:LH),ar=Sum.inr au∧Jm aE H av [] [] L s) ?_ ?_)
 ·rintro _ _ ⟨au,av,rfl,rfl,rfl,aI,aJ⟩;have aK:=elim_inr ae;refine zg 4 rfl ?_;obtain rfl:=oi aK;exact AF func136 rfl rfl (ab (V.Ac aI) rfl ⟨.nilIface,rfl,rfl,rfl⟩ aJ)
 ·intro aL;refine JL.block (CC aH (fun W=> []) (fun W=> [(1,iV p1),(2,sV K p2 O),(3,.bool p3),(4,pV ai 0),(11,sV K p2 O),(12,iV (p2.length:Int)),(13,iV W)]) Aq aG ?_);rintro W aM U aw ag ⟨bD,Z⟩ aN;have ay:=Z;unfold Jg at ay;refine zg 5 rfl (AK ay (fun aO aP=>?_) (fun aO aQ=>?_))
  ·obtain⟨aR,aS,aT⟩:=bs aP;refine zg 6 rfl (Cb (ao.Ai (V.Ac U)) aS underlying28 AW ?_);rintro bE bF _ rfl aU;refine BW 0 aU Bx rfl rfl rfl (zg 7 rfl ?_);refine JL.fl 0 (aF.Ai U) underlying24 Cl CW ?_;refine Bp underlying22 rfl rfl rfl ?_;obtain⟨bG,aV,aW⟩:=bs aT;refine B7 aV rfl rfl rfl ?_;obtain⟨bH,aX,aY⟩:=bs aW;refine BH (IJ aX) rfl rfl Ir aw fun bI aa aj=>zg 2 rfl (BM aY (fun aZ a0=>?_) (fun aZ a1=>?_))
   ·refine zg 3 rfl (AA (v:= .agg #[iV 3,iV p1]) rfl (fun ρ h=>Dc [(0,1),(1,1)] h FP underlying183 ⟨rfl,Bq type39,rfl,Bq type3,trivial⟩ rfl rfl) ?_);refine AA (v:= .iface 183 (.agg #[iV 3,iV p1])) rfl (fun ρ h=>Ff underlying183 (fun _ h=>by cases h) (h _ _ rfl)) (zg 2 rfl ?_);obtain rfl:=oi a0;obtain rfl:=ag _ Z;have a2:=elim_inl ae;obtain rfl:=oi a2;exact AF func136 rfl rfl (ab ((V.Ac U).Ac aa) rfl ⟨.iface 183 (.agg #[iV 3,iV p1]),rfl,rfl,rfl⟩ aj)
   ·obtain⟨a3,a4,a5⟩:=bs a1;refine zg 6 rfl (CV 7 1 [] [(1,iV p1),(2,sV K p2 O),(3,.bool p3),(4,pV ai 0),(9,iV W),(10,iV aR),(11,sV K p2 O),(12,iV (p2.length:Int)),(13,iV W),(35,.bool a3)] (fun bJ ah ak=>?_) (fun az=>?_))
    ·refine zg 2 rfl (BM a5 (fun a6 a7=>?_) (fun a6 a8=>?_))
     ·refine zg 3 rfl (AA (v:= .agg #[iV 8,iV p1]) rfl (fun ρ h=>Dc [(0,1),(1,1)] h FP underlying183 ⟨rfl,Bq type39,rfl,Bq type3,trivial⟩ rfl rfl) ?_);refine AA (v:= .iface 183 (.agg #[iV 8,iV p1])) rfl (fun ρ h=>Ff underlying183 (fun _ h=>by cases h) (h _ _ rfl)) (zg 2 rfl ?_);obtain rfl:=oi a7;obtain rfl:=ag _ Z;have a9:=elim_inl ae;obtain rfl:=oi a9;exact AF func136 rfl rfl (ab (((V.Ac U).Ac aa).Ac ah) rfl ⟨.iface 183 (.agg #[iV 8,iV p1]),rfl,rfl,rfl⟩ ak)
     ·obtain⟨ba,bb,bc⟩:=bs a8;refine zg 5 rfl (CV 11 1 [] [(1,iV p1),(2,sV K p2 O),(3,.bool p3),(4,pV ai 0),(11,sV K p2 O),(12,iV (p2.length:Int)),(13,iV W),(50,.bool ba)] (fun bK aA aB=>?_) (fun aC=>?_))
      ·refine zg 2 rfl (BM bc (fun bd be=>?_) (fun bd bf=>?_))
       ·refine zg 3 rfl (AA (v:= .agg #[iV 5,iV p1]) rfl (fun ρ h=>Dc [(0,1),(1,1)] h FP underlying183 ⟨rfl,Bq type39,rfl,Bq type3,trivial⟩ rfl rfl) ?_);refine AA (v:= .iface 183 (.agg #[iV 5,iV p1])) rfl (fun ρ h=>Ff underlying183 (fun _ h=>by cases h) (h _ _ rfl)) (zg 2 rfl ?_);obtain rfl:=oi be;obtain rfl:=ag _ Z;have bg:=elim_inl ae;obtain rfl:=oi bg;exact AF func136 rfl rfl (ab ((((V.Ac U).Ac aa).Ac ah).Ac aA) rfl ⟨.iface 183 (.agg #[iV 5,iV p1]),rfl,rfl,rfl⟩ aB)
       ·obtain⟨bh,bi,bj⟩:=bs bf;refine zg 4 rfl (Ba bi rfl rfl rfl ?_);refine zg 2 rfl ?_;obtain rfl:=oi bj;exact aN bh (((U.Ac aa).Ac ah).Ac aA) aB rfl Z
      ·refine Ew 42 bb (fun bl bm=>?_) (fun bl bn=>?_)
       ·obtain⟨bL,bo,bp⟩:=bs bm;refine zg 3 rfl (B7 bo rfl rfl rfl ?_);obtain⟨bM,bq,br⟩:=bs bp;refine Cb (ao.Ai (((V.Ac U).Ac aa).Ac ah)) bq underlying28 AW ?_;rintro bN bO _ rfl bu;refine BW 0 bu Bx rfl rfl rfl (zg 2 rfl ?_);obtain rfl:=oi br;exact aC Aq ak rfl
       ·refine zg 8 rfl ?_;obtain rfl:=oi bn;exact aC Aq ak rfl
    ·refine Ew 32 a4 (fun bv bw=>?_) (fun bv bx=>?_)
     ·refine zg 1 rfl (AA (v:= .bool (!p3)) rfl (fun ρ h=>Yl.not (h _ _ rfl)) ?_);refine zg 1 rfl ?_;obtain rfl:=oi bw;exact az Aq aj rfl
     ·refine zg 3 rfl ?_;obtain rfl:=oi bx;exact az Aq aj rfl
  ·refine JL.exit rfl ?_;obtain rfl:=oi aQ;have bz:ar=(Sum.inr ()):=(ag _ Z).symm;exact Ay (aL _ _ ⟨(),aM,bz,rfl,rfl,U,aw⟩) rfl
def Je(fuel:Nat)(p0:Bt)(K:Int):Option (Bl Int (((Option (Int×Int)))⊕(Unit))):= if K<(p0.1.length:Int) then((ix p0.1 K).bind fun O=> if(O.length:Int)=0 then(some (.done (Sum.inl (some (7,K))))) else(if 3<(O.length:Int) then(some (.done (Sum.inl (some (6,K))))) else((f136 fuel p0 K O true).bind fun U=> if U.isSome=true then(some (.done (Sum.inl U))) else((ix p0.2 K).bind fun W=> if 3<(W.length:Int) then(some (.done (Sum.inl (some (6,K))))) else((ix p0.2 K).bind fun Z=> (f136 fuel p0 K Z false).bind fun V=> if V.isSome=true then(some (.done (Sum.inl V))) else((Au (K+1)).bind fun aa=> some (.more aa))))))) else(some (.done (Sum.inr ())))
def f113(fuel:Nat)(p0:Bt):Option ((Option (Int×Int))):= if(p0.1.length:Int)=0 then(some (some (7,0))) else(if 8<(p0.1.length:Int) then(some (some (6,0))) else(if(p0.2.length:Int)≠(p0.1.length:Int) then(some (some (9,0))) else(Option.bind (iter (Je fuel p0) fuel 0) fun K=> Sum.elim (fun r=>some r) (fun O=> some none) K)))
theorem Se{aj:Ap}{c2:Nat}{am:Ap}{an:Nat}{p0:Bt}(ak:Ao (rL rI) E aj c2 p0.1)(ag:Ao (rL rI) E am an p0.2){fuel:Nat}{r:(Option (Int×Int))}(ao:f113 fuel p0=some r):AQ J 113 [.agg #[sV aj p0.1 c2,sV am p0.2 an]] E [] (fun w E' B'=>∃(ap:Value),w=ap∧B'= []∧Ij 183 ap r):=by
 refine Bc func113 fun Q bI cs H aB W=>?_;unfold f113 at ao;refine zg 2 rfl (Cs aB fun aC aD O aa ah=>?_);refine zg 5 rfl (JL.fl 0 aa underlying24 Cl CW ?_);refine Bp underlying22 rfl rfl rfl (zg 9 rfl ?_);refine AK ao (fun aE aF=>?_) (fun aE aG=>?_)
 ·refine zg 2 rfl (AA (v:= .agg #[iV 7,iV 0]) rfl (fun ρ h=>Dc [(0,1),(1,1)] h FP underlying183 ⟨rfl,Bq type39,rfl,Bq type3,trivial⟩ rfl rfl) ?_);refine AA (v:= .iface 183 (.agg #[iV 7,iV 0])) rfl (fun ρ h=>Ff underlying183 (fun _ h=>by cases h) (h _ _ rfl)) (zg 2 rfl ?_);obtain rfl:=oi aF;exact AF func113 rfl rfl (W O rfl ⟨.iface 183 (.agg #[iV 7,iV 0]),rfl,rfl,rfl⟩ ah)
 ·refine zg 6 rfl (AK aG (fun aH aI=>?_) (fun aH aJ=>?_))
  ·refine zg 2 rfl (AA (v:= .agg #[iV 6,iV 0]) rfl (fun ρ h=>Dc [(0,1),(1,1)] h FP underlying183 ⟨rfl,Bq type39,rfl,Bq type3,trivial⟩ rfl rfl) ?_);refine AA (v:= .iface 183 (.agg #[iV 6,iV 0])) rfl (fun ρ h=>Ff underlying183 (fun _ h=>by cases h) (h _ _ rfl)) (zg 2 rfl ?_);obtain rfl:=oi aI;exact AF func113 rfl rfl (W O rfl ⟨.iface 183 (.agg #[iV 6,iV 0]),rfl,rfl,rfl⟩ ah)
  ·refine zg 2 rfl (JL.fl 1 aa underlying24 Cl CW ?_);refine Bp underlying22 rfl rfl rfl (zg 4 rfl ?_);refine AK aJ (fun aK aL=>?_) (fun aK aM=>?_)
   ·refine zg 2 rfl (AA (v:= .agg #[iV 9,iV 0]) rfl (fun ρ h=>Dc [(0,1),(1,1)] h FP underlying183 ⟨rfl,Bq type39,rfl,Bq type3,trivial⟩ rfl rfl) ?_);refine AA (v:= .iface 183 (.agg #[iV 9,iV 0])) rfl (fun ρ h=>Ff underlying183 (fun _ h=>by cases h) (h _ _ rfl)) (zg 2 rfl ?_);obtain rfl:=oi aL;exact AF func113 rfl rfl (W O rfl ⟨.iface 183 (.agg #[iV 9,iV 0]),rfl,rfl,rfl⟩ ah)
   ·refine zg 5 rfl (JL.fl 0 aa underlying24 Cl CW ?_);refine Bp underlying22 rfl rfl rfl ?_;obtain⟨aq,aN,ab⟩:=bs aM;refine zg 2 rfl (Bs (fun L s=>∃(ar:Unit) (au:LH),aq=Sum.inr ar∧Jm aD H au [] [] L s) ?_ ?_)
    ·rintro _ _ ⟨ar,au,rfl,rfl,rfl,aO,aP⟩;have aQ:=elim_inr ab;refine zg 4 rfl ?_;obtain rfl:=oi aQ;exact AF func113 rfl rfl (W (O.Ac aO) rfl ⟨.nilIface,rfl,rfl,rfl⟩ aP)
    ·intro aR;refine JL.block (CC aN (fun U=> []) (fun U=> [(1,pV aC 0),(30,sV aj p0.1 c2),(31,iV (p0.1.length:Int)),(32,iV U)]) Aq ah ?_);rintro U aS K ai ae ⟨bJ,Z⟩ aT;have av:=Z;unfold Je at av;refine zg 5 rfl (AK av (fun aU aV=>?_) (fun aU aW=>?_))
     ·obtain⟨bK,aX,aY⟩:=bs aV;refine zg 6 rfl (Cb (ak.Ai (O.Ac K)) aX underlying22 BV ?_);rintro bL bM _ ⟨bN,bO,rfl,aZ⟩ a0;refine BW 0 a0 C4 rfl rfl rfl (zg 7 rfl ?_);refine Bp underlying28 rfl rfl rfl (zg 2 rfl ?_);refine AK aY (fun a1 a2=>?_) (fun a1 a3=>?_)
      ·refine zg 3 rfl (AA (v:= .agg #[iV 7,iV U]) rfl (fun ρ h=>Dc [(0,1),(1,1)] h FP underlying183 ⟨rfl,Bq type39,rfl,Bq type3,trivial⟩ rfl rfl) ?_);refine AA (v:= .iface 183 (.agg #[iV 7,iV U])) rfl (fun ρ h=>Ff underlying183 (fun _ h=>by cases h) (h _ _ rfl)) (zg 2 rfl ?_);obtain rfl:=oi a2;obtain rfl:=ae _ Z;have a4:=elim_inl ab;obtain rfl:=oi a4;exact AF func113 rfl rfl (W (O.Ac K) rfl ⟨.iface 183 (.agg #[iV 7,iV U]),rfl,rfl,rfl⟩ ai)
      ·refine zg 5 rfl (Bp underlying28 rfl rfl rfl ?_);refine zg 2 rfl (AK a3 (fun a5 a6=>?_) (fun a5 a7=>?_))
       ·refine zg 3 rfl (AA (v:= .agg #[iV 6,iV U]) rfl (fun ρ h=>Dc [(0,1),(1,1)] h FP underlying183 ⟨rfl,Bq type39,rfl,Bq type3,trivial⟩ rfl rfl) ?_);refine AA (v:= .iface 183 (.agg #[iV 6,iV U])) rfl (fun ρ h=>Ff underlying183 (fun _ h=>by cases h) (h _ _ rfl)) (zg 2 rfl ?_);obtain rfl:=oi a6;obtain rfl:=ae _ Z;have a8:=elim_inl ab;obtain rfl:=oi a8;exact AF func113 rfl rfl (W (O.Ac K) rfl ⟨.iface 183 (.agg #[iV 6,iV U]),rfl,rfl,rfl⟩ ai)
       ·refine zg 4 rfl (Cm (aa.Ai K) Cy Cc rfl rfl ?_);obtain⟨a9,ba,bb⟩:=bs a7;refine zg 2 rfl (BO (Sa (ak.Ai (O.Ac K)) (ag.Ai (O.Ac K)) aZ ba) rfl rfl (A2 func136 rfl) ai ?_);rintro bc bP _ V ⟨_,rfl,rfl,aw⟩ al;refine zg 5 rfl (AA (v:= .bool a9.isSome) rfl (fun ρ h=>N8 underlying149 aw (h _ _ rfl) (h _ _ rfl)) ?_);refine JL.done (BM bb (fun bd be=>?_) (fun bd bf=>?_))
        ·refine zg 5 rfl ?_;obtain rfl:=oi be;obtain rfl:=ae _ Z;have bg:=elim_inl ab;obtain rfl:=oi bg;exact AF func113 rfl rfl (W ((O.Ac K).Ac V) rfl ⟨bc,rfl,rfl,aw⟩ al)
        ·refine zg 4 rfl (JL.fl 1 (aa.Ai (K.Ac V)) underlying24 Cl CW ?_);obtain⟨bQ,bh,bi⟩:=bs bf;refine zg 1 rfl (Cb (ag.Ai ((O.Ac K).Ac V)) bh underlying22 BV ?_);rintro bR bS _ ⟨bT,bU,rfl,bV⟩ bj;refine BW 0 bj C4 rfl rfl rfl (Bp underlying28 rfl rfl rfl ?_);refine zg 2 rfl (AK bi (fun bl bm=>?_) (fun bl bn=>?_))
         ·refine zg 3 rfl (AA (v:= .agg #[iV 6,iV U]) rfl (fun ρ h=>Dc [(0,1),(1,1)] h FP underlying183 ⟨rfl,Bq type39,rfl,Bq type3,trivial⟩ rfl rfl) ?_);refine AA (v:= .iface 183 (.agg #[iV 6,iV U])) rfl (fun ρ h=>Ff underlying183 (fun _ h=>by cases h) (h _ _ rfl)) (zg 2 rfl ?_);obtain rfl:=oi bm;obtain rfl:=ae _ Z;have bo:=elim_inl ab;obtain rfl:=oi bo;exact AF func113 rfl rfl (W ((O.Ac K).Ac V) rfl ⟨.iface 183 (.agg #[iV 6,iV U]),rfl,rfl,rfl⟩ al)
         ·refine zg 2 rfl (DG 7 fun ht=>?_);refine HF 0 ht (aa.Ai (K.Ac V)) Cy Cc rfl rfl rfl (Cv 1 ht rfl rfl ?_);refine B6 2 ht underlying24 Cl rfl rfl rfl rfl (CI 3 ht 1 (aa.Ai (K.Ac V)) CW rfl rfl rfl rfl ?_);refine Cv 4 ht rfl rfl ?_;obtain⟨bW,bp,bq⟩:=bs bn;refine Du 5 (ag.Ai ((O.Ac K).Ac V)) bp ht underlying22 BV ?_;rintro bY bZ _ ⟨b0,b1,rfl,br⟩ bu;refine CI 6 ht 0 bu C4 rfl rfl rfl rfl (Co [7,8] ?_);obtain⟨bv,bw,bx⟩:=bs bq;refine BO (Sa (ak.Ai ((O.Ac K).Ac V)) (ag.Ai ((O.Ac K).Ac V)) br bw) rfl rfl (A2 func136 rfl) al ?_;rintro bz b2 _ ay ⟨_,rfl,rfl,az⟩ aA;refine zg 5 rfl (AA (v:= .bool bv.isSome) rfl (fun ρ h=>N8 underlying149 az (h _ _ rfl) (h _ _ rfl)) ?_);refine JL.done (BM bx (fun bA bB=>?_) (fun bA bC=>?_))
          ·refine zg 5 rfl ?_;obtain rfl:=oi bB;obtain rfl:=ae _ Z;have bD:=elim_inl ab;obtain rfl:=oi bD;exact AF func113 rfl rfl (W (((O.Ac K).Ac V).Ac ay) rfl ⟨bz,rfl,rfl,az⟩ aA)
          ·obtain⟨bE,bF,bG⟩:=bs bC;refine zg 3 rfl (Ba bF rfl rfl rfl ?_);refine zg 2 rfl ?_;obtain rfl:=oi bG;exact aT bE ((K.Ac V).Ac ay) aA rfl Z
     ·refine JL.exit rfl ?_;obtain rfl:=oi aW;have bH:aq=(Sum.inr ()):=(ae _ Z).symm;exact Ay (aR _ _ ⟨(),aS,bH,rfl,rfl,K,ai⟩) rfl
def Mh(fuel:Nat)(p0:Bt)(p1:A4)(K:Int):Option (Bl Int (((Option (Int×Int)))⊕(Unit))):= if K<(p1.length:Int) then((ix p1 K).bind fun O=> (f101 fuel O.1 0 6).bind fun U=> if U=true then(some (.done (Sum.inl (some (1,K))))) else(Option.bind (if 0<K then((Au (K - 1)).bind fun V=> (ix p1 V).bind fun W=> some (decide (O.1<W.1))) else(some false)) fun Z=> if Z=true then(some (.done (Sum.inl (some (5,K))))) else((Au ((p0.1.length:Int) - 1)).bind fun aa=> (f101 fuel O.2 0 aa).bind fun ab=> if ab=true then(some (.done (Sum.inl (some (3,K))))) else((Au (K+1)).bind fun ae=> some (.more ae))))) else(some (.done (Sum.inr ())))
def f116(fuel:Nat)(p0:Bt)(p1:A4):Option ((Option (Int×Int))):= if 4<(p1.length:Int) then(some (some (6,0))) else(Option.bind (iter (Mh fuel p0 p1) fuel 0) fun K=> Sum.elim (fun r=>some r) (fun O=> some none) K)
theorem Xs{al:Ap}{c2:Nat}{am:Ap}{an:Nat}{W:Ap}{Z:Nat}{p0:Bt}{p1:A4}(bC:Ao (rL rI) E al c2 p0.1)(bD:Ao (rL rI) E am an p0.2)(ao:Ao BJ E W Z p1){fuel:Nat}{r:(Option (Int×Int))}(ap:f116 fuel p0 p1=some r):AQ J 116 [.agg #[sV al p0.1 c2,sV am p0.2 an],sV W p1 Z] E [] (fun w E' B'=>∃(aq:Value),w=aq∧B'= []∧Ij 183 aq r):=by
 refine Bc func116 fun Q bE cs H aF ae=>?_;unfold f116 at ap;refine zg 2 rfl (Cs aF fun ar aG V aH au=>?_);refine zg 6 rfl (Bp underlying25 rfl rfl rfl ?_);refine zg 2 rfl (AK ap (fun aI aJ=>?_) (fun aI aK=>?_))
 ·refine zg 2 rfl (AA (v:= .agg #[iV 6,iV 0]) rfl (fun ρ h=>Dc [(0,1),(1,1)] h FP underlying183 ⟨rfl,Bq type39,rfl,Bq type3,trivial⟩ rfl rfl) ?_);refine AA (v:= .iface 183 (.agg #[iV 6,iV 0])) rfl (fun ρ h=>Ff underlying183 (fun _ h=>by cases h) (h _ _ rfl)) (zg 2 rfl ?_);obtain rfl:=oi aJ;exact AF func116 rfl rfl (ae V rfl ⟨.iface 183 (.agg #[iV 6,iV 0]),rfl,rfl,rfl⟩ au)
 ·refine zg 5 rfl (Bp underlying25 rfl rfl rfl ?_);obtain⟨av,aL,ag⟩:=bs aK;refine zg 2 rfl (Bs (fun L s=>∃(aw:Unit) (ay:LH),av=Sum.inr aw∧Jm aG H ay [] [] L s) ?_ ?_)
  ·rintro _ _ ⟨aw,ay,rfl,rfl,rfl,aM,aN⟩;have aO:=elim_inr ag;refine zg 4 rfl ?_;obtain rfl:=oi aO;exact AF func116 rfl rfl (ae (V.Ac aM) rfl ⟨.nilIface,rfl,rfl,rfl⟩ aN)
  ·intro aP;refine JL.block (CC aL (fun K=> []) (fun K=> [(1,sV W p1 Z),(2,pV ar 0),(12,sV W p1 Z),(13,iV (p1.length:Int)),(14,iV K)]) Aq au ?_);rintro K aQ O az ah ⟨bF,aa⟩ aR;have aA:=aa;unfold Mh at aA;refine zg 5 rfl (AK aA (fun aS aT=>?_) (fun aS aU=>?_))
   ·obtain⟨bG,aV,aW⟩:=bs aT;refine zg 6 rfl (Cb (ao.Ai (V.Ac O)) aV underlying25 CS ?_);rintro bH bI _ ⟨_,_,rfl,rfl,rfl⟩ aX;refine Cm aX Iq CS rfl rfl (CO az F6 fun aY aZ=>?_);refine zg 1 rfl (BQ 0 aZ CS fun a0=>?_);refine Dp 0 a0 rfl fun bJ ab ai a1=>zg 4 rfl (JL.fl 0 ai underlying27 AW Bx ?_);obtain⟨bK,a2,a3⟩:=bs aW;refine BH (IJ a2) rfl rfl Ir a1 fun a4 U aj=>zg 2 rfl (BM a3 (fun a5 a6=>?_) (fun a5 a7=>?_))
    ·refine zg 3 rfl (AA (v:= .agg #[iV 1,iV K]) rfl (fun ρ h=>Dc [(0,1),(1,1)] h FP underlying183 ⟨rfl,Bq type39,rfl,Bq type3,trivial⟩ rfl rfl) ?_);refine AA (v:= .iface 183 (.agg #[iV 1,iV K])) rfl (fun ρ h=>Ff underlying183 (fun _ h=>by cases h) (h _ _ rfl)) (zg 2 rfl ?_);obtain rfl:=oi a6;obtain rfl:=ah _ aa;have a8:=elim_inl ag;obtain rfl:=oi a8;exact AF func116 rfl rfl (ae (((V.Ac O).Ac ab).Ac U) rfl ⟨.iface 183 (.agg #[iV 1,iV K]),rfl,rfl,rfl⟩ aj)
    ·refine JL.seq (DG 13 fun ht=>?_);refine Bi ht rfl [0,1,2] rfl ?_;obtain⟨a9,aB,ba⟩:=bs a7;refine FW 1 #[true,true,true,true,true,true,true,true,true,true,true,true,true,false] (fun L s=>L= [(1,sV W p1 Z),(2,pV ar 0),(5,iV K),(6,pV aY 0),(12,sV W p1 Z),(13,iV (p1.length:Int)),(14,iV K),(39,.bool a9)]∧s=Ak a4 H [[],[]]) ?_ ?_
     ·rintro _ _ ⟨rfl,rfl⟩;refine Co [13] (zg 2 rfl ?_);refine BM ba (fun bb bc=>?_) (fun bb bd=>?_)
      ·refine zg 3 rfl (AA (v:= .agg #[iV 5,iV K]) rfl (fun ρ h=>Dc [(0,1),(1,1)] h FP underlying183 ⟨rfl,Bq type39,rfl,Bq type3,trivial⟩ rfl rfl) ?_);refine AA (v:= .iface 183 (.agg #[iV 5,iV K])) rfl (fun ρ h=>Ff underlying183 (fun _ h=>by cases h) (h _ _ rfl)) (zg 2 rfl ?_);obtain rfl:=oi bc;obtain rfl:=ah _ aa;have be:=elim_inl ag;obtain rfl:=oi be;exact AF func116 rfl rfl (ae (((V.Ac O).Ac ab).Ac U) rfl ⟨.iface 183 (.agg #[iV 5,iV K]),rfl,rfl,rfl⟩ aj)
      ·refine zg 2 rfl (JL.fl 1 (ai.Ai U) underlying27 AW Bx ?_);refine JL.fl 0 (aH.Ai ((O.Ac ab).Ac U)) underlying24 Cl CW ?_;refine Bp underlying22 rfl rfl rfl ?_;obtain⟨bL,bf,bg⟩:=bs bd;refine B7 bf rfl rfl rfl ?_;obtain⟨bM,bh,bi⟩:=bs bg;refine BH (IJ bh) rfl rfl Ir aj fun bN aC aD=>zg 2 rfl (BM bi (fun bj bl=>?_) (fun bj bm=>?_))
       ·refine zg 3 rfl (AA (v:= .agg #[iV 3,iV K]) rfl (fun ρ h=>Dc [(0,1),(1,1)] h FP underlying183 ⟨rfl,Bq type39,rfl,Bq type3,trivial⟩ rfl rfl) ?_);refine AA (v:= .iface 183 (.agg #[iV 3,iV K])) rfl (fun ρ h=>Ff underlying183 (fun _ h=>by cases h) (h _ _ rfl)) (zg 2 rfl ?_);obtain rfl:=oi bl;obtain rfl:=ah _ aa;have bn:=elim_inl ag;obtain rfl:=oi bn;exact AF func116 rfl rfl (ae ((((V.Ac O).Ac ab).Ac U).Ac aC) rfl ⟨.iface 183 (.agg #[iV 3,iV K]),rfl,rfl,rfl⟩ aD)
       ·obtain⟨bo,bp,bq⟩:=bs bm;refine zg 4 rfl (Ba bp rfl rfl rfl ?_);refine zg 2 rfl ?_;obtain rfl:=oi bq;exact aR bo (((O.Ac ab).Ac U).Ac aC) aD rfl aa
     ·intro aE;refine FT (q:=0<K) (i:=29) rfl (fun ak=>?_) (fun ak=>?_)
      ·have br:=ip aB ak;refine B6 3 ht underlying27 AW rfl rfl rfl rfl ?_;refine CI 4 ht 0 (ai.Ai U) Bx rfl rfl rfl rfl ?_;refine Bi ht rfl [5,6] rfl ?_;obtain⟨bO,bu,bv⟩:=bs br;refine BC 7 ht rfl rfl (fun ρ h s' hs=>C8 (h _ _ rfl) (h _ _ rfl) bu) ?_;obtain⟨bP,bw,bx⟩:=bs bv;refine Du 8 (ao.Ai (((V.Ac O).Ac ab).Ac U)) bw ht underlying25 CS ?_;rintro bQ bR _ ⟨_,_,rfl,rfl,rfl⟩ bz;refine B6 9 ht underlying27 AW rfl rfl rfl rfl ?_;refine CI 10 ht 0 bz Bx rfl rfl rfl rfl ?_;refine Bi ht rfl [11,12] rfl ?_;obtain rfl:=oi bx;refine DD ?_ (aE _ _ ⟨rfl,rfl⟩);exact⟨rfl,rfl,rfl,rfl,rfl,rfl,rfl,rfl,trivial⟩
      ·have bA:=im aB ak;refine Bi ht rfl [3,4,5,6,7,8,9,10,11,12] rfl ?_;obtain rfl:=oi bA;refine DD ?_ (aE _ _ ⟨rfl,rfl⟩);exact⟨rfl,rfl,rfl,rfl,rfl,rfl,rfl,rfl,trivial⟩
   ·refine JL.exit rfl ?_;obtain rfl:=oi aU;have bB:av=(Sum.inr ()):=(ah _ aa).symm;exact Ay (aP _ _ ⟨(),aQ,bB,rfl,rfl,O,az⟩) rfl
end Pal
namespace Pal
open Go Go.Conc Go.Proofs
open Go.Proofs.Tryz
variable {J:Judge Tryz.prog}{E:LH}
def f135(fuel:Nat):Option Bool:= some false
theorem X0{O:Value}{fuel:Nat}{r:Bool}(K:f135 fuel=some r):AQ J 135 [.nilIface,O] E [] (fun w E' B'=>w= .bool r∧B'= []):=by
 refine Bc func135 fun Q W cs H U V=>?_;unfold f135 at K;refine zg 8 rfl ?_;refine AA (v:= .bool true) rfl (fun ρ h=>U5 underlying149 (show Ij 0 .nilIface none from rfl) (h _ _ rfl) (h _ _ rfl)) (zg 6 rfl ?_);obtain rfl:=oi K;exact AF func135 rfl rfl (V Aq rfl ⟨rfl,rfl⟩ U)
def f112(fuel:Nat):Option Int:= (f135 fuel).bind fun K=> if K=true then(some 0) else(some 0)
theorem Xe{fuel:Nat}{r:Int}(O:f112 fuel=some r):AQ J 112 [.nilIface] E [] (fun w E' B'=>w=iV r∧B'= []):=by
 refine Bc func112 fun Q al cs H W U=>?_;unfold f112 at O;refine zg 6 rfl (CO W FP fun Z aa=>?_);refine zg 5 rfl (AA (v:=(.iface 185 (pV Z 0))) rfl (fun ρ h=>Ff underlying185 (fun _ h=>by cases h) (h _ _ rfl)) ?_);obtain⟨am,ab,ae⟩:=bs O;refine BH (X0 ab) rfl rfl (A2 func135 rfl) aa fun an V K=>JL.done (BM ae (fun ag ah=>?_) (fun ag ai=>?_))
 ·refine zg 2 rfl (BF underlying183 (Bq type39) rfl rfl rfl ?_);refine AA (v:=iV 0) rfl (fun ρ h=>Yl.load (DZ underlying39) (h _ _ rfl) (D5 (j:=1) (off:=0) K rfl rfl)) (zg 2 rfl ?_);refine JS.drop 1 K rfl fun aj=>?_;obtain rfl:=oi ah;exact AF func112 rfl rfl (U V rfl ⟨rfl,rfl⟩ aj)
 ·refine zg 5 rfl (JS.drop 1 K rfl fun ak=>?_);obtain rfl:=oi ai;exact AF func112 rfl rfl (U V rfl ⟨rfl,rfl⟩ ak)
def Jy(fuel:Nat)(p0:Option (Int×Int)):Option Int:=match p0 with
 | none=>f112 fuel
 | some _=>none
theorem OJ{v:Value}{p0:Option (Int×Int)}(h:Ij 183 v p0){fuel:Nat}{r:Int}(K:Jy fuel p0=some r):AQ J 112 [v] E [] (fun w E' B'=>w=iV r∧B'= []):=by
 cases p0 with
 | none=>obtain rfl:v= .nilIface:=h;exact Xe K
 | some _=>cases K
end Pal
namespace Pal
open Go Go.Conc Go.Proofs
open Go.Proofs.Tryz
variable {J:Judge Tryz.prog}{E:LH}
def f67(fuel:Nat)(p0:Bt):Option Int:= (f113 fuel p0).bind fun K=> (Jy fuel K).bind fun O=> some O
theorem YB{O:Ap}{c2:Nat}{U:Ap}{V:Nat}{p0:Bt}(Z:Ao (rL rI) E O c2 p0.1)(aa:Ao (rL rI) E U V p0.2){fuel:Nat}{r:Int}(W:f67 fuel p0=some r):AQ J 67 [.agg #[sV O p0.1 c2,sV U p0.2 V]] E [] (fun w E' B'=>w=iV r∧B'= []):=by
 refine Bc func67 fun Q ar cs H ab ae=>?_;unfold f67 at W;refine zg 2 rfl (Cs ab fun au av K ag ah=>?_);refine zg 4 rfl (Cm ag Cy Cc rfl rfl ?_);obtain⟨aw,ai,aj⟩:=bs W;refine BO (Se (Z.Ai K) (aa.Ai K) ai) rfl rfl (A2 func113 rfl) ah ?_;rintro ay az _ ak ⟨_,rfl,rfl,al⟩ am;obtain⟨aA,an,ao⟩:=bs aj;refine BH (OJ al an) rfl rfl NC am fun aB ap aq=>zg 2 rfl ?_;obtain rfl:=oi ao;exact AF func67 rfl rfl (ae ((K.Ac ak).Ac ap) rfl ⟨rfl,rfl⟩ aq)
def f69(fuel:Nat)(p0:Bt)(p1:A4):Option Int:= (f113 fuel p0).bind fun K=> if K.isSome=true then((Jy fuel K).bind fun O=> some O) else((f116 fuel p0 p1).bind fun U=> (Jy fuel U).bind fun V=> some V)
theorem KZ{U:Ap}{c2:Nat}{V:Ap}{W:Nat}{Z:Ap}{aa:Nat}{p0:Bt}{p1:A4}(ab:Ao (rL rI) E U c2 p0.1)(ae:Ao (rL rI) E V W p0.2)(al:Ao BJ E Z aa p1){fuel:Nat}{r:Int}(ag:f69 fuel p0 p1=some r):AQ J 69 [.agg #[sV U p0.1 c2,sV V p0.2 W],sV Z p1 aa] E [] (fun w E' B'=>w=iV r∧B'= []):=by
 refine Bc func69 fun Q aK cs H am ah=>?_;unfold f69 at ag;refine zg 2 rfl (Cs am fun aL aM K ai an=>?_);refine zg 5 rfl (Cm ai Cy Cc rfl rfl ?_);obtain⟨ao,ap,aq⟩:=bs ag;refine BO (Se (ab.Ai K) (ae.Ai K) ap) rfl rfl (A2 func113 rfl) an ?_;rintro aN aO _ O ⟨_,rfl,rfl,aj⟩ ak;refine zg 5 rfl (AA (v:= .bool ao.isSome) rfl (fun ρ h=>N8 underlying149 aj (h _ _ rfl) (h _ _ rfl)) ?_);refine JL.done (BM aq (fun ar au=>?_) (fun ar av=>?_))
 ·obtain⟨aP,aw,ay⟩:=bs au;refine zg 3 rfl (BH (OJ aj aw) rfl rfl NC ak fun aQ az aA=>?_);refine zg 2 rfl ?_;obtain rfl:=oi ay;exact AF func69 rfl rfl (ah ((K.Ac O).Ac az) rfl ⟨rfl,rfl⟩ aA)
 ·refine zg 3 rfl (Cm (ai.Ai O) Cy Cc rfl rfl ?_);obtain⟨aR,aB,aC⟩:=bs av;refine zg 1 rfl (BO (Xs (ab.Ai (K.Ac O)) (ae.Ai (K.Ac O)) (al.Ai (K.Ac O)) aB) rfl rfl (A2 func116 rfl) ak ?_);rintro aS aT _ aD ⟨_,rfl,rfl,aE⟩ aF;obtain⟨aU,aG,aH⟩:=bs aC;refine BH (OJ aE aG) rfl rfl NC aF fun aV aI aJ=>zg 2 rfl ?_;obtain rfl:=oi aH;exact AF func69 rfl rfl (ah (((K.Ac O).Ac aD).Ac aI) rfl ⟨rfl,rfl⟩ aJ)
def Oj(fuel:Nat)(p0:BR)(O:(List Int))(K:Nat×Int):Option (Bl (Nat×Int) Nat):= if K.2<(O.length:Int) then((ix O K.2).bind fun U=> (ix p0.1 U).bind fun V=> (f120 fuel V).bind fun W=> (IX K.1 W).bind fun Z=> (Au (K.2+1)).bind fun aa=> some (.more (Z,aa))) else(some (.done K.1))
def f121(fuel:Nat)(p0:BR)(p1:Nat):Option Nat:= (f89 fuel p1).bind fun K=> Option.bind (iter (Oj fuel p0 K) fuel (0,0)) fun O=> some O
theorem Xw{k1:Nat}{U:Nat}{Z:Ap}{aa:Nat}{ab:Ap}{ae:Nat}{ag:Lv_}{p0:BR}{p1:Nat}(am:At E k1 U (([sV Z p0.1 aa,sV ab p0.2.1 ae]:Lv_)++ag))(an:Ao (rL rI) E Z aa p0.1)(a0:Ao (rL rI) E ab ae p0.2.1)(a1:(rA 13 (rN .u16)).r E ag p0.2.2){fuel:Nat}{r:Nat}(ah:f121 fuel p0 p1=some r):AQ J 121 [pV k1 U,uV p1] E [] (fun w E' B'=>w= uV r∧B'= []):=by
 refine Bc func121 fun Q a2 cs H ao ap=>?_;unfold f121 at ah;obtain⟨ai,aq,ar⟩:=bs ah;refine zg 12 rfl (BO (IL aq) rfl rfl It ao ?_);rintro _ a3 _ V ⟨au,av,rfl,rfl,aw⟩ ay;refine Bp underlying28 rfl rfl rfl ?_;obtain⟨az,aA,aB⟩:=bs ar;refine zg 2 rfl (Cu [] [(5,uV az)] (fun a4 aC aD=>?_) (fun aE=>?_))
 ·refine zg 5 rfl ?_;obtain rfl:=oi aB;exact AF func121 rfl rfl (ap (V.Ac aC) rfl ⟨rfl,rfl⟩ aD)
 ·refine JL.block (CC aA (fun O=> []) (fun O=> [(0,pV k1 U),(5,uV O.1),(9,sV au ai av),(10,iV (ai.length:Int)),(11,iV O.2)]) Aq ay ?_);rintro O a5 K aj aF ⟨a6,W⟩ aG;have ak:=W;unfold Oj at ak;refine zg 5 rfl (AK ak (fun aH aI=>?_) (fun aH aJ=>?_))
  ·obtain⟨a7,aK,aL⟩:=bs aI;refine zg 5 rfl (Cb (aw.Ai K) aK underlying28 AW ?_);rintro a8 a9 _ rfl aM;refine BW 0 aM Bx rfl rfl rfl (zg 6 rfl ?_);refine BF underlying141 Cc rfl rfl rfl (JL.fl 0 (am.Ai (V.Ac K)) underlying24 Cl CW ?_);obtain⟨ba,aN,aO⟩:=bs aL;refine zg 1 rfl (Cb (an.Ai (V.Ac K)) aN underlying22 BV ?_);rintro bb bc _ ⟨bd,be,rfl,aP⟩ aQ;refine BW 0 aQ C4 rfl rfl rfl ?_;obtain⟨bf,aR,aS⟩:=bs aO;refine BH (Js aP aR) rfl rfl I0 aj fun bg aT aU=>?_;obtain⟨al,aV,aW⟩:=bs aS;refine AA (v:= uV al) rfl (fun ρ h=>Kn (h _ _ rfl) (h _ _ rfl) aV) ?_;obtain⟨aX,aY,aZ⟩:=bs aW;refine zg 4 rfl (Ba aY rfl rfl rfl ?_);refine zg 2 rfl ?_;obtain rfl:=oi aZ;exact aG (al,aX) (K.Ac aT) aU rfl W
  ·refine JL.exit rfl ?_;obtain rfl:=oi aJ;obtain rfl:=aF _ W;exact aE K aj rfl
def f130(fuel:Nat)(p0:BZ):Option Int:= (f89 fuel p0.2.2).bind fun K=> some (K.length:Int)
theorem XN{K:Ap}{c2:Nat}{p0:BZ}(ai:Ao rI E K c2 p0.2.1){fuel:Nat}{r:Int}(O:f130 fuel p0=some r):AQ J 130 [.agg #[iV p0.1,sV K p0.2.1 c2,uV p0.2.2]] E [] (fun w E' B'=>w=iV r∧B'= []):=by
 refine Bc func130 fun Q aj cs H U V=>?_;unfold f130 at O;refine zg 2 rfl (Cs U fun ak al W Z aa=>?_);refine zg 4 rfl (JL.fl 2 Z underlying104 El GK ?_);obtain⟨am,ab,ae⟩:=bs O;refine BO (IL ab) rfl rfl It aa ?_;rintro _ an _ ag ⟨ao,ap,rfl,rfl,aq⟩ ah;refine Bp underlying28 rfl rfl rfl (zg 2 rfl ?_);obtain rfl:=oi ae;exact AF func130 rfl rfl (V (W.Ac ag) rfl ⟨rfl,rfl⟩ ah)
def MG(fuel:Nat)(p0:List BZ)(K:Nat×Int):Option (Bl (Nat×Int) Nat):= if K.2<(p0.length:Int) then((ix p0 K.2).bind fun O=> (f90 fuel K.1 O.1).bind fun U=> (Au (K.2+1)).bind fun V=> some (.more (U,V))) else(some (.done K.1))
def f87(fuel:Nat)(p0:List BZ):Option Nat:= Option.bind (iter (MG fuel p0) fuel (0,0)) fun K=> some K
theorem Yq{O:Ap}{c2:Nat}{p0:List (BZ)}(ab:Ao Dm E O c2 p0){fuel:Nat}{r:Nat}(W:f87 fuel p0=some r):AQ J 87 [sV O p0 c2] E [] (fun w E' B'=>w= uV r∧B'= []):=by
 refine Bc func87 fun Q aL cs H ae ag=>?_;unfold f87 at W;refine zg 12 rfl (Bp underlying95 rfl rfl rfl ?_);obtain⟨ah,ai,aj⟩:=bs W;refine zg 2 rfl (Cu [] [(3,uV ah)] (fun aM ak al=>?_) (fun am=>?_))
 ·refine zg 5 rfl ?_;obtain rfl:=oi aj;exact AF func87 rfl rfl (ag ak rfl ⟨rfl,rfl⟩ al)
 ·refine JL.block (CC ai (fun K=> []) (fun K=> [(3,uV K.1),(6,sV O p0 c2),(7,iV (p0.length:Int)),(8,iV K.2)]) Aq ae ?_);rintro K aN U Z an ⟨aO,V⟩ ao;have aa:=V;unfold MG at aa;refine zg 5 rfl (AK aa (fun ap aq=>?_) (fun ap ar=>?_))
  ·obtain⟨aP,au,av⟩:=bs aq;refine zg 5 rfl (Cb (ab.Ai U) au underlying95 Ci ?_);rintro aQ aR _ ⟨_,_,rfl,rfl,⟨_,_,rfl,⟨aS,aT,rfl,aU⟩,rfl⟩⟩ aw;refine Cm aw FO Ci rfl rfl (CO Z GM fun aV ay=>?_);refine BQ 0 ay Ci fun az=>?_;refine Dp 0 az rfl fun aW aA aB aC=>zg 3 rfl (JL.fl 0 aB underlying104 AW Bx ?_);obtain⟨aD,aE,aF⟩:=bs av;refine BH (M8 aE) rfl rfl Lz aC fun aX aG aH=>?_;obtain⟨aI,aJ,aK⟩:=bs aF;refine zg 4 rfl (Ba aJ rfl rfl rfl ?_);refine zg 2 rfl ?_;obtain rfl:=oi aK;exact ao (aD,aI) ((U.Ac aA).Ac aG) aH rfl V
  ·refine JL.exit rfl ?_;obtain rfl:=oi ar;obtain rfl:=an _ V;exact am U Z rfl
def MA(fuel:Nat)(p0:BR)(O:Int)(K:Nat×Int):Option (Bl (Nat×Int) Nat):= if K.2<O then((f121 fuel p0 K.1).bind fun U=> (Au (K.2+1)).bind fun V=> some (.more (U,V))) else(some (.done K.1))
def f88(fuel:Nat)(p0:BR)(p1:BZ)(p2:Int):Option Nat:= (Au ((p1.2.1.length:Int) - 1)).bind fun K=> if p2≤K then((ix p1.2.1 p2).bind fun O=> (f120 fuel ([O]:List Int)).bind fun U=> some U) else((ix p1.2.1 K).bind fun V=> (f120 fuel ([V]:List Int)).bind fun W=> (Au (p2 - K)).bind fun Z=> Option.bind (iter (MA fuel p0 Z) fuel (W,0)) fun aa=> some aa)
theorem YJ{k1:Nat}{Z:Nat}{ae:Ap}{ag:Nat}{ah:Ap}{ai:Nat}{aj:Lv_}{ak:Ap}{al:Nat}{p0:BR}{p1:BZ}{p2:Int}(aw:At E k1 Z (([sV ae p0.1 ag,sV ah p0.2.1 ai]:Lv_)++aj))(ay:Ao (rL rI) E ae ag p0.1)(az:Ao (rL rI) E ah ai p0.2.1)(aA:(rA 13 (rN .u16)).r E aj p0.2.2)(am:Ao rI E ak al p1.2.1){fuel:Nat}{r:Nat}(an:f88 fuel p0 p1 p2=some r):AQ J 88 [pV k1 Z,.agg #[iV p1.1,sV ak p1.2.1 al,uV p1.2.2],iV p2] E [] (fun w E' B'=>w= uV r∧B'= []):=by
 refine Bc func88 fun Q bq cs H aB ao=>?_;unfold f88 at an;refine zg 2 rfl (Cs aB fun br bu K aa ap=>?_);refine zg 4 rfl (JL.fl 1 aa underlying104 BV C4 ?_);refine Bp underlying28 rfl rfl rfl ?_;obtain⟨bv,aC,aD⟩:=bs an;refine B7 aC rfl rfl rfl (zg 9 rfl ?_);refine AK aD (fun aE aF=>?_) (fun aE aG=>?_)
 ·refine zg 2 rfl (JL.fl 1 aa underlying104 BV C4 ?_);obtain⟨aq,aH,aI⟩:=bs aF;refine zg 1 rfl (Cb (am.Ai K) aH underlying28 AW ?_);rintro bw bx _ rfl aJ;refine BW 0 aJ Bx rfl rfl rfl (JS.lit (pp:=rI) [iV aq] [aq] rfl rfl rfl underlying28 AW Cz (by decide) rfl rfl rfl ⟨rfl,trivial⟩ ap fun bz bA aK aL=>?_);refine Ca 2 aK aL rfl fun bB aM aN aO=>?_;obtain⟨bC,aP,aQ⟩:=bs aI;refine BH (Js aN aP) rfl rfl I0 aO fun bD aR aS=>zg 2 rfl ?_;obtain rfl:=oi aQ;exact AF func88 rfl rfl (ao ((K.Ac aM).Ac aR) rfl ⟨rfl,rfl⟩ aS)
 ·refine zg 3 rfl (JL.fl 1 aa underlying104 BV C4 ?_);obtain⟨ar,aT,aU⟩:=bs aG;refine zg 1 rfl (Cb (am.Ai K) aT underlying28 AW ?_);rintro bE bF _ rfl aV;refine BW 0 aV Bx rfl rfl rfl (JS.lit (pp:=rI) [iV ar] [ar] rfl rfl rfl underlying28 AW Cz (by decide) rfl rfl rfl ⟨rfl,trivial⟩ ap fun bG bH aW aX=>?_);refine Ca 2 aW aX rfl fun bI U aY aZ=>?_;obtain⟨bJ,a0,a1⟩:=bs aU;refine BH (Js aY a0) rfl rfl I0 aZ fun bK V a2=>?_;obtain⟨a3,a4,a5⟩:=bs a1;refine zg 7 rfl (B7 a4 rfl rfl rfl ?_);obtain⟨a6,a7,a8⟩:=bs a5;refine zg 2 rfl (Cu [] [(8,uV a6)] (fun bL a9 ba=>?_) (fun bb=>?_))
  ·refine zg 5 rfl ?_;obtain rfl:=oi a8;exact AF func88 rfl rfl (ao (((K.Ac U).Ac V).Ac a9) rfl ⟨rfl,rfl⟩ ba)
  ·refine JL.block (CC a7 (fun W=> []) (fun W=> [(0,pV k1 Z),(8,uV W.1),(32,iV a3),(33,iV W.2)]) Aq a2 ?_);rintro W bM O au bc ⟨bN,ab⟩ bd;have av:=ab;unfold MA at av;refine zg 5 rfl (AK av (fun be bf=>?_) (fun be bg=>?_))
   ·obtain⟨bh,bi,bj⟩:=bs bf;refine zg 6 rfl (BH (Xw (aw.Ai (((K.Ac U).Ac V).Ac O)) (ay.Ai (((K.Ac U).Ac V).Ac O)) (az.Ai (((K.Ac U).Ac V).Ac O)) (Rp.Ai _ (((K.Ac U).Ac V).Ac O) aA) bi) rfl rfl (A2 func121 rfl) au fun bO bl bm=>?_);obtain⟨bn,bo,bp⟩:=bs bj;refine zg 4 rfl (Ba bo rfl rfl rfl ?_);refine zg 2 rfl ?_;obtain rfl:=oi bp;exact bd (bh,bn) (O.Ac bl) bm rfl ab
   ·refine JL.exit rfl ?_;obtain rfl:=oi bg;obtain rfl:=bc _ ab;exact bb O au rfl
end Pal
namespace Pal
open Go Go.Conc Go.Proofs
open Go.Proofs.Tryz
variable {J:Judge Tryz.prog}{E:LH}
def I9(fuel:Nat)(p0:BR)(O:(List Int))(K:Nat×Int):Option (Bl (Nat×Int) Nat):= if K.2<(O.length:Int) then((ix O K.2).bind fun U=> (ix p0.1 U).bind fun V=> (f120 fuel V).bind fun W=> (IX K.1 W).bind fun Z=> (Au (K.2+1)).bind fun aa=> some (.more (Z,aa))) else(some (.done K.1))
def Jw(fuel:Nat)(p0:BR)(p1:Nat):Option (Nat×(BR)):= (f89 fuel p1).bind fun K=> Option.bind (iter (I9 fuel p0 K) fuel (0,0)) fun O=> some (O,p0)
theorem V0{bk:Nat}{K:Ap}{c2:Nat}{O:Ap}{U:Nat}{V:Lv_}{p0:BR}{p1:Nat}(ah:Ao (rL rI) E K c2 p0.1)(ar:Ao (rL rI) E O U p0.2.1)(au:(rA 13 (rN .u16)).r E V p0.2.2){fuel:Nat}{r:Nat×(BR)}(ai:Jw fuel p0 p1=some r):AQ J 121 [pV bk 0,uV p1] E [(bk,.cells (([sV K p0.1 c2,sV O p0.2.1 U]:Lv_)++V).toArray 141 (0,0))] (fun w E' B'=>∃(aj:Ap) (ak:Nat) (al:Ap) (am:Nat) (an:Lv_),w= uV r.1∧B'= [(bk,.cells (([sV aj r.2.1 ak,sV al r.2.2.1 am]:Lv_)++an).toArray 141 (0,0))]∧Ao (rL rI) E' aj ak r.2.1∧Ao (rL rI) E' al am r.2.2.1∧(rA 13 (rN .u16)).r E' an r.2.2.2):=by
 refine Bc func121 fun Q a4 cs H av aw=>?_;unfold Jw at ai;obtain⟨ao,ay,az⟩:=bs ai;refine zg 12 rfl (BO (IL ay) rfl rfl It av ?_);rintro _ a5 _ W ⟨aA,aB,rfl,rfl,aC⟩ aD;refine Bp underlying28 rfl rfl rfl ?_;obtain⟨aE,aF,aG⟩:=bs az;refine zg 2 rfl (Cu [bX bk (([sV K p0.1 c2,sV O p0.2.1 U]:Lv_)++V).toArray 141] [(5,uV aE)] (fun a6 Z aH=>?_) (fun aI=>?_))
 ·refine zg 5 rfl ?_;obtain rfl:=oi aG;exact AF func121 rfl rfl (aw (W.Ac Z) rfl ⟨K,c2,O,U,V,rfl,rfl,(ah.Ai (W.Ac Z)),(ar.Ai (W.Ac Z)),(Rp.Ai _ (W.Ac Z) au)⟩ aH)
 ·refine JL.block (CC aF (fun aa=> [bX bk (([sV K p0.1 c2,sV O p0.2.1 U]:Lv_)++V).toArray 141]) (fun aa=> [(0,pV bk 0),(5,uV aa.1),(9,sV aA ao aB),(10,iV (ao.length:Int)),(11,iV aa.2)]) Aq aD ?_);rintro aa a7 ab ae aJ ⟨a8,ag⟩ aK;have ap:=ag;unfold I9 at ap;refine zg 5 rfl (AK ap (fun aL aM=>?_) (fun aL aN=>?_))
  ·obtain⟨a9,aO,aP⟩:=bs aM;refine zg 5 rfl (Cb (aC.Ai ab) aO underlying28 AW ?_);rintro ba bb _ rfl aQ;refine BW 0 aQ Bx rfl rfl rfl (zg 6 rfl ?_);refine BF underlying141 Cc rfl rfl rfl (BF underlying24 Cl rfl rfl rfl ?_);refine AA (v:= sV K p0.1 c2) rfl (fun ρ h=>Yl.load CW (h _ _ rfl) (Vw (o:=0) (l:= [sV K p0.1 c2,sV O p0.2.1 U]) 0 ae rfl rfl)) ?_;obtain⟨bc,aR,aS⟩:=bs aP;refine zg 1 rfl (Cb (ah.Ai (W.Ac ab)) aR underlying22 BV ?_);rintro bd be _ ⟨bf,bg,rfl,aT⟩ aU;refine BW 0 aU C4 rfl rfl rfl ?_;obtain⟨bh,aV,aW⟩:=bs aS;refine BH (Js aT aV) rfl rfl I0 ae fun bi aX aY=>?_;obtain⟨aq,aZ,a0⟩:=bs aW;refine AA (v:= uV aq) rfl (fun ρ h=>Kn (h _ _ rfl) (h _ _ rfl) aZ) ?_;obtain⟨a1,a2,a3⟩:=bs a0;refine zg 4 rfl (Ba a2 rfl rfl rfl ?_);refine zg 2 rfl ?_;obtain rfl:=oi a3;exact aK (aq,a1) (ab.Ac aX) aY rfl ag
  ·refine JL.exit rfl ?_;obtain rfl:=oi aN;obtain rfl:=aJ _ ag;exact aI ab ae rfl
end Pal
namespace Pal
open Go Go.Conc Go.Proofs
open Go.Proofs.Tryz
variable {J:Judge Tryz.prog}{E:LH}
theorem XU:SK Tryz.prog 138 .u16:=⟨_,underlying138,by decide+kernel,by decide,underlying102,rfl⟩
def Kw(fuel:Nat)(K:(List (List Int))×(List (List Int))×(List Nat)×(List Nat)×Int):Option (Bl ((List (List Int))×(List (List Int))×(List Nat)×(List Nat)×Int) ((List (List Int))×(List (List Int))×(List Nat)×(List Nat))):= if K.2.2.2.2<12 then((Au (K.2.2.2.2+1)).bind fun U=> (ix K.2.2.1 K.2.2.2.2).bind fun V=> (Jw fuel (K.1,K.2.1,K.2.2.1) V).bind fun O=> (ix K.2.2.2.1 U).bind fun Z=> (Au (K.2.2.2.2+1)).bind fun W=> some (.more (O.2.1,O.2.2.1,O.2.2.2,(K.2.2.2.1.set (Int.toNat U) O.1),W))) else(some (.done (K.1,K.2.1,K.2.2.1,K.2.2.2.1)))
def MF(fuel:Nat)(O:BR):Option (Bl BR (((Option BR))⊕Unit)):= Option.bind (iter (Kw fuel) fuel (O.1,O.2.1,O.2.2,O.2.2,0)) fun K=> if K.2.2.2≠K.2.2.1 then(some (.more (K.1,K.2.1,K.2.2.2))) else(some (.done (Sum.inl (some (K.1,K.2.1,K.2.2.1)))))
def f92(fuel:Nat)(p0:Bt):Option ((Option BR)):= (ix (List.replicate 13 (0:Nat)) (0)).bind fun O=> Option.bind (iter (MF fuel) fuel (p0.1,p0.2,((List.replicate 13 (0:Nat)).set (Int.toNat 0) 1))) fun K=> Sum.elim (fun r=>some r) (fun U=>none) K
theorem M4{ao:Ap}{c2:Nat}{ap:Ap}{aq:Nat}{p0:Bt}(bf:Ao (rL rI) E ao c2 p0.1)(bg:Ao (rL rI) E ap aq p0.2){fuel:Nat}{r:(Option BR)}(aV:f92 fuel p0=some r):AQ J 92 [.agg #[sV ao p0.1 c2,sV ap p0.2 aq]] E [] (fun w E' B'=>∃(aW:Value),w=aW∧B'= []∧JR (rP (rL (rL rI)) (rP (rL (rL rI)) (rA 13 (rN .u16)))) E' aW r):=by
 refine Bc func92 fun Q cc cs H bh bi=>?_;unfold f92 at aV;refine zg 2 rfl (Cs bh fun cd ar aP bj bl=>?_);refine zg 5 rfl (Cm bj Cy Cc rfl rfl ?_);refine AA (v:= .agg (([sV ao p0.1 c2,sV ap p0.2 aq]:Lv_)++(List.replicate 13 (uV 0):Lv_)).toArray) rfl (fun ρ h=>Dc [(0,2),(2,13)] h (DY type141) underlying141 ⟨rfl,Bq type24,rfl,Bq type139,trivial⟩ rfl rfl) (JS.box (v:= .agg (([sV ao p0.1 c2,sV ap p0.2 aq]:Lv_)++(List.replicate 13 (uV 0):Lv_)).toArray) rfl rfl rfl bl rfl fun U bm=>?_);refine zg 6 rfl (BF underlying141 F7 rfl rfl rfl ?_);obtain⟨ce,aQ,bn⟩:=bs aV;obtain⟨_,rfl,_,_,cf⟩:=H3 (kk:=13) (pp:=(rN .u16)) (Jt (E:=ar) (pp:=(rN .u16)) rfl) aQ;refine AA (v:= .pointer (some ⟨U,2+Int.toNat (0)*1,none⟩)) rfl (fun ρ h=>I7 (kk:=13) (pp:=(rN .u16)) (Jt (E:=ar) (pp:=(rN .u16)) rfl) aQ underlying139 HX (h _ _ rfl) (h _ _ rfl)) (BF underlying138 El rfl rfl rfl ?_);have aI:=OO (us:= [uV 1]) (y:=1) (Jt (E:=ar) (pp:=(rN .u16)) rfl) aQ rfl;refine J9 (v:= uV 1) (l:= [sV ao p0.1 c2,sV ap p0.2 aq]) (ws:=(List.replicate 13 (uV 0):Lv_)) (us:= [uV 1]) (o:=Int.toNat (0)*1) 2 rfl rfl rfl bm rfl rfl rfl El (by simp [Value.cells,CM]) rfl aI.2 fun aX=>?_;replace aI:=aI.1;generalize bo:Hp (List.replicate 13 (uV 0):Lv_) (Int.toNat (0)*1) [uV 1]=aY at aX ⊢;have bp:(rA 13 (rN .u16)).r ar aY ((List.replicate 13 (0:Nat)).set (Int.toNat 0) 1):=by rw [← bo];exact aI
 refine zg 2 rfl (JL.label ?_);obtain⟨cg,bq,br⟩:=bs bn;refine Ie [(3,pV U 0)] rfl (UR bq (fun L s Z=>∃(V:LH) (ay:Ap) (az:Nat) (aA:Ap) (aB:Nat) (aa:Lv_),Jn ar H V [[(U,.cells (([sV ay Z.1 az,sV aA Z.2.1 aB]:Lv_)++aa).toArray 141 (0,0))]] [(3,pV U 0)] L s (Ao (rL rI) V ay az Z.1∧Ao (rL rI) V aA aB Z.2.1∧(rA 13 (rN .u16)).r V aa Z.2.2)) ⟨ar,ao,c2,ap,aq,aY,rfl,rfl,Aq,aX,(bf.Ai aP),(bg.Ai aP),bp⟩ ?_);rintro _ _ Z ⟨V,ay,az,aA,aB,aa,rfl,rfl,aZ,a0,bu,bv,ai⟩ bw ⟨ci,aR⟩ bx;have a1:=aR;unfold MF at a1;refine zg 4 rfl (BF underlying141 F7 rfl rfl rfl ?_);refine AA (v:= .agg aa.toArray) rfl (fun ρ h=>Kg (kk:=13) (pp:=(rN .u16)) ai Lr F7 (h _ _ rfl) (LZ (l:= [sV ay Z.1 az,sV aA Z.2.1 aB]) 0 a0 rfl)) (CO a0 (DY type139) fun au bz=>?_);refine J9 (v:= .agg aa.toArray) (l:= []) (ws:=(List.replicate 13 (uV 0):Lv_)) (us:=aa) (o:=0) 1 rfl rfl rfl bz rfl rfl rfl (by rw [Gf (kk:=13) (pp:=(rN .u16)) ai];exact Bq type139) ((rA 13 (rN .u16)).one ai) rfl (by rw [Gf (kk:=13) (pp:=(rN .u16)) ai,Gf (kk:=13) (pp:=(rN .u16)) (Jt (E:=V) (pp:=(rN .u16)) rfl)];omega) fun a2=>?_;rw [QF (by rw [Gf (kk:=13) (pp:=(rN .u16)) ai,Gf (kk:=13) (pp:=(rN .u16)) (Jt (E:=V) (pp:=(rN .u16)) rfl)])] at a2 ⊢;obtain⟨K,bA,bB⟩:=bs a1;refine zg 6 rfl (Bs (fun L s=>∃(aj:LH) (ak:Ap) (al:Nat) (ab:Ap) (ae:Nat) (am:Lv_) (ag:Lv_),Jn V H aj [bX U (([sV ak K.1 al,sV ab K.2.1 ae]:Lv_)++am).toArray 141,bX au (([]:Lv_)++ag).toArray 139] [(3,pV U 0),(4,pV au 0)] L s (Ao (rL rI) aj ak al K.1∧Ao (rL rI) aj ab ae K.2.1∧(rA 13 (rN .u16)).r aj am K.2.2.1∧(rA 13 (rN .u16)).r aj ag K.2.2.2)) ?_ ?_)
 ·rintro _ _ ⟨aj,ak,al,ab,ae,am,ag,rfl,rfl,a3,av,a4,a5,aC,ah⟩;refine zg 2 rfl (Dv 5 [au,U] ⟨⟨1,_,rfl⟩,⟨0,_,rfl⟩,trivial⟩ av fun ht=>?_);refine BC (v:= .agg ag.toArray) 0 ht rfl rfl (fun ρ h s' hs=>Kg (kk:=13) (pp:=(rN .u16)) ah Lr F7 (h _ _ rfl) (N7 (l:= []) 1 av rfl (by simp [A5]) hs)) (Bi ht rfl [1,2] rfl ?_);refine B6 3 ht underlying141 F7 rfl rfl rfl rfl (BC (v:= .agg am.toArray) 4 ht rfl rfl (fun ρ h s' hs=>Kg (kk:=13) (pp:=(rN .u16)) aC Lr F7 (h _ _ rfl) (N7 (l:= [sV ak K.1 al,sV ab K.2.1 ae]) 0 av rfl (by simp [A5]) hs)) ?_);refine Co [5] (AA (v:= .bool (decide (K.2.2.2≠K.2.2.1))) rfl (fun ρ h=>Vf underlying139 (by decide+kernel) XU HX ah aC (h _ _ rfl) (h _ _ rfl)) ?_);refine JL.done (AK bB (fun bC bD=>?_) (fun bC bE=>?_))
  ·refine zg 3 rfl (AA (v:= .agg ag.toArray) rfl (fun ρ h=>Kg (kk:=13) (pp:=(rN .u16)) ah Lr F7 (h _ _ rfl) (LZ (l:= []) 1 av rfl)) ?_);refine zg 1 rfl (BF underlying141 F7 rfl rfl rfl ?_);refine J9 (v:= .agg ag.toArray) (l:= [sV ak K.1 al,sV ab K.2.1 ae]) (ws:=am) (us:=ag) (o:=0) 0 rfl rfl rfl av rfl rfl rfl (by rw [Gf (kk:=13) (pp:=(rN .u16)) ah];exact Bq type139) ((rA 13 (rN .u16)).one ah) rfl (by rw [Gf (kk:=13) (pp:=(rN .u16)) ah,Gf (kk:=13) (pp:=(rN .u16)) aC];omega) fun a6=>?_;rw [QF (by rw [Gf (kk:=13) (pp:=(rN .u16)) ah,Gf (kk:=13) (pp:=(rN .u16)) aC])] at a6 ⊢;refine JL.done (JL.goto rfl ?_);refine zg 2 rfl (JS.drop 1 a6 rfl fun bF=>?_);obtain rfl:=oi bD;exact Ay (bx _ _ (K.1,K.2.1,K.2.2.2) ⟨aj,ak,al,ab,ae,ag,rfl,rfl,(aZ.Ac a3),bF,a4,a5,ah⟩ aR) rfl
  ·refine zg 6 rfl (Dp 0 av rfl fun ck aJ bG bH=>?_);refine JS.drop 1 bH rfl fun bI=>?_;obtain rfl:=oi bE;obtain rfl:=bw _ aR;have bJ:=elim_inl br;obtain rfl:=oi bJ;exact AF func92 rfl rfl (bi (((aP.Ac aZ).Ac a3).Ac aJ) rfl ⟨pV U 0,rfl,rfl,⟨_,_,_,rfl,bG,⟨[sV ak K.1 al],(([sV ab K.2.1 ae]:Lv_)++am),rfl,⟨_,_,rfl,(a4.Ai aJ)⟩,⟨[sV ab K.2.1 ae],am,rfl,⟨_,_,rfl,(a5.Ai aJ)⟩,(Rp.Ai _ aJ aC)⟩⟩⟩⟩ bI)
 ·intro bK;refine JL.block (CG bA (fun L s O=>∃(an:LH) (aD:Ap) (aE:Nat) (aF:Ap) (aG:Nat) (aK:Lv_) (aw:Lv_),Jn V H an [bX U (([sV aD O.1 aE,sV aF O.2.1 aG]:Lv_)++aK).toArray 141,bX au (([]:Lv_)++aw).toArray 139] [(3,pV U 0),(4,pV au 0),(18,iV O.2.2.2.2)] L s (Ao (rL rI) an aD aE O.1∧Ao (rL rI) an aF aG O.2.1∧(rA 13 (rN .u16)).r an aK O.2.2.1∧(rA 13 (rN .u16)).r an aw O.2.2.2.1)) ⟨V,ay,az,aA,aB,aa,aa,rfl,rfl,Aq,a2,bu,bv,ai,ai⟩ ?_);rintro _ _ O ⟨an,aD,aE,aF,aG,aK,aw,rfl,rfl,a7,aS,a8,a9,aL,aM⟩ bL ⟨cm,aT⟩ bM;have ba:=aT;unfold Kw at ba;refine zg 5 rfl (AK ba (fun bN bO=>?_) (fun bN bP=>?_))
  ·obtain⟨aH,bQ,bR⟩:=bs bO;refine zg 10 rfl (Ba bQ rfl rfl rfl ?_);refine zg 4 rfl (BF underlying141 F7 rfl rfl rfl ?_);obtain⟨bS,bb,bT⟩:=bs bR;obtain⟨_,rfl,_,_,bU⟩:=H3 (kk:=13) (pp:=(rN .u16)) aL bb;refine AA (v:= .pointer (some ⟨U,2+Int.toNat (O.2.2.2.2)*1,none⟩)) rfl (fun ρ h=>I7 (kk:=13) (pp:=(rN .u16)) aL bb underlying139 HX (h _ _ rfl) (h _ _ rfl)) (BF underlying138 El rfl rfl rfl ?_);refine AA (v:= uV bS) rfl (fun ρ h=>Yl.load GK (h _ _ rfl) (TS (l:= [sV aD O.1 aE,sV aF O.2.1 aG]) 0 aS rfl (bU 0 _ rfl))) ?_;obtain⟨W,bV,bW⟩:=bs bT;refine BY 0 (V0 a8 a9 aL bV) rfl rfl (A2 func121 rfl) aS rfl ?_;rintro _ bc _ aN ⟨bY,bZ,b0,b1,JJ,rfl,rfl,b2,b3,b4⟩ b5;obtain⟨cn,aU,b6⟩:=bs bW;obtain⟨_,rfl,_,_,co⟩:=H3 (kk:=13) (pp:=(rN .u16)) (Rp.Ai _ aN aM) aU;refine AA (v:= .pointer (some ⟨au,0+Int.toNat (aH)*1,none⟩)) rfl (fun ρ h=>I7 (kk:=13) (pp:=(rN .u16)) (Rp.Ai _ aN aM) aU underlying139 HX (h _ _ rfl) (h _ _ rfl)) (BF underlying138 El rfl rfl rfl ?_);have aO:=OO (us:= [uV W.1]) (y:=W.1) (Rp.Ai _ aN aM) aU rfl;refine J9 (v:= uV W.1) (l:= []) (ws:=aw) (us:= [uV W.1]) (o:=Int.toNat (aH)*1) 1 rfl rfl rfl b5 rfl rfl rfl El (by simp [Value.cells,CM]) rfl aO.2 fun bd=>?_;replace aO:=aO.1;generalize b7:Hp aw (Int.toNat (aH)*1) [uV W.1]=be at bd ⊢;have b8:(rA 13 (rN .u16)).r bc be (O.2.2.2.1.set (Int.toNat aH) W.1):=by rw [← b7];exact aO
   obtain⟨b9,ca,cb⟩:=bs b6;refine zg 3 rfl (Ba ca rfl rfl rfl ?_);refine zg 2 rfl ?_;obtain rfl:=oi cb;exact Ay (bM _ _ (W.2.1,W.2.2.1,W.2.2.2,(O.2.2.2.1.set (Int.toNat aH) W.1),b9) ⟨bc,bY,bZ,b0,b1,JJ,be,rfl,rfl,(a7.Ac aN),bd,b2,b3,b4,b8⟩ aT) rfl
  ·refine JL.exit rfl ?_;obtain rfl:=oi bP;obtain rfl:=bL _ aT;exact Ay (bK _ _ ⟨an,aD,aE,aF,aG,aK,aw,rfl,rfl,a7,aS,a8,a9,aL,aM⟩) rfl
end Pal
namespace Pal
open Go Go.Conc Go.Proofs
open Go.Proofs.Tryz
variable {J:Judge Tryz.prog}{E:LH}
def Rv(fuel:Nat)(p1:List Int)(K:Int):Option (Bl Int (((Option BR)×Int)⊕(Unit))):= if K<(p1.length:Int) then((ix p1 K).bind fun O=> (f101 fuel O 0 12).bind fun U=> if U=true then(some (.done (Sum.inl (none,1)))) else((Au (K+1)).bind fun V=> some (.more V))) else(some (.done (Sum.inr ())))
def f106(fuel:Nat)(p0:Bt)(p1:List Int):Option ((Option BR)×Int):= (f67 fuel p0).bind fun K=> if K≠0 then(some (none,K)) else(Option.bind (iter (Rv fuel p1) fuel 0) fun O=> Sum.elim (fun r=>some r) (fun V=> (f92 fuel p0).bind fun U=> some (U,0)) O)
theorem RX{ag:Ap}{c2:Nat}{ah:Ap}{ai:Nat}{Z:Ap}{aa:Nat}{p0:Bt}{p1:List Int}(aj:Ao (rL rI) E ag c2 p0.1)(ak:Ao (rL rI) E ah ai p0.2)(aC:Ao rI E Z aa p1){fuel:Nat}{r:(Option BR)×Int}(al:f106 fuel p0 p1=some r):AQ J 106 [.agg #[sV ag p0.1 c2,sV ah p0.2 ai],sV Z p1 aa] E [] (fun w E' B'=>∃(am:Value),w= .tuple #[am,iV r.2]∧B'= []∧JR (rP (rL (rL rI)) (rP (rL (rL rI)) (rA 13 (rN .u16)))) E' am r.1):=by
 refine Bc func106 fun Q bd cs H aD ab=>?_;unfold f106 at al;refine zg 2 rfl (Cs aD fun an be K ao aE=>?_);refine zg 6 rfl (Cm ao Cy Cc rfl rfl ?_);obtain⟨bf,aF,aG⟩:=bs al;refine BH (YB (aj.Ai K) (ak.Ai K) aF) rfl rfl (A2 func67 rfl) aE fun aH O ap=>zg 7 rfl (AK aG (fun aI aJ=>?_) (fun aI aK=>?_))
 ·refine zg 6 rfl ?_;obtain rfl:=oi aJ;exact AF func106 rfl rfl (ab (K.Ac O) rfl ⟨.pointer none,rfl,rfl,rfl⟩ ap)
 ·refine zg 5 rfl (Bp underlying28 rfl rfl rfl ?_);obtain⟨aq,aL,ar⟩:=bs aK;refine zg 2 rfl (Bs (fun L s=>∃(au:Unit) (av:LH),aq=Sum.inr au∧Jm aH H av [] [(2,pV an 0)] L s) ?_ ?_)
  ·rintro _ _ ⟨au,av,rfl,rfl,rfl,U,aM⟩;have aN:=elim_inr ar;refine zg 2 rfl (Cm (ao.Ai (O.Ac U)) Cy Cc rfl rfl ?_);obtain⟨bg,aO,aP⟩:=bs aN;refine BO (M4 (aj.Ai ((K.Ac O).Ac U)) (ak.Ai ((K.Ac O).Ac U)) aO) rfl rfl Ly aM ?_;rintro aQ bh _ aR ⟨_,rfl,rfl,aS⟩ aT;refine zg 3 rfl ?_;obtain rfl:=oi aP;exact AF func106 rfl rfl (ab (((K.Ac O).Ac U).Ac aR) rfl ⟨aQ,rfl,rfl,aS⟩ aT)
  ·intro aU;refine JL.block (CC aL (fun ae=> []) (fun ae=> [(2,pV an 0),(14,sV Z p1 aa),(15,iV (p1.length:Int)),(16,iV ae)]) Aq ap ?_);rintro ae aV V aw ay ⟨bi,W⟩ aW;have az:=W;unfold Rv at az;refine zg 5 rfl (AK az (fun aX aY=>?_) (fun aX aZ=>?_))
   ·obtain⟨bj,a0,a1⟩:=bs aY;refine zg 5 rfl (Cb (aC.Ai ((K.Ac O).Ac V)) a0 underlying28 AW ?_);rintro bl bm _ rfl a2;refine BW 0 a2 Bx rfl rfl rfl ?_;obtain⟨bn,a3,a4⟩:=bs a1;refine zg 5 rfl (BH (IJ a3) rfl rfl Ir aw fun bo aA aB=>?_);refine JL.done (BM a4 (fun a5 a6=>?_) (fun a5 a7=>?_))
    ·refine zg 5 rfl ?_;obtain rfl:=oi a6;obtain rfl:=ay _ W;have a8:=elim_inl ar;obtain rfl:=oi a8;exact AF func106 rfl rfl (ab (((K.Ac O).Ac V).Ac aA) rfl ⟨.pointer none,rfl,rfl,rfl⟩ aB)
    ·obtain⟨a9,ba,bb⟩:=bs a7;refine zg 3 rfl (Ba ba rfl rfl rfl ?_);refine zg 2 rfl ?_;obtain rfl:=oi bb;exact aW a9 (V.Ac aA) aB rfl W
   ·refine JL.exit rfl ?_;obtain rfl:=oi aZ;have bc:aq=(Sum.inr ()):=(ay _ W).symm;exact Ay (aU _ _ ⟨(),aV,bc,rfl,rfl,V,aw⟩) rfl
def f51(fuel:Nat)(p0:Bt)(p1:Int):Option ((List Int)×Int):= (f106 fuel p0 ([p1]:List Int)).bind fun K=> if K.2≠0 then(some ([],K.2)) else((K.1).bind fun O=> (ix O.2.2 p1).bind fun U=> (f89 fuel U).bind fun V=> some (V,0))
theorem Ys{U:Ap}{c2:Nat}{V:Ap}{W:Nat}{p0:Bt}{p1:Int}(ak:Ao (rL rI) E U c2 p0.1)(al:Ao (rL rI) E V W p0.2){fuel:Nat}{r:(List Int)×Int}(Z:f51 fuel p0 p1=some r):AQ J 51 [.agg #[sV U p0.1 c2,sV V p0.2 W],iV p1] E [] (fun w E' B'=>∃(aa:Ap) (ab:Nat),w= .tuple #[sV aa r.1 ab,iV r.2]∧B'= []∧Ao rI E' aa ab r.1):=by
 refine Bc func51 fun Q aU cs H am ae=>?_;unfold f51 at Z;refine zg 2 rfl (Cs am fun aV aW K an ao=>?_);refine zg 5 rfl (Cm an Cy Cc rfl rfl ?_);refine zg 1 rfl (JS.lit (pp:=rI) [iV p1] [p1] rfl rfl rfl underlying28 AW Cz (by decide) rfl rfl rfl ⟨rfl,trivial⟩ ao fun aX aY ap aq=>?_);refine Ca 2 ap aq rfl fun aZ O ar au=>?_;obtain⟨a0,av,aw⟩:=bs Z;refine BO (RX (ak.Ai (K.Ac O)) (al.Ai (K.Ac O)) ar av) rfl rfl (A2 func106 rfl) au ?_;rintro _ a1 _ ag ⟨a2,rfl,rfl,ay⟩ ah;refine zg 12 rfl (AK aw (fun az aA=>?_) (fun az aB=>?_))
 ·refine zg 6 rfl ?_;obtain rfl:=oi aA;exact AF func51 rfl rfl (ae ((K.Ac O).Ac ag) rfl ⟨none,0,rfl,rfl,Ao.nil⟩ ah)
 ·obtain⟨ai,aC,aD⟩:=bs aB;have aj:=ay;refine zg 5 rfl ?_;rw [aC] at aj;obtain⟨a3,a4,_,rfl,aE,⟨_,_,rfl,⟨aF,aG,rfl,a5⟩,⟨_,a6,rfl,⟨aH,aI,rfl,a7⟩,aJ⟩⟩⟩:=aj;refine zg 1 rfl (BF underlying141 F7 rfl rfl rfl ?_);obtain⟨a8,aK,aL⟩:=bs aD;refine Ot (l:= [sV aF ai.1 aG,sV aH ai.2.1 aI]) aE aJ aK rfl rfl rfl rfl rfl underlying139 HX ?_;rintro a9 _ rfl aM;refine JL.fl 0 aM underlying138 El GK ?_;obtain⟨ba,aN,aO⟩:=bs aL;refine BO (IL aN) rfl rfl It ah ?_;rintro _ bb _ aP ⟨aQ,aR,rfl,rfl,aS⟩ aT;refine zg 3 rfl ?_;obtain rfl:=oi aO;exact AF func51 rfl rfl (ae (((K.Ac O).Ac ag).Ac aP) rfl ⟨aQ,aR,rfl,rfl,aS⟩ aT)
def RH(fuel:Nat)(p0:BR)(O:Nat)(U:(List Int))(K:Int):Option (Bl Int ((Bool)⊕(Unit))):= if K<(U.length:Int) then((ix U K).bind fun V=> (f103 fuel O V).bind fun W=> Option.bind (if W=true then(some true) else((ix p0.2.1 V).bind fun Z=> (f120 fuel Z).bind fun aa=> (JK O aa).bind fun ab=> some (decide ((((ab):Nat):Int)≠(((0):Nat):Int))))) fun ae=> if ae=true then(some (.done (Sum.inl true))) else((Au (K+1)).bind fun ag=> some (.more ag))) else(some (.done (Sum.inr ())))
def f109(fuel:Nat)(p0:BR)(p1:Int)(p2:Int):Option Bool:= (ix p0.2.2 p2).bind fun K=> (ix p0.2.2 p1).bind fun O=> (f89 fuel O).bind fun U=> Option.bind (iter (RH fuel p0 K U) fuel 0) fun V=> Sum.elim (fun r=>some r) (fun W=> some false) V
theorem Yh{k1:Nat}{O:Nat}{U:Ap}{V:Nat}{W:Ap}{Z:Nat}{aj:Lv_}{p0:BR}{p1:Int}{p2:Int}(ai:At E k1 O (([sV U p0.1 V,sV W p0.2.1 Z]:Lv_)++aj))(bC:Ao (rL rI) E U V p0.1)(aG:Ao (rL rI) E W Z p0.2.1)(ak:(rA 13 (rN .u16)).r E aj p0.2.2){fuel:Nat}{r:Bool}(al:f109 fuel p0 p1 p2=some r):AQ J 109 [pV k1 O,iV p1,iV p2] E [] (fun w E' B'=>w= .bool r∧B'= []):=by
 refine Bc func109 fun Q bD cs H aH am=>?_;unfold f109 at al;refine zg 9 rfl (BF underlying141 F7 rfl rfl rfl ?_);obtain⟨an,aI,aJ⟩:=bs al;refine Ot (l:= [sV U p0.1 V,sV W p0.2.1 Z]) ai ak aI rfl rfl rfl rfl rfl underlying139 HX ?_;rintro bE _ rfl aK;refine JL.fl 0 aK underlying138 El GK ?_;refine zg 8 rfl (BF underlying141 F7 rfl rfl rfl ?_);obtain⟨bF,aL,aM⟩:=bs aJ;refine Ot (l:= [sV U p0.1 V,sV W p0.2.1 Z]) ai ak aL rfl rfl rfl rfl rfl underlying139 HX ?_;rintro bG _ rfl aN;refine JL.fl 0 aN underlying138 El GK ?_;obtain⟨aa,aO,aP⟩:=bs aM;refine BO (IL aO) rfl rfl It aH ?_;rintro _ aQ _ ab ⟨ao,ap,rfl,rfl,aR⟩ aS;refine Bp underlying28 rfl rfl rfl ?_;obtain⟨aq,aT,ar⟩:=bs aP;refine zg 2 rfl (Bs (fun L s=>∃(au:Unit) (av:LH),aq=Sum.inr au∧Jm aQ H av [] [] L s) ?_ ?_)
 ·rintro _ _ ⟨au,av,rfl,rfl,rfl,aU,aV⟩;have aW:=elim_inr ar;refine zg 4 rfl ?_;obtain rfl:=oi aW;exact AF func109 rfl rfl (am (ab.Ac aU) rfl ⟨rfl,rfl⟩ aV)
 ·intro aX;refine JL.block (CC aT (fun ae=> []) (fun ae=> [(0,pV k1 O),(7,uV an),(24,sV ao aa ap),(25,iV (aa.length:Int)),(26,iV ae)]) Aq aS ?_);rintro ae aY K aw ay ⟨bH,ag⟩ aZ;have az:=ag;unfold RH at az;refine zg 5 rfl (AK az (fun a0 a1=>?_) (fun a0 a2=>?_))
  ·obtain⟨bI,a3,a4⟩:=bs a1;refine zg 5 rfl (Cb (aR.Ai K) a3 underlying28 AW ?_);rintro bJ bK _ rfl a5;refine BW 0 a5 Bx rfl rfl rfl ?_;obtain⟨bL,a6,a7⟩:=bs a4;refine zg 6 rfl (BH (OK a6) rfl rfl NB aw fun aA ah aB=>?_);obtain⟨a8,a9,ba⟩:=bs a7;refine zg 1 rfl (Gb [] (fun L s=>∃(aC:LH),Jm aA H aC [] [(0,pV k1 O),(7,uV an),(24,sV ao aa ap),(25,iV (aa.length:Int)),(26,iV ae),(46,.bool a8)] L s) ?_ ?_)
   ·rintro _ _ ⟨aC,rfl,rfl,aD,aE⟩;refine JL.done (BM ba (fun bb bc=>?_) (fun bb bd=>?_))
    ·refine zg 4 rfl ?_;obtain rfl:=oi bc;obtain rfl:=ay _ ag;have be:=elim_inl ar;obtain rfl:=oi be;exact AF func109 rfl rfl (am (((ab.Ac K).Ac ah).Ac aD) rfl ⟨rfl,rfl⟩ aE)
    ·obtain⟨bf,bg,bh⟩:=bs bd;refine zg 3 rfl (Ba bg rfl rfl rfl ?_);refine zg 2 rfl ?_;obtain rfl:=oi bh;exact aZ bf ((K.Ac ah).Ac aD) aE rfl ag
   ·intro aF;refine Dj 33 a9 (fun bi bj=>?_) (fun bi bl=>?_)
    ·refine zg 13 rfl ?_;obtain rfl:=oi bj;exact Ay (aF _ _ ⟨aA,rfl,rfl,Aq,aB⟩) rfl
    ·refine zg 3 rfl (BF underlying141 Cc rfl rfl rfl ?_);refine JL.fl 1 (ai.Ai ((ab.Ac K).Ac ah)) underlying24 Cl CW ?_;obtain⟨bM,bm,bn⟩:=bs bl;refine zg 1 rfl (Cb (aG.Ai ((ab.Ac K).Ac ah)) bm underlying22 BV ?_);rintro bN bO _ ⟨bP,bQ,rfl,bo⟩ bp;refine BW 0 bp C4 rfl rfl rfl ?_;obtain⟨bR,bq,br⟩:=bs bn;refine BH (Js bo bq) rfl rfl I0 aB fun bu bv bw=>?_;obtain⟨bx,bz,bA⟩:=bs br;refine AA (v:= uV bx) rfl (fun ρ h=>NW (h _ _ rfl) (h _ _ rfl) bz) (zg 2 rfl ?_);obtain rfl:=oi bA;exact Ay (aF _ _ ⟨bu,rfl,rfl,bv,bw⟩) rfl
  ·refine JL.exit rfl ?_;obtain rfl:=oi a2;have bB:aq=(Sum.inr ()):=(ay _ ag).symm;exact Ay (aX _ _ ⟨(),aY,bB,rfl,rfl,K,aw⟩) rfl
def Sm(fuel:Nat)(p1:Int)(O:BR)(K:Int):Option (Bl Int Int):= (f109 fuel O p1 K).bind fun U=> if(!U)=true then((Au (K+1)).bind fun V=> some (.more V)) else(some (.done K))
def f57(fuel:Nat)(p0:Bt)(p1:Int):Option (Int×Int):= (f106 fuel p0 ([p1]:List Int)).bind fun K=> if K.2≠0 then(some (0,K.2)) else((K.1).bind fun O=> Option.bind (iter (Sm fuel p1 O) fuel 0) fun U=> some (U,0))
theorem YE{Z:Ap}{c2:Nat}{aa:Ap}{ab:Nat}{p0:Bt}{p1:Int}(an:Ao (rL rI) E Z c2 p0.1)(ao:Ao (rL rI) E aa ab p0.2){fuel:Nat}{r:Int×Int}(ae:f57 fuel p0 p1=some r):AQ J 57 [.agg #[sV Z p0.1 c2,sV aa p0.2 ab],iV p1] E [] (fun w E' B'=>w= .tuple #[iV r.1,iV r.2]∧B'= []):=by
 refine Bc func57 fun Q a5 cs H ap ag=>?_;unfold f57 at ae;refine zg 2 rfl (Cs ap fun a6 a7 O aq ar=>?_);refine zg 5 rfl (Cm aq Cy Cc rfl rfl ?_);refine zg 1 rfl (JS.lit (pp:=rI) [iV p1] [p1] rfl rfl rfl underlying28 AW Cz (by decide) rfl rfl rfl ⟨rfl,trivial⟩ ar fun a8 a9 au av=>?_);refine Ca 2 au av rfl fun ba U aw ay=>?_;obtain⟨bb,az,aA⟩:=bs ae;refine BO (RX (an.Ai (O.Ac U)) (ao.Ai (O.Ac U)) aw az) rfl rfl (A2 func106 rfl) ay ?_;rintro _ bc _ ah ⟨bd,rfl,rfl,aB⟩ ai;refine zg 12 rfl (AK aA (fun aC aD=>?_) (fun aC aE=>?_))
 ·refine zg 6 rfl ?_;obtain rfl:=oi aD;exact AF func57 rfl rfl (ag ((O.Ac U).Ac ah) rfl ⟨rfl,rfl⟩ ai)
 ·obtain⟨be,aF,aG⟩:=bs aE;have aj:=aB;refine zg 6 rfl ?_;rw [aF] at aj;obtain⟨aH,aI,_,rfl,aJ,⟨_,_,rfl,⟨bf,bg,rfl,aK⟩,⟨_,bh,rfl,⟨bi,bj,rfl,aL⟩,aM⟩⟩⟩:=aj;obtain⟨aN,aO,aP⟩:=bs aG;refine Cu [] [(8,iV aN)] (fun bl aQ aR=>?_) (fun aS=>?_)
  ·refine zg 6 rfl ?_;obtain rfl:=oi aP;exact AF func57 rfl rfl (ag (((O.Ac U).Ac ah).Ac aQ) rfl ⟨rfl,rfl⟩ aR)
  ·refine JL.block (CC aO (fun V=> []) (fun V=> [(1,iV p1),(6,pV aH aI),(8,iV V)]) Aq ai ?_);rintro V bm K aT aU ⟨bn,W⟩ aV;have ak:=W;unfold Sm at ak;obtain⟨aW,aX,aY⟩:=bs ak;refine zg 6 rfl (BH (Yh (aJ.Ai K) (aK.Ai K) (aL.Ai K) (Rp.Ai _ K aM) aX) rfl rfl (A2 func109 rfl) aT fun bo al am=>?_);refine AA (v:= .bool (!aW)) rfl (fun ρ h=>Yl.not (h _ _ rfl)) (JL.done ?_);refine BM aY (fun aZ a0=>?_) (fun aZ a1=>?_)
   ·obtain⟨a2,a3,a4⟩:=bs a0;refine zg 4 rfl (Ba a3 rfl rfl rfl ?_);refine zg 3 rfl ?_;obtain rfl:=oi a4;exact aV a2 (K.Ac al) am rfl W
   ·refine JL.exit rfl ?_;obtain rfl:=oi a1;obtain rfl:=aU _ W;exact aS (K.Ac al) am rfl
end Pal
namespace Pal
open Go Go.Conc Go.Proofs
open Go.Proofs.Tryz
variable {J:Judge Tryz.prog}{E:LH}
def Mj(fuel:Nat)(p0:List Int)(p1:Int)(K:Int):Option (Bl Int ((Int)⊕(Unit))):= if K<(p0.length:Int) then((ix p0 K).bind fun O=> if p1=O then(some (.done (Sum.inl K))) else((Au (K+1)).bind fun U=> some (.more U))) else(some (.done (Sum.inr ())))
def f201(fuel:Nat)(p0:List Int)(p1:Int):Option Int:= Option.bind (iter (Mj fuel p0 p1) fuel 0) fun K=> Sum.elim (fun r=>some r) (fun O=> some (-1)) K
theorem XK{U:Ap}{c2:Nat}{p0:List Int}{p1:Int}(ak:Ao rI E U c2 p0){fuel:Nat}{r:Int}(Z:f201 fuel p0 p1=some r):AQ J 201 [sV U p0 c2,iV p1] E [] (fun w E' B'=>w=iV r∧B'= []):=by
 refine Bc func201 fun Q aK cs H al aa=>?_;unfold f201 at Z;refine zg 8 rfl (Bp underlying28 rfl rfl rfl ?_);obtain⟨ab,am,ae⟩:=bs Z;refine zg 2 rfl (Bs (fun L s=>∃(ag:Unit) (ah:LH),ab=Sum.inr ag∧Jm E H ah [] [] L s) ?_ ?_)
 ·rintro _ _ ⟨ag,ah,rfl,rfl,rfl,an,ao⟩;have ap:=elim_inr ae;refine zg 4 rfl ?_;obtain rfl:=oi ap;exact AF func201 rfl rfl (aa an rfl ⟨rfl,rfl⟩ ao)
 ·intro aq;refine JL.block (CC am (fun V=> []) (fun V=> [(0,sV U p0 c2),(1,iV p1),(7,iV (p0.length:Int)),(8,iV V)]) Aq al ?_);rintro V ar K W ai ⟨aL,O⟩ au;have aj:=O;unfold Mj at aj;refine zg 5 rfl (AK aj (fun av aw=>?_) (fun av ay=>?_))
  ·obtain⟨aM,az,aA⟩:=bs aw;refine zg 13 rfl (Cb (ak.Ai K) az underlying28 AW ?_);rintro aN aO _ rfl aB;refine BW 0 aB Bx rfl rfl rfl (zg 2 rfl ?_);refine AK aA (fun aC aD=>?_) (fun aC aE=>?_)
   ·refine zg 5 rfl ?_;obtain rfl:=oi aD;obtain rfl:=ai _ O;have aF:=elim_inl ae;obtain rfl:=oi aF;exact AF func201 rfl rfl (aa K rfl ⟨rfl,rfl⟩ W)
   ·obtain⟨aG,aH,aI⟩:=bs aE;refine zg 3 rfl (Ba aH rfl rfl rfl ?_);refine zg 2 rfl ?_;obtain rfl:=oi aI;exact au aG K W rfl O
  ·refine JL.exit rfl ?_;obtain rfl:=oi ay;have aJ:ab=(Sum.inr ()):=(ai _ O).symm;exact Ay (aq _ _ ⟨(),ar,aJ,rfl,rfl,K,W⟩) rfl
def f199(fuel:Nat)(p0:List Int)(p1:Int):Option Bool:= (f201 fuel p0 p1).bind fun K=> some (decide (0≤K))
theorem Xa{K:Ap}{c2:Nat}{p0:List Int}{p1:Int}(U:Ao rI E K c2 p0){fuel:Nat}{r:Bool}(O:f199 fuel p0 p1=some r):AQ J 199 [sV K p0 c2,iV p1] E [] (fun w E' B'=>w= .bool r∧B'= []):=by
 refine Bc func199 fun Q ag cs H V W=>?_;unfold f199 at O;obtain⟨ah,Z,aa⟩:=bs O;refine zg 8 rfl (BH (XK U Z) rfl rfl (A2 func201 rfl) V fun ai ab ae=>?_);refine zg 3 rfl ?_;obtain rfl:=oi aa;exact AF func199 rfl rfl (W ab rfl ⟨rfl,rfl⟩ ae)
def f192(fuel:Nat)(p0:BR)(p1:Int)(p2:Int):Option ((Option (Int×Option Int))):= if p1=p2 then(some (some (p1,none))) else((ix p0.2.1 p1).bind fun K=> (f199 fuel K p2).bind fun O=> if O=true then(some (some (p1,some p2))) else(some none))
theorem Xf{k1:Nat}{O:Nat}{U:Ap}{V:Nat}{W:Ap}{Z:Nat}{aa:Lv_}{p0:BR}{p1:Int}{p2:Int}(aj:At E k1 O (([sV U p0.1 V,sV W p0.2.1 Z]:Lv_)++aa))(aA:Ao (rL rI) E U V p0.1)(ak:Ao (rL rI) E W Z p0.2.1)(aB:(rA 13 (rN .u16)).r E aa p0.2.2){fuel:Nat}{r:(Option (Int×Option Int))}(ab:f192 fuel p0 p1 p2=some r):AQ J 192 [pV k1 O,iV p1,iV p2] E [] (fun w E' B'=>∃(ae:Value),w=ae∧B'= []∧Pd 257 259 ae r):=by
 refine Bc func192 fun Q aC cs H ag K=>?_;unfold f192 at ab;refine zg 13 rfl (AK ab (fun al am=>?_) (fun al an=>?_))
 ·refine zg 3 rfl (AA (v:= .agg #[iV p1]) rfl (fun ρ h=>Dc [(0,1)] h (DY type257) underlying257 ⟨rfl,Bq type3,trivial⟩ rfl rfl) ?_);refine AA (v:= .iface 257 (.agg #[iV p1])) rfl (fun ρ h=>Ff underlying257 (fun _ h=>by cases h) (h _ _ rfl)) (zg 2 rfl ?_);obtain rfl:=oi am;exact AF func192 rfl rfl (K Aq rfl ⟨.iface 257 (.agg #[iV p1]),rfl,rfl,rfl⟩ ag)
 ·refine zg 4 rfl (BF underlying141 Cc rfl rfl rfl ?_);refine JL.fl 1 aj underlying24 Cl CW ?_;obtain⟨aD,ao,ap⟩:=bs an;refine zg 1 rfl (Cb ak ao underlying22 BV ?_);rintro aE aF _ ⟨aG,aH,rfl,aq⟩ ar;refine BW 0 ar C4 rfl rfl rfl ?_;obtain⟨aI,au,av⟩:=bs ap;refine zg 1 rfl (BH (Xa aq au) rfl rfl (A2 func199 rfl) ag fun aJ ah ai=>?_);refine zg 2 rfl (BM av (fun aw ay=>?_) (fun aw az=>?_))
  ·refine zg 4 rfl (AA (v:= .agg #[iV p1,iV p2]) rfl (fun ρ h=>Dc [(0,1),(1,1)] h (DY type259) underlying259 ⟨rfl,Bq type3,rfl,Bq type3,trivial⟩ rfl rfl) ?_);refine AA (v:= .iface 259 (.agg #[iV p1,iV p2])) rfl (fun ρ h=>Ff underlying259 (fun _ h=>by cases h) (h _ _ rfl)) (zg 2 rfl ?_);obtain rfl:=oi ay;exact AF func192 rfl rfl (K ah rfl ⟨.iface 259 (.agg #[iV p1,iV p2]),rfl,rfl,rfl⟩ ai)
  ·refine zg 6 rfl ?_;obtain rfl:=oi az;exact AF func192 rfl rfl (K ah rfl ⟨.nilIface,rfl,rfl,rfl⟩ ai)
end Pal
namespace Pal
open Go Go.Conc Go.Proofs
open Go.Proofs.Tryz
variable {J:Judge Tryz.prog}{E:LH}
def KX(fuel:Nat)(p0:(BR)×(A4)×BZ):Option Int:= if(p0.2.1.length:Int)=0 then(some 0) else((Au ((p0.2.1.length:Int) - 1)).bind fun K=> (ix p0.2.1 K).bind fun O=> some O.1)
theorem VH{bk:Nat}{k1:Nat}{V:Nat}{aa:Ap}{ab:Nat}{ae:Ap}{ag:Nat}{ah:Lv_}{O:Ap}{U:Nat}{W:Ap}{Z:Nat}{p0:(BR)×(A4)×BZ}(av:At E k1 V (([sV aa p0.1.1 ab,sV ae p0.1.2.1 ag]:Lv_)++ah))(aw:Ao (rL rI) E aa ab p0.1.1)(ay:Ao (rL rI) E ae ag p0.1.2.1)(az:(rA 13 (rN .u16)).r E ah p0.1.2.2)(ak:Ao BJ E O U p0.2.1)(aA:Ao rI E W Z p0.2.2.2.1){fuel:Nat}{r:Int}(ai:KX fuel p0=some r):AQ J 154 [pV bk 0] E [(bk,.cells #[pV k1 V,sV O p0.2.1 U,iV p0.2.2.1,sV W p0.2.2.2.1 Z,uV p0.2.2.2.2] 175 (0,0))] (fun w E' B'=>w=iV r∧B'= [(bk,.cells #[pV k1 V,sV O p0.2.1 U,iV p0.2.2.1,sV W p0.2.2.2.1 Z,uV p0.2.2.2.2] 175 (0,0))]):=by
 refine Bc func154 fun Q aB cs H K aj=>?_;unfold KX at ai;refine zg 9 rfl (BF underlying175 LG rfl rfl rfl ?_);refine AA (v:= sV O p0.2.1 U) rfl (fun ρ h=>Yl.load JZ (h _ _ rfl) (D5 (j:=0) (off:=1) K rfl rfl)) (Bp underlying25 rfl rfl rfl ?_);refine zg 2 rfl (AK ai (fun al am=>?_) (fun al an=>?_))
 ·refine zg 4 rfl ?_;obtain rfl:=oi am;exact AF func154 rfl rfl (aj Aq rfl ⟨rfl,rfl⟩ K)
 ·refine zg 2 rfl (Dv 10 [bk] ⟨⟨0,_,rfl⟩,trivial⟩ K fun ht=>?_);refine Bi ht rfl [0,1] rfl (B6 2 ht underlying175 LG rfl rfl rfl rfl ?_);refine EX 3 ht 1 0 K JZ ?_;refine Bi ht rfl [4,5] rfl (B6 6 ht underlying175 LG rfl rfl rfl rfl ?_);refine EX 7 ht 1 0 K JZ ?_;refine BC 8 ht rfl rfl (fun ρ h s' hs=>Yl.len rfl underlying25 (h _ _ rfl)) ?_;obtain⟨aC,ao,ap⟩:=bs an;refine BC 9 ht rfl rfl (fun ρ h s' hs=>C8 (h _ _ rfl) (h _ _ rfl) ao) (Co [10,11,12,13] ?_);obtain⟨aD,aq,ar⟩:=bs ap;refine Cb ak aq underlying25 CS ?_;rintro aE aF _ ⟨_,_,rfl,rfl,rfl⟩ au;refine JL.fl 0 au underlying27 AW Bx ?_;refine zg 2 rfl ?_;obtain rfl:=oi ar;exact AF func154 rfl rfl (aj Aq rfl ⟨rfl,rfl⟩ K)
def LV(fuel:Nat)(p0:(BR)×(A4)×BZ)(p1:Int)(p2:Int)(K:Nat×Int):Option (Bl (Nat×Int) ((Nat×Bool)⊕(Nat))):= if K.2<(p0.2.1.length:Int) then(Option.bind ((ix p0.2.1 K.2).bind fun O=> if O.1≠p1 then(some (Sum.inr K.1)) else((f192 fuel p0.1 p2 O.2).bind fun U=> Option.bind (if JD U=true then(some (Sum.inr K.1)) else(if K7 U=true then((f90 fuel K.1 K.2).bind fun V=> some (Sum.inr V)) else(some (Sum.inl (0,false))))) fun W=>Sum.elim (fun r=>some (Sum.inl r)) (fun Z=> some (Sum.inr Z)) W)) fun aa=>Sum.elim (fun r=>some (.done (Sum.inl r))) (fun ab=> (Au (K.2+1)).bind fun ae=> some (.more (ab,ae))) aa) else(some (.done (Sum.inr K.1)))
def KM(fuel:Nat)(p0:(BR)×(A4)×BZ)(p1:Int)(p2:Int):On_:= Option.bind (iter (LV fuel p0 p1 p2) fuel (0,0)) fun K=> Sum.elim (fun r=>some r) (fun O=> some (O,true)) K
theorem Wb{bk:Nat}{k1:Nat}{W:Nat}{an:Ap}{ao:Nat}{ap:Ap}{aq:Nat}{ar:Lv_}{K:Ap}{O:Nat}{Z:Ap}{aa:Nat}{p0:(BR)×(A4)×BZ}{p1:Int}{p2:Int}(aO:At E k1 W (([sV an p0.1.1 ao,sV ap p0.1.2.1 aq]:Lv_)++ar))(aP:Ao (rL rI) E an ao p0.1.1)(aQ:Ao (rL rI) E ap aq p0.1.2.1)(aR:(rA 13 (rN .u16)).r E ar p0.1.2.2)(aS:Ao BJ E K O p0.2.1)(bK:Ao rI E Z aa p0.2.2.2.1){fuel:Nat}{r:Nat×Bool}(au:KM fuel p0 p1 p2=some r):AQ J 174 [pV bk 0,iV p1,iV p2] E [(bk,.cells #[pV k1 W,sV K p0.2.1 O,iV p0.2.2.1,sV Z p0.2.2.2.1 aa,uV p0.2.2.2.2] 175 (0,0))] (fun w E' B'=>w= .tuple #[uV r.1,.bool r.2]∧B'= [(bk,.cells #[pV k1 W,sV K p0.2.1 O,iV p0.2.2.1,sV Z p0.2.2.2.1 aa,uV p0.2.2.2.2] 175 (0,0))]):=by
 refine Bc func174 fun Q bL cs H av aw=>?_;unfold KM at au;refine zg 11 rfl (JL.label ?_);refine zg 5 rfl (BF underlying175 LG rfl rfl rfl ?_);refine AA (v:= sV K p0.2.1 O) rfl (fun ρ h=>Yl.load JZ (h _ _ rfl) (D5 (j:=0) (off:=1) av rfl rfl)) (Bp underlying25 rfl rfl rfl ?_);obtain⟨ay,aT,az⟩:=bs au;refine zg 2 rfl (Bs (fun L s=>∃(ak:Nat) (aA:LH),ay=Sum.inr ak∧Jm E H aA [bX bk #[pV k1 W,sV K p0.2.1 O,iV p0.2.2.1,sV Z p0.2.2.2.1 aa,uV p0.2.2.2.2] 175] [(8,uV ak)] L s) ?_ ?_)
 ·rintro _ _ ⟨ak,aA,rfl,rfl,rfl,aU,aV⟩;have aW:=elim_inr az;refine zg 6 rfl ?_;obtain rfl:=oi aW;exact AF func174 rfl rfl (aw aU rfl ⟨rfl,rfl⟩ aV)
 ·intro aX;refine JL.block (CC aT (fun U=> [bX bk #[pV k1 W,sV K p0.2.1 O,iV p0.2.2.1,sV Z p0.2.2.2.1 aa,uV p0.2.2.2.2] 175]) (fun U=> [(0,pV bk 0),(1,iV p1),(2,iV p2),(8,uV U.1),(14,sV K p0.2.1 O),(15,iV (p0.2.1.length:Int)),(16,iV U.2)]) Aq av ?_);rintro U aB V aC aD ⟨bM,ag⟩ aY;have aE:=ag;unfold LV at aE;refine zg 5 rfl (AK aE (fun aZ a0=>?_) (fun aZ a1=>?_))
  ·obtain⟨a2,a3,aF⟩:=bs a0;refine zg 2 rfl (Bs (fun L s=>∃(ah:Nat) (aG:LH),a2=Sum.inr ah∧Jm aB H aG [bX bk #[pV k1 W,sV K p0.2.1 O,iV p0.2.2.1,sV Z p0.2.2.2.1 aa,uV p0.2.2.2.2] 175] [(0,pV bk 0),(1,iV p1),(2,iV p2),(8,uV ah),(14,sV K p0.2.1 O),(15,iV (p0.2.1.length:Int)),(16,iV U.2)] L s) ?_ ?_)
   ·rintro _ _ ⟨ah,aG,rfl,rfl,rfl,a4,a5⟩;have a6:=elim_inr aF;obtain⟨a7,a8,a9⟩:=bs a6;refine JL.region (Ba a8 rfl rfl rfl ?_);refine zg 2 rfl ?_;obtain rfl:=oi a9;exact aY (ah,a7) (V.Ac a4) a5 rfl ag
   ·intro aH;obtain⟨bN,ba,bb⟩:=bs a3;refine zg 4 rfl (Cb (aS.Ai V) ba underlying25 CS ?_);rintro bO bP _ ⟨_,_,rfl,rfl,rfl⟩ bc;refine Cm bc Iq CS rfl rfl (CO aC F6 fun bQ bd=>?_);refine zg 1 rfl (BQ 1 bd CS fun be=>?_);refine Dp 1 be rfl fun bf ab aI ae=>zg 4 rfl (JL.fl 0 aI underlying27 AW Bx ?_);refine zg 3 rfl (AK bb (fun bg bh=>?_) (fun bg bi=>?_))
    ·exact JL.exit rfl (Ay (aH _ _ ⟨U.1,bf,(Option.some.inj bh).symm,rfl,rfl,ab,ae⟩) rfl)
    ·refine zg 2 rfl (Dv 7 [bk] ⟨⟨0,_,rfl⟩,trivial⟩ ae fun ht=>?_);refine Bi ht rfl [0,1] rfl (B6 2 ht underlying175 NI rfl rfl rfl rfl ?_);refine EX 3 ht 0 0 ae Lu ?_;refine Cv 4 ht rfl rfl (B6 5 ht underlying27 AW rfl rfl rfl rfl ?_);refine JG.lp 6 ht 1 aI ae ⟨⟨0,_,rfl⟩,trivial⟩ Bx ?_;refine Co [7] ?_;obtain⟨ai,bj,bl⟩:=bs bi;refine BO (Xf (aO.Ai (V.Ac ab)) (aP.Ai (V.Ac ab)) (aQ.Ai (V.Ac ab)) (Rp.Ai _ (V.Ac ab) aR) bj) rfl rfl (A2 func192 rfl) ae ?_;rintro _ aJ _ aK ⟨bR,rfl,rfl,aL⟩ al;refine zg 4 rfl (AA (v:= .tuple #[(Pe ai),.bool (JD ai)]) rfl (fun ρ h=>Tt (t2:=259) underlying257 (DY type257) (by decide) aL (h _ _ rfl)) ?_);obtain⟨bm,bn,aM⟩:=bs bl;refine zg 3 rfl (Bs (fun L s=>∃(aj:Nat) (am:LH),bm=Sum.inr aj∧Jm aJ H am [bX bk #[pV k1 W,sV K p0.2.1 O,iV p0.2.2.1,sV Z p0.2.2.2.1 aa,uV p0.2.2.2.2] 175] [(0,pV bk 0),(1,iV p1),(2,iV p2),(8,uV aj),(14,sV K p0.2.1 O),(15,iV (p0.2.1.length:Int)),(16,iV U.2)] L s) ?_ ?_)
     ·rintro _ _ ⟨aj,am,rfl,rfl,rfl,bo,bp⟩;have bq:=elim_inr aM;exact zg 2 rfl (Ay (aH _ _ ⟨aj,am,(Option.some.inj bq).symm,rfl,rfl,((ab.Ac aK).Ac bo),bp⟩) rfl)
     ·intro aN;refine BM bn (fun br bu=>?_) (fun br bv=>?_)
      ·exact JL.skip (Ay (aN _ _ ⟨U.1,aJ,(Option.some.inj bu).symm,rfl,rfl,Aq,al⟩) rfl)
      ·refine zg 2 rfl (AA (v:= .tuple #[(Pg ai),.bool (K7 ai)]) rfl (fun ρ h=>Tz (t1:=257) underlying259 (DY type259) (by decide) aL (h _ _ rfl)) ?_);refine zg 3 rfl (BM bv (fun bw bx=>?_) (fun bw bz=>?_))
       ·obtain⟨bA,bB,bC⟩:=bs bx;refine zg 3 rfl (BH (M8 bB) rfl rfl Lz al fun bD bE bF=>?_);exact zg 2 rfl (Ay (aN _ _ ⟨bA,bD,(Option.some.inj bC).symm,rfl,rfl,bE,bF⟩) rfl)
       ·refine zg 5 rfl ?_;obtain rfl:=oi bz;have bG:=elim_inl aM;obtain rfl:=oi bG;have bH:=elim_inl aF;obtain rfl:=oi bH;obtain rfl:=aD _ ag;have bI:=elim_inl az;obtain rfl:=oi bI;exact AF func174 rfl rfl (aw ((V.Ac ab).Ac aK) rfl ⟨rfl,rfl⟩ al)
  ·refine JL.exit rfl ?_;obtain rfl:=oi a1;have bJ:ay=(Sum.inr U.1):=(aD _ ag).symm;exact Ay (aX _ _ ⟨U.1,aB,bJ,rfl,rfl,V,aC⟩) rfl
end Pal
namespace Pal
open Go Go.Conc Go.Proofs
open Go.Proofs.Tryz
variable {J:Judge Tryz.prog}{E:LH}
def K0(fuel:Nat)(p0:List Int):Option ((List Int)):= (Dl ([]:List Int) p0).bind fun K=> some K
theorem WI{ad:Addr}{c2:Nat}{p0:List Int}(V:Ao rI E (some ad) c2 p0){fuel:Nat}{r:(List Int)}(K:K0 fuel p0=some r):AQ J 175 [.slice (some ad) p0.length c2] E [] (fun w E' B'=>∃(O:Ap) (U:Nat) (g0:Seg),w= sV O r U∧B'=g0∧OL 3 rI E' O U g0 r):=by
 refine Bc func175 fun Q am cs H W Z=>?_;unfold K0 at K;refine zg 8 rfl (AA (v:= .bool false) rfl (fun ρ h=>LQ (a:=(some ad)) underlying28 (h _ _ rfl) (h _ _ rfl)) ?_);refine zg 5 rfl (Oo (pp:=rI) rfl rfl rfl underlying28 AW W fun an g2 aa ab=>?_);obtain⟨ao,ae,ag⟩:=bs K;refine zg 1 rfl (Kt (pp:=rI) 1 ae rfl rfl rfl rfl rfl rfl rfl underlying28 underlying28 AW (CP type3) Cz rfl (by decide) (by decide) aa V ab rfl fun ah ai aj ak al=>?_);refine zg 2 rfl ?_;obtain rfl:=oi ag;exact AF func175 rfl rfl (Z Aq rfl ⟨ah,ai,aj,rfl,(by first | rfl | simp | (simp [Value.cells])),ak⟩ al)
def SC(fuel:Nat)(p0:List Int):Option ((List Int)):= some ([])
theorem WS{c2:Nat}{p0:List Int}(Z:Ao rI E none c2 p0){fuel:Nat}{r:(List Int)}(K:SC fuel p0=some r):AQ J 175 [sV none p0 c2] E [] (fun w E' B'=>∃(O:Ap) (U:Nat) (g0:Seg),w= sV O r U∧B'=g0∧OL 3 rI E' O U g0 r):=by
 refine Bc func175 fun Q aa cs H V W=>?_;unfold SC at K;refine zg 8 rfl (AA (v:= .bool true) rfl (fun ρ h=>LQ (a:=none) underlying28 (h _ _ rfl) (h _ _ rfl)) ?_);refine zg 6 rfl ?_;obtain rfl:=oi K;exact AF func175 rfl rfl (W Aq rfl ⟨none,0,[],rfl,rfl,OL.nil⟩ V)
def f175(fuel:Nat)(p0:List Int):Option (List Int):=K0 fuel p0
theorem R0{O:Ap}{c2:Nat}{p0:List Int}(U:Ao rI E O c2 p0){fuel:Nat}{r:List Int}(K:f175 fuel p0=some r):AQ J 175 [.slice O p0.length c2] E [] (fun w E' B'=>∃(V:Ap) (W:Nat) (g0:Seg),w= .slice V r.length W∧B'=g0∧OL 3 rI E' V W g0 r):=by
 cases O with
 | some ad=>exact WI U K
 | none=>
  have Z:p0= []:=by
   rcases U.2 with h | ⟨_,_,h,_⟩
   ·exact h.1
   ·cases h
  subst Z;have aa:r= []:=by
   have ab:K0 fuel []=some []:=rfl;unfold f175 at K;rw [ab] at K;exact(Option.some.inj K).symm
  subst aa;exact WS (fuel:=fuel) U rfl
end Pal
namespace Pal
open Go Go.Conc Go.Proofs
open Go.Proofs.Tryz
def Ii(fuel:Nat)(le:Int)(all:List (BZ))(tr:(BZ))(O:Int):Option (Int×List (BZ)):=
 Option.bind (
  if((all).length:Int)=0 then(
   some true
  ) else(
   some (decide (O<le))
  )
 ) fun U=>
 Option.bind (
  if U=true then(
   some (O,[])
  ) else(
   some (le,all)
  )
 ) fun K=>
 Option.bind (
  if O=K.1 then(
   (Dl K.2 ([tr]:List (BZ))).bind fun V=>
   some V
  ) else(
   some K.2
  )
 ) fun W=>
 some (K.1,W)
theorem Xo{J:Judge Tryz.prog}{E:LH}{bk:Nat}{age:Int}{le:Int}{a:Ap}{c:Nat}{g:Seg}{all:List (BZ)}(aE:OL 104 Dm E a c g all){W:Ap}{Z:Nat}{tr:(BZ)}(aF:Ao rI E W Z tr.2.1){aa:Int}{fuel:Nat}{r:Int×List (BZ)}(ar:Ii fuel le all tr aa=some r):
  AQ J 122 [pV bk 1,.agg #[iV tr.1,.slice W tr.2.1.length Z,uV tr.2.2],iV aa] E ([(bk,.cells #[iV age,iV le,.slice a all.length c] 133 (0,0))]++g) (fun w E' B'=>∃au av g',w= .tuple #[]∧B'= [(bk,.cells #[iV age,iV r.1,.slice au r.2.length av] 133 (0,0))]++g'∧OL 104 Dm E' au av g' r.2):=by
 refine Bc func122 fun Q bh cs H am aG=>?_;refine DC (S':= [[(bk,.cells #[iV age,iV le,.slice a all.length c] 133 (0,0))],g]) (by simp) am fun am=>?_;unfold Ii at ar;refine zg 2 rfl (Cs am fun aw an ao aH ab=>?_);refine zg 6 rfl (BF underlying97 Dy rfl rfl rfl ?_);refine AA (v:= sV a all c) rfl (fun ρ h=>Yl.load EE (h _ _ rfl) (D5 (j:=0) (off:=2) ab rfl rfl)) (Bp underlying95 rfl rfl rfl ?_);obtain⟨aI,aJ,aK⟩:=bs ar;refine zg 2 rfl (Gb [] (fun L s=>∃(U:LH),Jm an H U [bX bk #[iV age,iV le,sV a all c] 133,g] [(0,pV bk 1),(2,iV aa),(4,pV aw 0),(19,.bool aI)] L s) ?_ ?_)
 ·rintro _ _ ⟨U,rfl,rfl,ae,ay⟩;obtain⟨V,aL,aM⟩:=bs aK;refine JL.done (Bs (fun L s=>∃(K:LH) (ag:Ap) (ah:Nat) (ai:Seg),Jn U H K [bX bk #[iV age,iV V.1,sV ag V.2 ah] 133,ai] [(0,pV bk 1),(2,iV aa),(4,pV aw 0)] L s (OL 104 Dm K ag ah ai V.2)) ?_ ?_)
  ·rintro _ _ ⟨K,ag,ah,ai,rfl,rfl,ap,O,az⟩;refine zg 5 rfl (BF underlying97 AW rfl rfl rfl ?_);refine AA (v:=iV V.1) rfl (fun ρ h=>Yl.load Bx (h _ _ rfl) (D5 (j:=0) (off:=1) O rfl rfl)) ?_;obtain⟨aA,aN,aO⟩:=bs aM;refine zg 2 rfl (Bs (fun L s=>∃(aq:LH) (aj:Ap) (ak:Nat) (al:Seg),Jn K H aq [bX bk #[iV age,iV V.1,sV aj aA ak] 133,al] [] L s (OL 104 Dm aq aj ak al aA)) ?_ ?_)
   ·rintro _ _ ⟨aq,aj,ak,al,rfl,rfl,aP,aQ,aR⟩;obtain rfl:=oi aO;exact JL.fin (v:= .tuple #[]) rfl rfl (B9.list func122 rfl (vs:= []) trivial) (aG (((ao.Ac ae).Ac ap).Ac aP) rfl ⟨aj,ak,al,rfl,by simp,aR⟩ aQ)
   ·intro aB;refine AK aN (fun aS aT=>?_) (fun aS aU=>?_)
    ·refine Dv 8 [bk] ⟨⟨0,_,rfl⟩,trivial⟩ O fun ht=>Bi ht rfl [0,1,2] rfl (B6 3 ht underlying97 Dy rfl rfl rfl rfl ?_);refine EX 4 ht 2 0 O EE ?_;refine BC 5 ht rfl rfl (fun ρ h s' hs=>FX (vs:= [iV tr.1,sV W tr.2.1 Z,uV tr.2.2]) FO Ci (h _ _ rfl) (At.OS (aH.Ai (ae.Ac ap)) (OV O hs ⟨⟨0,_,rfl⟩,trivial⟩))) ?_;obtain⟨bi,aV,aW⟩:=bs aT;refine JG.one (i:=6) rfl (by decide+kernel) (Take.lit (pp:=Dm) (jp:=0) [.agg #[iV tr.1,sV W tr.2.1 Z,uV tr.2.2]] ([tr]:List BZ) O rfl rfl rfl rfl underlying95 Ci GM (by decide) rfl rfl rfl ⟨⟨_,_,rfl,rfl,⟨_,_,rfl,⟨_,_,rfl,(aF.Ai ((ao.Ac ae).Ac ap))⟩,rfl⟩⟩,trivial⟩ fun bj bl aX aY=>?_);refine JG.one (i:=7) rfl (by decide+kernel) (Take.app (pp:=Dm) (jp:=0) 1 2 aY rfl aV rfl rfl rfl rfl rfl rfl rfl underlying95 underlying95 Ci (CP type104) GM rfl (by decide) (by decide) az aX rfl rfl rfl rfl fun aZ a0 bm a1 a2 a3=>?_);refine Co [8,9,10] (Fg 1 rfl a3 fun a4=>?_);refine JS.drop 1 a4 rfl fun a5=>zg 1 rfl (BF underlying97 Dy rfl rfl rfl ?_);refine BQ 0 a5 Dy fun a6=>?_;refine JL.done (JS.drop 2 a6 rfl fun a7=>?_);obtain rfl:=oi aW;exact Ay (aB _ _ ⟨K,aZ,a0,a1,rfl,rfl,Aq,a7,a2⟩) rfl
    ·refine JL.skip ?_;obtain rfl:=oi aU;exact Ay (aB _ _ ⟨K,ag,ah,ai,rfl,rfl,Aq,O,az⟩) rfl
  ·intro aC;refine BM aL (fun a8 a9=>?_) (fun a8 ba=>?_)
   ·refine zg 5 rfl (BF underlying97 AW rfl rfl rfl ?_);refine BQ 0 ay AW fun bb=>?_;refine zg 1 rfl (BF underlying97 Dy rfl rfl rfl ?_);refine BQ 0 bb Dy fun bc=>?_;refine JL.done (JS.drop 1 bc rfl fun bd=>?_);obtain rfl:=oi a9;exact Ay (aC _ _ ⟨U,none,0,[],rfl,rfl,Aq,bd,OL.nil⟩) rfl
   ·refine JL.skip ?_;obtain rfl:=oi ba;exact Ay (aC _ _ ⟨U,a,c,g,rfl,rfl,Aq,ay,(aE.Ai (ao.Ac ae))⟩) rfl
 ·intro aD;refine Ew 12 aJ (fun be bf=>?_) (fun be bg=>?_)
  ·refine zg 7 rfl ?_;obtain rfl:=oi bf;exact Ay (aD _ _ ⟨an,rfl,rfl,Aq,ab⟩) rfl
  ·refine zg 3 rfl (BF underlying97 AW rfl rfl rfl ?_);refine AA (v:=iV le) rfl (fun ρ h=>Yl.load Bx (h _ _ rfl) (D5 (j:=0) (off:=1) ab rfl rfl)) (zg 2 rfl ?_);obtain rfl:=oi bg;exact Ay (aD _ _ ⟨an,rfl,rfl,Aq,ab⟩) rfl
theorem X9{J:Judge Tryz.prog}{E:LH}{bk:Nat}{age:Int}{le:Int}{a:Ap}{c:Nat}{g:Seg}{all:List (BZ)}(aE:OL 104 Dm E a c g all){W:Ap}{Z:Nat}{tr:(BZ)}(aF:Ao rI E W Z tr.2.1){aa:Int}{fuel:Nat}{r:Int×List (BZ)}(ar:Ii fuel le all tr aa=some r):
  AQ J 122 [pV bk 0,.agg #[iV tr.1,.slice W tr.2.1.length Z,uV tr.2.2],iV aa] E ([(bk,.cells #[iV le,.slice a all.length c] 97 (0,0))]++g) (fun w E' B'=>∃au av g',w= .tuple #[]∧B'= [(bk,.cells #[iV r.1,.slice au r.2.length av] 97 (0,0))]++g'∧OL 104 Dm E' au av g' r.2):=by
 refine Bc func122 fun Q bh cs H am aG=>?_;refine DC (S':= [[(bk,.cells #[iV le,.slice a all.length c] 97 (0,0))],g]) (by simp) am fun am=>?_;unfold Ii at ar;refine zg 2 rfl (Cs am fun aw an ao aH ab=>?_);refine zg 6 rfl (BF underlying97 Dy rfl rfl rfl ?_);refine AA (v:= sV a all c) rfl (fun ρ h=>Yl.load EE (h _ _ rfl) (D5 (j:=0) (off:=1) ab rfl rfl)) (Bp underlying95 rfl rfl rfl ?_);obtain⟨aI,aJ,aK⟩:=bs ar;refine zg 2 rfl (Gb [] (fun L s=>∃(U:LH),Jm an H U [bX bk #[iV le,sV a all c] 97,g] [(0,pV bk 0),(2,iV aa),(4,pV aw 0),(19,.bool aI)] L s) ?_ ?_)
 ·rintro _ _ ⟨U,rfl,rfl,ae,ay⟩;obtain⟨V,aL,aM⟩:=bs aK;refine JL.done (Bs (fun L s=>∃(K:LH) (ag:Ap) (ah:Nat) (ai:Seg),Jn U H K [bX bk #[iV V.1,sV ag V.2 ah] 97,ai] [(0,pV bk 0),(2,iV aa),(4,pV aw 0)] L s (OL 104 Dm K ag ah ai V.2)) ?_ ?_)
  ·rintro _ _ ⟨K,ag,ah,ai,rfl,rfl,ap,O,az⟩;refine zg 5 rfl (BF underlying97 AW rfl rfl rfl ?_);refine AA (v:=iV V.1) rfl (fun ρ h=>Yl.load Bx (h _ _ rfl) (D5 (j:=0) (off:=0) O rfl rfl)) ?_;obtain⟨aA,aN,aO⟩:=bs aM;refine zg 2 rfl (Bs (fun L s=>∃(aq:LH) (aj:Ap) (ak:Nat) (al:Seg),Jn K H aq [bX bk #[iV V.1,sV aj aA ak] 97,al] [] L s (OL 104 Dm aq aj ak al aA)) ?_ ?_)
   ·rintro _ _ ⟨aq,aj,ak,al,rfl,rfl,aP,aQ,aR⟩;obtain rfl:=oi aO;exact JL.fin (v:= .tuple #[]) rfl rfl (B9.list func122 rfl (vs:= []) trivial) (aG (((ao.Ac ae).Ac ap).Ac aP) rfl ⟨aj,ak,al,rfl,by simp,aR⟩ aQ)
   ·intro aB;refine AK aN (fun aS aT=>?_) (fun aS aU=>?_)
    ·refine Dv 8 [bk] ⟨⟨0,_,rfl⟩,trivial⟩ O fun ht=>Bi ht rfl [0,1,2] rfl (B6 3 ht underlying97 Dy rfl rfl rfl rfl ?_);refine EX 4 ht 1 0 O EE ?_;refine BC 5 ht rfl rfl (fun ρ h s' hs=>FX (vs:= [iV tr.1,sV W tr.2.1 Z,uV tr.2.2]) FO Ci (h _ _ rfl) (At.OS (aH.Ai (ae.Ac ap)) (OV O hs ⟨⟨0,_,rfl⟩,trivial⟩))) ?_;obtain⟨bi,aV,aW⟩:=bs aT;refine JG.one (i:=6) rfl (by decide+kernel) (Take.lit (pp:=Dm) (jp:=0) [.agg #[iV tr.1,sV W tr.2.1 Z,uV tr.2.2]] ([tr]:List BZ) O rfl rfl rfl rfl underlying95 Ci GM (by decide) rfl rfl rfl ⟨⟨_,_,rfl,rfl,⟨_,_,rfl,⟨_,_,rfl,(aF.Ai ((ao.Ac ae).Ac ap))⟩,rfl⟩⟩,trivial⟩ fun bj bl aX aY=>?_);refine JG.one (i:=7) rfl (by decide+kernel) (Take.app (pp:=Dm) (jp:=0) 1 2 aY rfl aV rfl rfl rfl rfl rfl rfl rfl underlying95 underlying95 Ci (CP type104) GM rfl (by decide) (by decide) az aX rfl rfl rfl rfl fun aZ a0 bm a1 a2 a3=>?_);refine Co [8,9,10] (Fg 1 rfl a3 fun a4=>?_);refine JS.drop 1 a4 rfl fun a5=>zg 1 rfl (BF underlying97 Dy rfl rfl rfl ?_);refine BQ 0 a5 Dy fun a6=>?_;refine JL.done (JS.drop 2 a6 rfl fun a7=>?_);obtain rfl:=oi aW;exact Ay (aB _ _ ⟨K,aZ,a0,a1,rfl,rfl,Aq,a7,a2⟩) rfl
    ·refine JL.skip ?_;obtain rfl:=oi aU;exact Ay (aB _ _ ⟨K,ag,ah,ai,rfl,rfl,Aq,O,az⟩) rfl
  ·intro aC;refine BM aL (fun a8 a9=>?_) (fun a8 ba=>?_)
   ·refine zg 5 rfl (BF underlying97 AW rfl rfl rfl ?_);refine BQ 0 ay AW fun bb=>?_;refine zg 1 rfl (BF underlying97 Dy rfl rfl rfl ?_);refine BQ 0 bb Dy fun bc=>?_;refine JL.done (JS.drop 1 bc rfl fun bd=>?_);obtain rfl:=oi a9;exact Ay (aC _ _ ⟨U,none,0,[],rfl,rfl,Aq,bd,OL.nil⟩) rfl
   ·refine JL.skip ?_;obtain rfl:=oi ba;exact Ay (aC _ _ ⟨U,a,c,g,rfl,rfl,Aq,ay,(aE.Ai (ao.Ac ae))⟩) rfl
 ·intro aD;refine Ew 12 aJ (fun be bf=>?_) (fun be bg=>?_)
  ·refine zg 7 rfl ?_;obtain rfl:=oi bf;exact Ay (aD _ _ ⟨an,rfl,rfl,Aq,ab⟩) rfl
  ·refine zg 3 rfl (BF underlying97 AW rfl rfl rfl ?_);refine AA (v:=iV le) rfl (fun ρ h=>Yl.load Bx (h _ _ rfl) (D5 (j:=0) (off:=0) ab rfl rfl)) (zg 2 rfl ?_);obtain rfl:=oi bg;exact Ay (aD _ _ ⟨an,rfl,rfl,Aq,ab⟩) rfl
end Pal
namespace Pal
open Go Go.Conc Go.Proofs
open Go.Proofs.Tryz
def K1(fuel:Nat)(O:BR)(U:A4)(age:Int)(ms:List Int)(fl:Nat)(m:Int):Option (Option (List Int×Nat)):=
 (KM fuel (O,U,age,ms,fl) ((ms).length:Int) m).bind fun K=>
 if(!K.2)=true then(
  some none
 ) else(
  (f175 fuel ms).bind fun V=>
  (Dl V ([m]:List Int)).bind fun W=>
  (IX (fl) (K.1)).bind fun Z=>
  some (some (W,Z))
 )
theorem XT{J:Judge Tryz.prog}{A:Type}{I:A→LH→Seg→Prop}(a7:∀x E E' X,Le E E'→I x E X→I x E' X){E:LH}{bk k1 O:Nat}{aM aN U ab:Ap}{aO aP V ae:Nat}{aQ:Lv_}{aj:BR}{K:A4}{age:Int}{ms:List Int}{fl:Nat}(a8:At E k1 O (([sV aM aj.1 aO,sV aN aj.2.1 aP]:Lv_)++aQ))(a9:Ao (rL rI) E aM aO aj.1)(ba:Ao (rL rI) E aN aP aj.2.1)(bb:(rA 13 (rN .u16)).r E aQ aj.2.2)(bc:Ao BJ E U V K)(aA:Ao rI E ab ae ms){aR:Value}{X:Seg}{acc acc':A}(bd:I acc E X){m:Int}{fuel:Nat}{r:Option (List Int×Nat)}(aS:K1 fuel aj K age ms fl m=some r)
  (be:r=none→acc'=acc)
  (aT:∀q,r=some q→∀E' a c,Le E E'→Ao rI E' a c q.1→EM J aR [] E' ([(bk,.cells #[pV k1 O,.slice U K.length V,iV age,.slice a q.1.length c,uV q.2] 175 (0,0))]++X) (fun w bf bg=>∃ao ap aq aa,w= .bool true∧bg= [(bk,.cells #[pV k1 O,.slice U K.length V,ao,ap,aq] 175 (0,0))]++aa∧I acc' bf aa)):
  AQ J 155 [pV bk 0,iV m,aR] E ([(bk,.cells #[pV k1 O,.slice U K.length V,iV age,.slice ab ms.length ae,uV fl] 175 (0,0))]++X) (fun w E' B'=>∃aa,w= .bool true∧B'= [(bk,.cells #[pV k1 O,.slice U K.length V,iV age,.slice ab ms.length ae,uV fl] 175 (0,0))]++aa∧I acc' E' aa):=by
 refine Bc func155 fun Q aU cs H aB aC=>?_;refine DC (S':= [[(bk,.cells #[pV k1 O,.slice U K.length V,iV age,.slice ab ms.length ae,uV fl] 175 (0,0))],X]) (by simp) aB fun aB=>?_;unfold K1 at aS;refine zg 2 rfl (Cs aB fun ak b5 W ah ar=>?_);refine zg 3 rfl (Dv 13 [bk] ⟨⟨0,_,rfl⟩,trivial⟩ ar fun ht=>?_);refine JG.lp 0 ht 0 ah ar ⟨⟨0,_,rfl⟩,trivial⟩ FC ?_;refine JG.lp 1 ht 0 ah ar ⟨⟨0,_,rfl⟩,trivial⟩ FC ?_;refine Cv 2 ht rfl rfl (B6 3 ht underlying175 Ci rfl rfl rfl rfl ?_);refine B6 4 ht underlying104 BV rfl rfl rfl rfl (EX 5 ht 3 0 ar C4 ?_);refine BC 6 ht rfl rfl (fun ρ h s' hs=>Yl.len rfl underlying28 (h _ _ rfl)) (Cv 7 ht rfl rfl ?_);obtain⟨bh,bi,bj⟩:=bs aS;refine Qo (i:=8) (vs:= [pV bk 0,iV (ms.length:Int),iV m]) 0 ⟨⟨0,_,rfl⟩,trivial⟩ (Wb (a8.Ai W) (a9.Ai W) (ba.Ai W) (Rp.Ai _ W bb) (bc.Ai W) (aA.Ai W) bi) (fun _ _ _ h=>h.2) (by decide+kernel) rfl rfl rfl (A2 func174 rfl) rfl ar rfl ?_;rintro _ b6 Z ⟨rfl,_⟩ aD;refine Bi ht rfl [9,10,11,12] rfl (Co [13] ?_);refine zg 6 rfl (AA (v:= .bool (!bh.2)) rfl (fun ρ h=>Yl.not (h _ _ rfl)) ?_);refine JL.done (BM bj (fun bl bm=>?_) (fun bl bn=>?_))
 ·refine zg 4 rfl ?_;obtain rfl:=oi bm;exact AF func155 rfl rfl (aC (W.Ac Z) rfl ⟨X,rfl,by simp,by rw [be rfl];exact a7 _ _ _ _ (W.Ac Z) bd⟩ aD)
 ·refine zg 3 rfl (BW 0 (ah.Ai Z) FC rfl rfl rfl ?_);refine zg 1 rfl (BF underlying175 Ci rfl rfl rfl ?_);refine AA rfl (fun ρ h=>FX (vs:= [iV age,sV ab ms ae,uV fl]) FO Ci (h _ _ rfl) (F9 (off:=2) 0 aD rfl rfl)) (CO aD GM fun al bo=>?_);refine BQ 3 bo Ci fun bp=>?_;refine Dp 3 bp rfl fun b7 ag aE bq=>CB (S':= [[(bk,.cells #[pV k1 O,sV U K V,iV age,sV ab ms ae,uV fl] 175 (0,0))],X,[],[]]) rfl bq fun aV=>zg 2 rfl (DG 7 fun ht=>?_);refine CI 0 ht 0 (ah.Ai (Z.Ac ag)) FC rfl rfl rfl rfl (B6 1 ht underlying104 BV rfl rfl rfl rfl ?_);refine CI 2 ht 1 aE C4 rfl rfl rfl rfl (Cv 4 ht rfl rfl ?_);obtain⟨b8,aW,br⟩:=bs bn;obtain⟨am,aX,aY⟩:=bs br;refine Kx (i:=3) (j:=5) rfl (by decide+kernel) ?_ ?_
  ·refine Take.Nk (vs:= [sV ab ms ae]) aV (R0 (aA.Ai ((W.Ac Z).Ac ag)) aW) rfl rfl rfl (A2 func175 rfl) rfl ?_;rintro _ b9 _ au ⟨ca,cb,cc,rfl,rfl,bu⟩ bv;refine JG.one (i:=5) rfl (by decide+kernel) (Take.JF (pp:=rI) [iV m] ([m]:List Int) bv rfl rfl rfl underlying28 AW Cz (by decide) rfl rfl rfl ⟨rfl,trivial⟩ fun cd aZ bw bx=>?_);refine JG.one (i:=6) rfl (by decide+kernel) (Take.app0 (pp:=rI) 4 5 bx aX rfl rfl rfl rfl rfl rfl rfl underlying28 underlying28 AW (CP type3) Cz rfl (by decide) (by decide) bu bw rfl rfl fun a0 a1 ce bz bA bB=>?_);refine Co [7,8,9,10] (Fg 4 rfl bB fun bC=>?_);refine JS.drop 4 bC rfl fun bD=>CB (S':= [[(bk,.cells #[pV k1 O,sV U K V,iV age,sV ab ms ae,uV fl] 175 (0,0))],X,[],[],[],aZ,bz]) rfl bD fun bE=>zg 1 rfl (BF underlying175 Ci rfl rfl rfl ?_);refine BF underlying104 BV rfl rfl rfl (BQ 0 bE BV fun a2=>?_);refine zg 3 rfl (BW 0 (ah.Ai ((Z.Ac ag).Ac au)) FC rfl rfl rfl ?_);refine zg 1 rfl (BF underlying175 Ci rfl rfl rfl ?_);refine BF underlying104 El rfl rfl rfl (AA (v:= uV fl) rfl (fun ρ h=>Yl.load GK (h _ _ rfl) (D5 (j:=0) (off:=4) a2 rfl rfl)) ?_);obtain⟨av,bF,bG⟩:=bs aY;refine zg 1 rfl (AA (v:= uV av) rfl (fun ρ h=>Kn (h _ _ rfl) (h _ _ rfl) bF) ?_);refine zg 1 rfl (BF underlying175 Ci rfl rfl rfl ?_);refine BF underlying104 El rfl rfl rfl (BQ 0 a2 El fun bH=>?_);refine zg 2 rfl (Ca 6 bA bH rfl fun cf aw bI bJ=>?_);refine CB (S':= [[(bk,.cells #[pV k1 O,sV U K V,iV age,sV a0 am a1,uV av] 175 (0,0))],X,[],[],[],aZ,[]]) rfl bJ fun bK=>JS.drop 5 bK rfl fun bL=>?_;obtain rfl:=oi bG;refine JL.region (AA (v:= .func (.func 176) #[] [pV al 0,pV ak 0].toArray) rfl (fun ρ h=>Iy (by simp) (by simp [h (.tmp 9) _ rfl,h (.tmp 3) _ rfl])) ?_);refine P6 (vs:= []) (caps:= [pV al 0,pV ak 0]) rfl rfl rfl rfl rfl rfl (zg 4 rfl ?_);refine DC (S':= [[(bk,.cells #[pV k1 O,sV U K V,iV age,sV a0 am a1,uV av] 175 (0,0))]++X]) (by simp) bL fun aF=>I8 (vs:= []) 0 (aT (am,av) rfl _ _ _ ((((W.Ac Z).Ac ag).Ac au).Ac aw) bI) rfl rfl rfl rfl rfl aF rfl ?_;rintro _ bM _ ai ⟨ao,ap,aq,aa,rfl,rfl,aG⟩ aH;refine zg 2 rfl (GQ rfl ?_);refine JO.Sn (vs:= []) (caps:= [pV al 0,pV ak 0]) rfl func176 rfl rfl (Nat.le_of_ble_eq_true rfl) fun T aI todo=>DC (S':= [[(bk,.cells #[pV k1 O,.slice U K.length V,ao,ap,aq] 175 (0,0))],aa]) (by simp) aH fun aJ=>JL.region (BW 0 (ah.Ai ((((Z.Ac ag).Ac au).Ac aw).trans ai)) FC rfl rfl rfl ?_);refine Cm (aE.Ai ((au.Ac aw).trans ai)) FO Ci rfl rfl (zg 1 rfl ?_);refine BF underlying175 Ci rfl rfl rfl (BQ 0 aJ Ci fun aK=>?_);refine CB (S':= [[(bk,.cells #[pV k1 O,.slice U K.length V,iV age,.slice ab ms.length ae,uV fl] 175 (0,0))],aa]) rfl aK fun aL=>JL.done (JL.out rfl ?_);refine JO.leaveD rfl func176 rfl (.inl rfl) ?_;refine(?_:JO J Q (base 155) Tryz.f155.ntmps _ [] (aU::cs) _) T aI todo;exact JO.leave (v:= .bool true) rfl (B9.list func155 rfl (vs:= [.bool true]) ⟨rfl,trivial⟩) (aC (((((W.Ac Z).Ac ag).Ac au).Ac aw).trans ai) rfl ⟨aa,rfl,by simp,aG⟩ aL)
  ·refine Take.JF (pp:=rI) [iV m] ([m]:List Int) aV rfl rfl rfl underlying28 AW Cz (by decide) rfl rfl rfl ⟨rfl,trivial⟩ fun cg a3 bN bO=>JG.one (i:=3) rfl (by decide+kernel) (Take.Nk (vs:= [sV ab ms ae]) bO (R0 (aA.Ai ((W.Ac Z).Ac ag)) aW) rfl rfl rfl (A2 func175 rfl) rfl ?_);rintro _ ci _ an ⟨ck,cm,cn,rfl,rfl,bP⟩ bQ;refine JG.one (i:=6) rfl (by decide+kernel) (Take.app0 (pp:=rI) 5 4 bQ aX rfl rfl rfl rfl rfl rfl rfl underlying28 underlying28 AW (CP type3) Cz rfl (by decide) (by decide) bP (bN.Ai an) rfl rfl fun a4 a5 co bR bS bT=>?_);refine Co [7,8,9,10] (Fg 5 rfl bT fun bU=>?_);refine JS.drop 5 bU rfl fun bV=>CB (S':= [[(bk,.cells #[pV k1 O,sV U K V,iV age,sV ab ms ae,uV fl] 175 (0,0))],X,[],[],a3,[],bR]) rfl bV fun bW=>zg 1 rfl (BF underlying175 Ci rfl rfl rfl ?_);refine BF underlying104 BV rfl rfl rfl (BQ 0 bW BV fun a6=>?_);refine zg 3 rfl (BW 0 (ah.Ai ((Z.Ac ag).Ac an)) FC rfl rfl rfl ?_);refine zg 1 rfl (BF underlying175 Ci rfl rfl rfl ?_);refine BF underlying104 El rfl rfl rfl (AA (v:= uV fl) rfl (fun ρ h=>Yl.load GK (h _ _ rfl) (D5 (j:=0) (off:=4) a6 rfl rfl)) ?_);obtain⟨ay,bY,bZ⟩:=bs aY;refine zg 1 rfl (AA (v:= uV ay) rfl (fun ρ h=>Kn (h _ _ rfl) (h _ _ rfl) bY) ?_);refine zg 1 rfl (BF underlying175 Ci rfl rfl rfl ?_);refine BF underlying104 El rfl rfl rfl (BQ 0 a6 El fun b0=>?_);refine zg 2 rfl (Ca 6 bS b0 rfl fun cp az b1 b2=>?_);refine CB (S':= [[(bk,.cells #[pV k1 O,sV U K V,iV age,sV a4 am a5,uV ay] 175 (0,0))],X,[],[],a3,[],[]]) rfl b2 fun b3=>JS.drop 4 b3 rfl fun b4=>?_;obtain rfl:=oi bZ;refine JL.region (AA (v:= .func (.func 176) #[] [pV al 0,pV ak 0].toArray) rfl (fun ρ h=>Iy (by simp) (by simp [h (.tmp 9) _ rfl,h (.tmp 3) _ rfl])) ?_);refine P6 (vs:= []) (caps:= [pV al 0,pV ak 0]) rfl rfl rfl rfl rfl rfl (zg 4 rfl ?_);refine DC (S':= [[(bk,.cells #[pV k1 O,sV U K V,iV age,sV a4 am a5,uV ay] 175 (0,0))]++X]) (by simp) b4 fun aF=>I8 (vs:= []) 0 (aT (am,ay) rfl _ _ _ ((((W.Ac Z).Ac ag).Ac an).Ac az) b1) rfl rfl rfl rfl rfl aF rfl ?_;rintro _ bM _ ai ⟨ao,ap,aq,aa,rfl,rfl,aG⟩ aH;refine zg 2 rfl (GQ rfl ?_);refine JO.Sn (vs:= []) (caps:= [pV al 0,pV ak 0]) rfl func176 rfl rfl (Nat.le_of_ble_eq_true rfl) fun T aI todo=>DC (S':= [[(bk,.cells #[pV k1 O,.slice U K.length V,ao,ap,aq] 175 (0,0))],aa]) (by simp) aH fun aJ=>JL.region (BW 0 (ah.Ai ((((Z.Ac ag).Ac an).Ac az).trans ai)) FC rfl rfl rfl ?_);refine Cm (aE.Ai ((an.Ac az).trans ai)) FO Ci rfl rfl (zg 1 rfl ?_);refine BF underlying175 Ci rfl rfl rfl (BQ 0 aJ Ci fun aK=>?_);refine CB (S':= [[(bk,.cells #[pV k1 O,.slice U K.length V,iV age,.slice ab ms.length ae,uV fl] 175 (0,0))],aa]) rfl aK fun aL=>JL.done (JL.out rfl ?_);refine JO.leaveD rfl func176 rfl (.inl rfl) ?_;refine(?_:JO J Q (base 155) Tryz.f155.ntmps _ [] (aU::cs) _) T aI todo;exact JO.leave (v:= .bool true) rfl (B9.list func155 rfl (vs:= [.bool true]) ⟨rfl,trivial⟩) (aC (((((W.Ac Z).Ac ag).Ac an).Ac az).trans ai) rfl ⟨aa,rfl,by simp,aG⟩ aL)
end Pal
namespace Pal
open Go Go.Conc Go.Proofs
open Go.Proofs.Tryz
def La(fuel:Nat)(K:BR)(V:A4)(age:Int)(ms:List Int)(fl:Nat)(n:Int):Option (Nat):=
 (ix K.1 (n)).bind fun O=>
 (f120 fuel O).bind fun U=>
 some U
theorem YW{J:Judge Tryz.prog}{E:LH}{bk k1 U:Nat}{ak al V W:Ap}{am an Z aa:Nat}{ao:Lv_}{ab:BR}{O:A4}{age:Int}{ms:List Int}{fl:Nat}(au:At E k1 U (([sV ak ab.1 am,sV al ab.2.1 an]:Lv_)++ao))(av:Ao (rL rI) E ak am ab.1)(aT:Ao (rL rI) E al an ab.2.1)(aU:(rA 13 (rN .u16)).r E ao ab.2.2)(aV:Ao BJ E V Z O)(aW:Ao rI E W aa ms){ae ag:Nat}(aw:At E ae ag [pV bk 0]){ai aj kf ah:Nat}(ay:At E kf ah [.func (.func 153) #[] [pV ae ag,pV ai aj,pV kf ah].toArray]){ap on:Nat}{n:Int}(az:At E ap on [iV n]){X:Seg}{fuel:Nat}{r:Nat}(aq:La fuel ab O age ms fl n=some r){R:Value→LH→Seg→Prop}
  (aA:∀E',Le E E'→AQ J 153 [uV r,pV ae ag,pV ai aj,pV kf ah] E' ([(bk,.cells #[pV k1 U,.slice V O.length Z,iV age,.slice W ms.length aa,uV fl] 175 (0,0))]++X) R):
  AQ J 156 [pV kf ah,pV ae ag,pV ap on] E ([(bk,.cells #[pV k1 U,.slice V O.length Z,iV age,.slice W ms.length aa,uV fl] 175 (0,0))]++X) R:=by
 refine OE func156 rfl rfl fun Q aX cs H K aB=>DC (S':= [[(bk,.cells #[pV k1 U,.slice V O.length Z,iV age,.slice W ms.length aa,uV fl] 175 (0,0))],X]) (by simp) K fun K=>?_;unfold La at aq;refine zg 5 rfl (Dv 13 [bk] ⟨⟨0,_,rfl⟩,trivial⟩ K fun ht=>?_);refine JG.lp 0 ht 0 ay K ⟨⟨0,_,rfl⟩,trivial⟩ (DZ underlying201) ?_;refine JG.lp 1 ht 0 aw K ⟨⟨0,_,rfl⟩,trivial⟩ FC ?_;refine Cv 2 ht rfl rfl (B6 3 ht underlying175 NI rfl rfl rfl rfl ?_);refine EX 4 ht 0 0 K Lu ?_;refine Cv 5 ht rfl rfl (B6 6 ht underlying141 Cc rfl rfl rfl rfl ?_);refine B6 7 ht underlying24 Cl rfl rfl rfl rfl (JG.lp 8 ht 0 au K ⟨⟨0,_,rfl⟩,trivial⟩ CW ?_);refine JG.lp 9 ht 0 az K ⟨⟨0,_,rfl⟩,trivial⟩ Bx ?_;obtain⟨aC,aD,aE⟩:=bs aq;refine Du 10 av aD ht underlying22 BV ?_;rintro aY aZ _ ⟨aF,c4,rfl,aG⟩ aH;refine JG.lp 11 ht 0 aH K ⟨⟨0,_,rfl⟩,trivial⟩ C4 ?_;obtain⟨aI,aJ,aK⟩:=bs aE;refine QW (i:=12) ⟨⟨0,_,rfl⟩,trivial⟩ (vs:= [sV aF aC c4]) (Js aG aJ) (by decide+kernel) rfl rfl rfl I0 rfl K ?_;rintro _ aL _ ar ⟨rfl,rfl⟩ aM;refine Co [13,14] ?_;obtain rfl:=oi aK;refine DC (S':= [[(bk,.cells #[pV k1 U,.slice V O.length Z,iV age,.slice W ms.length aa,uV fl] 175 (0,0))]++X]) (by simp) aM fun aN=>?_;have aO:EM J (.func (.func 153) #[] [pV ae ag,pV ai aj,pV kf ah].toArray) [uV aI] aL ([(bk,.cells #[pV k1 U,.slice V O.length Z,iV age,.slice W ms.length aa,uV fl] 175 (0,0))]++X) R:=EM.ofFn (caps:= [pV ae ag,pV ai aj,pV kf ah]) (A2 func153 rfl) (aA _ ar);refine I8 0 aO rfl rfl rfl rfl rfl aN rfl ?_;rintro w a0 aP aQ aR aS;refine zg 2 rfl (AF func156 rfl rfl ?_);exact aB _ _ _ aP (ar.Ac aQ) (by simp) aR aS
end Pal
namespace Pal
open Go Go.Conc Go.Proofs
open Go.Proofs.Tryz
def IW(fuel:Nat)(K:BR)(O:A4)(age:Int)(ms:List Int)(fl:Nat)(sm:Nat):Option (Option (List Int)):=
 (KX fuel (K,O,age,ms,fl)).bind fun U=>
 if U<((ms).length:Int) then(
  some none
 ) else(
  (f89 fuel sm).bind fun V=>
  some (some V)
 )
def Pa(rec:Nat→List Int→Nat→List (List Int×Nat)→Option (List (List Int×Nat)))(fuel:Nat)(K:BR)(O:A4)(age:Int)(ms:List Int)(fl:Nat)(ac:List (List Int×Nat))(n:Int):Option (List (List Int×Nat)):=
 (K1 fuel K O age ms fl n).bind fun r=>match r with
  | none=>some ac
  | some q=>(La fuel K O age q.1 q.2 n).bind fun s'=>rec s' q.1 q.2 ac
def JN(ok:List (List Int×Nat)→Bool)(rec:Nat→List Int→Nat→List (List Int×Nat)→Option (List (List Int×Nat)))(fuel:Nat)(K:BR)(O:A4)(age:Int)(ms:List Int)(fl:Nat)(ac:List (List Int×Nat)):Option (List Int)→Option (List (List Int×Nat))
 | none=>if ok (ac++ [(ms,fl)])=true then some (ac++ [(ms,fl)]) else none
 | some l=>if l.length≤1000 then Fh (Pa rec fuel K O age ms fl) l ac else none
def Ik(ok:List (List Int×Nat)→Bool)(fuel:Nat)(K:BR)(O:A4)(age:Int):Nat→Nat→List Int→Nat→List (List Int×Nat)→Option (List (List Int×Nat))
 | 0,_,_,_,_=>none
 | g+1,sm,ms,fl,ac=>(IW fuel K O age ms fl sm).bind fun r=>JN ok (Ik ok fuel K O age g) fuel K O age ms fl ac r
theorem Yj{J:Judge Tryz.prog}{I:List (List Int×Nat)→LH→Seg→Prop}(aq:∀x E E' X,Le E E'→I x E X→I x E' X){E:LH}{bk k1 Z:Nat}{aP aQ aa V:Ap}{aR aS ab W:Nat}{aT:Lv_}{ai:BR}{O:A4}{age:Int}{ms:List Int}{fl:Nat}(aE:At E k1 Z (([sV aP ai.1 aR,sV aQ ai.2.1 aS]:Lv_)++aT))(aF:Ao (rL rI) E aP aR ai.1)(aG:Ao (rL rI) E aQ aS ai.2.1)(aH:(rA 13 (rN .u16)).r E aT ai.2.2)(aI:Ao BJ E aa ab O)(aJ:Ao rI E V W ms){am an:Nat}(av:At E am an [pV bk 0]){ay az kf ao:Nat}(a6:At E kf ao [.func (.func 153) #[] [pV am an,pV ay az,pV kf ao].toArray]){aU:Value}(a7:At E ay az [aU]){X:Seg}{acc acc':List (List Int×Nat)}{ok:List (List Int×Nat)→Bool}(aV:I acc E X){rec:Nat→List Int→Nat→List (List Int×Nat)→Option (List (List Int×Nat))}(a8:∀s' aj ar ac aA,rec s' aj ar ac=some aA→∀E' K a c,Le E E'→Ao rI E' a c aj→I ac E' K→AQ J 153 [uV s',pV am an,pV ay az,pV kf ao] E' ([(bk,.cells #[pV k1 Z,.slice aa O.length ab,iV age,(.slice a aj.length c),(uV ar)] 175 (0,0))]++K) (fun w E' B'=>∃aK aL aM K,w= .bool true∧B'= [(bk,.cells #[pV k1 Z,.slice aa O.length ab,aK,aL,aM] 175 (0,0))]++K∧I aA E' K))(a9:∀(E':LH) (K:Seg) (ac:List (List Int×Nat)) (aj:List Int) (ar:Nat) (a:Ap) (c:Nat),Le E E'→Ao rI E' a c aj→I ac E' K→ok (ac++ [(aj,ar)])=true→EM J aU [.agg #[iV age,.slice a aj.length c,uV ar]] E' K (fun w aW ba=>w= .bool true∧I (ac++ [(aj,ar)]) aW ba)){sm:Nat}{fuel:Nat}{r:Option (List Int)}(aX:IW fuel ai O age ms fl sm=some r)(ae:JN ok rec fuel ai O age ms fl acc r=some acc'):
  AQ J 153 [uV sm,pV am an,pV ay az,pV kf ao] E ([(bk,.cells #[pV k1 Z,.slice aa O.length ab,iV age,.slice V ms.length W,uV fl] 175 (0,0))]++X) (fun w E' B'=>∃aK aL aM K,w= .bool true∧B'= [(bk,.cells #[pV k1 Z,.slice aa O.length ab,aK,aL,aM] 175 (0,0))]++K∧I acc' E' K):=by
 refine Bc func153 fun Q bN cs H ap aY=>?_;refine DC (S':= [[(bk,.cells #[pV k1 Z,.slice aa O.length ab,iV age,.slice V ms.length W,uV fl] 175 (0,0))],X]) (by simp) ap fun ap=>?_;unfold IW at aX;refine zg 6 rfl (Dv 8 [bk] ⟨⟨0,_,rfl⟩,trivial⟩ ap fun ht=>?_);refine JG.lp 0 ht 0 av ap ⟨⟨0,_,rfl⟩,trivial⟩ FC ?_;refine Cv 1 ht rfl rfl (B6 2 ht underlying175 Ci rfl rfl rfl rfl ?_);refine B6 3 ht underlying104 BV rfl rfl rfl rfl (EX 4 ht 3 0 ap C4 ?_);refine BC 5 ht rfl rfl (fun ρ h s' hs=>Yl.len rfl underlying28 (h _ _ rfl)) (JG.lp 6 ht 0 av ap ⟨⟨0,_,rfl⟩,trivial⟩ FC ?_);obtain⟨bO,bb,bc⟩:=bs aX;refine Qo (i:=7) (vs:= [pV bk 0]) 0 ⟨⟨0,_,rfl⟩,trivial⟩ (VH aE aF aG aH aI aJ bb) (fun _ _ _ h=>h.2) (by decide+kernel) rfl rfl rfl (A2 func154 rfl) rfl ap rfl ?_;rintro _ aZ U ⟨rfl,_⟩ ak;refine Co [8] (zg 2 rfl ?_);refine AK bc (fun bd be=>?_) (fun bd bf=>?_)
 ·refine JL.seq (Dv 5 [bk] ⟨⟨0,_,rfl⟩,trivial⟩ ak fun ht=>?_);refine JG.lp 0 ht 0 (a7.Ai U) ak ⟨⟨0,_,rfl⟩,trivial⟩ (DZ underlying200) ?_;refine JG.lp 1 ht 0 (av.Ai U) ak ⟨⟨0,_,rfl⟩,trivial⟩ FC ?_;refine Cv 2 ht rfl rfl (B6 3 ht underlying175 Ci rfl rfl rfl rfl ?_);refine BC 4 ht rfl rfl (fun ρ h s' hs=>FX (vs:= [iV age,sV V ms W,uV fl]) FO Ci (h _ _ rfl) (Us (o:=2) 0 ak rfl (by simp [A5]) hs rfl)) (Co [5,6] ?_);obtain rfl:=oi be;have a0:ok (acc++ [(ms,fl)])=true∧acc++ [(ms,fl)]=acc':=by
   simp only [JN] at ae;split at ae
   ·exact⟨by assumption,Option.some.inj ae⟩
   ·cases ae
  obtain⟨bg,a0⟩:=a0;subst acc';refine I8 (vs:= [.agg #[iV age,.slice V ms.length W,uV fl]]) 1 (a9 _ _ _ _ _ _ _ U (aJ.Ai U) (aq _ _ _ _ U aV) bg) rfl rfl rfl rfl rfl ak rfl ?_;rintro _ bP bh bi ⟨rfl,bj⟩ bl;refine zg 2 rfl (AF func153 rfl rfl ?_);exact aY (U.Ac bi) rfl ⟨iV age,.slice V ms.length W,uV fl,bh,rfl,by simp,bj⟩ bl
 ·obtain⟨ah,bm,bn⟩:=bs bf;refine zg 5 rfl (BO (IL bm) rfl rfl It ak ?_);rintro _ bo _ aN ⟨a1,a2,rfl,rfl,bp⟩ bq;refine Bp underlying28 rfl rfl rfl (zg 2 rfl ?_);obtain rfl:=oi bn;have br:ah.length≤1000∧Fh (Pa rec fuel ai O age ms fl) ah acc=some acc':=by
   simp only [JN] at ae;split at ae
   ·exact⟨by assumption,ae⟩
   ·cases ae
  obtain⟨hlen,ae⟩:=br;refine JL.block (Ie [(1,pV am an),(3,pV kf ao),(24,sV a1 ah a2),(25,iV (ah.length:Int)),(26,iV 0)] rfl ?_);refine DC (S':= [[(bk,.cells #[pV k1 Z,.slice aa O.length ab,iV age,.slice V ms.length W,uV fl] 175 (0,0))],X]) (by simp) bq fun bu=>Tj (l:=ah) ae (fun L s i ac=>∃aB au,Jn bo H aB [[(bk,.cells #[pV k1 Z,.slice aa O.length ab,iV age,.slice V ms.length W,uV fl] 175 (0,0))],au] [(1,pV am an),(3,pV kf ao),(24,sV a1 ah a2),(25,iV (ah.length:Int)),(26,iV ((i:Nat):Int))] L s (I ac aB au)) ⟨_,X,rfl,rfl,Le.refl _,bu,aq _ _ _ _ (U.Ac aN) aV⟩ ?_ ?_
  ·rintro _ _ i ac n aA ⟨aB,au,rfl,rfl,aw,aO,aC⟩ bv bQ bw bx;have bz:=(U.Ac aN).Ac aw;refine zg 5 rfl ?_;rw [decide_eq_true (show((i:Nat):Int)<(ah.length:Int) by omega)];refine zg 6 rfl ?_;have bA:ix ah ((i:Nat):Int)=some n:=by unfold ix;rw [if_pos (by omega)];exact bv
   refine Cb (bp.Ai aw) bA underlying28 AW ?_;rintro kk bR _ rfl bB;refine BW 0 bB Bx rfl rfl rfl (CO aO Cz fun bC bD=>?_);refine BQ 2 bD AW fun bE=>?_;refine Dp 2 bE rfl fun bS aD a3 bF=>?_;have al:=bz.trans aD;refine zg 3 rfl (BW 0 (av.Ai al) FC rfl rfl rfl ?_);refine BW 0 a3 Bx rfl rfl rfl (AA (v:= .func (.func 156) #[] [pV kf ao,pV am an,pV bC 0].toArray) rfl (fun ρ h=>Iy (by simp) (by simp [h (.tmp 3) _ rfl,h (.tmp 1) _ rfl,h (.tmp 7) _ rfl])) ?_);refine DC (S':= [[(bk,.cells #[pV k1 Z,.slice aa O.length ab,iV age,.slice V ms.length W,uV fl] 175 (0,0))]++au]) (by simp) bF fun ak=>?_;obtain⟨q,bG,a4⟩:=Option.bind_eq_some_iff.1 bw;refine BY 0 (XT aq (aE.Ai al) (aF.Ai al) (aG.Ai al) (Rp.Ai _ al aH) (aI.Ai al) (aJ.Ai al) (acc':=aA) (aq _ _ _ _ aD aC) bG (fun e=>by subst e;exact(Option.some.inj a4).symm) (fun p e E' a c hle a5=>?_)) rfl rfl (A2 func155 rfl) ak rfl ?_
   ·subst e;obtain⟨s',bH,bI⟩:=Option.bind_eq_some_iff.1 a4;have ag:=al.trans hle;exact EM.ofFn (A2 func156 rfl) (YW (aE.Ai ag) (aF.Ai ag) (aG.Ai ag) (Rp.Ai _ ag aH) (aI.Ai ag) a5 (av.Ai ag) (a6.Ai ag) (a3.Ai hle) bH fun aW U=>a8 _ _ _ _ _ bI _ _ _ _ (ag.Ac U) (a5.Ai U) (aq _ _ _ _ (hle.trans U) (aq _ _ _ _ aD aC)))
   rintro _ aZ _ ag ⟨K,rfl,rfl,bJ⟩ bK;refine AA (v:= .bool (!true)) rfl (fun ρ h=>Yl.not (h _ _ rfl)) (zg 5 rfl ?_);have bL:Au (((i:Nat):Int)+1)=some (((i+1:Nat)):Int):=by unfold Au;rw [if_pos (by omega)];simp
   refine Ba bL rfl rfl rfl (zg 2 rfl ?_);exact DC (S':= [[(bk,.cells #[pV k1 Z,.slice aa O.length ab,iV age,.slice V ms.length W,uV fl] 175 (0,0))],K]) (by simp) bK fun bM=>Ay (bx _ _ ⟨aZ,K,rfl,rfl,(aw.Ac aD).Ac ag,bM,bJ⟩) rfl
  ·rintro _ _ ⟨aB,au,rfl,rfl,aw,aO,aC⟩;refine zg 5 rfl ?_;rw [decide_eq_false (Int.lt_irrefl _)];refine zg 6 rfl (AF func153 rfl rfl ?_);exact aY ((U.Ac aN).Ac aw) rfl ⟨iV age,.slice V ms.length W,uV fl,au,rfl,by simp,aC⟩ aO
end Pal
namespace Pal
open Go Go.Conc Go.Proofs
open Go.Proofs.Tryz
theorem Wk{J:Judge Tryz.prog}{I:List (List Int×Nat)→LH→Seg→Prop}(aA:∀x E E' X,Le E E'→I x E X→I x E' X){E:LH}{bk k1 aa:Nat}{ar au ab:Ap}{av aw ae:Nat}{ay:Lv_}{O:BR}{W:A4}{age:Int}(aB:At E k1 aa (([sV ar O.1 av,sV au O.2.1 aw]:Lv_)++ay))(aC:Ao (rL rI) E ar av O.1)(aD:Ao (rL rI) E au aw O.2.1)(aE:(rA 13 (rN .u16)).r E ay O.2.2)(aF:Ao BJ E ab ae W){ag ah:Nat}(aG:At E ag ah [pV bk 0]){ai aj kf ak:Nat}(aH:At E kf ak [.func (.func 153) #[] [pV ag ah,pV ai aj,pV kf ak].toArray]){az:Value}(aI:At E ai aj [az]){fuel:Nat}{ok:List (List Int×Nat)→Bool}(aJ:∀(E':LH) (Z:Seg) (ac:List (List Int×Nat)) (K:List Int) (U:Nat) (a:Ap) (c:Nat),Le E E'→Ao rI E' a c K→I ac E' Z→ok (ac++ [(K,U)])=true→EM J az [.agg #[iV age,.slice a K.length c,uV U]] E' Z (fun w aK aL=>w= .bool true∧I (ac++ [(K,U)]) aK aL)):
  ∀(g sm:Nat) (ms:List Int) (fl:Nat) (ac V:List (List Int×Nat)),Ik ok fuel O W age g sm ms fl ac=some V→∀E' X a c,Le E E'→Ao rI E' a c ms→I ac E' X→AQ J 153 [uV sm,pV ag ah,pV ai aj,pV kf ak] E' ([(bk,.cells #[pV k1 aa,.slice ab W.length ae,iV age,(.slice a ms.length c),uV fl] 175 (0,0))]++X) (fun w E' B'=>∃aM aN aO Z,w= .bool true∧B'= [(bk,.cells #[pV k1 aa,.slice ab W.length ae,aM,aN,aO] 175 (0,0))]++Z∧I V E' Z):=by
 intro g
 induction g with
 | zero=>intro sm ms fl ac V h;cases h
 | succ g aP=>
  intro sm ms fl ac V h E' X a c hle aQ aR;obtain⟨r,aS,aT⟩:=Option.bind_eq_some_iff.1 h;exact Yj aA (aB.Ai hle) (aC.Ai hle) (aD.Ai hle) (Rp.Ai _ hle aE) (aF.Ai hle) aQ (aG.Ai hle) (aH.Ai hle) (aI.Ai hle) aR (rec:=Ik ok fuel O W age g) (fun s' K U ac V aU al am an c2 ao ap aq=>aP s' K U ac V aU al am an c2 (hle.trans ao) ap aq) (fun al am ac K U an c2 ao ap aq aV=>aJ al am ac K U an c2 (hle.trans ao) ap aq aV) aS aT
def JJ(fuel:Nat)(K:BR)(U:A4)(age:Int):Option Nat:=
 (ix K.2.2 (age)).bind fun O=>
 some O
theorem Qy{J:Judge Tryz.prog}{I:List (List Int×Nat)→LH→Seg→Prop}(az:∀x E E' X,Le E E'→I x E X→I x E' X){E:LH}{bk k1 W:Nat}{an ao aa:Ap}{ap aq ab:Nat}{aA:Lv_}{Z:BR}{U:A4}{age:Int}(aB:At E k1 W (([sV an Z.1 ap,sV ao Z.2.1 aq]:Lv_)++aA))(aJ:Ao (rL rI) E an ap Z.1)(aK:Ao (rL rI) E ao aq Z.2.1)(ar:(rA 13 (rN .u16)).r E aA Z.2.2)(aL:Ao BJ E aa ab U){aj ak:Nat}(au:At E aj ak [pV bk 0]){aC aD:Nat}(aE:At E aC aD [iV age]){ag ah ai:Value}{aF:Go.Fn}{X:Seg}{acc acc':List (List Int×Nat)}(aM:I acc E X){ok:List (List Int×Nat)→Bool}{fuel:Nat}(aN:∀(E':LH) (V:Seg) (ac:List (List Int×Nat)) (al:List Int) (av:Nat) (a:Ap) (c:Nat),Le E E'→Ao rI E' a c al→I ac E' V→ok (ac++ [(al,av)])=true→EM J (.func aF #[] #[]) [.agg #[iV age,.slice a al.length c,uV av]] E' V (fun w aO aP=>w= .bool true∧I (ac++ [(al,av)]) aO aP)){r:Nat}(aG:JJ fuel Z U age=some r)(aQ:Ik ok fuel Z U age fuel r [] 0 acc=some acc'):
  AQ J 152 [.func aF #[] #[],pV aC aD,pV aj ak] E ([(bk,.cells #[pV k1 W,.slice aa U.length ab,ag,ah,ai] 175 (0,0))]++X) (fun w E' B'=>∃ag ah ai V,w= .tuple #[]∧B'= [(bk,.cells #[pV k1 W,.slice aa U.length ab,ag,ah,ai] 175 (0,0))]++V∧I acc' E' V):=by
 refine Bc func152 fun Q bj cs H aw aR=>?_;refine DC (S':= [[(bk,.cells #[pV k1 W,.slice aa U.length ab,ag,ah,ai] 175 (0,0))],X]) (by simp) aw fun aw=>?_;unfold JJ at aG;refine zg 2 rfl (Cs aw fun ay bl K aS aT=>?_);refine zg 3 rfl (BW 0 (au.Ai K) FC rfl rfl rfl ?_);refine BW 0 (aE.Ai K) Bx rfl rfl rfl (AA (v:= .agg #[iV age,nS,uV 0]) rfl (fun ρ h=>Dc [(0,1),(1,1),(2,1)] h GM underlying104 ⟨rfl,Bq type3,rfl,Bq type28,rfl,Bq type102,trivial⟩ rfl rfl) ?_);refine zg 1 rfl (BF underlying175 Ci rfl rfl rfl ?_);refine BQ 0 aT Ci fun aU=>?_;refine zg 3 rfl (CO aU (DY type201) fun am aV=>?_);refine CB (S':= [[(bk,.cells #[pV k1 W,sV aa U ab,iV age,nS,uV 0] 175 (0,0))],X,[],[(am,.cells #[.nilFunc] 201 (0,0))]]) rfl aV fun aW=>zg 3 rfl (AA (v:= .func (.func 153) #[] ([pV aj ak,pV ay 0,pV am 0]:Lv_).toArray) rfl (fun ρ h=>Iy (by simp) (by simp [h (.tmp 2) _ rfl,h (.tmp 3) _ rfl,h (.tmp 4) _ rfl])) ?_);refine BQ 3 aW (Bq type201) fun aX=>?_;refine Dp 3 aX rfl fun aY O aH ae=>JL.done (Dv 11 [bk] ⟨⟨0,_,rfl⟩,trivial⟩ ae fun ht=>?_);refine JG.lp 0 ht 0 aH ae ⟨⟨0,_,rfl⟩,trivial⟩ (DZ underlying201) ?_;refine JG.lp 1 ht 0 (au.Ai (K.Ac O)) ae ⟨⟨0,_,rfl⟩,trivial⟩ FC ?_;refine Cv 2 ht rfl rfl (B6 3 ht underlying175 NI rfl rfl rfl rfl ?_);refine EX 4 ht 0 0 ae Lu ?_;refine JG.lp 5 ht 0 (aE.Ai (K.Ac O)) ae ⟨⟨0,_,rfl⟩,trivial⟩ Bx ?_;refine Cv 6 ht rfl rfl (B6 7 ht underlying141 F7 rfl rfl rfl rfl ?_);obtain⟨aZ,aI,a0⟩:=bs aG;obtain⟨_,rfl,a1,_,_⟩:=SA (kk:=13) (pp:=(rN .u16)) (Rp.Ai _ (K.Ac O) ar) (At.tail (l:= [sV an Z.1 ap,sV ao Z.2.1 aq]) (aB.Ai (K.Ac O))) aI;refine BC (v:= .pointer (some ⟨k1,(W+2+Int.toNat (age)*1),none⟩)) 8 ht rfl rfl (fun ρ h s' hs=>I7 (kk:=13) (pp:=(rN .u16)) (Rp.Ai _ (K.Ac O) ar) aI underlying139 HX (h _ _ rfl) (h _ _ rfl)) (B6 9 ht underlying138 El rfl rfl rfl rfl ?_);refine JG.lp 10 ht 0 a1 ae ⟨⟨0,_,rfl⟩,trivial⟩ GK ?_;refine Co [11] ?_;obtain rfl:=oi a0;have a2:EM J (.func (.func 153) #[] [pV aj ak,pV ay 0,pV am 0].toArray) [uV aZ] aY ([(bk,.cells #[pV k1 W,.slice aa U.length ab,iV age,nS,uV 0] 175 (0,0))]++X) (fun w E' B'=>∃ag ah ai V,w= .bool true∧B'= [(bk,.cells #[pV k1 W,.slice aa U.length ab,ag,ah,ai] 175 (0,0))]++V∧I acc' E' V):=EM.ofFn (caps:= [pV aj ak,pV ay 0,pV am 0]) (A2 func153 rfl) (Wk az (aB.Ai (K.Ac O)) (aJ.Ai (K.Ac O)) (aK.Ai (K.Ac O)) (Rp.Ai _ (K.Ac O) ar) (aL.Ai (K.Ac O)) (au.Ai (K.Ac O)) aH (aS.Ai O) (fun a3 a4 ac a5 a6 a7 c2 a8 a9 ba bb=>aN a3 a4 ac a5 a6 a7 c2 (((K.Ac O)).Ac a8) a9 ba bb) _ _ _ _ _ _ aQ _ _ _ _ Aq Ao.nil (az _ _ _ _ (K.Ac O) aM));refine DC (S':= [[(bk,.cells #[pV k1 W,.slice aa U.length ab,iV age,nS,uV 0] 175 (0,0))]++X]) (by simp) ae fun bc=>I8 0 a2 rfl rfl rfl rfl rfl bc rfl ?_;rintro w bm _ bd ⟨be,bf,bg,V,rfl,rfl,bh⟩ bi;refine JL.done (JL.fin (v:= .tuple #[]) rfl rfl (B9.list func152 rfl (vs:= []) trivial) ?_);exact aR ((K.Ac O).trans bd) rfl ⟨be,bf,bg,V,rfl,by simp,bh⟩ bi
end Pal
namespace Pal
open Go Go.Conc Go.Proofs
open Go.Proofs.Tryz
noncomputable def H8:Code:=match Tryz.f127.body with | some (.seq _ (.seq _ (.seq (.seq _ (.block _ (.rangeFunc _ _ a _))) _)))=>a | _=> .skip
noncomputable def H7:Code:=match Tryz.f127.body with | some (.seq _ (.seq _ (.seq (.seq _ (.block _ (.rangeFunc _ _ _ b))) _)))=>b | _=> .skip
def add1(fuel:Nat)(age:Int)(q:Int×List (BZ))(x:List Int×Nat):Option (Int×List (BZ)):=
 (f130 fuel (age,x.1,x.2)).bind fun n=>Ii fuel q.1 q.2 (age,x.1,x.2) n
def Hh(fuel:Nat)(age:Int)(ac:List (List Int×Nat)):Option (Int×List (BZ)):=Fh (add1 fuel age) ac (0,[])
def IP(fuel:Nat)(age:Int)(l K O:Nat)(T:Ax)(ac:List (List Int×Nat))(E:LH)(X:Seg):Prop:=
 ∃q a c g,Hh fuel age ac=some q∧X=(l,.loop ⟨.ready,none,127,T,#[17],H8,H7,O⟩)::([(K,.cells #[iV age,iV q.1,.slice a q.2.length c] 133 (0,0))]++g)∧OL 104 Dm E a c g q.2
theorem IP.Ai{fuel:Nat}{age:Int}{l K O:Nat}{T:Ax}:∀(ac:List (List Int×Nat)) (E E':LH) (X:Seg),Le E E'→IP fuel age l K O T ac E X→IP fuel age l K O T ac E' X:=
 fun ac E E' X hle ⟨q,a,c,g,U,V,W⟩=>⟨q,a,c,g,U,V,W.Ai hle⟩
theorem PI{α B:Type}{step:B→α→Option B}:∀{l:List α} {x:α} {b:B},Fh step (l++ [x]) b=(Fh step l b).bind fun K=>step K x
 | [],x,b=>by simp [Fh]
 | y::l,x,b=>by
  simp only [List.cons_append,Fh]
  cases step b y with
  | none=>rfl
  | some K=>exact PI
theorem RA{J:Judge Tryz.prog}{fuel:Nat}{age:Int}{l K O:Nat}{T:Ax}(aj:Has Tryz.f127.ntmps [(6,pV K 0)] T){E:LH}{X:Seg}{ac:List (List Int×Nat)}{ms:List Int}{fl:Nat}{U:Ap}{V:Nat}(ae:Ao rI E U V ms)(ak:IP fuel age l K O T ac E X)(al:(Hh fuel age (ac++ [(ms,fl)])).isSome=true):
  EM J (.func (.yield l) #[] #[]) [.agg #[iV age,.slice U ms.length V,uV fl]] E X (fun w E' am=>w= .bool true∧IP fuel age l K O T (ac++ [(ms,fl)]) E' am):=by
 obtain⟨q,a,c,g,ag,rfl,an⟩:=ak;obtain⟨r,he⟩:=Option.isSome_iff_exists.1 al;have ah:add1 fuel age q (ms,fl)=some r:=by
  have Z:=he;unfold Hh at Z ag;rw [PI,ag] at Z;exact Z
 refine EM.yield (i:=0) (t:=17) rfl rfl fun Q ao cs H aa ap=>?_;refine(?_:JL J Q (Sz l 127) Tryz.f127.ntmps [(17,.agg #[iV age,.slice U ms.length V,uV fl]),(6,pV K 0)] [] [.code H8,.beginRound,.code H7] (ao::cs) _) _ (aj.put (d:=some 17) rfl _);refine DC (S':= [[(l,.loop ⟨.ready,none,127,T,#[17],H8,H7,O⟩)],[(K,.cells #[iV age,iV q.1,.slice a q.2.length c] 133 (0,0))],g]) (by simp) aa fun aa=>?_;unfold add1 at ah;refine JL.region (CO aa GM fun aH aq=>?_);refine BQ 3 aq Ci fun ar=>?_;refine Dp 3 ar rfl fun aI W ai au=>JL.done (JL.beginRound 0 rfl rfl au rfl rfl fun av=>?_);refine JL.block (DG 4 fun ht=>?_);refine B6 0 ht underlying133 Dh rfl rfl rfl rfl (HF 1 ht ai FO Ci rfl rfl rfl ?_);refine HF 2 ht ai FO Ci rfl rfl rfl ?_;obtain⟨aJ,aw,ay⟩:=bs ah;refine JG.call (i:=3) (vs:= [.agg #[iV age,sV U ms V,uV fl]]) (XN (p0:=(age,ms,fl)) (ae.Ai W) aw) (by decide+kernel) rfl rfl rfl (A2 func130 rfl) rfl av ?_;rintro _ aK _ ab ⟨rfl,rfl⟩ az;refine Co [4] (DC (S':= [[(l,.loop ⟨.busy,none,127,T,#[17],H8,H7,O⟩)],[(K,.cells #[iV age,iV q.1,.slice a q.2.length c] 133 (0,0))]++g]) (by simp) az fun aA=>?_);refine BY 1 (Xo ((an.Ai (W.Ac ab))) (tr:=(age,ms,fl)) (ae.Ai (W.Ac ab)) ay) rfl rfl (A2 func122 rfl) aA rfl ?_;rintro _ aL _ aB ⟨aC,aD,g',rfl,rfl,aE⟩ aF;refine zg 2 rfl (JL.endRound 0 rfl rfl aF rfl fun aG=>?_);exact ap _ _ _ _ ((W.Ac ab).trans aB) rfl ⟨rfl,r,aC,aD,g',he,by simp,aE⟩ aG
end Pal
namespace Pal
open Go Go.Conc Go.Proofs
open Go.Proofs.Tryz
open Go.Conc.Lib Go.ConcR.Gen
theorem Qk{J:Judge Tryz.prog}{E:LH}{bk:Nat}{age:Int}:AQ J 129 [pV bk 0,iV age] E [] (fun w E' B'=>∃K O,w= .func (.func 152) #[] [pV K 0,pV O 0].toArray∧B'= []∧At E' K 0 [iV age]∧At E' O 0 [pV bk 0]):=by
 refine Bc func129 fun Q aj cs H Z aa=>?_;refine zg 2 rfl (Cs Z fun U ak ab ae ag=>?_);refine Cs ag fun V al W ah ai=>?_;refine zg 4 rfl (AA (v:= .func (.func 152) #[] ([pV V 0,pV U 0]:Lv_).toArray) rfl (fun ρ h=>Iy (by simp) (by simp [h (.tmp 3) _ rfl,h (.tmp 2) _ rfl])) ?_);refine zg 2 rfl (AF func129 rfl rfl ?_);exact aa (ab.Ac W) rfl ⟨V,U,rfl,by simp,ah,(ae.Ai W)⟩ ai
def GA(fuel:Nat)(K:BR)(O:A4)(age:Int):Option (Int×List (BZ)):=
 (JJ fuel K O age).bind fun s=>(Ik (fun ac=>(Hh fuel age ac).isSome) fuel K O age fuel s [] 0 []).bind fun tr=>Hh fuel age tr
theorem UU{L:WgLink}(aA:WgLib Tryz.prog L)(a6:L.done=128){F:Fam}{j:Nat}{E:LH}{k1 U:Nat}{a7 a8 V:Ap}{a9 ba W:Nat}{bb:Lv_}{aj:BR}{O:A4}{age:Int}(bc:At E k1 U (([sV a7 aj.1 a9,sV a8 aj.2.1 ba]:Lv_)++bb))(bd:Ao (rL rI) E a7 a9 aj.1)(be:Ao (rL rI) E a8 ba aj.2.1)(bf:(rA 13 (rN .u16)).r E bb aj.2.2)(bg:Ao BJ E V W O){aB aC aD ol ka ak kc ae:Nat}(bl:At E aB aC [pV k1 U])(bm:At E aD ol [.slice V O.length W])(aG:At E ka ak [iV age])(bh:At E kc ae [.chan (some F.ch)])
  {fuel:Nat} {q:Int×List (BZ)} (aE:GA fuel aj O age=some q) (aF:F.has j=decide (0<q.2.length)) (bi:∀E' a c,Le E E'→Ao Dm E' a c q.2→F.msg j (.agg #[iV age,iV q.1,.slice a q.2.length c]) E'):
  Way Tryz.prog false (Stop Tryz.prog F (F.start j)) (born Tryz.prog ⟨.fn (.func 127) [.pointer (some F.sA),pV aB aC,pV aD ol,pV ka ak,pV kc ae].toArray,#[]⟩) ⟨E,fun _=>none,false⟩:=by
 refine Q0 (fn:=Tryz.f127) (vs:= [.pointer (some F.sA),pV aB aC,pV aD ol,pV ka ak,pV kc ae]) func127 rfl rfl (by simp) (Nat.le_of_ble_eq_true rfl) ?_;obtain⟨H,bn⟩:∃H:LH,H=fun _=>none:=⟨_,rfl⟩;rw [← bn];have bj:Ar E H []:=trivial;refine(?_:JL (Bv Tryz.prog false) (Stop Tryz.prog F (F.start j)) (baseD 127) Tryz.f127.ntmps (FH 0 [.pointer (some F.sA),pV aB aC,pV aD ol,pV ka ak,pV kc ae]) [] [.code _] [HM Tryz.prog] (Ak E H []));refine zg 2 rfl (JL.defer (vs:= [.pointer (some F.sA)]) rfl rfl rfl rfl rfl ?_);refine zg 2 rfl (DG 8 fun ht=>?_);refine CI 0 ht 0 bl Lu rfl rfl rfl rfl (CI 1 ht 0 bm JZ rfl rfl rfl rfl ?_);refine BC (v:= .agg #[pV k1 U,sV V O W,iV 0,nS,uV 0]) 2 ht rfl rfl (fun ρ h s' hs=>Dc [(0,1),(1,1),(2,3)] h (DY type175) underlying175 ⟨rfl,Bq type94,rfl,Bq type25,rfl,Bq type104,trivial⟩ rfl rfl) (CI 4 ht 0 aG Bx rfl rfl rfl rfl ?_);refine BC (v:= .agg #[iV age,iV 0,nS]) 5 ht rfl rfl (fun ρ h s' hs=>Dc [(0,1),(1,2)] h HV underlying133 ⟨rfl,Bq type3,rfl,Bq type97,trivial⟩ rfl rfl) (Kx (i:=3) (j:=6) rfl (by decide+kernel) ?_ ?_)
 ·refine Take.SH (v:= .agg #[pV k1 U,sV V O W,iV 0,nS,uV 0]) bj rfl rfl rfl rfl fun al an=>JG.one (i:=6) rfl (by decide+kernel) (Take.Sj an rfl rfl rfl HV fun ag ao=>?_);refine Cv 7 ht rfl rfl (Co [8] ?_);refine CB (S':= [[(al,.cells #[pV k1 U,sV V O W,iV 0,nS,uV 0] 175 (0,0))],[(ag,.cells #[iV 0,iV 0,nS] 133 (0,0))]]) rfl ao fun ap=>BQ 1 ap AP fun ab=>?_;refine zg 3 rfl (CB (S':= [[(al,.cells #[pV k1 U,.slice V O.length W,iV 0,nS,uV 0] 175 (0,0))],[(ag,.cells #[iV age,iV 0,nS] 133 (0,0))]]) rfl ab fun aH=>?_);refine Ie [(3,pV ka ak),(4,pV kc ae),(5,pV al 0),(6,pV ag 0)] rfl ?_;have aq:Le E E:=Aq;refine zg 2 rfl (BW 0 (aG.Ai aq) Bx rfl rfl rfl ?_);refine BO Qk rfl rfl (A2 func129 rfl) aH ?_;rintro _ bo _ aI ⟨ar,au,rfl,rfl,aJ,aK⟩ an;have Z:=aq.Ac aI;refine zg 2 rfl (DC (S':= [[(al,.cells #[pV k1 U,.slice V O.length W,iV 0,nS,uV 0] 175 (0,0))],[(ag,.cells #[iV age,iV 0,nS] 133 (0,0))]]) (by simp) an fun aL=>?_);refine JL.rangeFunc (caps:= [pV ar 0,pV au 0]) rfl (by intro e;cases e) rfl (A2 func152 rfl) aL fun aa l T av aM=>Ol (S':= [[(al,.cells #[pV k1 U,.slice V O.length W,iV 0,nS,uV 0] 175 (0,0))]++([(l,.loop ⟨.ready,none,127,T,#[17],H8,H7,aa⟩)]++ [(ag,.cells #[iV age,iV 0,nS] 133 (0,0))]),[(aa,.deferred (some []))]]) Sg aM fun ao=>?_;unfold GA at aE;obtain⟨bp,aN,aO⟩:=Option.bind_eq_some_iff.1 aE;obtain⟨tr,aP,aQ⟩:=Option.bind_eq_some_iff.1 aO;refine Qw (vs:= [.func (.yield l) #[] #[],pV ar 0,pV au 0]) 0 (Qy (I:=IP fuel age l ag aa T) (ok:=fun ac=>(Hh fuel age ac).isSome) (acc:= []) IP.Ai (bc.Ai Z) (bd.Ai Z) (be.Ai Z) (Rp.Ai _ Z bf) (bg.Ai Z) aK aJ ⟨(0,[]),none,0,[],rfl,rfl,OL.nil⟩ (fun E' aR ac bq br a c hle aS aT aU=>RA (av.sub ⟨rfl,trivial⟩) aS aT aU) aN aP) ao rfl ?_;rintro _ bu _ aV ⟨aW,aX,aY,aR,rfl,rfl,K,a,c,g,aZ,rfl,a0⟩ a1;obtain rfl:K=q:=Option.some.inj (aZ.symm.trans aQ);refine Re (S':= [[(al,.cells #[pV k1 U,.slice V O.length W,aW,aX,aY] 175 (0,0))],[(l,.loop ⟨.ready,none,127,T,#[17],H8,H7,aa⟩)],[(ag,.cells #[iV age,iV K.1,.slice a K.2.length c] 133 (0,0))],g,[(aa,.deferred (some []))]]) (by simp) a1 fun ap=>Px 1 ap rfl rfl rfl fun ab=>?_;refine(?_:JL (Bv Tryz.prog false) (Stop Tryz.prog F (F.start j)) (baseD 127) Tryz.f127.ntmps [(4,pV kc ae),(6,pV ag 0)] [⟨.collected aa,#[]⟩,dcall 128 #[.pointer (some F.sA)]] _ [HM Tryz.prog] _) T (av.sub ⟨rfl,rfl,trivial⟩);have aw:=Z.Ac aV;have a2:dcall 128 #[.pointer (some F.sA)]=dcall L.done #[.pointer (some F.sA)]:=by rw [a6]
  rw [a2];refine zg 3 rfl (BF underlying133 Dh rfl rfl rfl ?_);refine BF underlying97 Dy rfl rfl rfl (AA (v:= .slice a K.2.length c) rfl (fun ρ h=>Yl.load EE (h _ _ rfl) (D5 (j:=2) (off:=2) ab rfl rfl)) ?_);refine Bp underlying95 rfl rfl rfl (zg 2 rfl ?_);refine OC (p:=0<((K.2).length:Int)) rfl (fun a3=>?_) (fun a3=>?_)
  ·have ai:F.start j= .Cx j:=by unfold Fam.start;rw [aF,decide_eq_true (show 0<K.2.length by omega)];rfl
   rw [ai];refine JL.region (BW 0 (bh.Ai aw) Ls rfl rfl rfl ?_);refine Ca 3 a0 ab rfl fun bv a4 a5 ay=>AA rfl (fun ρ h=>FX (vs:= [iV age,iV K.1,.slice a K.2.length c]) Ch AP (h _ _ rfl) (F9 (off:=0) 2 ay rfl rfl)) (Qx rfl rfl rfl rfl rfl rfl rfl (bi _ _ _ (aw.Ac a4) a5) ?_);exact JL.done (JL.out rfl (JO.collected 4 rfl ay rfl fun az=>JO.Nb aA rfl rfl (JO.leaveD rfl func127 rfl (.inr rfl) J6)))
  ·have ai:F.start j= .CZ:=by unfold Fam.start;rw [aF,decide_eq_false (show ¬0<K.2.length by omega)];rfl
   rw [ai];exact JL.skip (JL.out rfl (JO.collected 4 rfl ab rfl fun az=>JO.Nb aA rfl rfl (JO.leaveD rfl func127 rfl (.inr rfl) J6)))
 ·refine Take.Sj bj rfl rfl rfl HV fun ah az=>JG.one (i:=3) rfl (by decide+kernel) (Take.SH (v:= .agg #[pV k1 U,sV V O W,iV 0,nS,uV 0]) az rfl rfl rfl rfl fun am bw=>?_);refine Cv 7 ht rfl rfl (Co [8] ?_);refine CB (S':= [[(ah,.cells #[iV 0,iV 0,nS] 133 (0,0))],[(am,.cells #[pV k1 U,sV V O W,iV 0,nS,uV 0] 175 (0,0))]]) rfl bw fun bx=>BQ 0 bx AP fun bz=>?_;refine zg 3 rfl (JS.perm (S':= [[(am,.cells #[pV k1 U,.slice V O.length W,iV 0,nS,uV 0] 175 (0,0))],[(ah,.cells #[iV age,iV 0,nS] 133 (0,0))]]) (List.Perm.swap _ _ _) bz fun aH=>?_);refine Ie [(3,pV ka ak),(4,pV kc ae),(5,pV am 0),(6,pV ah 0)] rfl ?_;have aq:Le E E:=Aq;refine zg 2 rfl (BW 0 (aG.Ai aq) Bx rfl rfl rfl ?_);refine BO Qk rfl rfl (A2 func129 rfl) aH ?_;rintro _ bo _ aI ⟨ar,au,rfl,rfl,aJ,aK⟩ an;have Z:=aq.Ac aI;refine zg 2 rfl (DC (S':= [[(am,.cells #[pV k1 U,.slice V O.length W,iV 0,nS,uV 0] 175 (0,0))],[(ah,.cells #[iV age,iV 0,nS] 133 (0,0))]]) (by simp) an fun aL=>?_);refine JL.rangeFunc (caps:= [pV ar 0,pV au 0]) rfl (by intro e;cases e) rfl (A2 func152 rfl) aL fun aa l T av aM=>Ol (S':= [[(am,.cells #[pV k1 U,.slice V O.length W,iV 0,nS,uV 0] 175 (0,0))]++([(l,.loop ⟨.ready,none,127,T,#[17],H8,H7,aa⟩)]++ [(ah,.cells #[iV age,iV 0,nS] 133 (0,0))]),[(aa,.deferred (some []))]]) Sg aM fun ao=>?_;unfold GA at aE;obtain⟨bp,aN,aO⟩:=Option.bind_eq_some_iff.1 aE;obtain⟨tr,aP,aQ⟩:=Option.bind_eq_some_iff.1 aO;refine Qw (vs:= [.func (.yield l) #[] #[],pV ar 0,pV au 0]) 0 (Qy (I:=IP fuel age l ah aa T) (ok:=fun ac=>(Hh fuel age ac).isSome) (acc:= []) IP.Ai (bc.Ai Z) (bd.Ai Z) (be.Ai Z) (Rp.Ai _ Z bf) (bg.Ai Z) aK aJ ⟨(0,[]),none,0,[],rfl,rfl,OL.nil⟩ (fun E' aR ac bq br a c hle aS aT aU=>RA (av.sub ⟨rfl,trivial⟩) aS aT aU) aN aP) ao rfl ?_;rintro _ bu _ aV ⟨aW,aX,aY,aR,rfl,rfl,K,a,c,g,aZ,rfl,a0⟩ a1;obtain rfl:K=q:=Option.some.inj (aZ.symm.trans aQ);refine Re (S':= [[(am,.cells #[pV k1 U,.slice V O.length W,aW,aX,aY] 175 (0,0))],[(l,.loop ⟨.ready,none,127,T,#[17],H8,H7,aa⟩)],[(ah,.cells #[iV age,iV K.1,.slice a K.2.length c] 133 (0,0))],g,[(aa,.deferred (some []))]]) (by simp) a1 fun ap=>Px 1 ap rfl rfl rfl fun ab=>?_;refine(?_:JL (Bv Tryz.prog false) (Stop Tryz.prog F (F.start j)) (baseD 127) Tryz.f127.ntmps [(4,pV kc ae),(6,pV ah 0)] [⟨.collected aa,#[]⟩,dcall 128 #[.pointer (some F.sA)]] _ [HM Tryz.prog] _) T (av.sub ⟨rfl,rfl,trivial⟩);have aw:=Z.Ac aV;have a2:dcall 128 #[.pointer (some F.sA)]=dcall L.done #[.pointer (some F.sA)]:=by rw [a6]
  rw [a2];refine zg 3 rfl (BF underlying133 Dh rfl rfl rfl ?_);refine BF underlying97 Dy rfl rfl rfl (AA (v:= .slice a K.2.length c) rfl (fun ρ h=>Yl.load EE (h _ _ rfl) (D5 (j:=2) (off:=2) ab rfl rfl)) ?_);refine Bp underlying95 rfl rfl rfl (zg 2 rfl ?_);refine OC (p:=0<((K.2).length:Int)) rfl (fun a3=>?_) (fun a3=>?_)
  ·have ai:F.start j= .Cx j:=by unfold Fam.start;rw [aF,decide_eq_true (show 0<K.2.length by omega)];rfl
   rw [ai];refine JL.region (BW 0 (bh.Ai aw) Ls rfl rfl rfl ?_);refine Ca 3 a0 ab rfl fun bv a4 a5 ay=>AA rfl (fun ρ h=>FX (vs:= [iV age,iV K.1,.slice a K.2.length c]) Ch AP (h _ _ rfl) (F9 (off:=0) 2 ay rfl rfl)) (Qx rfl rfl rfl rfl rfl rfl rfl (bi _ _ _ (aw.Ac a4) a5) ?_);exact JL.done (JL.out rfl (JO.collected 4 rfl ay rfl fun az=>JO.Nb aA rfl rfl (JO.leaveD rfl func127 rfl (.inr rfl) J6)))
  ·have ai:F.start j= .CZ:=by unfold Fam.start;rw [aF,decide_eq_false (show ¬0<K.2.length by omega)];rfl
   rw [ai];exact JL.skip (JL.out rfl (JO.collected 4 rfl ab rfl fun az=>JO.Nb aA rfl rfl (JO.leaveD rfl func127 rfl (.inr rfl) J6)))
end Pal
namespace Go.Proofs
abbrev Tryz.link:Go.Conc.Lib.WgLink:={add:=126,done:=128,wait:=132,relMerge:=139,disable:=140,enable:=141,inBubble:=142,associate:=143,fatal:=144,uOr:=145,uAdd:=146,raceRead:=147,uLoad:=148,uStore:=149,disassociate:=150,semrelease:=151,acquire:=157,isAssociated:=158,uCas:=159,raceWrite:=160,semacquire:=161,orU64:=170,addU64:=171,loadU64:=172,storeU64:=173,casU64:=177,tWgP:=189,tUP:=191,tAssoc:=192,tWg:=171,tAU:=168,tU64:=90,tUint:=156,tU32:=169,tPU32:=196,tPAU:=221,tPU64:=223,tNoCopy:=164,tANoCopy:=165,tAlign64:=166}
theorem Tryz.OT:Go.Conc.Lib.WgLib Tryz.prog Tryz.link:=
 ⟨Tryz.func126,Tryz.func128,Tryz.func132,Tryz.func139,Tryz.func140,Tryz.func141,Tryz.func142,Tryz.func143,Tryz.func144,Tryz.func145,Tryz.func146,Tryz.func147,Tryz.func148,Tryz.func149,Tryz.func150,Tryz.func151,Tryz.func157,Tryz.func158,Tryz.func159,Tryz.func160,Tryz.func161,Tryz.func170,Tryz.func171,Tryz.func172,Tryz.func173,Tryz.func177,Tryz.underlying189,Tryz.runUnderlying189,Tryz.sizeOf189,Tryz.isAgg189,Tryz.zeroValue189,Tryz.underlying191,Tryz.runUnderlying191,Tryz.sizeOf191,Tryz.isAgg191,Tryz.zeroValue191,Tryz.underlying192,Tryz.runUnderlying192,Tryz.sizeOf192,Tryz.isAgg192,Tryz.zeroValue192,Tryz.underlying171,Tryz.runUnderlying171,Tryz.sizeOf171,Tryz.isAgg171,Tryz.zeroValue171,Tryz.underlying168,Tryz.runUnderlying168,Tryz.sizeOf168,Tryz.isAgg168,Tryz.zeroValue168,Tryz.underlying90,Tryz.runUnderlying90,Tryz.sizeOf90,Tryz.isAgg90,Tryz.zeroValue90,Tryz.underlying156,Tryz.runUnderlying156,Tryz.sizeOf156,Tryz.isAgg156,Tryz.zeroValue156,Tryz.underlying169,Tryz.runUnderlying169,Tryz.sizeOf169,Tryz.isAgg169,Tryz.zeroValue169,Tryz.underlying196,Tryz.runUnderlying196,Tryz.sizeOf196,Tryz.isAgg196,Tryz.zeroValue196,Tryz.underlying221,Tryz.runUnderlying221,Tryz.sizeOf221,Tryz.isAgg221,Tryz.zeroValue221,Tryz.underlying223,Tryz.runUnderlying223,Tryz.sizeOf223,Tryz.isAgg223,Tryz.zeroValue223,Tryz.underlying0,Tryz.runUnderlying0,Tryz.sizeOf0,Tryz.isAgg0,Tryz.zeroValue0,Tryz.underlying3,Tryz.runUnderlying3,Tryz.sizeOf3,Tryz.isAgg3,Tryz.zeroValue3,Tryz.underlying4,Tryz.runUnderlying4,Tryz.sizeOf4,Tryz.isAgg4,Tryz.zeroValue4,Tryz.underlying9,Tryz.runUnderlying9,Tryz.sizeOf9,Tryz.isAgg9,Tryz.zeroValue9,Tryz.underlying20,Tryz.runUnderlying20,Tryz.sizeOf20,Tryz.isAgg20,Tryz.zeroValue20,Tryz.underlying21,Tryz.runUnderlying21,Tryz.sizeOf21,Tryz.isAgg21,Tryz.zeroValue21,(by decide+kernel),(by decide+kernel)⟩
end Go.Proofs
namespace Pal
open Go Go.Conc Go.Proofs Go.Conc.Lib Go.ConcR.Gen
theorem UM{F:Fam}(O:F.n<2147483648){E:LH}{kc K:Nat}(U:At E kc K [.chan (some F.ch)]):Way Tryz.prog false (Stop Tryz.prog F .C5) (born Tryz.prog ⟨.fn (.func 131) [.pointer (some F.sA),pV kc K].toArray,#[]⟩) ⟨E,fun _=>none,false⟩:=by
 refine Q0 (fn:=Tryz.f131) (vs:= [.pointer (some F.sA),pV kc K]) Tryz.func131 rfl rfl (by simp) (Nat.le_of_ble_eq_true rfl) ?_;obtain⟨H,V⟩:∃H:LH,H=fun _=>none:=⟨_,rfl⟩;rw [← V];refine(?_:JL (Bv Tryz.prog false) (Stop Tryz.prog F .C5) (baseD 131) Tryz.f131.ntmps (FH 0 [.pointer (some F.sA),pV kc K]) [] [.code _] [HM Tryz.prog] (Ak E H []));refine zg 2 rfl (JL.wait Tryz.OT O rfl rfl rfl rfl rfl ?_);refine zg 2 rfl (BW 0 U Ls rfl rfl rfl ?_);refine Ug rfl rfl rfl rfl rfl rfl rfl (JL.done ?_);exact JL.out rfl (JO.leaveD rfl Tryz.func131 rfl (.inr rfl) J6)
end Pal
namespace Pal
open Go Go.Conc Go.Proofs
open Go.Proofs.Tryz
open Go.Conc.Lib Go.ConcR.Gen
noncomputable def IN:Code:=match Tryz.f102.body with | some (.seq _ (.seq _ (.seq _ (.seq (.seq _ (.block _ (.loop c))) _))))=>c | _=> .skip
theorem TK{F:Fam}(aO:F.n=13){E:LH}{k1 ah:Nat}{ai aj ak:Ap}{al am an:Nat}{ao:Lv_}{O:BR}{ab:A4}(aq:At E k1 ah (([sV ai O.1 al,sV aj O.2.1 am]:Lv_)++ao))(ar:Ao (rL rI) E ai al O.1)(au:Ao (rL rI) E aj am O.2.1)(av:(rA 13 (rN .u16)).r E ao O.2.2)(aw:Ao BJ E ak an ab){V W Z ol kc aa:Nat}(ay:At E V W [pV k1 ah])(az:At E Z ol [.slice ak ab.length an])(aA:At E kc aa [.chan (some F.ch)]){fuel:Nat}{qs:Nat→Int×List (BZ)}(aB:∀j,j<13→GA fuel O ab ((j:Nat):Int)=some (qs j))(aC:∀j,j<13→F.has j=decide (0<(qs j).2.length))(aD:∀j,j<13→∀E' a c,Ao Dm E' a c (qs j).2→F.msg j (.agg #[iV ((j:Nat):Int),iV (qs j).1,.slice a (qs j).2.length c]) E'){j:Nat}(ae:j<13){ag H:LH}(hle:Le E ag)(aE:Ar ag H []){k:Li_}{cs:Lf_}
  (h:∀U,Le E U→Ar U H []→JL (Bv Tryz.prog true) (Stop Tryz.prog F (F.DT j)) (base 102) Tryz.f102.ntmps [(2,pV V W),(3,pV Z ol),(5,pV kc aa),(6,.pointer (some F.sA)),(11,iV ((j+1:Nat):Int))] [] (.inLoop IN::k) cs (Ak U H [])):
  JL (Bv Tryz.prog true) (Stop Tryz.prog F (.Fi j)) (base 102) Tryz.f102.ntmps [(2,pV V W),(3,pV Z ol),(5,pV kc aa),(6,.pointer (some F.sA)),(11,iV ((j:Nat):Int))] [] (.code IN:: .inLoop IN::k) cs (Ak ag H []):=by
 refine zg 5 rfl ?_;rw [decide_eq_true (show((j:Nat):Int)<13 by omega)];refine zg 7 rfl (CO aE Cz fun aF aG=>?_);refine BQ 0 aG AW fun aH=>?_;refine Dp 0 aH rfl fun U aI aJ aK=>DC (S':= []) (by simp) aK fun aL=>?_;have K:=hle.trans aI;refine zg 3 rfl (Uc Tryz.OT rfl rfl rfl rfl rfl rfl ?_);refine zg 2 rfl (AA (v:= .func (.func 127) #[] ([.pointer (some F.sA),pV V W,pV Z ol,pV aF 0,pV kc aa]:Lv_).toArray) rfl (fun ρ h=>Iy (by simp) (by simp [h (.tmp 6) _ rfl,h (.tmp 2) _ rfl,h (.tmp 3) _ rfl,h (.tmp 7) _ rfl,h (.tmp 5) _ rfl])) ?_);have ap:=UU Tryz.OT rfl (F:=F) (j:=j) (aq.Ai K) (ar.Ai K) (au.Ai K) (Rp.Ai _ K av) (aw.Ai K) (ay.Ai K) (az.Ai K) aJ (aA.Ai K) (aB j ae) (aC j ae) (fun E' a c _ aM=>aD j ae E' a c aM);refine W7 (fi:= #[]) rfl rfl rfl rfl rfl rfl rfl (by first | exact ap | (simp only [List.append_toArray,List.nil_append,Array.append_empty,Array.empty_append];exact ap)) ?_
 refine zg 3 rfl ?_;have aN:Au (((j:Nat):Int)+1)=some (((j+1:Nat)):Int):=by unfold Au;rw [if_pos (by omega)];simp
 refine Ba aN rfl rfl rfl (zg 2 rfl ?_);exact Ay (h U K aL) rfl
theorem UA{F:Fam}(V:F.n=13){E:LH}{k1 ag:Nat}{ah ai aj:Ap}{ak al am:Nat}{an:Lv_}{K:BR}{W:A4}(aq:At E k1 ag (([sV ah K.1 ak,sV ai K.2.1 al]:Lv_)++an))(ar:Ao (rL rI) E ah ak K.1)(au:Ao (rL rI) E ai al K.2.1)(av:(rA 13 (rN .u16)).r E an K.2.2)(aw:Ao BJ E aj am W){Z aa ab ol kc ae:Nat}(ay:At E Z aa [pV k1 ag])(az:At E ab ol [.slice aj W.length am])(aA:At E kc ae [.chan (some F.ch)]){fuel:Nat}{qs:Nat→Int×List (BZ)}(aB:∀j,j<13→GA fuel K W ((j:Nat):Int)=some (qs j))(aC:∀j,j<13→F.has j=decide (0<(qs j).2.length))(aD:∀j,j<13→∀E' a c,Ao Dm E' a c (qs j).2→F.msg j (.agg #[iV ((j:Nat):Int),iV (qs j).1,.slice a (qs j).2.length c]) E'){H:LH}{k:Li_}{cs:Lf_}
  (h:∀O,Le E O→Ar O H []→JL (Bv Tryz.prog true) (Stop Tryz.prog F .FI) (base 102) Tryz.f102.ntmps [(2,pV Z aa),(3,pV ab ol),(5,pV kc ae),(6,.pointer (some F.sA)),(11,iV 13)] [] (.code IN:: .inLoop IN::k) cs (Ak O H [])):
  ∀(m j:Nat),j+m=13→0<m→∀U,Le E U→Ar U H []→JL (Bv Tryz.prog true) (Stop Tryz.prog F (.Fi j)) (base 102) Tryz.f102.ntmps [(2,pV Z aa),(3,pV ab ol),(5,pV kc ae),(6,.pointer (some F.sA)),(11,iV ((j:Nat):Int))] [] (.code IN:: .inLoop IN::k) cs (Ak U H []):=by
 intro m
 induction m with
 | zero=>intro j _ aE;cases aE
 | succ m aF=>
  intro j aI _ U hle aG;refine TK V aq ar au av aw ay az aA aB aC aD (by omega) hle aG fun O ao ap=>JL.again ?_;by_cases hm:m=0
  ·subst hm;have aH:j=12:=by omega
   subst aH;have e:F.DT 12= .FI:=by unfold Fam.DT;rw [V];rfl
   rw [e];exact h O ao ap
  ·have e:F.DT j= .Fi (j+1):=by unfold Fam.DT;rw [V,if_neg (by omega)]
   rw [e];exact aF (j+1) (by omega) (by omega) O ao ap
end Pal
namespace Pal
open Go Go.Conc Go.Proofs
open Go.Proofs.Tryz
open Go.Conc.Lib Go.ConcR.Gen
noncomputable def Su:Code:=match Tryz.f102.body with | some (.seq _ (.seq _ (.seq _ (.seq _ (.seq _ (.seq _ (.seq (.seq _ (.block _ (.loop c))) _)))))))=>c | _=> .skip
def partOf(qs:Nat→Int×List (BZ))(k:Nat):(Bo):=(((k:Nat):Int),(qs k).1,(qs k).2)
theorem XV{K:List Nat}{kk n:Nat}(O:kk<n)(U:kk ∉ K):((List.range n).filter (fun x=> !(K++ [kk]).contains x)).length<((List.range n).filter (fun x=> !K.contains x)).length:=by
 have e:(List.range n).filter (fun x=> !(K++ [kk]).contains x)=((List.range n).filter (fun x=> !K.contains x)).filter (fun x=>x != kk):=by
  rw [List.filter_filter];apply List.filter_congr;intro x _;by_cases V:x∈K <;> by_cases e2:x=kk <;> simp [V,e2]
 rw [e];apply List.length_filter_lt_length_iff_exists.2;exact⟨kk,by simp [O,U],by simp⟩
theorem Uk{F:Fam}(aa:F.n=13){Q:GP}(ao:∀g s,(DN Tryz.prog).ok Q g s→F.fin g s){qs:Nat→Int×List (BZ)}(ap:∀kk v E',F.msg kk v E'→∃a c,v= .agg #[iV ((kk:Nat):Int),iV (qs kk).1,.slice a (qs kk).2.length c]∧Ao Dm E' a c (qs kk).2)
  {E H:LH} {k:Li_} {cs:Lf_}
  (aq:∀(K:List Nat) (V:LH) (a:Ap) (c:Nat) (g:Seg),Le E V→K.Nodup→(∀x∈K,x<13∧F.has x=true)→(∀x,x<13→F.has x=true→x∈K)→OL 133 Cn V a c g (K.map (partOf qs))→Ar V H [g]→JL (DN Tryz.prog) Q (base 102) Tryz.f102.ntmps [(8,.slice a (K.map (partOf qs)).length c)] [] k cs (Ak V H [g])):
  ∀(m:Nat) (K:List Nat) (vs:Lv_) (U:LH) (a:Ap) (c:Nat) (g:Seg),((List.range 13).filter (fun x=> !K.contains x)).length=m→K.Nodup→(∀x∈K,x<13∧F.has x=true)→K.length+m≤13→Le E U→OL 133 Cn U a c g (K.map (partOf qs))→Ar U H [g]→
   JL (Bv Tryz.prog true) (Stop Tryz.prog F (.Cd K vs)) (base 102) Tryz.f102.ntmps [(8,.slice a (K.map (partOf qs)).length c),(18,.chan (some F.ch))] [] (.code Su:: .inLoop Su:: .inBlock 2::k) cs (Ak U H [g]):=by
 intro m
 induction m using Nat.strongRecOn with
 | _ m ar=>
  intro K vs U a c g hm ab ae hlen hle ag ah;refine zg 2 rfl (UP rfl rfl rfl rfl rfl rfl underlying162 HV ?_ ?_)
  ·intro kk v E' W au ai aj av aw;rw [aa] at W;obtain⟨aL,aM,rfl,ay⟩:=ap kk v E' aw;have az:Ar E' H [g]:=ah.up av;refine(?_:JL (Bv Tryz.prog true) (Stop Tryz.prog F (.Cd (K++ [kk]) (vs++ [_]))) (base 102) Tryz.f102.ntmps _ [] _ cs (Ak E' H [g]));refine zg 9 rfl (JS.alloc rfl rfl rfl az HV fun aN aA=>?_);refine BQ 1 aA AP fun aB=>?_;refine Dp 1 aB rfl fun aC Z aD aE=>DC (S':= [g]) (by simp) aE fun aF=>zg 3 rfl (Cm aD Ch AP rfl rfl ?_);have aG:(K.map (partOf qs)).length+1≤2 ^ 40:=by rw [List.length_map];omega
   refine PW (pp:=Cn) (xv:=partOf qs kk) 0 rfl rfl rfl rfl (fun w=>rfl) rfl (fun w=>rfl) rfl rfl rfl underlying130 underlying130 underlying130 AP (CP type133) HV rfl (by decide) (by decide) (by decide) (by decide) aG (ag.Ai (aj.trans Z)) ⟨_,_,rfl,rfl,⟨_,_,rfl,rfl,⟨_,_,rfl,ay.Ai Z⟩⟩⟩ aF rfl fun w ak al g' am aH=>?_;have em:K.map (partOf qs)++ [partOf qs kk]=(K++ [kk]).map (partOf qs):=by simp
   rw [em] at am;refine A6 (v:= .slice ak ((K++ [kk]).map (partOf qs)).length al) rfl rfl rfl (fun ρ h=>by rw [← em];exact Yl.assign (h _ _ rfl)) (zg 2 rfl ?_);refine JL.again ?_;have aI:((List.range 13).filter (fun x=> !(K++ [kk]).contains x)).length<m:=by rw [← hm];exact XV W ai
   exact Ay (ar _ aI (K++ [kk]) (vs++ [_]) aC ak al g' rfl (by rw [List.nodup_append];exact⟨ab,by simp,by intro x O y an;simp at an;subst an;intro e;exact ai (e▸O)⟩) (by intro x O;simp at O;rcases O with O | rfl;exact ae x O;exact⟨W,au⟩) (by simp only [List.length_append,List.length_cons,List.length_nil];omega) ((hle.trans aj).Ac Z) am aH) rfl
  ·intro aJ T aK;refine ao _ _ ?_;refine(?_:JL (DN Tryz.prog) Q (base 102) Tryz.f102.ntmps _ [] _ cs (Ak U H [g])) T aK;exact zg 5 rfl (Ay (aq K U a c g hle ab ae (fun x O hh=>aJ x (by rw [aa];exact O) hh) ag ah) rfl)
end Pal
