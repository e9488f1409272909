/- ToothAll: gone through one by one, all horses say what the program says Part 3 of 8. -/
import Derived.Test.YtboibffcmhheiaaGreatDoorTaa
import Derived.Test.YtboibffcmhheiaaGreatDoorTab
import Derived.Test.YtboibffcmhheiaaGreatDoorRows
import Derived.Test.YtboibffcmhheiaaGreatDoorChecked
import Derived.Conc.LeavingOf
import Derived.Conc.Holds
import Derived.Carry
import Derived.ChangeSame
import Derived.ChangeVars
import Derived.JoinedOf
import Derived.RowKit
import Derived.LaidLaws
import Derived.LaidHandle
import Derived.Stop.Joined
import Derived.Test.YtboibffcmhheiaaGreatDoorProg
import Derived.Conc.WgGenN3
set_option linter.all false
set_option maxRecDepth 100000
namespace Pal
open Go Go.Conc
section
variable {P:Program}(J:Judge P)(Q:Gs_)(b:Frame)(ds:Ld_)(ops:Ao_)(k:Li_)(cs:Lf_)(X D:Nat→Bool)
def JB:Nat→Array Bool→AA→St→Prop
 | 0,listed,T,s=>Region.ready .any ops listed= []∧J.ok Q (G (fr b T ds (.inRegion ops []::k)) cs) s
 | fuel+1,listed,T,s=>
  Region.ready .any ops listed≠ []∧s.q=false∧∀i∈Region.ready .any ops listed,∀o,ops[i]? =some o→(∀c,o.op≠ .defer c)∧
   (Region.wanted o (yielded ops T)=false→JB fuel (Bg listed i) (CU T o.dst undef) s)∧
   (Region.wanted o (yielded ops T)=true→X i=true→lp P (execOp (BO T) o) s (fun nx s'=>match nx with
    | .value v=>JB fuel (Bg listed i) (CU T o.dst v) s'
    | .skip=>JB fuel (Bg listed i) (CU T o.dst undef) s'
    | _=>False) (fun _ _=>False))∧
   (Region.wanted o (yielded ops T)=true→X i=false→lp P (execOp (BO T) o) (BF D s) (fun nx s'=>match nx with
    | .value v=>JB fuel (Bg listed i) (CU T o.dst v) (CL D s s')
    | .skip=>JB fuel (Bg listed i) (CU T o.dst undef) (CL D s s')
    | _=>False) (fun _ _=>False))
variable {J Q b ds ops k cs X D}
theorem Vy(V:b.kind≠ .early):∀(fuel t:Nat) (listed:Array Bool) (T:AA) (s:St),JB J Q b ds ops k cs X D fuel listed T s→
  J.ok Q (G (fr b T ds (.inRegion ops (Region.linearise.go .any ops fuel t listed [])::k)) cs) s:=by
 intro fuel
 induction fuel with
 | zero=>intro t listed T s h;simpa [Region.linearise.go] using h.2
 | succ fuel O=>
  intro t listed T s h;obtain⟨aa,ab,h⟩:=h;obtain⟨i,hi⟩:∃i,(Region.ready .any ops listed)[t % (Region.ready .any ops listed).length]? =some i:=by
   have:0<(Region.ready .any ops listed).length:=List.length_pos_iff.2 aa;exact⟨_,List.getElem?_eq_getElem (Nat.mod_lt _ this)⟩
  have W:=List.mem_of_getElem? hi;have hgo:Region.linearise.go .any ops (fuel+1) t listed []=i::Region.linearise.go .any ops fuel (t / (Region.ready .any ops listed).length) (Bg listed i) []:=by
   simp only [Region.linearise.go];change (match(Region.ready .any ops listed)[t % (Region.ready .any ops listed).length]? with
    | some i=>Region.linearise.go .any ops fuel (t / (Region.ready .any ops listed).length) (listed.setIfInBounds i true) [i]
    | none=> [].reverse)=_
   rw [hi];simp only;rw [linearise_go_acc];rfl
  rw [hgo];obtain⟨_,o,U,_⟩:=mem_ready.1 W;obtain⟨hd,ae,ag,ah⟩:=h i W o U;cases hw:Region.wanted o (yielded ops T) with
  | false=>exact Judge.unwanted U hw (O _ _ _ _ (ae hw))
  | true=>
   cases Z:X i with
   | true=>
    refine Judge.oper U hw V (.inr hd) (Dv _ (ag hw Z) ?_ (fun _ _ h=>h.elim));intro nx s' K;cases nx with
    | value v=>exact O _ _ _ _ K
    | skip=>exact O _ _ _ _ K
    | _=>exact K.elim
   | false=>
    refine Judge.Ro D U hw V hd ab (Dv _ (ah hw Z) ?_ (fun _ _ h=>h));intro nx s' K;cases nx with
    | value v=>exact O _ _ _ _ K
    | skip=>exact O _ _ _ _ K
    | _=>exact K.elim
def waitAll(ops:Ao_)(X:Nat→Bool)(i:Nat):Bool:=(List.range ops.size).all fun j=> !X j || waits ops ops.size j i
theorem JB.take{i:Nat}{oi:Oper}{w pure:Bool}{v:Value}(hi:ops[i]? =some oi)(aU:X i=false)(aL:(pure || waitAll ops X i)=true)(aV:Region.noSelect ops=true)(aW:∀c,oi.op≠ .defer c):
  ∀(fuel:Nat) (listed:Array Bool) (T:AA) (s:St),HS ops listed i oi=true→G5 ops listed=true→listed.size=ops.size→i∈Region.ready .any ops listed→s.q=false→Region.wanted oi (yielded ops T)=w→
   (w=true→∀s',s'.q=false→(pure=false→∀x o,(BF D s).E x=some o→s'.E x=some o)→Yl P oi (BO T) s' v)→
   JB J Q b ds ops k cs X D fuel (Bg listed i) (CU T oi.dst (if w then v else undef)) s→JB J Q b ds ops k cs X D (fuel+1) listed T s:=by
 have ab:∀(j:Nat) (W:Oper),ops[j]? =some W→∀cs b,W.op≠Op.select cs b:=fun j W h cs b=>Region.noSelect_spec aV j W cs b h;intro fuel
 induction fuel with
 | zero=>?_
 | succ fuel aj=>?_
 all_goals
  intro listed T s aM aN ak az al hw ae h;refine⟨fun e=>(by rw [e] at az;cases az),al,fun j aO W O=>?_⟩;by_cases am:j=i
  ·subst am;obtain rfl:W=oi:=by rw [hi] at O;exact(Option.some.inj O).symm
   refine⟨aW,fun aC=>?_,fun ag K=>?_,fun ag K=>?_⟩
   ·rw [aC] at hw;subst hw;exact h
   ·rw [aU] at K;cases K
   ·rw [ag] at hw;subst hw;refine Dv _ (ae rfl (BF D s) al fun _ _ _ h=>h).out ?_ (fun _ _ h=>h);rintro nx s' ⟨rfl,rfl⟩;rw [Ku];exact h
  ·
   have aP:j∈Region.ready .any ops (Bg listed i):=ready_mono aO am;obtain⟨ah,U,aQ,aD⟩:=mem_ready.1 aO;obtain rfl:U=W:=by rw [O] at aQ;exact(Option.some.inj aQ).symm
   have aE:=(mem_ready.1 az).1;have aX:(U.after.any fun e=>Region.binds .any e&&e.on==i)=false:=by
    rw [Array.any_eq_false];intro e he K;simp only [Bool.and_eq_true,beq_iff_eq] at K;have:=aD _ (Array.getElem_mem he) K.1;rw [K.2] at this;have ai:listed.getD i true=listed.getD i false∨listed.size≤i:=by
     rcases Nat.lt_or_ge i listed.size with q | q
     ·left;simp [Array.getD_eq_getD_getElem?,q]
     ·exact .inr q
    rcases ai with ai | ai
    ·rw [aE,this] at ai;cases ai
    ·rw [Array.getD_eq_getD_getElem?,Array.getElem?_eq_none ai] at this;simp at this
   have aY:oi.apart ops U=true:=by
    have aF:j<ops.size:=(Array.getElem?_eq_some_iff.1 O).1;have:=List.all_eq_true.1 aM j (List.mem_range.2 aF);simp only [Bool.or_eq_true,beq_iff_eq] at this;rcases this with(q | q) | q
    ·exact absurd q am
    ·rw [ah] at q;cases q
    ·rw [O] at q;simp only [Bool.or_eq_true] at q;rw [aX] at q;exact q.resolve_left (by simp)
   obtain⟨aZ,an,ao⟩:=Oper.apart_spec aY;obtain⟨p1,p2⟩:=G1 (ops:=ops) (T:=T) (v:=if w then v else undef) (ab j U O) aZ
   first
    | exact absurd aP (by rw [h.1];simp)
    | (
     obtain⟨a9,_,h⟩:=h
     obtain⟨hd,aC,a0,a1⟩:=h j aP U O
     have ap:Bg (Bg listed i) j=Bg (Bg listed j) i:=by
      unfold Bg;exact Array.setIfInBounds_comm _ _ (Ne.symm am)
     have aq:i∈Region.ready .any ops (Bg listed j):=ready_mono az (Ne.symm am)
     have ar:HS ops (Bg listed j) i oi=true:=by
      refine List.all_eq_true.2 fun x K=>?_
      have:=List.all_eq_true.1 aM x K
      simp only [Bool.or_eq_true,beq_iff_eq] at this ⊢
      rcases this with(q | q) | q
      ·exact .inl (.inl q)
      ·left;right
       by_cases e:j=x
       ·subst e;rw [ah] at q;cases q
       ·rw [Bg,getD_set_ne true e];exact q
      ·exact .inr q
     have au:(Bg listed j).size=ops.size:=by unfold Bg;simpa using ak
     have av:G5 ops (Bg listed j)=true:=by
      refine List.all_eq_true.2 fun x K=>?_
      cases aG:ops[x]? with
      | none=>simp
      | some a2=>
       simp only [Bool.or_eq_true,Bool.not_eq_true']
       by_cases e:j=x
       ·subst e
        obtain rfl:a2=U:=by rw [O] at aG;exact(Option.some.inj aG).symm
        right
        refine Array.all_eq_true'.2 fun e he=>?_
        cases hb:Region.binds .any e with
        | false=>simp
        | true=>
         have:=aD e he hb
         by_cases e2:j=e.on
         ·rw [← e2] at this
          have aH:j<listed.size:=by rw [ak];exact(Array.getElem?_eq_some_iff.1 O).1
          simp [Array.getD_eq_getD_getElem?,aH] at this ah
          rw [ah] at this;cases this
         ·rw [Bg,getD_set_ne false e2];simpa using this
       ·cases aR:(Bg listed j).getD x false with
        | false=>exact .inl rfl
        | true=>
         right
         have a3:listed.getD x false=true:=by rw [Bg,getD_set_ne false e] at aR;exact aR
         refine Array.all_eq_true'.2 fun aI he=>?_
         cases hb:Region.binds .any aI with
         | false=>simp
         | true=>
          have:=NV aN aG a3 aI he hb
          by_cases e2:j=aI.on
          ·rw [← e2] at this
           have aH:j<listed.size:=by rw [ak];exact(Array.getElem?_eq_some_iff.1 O).1
           simp [Array.getD_eq_getD_getElem?,aH] at this ah
           rw [ah] at this;cases this
          ·rw [Bg,getD_set_ne false e2];simpa using this
     refine⟨hd,fun a4=>?_,fun aJ aA=>?_,fun aJ aA=>?_⟩
     ·have:=aC (by rw [p2];exact a4)
      rw [ap,HK an] at this
      obtain⟨q1,q2⟩:=G1 (ops:=ops) (T:=T) (d:=U.dst) (v:=undef) (o:=oi) (ab i oi hi) ao
      exact aj _ _ _ ar av au aq al (by rw [q2];exact hw) (fun V s' a5 aB=>by unfold Yl;rw [q1];exact(ae V s' a5 aB).out) this
     ·
      have a6:pure=true:=by
       cases a7:pure with
       | true=>rfl
       | false=>
        exfalso
        rw [a7,Bool.false_or] at aL
        have aF:j<ops.size:=(Array.getElem?_eq_some_iff.1 O).1
        have ag:=List.all_eq_true.1 aL j (List.mem_range.2 aF)
        rw [aA] at ag
        simp only [Bool.not_true,Bool.false_or] at ag
        rcases PE aN _ j U O (fun e he hb=>aD e he hb) ag with q | ⟨x,q1,q2⟩
        ·have a8:i<listed.size:=by rw [ak];exact(Array.getElem?_eq_some_iff.1 hi).1
         simp [Array.getD_eq_getD_getElem?,a8] at q aE
         rw [aE] at q;cases q
        ·have:¬x<listed.size:=by rw [ak];intro K;simp [K] at q1
         simp [Array.getD_eq_getD_getElem?,this] at q2
      have aw:=NC _ (a0 (by rw [p2];exact aJ) aA)
      rw [p1] at aw
      refine Dv _ aw ?_ (fun _ _ h=>h)
      rintro nx s' ⟨K,aB,aK⟩
      have ay:s'.q=false:=aK.trans al
      have aS:pure=false→∀{α:Prop},α:=fun e=>by rw [a6] at e;cases e
      cases nx with
      | value u=>
       simp only at K ⊢
       rw [ap,HK an] at K
       obtain⟨q1,q2⟩:=G1 (ops:=ops) (T:=T) (d:=U.dst) (v:=u) (o:=oi) (ab i oi hi) ao
       exact aj _ _ _ ar av au aq ay (by rw [q2];exact hw) (fun V s2 Z aa=>by unfold Yl;rw [q1];exact(ae V s2 Z (fun e=>aS e)).out) K
      | skip=>
       simp only at K ⊢
       rw [ap,HK an] at K
       obtain⟨q1,q2⟩:=G1 (ops:=ops) (T:=T) (d:=U.dst) (v:=undef) (o:=oi) (ab i oi hi) ao
       exact aj _ _ _ ar av au aq ay (by rw [q2];exact hw) (fun V s2 Z aa=>by unfold Yl;rw [q1];exact(ae V s2 Z (fun e=>aS e)).out) K
      | _=>exact K.elim
     ·have aw:=NC _ (a1 (by rw [p2];exact aJ) aA)
      rw [p1] at aw
      refine Dv _ aw ?_ (fun _ _ h=>h)
      rintro nx s' ⟨K,aB,aK⟩
      have aT:=PM (D:=D) aB
      have ay:(CL D s s').q=false:=by show s'.q=false;rw [aK];exact al
      cases nx with
      | value u=>
       simp only at K ⊢
       rw [ap,HK an] at K
       obtain⟨q1,q2⟩:=G1 (ops:=ops) (T:=T) (d:=U.dst) (v:=u) (o:=oi) (ab i oi hi) ao
       exact aj _ _ _ ar av au aq ay (by rw [q2];exact hw) (fun V s2 Z aa=>by unfold Yl;rw [q1];exact(ae V s2 Z (fun e=>by rw [aT] at aa;exact aa e)).out) K
      | skip=>
       simp only at K ⊢
       rw [ap,HK an] at K
       obtain⟨q1,q2⟩:=G1 (ops:=ops) (T:=T) (d:=U.dst) (v:=undef) (o:=oi) (ab i oi hi) ao
       exact aj _ _ _ ar av au aq ay (by rw [q2];exact hw) (fun V s2 Z aa=>by unfold Yl;rw [q1];exact(ae V s2 Z (fun e=>by rw [aT] at aa;exact aa e)).out) K
      | _=>exact K.elim)
end
section
variable {P:Program}(J:Judge P)(Q:Gs_)(b:Frame)(n:Nat)(ds:Ld_)(ops:Ao_)(k:Li_)(cs:Lf_)(X D:Nat→Bool)
def FF(fuel:Nat)(listed:Array Bool)(L:Env)(s:St):Prop:=∀T,Has n L T→JB J Q b ds ops k cs X D fuel listed T s
end
def J5(ops:Ao_)(listed:Array Bool)(xs:List Nat)(pure:Bool)(i:Nat):Bool:=match ops[i]? with
 | some oi=> !Bb xs i&&(pure || waitAll ops (Bb xs) i)&&Region.noSelect ops&& !Dx oi.op&&HS ops listed i oi&&G5 ops listed&&listed.size==ops.size&&(Region.ready .any ops listed).contains i
 | none=>false
section
variable {P:Program}{J:Judge P}{Q:Gs_}{b:Frame}{n:Nat}{ds:Ld_}{ops:Ao_}{k:Li_}{cs:Lf_}{fuel:Nat}{X D:Nat→Bool}{listed:Array Bool}{L:Env}{s:St}{E H:LH}{S:List Seg}{xl bks:List Nat}
variable {d:Option Tmp}{x y:Operand}{t u ty e:TypeId}{p:String}{af:Ae_}{g:On_}{v:Value}{i:Nat}{kd:IntKind}
theorem G3(xl bks:List Nat){id:Nat}(hm:P.follows .mixedOrders=true)(K:(b.kind != .early)=true)
  (h:FF J Q b n ds ops k cs (Bb xl) (Bb bks) ops.size (Array.replicate ops.size false) L (Ak E H S)):JL J Q b n L ds (.code (.region id ops true)::k) cs (Ak E H S):=
 Rt rfl hm fun t T O=>Vy (by simpa using K) ops.size t _ T _ (h T O)
theorem SD{oi:Oper}(i:Nat)(pure:Bool)(hi:ops[i]? =some oi)(K:J5 ops listed xl pure i=true)(V:s.q=false)
  (hw:Bi L ops oi=some true) (W:BE n oi.dst=true) (Z:∀ρ,EL L ρ→∀s':St,(pure=false→∀x o,(BF D s).E x=some o→s'.E x=some o)→Yl P oi ρ s' v)
  (h:FF J Q b n ds ops k cs (Bb xl) D fuel (Bg listed i) (AF L oi.dst v) s):FF J Q b n ds ops k cs (Bb xl) D (fuel+1) listed L s:=fun T O=>by
 simp only [J5,hi,Bool.and_eq_true] at K
 obtain⟨⟨⟨⟨⟨⟨⟨aa,ab⟩,ae⟩,U⟩,ag⟩,ah⟩,ai⟩,aj⟩:=K
 refine JB.take (w:=true) (v:=v) (pure:=pure) hi (by simpa using aa) ab ae (fun c K=>by rw [K] at U;simp [Dx] at U) fuel listed T s ag ah (by simpa using ai) (by simpa using aj) V (Dj O hw) (fun _ s' al ak=>Z _ O.Gs s' ak) ?_
 exact h _ (O.put W v)
theorem JB.fin(K:Region.ready .any ops listed= [])(h:JL J Q b n L ds k cs s):FF J Q b n ds ops k cs X D 0 listed L s:=fun T O=>⟨K,JL.done h T O⟩
theorem JB.store{bk off:Nat}{c:AA}(i j:Nat)(U:Region.ready .any ops listed= [i])(aa:Bb xl i=true)(ab:ops[i]? =some ⟨d,.store t x y,ty,p,af,g⟩)(hw:Bi L ops ⟨d,.store t x y,ty,p,af,g⟩=some true)(ae:BE n d=true)(ag:Au E H S)
  (ah:ev L x=some (.pointer (some ⟨bk,off,none⟩))) (ai:ev L y=some v) (aj:BA P t=some v.cells.size) (ak:∀u∈v.cells.toList,Cx u=true) (V:S[j]? =some [(bk,.cells c e (0,0))]) (hle:off+v.cells.size≤c.size)
  (h:Au E H (S.set j [(bk,.cells (A4 c off v.cells.toList) e (0,0))])→FF J Q b n ds ops k cs (Bb xl) D fuel (Bg listed i) (AF L d undef) (Ak E H (S.set j [(bk,.cells (A4 c off v.cells.toList) e (0,0))]))):
  FF J Q b n ds ops k cs (Bb xl) D (fuel+1) listed L (Ak E H S):=fun T K=>by
 refine⟨by rw [U];simp,rfl,fun au O o' W=>?_⟩
 rw [U] at O
 simp at O
 subst O
 obtain rfl:o'=⟨d,.store t x y,ty,p,af,g⟩:=by rw [ab] at W;exact(Option.some.inj W).symm
 have al:=Dj K hw;refine⟨fun c am=>(by cases am),fun e=>?_,fun _ _=>?_,fun _ e=>?_⟩
 ·rw [al] at e;cases e
 ·obtain⟨an,ao⟩:=F8 ag V;rw [an];show lp P (do Instr.storeAt t (BO T x) (BO T y);pure Next.skip) _ _ _
  rw [K.ev ah,K.ev ai];refine AH _ _ ?_;unfold Instr.storeAt;simp only [Instr.sureAddr,bind,Sem.bind,pure];refine NX (pl:=(S.set j []).flatten.length) aj ak ao (c:=c) (e:=e) (by simp) hle fun Z=>?_;have ap:((S.set j []).flatten++ [(bk,Obj.cells c e (0,0))]).set (S.set j []).flatten.length (bk,.cells (A4 c off v.cells.toList) e (0,0))=(S.set j []).flatten++ [(bk,.cells (A4 c off v.cells.toList) e (0,0))]:=GD _ _ _ _;rw [ap] at Z ⊢;obtain⟨aq,ar⟩:=Ho V Z;rw [aq];exact h ar _ (K.put ae undef)
 ·rw [aa] at e;cases e
end
end Pal
namespace Pal
open Go Go.Conc
theorem UA{E H:LH}{S:List Seg}{bks:List Nat}{bk o:Nat}{l ws:Lv_}{e:TypeId}{f:Nat×Nat}{s':St}{w:Value}(j:Nat)(K:Au E H S)(O:S[j]? =some [(bk,.cells (l++ws).toArray e f)])(U:Bb bks bk=true)(hs:∀x o,(BF (Bb bks) (Ak E H S)).E x=some o→s'.E x=some o)(V:ws[o]? =some w):s'.cell? ⟨bk,l.length+o,none⟩=some w:=by
 have:=On j K O U hs o w V
 rwa [El rfl] at this
section
variable {P:Program}{E H:LH}{B:List (Nat×Obj)}{t e ty:TypeId}
theorem Tp{ats:Array TypeId}{a:Option Addr}{l sz K m cx:Nat}{ax:Option Addr}{xs ys:Lv_}{z:Value}{Q:Value→St→Prop}{X:Halt→St→Prop}
  (al:ats[0]? =some t) {t1 am:TypeId} (an:ats[1]? =some t1) (ao:P.underlying t1=some (.slice am)) (ht:P.underlying t=some (.slice e)) (ap:BA P e=some sz) (hb:Ey P e=some K) (aq:zeroOf P e=some z) (ar:z.cells.size=sz)
  (au:Nd E H B) (aa:GJ (mk E H B) (.slice a l l) sz xs)
  (V:GJ (mk E H B) (.slice ax m cx) sz ys) (aE:∀w∈ys,Cx w=true) (aF:0<K) (aG:l+m≤2 ^ 40) (av:K≤64)
  (aj:m=0→Q (.slice a (l+m) l) (mk E H B))
  (aw:∀r W ab,l+m≤ab→W.size=ab*sz→W.toList.take ((l+m)*sz)=xs++ys→Nd E H (B++ [(r,.cells W e (0,0))])→Q (.slice (some ⟨r,0,none⟩) (l+m) ab) (mk E H (B++ [(r,.cells W e (0,0))]))):
  lp P (Builtin.append_ ats ty #[.slice a l l,.slice ax m cx]) (mk E H B) Q X:=by
 unfold Builtin.append_;simp only [al,an,List.getElem?_toArray,List.getElem?_cons_zero,List.getElem?_cons_succ];refine AH _ _ (Di ht ?_);refine AH _ _ (EV ap ?_);refine AH _ _ (Di ao ?_);simp only [G0,Bool.false_eq_true,if_false,Builtin.lenOf,Bool.not_false,if_true];have Z:ys.length=m*sz:=by
  cases ax with
  | none=>obtain⟨O,U⟩:=V;subst O U;simp
  | some ad=>exact V.2.1
 have ae:xs.length=l*sz:=by
  cases a with
  | none=>obtain⟨O,U⟩:=aa;subst O U;simp
  | some ad=>exact aa.2.1
 obtain⟨c,aH⟩:∃c,c=l:=⟨_,rfl⟩;split
 ·rename_i aI;have hm:m=0:=by omega
  have ay:ys= []:=List.eq_nil_of_length_eq_zero (by rw [Z,hm];simp);refine AH _ _ (Jg ⟨ax,cx,rfl⟩ V ?_);subst ay;cases a with
  | none=>exact aj hm
  | some ad=>exact aj hm
 ·rename_i aJ;have O:¬(((l+m:Nat):Int)>IntKind.i64.max∧(False∨K=0)):=by rintro⟨_,h | h⟩ <;> omega
  have U:¬(Builtin.nextslicecap (l+m) l*K>2 ^ 48):=by
   have:=PS (need:=l+m) (old:=l) (by omega);have aK:Builtin.nextslicecap (l+m) l*K≤(2*(l+m)+768)*64:=Nat.mul_le_mul this av;omega
  obtain⟨inf,ag,ah⟩:=Kv hb;refine AH _ _ (HH ag ?_);rw [ah,if_neg O];refine AH _ _ (HH ag ?_);rw [ah,if_neg U];refine AH _ _ ?_;simp only [choose,lp,Question.forced,Bool.false_eq_true,if_false];refine⟨rfl,fun az=>?_⟩;generalize aA:(Question.appendCap (l+m) l e).cut az=ai;have aB:l+m≤ai:=by rw [← aA];simp [Question.cut]
  refine AH _ _ (HH ag ?_);rw [ah];have aC:∀{α:Type} {f:Unit→Sem α} {Q:α→St→Prop},lp P (f ()) (mk E H B) Q X→lp P (askRoom (ai*K)>>=f) (mk E H B) Q X:=by
   intro α f Q ak;refine AH _ _ ?_;unfold askRoom;split
   ·exact⟨.inl ⟨rfl,rfl⟩,ak⟩
   ·exact ak
  refine aC (AH _ _ (Jg ⟨a,l,rfl⟩ aa ?_));refine AH _ _ (Jg ⟨ax,cx,rfl⟩ V ?_);refine AH _ _ (F5 aq ?_);refine AH _ _ (G2 au fun r aD=>?_);refine aw r _ ai aB ?_ ?_ aD
  ·simp only [Array.size_append,List.size_toArray,Pw,ar,ae,Z];rw [← Nat.add_mul,← Nat.add_mul];congr 1;omega
  ·simp only [Array.toList_append];rw [List.take_append_of_le_length (by simp [ae,Z,Nat.add_mul])];rw [List.take_of_length_le (by simp [ae,Z,Nat.add_mul])]
end
theorem Ap.spot{α:Type}{pp:Rp α}{E:LH}{a:Option Addr}{c:Nat}{xs:List α}(h:Ap pp E a c xs):∀ad,a=some ad→ad.spot=none∨c=0:=fun ad K=>by
 rcases h.2 with⟨_,h⟩ | ⟨bk,off,h,_⟩
 ·exact h ad K
 ·rw [h] at K;cases K;exact .inl rfl
theorem Ap.full{α:Type}{pp:Rp α}{E:LH}{a:Option Addr}{c:Nat}{xs:List α}(h:Ap pp E a c xs):Ap pp E a xs.length xs:=⟨Nat.le_refl _,h.2.imp (fun⟨h,_⟩=>⟨h,fun _ _=> .inr (by rw [h];rfl)⟩) id⟩
theorem Ap.RG{α:Type}{pp:Rp α}{E H:LH}{B:List (Nat×Obj)}{a:Option Addr}{c:Nat}{ys:List α}(Z:Ap pp E a c ys):
  ∃K:List (Lv_),K.length=ys.length∧(∀(i:Nat) x ws,ys[i]? =some x→K[i]? =some ws→pp.r E ws x)∧GJ (mk E H B) (.slice a ys.length c) pp.n K.flatten∧∀w∈K.flatten,Cx w=true:=by
 obtain⟨K,U,W,V⟩:=Z.rows;have aa:=HO U W;refine⟨K,U,W,?_,fun w hw=>?_⟩
 ·rcases V with⟨V,ai⟩ | ⟨bk,off,rfl,V⟩
  ·subst V;have:K= []:=List.eq_nil_of_length_eq_zero U;subst this;cases a with
   | none=>exact⟨rfl,rfl⟩
   | some ad=>exact⟨.inr rfl,by simp,Nat.zero_le _,fun q w O=>by simp at O⟩
  ·refine⟨.inl rfl,by rw [L3 aa,U],Z.1,fun q w O=>?_⟩;obtain⟨q1,m,ws,ab,e2,ae⟩:=NY aa O;have:=(V q1 ws ab).cell (H:=H) (B:=B) e2;subst ae;rw [← Nat.add_assoc];exact this
 ·obtain⟨us,ag,hw⟩:=List.mem_flatten.1 hw;obtain⟨q,O⟩:=List.mem_iff_getElem?.1 ag;have ah:q<ys.length:=by rw [← U];exact(List.getElem?_eq_some_iff.1 O).1
  exact pp.one (W q _ us (List.getElem?_eq_getElem ah) O) w hw
theorem XJ{P:Program}{s:St}{t:TypeId}{a b:Bool}(ht:P.underlying t=some .bool){Q:Bool→St→Prop}{X:Halt→St→Prop}(h:Q (a==b) s):lp P (Op.equal t (.bool a) (.bool b)) s Q X:=by
 unfold Op.equal Op.maxDepth Op.equalIn;exact AH _ _ (Di ht h)
theorem Xe{P:Program}{s:St}{ρ:Operand→Value}{x y:Operand}{d:Option Tmp}{t u ty:TypeId}{p:String}{af:Ae_}{g:On_}{a b:Bool}(ht:P.underlying t=some .bool)(K:ρ x= .bool a)(O:ρ y= .bool b):Yl P ⟨d,.binOp .neq t x y u,ty,p,af,g⟩ ρ s (.bool (a != b)):=by
 refine Fx (sm:=do eqGuard .neq t x y (ρ x) (ρ y);binOp .neq t (ρ x) (ρ y)) rfl ?_
 rw [K,O];have hg:lp P (eqGuard .neq t x y (.bool a) (.bool b)) s (fun _ s'=>s'=s) (fun _ _=>False):=by simp [eqGuard,lp,pure]
 refine AH _ _ (Dv _ hg ?_ (fun _ _ h=>h));rintro _ _ rfl;have hb:binOp .neq t (.bool a) (.bool b)=(do pure (.bool (!(← Op.equal t (.bool a) (.bool b))))):=rfl
 rw [hb];exact AH (x:=Op.equal t (.bool a) (.bool b)) _ (XJ ht ⟨rfl,rfl⟩)
section
variable {P:Program}{J:Judge P}{Q:Gs_}{b:Frame}{n:Nat}{ds:Ld_}{ops:Ao_}{k:Li_}{cs:Lf_}{L:Env}{s:St}{E E' H:LH}{S:List Seg}
variable {d:Option Tmp}{x y z1:Operand}{t u ty e:TypeId}{p:String}{af:Ae_}{g:On_}{v:Value}{i:Nat}{rest:List Nat}{kd:IntKind}{ρ:Operand→Value}
theorem Uf{a:Option Addr}{l c sz:Nat}(K:∀ad,a=some ad→ad.spot=none∨c=0)(O:l≤c)(ht:P.underlying t=some (.slice e))(U:BA P e=some sz)(V:ρ x= .slice a l c)(W:ρ y=iV (l:Int))(Z:ρ z1=iV (l:Int)):
  Yl P ⟨d,.slice t x none (some y) (some z1),ty,p,af,g⟩ ρ s (.slice a l l):=by
 have h:=Yl.slice (P:=P) (s:=s) (d:=d) (ty:=ty) (p:=p) (af:=af) (g:=g) (olo:=none) (ohi:=some y) (omx:=some z1) (lo:=0) (hi:=l) (mx:=l) ht U V Z W rfl O (Nat.le_refl _) (Nat.zero_le _);have aa:(if l=0 then a else a.map (·.add (0*sz)))=a:=by
  split
  ·rfl
  ·cases a with
   | none=>rfl
   | some ad=>
    have:=(K ad rfl).resolve_right (by omega);simp only [Option.map_some,Nat.zero_mul];rw [El this];obtain⟨b,o,sp⟩:=ad;simp only at this;subst this;simp
 rw [aa] at h;simpa using h
theorem TV{α:Type}{pp:Rp α}{t1:TypeId}{V c cx:Nat}{a ax:Option Addr}{xs ys W:List α}{ats:Array TypeId}{z:Value}(U:Dy xs ys=some W)
  (aj:ops[i]? =some ⟨d,.call ⟨.builtin .append,#[x,y],ats⟩,ty,p,af,g⟩) (hw:Bi L ops ⟨d,.call ⟨.builtin .append,#[x,y],ats⟩,ty,p,af,g⟩=some true) (ak:CZ b n ⟨d,.call ⟨.builtin .append,#[x,y],ats⟩,ty,p,af,g⟩=true)
  (al:ev L x=some (.slice a xs.length xs.length)) (am:ev L y=some (.slice ax ys.length cx)) (an:ats[0]? =some t) (ao:ats[1]? =some t1) (ht:P.underlying t=some (.slice e)) (ap:P.underlying t1=some (.slice e)) (aq:BA P e=some pp.n) (hb:Ey P e=some V) (ar:zeroOf P e=some z) (au:z.cells.size=pp.n)
  (av:0<V) (aw:V≤64) (Z:Ap pp E a c xs) (ay:Ap pp E ax cx ys) (aa:Au E H S)
  (h:∀E' ab K,Le E E'→Ap pp E' ab K W→Au E' H (S++ [[]])→JL J Q b n (AF L d (.slice ab W.length K)) ds (.inRegion ops rest::k) cs (Ak E' H (S++ [[]]))):
  JL J Q b n L ds (.inRegion ops (i::rest)::k) cs (Ak E H S):=by
 unfold Dy at U;split at U
 rotate_left
 ·cases U
 rename_i az;cases U;obtain⟨wss,ae,aA,aB,aR⟩:=Ap.RG (H:=H) (B:=S.flatten) Z.full;obtain⟨aC,aD,aE,aF,aG⟩:=Ap.RG (H:=H) (B:=S.flatten) ay;have hlen:(xs++ys).length=xs.length+ys.length:=by simp
 show JL J Q b n L ds (.inRegion ops (i::rest)::k) cs (mk E H S.flatten);refine JL.op aj hw ak fun ρ ag=>?_;rw [LZ,ag x _ al,ag y _ am];refine AH _ _ (Tp an ao ap ht aq hb ar au aa aB aF aG av az aw ?_ ?_)
 ·intro hm;have aH:ys= []:=List.eq_nil_of_length_eq_zero hm;subst aH;have aI:Au E H (S++ [[]]):=by unfold Au at*;rw [FT,List.append_nil];exact aa
  have aJ:mk E H S.flatten=Ak E H (S++ [[]]):=by unfold Ak;rw [FT,List.append_nil]
  rw [aJ];have:=h E a xs.length (Le.refl _) (by rw [List.append_nil];exact Z.full) aI;rw [hlen] at this;exact this
 ·intro r O K aK aL aM aN;have aO:OL e pp E (some ⟨r,0,none⟩) K [(r,.cells O e (0,0))] (xs++ys):=
   ⟨wss++aC,.inr ⟨r,O,rfl,rfl,aL,by rw [hlen];exact aK,by rw [hlen,List.flatten_append];exact aM.symm⟩,by simp [ae,aD],N3 ae aA aE⟩
  have ah:=EB (S:=S) (seg:= [(r,.cells O e (0,0))]) aN;show JL J Q b n _ ds _ cs (mk E H (S.flatten++ [(r,.cells O e (0,0))]));rw [ah.1];refine Cc S.length aO ah.2 (by simp) fun E' hle aP ai=>?_;have aQ:(S++ [[(r,Obj.cells O e (0,0))]]).set S.length []=S++ [[]]:=GD _ _ _ _;rw [aQ] at ai ⊢;have:=h E' (some ⟨r,0,none⟩) K hle aP ai;rw [hlen] at this;exact this
end
end Pal
namespace Pal
open Go Go.Conc
open Go.ConcN (sumTo upd sumTo_upd upd_ne upd_same)
def KT(P:Program)(R:Value→St→Prop):GP:=fun g s=>
 g.status= .running∧∃v,R v s∧∀w,stepG P true g w= .ended (.done v) w #[]
section
variable {P:Program}{R:Value→St→Prop}{J:Judge P}{n:Nat}{L:Env}{s:St}{b:Frame}
theorem JO.end{fn:Func}{t:Tmp}{v:Value}(K:b.kind= .normal)(hi:P.inits.idxOf? b.fn=none)(O:P.funcs[b.fn]? =some fn)(U:fn.results= #[.tmp t])(V:look L t=some v)(W:R v s):JO J (KT P R) b n L [] [] s:=fun T Z todo=>by
 refine J.stop ⟨rfl,v,W,fun w=>?_⟩
 have e:results fn T=Sem.pure v:=by
  have:=Z.at_ t v V;simp only [results,U,Array.mapM_eq_mapM_toList];show Sem.pure (T.getD t undef)=_;rw [this]
 have aa:(results fn T).run P w= .ok v w:=by rw [e];rfl
 have e2:(results fn T).events P w #[]= #[]:=by rw [e];simp [Sem.events_pure']
 simp [G,stepG,unwind,ED,O,aa,e2,doReturn,K,GStep.after,hi,seen_none]
end
section
variable {P:Program}{R:Value→St→Prop}
def Lo(P:Program)(R:Value→St→Prop)(K:World)(s₀:St)(v:Value)(w':World):Prop:=
 ∃s,R v s∧Fits s w'∧(∀b o,s₀.E b=some o→s.E b=some o)∧w'.tape=K.tape∧w'.os=K.os∧w'.output=K.output
def Pj(P:Program)(R:Value→St→Prop)(K:World)(s₀:St)(O:Nat)(m:Machine)(t:Trace):Prop:=
 ∃gs w sl q Sh g s,m=crowd gs w sl∧Gw P gs w t q Sh g s∧KT P R g s∧O=sumTo gs.size q∧(∀b o,s₀.E b=some o→s.E b=some o)∧w.tape=K.tape∧w.os=K.os∧w.output=K.output
theorem Va{ag:World}{s₀:St}(ak:Nat)(m:Machine)(t:Trace)(h:Pj P R ag s₀ ak m t):
  (∃o w ops,stepT P m=(.ended o w,ops)∧Good P (Lo P R ag s₀) m o w (t++ops))∨(∃m' ops al,stepT P m=(.next m',ops)∧al<ak∧Pj P R ag s₀ al m' (t++ops)):=by
 obtain⟨gs,w,sl,q,Sh,g,s,rfl,hC,aB,rfl,am,an,ao,ap⟩:=h;obtain⟨Z,v,aq,ar⟩:=aB;have aC:∀x∈gs,awake x:=by
  intro x V;obtain⟨i,hi,rfl⟩:=Array.mem_iff_getElem.1 V;rcases Nat.eq_zero_or_pos i with rfl | ah
  ·have:gs[0]=g:=by simpa [Array.getElem?_eq_getElem hi] using hC.main
   rw [this];exact awake_of (.inl Z)
  ·exact awake_of ((hC.lv.old i _ ah (Array.getElem?_eq_getElem hi)).status.elim .inl fun x=> .inr (.inr x))
 obtain⟨i,x,d,au,hi,V,av⟩:=crowd_pick (P:=P) (w:=w) (sl:=sl) aC ⟨0,g,hC.main,Z⟩;have aw:=hC.at_ d;have aD:0<gs.size:=(Array.getElem?_eq_some_iff.1 hC.main).1;have aE:∀(a:Nat) (fn:FuncId) (pos:String),MemOp.ofEvents a fn pos #[]= #[]:=fun a fn pos=>by rw [ofEvents_eq];simp
 rcases Nat.eq_zero_or_pos i with rfl | ah
 ·obtain rfl:x=g:=by rw [hC.main] at hi;exact(Option.some.inj hi).symm
  have aa:=runT_many_ended (P:=P) (sl:=au) (i:=0) hi (show stepG P (0==0) x (w.at d)=_ from ar (w.at d));rw [aE] at aa;refine .inl ⟨_,_,_,av.trans aa,v,rfl,⟨s,aq,aw.CX.fits 0 aD,am,an,ao,ap⟩,?_,?_,⟨fun y K=>?_,rfl⟩,fun j y K O=>?_⟩
  ·simpa using hC.CX.clean
  ·simpa using hC.over
  ·obtain⟨j,O⟩:=List.mem_iff_getElem?.1 K;rw [List.getElem?_drop] at O;exact⟨_,(hC.lv.old (1+j) y (by omega) (by simpa [crowd] using O)).leaves⟩
  ·have W:=hC.lv.old j y (by omega) K;exact⟨q j,by simp only [Array.append_empty];exact W.hears w⟩
 ·have W:=hC.lv.old i x ah hi;have aF:(i==0)=false:=by simp;omega
  have ay:i<gs.size:=(Array.getElem?_eq_some_iff.1 hi).1;cases ai:q i with
  | zero=>rw [ai] at W;rw [W.1] at V;cases V
  | succ k=>
   rw [ai] at W;rcases W with⟨aG,_⟩ | ⟨_,x',es,hm,aH,aI⟩
   ·rw [aG] at V;cases V
   have aM:sumTo gs.size (upd q i k)+(k+1)=sumTo gs.size q+k:=by
    have:=sumTo_upd q k id ay;simpa [ai] using this
   have aa:=runT_crowd_go (P:=P) (sl:=au) (i:=i) hi (by rw [aF];exact aH (w.at d));have aj:((gs.map (woken P x x' (w.at d))).setIfInBounds i x').size=gs.size:=by simp
   have ab:∀op∈MemOp.ofEvents i x.frame.fn x.frame.place es,op.g=i:=fun op U=>by obtain⟨e,_,rfl⟩:=mem_ofEvents U;rfl
   have az:∀op∈MemOp.ofEvents i x.frame.fn x.frame.place es,op.act.touch? =none:=fun op U=>by obtain⟨e,he,rfl⟩:=mem_ofEvents U;exact touch_mute (hm e he)
   have aJ:Gw P ((gs.map (woken P x x' (w.at d))).setIfInBounds i x') (w.at d) (t++MemOp.ofEvents i x.frame.fn x.frame.place es) (upd q i k) Sh g s:=by
    refine⟨?_,⟨fun j y O K=>?_,fun j O=>?_⟩,?_,?_,?_⟩
    ·have aK:i≠0:=by omega
     rw [Array.getElem?_setIfInBounds_ne aK,Array.getElem?_map,hC.main];simp [woken_run Z]
    ·by_cases ae:i=j
     ·subst ae;rw [Array.getElem?_setIfInBounds_self_of_lt (by simpa using ay)] at K;obtain rfl:=Option.some.inj K;rw [upd_same,Deaf_own];exact aI
     ·rw [Array.getElem?_setIfInBounds_ne ae,Array.getElem?_map] at K;obtain⟨z,aL,rfl⟩:=Option.map_eq_some_iff.1 K;have aA:=hC.lv.old j z O aL;rw [woken_quitsD aA,upd_ne q k (Ne.symm ae),Deaf_other t ae _ ab];exact aA
    ·rw [Deaf_other t (g':=i) (by simp at O;omega) _ ab];exact hC.lv.above j (by simpa using O)
    ·rw [aj];exact aw.CX.mute ab az (fun op U=>by obtain⟨e,he,rfl⟩:=mem_ofEvents U;exact low_mute (hm e he) _) rfl
    ·exact handedOver_app hC.over fun op U=> .inr (az op U)
    ·rw [Deaf_other t (by omega) _ ab];exact hC.hears
   exact .inr ⟨_,_,_,av.trans aa,by rw [← aj];rw [aj];omega,_,_,_,_,_,_,_,rfl,aJ,⟨Z,v,aq,ar⟩,rfl,am,an,ao,ap⟩
theorem ends{gs:Array Goroutine}{w:World}{sl:Option (Nat×Nat)}{t:Trace}{q:Nat→Nat}{Sh:Nat→Prop}{g:Goroutine}{s:St}(hC:Gw P gs w t q Sh g s)(O:KT P R g s):
  ∃N last o w' K,runNT P (N+1) (crowd gs w sl) t=(.ended o w',K)∧runN P N (crowd gs w sl)= .next last∧step P last= .ended o w'∧Good P (Lo P R w s) last o w' K:=
 run_of_inv Nat.lt_wfRel.wf (Pj P R w s) (Good P (Lo P R w s)) Va _ _ _ ⟨gs,w,sl,q,Sh,g,s,rfl,hC,O,rfl,fun _ _ h=>h,rfl,rfl,rfl⟩
theorem TS{m m':Machine}{t K:Trace}{n:Nat}(h:runNT P n m t=(.next m',K)):runN P n m= .next m':=by rw [← runNT_fst P n m t,h]
def IF(W:World):St:=⟨fun b=>W.heap[b]?,fun _=>none,false⟩
theorem VA{W:World}{g:Goroutine}(h:(DR P).ok (KT P R) g (IF W)):
  ∃M last o w' K,runNT P (M+1) (solo g W) #[]=(.ended o w',K)∧runN P M (solo g W)= .next last∧step P last= .ended o w'∧Good P (Lo P R W (IF W)) last o w' K:=by
 have hC:Gw P #[g] W #[] (fun _=>0) (fun _=>False) g (IF W):=by
  have V:∀{i:Nat} {a:Touch},touchAt #[] i=some a→False:=fun {i a} h=>by simp [touchAt,Trace.act?] at h
  refine⟨rfl,leavers_one P g,⟨fun i hi=>?_,fun i j hi aa aB=>by simp at hi aa;omega,fun i hi b hb=>hb.elim,fun b hb=>hb.elim,fun said=>?_,by simp,fun i _ b _ x a O=>(V O).elim,fun i _ b _ x a O=>(V O).elim⟩,fun i g hg=>by simp [Trace.g?] at hg,rfl⟩
  ·have:i=0:=by simp at hi;exact hi
   subst this;exact⟨fun b o U=>U,fun b o U=>(by cases U),fun b _=>rfl⟩
  ·rintro⟨i,j,_,⟨a,b,ab,_⟩,_⟩;simp [Trace.act?] at ab
 obtain⟨n,gs',w',ae,K,aC,aD,g',s',Z,ag,ah,ai,aj,ak,al⟩:=h #[g] W none #[] _ _ hC;obtain⟨N,last,o,am,an,k1,ao,ap,aq⟩:=ends (sl:=ae) ag ah;refine⟨n+N,last,o,am,an,?_,?_,ap,?_⟩
 ·rw [solo_eq_crowd,Nat.add_assoc,runNT_add,Z];exact k1
 ·have ar:=TS Z;rw [solo_eq_crowd,runN_add,ar];exact ao
 ·obtain⟨v,e,⟨s2,au,av,aw,ay,az,aA⟩,r⟩:=aq;exact⟨v,e,⟨s2,au,av,fun b o hb=>aw b o (ai b o hb),ay.trans aj,az.trans ak,aA.trans al⟩,r⟩
end
end Pal
namespace Pal
open Go Go.Conc
theorem Uw{P:Program}{Q:Gs_}{E H:LH}{f:FuncId}{fn:Func}{c:Code}{vs:Lv_}(U:P.funcs[f]? =some fn)(hb:fn.body=some c)(Z:fn.ntmps=fn.ntmps)(aa:vs.length≤fn.ntmps)
  (h:JL (DR P) Q (base f) fn.ntmps (FW 0 vs) [] [.code c] [] (Ak E H [[]])):(DR P).ok Q (G (Frame.enter P f vs.toArray .normal) []) (mk E H []):=by
 have he:Frame.enter P f vs.toArray .normal=fr (base f) (vs.toArray++Array.replicate (fn.ntmps - vs.length) undef) [] [.code c]:=by
  simp [Frame.enter,fr,U,hb,base];rfl
 rw [he];have V:mk E H []=Ak E H [[]]:=by unfold Ak;simp
 rw [V];refine h _ ⟨by simp;omega,fun t v ht=>?_⟩;obtain⟨_,K⟩:=Ji ht;have W:t<vs.length:=by
  rcases Nat.lt_or_ge t vs.length with O | O
  ·exact O
  ·simp at K;have:=(List.getElem?_eq_some_iff.1 K).1;omega
 rw [Array.getD_eq_getD_getElem?,Array.getElem?_append_left (by simpa using W)];simp at K;simp [K]
end Pal
namespace Pal
open Go Go.Conc Go.Proofs Go.ChangeShapes Go.WideShapes Go.ChangeAt Go.RowKit
open Go.Proofs.YtboibffcmhheiaaGreatDoor (Rows.laid_errors_errorType)
theorem Tryz.own:ownKnob Tryz.prog.godebug=none:=by kernel_rfl
theorem Tryz.laidOut:laidOutB Tryz.prog=true:=by kernel_rfl
theorem Tryz.Xs:Tryz.prog.cellsOf 3=1:=by kernel_rfl
theorem Vg{W:World}{a:Addr}{len cap:Nat}{K:List Int}(V:a.spot=none)(ah:len≤cap)(ab:len≤K.length)(ae:∀i,i<K.length→W.cell? (a.add i)=some (.int .i64 (K.getD i 0))):
  Ap rI (IF W).E (some a) cap (K.take len)∧(K.take len).length=len:=by
 have aa:(K.take len).length=len:=by simp [Nat.min_eq_left ab]
 refine⟨⟨by omega,.inr ⟨a.block,a.off,?_,fun i x Z=>⟨[iV x],rfl,?_⟩⟩⟩,aa⟩
 ·obtain⟨b,o,s⟩:=a;simp only at V;subst V;rfl
 ·have hi:i<len:=by rw [← aa];exact(List.getElem?_eq_some_iff.1 Z).1
  have O:=ae i (by omega);have ag:K.getD i 0=x:=by
   rw [List.getElem?_take_of_lt hi] at Z;rw [List.getD_eq_getElem?_getD,Z];rfl
  rw [ag,El V] at O;unfold World.cell? at O;split at O
  ·rename_i c e f hW;simp only [Option.isSome_none,Bool.false_eq_true,if_false] at O;refine⟨c,e,f,hW,fun j w U=>?_⟩
   match j,U with
   | 0,U=>
    simp at U;subst U;show c[a.off+i*1+0]? =some (.int .i64 x);simpa using O
   | j+1,U=>simp at U
  ·cases O
theorem TJ{W:World}{base:Nat}{t e:TypeId}{a:Addr}{len cap:Nat}(ht:Tryz.prog.underlying t=some (.slice e))(h:Value.okWide Tryz.prog W .any base t (.slice (some a) len cap)):a.spot=none∧len≤cap:=by
 simp only [Value.okWide,ht,Cell.okWide,Cell.ok] at h;exact⟨h.2.2.2.1,h.1⟩
theorem TK{R:Value→St→Prop}{W w':World}{v:Value}(h:Lo Tryz.prog R W (IF W) v w'):(∃s,R v s)∧Below W.heap.size W w':=by
 obtain⟨s,V,Z,aa,ht,ab,ae⟩:=h;have hb:∀k,k<W.heap.size→w'.heap[k]? =W.heap[k]? :=fun k O=>by
  have K:(IF W).E k=some W.heap[k]:=Array.getElem?_eq_getElem O;have U:=Z.e k _ (aa k _ K);rw [U,Array.getElem?_eq_getElem O]
 refine⟨⟨s,V⟩,⟨ab,ht,ae,?_,hb⟩⟩;rcases Nat.eq_zero_or_pos W.heap.size with ag | ag
 ·omega
 ·have K:=hb (W.heap.size - 1) (by omega);have ah:W.heap[W.heap.size - 1]? =some W.heap[W.heap.size - 1]:=Array.getElem?_eq_getElem (by omega);rw [ah] at K;have U:=(Array.getElem?_eq_some_iff.1 K).1;omega
noncomputable def P4(os:Os):World:=
 let w0:=World.holding Tryz.prog os ⟨#[],#[],[]⟩
 {w0 with heap:=w0.heap.modify 0 fun
   | .cells _ t frozen=> .cells #[.iface 240 (.agg #[.pointer (some ⟨1,149,none⟩)])] t frozen
   | o=>o}
theorem Tw(os:Os)(args:AA):laidMetH Tryz.prog [("errors.errorType",Go.Proofs.YtboibffcmhheiaaGreatDoor.Rows.laid_errors_errorType)] ((P4 os).forCall (fun _ _=>0) ⟨#[],args,[]⟩).memory:=
 laidMetH_of_parts (laidMet_nil _ _) (by kernel_rfl)
end Pal
namespace Pal
open Go Go.Conc
theorem oi{α:Type}{a b:α}(h:some a=some b):a=b:=Option.some.inj h
theorem bs{α β:Type}{o:Option α}{f:α→Option β}{r:β}(h:o.bind f=some r):∃x,o=some x∧f x=some r:=bind_some h
def Hp(L:Env):Env→List (Option Value)
 | []=> []
 | (t,_)::L'=>look L t::Hp L L'
def Ht:Env→List (Option Value)
 | []=> []
 | (_,v)::L'=>some v::Ht L'
theorem ON{L:Env}:∀{L':Env},Hp L L'=Ht L'→Sub L' L
 | [],_=>trivial
 | (t,v)::L',h=>by
  simp only [Hp,Ht,List.cons.injEq] at h
  exact⟨h.1,ON h.2⟩
section
variable {P:Program}{J:Judge P}{Q:Gs_}{b:Frame}{n:Nat}{L L':Env}{ds:Ld_}{k k':Li_}{cs:Lf_}{s:St}{ops:Ao_}{i:Nat}{rest:List Nat}{v:Value}
variable {d:Option Tmp}{op:Op}{ty:TypeId}{p:String}{af:Ae_}{g:On_}
theorem Iv(L':Env)(h:Hp L L'=Ht L')(k':JL J Q b n L' ds k cs s):JL J Q b n L ds k cs s:=Fg (ON h) k'
theorem Aw(k':JL J Q b n L' ds k cs s)(h:Hp L L'=Ht L'):JL J Q b n L ds k cs s:=Fg (ON h) k'
def Ep(b:Frame)(n:Nat)(L:Env)(ops:Ao_)(i:Nat):Option Oper:=
 match HZ ops.toList i with
 | some ⟨d,op,ty,p,af,g⟩=>match Bi L ops ⟨d,op,ty,p,af,g⟩ with
  | some true=>match CZ b n ⟨d,op,ty,p,af,g⟩ with
   | true=>some ⟨d,op,ty,p,af,g⟩
   | false=>none
  | _=>none
 | none=>none
theorem IT{o:Oper}(h:Ep b n L ops i=some o):ops[i]? =some o∧Bi L ops o=some true∧CZ b n o=true:=by
 unfold Ep at h;split at h
 ·rename_i K;rw [Jy,Array.getElem?_toList] at K;split at h
  ·rename_i hw;split at h
   ·rename_i O;cases h;exact⟨K,hw,O⟩
   ·cases h
  ·cases h
 ·cases h
theorem Ay(K:Ep b n L ops i=some ⟨d,op,ty,p,af,g⟩)(h:∀ρ,EL L ρ→Yl P ⟨d,op,ty,p,af,g⟩ ρ s v)(O:JL J Q b n (AF L d v) ds (.inRegion ops rest::k) cs s):
  JL J Q b n L ds (.inRegion ops (i::rest)::k) cs s:=
 let ⟨U,V,W⟩:=IT K
 Bc U V W h O
theorem OH{f:FuncId}{fn:Func}{c:Code}{E:LH}{vs:Lv_}{B:Seg}{R:Value→LH→Seg→Prop}(O:P.funcs[f]? =some fn)(hb:fn.body=some c)(U:Nat.ble vs.length fn.ntmps=true)
  (h:∀(Q:Gs_) (K:Frame) (cs:Lf_) (H:LH),Au E H [B]→(∀v E' S' B',Le E E'→S'.flatten=B'→R v E' B'→Au E' H S'→J.ok Q (G (K.finish v) cs) (Ak E' H S'))→JL J Q (base f) fn.ntmps (FW 0 vs) [] [.code c] (K::cs) (Ak E H [B])):AU J f vs E B R:=
 AU.enter O hb (Nat.le_of_ble_eq_true U) h
def NF(n:Nat)(L:Env)(ops:Ao_)(i:Nat):Option Env:=
 match HZ ops.toList i with
 | some ⟨d,op,ty,p,af,g⟩=>match Bi L ops ⟨d,op,ty,p,af,g⟩ with
  | some true=>match BE n d with
   | true=>match Ja L op with
    | some v=>match d with
     | some d=>some ((d,v)::L)
     | none=>some L
    | none=>none
   | false=>none
  | some false=>match BE n d with
   | true=>match d with
    | some d=>some ((d,undef)::L)
    | none=>some L
   | false=>none
  | none=>none
 | none=>none
def Gd(n:Nat)(L:Env)(ops:Ao_)(i:Nat):Option Oper:=
 match HZ ops.toList i with
 | some ⟨d,op,ty,p,af,g⟩=>match Bi L ops ⟨d,op,ty,p,af,g⟩ with
  | some true=>match BE n d with
   | true=>some ⟨d,op,ty,p,af,g⟩
   | false=>none
  | _=>none
 | none=>none
theorem Oa{o:Oper}(h:Gd n L ops i=some o):ops[i]? =some o∧Bi L ops o=some true∧BE n o.dst=true:=by
 unfold Gd at h;split at h
 ·rename_i K;rw [Jy,Array.getElem?_toList] at K;split at h
  ·rename_i hw;split at h
   ·rename_i O;cases h;exact⟨K,hw,O⟩
   ·cases h
  ·cases h
 ·cases h
theorem VH(h:NF n L ops i=some L'):∃o,ops[i]? =some o∧BE n o.dst=true∧((∃v,Bi L ops o=some true∧Ja L o.op=some v∧L'=AF L o.dst v)∨(Bi L ops o=some false∧L'=AF L o.dst undef)):=by
 unfold NF at h;split at h
 ·rename_i d op ty p af g O;rw [Jy,Array.getElem?_toList] at O;refine⟨_,O,?_⟩;split at h
  ·rename_i hw;split at h
   ·rename_i K;refine⟨K,.inl ?_⟩;split at h
    ·rename_i v U;refine⟨v,hw,U,?_⟩;cases d with
     | none=>cases h;rfl
     | some d=>cases h;rfl
    ·cases h
   ·cases h
  ·rename_i hw;split at h
   ·rename_i K;refine⟨K,.inr ⟨hw,?_⟩⟩;cases d with
    | none=>cases h;rfl
    | some d=>cases h;rfl
   ·cases h
  ·cases h
 ·cases h
variable {m:Nat}{D:Nat→Bool}{fuel:Nat}{listed:Array Bool}
theorem Cz(i:Nat)(K:DG ops m=true)(O:s.q=false)(h:NF n L ops i=some L')
  (U:AV J Q b n ds ops k cs m D fuel (Bg listed i) L' s) (V:FC ops listed m i=true:=by decide+kernel):AV J Q b n ds ops k cs m D (fuel+1) listed L s:=by
 obtain⟨o,W,Z,⟨v,hw,aa,rfl⟩ | ⟨hw,rfl⟩⟩:=VH h
 ·exact OZ i W K V O hw Z (fun ρ ab s' _=>Mx ab aa) U
 ·exact YO i W K V O hw Z U
theorem Bw(i:Nat)(K:DG ops m=true)(O:s.q=false)(U:Gd n L ops i=some ⟨d,op,ty,p,af,g⟩)
  (V:∀ρ,EL L ρ→∀s':St,(∀x o,(BF D s).E x=some o→s'.E x=some o)→Yl P ⟨d,op,ty,p,af,g⟩ ρ s' v)
  (W:AV J Q b n ds ops k cs m D fuel (Bg listed i) (AF L d v) s) (Z:FC ops listed m i=true:=by decide+kernel):AV J Q b n ds ops k cs m D (fuel+1) listed L s:=by
 obtain⟨aa,ab,ae⟩:=Oa U;exact OZ i aa K Z O ab ae V W
end
end Pal
namespace Pal
open Go Go.Conc
abbrev Jn(E H E':LH)(S:List Seg)(K L:Env)(s:St)(R:Prop):Prop:=L=K∧s=Ak E' H S∧Le E E'∧Au E' H S∧R
abbrev Jm(E H E':LH)(S:List Seg)(K L:Env)(s:St):Prop:=L=K∧s=Ak E' H S∧Le E E'∧Au E' H S
def Ny(L:Env):List ResultVar→Option (Lv_)
 | []=>some []
 | .tmp t::rs=>match look L t with
  | some v=>match Ny L rs with
   | some vs=>some (v::vs)
   | none=>none
  | none=>none
 | _=>none
theorem RY{P:Program}{L:Env}{s:St}:∀{rs:List ResultVar} {vs:Lv_},Ny L rs=some vs→RV P L s rs vs
 | [],vs,h=>by cases h;trivial
 | .tmp t::rs,vs,h=>by
  unfold Ny at h
  split at h
  ·rename_i v K
   split at h
   ·rename_i ws hw;cases h;exact⟨K,RY hw⟩
   ·cases h
  ·cases h
 | .cell _ _::_,_,h=>by cases h
section
variable {P:Program}{J:Judge P}{Q:Gs_}{b:Frame}{n:Nat}{L L':Env}{ds:Ld_}{k k':Li_}{cs:Lf_}{s:St}{ops:Ao_}{i:Nat}{rest:List Nat}{v:Value}{E H:LH}{S:List Seg}
variable {d:Option Tmp}{op:Op}{x y:Operand}{t ft ty e:TypeId}{p:String}{af:Ae_}{g:On_}
theorem AL{c:Frame}{fn:Func}{vs:Lv_}(O:P.funcs[b.fn]? =some fn)(K:(b.kind== .normal&&b.roundOf.isNone)=true)(U:Ny L fn.results.toList=some vs)(h:J.ok Q (G (c.finish (Mm vs)) cs) s):JL J Q b n L [] (.code .ret::k) (c::cs) s:=by
 simp only [Bool.and_eq_true,beq_iff_eq,Option.isNone_iff_eq_none] at K;exact JL.ret K.1 K.2 (B6.list O rfl (RY U)) h
theorem BR{f:FuncId}{args:Array Operand}{ats:Array TypeId}{vs:Lv_}{R:Value→LH→Seg→Prop}
  (O:AU J f vs E [] R) (U:Ep b n L ops i=some ⟨d,.call ⟨.value (.func f),args,ats⟩,ty,p,af,g⟩) (V:evs L args.toList=some vs) (hb:D9 P f=true)
  (W:Au E H S) (Z:∀v E' seg',Le E E'→R v E' seg'→Au E' H (S++ [seg'])→JL J Q b n (AF L d v) ds (.inRegion ops rest::k) cs (Ak E' H (S++ [seg']))):
  JL J Q b n L ds (.inRegion ops (i::rest)::k) cs (Ak E H S):=by
 obtain⟨aa,ab,K⟩:=IT U;refine JS.call O aa ab ?_ hb V W Z;simp only [CZ,Bool.and_eq_true] at K ⊢;exact⟨K.1,K.2.1⟩
theorem BJ{f:FuncId}{args:Array Operand}{ats:Array TypeId}{vs:Lv_}{v:Value}
  (O:AU J f vs E [] (fun w E' B'=>w=v∧B'= [])) (U:Ep b n L ops i=some ⟨d,.call ⟨.value (.func f),args,ats⟩,ty,p,af,g⟩) (V:evs L args.toList=some vs) (hb:D9 P f=true)
  (K:Au E H S) (W:∀E',Le E E'→Au E' H (S++ [[]])→JL J Q b n (AF L d v) ds (.inRegion ops rest::k) cs (Ak E' H (S++ [[]]))):
  JL J Q b n L ds (.inRegion ops (i::rest)::k) cs (Ak E H S):=BR O U V hb K (by rintro _ E' _ hle ⟨rfl,rfl⟩ K;exact W E' hle K)
theorem B8{f:FuncId}{args:Array Operand}{ats:Array TypeId}{vs:Lv_}{seg:Seg}{R:Value→LH→Seg→Prop}(j:Nat)
  (O:AU J f vs E seg R) (U:Ep b n L ops i=some ⟨d,.call ⟨.value (.func f),args,ats⟩,ty,p,af,g⟩) (V:evs L args.toList=some vs) (hb:D9 P f=true)
  (W:Au E H S) (Z:S[j]? =some seg) (aa:∀v E' seg',Le E E'→R v E' seg'→Au E' H (S.set j seg')→JL J Q b n (AF L d v) ds (.inRegion ops rest::k) cs (Ak E' H (S.set j seg'))):
  JL J Q b n L ds (.inRegion ops (i::rest)::k) cs (Ak E H S):=by
 obtain⟨ab,ae,K⟩:=IT U;refine Oi j O ab ae ?_ hb V W Z aa;simp only [CZ,Bool.and_eq_true] at K ⊢;exact⟨K.1,K.2.1⟩
def K0(fs:Array Field)(i:Nat):Option (Nat×TypeId):=match fs[i]? with
 | some f=>some (f.offset,f.type)
 | none=>none
theorem A9{r m m':Int}{u:TypeId}(h:Av (m+m')=some r)(K:Ep b n L ops i=some ⟨d,.binOp .add t x y u,ty,p,af,g⟩)(O:ev L x=some (iV m))(U:ev L y=some (iV m'))
  (V:JL J Q b n (AF L d (iV r)) ds (.inRegion ops rest::k) cs s):JL J Q b n L ds (.inRegion ops (i::rest)::k) cs s:=Ay K (fun _ q=>Xg (q _ _ O) (q _ _ U) h) V
theorem Cd{r m m':Int}{u:TypeId}(h:Av (m - m')=some r)(K:Ep b n L ops i=some ⟨d,.binOp .sub t x y u,ty,p,af,g⟩)(O:ev L x=some (iV m))(U:ev L y=some (iV m'))
  (V:JL J Q b n (AF L d (iV r)) ds (.inRegion ops rest::k) cs s):JL J Q b n L ds (.inRegion ops (i::rest)::k) cs s:=Ay K (fun _ q=>Dc (q _ _ O) (q _ _ U) h) V
theorem Bo{a:Option Addr}{e:TypeId}{l c:Nat}{ats:Array TypeId}(ht:P.underlying t=some (.slice e))(K:Ep b n L ops i=some ⟨d,.call ⟨.builtin .len,#[x],ats⟩,ty,p,af,g⟩)(O:ats[0]? =some t)(U:ev L x=some (.slice a l c))
  (V:JL J Q b n (AF L d (.int .i64 l)) ds (.inRegion ops rest::k) cs s):JL J Q b n L ds (.inRegion ops (i::rest)::k) cs s:=Ay K (fun _ q=>Yl.len O ht (q _ _ U)) V
theorem BL{bk o sz off:Nat}{fs:Array Field}{O:Nat}(ht:P.underlying t=some (.struct fs))(U:BA P ft=some (sz+1))(V:Ep b n L ops i=some ⟨d,.fieldAddr t x O,ty,p,af,g⟩)(W:ev L x=some (.pointer (some ⟨bk,o,none⟩)))(K:K0 fs O=some (off,ft))
  (Z:JL J Q b n (AF L d (.pointer (some ⟨bk,o+off,none⟩))) ds (.inRegion ops rest::k) cs s):
  JL J Q b n L ds (.inRegion ops (i::rest)::k) cs s:=by
 unfold K0 at K;split at K
 ·rename_i f aa;cases K;refine Ay V (fun ρ h=>Sv (a:=⟨bk,o,none⟩) sz f.offset ht U aa rfl rfl (h _ _ W)) ?_;rw [El rfl];exact Z
 ·cases K
theorem BY{bk o:Nat}{ws:Lv_}(j:Nat)(K:At E bk o ws)(ht:Dl P t=some false)(O:Ep b n L ops i=some ⟨d,.load t x,ty,p,af,g⟩)(U:ev L x=some (.pointer (some ⟨bk,o+j,none⟩)))(V:ws[j]? =some v)
  (W:JL J Q b n (AF L d v) ds (.inRegion ops rest::k) cs (Ak E H S)):
  JL J Q b n L ds (.inRegion ops (i::rest)::k) cs (Ak E H S):=
 Ay O (fun _ h=>Yl.load ht (h _ _ U) (At.Ll K V)) W
theorem SL{bk off:Nat}{c:AA}(j:Nat)(K:Au E H S)(O:BA P t=some v.cells.size)(U:Ep b n L ops i=some ⟨d,.store t x y,ty,p,af,g⟩)
  (V:ev L x=some (.pointer (some ⟨bk,off,none⟩))) (W:ev L y=some v) (Z:S[j]? =some [(bk,.cells c e (0,0))])
  (h:Au E H (S.set j [(bk,.cells (A4 c off v.cells.toList) e (0,0))])→JL J Q b n (AF L d undef) ds (.inRegion ops rest::k) cs (Ak E H (S.set j [(bk,.cells (A4 c off v.cells.toList) e (0,0))])))
  (hle:off+v.cells.size≤c.size:=by exact Nat.le_of_ble_eq_true rfl) (aa:∀u∈v.cells.toList,Cx u=true:=by simp [Value.cells,Cx]):
  JL J Q b n L ds (.inRegion ops (i::rest)::k) cs (Ak E H S):=by
 obtain⟨ab,ae,ag⟩:=IT U;exact JS.store j ab ae ag K V W O aa Z hle h
theorem Cf{bk o:Nat}{ws:Lv_}(K:At E bk o ws)(ht:Dl P t=some true)(O:BA P t=some ws.length)(U:Ep b n L ops i=some ⟨d,.load t x,ty,p,af,g⟩)(V:ev L x=some (.pointer (some ⟨bk,o,none⟩)))
  (W:JL J Q b n (AF L d (.agg ws.toArray)) ds (.inRegion ops rest::k) cs (Ak E H S)):
  JL J Q b n L ds (.inRegion ops (i::rest)::k) cs (Ak E H S):=
 Ay U (fun _ h=>FQ ht O (h _ _ V) (At.Sb K)) W
variable {m:Nat}{D:Nat→Bool}{fuel:Nat}{listed:Array Bool}
theorem Ch{bk o sz off:Nat}{fs:Array Field}{O:Nat}(i:Nat)(U:DG ops m=true)(ht:P.underlying t=some (.struct fs))(V:BA P ft=some (sz+1))(W:s.q=false)(Z:Gd n L ops i=some ⟨d,.fieldAddr t x O,ty,p,af,g⟩)(aa:ev L x=some (.pointer (some ⟨bk,o,none⟩)))(K:K0 fs O=some (off,ft))
  (ab:AV J Q b n ds ops k cs m D fuel (Bg listed i) (AF L d (.pointer (some ⟨bk,o+off,none⟩))) s) (ae:FC ops listed m i=true:=by decide+kernel):AV J Q b n ds ops k cs m D (fuel+1) listed L s:=by
 unfold K0 at K;split at K
 ·rename_i f ag;cases K;refine Bw i U W Z (fun ρ h _ _=>Sv (a:=⟨bk,o,none⟩) sz f.offset ht V ag rfl rfl (h _ _ aa)) ?_ ae;rw [El rfl];exact ab
 ·cases K
theorem CH{bk o:Nat}{ws:Lv_}(i:Nat)(K:DG ops m=true)(j:Nat)(O:At (BF D s).E bk o ws)(ht:Dl P t=some false)(U:s.q=false)(V:Gd n L ops i=some ⟨d,.load t x,ty,p,af,g⟩)(W:ev L x=some (.pointer (some ⟨bk,o+j,none⟩)))(Z:ws[j]? =some v)
  (aa:AV J Q b n ds ops k cs m D fuel (Bg listed i) (AF L d v) s) (ab:FC ops listed m i=true:=by decide+kernel):AV J Q b n ds ops k cs m D (fuel+1) listed L s:=
 Bw i K U V (fun _ h _ hs=>Yl.load ht (h _ _ W) (At.Pa O hs Z)) aa ab
theorem HU{bk o:Nat}{ws:Lv_}(i:Nat)(K:DG ops m=true)(O:At (BF D s).E bk o ws)(ht:Dl P t=some true)(U:BA P t=some ws.length)(V:s.q=false)(W:Gd n L ops i=some ⟨d,.load t x,ty,p,af,g⟩)(Z:ev L x=some (.pointer (some ⟨bk,o,none⟩)))
  (aa:AV J Q b n ds ops k cs m D fuel (Bg listed i) (AF L d (.agg ws.toArray)) s) (ab:FC ops listed m i=true:=by decide+kernel):AV J Q b n ds ops k cs m D (fuel+1) listed L s:=
 Bw i K V W (fun _ h _ hs=>FQ ht U (h _ _ Z) (At.O1 O hs)) aa ab
end
end Pal
namespace Pal
open Go Go.Conc
abbrev Bz:=List (List Int)×List (List Int)
abbrev BV:=List (List Int)×List (List Int)×List Nat
abbrev B9:=Int×List Int×Nat
abbrev Bx:=Int×Int×List B9
abbrev A6:=List (Int×Int)
abbrev BZ:=List Int×Int×Nat
abbrev Ao:=Option Addr
abbrev DD:Rp B9:=rP rI (rP (rL rI) (rN .u16))
abbrev Cr:Rp Bx:=rP rI (rP rI (rL DD))
abbrev BM:Rp (Int×Int):=rP rI rI
theorem ip{α:Type}{p:Prop} [Decidable p] {A B:Option α}{r:α}(h:(if p then A else B)=some r)(c:p):A=some r:=by rwa [if_pos c] at h
theorem im{α:Type}{p:Prop} [Decidable p] {A B:Option α}{r:α}(h:(if p then A else B)=some r)(c:¬p):B=some r:=by rwa [if_neg c] at h
theorem ib{α:Type}{c:Bool}{A B:Option α}{r:α}(h:(if c=true then A else B)=some r)(K:c=false):B=some r:=by subst K;simpa using h
def Pf(n:Nat)(ops:Ao_):List Nat→Nat→Env→Option (Nat×Env)
 | [],f,L=>some (f,L)
 | i::l,f+1,L=>match NF n L ops i with
  | some L'=>Pf n ops l f L'
  | none=>none
 | _::_,0,_=>none
def O8(ops:Ao_)(m:Nat):Array Bool→List Nat→Bool
 | _,[]=>true
 | listed,i::l=>FC ops listed m i&&O8 ops m (Bg listed i) l
def SW:Array Bool→List Nat→Array Bool
 | listed,[]=>listed
 | listed,i::l=>SW (Bg listed i) l
theorem Bh{P:Program}{J:Judge P}{Q:Gs_}{b:Frame}{n:Nat}{ds:Ld_}{k:Li_}{cs:Lf_}{s:St}{ops:Ao_}{m:Nat}{D:Nat→Bool}{L':Env}{U:Nat}(V:DG ops m=true)(W:s.q=false):
  ∀(l:List Nat) {fuel:Nat} {listed:Array Bool} {L:Env},Pf n ops l fuel L=some (U,L')→AV J Q b n ds ops k cs m D U (SW listed l) L' s→(K:O8 ops m listed l=true:=by decide+kernel)→AV J Q b n ds ops k cs m D fuel listed L s
 | [],fuel,listed,L,h,O,_=>by cases h;exact O
 | i::l,fuel,listed,L,h,O,K=>by
  cases fuel with
  | zero=>cases h
  | succ fuel=>
   unfold O8 at K;rw [Bool.and_eq_true] at K;unfold Pf at h;split at h
   ·rename_i Z e;exact Cz i V W e (Bh V W l h O K.2) K.1
   ·cases h
theorem zg{P:Program}{J:Judge P}{Q:Gs_}{b:Frame}{n:Nat}{L L':Env}{ds:Ld_}{k k':Li_}{cs:Lf_}{s:St}(m:Nat)(h:MU b n m k L=some (k',L'))(K:JL J Q b n L' ds k' cs s):JL J Q b n L ds k cs s:=JL.go m h K
abbrev bX(r:Nat)(c:AA)(t:TypeId):Seg:= [(r,.cells c t (0,0))]
end Pal
namespace Pal
open Go Go.Conc
section
variable {P:Program}{J:Judge P}{Q:Gs_}{b:Frame}{n:Nat}{L L':Env}{ds:Ld_}{k:Li_}{cs:Lf_}{s:St}{ops:Ao_}{E H:LH}{S:List Seg}
variable {α:Type}{A B:Option α}{r:α}
theorem AM{c:Operand}{x y:Code}{p:Prop} [Decidable p] (K:(if p then A else B)=some r)(O:p→A=some r→JL J Q b n L ds (.code x::k) cs s)(U:¬p→B=some r→JL J Q b n L ds (.code y::k) cs s)
  (V:ev L c=some (.bool (decide p)):=by exact rfl):JL J Q b n L ds (.code (.cond c x y)::k) cs s:=OG V (fun h=>O h (ip K h)) fun h=>U h (im K h)
theorem BK{c:Operand}{x y:Code}{t:Bool}(K:(if t=true then A else B)=some r)(O:t=true→A=some r→JL J Q b n L ds (.code x::k) cs s)(U:t=false→B=some r→JL J Q b n L ds (.code y::k) cs s)
  (V:ev L c=some (.bool t):=by exact rfl):JL J Q b n L ds (.code (.cond c x y)::k) cs s:=QF V (fun h=>O h (ip K h)) fun h=>U h (ib K h)
theorem EE{q:Prop} [Decidable q] (i:Nat)(K:(if q then A else B)=some r)(O:q→A=some r→JL J Q b n (AF L (some i) (.bool true)) ds k cs s)(U:¬q→B=some r→JL J Q b n (AF L (some i) (.bool false)) ds k cs s)
  (V:look L i=some (.bool (decide q)):=by exact rfl):JL J Q b n L ds k cs s:=UP V (fun h=>O h (ip K h)) fun h=>U h (im K h)
theorem C8{t:Bool}(i:Nat)(K:(if t=true then A else B)=some r)(O:t=true→A=some r→JL J Q b n (AF L (some i) (.bool true)) ds k cs s)(U:t=false→B=some r→JL J Q b n (AF L (some i) (.bool false)) ds k cs s)
  (V:look L i=some (.bool t):=by exact rfl):JL J Q b n L ds k cs s:=UU V (fun h=>O h (ip K h)) fun h=>U h (ib K h)
theorem CE{K O:Type}{c:Code}{body:K→Option (Bn K O)}{f:Nat}{U:K}{a:O}(W:iter body f U=some a)(I:Env→St→K→Prop)(Z:I L' s U)
  (round:∀L s x,I L s x→(∀V,body x=some (.done V)→V=a)→(∃st,body x=some st)→(∀L' s' x',I L' s' x'→body x=some (.more x')→JL J Q b n L' ds (.inLoop c::k) cs s')→JL J Q b n L ds (.code c:: .inLoop c::k) cs s)
  (aa:Hp L L'=Ht L':=by exact rfl):JL J Q b n L ds (.code (.loop c)::k) cs s:=Iv L' aa (QH W I Z round)
variable {m:Nat}{D:Nat→Bool}{fuel:Nat}{listed:Array Bool}
def Nj(ops:Ao_):Array Bool→List Nat→Bool
 | _,[]=>true
 | l,i::t=>Region.ready .any ops l== [i]&&Nj ops (Bg l i) t
theorem Rm:∀{t:List Nat} {l:Array Bool},Nj ops l t=true→∀u,Region.linearise.go .any ops t.length u l []=t
 | [],_,_,_=>rfl
 | i::t,l,h,u=>by
  unfold Nj at h
  rw [Bool.and_eq_true,beq_iff_eq] at h
  exact Yg h.1 (Rm h.2) u
theorem Cg(t:List Nat)(O:JL J Q b n L ds (.inRegion ops t::k) cs s)(K:(O5 m listed&&Nj ops listed t&&(fuel+1==t.length))=true:=by decide+kernel):AV J Q b n ds ops k cs m D (fuel+1) listed L s:=by
 rw [Bool.and_eq_true,Bool.and_eq_true,beq_iff_eq] at K;exact AV.leaf K.1.1 (by rw [K.2];exact Rm K.1.2) O
theorem DC(m:Nat){id:Nat}(h:DG ops m=true→AV J Q b n ds ops k cs m C9 ops.size (Array.replicate ops.size false) L (Ak E H S))(hm:P.follows .mixedOrders=true:=by exact rfl)(K:(b.kind != .early)=true:=by exact rfl)(ht:DG ops m=true:=by decide+kernel):
  JL J Q b n L ds (.code (.region id ops true)::k) cs (Ak E H S):=U2 m hm K ht h
theorem DI(m:Nat)(bks:List Nat){id:Nat}(K:Gu S bks)(O:Au E H S)(h:DG ops m=true→AV J Q b n ds ops k cs m (Bb bks) ops.size (Array.replicate ops.size false) L (Ak E H S))(hm:P.follows .mixedOrders=true:=by exact rfl)(U:(b.kind != .early)=true:=by exact rfl)(ht:DG ops m=true:=by decide+kernel):
  JL J Q b n L ds (.code (.region id ops true)::k) cs (Ak E H S):=Vu m bks K O hm U ht h
theorem Ds{α:Type}{pp:Rp α}{a:Option Addr}{c:Nat}{xs:List α}{xv:α}{K:Int}{d:Option Tmp}{x y:Operand}{t ty e:TypeId}{p:String}{af:Ae_}{g:On_}{kd:IntKind}(i:Nat)(O:Ap pp E a c xs)(U:ix xs K=some xv)(V:DG ops m=true)(ht:P.underlying t=some (.slice e))(W:BA P e=some pp.n)
  (h:∀bk o ws,pp.r E ws xv→At E bk o ws→AV J Q b n ds ops k cs m D fuel (Bg listed i) (AF L d (.pointer (some ⟨bk,o,none⟩))) s)
  (Z:ops[i]? =some ⟨d,.indexAddr t x y,ty,p,af,g⟩:=by exact rfl) (aa:FC ops listed m i=true:=by decide+kernel) (ab:s.q=false:=by exact rfl)
  (hw:Bi L ops ⟨d,.indexAddr t x y,ty,p,af,g⟩=some true:=by exact rfl) (ae:BE n d=true:=by exact rfl)
  (ag:ev L x=some (.slice a xs.length c):=by exact rfl) (ah:ev L y=some (.int kd K):=by exact rfl):
  AV J Q b n ds ops k cs m D (fuel+1) listed L s:=XY i O U Z V aa ab hw ae ag ah ht W h
end
end Pal
namespace Pal
open Go Go.Conc
section
variable {P:Program}{J:Judge P}{Q:Gs_}{b:Frame}{n:Nat}{ds:Ld_}{ops:Ao_}{k:Li_}{cs:Lf_}{fuel:Nat}{D:Nat→Bool}{listed:Array Bool}{L L':Env}{s:St}{xl:List Nat}
variable {d:Option Tmp}{op:Op}{ty:TypeId}{p:String}{af:Ae_}{g:On_}{v:Value}
theorem GM(i:Nat)(pure:Bool)(K:s.q=false)(O:Gd n L ops i=some ⟨d,op,ty,p,af,g⟩)
  (U:∀ρ,EL L ρ→∀s':St,(pure=false→∀x o,(BF D s).E x=some o→s'.E x=some o)→Yl P ⟨d,op,ty,p,af,g⟩ ρ s' v)
  (V:FF J Q b n ds ops k cs (Bb xl) D fuel (Bg listed i) (AF L d v) s) (W:J5 ops listed xl pure i=true:=by decide+kernel):FF J Q b n ds ops k cs (Bb xl) D (fuel+1) listed L s:=by
 obtain⟨Z,aa,ab⟩:=Oa O;exact SD i pure Z W K aa ab U V
def Pt(n:Nat)(L:Env)(ops:Ao_)(i:Nat):Option Env:=
 match HZ ops.toList i with
 | some ⟨d,op,ty,p,af,g⟩=>match Bi L ops ⟨d,op,ty,p,af,g⟩ with
  | some true=>match BE n d with
   | true=>match Ja L op with
    | some v=>match d with
     | some d=>some ((d,v)::L)
     | none=>some L
    | none=>none
   | false=>none
  | _=>none
 | none=>none
theorem VT{i:Nat}(h:Pt n L ops i=some L'):∃o v,ops[i]? =some o∧BE n o.dst=true∧Bi L ops o=some true∧Ja L o.op=some v∧L'=AF L o.dst v:=by
 unfold Pt at h;split at h
 ·rename_i d op ty p af g K;rw [Jy,Array.getElem?_toList] at K;split at h
  ·rename_i hw;split at h
   ·rename_i O;split at h
    ·rename_i v U;refine⟨_,v,K,O,hw,U,?_⟩;cases d with
     | none=>cases h;rfl
     | some d=>cases h;rfl
    ·cases h
   ·cases h
  ·cases h
 ·cases h
theorem Bt(i:Nat)(K:s.q=false)(h:Pt n L ops i=some L')
  (O:FF J Q b n ds ops k cs (Bb xl) D fuel (Bg listed i) L' s) (U:J5 ops listed xl true i=true:=by decide+kernel):FF J Q b n ds ops k cs (Bb xl) D (fuel+1) listed L s:=by
 obtain⟨o,v,V,W,hw,Z,rfl⟩:=VT h;exact SD i true V U K hw W (fun ρ aa s' _=>Mx aa Z) O
end
end Pal
namespace Pal
open Go Go.Conc
section
variable {P:Program}{J:Judge P}{Q:Gs_}{b:Frame}{n:Nat}{L L':Env}{ds:Ld_}{k:Li_}{cs:Lf_}{s:St}{ops:Ao_}{E H:LH}{S:List Seg}{i i2:Nat}{rest:List Nat}
variable {d d2:Option Tmp}{x y x2:Operand}{t t2 ft u ty ty2 e:TypeId}{p p2:String}{af af2:Ae_}{g g2:On_}{v w:Value}
theorem Cy(O:Au E H S)(h:∀r E',Le E E'→At E' r 0 v.cells.toList→Au E' H (S++ [[]])→JL J Q b n (AF L d (.pointer (some ⟨r,0,none⟩))) ds (.inRegion ops rest::k) cs (Ak E' H (S++ [[]])))
  (U:Ep b n L ops i=some ⟨d,.box e x,ty,p,af,g⟩:=by exact rfl) (V:ev L x=some v:=by exact rfl):JL J Q b n L ds (.inRegion ops (i::rest)::k) cs (Ak E H S):=by
 obtain⟨W,Z,aa⟩:=IT U;refine JS.box W Z aa O V fun r ab=>Dr (bk:=r) (c:=v.cells) (e:=e) (f:=(0,0)) S.length ab (by simp) fun E' hle ae K=>?_;have ag:(S++ [[(r,Obj.cells v.cells e (0,0))]]).set S.length []=S++ [[]]:=by simp
 rw [ag] at K ⊢;exact h r E' hle ae K
theorem CN{z:Value}(K:Au E H S)(O:zeroOf P e=some z)(h:∀r,Au E H (S++ [[(r,.cells z.cells e (0,0))]])→JL J Q b n (AF L d (.pointer (some ⟨r,0,none⟩))) ds (.inRegion ops rest::k) cs (Ak E H (S++ [[(r,.cells z.cells e (0,0))]])))
  (U:Ep b n L ops i=some ⟨d,.alloc e,ty,p,af,g⟩:=by exact rfl):JL J Q b n L ds (.inRegion ops (i::rest)::k) cs (Ak E H S):=by
 obtain⟨V,W,Z⟩:=IT U;exact JS.alloc V W Z K O h
theorem BT{bk off sz:Nat}{c:AA}(j:Nat)(K:Au E H S)(O:BA P t=some sz)
  (h:Au E H (S.set j [(bk,.cells (A4 c off v.cells.toList) e (0,0))])→JL J Q b n (AF L d undef) ds (.inRegion ops rest::k) cs (Ak E H (S.set j [(bk,.cells (A4 c off v.cells.toList) e (0,0))])))
  (U:Ep b n L ops i=some ⟨d,.store t x y,ty,p,af,g⟩:=by exact rfl) (V:ev L x=some (.pointer (some ⟨bk,off,none⟩)):=by exact rfl) (W:ev L y=some v:=by exact rfl) (Z:S[j]? =some [(bk,.cells c e (0,0))]:=by exact rfl)
  (aa:sz=v.cells.size:=by exact rfl) (hle:off+v.cells.size≤c.size:=by exact Nat.le_of_ble_eq_true rfl) (ab:v.cells.toList.all Cx=true:=by first | exact rfl | simp [Value.cells,Cx]):
  JL J Q b n L ds (.inRegion ops (i::rest)::k) cs (Ak E H S):=SL j K (by rw [← aa];exact O) U V W Z h hle (List.all_eq_true.1 ab)
theorem JL.fl{bk o o1 sz off:Nat}{fs:Array Field}{K:Nat}{ws:Lv_}(j:Nat)(O:At E bk o ws)(ht:P.underlying t=some (.struct fs))(U:BA P ft=some (sz+1))(V:Dl P t2=some false)
  (W:JL J Q b n (AF (AF L d (.pointer (some ⟨bk,o1+off,none⟩))) d2 v) ds (.inRegion ops rest::k) cs (Ak E H S))
  (Z:Ep b n L ops i=some ⟨d,.fieldAddr t x K,ty,p,af,g⟩:=by exact rfl) (aa:ev L x=some (.pointer (some ⟨bk,o1,none⟩)):=by exact rfl) (ab:K0 fs K=some (off,ft):=by exact rfl)
  (ae:Ep b n (AF L d (.pointer (some ⟨bk,o1+off,none⟩))) ops i2=some ⟨d2,.load t2 x2,ty2,p2,af2,g2⟩:=by exact rfl) (ag:ev (AF L d (.pointer (some ⟨bk,o1+off,none⟩))) x2=some (.pointer (some ⟨bk,o+j,none⟩)):=by exact rfl) (ah:ws[j]? =some v:=by exact rfl):
  JL J Q b n L ds (.inRegion ops (i::i2::rest)::k) cs (Ak E H S):=BL ht U Z aa ab (BY j O V ae ag ah W)
theorem B5{α:Type}{pp:Rp α}{a:Option Addr}{c:Nat}{xs:List α}{xv:α}{m:Int}{kd:IntKind}(K:Ap pp E a c xs)(hm:ix xs m=some xv)(ht:P.underlying t=some (.slice e))(O:BA P e=some pp.n)
  (h:∀bk o ws,pp.r E ws xv→At E bk o ws→JL J Q b n (AF L d (.pointer (some ⟨bk,o,none⟩))) ds (.inRegion ops rest::k) cs (Ak E H S))
  (U:Ep b n L ops i=some ⟨d,.indexAddr t x y,ty,p,af,g⟩:=by exact rfl) (V:ev L x=some (.slice a xs.length c):=by exact rfl) (W:ev L y=some (.int kd m):=by exact rfl):
  JL J Q b n L ds (.inRegion ops (i::rest)::k) cs (Ak E H S):=by
 obtain⟨Z,aa,ab⟩:=IT U;exact Wb K hm Z aa ab V W ht O h
theorem CM(K:List Seg)(O:Env){todo:Li_}{c:Code}(U:∀E',Le E E'→Au E' H K→JL J Q b n O ds todo cs (Ak E' H K))
  (h:(∀{E':LH} {L:Env},Le E E'→Au E' H K→Hp L O=Ht O→JL J Q b n L ds todo cs (Ak E' H K))→JL J Q b n L ds (.code c::todo) cs (Ak E H S)):JL J Q b n L ds (.code c::todo) cs (Ak E H S):=
 h fun V W Z=>Aw (U _ V W) Z
theorem CS{U:List Nat}(V W:Nat)(K:List Seg)(O:Env){todo:Li_}(Z:∀E',Le E E'→Au E' H K→JL J Q b n O ds (.inRegion ops (List.range' V W)::todo) cs (Ak E' H K))
  (h:(∀{E':LH} {L:Env},Le E E'→Au E' H K→Hp L O=Ht O→JL J Q b n L ds (.inRegion ops (List.range' V W)::todo) cs (Ak E' H K))→JL J Q b n L ds (.inRegion ops U::todo) cs (Ak E H S)):JL J Q b n L ds (.inRegion ops U::todo) cs (Ak E H S):=
 h fun aa ab ae=>Aw (Z _ aa ab) ae
theorem CO{O aa:Type}{c:Code}{body:O→Option (Bn O aa)}{f:Nat}{V:O}{a:aa}{W:LH}{k:Li_}(ae:iter body f V=some a)(K:O→List Seg)(U:O→Env)(hle:Le W E)(ag:Au E H (K V))
  (round:∀x E',Le W E'→Au E' H (K x)→(∀ab,body x=some (.done ab)→ab=a)→(∃st,body x=some st)→(∀{L':Env} {Z:LH} (x':O),Le W Z→Au Z H (K x')→Hp L' (U x')=Ht (U x')→body x=some (.more x')→JL J Q b n L' ds (.inLoop c::k) cs (Ak Z H (K x')))→JL J Q b n (U x) ds (.code c:: .inLoop c::k) cs (Ak E' H (K x)))
  (ah:Hp L (U V)=Ht (U V):=by exact rfl) (ai:Ak E H S=Ak E H (K V):=by exact rfl):JL J Q b n L ds (.code (.loop c)::k) cs (Ak E H S):=by
 rw [ai];refine Iv _ ah (QH ae (fun L s x=>∃E',Jm W H E' (K x) (U x) L s) ⟨E,rfl,rfl,hle,ag⟩ ?_);rintro _ _ x ⟨E',rfl,rfl,aj,ak⟩ hd hb al;exact round x E' aj ak hd hb fun x' am g2 an ao=>Aw (al _ _ x' ⟨_,rfl,rfl,am,g2⟩ ao) an
theorem Bj{f:FuncId}{fn:Func}{c:Code}{E:LH}{vs:Lv_}{B:Seg}{R:Value→LH→Seg→Prop}(O:P.funcs[f]? =some fn)
  (h:∀(Q:Gs_) (K:Frame) (cs:Lf_) (H:LH),Au E H [B]→(∀{v:Value} {E':LH} {S':List Seg} {B':Seg},Le E E'→S'.flatten=B'→R v E' B'→Au E' H S'→J.ok Q (G (K.finish v) cs) (Ak E' H S'))→JL J Q (base f) fn.ntmps (FW 0 vs) [] [.code c] (K::cs) (Ak E H [B]))
  (hb:fn.body=some c:=by exact rfl) (U:Nat.ble vs.length fn.ntmps=true:=by exact rfl):AU J f vs E B R:=
 OH O hb U fun Q K cs H V W=>h Q K cs H V fun Z aa ab ae=>W _ _ _ _ Z aa ab ae
variable {m:Nat}{fuel:Nat}{listed:Array Bool}{bks xl:List Nat}
theorem Fi{bk:Nat}{c:AA}{f:Nat×Nat}(i:Nat)(K:DG ops m=true)(o:Nat)(j:Nat)(O:Au E H S)(U:Dl P t=some false)
  (V:AV J Q b n ds ops k cs m (Bb bks) fuel (Bg listed i) (AF L d w) (Ak E H S)) (W:Gd n L ops i=some ⟨d,.load t x,ty,p,af,g⟩:=by exact rfl) (Z:ev L x=some (.pointer (some ⟨bk,o,none⟩)):=by exact rfl)
  (aa:S[j]? =some [(bk,.cells c e f)]:=by exact rfl) (hw:c[o]? =some w:=by exact rfl) (ab:Bb bks bk=true:=by simp [Bb]) (ae:FC ops listed m i=true:=by decide+kernel):AV J Q b n ds ops k cs m (Bb bks) (fuel+1) listed L (Ak E H S):=
 Bw i K rfl W (fun ρ h s' hs=>Yl.load U (h _ _ Z) (Kw (o:=o) j O aa ab hs hw)) V ae
theorem JG.lp{bk o:Nat}{ws:Lv_}(i:Nat)(K:DG ops m=true)(j:Nat)(O:At E bk o ws)(U:Au E H S)(V:Gu S bks)(W:Dl P t=some false)
  (Z:AV J Q b n ds ops k cs m (Bb bks) fuel (Bg listed i) (AF L d w) (Ak E H S)) (aa:Gd n L ops i=some ⟨d,.load t x,ty,p,af,g⟩:=by exact rfl) (ab:ev L x=some (.pointer (some ⟨bk,o+j,none⟩)):=by exact rfl)
  (hw:ws[j]? =some w:=by exact rfl) (ae:FC ops listed m i=true:=by decide+kernel):AV J Q b n ds ops k cs m (Bb bks) (fuel+1) listed L (Ak E H S):=
 Bw i K rfl aa (fun ρ h s' hs=>Yl.load W (h _ _ ab) (At.Pa (j:=j) O (O9 U hs V) hw)) Z ae
theorem Ed{bk o sz:Nat}{c:AA}{f:Nat×Nat}(i:Nat)(K:DG ops m=true)(vs:Lv_)(j:Nat)(O:Au E H S)(hw:∀(q:Nat) w,vs[q]? =some w→c[o+q]? =some w)(U:Dl P t=some true)(V:BA P t=some sz)
  (W:AV J Q b n ds ops k cs m (Bb bks) fuel (Bg listed i) (AF L d (.agg vs.toArray)) (Ak E H S)) (Z:Gd n L ops i=some ⟨d,.load t x,ty,p,af,g⟩:=by exact rfl) (aa:ev L x=some (.pointer (some ⟨bk,o,none⟩)):=by exact rfl)
  (ab:S[j]? =some [(bk,.cells c e f)]:=by exact rfl) (ae:sz=vs.length:=by exact rfl) (ag:Bb bks bk=true:=by simp [Bb]) (ah:FC ops listed m i=true:=by decide+kernel):AV J Q b n ds ops k cs m (Bb bks) (fuel+1) listed L (Ak E H S):=
 Bw i K rfl Z (fun ρ h s' hs=>FQ (vs:=vs) U (by rw [← ae];exact V) (h _ _ aa) (fun q w ai=>by rw [El rfl];exact Kw j O ab ag hs (hw q w ai))) W ah
theorem Gb{D:Nat→Bool}{α:Type}{xs:List α}{xv:α}{K:Int}{bk c sz O:Nat}{kd:IntKind}(i:Nat)(U:DG ops m=true)(V:xs.length=O)(hm:ix xs K=some xv)(ht:P.underlying t=some (.slice e))(W:BA P e=some sz)
  (Z:AV J Q b n ds ops k cs m D fuel (Bg listed i) (AF L d (.pointer (some ⟨bk,K.toNat*sz,none⟩))) s) (aa:s.q=false:=by exact rfl) (ab:Gd n L ops i=some ⟨d,.indexAddr t x y,ty,p,af,g⟩:=by exact rfl)
  (ae:ev L x=some (.slice (some ⟨bk,0,none⟩) O c):=by exact rfl) (ag:ev L y=some (.int kd K):=by exact rfl) (ah:FC ops listed m i=true:=by decide+kernel):AV J Q b n ds ops k cs m D (fuel+1) listed L s:=
 Bw i U aa ab (fun ρ h s' hs=>GA V hm ht W (h _ _ ae) (h _ _ ag)) Z ah
theorem Cw{D:Nat→Bool}{α:Type}{xs:List α}{xv:α}{K:Int}{bk c sz O:Nat}{kd:IntKind}(i:Nat)(U:xs.length=O)(hm:ix xs K=some xv)(ht:P.underlying t=some (.slice e))(V:BA P e=some sz)
  (W:FF J Q b n ds ops k cs (Bb xl) D fuel (Bg listed i) (AF L d (.pointer (some ⟨bk,K.toNat*sz,none⟩))) s) (Z:s.q=false:=by exact rfl) (aa:Gd n L ops i=some ⟨d,.indexAddr t x y,ty,p,af,g⟩:=by exact rfl)
  (ab:ev L x=some (.slice (some ⟨bk,0,none⟩) O c):=by exact rfl) (ae:ev L y=some (.int kd K):=by exact rfl) (ag:J5 ops listed xl true i=true:=by decide+kernel):FF J Q b n ds ops k cs (Bb xl) D (fuel+1) listed L s:=
 GM i true Z aa (fun ρ h s' hs=>GA U hm ht V (h _ _ ab) (h _ _ ae)) W ag
theorem En{bk o sz:Nat}{c:AA}{f:Nat×Nat}(i:Nat)(vs:Lv_)(j:Nat)(K:Au E H S)(hw:∀(q:Nat) w,vs[q]? =some w→c[o+q]? =some w)(O:Dl P t=some true)(U:BA P t=some sz)
  (V:FF J Q b n ds ops k cs (Bb xl) (Bb bks) fuel (Bg listed i) (AF L d (.agg vs.toArray)) (Ak E H S)) (W:Gd n L ops i=some ⟨d,.load t x,ty,p,af,g⟩:=by exact rfl) (Z:ev L x=some (.pointer (some ⟨bk,o,none⟩)):=by exact rfl)
  (aa:S[j]? =some [(bk,.cells c e f)]:=by exact rfl) (ab:sz=vs.length:=by exact rfl) (ae:Bb bks bk=true:=by simp [Bb]) (ag:J5 ops listed xl false i=true:=by decide+kernel):FF J Q b n ds ops k cs (Bb xl) (Bb bks) (fuel+1) listed L (Ak E H S):=
 GM i false rfl W (fun ρ h s' hs=>FQ (vs:=vs) O (by rw [← ab];exact U) (h _ _ Z) (fun q w ah=>by rw [El rfl];exact Kw j K aa ae (hs rfl) (hw q w ah))) V ag
theorem Em{bk off sz:Nat}{c:AA}{D:Nat→Bool}(i j:Nat)(K:Au E H S)(O:BA P t=some sz)(hle:off+sz≤c.size)
  (h:Au E H (S.set j [(bk,.cells (A4 c off v.cells.toList) e (0,0))])→FF J Q b n ds ops k cs (Bb xl) D fuel (Bg listed i) (AF L d undef) (Ak E H (S.set j [(bk,.cells (A4 c off v.cells.toList) e (0,0))])))
  (U:Gd n L ops i=some ⟨d,.store t x y,ty,p,af,g⟩:=by exact rfl) (V:ev L x=some (.pointer (some ⟨bk,off,none⟩)):=by exact rfl) (W:ev L y=some v:=by exact rfl) (Z:S[j]? =some [(bk,.cells c e (0,0))]:=by exact rfl)
  (aa:sz=v.cells.size:=by exact rfl) (ab:v.cells.toList.all Cx=true:=by first | exact rfl | simp [Value.cells,Cx]) (ae:Region.ready .any ops listed= [i]:=by decide+kernel) (ag:Bb xl i=true:=by decide+kernel):
  FF J Q b n ds ops k cs (Bb xl) D (fuel+1) listed L (Ak E H S):=by
 obtain⟨ah,ai,aj⟩:=Oa U;subst aa;exact JB.store i j ae ag ah ai aj K V W O (List.all_eq_true.1 ab) Z hle h
end
end Pal
namespace Pal
open Go Go.Conc Go.Proofs
end Pal
namespace Pal
open Go Go.Conc Go.Proofs
end Pal
namespace Pal
open Go Go.Conc Go.Proofs
open Go.Proofs.Tryz
variable {J:Judge Tryz.prog}{E:LH}
def AN:=Br Tryz.type3
def Bq:=D1 Tryz.underlying3
def BS:=Br Tryz.type28
def C4:=D1 Tryz.underlying28
def Ic:=Br Tryz.type90
def LO:=D1 Tryz.underlying90
def HF:=A3 Tryz.func41 rfl
def Cp:=DZ Tryz.type3
def C5:=Br Tryz.type27
def Ef:=Br Tryz.type4
def Jc:=D1 Tryz.underlying4
def Ct:=Br Tryz.type22
def Da:=D1 Tryz.underlying22
def NK:=A3 Tryz.func104 rfl
def Cs:=D1 Tryz.underlying24
def B4:=Br Tryz.type24
def IM:=DZ Tryz.type4
def Kk:=DZ Tryz.type24
def EK:=DZ Tryz.type28
def Gk:=DZ Tryz.type27
def NJ:=A3 Tryz.func103 rfl
def LW:=A3 Tryz.func90 rfl
def IL:=A3 Tryz.func101 rfl
def F4:=DZ Tryz.type183
def IK:=D1 Tryz.underlying27
def NN:=A3 Tryz.func112 rfl
def H9:=A3 Tryz.func89 rfl
def Jd:=A3 Tryz.func120 rfl
def Ew:=Br Tryz.type102
def GW:=D1 Tryz.underlying102
def Co:=Br Tryz.type104
def F3:=D1 Tryz.underlying104
def GY:=DZ Tryz.type104
def Gl:=Br Tryz.type139
def Ib:=Br Tryz.type138
def LN:=D1 Tryz.underlying139
def LV:=A3 Tryz.func92 rfl
def LX:=Br Tryz.type25
def Kf:=D1 Tryz.underlying25
def NQ:=Br Tryz.type94
def LP:=D1 Tryz.underlying94
def DF:=Br Tryz.type95
def EJ:=D1 Tryz.underlying95
def FL:=D1 Tryz.underlying173
def Dq:=Br Tryz.type97
def H8:=DZ Tryz.type133
def AS:=Br Tryz.type133
def LM:=D1 Tryz.underlying162
def Cn:=D1 Tryz.underlying133
def GX:=A3 Tryz.func134 rfl
def NI:=A3 Tryz.func200 rfl
def NM:=A3 Tryz.func178 rfl
def LQ:=A3 Tryz.func162 rfl
def FM:=DZ Tryz.type97
def H7:=D1 Tryz.underlying97
def Kg:=A3 Tryz.func69 rfl
def LU:=A3 Tryz.func93 rfl
def Je:=A3 Tryz.func78 rfl
def Kj:=DZ Tryz.type81
def Jf:=Br Tryz.type81
def NH:=D1 Tryz.underlying81
def LR:=A3 Tryz.func168 rfl
def Ia:=A3 Tryz.func71 rfl
def NP:=A3 Tryz.func72 rfl
def Kh:=A3 Tryz.func32 rfl
def NO:=A3 Tryz.func96 rfl
def Ki:=A3 Tryz.func97 rfl
def LS:=A3 Tryz.func99 rfl
def Kl:=Br Tryz.type75
def HG:=Br Tryz.type68
theorem mixed:Tryz.prog.follows .mixedOrders=true:=rfl
def f101(fuel:Nat)(p0:Int)(p1:Int)(p2:Int):Option Bool:= Option.bind (if p0<p1 then(some true) else(some (decide (p2<p0)))) fun K=> some K
theorem I2{p0:Int}{p1:Int}{p2:Int}{fuel:Nat}{r:Bool}(K:f101 fuel p0 p1 p2=some r):AU J 101 [iV p0,iV p1,iV p2] E [] (fun w E' B'=>w= .bool r∧B'= []):=by
 refine Bj func101 fun Q aj cs H O V=>?_;unfold f101 at K;obtain⟨W,Z,aa⟩:=bs K;refine zg 10 rfl (CS 8 1 [] [(14,.bool W)] (fun ak ab ae=>?_) (fun U=>?_))
 ·refine zg 2 rfl ?_;obtain rfl:=oi aa;exact AL func101 rfl rfl (V ab rfl ⟨rfl,rfl⟩ ae)
 ·refine EE 10 Z (fun ag ah=>?_) (fun ag ai=>?_)
  ·refine zg 4 rfl ?_;obtain rfl:=oi ah;exact U Aq O rfl
  ·refine zg 4 rfl ?_;obtain rfl:=oi ai;exact U Aq O rfl
def f104(fuel:Nat)(p0:Int)(p1:Int)(p2:Int):Option Bool:= Option.bind (if p1≤p0 then(some (decide (p0≤p2))) else(some false)) fun K=> some K
theorem OU{p0:Int}{p1:Int}{p2:Int}{fuel:Nat}{r:Bool}(K:f104 fuel p0 p1 p2=some r):AU J 104 [iV p0,iV p1,iV p2] E [] (fun w E' B'=>w= .bool r∧B'= []):=by
 refine Bj func104 fun Q aj cs H O V=>?_;unfold f104 at K;obtain⟨W,Z,aa⟩:=bs K;refine zg 10 rfl (CS 8 1 [] [(14,.bool W)] (fun ak ab ae=>?_) (fun U=>?_))
 ·refine zg 2 rfl ?_;obtain rfl:=oi aa;exact AL func104 rfl rfl (V ab rfl ⟨rfl,rfl⟩ ae)
 ·refine EE 10 Z (fun ag ah=>?_) (fun ag ai=>?_)
  ·refine zg 4 rfl ?_;obtain rfl:=oi ah;exact U Aq O rfl
  ·refine zg 4 rfl ?_;obtain rfl:=oi ai;exact U Aq O rfl
def My(fuel:Nat)(p0:List Int)(p1:Int)(K:Int):Option (Bn Int ((Int)⊕(Unit))):= if K<(p0.length:Int) then((ix p0 K).bind fun O=> if O=p1 then(some (.done (Sum.inl K))) else((Av (K+1)).bind fun U=> some (.more U))) else(some (.done (Sum.inr ())))
def f107(fuel:Nat)(p0:List Int)(p1:Int):Option Int:= Option.bind (iter (My fuel p0 p1) fuel 0) fun K=> Sum.elim (fun r=>some r) (fun O=> some (-1)) K
theorem Xp{U:Ao}{c2:Nat}{p0:List Int}{p1:Int}(ak:Ap rI E U c2 p0){fuel:Nat}{r:Int}(Z:f107 fuel p0 p1=some r):AU J 107 [sV U p0 c2,iV p1] E [] (fun w E' B'=>w=iV r∧B'= []):=by
 refine Bj func107 fun Q aK cs H al aa=>?_;unfold f107 at Z;obtain⟨ab,am,ae⟩:=bs Z;refine zg 9 rfl (Bs (fun L s=>∃(ag:Unit) (ah:LH),ab=Sum.inr ag∧Jm E H ah [] [] L s) ?_ ?_)
 ·rintro _ _ ⟨ag,ah,rfl,rfl,rfl,an,ao⟩;have ap:=elim_inr ae;refine zg 4 rfl ?_;obtain rfl:=oi ap;exact AL func107 rfl rfl (aa an rfl ⟨rfl,rfl⟩ ao)
 ·intro aq;refine JL.block (CO am (fun V=> []) (fun V=> [(0,sV U p0 c2),(1,iV p1),(5,iV V)]) Aq al ?_);rintro V ar K W ai ⟨aL,O⟩ au;have aj:=O;unfold My at aj;refine zg 5 rfl (Bo underlying28 rfl rfl rfl ?_);refine zg 2 rfl (AM aj (fun av aw=>?_) (fun av ay=>?_))
  ·obtain⟨aM,az,aA⟩:=bs aw;refine zg 7 rfl (B5 (ak.Ai K) az underlying28 AN ?_);rintro aN aO _ rfl aB;refine BY 0 aB Bq rfl rfl rfl (zg 3 rfl ?_);refine AM aA (fun aC aD=>?_) (fun aC aE=>?_)
   ·refine zg 5 rfl ?_;obtain rfl:=oi aD;obtain rfl:=ai _ O;have aF:=elim_inl ae;obtain rfl:=oi aF;exact AL func107 rfl rfl (aa K rfl ⟨rfl,rfl⟩ W)
   ·obtain⟨aG,aH,aI⟩:=bs aE;refine zg 4 rfl (A9 aH rfl rfl rfl ?_);refine zg 2 rfl ?_;obtain rfl:=oi aI;exact au aG K W rfl O
  ·refine JL.exit rfl ?_;obtain rfl:=oi ay;have aJ:ab=(Sum.inr ()):=(ai _ O).symm;exact Aw (aq _ _ ⟨(),ar,aJ,rfl,rfl,K,W⟩) rfl
def f53(fuel:Nat)(p0:List Int)(p1:Int):Option Bool:= (f107 fuel p0 p1).bind fun K=> some (decide (0≤K))
theorem Y3{K:Ao}{c2:Nat}{p0:List Int}{p1:Int}(U:Ap rI E K c2 p0){fuel:Nat}{r:Bool}(O:f53 fuel p0 p1=some r):AU J 53 [sV K p0 c2,iV p1] E [] (fun w E' B'=>w= .bool r∧B'= []):=by
 refine Bj func53 fun Q ag cs H V W=>?_;unfold f53 at O;obtain⟨ah,Z,aa⟩:=bs O;refine zg 8 rfl (BJ (Xp U Z) rfl rfl (A3 func107 rfl) V fun ai ab ae=>?_);refine zg 3 rfl ?_;obtain rfl:=oi aa;exact AL func53 rfl rfl (W ab rfl ⟨rfl,rfl⟩ ae)
def MK(fuel:Nat)(p0:List Int)(p1:List Int)(K:Int):Option (Bn Int ((Bool)⊕(Unit))):= Option.bind (if K<(p0.length:Int) then(some (decide (K<(p1.length:Int)))) else(some false)) fun O=> if O=true then((ix p0 K).bind fun U=> (ix p1 K).bind fun V=> if U≠V then(some (.done (Sum.inl false))) else((Av (K+1)).bind fun W=> some (.more W))) else(some (.done (Sum.inr ())))
def f32(fuel:Nat)(p0:List Int)(p1:List Int):Option Bool:= Option.bind (iter (MK fuel p0 p1) fuel 0) fun K=> Sum.elim (fun r=>some r) (fun O=> some (decide ((p0.length:Int)=(p1.length:Int)))) K
theorem Lg{K:Ao}{c2:Nat}{O:Ao}{U:Nat}{p0:List Int}{p1:List Int}(ar:Ap rI E K c2 p0)(au:Ap rI E O U p1){fuel:Nat}{r:Bool}(ah:f32 fuel p0 p1=some r):AU J 32 [sV K p0 c2,sV O p1 U] E [] (fun w E' B'=>w= .bool r∧B'= []):=by
 refine Bj func32 fun Q a0 cs H av ai=>?_;unfold f32 at ah;obtain⟨aj,aw,ak⟩:=bs ah;refine zg 9 rfl (Bs (fun L s=>∃(al:Unit) (am:LH),aj=Sum.inr al∧Jm E H am [] [(0,sV K p0 c2),(1,sV O p1 U)] L s) ?_ ?_)
 ·rintro _ _ ⟨al,am,rfl,rfl,rfl,ay,az⟩;have aA:=elim_inr ak;refine zg 3 rfl (Bo underlying28 rfl rfl rfl ?_);refine zg 1 rfl (Bo underlying28 rfl rfl rfl ?_);refine zg 3 rfl ?_;obtain rfl:=oi aA;exact AL func32 rfl rfl (ai ay rfl ⟨rfl,rfl⟩ az)
 ·intro aB;refine JL.block (CO aw (fun Z=> []) (fun Z=> [(0,sV K p0 c2),(1,sV O p1 U),(5,iV Z)]) Aq av ?_);rintro Z ab V an ao ⟨a1,aa⟩ aC;have ap:=aa;unfold MK at ap;refine zg 5 rfl (Bo underlying28 rfl rfl rfl ?_);obtain⟨aD,aE,aF⟩:=bs ap;refine zg 2 rfl (FP [] (fun L s=>∃(ae:LH),Jm ab H ae [] [(0,sV K p0 c2),(1,sV O p1 U),(5,iV Z),(15,.bool aD)] L s) ?_ ?_)
  ·rintro _ _ ⟨ae,rfl,rfl,W,ag⟩;refine JL.done (BK aF (fun aG aH=>?_) (fun aG aI=>?_))
   ·refine zg 4 rfl (DC 8 fun ht=>?_);refine Bh ht rfl [0,1] rfl ?_;obtain⟨a2,aJ,aK⟩:=bs aH;refine Ds 2 (ar.Ai (V.Ab W)) aJ ht underlying28 AN ?_;rintro a3 a4 _ rfl aL;refine CH 3 ht 0 aL Bq rfl rfl rfl rfl (Bh ht rfl [4,5] rfl ?_);obtain⟨a5,aM,aN⟩:=bs aK;refine Ds 6 (au.Ai (V.Ab W)) aM ht underlying28 AN ?_;rintro a6 a7 _ rfl aO;refine CH 7 ht 0 aO Bq rfl rfl rfl rfl (Cg [8] ?_);refine zg 2 rfl (AM aN (fun aP aQ=>?_) (fun aP aR=>?_))
    ·refine zg 4 rfl ?_;obtain rfl:=oi aQ;obtain rfl:=ao _ aa;have aS:=elim_inl ak;obtain rfl:=oi aS;exact AL func32 rfl rfl (ai (V.Ab W) rfl ⟨rfl,rfl⟩ ag)
    ·obtain⟨aT,aU,aV⟩:=bs aR;refine zg 4 rfl (A9 aU rfl rfl rfl ?_);refine zg 2 rfl ?_;obtain rfl:=oi aV;exact aC aT (V.Ab W) ag rfl aa
   ·refine JL.exit rfl ?_;obtain rfl:=oi aI;have aW:aj=(Sum.inr ()):=(ao _ aa).symm;exact Aw (aB _ _ ⟨(),ae,aW,rfl,rfl,(V.Ab W),ag⟩) rfl
  ·intro aq;refine EE 10 aE (fun aX aY=>?_) (fun aX aZ=>?_)
   ·refine zg 2 rfl (Bo underlying28 rfl rfl rfl ?_);refine zg 2 rfl ?_;obtain rfl:=oi aY;exact Aw (aq _ _ ⟨ab,rfl,rfl,Aq,an⟩) rfl
   ·refine zg 5 rfl ?_;obtain rfl:=oi aZ;exact Aw (aq _ _ ⟨ab,rfl,rfl,Aq,an⟩) rfl
def f23(fuel:Nat)(p0:List Int):Option ((BZ)):= some (p0,0,2685821657736338717)
theorem Y1{K:Ao}{c2:Nat}{p0:List Int}(Z:Ap rI E K c2 p0){fuel:Nat}{r:(BZ)}(O:f23 fuel p0=some r):AU J 23 [sV K p0 c2] E [] (fun w E' B'=>∃(U:Nat) (V:Ao) (W:Nat),w= pV U 0∧B'= [(U,.cells #[sV V r.1 W,iV r.2.1,.int .u64 ((r.2.2:Nat):Int)] 92 (0,0))]∧Ap rI E' V W r.1):=by
 refine Bj func23 fun Q ah cs H aa ab=>?_;unfold f23 at O;refine zg 7 rfl (Ay (v:= .agg #[sV K p0 c2,iV 0,.int .u64 ((2685821657736338717:Nat):Int)]) rfl (fun ρ h=>De [(0,1),(1,1),(2,1)] h (DZ type92) underlying92 ⟨rfl,Br type28,rfl,Br type3,rfl,Br type90,trivial⟩ rfl rfl) ?_);refine JS.box (v:= .agg #[sV K p0 c2,iV 0,.int .u64 ((2685821657736338717:Nat):Int)]) rfl rfl rfl aa rfl fun ae ag=>zg 2 rfl ?_;obtain rfl:=oi O;exact AL func23 rfl rfl (ab Aq rfl ⟨ae,K,c2,rfl,(by first | rfl | simp | (simp [Value.cells])),Z⟩ ag)
def f100(fuel:Nat)(p0:BZ):Option (Nat×(BZ)):= (Av (p0.2.1+1)).bind fun O=> Option.bind (if O≤(p0.1.length:Int) then((Av (O - 1)).bind fun U=> (ix p0.1 U).bind fun V=> some (((((Dm O)*11400714819323198485) % 2 ^ 64) ^^^ (((Dm V)*14029467366897019727) % 2 ^ 64)) % 2 ^ 64)) else(some (((Dm O)*11400714819323198485) % 2 ^ 64))) fun K=> some (((((((((((p0.2.2 ^^^ K) % 2 ^ 64)*18397679294719823053) % 2 ^ 64) ^^^ (((((p0.2.2 ^^^ K) % 2 ^ 64)*18397679294719823053) % 2 ^ 64)>>>33)) % 2 ^ 64)*14181476777654086739) % 2 ^ 64) ^^^ (((((((((p0.2.2 ^^^ K) % 2 ^ 64)*18397679294719823053) % 2 ^ 64) ^^^ (((((p0.2.2 ^^^ K) % 2 ^ 64)*18397679294719823053) % 2 ^ 64)>>>33)) % 2 ^ 64)*14181476777654086739) % 2 ^ 64)>>>29)) % 2 ^ 64)>>>11,(p0.1,O,(((((p0.2.2 ^^^ K) % 2 ^ 64)*18397679294719823053) % 2 ^ 64) ^^^ (((((p0.2.2 ^^^ K) % 2 ^ 64)*18397679294719823053) % 2 ^ 64)>>>33)) % 2 ^ 64))
theorem XL{bk:Nat}{V:Ao}{c2:Nat}{p0:BZ}(aa:Ap rI E V c2 p0.1){fuel:Nat}{r:Nat×(BZ)}(ab:f100 fuel p0=some r):AU J 100 [pV bk 0] E [(bk,.cells #[sV V p0.1 c2,iV p0.2.1,.int .u64 ((p0.2.2:Nat):Int)] 92 (0,0))] (fun w E' B'=>∃(ae:Ao) (ag:Nat),w= .int .u64 ((r.1:Nat):Int)∧B'= [(bk,.cells #[sV ae r.2.1 ag,iV r.2.2.1,.int .u64 ((r.2.2.2:Nat):Int)] 92 (0,0))]∧Ap rI E' ae ag r.2.1):=by
 refine Bj func100 fun Q aC cs H ah am=>?_;unfold f100 at ab;refine zg 8 rfl (BL underlying92 AN rfl rfl rfl ?_);refine Ay (v:=iV p0.2.1) rfl (fun ρ h=>Yl.load Bq (h _ _ rfl) (Db (j:=0) (off:=1) ah rfl rfl)) ?_;obtain⟨U,an,ao⟩:=bs ab;refine A9 an rfl rfl rfl (zg 1 rfl ?_);refine BL underlying92 AN rfl rfl rfl (BT 0 ah AN fun O=>?_);refine zg 5 rfl (BL underlying92 AN rfl rfl rfl ?_);refine Ay (v:=iV U) rfl (fun ρ h=>Yl.load Bq (h _ _ rfl) (Db (j:=0) (off:=1) O rfl rfl)) (Ay (v:= .int .u64 ((Dm U:Nat):Int)) rfl (fun ρ h=>Yl.Dm underlying3 underlying90 (h _ _ rfl)) ?_);refine Ay (v:= .int .u64 ((((Dm U)*11400714819323198485) % 2 ^ 64:Nat):Int)) rfl (fun ρ h=>MF (h _ _ rfl) (h _ _ rfl)) (zg 4 rfl ?_);refine DI 9 [bk] ⟨⟨0,_,rfl⟩,trivial⟩ O fun ht=>Bh ht rfl [0,1] rfl (Ch 2 ht underlying92 AN rfl rfl rfl rfl ?_);refine Fi 3 ht 1 0 O Bq ?_;refine Bh ht rfl [4,5] rfl (Ch 6 ht underlying92 BS rfl rfl rfl rfl ?_);refine Fi 7 ht 0 0 O C4 ?_;refine Bw 8 ht rfl rfl (fun ρ h s' hs=>Yl.len rfl underlying28 (h _ _ rfl)) (Cg [9] ?_);obtain⟨K,ap,aq⟩:=bs ao;refine zg 2 rfl (CM [bX bk #[sV V p0.1 c2,iV U,.int .u64 ((p0.2.2:Nat):Int)] 92] [(0,pV bk 0),(3,.int .u64 ((K:Nat):Int))] (fun aD ai aj=>?_) (fun ak=>?_))
 ·refine zg 5 rfl (BL underlying92 Ic rfl rfl rfl ?_);refine Ay (v:= .int .u64 ((p0.2.2:Nat):Int)) rfl (fun ρ h=>Yl.load LO (h _ _ rfl) (Db (j:=0) (off:=2) aj rfl rfl)) (zg 1 rfl ?_);refine Ay (v:= .int .u64 (((p0.2.2 ^^^ K) % 2 ^ 64:Nat):Int)) rfl (fun ρ h=>Mv (h _ _ rfl) (h _ _ rfl)) (Ay (v:= .int .u64 (((((p0.2.2 ^^^ K) % 2 ^ 64)*18397679294719823053) % 2 ^ 64:Nat):Int)) rfl (fun ρ h=>MF (h _ _ rfl) (h _ _ rfl)) ?_);refine zg 1 rfl (BL underlying92 Ic rfl rfl rfl ?_);refine BT 0 aj Ic fun W=>?_;refine zg 2 rfl (DI 11 [bk] ⟨⟨0,_,rfl⟩,trivial⟩ W fun ht=>?_);refine Bh ht rfl [0,1,2] rfl (Ch 3 ht underlying92 Ic rfl rfl rfl rfl ?_);refine Fi 4 ht 2 0 W LO ?_;refine Bh ht rfl [5,6] rfl (Ch 7 ht underlying92 Ic rfl rfl rfl rfl ?_);refine Fi 8 ht 2 0 W LO ?_;refine Bw (v:= .int .u64 ((((((p0.2.2 ^^^ K) % 2 ^ 64)*18397679294719823053) % 2 ^ 64)>>>33:Nat):Int)) 9 ht rfl rfl (fun ρ h s' hs=>Jx 33 (h _ _ rfl) (h _ _ rfl) (by decide)) (Bw (v:= .int .u64 (((((((p0.2.2 ^^^ K) % 2 ^ 64)*18397679294719823053) % 2 ^ 64) ^^^ (((((p0.2.2 ^^^ K) % 2 ^ 64)*18397679294719823053) % 2 ^ 64)>>>33)) % 2 ^ 64:Nat):Int)) 10 ht rfl rfl (fun ρ h s' hs=>Mv (h _ _ rfl) (h _ _ rfl)) ?_);refine Cg [11,12,13] (zg 1 rfl ?_);refine BL underlying92 Ic rfl rfl rfl (BT 0 W Ic fun al=>?_);refine zg 5 rfl (BL underlying92 Ic rfl rfl rfl ?_);refine Ay (v:= .int .u64 (((((((p0.2.2 ^^^ K) % 2 ^ 64)*18397679294719823053) % 2 ^ 64) ^^^ (((((p0.2.2 ^^^ K) % 2 ^ 64)*18397679294719823053) % 2 ^ 64)>>>33)) % 2 ^ 64:Nat):Int)) rfl (fun ρ h=>Yl.load LO (h _ _ rfl) (Db (j:=0) (off:=2) al rfl rfl)) (Ay (v:= .int .u64 (((((((((p0.2.2 ^^^ K) % 2 ^ 64)*18397679294719823053) % 2 ^ 64) ^^^ (((((p0.2.2 ^^^ K) % 2 ^ 64)*18397679294719823053) % 2 ^ 64)>>>33)) % 2 ^ 64)*14181476777654086739) % 2 ^ 64:Nat):Int)) rfl (fun ρ h=>MF (h _ _ rfl) (h _ _ rfl)) ?_);refine zg 6 rfl (Ay (v:= .int .u64 ((((((((((p0.2.2 ^^^ K) % 2 ^ 64)*18397679294719823053) % 2 ^ 64) ^^^ (((((p0.2.2 ^^^ K) % 2 ^ 64)*18397679294719823053) % 2 ^ 64)>>>33)) % 2 ^ 64)*14181476777654086739) % 2 ^ 64)>>>29:Nat):Int)) rfl (fun ρ h=>Jx 29 (h _ _ rfl) (h _ _ rfl) (by decide)) ?_);refine Ay (v:= .int .u64 (((((((((((p0.2.2 ^^^ K) % 2 ^ 64)*18397679294719823053) % 2 ^ 64) ^^^ (((((p0.2.2 ^^^ K) % 2 ^ 64)*18397679294719823053) % 2 ^ 64)>>>33)) % 2 ^ 64)*14181476777654086739) % 2 ^ 64) ^^^ (((((((((p0.2.2 ^^^ K) % 2 ^ 64)*18397679294719823053) % 2 ^ 64) ^^^ (((((p0.2.2 ^^^ K) % 2 ^ 64)*18397679294719823053) % 2 ^ 64)>>>33)) % 2 ^ 64)*14181476777654086739) % 2 ^ 64)>>>29)) % 2 ^ 64:Nat):Int)) rfl (fun ρ h=>Mv (h _ _ rfl) (h _ _ rfl)) (Ay (v:= .int .u64 ((((((((((((p0.2.2 ^^^ K) % 2 ^ 64)*18397679294719823053) % 2 ^ 64) ^^^ (((((p0.2.2 ^^^ K) % 2 ^ 64)*18397679294719823053) % 2 ^ 64)>>>33)) % 2 ^ 64)*14181476777654086739) % 2 ^ 64) ^^^ (((((((((p0.2.2 ^^^ K) % 2 ^ 64)*18397679294719823053) % 2 ^ 64) ^^^ (((((p0.2.2 ^^^ K) % 2 ^ 64)*18397679294719823053) % 2 ^ 64)>>>33)) % 2 ^ 64)*14181476777654086739) % 2 ^ 64)>>>29)) % 2 ^ 64)>>>11:Nat):Int)) rfl (fun ρ h=>Jx 11 (h _ _ rfl) (h _ _ rfl) (by decide)) ?_);refine zg 2 rfl ?_;obtain rfl:=oi aq;exact AL func100 rfl rfl (am ai rfl ⟨V,c2,rfl,rfl,(aa.Ai ai)⟩ al)
 ·refine AM ap (fun ar au=>?_) (fun ar av=>?_)
  ·refine DI 14 [bk] ⟨⟨0,_,rfl⟩,trivial⟩ O fun ht=>Bh ht rfl [0,1,2] rfl (Ch 3 ht underlying92 BS rfl rfl rfl rfl ?_);refine Fi 4 ht 0 0 O C4 ?_;refine Bh ht rfl [5,6] rfl (Ch 7 ht underlying92 AN rfl rfl rfl rfl ?_);refine Fi 8 ht 1 0 O Bq ?_;obtain⟨aE,aw,ay⟩:=bs au;refine Bw 9 ht rfl rfl (fun ρ h s' hs=>Dc (h _ _ rfl) (h _ _ rfl) aw) ?_;obtain⟨Z,az,aA⟩:=bs ay;refine Ds 10 aa az ht underlying28 AN ?_;rintro aF aG _ rfl aB;refine JG.lp 11 ht 0 aB O ⟨⟨0,_,rfl⟩,trivial⟩ Bq ?_;refine Bw (v:= .int .u64 ((Dm Z:Nat):Int)) 12 ht rfl rfl (fun ρ h s' hs=>Yl.Dm underlying3 underlying90 (h _ _ rfl)) (Bw (v:= .int .u64 ((((Dm Z)*14029467366897019727) % 2 ^ 64:Nat):Int)) 13 ht rfl rfl (fun ρ h s' hs=>MF (h _ _ rfl) (h _ _ rfl)) ?_);refine Cg [14,15] (Ay (v:= .int .u64 ((((((Dm U)*11400714819323198485) % 2 ^ 64) ^^^ (((Dm Z)*14029467366897019727) % 2 ^ 64)) % 2 ^ 64:Nat):Int)) rfl (fun ρ h=>Mv (h _ _ rfl) (h _ _ rfl)) ?_);refine zg 2 rfl ?_;obtain rfl:=oi aA;exact ak Aq O rfl
  ·refine JL.skip ?_;obtain rfl:=oi av;exact ak Aq O rfl
def f41(fuel:Nat)(p0:BZ)(p1:Int):Option (Int×(BZ)):= (f100 fuel p0).bind fun K=> if p1<1 then(some (0,K.2)) else((Ns K.1 ((Dm p1+1) % 2 ^ 64)).bind fun O=> some (LF O,K.2))
theorem HW{bk:Nat}{K:Ao}{c2:Nat}{p0:BZ}{p1:Int}(ai:Ap rI E K c2 p0.1){fuel:Nat}{r:Int×(BZ)}(O:f41 fuel p0 p1=some r):AU J 41 [pV bk 0,iV p1] E [(bk,.cells #[sV K p0.1 c2,iV p0.2.1,.int .u64 ((p0.2.2:Nat):Int)] 92 (0,0))] (fun w E' B'=>∃(U:Ao) (V:Nat),w=iV r.1∧B'= [(bk,.cells #[sV U r.2.1 V,iV r.2.2.1,.int .u64 ((r.2.2.2:Nat):Int)] 92 (0,0))]∧Ap rI E' U V r.2.1):=by
 refine Bj func41 fun Q ar cs H aj W=>?_;unfold f41 at O;obtain⟨au,ak,al⟩:=bs O;refine zg 7 rfl (B8 0 (XL ai ak) rfl rfl (A3 func100 rfl) aj rfl ?_);rintro _ av _ Z ⟨aa,ab,rfl,rfl,ae⟩ ag;refine zg 8 rfl (AM al (fun am an=>?_) (fun am ao=>?_))
 ·refine zg 4 rfl ?_;obtain rfl:=oi an;exact AL func41 rfl rfl (W Z rfl ⟨aa,ab,rfl,rfl,ae⟩ ag)
 ·refine zg 5 rfl (Ay (v:= .int .u64 ((Dm p1:Nat):Int)) rfl (fun ρ h=>Yl.Dm underlying3 underlying90 (h _ _ rfl)) ?_);refine Ay (v:= .int .u64 (((Dm p1+1) % 2 ^ 64:Nat):Int)) rfl (fun ρ h=>WC (h _ _ rfl) (h _ _ rfl)) ?_;obtain⟨ah,ap,aq⟩:=bs ao;refine Ay (v:= .int .u64 ((ah:Nat):Int)) rfl (fun ρ h=>VN (h _ _ rfl) (h _ _ rfl) ap) (Ay (v:=iV (LF ah)) rfl (fun ρ h=>X4 underlying90 underlying3 (h _ _ rfl)) ?_);refine zg 2 rfl ?_;obtain rfl:=oi aq;exact AL func41 rfl rfl (W Z rfl ⟨aa,ab,rfl,rfl,ae⟩ ag)
def f96(fuel:Nat)(p0:BZ)(p1:Int)(p2:Int):Option (Int×(BZ)):= (Av (p2 - p1)).bind fun O=> (f41 fuel p0 O).bind fun K=> (Av (p1+K.1)).bind fun U=> some (U,K.2)
theorem Pb{bk:Nat}{K:Ao}{c2:Nat}{p0:BZ}{p1:Int}{p2:Int}(W:Ap rI E K c2 p0.1){fuel:Nat}{r:Int×(BZ)}(O:f96 fuel p0 p1 p2=some r):AU J 96 [pV bk 0,iV p1,iV p2] E [(bk,.cells #[sV K p0.1 c2,iV p0.2.1,.int .u64 ((p0.2.2:Nat):Int)] 92 (0,0))] (fun w E' B'=>∃(U:Ao) (V:Nat),w=iV r.1∧B'= [(bk,.cells #[sV U r.2.1 V,iV r.2.2.1,.int .u64 ((r.2.2.2:Nat):Int)] 92 (0,0))]∧Ap rI E' U V r.2.1):=by
 refine Bj func96 fun Q ap cs H Z aa=>?_;unfold f96 at O;obtain⟨aq,ab,ae⟩:=bs O;refine zg 10 rfl (Cd ab rfl rfl rfl ?_);obtain⟨ar,ag,ah⟩:=bs ae;refine B8 0 (HW W ag) rfl rfl HF Z rfl ?_;rintro _ au _ ai ⟨aj,ak,rfl,rfl,al⟩ am;obtain⟨av,an,ao⟩:=bs ah;refine A9 an rfl rfl rfl (zg 2 rfl ?_);obtain rfl:=oi ao;exact AL func96 rfl rfl (aa ai rfl ⟨aj,ak,rfl,rfl,al⟩ am)
def f97(fuel:Nat)(p0:BZ)(p1:Int):Option (Bool×(BZ)):= (Av (p1 - 1)).bind fun O=> (f41 fuel p0 O).bind fun K=> some (decide (K.1=0),K.2)
theorem Lj{bk:Nat}{K:Ao}{c2:Nat}{p0:BZ}{p1:Int}(W:Ap rI E K c2 p0.1){fuel:Nat}{r:Bool×(BZ)}(O:f97 fuel p0 p1=some r):AU J 97 [pV bk 0,iV p1] E [(bk,.cells #[sV K p0.1 c2,iV p0.2.1,.int .u64 ((p0.2.2:Nat):Int)] 92 (0,0))] (fun w E' B'=>∃(U:Ao) (V:Nat),w= .bool r.1∧B'= [(bk,.cells #[sV U r.2.1 V,iV r.2.2.1,.int .u64 ((r.2.2.2:Nat):Int)] 92 (0,0))]∧Ap rI E' U V r.2.1):=by
 refine Bj func97 fun Q an cs H Z aa=>?_;unfold f97 at O;obtain⟨ao,ab,ae⟩:=bs O;refine zg 8 rfl (Cd ab rfl rfl rfl ?_);obtain⟨ap,ag,ah⟩:=bs ae;refine B8 0 (HW W ag) rfl rfl HF Z rfl ?_;rintro _ aq _ ai ⟨aj,ak,rfl,rfl,al⟩ am;refine zg 3 rfl ?_;obtain rfl:=oi ah;exact AL func97 rfl rfl (aa ai rfl ⟨aj,ak,rfl,rfl,al⟩ am)
def f99(fuel:Nat)(p0:BZ)(p1:List Int):Option (Int×(BZ)):= (Av ((p1.length:Int) - 1)).bind fun O=> (f41 fuel p0 O).bind fun K=> (ix p1 K.1).bind fun U=> some (U,K.2)
theorem No{bk:Nat}{K:Ao}{c2:Nat}{O:Ao}{U:Nat}{p0:BZ}{p1:List Int}(ab:Ap rI E K c2 p0.1)(ae:Ap rI E O U p1){fuel:Nat}{r:Int×(BZ)}(V:f99 fuel p0 p1=some r):AU J 99 [pV bk 0,sV O p1 U] E [(bk,.cells #[sV K p0.1 c2,iV p0.2.1,.int .u64 ((p0.2.2:Nat):Int)] 92 (0,0))] (fun w E' B'=>∃(W:Ao) (Z:Nat),w=iV r.1∧B'= [(bk,.cells #[sV W r.2.1 Z,iV r.2.2.1,.int .u64 ((r.2.2.2:Nat):Int)] 92 (0,0))]∧Ap rI E' W Z r.2.1):=by
 refine Bj func99 fun Q av cs H ag ah=>?_;unfold f99 at V;refine zg 9 rfl (Bo underlying28 rfl rfl rfl ?_);obtain⟨aw,ai,aj⟩:=bs V;refine Cd ai rfl rfl rfl ?_;obtain⟨ay,ak,al⟩:=bs aj;refine B8 0 (HW ab ak) rfl rfl HF ag rfl ?_;rintro _ az _ aa ⟨am,an,rfl,rfl,ao⟩ ap;obtain⟨aA,aq,ar⟩:=bs al;refine B5 (ae.Ai aa) aq underlying28 AN ?_;rintro aB aC _ rfl au;refine BY 0 au Bq rfl rfl rfl (zg 2 rfl ?_);obtain rfl:=oi ar;exact AL func99 rfl rfl (ah aa rfl ⟨am,an,rfl,rfl,ao⟩ ap)
def JP(fuel:Nat)(p0:List Int)(p1:Int)(K:(List Int)×Bool×Int):Option (Bn ((List Int)×Bool×Int) ((List Int)×Bool)):= if K.2.2<(p0.length:Int) then((ix p0 K.2.2).bind fun U=> Option.bind (if p1≤U then(some (!K.2.1)) else(some false)) fun V=> Option.bind (if V=true then((room K.1 p1).bind fun W=> some (W,true)) else(some (K.1,K.2.1))) fun O=> (ix p0 K.2.2).bind fun Z=> Option.bind (if Z≠p1 then((ix p0 K.2.2).bind fun aa=> (room O.1 aa).bind fun ab=> some ab) else(some O.1)) fun ae=> (Av (K.2.2+1)).bind fun ag=> some (.more (ae,O.2,ag))) else(some (.done (K.1,K.2.1)))
def f98(fuel:Nat)(p0:List Int)(p1:Int):Option ((List Int)):= Option.bind (iter (JP fuel p0 p1) fuel ([],false,0)) fun K=> Option.bind (if(!K.2)=true then((room K.1 p1).bind fun O=> some O) else(some K.1)) fun U=> some U
theorem SP{W:Ao}{c2:Nat}{p0:List Int}{p1:Int}(az:Ap rI E W c2 p0){fuel:Nat}{r:(List Int)}(aH:f98 fuel p0 p1=some r):AU J 98 [sV W p0 c2,iV p1] E [] (fun w E' B'=>∃(aI:Ao) (aJ:Nat),w= sV aI r aJ∧B'= []∧Ap rI E' aI aJ r):=by
 refine Bj func98 fun Q cd cs H aV aW=>?_;unfold f98 at aH;obtain⟨an,aX,aY⟩:=bs aH;refine zg 17 rfl (Bs (fun L s=>∃(Z:LH) (ae:Ao) (ag:Nat) (ao:Seg),Jn E H Z [ao] [(1,iV p1),(5,sV ae an.1 ag),(6,.bool an.2)] L s (OL 3 rI Z ae ag ao an.1)) ?_ ?_)
 ·rintro _ _ ⟨Z,ae,ag,ao,rfl,rfl,aZ,aK,aL⟩;refine zg 4 rfl (Ay (v:= .bool (!an.2)) rfl (fun ρ h=>Yl.not (h _ _ rfl)) ?_);obtain⟨aM,a0,a1⟩:=bs aY;refine JL.done (Bs (fun L s=>∃(aA:LH) (ap:Ao) (aq:Nat) (aB:Seg),Jn Z H aA [aB] [(5,sV ap aM aq)] L s (OL 3 rI aA ap aq aB aM)) ?_ ?_)
  ·rintro _ _ ⟨aA,ap,aq,aB,rfl,rfl,a2,a3,a4⟩;refine zg 5 rfl (Cc 0 a4 a3 rfl fun ce a5 a6 a7=>?_);obtain rfl:=oi a1;exact AL func98 rfl rfl (aW ((aZ.Ab a2).Ab a5) rfl ⟨ap,aq,rfl,rfl,a6⟩ a7)
  ·intro aN;refine BK a0 (fun a8 a9=>?_) (fun a8 ba=>?_)
   ·obtain⟨cf,bb,bc⟩:=bs a9;refine zg 3 rfl (JS.app (pp:=rI) (v:=iV p1) (a:=ae) (c:=ag) 0 bb rfl rfl rfl rfl (fun _=>rfl) rfl (fun _=>rfl) rfl rfl rfl underlying28 underlying28 underlying28 AN (Cu type3) Cp rfl (by decide) (by decide) (by decide) (by decide) aL rfl aK rfl fun cg bd be bf bg bh=>?_);refine zg 2 rfl ?_;obtain rfl:=oi bc;exact Aw (aN _ _ ⟨Z,bd,be,bf,rfl,rfl,Aq,bh,bg⟩) rfl
   ·refine JL.skip ?_;obtain rfl:=oi ba;exact Aw (aN _ _ ⟨Z,ae,ag,ao,rfl,rfl,Aq,aK,aL⟩) rfl
 ·intro bi;refine JL.block (CE aX (fun L s K=>∃(O:LH) (U:Ao) (V:Nat) (aa:Seg),Jn E H O [aa] [(0,sV W p0 c2),(1,iV p1),(5,sV U K.1 V),(6,.bool K.2.1),(7,iV K.2.2)] L s (OL 3 rI O U V aa K.1)) ⟨E,none,0,[],rfl,rfl,Aq,aV,OL.nil⟩ ?_);rintro _ _ K ⟨O,U,V,aa,rfl,rfl,ah,aC,aD⟩ bj ⟨ci,aE⟩ bl;have aO:=aE;unfold JP at aO;refine zg 5 rfl (Bo underlying28 rfl rfl rfl ?_);refine zg 2 rfl (AM aO (fun bm bn=>?_) (fun bm bo=>?_))
  ·obtain⟨ck,bp,bq⟩:=bs bn;refine zg 8 rfl (B5 (az.Ai ah) bp underlying28 AN ?_);rintro cm cn _ rfl br;refine BY 0 br Bq rfl rfl rfl ?_;obtain⟨bu,bv,bw⟩:=bs bq;refine zg 3 rfl (FP [] (fun L s=>∃(ai:LH),Jm O H ai [aa] [(0,sV W p0 c2),(1,iV p1),(5,sV U K.1 V),(6,.bool K.2.1),(7,iV K.2.2),(23,.bool bu)] L s) ?_ ?_)
   ·rintro _ _ ⟨ai,rfl,rfl,aj,aP⟩;obtain⟨ak,bx,bz⟩:=bs bw;refine JL.done (Bs (fun L s=>∃(ab:LH) (al:Ao) (am:Nat) (ar:Seg),Jn ai H ab [ar] [(0,sV W p0 c2),(1,iV p1),(5,sV al ak.1 am),(6,.bool ak.2),(7,iV K.2.2)] L s (OL 3 rI ab al am ar ak.1)) ?_ ?_)
    ·rintro _ _ ⟨ab,al,am,ar,rfl,rfl,aF,aQ,aR⟩;obtain⟨co,bA,bB⟩:=bs bz;refine zg 4 rfl (B5 (az.Ai ((ah.Ab aj).Ab aF)) bA underlying28 AN ?_);rintro cp cq _ rfl bC;refine BY 0 bC Bq rfl rfl rfl ?_;obtain⟨aG,bD,bE⟩:=bs bB;refine zg 3 rfl (Bs (fun L s=>∃(au:LH) (av:Ao) (aw:Nat) (ay:Seg),Jn ab H au [ay] [(0,sV W p0 c2),(1,iV p1),(5,sV av aG aw),(6,.bool ak.2),(7,iV K.2.2)] L s (OL 3 rI au av aw ay aG)) ?_ ?_)
     ·rintro _ _ ⟨au,av,aw,ay,rfl,rfl,bF,bG,bH⟩;obtain⟨bI,bJ,bK⟩:=bs bE;refine zg 3 rfl (A9 bJ rfl rfl rfl ?_);refine zg 2 rfl ?_;obtain rfl:=oi bK;exact Aw (bl _ _ (aG,ak.2,bI) ⟨au,av,aw,ay,rfl,rfl,(((ah.Ab aj).Ab aF).Ab bF),bG,bH⟩ aE) rfl
     ·intro aS;refine AM bD (fun bL bM=>?_) (fun bL bN=>?_)
      ·obtain⟨bO,bP,bQ⟩:=bs bM;refine zg 4 rfl (B5 (az.Ai ((ah.Ab aj).Ab aF)) bP underlying28 AN ?_);rintro cr ct _ rfl bR;refine BY 0 bR Bq rfl rfl rfl ?_;obtain⟨cu,bS,bT⟩:=bs bQ;refine JS.app (pp:=rI) (v:=iV bO) (a:=al) (c:=am) 0 bS rfl rfl rfl rfl (fun _=>rfl) rfl (fun _=>rfl) rfl rfl rfl underlying28 underlying28 underlying28 AN (Cu type3) Cp rfl (by decide) (by decide) (by decide) (by decide) aR rfl aQ rfl fun cv bU bV bW bY bZ=>zg 2 rfl ?_;obtain rfl:=oi bT;exact Aw (aS _ _ ⟨ab,bU,bV,bW,rfl,rfl,Aq,bZ,bY⟩) rfl
      ·refine JL.skip ?_;obtain rfl:=oi bN;exact Aw (aS _ _ ⟨ab,al,am,ar,rfl,rfl,Aq,aQ,aR⟩) rfl
    ·intro aT;refine BK bx (fun b0 b1=>?_) (fun b0 b2=>?_)
     ·obtain⟨cw,b3,b4⟩:=bs b1;refine zg 3 rfl (JS.app (pp:=rI) (v:=iV p1) (a:=U) (c:=V) 0 b3 rfl rfl rfl rfl (fun _=>rfl) rfl (fun _=>rfl) rfl rfl rfl underlying28 underlying28 underlying28 AN (Cu type3) Cp rfl (by decide) (by decide) (by decide) (by decide) (aD.Ai aj) rfl aP rfl fun cy b5 b6 b7 b8 b9=>?_);refine zg 3 rfl ?_;obtain rfl:=oi b4;exact Aw (aT _ _ ⟨ai,b5,b6,b7,rfl,rfl,Aq,b9,b8⟩) rfl
     ·refine JL.skip ?_;obtain rfl:=oi b2;exact Aw (aT _ _ ⟨ai,U,V,aa,rfl,rfl,Aq,aP,(aD.Ai aj)⟩) rfl
   ·intro aU;refine EE 20 bv (fun ca cb=>?_) (fun ca cc=>?_)
    ·refine zg 1 rfl (Ay (v:= .bool (!K.2.1)) rfl (fun ρ h=>Yl.not (h _ _ rfl)) ?_);refine zg 1 rfl ?_;obtain rfl:=oi cb;exact Aw (aU _ _ ⟨O,rfl,rfl,Aq,aC⟩) rfl
    ·refine zg 3 rfl ?_;obtain rfl:=oi cc;exact Aw (aU _ _ ⟨O,rfl,rfl,Aq,aC⟩) rfl
  ·refine JL.exit rfl ?_;obtain rfl:=oi bo;obtain rfl:=bj _ aE;exact Aw (bi _ _ ⟨O,U,V,aa,rfl,rfl,ah,aC,aD⟩) rfl
def f52(fuel:Nat)(p0:A6):Option Int:= if(p0.length:Int)=0 then(some 1) else((Av ((p0.length:Int) - 1)).bind fun K=> (ix p0 K).bind fun O=> (Av (O.1+1)).bind fun U=> some U)
theorem Y5{K:Ao}{c2:Nat}{p0:A6}(W:Ap BM E K c2 p0){fuel:Nat}{r:Int}(O:f52 fuel p0=some r):AU J 52 [sV K p0 c2] E [] (fun w E' B'=>w=iV r∧B'= []):=by
 refine Bj func52 fun Q al cs H U V=>?_;unfold f52 at O;refine zg 8 rfl (Bo underlying25 rfl rfl rfl ?_);refine zg 2 rfl (AM O (fun c4 Z=>?_) (fun c4 aa=>?_))
 ·refine zg 4 rfl ?_;obtain rfl:=oi Z;exact AL func52 rfl rfl (V Aq rfl ⟨rfl,rfl⟩ U)
 ·refine zg 5 rfl (Bo underlying25 rfl rfl rfl ?_);obtain⟨am,ab,ae⟩:=bs aa;refine Cd ab rfl rfl rfl ?_;obtain⟨an,ag,ah⟩:=bs ae;refine B5 W ag underlying25 C5 ?_;rintro ao ap _ ⟨_,_,rfl,rfl,rfl⟩ ai;refine JL.fl 0 ai underlying27 AN Bq ?_;obtain⟨aq,aj,ak⟩:=bs ah;refine A9 aj rfl rfl rfl (zg 2 rfl ?_);obtain rfl:=oi ak;exact AL func52 rfl rfl (V Aq rfl ⟨rfl,rfl⟩ U)
def MI(fuel:Nat)(p0:List Bool)(K:(List Int)×Int):Option (Bn ((List Int)×Int) ((List Int))):= if K.2<(p0.length:Int) then((ix p0 K.2).bind fun O=> Option.bind (if O=true then((room K.1 K.2).bind fun U=> some U) else(some K.1)) fun V=> (Av (K.2+1)).bind fun W=> some (.more (V,W))) else(some (.done K.1))
def f111(fuel:Nat)(p0:List Bool):Option ((List Int)):= Option.bind (iter (MI fuel p0) fuel ([],0)) fun K=> some K
theorem X7{Z:Ao}{c2:Nat}{p0:List Bool}(az:Ap rB E Z c2 p0){fuel:Nat}{r:(List Int)}(aq:f111 fuel p0=some r):AU J 111 [sV Z p0 c2] E [] (fun w E' B'=>∃(ar:Ao) (au:Nat),w= sV ar r au∧B'= []∧Ap rI E' ar au r):=by
 refine Bj func111 fun Q bb cs H aA aB=>?_;unfold f111 at aq;obtain⟨av,aC,aD⟩:=bs aq;refine zg 13 rfl (Bs (fun L s=>∃(aj:LH) (aa:Ao) (ab:Nat) (ak:Seg),Jn E H aj [ak] [(3,sV aa av ab)] L s (OL 3 rI aj aa ab ak av)) ?_ ?_)
 ·rintro _ _ ⟨aj,aa,ab,ak,rfl,rfl,aE,aF,aG⟩;refine zg 5 rfl (Cc 0 aG aF rfl fun bc aH aI aJ=>?_);obtain rfl:=oi aD;exact AL func111 rfl rfl (aB (aE.Ab aH) rfl ⟨aa,ab,rfl,rfl,aI⟩ aJ)
 ·intro aK;refine JL.block (CE aC (fun L s O=>∃(K:LH) (U:Ao) (V:Nat) (W:Seg),Jn E H K [W] [(0,sV Z p0 c2),(3,sV U O.1 V),(4,iV O.2)] L s (OL 3 rI K U V W O.1)) ⟨E,none,0,[],rfl,rfl,Aq,aA,OL.nil⟩ ?_);rintro _ _ O ⟨K,U,V,W,rfl,rfl,al,am,an⟩ aL ⟨bd,ao⟩ aM;have aw:=ao;unfold MI at aw;refine zg 5 rfl (Bo underlying68 rfl rfl rfl ?_);refine zg 2 rfl (AM aw (fun aN aO=>?_) (fun aN aP=>?_))
  ·obtain⟨be,aQ,aR⟩:=bs aO;refine zg 7 rfl (B5 (az.Ai al) aQ underlying68 Ef ?_);rintro bf bg _ rfl aS;refine BY 0 aS Jc rfl rfl rfl ?_;obtain⟨ap,aT,aU⟩:=bs aR;refine JL.done (Bs (fun L s=>∃(ae:LH) (ag:Ao) (ah:Nat) (ai:Seg),Jn K H ae [ai] [(0,sV Z p0 c2),(3,sV ag ap ah),(4,iV O.2)] L s (OL 3 rI ae ag ah ai ap)) ?_ ?_)
   ·rintro _ _ ⟨ae,ag,ah,ai,rfl,rfl,aV,aW,aX⟩;obtain⟨aY,aZ,a0⟩:=bs aU;refine zg 3 rfl (A9 aZ rfl rfl rfl ?_);refine zg 2 rfl ?_;obtain rfl:=oi a0;exact Aw (aM _ _ (ap,aY) ⟨ae,ag,ah,ai,rfl,rfl,(al.Ab aV),aW,aX⟩ ao) rfl
   ·intro ay;refine BK aT (fun a1 a2=>?_) (fun a1 a3=>?_)
    ·obtain⟨bh,a4,a5⟩:=bs a2;refine zg 3 rfl (JS.app (pp:=rI) (v:=iV O.2) (a:=U) (c:=V) 0 a4 rfl rfl rfl rfl (fun _=>rfl) rfl (fun _=>rfl) rfl rfl rfl underlying28 underlying28 underlying28 AN (Cu type3) Cp rfl (by decide) (by decide) (by decide) (by decide) an rfl am rfl fun bi a6 a7 a8 a9 ba=>?_);refine zg 2 rfl ?_;obtain rfl:=oi a5;exact Aw (ay _ _ ⟨K,a6,a7,a8,rfl,rfl,Aq,ba,a9⟩) rfl
    ·refine JL.skip ?_;obtain rfl:=oi a3;exact Aw (ay _ _ ⟨K,U,V,W,rfl,rfl,Aq,am,an⟩) rfl
  ·refine JL.exit rfl ?_;obtain rfl:=oi aP;obtain rfl:=aL _ ao;exact Aw (aK _ _ ⟨K,U,V,W,rfl,rfl,al,am,an⟩) rfl
def Mo(fuel:Nat)(p0:Bz)(p1:List Int)(K:Int):Option (Bn Int ((Int)⊕(Unit))):= if K<(p1.length:Int) then((ix p1 K).bind fun O=> (Av ((p0.1.length:Int) - 1)).bind fun U=> (f104 fuel O 0 U).bind fun V=> if(!V)=true then(some (.done (Sum.inl 3))) else(Option.bind (if 0<K then((ix p1 K).bind fun W=> (Av (K - 1)).bind fun Z=> (ix p1 Z).bind fun aa=> some (decide (W≤aa))) else(some false)) fun ab=> if ab=true then(some (.done (Sum.inl 5))) else((Av (K+1)).bind fun ae=> some (.more ae)))) else(some (.done (Sum.inr ())))
def f114(fuel:Nat)(p0:Bz)(p1:List Int):Option Int:= if(p1.length:Int)=0 then(some 7) else(if 3<(p1.length:Int) then(some 6) else(Option.bind (iter (Mo fuel p0 p1) fuel 0) fun K=> Sum.elim (fun r=>some r) (fun O=> some 0) K))
theorem XP{al:Ao}{c2:Nat}{am:Ao}{an:Nat}{aa:Ao}{ab:Nat}{p0:Bz}{p1:List Int}(br:Ap (rL rI) E al c2 p0.1)(bu:Ap (rL rI) E am an p0.2)(ae:Ap rI E aa ab p1){fuel:Nat}{r:Int}(ao:f114 fuel p0 p1=some r):AU J 114 [.agg #[sV al p0.1 c2,sV am p0.2 an],sV aa p1 ab] E [] (fun w E' B'=>w=iV r∧B'= []):=by
 refine Bj func114 fun Q bv cs H aA U=>?_;unfold f114 at ao;refine zg 2 rfl (Cy aA fun ap aB K aC ag=>?_);refine zg 6 rfl (Bo underlying28 rfl rfl rfl ?_);refine zg 2 rfl (AM ao (fun aD aE=>?_) (fun aD aF=>?_))
 ·refine zg 4 rfl ?_;obtain rfl:=oi aE;exact AL func114 rfl rfl (U K rfl ⟨rfl,rfl⟩ ag)
 ·refine zg 5 rfl (Bo underlying28 rfl rfl rfl ?_);refine zg 2 rfl (AM aF (fun aG aH=>?_) (fun aG aI=>?_))
  ·refine zg 4 rfl ?_;obtain rfl:=oi aH;exact AL func114 rfl rfl (U K rfl ⟨rfl,rfl⟩ ag)
  ·obtain⟨aq,aJ,ah⟩:=bs aI;refine zg 6 rfl (Bs (fun L s=>∃(ar:Unit) (au:LH),aq=Sum.inr ar∧Jm aB H au [] [] L s) ?_ ?_)
   ·rintro _ _ ⟨ar,au,rfl,rfl,rfl,aK,aL⟩;have aM:=elim_inr ah;refine zg 4 rfl ?_;obtain rfl:=oi aM;exact AL func114 rfl rfl (U (K.Ab aK) rfl ⟨rfl,rfl⟩ aL)
   ·intro aN;refine JL.block (CO aJ (fun V=> []) (fun V=> [(1,sV aa p1 ab),(2,pV ap 0),(5,iV V)]) Aq ag ?_);rintro V aO O av ai ⟨bw,W⟩ aP;have aw:=W;unfold Mo at aw;refine zg 5 rfl (Bo underlying28 rfl rfl rfl ?_);refine zg 2 rfl (AM aw (fun aQ aR=>?_) (fun aQ aS=>?_))
    ·refine zg 5 rfl (DC 8 fun ht=>?_);refine Bh ht rfl [0,1] rfl ?_;obtain⟨bx,aT,aU⟩:=bs aR;refine Ds 2 (ae.Ai (K.Ab O)) aT ht underlying28 AN ?_;rintro bz bA _ rfl aV;refine CH 3 ht 0 aV Bq rfl rfl rfl rfl (Ch 4 ht underlying24 Ct rfl rfl rfl rfl ?_);refine CH 5 ht 0 (aC.Ai O) Da rfl rfl rfl rfl (Bw 6 ht rfl rfl (fun ρ h s' hs=>Yl.len rfl underlying22 (h _ _ rfl)) ?_);obtain⟨bB,aW,aX⟩:=bs aU;refine Bw 7 ht rfl rfl (fun ρ h s' hs=>Dc (h _ _ rfl) (h _ _ rfl) aW) (Cg [8,9] ?_);obtain⟨aY,aZ,a0⟩:=bs aX;refine BJ (OU aZ) rfl rfl NK av fun a1 Z aj=>Ay (v:= .bool (!aY)) rfl (fun ρ h=>Yl.not (h _ _ rfl)) (JL.done ?_);refine BK a0 (fun a2 a3=>?_) (fun a2 a4=>?_)
     ·refine zg 4 rfl ?_;obtain rfl:=oi a3;obtain rfl:=ai _ W;have a5:=elim_inl ah;obtain rfl:=oi a5;exact AL func114 rfl rfl (U ((K.Ab O).Ab Z) rfl ⟨rfl,rfl⟩ aj)
     ·refine zg 2 rfl (DC 14 fun ht=>?_);refine Bh ht rfl [0,1,2] rfl ?_;obtain⟨a6,ay,a7⟩:=bs a4;refine FR 0 #[true,true,true,true,true,true,true,true,true,true,true,true,true,true] (fun L s=>L= [(1,sV aa p1 ab),(2,pV ap 0),(5,iV V),(41,.bool a6)]∧s=Ak a1 H [[]]) ?_ ?_
      ·rintro _ _ ⟨rfl,rfl⟩;refine AV.fin (by decide+kernel) (BK a7 (fun a8 a9=>?_) (fun a8 ba=>?_))
       ·refine zg 4 rfl ?_;obtain rfl:=oi a9;obtain rfl:=ai _ W;have bb:=elim_inl ah;obtain rfl:=oi bb;exact AL func114 rfl rfl (U ((K.Ab O).Ab Z) rfl ⟨rfl,rfl⟩ aj)
       ·obtain⟨bc,bd,be⟩:=bs ba;refine zg 4 rfl (A9 bd rfl rfl rfl ?_);refine zg 2 rfl ?_;obtain rfl:=oi be;exact aP bc (O.Ab Z) aj rfl W
      ·intro az;refine FO (q:=0<V) (i:=30) rfl (fun ak=>?_) (fun ak=>?_)
       ·have bf:=ip ay ak;refine Bh ht rfl [3,4] rfl ?_;obtain⟨bC,bg,bh⟩:=bs bf;refine Ds 5 (ae.Ai ((K.Ab O).Ab Z)) bg ht underlying28 AN ?_;rintro bD bE _ rfl bi;refine CH 6 ht 0 bi Bq rfl rfl rfl rfl ?_;refine Bh ht rfl [7,8] rfl ?_;obtain⟨bF,bj,bl⟩:=bs bh;refine Bw 9 ht rfl rfl (fun ρ h s' hs=>Dc (h _ _ rfl) (h _ _ rfl) bj) ?_;obtain⟨bG,bm,bn⟩:=bs bl;refine Ds 10 (ae.Ai ((K.Ab O).Ab Z)) bm ht underlying28 AN ?_;rintro bH bI _ rfl bo;refine CH 11 ht 0 bo Bq rfl rfl rfl rfl ?_;refine Bh ht rfl [12,13] rfl ?_;obtain rfl:=oi bn;refine Dg ?_ (az _ _ ⟨rfl,rfl⟩);exact⟨rfl,rfl,rfl,rfl,trivial⟩
       ·have bp:=im ay ak;refine Bh ht rfl [3,4,5,6,7,8,9,10,11,12,13] rfl ?_;obtain rfl:=oi bp;refine Dg ?_ (az _ _ ⟨rfl,rfl⟩);exact⟨rfl,rfl,rfl,rfl,trivial⟩
    ·refine JL.exit rfl ?_;obtain rfl:=oi aS;have bq:aq=(Sum.inr ()):=(ai _ W).symm;exact Aw (aN _ _ ⟨(),aO,bq,rfl,rfl,O,av⟩) rfl
def Mw(fuel:Nat)(p0:Bz)(p1:Int)(p2:List Int)(K:Int):Option (Bn Int ((Int)⊕(Unit))):= if K<(p2.length:Int) then((ix p2 K).bind fun O=> (Av ((p0.1.length:Int) - 1)).bind fun U=> (f104 fuel O 0 U).bind fun V=> if(!V)=true then(some (.done (Sum.inl 3))) else((ix p2 K).bind fun W=> if W=p1 then(some (.done (Sum.inl 8))) else(Option.bind (if 0<K then((ix p2 K).bind fun Z=> (Av (K - 1)).bind fun aa=> (ix p2 aa).bind fun ab=> some (decide (Z≤ab))) else(some false)) fun ae=> if ae=true then(some (.done (Sum.inl 5))) else((Av (K+1)).bind fun ag=> some (.more ag))))) else(some (.done (Sum.inr ())))
def f115(fuel:Nat)(p0:Bz)(p1:Int)(p2:List Int):Option Int:= if 3<(p2.length:Int) then(some 6) else(Option.bind (iter (Mw fuel p0 p1 p2) fuel 0) fun K=> Sum.elim (fun r=>some r) (fun O=> some 0) K)
theorem Yw{ak:Ao}{c2:Nat}{al:Ao}{am:Nat}{aa:Ao}{ab:Nat}{p0:Bz}{p1:Int}{p2:List Int}(bx:Ap (rL rI) E ak c2 p0.1)(bz:Ap (rL rI) E al am p0.2)(ae:Ap rI E aa ab p2){fuel:Nat}{r:Int}(an:f115 fuel p0 p1 p2=some r):AU J 115 [.agg #[sV ak p0.1 c2,sV al p0.2 am],iV p1,sV aa p2 ab] E [] (fun w E' B'=>w=iV r∧B'= []):=by
 refine Bj func115 fun Q bA cs H aA W=>?_;unfold f115 at an;refine zg 2 rfl (Cy aA fun ao aB O aC ap=>?_);refine zg 6 rfl (Bo underlying28 rfl rfl rfl ?_);refine zg 2 rfl (AM an (fun aD aE=>?_) (fun aD aF=>?_))
 ·refine zg 4 rfl ?_;obtain rfl:=oi aE;exact AL func115 rfl rfl (W O rfl ⟨rfl,rfl⟩ ap)
 ·obtain⟨aq,aG,ag⟩:=bs aF;refine zg 6 rfl (Bs (fun L s=>∃(ar:Unit) (au:LH),aq=Sum.inr ar∧Jm aB H au [] [] L s) ?_ ?_)
  ·rintro _ _ ⟨ar,au,rfl,rfl,rfl,aH,aI⟩;have aJ:=elim_inr ag;refine zg 4 rfl ?_;obtain rfl:=oi aJ;exact AL func115 rfl rfl (W (O.Ab aH) rfl ⟨rfl,rfl⟩ aI)
  ·intro aK;refine JL.block (CO aG (fun Z=> []) (fun Z=> [(1,iV p1),(2,sV aa p2 ab),(3,pV ao 0),(7,iV Z)]) Aq ap ?_);rintro Z aL K av ah ⟨bB,V⟩ aM;have aw:=V;unfold Mw at aw;refine zg 5 rfl (Bo underlying28 rfl rfl rfl ?_);refine zg 2 rfl (AM aw (fun aN aO=>?_) (fun aN aP=>?_))
   ·refine zg 5 rfl (DC 8 fun ht=>?_);refine Bh ht rfl [0,1] rfl ?_;obtain⟨bC,aQ,aR⟩:=bs aO;refine Ds 2 (ae.Ai (O.Ab K)) aQ ht underlying28 AN ?_;rintro bD bE _ rfl aS;refine CH 3 ht 0 aS Bq rfl rfl rfl rfl (Ch 4 ht underlying24 Ct rfl rfl rfl rfl ?_);refine CH 5 ht 0 (aC.Ai K) Da rfl rfl rfl rfl (Bw 6 ht rfl rfl (fun ρ h s' hs=>Yl.len rfl underlying22 (h _ _ rfl)) ?_);obtain⟨bF,aT,aU⟩:=bs aR;refine Bw 7 ht rfl rfl (fun ρ h s' hs=>Dc (h _ _ rfl) (h _ _ rfl) aT) (Cg [8,9] ?_);obtain⟨aV,aW,aX⟩:=bs aU;refine BJ (OU aW) rfl rfl NK av fun aY U ai=>Ay (v:= .bool (!aV)) rfl (fun ρ h=>Yl.not (h _ _ rfl)) (JL.done ?_);refine BK aX (fun aZ a0=>?_) (fun aZ a1=>?_)
    ·refine zg 4 rfl ?_;obtain rfl:=oi a0;obtain rfl:=ah _ V;have a2:=elim_inl ag;obtain rfl:=oi a2;exact AL func115 rfl rfl (W ((O.Ab K).Ab U) rfl ⟨rfl,rfl⟩ ai)
    ·obtain⟨bG,a3,a4⟩:=bs a1;refine zg 6 rfl (B5 (ae.Ai ((O.Ab K).Ab U)) a3 underlying28 AN ?_);rintro bH bI _ rfl a5;refine BY 0 a5 Bq rfl rfl rfl (zg 3 rfl ?_);refine AM a4 (fun a6 a7=>?_) (fun a6 a8=>?_)
     ·refine zg 4 rfl ?_;obtain rfl:=oi a7;obtain rfl:=ah _ V;have a9:=elim_inl ag;obtain rfl:=oi a9;exact AL func115 rfl rfl (W ((O.Ab K).Ab U) rfl ⟨rfl,rfl⟩ ai)
     ·refine zg 2 rfl (DC 14 fun ht=>?_);refine Bh ht rfl [0,1,2] rfl ?_;obtain⟨ba,ay,bb⟩:=bs a8;refine FR 0 #[true,true,true,true,true,true,true,true,true,true,true,true,true,true] (fun L s=>L= [(1,iV p1),(2,sV aa p2 ab),(3,pV ao 0),(7,iV Z),(46,.bool ba)]∧s=Ak aY H [[]]) ?_ ?_
      ·rintro _ _ ⟨rfl,rfl⟩;refine AV.fin (by decide+kernel) (BK bb (fun bc bd=>?_) (fun bc be=>?_))
       ·refine zg 4 rfl ?_;obtain rfl:=oi bd;obtain rfl:=ah _ V;have bf:=elim_inl ag;obtain rfl:=oi bf;exact AL func115 rfl rfl (W ((O.Ab K).Ab U) rfl ⟨rfl,rfl⟩ ai)
       ·obtain⟨bg,bh,bi⟩:=bs be;refine zg 4 rfl (A9 bh rfl rfl rfl ?_);refine zg 2 rfl ?_;obtain rfl:=oi bi;exact aM bg (K.Ab U) ai rfl V
      ·intro az;refine FO (q:=0<Z) (i:=35) rfl (fun aj=>?_) (fun aj=>?_)
       ·have bj:=ip ay aj;refine Bh ht rfl [3,4] rfl ?_;obtain⟨bJ,bl,bm⟩:=bs bj;refine Ds 5 (ae.Ai ((O.Ab K).Ab U)) bl ht underlying28 AN ?_;rintro bK bL _ rfl bn;refine CH 6 ht 0 bn Bq rfl rfl rfl rfl ?_;refine Bh ht rfl [7,8] rfl ?_;obtain⟨bM,bo,bp⟩:=bs bm;refine Bw 9 ht rfl rfl (fun ρ h s' hs=>Dc (h _ _ rfl) (h _ _ rfl) bo) ?_;obtain⟨bN,bq,br⟩:=bs bp;refine Ds 10 (ae.Ai ((O.Ab K).Ab U)) bq ht underlying28 AN ?_;rintro bO bP _ rfl bu;refine CH 11 ht 0 bu Bq rfl rfl rfl rfl ?_;refine Bh ht rfl [12,13] rfl ?_;obtain rfl:=oi br;refine Dg ?_ (az _ _ ⟨rfl,rfl⟩);exact⟨rfl,rfl,rfl,rfl,rfl,trivial⟩
       ·have bv:=im ay aj;refine Bh ht rfl [3,4,5,6,7,8,9,10,11,12,13] rfl ?_;obtain rfl:=oi bv;refine Dg ?_ (az _ _ ⟨rfl,rfl⟩);exact⟨rfl,rfl,rfl,rfl,rfl,trivial⟩
   ·refine JL.exit rfl ?_;obtain rfl:=oi aP;have bw:aq=(Sum.inr ()):=(ah _ V).symm;exact Aw (aK _ _ ⟨(),aL,bw,rfl,rfl,K,av⟩) rfl
def MW(fuel:Nat)(p0:Bz)(K:Int):Option (Bn Int ((Int)⊕(Unit))):= if K<(p0.1.length:Int) then((ix p0.1 K).bind fun V=> (f114 fuel p0 V).bind fun O=> if O≠0 then(some (.done (Sum.inl O))) else((ix p0.2 K).bind fun W=> (f115 fuel p0 K W).bind fun U=> if U≠0 then(some (.done (Sum.inl U))) else((Av (K+1)).bind fun Z=> some (.more Z)))) else(some (.done (Sum.inr ())))
def f68(fuel:Nat)(p0:Bz):Option Int:= if(p0.1.length:Int)=0 then(some 7) else(if 8<(p0.1.length:Int) then(some 6) else(if(p0.2.length:Int)≠(p0.1.length:Int) then(some 9) else(Option.bind (iter (MW fuel p0) fuel 0) fun K=> Sum.elim (fun r=>some r) (fun O=> some 0) K)))
theorem YL{aj:Ao}{c2:Nat}{ak:Ao}{al:Nat}{p0:Bz}(ab:Ap (rL rI) E aj c2 p0.1)(ae:Ap (rL rI) E ak al p0.2){fuel:Nat}{r:Int}(am:f68 fuel p0=some r):AU J 68 [.agg #[sV aj p0.1 c2,sV ak p0.2 al]] E [] (fun w E' B'=>w=iV r∧B'= []):=by
 refine Bj func68 fun Q bi cs H ay W=>?_;unfold f68 at am;refine zg 2 rfl (Cy ay fun az aA O U aa=>?_);refine zg 5 rfl (JL.fl 0 U underlying24 Ct Da ?_);refine Bo underlying22 rfl rfl rfl (zg 2 rfl ?_);refine AM am (fun aB aC=>?_) (fun aB aD=>?_)
 ·refine zg 4 rfl ?_;obtain rfl:=oi aC;exact AL func68 rfl rfl (W O rfl ⟨rfl,rfl⟩ aa)
 ·refine zg 4 rfl (JL.fl 0 U underlying24 Ct Da ?_);refine Bo underlying22 rfl rfl rfl (zg 2 rfl ?_);refine AM aD (fun aE aF=>?_) (fun aE aG=>?_)
  ·refine zg 4 rfl ?_;obtain rfl:=oi aF;exact AL func68 rfl rfl (W O rfl ⟨rfl,rfl⟩ aa)
  ·refine zg 4 rfl (JL.fl 1 U underlying24 Ct Da ?_);refine Bo underlying22 rfl rfl rfl (JL.fl 0 U underlying24 Ct Da ?_);refine Bo underlying22 rfl rfl rfl (zg 2 rfl ?_);refine AM aG (fun aH aI=>?_) (fun aH aJ=>?_)
   ·refine zg 4 rfl ?_;obtain rfl:=oi aI;exact AL func68 rfl rfl (W O rfl ⟨rfl,rfl⟩ aa)
   ·obtain⟨an,aK,ag⟩:=bs aJ;refine zg 6 rfl (Bs (fun L s=>∃(ao:Unit) (ap:LH),an=Sum.inr ao∧Jm aA H ap [] [] L s) ?_ ?_)
    ·rintro _ _ ⟨ao,ap,rfl,rfl,rfl,aL,aM⟩;have aN:=elim_inr ag;refine zg 4 rfl ?_;obtain rfl:=oi aN;exact AL func68 rfl rfl (W (O.Ab aL) rfl ⟨rfl,rfl⟩ aM)
    ·intro aO;refine JL.block (CO aK (fun ah=> []) (fun ah=> [(1,pV az 0),(3,iV ah)]) Aq aa ?_);rintro ah aP K aq ai ⟨bj,Z⟩ aQ;have ar:=Z;unfold MW at ar;refine zg 4 rfl (JL.fl 0 (U.Ai K) underlying24 Ct Da ?_);refine Bo underlying22 rfl rfl rfl (zg 2 rfl ?_);refine AM ar (fun aR aS=>?_) (fun aR aT=>?_)
     ·refine zg 5 rfl (DC 6 fun ht=>?_);refine HU 0 ht (U.Ai K) Cs B4 rfl rfl rfl (Ch 1 ht underlying24 Ct rfl rfl rfl rfl ?_);refine CH 2 ht 0 (U.Ai K) Da rfl rfl rfl rfl (Cz 3 ht rfl rfl ?_);obtain⟨bl,aU,aV⟩:=bs aS;refine Ds 4 (ab.Ai (O.Ab K)) aU ht underlying22 BS ?_;rintro bm bn _ ⟨bo,bp,rfl,aW⟩ aX;refine CH 5 ht 0 aX C4 rfl rfl rfl rfl (Cg [6,7] ?_);obtain⟨bq,aY,aZ⟩:=bs aV;refine BJ (XP (ab.Ai (O.Ab K)) (ae.Ai (O.Ab K)) aW aY) rfl rfl (A3 func114 rfl) aq fun br V au=>zg 7 rfl (AM aZ (fun a0 a1=>?_) (fun a0 a2=>?_))
      ·refine zg 5 rfl ?_;obtain rfl:=oi a1;obtain rfl:=ai _ Z;have a3:=elim_inl ag;obtain rfl:=oi a3;exact AL func68 rfl rfl (W ((O.Ab K).Ab V) rfl ⟨rfl,rfl⟩ au)
      ·refine zg 2 rfl (DC 7 fun ht=>?_);refine HU 0 ht (U.Ai (K.Ab V)) Cs B4 rfl rfl rfl (Cz 1 ht rfl rfl ?_);refine Ch 2 ht underlying24 Ct rfl rfl rfl rfl (CH 3 ht 1 (U.Ai (K.Ab V)) Da rfl rfl rfl rfl ?_);refine Cz 4 ht rfl rfl ?_;obtain⟨bu,a4,a5⟩:=bs a2;refine Ds 5 (ae.Ai ((O.Ab K).Ab V)) a4 ht underlying22 BS ?_;rintro bv bw _ ⟨bx,bz,rfl,a6⟩ a7;refine CH 6 ht 0 a7 C4 rfl rfl rfl rfl (Cg [7,8] ?_);obtain⟨bA,a8,a9⟩:=bs a5;refine BJ (Yw (ab.Ai ((O.Ab K).Ab V)) (ae.Ai ((O.Ab K).Ab V)) a6 a8) rfl rfl (A3 func115 rfl) au fun bB av aw=>zg 7 rfl (AM a9 (fun ba bb=>?_) (fun ba bc=>?_))
       ·refine zg 5 rfl ?_;obtain rfl:=oi bb;obtain rfl:=ai _ Z;have bd:=elim_inl ag;obtain rfl:=oi bd;exact AL func68 rfl rfl (W (((O.Ab K).Ab V).Ab av) rfl ⟨rfl,rfl⟩ aw)
       ·obtain⟨be,bf,bg⟩:=bs bc;refine zg 4 rfl (A9 bf rfl rfl rfl ?_);refine zg 2 rfl ?_;obtain rfl:=oi bg;exact aQ be ((K.Ab V).Ab av) aw rfl Z
     ·refine JL.exit rfl ?_;obtain rfl:=oi aT;have bh:an=(Sum.inr ()):=(ai _ Z).symm;exact Aw (aO _ _ ⟨(),aP,bh,rfl,rfl,K,aq⟩) rfl
def JD(fuel:Nat)(p0:Bz)(p1:List Bool)(O:(List Bool)×Int)(K:(List Bool)×Int):Option (Bn ((List Bool)×Int) ((List Bool))):= (ix p0.1 O.2).bind fun V=> Option.bind (if K.2<(V.length:Int) then((ix p1 O.2).bind fun W=> some W) else(some false)) fun Z=> if Z=true then((ix p0.1 O.2).bind fun aa=> (ix aa K.2).bind fun U=> (ix K.1 U).bind fun ae=> (Av (K.2+1)).bind fun ab=> some (.more ((K.1.set (Int.toNat U) true),ab))) else(some (.done K.1))
def Mn(fuel:Nat)(p0:Bz)(p1:List Bool)(K:(List Bool)×Int):Option (Bn ((List Bool)×Int) ((List Bool))):= if K.2<(p1.length:Int) then(Option.bind (iter (JD fuel p0 p1 K) fuel (K.1,0)) fun O=> (Av (K.2+1)).bind fun U=> some (.more (O,U))) else(some (.done K.1))
def f119(fuel:Nat)(p0:Bz)(p1:List Bool):Option ((List Bool)):= (Eg (p1.length:Int) (false:Bool)).bind fun K=> Option.bind (iter (Mn fuel p0 p1) fuel (K,0)) fun O=> some O
theorem Yc{az:Ao}{c2:Nat}{aH:Ao}{aI:Nat}{W:Ao}{Z:Nat}{p0:Bz}{p1:List Bool}(aJ:Ap (rL rI) E az c2 p0.1)(ci:Ap (rL rI) E aH aI p0.2)(a0:Ap rB E W Z p1){fuel:Nat}{r:(List Bool)}(aK:f119 fuel p0 p1=some r):AU J 119 [.agg #[sV az p0.1 c2,sV aH p0.2 aI],sV W p1 Z] E [] (fun w E' B'=>∃(aL:Ao) (aM:Nat),w= sV aL r aM∧B'= []∧Ap rB E' aL aM r):=by
 refine Bj func119 fun Q ck cs H a1 a2=>?_;unfold f119 at aK;refine zg 2 rfl (Cy a1 fun ag aA ao aN a3=>?_);refine zg 5 rfl (Bo underlying68 rfl rfl rfl ?_);obtain⟨a4,a5,a6⟩:=bs aK;refine JS.make (pp:=rB) a5 rfl rfl rfl rfl rfl underlying68 Ef (Cu type4) (by decide) IM (by decide) rfl a3 fun a7 a8 a9 ba=>?_;obtain⟨aO,bb,bc⟩:=bs a6;refine zg 7 rfl (Bs (fun L s=>∃(aB:LH) (ap:Ao) (aq:Nat) (aC:Seg),Jn aA H aB [aC] [(5,sV ap aO aq)] L s (OL 4 rB aB ap aq aC aO)) ?_ ?_)
 ·rintro _ _ ⟨aB,ap,aq,aC,rfl,rfl,bd,be,bf⟩;refine zg 5 rfl (Cc 0 bf be rfl fun cm bg bh bi=>?_);obtain rfl:=oi bc;exact AL func119 rfl rfl (a2 ((ao.Ab bd).Ab bg) rfl ⟨ap,aq,rfl,rfl,bh⟩ bi)
 ·intro bj;refine JL.block (CE bb (fun L s O=>∃(aa:LH) (aj:Ao) (ak:Nat) (al:Seg),Jn aA H aa [al] [(1,sV W p1 Z),(2,pV ag 0),(5,sV aj O.1 ak),(6,iV O.2)] L s (OL 4 rB aa aj ak al O.1)) ⟨aA,(A2 a7),a4.length,a8,rfl,rfl,Aq,ba,a9⟩ ?_);rintro _ _ O ⟨aa,aj,ak,al,rfl,rfl,ab,aP,aQ⟩ bl ⟨cn,aD⟩ bm;have aR:=aD;unfold Mn at aR;refine zg 5 rfl (Bo underlying68 rfl rfl rfl ?_);refine zg 2 rfl (AM aR (fun bn bo=>?_) (fun bn bp=>?_))
  ·obtain⟨aE,bq,br⟩:=bs bo;refine zg 7 rfl (Bs (fun L s=>∃(ar:LH) (au:Ao) (av:Nat) (aw:Seg),Jn aa H ar [aw] [(1,sV W p1 Z),(2,pV ag 0),(5,sV au aE av),(6,iV O.2)] L s (OL 4 rB ar au av aw aE)) ?_ ?_)
   ·rintro _ _ ⟨ar,au,av,aw,rfl,rfl,bu,bv,bw⟩;obtain⟨bx,bz,bA⟩:=bs br;refine zg 3 rfl (A9 bz rfl rfl rfl ?_);refine zg 2 rfl ?_;obtain rfl:=oi bA;exact Aw (bm _ _ (aE,bx) ⟨ar,au,av,aw,rfl,rfl,(ab.Ab bu),bv,bw⟩ aD) rfl
   ·intro bB;refine JL.block (CE bq (fun L s K=>∃(ah:LH) (U:Ao) (V:Nat) (am:Seg),Jn aa H ah [am] [(1,sV W p1 Z),(2,pV ag 0),(5,sV U K.1 V),(6,iV O.2),(7,iV K.2)] L s (OL 4 rB ah U V am K.1)) ⟨aa,aj,ak,al,rfl,rfl,Aq,aP,aQ⟩ ?_);rintro _ _ K ⟨ah,U,V,am,rfl,rfl,ae,aS,aT⟩ bC ⟨co,aF⟩ bD;have aU:=aF;unfold JD at aU;refine zg 4 rfl (JL.fl 0 (aN.Ai (ab.Ab ae)) underlying24 Ct Da ?_);obtain⟨cp,bE,bF⟩:=bs aU;refine zg 1 rfl (B5 (aJ.Ai ((ao.Ab ab).Ab ae)) bE underlying22 BS ?_);rintro cq cr _ ⟨ct,cu,rfl,cv⟩ bG;refine BY 0 bG C4 rfl rfl rfl (Bo underlying28 rfl rfl rfl ?_);obtain⟨aV,bH,bI⟩:=bs bF;refine zg 2 rfl (FP [] (fun L s=>∃(ay:LH),Jm ah H ay [am] [(1,sV W p1 Z),(2,pV ag 0),(5,sV U K.1 V),(6,iV O.2),(7,iV K.2),(30,.bool aV)] L s) ?_ ?_)
    ·rintro _ _ ⟨ay,rfl,rfl,ai,aW⟩;refine JL.done (BK bI (fun bJ bK=>?_) (fun bJ bL=>?_))
     ·refine zg 5 rfl (JL.fl 0 (aN.Ai ((ab.Ab ae).Ab ai)) underlying24 Ct Da ?_);obtain⟨bM,bN,bO⟩:=bs bK;refine zg 1 rfl (B5 (aJ.Ai (((ao.Ab ab).Ab ae).Ab ai)) bN underlying22 BS ?_);rintro bP bQ _ ⟨bR,bS,rfl,bT⟩ bU;refine BY 0 bU C4 rfl rfl rfl ?_;obtain⟨an,bV,bW⟩:=bs bO;refine zg 1 rfl (B5 bT bV underlying28 AN ?_);rintro bY bZ _ rfl b0;refine BY 0 b0 Bq rfl rfl rfl ?_;obtain⟨cw,b1,b2⟩:=bs bW;refine FU 0 (aT.Ai ai) b1 rfl rfl rfl rfl rfl rfl underlying68 Ef ?_;rintro aX aG f141 _ b3 rfl cy b4 b5 cz cA;refine JS.store (v:= .bool true) (off:=aG) 0 rfl rfl rfl aW rfl rfl Ef (by simp [Value.cells,Cx]) b3 (by have:=b4;simp only [Rp.n,rK,rN,rB,rP,rL] at this;show _+1≤_;omega) fun b6=>?_;have b7:=b5 true [.bool true] rfl;have aY:(K.1.set (Int.toNat an) true).length=K.1.length:=List.length_set;refine Fg (L':= [(1,.slice W p1.length Z),(2,pV ag 0),(5,.slice U ((K.1.set (Int.toNat an) true)).length V),(6,iV O.2),(7,iV K.2),(30,.bool aV),(33,.slice U ((K.1.set (Int.toNat an) true)).length V),(34,pV ag 0),(35,.slice az p0.1.length c2),(36,iV O.2),(37,pV bP bQ),(38,.slice bR bM.length bS),(39,iV K.2),(40,pV bY bZ),(41,iV an),(42,pV aX aG)]) ⟨rfl,rfl,by rw [aY];rfl,rfl,rfl,rfl,by rw [aY];rfl,rfl,rfl,rfl,rfl,rfl,rfl,rfl,rfl,rfl,trivial⟩ ?_;obtain⟨b8,b9,ca⟩:=bs b2;refine zg 4 rfl (A9 b9 rfl rfl rfl ?_);refine zg 2 rfl ?_;obtain rfl:=oi ca;exact Aw (bD _ _ ((K.1.set (Int.toNat an) true),b8) ⟨ay,U,V,[(aX,.cells (A4 f141 aG [.bool true]) 4 (0,0))],rfl,rfl,(ae.Ab ai),b6,b7⟩ aF) rfl
     ·refine JL.exit rfl ?_;obtain rfl:=oi bL;obtain rfl:=bC _ aF;exact Aw (bB _ _ ⟨ay,U,V,am,rfl,rfl,(ae.Ab ai),aW,(aT.Ai ai)⟩) rfl
    ·intro aZ;refine EE 25 bH (fun cb cc=>?_) (fun cb cd=>?_)
     ·obtain⟨cB,ce,cf⟩:=bs cc;refine zg 2 rfl (B5 (a0.Ai ((ao.Ab ab).Ab ae)) ce underlying68 Ef ?_);rintro cC cD _ rfl cg;refine BY 0 cg Jc rfl rfl rfl (zg 1 rfl ?_);obtain rfl:=oi cf;exact Aw (aZ _ _ ⟨ah,rfl,rfl,Aq,aS⟩) rfl
     ·refine zg 5 rfl ?_;obtain rfl:=oi cd;exact Aw (aZ _ _ ⟨ah,rfl,rfl,Aq,aS⟩) rfl
  ·refine JL.exit rfl ?_;obtain rfl:=oi bp;obtain rfl:=bl _ aD;exact Aw (bj _ _ ⟨aa,aj,ak,al,rfl,rfl,ab,aP,aQ⟩) rfl
def M8(fuel:Nat)(p0:Bz)(p1:Int)(K:(List Bool)×Int):Option (Bn ((List Bool)×Int) ((List Bool))):= if K.2<p1 then((f119 fuel p0 K.1).bind fun O=> (Av (K.2+1)).bind fun U=> some (.more (O,U))) else(some (.done K.1))
def f82(fuel:Nat)(p0:Bz)(p1:Int):Option ((List Bool)):= (Eg (p0.1.length:Int) (false:Bool)).bind fun K=> (ix K (0)).bind fun U=> Option.bind (iter (M8 fuel p0 p1) fuel ((K.set (Int.toNat 0) true),0)) fun O=> some O
theorem Zb{U:Ao}{c2:Nat}{ah:Ao}{ai:Nat}{p0:Bz}{p1:Int}(aB:Ap (rL rI) E U c2 p0.1)(aC:Ap (rL rI) E ah ai p0.2){fuel:Nat}{r:(List Bool)}(ao:f82 fuel p0 p1=some r):AU J 82 [.agg #[sV U p0.1 c2,sV ah p0.2 ai],iV p1] E [] (fun w E' B'=>∃(ap:Ao) (aq:Nat),w= sV ap r aq∧B'= []∧Ap rB E' ap aq r):=by
 refine Bj func82 fun Q bj cs H aD aE=>?_;unfold f82 at ao;refine zg 2 rfl (Cy aD fun aj ar ak au aF=>?_);refine zg 4 rfl (JL.fl 0 au underlying24 Ct Da ?_);refine Bo underlying22 rfl rfl rfl ?_;obtain⟨K,aG,aH⟩:=bs ao;refine JS.make (pp:=rB) aG rfl rfl rfl rfl rfl underlying68 Ef (Cu type4) (by decide) IM (by decide) rfl aF fun V bl aI aJ=>?_;obtain⟨bm,aK,aL⟩:=bs aH;refine zg 5 rfl (FU 2 aI aK rfl rfl rfl rfl rfl rfl underlying68 Ef ?_);rintro aM av f24 _ aN rfl bn aO aP bo bp;refine JS.store (v:= .bool true) (off:=av) 2 rfl rfl rfl aJ rfl rfl Ef (by simp [Value.cells,Cx]) aN (by have:=aO;simp only [Rp.n,rK,rN,rB,rP,rL] at this;show _+1≤_;omega) fun aQ=>?_;have aR:=aP true [.bool true] rfl;have al:(K.set (Int.toNat 0) true).length=K.length:=List.length_set;refine Fg (L':= [(0,.agg #[.slice U p0.1.length c2,.slice ah p0.2.length ai]),(1,iV p1),(2,pV aj 0),(4,.slice none 0 0),(7,pV aj 0),(8,.slice U p0.1.length c2),(9,iV (p0.1.length:Int)),(10,.slice (A2 V) ((K.set (Int.toNat 0) true)).length K.length),(5,.slice (A2 V) ((K.set (Int.toNat 0) true)).length K.length),(11,.slice (A2 V) ((K.set (Int.toNat 0) true)).length K.length),(12,pV aM av)]) ⟨rfl,rfl,rfl,rfl,rfl,rfl,rfl,by rw [al];rfl,by rw [al];rfl,by rw [al];rfl,rfl,trivial⟩ ?_;obtain⟨aw,aS,aT⟩:=bs aL;refine zg 6 rfl (Bs (fun L s=>∃(am:LH) (W:Ao) (Z:Nat),Jn ar H am [] [(5,sV W aw Z)] L s (Ap rB am W Z aw)) ?_ ?_)
 ·rintro _ _ ⟨am,W,Z,rfl,rfl,aU,aV,aW⟩;refine zg 5 rfl ?_;obtain rfl:=oi aT;exact AL func82 rfl rfl (aE (ak.Ab aU) rfl ⟨W,Z,rfl,rfl,aW⟩ aV)
 ·intro aX;refine JL.block (Cc 2 aR aQ rfl fun aY aZ a0 a1=>?_);refine CE aS (fun L s aa=>∃(ab:LH) (ae:Ao) (ag:Nat),Jn ar H ab [] [(1,iV p1),(2,pV aj 0),(5,sV ae aa.1 ag),(6,iV aa.2)] L s (Ap rB ab ae ag aa.1)) ⟨aY,(A2 V),K.length,rfl,rfl,aZ,a1,a0⟩ ?_;rintro _ _ aa ⟨ab,ae,ag,rfl,rfl,O,ay,az⟩ a2 ⟨bq,an⟩ a3;have aA:=an;unfold M8 at aA;refine zg 7 rfl (AM aA (fun a4 a5=>?_) (fun a4 a6=>?_))
  ·refine zg 4 rfl (Cf (au.Ai O) Cs B4 rfl rfl ?_);obtain⟨a7,a8,a9⟩:=bs a5;refine zg 1 rfl (BR (Yc (aB.Ai (ak.Ab O)) (aC.Ai (ak.Ab O)) az a8) rfl rfl (A3 func119 rfl) ay ?_);rintro _ ba _ bb ⟨bc,bd,rfl,rfl,be⟩ bf;obtain⟨bg,bh,bi⟩:=bs a9;refine zg 5 rfl (A9 bh rfl rfl rfl ?_);refine zg 2 rfl ?_;obtain rfl:=oi bi;exact Aw (a3 _ _ (a7,bg) ⟨ba,bc,bd,rfl,rfl,(O.Ab bb),bf,be⟩ an) rfl
  ·refine JL.exit rfl ?_;obtain rfl:=oi a6;obtain rfl:=a2 _ an;exact Aw (aX _ _ ⟨ab,ae,ag,rfl,rfl,O,ay,az⟩) rfl
def f64(fuel:Nat)(p0:Bz)(p1:Int):Option ((List Int)×Int):= (f68 fuel p0).bind fun K=> if K≠0 then(some ([],K)) else((f104 fuel p1 0 12).bind fun O=> if(!O)=true then(some ([],1)) else((f82 fuel p0 p1).bind fun U=> (f111 fuel U).bind fun V=> some (V,0)))
theorem Y0{W:Ao}{c2:Nat}{Z:Ao}{aa:Nat}{p0:Bz}{p1:Int}(ab:Ap (rL rI) E W c2 p0.1)(ae:Ap (rL rI) E Z aa p0.2){fuel:Nat}{r:(List Int)×Int}(ag:f64 fuel p0 p1=some r):AU J 64 [.agg #[sV W p0.1 c2,sV Z p0.2 aa],iV p1] E [] (fun w E' B'=>∃(ah:Ao) (ai:Nat),w= .tuple #[sV ah r.1 ai,iV r.2]∧B'= []∧Ap rI E' ah ai r.1):=by
 refine Bj func64 fun Q aO cs H am V=>?_;unfold f64 at ag;refine zg 2 rfl (Cy am fun aP aQ K aj an=>?_);refine zg 6 rfl (Cf aj Cs B4 rfl rfl ?_);obtain⟨aR,ao,ap⟩:=bs ag;refine BJ (YL (ab.Ai K) (ae.Ai K) ao) rfl rfl (A3 func68 rfl) an fun aS O ak=>zg 7 rfl (AM ap (fun aq ar=>?_) (fun aq au=>?_))
 ·refine zg 6 rfl ?_;obtain rfl:=oi ar;exact AL func64 rfl rfl (V (K.Ab O) rfl ⟨none,0,rfl,rfl,Ap.nil⟩ ak)
 ·obtain⟨av,aw,ay⟩:=bs au;refine zg 5 rfl (BJ (OU aw) rfl rfl NK ak fun aT U al=>?_);refine Ay (v:= .bool (!av)) rfl (fun ρ h=>Yl.not (h _ _ rfl)) (JL.done ?_);refine BK ay (fun az aA=>?_) (fun az aB=>?_)
  ·refine zg 5 rfl ?_;obtain rfl:=oi aA;exact AL func64 rfl rfl (V ((K.Ab O).Ab U) rfl ⟨none,0,rfl,rfl,Ap.nil⟩ al)
  ·refine zg 3 rfl (Cf (aj.Ai (O.Ab U)) Cs B4 rfl rfl ?_);obtain⟨aU,aC,aD⟩:=bs aB;refine zg 1 rfl (BR (Zb (ab.Ai ((K.Ab O).Ab U)) (ae.Ai ((K.Ab O).Ab U)) aC) rfl rfl (A3 func82 rfl) al ?_);rintro _ aV _ aE ⟨aW,aX,rfl,rfl,aF⟩ aG;obtain⟨aY,aH,aI⟩:=bs aD;refine BR (X7 aF aH) rfl rfl (A3 func111 rfl) aG ?_;rintro _ aZ _ aJ ⟨aK,aL,rfl,rfl,aM⟩ aN;refine zg 3 rfl ?_;obtain rfl:=oi aI;exact AL func64 rfl rfl (V ((((K.Ab O).Ab U).Ab aE).Ab aJ) rfl ⟨aK,aL,rfl,rfl,aM⟩ aN)
def MV(fuel:Nat)(p0:Bz)(p1:A6)(p2:List Int)(K:(List Bool)×Int×Int):Option (Bn ((List Bool)×Int×Int) (((List Bool)×Int×Bool)⊕((List Bool)×Int))):= if K.2.2<(p1.length:Int) then(Option.bind ((ix p1 K.2.2).bind fun V=> (ix p2 V.1).bind fun O=> (ix p1 K.2.2).bind fun W=> if O=W.2 then(some (Sum.inr (K.1,K.2.1))) else((ix p0.2 O).bind fun Z=> (ix p1 K.2.2).bind fun aa=> (f53 fuel Z aa.2).bind fun ab=> if(!ab)=true then(some (Sum.inl ([],0,false))) else((Av (K.2.1+1)).bind fun ae=> (ix K.1 K.2.2).bind fun ai=> some (Sum.inr ((K.1.set (Int.toNat K.2.2) true),ae))))) fun ag=>Sum.elim (fun r=>some (.done (Sum.inl r))) (fun U=> (Av (K.2.2+1)).bind fun ah=> some (.more (U.1,U.2,ah))) ag) else(some (.done (Sum.inr (K.1,K.2.1))))
def f54(fuel:Nat)(p0:Bz)(p1:A6)(p2:List Int):Option ((List Bool)×Int×Bool):= (Eg (p1.length:Int) (false:Bool)).bind fun O=> Option.bind (iter (MV fuel p0 p1 p2) fuel (O,0,0)) fun U=> Sum.elim (fun r=>some r) (fun K=> some (K.1,K.2,true)) U
theorem Y2{aH:Ao}{c2:Nat}{av:Ao}{aw:Nat}{O:Ao}{U:Nat}{ae:Ao}{ag:Nat}{p0:Bz}{p1:A6}{p2:List Int}(cv:Ap (rL rI) E aH c2 p0.1)(a3:Ap (rL rI) E av aw p0.2)(ay:Ap BM E O U p1)(a4:Ap rI E ae ag p2){fuel:Nat}{r:(List Bool)×Int×Bool}(aI:f54 fuel p0 p1 p2=some r):AU J 54 [.agg #[sV aH p0.1 c2,sV av p0.2 aw],sV O p1 U,sV ae p2 ag] E [] (fun w E' B'=>∃(aJ:Ao) (aK:Nat),w= .tuple #[sV aJ r.1 aK,iV r.2.1,.bool r.2.2]∧B'= []∧Ap rB E' aJ aK r.1):=by
 refine Bj func54 fun Q cw cs H a5 aL=>?_;unfold f54 at aI;refine zg 2 rfl (Cy a5 fun al az aa a6 a7=>?_);refine zg 7 rfl (Bo underlying25 rfl rfl rfl ?_);obtain⟨a8,a9,ba⟩:=bs aI;refine JS.make (pp:=rB) a9 rfl rfl rfl rfl rfl underlying68 Ef (Cu type4) (by decide) IM (by decide) rfl a7 fun bb bc bd be=>?_;obtain⟨aM,bf,aN⟩:=bs ba;refine zg 11 rfl (Bs (fun L s=>∃(ai:(List Bool)×Int) (aA:LH) (am:Ao) (an:Nat) (aB:Seg),aM=Sum.inr ai∧Jn az H aA [aB] [(9,sV am ai.1 an),(10,iV ai.2)] L s (OL 4 rB aA am an aB ai.1)) ?_ ?_)
 ·rintro _ _ ⟨ai,aA,am,an,aB,rfl,rfl,rfl,bg,bh,bi⟩;have bj:=elim_inr aN;refine zg 8 rfl (Cc 0 bi bh rfl fun cy bl bm bn=>?_);obtain rfl:=oi bj;exact AL func54 rfl rfl (aL ((aa.Ab bg).Ab bl) rfl ⟨am,an,rfl,rfl,bm⟩ bn)
 ·intro bo;refine JL.block (CE bf (fun L s K=>∃(ah:LH) (W:Ao) (Z:Nat) (aj:Seg),Jn az H ah [aj] [(1,sV O p1 U),(2,sV ae p2 ag),(3,pV al 0),(9,sV W K.1 Z),(10,iV K.2.1),(11,iV K.2.2)] L s (OL 4 rB ah W Z aj K.1)) ⟨az,(A2 bb),a8.length,bc,rfl,rfl,Aq,be,bd⟩ ?_);rintro _ _ K ⟨ah,W,Z,aj,rfl,rfl,V,aC,aD⟩ aO ⟨cz,ao⟩ bp;have aP:=ao;unfold MV at aP;refine zg 5 rfl (Bo underlying25 rfl rfl rfl ?_);refine zg 2 rfl (AM aP (fun bq br=>?_) (fun bq bu=>?_))
  ·obtain⟨bv,bw,aQ⟩:=bs br;refine zg 2 rfl (Bs (fun L s=>∃(ab:(List Bool)×Int) (ap:LH) (aq:Ao) (ar:Nat) (au:Seg),bv=Sum.inr ab∧Jn ah H ap [au] [(1,sV O p1 U),(2,sV ae p2 ag),(3,pV al 0),(9,sV aq ab.1 ar),(10,iV ab.2),(11,iV K.2.2)] L s (OL 4 rB ap aq ar au ab.1)) ?_ ?_)
   ·rintro _ _ ⟨ab,ap,aq,ar,au,rfl,rfl,rfl,bx,bz,bA⟩;have bB:=elim_inr aQ;obtain⟨bC,bD,bE⟩:=bs bB;refine zg 2 rfl (A9 bD rfl rfl rfl ?_);refine zg 2 rfl ?_;obtain rfl:=oi bE;exact Aw (bp _ _ (ab.1,ab.2,bC) ⟨ap,aq,ar,au,rfl,rfl,(V.Ab bx),bz,bA⟩ ao) rfl
   ·intro aR;obtain⟨bF,bG,bH⟩:=bs bw;refine zg 6 rfl (B5 (ay.Ai (aa.Ab V)) bG underlying25 C5 ?_);rintro aS aT _ ⟨_,_,rfl,rfl,rfl⟩ bI;refine JL.fl 0 bI underlying27 AN Bq ?_;obtain⟨ak,bJ,bK⟩:=bs bH;refine B5 (a4.Ai (aa.Ab V)) bJ underlying28 AN ?_;rintro bL bM _ rfl bN;refine BY 0 bN Bq rfl rfl rfl ?_;obtain⟨aU,bO,bP⟩:=bs bK;refine zg 8 rfl (B5 (ay.Ai (aa.Ab V)) bO underlying25 C5 ?_);rintro aV aW _ ⟨_,_,rfl,rfl,rfl⟩ bQ;refine JL.fl 1 bQ underlying27 AN Bq ?_;refine zg 2 rfl (AM bP (fun bR bS=>?_) (fun bR bT=>?_))
    ·exact JL.exit rfl (Aw (aR _ _ ⟨(K.1,K.2.1),ah,W,Z,aj,(Option.some.inj bS).symm,rfl,rfl,Aq,aC,aD⟩) rfl)
    ·refine zg 3 rfl (DC 10 fun ht=>?_);refine Ch 0 ht underlying24 Ct rfl rfl rfl rfl (CH 1 ht 1 (a6.Ai V) Da rfl rfl rfl rfl ?_);refine Cz 2 ht rfl rfl ?_;obtain⟨bU,bV,bW⟩:=bs bT;refine Ds 3 (a3.Ai (aa.Ab V)) bV ht underlying22 BS ?_;rintro bY bZ _ ⟨b0,b1,rfl,b2⟩ b3;refine CH 4 ht 0 b3 C4 rfl rfl rfl rfl (Bh ht rfl [5,6] rfl ?_);obtain⟨b4,b5,b6⟩:=bs bW;refine Ds 7 (ay.Ai (aa.Ab V)) b5 ht underlying25 C5 ?_;rintro aX aY _ ⟨_,_,rfl,rfl,rfl⟩ b7;refine Ch 8 ht underlying27 AN rfl rfl rfl rfl (CH 9 ht 1 b7 Bq rfl rfl rfl rfl ?_);refine Cg [10,11] ?_;obtain⟨aE,b8,b9⟩:=bs b6;refine BJ (Y3 b2 b8) rfl rfl (A3 func53 rfl) aC fun ca aF aZ=>Ay (v:= .bool (!aE)) rfl (fun ρ h=>Yl.not (h _ _ rfl)) (JL.done ?_);refine BK b9 (fun cb cc=>?_) (fun cb cd=>?_)
     ·refine zg 6 rfl (JS.drop 0 aZ rfl fun ce=>?_);obtain rfl:=oi cc;have cf:=elim_inl aQ;obtain rfl:=oi cf;obtain rfl:=aO _ ao;have cg:=elim_inl aN;obtain rfl:=oi cg;exact AL func54 rfl rfl (aL ((aa.Ab V).Ab aF) rfl ⟨none,0,rfl,rfl,Ap.nil⟩ ce)
     ·obtain⟨a0,ci,ck⟩:=bs cd;refine zg 5 rfl (A9 ci rfl rfl rfl ?_);obtain⟨cA,cm,cn⟩:=bs ck;refine FU 0 (aD.Ai aF) cm rfl rfl rfl rfl rfl rfl underlying68 Ef ?_;rintro a1 aG f144 _ co rfl cB cp cq cC cD;refine JS.store (v:= .bool true) (off:=aG) 0 rfl rfl rfl aZ rfl rfl Ef (by simp [Value.cells,Cx]) co (by have:=cp;simp only [Rp.n,rK,rN,rB,rP,rL] at this;show _+1≤_;omega) fun cr=>?_;have ct:=cq true [.bool true] rfl;have a2:(K.1.set (Int.toNat K.2.2) true).length=K.1.length:=List.length_set;refine Fg (L':= [(1,.slice O p1.length U),(2,.slice ae p2.length ag),(3,pV al 0),(9,.slice W ((K.1.set (Int.toNat K.2.2) true)).length Z),(10,iV K.2.1),(11,iV K.2.2),(16,iV K.2.2),(17,.slice O p1.length U),(18,iV (p1.length:Int)),(19,.bool (decide (K.2.2<(p1.length:Int)))),(22,.slice ae p2.length ag),(23,.slice O p1.length U),(24,iV K.2.2),(25,pV aS aT),(26,pV aS aT),(27,iV bF.1),(28,pV bL bM),(29,iV ak),(12,iV ak),(30,iV ak),(31,.slice O p1.length U),(32,iV K.2.2),(33,pV aV aW),(34,pV aV (aW+1)),(35,iV aU.2),(36,.bool (decide (ak=aU.2))),(37,pV al 1),(38,.slice av p0.2.length aw),(39,iV ak),(40,pV bY bZ),(41,.slice b0 bU.length b1),(42,.slice O p1.length U),(43,iV K.2.2),(44,pV aX aY),(45,pV aX (aY+1)),(46,iV b4.2),(47,.bool aE),(48,.bool (!aE)),(49,.slice W ((K.1.set (Int.toNat K.2.2) true)).length Z),(50,iV K.2.2),(51,iV K.2.1),(52,iV a0),(53,pV a1 aG)]) ⟨rfl,rfl,rfl,by rw [a2];rfl,rfl,rfl,rfl,rfl,rfl,rfl,rfl,rfl,rfl,rfl,rfl,rfl,rfl,rfl,rfl,rfl,rfl,rfl,rfl,rfl,rfl,rfl,rfl,rfl,rfl,rfl,rfl,rfl,rfl,rfl,rfl,rfl,rfl,rfl,by rw [a2];rfl,rfl,rfl,rfl,rfl,trivial⟩ ?_;exact zg 3 rfl (Aw (aR _ _ ⟨((K.1.set (Int.toNat K.2.2) true),a0),ca,W,Z,[(a1,.cells (A4 f144 aG [.bool true]) 4 (0,0))],(Option.some.inj cn).symm,rfl,rfl,aF,cr,ct⟩) rfl)
  ·refine JL.exit rfl ?_;obtain rfl:=oi bu;have cu:aM=(Sum.inr (K.1,K.2.1)):=(aO _ ao).symm;exact Aw (bo _ _ ⟨(K.1,K.2.1),ah,W,Z,aj,cu,rfl,rfl,V,aC,aD⟩) rfl
def f71(fuel:Nat):Option ((Bz)):= some (([([1]:List Int),([2]:List Int),([3,4]:List Int),([4]:List Int),([5]:List Int),([5]:List Int)]:List (List Int)),([[],[],[],([2]:List Int),([2,3]:List Int),([3,4]:List Int)]:List (List Int)))
theorem Iw{fuel:Nat}{r:(Bz)}(ak:f71 fuel=some r):AU J 71 [] E [] (fun w E' B'=>∃(al:Ao) (am:Nat) (an:Ao) (ao:Nat),w= .agg #[sV al r.1 am,sV an r.2 ao]∧B'= []∧Ap (rL rI) E' al am r.1∧Ap (rL rI) E' an ao r.2):=by
 refine Bj func71 fun Q bM cs H aB aC=>?_;unfold f71 at ak;refine zg 2 rfl (CN aB Kk fun K aD=>?_);refine zg 3 rfl (JS.lit (pp:=rI) [iV 1] [1] rfl rfl rfl underlying28 AN Cp (by decide) rfl rfl rfl ⟨rfl,trivial⟩ aD fun aE ap aF aG=>?_);refine JS.lit (pp:=rI) [iV 2] [2] rfl rfl rfl underlying28 AN Cp (by decide) rfl rfl rfl ⟨rfl,trivial⟩ aG fun aH aq aI aJ=>CG (S':= [[],[(K,.cells #[nS,nS] 24 (0,0))],ap,aq]) rfl aJ fun aK=>JS.lit (pp:=rI) [iV 3,iV 4] [3,4] rfl rfl rfl underlying28 AN Cp (by decide) rfl rfl rfl ⟨rfl,rfl,trivial⟩ aK fun aL ar aM aN=>JS.lit (pp:=rI) [iV 4] [4] rfl rfl rfl underlying28 AN Cp (by decide) rfl rfl rfl ⟨rfl,trivial⟩ aN fun aO au aP aQ=>JS.lit (pp:=rI) [iV 5] [5] rfl rfl rfl underlying28 AN Cp (by decide) rfl rfl rfl ⟨rfl,trivial⟩ aQ fun aR av aS aT=>CG (S':= [[],[(K,.cells #[nS,nS] 24 (0,0))],ap,aq,ar,au,av]) rfl aT fun aU=>JS.lit (pp:=rI) [iV 5] [5] rfl rfl rfl underlying28 AN Cp (by decide) rfl rfl rfl ⟨rfl,trivial⟩ aU fun aV aw aW aX=>Cc 2 aF aX rfl fun bN O aY aZ=>Cc 3 (aI.Ai O) aZ rfl fun bO U a0 a1=>CG (S':= [[],[(K,.cells #[nS,nS] 24 (0,0))],[],[],ar,au,av,aw]) rfl a1 fun a2=>Cc 4 (aM.Ai (O.Ab U)) a2 rfl fun bP V a3 a4=>Cc 5 (aP.Ai ((O.Ab U).Ab V)) a4 rfl fun bQ W a5 a6=>Cc 6 (aS.Ai (((O.Ab U).Ab V).Ab W)) a6 rfl fun bR Z a7 a8=>CG (S':= [[],[(K,.cells #[nS,nS] 24 (0,0))],[],[],[],[],[],aw]) rfl a8 fun a9=>Cc 7 (aW.Ai ((((O.Ab U).Ab V).Ab W).Ab Z)) a9 rfl fun bS aa ba bb=>JS.lit (pp:=(rL rI)) [.slice (A2 aE) (([1]:List Int)).length 1,.slice (A2 aH) (([2]:List Int)).length 1,.slice (A2 aL) (([3,4]:List Int)).length 2,.slice (A2 aO) (([4]:List Int)).length 1,.slice (A2 aR) (([5]:List Int)).length 1,.slice (A2 aV) (([5]:List Int)).length 1] [([1]:List Int),([2]:List Int),([3,4]:List Int),([4]:List Int),([5]:List Int),([5]:List Int)] rfl rfl rfl underlying22 BS EK (by decide) rfl rfl rfl ⟨⟨_,_,rfl,(aY.Ai ((((U.Ab V).Ab W).Ab Z).Ab aa))⟩,⟨_,_,rfl,(a0.Ai (((V.Ab W).Ab Z).Ab aa))⟩,⟨_,_,rfl,(a3.Ai ((W.Ab Z).Ab aa))⟩,⟨_,_,rfl,(a5.Ai (Z.Ab aa))⟩,⟨_,_,rfl,(a7.Ai aa)⟩,⟨_,_,rfl,ba⟩,trivial⟩ bb fun ab aj bc bd=>JS.lit (pp:=rI) [iV 2] [2] rfl rfl rfl underlying28 AN Cp (by decide) rfl rfl rfl ⟨rfl,trivial⟩ bd fun be bf bg bh=>CG (S':= [[],[(K,.cells #[nS,nS] 24 (0,0))],[],[],[],[],[],[],aj,bf]) rfl bh fun bi=>JS.lit (pp:=rI) [iV 2,iV 3] [2,3] rfl rfl rfl underlying28 AN Cp (by decide) rfl rfl rfl ⟨rfl,rfl,trivial⟩ bi fun bj bl bm bn=>JS.lit (pp:=rI) [iV 3,iV 4] [3,4] rfl rfl rfl underlying28 AN Cp (by decide) rfl rfl rfl ⟨rfl,rfl,trivial⟩ bn fun bo bp bq br=>Cc 9 bg br rfl fun bT ag bu bv=>?_;refine CG (S':= [[],[(K,.cells #[nS,nS] 24 (0,0))],[],[],[],[],[],[],aj,[],bl,bp]) rfl bv fun bw=>Cc 10 (bm.Ai ag) bw rfl fun bU ah bx bz=>Cc 11 (bq.Ai (ag.Ab ah)) bz rfl fun bV ai bA bB=>JS.lit (pp:=(rL rI)) [nS,nS,nS,.slice (A2 be) (([2]:List Int)).length 1,.slice (A2 bj) (([2,3]:List Int)).length 2,.slice (A2 bo) (([3,4]:List Int)).length 2] [[],[],[],([2]:List Int),([2,3]:List Int),([3,4]:List Int)] rfl rfl rfl underlying22 BS EK (by decide) rfl rfl rfl ⟨⟨_,_,rfl,Ap.nil⟩,⟨_,_,rfl,Ap.nil⟩,⟨_,_,rfl,Ap.nil⟩,⟨_,_,rfl,(bu.Ai (ah.Ab ai))⟩,⟨_,_,rfl,(bx.Ai ai)⟩,⟨_,_,rfl,bA⟩,trivial⟩ bB fun ae bC bD bE=>CG (S':= [[],[(K,.cells #[nS,nS] 24 (0,0))],[],[],[],[],[],[],aj,[],[],[],bC]) rfl bE fun bF=>Ay (v:= .agg #[.slice (A2 ab) (([([1]:List Int),([2]:List Int),([3,4]:List Int),([4]:List Int),([5]:List Int),([5]:List Int)]:List (List Int))).length 6,.slice (A2 ae) (([[],[],[],([2]:List Int),([2,3]:List Int),([3,4]:List Int)]:List (List Int))).length 6]) rfl (fun ρ h=>De [(0,1),(1,1)] h Kk underlying24 ⟨rfl,Br type22,rfl,Br type22,trivial⟩ rfl rfl) (BT 1 bF B4 fun bG=>?_);refine JL.done (Cc 8 (bc.Ai ((ag.Ab ah).Ab ai)) bG rfl fun bW ay bH bI=>?_);refine Cc 12 (bD.Ai ay) bI rfl fun bY az bJ bK=>CG (S':= [[],[(K,.cells #[.slice (A2 ab) (([([1]:List Int),([2]:List Int),([3,4]:List Int),([4]:List Int),([5]:List Int),([5]:List Int)]:List (List Int))).length 6,.slice (A2 ae) (([[],[],[],([2]:List Int),([2,3]:List Int),([3,4]:List Int)]:List (List Int))).length 6] 24 (0,0))],[],[],[],[],[],[],[],[],[],[],[]]) rfl bK fun aA=>?_;obtain rfl:=oi ak;refine JL.ret (v:= .agg #[.slice (A2 ab) (([([1]:List Int),([2]:List Int),([3,4]:List Int),([4]:List Int),([5]:List Int),([5]:List Int)]:List (List Int))).length 6,.slice (A2 ae) (([[],[],[],([2]:List Int),([2,3]:List Int),([3,4]:List Int)]:List (List Int))).length 6]) rfl rfl (B6.list func71 rfl (vs:= [.agg #[.slice (A2 ab) (([([1]:List Int),([2]:List Int),([3,4]:List Int),([4]:List Int),([5]:List Int),([5]:List Int)]:List (List Int))).length 6,.slice (A2 ae) (([[],[],[],([2]:List Int),([2,3]:List Int),([3,4]:List Int)]:List (List Int))).length 6]]) ⟨⟨_,rfl,Ld.many (vs:= [.slice (A2 ab) (([([1]:List Int),([2]:List Int),([3,4]:List Int),([4]:List Int),([5]:List Int),([5]:List Int)]:List (List Int))).length 6,.slice (A2 ae) (([[],[],[],([2]:List Int),([2,3]:List Int),([3,4]:List Int)]:List (List Int))).length 6]) Cs B4 (FN (off:=0) 1 aA rfl rfl)⟩,trivial⟩) (HR 1 aA rfl fun bL=>?_);exact aC ((((((((((O.Ab U).Ab V).Ab W).Ab Z).Ab aa).Ab ag).Ab ah).Ab ai).Ab ay).Ab az) rfl ⟨(A2 ab),6,(A2 ae),6,rfl,rfl,(bH.Ai az),bJ⟩ bL
def f72(fuel:Nat):Option ((A6)):= some ([(0,2),(1,4)]:A6)
theorem Pd{fuel:Nat}{r:(A6)}(K:f72 fuel=some r):AU J 72 [] E [] (fun w E' B'=>∃(O:Ao) (U:Nat),w= sV O r U∧B'= []∧Ap BM E' O U r):=by
 refine Bj func72 fun Q ai cs H V W=>?_;unfold f72 at K;refine zg 6 rfl (Ay (v:= .agg #[iV 0,iV 2]) rfl (fun ρ h=>De [(0,1),(1,1)] h Gk underlying27 ⟨rfl,Br type3,rfl,Br type3,trivial⟩ rfl rfl) ?_);refine Ay (v:= .agg #[iV 1,iV 4]) rfl (fun ρ h=>De [(0,1),(1,1)] h Gk underlying27 ⟨rfl,Br type3,rfl,Br type3,trivial⟩ rfl rfl) (JS.lit (pp:=BM) [.agg #[iV 0,iV 2],.agg #[iV 1,iV 4]] [(0,2),(1,4)] rfl rfl rfl underlying25 C5 Gk (by decide) rfl rfl rfl ⟨⟨_,_,rfl,rfl,rfl⟩,⟨_,_,rfl,rfl,rfl⟩,trivial⟩ V fun Z g2 aa ab=>?_);refine zg 2 rfl (Cc 1 aa ab rfl fun aj ae ag ah=>?_);obtain rfl:=oi K;exact AL func72 rfl rfl (W ae rfl ⟨(A2 Z),2,rfl,rfl,ag⟩ ah)
def f73(fuel:Nat):Option ((A6)):= some ([(0,3),(1,3)]:A6)
theorem SJ{fuel:Nat}{r:(A6)}(K:f73 fuel=some r):AU J 73 [] E [] (fun w E' B'=>∃(O:Ao) (U:Nat),w= sV O r U∧B'= []∧Ap BM E' O U r):=by
 refine Bj func73 fun Q ai cs H V W=>?_;unfold f73 at K;refine zg 6 rfl (Ay (v:= .agg #[iV 0,iV 3]) rfl (fun ρ h=>De [(0,1),(1,1)] h Gk underlying27 ⟨rfl,Br type3,rfl,Br type3,trivial⟩ rfl rfl) ?_);refine Ay (v:= .agg #[iV 1,iV 3]) rfl (fun ρ h=>De [(0,1),(1,1)] h Gk underlying27 ⟨rfl,Br type3,rfl,Br type3,trivial⟩ rfl rfl) (JS.lit (pp:=BM) [.agg #[iV 0,iV 3],.agg #[iV 1,iV 3]] [(0,3),(1,3)] rfl rfl rfl underlying25 C5 Gk (by decide) rfl rfl rfl ⟨⟨_,_,rfl,rfl,rfl⟩,⟨_,_,rfl,rfl,rfl⟩,trivial⟩ V fun Z g2 aa ab=>?_);refine zg 2 rfl (Cc 1 aa ab rfl fun aj ae ag ah=>?_);obtain rfl:=oi K;exact AL func73 rfl rfl (W ae rfl ⟨(A2 Z),2,rfl,rfl,ag⟩ ah)
end Pal
namespace Pal
open Go Go.Conc Go.Proofs
open Go.Proofs.Tryz
variable {J:Judge Tryz.prog}{E:LH}
def f103(fuel:Nat)(p0:Nat)(p1:Int):Option Bool:= (Ls p0 p1).bind fun K=> (J1 K (1)).bind fun O=> some (decide ((((O):Nat):Int)=(((1):Nat):Int)))
theorem OM{p0:Nat}{p1:Int}{fuel:Nat}{r:Bool}(K:f103 fuel p0 p1=some r):AU J 103 [uV p0,iV p1] E [] (fun w E' B'=>w= .bool r∧B'= []):=by
 refine Bj func103 fun Q ag cs H O U=>?_;unfold f103 at K;obtain⟨V,W,Z⟩:=bs K;refine zg 8 rfl (Ay (v:= uV V) rfl (fun ρ h=>WO (h _ _ rfl) (h _ _ rfl) W) ?_);obtain⟨aa,ab,ae⟩:=bs Z;refine Ay (v:= uV aa) rfl (fun ρ h=>N6 (h _ _ rfl) (h _ _ rfl) ab) (zg 3 rfl ?_);obtain rfl:=oi ae;exact AL func103 rfl rfl (U Aq rfl ⟨rfl,rfl⟩ O)
def f90(fuel:Nat)(p0:Nat)(p1:Int):Option Nat:= (Li p1).bind fun K=> (Jb p0 K).bind fun O=> some O
theorem Nm{p0:Nat}{p1:Int}{fuel:Nat}{r:Nat}(K:f90 fuel p0 p1=some r):AU J 90 [uV p0,iV p1] E [] (fun w E' B'=>w= uV r∧B'= []):=by
 refine Bj func90 fun Q ag cs H O U=>?_;unfold f90 at K;obtain⟨V,W,Z⟩:=bs K;refine zg 8 rfl (Ay (v:= uV V) rfl (fun ρ h=>WK (h _ _ rfl) (h _ _ rfl) W) ?_);obtain⟨aa,ab,ae⟩:=bs Z;refine Ay (v:= uV aa) rfl (fun ρ h=>KF (h _ _ rfl) (h _ _ rfl) ab) (zg 2 rfl ?_);obtain rfl:=oi ae;exact AL func90 rfl rfl (U Aq rfl ⟨rfl,rfl⟩ O)
def M4(fuel:Nat)(p0:Nat)(K:(List Int)×Int):Option (Bn ((List Int)×Int) ((List Int))):= if K.2<16 then((f103 fuel p0 K.2).bind fun O=> Option.bind (if O=true then((room K.1 K.2).bind fun U=> some U) else(some K.1)) fun V=> (Av (K.2+1)).bind fun W=> some (.more (V,W))) else(some (.done K.1))
def f89(fuel:Nat)(p0:Nat):Option ((List Int)):= Option.bind (iter (M4 fuel p0) fuel ([],0)) fun K=> some K
theorem Iy{p0:Nat}{fuel:Nat}{r:(List Int)}(ap:f89 fuel p0=some r):AU J 89 [uV p0] E [] (fun w E' B'=>∃(aq:Ao) (ar:Nat),w= sV aq r ar∧B'= []∧Ap rI E' aq ar r):=by
 refine Bj func89 fun Q bb cs H aB aC=>?_;unfold f89 at ap;obtain⟨au,aD,aE⟩:=bs ap;refine zg 13 rfl (Bs (fun L s=>∃(ai:LH) (W:Ao) (Z:Nat) (aj:Seg),Jn E H ai [aj] [(3,sV W au Z)] L s (OL 3 rI ai W Z aj au)) ?_ ?_)
 ·rintro _ _ ⟨ai,W,Z,aj,rfl,rfl,aF,aG,aH⟩;refine zg 5 rfl (Cc 0 aH aG rfl fun bc aI aJ aK=>?_);obtain rfl:=oi aE;exact AL func89 rfl rfl (aC (aF.Ab aI) rfl ⟨W,Z,rfl,rfl,aJ⟩ aK)
 ·intro aL;refine JL.block (CE aD (fun L s K=>∃(aa:LH) (O:Ao) (U:Nat) (V:Seg),Jn E H aa [V] [(0,uV p0),(3,sV O K.1 U),(5,iV K.2)] L s (OL 3 rI aa O U V K.1)) ⟨E,none,0,[],rfl,rfl,Aq,aB,OL.nil⟩ ?_);rintro _ _ K ⟨aa,O,U,V,rfl,rfl,av,aw,ak⟩ aM ⟨bd,al⟩ aN;have ay:=al;unfold M4 at ay;refine zg 5 rfl (AM ay (fun aO aP=>?_) (fun aO aQ=>?_))
  ·obtain⟨be,aR,aS⟩:=bs aP;refine zg 12 rfl (BJ (OM aR) rfl rfl NJ aw fun am an az=>?_);obtain⟨ao,aT,aU⟩:=bs aS;refine JL.done (Bs (fun L s=>∃(ab:LH) (ae:Ao) (ag:Nat) (ah:Seg),Jn am H ab [ah] [(0,uV p0),(3,sV ae ao ag),(5,iV K.2)] L s (OL 3 rI ab ae ag ah ao)) ?_ ?_)
   ·rintro _ _ ⟨ab,ae,ag,ah,rfl,rfl,aV,aW,aX⟩;obtain⟨aY,aZ,a0⟩:=bs aU;refine zg 2 rfl (A9 aZ rfl rfl rfl ?_);refine zg 2 rfl ?_;obtain rfl:=oi a0;exact Aw (aN _ _ (ao,aY) ⟨ab,ae,ag,ah,rfl,rfl,((av.Ab an).Ab aV),aW,aX⟩ al) rfl
   ·intro aA;refine BK aT (fun a1 a2=>?_) (fun a1 a3=>?_)
    ·obtain⟨bf,a4,a5⟩:=bs a2;refine zg 3 rfl (JS.app (pp:=rI) (v:=iV K.2) (a:=O) (c:=U) 0 a4 rfl rfl rfl rfl (fun _=>rfl) rfl (fun _=>rfl) rfl rfl rfl underlying28 underlying28 underlying28 AN (Cu type3) Cp rfl (by decide) (by decide) (by decide) (by decide) (ak.Ai an) rfl az rfl fun bg a6 a7 a8 a9 ba=>?_);refine zg 2 rfl ?_;obtain rfl:=oi a5;exact Aw (aA _ _ ⟨am,a6,a7,a8,rfl,rfl,Aq,ba,a9⟩) rfl
    ·refine JL.skip ?_;obtain rfl:=oi a3;exact Aw (aA _ _ ⟨am,O,U,V,rfl,rfl,Aq,az,(ak.Ai an)⟩) rfl
  ·refine JL.exit rfl ?_;obtain rfl:=oi aQ;obtain rfl:=aM _ al;exact Aw (aL _ _ ⟨aa,O,U,V,rfl,rfl,av,aw,ak⟩) rfl
def Ml(fuel:Nat)(p0:List Int)(K:Nat×Int):Option (Bn (Nat×Int) Nat):= if K.2<(p0.length:Int) then((ix p0 K.2).bind fun O=> (f90 fuel K.1 O).bind fun U=> (Av (K.2+1)).bind fun V=> some (.more (U,V))) else(some (.done K.1))
def f120(fuel:Nat)(p0:List Int):Option Nat:= Option.bind (iter (Ml fuel p0) fuel (0,0)) fun K=> some K
theorem JU{O:Ao}{c2:Nat}{p0:List Int}(ab:Ap rI E O c2 p0){fuel:Nat}{r:Nat}(W:f120 fuel p0=some r):AU J 120 [sV O p0 c2] E [] (fun w E' B'=>w= uV r∧B'= []):=by
 refine Bj func120 fun Q aG cs H ae ag=>?_;unfold f120 at W;refine zg 12 rfl (Bo underlying28 rfl rfl rfl ?_);obtain⟨ah,ai,aj⟩:=bs W;refine zg 2 rfl (CM [] [(3,uV ah)] (fun aH ak al=>?_) (fun am=>?_))
 ·refine zg 5 rfl ?_;obtain rfl:=oi aj;exact AL func120 rfl rfl (ag ak rfl ⟨rfl,rfl⟩ al)
 ·refine JL.block (CO ai (fun K=> []) (fun K=> [(3,uV K.1),(6,sV O p0 c2),(7,iV (p0.length:Int)),(8,iV K.2)]) Aq ae ?_);rintro K aI U Z an ⟨aJ,V⟩ ao;have aa:=V;unfold Ml at aa;refine zg 5 rfl (AM aa (fun ap aq=>?_) (fun ap ar=>?_))
  ·obtain⟨aK,au,av⟩:=bs aq;refine zg 5 rfl (B5 (ab.Ai U) au underlying28 AN ?_);rintro aL aM _ rfl aw;refine BY 0 aw Bq rfl rfl rfl ?_;obtain⟨ay,az,aA⟩:=bs av;refine zg 5 rfl (BJ (Nm az) rfl rfl LW Z fun aN aB aC=>?_);obtain⟨aD,aE,aF⟩:=bs aA;refine zg 4 rfl (A9 aE rfl rfl rfl ?_);refine zg 2 rfl ?_;obtain rfl:=oi aF;exact ao (ay,aD) (U.Ab aB) aC rfl V
  ·refine JL.exit rfl ?_;obtain rfl:=oi ar;obtain rfl:=an _ V;exact am U Z rfl
def JH(fuel:Nat)(p0:Bz)(p1:Int)(p2:List Int)(p3:Bool)(K:Int):Option (Bn Int (((Option (Int×Int)))⊕(Unit))):= if K<(p2.length:Int) then((ix p2 K).bind fun O=> (Av ((p0.1.length:Int) - 1)).bind fun U=> (f101 fuel O 0 U).bind fun V=> if V=true then(some (.done (Sum.inl (some (3,p1))))) else(Option.bind (if O=p1 then(some (!p3)) else(some false)) fun W=> if W=true then(some (.done (Sum.inl (some (8,p1))))) else(Option.bind (if 0<K then((Av (K - 1)).bind fun Z=> (ix p2 Z).bind fun aa=> some (decide (O≤aa))) else(some false)) fun ab=> if ab=true then(some (.done (Sum.inl (some (5,p1))))) else((Av (K+1)).bind fun ae=> some (.more ae))))) else(some (.done (Sum.inr ())))
def f136(fuel:Nat)(p0:Bz)(p1:Int)(p2:List Int)(p3:Bool):Option ((Option (Int×Int))):= Option.bind (iter (JH fuel p0 p1 p2 p3) fuel 0) fun K=> Sum.elim (fun r=>some r) (fun O=> some none) K
theorem SE{al:Ao}{c2:Nat}{am:Ao}{an:Nat}{K:Ao}{O:Nat}{p0:Bz}{p1:Int}{p2:List Int}{p3:Bool}(bA:Ap (rL rI) E al c2 p0.1)(bB:Ap (rL rI) E am an p0.2)(ao:Ap rI E K O p2){fuel:Nat}{r:(Option (Int×Int))}(ap:f136 fuel p0 p1 p2 p3=some r):AU J 136 [.agg #[sV al p0.1 c2,sV am p0.2 an],iV p1,sV K p2 O,.bool p3] E [] (fun w E' B'=>∃(aq:Value),w=aq∧B'= []∧IE 183 aq r):=by
 refine Bj func136 fun Q bC cs H aD ab=>?_;unfold f136 at ap;refine zg 2 rfl (Cy aD fun ai aE V aF aG=>?_);refine zg 6 rfl (Bo underlying28 rfl rfl rfl ?_);obtain⟨ar,aH,ae⟩:=bs ap;refine zg 2 rfl (Bs (fun L s=>∃(au:Unit) (av:LH),ar=Sum.inr au∧Jm aE H av [] [] L s) ?_ ?_)
 ·rintro _ _ ⟨au,av,rfl,rfl,rfl,aI,aJ⟩;have aK:=elim_inr ae;refine zg 4 rfl ?_;obtain rfl:=oi aK;exact AL func136 rfl rfl (ab (V.Ab aI) rfl ⟨.nilIface,rfl,rfl,rfl⟩ aJ)
 ·intro aL;refine JL.block (CO aH (fun W=> []) (fun W=> [(1,iV p1),(2,sV K p2 O),(3,.bool p3),(4,pV ai 0),(11,sV K p2 O),(12,iV (p2.length:Int)),(13,iV W)]) Aq aG ?_);rintro W aM U aw ag ⟨bD,Z⟩ aN;have ay:=Z;unfold JH at ay;refine zg 5 rfl (AM ay (fun aO aP=>?_) (fun aO aQ=>?_))
  ·obtain⟨aR,aS,aT⟩:=bs aP;refine zg 6 rfl (B5 (ao.Ai (V.Ab U)) aS underlying28 AN ?_);rintro bE bF _ rfl aU;refine BY 0 aU Bq rfl rfl rfl (zg 7 rfl ?_);refine JL.fl 0 (aF.Ai U) underlying24 Ct Da ?_;refine Bo underlying22 rfl rfl rfl ?_;obtain⟨bG,aV,aW⟩:=bs aT;refine Cd aV rfl rfl rfl ?_;obtain⟨bH,aX,aY⟩:=bs aW;refine BJ (I2 aX) rfl rfl IL aw fun bI aa aj=>zg 2 rfl (BK aY (fun aZ a0=>?_) (fun aZ a1=>?_))
   ·refine zg 3 rfl (Ay (v:= .agg #[iV 3,iV p1]) rfl (fun ρ h=>De [(0,1),(1,1)] h F4 underlying183 ⟨rfl,Br type39,rfl,Br type3,trivial⟩ rfl rfl) ?_);refine Ay (v:= .iface 183 (.agg #[iV 3,iV p1])) rfl (fun ρ h=>Fz underlying183 (fun _ h=>by cases h) (h _ _ rfl)) (zg 2 rfl ?_);obtain rfl:=oi a0;obtain rfl:=ag _ Z;have a2:=elim_inl ae;obtain rfl:=oi a2;exact AL func136 rfl rfl (ab ((V.Ab U).Ab aa) rfl ⟨.iface 183 (.agg #[iV 3,iV p1]),rfl,rfl,rfl⟩ aj)
   ·obtain⟨a3,a4,a5⟩:=bs a1;refine zg 6 rfl (CS 7 1 [] [(1,iV p1),(2,sV K p2 O),(3,.bool p3),(4,pV ai 0),(9,iV W),(10,iV aR),(11,sV K p2 O),(12,iV (p2.length:Int)),(13,iV W),(35,.bool a3)] (fun bJ ah ak=>?_) (fun az=>?_))
    ·refine zg 2 rfl (BK a5 (fun a6 a7=>?_) (fun a6 a8=>?_))
     ·refine zg 3 rfl (Ay (v:= .agg #[iV 8,iV p1]) rfl (fun ρ h=>De [(0,1),(1,1)] h F4 underlying183 ⟨rfl,Br type39,rfl,Br type3,trivial⟩ rfl rfl) ?_);refine Ay (v:= .iface 183 (.agg #[iV 8,iV p1])) rfl (fun ρ h=>Fz underlying183 (fun _ h=>by cases h) (h _ _ rfl)) (zg 2 rfl ?_);obtain rfl:=oi a7;obtain rfl:=ag _ Z;have a9:=elim_inl ae;obtain rfl:=oi a9;exact AL func136 rfl rfl (ab (((V.Ab U).Ab aa).Ab ah) rfl ⟨.iface 183 (.agg #[iV 8,iV p1]),rfl,rfl,rfl⟩ ak)
     ·obtain⟨ba,bb,bc⟩:=bs a8;refine zg 5 rfl (CS 11 1 [] [(1,iV p1),(2,sV K p2 O),(3,.bool p3),(4,pV ai 0),(11,sV K p2 O),(12,iV (p2.length:Int)),(13,iV W),(50,.bool ba)] (fun bK aA aB=>?_) (fun aC=>?_))
      ·refine zg 2 rfl (BK bc (fun bd be=>?_) (fun bd bf=>?_))
       ·refine zg 3 rfl (Ay (v:= .agg #[iV 5,iV p1]) rfl (fun ρ h=>De [(0,1),(1,1)] h F4 underlying183 ⟨rfl,Br type39,rfl,Br type3,trivial⟩ rfl rfl) ?_);refine Ay (v:= .iface 183 (.agg #[iV 5,iV p1])) rfl (fun ρ h=>Fz underlying183 (fun _ h=>by cases h) (h _ _ rfl)) (zg 2 rfl ?_);obtain rfl:=oi be;obtain rfl:=ag _ Z;have bg:=elim_inl ae;obtain rfl:=oi bg;exact AL func136 rfl rfl (ab ((((V.Ab U).Ab aa).Ab ah).Ab aA) rfl ⟨.iface 183 (.agg #[iV 5,iV p1]),rfl,rfl,rfl⟩ aB)
       ·obtain⟨bh,bi,bj⟩:=bs bf;refine zg 4 rfl (A9 bi rfl rfl rfl ?_);refine zg 2 rfl ?_;obtain rfl:=oi bj;exact aN bh (((U.Ab aa).Ab ah).Ab aA) aB rfl Z
      ·refine EE 42 bb (fun bl bm=>?_) (fun bl bn=>?_)
       ·obtain⟨bL,bo,bp⟩:=bs bm;refine zg 3 rfl (Cd bo rfl rfl rfl ?_);obtain⟨bM,bq,br⟩:=bs bp;refine B5 (ao.Ai (((V.Ab U).Ab aa).Ab ah)) bq underlying28 AN ?_;rintro bN bO _ rfl bu;refine BY 0 bu Bq rfl rfl rfl (zg 2 rfl ?_);obtain rfl:=oi br;exact aC Aq ak rfl
       ·refine zg 8 rfl ?_;obtain rfl:=oi bn;exact aC Aq ak rfl
    ·refine EE 32 a4 (fun bv bw=>?_) (fun bv bx=>?_)
     ·refine zg 1 rfl (Ay (v:= .bool (!p3)) rfl (fun ρ h=>Yl.not (h _ _ rfl)) ?_);refine zg 1 rfl ?_;obtain rfl:=oi bw;exact az Aq aj rfl
     ·refine zg 3 rfl ?_;obtain rfl:=oi bx;exact az Aq aj rfl
  ·refine JL.exit rfl ?_;obtain rfl:=oi aQ;have bz:ar=(Sum.inr ()):=(ag _ Z).symm;exact Aw (aL _ _ ⟨(),aM,bz,rfl,rfl,U,aw⟩) rfl
def Jz(fuel:Nat)(p0:Bz)(K:Int):Option (Bn Int (((Option (Int×Int)))⊕(Unit))):= if K<(p0.1.length:Int) then((ix p0.1 K).bind fun O=> if(O.length:Int)=0 then(some (.done (Sum.inl (some (7,K))))) else(if 3<(O.length:Int) then(some (.done (Sum.inl (some (6,K))))) else((f136 fuel p0 K O true).bind fun U=> if U.isSome=true then(some (.done (Sum.inl U))) else((ix p0.2 K).bind fun W=> if 3<(W.length:Int) then(some (.done (Sum.inl (some (6,K))))) else((ix p0.2 K).bind fun Z=> (f136 fuel p0 K Z false).bind fun V=> if V.isSome=true then(some (.done (Sum.inl V))) else((Av (K+1)).bind fun aa=> some (.more aa))))))) else(some (.done (Sum.inr ())))
def f113(fuel:Nat)(p0:Bz):Option ((Option (Int×Int))):= if(p0.1.length:Int)=0 then(some (some (7,0))) else(if 8<(p0.1.length:Int) then(some (some (6,0))) else(if(p0.2.length:Int)≠(p0.1.length:Int) then(some (some (9,0))) else(Option.bind (iter (Jz fuel p0) fuel 0) fun K=> Sum.elim (fun r=>some r) (fun O=> some none) K)))
theorem SF{aj:Ao}{c2:Nat}{am:Ao}{an:Nat}{p0:Bz}(ak:Ap (rL rI) E aj c2 p0.1)(ag:Ap (rL rI) E am an p0.2){fuel:Nat}{r:(Option (Int×Int))}(ao:f113 fuel p0=some r):AU J 113 [.agg #[sV aj p0.1 c2,sV am p0.2 an]] E [] (fun w E' B'=>∃(ap:Value),w=ap∧B'= []∧IE 183 ap r):=by
 refine Bj func113 fun Q bI cs H aB W=>?_;unfold f113 at ao;refine zg 2 rfl (Cy aB fun aC aD O aa ah=>?_);refine zg 5 rfl (JL.fl 0 aa underlying24 Ct Da ?_);refine Bo underlying22 rfl rfl rfl (zg 9 rfl ?_);refine AM ao (fun aE aF=>?_) (fun aE aG=>?_)
 ·refine zg 2 rfl (Ay (v:= .agg #[iV 7,iV 0]) rfl (fun ρ h=>De [(0,1),(1,1)] h F4 underlying183 ⟨rfl,Br type39,rfl,Br type3,trivial⟩ rfl rfl) ?_);refine Ay (v:= .iface 183 (.agg #[iV 7,iV 0])) rfl (fun ρ h=>Fz underlying183 (fun _ h=>by cases h) (h _ _ rfl)) (zg 2 rfl ?_);obtain rfl:=oi aF;exact AL func113 rfl rfl (W O rfl ⟨.iface 183 (.agg #[iV 7,iV 0]),rfl,rfl,rfl⟩ ah)
 ·refine zg 6 rfl (AM aG (fun aH aI=>?_) (fun aH aJ=>?_))
  ·refine zg 2 rfl (Ay (v:= .agg #[iV 6,iV 0]) rfl (fun ρ h=>De [(0,1),(1,1)] h F4 underlying183 ⟨rfl,Br type39,rfl,Br type3,trivial⟩ rfl rfl) ?_);refine Ay (v:= .iface 183 (.agg #[iV 6,iV 0])) rfl (fun ρ h=>Fz underlying183 (fun _ h=>by cases h) (h _ _ rfl)) (zg 2 rfl ?_);obtain rfl:=oi aI;exact AL func113 rfl rfl (W O rfl ⟨.iface 183 (.agg #[iV 6,iV 0]),rfl,rfl,rfl⟩ ah)
  ·refine zg 2 rfl (JL.fl 1 aa underlying24 Ct Da ?_);refine Bo underlying22 rfl rfl rfl (zg 4 rfl ?_);refine AM aJ (fun aK aL=>?_) (fun aK aM=>?_)
   ·refine zg 2 rfl (Ay (v:= .agg #[iV 9,iV 0]) rfl (fun ρ h=>De [(0,1),(1,1)] h F4 underlying183 ⟨rfl,Br type39,rfl,Br type3,trivial⟩ rfl rfl) ?_);refine Ay (v:= .iface 183 (.agg #[iV 9,iV 0])) rfl (fun ρ h=>Fz underlying183 (fun _ h=>by cases h) (h _ _ rfl)) (zg 2 rfl ?_);obtain rfl:=oi aL;exact AL func113 rfl rfl (W O rfl ⟨.iface 183 (.agg #[iV 9,iV 0]),rfl,rfl,rfl⟩ ah)
   ·refine zg 5 rfl (JL.fl 0 aa underlying24 Ct Da ?_);refine Bo underlying22 rfl rfl rfl ?_;obtain⟨aq,aN,ab⟩:=bs aM;refine zg 2 rfl (Bs (fun L s=>∃(ar:Unit) (au:LH),aq=Sum.inr ar∧Jm aD H au [] [] L s) ?_ ?_)
    ·rintro _ _ ⟨ar,au,rfl,rfl,rfl,aO,aP⟩;have aQ:=elim_inr ab;refine zg 4 rfl ?_;obtain rfl:=oi aQ;exact AL func113 rfl rfl (W (O.Ab aO) rfl ⟨.nilIface,rfl,rfl,rfl⟩ aP)
    ·intro aR;refine JL.block (CO aN (fun U=> []) (fun U=> [(1,pV aC 0),(30,sV aj p0.1 c2),(31,iV (p0.1.length:Int)),(32,iV U)]) Aq ah ?_);rintro U aS K ai ae ⟨bJ,Z⟩ aT;have av:=Z;unfold Jz at av;refine zg 5 rfl (AM av (fun aU aV=>?_) (fun aU aW=>?_))
     ·obtain⟨bK,aX,aY⟩:=bs aV;refine zg 6 rfl (B5 (ak.Ai (O.Ab K)) aX underlying22 BS ?_);rintro bL bM _ ⟨bN,bO,rfl,aZ⟩ a0;refine BY 0 a0 C4 rfl rfl rfl (zg 7 rfl ?_);refine Bo underlying28 rfl rfl rfl (zg 2 rfl ?_);refine AM aY (fun a1 a2=>?_) (fun a1 a3=>?_)
      ·refine zg 3 rfl (Ay (v:= .agg #[iV 7,iV U]) rfl (fun ρ h=>De [(0,1),(1,1)] h F4 underlying183 ⟨rfl,Br type39,rfl,Br type3,trivial⟩ rfl rfl) ?_);refine Ay (v:= .iface 183 (.agg #[iV 7,iV U])) rfl (fun ρ h=>Fz underlying183 (fun _ h=>by cases h) (h _ _ rfl)) (zg 2 rfl ?_);obtain rfl:=oi a2;obtain rfl:=ae _ Z;have a4:=elim_inl ab;obtain rfl:=oi a4;exact AL func113 rfl rfl (W (O.Ab K) rfl ⟨.iface 183 (.agg #[iV 7,iV U]),rfl,rfl,rfl⟩ ai)
      ·refine zg 5 rfl (Bo underlying28 rfl rfl rfl ?_);refine zg 2 rfl (AM a3 (fun a5 a6=>?_) (fun a5 a7=>?_))
       ·refine zg 3 rfl (Ay (v:= .agg #[iV 6,iV U]) rfl (fun ρ h=>De [(0,1),(1,1)] h F4 underlying183 ⟨rfl,Br type39,rfl,Br type3,trivial⟩ rfl rfl) ?_);refine Ay (v:= .iface 183 (.agg #[iV 6,iV U])) rfl (fun ρ h=>Fz underlying183 (fun _ h=>by cases h) (h _ _ rfl)) (zg 2 rfl ?_);obtain rfl:=oi a6;obtain rfl:=ae _ Z;have a8:=elim_inl ab;obtain rfl:=oi a8;exact AL func113 rfl rfl (W (O.Ab K) rfl ⟨.iface 183 (.agg #[iV 6,iV U]),rfl,rfl,rfl⟩ ai)
       ·refine zg 4 rfl (Cf (aa.Ai K) Cs B4 rfl rfl ?_);obtain⟨a9,ba,bb⟩:=bs a7;refine zg 2 rfl (BR (SE (ak.Ai (O.Ab K)) (ag.Ai (O.Ab K)) aZ ba) rfl rfl (A3 func136 rfl) ai ?_);rintro bc bP _ V ⟨_,rfl,rfl,aw⟩ al;refine zg 5 rfl (Ay (v:= .bool a9.isSome) rfl (fun ρ h=>Om underlying149 aw (h _ _ rfl) (h _ _ rfl)) ?_);refine JL.done (BK bb (fun bd be=>?_) (fun bd bf=>?_))
        ·refine zg 5 rfl ?_;obtain rfl:=oi be;obtain rfl:=ae _ Z;have bg:=elim_inl ab;obtain rfl:=oi bg;exact AL func113 rfl rfl (W ((O.Ab K).Ab V) rfl ⟨bc,rfl,rfl,aw⟩ al)
        ·refine zg 4 rfl (JL.fl 1 (aa.Ai (K.Ab V)) underlying24 Ct Da ?_);obtain⟨bQ,bh,bi⟩:=bs bf;refine zg 1 rfl (B5 (ag.Ai ((O.Ab K).Ab V)) bh underlying22 BS ?_);rintro bR bS _ ⟨bT,bU,rfl,bV⟩ bj;refine BY 0 bj C4 rfl rfl rfl (Bo underlying28 rfl rfl rfl ?_);refine zg 2 rfl (AM bi (fun bl bm=>?_) (fun bl bn=>?_))
         ·refine zg 3 rfl (Ay (v:= .agg #[iV 6,iV U]) rfl (fun ρ h=>De [(0,1),(1,1)] h F4 underlying183 ⟨rfl,Br type39,rfl,Br type3,trivial⟩ rfl rfl) ?_);refine Ay (v:= .iface 183 (.agg #[iV 6,iV U])) rfl (fun ρ h=>Fz underlying183 (fun _ h=>by cases h) (h _ _ rfl)) (zg 2 rfl ?_);obtain rfl:=oi bm;obtain rfl:=ae _ Z;have bo:=elim_inl ab;obtain rfl:=oi bo;exact AL func113 rfl rfl (W ((O.Ab K).Ab V) rfl ⟨.iface 183 (.agg #[iV 6,iV U]),rfl,rfl,rfl⟩ al)
         ·refine zg 2 rfl (DC 7 fun ht=>?_);refine HU 0 ht (aa.Ai (K.Ab V)) Cs B4 rfl rfl rfl (Cz 1 ht rfl rfl ?_);refine Ch 2 ht underlying24 Ct rfl rfl rfl rfl (CH 3 ht 1 (aa.Ai (K.Ab V)) Da rfl rfl rfl rfl ?_);refine Cz 4 ht rfl rfl ?_;obtain⟨bW,bp,bq⟩:=bs bn;refine Ds 5 (ag.Ai ((O.Ab K).Ab V)) bp ht underlying22 BS ?_;rintro bY bZ _ ⟨b0,b1,rfl,br⟩ bu;refine CH 6 ht 0 bu C4 rfl rfl rfl rfl (Cg [7,8] ?_);obtain⟨bv,bw,bx⟩:=bs bq;refine BR (SE (ak.Ai ((O.Ab K).Ab V)) (ag.Ai ((O.Ab K).Ab V)) br bw) rfl rfl (A3 func136 rfl) al ?_;rintro bz b2 _ ay ⟨_,rfl,rfl,az⟩ aA;refine zg 5 rfl (Ay (v:= .bool bv.isSome) rfl (fun ρ h=>Om underlying149 az (h _ _ rfl) (h _ _ rfl)) ?_);refine JL.done (BK bx (fun bA bB=>?_) (fun bA bC=>?_))
          ·refine zg 5 rfl ?_;obtain rfl:=oi bB;obtain rfl:=ae _ Z;have bD:=elim_inl ab;obtain rfl:=oi bD;exact AL func113 rfl rfl (W (((O.Ab K).Ab V).Ab ay) rfl ⟨bz,rfl,rfl,az⟩ aA)
          ·obtain⟨bE,bF,bG⟩:=bs bC;refine zg 3 rfl (A9 bF rfl rfl rfl ?_);refine zg 2 rfl ?_;obtain rfl:=oi bG;exact aT bE ((K.Ab V).Ab ay) aA rfl Z
     ·refine JL.exit rfl ?_;obtain rfl:=oi aW;have bH:aq=(Sum.inr ()):=(ae _ Z).symm;exact Aw (aR _ _ ⟨(),aS,bH,rfl,rfl,K,ai⟩) rfl
def Ms(fuel:Nat)(p0:Bz)(p1:A6)(K:Int):Option (Bn Int (((Option (Int×Int)))⊕(Unit))):= if K<(p1.length:Int) then((ix p1 K).bind fun O=> (f101 fuel O.1 0 6).bind fun U=> if U=true then(some (.done (Sum.inl (some (1,K))))) else(Option.bind (if 0<K then((Av (K - 1)).bind fun V=> (ix p1 V).bind fun W=> some (decide (O.1<W.1))) else(some false)) fun Z=> if Z=true then(some (.done (Sum.inl (some (5,K))))) else((Av ((p0.1.length:Int) - 1)).bind fun aa=> (f101 fuel O.2 0 aa).bind fun ab=> if ab=true then(some (.done (Sum.inl (some (3,K))))) else((Av (K+1)).bind fun ae=> some (.more ae))))) else(some (.done (Sum.inr ())))
def f116(fuel:Nat)(p0:Bz)(p1:A6):Option ((Option (Int×Int))):= if 4<(p1.length:Int) then(some (some (6,0))) else(Option.bind (iter (Ms fuel p0 p1) fuel 0) fun K=> Sum.elim (fun r=>some r) (fun O=> some none) K)
theorem XS{al:Ao}{c2:Nat}{am:Ao}{an:Nat}{W:Ao}{Z:Nat}{p0:Bz}{p1:A6}(bC:Ap (rL rI) E al c2 p0.1)(bD:Ap (rL rI) E am an p0.2)(ao:Ap BM E W Z p1){fuel:Nat}{r:(Option (Int×Int))}(ap:f116 fuel p0 p1=some r):AU J 116 [.agg #[sV al p0.1 c2,sV am p0.2 an],sV W p1 Z] E [] (fun w E' B'=>∃(aq:Value),w=aq∧B'= []∧IE 183 aq r):=by
 refine Bj func116 fun Q bE cs H aF ae=>?_;unfold f116 at ap;refine zg 2 rfl (Cy aF fun ar aG V aH au=>?_);refine zg 6 rfl (Bo underlying25 rfl rfl rfl ?_);refine zg 2 rfl (AM ap (fun aI aJ=>?_) (fun aI aK=>?_))
 ·refine zg 2 rfl (Ay (v:= .agg #[iV 6,iV 0]) rfl (fun ρ h=>De [(0,1),(1,1)] h F4 underlying183 ⟨rfl,Br type39,rfl,Br type3,trivial⟩ rfl rfl) ?_);refine Ay (v:= .iface 183 (.agg #[iV 6,iV 0])) rfl (fun ρ h=>Fz underlying183 (fun _ h=>by cases h) (h _ _ rfl)) (zg 2 rfl ?_);obtain rfl:=oi aJ;exact AL func116 rfl rfl (ae V rfl ⟨.iface 183 (.agg #[iV 6,iV 0]),rfl,rfl,rfl⟩ au)
 ·refine zg 5 rfl (Bo underlying25 rfl rfl rfl ?_);obtain⟨av,aL,ag⟩:=bs aK;refine zg 2 rfl (Bs (fun L s=>∃(aw:Unit) (ay:LH),av=Sum.inr aw∧Jm aG H ay [] [] L s) ?_ ?_)
  ·rintro _ _ ⟨aw,ay,rfl,rfl,rfl,aM,aN⟩;have aO:=elim_inr ag;refine zg 4 rfl ?_;obtain rfl:=oi aO;exact AL func116 rfl rfl (ae (V.Ab aM) rfl ⟨.nilIface,rfl,rfl,rfl⟩ aN)
  ·intro aP;refine JL.block (CO aL (fun K=> []) (fun K=> [(1,sV W p1 Z),(2,pV ar 0),(12,sV W p1 Z),(13,iV (p1.length:Int)),(14,iV K)]) Aq au ?_);rintro K aQ O az ah ⟨bF,aa⟩ aR;have aA:=aa;unfold Ms at aA;refine zg 5 rfl (AM aA (fun aS aT=>?_) (fun aS aU=>?_))
   ·obtain⟨bG,aV,aW⟩:=bs aT;refine zg 6 rfl (B5 (ao.Ai (V.Ab O)) aV underlying25 C5 ?_);rintro bH bI _ ⟨_,_,rfl,rfl,rfl⟩ aX;refine Cf aX IK C5 rfl rfl (CN az Gk fun aY aZ=>?_);refine zg 1 rfl (BT 0 aZ C5 fun a0=>?_);refine Dr 0 a0 rfl fun bJ ab ai a1=>zg 4 rfl (JL.fl 0 ai underlying27 AN Bq ?_);obtain⟨bK,a2,a3⟩:=bs aW;refine BJ (I2 a2) rfl rfl IL a1 fun a4 U aj=>zg 2 rfl (BK a3 (fun a5 a6=>?_) (fun a5 a7=>?_))
    ·refine zg 3 rfl (Ay (v:= .agg #[iV 1,iV K]) rfl (fun ρ h=>De [(0,1),(1,1)] h F4 underlying183 ⟨rfl,Br type39,rfl,Br type3,trivial⟩ rfl rfl) ?_);refine Ay (v:= .iface 183 (.agg #[iV 1,iV K])) rfl (fun ρ h=>Fz underlying183 (fun _ h=>by cases h) (h _ _ rfl)) (zg 2 rfl ?_);obtain rfl:=oi a6;obtain rfl:=ah _ aa;have a8:=elim_inl ag;obtain rfl:=oi a8;exact AL func116 rfl rfl (ae (((V.Ab O).Ab ab).Ab U) rfl ⟨.iface 183 (.agg #[iV 1,iV K]),rfl,rfl,rfl⟩ aj)
    ·refine JL.seq (DC 13 fun ht=>?_);refine Bh ht rfl [0,1,2] rfl ?_;obtain⟨a9,aB,ba⟩:=bs a7;refine FR 1 #[true,true,true,true,true,true,true,true,true,true,true,true,true,false] (fun L s=>L= [(1,sV W p1 Z),(2,pV ar 0),(5,iV K),(6,pV aY 0),(12,sV W p1 Z),(13,iV (p1.length:Int)),(14,iV K),(39,.bool a9)]∧s=Ak a4 H [[],[]]) ?_ ?_
     ·rintro _ _ ⟨rfl,rfl⟩;refine Cg [13] (zg 2 rfl ?_);refine BK ba (fun bb bc=>?_) (fun bb bd=>?_)
      ·refine zg 3 rfl (Ay (v:= .agg #[iV 5,iV K]) rfl (fun ρ h=>De [(0,1),(1,1)] h F4 underlying183 ⟨rfl,Br type39,rfl,Br type3,trivial⟩ rfl rfl) ?_);refine Ay (v:= .iface 183 (.agg #[iV 5,iV K])) rfl (fun ρ h=>Fz underlying183 (fun _ h=>by cases h) (h _ _ rfl)) (zg 2 rfl ?_);obtain rfl:=oi bc;obtain rfl:=ah _ aa;have be:=elim_inl ag;obtain rfl:=oi be;exact AL func116 rfl rfl (ae (((V.Ab O).Ab ab).Ab U) rfl ⟨.iface 183 (.agg #[iV 5,iV K]),rfl,rfl,rfl⟩ aj)
      ·refine zg 2 rfl (JL.fl 1 (ai.Ai U) underlying27 AN Bq ?_);refine JL.fl 0 (aH.Ai ((O.Ab ab).Ab U)) underlying24 Ct Da ?_;refine Bo underlying22 rfl rfl rfl ?_;obtain⟨bL,bf,bg⟩:=bs bd;refine Cd bf rfl rfl rfl ?_;obtain⟨bM,bh,bi⟩:=bs bg;refine BJ (I2 bh) rfl rfl IL aj fun bN aC aD=>zg 2 rfl (BK bi (fun bj bl=>?_) (fun bj bm=>?_))
       ·refine zg 3 rfl (Ay (v:= .agg #[iV 3,iV K]) rfl (fun ρ h=>De [(0,1),(1,1)] h F4 underlying183 ⟨rfl,Br type39,rfl,Br type3,trivial⟩ rfl rfl) ?_);refine Ay (v:= .iface 183 (.agg #[iV 3,iV K])) rfl (fun ρ h=>Fz underlying183 (fun _ h=>by cases h) (h _ _ rfl)) (zg 2 rfl ?_);obtain rfl:=oi bl;obtain rfl:=ah _ aa;have bn:=elim_inl ag;obtain rfl:=oi bn;exact AL func116 rfl rfl (ae ((((V.Ab O).Ab ab).Ab U).Ab aC) rfl ⟨.iface 183 (.agg #[iV 3,iV K]),rfl,rfl,rfl⟩ aD)
       ·obtain⟨bo,bp,bq⟩:=bs bm;refine zg 4 rfl (A9 bp rfl rfl rfl ?_);refine zg 2 rfl ?_;obtain rfl:=oi bq;exact aR bo (((O.Ab ab).Ab U).Ab aC) aD rfl aa
     ·intro aE;refine FO (q:=0<K) (i:=29) rfl (fun ak=>?_) (fun ak=>?_)
      ·have br:=ip aB ak;refine Ch 3 ht underlying27 AN rfl rfl rfl rfl ?_;refine CH 4 ht 0 (ai.Ai U) Bq rfl rfl rfl rfl ?_;refine Bh ht rfl [5,6] rfl ?_;obtain⟨bO,bu,bv⟩:=bs br;refine Bw 7 ht rfl rfl (fun ρ h s' hs=>Dc (h _ _ rfl) (h _ _ rfl) bu) ?_;obtain⟨bP,bw,bx⟩:=bs bv;refine Ds 8 (ao.Ai (((V.Ab O).Ab ab).Ab U)) bw ht underlying25 C5 ?_;rintro bQ bR _ ⟨_,_,rfl,rfl,rfl⟩ bz;refine Ch 9 ht underlying27 AN rfl rfl rfl rfl ?_;refine CH 10 ht 0 bz Bq rfl rfl rfl rfl ?_;refine Bh ht rfl [11,12] rfl ?_;obtain rfl:=oi bx;refine Dg ?_ (aE _ _ ⟨rfl,rfl⟩);exact⟨rfl,rfl,rfl,rfl,rfl,rfl,rfl,rfl,trivial⟩
      ·have bA:=im aB ak;refine Bh ht rfl [3,4,5,6,7,8,9,10,11,12] rfl ?_;obtain rfl:=oi bA;refine Dg ?_ (aE _ _ ⟨rfl,rfl⟩);exact⟨rfl,rfl,rfl,rfl,rfl,rfl,rfl,rfl,trivial⟩
   ·refine JL.exit rfl ?_;obtain rfl:=oi aU;have bB:av=(Sum.inr ()):=(ah _ aa).symm;exact Aw (aP _ _ ⟨(),aQ,bB,rfl,rfl,O,az⟩) rfl
end Pal
namespace Pal
open Go Go.Conc Go.Proofs
open Go.Proofs.Tryz
variable {J:Judge Tryz.prog}{E:LH}
def f135(fuel:Nat):Option Bool:= some false
theorem YA{O:Value}{fuel:Nat}{r:Bool}(K:f135 fuel=some r):AU J 135 [.nilIface,O] E [] (fun w E' B'=>w= .bool r∧B'= []):=by
 refine Bj func135 fun Q W cs H U V=>?_;unfold f135 at K;refine zg 8 rfl ?_;refine Ay (v:= .bool true) rfl (fun ρ h=>V0 underlying149 (show IE 0 .nilIface none from rfl) (h _ _ rfl) (h _ _ rfl)) (zg 6 rfl ?_);obtain rfl:=oi K;exact AL func135 rfl rfl (V Aq rfl ⟨rfl,rfl⟩ U)
def f112(fuel:Nat):Option Int:= (f135 fuel).bind fun K=> if K=true then(some 0) else(some 0)
theorem Yb{fuel:Nat}{r:Int}(O:f112 fuel=some r):AU J 112 [.nilIface] E [] (fun w E' B'=>w=iV r∧B'= []):=by
 refine Bj func112 fun Q al cs H W U=>?_;unfold f112 at O;refine zg 6 rfl (CN W F4 fun Z aa=>?_);refine zg 5 rfl (Ay (v:=(.iface 185 (pV Z 0))) rfl (fun ρ h=>Fz underlying185 (fun _ h=>by cases h) (h _ _ rfl)) ?_);obtain⟨am,ab,ae⟩:=bs O;refine BJ (YA ab) rfl rfl (A3 func135 rfl) aa fun an V K=>JL.done (BK ae (fun ag ah=>?_) (fun ag ai=>?_))
 ·refine zg 2 rfl (BL underlying183 (Br type39) rfl rfl rfl ?_);refine Ay (v:=iV 0) rfl (fun ρ h=>Yl.load (D1 underlying39) (h _ _ rfl) (Db (j:=1) (off:=0) K rfl rfl)) (zg 2 rfl ?_);refine JS.drop 1 K rfl fun aj=>?_;obtain rfl:=oi ah;exact AL func112 rfl rfl (U V rfl ⟨rfl,rfl⟩ aj)
 ·refine zg 5 rfl (JS.drop 1 K rfl fun ak=>?_);obtain rfl:=oi ai;exact AL func112 rfl rfl (U V rfl ⟨rfl,rfl⟩ ak)
def JX(fuel:Nat)(p0:Option (Int×Int)):Option Int:=match p0 with
 | none=>f112 fuel
 | some _=>none
theorem OR{v:Value}{p0:Option (Int×Int)}(h:IE 183 v p0){fuel:Nat}{r:Int}(K:JX fuel p0=some r):AU J 112 [v] E [] (fun w E' B'=>w=iV r∧B'= []):=by
 cases p0 with
 | none=>obtain rfl:v= .nilIface:=h;exact Yb K
 | some _=>cases K
end Pal
namespace Pal
open Go Go.Conc Go.Proofs
open Go.Proofs.Tryz
variable {J:Judge Tryz.prog}{E:LH}
def f67(fuel:Nat)(p0:Bz):Option Int:= (f113 fuel p0).bind fun K=> (JX fuel K).bind fun O=> some O
theorem Zc{O:Ao}{c2:Nat}{U:Ao}{V:Nat}{p0:Bz}(Z:Ap (rL rI) E O c2 p0.1)(aa:Ap (rL rI) E U V p0.2){fuel:Nat}{r:Int}(W:f67 fuel p0=some r):AU J 67 [.agg #[sV O p0.1 c2,sV U p0.2 V]] E [] (fun w E' B'=>w=iV r∧B'= []):=by
 refine Bj func67 fun Q ar cs H ab ae=>?_;unfold f67 at W;refine zg 2 rfl (Cy ab fun au av K ag ah=>?_);refine zg 4 rfl (Cf ag Cs B4 rfl rfl ?_);obtain⟨aw,ai,aj⟩:=bs W;refine BR (SF (Z.Ai K) (aa.Ai K) ai) rfl rfl (A3 func113 rfl) ah ?_;rintro ay az _ ak ⟨_,rfl,rfl,al⟩ am;obtain⟨aA,an,ao⟩:=bs aj;refine BJ (OR al an) rfl rfl NN am fun aB ap aq=>zg 2 rfl ?_;obtain rfl:=oi ao;exact AL func67 rfl rfl (ae ((K.Ab ak).Ab ap) rfl ⟨rfl,rfl⟩ aq)
def f69(fuel:Nat)(p0:Bz)(p1:A6):Option Int:= (f113 fuel p0).bind fun K=> if K.isSome=true then((JX fuel K).bind fun O=> some O) else((f116 fuel p0 p1).bind fun U=> (JX fuel U).bind fun V=> some V)
theorem Ln{U:Ao}{c2:Nat}{V:Ao}{W:Nat}{Z:Ao}{aa:Nat}{p0:Bz}{p1:A6}(ab:Ap (rL rI) E U c2 p0.1)(ae:Ap (rL rI) E V W p0.2)(al:Ap BM E Z aa p1){fuel:Nat}{r:Int}(ag:f69 fuel p0 p1=some r):AU J 69 [.agg #[sV U p0.1 c2,sV V p0.2 W],sV Z p1 aa] E [] (fun w E' B'=>w=iV r∧B'= []):=by
 refine Bj func69 fun Q aK cs H am ah=>?_;unfold f69 at ag;refine zg 2 rfl (Cy am fun aL aM K ai an=>?_);refine zg 5 rfl (Cf ai Cs B4 rfl rfl ?_);obtain⟨ao,ap,aq⟩:=bs ag;refine BR (SF (ab.Ai K) (ae.Ai K) ap) rfl rfl (A3 func113 rfl) an ?_;rintro aN aO _ O ⟨_,rfl,rfl,aj⟩ ak;refine zg 5 rfl (Ay (v:= .bool ao.isSome) rfl (fun ρ h=>Om underlying149 aj (h _ _ rfl) (h _ _ rfl)) ?_);refine JL.done (BK aq (fun ar au=>?_) (fun ar av=>?_))
 ·obtain⟨aP,aw,ay⟩:=bs au;refine zg 3 rfl (BJ (OR aj aw) rfl rfl NN ak fun aQ az aA=>?_);refine zg 2 rfl ?_;obtain rfl:=oi ay;exact AL func69 rfl rfl (ah ((K.Ab O).Ab az) rfl ⟨rfl,rfl⟩ aA)
 ·refine zg 3 rfl (Cf (ai.Ai O) Cs B4 rfl rfl ?_);obtain⟨aR,aB,aC⟩:=bs av;refine zg 1 rfl (BR (XS (ab.Ai (K.Ab O)) (ae.Ai (K.Ab O)) (al.Ai (K.Ab O)) aB) rfl rfl (A3 func116 rfl) ak ?_);rintro aS aT _ aD ⟨_,rfl,rfl,aE⟩ aF;obtain⟨aU,aG,aH⟩:=bs aC;refine BJ (OR aE aG) rfl rfl NN aF fun aV aI aJ=>zg 2 rfl ?_;obtain rfl:=oi aH;exact AL func69 rfl rfl (ah (((K.Ab O).Ab aD).Ab aI) rfl ⟨rfl,rfl⟩ aJ)
def Rl(fuel:Nat)(p0:BV)(O:(List Int))(K:Nat×Int):Option (Bn (Nat×Int) Nat):= if K.2<(O.length:Int) then((ix O K.2).bind fun U=> (ix p0.1 U).bind fun V=> (f120 fuel V).bind fun W=> (Jb K.1 W).bind fun Z=> (Av (K.2+1)).bind fun aa=> some (.more (Z,aa))) else(some (.done K.1))
def f121(fuel:Nat)(p0:BV)(p1:Nat):Option Nat:= (f89 fuel p1).bind fun K=> Option.bind (iter (Rl fuel p0 K) fuel (0,0)) fun O=> some O
theorem Xz{k1:Nat}{o2:Nat}{W:Ao}{Z:Nat}{aa:Ao}{ab:Nat}{ae:Lv_}{p0:BV}{p1:Nat}(al:At E k1 o2 (([sV W p0.1 Z,sV aa p0.2.1 ab]:Lv_)++ae))(am:Ap (rL rI) E W Z p0.1)(aZ:Ap (rL rI) E aa ab p0.2.1)(a0:(rA 13 (rN .u16)).r E ae p0.2.2){fuel:Nat}{r:Nat}(ag:f121 fuel p0 p1=some r):AU J 121 [pV k1 o2,uV p1] E [] (fun w E' B'=>w= uV r∧B'= []):=by
 refine Bj func121 fun Q a1 cs H an ao=>?_;unfold f121 at ag;obtain⟨ah,ap,aq⟩:=bs ag;refine zg 12 rfl (BR (Iy ap) rfl rfl H9 an ?_);rintro _ a2 _ U ⟨ar,au,rfl,rfl,av⟩ aw;refine Bo underlying28 rfl rfl rfl ?_;obtain⟨ay,az,aA⟩:=bs aq;refine zg 2 rfl (CM [] [(5,uV ay)] (fun a3 aB aC=>?_) (fun aD=>?_))
 ·refine zg 5 rfl ?_;obtain rfl:=oi aA;exact AL func121 rfl rfl (ao (U.Ab aB) rfl ⟨rfl,rfl⟩ aC)
 ·refine JL.block (CO az (fun O=> []) (fun O=> [(0,pV k1 o2),(5,uV O.1),(9,sV ar ah au),(10,iV (ah.length:Int)),(11,iV O.2)]) Aq aw ?_);rintro O a4 K ai aE ⟨a5,V⟩ aF;have aj:=V;unfold Rl at aj;refine zg 5 rfl (AM aj (fun aG aH=>?_) (fun aG aI=>?_))
  ·obtain⟨a6,aJ,aK⟩:=bs aH;refine zg 5 rfl (B5 (av.Ai K) aJ underlying28 AN ?_);rintro a7 a8 _ rfl aL;refine BY 0 aL Bq rfl rfl rfl (zg 6 rfl ?_);refine BL underlying141 B4 rfl rfl rfl (JL.fl 0 (al.Ai (U.Ab K)) underlying24 Ct Da ?_);obtain⟨a9,aM,aN⟩:=bs aK;refine zg 1 rfl (B5 (am.Ai (U.Ab K)) aM underlying22 BS ?_);rintro ba bb _ ⟨bc,bd,rfl,aO⟩ aP;refine BY 0 aP C4 rfl rfl rfl ?_;obtain⟨be,aQ,aR⟩:=bs aN;refine BJ (JU aO aQ) rfl rfl Jd ai fun bf aS aT=>?_;obtain⟨ak,aU,aV⟩:=bs aR;refine Ay (v:= uV ak) rfl (fun ρ h=>KF (h _ _ rfl) (h _ _ rfl) aU) ?_;obtain⟨aW,aX,aY⟩:=bs aV;refine zg 4 rfl (A9 aX rfl rfl rfl ?_);refine zg 2 rfl ?_;obtain rfl:=oi aY;exact aF (ak,aW) (K.Ab aS) aT rfl V
  ·refine JL.exit rfl ?_;obtain rfl:=oi aI;obtain rfl:=aE _ V;exact aD K ai rfl
def f130(fuel:Nat)(p0:B9):Option Int:= (f89 fuel p0.2.2).bind fun K=> some (K.length:Int)
theorem Yk{K:Ao}{c2:Nat}{p0:B9}(ai:Ap rI E K c2 p0.2.1){fuel:Nat}{r:Int}(O:f130 fuel p0=some r):AU J 130 [.agg #[iV p0.1,sV K p0.2.1 c2,uV p0.2.2]] E [] (fun w E' B'=>w=iV r∧B'= []):=by
 refine Bj func130 fun Q aj cs H U V=>?_;unfold f130 at O;refine zg 2 rfl (Cy U fun ak al W Z aa=>?_);refine zg 4 rfl (JL.fl 2 Z underlying104 Ew GW ?_);obtain⟨am,ab,ae⟩:=bs O;refine BR (Iy ab) rfl rfl H9 aa ?_;rintro _ an _ ag ⟨ao,ap,rfl,rfl,aq⟩ ah;refine Bo underlying28 rfl rfl rfl (zg 2 rfl ?_);obtain rfl:=oi ae;exact AL func130 rfl rfl (V (W.Ab ag) rfl ⟨rfl,rfl⟩ ah)
def M3(fuel:Nat)(p0:List B9)(K:Nat×Int):Option (Bn (Nat×Int) Nat):= if K.2<(p0.length:Int) then((ix p0 K.2).bind fun O=> (f90 fuel K.1 O.1).bind fun U=> (Av (K.2+1)).bind fun V=> some (.more (U,V))) else(some (.done K.1))
def f87(fuel:Nat)(p0:List B9):Option Nat:= Option.bind (iter (M3 fuel p0) fuel (0,0)) fun K=> some K
theorem SV{O:Ao}{c2:Nat}{p0:List (B9)}(ab:Ap DD E O c2 p0){fuel:Nat}{r:Nat}(W:f87 fuel p0=some r):AU J 87 [sV O p0 c2] E [] (fun w E' B'=>w= uV r∧B'= []):=by
 refine Bj func87 fun Q aL cs H ae ag=>?_;unfold f87 at W;refine zg 12 rfl (Bo underlying95 rfl rfl rfl ?_);obtain⟨ah,ai,aj⟩:=bs W;refine zg 2 rfl (CM [] [(3,uV ah)] (fun aM ak al=>?_) (fun am=>?_))
 ·refine zg 5 rfl ?_;obtain rfl:=oi aj;exact AL func87 rfl rfl (ag ak rfl ⟨rfl,rfl⟩ al)
 ·refine JL.block (CO ai (fun K=> []) (fun K=> [(3,uV K.1),(6,sV O p0 c2),(7,iV (p0.length:Int)),(8,iV K.2)]) Aq ae ?_);rintro K aN U Z an ⟨aO,V⟩ ao;have aa:=V;unfold M3 at aa;refine zg 5 rfl (AM aa (fun ap aq=>?_) (fun ap ar=>?_))
  ·obtain⟨aP,au,av⟩:=bs aq;refine zg 5 rfl (B5 (ab.Ai U) au underlying95 Co ?_);rintro aQ aR _ ⟨_,_,rfl,rfl,⟨_,_,rfl,⟨aS,aT,rfl,aU⟩,rfl⟩⟩ aw;refine Cf aw F3 Co rfl rfl (CN Z GY fun aV ay=>?_);refine BT 0 ay Co fun az=>?_;refine Dr 0 az rfl fun aW aA aB aC=>zg 3 rfl (JL.fl 0 aB underlying104 AN Bq ?_);obtain⟨aD,aE,aF⟩:=bs av;refine BJ (Nm aE) rfl rfl LW aC fun aX aG aH=>?_;obtain⟨aI,aJ,aK⟩:=bs aF;refine zg 4 rfl (A9 aJ rfl rfl rfl ?_);refine zg 2 rfl ?_;obtain rfl:=oi aK;exact ao (aD,aI) ((U.Ab aA).Ab aG) aH rfl V
  ·refine JL.exit rfl ?_;obtain rfl:=oi ar;obtain rfl:=an _ V;exact am U Z rfl
def SC(fuel:Nat)(p0:BV)(O:Int)(K:Nat×Int):Option (Bn (Nat×Int) Nat):= if K.2<O then((f121 fuel p0 K.1).bind fun U=> (Av (K.2+1)).bind fun V=> some (.more (U,V))) else(some (.done K.1))
def f88(fuel:Nat)(p0:BV)(p1:B9)(p2:Int):Option Nat:= (Av ((p1.2.1.length:Int) - 1)).bind fun K=> if p2≤K then((ix p1.2.1 p2).bind fun O=> (f120 fuel ([O]:List Int)).bind fun U=> some U) else((ix p1.2.1 K).bind fun V=> (f120 fuel ([V]:List Int)).bind fun W=> (Av (p2 - K)).bind fun Z=> Option.bind (iter (SC fuel p0 Z) fuel (W,0)) fun aa=> some aa)
theorem Zi{k1:Nat}{o2:Nat}{ab:Ao}{ae:Nat}{ag:Ao}{ah:Nat}{ai:Lv_}{aj:Ao}{ak:Nat}{p0:BV}{p1:B9}{p2:Int}(av:At E k1 o2 (([sV ab p0.1 ae,sV ag p0.2.1 ah]:Lv_)++ai))(aw:Ap (rL rI) E ab ae p0.1)(ay:Ap (rL rI) E ag ah p0.2.1)(az:(rA 13 (rN .u16)).r E ai p0.2.2)(al:Ap rI E aj ak p1.2.1){fuel:Nat}{r:Nat}(am:f88 fuel p0 p1 p2=some r):AU J 88 [pV k1 o2,.agg #[iV p1.1,sV aj p1.2.1 ak,uV p1.2.2],iV p2] E [] (fun w E' B'=>w= uV r∧B'= []):=by
 refine Bj func88 fun Q bp cs H aA an=>?_;unfold f88 at am;refine zg 2 rfl (Cy aA fun bq br K Z ao=>?_);refine zg 4 rfl (JL.fl 1 Z underlying104 BS C4 ?_);refine Bo underlying28 rfl rfl rfl ?_;obtain⟨bu,aB,aC⟩:=bs am;refine Cd aB rfl rfl rfl (zg 9 rfl ?_);refine AM aC (fun aD aE=>?_) (fun aD aF=>?_)
 ·refine zg 2 rfl (JL.fl 1 Z underlying104 BS C4 ?_);obtain⟨ap,aG,aH⟩:=bs aE;refine zg 1 rfl (B5 (al.Ai K) aG underlying28 AN ?_);rintro bv bw _ rfl aI;refine BY 0 aI Bq rfl rfl rfl (JS.lit (pp:=rI) [iV ap] [ap] rfl rfl rfl underlying28 AN Cp (by decide) rfl rfl rfl ⟨rfl,trivial⟩ ao fun bx bz aJ aK=>?_);refine Cc 2 aJ aK rfl fun bA aL aM aN=>?_;obtain⟨bB,aO,aP⟩:=bs aH;refine BJ (JU aM aO) rfl rfl Jd aN fun bC aQ aR=>zg 2 rfl ?_;obtain rfl:=oi aP;exact AL func88 rfl rfl (an ((K.Ab aL).Ab aQ) rfl ⟨rfl,rfl⟩ aR)
 ·refine zg 3 rfl (JL.fl 1 Z underlying104 BS C4 ?_);obtain⟨aq,aS,aT⟩:=bs aF;refine zg 1 rfl (B5 (al.Ai K) aS underlying28 AN ?_);rintro bD bE _ rfl aU;refine BY 0 aU Bq rfl rfl rfl (JS.lit (pp:=rI) [iV aq] [aq] rfl rfl rfl underlying28 AN Cp (by decide) rfl rfl rfl ⟨rfl,trivial⟩ ao fun bF bG aV aW=>?_);refine Cc 2 aV aW rfl fun bH U aX aY=>?_;obtain⟨bI,aZ,a0⟩:=bs aT;refine BJ (JU aX aZ) rfl rfl Jd aY fun bJ V a1=>?_;obtain⟨a2,a3,a4⟩:=bs a0;refine zg 7 rfl (Cd a3 rfl rfl rfl ?_);obtain⟨a5,a6,a7⟩:=bs a4;refine zg 2 rfl (CM [] [(8,uV a5)] (fun bK a8 a9=>?_) (fun ba=>?_))
  ·refine zg 5 rfl ?_;obtain rfl:=oi a7;exact AL func88 rfl rfl (an (((K.Ab U).Ab V).Ab a8) rfl ⟨rfl,rfl⟩ a9)
  ·refine JL.block (CO a6 (fun W=> []) (fun W=> [(0,pV k1 o2),(8,uV W.1),(32,iV a2),(33,iV W.2)]) Aq a1 ?_);rintro W bL O ar bb ⟨bM,aa⟩ bc;have au:=aa;unfold SC at au;refine zg 5 rfl (AM au (fun bd be=>?_) (fun bd bf=>?_))
   ·obtain⟨bg,bh,bi⟩:=bs be;refine zg 6 rfl (BJ (Xz (av.Ai (((K.Ab U).Ab V).Ab O)) (aw.Ai (((K.Ab U).Ab V).Ab O)) (ay.Ai (((K.Ab U).Ab V).Ab O)) (Rp.Ai _ (((K.Ab U).Ab V).Ab O) az) bh) rfl rfl (A3 func121 rfl) ar fun bN bj bl=>?_);obtain⟨bm,bn,bo⟩:=bs bi;refine zg 4 rfl (A9 bn rfl rfl rfl ?_);refine zg 2 rfl ?_;obtain rfl:=oi bo;exact bc (bg,bm) (O.Ab bj) bl rfl aa
   ·refine JL.exit rfl ?_;obtain rfl:=oi bf;obtain rfl:=bb _ aa;exact ba O ar rfl
end Pal
namespace Pal
open Go Go.Conc Go.Proofs
open Go.Proofs.Tryz
variable {J:Judge Tryz.prog}{E:LH}
def Mg(fuel:Nat)(p0:BV)(O:(List Int))(K:Nat×Int):Option (Bn (Nat×Int) Nat):= if K.2<(O.length:Int) then((ix O K.2).bind fun U=> (ix p0.1 U).bind fun V=> (f120 fuel V).bind fun W=> (Jb K.1 W).bind fun Z=> (Av (K.2+1)).bind fun aa=> some (.more (Z,aa))) else(some (.done K.1))
def Lr(fuel:Nat)(p0:BV)(p1:Nat):Option (Nat×(BV)):= (f89 fuel p1).bind fun K=> Option.bind (iter (Mg fuel p0 K) fuel (0,0)) fun O=> some (O,p0)
theorem V8{bk:Nat}{K:Ao}{c2:Nat}{O:Ao}{U:Nat}{V:Lv_}{p0:BV}{p1:Nat}(ah:Ap (rL rI) E K c2 p0.1)(ar:Ap (rL rI) E O U p0.2.1)(au:(rA 13 (rN .u16)).r E V p0.2.2){fuel:Nat}{r:Nat×(BV)}(ai:Lr fuel p0 p1=some r):AU J 121 [pV bk 0,uV p1] E [(bk,.cells (([sV K p0.1 c2,sV O p0.2.1 U]:Lv_)++V).toArray 141 (0,0))] (fun w E' B'=>∃(aj:Ao) (ak:Nat) (al:Ao) (am:Nat) (an:Lv_),w= uV r.1∧B'= [(bk,.cells (([sV aj r.2.1 ak,sV al r.2.2.1 am]:Lv_)++an).toArray 141 (0,0))]∧Ap (rL rI) E' aj ak r.2.1∧Ap (rL rI) E' al am r.2.2.1∧(rA 13 (rN .u16)).r E' an r.2.2.2):=by
 refine Bj func121 fun Q a4 cs H av aw=>?_;unfold Lr at ai;obtain⟨ao,ay,az⟩:=bs ai;refine zg 12 rfl (BR (Iy ay) rfl rfl H9 av ?_);rintro _ a5 _ W ⟨aA,aB,rfl,rfl,aC⟩ aD;refine Bo underlying28 rfl rfl rfl ?_;obtain⟨aE,aF,aG⟩:=bs az;refine zg 2 rfl (CM [bX bk (([sV K p0.1 c2,sV O p0.2.1 U]:Lv_)++V).toArray 141] [(5,uV aE)] (fun a6 Z aH=>?_) (fun aI=>?_))
 ·refine zg 5 rfl ?_;obtain rfl:=oi aG;exact AL func121 rfl rfl (aw (W.Ab Z) rfl ⟨K,c2,O,U,V,rfl,rfl,(ah.Ai (W.Ab Z)),(ar.Ai (W.Ab Z)),(Rp.Ai _ (W.Ab Z) au)⟩ aH)
 ·refine JL.block (CO aF (fun aa=> [bX bk (([sV K p0.1 c2,sV O p0.2.1 U]:Lv_)++V).toArray 141]) (fun aa=> [(0,pV bk 0),(5,uV aa.1),(9,sV aA ao aB),(10,iV (ao.length:Int)),(11,iV aa.2)]) Aq aD ?_);rintro aa a7 ab ae aJ ⟨a8,ag⟩ aK;have ap:=ag;unfold Mg at ap;refine zg 5 rfl (AM ap (fun aL aM=>?_) (fun aL aN=>?_))
  ·obtain⟨a9,aO,aP⟩:=bs aM;refine zg 5 rfl (B5 (aC.Ai ab) aO underlying28 AN ?_);rintro ba bb _ rfl aQ;refine BY 0 aQ Bq rfl rfl rfl (zg 6 rfl ?_);refine BL underlying141 B4 rfl rfl rfl (BL underlying24 Ct rfl rfl rfl ?_);refine Ay (v:= sV K p0.1 c2) rfl (fun ρ h=>Yl.load Da (h _ _ rfl) (U6 (o:=0) (l:= [sV K p0.1 c2,sV O p0.2.1 U]) 0 ae rfl rfl)) ?_;obtain⟨bc,aR,aS⟩:=bs aP;refine zg 1 rfl (B5 (ah.Ai (W.Ab ab)) aR underlying22 BS ?_);rintro bd be _ ⟨bf,bg,rfl,aT⟩ aU;refine BY 0 aU C4 rfl rfl rfl ?_;obtain⟨bh,aV,aW⟩:=bs aS;refine BJ (JU aT aV) rfl rfl Jd ae fun bi aX aY=>?_;obtain⟨aq,aZ,a0⟩:=bs aW;refine Ay (v:= uV aq) rfl (fun ρ h=>KF (h _ _ rfl) (h _ _ rfl) aZ) ?_;obtain⟨a1,a2,a3⟩:=bs a0;refine zg 4 rfl (A9 a2 rfl rfl rfl ?_);refine zg 2 rfl ?_;obtain rfl:=oi a3;exact aK (aq,a1) (ab.Ab aX) aY rfl ag
  ·refine JL.exit rfl ?_;obtain rfl:=oi aN;obtain rfl:=aJ _ ag;exact aI ab ae rfl
end Pal
namespace Pal
open Go Go.Conc Go.Proofs
open Go.Proofs.Tryz
variable {J:Judge Tryz.prog}{E:LH}
theorem Yr:S7 Tryz.prog 138 .u16:=⟨_,underlying138,by decide+kernel,by decide,underlying102,rfl⟩
def K9(fuel:Nat)(K:(List (List Int))×(List (List Int))×(List Nat)×(List Nat)×Int):Option (Bn ((List (List Int))×(List (List Int))×(List Nat)×(List Nat)×Int) ((List (List Int))×(List (List Int))×(List Nat)×(List Nat))):= if K.2.2.2.2<12 then((Av (K.2.2.2.2+1)).bind fun U=> (ix K.2.2.1 K.2.2.2.2).bind fun V=> (Lr fuel (K.1,K.2.1,K.2.2.1) V).bind fun O=> (ix K.2.2.2.1 U).bind fun Z=> (Av (K.2.2.2.2+1)).bind fun W=> some (.more (O.2.1,O.2.2.1,O.2.2.2,(K.2.2.2.1.set (Int.toNat U) O.1),W))) else(some (.done (K.1,K.2.1,K.2.2.1,K.2.2.2.1)))
def MP(fuel:Nat)(O:BV):Option (Bn BV (((Option BV))⊕Unit)):= Option.bind (iter (K9 fuel) fuel (O.1,O.2.1,O.2.2,O.2.2,0)) fun K=> if K.2.2.2≠K.2.2.1 then(some (.more (K.1,K.2.1,K.2.2.2))) else(some (.done (Sum.inl (some (K.1,K.2.1,K.2.2.1)))))
def f92(fuel:Nat)(p0:Bz):Option ((Option BV)):= (ix (List.replicate 13 (0:Nat)) (0)).bind fun O=> Option.bind (iter (MP fuel) fuel (p0.1,p0.2,((List.replicate 13 (0:Nat)).set (Int.toNat 0) 1))) fun K=> Sum.elim (fun r=>some r) (fun U=>none) K
theorem Nl{ao:Ao}{c2:Nat}{ap:Ao}{aq:Nat}{p0:Bz}(bf:Ap (rL rI) E ao c2 p0.1)(bg:Ap (rL rI) E ap aq p0.2){fuel:Nat}{r:(Option BV)}(aV:f92 fuel p0=some r):AU J 92 [.agg #[sV ao p0.1 c2,sV ap p0.2 aq]] E [] (fun w E' B'=>∃(aW:Value),w=aW∧B'= []∧Kc (rP (rL (rL rI)) (rP (rL (rL rI)) (rA 13 (rN .u16)))) E' aW r):=by
 refine Bj func92 fun Q cc cs H bh bi=>?_;unfold f92 at aV;refine zg 2 rfl (Cy bh fun cd ar aP bj bl=>?_);refine zg 5 rfl (Cf bj Cs B4 rfl rfl ?_);refine Ay (v:= .agg (([sV ao p0.1 c2,sV ap p0.2 aq]:Lv_)++(List.replicate 13 (uV 0):Lv_)).toArray) rfl (fun ρ h=>De [(0,2),(2,13)] h (DZ type141) underlying141 ⟨rfl,Br type24,rfl,Br type139,trivial⟩ rfl rfl) (JS.box (v:= .agg (([sV ao p0.1 c2,sV ap p0.2 aq]:Lv_)++(List.replicate 13 (uV 0):Lv_)).toArray) rfl rfl rfl bl rfl fun U bm=>?_);refine zg 6 rfl (BL underlying141 Gl rfl rfl rfl ?_);obtain⟨ce,aQ,bn⟩:=bs aV;obtain⟨_,rfl,_,_,cf⟩:=Il (kk:=13) (pp:=(rN .u16)) (JM (E:=ar) (pp:=(rN .u16)) rfl) aQ;refine Ay (v:= .pointer (some ⟨U,2+Int.toNat (0)*1,none⟩)) rfl (fun ρ h=>Jq (kk:=13) (pp:=(rN .u16)) (JM (E:=ar) (pp:=(rN .u16)) rfl) aQ underlying139 Ib (h _ _ rfl) (h _ _ rfl)) (BL underlying138 Ew rfl rfl rfl ?_);have aI:=OW (us:= [uV 1]) (y:=1) (JM (E:=ar) (pp:=(rN .u16)) rfl) aQ rfl;refine Kt (v:= uV 1) (l:= [sV ao p0.1 c2,sV ap p0.2 aq]) (ws:=(List.replicate 13 (uV 0):Lv_)) (us:= [uV 1]) (o:=Int.toNat (0)*1) 2 rfl rfl rfl bm rfl rfl rfl Ew (by simp [Value.cells,Cx]) rfl aI.2 fun aX=>?_;replace aI:=aI.1;generalize bo:Hz (List.replicate 13 (uV 0):Lv_) (Int.toNat (0)*1) [uV 1]=aY at aX ⊢;have bp:(rA 13 (rN .u16)).r ar aY ((List.replicate 13 (0:Nat)).set (Int.toNat 0) 1):=by rw [← bo];exact aI
 refine zg 2 rfl (JL.label ?_);obtain⟨cg,bq,br⟩:=bs bn;refine Iv [(3,pV U 0)] rfl (VD bq (fun L s Z=>∃(V:LH) (ay:Ao) (az:Nat) (aA:Ao) (aB:Nat) (aa:Lv_),Jn ar H V [[(U,.cells (([sV ay Z.1 az,sV aA Z.2.1 aB]:Lv_)++aa).toArray 141 (0,0))]] [(3,pV U 0)] L s (Ap (rL rI) V ay az Z.1∧Ap (rL rI) V aA aB Z.2.1∧(rA 13 (rN .u16)).r V aa Z.2.2)) ⟨ar,ao,c2,ap,aq,aY,rfl,rfl,Aq,aX,(bf.Ai aP),(bg.Ai aP),bp⟩ ?_);rintro _ _ Z ⟨V,ay,az,aA,aB,aa,rfl,rfl,aZ,a0,bu,bv,ai⟩ bw ⟨ci,aR⟩ bx;have a1:=aR;unfold MP at a1;refine zg 4 rfl (BL underlying141 Gl rfl rfl rfl ?_);refine Ay (v:= .agg aa.toArray) rfl (fun ρ h=>KE (kk:=13) (pp:=(rN .u16)) ai LN Gl (h _ _ rfl) (Mi (l:= [sV ay Z.1 az,sV aA Z.2.1 aB]) 0 a0 rfl)) (CN a0 (DZ type139) fun au bz=>?_);refine Kt (v:= .agg aa.toArray) (l:= []) (ws:=(List.replicate 13 (uV 0):Lv_)) (us:=aa) (o:=0) 1 rfl rfl rfl bz rfl rfl rfl (by rw [Gr (kk:=13) (pp:=(rN .u16)) ai];exact Br type139) ((rA 13 (rN .u16)).one ai) rfl (by rw [Gr (kk:=13) (pp:=(rN .u16)) ai,Gr (kk:=13) (pp:=(rN .u16)) (JM (E:=V) (pp:=(rN .u16)) rfl)];omega) fun a2=>?_;rw [QE (by rw [Gr (kk:=13) (pp:=(rN .u16)) ai,Gr (kk:=13) (pp:=(rN .u16)) (JM (E:=V) (pp:=(rN .u16)) rfl)])] at a2 ⊢;obtain⟨K,bA,bB⟩:=bs a1;refine zg 6 rfl (Bs (fun L s=>∃(aj:LH) (ak:Ao) (al:Nat) (ab:Ao) (ae:Nat) (am:Lv_) (ag:Lv_),Jn V H aj [bX U (([sV ak K.1 al,sV ab K.2.1 ae]:Lv_)++am).toArray 141,bX au (([]:Lv_)++ag).toArray 139] [(3,pV U 0),(4,pV au 0)] L s (Ap (rL rI) aj ak al K.1∧Ap (rL rI) aj ab ae K.2.1∧(rA 13 (rN .u16)).r aj am K.2.2.1∧(rA 13 (rN .u16)).r aj ag K.2.2.2)) ?_ ?_)
 ·rintro _ _ ⟨aj,ak,al,ab,ae,am,ag,rfl,rfl,a3,av,a4,a5,aC,ah⟩;refine zg 2 rfl (DI 5 [au,U] ⟨⟨1,_,rfl⟩,⟨0,_,rfl⟩,trivial⟩ av fun ht=>?_);refine Bw (v:= .agg ag.toArray) 0 ht rfl rfl (fun ρ h s' hs=>KE (kk:=13) (pp:=(rN .u16)) ah LN Gl (h _ _ rfl) (On (l:= []) 1 av rfl (by simp [Bb]) hs)) (Bh ht rfl [1,2] rfl ?_);refine Ch 3 ht underlying141 Gl rfl rfl rfl rfl (Bw (v:= .agg am.toArray) 4 ht rfl rfl (fun ρ h s' hs=>KE (kk:=13) (pp:=(rN .u16)) aC LN Gl (h _ _ rfl) (On (l:= [sV ak K.1 al,sV ab K.2.1 ae]) 0 av rfl (by simp [Bb]) hs)) ?_);refine Cg [5] (Ay (v:= .bool (decide (K.2.2.2≠K.2.2.1))) rfl (fun ρ h=>Vk underlying139 (by decide+kernel) Yr Ib ah aC (h _ _ rfl) (h _ _ rfl)) ?_);refine JL.done (AM bB (fun bC bD=>?_) (fun bC bE=>?_))
  ·refine zg 3 rfl (Ay (v:= .agg ag.toArray) rfl (fun ρ h=>KE (kk:=13) (pp:=(rN .u16)) ah LN Gl (h _ _ rfl) (Mi (l:= []) 1 av rfl)) ?_);refine zg 1 rfl (BL underlying141 Gl rfl rfl rfl ?_);refine Kt (v:= .agg ag.toArray) (l:= [sV ak K.1 al,sV ab K.2.1 ae]) (ws:=am) (us:=ag) (o:=0) 0 rfl rfl rfl av rfl rfl rfl (by rw [Gr (kk:=13) (pp:=(rN .u16)) ah];exact Br type139) ((rA 13 (rN .u16)).one ah) rfl (by rw [Gr (kk:=13) (pp:=(rN .u16)) ah,Gr (kk:=13) (pp:=(rN .u16)) aC];omega) fun a6=>?_;rw [QE (by rw [Gr (kk:=13) (pp:=(rN .u16)) ah,Gr (kk:=13) (pp:=(rN .u16)) aC])] at a6 ⊢;refine JL.done (JL.goto rfl ?_);refine zg 2 rfl (JS.drop 1 a6 rfl fun bF=>?_);obtain rfl:=oi bD;exact Aw (bx _ _ (K.1,K.2.1,K.2.2.2) ⟨aj,ak,al,ab,ae,ag,rfl,rfl,(aZ.Ab a3),bF,a4,a5,ah⟩ aR) rfl
  ·refine zg 6 rfl (Dr 0 av rfl fun ck aJ bG bH=>?_);refine JS.drop 1 bH rfl fun bI=>?_;obtain rfl:=oi bE;obtain rfl:=bw _ aR;have bJ:=elim_inl br;obtain rfl:=oi bJ;exact AL func92 rfl rfl (bi (((aP.Ab aZ).Ab a3).Ab aJ) rfl ⟨pV U 0,rfl,rfl,⟨_,_,_,rfl,bG,⟨[sV ak K.1 al],(([sV ab K.2.1 ae]:Lv_)++am),rfl,⟨_,_,rfl,(a4.Ai aJ)⟩,⟨[sV ab K.2.1 ae],am,rfl,⟨_,_,rfl,(a5.Ai aJ)⟩,(Rp.Ai _ aJ aC)⟩⟩⟩⟩ bI)
 ·intro bK;refine JL.block (CE bA (fun L s O=>∃(an:LH) (aD:Ao) (aE:Nat) (aF:Ao) (aG:Nat) (aK:Lv_) (aw:Lv_),Jn V H an [bX U (([sV aD O.1 aE,sV aF O.2.1 aG]:Lv_)++aK).toArray 141,bX au (([]:Lv_)++aw).toArray 139] [(3,pV U 0),(4,pV au 0),(18,iV O.2.2.2.2)] L s (Ap (rL rI) an aD aE O.1∧Ap (rL rI) an aF aG O.2.1∧(rA 13 (rN .u16)).r an aK O.2.2.1∧(rA 13 (rN .u16)).r an aw O.2.2.2.1)) ⟨V,ay,az,aA,aB,aa,aa,rfl,rfl,Aq,a2,bu,bv,ai,ai⟩ ?_);rintro _ _ O ⟨an,aD,aE,aF,aG,aK,aw,rfl,rfl,a7,aS,a8,a9,aL,aM⟩ bL ⟨cm,aT⟩ bM;have ba:=aT;unfold K9 at ba;refine zg 5 rfl (AM ba (fun bN bO=>?_) (fun bN bP=>?_))
  ·obtain⟨aH,bQ,bR⟩:=bs bO;refine zg 10 rfl (A9 bQ rfl rfl rfl ?_);refine zg 4 rfl (BL underlying141 Gl rfl rfl rfl ?_);obtain⟨bS,bb,bT⟩:=bs bR;obtain⟨_,rfl,_,_,bU⟩:=Il (kk:=13) (pp:=(rN .u16)) aL bb;refine Ay (v:= .pointer (some ⟨U,2+Int.toNat (O.2.2.2.2)*1,none⟩)) rfl (fun ρ h=>Jq (kk:=13) (pp:=(rN .u16)) aL bb underlying139 Ib (h _ _ rfl) (h _ _ rfl)) (BL underlying138 Ew rfl rfl rfl ?_);refine Ay (v:= uV bS) rfl (fun ρ h=>Yl.load GW (h _ _ rfl) (Ux (l:= [sV aD O.1 aE,sV aF O.2.1 aG]) 0 aS rfl (bU 0 _ rfl))) ?_;obtain⟨W,bV,bW⟩:=bs bT;refine B8 0 (V8 a8 a9 aL bV) rfl rfl (A3 func121 rfl) aS rfl ?_;rintro _ bc _ aN ⟨bY,bZ,b0,b1,J2,rfl,rfl,b2,b3,b4⟩ b5;obtain⟨cn,aU,b6⟩:=bs bW;obtain⟨_,rfl,_,_,co⟩:=Il (kk:=13) (pp:=(rN .u16)) (Rp.Ai _ aN aM) aU;refine Ay (v:= .pointer (some ⟨au,0+Int.toNat (aH)*1,none⟩)) rfl (fun ρ h=>Jq (kk:=13) (pp:=(rN .u16)) (Rp.Ai _ aN aM) aU underlying139 Ib (h _ _ rfl) (h _ _ rfl)) (BL underlying138 Ew rfl rfl rfl ?_);have aO:=OW (us:= [uV W.1]) (y:=W.1) (Rp.Ai _ aN aM) aU rfl;refine Kt (v:= uV W.1) (l:= []) (ws:=aw) (us:= [uV W.1]) (o:=Int.toNat (aH)*1) 1 rfl rfl rfl b5 rfl rfl rfl Ew (by simp [Value.cells,Cx]) rfl aO.2 fun bd=>?_;replace aO:=aO.1;generalize b7:Hz aw (Int.toNat (aH)*1) [uV W.1]=be at bd ⊢;have b8:(rA 13 (rN .u16)).r bc be (O.2.2.2.1.set (Int.toNat aH) W.1):=by rw [← b7];exact aO
   obtain⟨b9,ca,cb⟩:=bs b6;refine zg 3 rfl (A9 ca rfl rfl rfl ?_);refine zg 2 rfl ?_;obtain rfl:=oi cb;exact Aw (bM _ _ (W.2.1,W.2.2.1,W.2.2.2,(O.2.2.2.1.set (Int.toNat aH) W.1),b9) ⟨bc,bY,bZ,b0,b1,J2,be,rfl,rfl,(a7.Ab aN),bd,b2,b3,b4,b8⟩ aT) rfl
  ·refine JL.exit rfl ?_;obtain rfl:=oi bP;obtain rfl:=bL _ aT;exact Aw (bK _ _ ⟨an,aD,aE,aF,aG,aK,aw,rfl,rfl,a7,aS,a8,a9,aL,aM⟩) rfl
end Pal
namespace Pal
open Go Go.Conc Go.Proofs
open Go.Proofs.Tryz
variable {J:Judge Tryz.prog}{E:LH}
def RU(fuel:Nat)(p1:List Int)(K:Int):Option (Bn Int (((Option BV)×Int)⊕(Unit))):= if K<(p1.length:Int) then((ix p1 K).bind fun O=> (f101 fuel O 0 12).bind fun U=> if U=true then(some (.done (Sum.inl (none,1)))) else((Av (K+1)).bind fun V=> some (.more V))) else(some (.done (Sum.inr ())))
def f106(fuel:Nat)(p0:Bz)(p1:List Int):Option ((Option BV)×Int):= (f67 fuel p0).bind fun K=> if K≠0 then(some (none,K)) else(Option.bind (iter (RU fuel p1) fuel 0) fun O=> Sum.elim (fun r=>some r) (fun V=> (f92 fuel p0).bind fun U=> some (U,0)) O)
theorem Sm{ag:Ao}{c2:Nat}{ah:Ao}{ai:Nat}{Z:Ao}{aa:Nat}{p0:Bz}{p1:List Int}(aj:Ap (rL rI) E ag c2 p0.1)(ak:Ap (rL rI) E ah ai p0.2)(aC:Ap rI E Z aa p1){fuel:Nat}{r:(Option BV)×Int}(al:f106 fuel p0 p1=some r):AU J 106 [.agg #[sV ag p0.1 c2,sV ah p0.2 ai],sV Z p1 aa] E [] (fun w E' B'=>∃(am:Value),w= .tuple #[am,iV r.2]∧B'= []∧Kc (rP (rL (rL rI)) (rP (rL (rL rI)) (rA 13 (rN .u16)))) E' am r.1):=by
 refine Bj func106 fun Q bd cs H aD ab=>?_;unfold f106 at al;refine zg 2 rfl (Cy aD fun an be K ao aE=>?_);refine zg 6 rfl (Cf ao Cs B4 rfl rfl ?_);obtain⟨bf,aF,aG⟩:=bs al;refine BJ (Zc (aj.Ai K) (ak.Ai K) aF) rfl rfl (A3 func67 rfl) aE fun aH O ap=>zg 7 rfl (AM aG (fun aI aJ=>?_) (fun aI aK=>?_))
 ·refine zg 6 rfl ?_;obtain rfl:=oi aJ;exact AL func106 rfl rfl (ab (K.Ab O) rfl ⟨.pointer none,rfl,rfl,rfl⟩ ap)
 ·refine zg 5 rfl (Bo underlying28 rfl rfl rfl ?_);obtain⟨aq,aL,ar⟩:=bs aK;refine zg 2 rfl (Bs (fun L s=>∃(au:Unit) (av:LH),aq=Sum.inr au∧Jm aH H av [] [(2,pV an 0)] L s) ?_ ?_)
  ·rintro _ _ ⟨au,av,rfl,rfl,rfl,U,aM⟩;have aN:=elim_inr ar;refine zg 2 rfl (Cf (ao.Ai (O.Ab U)) Cs B4 rfl rfl ?_);obtain⟨bg,aO,aP⟩:=bs aN;refine BR (Nl (aj.Ai ((K.Ab O).Ab U)) (ak.Ai ((K.Ab O).Ab U)) aO) rfl rfl LV aM ?_;rintro aQ bh _ aR ⟨_,rfl,rfl,aS⟩ aT;refine zg 3 rfl ?_;obtain rfl:=oi aP;exact AL func106 rfl rfl (ab (((K.Ab O).Ab U).Ab aR) rfl ⟨aQ,rfl,rfl,aS⟩ aT)
  ·intro aU;refine JL.block (CO aL (fun ae=> []) (fun ae=> [(2,pV an 0),(14,sV Z p1 aa),(15,iV (p1.length:Int)),(16,iV ae)]) Aq ap ?_);rintro ae aV V aw ay ⟨bi,W⟩ aW;have az:=W;unfold RU at az;refine zg 5 rfl (AM az (fun aX aY=>?_) (fun aX aZ=>?_))
   ·obtain⟨bj,a0,a1⟩:=bs aY;refine zg 5 rfl (B5 (aC.Ai ((K.Ab O).Ab V)) a0 underlying28 AN ?_);rintro bl bm _ rfl a2;refine BY 0 a2 Bq rfl rfl rfl ?_;obtain⟨bn,a3,a4⟩:=bs a1;refine zg 5 rfl (BJ (I2 a3) rfl rfl IL aw fun bo aA aB=>?_);refine JL.done (BK a4 (fun a5 a6=>?_) (fun a5 a7=>?_))
    ·refine zg 5 rfl ?_;obtain rfl:=oi a6;obtain rfl:=ay _ W;have a8:=elim_inl ar;obtain rfl:=oi a8;exact AL func106 rfl rfl (ab (((K.Ab O).Ab V).Ab aA) rfl ⟨.pointer none,rfl,rfl,rfl⟩ aB)
    ·obtain⟨a9,ba,bb⟩:=bs a7;refine zg 3 rfl (A9 ba rfl rfl rfl ?_);refine zg 2 rfl ?_;obtain rfl:=oi bb;exact aW a9 (V.Ab aA) aB rfl W
   ·refine JL.exit rfl ?_;obtain rfl:=oi aZ;have bc:aq=(Sum.inr ()):=(ay _ W).symm;exact Aw (aU _ _ ⟨(),aV,bc,rfl,rfl,V,aw⟩) rfl
def f51(fuel:Nat)(p0:Bz)(p1:Int):Option ((List Int)×Int):= (f106 fuel p0 ([p1]:List Int)).bind fun K=> if K.2≠0 then(some ([],K.2)) else((K.1).bind fun O=> (ix O.2.2 p1).bind fun U=> (f89 fuel U).bind fun V=> some (V,0))
theorem Y8{U:Ao}{c2:Nat}{V:Ao}{W:Nat}{p0:Bz}{p1:Int}(ak:Ap (rL rI) E U c2 p0.1)(al:Ap (rL rI) E V W p0.2){fuel:Nat}{r:(List Int)×Int}(Z:f51 fuel p0 p1=some r):AU J 51 [.agg #[sV U p0.1 c2,sV V p0.2 W],iV p1] E [] (fun w E' B'=>∃(aa:Ao) (ab:Nat),w= .tuple #[sV aa r.1 ab,iV r.2]∧B'= []∧Ap rI E' aa ab r.1):=by
 refine Bj func51 fun Q aU cs H am ae=>?_;unfold f51 at Z;refine zg 2 rfl (Cy am fun aV aW K an ao=>?_);refine zg 5 rfl (Cf an Cs B4 rfl rfl ?_);refine zg 1 rfl (JS.lit (pp:=rI) [iV p1] [p1] rfl rfl rfl underlying28 AN Cp (by decide) rfl rfl rfl ⟨rfl,trivial⟩ ao fun aX aY ap aq=>?_);refine Cc 2 ap aq rfl fun aZ O ar au=>?_;obtain⟨a0,av,aw⟩:=bs Z;refine BR (Sm (ak.Ai (K.Ab O)) (al.Ai (K.Ab O)) ar av) rfl rfl (A3 func106 rfl) au ?_;rintro _ a1 _ ag ⟨a2,rfl,rfl,ay⟩ ah;refine zg 12 rfl (AM aw (fun az aA=>?_) (fun az aB=>?_))
 ·refine zg 6 rfl ?_;obtain rfl:=oi aA;exact AL func51 rfl rfl (ae ((K.Ab O).Ab ag) rfl ⟨none,0,rfl,rfl,Ap.nil⟩ ah)
 ·obtain⟨ai,aC,aD⟩:=bs aB;have aj:=ay;refine zg 5 rfl ?_;rw [aC] at aj;obtain⟨a3,a4,_,rfl,aE,⟨_,_,rfl,⟨aF,aG,rfl,a5⟩,⟨_,a6,rfl,⟨aH,aI,rfl,a7⟩,aJ⟩⟩⟩:=aj;refine zg 1 rfl (BL underlying141 Gl rfl rfl rfl ?_);obtain⟨a8,aK,aL⟩:=bs aD;refine OA (l:= [sV aF ai.1 aG,sV aH ai.2.1 aI]) aE aJ aK rfl rfl rfl rfl rfl underlying139 Ib ?_;rintro a9 _ rfl aM;refine JL.fl 0 aM underlying138 Ew GW ?_;obtain⟨ba,aN,aO⟩:=bs aL;refine BR (Iy aN) rfl rfl H9 ah ?_;rintro _ bb _ aP ⟨aQ,aR,rfl,rfl,aS⟩ aT;refine zg 3 rfl ?_;obtain rfl:=oi aO;exact AL func51 rfl rfl (ae (((K.Ab O).Ab ag).Ab aP) rfl ⟨aQ,aR,rfl,rfl,aS⟩ aT)
def Rw(fuel:Nat)(p0:BV)(O:Nat)(U:(List Int))(K:Int):Option (Bn Int ((Bool)⊕(Unit))):= if K<(U.length:Int) then((ix U K).bind fun V=> (f103 fuel O V).bind fun W=> Option.bind (if W=true then(some true) else((ix p0.2.1 V).bind fun Z=> (f120 fuel Z).bind fun aa=> (J1 O aa).bind fun ab=> some (decide ((((ab):Nat):Int)≠(((0):Nat):Int))))) fun ae=> if ae=true then(some (.done (Sum.inl true))) else((Av (K+1)).bind fun ag=> some (.more ag))) else(some (.done (Sum.inr ())))
def f109(fuel:Nat)(p0:BV)(p1:Int)(p2:Int):Option Bool:= (ix p0.2.2 p2).bind fun K=> (ix p0.2.2 p1).bind fun O=> (f89 fuel O).bind fun U=> Option.bind (iter (Rw fuel p0 K U) fuel 0) fun V=> Sum.elim (fun r=>some r) (fun W=> some false) V
theorem XO{k1:Nat}{o2:Nat}{O:Ao}{U:Nat}{V:Ao}{W:Nat}{ai:Lv_}{p0:BV}{p1:Int}{p2:Int}(ah:At E k1 o2 (([sV O p0.1 U,sV V p0.2.1 W]:Lv_)++ai))(bB:Ap (rL rI) E O U p0.1)(aF:Ap (rL rI) E V W p0.2.1)(aj:(rA 13 (rN .u16)).r E ai p0.2.2){fuel:Nat}{r:Bool}(ak:f109 fuel p0 p1 p2=some r):AU J 109 [pV k1 o2,iV p1,iV p2] E [] (fun w E' B'=>w= .bool r∧B'= []):=by
 refine Bj func109 fun Q bC cs H aG al=>?_;unfold f109 at ak;refine zg 9 rfl (BL underlying141 Gl rfl rfl rfl ?_);obtain⟨am,aH,aI⟩:=bs ak;refine OA (l:= [sV O p0.1 U,sV V p0.2.1 W]) ah aj aH rfl rfl rfl rfl rfl underlying139 Ib ?_;rintro bD _ rfl aJ;refine JL.fl 0 aJ underlying138 Ew GW ?_;refine zg 8 rfl (BL underlying141 Gl rfl rfl rfl ?_);obtain⟨bE,aK,aL⟩:=bs aI;refine OA (l:= [sV O p0.1 U,sV V p0.2.1 W]) ah aj aK rfl rfl rfl rfl rfl underlying139 Ib ?_;rintro bF _ rfl aM;refine JL.fl 0 aM underlying138 Ew GW ?_;obtain⟨Z,aN,aO⟩:=bs aL;refine BR (Iy aN) rfl rfl H9 aG ?_;rintro _ aP _ aa ⟨an,ao,rfl,rfl,aQ⟩ aR;refine Bo underlying28 rfl rfl rfl ?_;obtain⟨ap,aS,aq⟩:=bs aO;refine zg 2 rfl (Bs (fun L s=>∃(ar:Unit) (au:LH),ap=Sum.inr ar∧Jm aP H au [] [] L s) ?_ ?_)
 ·rintro _ _ ⟨ar,au,rfl,rfl,rfl,aT,aU⟩;have aV:=elim_inr aq;refine zg 4 rfl ?_;obtain rfl:=oi aV;exact AL func109 rfl rfl (al (aa.Ab aT) rfl ⟨rfl,rfl⟩ aU)
 ·intro aW;refine JL.block (CO aS (fun ab=> []) (fun ab=> [(0,pV k1 o2),(7,uV am),(24,sV an Z ao),(25,iV (Z.length:Int)),(26,iV ab)]) Aq aR ?_);rintro ab aX K av aw ⟨bG,ae⟩ aY;have ay:=ae;unfold Rw at ay;refine zg 5 rfl (AM ay (fun aZ a0=>?_) (fun aZ a1=>?_))
  ·obtain⟨bH,a2,a3⟩:=bs a0;refine zg 5 rfl (B5 (aQ.Ai K) a2 underlying28 AN ?_);rintro bI bJ _ rfl a4;refine BY 0 a4 Bq rfl rfl rfl ?_;obtain⟨bK,a5,a6⟩:=bs a3;refine zg 6 rfl (BJ (OM a5) rfl rfl NJ av fun az ag aA=>?_);obtain⟨a7,a8,a9⟩:=bs a6;refine zg 1 rfl (FP [] (fun L s=>∃(aB:LH),Jm az H aB [] [(0,pV k1 o2),(7,uV am),(24,sV an Z ao),(25,iV (Z.length:Int)),(26,iV ab),(46,.bool a7)] L s) ?_ ?_)
   ·rintro _ _ ⟨aB,rfl,rfl,aC,aD⟩;refine JL.done (BK a9 (fun ba bb=>?_) (fun ba bc=>?_))
    ·refine zg 4 rfl ?_;obtain rfl:=oi bb;obtain rfl:=aw _ ae;have bd:=elim_inl aq;obtain rfl:=oi bd;exact AL func109 rfl rfl (al (((aa.Ab K).Ab ag).Ab aC) rfl ⟨rfl,rfl⟩ aD)
    ·obtain⟨be,bf,bg⟩:=bs bc;refine zg 3 rfl (A9 bf rfl rfl rfl ?_);refine zg 2 rfl ?_;obtain rfl:=oi bg;exact aY be ((K.Ab ag).Ab aC) aD rfl ae
   ·intro aE;refine C8 33 a8 (fun bh bi=>?_) (fun bh bj=>?_)
    ·refine zg 13 rfl ?_;obtain rfl:=oi bi;exact Aw (aE _ _ ⟨az,rfl,rfl,Aq,aA⟩) rfl
    ·refine zg 3 rfl (BL underlying141 B4 rfl rfl rfl ?_);refine JL.fl 1 (ah.Ai ((aa.Ab K).Ab ag)) underlying24 Ct Da ?_;obtain⟨bL,bl,bm⟩:=bs bj;refine zg 1 rfl (B5 (aF.Ai ((aa.Ab K).Ab ag)) bl underlying22 BS ?_);rintro bM bN _ ⟨bO,bP,rfl,bn⟩ bo;refine BY 0 bo C4 rfl rfl rfl ?_;obtain⟨bQ,bp,bq⟩:=bs bm;refine BJ (JU bn bp) rfl rfl Jd aA fun br bu bv=>?_;obtain⟨bw,bx,bz⟩:=bs bq;refine Ay (v:= uV bw) rfl (fun ρ h=>N6 (h _ _ rfl) (h _ _ rfl) bx) (zg 2 rfl ?_);obtain rfl:=oi bz;exact Aw (aE _ _ ⟨br,rfl,rfl,bu,bv⟩) rfl
  ·refine JL.exit rfl ?_;obtain rfl:=oi a1;have bA:ap=(Sum.inr ()):=(aw _ ae).symm;exact Aw (aW _ _ ⟨(),aX,bA,rfl,rfl,K,av⟩) rfl
def R1(fuel:Nat)(p1:Int)(O:BV)(K:Int):Option (Bn Int Int):= (f109 fuel O p1 K).bind fun U=> if(!U)=true then((Av (K+1)).bind fun V=> some (.more V)) else(some (.done K))
def f57(fuel:Nat)(p0:Bz)(p1:Int):Option (Int×Int):= (f106 fuel p0 ([p1]:List Int)).bind fun K=> if K.2≠0 then(some (0,K.2)) else((K.1).bind fun O=> Option.bind (iter (R1 fuel p1 O) fuel 0) fun U=> some (U,0))
theorem YS{Z:Ao}{c2:Nat}{aa:Ao}{ab:Nat}{p0:Bz}{p1:Int}(an:Ap (rL rI) E Z c2 p0.1)(ao:Ap (rL rI) E aa ab p0.2){fuel:Nat}{r:Int×Int}(ae:f57 fuel p0 p1=some r):AU J 57 [.agg #[sV Z p0.1 c2,sV aa p0.2 ab],iV p1] E [] (fun w E' B'=>w= .tuple #[iV r.1,iV r.2]∧B'= []):=by
 refine Bj func57 fun Q a5 cs H ap ag=>?_;unfold f57 at ae;refine zg 2 rfl (Cy ap fun a6 a7 O aq ar=>?_);refine zg 5 rfl (Cf aq Cs B4 rfl rfl ?_);refine zg 1 rfl (JS.lit (pp:=rI) [iV p1] [p1] rfl rfl rfl underlying28 AN Cp (by decide) rfl rfl rfl ⟨rfl,trivial⟩ ar fun a8 a9 au av=>?_);refine Cc 2 au av rfl fun ba U aw ay=>?_;obtain⟨bb,az,aA⟩:=bs ae;refine BR (Sm (an.Ai (O.Ab U)) (ao.Ai (O.Ab U)) aw az) rfl rfl (A3 func106 rfl) ay ?_;rintro _ bc _ ah ⟨bd,rfl,rfl,aB⟩ ai;refine zg 12 rfl (AM aA (fun aC aD=>?_) (fun aC aE=>?_))
 ·refine zg 6 rfl ?_;obtain rfl:=oi aD;exact AL func57 rfl rfl (ag ((O.Ab U).Ab ah) rfl ⟨rfl,rfl⟩ ai)
 ·obtain⟨be,aF,aG⟩:=bs aE;have aj:=aB;refine zg 6 rfl ?_;rw [aF] at aj;obtain⟨aH,aI,_,rfl,aJ,⟨_,_,rfl,⟨bf,bg,rfl,aK⟩,⟨_,bh,rfl,⟨bi,bj,rfl,aL⟩,aM⟩⟩⟩:=aj;obtain⟨aN,aO,aP⟩:=bs aG;refine CM [] [(8,iV aN)] (fun bl aQ aR=>?_) (fun aS=>?_)
  ·refine zg 6 rfl ?_;obtain rfl:=oi aP;exact AL func57 rfl rfl (ag (((O.Ab U).Ab ah).Ab aQ) rfl ⟨rfl,rfl⟩ aR)
  ·refine JL.block (CO aO (fun V=> []) (fun V=> [(1,iV p1),(6,pV aH aI),(8,iV V)]) Aq ai ?_);rintro V bm K aT aU ⟨bn,W⟩ aV;have ak:=W;unfold R1 at ak;obtain⟨aW,aX,aY⟩:=bs ak;refine zg 6 rfl (BJ (XO (aJ.Ai K) (aK.Ai K) (aL.Ai K) (Rp.Ai _ K aM) aX) rfl rfl (A3 func109 rfl) aT fun bo al am=>?_);refine Ay (v:= .bool (!aW)) rfl (fun ρ h=>Yl.not (h _ _ rfl)) (JL.done ?_);refine BK aY (fun aZ a0=>?_) (fun aZ a1=>?_)
   ·obtain⟨a2,a3,a4⟩:=bs a0;refine zg 4 rfl (A9 a3 rfl rfl rfl ?_);refine zg 3 rfl ?_;obtain rfl:=oi a4;exact aV a2 (K.Ab al) am rfl W
   ·refine JL.exit rfl ?_;obtain rfl:=oi a1;obtain rfl:=aU _ W;exact aS (K.Ab al) am rfl
end Pal
namespace Pal
open Go Go.Conc Go.Proofs
open Go.Proofs.Tryz
variable {J:Judge Tryz.prog}{E:LH}
def ME(fuel:Nat)(p0:List Int)(p1:Int)(K:Int):Option (Bn Int ((Int)⊕(Unit))):= if K<(p0.length:Int) then((ix p0 K).bind fun O=> if p1=O then(some (.done (Sum.inl K))) else((Av (K+1)).bind fun U=> some (.more U))) else(some (.done (Sum.inr ())))
def f201(fuel:Nat)(p0:List Int)(p1:Int):Option Int:= Option.bind (iter (ME fuel p0 p1) fuel 0) fun K=> Sum.elim (fun r=>some r) (fun O=> some (-1)) K
theorem Ye{U:Ao}{c2:Nat}{p0:List Int}{p1:Int}(ak:Ap rI E U c2 p0){fuel:Nat}{r:Int}(Z:f201 fuel p0 p1=some r):AU J 201 [sV U p0 c2,iV p1] E [] (fun w E' B'=>w=iV r∧B'= []):=by
 refine Bj func201 fun Q aK cs H al aa=>?_;unfold f201 at Z;refine zg 8 rfl (Bo underlying28 rfl rfl rfl ?_);obtain⟨ab,am,ae⟩:=bs Z;refine zg 2 rfl (Bs (fun L s=>∃(ag:Unit) (ah:LH),ab=Sum.inr ag∧Jm E H ah [] [] L s) ?_ ?_)
 ·rintro _ _ ⟨ag,ah,rfl,rfl,rfl,an,ao⟩;have ap:=elim_inr ae;refine zg 4 rfl ?_;obtain rfl:=oi ap;exact AL func201 rfl rfl (aa an rfl ⟨rfl,rfl⟩ ao)
 ·intro aq;refine JL.block (CO am (fun V=> []) (fun V=> [(0,sV U p0 c2),(1,iV p1),(7,iV (p0.length:Int)),(8,iV V)]) Aq al ?_);rintro V ar K W ai ⟨aL,O⟩ au;have aj:=O;unfold ME at aj;refine zg 5 rfl (AM aj (fun av aw=>?_) (fun av ay=>?_))
  ·obtain⟨aM,az,aA⟩:=bs aw;refine zg 13 rfl (B5 (ak.Ai K) az underlying28 AN ?_);rintro aN aO _ rfl aB;refine BY 0 aB Bq rfl rfl rfl (zg 2 rfl ?_);refine AM aA (fun aC aD=>?_) (fun aC aE=>?_)
   ·refine zg 5 rfl ?_;obtain rfl:=oi aD;obtain rfl:=ai _ O;have aF:=elim_inl ae;obtain rfl:=oi aF;exact AL func201 rfl rfl (aa K rfl ⟨rfl,rfl⟩ W)
   ·obtain⟨aG,aH,aI⟩:=bs aE;refine zg 3 rfl (A9 aH rfl rfl rfl ?_);refine zg 2 rfl ?_;obtain rfl:=oi aI;exact au aG K W rfl O
  ·refine JL.exit rfl ?_;obtain rfl:=oi ay;have aJ:ab=(Sum.inr ()):=(ai _ O).symm;exact Aw (aq _ _ ⟨(),ar,aJ,rfl,rfl,K,W⟩) rfl
def f199(fuel:Nat)(p0:List Int)(p1:Int):Option Bool:= (f201 fuel p0 p1).bind fun K=> some (decide (0≤K))
theorem Xy{K:Ao}{c2:Nat}{p0:List Int}{p1:Int}(U:Ap rI E K c2 p0){fuel:Nat}{r:Bool}(O:f199 fuel p0 p1=some r):AU J 199 [sV K p0 c2,iV p1] E [] (fun w E' B'=>w= .bool r∧B'= []):=by
 refine Bj func199 fun Q ag cs H V W=>?_;unfold f199 at O;obtain⟨ah,Z,aa⟩:=bs O;refine zg 8 rfl (BJ (Ye U Z) rfl rfl (A3 func201 rfl) V fun ai ab ae=>?_);refine zg 3 rfl ?_;obtain rfl:=oi aa;exact AL func199 rfl rfl (W ab rfl ⟨rfl,rfl⟩ ae)
def f192(fuel:Nat)(p0:BV)(p1:Int)(p2:Int):Option ((Option (Int×Option Int))):= if p1=p2 then(some (some (p1,none))) else((ix p0.2.1 p1).bind fun K=> (f199 fuel K p2).bind fun O=> if O=true then(some (some (p1,some p2))) else(some none))
theorem Yz{k1:Nat}{o2:Nat}{O:Ao}{U:Nat}{V:Ao}{W:Nat}{Z:Lv_}{p0:BV}{p1:Int}{p2:Int}(ai:At E k1 o2 (([sV O p0.1 U,sV V p0.2.1 W]:Lv_)++Z))(az:Ap (rL rI) E O U p0.1)(aj:Ap (rL rI) E V W p0.2.1)(aA:(rA 13 (rN .u16)).r E Z p0.2.2){fuel:Nat}{r:(Option (Int×Option Int))}(aa:f192 fuel p0 p1 p2=some r):AU J 192 [pV k1 o2,iV p1,iV p2] E [] (fun w E' B'=>∃(ab:Value),w=ab∧B'= []∧Pn 257 259 ab r):=by
 refine Bj func192 fun Q aB cs H ae K=>?_;unfold f192 at aa;refine zg 13 rfl (AM aa (fun ak al=>?_) (fun ak am=>?_))
 ·refine zg 3 rfl (Ay (v:= .agg #[iV p1]) rfl (fun ρ h=>De [(0,1)] h (DZ type257) underlying257 ⟨rfl,Br type3,trivial⟩ rfl rfl) ?_);refine Ay (v:= .iface 257 (.agg #[iV p1])) rfl (fun ρ h=>Fz underlying257 (fun _ h=>by cases h) (h _ _ rfl)) (zg 2 rfl ?_);obtain rfl:=oi al;exact AL func192 rfl rfl (K Aq rfl ⟨.iface 257 (.agg #[iV p1]),rfl,rfl,rfl⟩ ae)
 ·refine zg 4 rfl (BL underlying141 B4 rfl rfl rfl ?_);refine JL.fl 1 ai underlying24 Ct Da ?_;obtain⟨aC,an,ao⟩:=bs am;refine zg 1 rfl (B5 aj an underlying22 BS ?_);rintro aD aE _ ⟨aF,aG,rfl,ap⟩ aq;refine BY 0 aq C4 rfl rfl rfl ?_;obtain⟨aH,ar,au⟩:=bs ao;refine zg 1 rfl (BJ (Xy ap ar) rfl rfl (A3 func199 rfl) ae fun aI ag ah=>?_);refine zg 2 rfl (BK au (fun av aw=>?_) (fun av ay=>?_))
  ·refine zg 4 rfl (Ay (v:= .agg #[iV p1,iV p2]) rfl (fun ρ h=>De [(0,1),(1,1)] h (DZ type259) underlying259 ⟨rfl,Br type3,rfl,Br type3,trivial⟩ rfl rfl) ?_);refine Ay (v:= .iface 259 (.agg #[iV p1,iV p2])) rfl (fun ρ h=>Fz underlying259 (fun _ h=>by cases h) (h _ _ rfl)) (zg 2 rfl ?_);obtain rfl:=oi aw;exact AL func192 rfl rfl (K ag rfl ⟨.iface 259 (.agg #[iV p1,iV p2]),rfl,rfl,rfl⟩ ah)
  ·refine zg 6 rfl ?_;obtain rfl:=oi ay;exact AL func192 rfl rfl (K ag rfl ⟨.nilIface,rfl,rfl,rfl⟩ ah)
end Pal
namespace Pal
open Go Go.Conc Go.Proofs
open Go.Proofs.Tryz
variable {J:Judge Tryz.prog}{E:LH}
def Lp(fuel:Nat)(p0:(BV)×(A6)×B9):Option Int:= if(p0.2.1.length:Int)=0 then(some 0) else((Av ((p0.2.1.length:Int) - 1)).bind fun K=> (ix p0.2.1 K).bind fun O=> some O.1)
theorem W3{bk:Nat}{k1:Nat}{o2:Nat}{Z:Ao}{aa:Nat}{ab:Ao}{ae:Nat}{ag:Lv_}{O:Ao}{U:Nat}{V:Ao}{W:Nat}{p0:(BV)×(A6)×B9}(au:At E k1 o2 (([sV Z p0.1.1 aa,sV ab p0.1.2.1 ae]:Lv_)++ag))(av:Ap (rL rI) E Z aa p0.1.1)(aw:Ap (rL rI) E ab ae p0.1.2.1)(ay:(rA 13 (rN .u16)).r E ag p0.1.2.2)(aj:Ap BM E O U p0.2.1)(az:Ap rI E V W p0.2.2.2.1){fuel:Nat}{r:Int}(ah:Lp fuel p0=some r):AU J 154 [pV bk 0] E [(bk,.cells #[pV k1 o2,sV O p0.2.1 U,iV p0.2.2.1,sV V p0.2.2.2.1 W,uV p0.2.2.2.2] 175 (0,0))] (fun w E' B'=>w=iV r∧B'= [(bk,.cells #[pV k1 o2,sV O p0.2.1 U,iV p0.2.2.1,sV V p0.2.2.2.1 W,uV p0.2.2.2.2] 175 (0,0))]):=by
 refine Bj func154 fun Q aA cs H K ai=>?_;unfold Lp at ah;refine zg 9 rfl (BL underlying175 LX rfl rfl rfl ?_);refine Ay (v:= sV O p0.2.1 U) rfl (fun ρ h=>Yl.load Kf (h _ _ rfl) (Db (j:=0) (off:=1) K rfl rfl)) (Bo underlying25 rfl rfl rfl ?_);refine zg 2 rfl (AM ah (fun ak al=>?_) (fun ak am=>?_))
 ·refine zg 4 rfl ?_;obtain rfl:=oi al;exact AL func154 rfl rfl (ai Aq rfl ⟨rfl,rfl⟩ K)
 ·refine zg 2 rfl (DI 10 [bk] ⟨⟨0,_,rfl⟩,trivial⟩ K fun ht=>?_);refine Bh ht rfl [0,1] rfl (Ch 2 ht underlying175 LX rfl rfl rfl rfl ?_);refine Fi 3 ht 1 0 K Kf ?_;refine Bh ht rfl [4,5] rfl (Ch 6 ht underlying175 LX rfl rfl rfl rfl ?_);refine Fi 7 ht 1 0 K Kf ?_;refine Bw 8 ht rfl rfl (fun ρ h s' hs=>Yl.len rfl underlying25 (h _ _ rfl)) ?_;obtain⟨aB,an,ao⟩:=bs am;refine Bw 9 ht rfl rfl (fun ρ h s' hs=>Dc (h _ _ rfl) (h _ _ rfl) an) (Cg [10,11,12,13] ?_);obtain⟨aC,ap,aq⟩:=bs ao;refine B5 aj ap underlying25 C5 ?_;rintro aD aE _ ⟨_,_,rfl,rfl,rfl⟩ ar;refine JL.fl 0 ar underlying27 AN Bq ?_;refine zg 2 rfl ?_;obtain rfl:=oi aq;exact AL func154 rfl rfl (ai Aq rfl ⟨rfl,rfl⟩ K)
def Mh(fuel:Nat)(p0:(BV)×(A6)×B9)(p1:Int)(p2:Int)(K:Nat×Int):Option (Bn (Nat×Int) ((Nat×Bool)⊕(Nat))):= if K.2<(p0.2.1.length:Int) then(Option.bind ((ix p0.2.1 K.2).bind fun O=> if O.1≠p1 then(some (Sum.inr K.1)) else((f192 fuel p0.1 p2 O.2).bind fun U=> Option.bind (if J8 U=true then(some (Sum.inr K.1)) else(if LB U=true then((f90 fuel K.1 K.2).bind fun V=> some (Sum.inr V)) else(some (Sum.inl (0,false))))) fun W=>Sum.elim (fun r=>some (Sum.inl r)) (fun Z=> some (Sum.inr Z)) W)) fun aa=>Sum.elim (fun r=>some (.done (Sum.inl r))) (fun ab=> (Av (K.2+1)).bind fun ae=> some (.more (ab,ae))) aa) else(some (.done (Sum.inr K.1)))
def Lm(fuel:Nat)(p0:(BV)×(A6)×B9)(p1:Int)(p2:Int):On_:= Option.bind (iter (Mh fuel p0 p1 p2) fuel (0,0)) fun K=> Sum.elim (fun r=>some r) (fun O=> some (O,true)) K
theorem Xm{bk:Nat}{k1:Nat}{o2:Nat}{am:Ao}{an:Nat}{ao:Ao}{ap:Nat}{aq:Lv_}{K:Ao}{O:Nat}{W:Ao}{Z:Nat}{p0:(BV)×(A6)×B9}{p1:Int}{p2:Int}(aN:At E k1 o2 (([sV am p0.1.1 an,sV ao p0.1.2.1 ap]:Lv_)++aq))(aO:Ap (rL rI) E am an p0.1.1)(aP:Ap (rL rI) E ao ap p0.1.2.1)(aQ:(rA 13 (rN .u16)).r E aq p0.1.2.2)(aR:Ap BM E K O p0.2.1)(bJ:Ap rI E W Z p0.2.2.2.1){fuel:Nat}{r:Nat×Bool}(ar:Lm fuel p0 p1 p2=some r):AU J 174 [pV bk 0,iV p1,iV p2] E [(bk,.cells #[pV k1 o2,sV K p0.2.1 O,iV p0.2.2.1,sV W p0.2.2.2.1 Z,uV p0.2.2.2.2] 175 (0,0))] (fun w E' B'=>w= .tuple #[uV r.1,.bool r.2]∧B'= [(bk,.cells #[pV k1 o2,sV K p0.2.1 O,iV p0.2.2.1,sV W p0.2.2.2.1 Z,uV p0.2.2.2.2] 175 (0,0))]):=by
 refine Bj func174 fun Q bK cs H au av=>?_;unfold Lm at ar;refine zg 11 rfl (JL.label ?_);refine zg 5 rfl (BL underlying175 LX rfl rfl rfl ?_);refine Ay (v:= sV K p0.2.1 O) rfl (fun ρ h=>Yl.load Kf (h _ _ rfl) (Db (j:=0) (off:=1) au rfl rfl)) (Bo underlying25 rfl rfl rfl ?_);obtain⟨aw,aS,ay⟩:=bs ar;refine zg 2 rfl (Bs (fun L s=>∃(aj:Nat) (az:LH),aw=Sum.inr aj∧Jm E H az [bX bk #[pV k1 o2,sV K p0.2.1 O,iV p0.2.2.1,sV W p0.2.2.2.1 Z,uV p0.2.2.2.2] 175] [(8,uV aj)] L s) ?_ ?_)
 ·rintro _ _ ⟨aj,az,rfl,rfl,rfl,aT,aU⟩;have aV:=elim_inr ay;refine zg 6 rfl ?_;obtain rfl:=oi aV;exact AL func174 rfl rfl (av aT rfl ⟨rfl,rfl⟩ aU)
 ·intro aW;refine JL.block (CO aS (fun U=> [bX bk #[pV k1 o2,sV K p0.2.1 O,iV p0.2.2.1,sV W p0.2.2.2.1 Z,uV p0.2.2.2.2] 175]) (fun U=> [(0,pV bk 0),(1,iV p1),(2,iV p2),(8,uV U.1),(14,sV K p0.2.1 O),(15,iV (p0.2.1.length:Int)),(16,iV U.2)]) Aq au ?_);rintro U aA V aB aC ⟨bL,ae⟩ aX;have aD:=ae;unfold Mh at aD;refine zg 5 rfl (AM aD (fun aY aZ=>?_) (fun aY a0=>?_))
  ·obtain⟨a1,a2,aE⟩:=bs aZ;refine zg 2 rfl (Bs (fun L s=>∃(ag:Nat) (aF:LH),a1=Sum.inr ag∧Jm aA H aF [bX bk #[pV k1 o2,sV K p0.2.1 O,iV p0.2.2.1,sV W p0.2.2.2.1 Z,uV p0.2.2.2.2] 175] [(0,pV bk 0),(1,iV p1),(2,iV p2),(8,uV ag),(14,sV K p0.2.1 O),(15,iV (p0.2.1.length:Int)),(16,iV U.2)] L s) ?_ ?_)
   ·rintro _ _ ⟨ag,aF,rfl,rfl,rfl,a3,a4⟩;have a5:=elim_inr aE;obtain⟨a6,a7,a8⟩:=bs a5;refine JL.region (A9 a7 rfl rfl rfl ?_);refine zg 2 rfl ?_;obtain rfl:=oi a8;exact aX (ag,a6) (V.Ab a3) a4 rfl ae
   ·intro aG;obtain⟨bM,a9,ba⟩:=bs a2;refine zg 4 rfl (B5 (aR.Ai V) a9 underlying25 C5 ?_);rintro bN bO _ ⟨_,_,rfl,rfl,rfl⟩ bb;refine Cf bb IK C5 rfl rfl (CN aB Gk fun bP bc=>?_);refine zg 1 rfl (BT 1 bc C5 fun bd=>?_);refine Dr 1 bd rfl fun be aa aH ab=>zg 4 rfl (JL.fl 0 aH underlying27 AN Bq ?_);refine zg 3 rfl (AM ba (fun bf bg=>?_) (fun bf bh=>?_))
    ·exact JL.exit rfl (Aw (aG _ _ ⟨U.1,be,(Option.some.inj bg).symm,rfl,rfl,aa,ab⟩) rfl)
    ·refine zg 2 rfl (DI 7 [bk] ⟨⟨0,_,rfl⟩,trivial⟩ ab fun ht=>?_);refine Bh ht rfl [0,1] rfl (Ch 2 ht underlying175 NQ rfl rfl rfl rfl ?_);refine Fi 3 ht 0 0 ab LP ?_;refine Cz 4 ht rfl rfl (Ch 5 ht underlying27 AN rfl rfl rfl rfl ?_);refine JG.lp 6 ht 1 aH ab ⟨⟨0,_,rfl⟩,trivial⟩ Bq ?_;refine Cg [7] ?_;obtain⟨ah,bi,bj⟩:=bs bh;refine BR (Yz (aN.Ai (V.Ab aa)) (aO.Ai (V.Ab aa)) (aP.Ai (V.Ab aa)) (Rp.Ai _ (V.Ab aa) aQ) bi) rfl rfl (A3 func192 rfl) ab ?_;rintro _ aI _ aJ ⟨bQ,rfl,rfl,aK⟩ ak;refine zg 4 rfl (Ay (v:= .tuple #[(Ps ah),.bool (J8 ah)]) rfl (fun ρ h=>Ua (t2:=259) underlying257 (DZ type257) (by decide) aK (h _ _ rfl)) ?_);obtain⟨bl,bm,aL⟩:=bs bj;refine zg 3 rfl (Bs (fun L s=>∃(ai:Nat) (al:LH),bl=Sum.inr ai∧Jm aI H al [bX bk #[pV k1 o2,sV K p0.2.1 O,iV p0.2.2.1,sV W p0.2.2.2.1 Z,uV p0.2.2.2.2] 175] [(0,pV bk 0),(1,iV p1),(2,iV p2),(8,uV ai),(14,sV K p0.2.1 O),(15,iV (p0.2.1.length:Int)),(16,iV U.2)] L s) ?_ ?_)
     ·rintro _ _ ⟨ai,al,rfl,rfl,rfl,bn,bo⟩;have bp:=elim_inr aL;exact zg 2 rfl (Aw (aG _ _ ⟨ai,al,(Option.some.inj bp).symm,rfl,rfl,((aa.Ab aJ).Ab bn),bo⟩) rfl)
     ·intro aM;refine BK bm (fun bq br=>?_) (fun bq bu=>?_)
      ·exact JL.skip (Aw (aM _ _ ⟨U.1,aI,(Option.some.inj br).symm,rfl,rfl,Aq,ak⟩) rfl)
      ·refine zg 2 rfl (Ay (v:= .tuple #[(Pr ah),.bool (LB ah)]) rfl (fun ρ h=>TZ (t1:=257) underlying259 (DZ type259) (by decide) aK (h _ _ rfl)) ?_);refine zg 3 rfl (BK bu (fun bv bw=>?_) (fun bv bx=>?_))
       ·obtain⟨bz,bA,bB⟩:=bs bw;refine zg 3 rfl (BJ (Nm bA) rfl rfl LW ak fun bC bD bE=>?_);exact zg 2 rfl (Aw (aM _ _ ⟨bz,bC,(Option.some.inj bB).symm,rfl,rfl,bD,bE⟩) rfl)
       ·refine zg 5 rfl ?_;obtain rfl:=oi bx;have bF:=elim_inl aL;obtain rfl:=oi bF;have bG:=elim_inl aE;obtain rfl:=oi bG;obtain rfl:=aC _ ae;have bH:=elim_inl ay;obtain rfl:=oi bH;exact AL func174 rfl rfl (av ((V.Ab aa).Ab aJ) rfl ⟨rfl,rfl⟩ ak)
  ·refine JL.exit rfl ?_;obtain rfl:=oi a0;have bI:aw=(Sum.inr U.1):=(aC _ ae).symm;exact Aw (aW _ _ ⟨U.1,aA,bI,rfl,rfl,V,aB⟩) rfl
end Pal
namespace Pal
open Go Go.Conc Go.Proofs
open Go.Proofs.Tryz
variable {J:Judge Tryz.prog}{E:LH}
def Lq(fuel:Nat)(p0:List Int):Option ((List Int)):= (Dy ([]:List Int) p0).bind fun K=> some K
theorem Wv{ad:Addr}{c2:Nat}{p0:List Int}(V:Ap rI E (some ad) c2 p0){fuel:Nat}{r:(List Int)}(K:Lq fuel p0=some r):AU J 175 [.slice (some ad) p0.length c2] E [] (fun w E' B'=>∃(O:Ao) (U:Nat) (g0:Seg),w= sV O r U∧B'=g0∧OL 3 rI E' O U g0 r):=by
 refine Bj func175 fun Q am cs H W Z=>?_;unfold Lq at K;refine zg 8 rfl (Ay (v:= .bool false) rfl (fun ρ h=>Mb (a:=(some ad)) underlying28 (h _ _ rfl) (h _ _ rfl)) ?_);refine zg 5 rfl (Ox (pp:=rI) rfl rfl rfl underlying28 AN W fun an g2 aa ab=>?_);obtain⟨ao,ae,ag⟩:=bs K;refine zg 1 rfl (KN (pp:=rI) 1 ae rfl rfl rfl rfl rfl rfl rfl underlying28 underlying28 AN (Cu type3) Cp rfl (by decide) (by decide) aa V ab rfl fun ah ai aj ak al=>?_);refine zg 2 rfl ?_;obtain rfl:=oi ag;exact AL func175 rfl rfl (Z Aq rfl ⟨ah,ai,aj,rfl,(by first | rfl | simp | (simp [Value.cells])),ak⟩ al)
def SQ(fuel:Nat)(p0:List Int):Option ((List Int)):= some ([])
theorem Wj{c2:Nat}{p0:List Int}(Z:Ap rI E none c2 p0){fuel:Nat}{r:(List Int)}(K:SQ fuel p0=some r):AU J 175 [sV none p0 c2] E [] (fun w E' B'=>∃(O:Ao) (U:Nat) (g0:Seg),w= sV O r U∧B'=g0∧OL 3 rI E' O U g0 r):=by
 refine Bj func175 fun Q aa cs H V W=>?_;unfold SQ at K;refine zg 8 rfl (Ay (v:= .bool true) rfl (fun ρ h=>Mb (a:=none) underlying28 (h _ _ rfl) (h _ _ rfl)) ?_);refine zg 6 rfl ?_;obtain rfl:=oi K;exact AL func175 rfl rfl (W Aq rfl ⟨none,0,[],rfl,rfl,OL.nil⟩ V)
def f175(fuel:Nat)(p0:List Int):Option (List Int):=Lq fuel p0
theorem Sq{O:Ao}{c2:Nat}{p0:List Int}(U:Ap rI E O c2 p0){fuel:Nat}{r:List Int}(K:f175 fuel p0=some r):AU J 175 [.slice O p0.length c2] E [] (fun w E' B'=>∃(V:Ao) (W:Nat) (g0:Seg),w= .slice V r.length W∧B'=g0∧OL 3 rI E' V W g0 r):=by
 cases O with
 | some ad=>exact Wv U K
 | none=>
  have Z:p0= []:=by
   rcases U.2 with h | ⟨_,_,h,_⟩
   ·exact h.1
   ·cases h
  subst Z;have aa:r= []:=by
   have ab:Lq fuel []=some []:=rfl;unfold f175 at K;rw [ab] at K;exact(Option.some.inj K).symm
  subst aa;exact Wj (fuel:=fuel) U rfl
end Pal
namespace Pal
open Go Go.Conc Go.Proofs
open Go.Proofs.Tryz
def ID(fuel:Nat)(le:Int)(all:List (B9))(tr:(B9))(O:Int):Option (Int×List (B9)):=
 Option.bind (
  if((all).length:Int)=0 then(
   some true
  ) else(
   some (decide (O<le))
  )
 ) fun U=>
 Option.bind (
  if U=true then(
   some (O,[])
  ) else(
   some (le,all)
  )
 ) fun K=>
 Option.bind (
  if O=K.1 then(
   (Dy K.2 ([tr]:List (B9))).bind fun V=>
   some V
  ) else(
   some K.2
  )
 ) fun W=>
 some (K.1,W)
theorem Xv{J:Judge Tryz.prog}{E:LH}{bk:Nat}{age:Int}{le:Int}{a:Ao}{c:Nat}{g:Seg}{all:List (B9)}(aE:OL 104 DD E a c g all){W:Ao}{Z:Nat}{tr:(B9)}(aF:Ap rI E W Z tr.2.1){aa:Int}{fuel:Nat}{r:Int×List (B9)}(ar:ID fuel le all tr aa=some r):
  AU J 122 [pV bk 1,.agg #[iV tr.1,.slice W tr.2.1.length Z,uV tr.2.2],iV aa] E ([(bk,.cells #[iV age,iV le,.slice a all.length c] 133 (0,0))]++g) (fun w E' B'=>∃au av g',w= .tuple #[]∧B'= [(bk,.cells #[iV age,iV r.1,.slice au r.2.length av] 133 (0,0))]++g'∧OL 104 DD E' au av g' r.2):=by
 refine Bj func122 fun Q bh cs H am aG=>?_;refine DO (S':= [[(bk,.cells #[iV age,iV le,.slice a all.length c] 133 (0,0))],g]) (by simp) am fun am=>?_;unfold ID at ar;refine zg 2 rfl (Cy am fun aw an ao aH ab=>?_);refine zg 6 rfl (BL underlying97 DF rfl rfl rfl ?_);refine Ay (v:= sV a all c) rfl (fun ρ h=>Yl.load EJ (h _ _ rfl) (Db (j:=0) (off:=2) ab rfl rfl)) (Bo underlying95 rfl rfl rfl ?_);obtain⟨aI,aJ,aK⟩:=bs ar;refine zg 2 rfl (FP [] (fun L s=>∃(U:LH),Jm an H U [bX bk #[iV age,iV le,sV a all c] 133,g] [(0,pV bk 1),(2,iV aa),(4,pV aw 0),(19,.bool aI)] L s) ?_ ?_)
 ·rintro _ _ ⟨U,rfl,rfl,ae,ay⟩;obtain⟨V,aL,aM⟩:=bs aK;refine JL.done (Bs (fun L s=>∃(K:LH) (ag:Ao) (ah:Nat) (ai:Seg),Jn U H K [bX bk #[iV age,iV V.1,sV ag V.2 ah] 133,ai] [(0,pV bk 1),(2,iV aa),(4,pV aw 0)] L s (OL 104 DD K ag ah ai V.2)) ?_ ?_)
  ·rintro _ _ ⟨K,ag,ah,ai,rfl,rfl,ap,O,az⟩;refine zg 5 rfl (BL underlying97 AN rfl rfl rfl ?_);refine Ay (v:=iV V.1) rfl (fun ρ h=>Yl.load Bq (h _ _ rfl) (Db (j:=0) (off:=1) O rfl rfl)) ?_;obtain⟨aA,aN,aO⟩:=bs aM;refine zg 2 rfl (Bs (fun L s=>∃(aq:LH) (aj:Ao) (ak:Nat) (al:Seg),Jn K H aq [bX bk #[iV age,iV V.1,sV aj aA ak] 133,al] [] L s (OL 104 DD aq aj ak al aA)) ?_ ?_)
   ·rintro _ _ ⟨aq,aj,ak,al,rfl,rfl,aP,aQ,aR⟩;obtain rfl:=oi aO;exact JL.fin (v:= .tuple #[]) rfl rfl (B6.list func122 rfl (vs:= []) trivial) (aG (((ao.Ab ae).Ab ap).Ab aP) rfl ⟨aj,ak,al,rfl,by simp,aR⟩ aQ)
   ·intro aB;refine AM aN (fun aS aT=>?_) (fun aS aU=>?_)
    ·refine DI 8 [bk] ⟨⟨0,_,rfl⟩,trivial⟩ O fun ht=>Bh ht rfl [0,1,2] rfl (Ch 3 ht underlying97 DF rfl rfl rfl rfl ?_);refine Fi 4 ht 2 0 O EJ ?_;refine Bw 5 ht rfl rfl (fun ρ h s' hs=>FQ (vs:= [iV tr.1,sV W tr.2.1 Z,uV tr.2.2]) F3 Co (h _ _ rfl) (At.O1 (aH.Ai (ae.Ab ap)) (O9 O hs ⟨⟨0,_,rfl⟩,trivial⟩))) ?_;obtain⟨bi,aV,aW⟩:=bs aT;refine JG.one (i:=6) rfl (by decide+kernel) (Take.lit (pp:=DD) (jp:=0) [.agg #[iV tr.1,sV W tr.2.1 Z,uV tr.2.2]] ([tr]:List B9) O rfl rfl rfl rfl underlying95 Co GY (by decide) rfl rfl rfl ⟨⟨_,_,rfl,rfl,⟨_,_,rfl,⟨_,_,rfl,(aF.Ai ((ao.Ab ae).Ab ap))⟩,rfl⟩⟩,trivial⟩ fun bj bl aX aY=>?_);refine JG.one (i:=7) rfl (by decide+kernel) (Take.app (pp:=DD) (jp:=0) 1 2 aY rfl aV rfl rfl rfl rfl rfl rfl rfl underlying95 underlying95 Co (Cu type104) GY rfl (by decide) (by decide) az aX rfl rfl rfl rfl fun aZ a0 bm a1 a2 a3=>?_);refine Cg [8,9,10] (FA 1 rfl a3 fun a4=>?_);refine JS.drop 1 a4 rfl fun a5=>zg 1 rfl (BL underlying97 DF rfl rfl rfl ?_);refine BT 0 a5 DF fun a6=>?_;refine JL.done (JS.drop 2 a6 rfl fun a7=>?_);obtain rfl:=oi aW;exact Aw (aB _ _ ⟨K,aZ,a0,a1,rfl,rfl,Aq,a7,a2⟩) rfl
    ·refine JL.skip ?_;obtain rfl:=oi aU;exact Aw (aB _ _ ⟨K,ag,ah,ai,rfl,rfl,Aq,O,az⟩) rfl
  ·intro aC;refine BK aL (fun a8 a9=>?_) (fun a8 ba=>?_)
   ·refine zg 5 rfl (BL underlying97 AN rfl rfl rfl ?_);refine BT 0 ay AN fun bb=>?_;refine zg 1 rfl (BL underlying97 DF rfl rfl rfl ?_);refine BT 0 bb DF fun bc=>?_;refine JL.done (JS.drop 1 bc rfl fun bd=>?_);obtain rfl:=oi a9;exact Aw (aC _ _ ⟨U,none,0,[],rfl,rfl,Aq,bd,OL.nil⟩) rfl
   ·refine JL.skip ?_;obtain rfl:=oi ba;exact Aw (aC _ _ ⟨U,a,c,g,rfl,rfl,Aq,ay,(aE.Ai (ao.Ab ae))⟩) rfl
 ·intro aD;refine EE 12 aJ (fun be bf=>?_) (fun be bg=>?_)
  ·refine zg 7 rfl ?_;obtain rfl:=oi bf;exact Aw (aD _ _ ⟨an,rfl,rfl,Aq,ab⟩) rfl
  ·refine zg 3 rfl (BL underlying97 AN rfl rfl rfl ?_);refine Ay (v:=iV le) rfl (fun ρ h=>Yl.load Bq (h _ _ rfl) (Db (j:=0) (off:=1) ab rfl rfl)) (zg 2 rfl ?_);obtain rfl:=oi bg;exact Aw (aD _ _ ⟨an,rfl,rfl,Aq,ab⟩) rfl
theorem YG{J:Judge Tryz.prog}{E:LH}{bk:Nat}{age:Int}{le:Int}{a:Ao}{c:Nat}{g:Seg}{all:List (B9)}(aE:OL 104 DD E a c g all){W:Ao}{Z:Nat}{tr:(B9)}(aF:Ap rI E W Z tr.2.1){aa:Int}{fuel:Nat}{r:Int×List (B9)}(ar:ID fuel le all tr aa=some r):
  AU J 122 [pV bk 0,.agg #[iV tr.1,.slice W tr.2.1.length Z,uV tr.2.2],iV aa] E ([(bk,.cells #[iV le,.slice a all.length c] 97 (0,0))]++g) (fun w E' B'=>∃au av g',w= .tuple #[]∧B'= [(bk,.cells #[iV r.1,.slice au r.2.length av] 97 (0,0))]++g'∧OL 104 DD E' au av g' r.2):=by
 refine Bj func122 fun Q bh cs H am aG=>?_;refine DO (S':= [[(bk,.cells #[iV le,.slice a all.length c] 97 (0,0))],g]) (by simp) am fun am=>?_;unfold ID at ar;refine zg 2 rfl (Cy am fun aw an ao aH ab=>?_);refine zg 6 rfl (BL underlying97 DF rfl rfl rfl ?_);refine Ay (v:= sV a all c) rfl (fun ρ h=>Yl.load EJ (h _ _ rfl) (Db (j:=0) (off:=1) ab rfl rfl)) (Bo underlying95 rfl rfl rfl ?_);obtain⟨aI,aJ,aK⟩:=bs ar;refine zg 2 rfl (FP [] (fun L s=>∃(U:LH),Jm an H U [bX bk #[iV le,sV a all c] 97,g] [(0,pV bk 0),(2,iV aa),(4,pV aw 0),(19,.bool aI)] L s) ?_ ?_)
 ·rintro _ _ ⟨U,rfl,rfl,ae,ay⟩;obtain⟨V,aL,aM⟩:=bs aK;refine JL.done (Bs (fun L s=>∃(K:LH) (ag:Ao) (ah:Nat) (ai:Seg),Jn U H K [bX bk #[iV V.1,sV ag V.2 ah] 97,ai] [(0,pV bk 0),(2,iV aa),(4,pV aw 0)] L s (OL 104 DD K ag ah ai V.2)) ?_ ?_)
  ·rintro _ _ ⟨K,ag,ah,ai,rfl,rfl,ap,O,az⟩;refine zg 5 rfl (BL underlying97 AN rfl rfl rfl ?_);refine Ay (v:=iV V.1) rfl (fun ρ h=>Yl.load Bq (h _ _ rfl) (Db (j:=0) (off:=0) O rfl rfl)) ?_;obtain⟨aA,aN,aO⟩:=bs aM;refine zg 2 rfl (Bs (fun L s=>∃(aq:LH) (aj:Ao) (ak:Nat) (al:Seg),Jn K H aq [bX bk #[iV V.1,sV aj aA ak] 97,al] [] L s (OL 104 DD aq aj ak al aA)) ?_ ?_)
   ·rintro _ _ ⟨aq,aj,ak,al,rfl,rfl,aP,aQ,aR⟩;obtain rfl:=oi aO;exact JL.fin (v:= .tuple #[]) rfl rfl (B6.list func122 rfl (vs:= []) trivial) (aG (((ao.Ab ae).Ab ap).Ab aP) rfl ⟨aj,ak,al,rfl,by simp,aR⟩ aQ)
   ·intro aB;refine AM aN (fun aS aT=>?_) (fun aS aU=>?_)
    ·refine DI 8 [bk] ⟨⟨0,_,rfl⟩,trivial⟩ O fun ht=>Bh ht rfl [0,1,2] rfl (Ch 3 ht underlying97 DF rfl rfl rfl rfl ?_);refine Fi 4 ht 1 0 O EJ ?_;refine Bw 5 ht rfl rfl (fun ρ h s' hs=>FQ (vs:= [iV tr.1,sV W tr.2.1 Z,uV tr.2.2]) F3 Co (h _ _ rfl) (At.O1 (aH.Ai (ae.Ab ap)) (O9 O hs ⟨⟨0,_,rfl⟩,trivial⟩))) ?_;obtain⟨bi,aV,aW⟩:=bs aT;refine JG.one (i:=6) rfl (by decide+kernel) (Take.lit (pp:=DD) (jp:=0) [.agg #[iV tr.1,sV W tr.2.1 Z,uV tr.2.2]] ([tr]:List B9) O rfl rfl rfl rfl underlying95 Co GY (by decide) rfl rfl rfl ⟨⟨_,_,rfl,rfl,⟨_,_,rfl,⟨_,_,rfl,(aF.Ai ((ao.Ab ae).Ab ap))⟩,rfl⟩⟩,trivial⟩ fun bj bl aX aY=>?_);refine JG.one (i:=7) rfl (by decide+kernel) (Take.app (pp:=DD) (jp:=0) 1 2 aY rfl aV rfl rfl rfl rfl rfl rfl rfl underlying95 underlying95 Co (Cu type104) GY rfl (by decide) (by decide) az aX rfl rfl rfl rfl fun aZ a0 bm a1 a2 a3=>?_);refine Cg [8,9,10] (FA 1 rfl a3 fun a4=>?_);refine JS.drop 1 a4 rfl fun a5=>zg 1 rfl (BL underlying97 DF rfl rfl rfl ?_);refine BT 0 a5 DF fun a6=>?_;refine JL.done (JS.drop 2 a6 rfl fun a7=>?_);obtain rfl:=oi aW;exact Aw (aB _ _ ⟨K,aZ,a0,a1,rfl,rfl,Aq,a7,a2⟩) rfl
    ·refine JL.skip ?_;obtain rfl:=oi aU;exact Aw (aB _ _ ⟨K,ag,ah,ai,rfl,rfl,Aq,O,az⟩) rfl
  ·intro aC;refine BK aL (fun a8 a9=>?_) (fun a8 ba=>?_)
   ·refine zg 5 rfl (BL underlying97 AN rfl rfl rfl ?_);refine BT 0 ay AN fun bb=>?_;refine zg 1 rfl (BL underlying97 DF rfl rfl rfl ?_);refine BT 0 bb DF fun bc=>?_;refine JL.done (JS.drop 1 bc rfl fun bd=>?_);obtain rfl:=oi a9;exact Aw (aC _ _ ⟨U,none,0,[],rfl,rfl,Aq,bd,OL.nil⟩) rfl
   ·refine JL.skip ?_;obtain rfl:=oi ba;exact Aw (aC _ _ ⟨U,a,c,g,rfl,rfl,Aq,ay,(aE.Ai (ao.Ab ae))⟩) rfl
 ·intro aD;refine EE 12 aJ (fun be bf=>?_) (fun be bg=>?_)
  ·refine zg 7 rfl ?_;obtain rfl:=oi bf;exact Aw (aD _ _ ⟨an,rfl,rfl,Aq,ab⟩) rfl
  ·refine zg 3 rfl (BL underlying97 AN rfl rfl rfl ?_);refine Ay (v:=iV le) rfl (fun ρ h=>Yl.load Bq (h _ _ rfl) (Db (j:=0) (off:=0) ab rfl rfl)) (zg 2 rfl ?_);obtain rfl:=oi bg;exact Aw (aD _ _ ⟨an,rfl,rfl,Aq,ab⟩) rfl
end Pal
namespace Pal
open Go Go.Conc Go.Proofs
open Go.Proofs.Tryz
def LC(fuel:Nat)(O:BV)(U:A6)(age:Int)(ms:List Int)(fl:Nat)(m:Int):Option (Option (List Int×Nat)):=
 (Lm fuel (O,U,age,ms,fl) ((ms).length:Int) m).bind fun K=>
 if(!K.2)=true then(
  some none
 ) else(
  (f175 fuel ms).bind fun V=>
  (Dy V ([m]:List Int)).bind fun W=>
  (Jb (fl) (K.1)).bind fun Z=>
  some (some (W,Z))
 )
theorem XI{J:Judge Tryz.prog}{A:Type}{I:A→LH→Seg→Prop}(a6:∀x E E' X,Le E E'→I x E X→I x E' X){E:LH}{bk k1 o2:Nat}{aL aM O aa:Ao}{aN aO U ab:Nat}{aP:Lv_}{ai:BV}{K:A6}{age:Int}{ms:List Int}{fl:Nat}(a7:At E k1 o2 (([sV aL ai.1 aN,sV aM ai.2.1 aO]:Lv_)++aP))(a8:Ap (rL rI) E aL aN ai.1)(a9:Ap (rL rI) E aM aO ai.2.1)(ba:(rA 13 (rN .u16)).r E aP ai.2.2)(bb:Ap BM E O U K)(az:Ap rI E aa ab ms){aQ:Value}{X:Seg}{acc acc':A}(bc:I acc E X){m:Int}{fuel:Nat}{r:Option (List Int×Nat)}(aR:LC fuel ai K age ms fl m=some r)
  (bd:r=none→acc'=acc)
  (aS:∀q,r=some q→∀E' a c,Le E E'→Ap rI E' a c q.1→EZ J aQ [] E' ([(bk,.cells #[pV k1 o2,.slice O K.length U,iV age,.slice a q.1.length c,uV q.2] 175 (0,0))]++X) (fun w be bf=>∃an ao ap Z,w= .bool true∧bf= [(bk,.cells #[pV k1 o2,.slice O K.length U,an,ao,ap] 175 (0,0))]++Z∧I acc' be Z)):
  AU J 155 [pV bk 0,iV m,aQ] E ([(bk,.cells #[pV k1 o2,.slice O K.length U,iV age,.slice aa ms.length ab,uV fl] 175 (0,0))]++X) (fun w E' B'=>∃Z,w= .bool true∧B'= [(bk,.cells #[pV k1 o2,.slice O K.length U,iV age,.slice aa ms.length ab,uV fl] 175 (0,0))]++Z∧I acc' E' Z):=by
 refine Bj func155 fun Q aT cs H aA aB=>?_;refine DO (S':= [[(bk,.cells #[pV k1 o2,.slice O K.length U,iV age,.slice aa ms.length ab,uV fl] 175 (0,0))],X]) (by simp) aA fun aA=>?_;unfold LC at aR;refine zg 2 rfl (Cy aA fun aj b4 V ag aq=>?_);refine zg 3 rfl (DI 13 [bk] ⟨⟨0,_,rfl⟩,trivial⟩ aq fun ht=>?_);refine JG.lp 0 ht 0 ag aq ⟨⟨0,_,rfl⟩,trivial⟩ FL ?_;refine JG.lp 1 ht 0 ag aq ⟨⟨0,_,rfl⟩,trivial⟩ FL ?_;refine Cz 2 ht rfl rfl (Ch 3 ht underlying175 Co rfl rfl rfl rfl ?_);refine Ch 4 ht underlying104 BS rfl rfl rfl rfl (Fi 5 ht 3 0 aq C4 ?_);refine Bw 6 ht rfl rfl (fun ρ h s' hs=>Yl.len rfl underlying28 (h _ _ rfl)) (Cz 7 ht rfl rfl ?_);obtain⟨bg,bh,bi⟩:=bs aR;refine Qf (i:=8) (vs:= [pV bk 0,iV (ms.length:Int),iV m]) 0 ⟨⟨0,_,rfl⟩,trivial⟩ (Xm (a7.Ai V) (a8.Ai V) (a9.Ai V) (Rp.Ai _ V ba) (bb.Ai V) (az.Ai V) bh) (fun _ _ _ h=>h.2) (by decide+kernel) rfl rfl rfl (A3 func174 rfl) rfl aq rfl ?_;rintro _ b5 W ⟨rfl,_⟩ aC;refine Bh ht rfl [9,10,11,12] rfl (Cg [13] ?_);refine zg 6 rfl (Ay (v:= .bool (!bg.2)) rfl (fun ρ h=>Yl.not (h _ _ rfl)) ?_);refine JL.done (BK bi (fun bj bl=>?_) (fun bj bm=>?_))
 ·refine zg 4 rfl ?_;obtain rfl:=oi bl;exact AL func155 rfl rfl (aB (V.Ab W) rfl ⟨X,rfl,by simp,by rw [bd rfl];exact a6 _ _ _ _ (V.Ab W) bc⟩ aC)
 ·refine zg 3 rfl (BY 0 (ag.Ai W) FL rfl rfl rfl ?_);refine zg 1 rfl (BL underlying175 Co rfl rfl rfl ?_);refine Ay rfl (fun ρ h=>FQ (vs:= [iV age,sV aa ms ab,uV fl]) F3 Co (h _ _ rfl) (FN (off:=2) 0 aC rfl rfl)) (CN aC GY fun ak bn=>?_);refine BT 3 bn Co fun bo=>?_;refine Dr 3 bo rfl fun b6 ae aD bp=>CG (S':= [[(bk,.cells #[pV k1 o2,sV O K U,iV age,sV aa ms ab,uV fl] 175 (0,0))],X,[],[]]) rfl bp fun aU=>zg 2 rfl (DC 7 fun ht=>?_);refine CH 0 ht 0 (ag.Ai (W.Ab ae)) FL rfl rfl rfl rfl (Ch 1 ht underlying104 BS rfl rfl rfl rfl ?_);refine CH 2 ht 1 aD C4 rfl rfl rfl rfl (Cz 4 ht rfl rfl ?_);obtain⟨b7,aV,bq⟩:=bs bm;obtain⟨al,aW,aX⟩:=bs bq;refine I1 (i:=3) (j:=5) rfl (by decide+kernel) ?_ ?_
  ·refine Take.Np (vs:= [sV aa ms ab]) aU (Sq (az.Ai ((V.Ab W).Ab ae)) aV) rfl rfl rfl (A3 func175 rfl) rfl ?_;rintro _ b8 _ ar ⟨b9,ca,cb,rfl,rfl,br⟩ bu;refine JG.one (i:=5) rfl (by decide+kernel) (Take.J3 (pp:=rI) [iV m] ([m]:List Int) bu rfl rfl rfl underlying28 AN Cp (by decide) rfl rfl rfl ⟨rfl,trivial⟩ fun cc aY bv bw=>?_);refine JG.one (i:=6) rfl (by decide+kernel) (Take.app0 (pp:=rI) 4 5 bw aW rfl rfl rfl rfl rfl rfl rfl underlying28 underlying28 AN (Cu type3) Cp rfl (by decide) (by decide) br bv rfl rfl fun aZ a0 cd bx bz bA=>?_);refine Cg [7,8,9,10] (FA 4 rfl bA fun bB=>?_);refine JS.drop 4 bB rfl fun bC=>CG (S':= [[(bk,.cells #[pV k1 o2,sV O K U,iV age,sV aa ms ab,uV fl] 175 (0,0))],X,[],[],[],aY,bx]) rfl bC fun bD=>zg 1 rfl (BL underlying175 Co rfl rfl rfl ?_);refine BL underlying104 BS rfl rfl rfl (BT 0 bD BS fun a1=>?_);refine zg 3 rfl (BY 0 (ag.Ai ((W.Ab ae).Ab ar)) FL rfl rfl rfl ?_);refine zg 1 rfl (BL underlying175 Co rfl rfl rfl ?_);refine BL underlying104 Ew rfl rfl rfl (Ay (v:= uV fl) rfl (fun ρ h=>Yl.load GW (h _ _ rfl) (Db (j:=0) (off:=4) a1 rfl rfl)) ?_);obtain⟨au,bE,bF⟩:=bs aX;refine zg 1 rfl (Ay (v:= uV au) rfl (fun ρ h=>KF (h _ _ rfl) (h _ _ rfl) bE) ?_);refine zg 1 rfl (BL underlying175 Co rfl rfl rfl ?_);refine BL underlying104 Ew rfl rfl rfl (BT 0 a1 Ew fun bG=>?_);refine zg 2 rfl (Cc 6 bz bG rfl fun ce av bH bI=>?_);refine CG (S':= [[(bk,.cells #[pV k1 o2,sV O K U,iV age,sV aZ al a0,uV au] 175 (0,0))],X,[],[],[],aY,[]]) rfl bI fun bJ=>JS.drop 5 bJ rfl fun bK=>?_;obtain rfl:=oi bF;refine JL.region (Ay (v:= .func (.func 176) #[] [pV ak 0,pV aj 0].toArray) rfl (fun ρ h=>IQ (by simp) (by simp [h (.tmp 9) _ rfl,h (.tmp 3) _ rfl])) ?_);refine Qo (vs:= []) (caps:= [pV ak 0,pV aj 0]) rfl rfl rfl rfl rfl rfl (zg 4 rfl ?_);refine DO (S':= [[(bk,.cells #[pV k1 o2,sV O K U,iV age,sV aZ al a0,uV au] 175 (0,0))]++X]) (by simp) bK fun aE=>Jo (vs:= []) 0 (aS (al,au) rfl _ _ _ ((((V.Ab W).Ab ae).Ab ar).Ab av) bH) rfl rfl rfl rfl rfl aE rfl ?_;rintro _ bL _ ah ⟨an,ao,ap,Z,rfl,rfl,aF⟩ aG;refine zg 2 rfl (Gn rfl ?_);refine JO.SA (vs:= []) (caps:= [pV ak 0,pV aj 0]) rfl func176 rfl rfl (Nat.le_of_ble_eq_true rfl) fun T aH todo=>DO (S':= [[(bk,.cells #[pV k1 o2,.slice O K.length U,an,ao,ap] 175 (0,0))],Z]) (by simp) aG fun aI=>JL.region (BY 0 (ag.Ai ((((W.Ab ae).Ab ar).Ab av).trans ah)) FL rfl rfl rfl ?_);refine Cf (aD.Ai ((ar.Ab av).trans ah)) F3 Co rfl rfl (zg 1 rfl ?_);refine BL underlying175 Co rfl rfl rfl (BT 0 aI Co fun aJ=>?_);refine CG (S':= [[(bk,.cells #[pV k1 o2,.slice O K.length U,iV age,.slice aa ms.length ab,uV fl] 175 (0,0))],Z]) rfl aJ fun aK=>JL.done (JL.out rfl ?_);refine JO.leaveD rfl func176 rfl (.inl rfl) ?_;refine(?_:JO J Q (base 155) Tryz.f155.ntmps _ [] (aT::cs) _) T aH todo;exact JO.leave (v:= .bool true) rfl (B6.list func155 rfl (vs:= [.bool true]) ⟨rfl,trivial⟩) (aB (((((V.Ab W).Ab ae).Ab ar).Ab av).trans ah) rfl ⟨Z,rfl,by simp,aF⟩ aK)
  ·refine Take.J3 (pp:=rI) [iV m] ([m]:List Int) aU rfl rfl rfl underlying28 AN Cp (by decide) rfl rfl rfl ⟨rfl,trivial⟩ fun cf a2 bM bN=>JG.one (i:=3) rfl (by decide+kernel) (Take.Np (vs:= [sV aa ms ab]) bN (Sq (az.Ai ((V.Ab W).Ab ae)) aV) rfl rfl rfl (A3 func175 rfl) rfl ?_);rintro _ cg _ am ⟨ci,ck,cm,rfl,rfl,bO⟩ bP;refine JG.one (i:=6) rfl (by decide+kernel) (Take.app0 (pp:=rI) 5 4 bP aW rfl rfl rfl rfl rfl rfl rfl underlying28 underlying28 AN (Cu type3) Cp rfl (by decide) (by decide) bO (bM.Ai am) rfl rfl fun a3 a4 cn bQ bR bS=>?_);refine Cg [7,8,9,10] (FA 5 rfl bS fun bT=>?_);refine JS.drop 5 bT rfl fun bU=>CG (S':= [[(bk,.cells #[pV k1 o2,sV O K U,iV age,sV aa ms ab,uV fl] 175 (0,0))],X,[],[],a2,[],bQ]) rfl bU fun bV=>zg 1 rfl (BL underlying175 Co rfl rfl rfl ?_);refine BL underlying104 BS rfl rfl rfl (BT 0 bV BS fun a5=>?_);refine zg 3 rfl (BY 0 (ag.Ai ((W.Ab ae).Ab am)) FL rfl rfl rfl ?_);refine zg 1 rfl (BL underlying175 Co rfl rfl rfl ?_);refine BL underlying104 Ew rfl rfl rfl (Ay (v:= uV fl) rfl (fun ρ h=>Yl.load GW (h _ _ rfl) (Db (j:=0) (off:=4) a5 rfl rfl)) ?_);obtain⟨aw,bW,bY⟩:=bs aX;refine zg 1 rfl (Ay (v:= uV aw) rfl (fun ρ h=>KF (h _ _ rfl) (h _ _ rfl) bW) ?_);refine zg 1 rfl (BL underlying175 Co rfl rfl rfl ?_);refine BL underlying104 Ew rfl rfl rfl (BT 0 a5 Ew fun bZ=>?_);refine zg 2 rfl (Cc 6 bR bZ rfl fun co ay b0 b1=>?_);refine CG (S':= [[(bk,.cells #[pV k1 o2,sV O K U,iV age,sV a3 al a4,uV aw] 175 (0,0))],X,[],[],a2,[],[]]) rfl b1 fun b2=>JS.drop 4 b2 rfl fun b3=>?_;obtain rfl:=oi bY;refine JL.region (Ay (v:= .func (.func 176) #[] [pV ak 0,pV aj 0].toArray) rfl (fun ρ h=>IQ (by simp) (by simp [h (.tmp 9) _ rfl,h (.tmp 3) _ rfl])) ?_);refine Qo (vs:= []) (caps:= [pV ak 0,pV aj 0]) rfl rfl rfl rfl rfl rfl (zg 4 rfl ?_);refine DO (S':= [[(bk,.cells #[pV k1 o2,sV O K U,iV age,sV a3 al a4,uV aw] 175 (0,0))]++X]) (by simp) b3 fun aE=>Jo (vs:= []) 0 (aS (al,aw) rfl _ _ _ ((((V.Ab W).Ab ae).Ab am).Ab ay) b0) rfl rfl rfl rfl rfl aE rfl ?_;rintro _ bL _ ah ⟨an,ao,ap,Z,rfl,rfl,aF⟩ aG;refine zg 2 rfl (Gn rfl ?_);refine JO.SA (vs:= []) (caps:= [pV ak 0,pV aj 0]) rfl func176 rfl rfl (Nat.le_of_ble_eq_true rfl) fun T aH todo=>DO (S':= [[(bk,.cells #[pV k1 o2,.slice O K.length U,an,ao,ap] 175 (0,0))],Z]) (by simp) aG fun aI=>JL.region (BY 0 (ag.Ai ((((W.Ab ae).Ab am).Ab ay).trans ah)) FL rfl rfl rfl ?_);refine Cf (aD.Ai ((am.Ab ay).trans ah)) F3 Co rfl rfl (zg 1 rfl ?_);refine BL underlying175 Co rfl rfl rfl (BT 0 aI Co fun aJ=>?_);refine CG (S':= [[(bk,.cells #[pV k1 o2,.slice O K.length U,iV age,.slice aa ms.length ab,uV fl] 175 (0,0))],Z]) rfl aJ fun aK=>JL.done (JL.out rfl ?_);refine JO.leaveD rfl func176 rfl (.inl rfl) ?_;refine(?_:JO J Q (base 155) Tryz.f155.ntmps _ [] (aT::cs) _) T aH todo;exact JO.leave (v:= .bool true) rfl (B6.list func155 rfl (vs:= [.bool true]) ⟨rfl,trivial⟩) (aB (((((V.Ab W).Ab ae).Ab am).Ab ay).trans ah) rfl ⟨Z,rfl,by simp,aF⟩ aK)
end Pal
namespace Pal
open Go Go.Conc Go.Proofs
open Go.Proofs.Tryz
def Lz(fuel:Nat)(K:BV)(V:A6)(age:Int)(ms:List Int)(fl:Nat)(n:Int):Option (Nat):=
 (ix K.1 (n)).bind fun O=>
 (f120 fuel O).bind fun U=>
 some U
theorem Zl{J:Judge Tryz.prog}{E:LH}{bk k1 o2:Nat}{aj ak U V:Ao}{al am W Z:Nat}{an:Lv_}{aa:BV}{O:A6}{age:Int}{ms:List Int}{fl:Nat}(ar:At E k1 o2 (([sV aj aa.1 al,sV ak aa.2.1 am]:Lv_)++an))(au:Ap (rL rI) E aj al aa.1)(aS:Ap (rL rI) E ak am aa.2.1)(aT:(rA 13 (rN .u16)).r E an aa.2.2)(aU:Ap BM E U W O)(aV:Ap rI E V Z ms){ab ae:Nat}(av:At E ab ae [pV bk 0]){ah ai kf ag:Nat}(aw:At E kf ag [.func (.func 153) #[] [pV ab ae,pV ah ai,pV kf ag].toArray]){ao on:Nat}{n:Int}(ay:At E ao on [iV n]){X:Seg}{fuel:Nat}{r:Nat}(ap:Lz fuel aa O age ms fl n=some r){R:Value→LH→Seg→Prop}
  (az:∀E',Le E E'→AU J 153 [uV r,pV ab ae,pV ah ai,pV kf ag] E' ([(bk,.cells #[pV k1 o2,.slice U O.length W,iV age,.slice V ms.length Z,uV fl] 175 (0,0))]++X) R):
  AU J 156 [pV kf ag,pV ab ae,pV ao on] E ([(bk,.cells #[pV k1 o2,.slice U O.length W,iV age,.slice V ms.length Z,uV fl] 175 (0,0))]++X) R:=by
 refine OH func156 rfl rfl fun Q aW cs H K aA=>DO (S':= [[(bk,.cells #[pV k1 o2,.slice U O.length W,iV age,.slice V ms.length Z,uV fl] 175 (0,0))],X]) (by simp) K fun K=>?_;unfold Lz at ap;refine zg 5 rfl (DI 13 [bk] ⟨⟨0,_,rfl⟩,trivial⟩ K fun ht=>?_);refine JG.lp 0 ht 0 aw K ⟨⟨0,_,rfl⟩,trivial⟩ (D1 underlying201) ?_;refine JG.lp 1 ht 0 av K ⟨⟨0,_,rfl⟩,trivial⟩ FL ?_;refine Cz 2 ht rfl rfl (Ch 3 ht underlying175 NQ rfl rfl rfl rfl ?_);refine Fi 4 ht 0 0 K LP ?_;refine Cz 5 ht rfl rfl (Ch 6 ht underlying141 B4 rfl rfl rfl rfl ?_);refine Ch 7 ht underlying24 Ct rfl rfl rfl rfl (JG.lp 8 ht 0 ar K ⟨⟨0,_,rfl⟩,trivial⟩ Da ?_);refine JG.lp 9 ht 0 ay K ⟨⟨0,_,rfl⟩,trivial⟩ Bq ?_;obtain⟨aB,aC,aD⟩:=bs ap;refine Ds 10 au aC ht underlying22 BS ?_;rintro aX aY _ ⟨aE,c4,rfl,aF⟩ aG;refine JG.lp 11 ht 0 aG K ⟨⟨0,_,rfl⟩,trivial⟩ C4 ?_;obtain⟨aH,aI,aJ⟩:=bs aD;refine QN (i:=12) ⟨⟨0,_,rfl⟩,trivial⟩ (vs:= [sV aE aB c4]) (JU aF aI) (by decide+kernel) rfl rfl rfl Jd rfl K ?_;rintro _ aK _ aq ⟨rfl,rfl⟩ aL;refine Cg [13,14] ?_;obtain rfl:=oi aJ;refine DO (S':= [[(bk,.cells #[pV k1 o2,.slice U O.length W,iV age,.slice V ms.length Z,uV fl] 175 (0,0))]++X]) (by simp) aL fun aM=>?_;have aN:EZ J (.func (.func 153) #[] [pV ab ae,pV ah ai,pV kf ag].toArray) [uV aH] aK ([(bk,.cells #[pV k1 o2,.slice U O.length W,iV age,.slice V ms.length Z,uV fl] 175 (0,0))]++X) R:=EZ.ofFn (caps:= [pV ab ae,pV ah ai,pV kf ag]) (A3 func153 rfl) (az _ aq);refine Jo 0 aN rfl rfl rfl rfl rfl aM rfl ?_;rintro w aZ aO aP aQ aR;refine zg 2 rfl (AL func156 rfl rfl ?_);exact aA _ _ _ aO (aq.Ab aP) (by simp) aQ aR
end Pal
namespace Pal
open Go Go.Conc Go.Proofs
open Go.Proofs.Tryz
def I9(fuel:Nat)(K:BV)(O:A6)(age:Int)(ms:List Int)(fl:Nat)(sm:Nat):Option (Option (List Int)):=
 (Lp fuel (K,O,age,ms,fl)).bind fun U=>
 if U<((ms).length:Int) then(
  some none
 ) else(
  (f89 fuel sm).bind fun V=>
  some (some V)
 )
def Pm(rec:Nat→List Int→Nat→List (List Int×Nat)→Option (List (List Int×Nat)))(fuel:Nat)(K:BV)(O:A6)(age:Int)(ms:List Int)(fl:Nat)(ac:List (List Int×Nat))(n:Int):Option (List (List Int×Nat)):=
 (LC fuel K O age ms fl n).bind fun r=>match r with
  | none=>some ac
  | some q=>(Lz fuel K O age q.1 q.2 n).bind fun s'=>rec s' q.1 q.2 ac
def J6(ok:List (List Int×Nat)→Bool)(rec:Nat→List Int→Nat→List (List Int×Nat)→Option (List (List Int×Nat)))(fuel:Nat)(K:BV)(O:A6)(age:Int)(ms:List Int)(fl:Nat)(ac:List (List Int×Nat)):Option (List Int)→Option (List (List Int×Nat))
 | none=>if ok (ac++ [(ms,fl)])=true then some (ac++ [(ms,fl)]) else none
 | some l=>if l.length≤1000 then FB (Pm rec fuel K O age ms fl) l ac else none
def IG(ok:List (List Int×Nat)→Bool)(fuel:Nat)(K:BV)(O:A6)(age:Int):Nat→Nat→List Int→Nat→List (List Int×Nat)→Option (List (List Int×Nat))
 | 0,_,_,_,_=>none
 | g+1,sm,ms,fl,ac=>(I9 fuel K O age ms fl sm).bind fun r=>J6 ok (IG ok fuel K O age g) fuel K O age ms fl ac r
theorem Yd{J:Judge Tryz.prog}{I:List (List Int×Nat)→LH→Seg→Prop}(ap:∀x E E' X,Le E E'→I x E X→I x E' X){E:LH}{bk k1 o2:Nat}{aO aP Z V:Ao}{aQ aR aa W:Nat}{aS:Lv_}{ah:BV}{O:A6}{age:Int}{ms:List Int}{fl:Nat}(aD:At E k1 o2 (([sV aO ah.1 aQ,sV aP ah.2.1 aR]:Lv_)++aS))(aE:Ap (rL rI) E aO aQ ah.1)(aF:Ap (rL rI) E aP aR ah.2.1)(aG:(rA 13 (rN .u16)).r E aS ah.2.2)(aH:Ap BM E Z aa O)(aI:Ap rI E V W ms){al am:Nat}(au:At E al am [pV bk 0]){aw ay kf an:Nat}(a5:At E kf an [.func (.func 153) #[] [pV al am,pV aw ay,pV kf an].toArray]){aT:Value}(a6:At E aw ay [aT]){X:Seg}{acc acc':List (List Int×Nat)}{ok:List (List Int×Nat)→Bool}(aU:I acc E X){rec:Nat→List Int→Nat→List (List Int×Nat)→Option (List (List Int×Nat))}(a7:∀s' ai aq ac az,rec s' ai aq ac=some az→∀E' K a c,Le E E'→Ap rI E' a c ai→I ac E' K→AU J 153 [uV s',pV al am,pV aw ay,pV kf an] E' ([(bk,.cells #[pV k1 o2,.slice Z O.length aa,iV age,(.slice a ai.length c),(uV aq)] 175 (0,0))]++K) (fun w E' B'=>∃aJ aK aL K,w= .bool true∧B'= [(bk,.cells #[pV k1 o2,.slice Z O.length aa,aJ,aK,aL] 175 (0,0))]++K∧I az E' K))(a8:∀(E':LH) (K:Seg) (ac:List (List Int×Nat)) (ai:List Int) (aq:Nat) (a:Ao) (c:Nat),Le E E'→Ap rI E' a c ai→I ac E' K→ok (ac++ [(ai,aq)])=true→EZ J aT [.agg #[iV age,.slice a ai.length c,uV aq]] E' K (fun w aV a9=>w= .bool true∧I (ac++ [(ai,aq)]) aV a9)){sm:Nat}{fuel:Nat}{r:Option (List Int)}(aW:I9 fuel ah O age ms fl sm=some r)(ab:J6 ok rec fuel ah O age ms fl acc r=some acc'):
  AU J 153 [uV sm,pV al am,pV aw ay,pV kf an] E ([(bk,.cells #[pV k1 o2,.slice Z O.length aa,iV age,.slice V ms.length W,uV fl] 175 (0,0))]++X) (fun w E' B'=>∃aJ aK aL K,w= .bool true∧B'= [(bk,.cells #[pV k1 o2,.slice Z O.length aa,aJ,aK,aL] 175 (0,0))]++K∧I acc' E' K):=by
 refine Bj func153 fun Q bM cs H ao aX=>?_;refine DO (S':= [[(bk,.cells #[pV k1 o2,.slice Z O.length aa,iV age,.slice V ms.length W,uV fl] 175 (0,0))],X]) (by simp) ao fun ao=>?_;unfold I9 at aW;refine zg 6 rfl (DI 8 [bk] ⟨⟨0,_,rfl⟩,trivial⟩ ao fun ht=>?_);refine JG.lp 0 ht 0 au ao ⟨⟨0,_,rfl⟩,trivial⟩ FL ?_;refine Cz 1 ht rfl rfl (Ch 2 ht underlying175 Co rfl rfl rfl rfl ?_);refine Ch 3 ht underlying104 BS rfl rfl rfl rfl (Fi 4 ht 3 0 ao C4 ?_);refine Bw 5 ht rfl rfl (fun ρ h s' hs=>Yl.len rfl underlying28 (h _ _ rfl)) (JG.lp 6 ht 0 au ao ⟨⟨0,_,rfl⟩,trivial⟩ FL ?_);obtain⟨bN,ba,bb⟩:=bs aW;refine Qf (i:=7) (vs:= [pV bk 0]) 0 ⟨⟨0,_,rfl⟩,trivial⟩ (W3 aD aE aF aG aH aI ba) (fun _ _ _ h=>h.2) (by decide+kernel) rfl rfl rfl (A3 func154 rfl) rfl ao rfl ?_;rintro _ aY U ⟨rfl,_⟩ aj;refine Cg [8] (zg 2 rfl ?_);refine AM bb (fun bc bd=>?_) (fun bc be=>?_)
 ·refine JL.seq (DI 5 [bk] ⟨⟨0,_,rfl⟩,trivial⟩ aj fun ht=>?_);refine JG.lp 0 ht 0 (a6.Ai U) aj ⟨⟨0,_,rfl⟩,trivial⟩ (D1 underlying200) ?_;refine JG.lp 1 ht 0 (au.Ai U) aj ⟨⟨0,_,rfl⟩,trivial⟩ FL ?_;refine Cz 2 ht rfl rfl (Ch 3 ht underlying175 Co rfl rfl rfl rfl ?_);refine Bw 4 ht rfl rfl (fun ρ h s' hs=>FQ (vs:= [iV age,sV V ms W,uV fl]) F3 Co (h _ _ rfl) (UN (o:=2) 0 aj rfl (by simp [Bb]) hs rfl)) (Cg [5,6] ?_);obtain rfl:=oi bd;have aZ:ok (acc++ [(ms,fl)])=true∧acc++ [(ms,fl)]=acc':=by
   simp only [J6] at ab;split at ab
   ·exact⟨by assumption,Option.some.inj ab⟩
   ·cases ab
  obtain⟨bf,aZ⟩:=aZ;subst acc';refine Jo (vs:= [.agg #[iV age,.slice V ms.length W,uV fl]]) 1 (a8 _ _ _ _ _ _ _ U (aI.Ai U) (ap _ _ _ _ U aU) bf) rfl rfl rfl rfl rfl aj rfl ?_;rintro _ bO bg bh ⟨rfl,bi⟩ bj;refine zg 2 rfl (AL func153 rfl rfl ?_);exact aX (U.Ab bh) rfl ⟨iV age,.slice V ms.length W,uV fl,bg,rfl,by simp,bi⟩ bj
 ·obtain⟨ag,bl,bm⟩:=bs be;refine zg 5 rfl (BR (Iy bl) rfl rfl H9 aj ?_);rintro _ bn _ aM ⟨a0,a1,rfl,rfl,bo⟩ bp;refine Bo underlying28 rfl rfl rfl (zg 2 rfl ?_);obtain rfl:=oi bm;have bq:ag.length≤1000∧FB (Pm rec fuel ah O age ms fl) ag acc=some acc':=by
   simp only [J6] at ab;split at ab
   ·exact⟨by assumption,ab⟩
   ·cases ab
  obtain⟨hlen,ab⟩:=bq;refine JL.block (Iv [(1,pV al am),(3,pV kf an),(24,sV a0 ag a1),(25,iV (ag.length:Int)),(26,iV 0)] rfl ?_);refine DO (S':= [[(bk,.cells #[pV k1 o2,.slice Z O.length aa,iV age,.slice V ms.length W,uV fl] 175 (0,0))],X]) (by simp) bp fun br=>TD (l:=ag) ab (fun L s i ac=>∃aA ar,Jn bn H aA [[(bk,.cells #[pV k1 o2,.slice Z O.length aa,iV age,.slice V ms.length W,uV fl] 175 (0,0))],ar] [(1,pV al am),(3,pV kf an),(24,sV a0 ag a1),(25,iV (ag.length:Int)),(26,iV ((i:Nat):Int))] L s (I ac aA ar)) ⟨_,X,rfl,rfl,Le.refl _,br,ap _ _ _ _ (U.Ab aM) aU⟩ ?_ ?_
  ·rintro _ _ i ac n az ⟨aA,ar,rfl,rfl,av,aN,aB⟩ bu bP bv bw;have bx:=(U.Ab aM).Ab av;refine zg 5 rfl ?_;rw [decide_eq_true (show((i:Nat):Int)<(ag.length:Int) by omega)];refine zg 6 rfl ?_;have bz:ix ag ((i:Nat):Int)=some n:=by unfold ix;rw [if_pos (by omega)];exact bu
   refine B5 (bo.Ai av) bz underlying28 AN ?_;rintro kk bQ _ rfl bA;refine BY 0 bA Bq rfl rfl rfl (CN aN Cp fun bB bC=>?_);refine BT 2 bC AN fun bD=>?_;refine Dr 2 bD rfl fun bR aC a2 bE=>?_;have ak:=bx.trans aC;refine zg 3 rfl (BY 0 (au.Ai ak) FL rfl rfl rfl ?_);refine BY 0 a2 Bq rfl rfl rfl (Ay (v:= .func (.func 156) #[] [pV kf an,pV al am,pV bB 0].toArray) rfl (fun ρ h=>IQ (by simp) (by simp [h (.tmp 3) _ rfl,h (.tmp 1) _ rfl,h (.tmp 7) _ rfl])) ?_);refine DO (S':= [[(bk,.cells #[pV k1 o2,.slice Z O.length aa,iV age,.slice V ms.length W,uV fl] 175 (0,0))]++ar]) (by simp) bE fun aj=>?_;obtain⟨q,bF,a3⟩:=Option.bind_eq_some_iff.1 bv;refine B8 0 (XI ap (aD.Ai ak) (aE.Ai ak) (aF.Ai ak) (Rp.Ai _ ak aG) (aH.Ai ak) (aI.Ai ak) (acc':=az) (ap _ _ _ _ aC aB) bF (fun e=>by subst e;exact(Option.some.inj a3).symm) (fun p e E' a c hle a4=>?_)) rfl rfl (A3 func155 rfl) aj rfl ?_
   ·subst e;obtain⟨s',bG,bH⟩:=Option.bind_eq_some_iff.1 a3;have ae:=ak.trans hle;exact EZ.ofFn (A3 func156 rfl) (Zl (aD.Ai ae) (aE.Ai ae) (aF.Ai ae) (Rp.Ai _ ae aG) (aH.Ai ae) a4 (au.Ai ae) (a5.Ai ae) (a2.Ai hle) bG fun aV U=>a7 _ _ _ _ _ bH _ _ _ _ (ae.Ab U) (a4.Ai U) (ap _ _ _ _ (hle.trans U) (ap _ _ _ _ aC aB)))
   rintro _ aY _ ae ⟨K,rfl,rfl,bI⟩ bJ;refine Ay (v:= .bool (!true)) rfl (fun ρ h=>Yl.not (h _ _ rfl)) (zg 5 rfl ?_);have bK:Av (((i:Nat):Int)+1)=some (((i+1:Nat)):Int):=by unfold Av;rw [if_pos (by omega)];simp
   refine A9 bK rfl rfl rfl (zg 2 rfl ?_);exact DO (S':= [[(bk,.cells #[pV k1 o2,.slice Z O.length aa,iV age,.slice V ms.length W,uV fl] 175 (0,0))],K]) (by simp) bJ fun bL=>Aw (bw _ _ ⟨aY,K,rfl,rfl,(av.Ab aC).Ab ae,bL,bI⟩) rfl
  ·rintro _ _ ⟨aA,ar,rfl,rfl,av,aN,aB⟩;refine zg 5 rfl ?_;rw [decide_eq_false (Int.lt_irrefl _)];refine zg 6 rfl (AL func153 rfl rfl ?_);exact aX ((U.Ab aM).Ab av) rfl ⟨iV age,.slice V ms.length W,uV fl,ar,rfl,by simp,aB⟩ aN
end Pal
namespace Pal
open Go Go.Conc Go.Proofs
open Go.Proofs.Tryz
theorem Wq{J:Judge Tryz.prog}{I:List (List Int×Nat)→LH→Seg→Prop}(az:∀x E E' X,Le E E'→I x E X→I x E' X){E:LH}{bk k1 o2:Nat}{aq ar aa:Ao}{au av ab:Nat}{aw:Lv_}{O:BV}{W:A6}{age:Int}(aA:At E k1 o2 (([sV aq O.1 au,sV ar O.2.1 av]:Lv_)++aw))(aB:Ap (rL rI) E aq au O.1)(aC:Ap (rL rI) E ar av O.2.1)(aD:(rA 13 (rN .u16)).r E aw O.2.2)(aE:Ap BM E aa ab W){ae ag:Nat}(aF:At E ae ag [pV bk 0]){ah ai kf aj:Nat}(aG:At E kf aj [.func (.func 153) #[] [pV ae ag,pV ah ai,pV kf aj].toArray]){ay:Value}(aH:At E ah ai [ay]){fuel:Nat}{ok:List (List Int×Nat)→Bool}(aI:∀(E':LH) (Z:Seg) (ac:List (List Int×Nat)) (K:List Int) (U:Nat) (a:Ao) (c:Nat),Le E E'→Ap rI E' a c K→I ac E' Z→ok (ac++ [(K,U)])=true→EZ J ay [.agg #[iV age,.slice a K.length c,uV U]] E' Z (fun w aJ aK=>w= .bool true∧I (ac++ [(K,U)]) aJ aK)):
  ∀(g sm:Nat) (ms:List Int) (fl:Nat) (ac V:List (List Int×Nat)),IG ok fuel O W age g sm ms fl ac=some V→∀E' X a c,Le E E'→Ap rI E' a c ms→I ac E' X→AU J 153 [uV sm,pV ae ag,pV ah ai,pV kf aj] E' ([(bk,.cells #[pV k1 o2,.slice aa W.length ab,iV age,(.slice a ms.length c),uV fl] 175 (0,0))]++X) (fun w E' B'=>∃aL aM aN Z,w= .bool true∧B'= [(bk,.cells #[pV k1 o2,.slice aa W.length ab,aL,aM,aN] 175 (0,0))]++Z∧I V E' Z):=by
 intro g
 induction g with
 | zero=>intro sm ms fl ac V h;cases h
 | succ g aO=>
  intro sm ms fl ac V h E' X a c hle aP aQ;obtain⟨r,aR,aS⟩:=Option.bind_eq_some_iff.1 h;exact Yd az (aA.Ai hle) (aB.Ai hle) (aC.Ai hle) (Rp.Ai _ hle aD) (aE.Ai hle) aP (aF.Ai hle) (aG.Ai hle) (aH.Ai hle) aQ (rec:=IG ok fuel O W age g) (fun s' K U ac V aT ak al am c2 an ao ap=>aO s' K U ac V aT ak al am c2 (hle.trans an) ao ap) (fun ak al ac K U am c2 an ao ap aU=>aI ak al ac K U am c2 (hle.trans an) ao ap aU) aR aS
def J2(fuel:Nat)(K:BV)(U:A6)(age:Int):Option Nat:=
 (ix K.2.2 (age)).bind fun O=>
 some O
theorem Qw{J:Judge Tryz.prog}{I:List (List Int×Nat)→LH→Seg→Prop}(ay:∀x E E' X,Le E E'→I x E X→I x E' X){E:LH}{bk k1 o2:Nat}{am an Z:Ao}{ao ap aa:Nat}{az:Lv_}{W:BV}{U:A6}{age:Int}(aA:At E k1 o2 (([sV am W.1 ao,sV an W.2.1 ap]:Lv_)++az))(aI:Ap (rL rI) E am ao W.1)(aJ:Ap (rL rI) E an ap W.2.1)(aq:(rA 13 (rN .u16)).r E az W.2.2)(aK:Ap BM E Z aa U){ai aj:Nat}(ar:At E ai aj [pV bk 0]){aB aC:Nat}(aD:At E aB aC [iV age]){ae ag ah:Value}{aE:Go.Fn}{X:Seg}{acc acc':List (List Int×Nat)}(aL:I acc E X){ok:List (List Int×Nat)→Bool}{fuel:Nat}(aM:∀(E':LH) (V:Seg) (ac:List (List Int×Nat)) (ak:List Int) (au:Nat) (a:Ao) (c:Nat),Le E E'→Ap rI E' a c ak→I ac E' V→ok (ac++ [(ak,au)])=true→EZ J (.func aE #[] #[]) [.agg #[iV age,.slice a ak.length c,uV au]] E' V (fun w aN aO=>w= .bool true∧I (ac++ [(ak,au)]) aN aO)){r:Nat}(aF:J2 fuel W U age=some r)(aP:IG ok fuel W U age fuel r [] 0 acc=some acc'):
  AU J 152 [.func aE #[] #[],pV aB aC,pV ai aj] E ([(bk,.cells #[pV k1 o2,.slice Z U.length aa,ae,ag,ah] 175 (0,0))]++X) (fun w E' B'=>∃ae ag ah V,w= .tuple #[]∧B'= [(bk,.cells #[pV k1 o2,.slice Z U.length aa,ae,ag,ah] 175 (0,0))]++V∧I acc' E' V):=by
 refine Bj func152 fun Q bi cs H av aQ=>?_;refine DO (S':= [[(bk,.cells #[pV k1 o2,.slice Z U.length aa,ae,ag,ah] 175 (0,0))],X]) (by simp) av fun av=>?_;unfold J2 at aF;refine zg 2 rfl (Cy av fun aw bj K aR aS=>?_);refine zg 3 rfl (BY 0 (ar.Ai K) FL rfl rfl rfl ?_);refine BY 0 (aD.Ai K) Bq rfl rfl rfl (Ay (v:= .agg #[iV age,nS,uV 0]) rfl (fun ρ h=>De [(0,1),(1,1),(2,1)] h GY underlying104 ⟨rfl,Br type3,rfl,Br type28,rfl,Br type102,trivial⟩ rfl rfl) ?_);refine zg 1 rfl (BL underlying175 Co rfl rfl rfl ?_);refine BT 0 aS Co fun aT=>?_;refine zg 3 rfl (CN aT (DZ type201) fun al aU=>?_);refine CG (S':= [[(bk,.cells #[pV k1 o2,sV Z U aa,iV age,nS,uV 0] 175 (0,0))],X,[],[(al,.cells #[.nilFunc] 201 (0,0))]]) rfl aU fun aV=>zg 3 rfl (Ay (v:= .func (.func 153) #[] ([pV ai aj,pV aw 0,pV al 0]:Lv_).toArray) rfl (fun ρ h=>IQ (by simp) (by simp [h (.tmp 2) _ rfl,h (.tmp 3) _ rfl,h (.tmp 4) _ rfl])) ?_);refine BT 3 aV (Br type201) fun aW=>?_;refine Dr 3 aW rfl fun aX O aG ab=>JL.done (DI 11 [bk] ⟨⟨0,_,rfl⟩,trivial⟩ ab fun ht=>?_);refine JG.lp 0 ht 0 aG ab ⟨⟨0,_,rfl⟩,trivial⟩ (D1 underlying201) ?_;refine JG.lp 1 ht 0 (ar.Ai (K.Ab O)) ab ⟨⟨0,_,rfl⟩,trivial⟩ FL ?_;refine Cz 2 ht rfl rfl (Ch 3 ht underlying175 NQ rfl rfl rfl rfl ?_);refine Fi 4 ht 0 0 ab LP ?_;refine JG.lp 5 ht 0 (aD.Ai (K.Ab O)) ab ⟨⟨0,_,rfl⟩,trivial⟩ Bq ?_;refine Cz 6 ht rfl rfl (Ch 7 ht underlying141 Gl rfl rfl rfl rfl ?_);obtain⟨aY,aH,aZ⟩:=bs aF;obtain⟨_,rfl,a0,_,_⟩:=SX (kk:=13) (pp:=(rN .u16)) (Rp.Ai _ (K.Ab O) aq) (At.tail (l:= [sV am W.1 ao,sV an W.2.1 ap]) (aA.Ai (K.Ab O))) aH;refine Bw (v:= .pointer (some ⟨k1,(o2+2+Int.toNat (age)*1),none⟩)) 8 ht rfl rfl (fun ρ h s' hs=>Jq (kk:=13) (pp:=(rN .u16)) (Rp.Ai _ (K.Ab O) aq) aH underlying139 Ib (h _ _ rfl) (h _ _ rfl)) (Ch 9 ht underlying138 Ew rfl rfl rfl rfl ?_);refine JG.lp 10 ht 0 a0 ab ⟨⟨0,_,rfl⟩,trivial⟩ GW ?_;refine Cg [11] ?_;obtain rfl:=oi aZ;have a1:EZ J (.func (.func 153) #[] [pV ai aj,pV aw 0,pV al 0].toArray) [uV aY] aX ([(bk,.cells #[pV k1 o2,.slice Z U.length aa,iV age,nS,uV 0] 175 (0,0))]++X) (fun w E' B'=>∃ae ag ah V,w= .bool true∧B'= [(bk,.cells #[pV k1 o2,.slice Z U.length aa,ae,ag,ah] 175 (0,0))]++V∧I acc' E' V):=EZ.ofFn (caps:= [pV ai aj,pV aw 0,pV al 0]) (A3 func153 rfl) (Wq ay (aA.Ai (K.Ab O)) (aI.Ai (K.Ab O)) (aJ.Ai (K.Ab O)) (Rp.Ai _ (K.Ab O) aq) (aK.Ai (K.Ab O)) (ar.Ai (K.Ab O)) aG (aR.Ai O) (fun a2 a3 ac a4 a5 a6 c2 a7 a8 a9 ba=>aM a2 a3 ac a4 a5 a6 c2 (((K.Ab O)).Ab a7) a8 a9 ba) _ _ _ _ _ _ aP _ _ _ _ Aq Ap.nil (ay _ _ _ _ (K.Ab O) aL));refine DO (S':= [[(bk,.cells #[pV k1 o2,.slice Z U.length aa,iV age,nS,uV 0] 175 (0,0))]++X]) (by simp) ab fun bb=>Jo 0 a1 rfl rfl rfl rfl rfl bb rfl ?_;rintro w bl _ bc ⟨bd,be,bf,V,rfl,rfl,bg⟩ bh;refine JL.done (JL.fin (v:= .tuple #[]) rfl rfl (B6.list func152 rfl (vs:= []) trivial) ?_);exact aQ ((K.Ab O).trans bc) rfl ⟨bd,be,bf,V,rfl,by simp,bg⟩ bh
end Pal
namespace Pal
open Go Go.Conc Go.Proofs
open Go.Proofs.Tryz
noncomputable def It:Code:=match Tryz.f127.body with | some (.seq _ (.seq _ (.seq (.seq _ (.block _ (.rangeFunc _ _ a _))) _)))=>a | _=> .skip
noncomputable def Iq:Code:=match Tryz.f127.body with | some (.seq _ (.seq _ (.seq (.seq _ (.block _ (.rangeFunc _ _ _ b))) _)))=>b | _=> .skip
def add1(fuel:Nat)(age:Int)(q:Int×List (B9))(x:List Int×Nat):Option (Int×List (B9)):=
 (f130 fuel (age,x.1,x.2)).bind fun n=>ID fuel q.1 q.2 (age,x.1,x.2) n
def Hr(fuel:Nat)(age:Int)(ac:List (List Int×Nat)):Option (Int×List (B9)):=FB (add1 fuel age) ac (0,[])
def IP(fuel:Nat)(age:Int)(l K O:Nat)(T:AA)(ac:List (List Int×Nat))(E:LH)(X:Seg):Prop:=
 ∃q a c g,Hr fuel age ac=some q∧X=(l,.loop ⟨.ready,none,127,T,#[17],It,Iq,O⟩)::([(K,.cells #[iV age,iV q.1,.slice a q.2.length c] 133 (0,0))]++g)∧OL 104 DD E a c g q.2
theorem IP.Ai{fuel:Nat}{age:Int}{l K O:Nat}{T:AA}:∀(ac:List (List Int×Nat)) (E E':LH) (X:Seg),Le E E'→IP fuel age l K O T ac E X→IP fuel age l K O T ac E' X:=
 fun ac E E' X hle ⟨q,a,c,g,U,V,W⟩=>⟨q,a,c,g,U,V,W.Ai hle⟩
theorem PX{α B:Type}{step:B→α→Option B}:∀{l:List α} {x:α} {b:B},FB step (l++ [x]) b=(FB step l b).bind fun K=>step K x
 | [],x,b=>by simp [FB]
 | y::l,x,b=>by
  simp only [List.cons_append,FB]
  cases step b y with
  | none=>rfl
  | some K=>exact PX
theorem Q8{J:Judge Tryz.prog}{fuel:Nat}{age:Int}{l K O:Nat}{T:AA}(aj:Has Tryz.f127.ntmps [(6,pV K 0)] T){E:LH}{X:Seg}{ac:List (List Int×Nat)}{ms:List Int}{fl:Nat}{U:Ao}{V:Nat}(ae:Ap rI E U V ms)(ak:IP fuel age l K O T ac E X)(al:(Hr fuel age (ac++ [(ms,fl)])).isSome=true):
  EZ J (.func (.yield l) #[] #[]) [.agg #[iV age,.slice U ms.length V,uV fl]] E X (fun w E' am=>w= .bool true∧IP fuel age l K O T (ac++ [(ms,fl)]) E' am):=by
 obtain⟨q,a,c,g,ag,rfl,an⟩:=ak;obtain⟨r,he⟩:=Option.isSome_iff_exists.1 al;have ah:add1 fuel age q (ms,fl)=some r:=by
  have Z:=he;unfold Hr at Z ag;rw [PX,ag] at Z;exact Z
 refine EZ.yield (i:=0) (t:=17) rfl rfl fun Q ao cs H aa ap=>?_;refine(?_:JL J Q (SK l 127) Tryz.f127.ntmps [(17,.agg #[iV age,.slice U ms.length V,uV fl]),(6,pV K 0)] [] [.code It,.beginRound,.code Iq] (ao::cs) _) _ (aj.put (d:=some 17) rfl _);refine DO (S':= [[(l,.loop ⟨.ready,none,127,T,#[17],It,Iq,O⟩)],[(K,.cells #[iV age,iV q.1,.slice a q.2.length c] 133 (0,0))],g]) (by simp) aa fun aa=>?_;unfold add1 at ah;refine JL.region (CN aa GY fun aH aq=>?_);refine BT 3 aq Co fun ar=>?_;refine Dr 3 ar rfl fun aI W ai au=>JL.done (JL.beginRound 0 rfl rfl au rfl rfl fun av=>?_);refine JL.block (DC 4 fun ht=>?_);refine Ch 0 ht underlying133 Dq rfl rfl rfl rfl (HU 1 ht ai F3 Co rfl rfl rfl ?_);refine HU 2 ht ai F3 Co rfl rfl rfl ?_;obtain⟨aJ,aw,ay⟩:=bs ah;refine JG.call (i:=3) (vs:= [.agg #[iV age,sV U ms V,uV fl]]) (Yk (p0:=(age,ms,fl)) (ae.Ai W) aw) (by decide+kernel) rfl rfl rfl (A3 func130 rfl) rfl av ?_;rintro _ aK _ ab ⟨rfl,rfl⟩ az;refine Cg [4] (DO (S':= [[(l,.loop ⟨.busy,none,127,T,#[17],It,Iq,O⟩)],[(K,.cells #[iV age,iV q.1,.slice a q.2.length c] 133 (0,0))]++g]) (by simp) az fun aA=>?_);refine B8 1 (Xv ((an.Ai (W.Ab ab))) (tr:=(age,ms,fl)) (ae.Ai (W.Ab ab)) ay) rfl rfl (A3 func122 rfl) aA rfl ?_;rintro _ aL _ aB ⟨aC,aD,g',rfl,rfl,aE⟩ aF;refine zg 2 rfl (JL.endRound 0 rfl rfl aF rfl fun aG=>?_);exact ap _ _ _ _ ((W.Ab ab).trans aB) rfl ⟨rfl,r,aC,aD,g',he,by simp,aE⟩ aG
end Pal
namespace Pal
open Go Go.Conc Go.Proofs
open Go.Proofs.Tryz
open Go.Conc.Lib Go.ConcR.Gen
theorem Qb{J:Judge Tryz.prog}{E:LH}{bk:Nat}{age:Int}:AU J 129 [pV bk 0,iV age] E [] (fun w E' B'=>∃K O,w= .func (.func 152) #[] [pV K 0,pV O 0].toArray∧B'= []∧At E' K 0 [iV age]∧At E' O 0 [pV bk 0]):=by
 refine Bj func129 fun Q aj cs H Z aa=>?_;refine zg 2 rfl (Cy Z fun U ak ab ae ag=>?_);refine Cy ag fun V al W ah ai=>?_;refine zg 4 rfl (Ay (v:= .func (.func 152) #[] ([pV V 0,pV U 0]:Lv_).toArray) rfl (fun ρ h=>IQ (by simp) (by simp [h (.tmp 3) _ rfl,h (.tmp 2) _ rfl])) ?_);refine zg 2 rfl (AL func129 rfl rfl ?_);exact aa (ab.Ab W) rfl ⟨V,U,rfl,by simp,ah,(ae.Ai W)⟩ ai
def GI(fuel:Nat)(K:BV)(O:A6)(age:Int):Option (Int×List (B9)):=
 (J2 fuel K O age).bind fun s=>(IG (fun ac=>(Hr fuel age ac).isSome) fuel K O age fuel s [] 0 []).bind fun tr=>Hr fuel age tr
theorem VG{L:WgLink}(az:WgLib Tryz.prog L)(a5:L.done=128){F:Fam}{j:Nat}{E:LH}{k1 o2:Nat}{a6 a7 U:Ao}{a8 a9 V:Nat}{ba:Lv_}{ai:BV}{O:A6}{age:Int}(bb:At E k1 o2 (([sV a6 ai.1 a8,sV a7 ai.2.1 a9]:Lv_)++ba))(bc:Ap (rL rI) E a6 a8 ai.1)(bd:Ap (rL rI) E a7 a9 ai.2.1)(be:(rA 13 (rN .u16)).r E ba ai.2.2)(bf:Ap BM E U V O){aA aB aC ol ka aj kc ab:Nat}(bj:At E aA aB [pV k1 o2])(bl:At E aC ol [.slice U O.length V])(aF:At E ka aj [iV age])(bg:At E kc ab [.chan (some F.ch)])
  {fuel:Nat} {q:Int×List (B9)} (aD:GI fuel ai O age=some q) (aE:F.has j=decide (0<q.2.length)) (bh:∀E' a c,Le E E'→Ap DD E' a c q.2→F.msg j (.agg #[iV age,iV q.1,.slice a q.2.length c]) E'):
  Way Tryz.prog false (Stop Tryz.prog F (F.start j)) (born Tryz.prog ⟨.fn (.func 127) [.pointer (some F.sA),pV aA aB,pV aC ol,pV ka aj,pV kc ab].toArray,#[]⟩) ⟨E,fun _=>none,false⟩:=by
 refine Qu (fn:=Tryz.f127) (vs:= [.pointer (some F.sA),pV aA aB,pV aC ol,pV ka aj,pV kc ab]) func127 rfl rfl (by simp) (Nat.le_of_ble_eq_true rfl) ?_;obtain⟨H,bm⟩:∃H:LH,H=fun _=>none:=⟨_,rfl⟩;rw [← bm];have bi:Au E H []:=trivial;refine(?_:JL (BB Tryz.prog false) (Stop Tryz.prog F (F.start j)) (baseD 127) Tryz.f127.ntmps (FW 0 [.pointer (some F.sA),pV aA aB,pV aC ol,pV ka aj,pV kc ab]) [] [.code _] [HX Tryz.prog] (Ak E H []));refine zg 2 rfl (JL.defer (vs:= [.pointer (some F.sA)]) rfl rfl rfl rfl rfl ?_);refine zg 2 rfl (DC 8 fun ht=>?_);refine CH 0 ht 0 bj LP rfl rfl rfl rfl (CH 1 ht 0 bl Kf rfl rfl rfl rfl ?_);refine Bw (v:= .agg #[pV k1 o2,sV U O V,iV 0,nS,uV 0]) 2 ht rfl rfl (fun ρ h s' hs=>De [(0,1),(1,1),(2,3)] h (DZ type175) underlying175 ⟨rfl,Br type94,rfl,Br type25,rfl,Br type104,trivial⟩ rfl rfl) (CH 4 ht 0 aF Bq rfl rfl rfl rfl ?_);refine Bw (v:= .agg #[iV age,iV 0,nS]) 5 ht rfl rfl (fun ρ h s' hs=>De [(0,1),(1,2)] h H8 underlying133 ⟨rfl,Br type3,rfl,Br type97,trivial⟩ rfl rfl) (I1 (i:=3) (j:=6) rfl (by decide+kernel) ?_ ?_)
 ·refine Take.S6 (v:= .agg #[pV k1 o2,sV U O V,iV 0,nS,uV 0]) bi rfl rfl rfl rfl fun ak am=>JG.one (i:=6) rfl (by decide+kernel) (Take.Sy am rfl rfl rfl H8 fun ae an=>?_);refine Cz 7 ht rfl rfl (Cg [8] ?_);refine CG (S':= [[(ak,.cells #[pV k1 o2,sV U O V,iV 0,nS,uV 0] 175 (0,0))],[(ae,.cells #[iV 0,iV 0,nS] 133 (0,0))]]) rfl an fun ao=>BT 1 ao AS fun aa=>?_;refine zg 3 rfl (CG (S':= [[(ak,.cells #[pV k1 o2,.slice U O.length V,iV 0,nS,uV 0] 175 (0,0))],[(ae,.cells #[iV age,iV 0,nS] 133 (0,0))]]) rfl aa fun aG=>?_);refine Iv [(3,pV ka aj),(4,pV kc ab),(5,pV ak 0),(6,pV ae 0)] rfl ?_;have ap:Le E E:=Aq;refine zg 2 rfl (BY 0 (aF.Ai ap) Bq rfl rfl rfl ?_);refine BR Qb rfl rfl (A3 func129 rfl) aG ?_;rintro _ bn _ aH ⟨aq,ar,rfl,rfl,aI,aJ⟩ am;have W:=ap.Ab aH;refine zg 2 rfl (DO (S':= [[(ak,.cells #[pV k1 o2,.slice U O.length V,iV 0,nS,uV 0] 175 (0,0))],[(ae,.cells #[iV age,iV 0,nS] 133 (0,0))]]) (by simp) am fun aK=>?_);refine JL.rangeFunc (caps:= [pV aq 0,pV ar 0]) rfl (by intro e;cases e) rfl (A3 func152 rfl) aK fun Z l T au aL=>Ou (S':= [[(ak,.cells #[pV k1 o2,.slice U O.length V,iV 0,nS,uV 0] 175 (0,0))]++([(l,.loop ⟨.ready,none,127,T,#[17],It,Iq,Z⟩)]++ [(ae,.cells #[iV age,iV 0,nS] 133 (0,0))]),[(Z,.deferred (some []))]]) SG aL fun an=>?_;unfold GI at aD;obtain⟨bo,aM,aN⟩:=Option.bind_eq_some_iff.1 aD;obtain⟨tr,aO,aP⟩:=Option.bind_eq_some_iff.1 aN;refine Qy (vs:= [.func (.yield l) #[] #[],pV aq 0,pV ar 0]) 0 (Qw (I:=IP fuel age l ae Z T) (ok:=fun ac=>(Hr fuel age ac).isSome) (acc:= []) IP.Ai (bb.Ai W) (bc.Ai W) (bd.Ai W) (Rp.Ai _ W be) (bf.Ai W) aJ aI ⟨(0,[]),none,0,[],rfl,rfl,OL.nil⟩ (fun E' aQ ac bp bq a c hle aR aS aT=>Q8 (au.sub ⟨rfl,trivial⟩) aR aS aT) aM aO) an rfl ?_;rintro _ br _ aU ⟨aV,aW,aX,aQ,rfl,rfl,K,a,c,g,aY,rfl,aZ⟩ a0;obtain rfl:K=q:=Option.some.inj (aY.symm.trans aP);refine RL (S':= [[(ak,.cells #[pV k1 o2,.slice U O.length V,aV,aW,aX] 175 (0,0))],[(l,.loop ⟨.ready,none,127,T,#[17],It,Iq,Z⟩)],[(ae,.cells #[iV age,iV K.1,.slice a K.2.length c] 133 (0,0))],g,[(Z,.deferred (some []))]]) (by simp) a0 fun ao=>PN 1 ao rfl rfl rfl fun aa=>?_;refine(?_:JL (BB Tryz.prog false) (Stop Tryz.prog F (F.start j)) (baseD 127) Tryz.f127.ntmps [(4,pV kc ab),(6,pV ae 0)] [⟨.collected Z,#[]⟩,dcall 128 #[.pointer (some F.sA)]] _ [HX Tryz.prog] _) T (au.sub ⟨rfl,rfl,trivial⟩);have av:=W.Ab aU;have a1:dcall 128 #[.pointer (some F.sA)]=dcall L.done #[.pointer (some F.sA)]:=by rw [a5]
  rw [a1];refine zg 3 rfl (BL underlying133 Dq rfl rfl rfl ?_);refine BL underlying97 DF rfl rfl rfl (Ay (v:= .slice a K.2.length c) rfl (fun ρ h=>Yl.load EJ (h _ _ rfl) (Db (j:=2) (off:=2) aa rfl rfl)) ?_);refine Bo underlying95 rfl rfl rfl (zg 2 rfl ?_);refine OG (p:=0<((K.2).length:Int)) rfl (fun a2=>?_) (fun a2=>?_)
  ·have ah:F.start j= .CC j:=by unfold Fam.start;rw [aE,decide_eq_true (show 0<K.2.length by omega)];rfl
   rw [ah];refine JL.region (BY 0 (bg.Ai av) LM rfl rfl rfl ?_);refine Cc 3 aZ aa rfl fun bu a3 a4 aw=>Ay rfl (fun ρ h=>FQ (vs:= [iV age,iV K.1,.slice a K.2.length c]) Cn AS (h _ _ rfl) (FN (off:=0) 2 aw rfl rfl)) (Q4 rfl rfl rfl rfl rfl rfl rfl (bh _ _ _ (av.Ab a3) a4) ?_);exact JL.done (JL.out rfl (JO.collected 4 rfl aw rfl fun ay=>JO.Nv az rfl rfl (JO.leaveD rfl func127 rfl (.inr rfl) Ko)))
  ·have ah:F.start j= .Df:=by unfold Fam.start;rw [aE,decide_eq_false (show ¬0<K.2.length by omega)];rfl
   rw [ah];exact JL.skip (JL.out rfl (JO.collected 4 rfl aa rfl fun ay=>JO.Nv az rfl rfl (JO.leaveD rfl func127 rfl (.inr rfl) Ko)))
 ·refine Take.Sy bi rfl rfl rfl H8 fun ag ay=>JG.one (i:=3) rfl (by decide+kernel) (Take.S6 (v:= .agg #[pV k1 o2,sV U O V,iV 0,nS,uV 0]) ay rfl rfl rfl rfl fun al bv=>?_);refine Cz 7 ht rfl rfl (Cg [8] ?_);refine CG (S':= [[(ag,.cells #[iV 0,iV 0,nS] 133 (0,0))],[(al,.cells #[pV k1 o2,sV U O V,iV 0,nS,uV 0] 175 (0,0))]]) rfl bv fun bw=>BT 0 bw AS fun bx=>?_;refine zg 3 rfl (JS.perm (S':= [[(al,.cells #[pV k1 o2,.slice U O.length V,iV 0,nS,uV 0] 175 (0,0))],[(ag,.cells #[iV age,iV 0,nS] 133 (0,0))]]) (List.Perm.swap _ _ _) bx fun aG=>?_);refine Iv [(3,pV ka aj),(4,pV kc ab),(5,pV al 0),(6,pV ag 0)] rfl ?_;have ap:Le E E:=Aq;refine zg 2 rfl (BY 0 (aF.Ai ap) Bq rfl rfl rfl ?_);refine BR Qb rfl rfl (A3 func129 rfl) aG ?_;rintro _ bn _ aH ⟨aq,ar,rfl,rfl,aI,aJ⟩ am;have W:=ap.Ab aH;refine zg 2 rfl (DO (S':= [[(al,.cells #[pV k1 o2,.slice U O.length V,iV 0,nS,uV 0] 175 (0,0))],[(ag,.cells #[iV age,iV 0,nS] 133 (0,0))]]) (by simp) am fun aK=>?_);refine JL.rangeFunc (caps:= [pV aq 0,pV ar 0]) rfl (by intro e;cases e) rfl (A3 func152 rfl) aK fun Z l T au aL=>Ou (S':= [[(al,.cells #[pV k1 o2,.slice U O.length V,iV 0,nS,uV 0] 175 (0,0))]++([(l,.loop ⟨.ready,none,127,T,#[17],It,Iq,Z⟩)]++ [(ag,.cells #[iV age,iV 0,nS] 133 (0,0))]),[(Z,.deferred (some []))]]) SG aL fun an=>?_;unfold GI at aD;obtain⟨bo,aM,aN⟩:=Option.bind_eq_some_iff.1 aD;obtain⟨tr,aO,aP⟩:=Option.bind_eq_some_iff.1 aN;refine Qy (vs:= [.func (.yield l) #[] #[],pV aq 0,pV ar 0]) 0 (Qw (I:=IP fuel age l ag Z T) (ok:=fun ac=>(Hr fuel age ac).isSome) (acc:= []) IP.Ai (bb.Ai W) (bc.Ai W) (bd.Ai W) (Rp.Ai _ W be) (bf.Ai W) aJ aI ⟨(0,[]),none,0,[],rfl,rfl,OL.nil⟩ (fun E' aQ ac bp bq a c hle aR aS aT=>Q8 (au.sub ⟨rfl,trivial⟩) aR aS aT) aM aO) an rfl ?_;rintro _ br _ aU ⟨aV,aW,aX,aQ,rfl,rfl,K,a,c,g,aY,rfl,aZ⟩ a0;obtain rfl:K=q:=Option.some.inj (aY.symm.trans aP);refine RL (S':= [[(al,.cells #[pV k1 o2,.slice U O.length V,aV,aW,aX] 175 (0,0))],[(l,.loop ⟨.ready,none,127,T,#[17],It,Iq,Z⟩)],[(ag,.cells #[iV age,iV K.1,.slice a K.2.length c] 133 (0,0))],g,[(Z,.deferred (some []))]]) (by simp) a0 fun ao=>PN 1 ao rfl rfl rfl fun aa=>?_;refine(?_:JL (BB Tryz.prog false) (Stop Tryz.prog F (F.start j)) (baseD 127) Tryz.f127.ntmps [(4,pV kc ab),(6,pV ag 0)] [⟨.collected Z,#[]⟩,dcall 128 #[.pointer (some F.sA)]] _ [HX Tryz.prog] _) T (au.sub ⟨rfl,rfl,trivial⟩);have av:=W.Ab aU;have a1:dcall 128 #[.pointer (some F.sA)]=dcall L.done #[.pointer (some F.sA)]:=by rw [a5]
  rw [a1];refine zg 3 rfl (BL underlying133 Dq rfl rfl rfl ?_);refine BL underlying97 DF rfl rfl rfl (Ay (v:= .slice a K.2.length c) rfl (fun ρ h=>Yl.load EJ (h _ _ rfl) (Db (j:=2) (off:=2) aa rfl rfl)) ?_);refine Bo underlying95 rfl rfl rfl (zg 2 rfl ?_);refine OG (p:=0<((K.2).length:Int)) rfl (fun a2=>?_) (fun a2=>?_)
  ·have ah:F.start j= .CC j:=by unfold Fam.start;rw [aE,decide_eq_true (show 0<K.2.length by omega)];rfl
   rw [ah];refine JL.region (BY 0 (bg.Ai av) LM rfl rfl rfl ?_);refine Cc 3 aZ aa rfl fun bu a3 a4 aw=>Ay rfl (fun ρ h=>FQ (vs:= [iV age,iV K.1,.slice a K.2.length c]) Cn AS (h _ _ rfl) (FN (off:=0) 2 aw rfl rfl)) (Q4 rfl rfl rfl rfl rfl rfl rfl (bh _ _ _ (av.Ab a3) a4) ?_);exact JL.done (JL.out rfl (JO.collected 4 rfl aw rfl fun ay=>JO.Nv az rfl rfl (JO.leaveD rfl func127 rfl (.inr rfl) Ko)))
  ·have ah:F.start j= .Df:=by unfold Fam.start;rw [aE,decide_eq_false (show ¬0<K.2.length by omega)];rfl
   rw [ah];exact JL.skip (JL.out rfl (JO.collected 4 rfl aa rfl fun ay=>JO.Nv az rfl rfl (JO.leaveD rfl func127 rfl (.inr rfl) Ko)))
end Pal
namespace Go.Proofs
abbrev Tryz.link:Go.Conc.Lib.WgLink:={add:=126,done:=128,wait:=132,relMerge:=139,disable:=140,enable:=141,inBubble:=142,associate:=143,fatal:=144,uOr:=145,uAdd:=146,raceRead:=147,uLoad:=148,uStore:=149,disassociate:=150,semrelease:=151,acquire:=157,isAssociated:=158,uCas:=159,raceWrite:=160,semacquire:=161,orU64:=170,addU64:=171,loadU64:=172,storeU64:=173,casU64:=177,tWgP:=189,tUP:=191,tAssoc:=192,tWg:=171,tAU:=168,tU64:=90,tUint:=156,tU32:=169,tPU32:=196,tPAU:=221,tPU64:=223,tNoCopy:=164,tANoCopy:=165,tAlign64:=166}
theorem Tryz.O6:Go.Conc.Lib.WgLib Tryz.prog Tryz.link:=
 ⟨Tryz.func126,Tryz.func128,Tryz.func132,Tryz.func139,Tryz.func140,Tryz.func141,Tryz.func142,Tryz.func143,Tryz.func144,Tryz.func145,Tryz.func146,Tryz.func147,Tryz.func148,Tryz.func149,Tryz.func150,Tryz.func151,Tryz.func157,Tryz.func158,Tryz.func159,Tryz.func160,Tryz.func161,Tryz.func170,Tryz.func171,Tryz.func172,Tryz.func173,Tryz.func177,Tryz.underlying189,Tryz.runUnderlying189,Tryz.sizeOf189,Tryz.isAgg189,Tryz.zeroValue189,Tryz.underlying191,Tryz.runUnderlying191,Tryz.sizeOf191,Tryz.isAgg191,Tryz.zeroValue191,Tryz.underlying192,Tryz.runUnderlying192,Tryz.sizeOf192,Tryz.isAgg192,Tryz.zeroValue192,Tryz.underlying171,Tryz.runUnderlying171,Tryz.sizeOf171,Tryz.isAgg171,Tryz.zeroValue171,Tryz.underlying168,Tryz.runUnderlying168,Tryz.sizeOf168,Tryz.isAgg168,Tryz.zeroValue168,Tryz.underlying90,Tryz.runUnderlying90,Tryz.sizeOf90,Tryz.isAgg90,Tryz.zeroValue90,Tryz.underlying156,Tryz.runUnderlying156,Tryz.sizeOf156,Tryz.isAgg156,Tryz.zeroValue156,Tryz.underlying169,Tryz.runUnderlying169,Tryz.sizeOf169,Tryz.isAgg169,Tryz.zeroValue169,Tryz.underlying196,Tryz.runUnderlying196,Tryz.sizeOf196,Tryz.isAgg196,Tryz.zeroValue196,Tryz.underlying221,Tryz.runUnderlying221,Tryz.sizeOf221,Tryz.isAgg221,Tryz.zeroValue221,Tryz.underlying223,Tryz.runUnderlying223,Tryz.sizeOf223,Tryz.isAgg223,Tryz.zeroValue223,Tryz.underlying0,Tryz.runUnderlying0,Tryz.sizeOf0,Tryz.isAgg0,Tryz.zeroValue0,Tryz.underlying3,Tryz.runUnderlying3,Tryz.sizeOf3,Tryz.isAgg3,Tryz.zeroValue3,Tryz.underlying4,Tryz.runUnderlying4,Tryz.sizeOf4,Tryz.isAgg4,Tryz.zeroValue4,Tryz.underlying9,Tryz.runUnderlying9,Tryz.sizeOf9,Tryz.isAgg9,Tryz.zeroValue9,Tryz.underlying20,Tryz.runUnderlying20,Tryz.sizeOf20,Tryz.isAgg20,Tryz.zeroValue20,Tryz.underlying21,Tryz.runUnderlying21,Tryz.sizeOf21,Tryz.isAgg21,Tryz.zeroValue21,(by decide+kernel),(by decide+kernel)⟩
end Go.Proofs
namespace Pal
open Go Go.Conc Go.Proofs Go.Conc.Lib Go.ConcR.Gen
theorem VZ{F:Fam}(O:F.n<2147483648){E:LH}{kc K:Nat}(U:At E kc K [.chan (some F.ch)]):Way Tryz.prog false (Stop Tryz.prog F .Dh) (born Tryz.prog ⟨.fn (.func 131) [.pointer (some F.sA),pV kc K].toArray,#[]⟩) ⟨E,fun _=>none,false⟩:=by
 refine Qu (fn:=Tryz.f131) (vs:= [.pointer (some F.sA),pV kc K]) Tryz.func131 rfl rfl (by simp) (Nat.le_of_ble_eq_true rfl) ?_;obtain⟨H,V⟩:∃H:LH,H=fun _=>none:=⟨_,rfl⟩;rw [← V];refine(?_:JL (BB Tryz.prog false) (Stop Tryz.prog F .Dh) (baseD 131) Tryz.f131.ntmps (FW 0 [.pointer (some F.sA),pV kc K]) [] [.code _] [HX Tryz.prog] (Ak E H []));refine zg 2 rfl (JL.wait Tryz.O6 O rfl rfl rfl rfl rfl ?_);refine zg 2 rfl (BY 0 U LM rfl rfl rfl ?_);refine UB rfl rfl rfl rfl rfl rfl rfl (JL.done ?_);exact JL.out rfl (JO.leaveD rfl Tryz.func131 rfl (.inr rfl) Ko)
end Pal
namespace Pal
open Go Go.Conc Go.Proofs
open Go.Proofs.Tryz
open Go.Conc.Lib Go.ConcR.Gen
noncomputable def I5:Code:=match Tryz.f102.body with | some (.seq _ (.seq _ (.seq _ (.seq (.seq _ (.block _ (.loop c))) _))))=>c | _=> .skip
theorem Uc{F:Fam}(aN:F.n=13){E:LH}{k1 o2:Nat}{ah ai aj:Ao}{ak al am:Nat}{an:Lv_}{O:BV}{ab:A6}(ap:At E k1 o2 (([sV ah O.1 ak,sV ai O.2.1 al]:Lv_)++an))(aq:Ap (rL rI) E ah ak O.1)(ar:Ap (rL rI) E ai al O.2.1)(au:(rA 13 (rN .u16)).r E an O.2.2)(av:Ap BM E aj am ab){V W Z ol kc aa:Nat}(aw:At E V W [pV k1 o2])(ay:At E Z ol [.slice aj ab.length am])(az:At E kc aa [.chan (some F.ch)]){fuel:Nat}{qs:Nat→Int×List (B9)}(aA:∀j,j<13→GI fuel O ab ((j:Nat):Int)=some (qs j))(aB:∀j,j<13→F.has j=decide (0<(qs j).2.length))(aC:∀j,j<13→∀E' a c,Ap DD E' a c (qs j).2→F.msg j (.agg #[iV ((j:Nat):Int),iV (qs j).1,.slice a (qs j).2.length c]) E'){j:Nat}(ae:j<13){ag H:LH}(hle:Le E ag)(aD:Au ag H []){k:Li_}{cs:Lf_}
  (h:∀U,Le E U→Au U H []→JL (BB Tryz.prog true) (Stop Tryz.prog F (F.D4 j)) (base 102) Tryz.f102.ntmps [(2,pV V W),(3,pV Z ol),(5,pV kc aa),(6,.pointer (some F.sA)),(11,iV ((j+1:Nat):Int))] [] (.inLoop I5::k) cs (Ak U H [])):
  JL (BB Tryz.prog true) (Stop Tryz.prog F (.FE j)) (base 102) Tryz.f102.ntmps [(2,pV V W),(3,pV Z ol),(5,pV kc aa),(6,.pointer (some F.sA)),(11,iV ((j:Nat):Int))] [] (.code I5:: .inLoop I5::k) cs (Ak ag H []):=by
 refine zg 5 rfl ?_;rw [decide_eq_true (show((j:Nat):Int)<13 by omega)];refine zg 7 rfl (CN aD Cp fun aE aF=>?_);refine BT 0 aF AN fun aG=>?_;refine Dr 0 aG rfl fun U aH aI aJ=>DO (S':= []) (by simp) aJ fun aK=>?_;have K:=hle.trans aH;refine zg 3 rfl (Un Tryz.O6 rfl rfl rfl rfl rfl rfl ?_);refine zg 2 rfl (Ay (v:= .func (.func 127) #[] ([.pointer (some F.sA),pV V W,pV Z ol,pV aE 0,pV kc aa]:Lv_).toArray) rfl (fun ρ h=>IQ (by simp) (by simp [h (.tmp 6) _ rfl,h (.tmp 2) _ rfl,h (.tmp 3) _ rfl,h (.tmp 7) _ rfl,h (.tmp 5) _ rfl])) ?_);have ao:=VG Tryz.O6 rfl (F:=F) (j:=j) (ap.Ai K) (aq.Ai K) (ar.Ai K) (Rp.Ai _ K au) (av.Ai K) (aw.Ai K) (ay.Ai K) aI (az.Ai K) (aA j ae) (aB j ae) (fun E' a c _ aL=>aC j ae E' a c aL);refine XE (fi:= #[]) rfl rfl rfl rfl rfl rfl rfl (by first | exact ao | (simp only [List.append_toArray,List.nil_append,Array.append_empty,Array.empty_append];exact ao)) ?_
 refine zg 3 rfl ?_;have aM:Av (((j:Nat):Int)+1)=some (((j+1:Nat)):Int):=by unfold Av;rw [if_pos (by omega)];simp
 refine A9 aM rfl rfl rfl (zg 2 rfl ?_);exact Aw (h U K aK) rfl
theorem Uj{F:Fam}(V:F.n=13){E:LH}{k1 o2:Nat}{ag ah ai:Ao}{aj ak al:Nat}{am:Lv_}{K:BV}{W:A6}(ap:At E k1 o2 (([sV ag K.1 aj,sV ah K.2.1 ak]:Lv_)++am))(aq:Ap (rL rI) E ag aj K.1)(ar:Ap (rL rI) E ah ak K.2.1)(au:(rA 13 (rN .u16)).r E am K.2.2)(av:Ap BM E ai al W){Z aa ab ol kc ae:Nat}(aw:At E Z aa [pV k1 o2])(ay:At E ab ol [.slice ai W.length al])(az:At E kc ae [.chan (some F.ch)]){fuel:Nat}{qs:Nat→Int×List (B9)}(aA:∀j,j<13→GI fuel K W ((j:Nat):Int)=some (qs j))(aB:∀j,j<13→F.has j=decide (0<(qs j).2.length))(aC:∀j,j<13→∀E' a c,Ap DD E' a c (qs j).2→F.msg j (.agg #[iV ((j:Nat):Int),iV (qs j).1,.slice a (qs j).2.length c]) E'){H:LH}{k:Li_}{cs:Lf_}
  (h:∀O,Le E O→Au O H []→JL (BB Tryz.prog true) (Stop Tryz.prog F .FY) (base 102) Tryz.f102.ntmps [(2,pV Z aa),(3,pV ab ol),(5,pV kc ae),(6,.pointer (some F.sA)),(11,iV 13)] [] (.code I5:: .inLoop I5::k) cs (Ak O H [])):
  ∀(m j:Nat),j+m=13→0<m→∀U,Le E U→Au U H []→JL (BB Tryz.prog true) (Stop Tryz.prog F (.FE j)) (base 102) Tryz.f102.ntmps [(2,pV Z aa),(3,pV ab ol),(5,pV kc ae),(6,.pointer (some F.sA)),(11,iV ((j:Nat):Int))] [] (.code I5:: .inLoop I5::k) cs (Ak U H []):=by
 intro m
 induction m with
 | zero=>intro j _ aD;cases aD
 | succ m aE=>
  intro j aH _ U hle aF;refine Uc V ap aq ar au av aw ay az aA aB aC (by omega) hle aF fun O an ao=>JL.again ?_;by_cases hm:m=0
  ·subst hm;have aG:j=12:=by omega
   subst aG;have e:F.D4 12= .FY:=by unfold Fam.D4;rw [V];rfl
   rw [e];exact h O an ao
  ·have e:F.D4 j= .FE (j+1):=by unfold Fam.D4;rw [V,if_neg (by omega)]
   rw [e];exact aE (j+1) (by omega) (by omega) O an ao
end Pal
namespace Pal
open Go Go.Conc Go.Proofs
open Go.Proofs.Tryz
open Go.Conc.Lib Go.ConcR.Gen
noncomputable def SS:Code:=match Tryz.f102.body with | some (.seq _ (.seq _ (.seq _ (.seq _ (.seq _ (.seq _ (.seq (.seq _ (.block _ (.loop c))) _)))))))=>c | _=> .skip
def partOf(qs:Nat→Int×List (B9))(k:Nat):(Bx):=(((k:Nat):Int),(qs k).1,(qs k).2)
theorem XU{K:List Nat}{kk n:Nat}(O:kk<n)(U:kk ∉ K):((List.range n).filter (fun x=> !(K++ [kk]).contains x)).length<((List.range n).filter (fun x=> !K.contains x)).length:=by
 have e:(List.range n).filter (fun x=> !(K++ [kk]).contains x)=((List.range n).filter (fun x=> !K.contains x)).filter (fun x=>x != kk):=by
  rw [List.filter_filter];apply List.filter_congr;intro x _;by_cases V:x∈K <;> by_cases e2:x=kk <;> simp [V,e2]
 rw [e];apply List.length_filter_lt_length_iff_exists.2;exact⟨kk,by simp [O,U],by simp⟩
theorem UW{F:Fam}(aa:F.n=13){Q:GP}(ao:∀g s,(DR Tryz.prog).ok Q g s→F.fin g s){qs:Nat→Int×List (B9)}(ap:∀kk v E',F.msg kk v E'→∃a c,v= .agg #[iV ((kk:Nat):Int),iV (qs kk).1,.slice a (qs kk).2.length c]∧Ap DD E' a c (qs kk).2)
  {E H:LH} {k:Li_} {cs:Lf_}
  (aq:∀(K:List Nat) (V:LH) (a:Ao) (c:Nat) (g:Seg),Le E V→K.Nodup→(∀x∈K,x<13∧F.has x=true)→(∀x,x<13→F.has x=true→x∈K)→OL 133 Cr V a c g (K.map (partOf qs))→Au V H [g]→JL (DR Tryz.prog) Q (base 102) Tryz.f102.ntmps [(8,.slice a (K.map (partOf qs)).length c)] [] k cs (Ak V H [g])):
  ∀(m:Nat) (K:List Nat) (vs:Lv_) (U:LH) (a:Ao) (c:Nat) (g:Seg),((List.range 13).filter (fun x=> !K.contains x)).length=m→K.Nodup→(∀x∈K,x<13∧F.has x=true)→K.length+m≤13→Le E U→OL 133 Cr U a c g (K.map (partOf qs))→Au U H [g]→
   JL (BB Tryz.prog true) (Stop Tryz.prog F (.Ci K vs)) (base 102) Tryz.f102.ntmps [(8,.slice a (K.map (partOf qs)).length c),(18,.chan (some F.ch))] [] (.code SS:: .inLoop SS:: .inBlock 2::k) cs (Ak U H [g]):=by
 intro m
 induction m using Nat.strongRecOn with
 | _ m ar=>
  intro K vs U a c g hm ab ae hlen hle ag ah;refine zg 2 rfl (VI rfl rfl rfl rfl rfl rfl underlying162 H8 ?_ ?_)
  ·intro kk v E' W au ai aj av aw;rw [aa] at W;obtain⟨aL,aM,rfl,ay⟩:=ap kk v E' aw;have az:Au E' H [g]:=ah.up av;refine(?_:JL (BB Tryz.prog true) (Stop Tryz.prog F (.Ci (K++ [kk]) (vs++ [_]))) (base 102) Tryz.f102.ntmps _ [] _ cs (Ak E' H [g]));refine zg 9 rfl (JS.alloc rfl rfl rfl az H8 fun aN aA=>?_);refine BT 1 aA AS fun aB=>?_;refine Dr 1 aB rfl fun aC Z aD aE=>DO (S':= [g]) (by simp) aE fun aF=>zg 3 rfl (Cf aD Cn AS rfl rfl ?_);have aG:(K.map (partOf qs)).length+1≤2 ^ 40:=by rw [List.length_map];omega
   refine PR (pp:=Cr) (xv:=partOf qs kk) 0 rfl rfl rfl rfl (fun w=>rfl) rfl (fun w=>rfl) rfl rfl rfl underlying130 underlying130 underlying130 AS (Cu type133) H8 rfl (by decide) (by decide) (by decide) (by decide) aG (ag.Ai (aj.trans Z)) ⟨_,_,rfl,rfl,⟨_,_,rfl,rfl,⟨_,_,rfl,ay.Ai Z⟩⟩⟩ aF rfl fun w ak al g' am aH=>?_;have em:K.map (partOf qs)++ [partOf qs kk]=(K++ [kk]).map (partOf qs):=by simp
   rw [em] at am;refine Bc (v:= .slice ak ((K++ [kk]).map (partOf qs)).length al) rfl rfl rfl (fun ρ h=>by rw [← em];exact Yl.assign (h _ _ rfl)) (zg 2 rfl ?_);refine JL.again ?_;have aI:((List.range 13).filter (fun x=> !(K++ [kk]).contains x)).length<m:=by rw [← hm];exact XU W ai
   exact Aw (ar _ aI (K++ [kk]) (vs++ [_]) aC ak al g' rfl (by rw [List.nodup_append];exact⟨ab,by simp,by intro x O y an;simp at an;subst an;intro e;exact ai (e▸O)⟩) (by intro x O;simp at O;rcases O with O | rfl;exact ae x O;exact⟨W,au⟩) (by simp only [List.length_append,List.length_cons,List.length_nil];omega) ((hle.trans aj).Ab Z) am aH) rfl
  ·intro aJ T aK;refine ao _ _ ?_;refine(?_:JL (DR Tryz.prog) Q (base 102) Tryz.f102.ntmps _ [] _ cs (Ak U H [g])) T aK;exact zg 5 rfl (Aw (aq K U a c g hle ab ae (fun x O hh=>aJ x (by rw [aa];exact O) hh) ag ah) rfl)
end Pal
