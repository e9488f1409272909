/- ToothAlikes. Part 3 of 8. -/
import Derived.Test.YtboibffcmhheiaaGreatDoorToa
import Derived.Test.YtboibffcmhheiaaGreatDoorTob
import Derived.Test.YtboibffcmhheiaaGreatDoorRows
import Derived.Test.YtboibffcmhheiaaGreatDoorChecked
import Derived.Conc.LeavingOf
import Derived.Conc.Holds
import Derived.Carry
import Derived.ChangeSame
import Derived.ChangeVars
import Derived.JoinedOf
import Derived.RowKit
import Derived.LaidLaws
import Derived.LaidHandle
import Derived.Stop.Joined
import Derived.Test.YtboibffcmhheiaaGreatDoorProg
import Derived.ProofKit
set_option linter.all false
set_option maxRecDepth 100000
namespace Pal
open Go Go.Conc
def WL{α:Type}(e:TypeId)(pp:Rp α)(E:LH)(bk c n:Nat)(f:Array Value)(xs:List α):Prop:=
 OL e pp E (some ⟨bk,0,none⟩) c [(bk,.cells f e (0,0))] xs∧xs.length=n
theorem WL.Ah{α:Type}{e:TypeId}{pp:Rp α}{E E':LH}{bk c n:Nat}{f:Array Value}{xs:List α}(h:WL e pp E bk c n f xs)(hle:Le E E'):WL e pp E' bk c n f xs:=⟨h.1.Ah hle,h.2⟩
theorem WL.at{α:Type}{e:TypeId}{pp:Rp α}{E:LH}{bk c n:Nat}{f:Array Value}{xs:List α}{m:Int}{x:α}(h:WL e pp E bk c n f xs)(hm:ix xs m=some x):
  ∃ws,pp.r E ws x∧(∀j w,ws[j]? =some w→f[m.toNat*pp.n+j]? =some w):=by
 obtain⟨ws,K,O,_,_⟩:=OL.again h.1 hm rfl;exact⟨ws,K,O⟩
theorem WL.put{α:Type}{e:TypeId}{pp:Rp α}{E:LH}{bk c n:Nat}{f:Array Value}{xs O:List α}{m:Int}{U x':α}{ws':List Value}(h:WL e pp E bk c n f xs)(V:O.length=n)(hm:ix O m=some U)(Y:pp.r E ws' x'):
  WL e pp E bk c n (A0 f (m.toNat*pp.n) ws') (xs.set m.toNat x')∧m.toNat*pp.n+pp.n≤f.size:=by
 obtain⟨K,rfl,Z⟩:=Gy hm;have ag:K<xs.length:=by rw [h.2,← V];exact(List.getElem?_eq_some_iff.1 Z).1
 have al:ix xs (K:Int)=some xs[K]:=by simp [ix,ag]
 obtain⟨ws,av,a0,am,ap⟩:=OL.again h.1 al rfl;exact⟨⟨ap x' ws' Y,by rw [List.length_set];exact h.2⟩,am⟩
theorem OL.cases{α:Type}{e:TypeId}{pp:Rp α}{E:LH}{a:Option Addr}{c:Nat}{seg:Seg}{xs:List α}(h:OL e pp E a c seg xs):
  (a=none∧c=0∧seg= []∧xs= [])∨∃bk f,a=some ⟨bk,0,none⟩∧seg= [(bk,.cells f e (0,0))]∧WL e pp E bk c xs.length f xs:=by
 have V:=h;obtain⟨wss,hg,Z,ag⟩:=h;rcases hg with⟨K,O,U,Y,al⟩ | ⟨bk,f,K,O,U⟩
 ·exact .inl ⟨K,U,Y,List.length_eq_zero_iff.1 O⟩
 ·subst K O;exact .inr ⟨bk,f,rfl,rfl,V,rfl⟩
theorem Gx{P:Program}{s:St}{ρ:Operand→Value}{x y:Operand}{d:Option Tmp}{t ty e:TypeId}{p:String}{af:Array Edge}{g:Option (Nat×Bool)}{kd:IntKind}{α:Type}{xs:List α}{xv:α}{m:Int}{bk c K n:Nat}(O:xs.length=n)(hm:ix xs m=some xv)(ht:P.underlying t=some (.slice e))(U:BC P e=some K)(V:ρ x= .slice (some ⟨bk,0,none⟩) n c)(Y:ρ y= .int kd m):
  Yl P ⟨d,.indexAddr t x y,ty,p,af,g⟩ ρ s (.pointer (some ⟨bk,m.toNat*K,none⟩)):=by
 subst O;exact Jp hm ht U V Y
theorem R1{P:Program}{s:St}{ρ:Operand→Value}{x:Operand}{d:Option Tmp}{t ty e:TypeId}{p:String}{af:Array Edge}{g:Option (Nat×Bool)}{α:Type}{xs:List α}{a:Option Addr}{n c:Nat}{ats:Array TypeId}(K:xs.length=n)(O:ats[0]? =some t)(ht:P.underlying t=some (.slice e))(U:ρ x= .slice a n c):
  Yl P ⟨d,.call ⟨.builtin .len,#[x],ats⟩,ty,p,af,g⟩ ρ s (.int .i64 (xs.length:Int)):=by
 subst K;exact Yl.len O ht U
section
variable {P:Program}{J:Judge P}{Q:Goroutine→St→Prop}{b:Frame}{n:Nat}{ds:List Deferred}{ops:Array Oper}{k:List Item}{cs:List Frame}{m fuel:Nat}{D:Nat→Bool}{listed:Array Bool}{L:Env}{s:St}{E E' H:LH}{S:List Seg}
variable {d:Option Tmp}{x y:Operand}{t u ty e:TypeId}{p:String}{af:Array Edge}{g:Option (Nat×Bool)}{v:Value}{i:Nat}{kd:IntKind}
theorem UX{f:FuncId}{args:Array Operand}{ats:Array TypeId}{vs:List Value}{R:Value→St→Prop}(U:s.q=false)(V:Region.ready .any ops listed= [i])
  (Y:ops[i]? =some ⟨d,.call ⟨.value x,args,ats⟩,ty,p,af,g⟩) (Z:ev L x=some (.func (.func f) #[] #[])) (ag:BE n d=true) (hw:Be L ops ⟨d,.call ⟨.value x,args,ats⟩,ty,p,af,g⟩=some true) (hb:DN P f=true) (al:evs L args.toList=some vs)
  (am:D7 J f vs.toArray s R) (h:∀v K,R v K→K.q=false∧(∀x o,(BK D s).E x=some o→(BK D K).E x=some o)∧AU J Q b n ds ops k cs m D fuel (Bg listed i) (AH L d v) K):
  AU J Q b n ds ops k cs m D (fuel+1) listed L s:=by
 refine AU.one U V Y (by simp [Dt,ag]) hw fun ρ O=>?_;have ap:args.map ρ=vs.toArray:=by
  rw [← FX O al];apply Array.ext';simp
 have av:ρ x= .func (.func f) #[] #[]:=O _ _ Z;simp only [execOp,resolve,bind,Sem.bind,Deferred.ofValue,av,pure,invoke];have e: #[]++args.map ρ++ #[]=vs.toArray:=by rw [ap];simp
 rw [e];refine Jk hb ?_;rw [Kv];exact⟨R,am,h⟩
theorem HG{bks:List Nat}{f:FuncId}{args:Array Operand}{ats:Array TypeId}{vs:List Value}{R:Value→LH→Seg→Prop}(ap:Gi S bks)(av:AK J f vs E [] R)(a0:Region.ready .any ops listed= [i])
  (a1:ops[i]? =some ⟨d,.call ⟨.value x,args,ats⟩,ty,p,af,g⟩) (K:ev L x=some (.func (.func f) #[] #[])) (a2:BE n d=true) (hw:Be L ops ⟨d,.call ⟨.value x,args,ats⟩,ty,p,af,g⟩=some true) (hb:DN P f=true) (a3:evs L args.toList=some vs) (Z:Av E H S)
  (a4:∀v E' seg',Le E E'→R v E' seg'→Av E' H (S++ [seg'])→AU J Q b n ds ops k cs m (A5 bks) fuel (Bg listed i) (AH L d v) (An E' H (S++ [seg']))):
  AU J Q b n ds ops k cs m (A5 bks) (fuel+1) listed L (An E H S):=by
 have a5:=D7.Je (av (Bf S.flatten H) trivial) (by rintro v s' ⟨E',B',_,_,_,rfl⟩;rfl);refine UX rfl a0 a1 K a2 hw hb a3 a5 ?_;rintro v be ⟨⟨E',B',hle,a6,a7,rfl⟩,w,a8⟩;have a9:mk E' (Bf S.flatten H) B'=mk E' H (B'++S.flatten):=by unfold mk;rw [Ft]
 have ba:Nd E' H S.flatten:=Nd.grow Z fun x K=>by
  have bb:=a8.d x K;have U:Bf B' (Bf S.flatten H) x=none:=bb;exact(Gu U).1
 have ag:Nd E' H (B'++S.flatten):=Nd.glue a7 ba;have al:(B'++S.flatten).Perm (S++ [B']).flatten:=by rw [GX];exact List.perm_append_comm
 have am:Av E' H (S++ [B']):=Nd.perm ag al;rw [a9,ES ag al];refine⟨rfl,fun x o K=>?_,a4 v E' B' hle a6 am⟩;by_cases V:A5 bks x=true
 ·obtain⟨j,o',Y⟩:=ap.mem x (by simpa [A5] using V);have U:(An E H S).get x=some o':=EA (i:=0) Z Y rfl;have bc:j<S.length:=(List.getElem?_eq_some_iff.1 Y).1;have bd:(An E' H (S++ [B'])).get x=some o':=EA (i:=0) am (by rw [List.getElem?_append_left bc];exact Y) rfl;have O:(if A5 bks x then(An E H S).get x else E x)=some o:=K
  show(if A5 bks x then(An E' H (S++ [B'])).get x else E' x)=some o
  rw [if_pos V] at O ⊢;rw [bd,← U];exact O
 ·have O:(if A5 bks x then(An E H S).get x else E x)=some o:=K
  show(if A5 bks x then(An E' H (S++ [B'])).get x else E' x)=some o
  rw [if_neg V] at O ⊢;exact hle _ _ O
end
section
variable {P:Program}{J:Judge P}{Q:Goroutine→St→Prop}{b:Frame}{n:Nat}{ds:List Deferred}{ops:Array Oper}{k:List Item}{cs:List Frame}{L:Env}{s:St}{E E' H:LH}{S:List Seg}
variable {d:Option Tmp}{x y:Operand}{t u ty e:TypeId}{p:String}{af:Array Edge}{g:Option (Nat×Bool)}{v:Value}{i:Nat}{rest:List Nat}{kd:IntKind}
theorem Kz{f:FuncId}{args:Array Operand}{ats:Array TypeId}{vs:List Value}{R:Value→LH→Seg→Prop}
  (O:AK J f vs E [] R) (U:ops[i]? =some ⟨d,.call ⟨.value x,args,ats⟩,ty,p,af,g⟩) (V:ev L x=some (.func (.func f) #[] ([]:List Value).toArray)) (hw:Be L ops ⟨d,.call ⟨.value x,args,ats⟩,ty,p,af,g⟩=some true) (Y:((b.kind != .early)&&BE n d)=true) (hb:DN P f=true)
  (Z:evs L args.toList=some vs) (ag:Av E H S) (al:∀v E' seg',Le E E'→R v E' seg'→Av E' H (S++ [seg'])→JL J Q b n (AH L d v) ds (.inRegion ops rest::k) cs (An E' H (S++ [seg']))):
  JL J Q b n L ds (.inRegion ops (i::rest)::k) cs (An E H S):=by
 have am:EU J (.func (.func f) #[] ([]:List Value).toArray) vs E [] R:=EU.ofFn hb (by rw [List.append_nil];exact O);have ap:Av E H (S++ [[]]):=by unfold Av at*;rw [GX,List.append_nil];exact ag
 have av:An E H S=An E H (S++ [[]]):=by unfold An;rw [GX,List.append_nil]
 rw [av];refine Jq (seg:= []) S.length am U hw Y V Z ap (by simp) fun v E' seg' hle a0 K=>?_;have a1:(S++ [([]:Seg)]).set S.length seg'=S++ [seg']:=HJ _ _ _ _;rw [a1] at K ⊢;exact al v E' seg' hle a0 K
end
def Hw(a b:Int):Option Int:=if b=0 then none else As (a.tdiv b)
def Lw(l:List Nat)(i:Int):Option Nat:=if 0≤i then l[i.toNat]? else none
section
variable {P:Program}{s:St}{ρ:Operand→Value}{x y z:Operand}{d:Option Tmp}{t u ty e:TypeId}{p:String}{af:Array Edge}{g:Option (Nat×Bool)}{v:Value}{kd kd':IntKind}{m m':Int}{a b:Nat}
theorem KZ{r:Int}(K:ρ x=iV m)(O:ρ y=iV m')(h:Hw m m'=some r):Yl P ⟨d,.binOp .quo t x y u,ty,p,af,g⟩ ρ s (iV r):=by
 unfold Hw at h;split at h
 ·cases h
 ·rename_i U;obtain⟨rfl,hb⟩:=Ks h;have:=Yl.quo (P:=P) (s:=s) (d:=d) (t:=t) (u:=u) (ty:=ty) (p:=p) (af:=af) (g:=g) K O U
  rwa [IM hb] at this
theorem TG{a:Nat}:IntKind.u8.wrap (a:Int)=((a % 256:Nat):Int):=by
 simp only [IntKind.wrap,IntKind.bits,IntKind.signed];simp
theorem Ws(K:ρ x= .int .u8 (a:Int))(O:ρ y= .int .u8 (b:Int)):Yl P ⟨d,.binOp .add t x y u,ty,p,af,g⟩ ρ s (.int .u8 (((a+b) % 256:Nat):Int)):=by
 have h:=Yl.add (P:=P) (s:=s) (d:=d) (t:=t) (u:=u) (ty:=ty) (p:=p) (af:=af) (g:=g) K O;rw [← Int.natCast_add,TG] at h;exact h
theorem XC(ht:P.underlying t=some (.int .u64))(hu:P.underlying u=some (.int .u8))(K:ρ x= .int .u64 (a:Int)):Yl P ⟨d,.convert t u x,ty,p,af,g⟩ ρ s (.int .u8 ((a % 256:Nat):Int)):=by
 have h:=Ew (P:=P) (s:=s) (d:=d) (ty:=ty) (p:=p) (af:=af) (g:=g) ht hu K
 rw [TG] at h;exact h
theorem R4{r:Int}(ht:P.underlying t=some (.int .u8))(hu:P.underlying u=some (.int .i64))(K:ρ x= .int .u8 (a:Int))(h:As ((a:Nat):Int)=some r):Yl P ⟨d,.convert t u x,ty,p,af,g⟩ ρ s (iV r):=by
 obtain⟨rfl,hb⟩:=Ks h;have h:=Ew (P:=P) (s:=s) (d:=d) (ty:=ty) (p:=p) (af:=af) (g:=g) ht hu K
 rwa [IM hb] at h
theorem V5(c:Nat)(K:ρ x= .int .u16 (a:Int))(O:ρ y= .int .u64 (c:Int))(V:c≤16):Yl P ⟨d,.binOp .shr t x y u,ty,p,af,g⟩ ρ s (.int .u16 ((a>>>c:Nat):Int)):=by
 have h:=Yl.shr (P:=P) (s:=s) (d:=d) (t:=t) (u:=u) (ty:=ty) (p:=p) (af:=af) (g:=g) K O (by omega);have e:min (c:Int).toNat IntKind.u16.bits=c:=by simp [IntKind.bits];omega
 rw [e,Int.fdiv_eq_ediv_of_nonneg _ (Int.pow_nonneg (by decide))] at h;have U:(a:Int) / 2 ^ c=((a>>>c:Nat):Int):=by rw [Nat.shiftRight_eq_div_pow,Int.natCast_ediv];rfl
 rw [U] at h;exact h
theorem Om{l:List Nat}{bs:ByteArray}{r:Nat}(O:(bs.data.toList.map UInt8.toNat==l)=true)(ht:P.underlying t=some .string)(U:ρ y= .int kd m)(V:ρ (.const (.string bs))= .string bs)(h:Lw l m=some r):Yl P ⟨d,.index t (.const (.string bs)) y,ty,p,af,g⟩ ρ s (.int .u8 (r:Int)):=by
 unfold Lw at h;split at h
 ·rename_i Y;have Z:=eq_of_beq O;rw [← Z,List.getElem?_map] at h;obtain⟨K,hb,rfl⟩:=Option.map_eq_some_iff.1 h;have ag:bs[m.toNat]? =some K:=by
   have al:bs.data[m.toNat]? =some K:=by rw [← Array.getElem?_toList];exact hb
   obtain⟨am,ap⟩:=Array.getElem?_eq_some_iff.1 al;rw [getElem?_pos bs m.toNat am];exact congrArg some ap
  simp [Yl,execOp,lp,pure,bind,Sem.bind,V,U,Instr.index,underlying,program,ht,Y,ag,asIntOf]
 ·cases h
end
end Pal
namespace Pal
open Go Go.Conc
section
variable {P:Program}(J:Judge P)(Q:Goroutine→St→Prop)(b:Frame)(ds:List Deferred)(ops:Array Oper)(k:List Item)(cs:List Frame)(X D:Nat→Bool)
def JB:Nat→Array Bool→Array Value→St→Prop
 | 0,listed,T,s=>Region.ready .any ops listed= []∧J.ok Q (G (fr b T ds (.inRegion ops []::k)) cs) s
 | fuel+1,listed,T,s=>
  Region.ready .any ops listed≠ []∧s.q=false∧∀i∈Region.ready .any ops listed,∀o,ops[i]? =some o→(∀c,o.op≠ .defer c)∧
   (Region.wanted o (yielded ops T)=false→JB fuel (Bg listed i) (CQ T o.dst undef) s)∧
   (Region.wanted o (yielded ops T)=true→X i=true→lp P (execOp (BN T) o) s (fun nx s'=>match nx with
    | .value v=>JB fuel (Bg listed i) (CQ T o.dst v) s'
    | .skip=>JB fuel (Bg listed i) (CQ T o.dst undef) s'
    | _=>False) (fun _ _=>False))∧
   (Region.wanted o (yielded ops T)=true→X i=false→lp P (execOp (BN T) o) (BK D s) (fun nx s'=>match nx with
    | .value v=>JB fuel (Bg listed i) (CQ T o.dst v) (CI D s s')
    | .skip=>JB fuel (Bg listed i) (CQ T o.dst undef) (CI D s s')
    | _=>False) (fun _ _=>False))
variable {J Q b ds ops k cs X D}
theorem Wv(V:b.kind≠ .early):∀(fuel t:Nat) (listed:Array Bool) (T:Array Value) (s:St),JB J Q b ds ops k cs X D fuel listed T s→
  J.ok Q (G (fr b T ds (.inRegion ops (Region.linearise.go .any ops fuel t listed [])::k)) cs) s:=by
 intro fuel
 induction fuel with
 | zero=>intro t listed T s h;simpa [Region.linearise.go] using h.2
 | succ fuel O=>
  intro t listed T s h;obtain⟨al,am,h⟩:=h;obtain⟨i,hi⟩:∃i,(Region.ready .any ops listed)[t % (Region.ready .any ops listed).length]? =some i:=by
   have:0<(Region.ready .any ops listed).length:=List.length_pos_iff.2 al;exact⟨_,List.getElem?_eq_getElem (Nat.mod_lt _ this)⟩
  have Y:=List.mem_of_getElem? hi;have hgo:Region.linearise.go .any ops (fuel+1) t listed []=i::Region.linearise.go .any ops fuel (t / (Region.ready .any ops listed).length) (Bg listed i) []:=by
   simp only [Region.linearise.go];change (match(Region.ready .any ops listed)[t % (Region.ready .any ops listed).length]? with
    | some i=>Region.linearise.go .any ops fuel (t / (Region.ready .any ops listed).length) (listed.setIfInBounds i true) [i]
    | none=> [].reverse)=_
   rw [hi];simp only;rw [linearise_go_acc];rfl
  rw [hgo];obtain⟨_,o,U,_⟩:=mem_ready.1 Y;obtain⟨Z,ap,av,a0⟩:=h i Y o U;cases hw:Region.wanted o (yielded ops T) with
  | false=>exact Judge.unwanted U hw (O _ _ _ _ (ap hw))
  | true=>
   cases ag:X i with
   | true=>
    refine Judge.oper U hw V (.inr Z) (Dr _ (av hw ag) ?_ (fun _ _ h=>h.elim));intro nx s' K;cases nx with
    | value v=>exact O _ _ _ _ K
    | skip=>exact O _ _ _ _ K
    | _=>exact K.elim
   | false=>
    refine Judge.RN D U hw V Z am (Dr _ (a0 hw ag) ?_ (fun _ _ h=>h));intro nx s' K;cases nx with
    | value v=>exact O _ _ _ _ K
    | skip=>exact O _ _ _ _ K
    | _=>exact K.elim
def waitAll(ops:Array Oper)(X:Nat→Bool)(i:Nat):Bool:=(List.range ops.size).all fun j=> !X j || waits ops ops.size j i
theorem JB.take{i:Nat}{oi:Oper}{w pure:Bool}{v:Value}(hi:ops[i]? =some oi)(bE:X i=false)(bu:(pure || waitAll ops X i)=true)(bF:Region.noSelect ops=true)(bG:∀c,oi.op≠ .defer c):
  ∀(fuel:Nat) (listed:Array Bool) (T:Array Value) (s:St),HN ops listed i oi=true→G2 ops listed=true→listed.size=ops.size→i∈Region.ready .any ops listed→s.q=false→Region.wanted oi (yielded ops T)=w→
   (w=true→∀s',s'.q=false→(pure=false→∀x o,(BK D s).E x=some o→s'.E x=some o)→Yl P oi (BN T) s' v)→
   JB J Q b ds ops k cs X D fuel (Bg listed i) (CQ T oi.dst (if w then v else undef)) s→JB J Q b ds ops k cs X D (fuel+1) listed T s:=by
 have al:∀(j:Nat) (Y:Oper),ops[j]? =some Y→∀cs b,Y.op≠Op.select cs b:=fun j Y h cs b=>Region.noSelect_spec bF j Y cs b h;intro fuel
 induction fuel with
 | zero=>?_
 | succ fuel a1=>?_
 all_goals
  intro listed T s bv bw a2 bf a3 hw am h;refine⟨fun e=>(by rw [e] at bf;cases bf),a3,fun j bx Y O=>?_⟩;by_cases a4:j=i
  ·subst a4;obtain rfl:Y=oi:=by rw [hi] at O;exact(Option.some.inj O).symm
   refine⟨bG,fun bi=>?_,fun ap K=>?_,fun ap K=>?_⟩
   ·rw [bi] at hw;subst hw;exact h
   ·rw [bE] at K;cases K
   ·rw [ap] at hw;subst hw;refine Dr _ (am rfl (BK D s) a3 fun _ _ _ h=>h).out ?_ (fun _ _ h=>h);rintro nx s' ⟨rfl,rfl⟩;rw [Kv];exact h
  ·
   have bz:j∈Region.ready .any ops (Bg listed i):=ready_mono bx a4;obtain⟨av,U,bA,bj⟩:=mem_ready.1 bx;obtain rfl:U=Y:=by rw [O] at bA;exact(Option.some.inj bA).symm
   have bl:=(mem_ready.1 bf).1;have bH:(U.after.any fun e=>Region.binds .any e&&e.on==i)=false:=by
    rw [Array.any_eq_false];intro e he K;simp only [Bool.and_eq_true,beq_iff_eq] at K;have:=bj _ (Array.getElem_mem he) K.1;rw [K.2] at this;have a0:listed.getD i true=listed.getD i false∨listed.size≤i:=by
     rcases Nat.lt_or_ge i listed.size with q | q
     ·left;simp [Array.getD_eq_getD_getElem?,q]
     ·exact .inr q
    rcases a0 with a0 | a0
    ·rw [bl,this] at a0;cases a0
    ·rw [Array.getD_eq_getD_getElem?,Array.getElem?_eq_none a0] at this;simp at this
   have bI:oi.apart ops U=true:=by
    have bm:j<ops.size:=(Array.getElem?_eq_some_iff.1 O).1;have:=List.all_eq_true.1 bv j (List.mem_range.2 bm);simp only [Bool.or_eq_true,beq_iff_eq] at this;rcases this with(q | q) | q
    ·exact absurd q a4
    ·rw [av] at q;cases q
    ·rw [O] at q;simp only [Bool.or_eq_true] at q;rw [bH] at q;exact q.resolve_left (by simp)
   obtain⟨bJ,a5,a6⟩:=Oper.apart_spec bI;obtain⟨p1,p2⟩:=GW (ops:=ops) (T:=T) (v:=if w then v else undef) (al j U O) bJ
   first
    | exact absurd bz (by rw [h.1];simp)
    | (
     obtain⟨bU,_,h⟩:=h
     obtain⟨bK,bi,bL,bM⟩:=h j bz U O
     have a7:Bg (Bg listed i) j=Bg (Bg listed j) i:=by
      unfold Bg;exact Array.setIfInBounds_comm _ _ (Ne.symm a4)
     have a8:i∈Region.ready .any ops (Bg listed j):=ready_mono bf (Ne.symm a4)
     have a9:HN ops (Bg listed j) i oi=true:=by
      refine List.all_eq_true.2 fun x K=>?_
      have:=List.all_eq_true.1 bv x K
      simp only [Bool.or_eq_true,beq_iff_eq] at this ⊢
      rcases this with(q | q) | q
      ·exact .inl (.inl q)
      ·left;right
       by_cases e:j=x
       ·subst e;rw [av] at q;cases q
       ·rw [Bg,getD_set_ne true e];exact q
      ·exact .inr q
     have ba:(Bg listed j).size=ops.size:=by unfold Bg;simpa using a2
     have bb:G2 ops (Bg listed j)=true:=by
      refine List.all_eq_true.2 fun x K=>?_
      cases bn:ops[x]? with
      | none=>simp
      | some bN=>
       simp only [Bool.or_eq_true,Bool.not_eq_true']
       by_cases e:j=x
       ·subst e
        obtain rfl:bN=U:=by rw [O] at bn;exact(Option.some.inj bn).symm
        right
        refine Array.all_eq_true'.2 fun e he=>?_
        cases hb:Region.binds .any e with
        | false=>simp
        | true=>
         have:=bj e he hb
         by_cases bc:j=e.on
         ·rw [← bc] at this
          have bo:j<listed.size:=by rw [a2];exact(Array.getElem?_eq_some_iff.1 O).1
          simp [Array.getD_eq_getD_getElem?,bo] at this av
          rw [av] at this;cases this
         ·rw [Bg,getD_set_ne false bc];simpa using this
       ·cases bB:(Bg listed j).getD x false with
        | false=>exact .inl rfl
        | true=>
         right
         have bO:listed.getD x false=true:=by rw [Bg,getD_set_ne false e] at bB;exact bB
         refine Array.all_eq_true'.2 fun bp he=>?_
         cases hb:Region.binds .any bp with
         | false=>simp
         | true=>
          have:=Od bw bn bO bp he hb
          by_cases bc:j=bp.on
          ·rw [← bc] at this
           have bo:j<listed.size:=by rw [a2];exact(Array.getElem?_eq_some_iff.1 O).1
           simp [Array.getD_eq_getD_getElem?,bo] at this av
           rw [av] at this;cases this
          ·rw [Bg,getD_set_ne false bc];simpa using this
     refine⟨bK,fun bP=>?_,fun bq bg=>?_,fun bq bg=>?_⟩
     ·have:=bi (by rw [p2];exact bP)
      rw [a7,HH a5] at this
      obtain⟨q1,q2⟩:=GW (ops:=ops) (T:=T) (d:=U.dst) (v:=undef) (o:=oi) (al i oi hi) a6
      exact a1 _ _ _ a9 bb ba a8 a3 (by rw [q2];exact hw) (fun V s' bQ bh=>by unfold Yl;rw [q1];exact(am V s' bQ bh).out) this
     ·
      have bR:pure=true:=by
       cases bS:pure with
       | true=>rfl
       | false=>
        exfalso
        rw [bS,Bool.false_or] at bu
        have bm:j<ops.size:=(Array.getElem?_eq_some_iff.1 O).1
        have ap:=List.all_eq_true.1 bu j (List.mem_range.2 bm)
        rw [bg] at ap
        simp only [Bool.not_true,Bool.false_or] at ap
        rcases P4 bw _ j U O (fun e he hb=>bj e he hb) ap with q | ⟨x,q1,q2⟩
        ·have bT:i<listed.size:=by rw [a2];exact(Array.getElem?_eq_some_iff.1 hi).1
         simp [Array.getD_eq_getD_getElem?,bT] at q bl
         rw [bl] at q;cases q
        ·have:¬x<listed.size:=by rw [a2];intro K;simp [K] at q1
         simp [Array.getD_eq_getD_getElem?,this] at q2
      have bd:=NR _ (bL (by rw [p2];exact bq) bg)
      rw [p1] at bd
      refine Dr _ bd ?_ (fun _ _ h=>h)
      rintro nx s' ⟨K,bh,br⟩
      have be:s'.q=false:=br.trans a3
      have bC:pure=false→∀{α:Prop},α:=fun e=>by rw [bR] at e;cases e
      cases nx with
      | value u=>
       simp only at K ⊢
       rw [a7,HH a5] at K
       obtain⟨q1,q2⟩:=GW (ops:=ops) (T:=T) (d:=U.dst) (v:=u) (o:=oi) (al i oi hi) a6
       exact a1 _ _ _ a9 bb ba a8 be (by rw [q2];exact hw) (fun V s2 Z ag=>by unfold Yl;rw [q1];exact(am V s2 Z (fun e=>bC e)).out) K
      | skip=>
       simp only at K ⊢
       rw [a7,HH a5] at K
       obtain⟨q1,q2⟩:=GW (ops:=ops) (T:=T) (d:=U.dst) (v:=undef) (o:=oi) (al i oi hi) a6
       exact a1 _ _ _ a9 bb ba a8 be (by rw [q2];exact hw) (fun V s2 Z ag=>by unfold Yl;rw [q1];exact(am V s2 Z (fun e=>bC e)).out) K
      | _=>exact K.elim
     ·have bd:=NR _ (bM (by rw [p2];exact bq) bg)
      rw [p1] at bd
      refine Dr _ bd ?_ (fun _ _ h=>h)
      rintro nx s' ⟨K,bh,br⟩
      have bD:=P9 (D:=D) bh
      have be:(CI D s s').q=false:=by show s'.q=false;rw [br];exact a3
      cases nx with
      | value u=>
       simp only at K ⊢
       rw [a7,HH a5] at K
       obtain⟨q1,q2⟩:=GW (ops:=ops) (T:=T) (d:=U.dst) (v:=u) (o:=oi) (al i oi hi) a6
       exact a1 _ _ _ a9 bb ba a8 be (by rw [q2];exact hw) (fun V s2 Z ag=>by unfold Yl;rw [q1];exact(am V s2 Z (fun e=>by rw [bD] at ag;exact ag e)).out) K
      | skip=>
       simp only at K ⊢
       rw [a7,HH a5] at K
       obtain⟨q1,q2⟩:=GW (ops:=ops) (T:=T) (d:=U.dst) (v:=undef) (o:=oi) (al i oi hi) a6
       exact a1 _ _ _ a9 bb ba a8 be (by rw [q2];exact hw) (fun V s2 Z ag=>by unfold Yl;rw [q1];exact(am V s2 Z (fun e=>by rw [bD] at ag;exact ag e)).out) K
      | _=>exact K.elim)
end
section
variable {P:Program}(J:Judge P)(Q:Goroutine→St→Prop)(b:Frame)(n:Nat)(ds:List Deferred)(ops:Array Oper)(k:List Item)(cs:List Frame)(X D:Nat→Bool)
def Fz(fuel:Nat)(listed:Array Bool)(L:Env)(s:St):Prop:=∀T,Has n L T→JB J Q b ds ops k cs X D fuel listed T s
end
def J7(ops:Array Oper)(listed:Array Bool)(xs:List Nat)(pure:Bool)(i:Nat):Bool:=match ops[i]? with
 | some oi=> !A5 xs i&&(pure || waitAll ops (A5 xs) i)&&Region.noSelect ops&& !Dt oi.op&&HN ops listed i oi&&G2 ops listed&&listed.size==ops.size&&(Region.ready .any ops listed).contains i
 | none=>false
section
variable {P:Program}{J:Judge P}{Q:Goroutine→St→Prop}{b:Frame}{n:Nat}{ds:List Deferred}{ops:Array Oper}{k:List Item}{cs:List Frame}{fuel:Nat}{X D:Nat→Bool}{listed:Array Bool}{L:Env}{s:St}{E H:LH}{S:List Seg}{xl bks:List Nat}
variable {d:Option Tmp}{x y:Operand}{t u ty e:TypeId}{p:String}{af:Array Edge}{g:Option (Nat×Bool)}{v:Value}{i:Nat}{kd:IntKind}
theorem GZ(xl bks:List Nat){id:Nat}(hm:P.follows .mixedOrders=true)(K:(b.kind != .early)=true)
  (h:Fz J Q b n ds ops k cs (A5 xl) (A5 bks) ops.size (Array.replicate ops.size false) L (An E H S)):JL J Q b n L ds (.code (.region id ops true)::k) cs (An E H S):=
 R7 rfl hm fun t T O=>Wv (by simpa using K) ops.size t _ T _ (h T O)
theorem Sm{oi:Oper}(i:Nat)(pure:Bool)(hi:ops[i]? =some oi)(K:J7 ops listed xl pure i=true)(V:s.q=false)
  (hw:Be L ops oi=some true) (Y:BE n oi.dst=true) (Z:∀ρ,EE L ρ→∀s':St,(pure=false→∀x o,(BK D s).E x=some o→s'.E x=some o)→Yl P oi ρ s' v)
  (h:Fz J Q b n ds ops k cs (A5 xl) D fuel (Bg listed i) (AH L oi.dst v) s):Fz J Q b n ds ops k cs (A5 xl) D (fuel+1) listed L s:=fun T O=>by
 simp only [J7,hi,Bool.and_eq_true] at K
 obtain⟨⟨⟨⟨⟨⟨⟨ag,al⟩,am⟩,U⟩,ap⟩,av⟩,a0⟩,a1⟩:=K
 refine JB.take (w:=true) (v:=v) (pure:=pure) hi (by simpa using ag) al am (fun c K=>by rw [K] at U;simp [Dt] at U) fuel listed T s ap av (by simpa using a0) (by simpa using a1) V (Df O hw) (fun _ s' a3 a2=>Z _ O.Gl s' a2) ?_
 exact h _ (O.put Y v)
theorem JB.fin(K:Region.ready .any ops listed= [])(h:JL J Q b n L ds k cs s):Fz J Q b n ds ops k cs X D 0 listed L s:=fun T O=>⟨K,JL.done h T O⟩
theorem JB.store{bk off:Nat}{c:Array Value}(i j:Nat)(U:Region.ready .any ops listed= [i])(ag:A5 xl i=true)(al:ops[i]? =some ⟨d,.store t x y,ty,p,af,g⟩)(hw:Be L ops ⟨d,.store t x y,ty,p,af,g⟩=some true)(am:BE n d=true)(ap:Av E H S)
  (av:ev L x=some (.pointer (some ⟨bk,off,none⟩))) (a0:ev L y=some v) (a1:BC P t=some v.cells.size) (a2:∀u∈v.cells.toList,CP u=true) (V:S[j]? =some [(bk,.cells c e (0,0))]) (hle:off+v.cells.size≤c.size)
  (h:Av E H (S.set j [(bk,.cells (A0 c off v.cells.toList) e (0,0))])→Fz J Q b n ds ops k cs (A5 xl) D fuel (Bg listed i) (AH L d undef) (An E H (S.set j [(bk,.cells (A0 c off v.cells.toList) e (0,0))]))):
  Fz J Q b n ds ops k cs (A5 xl) D (fuel+1) listed L (An E H S):=fun T K=>by
 refine⟨by rw [U];simp,rfl,fun ba O o' Y=>?_⟩
 rw [U] at O
 simp at O
 subst O
 obtain rfl:o'=⟨d,.store t x y,ty,p,af,g⟩:=by rw [al] at Y;exact(Option.some.inj Y).symm
 have a3:=Df K hw;refine⟨fun c a4=>(by cases a4),fun e=>?_,fun _ _=>?_,fun _ e=>?_⟩
 ·rw [a3] at e;cases e
 ·obtain⟨a5,a6⟩:=Ge ap V;rw [a5];show lp P (do Instr.storeAt t (BN T x) (BN T y);pure Next.skip) _ _ _
  rw [K.ev av,K.ev a0];refine AE _ _ ?_;unfold Instr.storeAt;simp only [Instr.sureAddr,bind,Sem.bind,pure];refine Oa (pl:=(S.set j []).flatten.length) a1 a2 a6 (c:=c) (e:=e) (by simp) hle fun Z=>?_;have a7:((S.set j []).flatten++ [(bk,Obj.cells c e (0,0))]).set (S.set j []).flatten.length (bk,.cells (A0 c off v.cells.toList) e (0,0))=(S.set j []).flatten++ [(bk,.cells (A0 c off v.cells.toList) e (0,0))]:=HJ _ _ _ _;rw [a7] at Z ⊢;obtain⟨a8,a9⟩:=Ho V Z;rw [a8];exact h a9 _ (K.put am undef)
 ·rw [ag] at e;cases e
end
end Pal
namespace Pal
open Go Go.Conc
theorem Vi{E H:LH}{S:List Seg}{bks:List Nat}{bk o:Nat}{l ws:List Value}{e:TypeId}{f:Nat×Nat}{s':St}{w:Value}(j:Nat)(K:Av E H S)(O:S[j]? =some [(bk,.cells (l++ws).toArray e f)])(U:A5 bks bk=true)(hs:∀x o,(BK (A5 bks) (An E H S)).E x=some o→s'.E x=some o)(V:ws[o]? =some w):s'.cell? ⟨bk,l.length+o,none⟩=some w:=by
 have:=Ou j K O U hs o w V
 rwa [Dj rfl] at this
section
variable {P:Program}{E H:LH}{B:List (Nat×Obj)}{t e ty:TypeId}
theorem TX{ats:Array TypeId}{a:Option Addr}{l K O m cx:Nat}{ax:Option Addr}{xs ys:List Value}{z:Value}{Q:Value→St→Prop}{X:Halt→St→Prop}
  (a4:ats[0]? =some t) {t1 a5:TypeId} (a6:ats[1]? =some t1) (a7:P.underlying t1=some (.slice a5)) (ht:P.underlying t=some (.slice e)) (a8:BC P e=some K) (hb:Ez P e=some O) (a9:zeroOf P e=some z) (ba:z.cells.size=K)
  (bb:Nd E H B) (al:GB (mk E H B) (.slice a l l) K xs)
  (Y:GB (mk E H B) (.slice ax m cx) K ys) (bl:∀w∈ys,CP w=true) (bm:0<O) (bn:l+m≤2 ^ 40) (bc:O≤64)
  (a2:m=0→Q (.slice a (l+m) l) (mk E H B))
  (bd:∀r Z am,l+m≤am→Z.size=am*K→Z.toList.take ((l+m)*K)=xs++ys→Nd E H (B++ [(r,.cells Z e (0,0))])→Q (.slice (some ⟨r,0,none⟩) (l+m) am) (mk E H (B++ [(r,.cells Z e (0,0))]))):
  lp P (Builtin.append_ ats ty #[.slice a l l,.slice ax m cx]) (mk E H B) Q X:=by
 unfold Builtin.append_;simp only [a4,a6,List.getElem?_toArray,List.getElem?_cons_zero,List.getElem?_cons_succ];refine AE _ _ (De ht ?_);refine AE _ _ (EP a8 ?_);refine AE _ _ (De a7 ?_);simp only [Hg,Bool.false_eq_true,if_false,Builtin.lenOf,Bool.not_false,if_true];have ag:ys.length=m*K:=by
  cases ax with
  | none=>obtain⟨U,V⟩:=Y;subst U V;simp
  | some ad=>exact Y.2.1
 have ap:xs.length=l*K:=by
  cases a with
  | none=>obtain⟨U,V⟩:=al;subst U V;simp
  | some ad=>exact al.2.1
 obtain⟨c,bo⟩:∃c,c=l:=⟨_,rfl⟩;split
 ·rename_i bp;have hm:m=0:=by omega
  have be:ys= []:=List.eq_nil_of_length_eq_zero (by rw [ag,hm];simp);refine AE _ _ (Jj ⟨ax,cx,rfl⟩ Y ?_);subst be;cases a with
  | none=>exact a2 hm
  | some ad=>exact a2 hm
 ·rename_i bq;have U:¬(((l+m:Nat):Int)>IntKind.i64.max∧(False∨O=0)):=by rintro⟨_,h | h⟩ <;> omega
  have V:¬(Builtin.nextslicecap (l+m) l*O>2 ^ 48):=by
   have:=Qg (need:=l+m) (old:=l) (by omega);have br:Builtin.nextslicecap (l+m) l*O≤(2*(l+m)+768)*64:=Nat.mul_le_mul this bc;omega
  obtain⟨inf,av,a0⟩:=Mi hb;refine AE _ _ (Ig av ?_);rw [a0,if_neg U];refine AE _ _ (Ig av ?_);rw [a0,if_neg V];refine AE _ _ ?_;simp only [choose,lp,Question.forced,Bool.false_eq_true,if_false];refine⟨rfl,fun bf=>?_⟩;generalize bg:(Question.appendCap (l+m) l e).cut bf=a1;have bh:l+m≤a1:=by rw [← bg];simp [Question.cut]
  refine AE _ _ (Ig av ?_);rw [a0];have bi:∀{α:Type} {f:Unit→Sem α} {Q:α→St→Prop},lp P (f ()) (mk E H B) Q X→lp P (askRoom (a1*O)>>=f) (mk E H B) Q X:=by
   intro α f Q a3;refine AE _ _ ?_;unfold askRoom;split
   ·exact⟨.inl ⟨rfl,rfl⟩,a3⟩
   ·exact a3
  refine bi (AE _ _ (Jj ⟨a,l,rfl⟩ al ?_));refine AE _ _ (Jj ⟨ax,cx,rfl⟩ Y ?_);refine AE _ _ (Gb a9 ?_);refine AE _ _ (GV bb fun r bj=>?_);refine bd r _ a1 bh ?_ ?_ bj
  ·simp only [Array.size_append,List.size_toArray,PX,ba,ap,ag];rw [← Nat.add_mul,← Nat.add_mul];congr 1;omega
  ·simp only [Array.toList_append];rw [List.take_append_of_le_length (by simp [ap,ag,Nat.add_mul])];rw [List.take_of_length_le (by simp [ap,ag,Nat.add_mul])]
end
theorem Al.spot{α:Type}{pp:Rp α}{E:LH}{a:Option Addr}{c:Nat}{xs:List α}(h:Al pp E a c xs):∀ad,a=some ad→ad.spot=none∨c=0:=fun ad K=>by
 rcases h.2 with⟨_,h⟩ | ⟨bk,off,h,_⟩
 ·exact h ad K
 ·rw [h] at K;cases K;exact .inl rfl
theorem Al.full{α:Type}{pp:Rp α}{E:LH}{a:Option Addr}{c:Nat}{xs:List α}(h:Al pp E a c xs):Al pp E a xs.length xs:=⟨Nat.le_refl _,h.2.imp (fun⟨h,_⟩=>⟨h,fun _ _=> .inr (by rw [h];rfl)⟩) id⟩
theorem Al.OM{α:Type}{pp:Rp α}{E H:LH}{B:List (Nat×Obj)}{a:Option Addr}{c:Nat}{ys:List α}(Z:Al pp E a c ys):
  ∃K:List (List Value),K.length=ys.length∧(∀(i:Nat) x ws,ys[i]? =some x→K[i]? =some ws→pp.r E ws x)∧GB (mk E H B) (.slice a ys.length c) pp.n K.flatten∧∀w∈K.flatten,CP w=true:=by
 obtain⟨K,U,Y,V⟩:=Z.rows;have ag:=Ip U Y;refine⟨K,U,Y,?_,fun w hw=>?_⟩
 ·rcases V with⟨V,a1⟩ | ⟨bk,off,rfl,V⟩
  ·subst V;have:K= []:=List.eq_nil_of_length_eq_zero U;subst this;cases a with
   | none=>exact⟨rfl,rfl⟩
   | some ad=>exact⟨.inr rfl,by simp,Nat.zero_le _,fun q w O=>by simp at O⟩
  ·refine⟨.inl rfl,by rw [Ma ag,U],Z.1,fun q w O=>?_⟩;obtain⟨q1,m,ws,al,am,ap⟩:=N9 ag O;have:=(V q1 ws al).cell (H:=H) (B:=B) am;subst ap;rw [← Nat.add_assoc];exact this
 ·obtain⟨us,av,hw⟩:=List.mem_flatten.1 hw;obtain⟨q,O⟩:=List.mem_iff_getElem?.1 av;have a0:q<ys.length:=by rw [← U];exact(List.getElem?_eq_some_iff.1 O).1
  exact pp.one (Y q _ us (List.getElem?_eq_getElem a0) O) w hw
theorem Y8{P:Program}{s:St}{t:TypeId}{a b:Bool}(ht:P.underlying t=some .bool){Q:Bool→St→Prop}{X:Halt→St→Prop}(h:Q (a==b) s):lp P (Op.equal t (.bool a) (.bool b)) s Q X:=by
 unfold Op.equal Op.maxDepth Op.equalIn;exact AE _ _ (De ht h)
theorem W1{P:Program}{s:St}{ρ:Operand→Value}{x y:Operand}{d:Option Tmp}{t u ty:TypeId}{p:String}{af:Array Edge}{g:Option (Nat×Bool)}{a b:Bool}(ht:P.underlying t=some .bool)(K:ρ x= .bool a)(O:ρ y= .bool b):Yl P ⟨d,.binOp .neq t x y u,ty,p,af,g⟩ ρ s (.bool (a != b)):=by
 refine EY (sm:=do eqGuard .neq t x y (ρ x) (ρ y);binOp .neq t (ρ x) (ρ y)) rfl ?_
 rw [K,O];have hg:lp P (eqGuard .neq t x y (.bool a) (.bool b)) s (fun _ s'=>s'=s) (fun _ _=>False):=by simp [eqGuard,lp,pure]
 refine AE _ _ (Dr _ hg ?_ (fun _ _ h=>h));rintro _ _ rfl;have hb:binOp .neq t (.bool a) (.bool b)=(do pure (.bool (!(← Op.equal t (.bool a) (.bool b))))):=rfl
 rw [hb];exact AE (x:=Op.equal t (.bool a) (.bool b)) _ (Y8 ht ⟨rfl,rfl⟩)
section
variable {P:Program}{J:Judge P}{Q:Goroutine→St→Prop}{b:Frame}{n:Nat}{ds:List Deferred}{ops:Array Oper}{k:List Item}{cs:List Frame}{L:Env}{s:St}{E E' H:LH}{S:List Seg}
variable {d:Option Tmp}{x y z1:Operand}{t u ty e:TypeId}{p:String}{af:Array Edge}{g:Option (Nat×Bool)}{v:Value}{i:Nat}{rest:List Nat}{kd:IntKind}{ρ:Operand→Value}
theorem Ui{a:Option Addr}{l c K:Nat}(O:∀ad,a=some ad→ad.spot=none∨c=0)(U:l≤c)(ht:P.underlying t=some (.slice e))(V:BC P e=some K)(Y:ρ x= .slice a l c)(Z:ρ y=iV (l:Int))(ag:ρ z1=iV (l:Int)):
  Yl P ⟨d,.slice t x none (some y) (some z1),ty,p,af,g⟩ ρ s (.slice a l l):=by
 have h:=Yl.slice (P:=P) (s:=s) (d:=d) (ty:=ty) (p:=p) (af:=af) (g:=g) (olo:=none) (ohi:=some y) (omx:=some z1) (lo:=0) (hi:=l) (mx:=l) ht V Y ag Z rfl U (Nat.le_refl _) (Nat.zero_le _);have al:(if l=0 then a else a.map (·.add (0*K)))=a:=by
  split
  ·rfl
  ·cases a with
   | none=>rfl
   | some ad=>
    have:=(O ad rfl).resolve_right (by omega);simp only [Option.map_some,Nat.zero_mul];rw [Dj this];obtain⟨b,o,sp⟩:=ad;simp only at this;subst this;simp
 rw [al] at h;simpa using h
theorem UA{α:Type}{pp:Rp α}{t1:TypeId}{V c cx:Nat}{a ax:Option Addr}{xs ys Y:List α}{ats:Array TypeId}{z:Value}(U:CF xs ys=some Y)
  (a1:ops[i]? =some ⟨d,.call ⟨.builtin .append,#[x,y],ats⟩,ty,p,af,g⟩) (hw:Be L ops ⟨d,.call ⟨.builtin .append,#[x,y],ats⟩,ty,p,af,g⟩=some true) (a2:CK b n ⟨d,.call ⟨.builtin .append,#[x,y],ats⟩,ty,p,af,g⟩=true)
  (a3:ev L x=some (.slice a xs.length xs.length)) (a4:ev L y=some (.slice ax ys.length cx)) (a5:ats[0]? =some t) (a6:ats[1]? =some t1) (ht:P.underlying t=some (.slice e)) (a7:P.underlying t1=some (.slice e)) (a8:BC P e=some pp.n) (hb:Ez P e=some V) (a9:zeroOf P e=some z) (ba:z.cells.size=pp.n)
  (bb:0<V) (bc:V≤64) (Z:Al pp E a c xs) (bd:Al pp E ax cx ys) (ag:Av E H S)
  (h:∀E' al K,Le E E'→Al pp E' al K Y→Av E' H (S++ [[]])→JL J Q b n (AH L d (.slice al Y.length K)) ds (.inRegion ops rest::k) cs (An E' H (S++ [[]]))):
  JL J Q b n L ds (.inRegion ops (i::rest)::k) cs (An E H S):=by
 unfold CF at U;split at U
 rotate_left
 ·cases U
 rename_i be;cases U;obtain⟨wss,am,bf,bg,bA⟩:=Al.OM (H:=H) (B:=S.flatten) Z.full;obtain⟨bh,bi,bj,bl,bm⟩:=Al.OM (H:=H) (B:=S.flatten) bd;have hlen:(xs++ys).length=xs.length+ys.length:=by simp
 show JL J Q b n L ds (.inRegion ops (i::rest)::k) cs (mk E H S.flatten);refine JL.op a1 hw a2 fun ρ ap=>?_;rw [L5,ap x _ a3,ap y _ a4];refine AE _ _ (TX a5 a6 a7 ht a8 hb a9 ba ag bg bl bm bb be bc ?_ ?_)
 ·intro hm;have bn:ys= []:=List.eq_nil_of_length_eq_zero hm;subst bn;have bo:Av E H (S++ [[]]):=by unfold Av at*;rw [GX,List.append_nil];exact ag
  have bp:mk E H S.flatten=An E H (S++ [[]]):=by unfold An;rw [GX,List.append_nil]
  rw [bp];have:=h E a xs.length (Le.refl _) (by rw [List.append_nil];exact Z.full) bo;rw [hlen] at this;exact this
 ·intro r O K bq br bu bv;have bw:OL e pp E (some ⟨r,0,none⟩) K [(r,.cells O e (0,0))] (xs++ys):=
   ⟨wss++bh,.inr ⟨r,O,rfl,rfl,br,by rw [hlen];exact bq,by rw [hlen,List.flatten_append];exact bu.symm⟩,by simp [am,bi],Of am bf bj⟩
  have av:=En (S:=S) (seg:= [(r,.cells O e (0,0))]) bv;show JL J Q b n _ ds _ cs (mk E H (S.flatten++ [(r,.cells O e (0,0))]));rw [av.1];refine BT S.length bw av.2 (by simp) fun E' hle bx a0=>?_;have bz:(S++ [[(r,Obj.cells O e (0,0))]]).set S.length []=S++ [[]]:=HJ _ _ _ _;rw [bz] at a0 ⊢;have:=h E' (some ⟨r,0,none⟩) K hle bx a0;rw [hlen] at this;exact this
end
end Pal
namespace Pal
open Go Go.Conc
open Go.ConcN (sumTo upd sumTo_upd upd_ne upd_same)
def KV(P:Program)(R:Value→St→Prop):GP:=fun g s=>
 g.status= .running∧∃v,R v s∧∀w,stepG P true g w= .ended (.done v) w #[]
section
variable {P:Program}{R:Value→St→Prop}{J:Judge P}{n:Nat}{L:Env}{s:St}{b:Frame}
theorem JO.end{fn:Func}{t:Tmp}{v:Value}(K:b.kind= .normal)(hi:P.inits.idxOf? b.fn=none)(O:P.funcs[b.fn]? =some fn)(U:fn.results= #[.tmp t])(V:look L t=some v)(Y:R v s):JO J (KV P R) b n L [] [] s:=fun T Z todo=>by
 refine J.stop ⟨rfl,v,Y,fun w=>?_⟩
 have e:results fn T=Sem.pure v:=by
  have:=Z.at_ t v V;simp only [results,U,Array.mapM_eq_mapM_toList];show Sem.pure (T.getD t undef)=_;rw [this]
 have ag:(results fn T).run P w= .ok v w:=by rw [e];rfl
 have al:(results fn T).events P w #[]= #[]:=by rw [e];simp [Sem.events_pure']
 simp [G,stepG,unwind,Ex,O,ag,al,doReturn,K,GStep.after,hi,seen_none]
end
section
variable {P:Program}{R:Value→St→Prop}
def Li(P:Program)(R:Value→St→Prop)(K:World)(s₀:St)(v:Value)(w':World):Prop:=
 ∃s,R v s∧Fits s w'∧(∀b o,s₀.E b=some o→s.E b=some o)∧w'.tape=K.tape∧w'.os=K.os∧w'.output=K.output
def Py(P:Program)(R:Value→St→Prop)(K:World)(s₀:St)(O:Nat)(m:Machine)(t:Trace):Prop:=
 ∃gs w sl q Sh g s,m=crowd gs w sl∧Gr P gs w t q Sh g s∧KV P R g s∧O=sumTo gs.size q∧(∀b o,s₀.E b=some o→s.E b=some o)∧w.tape=K.tape∧w.os=K.os∧w.output=K.output
theorem V3{ap:World}{s₀:St}(a2:Nat)(m:Machine)(t:Trace)(h:Py P R ap s₀ a2 m t):
  (∃o w ops,stepT P m=(.ended o w,ops)∧Good P (Li P R ap s₀) m o w (t++ops))∨(∃m' ops a3,stepT P m=(.next m',ops)∧a3<a2∧Py P R ap s₀ a3 m' (t++ops)):=by
 obtain⟨gs,w,sl,q,Sh,g,s,rfl,hC,bg,rfl,a4,a5,a6,a7⟩:=h;obtain⟨Z,v,a8,a9⟩:=bg;have bh:∀x∈gs,awake x:=by
  intro x V;obtain⟨i,hi,rfl⟩:=Array.mem_iff_getElem.1 V;rcases Nat.eq_zero_or_pos i with rfl | av
  ·have:gs[0]=g:=by simpa [Array.getElem?_eq_getElem hi] using hC.main
   rw [this];exact awake_of (.inl Z)
  ·exact awake_of ((hC.lv.old i _ av (Array.getElem?_eq_getElem hi)).status.elim .inl fun x=> .inr (.inr x))
 obtain⟨i,x,d,ba,hi,V,bb⟩:=crowd_pick (P:=P) (w:=w) (sl:=sl) bh ⟨0,g,hC.main,Z⟩;have bc:=hC.at_ d;have bi:0<gs.size:=(Array.getElem?_eq_some_iff.1 hC.main).1;have bj:∀(a:Nat) (fn:FuncId) (pos:String),MemOp.ofEvents a fn pos #[]= #[]:=fun a fn pos=>by rw [ofEvents_eq];simp
 rcases Nat.eq_zero_or_pos i with rfl | av
 ·obtain rfl:x=g:=by rw [hC.main] at hi;exact(Option.some.inj hi).symm
  have ag:=runT_many_ended (P:=P) (sl:=ba) (i:=0) hi (show stepG P (0==0) x (w.at d)=_ from a9 (w.at d));rw [bj] at ag;refine .inl ⟨_,_,_,bb.trans ag,v,rfl,⟨s,a8,bc.CY.fits 0 bi,a4,a5,a6,a7⟩,?_,?_,⟨fun y K=>?_,rfl⟩,fun j y K O=>?_⟩
  ·simpa using hC.CY.clean
  ·simpa using hC.over
  ·obtain⟨j,O⟩:=List.mem_iff_getElem?.1 K;rw [List.getElem?_drop] at O;exact⟨_,(hC.lv.old (1+j) y (by omega) (by simpa [crowd] using O)).leaves⟩
  ·have Y:=hC.lv.old j y (by omega) K;exact⟨q j,by simp only [Array.append_empty];exact Y.hears w⟩
 ·have Y:=hC.lv.old i x av hi;have bl:(i==0)=false:=by simp;omega
  have bd:i<gs.size:=(Array.getElem?_eq_some_iff.1 hi).1;cases a0:q i with
  | zero=>rw [a0] at Y;rw [Y.1] at V;cases V
  | succ k=>
   rw [a0] at Y;rcases Y with⟨bm,_⟩ | ⟨_,x',es,hm,bn,bo⟩
   ·rw [bm] at V;cases V
   have bu:sumTo gs.size (upd q i k)+(k+1)=sumTo gs.size q+k:=by
    have:=sumTo_upd q k id bd;simpa [a0] using this
   have ag:=runT_crowd_go (P:=P) (sl:=ba) (i:=i) hi (by rw [bl];exact bn (w.at d));have a1:((gs.map (woken P x x' (w.at d))).setIfInBounds i x').size=gs.size:=by simp
   have al:∀op∈MemOp.ofEvents i x.frame.fn x.frame.place es,op.g=i:=fun op U=>by obtain⟨e,_,rfl⟩:=mem_ofEvents U;rfl
   have be:∀op∈MemOp.ofEvents i x.frame.fn x.frame.place es,op.act.touch? =none:=fun op U=>by obtain⟨e,he,rfl⟩:=mem_ofEvents U;exact touch_mute (hm e he)
   have bp:Gr P ((gs.map (woken P x x' (w.at d))).setIfInBounds i x') (w.at d) (t++MemOp.ofEvents i x.frame.fn x.frame.place es) (upd q i k) Sh g s:=by
    refine⟨?_,⟨fun j y O K=>?_,fun j O=>?_⟩,?_,?_,?_⟩
    ·have bq:i≠0:=by omega
     rw [Array.getElem?_setIfInBounds_ne bq,Array.getElem?_map,hC.main];simp [woken_run Z]
    ·by_cases am:i=j
     ·subst am;rw [Array.getElem?_setIfInBounds_self_of_lt (by simpa using bd)] at K;obtain rfl:=Option.some.inj K;rw [upd_same,Deaf_own];exact bo
     ·rw [Array.getElem?_setIfInBounds_ne am,Array.getElem?_map] at K;obtain⟨z,br,rfl⟩:=Option.map_eq_some_iff.1 K;have bf:=hC.lv.old j z O br;rw [woken_quitsD bf,upd_ne q k (Ne.symm am),Deaf_other t am _ al];exact bf
    ·rw [Deaf_other t (g':=i) (by simp at O;omega) _ al];exact hC.lv.above j (by simpa using O)
    ·rw [a1];exact bc.CY.mute al be (fun op U=>by obtain⟨e,he,rfl⟩:=mem_ofEvents U;exact low_mute (hm e he) _) rfl
    ·exact handedOver_app hC.over fun op U=> .inr (be op U)
    ·rw [Deaf_other t (by omega) _ al];exact hC.hears
   exact .inr ⟨_,_,_,bb.trans ag,by rw [← a1];rw [a1];omega,_,_,_,_,_,_,_,rfl,bp,⟨Z,v,a8,a9⟩,rfl,a4,a5,a6,a7⟩
theorem ends{gs:Array Goroutine}{w:World}{sl:Option (Nat×Nat)}{t:Trace}{q:Nat→Nat}{Sh:Nat→Prop}{g:Goroutine}{s:St}(hC:Gr P gs w t q Sh g s)(O:KV P R g s):
  ∃N last o w' K,runNT P (N+1) (crowd gs w sl) t=(.ended o w',K)∧runN P N (crowd gs w sl)= .next last∧step P last= .ended o w'∧Good P (Li P R w s) last o w' K:=
 run_of_inv Nat.lt_wfRel.wf (Py P R w s) (Good P (Li P R w s)) V3 _ _ _ ⟨gs,w,sl,q,Sh,g,s,rfl,hC,O,rfl,fun _ _ h=>h,rfl,rfl,rfl⟩
theorem Un{m m':Machine}{t K:Trace}{n:Nat}(h:runNT P n m t=(.next m',K)):runN P n m= .next m':=by rw [← runNT_fst P n m t,h]
def Ek(W:World):St:=⟨fun b=>W.heap[b]?,fun _=>none,false⟩
theorem Wg{W:World}{g:Goroutine}(h:(D1 P).ok (KV P R) g (Ek W)):
  ∃M last o w' K,runNT P (M+1) (solo g W) #[]=(.ended o w',K)∧runN P M (solo g W)= .next last∧step P last= .ended o w'∧Good P (Li P R W (Ek W)) last o w' K:=by
 have hC:Gr P #[g] W #[] (fun _=>0) (fun _=>False) g (Ek W):=by
  have V:∀{i:Nat} {a:Touch},touchAt #[] i=some a→False:=fun {i a} h=>by simp [touchAt,Trace.act?] at h
  refine⟨rfl,leavers_one P g,⟨fun i hi=>?_,fun i j hi Z bf=>by simp at hi Z;omega,fun i hi b hb=>hb.elim,fun b hb=>hb.elim,fun said=>?_,by simp,fun i _ b _ x a O=>(V O).elim,fun i _ b _ x a O=>(V O).elim⟩,fun i g hg=>by simp [Trace.g?] at hg,rfl⟩
  ·have:i=0:=by simp at hi;exact hi
   subst this;exact⟨fun b o U=>U,fun b o U=>(by cases U),fun b _=>rfl⟩
  ·rintro⟨i,j,_,⟨a,b,ag,_⟩,_⟩;simp [Trace.act?] at ag
 obtain⟨n,gs',w',al,K,bg,bh,g',s',Y,am,ap,av,a0,a1,a2⟩:=h #[g] W none #[] _ _ hC;obtain⟨N,last,o,a3,a4,k1,a5,a6,a7⟩:=ends (sl:=al) am ap;refine⟨n+N,last,o,a3,a4,?_,?_,a6,?_⟩
 ·rw [solo_eq_crowd,Nat.add_assoc,runNT_add,Y];exact k1
 ·have a8:=Un Y;rw [solo_eq_crowd,runN_add,a8];exact a5
 ·obtain⟨v,e,⟨s2,a9,ba,bb,bc,bd,be⟩,r⟩:=a7;exact⟨v,e,⟨s2,a9,ba,fun b o hb=>bb b o (av b o hb),bc.trans a0,bd.trans a1,be.trans a2⟩,r⟩
end
end Pal
namespace Pal
open Go Go.Conc
theorem UK{P:Program}{Q:Goroutine→St→Prop}{E H:LH}{f:FuncId}{fn:Func}{c:Code}{vs:List Value}(U:P.funcs[f]? =some fn)(hb:fn.body=some c)(Z:fn.ntmps=fn.ntmps)(ag:vs.length≤fn.ntmps)
  (h:JL (D1 P) Q (base f) fn.ntmps (FN 0 vs) [] [.code c] [] (An E H [[]])):(D1 P).ok Q (G (Frame.enter P f vs.toArray .normal) []) (mk E H []):=by
 have he:Frame.enter P f vs.toArray .normal=fr (base f) (vs.toArray++Array.replicate (fn.ntmps - vs.length) undef) [] [.code c]:=by
  simp [Frame.enter,fr,U,hb,base];rfl
 rw [he];have V:mk E H []=An E H [[]]:=by unfold An;simp
 rw [V];refine h _ ⟨by simp;omega,fun t v ht=>?_⟩;obtain⟨_,K⟩:=Jo ht;have Y:t<vs.length:=by
  rcases Nat.lt_or_ge t vs.length with O | O
  ·exact O
  ·simp at K;have:=(List.getElem?_eq_some_iff.1 K).1;omega
 rw [Array.getD_eq_getD_getElem?,Array.getElem?_append_left (by simpa using Y)];simp at K;simp [K]
end Pal
namespace Pal
open Go Go.Conc Go.Proofs Go.ChangeShapes Go.WideShapes Go.ChangeAt Go.RowKit
open Go.Proofs.YtboibffcmhheiaaGreatDoor (Rows.laid_errors_errorType)
theorem Tryz.own:ownKnob Tryz.prog.godebug=none:=by kernel_rfl
theorem Tryz.laidOut:laidOutB Tryz.prog=true:=by kernel_rfl
theorem Tryz.SN:Tryz.prog.cellsOf 3=1:=by kernel_rfl
theorem V1{W:World}{a:Addr}{len cap:Nat}{K:List Int}(V:a.spot=none)(ap:len≤cap)(ag:len≤K.length)(al:∀i,i<K.length→W.cell? (a.add i)=some (.int .i64 (K.getD i 0))):
  Al rI (Ek W).E (some a) cap (K.take len)∧(K.take len).length=len:=by
 have Z:(K.take len).length=len:=by simp [Nat.min_eq_left ag]
 refine⟨⟨by omega,.inr ⟨a.block,a.off,?_,fun i x Y=>⟨[iV x],rfl,?_⟩⟩⟩,Z⟩
 ·obtain⟨b,o,s⟩:=a;simp only at V;subst V;rfl
 ·have hi:i<len:=by rw [← Z];exact(List.getElem?_eq_some_iff.1 Y).1
  have O:=al i (by omega);have am:K.getD i 0=x:=by
   rw [List.getElem?_take_of_lt hi] at Y;rw [List.getD_eq_getElem?_getD,Y];rfl
  rw [am,Dj V] at O;unfold World.cell? at O;split at O
  ·rename_i c e f hW;simp only [Option.isSome_none,Bool.false_eq_true,if_false] at O;refine⟨c,e,f,hW,fun j w U=>?_⟩
   match j,U with
   | 0,U=>
    simp at U;subst U;show c[a.off+i*1+0]? =some (.int .i64 x);simpa using O
   | j+1,U=>simp at U
  ·cases O
theorem T5{R:Value→St→Prop}{W w':World}{v:Value}(h:Li Tryz.prog R W (Ek W) v w'):(∃s,R v s)∧Below W.heap.size W w':=by
 obtain⟨s,V,Y,Z,ht,ag,al⟩:=h;have hb:∀k,k<W.heap.size→w'.heap[k]? =W.heap[k]? :=fun k O=>by
  have K:(Ek W).E k=some W.heap[k]:=Array.getElem?_eq_getElem O;have U:=Y.e k _ (Z k _ K);rw [U,Array.getElem?_eq_getElem O]
 refine⟨⟨s,V⟩,⟨ag,ht,al,?_,hb⟩⟩;rcases Nat.eq_zero_or_pos W.heap.size with am | am
 ·omega
 ·have K:=hb (W.heap.size - 1) (by omega);have ap:W.heap[W.heap.size - 1]? =some W.heap[W.heap.size - 1]:=Array.getElem?_eq_getElem (by omega);rw [ap] at K;have U:=(Array.getElem?_eq_some_iff.1 K).1;omega
noncomputable def QO(os:Os):World:=
 let w0:=World.holding Tryz.prog os ⟨#[],#[],[]⟩
 {w0 with heap:=w0.heap.modify 0 fun
   | .cells _ t frozen=> .cells #[.iface 240 (.agg #[.pointer (some ⟨1,149,none⟩)])] t frozen
   | o=>o}
theorem TU(os:Os)(args:Array Value):laidMetH Tryz.prog [("errors.errorType",Go.Proofs.YtboibffcmhheiaaGreatDoor.Rows.laid_errors_errorType)] ((QO os).forCall (fun _ _=>0) ⟨#[],args,[]⟩).memory:=
 laidMetH_of_parts (laidMet_nil _ _) (by kernel_rfl)
end Pal
namespace Pal
open Go Go.Conc
theorem oi{α:Type}{a b:α}(h:some a=some b):a=b:=Option.some.inj h
theorem bs{α β:Type}{o:Option α}{f:α→Option β}{r:β}(h:o.bind f=some r):∃x,o=some x∧f x=some r:=bind_some h
def G3(L:Env):Env→List (Option Value)
 | []=> []
 | (t,_)::L'=>look L t::G3 L L'
def G4:Env→List (Option Value)
 | []=> []
 | (_,v)::L'=>some v::G4 L'
theorem M6{L:Env}:∀{L':Env},G3 L L'=G4 L'→Sub L' L
 | [],_=>trivial
 | (t,v)::L',h=>by
  simp only [G3,G4,List.cons.injEq] at h
  exact⟨h.1,M6 h.2⟩
section
variable {P:Program}{J:Judge P}{Q:Goroutine→St→Prop}{b:Frame}{n:Nat}{L L':Env}{ds:List Deferred}{k k':List Item}{cs:List Frame}{s:St}{ops:Array Oper}{i:Nat}{rest:List Nat}{v:Value}
variable {d:Option Tmp}{op:Op}{ty:TypeId}{p:String}{af:Array Edge}{g:Option (Nat×Bool)}
theorem Ix(L':Env)(h:G3 L L'=G4 L')(k':JL J Q b n L' ds k cs s):JL J Q b n L ds k cs s:=Gf (M6 h) k'
theorem Az(k':JL J Q b n L' ds k cs s)(h:G3 L L'=G4 L'):JL J Q b n L ds k cs s:=Gf (M6 h) k'
def EC(b:Frame)(n:Nat)(L:Env)(ops:Array Oper)(i:Nat):Option Oper:=
 match HU ops.toList i with
 | some ⟨d,op,ty,p,af,g⟩=>match Be L ops ⟨d,op,ty,p,af,g⟩ with
  | some true=>match CK b n ⟨d,op,ty,p,af,g⟩ with
   | true=>some ⟨d,op,ty,p,af,g⟩
   | false=>none
  | _=>none
 | none=>none
theorem IT{o:Oper}(h:EC b n L ops i=some o):ops[i]? =some o∧Be L ops o=some true∧CK b n o=true:=by
 unfold EC at h;split at h
 ·rename_i K;rw [JK,Array.getElem?_toList] at K;split at h
  ·rename_i hw;split at h
   ·rename_i O;cases h;exact⟨K,hw,O⟩
   ·cases h
  ·cases h
 ·cases h
theorem AF(K:EC b n L ops i=some ⟨d,op,ty,p,af,g⟩)(h:∀ρ,EE L ρ→Yl P ⟨d,op,ty,p,af,g⟩ ρ s v)(O:JL J Q b n (AH L d v) ds (.inRegion ops rest::k) cs s):
  JL J Q b n L ds (.inRegion ops (i::rest)::k) cs s:=
 let ⟨U,V,Y⟩:=IT K
 A8 U V Y h O
theorem JY{f:FuncId}{fn:Func}{c:Code}{E:LH}{vs:List Value}{B:Seg}{R:Value→LH→Seg→Prop}(O:P.funcs[f]? =some fn)(hb:fn.body=some c)(U:Nat.ble vs.length fn.ntmps=true)
  (h:∀(Q:Goroutine→St→Prop) (K:Frame) (cs:List Frame) (H:LH),Av E H [B]→(∀v E' S' B',Le E E'→S'.flatten=B'→R v E' B'→Av E' H S'→J.ok Q (G (K.finish v) cs) (An E' H S'))→JL J Q (base f) fn.ntmps (FN 0 vs) [] [.code c] (K::cs) (An E H [B])):AK J f vs E B R:=
 AK.enter O hb (Nat.le_of_ble_eq_true U) h
def NT(n:Nat)(L:Env)(ops:Array Oper)(i:Nat):Option Env:=
 match HU ops.toList i with
 | some ⟨d,op,ty,p,af,g⟩=>match Be L ops ⟨d,op,ty,p,af,g⟩ with
  | some true=>match BE n d with
   | true=>match Jc L op with
    | some v=>match d with
     | some d=>some ((d,v)::L)
     | none=>some L
    | none=>none
   | false=>none
  | some false=>match BE n d with
   | true=>match d with
    | some d=>some ((d,undef)::L)
    | none=>some L
   | false=>none
  | none=>none
 | none=>none
def F5(n:Nat)(L:Env)(ops:Array Oper)(i:Nat):Option Oper:=
 match HU ops.toList i with
 | some ⟨d,op,ty,p,af,g⟩=>match Be L ops ⟨d,op,ty,p,af,g⟩ with
  | some true=>match BE n d with
   | true=>some ⟨d,op,ty,p,af,g⟩
   | false=>none
  | _=>none
 | none=>none
theorem On{o:Oper}(h:F5 n L ops i=some o):ops[i]? =some o∧Be L ops o=some true∧BE n o.dst=true:=by
 unfold F5 at h;split at h
 ·rename_i K;rw [JK,Array.getElem?_toList] at K;split at h
  ·rename_i hw;split at h
   ·rename_i O;cases h;exact⟨K,hw,O⟩
   ·cases h
  ·cases h
 ·cases h
theorem Wc(h:NT n L ops i=some L'):∃o,ops[i]? =some o∧BE n o.dst=true∧((∃v,Be L ops o=some true∧Jc L o.op=some v∧L'=AH L o.dst v)∨(Be L ops o=some false∧L'=AH L o.dst undef)):=by
 unfold NT at h;split at h
 ·rename_i d op ty p af g O;rw [JK,Array.getElem?_toList] at O;refine⟨_,O,?_⟩;split at h
  ·rename_i hw;split at h
   ·rename_i K;refine⟨K,.inl ?_⟩;split at h
    ·rename_i v U;refine⟨v,hw,U,?_⟩;cases d with
     | none=>cases h;rfl
     | some d=>cases h;rfl
    ·cases h
   ·cases h
  ·rename_i hw;split at h
   ·rename_i K;refine⟨K,.inr ⟨hw,?_⟩⟩;cases d with
    | none=>cases h;rfl
    | some d=>cases h;rfl
   ·cases h
  ·cases h
 ·cases h
variable {m:Nat}{D:Nat→Bool}{fuel:Nat}{listed:Array Bool}
theorem B4(i:Nat)(K:DT ops m=true)(O:s.q=false)(h:NT n L ops i=some L')
  (U:AU J Q b n ds ops k cs m D fuel (Bg listed i) L' s) (V:Fv ops listed m i=true:=by decide+kernel):AU J Q b n ds ops k cs m D (fuel+1) listed L s:=by
 obtain⟨o,Y,Z,⟨v,hw,ag,rfl⟩ | ⟨hw,rfl⟩⟩:=Wc h
 ·exact MV i Y K V O hw Z (fun ρ al s' _=>ML al ag) U
 ·exact ar i Y K V O hw Z U
theorem By(i:Nat)(K:DT ops m=true)(O:s.q=false)(U:F5 n L ops i=some ⟨d,op,ty,p,af,g⟩)
  (V:∀ρ,EE L ρ→∀s':St,(∀x o,(BK D s).E x=some o→s'.E x=some o)→Yl P ⟨d,op,ty,p,af,g⟩ ρ s' v)
  (Y:AU J Q b n ds ops k cs m D fuel (Bg listed i) (AH L d v) s) (Z:Fv ops listed m i=true:=by decide+kernel):AU J Q b n ds ops k cs m D (fuel+1) listed L s:=by
 obtain⟨ag,al,am⟩:=On U;exact MV i ag K Z O al am V Y
end
end Pal
namespace Pal
open Go Go.Conc
abbrev Jn(E H E':LH)(S:List Seg)(K L:Env)(s:St)(R:Prop):Prop:=L=K∧s=An E' H S∧Le E E'∧Av E' H S∧R
abbrev Jm(E H E':LH)(S:List Seg)(K L:Env)(s:St):Prop:=L=K∧s=An E' H S∧Le E E'∧Av E' H S
def NQ(L:Env):List ResultVar→Option (List Value)
 | []=>some []
 | .tmp t::rs=>match look L t with
  | some v=>match NQ L rs with
   | some vs=>some (v::vs)
   | none=>none
  | none=>none
 | _=>none
theorem Sc{P:Program}{L:Env}{s:St}:∀{rs:List ResultVar} {vs:List Value},NQ L rs=some vs→RV P L s rs vs
 | [],vs,h=>by cases h;trivial
 | .tmp t::rs,vs,h=>by
  unfold NQ at h
  split at h
  ·rename_i v K
   split at h
   ·rename_i ws hw;cases h;exact⟨K,Sc hw⟩
   ·cases h
  ·cases h
 | .cell _ _::_,_,h=>by cases h
section
variable {P:Program}{J:Judge P}{Q:Goroutine→St→Prop}{b:Frame}{n:Nat}{L L':Env}{ds:List Deferred}{k k':List Item}{cs:List Frame}{s:St}{ops:Array Oper}{i:Nat}{rest:List Nat}{v:Value}{E H:LH}{S:List Seg}
variable {d:Option Tmp}{op:Op}{x y:Operand}{t ft ty e:TypeId}{p:String}{af:Array Edge}{g:Option (Nat×Bool)}
theorem AD{c:Frame}{fn:Func}{vs:List Value}(O:P.funcs[b.fn]? =some fn)(K:(b.kind== .normal&&b.roundOf.isNone)=true)(U:NQ L fn.results.toList=some vs)(h:J.ok Q (G (c.finish (Mz vs)) cs) s):JL J Q b n L [] (.code .ret::k) (c::cs) s:=by
 simp only [Bool.and_eq_true,beq_iff_eq,Option.isNone_iff_eq_none] at K;exact JL.ret K.1 K.2 (Ch.list O rfl (Sc U)) h
theorem BV{f:FuncId}{args:Array Operand}{ats:Array TypeId}{vs:List Value}{R:Value→LH→Seg→Prop}
  (O:AK J f vs E [] R) (U:EC b n L ops i=some ⟨d,.call ⟨.value (.func f),args,ats⟩,ty,p,af,g⟩) (V:evs L args.toList=some vs) (hb:DN P f=true)
  (Y:Av E H S) (Z:∀v E' seg',Le E E'→R v E' seg'→Av E' H (S++ [seg'])→JL J Q b n (AH L d v) ds (.inRegion ops rest::k) cs (An E' H (S++ [seg']))):
  JL J Q b n L ds (.inRegion ops (i::rest)::k) cs (An E H S):=by
 obtain⟨ag,al,K⟩:=IT U;refine JS.call O ag al ?_ hb V Y Z;simp only [CK,Bool.and_eq_true] at K ⊢;exact⟨K.1,K.2.1⟩
theorem BF{f:FuncId}{args:Array Operand}{ats:Array TypeId}{vs:List Value}{v:Value}
  (O:AK J f vs E [] (fun w E' B'=>w=v∧B'= [])) (U:EC b n L ops i=some ⟨d,.call ⟨.value (.func f),args,ats⟩,ty,p,af,g⟩) (V:evs L args.toList=some vs) (hb:DN P f=true)
  (K:Av E H S) (Y:∀E',Le E E'→Av E' H (S++ [[]])→JL J Q b n (AH L d v) ds (.inRegion ops rest::k) cs (An E' H (S++ [[]]))):
  JL J Q b n L ds (.inRegion ops (i::rest)::k) cs (An E H S):=BV O U V hb K (by rintro _ E' _ hle ⟨rfl,rfl⟩ K;exact Y E' hle K)
theorem B6{f:FuncId}{args:Array Operand}{ats:Array TypeId}{vs:List Value}{seg:Seg}{R:Value→LH→Seg→Prop}(j:Nat)
  (O:AK J f vs E seg R) (U:EC b n L ops i=some ⟨d,.call ⟨.value (.func f),args,ats⟩,ty,p,af,g⟩) (V:evs L args.toList=some vs) (hb:DN P f=true)
  (Y:Av E H S) (Z:S[j]? =some seg) (ag:∀v E' seg',Le E E'→R v E' seg'→Av E' H (S.set j seg')→JL J Q b n (AH L d v) ds (.inRegion ops rest::k) cs (An E' H (S.set j seg'))):
  JL J Q b n L ds (.inRegion ops (i::rest)::k) cs (An E H S):=by
 obtain⟨al,am,K⟩:=IT U;refine Ot j O al am ?_ hb V Y Z ag;simp only [CK,Bool.and_eq_true] at K ⊢;exact⟨K.1,K.2.1⟩
def K8(K:Array Field)(i:Nat):Option (Nat×TypeId):=match K[i]? with
 | some f=>some (f.offset,f.type)
 | none=>none
theorem Bb{r m m':Int}{u:TypeId}(h:As (m+m')=some r)(K:EC b n L ops i=some ⟨d,.binOp .add t x y u,ty,p,af,g⟩)(O:ev L x=some (iV m))(U:ev L y=some (iV m'))
  (V:JL J Q b n (AH L d (iV r)) ds (.inRegion ops rest::k) cs s):JL J Q b n L ds (.inRegion ops (i::rest)::k) cs s:=AF K (fun _ q=>MJ (q _ _ O) (q _ _ U) h) V
theorem Cg{r m m':Int}{u:TypeId}(h:As (m - m')=some r)(K:EC b n L ops i=some ⟨d,.binOp .sub t x y u,ty,p,af,g⟩)(O:ev L x=some (iV m))(U:ev L y=some (iV m'))
  (V:JL J Q b n (AH L d (iV r)) ds (.inRegion ops rest::k) cs s):JL J Q b n L ds (.inRegion ops (i::rest)::k) cs s:=AF K (fun _ q=>C9 (q _ _ O) (q _ _ U) h) V
theorem Bj{a:Option Addr}{e:TypeId}{l c:Nat}{ats:Array TypeId}(ht:P.underlying t=some (.slice e))(K:EC b n L ops i=some ⟨d,.call ⟨.builtin .len,#[x],ats⟩,ty,p,af,g⟩)(O:ats[0]? =some t)(U:ev L x=some (.slice a l c))
  (V:JL J Q b n (AH L d (.int .i64 l)) ds (.inRegion ops rest::k) cs s):JL J Q b n L ds (.inRegion ops (i::rest)::k) cs s:=AF K (fun _ q=>Yl.len O ht (q _ _ U)) V
theorem BM{bk o O off:Nat}{U:Array Field}{V:Nat}(ht:P.underlying t=some (.struct U))(Y:BC P ft=some (O+1))(Z:EC b n L ops i=some ⟨d,.fieldAddr t x V,ty,p,af,g⟩)(ag:ev L x=some (.pointer (some ⟨bk,o,none⟩)))(K:K8 U V=some (off,ft))
  (al:JL J Q b n (AH L d (.pointer (some ⟨bk,o+off,none⟩))) ds (.inRegion ops rest::k) cs s):
  JL J Q b n L ds (.inRegion ops (i::rest)::k) cs s:=by
 unfold K8 at K;split at K
 ·rename_i f am;cases K;refine AF Z (fun ρ h=>S6 (a:=⟨bk,o,none⟩) O f.offset ht Y am rfl rfl (h _ _ ag)) ?_;rw [Dj rfl];exact al
 ·cases K
theorem B8{bk o:Nat}{ws:List Value}(j:Nat)(K:At E bk o ws)(ht:Dh P t=some false)(O:EC b n L ops i=some ⟨d,.load t x,ty,p,af,g⟩)(U:ev L x=some (.pointer (some ⟨bk,o+j,none⟩)))(V:ws[j]? =some v)
  (Y:JL J Q b n (AH L d v) ds (.inRegion ops rest::k) cs (An E H S)):
  JL J Q b n L ds (.inRegion ops (i::rest)::k) cs (An E H S):=
 AF O (fun _ h=>Yl.load ht (h _ _ U) (At.J3 K V)) Y
theorem Po{bk off:Nat}{c:Array Value}(j:Nat)(K:Av E H S)(O:BC P t=some v.cells.size)(U:EC b n L ops i=some ⟨d,.store t x y,ty,p,af,g⟩)
  (V:ev L x=some (.pointer (some ⟨bk,off,none⟩))) (Y:ev L y=some v) (Z:S[j]? =some [(bk,.cells c e (0,0))])
  (h:Av E H (S.set j [(bk,.cells (A0 c off v.cells.toList) e (0,0))])→JL J Q b n (AH L d undef) ds (.inRegion ops rest::k) cs (An E H (S.set j [(bk,.cells (A0 c off v.cells.toList) e (0,0))])))
  (hle:off+v.cells.size≤c.size:=by exact Nat.le_of_ble_eq_true rfl) (ag:∀u∈v.cells.toList,CP u=true:=by simp [Value.cells,CP]):
  JL J Q b n L ds (.inRegion ops (i::rest)::k) cs (An E H S):=by
 obtain⟨al,am,ap⟩:=IT U;exact JS.store j al am ap K V Y O ag Z hle h
theorem BW{bk o:Nat}{ws:List Value}(K:At E bk o ws)(ht:Dh P t=some true)(O:BC P t=some ws.length)(U:EC b n L ops i=some ⟨d,.load t x,ty,p,af,g⟩)(V:ev L x=some (.pointer (some ⟨bk,o,none⟩)))
  (Y:JL J Q b n (AH L d (.agg ws.toArray)) ds (.inRegion ops rest::k) cs (An E H S)):
  JL J Q b n L ds (.inRegion ops (i::rest)::k) cs (An E H S):=
 AF U (fun _ h=>FY ht O (h _ _ V) (At.Zz K)) Y
variable {m:Nat}{D:Nat→Bool}{fuel:Nat}{listed:Array Bool}
theorem B7{bk o O off:Nat}{U:Array Field}{V:Nat}(i:Nat)(Y:DT ops m=true)(ht:P.underlying t=some (.struct U))(Z:BC P ft=some (O+1))(ag:s.q=false)(al:F5 n L ops i=some ⟨d,.fieldAddr t x V,ty,p,af,g⟩)(am:ev L x=some (.pointer (some ⟨bk,o,none⟩)))(K:K8 U V=some (off,ft))
  (ap:AU J Q b n ds ops k cs m D fuel (Bg listed i) (AH L d (.pointer (some ⟨bk,o+off,none⟩))) s) (av:Fv ops listed m i=true:=by decide+kernel):AU J Q b n ds ops k cs m D (fuel+1) listed L s:=by
 unfold K8 at K;split at K
 ·rename_i f a0;cases K;refine By i Y ag al (fun ρ h _ _=>S6 (a:=⟨bk,o,none⟩) O f.offset ht Z a0 rfl rfl (h _ _ am)) ?_ av;rw [Dj rfl];exact ap
 ·cases K
theorem Cn{bk o:Nat}{ws:List Value}(i:Nat)(K:DT ops m=true)(j:Nat)(O:At (BK D s).E bk o ws)(ht:Dh P t=some false)(U:s.q=false)(V:F5 n L ops i=some ⟨d,.load t x,ty,p,af,g⟩)(Y:ev L x=some (.pointer (some ⟨bk,o+j,none⟩)))(Z:ws[j]? =some v)
  (ag:AU J Q b n ds ops k cs m D fuel (Bg listed i) (AH L d v) s) (al:Fv ops listed m i=true:=by decide+kernel):AU J Q b n ds ops k cs m D (fuel+1) listed L s:=
 By i K U V (fun _ h _ hs=>Yl.load ht (h _ _ Y) (At.Pk O hs Z)) ag al
theorem Er{bk o:Nat}{ws:List Value}(i:Nat)(K:DT ops m=true)(O:At (BK D s).E bk o ws)(ht:Dh P t=some true)(U:BC P t=some ws.length)(V:s.q=false)(Y:F5 n L ops i=some ⟨d,.load t x,ty,p,af,g⟩)(Z:ev L x=some (.pointer (some ⟨bk,o,none⟩)))
  (ag:AU J Q b n ds ops k cs m D fuel (Bg listed i) (AH L d (.agg ws.toArray)) s) (al:Fv ops listed m i=true:=by decide+kernel):AU J Q b n ds ops k cs m D (fuel+1) listed L s:=
 By i K V Y (fun _ h _ hs=>FY ht U (h _ _ Z) (At.OZ O hs)) ag al
end
end Pal
namespace Pal
open Go Go.Conc
abbrev Bc:=List (List Int)×List (List Int)
abbrev BX:=List (List Int)×List (List Int)×List Nat
abbrev Ci:=Int×List Int×Nat
abbrev Bu:=Int×Int×List Ci
abbrev AI:=List (Int×Int)
abbrev BY:=List Int×Int×Nat
abbrev Ao:=Option Addr
abbrev Du:Rp Ci:=rP rI (rP (rL rI) (rN .u16))
abbrev Cv:Rp Bu:=rP rI (rP rI (rL Du))
abbrev A9:Rp (Int×Int):=rP rI rI
theorem ip{α:Type}{p:Prop} [Decidable p] {A B:Option α}{r:α}(h:(if p then A else B)=some r)(c:p):A=some r:=by rwa [if_pos c] at h
theorem im{α:Type}{p:Prop} [Decidable p] {A B:Option α}{r:α}(h:(if p then A else B)=some r)(c:¬p):B=some r:=by rwa [if_neg c] at h
theorem ib{α:Type}{c:Bool}{A B:Option α}{r:α}(h:(if c=true then A else B)=some r)(K:c=false):B=some r:=by subst K;simpa using h
def Pu(n:Nat)(ops:Array Oper):List Nat→Nat→Env→Option (Nat×Env)
 | [],f,L=>some (f,L)
 | i::l,f+1,L=>match NT n L ops i with
  | some L'=>Pu n ops l f L'
  | none=>none
 | _::_,0,_=>none
def Pd(ops:Array Oper)(m:Nat):Array Bool→List Nat→Bool
 | _,[]=>true
 | listed,i::l=>Fv ops listed m i&&Pd ops m (Bg listed i) l
def Tp:Array Bool→List Nat→Array Bool
 | listed,[]=>listed
 | listed,i::l=>Tp (Bg listed i) l
theorem AW{P:Program}{J:Judge P}{Q:Goroutine→St→Prop}{b:Frame}{n:Nat}{ds:List Deferred}{k:List Item}{cs:List Frame}{s:St}{ops:Array Oper}{m:Nat}{D:Nat→Bool}{L':Env}{U:Nat}(V:DT ops m=true)(Y:s.q=false):
  ∀(l:List Nat) {fuel:Nat} {listed:Array Bool} {L:Env},Pu n ops l fuel L=some (U,L')→AU J Q b n ds ops k cs m D U (Tp listed l) L' s→(K:Pd ops m listed l=true:=by decide+kernel)→AU J Q b n ds ops k cs m D fuel listed L s
 | [],fuel,listed,L,h,O,_=>by cases h;exact O
 | i::l,fuel,listed,L,h,O,K=>by
  cases fuel with
  | zero=>cases h
  | succ fuel=>
   unfold Pd at K;rw [Bool.and_eq_true] at K;unfold Pu at h;split at h
   ·rename_i Z e;exact B4 i V Y e (AW V Y l h O K.2) K.1
   ·cases h
theorem zg{P:Program}{J:Judge P}{Q:Goroutine→St→Prop}{b:Frame}{n:Nat}{L L':Env}{ds:List Deferred}{k k':List Item}{cs:List Frame}{s:St}(m:Nat)(h:Nj b n m k L=some (k',L'))(K:JL J Q b n L' ds k' cs s):JL J Q b n L ds k cs s:=JL.go m h K
abbrev bX(r:Nat)(c:Array Value)(t:TypeId):Seg:= [(r,.cells c t (0,0))]
end Pal
namespace Pal
open Go Go.Conc
section
variable {P:Program}{J:Judge P}{Q:Goroutine→St→Prop}{b:Frame}{n:Nat}{L L':Env}{ds:List Deferred}{k:List Item}{cs:List Frame}{s:St}{ops:Array Oper}{E H:LH}{S:List Seg}
variable {α:Type}{A B:Option α}{r:α}
theorem AL{c:Operand}{x y:Code}{p:Prop} [Decidable p] (K:(if p then A else B)=some r)(O:p→A=some r→JL J Q b n L ds (.code x::k) cs s)(U:¬p→B=some r→JL J Q b n L ds (.code y::k) cs s)
  (V:ev L c=some (.bool (decide p)):=by exact rfl):JL J Q b n L ds (.code (.cond c x y)::k) cs s:=OV V (fun h=>O h (ip K h)) fun h=>U h (im K h)
theorem BJ{c:Operand}{x y:Code}{t:Bool}(K:(if t=true then A else B)=some r)(O:t=true→A=some r→JL J Q b n L ds (.code x::k) cs s)(U:t=false→B=some r→JL J Q b n L ds (.code y::k) cs s)
  (V:ev L c=some (.bool t):=by exact rfl):JL J Q b n L ds (.code (.cond c x y)::k) cs s:=Rv V (fun h=>O h (ip K h)) fun h=>U h (ib K h)
theorem Ei{q:Prop} [Decidable q] (i:Nat)(K:(if q then A else B)=some r)(O:q→A=some r→JL J Q b n (AH L (some i) (.bool true)) ds k cs s)(U:¬q→B=some r→JL J Q b n (AH L (some i) (.bool false)) ds k cs s)
  (V:look L i=some (.bool (decide q)):=by exact rfl):JL J Q b n L ds k cs s:=Vy V (fun h=>O h (ip K h)) fun h=>U h (im K h)
theorem DU{t:Bool}(i:Nat)(K:(if t=true then A else B)=some r)(O:t=true→A=some r→JL J Q b n (AH L (some i) (.bool true)) ds k cs s)(U:t=false→B=some r→JL J Q b n (AH L (some i) (.bool false)) ds k cs s)
  (V:look L i=some (.bool t):=by exact rfl):JL J Q b n L ds k cs s:=Vs V (fun h=>O h (ip K h)) fun h=>U h (ib K h)
theorem CN{K O:Type}{c:Code}{body:K→Option (Bh K O)}{f:Nat}{U:K}{a:O}(Y:iter body f U=some a)(I:Env→St→K→Prop)(Z:I L' s U)
  (round:∀L s x,I L s x→(∀V,body x=some (.done V)→V=a)→(∃st,body x=some st)→(∀L' s' x',I L' s' x'→body x=some (.more x')→JL J Q b n L' ds (.inLoop c::k) cs s')→JL J Q b n L ds (.code c:: .inLoop c::k) cs s)
  (ag:G3 L L'=G4 L':=by exact rfl):JL J Q b n L ds (.code (.loop c)::k) cs s:=Ix L' ag (Rl Y I Z round)
variable {m:Nat}{D:Nat→Bool}{fuel:Nat}{listed:Array Bool}
def Nt(ops:Array Oper):Array Bool→List Nat→Bool
 | _,[]=>true
 | l,i::t=>Region.ready .any ops l== [i]&&Nt ops (Bg l i) t
theorem RP:∀{t:List Nat} {l:Array Bool},Nt ops l t=true→∀u,Region.linearise.go .any ops t.length u l []=t
 | [],_,_,_=>rfl
 | i::t,l,h,u=>by
  unfold Nt at h
  rw [Bool.and_eq_true,beq_iff_eq] at h
  exact Y6 h.1 (RP h.2) u
theorem Cc(t:List Nat)(O:JL J Q b n L ds (.inRegion ops t::k) cs s)(K:(Pn m listed&&Nt ops listed t&&(fuel+1==t.length))=true:=by decide+kernel):AU J Q b n ds ops k cs m D (fuel+1) listed L s:=by
 rw [Bool.and_eq_true,Bool.and_eq_true,beq_iff_eq] at K;exact AU.leaf K.1.1 (by rw [K.2];exact RP K.1.2) O
theorem CW(m:Nat){id:Nat}(h:DT ops m=true→AU J Q b n ds ops k cs m D9 ops.size (Array.replicate ops.size false) L (An E H S))(hm:P.follows .mixedOrders=true:=by exact rfl)(K:(b.kind != .early)=true:=by exact rfl)(ht:DT ops m=true:=by decide+kernel):
  JL J Q b n L ds (.code (.region id ops true)::k) cs (An E H S):=V2 m hm K ht h
theorem Dl(m:Nat)(bks:List Nat){id:Nat}(K:Gi S bks)(O:Av E H S)(h:DT ops m=true→AU J Q b n ds ops k cs m (A5 bks) ops.size (Array.replicate ops.size false) L (An E H S))(hm:P.follows .mixedOrders=true:=by exact rfl)(U:(b.kind != .early)=true:=by exact rfl)(ht:DT ops m=true:=by decide+kernel):
  JL J Q b n L ds (.code (.region id ops true)::k) cs (An E H S):=V7 m bks K O hm U ht h
theorem Cy{α:Type}{pp:Rp α}{a:Option Addr}{c:Nat}{xs:List α}{xv:α}{K:Int}{d:Option Tmp}{x y:Operand}{t ty e:TypeId}{p:String}{af:Array Edge}{g:Option (Nat×Bool)}{kd:IntKind}(i:Nat)(O:Al pp E a c xs)(U:ix xs K=some xv)(V:DT ops m=true)(ht:P.underlying t=some (.slice e))(Y:BC P e=some pp.n)
  (h:∀bk o ws,pp.r E ws xv→At E bk o ws→AU J Q b n ds ops k cs m D fuel (Bg listed i) (AH L d (.pointer (some ⟨bk,o,none⟩))) s)
  (Z:ops[i]? =some ⟨d,.indexAddr t x y,ty,p,af,g⟩:=by exact rfl) (ag:Fv ops listed m i=true:=by decide+kernel) (al:s.q=false:=by exact rfl)
  (hw:Be L ops ⟨d,.indexAddr t x y,ty,p,af,g⟩=some true:=by exact rfl) (am:BE n d=true:=by exact rfl)
  (ap:ev L x=some (.slice a xs.length c):=by exact rfl) (av:ev L y=some (.int kd K):=by exact rfl):
  AU J Q b n ds ops k cs m D (fuel+1) listed L s:=Zf i O U Z V ag al hw am ap av ht Y h
end
end Pal
namespace Pal
open Go Go.Conc
section
variable {P:Program}{J:Judge P}{Q:Goroutine→St→Prop}{b:Frame}{n:Nat}{ds:List Deferred}{ops:Array Oper}{k:List Item}{cs:List Frame}{fuel:Nat}{D:Nat→Bool}{listed:Array Bool}{L L':Env}{s:St}{xl:List Nat}
variable {d:Option Tmp}{op:Op}{ty:TypeId}{p:String}{af:Array Edge}{g:Option (Nat×Bool)}{v:Value}
theorem GG(i:Nat)(pure:Bool)(K:s.q=false)(O:F5 n L ops i=some ⟨d,op,ty,p,af,g⟩)
  (U:∀ρ,EE L ρ→∀s':St,(pure=false→∀x o,(BK D s).E x=some o→s'.E x=some o)→Yl P ⟨d,op,ty,p,af,g⟩ ρ s' v)
  (V:Fz J Q b n ds ops k cs (A5 xl) D fuel (Bg listed i) (AH L d v) s) (Y:J7 ops listed xl pure i=true:=by decide+kernel):Fz J Q b n ds ops k cs (A5 xl) D (fuel+1) listed L s:=by
 obtain⟨Z,ag,al⟩:=On O;exact Sm i pure Z Y K ag al U V
def PR(n:Nat)(L:Env)(ops:Array Oper)(i:Nat):Option Env:=
 match HU ops.toList i with
 | some ⟨d,op,ty,p,af,g⟩=>match Be L ops ⟨d,op,ty,p,af,g⟩ with
  | some true=>match BE n d with
   | true=>match Jc L op with
    | some v=>match d with
     | some d=>some ((d,v)::L)
     | none=>some L
    | none=>none
   | false=>none
  | _=>none
 | none=>none
theorem VE{i:Nat}(h:PR n L ops i=some L'):∃o v,ops[i]? =some o∧BE n o.dst=true∧Be L ops o=some true∧Jc L o.op=some v∧L'=AH L o.dst v:=by
 unfold PR at h;split at h
 ·rename_i d op ty p af g K;rw [JK,Array.getElem?_toList] at K;split at h
  ·rename_i hw;split at h
   ·rename_i O;split at h
    ·rename_i v U;refine⟨_,v,K,O,hw,U,?_⟩;cases d with
     | none=>cases h;rfl
     | some d=>cases h;rfl
    ·cases h
   ·cases h
  ·cases h
 ·cases h
theorem Br(i:Nat)(K:s.q=false)(h:PR n L ops i=some L')
  (O:Fz J Q b n ds ops k cs (A5 xl) D fuel (Bg listed i) L' s) (U:J7 ops listed xl true i=true:=by decide+kernel):Fz J Q b n ds ops k cs (A5 xl) D (fuel+1) listed L s:=by
 obtain⟨o,v,V,Y,hw,Z,rfl⟩:=VE h;exact Sm i true V U K hw Y (fun ρ ag s' _=>ML ag Z) O
end
end Pal
namespace Pal
open Go Go.Conc
section
variable {P:Program}{J:Judge P}{Q:Goroutine→St→Prop}{b:Frame}{n:Nat}{L L':Env}{ds:List Deferred}{k:List Item}{cs:List Frame}{s:St}{ops:Array Oper}{E H:LH}{S:List Seg}{i i2:Nat}{rest:List Nat}
variable {d d2:Option Tmp}{x y x2:Operand}{t t2 ft u ty ty2 e:TypeId}{p p2:String}{af af2:Array Edge}{g g2:Option (Nat×Bool)}{v w:Value}
theorem Cb(O:Av E H S)(h:∀r E',Le E E'→At E' r 0 v.cells.toList→Av E' H (S++ [[]])→JL J Q b n (AH L d (.pointer (some ⟨r,0,none⟩))) ds (.inRegion ops rest::k) cs (An E' H (S++ [[]])))
  (U:EC b n L ops i=some ⟨d,.box e x,ty,p,af,g⟩:=by exact rfl) (V:ev L x=some v:=by exact rfl):JL J Q b n L ds (.inRegion ops (i::rest)::k) cs (An E H S):=by
 obtain⟨Y,Z,ag⟩:=IT U;refine JS.box Y Z ag O V fun r al=>C6 (bk:=r) (c:=v.cells) (e:=e) (f:=(0,0)) S.length al (by simp) fun E' hle am K=>?_;have ap:(S++ [[(r,Obj.cells v.cells e (0,0))]]).set S.length []=S++ [[]]:=by simp
 rw [ap] at K ⊢;exact h r E' hle am K
theorem CO{z:Value}(K:Av E H S)(O:zeroOf P e=some z)(h:∀r,Av E H (S++ [[(r,.cells z.cells e (0,0))]])→JL J Q b n (AH L d (.pointer (some ⟨r,0,none⟩))) ds (.inRegion ops rest::k) cs (An E H (S++ [[(r,.cells z.cells e (0,0))]])))
  (U:EC b n L ops i=some ⟨d,.alloc e,ty,p,af,g⟩:=by exact rfl):JL J Q b n L ds (.inRegion ops (i::rest)::k) cs (An E H S):=by
 obtain⟨V,Y,Z⟩:=IT U;exact JS.alloc V Y Z K O h
theorem BU{bk off K:Nat}{c:Array Value}(j:Nat)(O:Av E H S)(U:BC P t=some K)
  (h:Av E H (S.set j [(bk,.cells (A0 c off v.cells.toList) e (0,0))])→JL J Q b n (AH L d undef) ds (.inRegion ops rest::k) cs (An E H (S.set j [(bk,.cells (A0 c off v.cells.toList) e (0,0))])))
  (V:EC b n L ops i=some ⟨d,.store t x y,ty,p,af,g⟩:=by exact rfl) (Y:ev L x=some (.pointer (some ⟨bk,off,none⟩)):=by exact rfl) (Z:ev L y=some v:=by exact rfl) (ag:S[j]? =some [(bk,.cells c e (0,0))]:=by exact rfl)
  (al:K=v.cells.size:=by exact rfl) (hle:off+v.cells.size≤c.size:=by exact Nat.le_of_ble_eq_true rfl) (am:v.cells.toList.all CP=true:=by first | exact rfl | simp [Value.cells,CP]):
  JL J Q b n L ds (.inRegion ops (i::rest)::k) cs (An E H S):=Po j O (by rw [← al];exact U) V Y Z ag h hle (List.all_eq_true.1 am)
theorem JL.fl{bk o o1 U off:Nat}{K:Array Field}{O:Nat}{ws:List Value}(j:Nat)(V:At E bk o ws)(ht:P.underlying t=some (.struct K))(Y:BC P ft=some (U+1))(Z:Dh P t2=some false)
  (ag:JL J Q b n (AH (AH L d (.pointer (some ⟨bk,o1+off,none⟩))) d2 v) ds (.inRegion ops rest::k) cs (An E H S))
  (al:EC b n L ops i=some ⟨d,.fieldAddr t x O,ty,p,af,g⟩:=by exact rfl) (am:ev L x=some (.pointer (some ⟨bk,o1,none⟩)):=by exact rfl) (ap:K8 K O=some (off,ft):=by exact rfl)
  (av:EC b n (AH L d (.pointer (some ⟨bk,o1+off,none⟩))) ops i2=some ⟨d2,.load t2 x2,ty2,p2,af2,g2⟩:=by exact rfl) (a0:ev (AH L d (.pointer (some ⟨bk,o1+off,none⟩))) x2=some (.pointer (some ⟨bk,o+j,none⟩)):=by exact rfl) (a1:ws[j]? =some v:=by exact rfl):
  JL J Q b n L ds (.inRegion ops (i::i2::rest)::k) cs (An E H S):=BM ht Y al am ap (B8 j V Z av a0 a1 ag)
theorem Cf{α:Type}{pp:Rp α}{a:Option Addr}{c:Nat}{xs:List α}{xv:α}{m:Int}{kd:IntKind}(K:Al pp E a c xs)(hm:ix xs m=some xv)(ht:P.underlying t=some (.slice e))(O:BC P e=some pp.n)
  (h:∀bk o ws,pp.r E ws xv→At E bk o ws→JL J Q b n (AH L d (.pointer (some ⟨bk,o,none⟩))) ds (.inRegion ops rest::k) cs (An E H S))
  (U:EC b n L ops i=some ⟨d,.indexAddr t x y,ty,p,af,g⟩:=by exact rfl) (V:ev L x=some (.slice a xs.length c):=by exact rfl) (Y:ev L y=some (.int kd m):=by exact rfl):
  JL J Q b n L ds (.inRegion ops (i::rest)::k) cs (An E H S):=by
 obtain⟨Z,ag,al⟩:=IT U;exact XX K hm Z ag al V Y ht O h
theorem CM(K:List Seg)(O:Env){todo:List Item}{c:Code}(U:∀E',Le E E'→Av E' H K→JL J Q b n O ds todo cs (An E' H K))
  (h:(∀{E':LH} {L:Env},Le E E'→Av E' H K→G3 L O=G4 O→JL J Q b n L ds todo cs (An E' H K))→JL J Q b n L ds (.code c::todo) cs (An E H S)):JL J Q b n L ds (.code c::todo) cs (An E H S):=
 h fun V Y Z=>Az (U _ V Y) Z
theorem Dm{U:List Nat}(V Y:Nat)(K:List Seg)(O:Env){todo:List Item}(Z:∀E',Le E E'→Av E' H K→JL J Q b n O ds (.inRegion ops (List.range' V Y)::todo) cs (An E' H K))
  (h:(∀{E':LH} {L:Env},Le E E'→Av E' H K→G3 L O=G4 O→JL J Q b n L ds (.inRegion ops (List.range' V Y)::todo) cs (An E' H K))→JL J Q b n L ds (.inRegion ops U::todo) cs (An E H S)):JL J Q b n L ds (.inRegion ops U::todo) cs (An E H S):=
 h fun ag al am=>Az (Z _ ag al) am
theorem Cu{O ag:Type}{c:Code}{body:O→Option (Bh O ag)}{f:Nat}{V:O}{a:ag}{Y:LH}{k:List Item}(am:iter body f V=some a)(K:O→List Seg)(U:O→Env)(hle:Le Y E)(ap:Av E H (K V))
  (round:∀x E',Le Y E'→Av E' H (K x)→(∀al,body x=some (.done al)→al=a)→(∃st,body x=some st)→(∀{L':Env} {Z:LH} (x':O),Le Y Z→Av Z H (K x')→G3 L' (U x')=G4 (U x')→body x=some (.more x')→JL J Q b n L' ds (.inLoop c::k) cs (An Z H (K x')))→JL J Q b n (U x) ds (.code c:: .inLoop c::k) cs (An E' H (K x)))
  (av:G3 L (U V)=G4 (U V):=by exact rfl) (a0:An E H S=An E H (K V):=by exact rfl):JL J Q b n L ds (.code (.loop c)::k) cs (An E H S):=by
 rw [a0];refine Ix _ av (Rl am (fun L s x=>∃E',Jm Y H E' (K x) (U x) L s) ⟨E,rfl,rfl,hle,ap⟩ ?_);rintro _ _ x ⟨E',rfl,rfl,a1,a2⟩ a3 hb a4;exact round x E' a1 a2 a3 hb fun x' a5 g2 a6 a7=>Az (a4 _ _ x' ⟨_,rfl,rfl,a5,g2⟩ a7) a6
theorem A4{f:FuncId}{fn:Func}{c:Code}{E:LH}{vs:List Value}{B:Seg}{R:Value→LH→Seg→Prop}(O:P.funcs[f]? =some fn)
  (h:∀(Q:Goroutine→St→Prop) (K:Frame) (cs:List Frame) (H:LH),Av E H [B]→(∀{v:Value} {E':LH} {S':List Seg} {B':Seg},Le E E'→S'.flatten=B'→R v E' B'→Av E' H S'→J.ok Q (G (K.finish v) cs) (An E' H S'))→JL J Q (base f) fn.ntmps (FN 0 vs) [] [.code c] (K::cs) (An E H [B]))
  (hb:fn.body=some c:=by exact rfl) (U:Nat.ble vs.length fn.ntmps=true:=by exact rfl):AK J f vs E B R:=
 JY O hb U fun Q K cs H V Y=>h Q K cs H V fun Z ag al am=>Y _ _ _ _ Z ag al am
variable {m:Nat}{fuel:Nat}{listed:Array Bool}{bks xl:List Nat}
theorem Ff{bk:Nat}{c:Array Value}{f:Nat×Nat}(i:Nat)(K:DT ops m=true)(o:Nat)(j:Nat)(O:Av E H S)(U:Dh P t=some false)
  (V:AU J Q b n ds ops k cs m (A5 bks) fuel (Bg listed i) (AH L d w) (An E H S)) (Y:F5 n L ops i=some ⟨d,.load t x,ty,p,af,g⟩:=by exact rfl) (Z:ev L x=some (.pointer (some ⟨bk,o,none⟩)):=by exact rfl)
  (ag:S[j]? =some [(bk,.cells c e f)]:=by exact rfl) (hw:c[o]? =some w:=by exact rfl) (al:A5 bks bk=true:=by simp [A5]) (am:Fv ops listed m i=true:=by decide+kernel):AU J Q b n ds ops k cs m (A5 bks) (fuel+1) listed L (An E H S):=
 By i K rfl Y (fun ρ h s' hs=>Yl.load U (h _ _ Z) (Im (o:=o) j O ag al hs hw)) V am
theorem JG.lp{bk o:Nat}{ws:List Value}(i:Nat)(K:DT ops m=true)(j:Nat)(O:At E bk o ws)(U:Av E H S)(V:Gi S bks)(Y:Dh P t=some false)
  (Z:AU J Q b n ds ops k cs m (A5 bks) fuel (Bg listed i) (AH L d w) (An E H S)) (ag:F5 n L ops i=some ⟨d,.load t x,ty,p,af,g⟩:=by exact rfl) (al:ev L x=some (.pointer (some ⟨bk,o+j,none⟩)):=by exact rfl)
  (hw:ws[j]? =some w:=by exact rfl) (am:Fv ops listed m i=true:=by decide+kernel):AU J Q b n ds ops k cs m (A5 bks) (fuel+1) listed L (An E H S):=
 By i K rfl ag (fun ρ h s' hs=>Yl.load Y (h _ _ al) (At.Pk (j:=j) O (Pb U hs V) hw)) Z am
theorem D4{bk o K:Nat}{c:Array Value}{f:Nat×Nat}(i:Nat)(O:DT ops m=true)(vs:List Value)(j:Nat)(U:Av E H S)(hw:∀(q:Nat) w,vs[q]? =some w→c[o+q]? =some w)(V:Dh P t=some true)(Y:BC P t=some K)
  (Z:AU J Q b n ds ops k cs m (A5 bks) fuel (Bg listed i) (AH L d (.agg vs.toArray)) (An E H S)) (ag:F5 n L ops i=some ⟨d,.load t x,ty,p,af,g⟩:=by exact rfl) (al:ev L x=some (.pointer (some ⟨bk,o,none⟩)):=by exact rfl)
  (am:S[j]? =some [(bk,.cells c e f)]:=by exact rfl) (ap:K=vs.length:=by exact rfl) (av:A5 bks bk=true:=by simp [A5]) (a0:Fv ops listed m i=true:=by decide+kernel):AU J Q b n ds ops k cs m (A5 bks) (fuel+1) listed L (An E H S):=
 By i O rfl ag (fun ρ h s' hs=>FY (vs:=vs) V (by rw [← ap];exact Y) (h _ _ al) (fun q w a1=>by rw [Dj rfl];exact Im j U am av hs (hw q w a1))) Z a0
theorem F2{D:Nat→Bool}{α:Type}{xs:List α}{xv:α}{K:Int}{bk c O U:Nat}{kd:IntKind}(i:Nat)(V:DT ops m=true)(Y:xs.length=U)(hm:ix xs K=some xv)(ht:P.underlying t=some (.slice e))(Z:BC P e=some O)
  (ag:AU J Q b n ds ops k cs m D fuel (Bg listed i) (AH L d (.pointer (some ⟨bk,K.toNat*O,none⟩))) s) (al:s.q=false:=by exact rfl) (am:F5 n L ops i=some ⟨d,.indexAddr t x y,ty,p,af,g⟩:=by exact rfl)
  (ap:ev L x=some (.slice (some ⟨bk,0,none⟩) U c):=by exact rfl) (av:ev L y=some (.int kd K):=by exact rfl) (a0:Fv ops listed m i=true:=by decide+kernel):AU J Q b n ds ops k cs m D (fuel+1) listed L s:=
 By i V al am (fun ρ h s' hs=>Gx Y hm ht Z (h _ _ ap) (h _ _ av)) ag a0
theorem Cz{D:Nat→Bool}{α:Type}{xs:List α}{xv:α}{K:Int}{bk c O U:Nat}{kd:IntKind}(i:Nat)(V:xs.length=U)(hm:ix xs K=some xv)(ht:P.underlying t=some (.slice e))(Y:BC P e=some O)
  (Z:Fz J Q b n ds ops k cs (A5 xl) D fuel (Bg listed i) (AH L d (.pointer (some ⟨bk,K.toNat*O,none⟩))) s) (ag:s.q=false:=by exact rfl) (al:F5 n L ops i=some ⟨d,.indexAddr t x y,ty,p,af,g⟩:=by exact rfl)
  (am:ev L x=some (.slice (some ⟨bk,0,none⟩) U c):=by exact rfl) (ap:ev L y=some (.int kd K):=by exact rfl) (av:J7 ops listed xl true i=true:=by decide+kernel):Fz J Q b n ds ops k cs (A5 xl) D (fuel+1) listed L s:=
 GG i true ag al (fun ρ h s' hs=>Gx V hm ht Y (h _ _ am) (h _ _ ap)) Z av
theorem Eg{bk o K:Nat}{c:Array Value}{f:Nat×Nat}(i:Nat)(vs:List Value)(j:Nat)(O:Av E H S)(hw:∀(q:Nat) w,vs[q]? =some w→c[o+q]? =some w)(U:Dh P t=some true)(V:BC P t=some K)
  (Y:Fz J Q b n ds ops k cs (A5 xl) (A5 bks) fuel (Bg listed i) (AH L d (.agg vs.toArray)) (An E H S)) (Z:F5 n L ops i=some ⟨d,.load t x,ty,p,af,g⟩:=by exact rfl) (ag:ev L x=some (.pointer (some ⟨bk,o,none⟩)):=by exact rfl)
  (al:S[j]? =some [(bk,.cells c e f)]:=by exact rfl) (am:K=vs.length:=by exact rfl) (ap:A5 bks bk=true:=by simp [A5]) (av:J7 ops listed xl false i=true:=by decide+kernel):Fz J Q b n ds ops k cs (A5 xl) (A5 bks) (fuel+1) listed L (An E H S):=
 GG i false rfl Z (fun ρ h s' hs=>FY (vs:=vs) U (by rw [← am];exact V) (h _ _ ag) (fun q w a0=>by rw [Dj rfl];exact Im j O al ap (hs rfl) (hw q w a0))) Y av
theorem Eh{bk off K:Nat}{c:Array Value}{D:Nat→Bool}(i j:Nat)(O:Av E H S)(U:BC P t=some K)(hle:off+K≤c.size)
  (h:Av E H (S.set j [(bk,.cells (A0 c off v.cells.toList) e (0,0))])→Fz J Q b n ds ops k cs (A5 xl) D fuel (Bg listed i) (AH L d undef) (An E H (S.set j [(bk,.cells (A0 c off v.cells.toList) e (0,0))])))
  (V:F5 n L ops i=some ⟨d,.store t x y,ty,p,af,g⟩:=by exact rfl) (Y:ev L x=some (.pointer (some ⟨bk,off,none⟩)):=by exact rfl) (Z:ev L y=some v:=by exact rfl) (ag:S[j]? =some [(bk,.cells c e (0,0))]:=by exact rfl)
  (al:K=v.cells.size:=by exact rfl) (am:v.cells.toList.all CP=true:=by first | exact rfl | simp [Value.cells,CP]) (ap:Region.ready .any ops listed= [i]:=by decide+kernel) (av:A5 xl i=true:=by decide+kernel):
  Fz J Q b n ds ops k cs (A5 xl) D (fuel+1) listed L (An E H S):=by
 obtain⟨a0,a1,a2⟩:=On V;subst al;exact JB.store i j ap av a0 a1 a2 O Y Z U (List.all_eq_true.1 am) ag hle h
end
end Pal
namespace Pal
open Go Go.Conc Go.Proofs
end Pal
namespace Pal
open Go Go.Conc Go.Proofs
end Pal
namespace Pal
open Go Go.Conc Go.Proofs
open Go.Proofs.Tryz
variable {J:Judge Tryz.prog}{E:LH}
def AX:=Bw Tryz.type3
def Bx:=Dz Tryz.underlying3
def BD:=Bw Tryz.type27
def FI:=Dz Tryz.underlying27
def BZ:=Bw Tryz.type28
def CZ:=Dz Tryz.underlying28
def LX:=AS Tryz.func32 rfl
def BR:=Bw Tryz.type22
def Cs:=Dz Tryz.underlying22
def Ic:=Bw Tryz.type90
def LR:=Dz Tryz.underlying90
def HE:=AS Tryz.func41 rfl
def CS:=Dy Tryz.type3
def C8:=Dy Tryz.type27
def Fq:=Dy Tryz.type28
def Gs:=Dy Tryz.type24
def BI:=Bw Tryz.type24
def Ca:=Dz Tryz.underlying24
def LS:=AS Tryz.func104 rfl
def Ie:=Bw Tryz.type4
def NV:=AS Tryz.func103 rfl
def LW:=AS Tryz.func90 rfl
def II:=AS Tryz.func101 rfl
def FJ:=Dy Tryz.type183
def LP:=Dz Tryz.underlying210
def Km:=Bw Tryz.type210
def IJ:=AS Tryz.func89 rfl
def Ji:=AS Tryz.func120 rfl
def Em:=Bw Tryz.type102
def GO:=Dz Tryz.underlying102
def Ct:=Bw Tryz.type104
def FV:=Dz Tryz.underlying104
def GU:=Dy Tryz.type104
def Ga:=Bw Tryz.type139
def Ib:=Bw Tryz.type138
def LN:=Dz Tryz.underlying139
def Gt:=Bw Tryz.type25
def GQ:=Dz Tryz.underlying25
def N3:=Bw Tryz.type94
def LQ:=Dz Tryz.underlying94
def Dx:=Bw Tryz.type95
def EO:=Dz Tryz.underlying95
def FH:=Dz Tryz.underlying173
def Dv:=Bw Tryz.type97
def H9:=Dy Tryz.type133
def AQ:=Bw Tryz.type133
def LO:=Dz Tryz.underlying162
def Cq:=Dz Tryz.underlying133
def GR:=AS Tryz.func134 rfl
def NY:=AS Tryz.func200 rfl
def NW:=AS Tryz.func178 rfl
def LU:=AS Tryz.func162 rfl
def F9:=Dy Tryz.type97
def H8:=Dz Tryz.underlying97
def LV:=AS Tryz.func168 rfl
def N1:=AS Tryz.func96 rfl
def Kk:=AS Tryz.func97 rfl
def LY:=AS Tryz.func99 rfl
def NX:=AS Tryz.func112 rfl
def L2:=AS Tryz.func92 rfl
def Kl:=AS Tryz.func69 rfl
def L3:=AS Tryz.func93 rfl
def LZ:=AS Tryz.func78 rfl
def Ia:=AS Tryz.func71 rfl
def NZ:=AS Tryz.func72 rfl
def N2:=AS Tryz.func95 rfl
def HF:=AS Tryz.func27 rfl
theorem mixed:Tryz.prog.follows .mixedOrders=true:=rfl
theorem ah:Tt Tryz.prog 27:=⟨_,_,underlying27,by decide+kernel,by decide+kernel,by decide,by decide,underlying3,underlying3,rfl,rfl⟩
def f101(fuel:Nat)(p0:Int)(p1:Int)(p2:Int):Option Bool:= Option.bind (if p0<p1 then(some true) else(some (decide (p2<p0)))) fun K=> some K
theorem I3{p0:Int}{p1:Int}{p2:Int}{fuel:Nat}{r:Bool}(K:f101 fuel p0 p1 p2=some r):AK J 101 [iV p0,iV p1,iV p2] E [] (fun w E' B'=>w= .bool r∧B'= []):=by
 refine A4 func101 fun Q a1 cs H O V=>?_;unfold f101 at K;obtain⟨Y,Z,ag⟩:=bs K;refine zg 10 rfl (Dm 8 1 [] [(14,.bool Y)] (fun a2 al am=>?_) (fun U=>?_))
 ·refine zg 2 rfl ?_;obtain rfl:=oi ag;exact AD func101 rfl rfl (V al rfl ⟨rfl,rfl⟩ am)
 ·refine Ei 10 Z (fun ap av=>?_) (fun ap a0=>?_)
  ·refine zg 4 rfl ?_;obtain rfl:=oi av;exact U Ar O rfl
  ·refine zg 4 rfl ?_;obtain rfl:=oi a0;exact U Ar O rfl
def f104(fuel:Nat)(p0:Int)(p1:Int)(p2:Int):Option Bool:= Option.bind (if p1≤p0 then(some (decide (p0≤p2))) else(some false)) fun K=> some K
theorem Nc{p0:Int}{p1:Int}{p2:Int}{fuel:Nat}{r:Bool}(K:f104 fuel p0 p1 p2=some r):AK J 104 [iV p0,iV p1,iV p2] E [] (fun w E' B'=>w= .bool r∧B'= []):=by
 refine A4 func104 fun Q a1 cs H O V=>?_;unfold f104 at K;obtain⟨Y,Z,ag⟩:=bs K;refine zg 10 rfl (Dm 8 1 [] [(14,.bool Y)] (fun a2 al am=>?_) (fun U=>?_))
 ·refine zg 2 rfl ?_;obtain rfl:=oi ag;exact AD func104 rfl rfl (V al rfl ⟨rfl,rfl⟩ am)
 ·refine Ei 10 Z (fun ap av=>?_) (fun ap a0=>?_)
  ·refine zg 4 rfl ?_;obtain rfl:=oi av;exact U Ar O rfl
  ·refine zg 4 rfl ?_;obtain rfl:=oi a0;exact U Ar O rfl
def Nl(fuel:Nat)(p0:List Int)(p1:List Int)(K:Int):Option (Bh Int ((Bool)⊕(Unit))):= Option.bind (if K<(p0.length:Int) then(some (decide (K<(p1.length:Int)))) else(some false)) fun O=> if O=true then((ix p0 K).bind fun U=> (ix p1 K).bind fun V=> if U≠V then(some (.done (Sum.inl false))) else((As (K+1)).bind fun Y=> some (.more Y))) else(some (.done (Sum.inr ())))
def f32(fuel:Nat)(p0:List Int)(p1:List Int):Option Bool:= Option.bind (iter (Nl fuel p0 p1) fuel 0) fun K=> Sum.elim (fun r=>some r) (fun O=> some (decide ((p0.length:Int)=(p1.length:Int)))) K
theorem NF{K:Ao}{c2:Nat}{O:Ao}{U:Nat}{p0:List Int}{p1:List Int}(a9:Al rI E K c2 p0)(ba:Al rI E O U p1){fuel:Nat}{r:Bool}(av:f32 fuel p0 p1=some r):AK J 32 [sV K p0 c2,sV O p1 U] E [] (fun w E' B'=>w= .bool r∧B'= []):=by
 refine A4 func32 fun Q bJ cs H bb a0=>?_;unfold f32 at av;obtain⟨a1,bc,a2⟩:=bs av;refine zg 9 rfl (Bt (fun L s=>∃(a3:Unit) (a4:LH),a1=Sum.inr a3∧Jm E H a4 [] [(0,sV K p0 c2),(1,sV O p1 U)] L s) ?_ ?_)
 ·rintro _ _ ⟨a3,a4,rfl,rfl,rfl,bd,be⟩;have bf:=elim_inr a2;refine zg 3 rfl (Bj underlying28 rfl rfl rfl ?_);refine zg 1 rfl (Bj underlying28 rfl rfl rfl ?_);refine zg 3 rfl ?_;obtain rfl:=oi bf;exact AD func32 rfl rfl (a0 bd rfl ⟨rfl,rfl⟩ be)
 ·intro bg;refine JL.block (Cu bc (fun Z=> []) (fun Z=> [(0,sV K p0 c2),(1,sV O p1 U),(5,iV Z)]) Ar bb ?_);rintro Z al V a5 a6 ⟨bK,ag⟩ bh;have a7:=ag;unfold Nl at a7;refine zg 5 rfl (Bj underlying28 rfl rfl rfl ?_);obtain⟨bi,bj,bl⟩:=bs a7;refine zg 2 rfl (ER [] (fun L s=>∃(am:LH),Jm al H am [] [(0,sV K p0 c2),(1,sV O p1 U),(5,iV Z),(15,.bool bi)] L s) ?_ ?_)
  ·rintro _ _ ⟨am,rfl,rfl,Y,ap⟩;refine JL.done (BJ bl (fun bm bn=>?_) (fun bm bo=>?_))
   ·refine zg 4 rfl (CW 8 fun ht=>?_);refine AW ht rfl [0,1] rfl ?_;obtain⟨bL,bp,bq⟩:=bs bn;refine Cy 2 (a9.Ah (V.Ab Y)) bp ht underlying28 AX ?_;rintro bM bN _ rfl br;refine Cn 3 ht 0 br Bx rfl rfl rfl rfl (AW ht rfl [4,5] rfl ?_);obtain⟨bO,bu,bv⟩:=bs bq;refine Cy 6 (ba.Ah (V.Ab Y)) bu ht underlying28 AX ?_;rintro bP bQ _ rfl bw;refine Cn 7 ht 0 bw Bx rfl rfl rfl rfl (Cc [8] ?_);refine zg 2 rfl (AL bv (fun bx bz=>?_) (fun bx bA=>?_))
    ·refine zg 4 rfl ?_;obtain rfl:=oi bz;obtain rfl:=a6 _ ag;have bB:=elim_inl a2;obtain rfl:=oi bB;exact AD func32 rfl rfl (a0 (V.Ab Y) rfl ⟨rfl,rfl⟩ ap)
    ·obtain⟨bC,bD,bE⟩:=bs bA;refine zg 4 rfl (Bb bD rfl rfl rfl ?_);refine zg 2 rfl ?_;obtain rfl:=oi bE;exact bh bC (V.Ab Y) ap rfl ag
   ·refine JL.exit rfl ?_;obtain rfl:=oi bo;have bF:a1=(Sum.inr ()):=(a6 _ ag).symm;exact Az (bg _ _ ⟨(),am,bF,rfl,rfl,(V.Ab Y),ap⟩) rfl
  ·intro a8;refine Ei 10 bj (fun bG bH=>?_) (fun bG bI=>?_)
   ·refine zg 2 rfl (Bj underlying28 rfl rfl rfl ?_);refine zg 2 rfl ?_;obtain rfl:=oi bH;exact Az (a8 _ _ ⟨al,rfl,rfl,Ar,a5⟩) rfl
   ·refine zg 5 rfl ?_;obtain rfl:=oi bI;exact Az (a8 _ _ ⟨al,rfl,rfl,Ar,a5⟩) rfl
def M0(fuel:Nat)(p0:AI)(p1:AI)(K:Int):Option (Bh Int ((Bool)⊕(Unit))):= Option.bind (if K<(p0.length:Int) then(some (decide (K<(p1.length:Int)))) else(some false)) fun V=> if V=true then((ix p0 K).bind fun O=> (ix p1 K).bind fun U=> if ¬(O.1=U.1∧O.2=U.2) then(some (.done (Sum.inl false))) else((As (K+1)).bind fun Y=> some (.more Y))) else(some (.done (Sum.inr ())))
def f34(fuel:Nat)(p0:AI)(p1:AI):Option Bool:= Option.bind (iter (M0 fuel p0 p1) fuel 0) fun K=> Sum.elim (fun r=>some r) (fun O=> some (decide ((p0.length:Int)=(p1.length:Int)))) K
theorem S9{K:Ao}{c2:Nat}{O:Ao}{U:Nat}{p0:AI}{p1:AI}(bb:Al A9 E K c2 p0)(bc:Al A9 E O U p1){fuel:Nat}{r:Bool}(av:f34 fuel p0 p1=some r):AK J 34 [sV K p0 c2,sV O p1 U] E [] (fun w E' B'=>w= .bool r∧B'= []):=by
 refine A4 func34 fun Q bL cs H bd a0=>?_;unfold f34 at av;obtain⟨a1,be,a2⟩:=bs av;refine zg 9 rfl (Bt (fun L s=>∃(a3:Unit) (a4:LH),a1=Sum.inr a3∧Jm E H a4 [] [(0,sV K p0 c2),(1,sV O p1 U)] L s) ?_ ?_)
 ·rintro _ _ ⟨a3,a4,rfl,rfl,rfl,bf,bg⟩;have bh:=elim_inr a2;refine zg 3 rfl (Bj underlying25 rfl rfl rfl ?_);refine zg 1 rfl (Bj underlying25 rfl rfl rfl ?_);refine zg 3 rfl ?_;obtain rfl:=oi bh;exact AD func34 rfl rfl (a0 bf rfl ⟨rfl,rfl⟩ bg)
 ·intro bi;refine JL.block (Cu be (fun Z=> []) (fun Z=> [(0,sV K p0 c2),(1,sV O p1 U),(5,iV Z)]) Ar bd ?_);rintro Z al V a5 a6 ⟨bM,ag⟩ bj;have a7:=ag;unfold M0 at a7;refine zg 5 rfl (Bj underlying25 rfl rfl rfl ?_);obtain⟨bl,bm,bn⟩:=bs a7;refine zg 2 rfl (ER [] (fun L s=>∃(am:LH),Jm al H am [] [(0,sV K p0 c2),(1,sV O p1 U),(5,iV Z),(15,.bool bl)] L s) ?_ ?_)
  ·rintro _ _ ⟨am,rfl,rfl,Y,ap⟩;refine JL.done (BJ bn (fun bo bp=>?_) (fun bo bq=>?_))
   ·refine zg 4 rfl (CW 8 fun ht=>?_);refine AW ht rfl [0,1] rfl ?_;obtain⟨a8,br,bu⟩:=bs bp;refine Cy 2 (bb.Ah (V.Ab Y)) br ht underlying25 BD ?_;rintro bN bO _ ⟨_,_,rfl,rfl,rfl⟩ bv;refine Er 3 ht bv FI BD rfl rfl rfl (AW ht rfl [4,5] rfl ?_);obtain⟨a9,bw,bx⟩:=bs bu;refine Cy 6 (bc.Ah (V.Ab Y)) bw ht underlying25 BD ?_;rintro bP bQ _ ⟨_,_,rfl,rfl,rfl⟩ bz;refine Er 7 ht bz FI BD rfl rfl rfl (Cc [8] ?_);refine AF (v:= .bool (decide (¬(a8.1=a9.1∧a8.2=a9.2)))) rfl (fun ρ h=>VX ah (h _ _ rfl) (h _ _ rfl)) (JL.done ?_);refine AL bx (fun bA bB=>?_) (fun bA bC=>?_)
    ·refine zg 4 rfl ?_;obtain rfl:=oi bB;obtain rfl:=a6 _ ag;have bD:=elim_inl a2;obtain rfl:=oi bD;exact AD func34 rfl rfl (a0 (V.Ab Y) rfl ⟨rfl,rfl⟩ ap)
    ·obtain⟨bE,bF,bG⟩:=bs bC;refine zg 4 rfl (Bb bF rfl rfl rfl ?_);refine zg 2 rfl ?_;obtain rfl:=oi bG;exact bj bE (V.Ab Y) ap rfl ag
   ·refine JL.exit rfl ?_;obtain rfl:=oi bq;have bH:a1=(Sum.inr ()):=(a6 _ ag).symm;exact Az (bi _ _ ⟨(),am,bH,rfl,rfl,(V.Ab Y),ap⟩) rfl
  ·intro ba;refine Ei 10 bm (fun bI bJ=>?_) (fun bI bK=>?_)
   ·refine zg 2 rfl (Bj underlying25 rfl rfl rfl ?_);refine zg 2 rfl ?_;obtain rfl:=oi bJ;exact Az (ba _ _ ⟨al,rfl,rfl,Ar,a5⟩) rfl
   ·refine zg 5 rfl ?_;obtain rfl:=oi bK;exact Az (ba _ _ ⟨al,rfl,rfl,Ar,a5⟩) rfl
def M1(fuel:Nat)(p0:List (List Int))(p1:List (List Int))(K:Int):Option (Bh Int ((Bool)⊕(Unit))):= Option.bind (if K<(p0.length:Int) then(some (decide (K<(p1.length:Int)))) else(some false)) fun O=> if O=true then((ix p0 K).bind fun U=> (ix p1 K).bind fun V=> (f32 fuel U V).bind fun Y=> if(!Y)=true then(some (.done (Sum.inl false))) else((As (K+1)).bind fun Z=> some (.more Z))) else(some (.done (Sum.inr ())))
def f84(fuel:Nat)(p0:List (List Int))(p1:List (List Int)):Option Bool:= Option.bind (iter (M1 fuel p0 p1) fuel 0) fun K=> Sum.elim (fun r=>some r) (fun O=> some (decide ((p0.length:Int)=(p1.length:Int)))) K
theorem Tr{K:Ao}{c2:Nat}{O:Ao}{U:Nat}{p0:List (List Int)}{p1:List (List Int)}(bb:Al (rL rI) E K c2 p0)(bc:Al (rL rI) E O U p1){fuel:Nat}{r:Bool}(ap:f84 fuel p0 p1=some r):AK J 84 [sV K p0 c2,sV O p1 U] E [] (fun w E' B'=>w= .bool r∧B'= []):=by
 refine A4 func84 fun Q bQ cs H bd av=>?_;unfold f84 at ap;obtain⟨a0,be,a1⟩:=bs ap;refine zg 9 rfl (Bt (fun L s=>∃(a2:Unit) (a3:LH),a0=Sum.inr a2∧Jm E H a3 [] [(0,sV K p0 c2),(1,sV O p1 U)] L s) ?_ ?_)
 ·rintro _ _ ⟨a2,a3,rfl,rfl,rfl,bf,bg⟩;have bh:=elim_inr a1;refine zg 3 rfl (Bj underlying22 rfl rfl rfl ?_);refine zg 1 rfl (Bj underlying22 rfl rfl rfl ?_);refine zg 3 rfl ?_;obtain rfl:=oi bh;exact AD func84 rfl rfl (av bf rfl ⟨rfl,rfl⟩ bg)
 ·intro bi;refine JL.block (Cu be (fun Z=> []) (fun Z=> [(0,sV K p0 c2),(1,sV O p1 U),(5,iV Z)]) Ar bd ?_);rintro Z al V a4 a5 ⟨bR,ag⟩ bj;have a6:=ag;unfold M1 at a6;refine zg 5 rfl (Bj underlying22 rfl rfl rfl ?_);obtain⟨bl,bm,bn⟩:=bs a6;refine zg 2 rfl (ER [] (fun L s=>∃(am:LH),Jm al H am [] [(0,sV K p0 c2),(1,sV O p1 U),(5,iV Z),(15,.bool bl)] L s) ?_ ?_)
  ·rintro _ _ ⟨am,rfl,rfl,Y,a7⟩;refine JL.done (BJ bn (fun bo bp=>?_) (fun bo bq=>?_))
   ·refine zg 4 rfl (CW 8 fun ht=>?_);refine AW ht rfl [0,1] rfl ?_;obtain⟨bS,br,bu⟩:=bs bp;refine Cy 2 (bb.Ah (V.Ab Y)) br ht underlying22 BZ ?_;rintro bT bU _ ⟨bV,bW,rfl,bv⟩ bw;refine Cn 3 ht 0 bw CZ rfl rfl rfl rfl (AW ht rfl [4,5] rfl ?_);obtain⟨bY,bx,bz⟩:=bs bu;refine Cy 6 (bc.Ah (V.Ab Y)) bx ht underlying22 BZ ?_;rintro bZ b0 _ ⟨b1,b2,rfl,bA⟩ bB;refine Cn 7 ht 0 bB CZ rfl rfl rfl rfl (Cc [8,9] ?_);obtain⟨bC,bD,bE⟩:=bs bz;refine BF (NF bv bA bD) rfl rfl LX a7 fun b3 a8 a9=>AF (v:= .bool (!bC)) rfl (fun ρ h=>Yl.not (h _ _ rfl)) (JL.done ?_);refine BJ bE (fun bF bG=>?_) (fun bF bH=>?_)
    ·refine zg 4 rfl ?_;obtain rfl:=oi bG;obtain rfl:=a5 _ ag;have bI:=elim_inl a1;obtain rfl:=oi bI;exact AD func84 rfl rfl (av ((V.Ab Y).Ab a8) rfl ⟨rfl,rfl⟩ a9)
    ·obtain⟨bJ,bK,bL⟩:=bs bH;refine zg 4 rfl (Bb bK rfl rfl rfl ?_);refine zg 2 rfl ?_;obtain rfl:=oi bL;exact bj bJ ((V.Ab Y).Ab a8) a9 rfl ag
   ·refine JL.exit rfl ?_;obtain rfl:=oi bq;have bM:a0=(Sum.inr ()):=(a5 _ ag).symm;exact Az (bi _ _ ⟨(),am,bM,rfl,rfl,(V.Ab Y),a7⟩) rfl
  ·intro ba;refine Ei 10 bm (fun bN bO=>?_) (fun bN bP=>?_)
   ·refine zg 2 rfl (Bj underlying22 rfl rfl rfl ?_);refine zg 2 rfl ?_;obtain rfl:=oi bO;exact Az (ba _ _ ⟨al,rfl,rfl,Ar,a4⟩) rfl
   ·refine zg 5 rfl ?_;obtain rfl:=oi bP;exact Az (ba _ _ ⟨al,rfl,rfl,Ar,a4⟩) rfl
def f33(fuel:Nat)(p0:Bc)(p1:Bc):Option Bool:= (f84 fuel p0.1 p1.1).bind fun K=> Option.bind (if K=true then((f84 fuel p0.2 p1.2).bind fun O=> some O) else(some false)) fun U=> some U
theorem aR{V:Ao}{c2:Nat}{Y:Ao}{Z:Nat}{ag:Ao}{al:Nat}{am:Ao}{ap:Nat}{p0:Bc}{p1:Bc}(a4:Al (rL rI) E V c2 p0.1)(a5:Al (rL rI) E Y Z p0.2)(a6:Al (rL rI) E ag al p1.1)(a7:Al (rL rI) E am ap p1.2){fuel:Nat}{r:Bool}(av:f33 fuel p0 p1=some r):AK J 33 [.agg #[sV V p0.1 c2,sV Y p0.2 Z],.agg #[sV ag p1.1 al,sV am p1.2 ap]] E [] (fun w E' B'=>w= .bool r∧B'= []):=by
 refine A4 func33 fun Q br cs H a8 a9=>?_;unfold f33 at av;refine zg 2 rfl (Cb a8 fun bu bv O a0 ba=>?_);refine Cb ba fun bw bx K a1 bb=>?_;refine zg 4 rfl (JL.fl 0 (a0.Ah K) underlying24 BR Cs ?_);refine JL.fl 0 a1 underlying24 BR Cs ?_;obtain⟨bz,bc,bd⟩:=bs av;refine BF (Tr (a4.Ah (O.Ab K)) (a6.Ah (O.Ab K)) bc) rfl rfl (AS func84 rfl) bb fun bA U a2=>?_;obtain⟨be,bf,bg⟩:=bs bd;refine zg 1 rfl (Dm 12 1 [] [(16,.bool be)] (fun bB bh bi=>?_) (fun a3=>?_))
 ·refine zg 2 rfl ?_;obtain rfl:=oi bg;exact AD func33 rfl rfl (a9 (((O.Ab K).Ab U).Ab bh) rfl ⟨rfl,rfl⟩ bi)
 ·refine DU 10 bf (fun bj bl=>?_) (fun bj bm=>?_)
  ·refine JL.fl 1 (a0.Ah (K.Ab U)) underlying24 BR Cs ?_;refine JL.fl 1 (a1.Ah U) underlying24 BR Cs ?_;obtain⟨bC,bn,bo⟩:=bs bl;refine BF (Tr (a5.Ah ((O.Ab K).Ab U)) (a7.Ah ((O.Ab K).Ab U)) bn) rfl rfl (AS func84 rfl) a2 fun bD bp bq=>zg 1 rfl ?_;obtain rfl:=oi bo;exact a3 bp bq rfl
  ·refine zg 6 rfl ?_;obtain rfl:=oi bm;exact a3 Ar a2 rfl
def f23(fuel:Nat)(p0:List Int):Option ((BY)):= some (p0,0,2685821657736338717)
theorem aS{K:Ao}{c2:Nat}{p0:List Int}(Z:Al rI E K c2 p0){fuel:Nat}{r:(BY)}(O:f23 fuel p0=some r):AK J 23 [sV K p0 c2] E [] (fun w E' B'=>∃(U:Nat) (V:Ao) (Y:Nat),w= pV U 0∧B'= [(U,.cells #[sV V r.1 Y,iV r.2.1,.int .u64 ((r.2.2:Nat):Int)] 92 (0,0))]∧Al rI E' V Y r.1):=by
 refine A4 func23 fun Q av cs H ag al=>?_;unfold f23 at O;refine zg 7 rfl (AF (v:= .agg #[sV K p0 c2,iV 0,.int .u64 ((2685821657736338717:Nat):Int)]) rfl (fun ρ h=>Dk [(0,1),(1,1),(2,1)] h (Dy type92) underlying92 ⟨rfl,Bw type28,rfl,Bw type3,rfl,Bw type90,trivial⟩ rfl rfl) ?_);refine JS.box (v:= .agg #[sV K p0 c2,iV 0,.int .u64 ((2685821657736338717:Nat):Int)]) rfl rfl rfl ag rfl fun am ap=>zg 2 rfl ?_;obtain rfl:=oi O;exact AD func23 rfl rfl (al Ar rfl ⟨am,K,c2,rfl,(by first | rfl | simp | (simp [Value.cells])),Z⟩ ap)
def f100(fuel:Nat)(p0:BY):Option (Nat×(BY)):= (As (p0.2.1+1)).bind fun O=> Option.bind (if O≤(p0.1.length:Int) then((As (O - 1)).bind fun U=> (ix p0.1 U).bind fun V=> some (((((Di O)*11400714819323198485) % 2 ^ 64) ^^^ (((Di V)*14029467366897019727) % 2 ^ 64)) % 2 ^ 64)) else(some (((Di O)*11400714819323198485) % 2 ^ 64))) fun K=> some (((((((((((p0.2.2 ^^^ K) % 2 ^ 64)*18397679294719823053) % 2 ^ 64) ^^^ (((((p0.2.2 ^^^ K) % 2 ^ 64)*18397679294719823053) % 2 ^ 64)>>>33)) % 2 ^ 64)*14181476777654086739) % 2 ^ 64) ^^^ (((((((((p0.2.2 ^^^ K) % 2 ^ 64)*18397679294719823053) % 2 ^ 64) ^^^ (((((p0.2.2 ^^^ K) % 2 ^ 64)*18397679294719823053) % 2 ^ 64)>>>33)) % 2 ^ 64)*14181476777654086739) % 2 ^ 64)>>>29)) % 2 ^ 64)>>>11,(p0.1,O,(((((p0.2.2 ^^^ K) % 2 ^ 64)*18397679294719823053) % 2 ^ 64) ^^^ (((((p0.2.2 ^^^ K) % 2 ^ 64)*18397679294719823053) % 2 ^ 64)>>>33)) % 2 ^ 64))
theorem ZS{bk:Nat}{V:Ao}{c2:Nat}{p0:BY}(ag:Al rI E V c2 p0.1){fuel:Nat}{r:Nat×(BY)}(al:f100 fuel p0=some r):AK J 100 [pV bk 0] E [(bk,.cells #[sV V p0.1 c2,iV p0.2.1,.int .u64 ((p0.2.2:Nat):Int)] 92 (0,0))] (fun w E' B'=>∃(am:Ao) (ap:Nat),w= .int .u64 ((r.1:Nat):Int)∧B'= [(bk,.cells #[sV am r.2.1 ap,iV r.2.2.1,.int .u64 ((r.2.2.2:Nat):Int)] 92 (0,0))]∧Al rI E' am ap r.2.1):=by
 refine A4 func100 fun Q bh cs H av a4=>?_;unfold f100 at al;refine zg 8 rfl (BM underlying92 AX rfl rfl rfl ?_);refine AF (v:=iV p0.2.1) rfl (fun ρ h=>Yl.load Bx (h _ _ rfl) (DY (j:=0) (off:=1) av rfl rfl)) ?_;obtain⟨U,a5,a6⟩:=bs al;refine Bb a5 rfl rfl rfl (zg 1 rfl ?_);refine BM underlying92 AX rfl rfl rfl (BU 0 av AX fun O=>?_);refine zg 5 rfl (BM underlying92 AX rfl rfl rfl ?_);refine AF (v:=iV U) rfl (fun ρ h=>Yl.load Bx (h _ _ rfl) (DY (j:=0) (off:=1) O rfl rfl)) (AF (v:= .int .u64 ((Di U:Nat):Int)) rfl (fun ρ h=>Yl.Di underlying3 underlying90 (h _ _ rfl)) ?_);refine AF (v:= .int .u64 ((((Di U)*11400714819323198485) % 2 ^ 64:Nat):Int)) rfl (fun ρ h=>MA (h _ _ rfl) (h _ _ rfl)) (zg 4 rfl ?_);refine Dl 9 [bk] ⟨⟨0,_,rfl⟩,trivial⟩ O fun ht=>AW ht rfl [0,1] rfl (B7 2 ht underlying92 AX rfl rfl rfl rfl ?_);refine Ff 3 ht 1 0 O Bx ?_;refine AW ht rfl [4,5] rfl (B7 6 ht underlying92 BZ rfl rfl rfl rfl ?_);refine Ff 7 ht 0 0 O CZ ?_;refine By 8 ht rfl rfl (fun ρ h s' hs=>Yl.len rfl underlying28 (h _ _ rfl)) (Cc [9] ?_);obtain⟨K,a7,a8⟩:=bs a6;refine zg 2 rfl (CM [bX bk #[sV V p0.1 c2,iV U,.int .u64 ((p0.2.2:Nat):Int)] 92] [(0,pV bk 0),(3,.int .u64 ((K:Nat):Int))] (fun bi a0 a1=>?_) (fun a2=>?_))
 ·refine zg 5 rfl (BM underlying92 Ic rfl rfl rfl ?_);refine AF (v:= .int .u64 ((p0.2.2:Nat):Int)) rfl (fun ρ h=>Yl.load LR (h _ _ rfl) (DY (j:=0) (off:=2) a1 rfl rfl)) (zg 1 rfl ?_);refine AF (v:= .int .u64 (((p0.2.2 ^^^ K) % 2 ^ 64:Nat):Int)) rfl (fun ρ h=>ME (h _ _ rfl) (h _ _ rfl)) (AF (v:= .int .u64 (((((p0.2.2 ^^^ K) % 2 ^ 64)*18397679294719823053) % 2 ^ 64:Nat):Int)) rfl (fun ρ h=>MA (h _ _ rfl) (h _ _ rfl)) ?_);refine zg 1 rfl (BM underlying92 Ic rfl rfl rfl ?_);refine BU 0 a1 Ic fun Y=>?_;refine zg 2 rfl (Dl 11 [bk] ⟨⟨0,_,rfl⟩,trivial⟩ Y fun ht=>?_);refine AW ht rfl [0,1,2] rfl (B7 3 ht underlying92 Ic rfl rfl rfl rfl ?_);refine Ff 4 ht 2 0 Y LR ?_;refine AW ht rfl [5,6] rfl (B7 7 ht underlying92 Ic rfl rfl rfl rfl ?_);refine Ff 8 ht 2 0 Y LR ?_;refine By (v:= .int .u64 ((((((p0.2.2 ^^^ K) % 2 ^ 64)*18397679294719823053) % 2 ^ 64)>>>33:Nat):Int)) 9 ht rfl rfl (fun ρ h s' hs=>JC 33 (h _ _ rfl) (h _ _ rfl) (by decide)) (By (v:= .int .u64 (((((((p0.2.2 ^^^ K) % 2 ^ 64)*18397679294719823053) % 2 ^ 64) ^^^ (((((p0.2.2 ^^^ K) % 2 ^ 64)*18397679294719823053) % 2 ^ 64)>>>33)) % 2 ^ 64:Nat):Int)) 10 ht rfl rfl (fun ρ h s' hs=>ME (h _ _ rfl) (h _ _ rfl)) ?_);refine Cc [11,12,13] (zg 1 rfl ?_);refine BM underlying92 Ic rfl rfl rfl (BU 0 Y Ic fun a3=>?_);refine zg 5 rfl (BM underlying92 Ic rfl rfl rfl ?_);refine AF (v:= .int .u64 (((((((p0.2.2 ^^^ K) % 2 ^ 64)*18397679294719823053) % 2 ^ 64) ^^^ (((((p0.2.2 ^^^ K) % 2 ^ 64)*18397679294719823053) % 2 ^ 64)>>>33)) % 2 ^ 64:Nat):Int)) rfl (fun ρ h=>Yl.load LR (h _ _ rfl) (DY (j:=0) (off:=2) a3 rfl rfl)) (AF (v:= .int .u64 (((((((((p0.2.2 ^^^ K) % 2 ^ 64)*18397679294719823053) % 2 ^ 64) ^^^ (((((p0.2.2 ^^^ K) % 2 ^ 64)*18397679294719823053) % 2 ^ 64)>>>33)) % 2 ^ 64)*14181476777654086739) % 2 ^ 64:Nat):Int)) rfl (fun ρ h=>MA (h _ _ rfl) (h _ _ rfl)) ?_);refine zg 6 rfl (AF (v:= .int .u64 ((((((((((p0.2.2 ^^^ K) % 2 ^ 64)*18397679294719823053) % 2 ^ 64) ^^^ (((((p0.2.2 ^^^ K) % 2 ^ 64)*18397679294719823053) % 2 ^ 64)>>>33)) % 2 ^ 64)*14181476777654086739) % 2 ^ 64)>>>29:Nat):Int)) rfl (fun ρ h=>JC 29 (h _ _ rfl) (h _ _ rfl) (by decide)) ?_);refine AF (v:= .int .u64 (((((((((((p0.2.2 ^^^ K) % 2 ^ 64)*18397679294719823053) % 2 ^ 64) ^^^ (((((p0.2.2 ^^^ K) % 2 ^ 64)*18397679294719823053) % 2 ^ 64)>>>33)) % 2 ^ 64)*14181476777654086739) % 2 ^ 64) ^^^ (((((((((p0.2.2 ^^^ K) % 2 ^ 64)*18397679294719823053) % 2 ^ 64) ^^^ (((((p0.2.2 ^^^ K) % 2 ^ 64)*18397679294719823053) % 2 ^ 64)>>>33)) % 2 ^ 64)*14181476777654086739) % 2 ^ 64)>>>29)) % 2 ^ 64:Nat):Int)) rfl (fun ρ h=>ME (h _ _ rfl) (h _ _ rfl)) (AF (v:= .int .u64 ((((((((((((p0.2.2 ^^^ K) % 2 ^ 64)*18397679294719823053) % 2 ^ 64) ^^^ (((((p0.2.2 ^^^ K) % 2 ^ 64)*18397679294719823053) % 2 ^ 64)>>>33)) % 2 ^ 64)*14181476777654086739) % 2 ^ 64) ^^^ (((((((((p0.2.2 ^^^ K) % 2 ^ 64)*18397679294719823053) % 2 ^ 64) ^^^ (((((p0.2.2 ^^^ K) % 2 ^ 64)*18397679294719823053) % 2 ^ 64)>>>33)) % 2 ^ 64)*14181476777654086739) % 2 ^ 64)>>>29)) % 2 ^ 64)>>>11:Nat):Int)) rfl (fun ρ h=>JC 11 (h _ _ rfl) (h _ _ rfl) (by decide)) ?_);refine zg 2 rfl ?_;obtain rfl:=oi a8;exact AD func100 rfl rfl (a4 a0 rfl ⟨V,c2,rfl,rfl,(ag.Ah a0)⟩ a3)
 ·refine AL a7 (fun a9 ba=>?_) (fun a9 bb=>?_)
  ·refine Dl 14 [bk] ⟨⟨0,_,rfl⟩,trivial⟩ O fun ht=>AW ht rfl [0,1,2] rfl (B7 3 ht underlying92 BZ rfl rfl rfl rfl ?_);refine Ff 4 ht 0 0 O CZ ?_;refine AW ht rfl [5,6] rfl (B7 7 ht underlying92 AX rfl rfl rfl rfl ?_);refine Ff 8 ht 1 0 O Bx ?_;obtain⟨bj,bc,bd⟩:=bs ba;refine By 9 ht rfl rfl (fun ρ h s' hs=>C9 (h _ _ rfl) (h _ _ rfl) bc) ?_;obtain⟨Z,be,bf⟩:=bs bd;refine Cy 10 ag be ht underlying28 AX ?_;rintro bl bm _ rfl bg;refine JG.lp 11 ht 0 bg O ⟨⟨0,_,rfl⟩,trivial⟩ Bx ?_;refine By (v:= .int .u64 ((Di Z:Nat):Int)) 12 ht rfl rfl (fun ρ h s' hs=>Yl.Di underlying3 underlying90 (h _ _ rfl)) (By (v:= .int .u64 ((((Di Z)*14029467366897019727) % 2 ^ 64:Nat):Int)) 13 ht rfl rfl (fun ρ h s' hs=>MA (h _ _ rfl) (h _ _ rfl)) ?_);refine Cc [14,15] (AF (v:= .int .u64 ((((((Di U)*11400714819323198485) % 2 ^ 64) ^^^ (((Di Z)*14029467366897019727) % 2 ^ 64)) % 2 ^ 64:Nat):Int)) rfl (fun ρ h=>ME (h _ _ rfl) (h _ _ rfl)) ?_);refine zg 2 rfl ?_;obtain rfl:=oi bf;exact a2 Ar O rfl
  ·refine JL.skip ?_;obtain rfl:=oi bb;exact a2 Ar O rfl
def f41(fuel:Nat)(p0:BY)(p1:Int):Option (Int×(BY)):= (f100 fuel p0).bind fun K=> if p1<1 then(some (0,K.2)) else((NH K.1 ((Di p1+1) % 2 ^ 64)).bind fun O=> some (LJ O,K.2))
theorem HR{bk:Nat}{K:Ao}{c2:Nat}{p0:BY}{p1:Int}(a0:Al rI E K c2 p0.1){fuel:Nat}{r:Int×(BY)}(O:f41 fuel p0 p1=some r):AK J 41 [pV bk 0,iV p1] E [(bk,.cells #[sV K p0.1 c2,iV p0.2.1,.int .u64 ((p0.2.2:Nat):Int)] 92 (0,0))] (fun w E' B'=>∃(U:Ao) (V:Nat),w=iV r.1∧B'= [(bk,.cells #[sV U r.2.1 V,iV r.2.2.1,.int .u64 ((r.2.2.2:Nat):Int)] 92 (0,0))]∧Al rI E' U V r.2.1):=by
 refine A4 func41 fun Q a9 cs H a1 Y=>?_;unfold f41 at O;obtain⟨ba,a2,a3⟩:=bs O;refine zg 7 rfl (B6 0 (ZS a0 a2) rfl rfl (AS func100 rfl) a1 rfl ?_);rintro _ bb _ Z ⟨ag,al,rfl,rfl,am⟩ ap;refine zg 8 rfl (AL a3 (fun a4 a5=>?_) (fun a4 a6=>?_))
 ·refine zg 4 rfl ?_;obtain rfl:=oi a5;exact AD func41 rfl rfl (Y Z rfl ⟨ag,al,rfl,rfl,am⟩ ap)
 ·refine zg 5 rfl (AF (v:= .int .u64 ((Di p1:Nat):Int)) rfl (fun ρ h=>Yl.Di underlying3 underlying90 (h _ _ rfl)) ?_);refine AF (v:= .int .u64 (((Di p1+1) % 2 ^ 64:Nat):Int)) rfl (fun ρ h=>XY (h _ _ rfl) (h _ _ rfl)) ?_;obtain⟨av,a7,a8⟩:=bs a6;refine AF (v:= .int .u64 ((av:Nat):Int)) rfl (fun ρ h=>Ww (h _ _ rfl) (h _ _ rfl) a7) (AF (v:=iV (LJ av)) rfl (fun ρ h=>YA underlying90 underlying3 (h _ _ rfl)) ?_);refine zg 2 rfl ?_;obtain rfl:=oi a8;exact AD func41 rfl rfl (Y Z rfl ⟨ag,al,rfl,rfl,am⟩ ap)
def f96(fuel:Nat)(p0:BY)(p1:Int)(p2:Int):Option (Int×(BY)):= (As (p2 - p1)).bind fun O=> (f41 fuel p0 O).bind fun K=> (As (p1+K.1)).bind fun U=> some (U,K.2)
theorem Pa{bk:Nat}{K:Ao}{c2:Nat}{p0:BY}{p1:Int}{p2:Int}(Y:Al rI E K c2 p0.1){fuel:Nat}{r:Int×(BY)}(O:f96 fuel p0 p1 p2=some r):AK J 96 [pV bk 0,iV p1,iV p2] E [(bk,.cells #[sV K p0.1 c2,iV p0.2.1,.int .u64 ((p0.2.2:Nat):Int)] 92 (0,0))] (fun w E' B'=>∃(U:Ao) (V:Nat),w=iV r.1∧B'= [(bk,.cells #[sV U r.2.1 V,iV r.2.2.1,.int .u64 ((r.2.2.2:Nat):Int)] 92 (0,0))]∧Al rI E' U V r.2.1):=by
 refine A4 func96 fun Q a7 cs H Z ag=>?_;unfold f96 at O;obtain⟨a8,al,am⟩:=bs O;refine zg 10 rfl (Cg al rfl rfl rfl ?_);obtain⟨a9,ap,av⟩:=bs am;refine B6 0 (HR Y ap) rfl rfl HE Z rfl ?_;rintro _ ba _ a0 ⟨a1,a2,rfl,rfl,a3⟩ a4;obtain⟨bb,a5,a6⟩:=bs av;refine Bb a5 rfl rfl rfl (zg 2 rfl ?_);obtain rfl:=oi a6;exact AD func96 rfl rfl (ag a0 rfl ⟨a1,a2,rfl,rfl,a3⟩ a4)
def f97(fuel:Nat)(p0:BY)(p1:Int):Option (Bool×(BY)):= (As (p1 - 1)).bind fun O=> (f41 fuel p0 O).bind fun K=> some (decide (K.1=0),K.2)
theorem Lq{bk:Nat}{K:Ao}{c2:Nat}{p0:BY}{p1:Int}(Y:Al rI E K c2 p0.1){fuel:Nat}{r:Bool×(BY)}(O:f97 fuel p0 p1=some r):AK J 97 [pV bk 0,iV p1] E [(bk,.cells #[sV K p0.1 c2,iV p0.2.1,.int .u64 ((p0.2.2:Nat):Int)] 92 (0,0))] (fun w E' B'=>∃(U:Ao) (V:Nat),w= .bool r.1∧B'= [(bk,.cells #[sV U r.2.1 V,iV r.2.2.1,.int .u64 ((r.2.2.2:Nat):Int)] 92 (0,0))]∧Al rI E' U V r.2.1):=by
 refine A4 func97 fun Q a5 cs H Z ag=>?_;unfold f97 at O;obtain⟨a6,al,am⟩:=bs O;refine zg 8 rfl (Cg al rfl rfl rfl ?_);obtain⟨a7,ap,av⟩:=bs am;refine B6 0 (HR Y ap) rfl rfl HE Z rfl ?_;rintro _ a8 _ a0 ⟨a1,a2,rfl,rfl,a3⟩ a4;refine zg 3 rfl ?_;obtain rfl:=oi av;exact AD func97 rfl rfl (ag a0 rfl ⟨a1,a2,rfl,rfl,a3⟩ a4)
def f99(fuel:Nat)(p0:BY)(p1:List Int):Option (Int×(BY)):= (As ((p1.length:Int) - 1)).bind fun O=> (f41 fuel p0 O).bind fun K=> (ix p1 K.1).bind fun U=> some (U,K.2)
theorem Nv{bk:Nat}{K:Ao}{c2:Nat}{O:Ao}{U:Nat}{p0:BY}{p1:List Int}(al:Al rI E K c2 p0.1)(am:Al rI E O U p1){fuel:Nat}{r:Int×(BY)}(V:f99 fuel p0 p1=some r):AK J 99 [pV bk 0,sV O p1 U] E [(bk,.cells #[sV K p0.1 c2,iV p0.2.1,.int .u64 ((p0.2.2:Nat):Int)] 92 (0,0))] (fun w E' B'=>∃(Y:Ao) (Z:Nat),w=iV r.1∧B'= [(bk,.cells #[sV Y r.2.1 Z,iV r.2.2.1,.int .u64 ((r.2.2.2:Nat):Int)] 92 (0,0))]∧Al rI E' Y Z r.2.1):=by
 refine A4 func99 fun Q bb cs H ap av=>?_;unfold f99 at V;refine zg 9 rfl (Bj underlying28 rfl rfl rfl ?_);obtain⟨bc,a0,a1⟩:=bs V;refine Cg a0 rfl rfl rfl ?_;obtain⟨bd,a2,a3⟩:=bs a1;refine B6 0 (HR al a2) rfl rfl HE ap rfl ?_;rintro _ be _ ag ⟨a4,a5,rfl,rfl,a6⟩ a7;obtain⟨bf,a8,a9⟩:=bs a3;refine Cf (am.Ah ag) a8 underlying28 AX ?_;rintro bg bh _ rfl ba;refine B8 0 ba Bx rfl rfl rfl (zg 2 rfl ?_);obtain rfl:=oi a9;exact AD func99 rfl rfl (av ag rfl ⟨a4,a5,rfl,rfl,a6⟩ a7)
def JX(fuel:Nat)(p0:List Int)(p1:Int)(K:(List Int)×Bool×Int):Option (Bh ((List Int)×Bool×Int) ((List Int)×Bool)):= if K.2.2<(p0.length:Int) then((ix p0 K.2.2).bind fun U=> Option.bind (if p1≤U then(some (!K.2.1)) else(some false)) fun V=> Option.bind (if V=true then((room K.1 p1).bind fun Y=> some (Y,true)) else(some (K.1,K.2.1))) fun O=> (ix p0 K.2.2).bind fun Z=> Option.bind (if Z≠p1 then((ix p0 K.2.2).bind fun ag=> (room O.1 ag).bind fun al=> some al) else(some O.1)) fun am=> (As (K.2.2+1)).bind fun ap=> some (.more (am,O.2,ap))) else(some (.done (K.1,K.2.1)))
def f98(fuel:Nat)(p0:List Int)(p1:Int):Option ((List Int)):= Option.bind (iter (JX fuel p0 p1) fuel ([],false,0)) fun K=> Option.bind (if(!K.2)=true then((room K.1 p1).bind fun O=> some O) else(some K.1)) fun U=> some U
theorem Tc{Y:Ao}{c2:Nat}{p0:List Int}{p1:Int}(be:Al rI E Y c2 p0){fuel:Nat}{r:(List Int)}(bn:f98 fuel p0 p1=some r):AK J 98 [sV Y p0 c2,iV p1] E [] (fun w E' B'=>∃(bo:Ao) (bp:Nat),w= sV bo r bp∧B'= []∧Al rI E' bo bp r):=by
 refine A4 func98 fun Q c0 cs H bE bF=>?_;unfold f98 at bn;obtain⟨a5,bG,bH⟩:=bs bn;refine zg 17 rfl (Bt (fun L s=>∃(Z:LH) (am:Ao) (ap:Nat) (a6:Seg),Jn E H Z [a6] [(1,iV p1),(5,sV am a5.1 ap),(6,.bool a5.2)] L s (OL 3 rI Z am ap a6 a5.1)) ?_ ?_)
 ·rintro _ _ ⟨Z,am,ap,a6,rfl,rfl,bI,bq,br⟩;refine zg 4 rfl (AF (v:= .bool (!a5.2)) rfl (fun ρ h=>Yl.not (h _ _ rfl)) ?_);obtain⟨bu,bJ,bK⟩:=bs bH;refine JL.done (Bt (fun L s=>∃(bf:LH) (a7:Ao) (a8:Nat) (bg:Seg),Jn Z H bf [bg] [(5,sV a7 bu a8)] L s (OL 3 rI bf a7 a8 bg bu)) ?_ ?_)
  ·rintro _ _ ⟨bf,a7,a8,bg,rfl,rfl,bL,bM,bN⟩;refine zg 5 rfl (BT 0 bN bM rfl fun c1 bO bP bQ=>?_);obtain rfl:=oi bK;exact AD func98 rfl rfl (bF ((bI.Ab bL).Ab bO) rfl ⟨a7,a8,rfl,rfl,bP⟩ bQ)
  ·intro bv;refine BJ bJ (fun bR bS=>?_) (fun bR bT=>?_)
   ·obtain⟨c3,bU,bV⟩:=bs bS;refine zg 3 rfl (JS.app (pp:=rI) (v:=iV p1) (a:=am) (c:=ap) 0 bU rfl rfl rfl rfl (fun _=>rfl) rfl (fun _=>rfl) rfl rfl rfl underlying28 underlying28 underlying28 AX (Cx type3) CS rfl (by decide) (by decide) (by decide) (by decide) br rfl bq rfl fun c4 bW bY bZ b0 b1=>?_);refine zg 2 rfl ?_;obtain rfl:=oi bV;exact Az (bv _ _ ⟨Z,bW,bY,bZ,rfl,rfl,Ar,b1,b0⟩) rfl
   ·refine JL.skip ?_;obtain rfl:=oi bT;exact Az (bv _ _ ⟨Z,am,ap,a6,rfl,rfl,Ar,bq,br⟩) rfl
 ·intro b2;refine JL.block (CN bG (fun L s K=>∃(O:LH) (U:Ao) (V:Nat) (ag:Seg),Jn E H O [ag] [(0,sV Y p0 c2),(1,iV p1),(5,sV U K.1 V),(6,.bool K.2.1),(7,iV K.2.2)] L s (OL 3 rI O U V ag K.1)) ⟨E,none,0,[],rfl,rfl,Ar,bE,OL.nil⟩ ?_);rintro _ _ K ⟨O,U,V,ag,rfl,rfl,av,bh,bi⟩ b3 ⟨c5,bj⟩ b4;have bw:=bj;unfold JX at bw;refine zg 5 rfl (Bj underlying28 rfl rfl rfl ?_);refine zg 2 rfl (AL bw (fun b5 b6=>?_) (fun b5 b7=>?_))
  ·obtain⟨c6,b8,b9⟩:=bs b6;refine zg 8 rfl (Cf (be.Ah av) b8 underlying28 AX ?_);rintro c7 c8 _ rfl ca;refine B8 0 ca Bx rfl rfl rfl ?_;obtain⟨cb,cc,cd⟩:=bs b9;refine zg 3 rfl (ER [] (fun L s=>∃(a0:LH),Jm O H a0 [ag] [(0,sV Y p0 c2),(1,iV p1),(5,sV U K.1 V),(6,.bool K.2.1),(7,iV K.2.2),(23,.bool cb)] L s) ?_ ?_)
   ·rintro _ _ ⟨a0,rfl,rfl,a1,bx⟩;obtain⟨a2,ce,cf⟩:=bs cd;refine JL.done (Bt (fun L s=>∃(al:LH) (a3:Ao) (a4:Nat) (a9:Seg),Jn a0 H al [a9] [(0,sV Y p0 c2),(1,iV p1),(5,sV a3 a2.1 a4),(6,.bool a2.2),(7,iV K.2.2)] L s (OL 3 rI al a3 a4 a9 a2.1)) ?_ ?_)
    ·rintro _ _ ⟨al,a3,a4,a9,rfl,rfl,bl,bz,bA⟩;obtain⟨c9,cg,ci⟩:=bs cf;refine zg 4 rfl (Cf (be.Ah ((av.Ab a1).Ab bl)) cg underlying28 AX ?_);rintro da db _ rfl ck;refine B8 0 ck Bx rfl rfl rfl ?_;obtain⟨bm,cm,cn⟩:=bs ci;refine zg 3 rfl (Bt (fun L s=>∃(ba:LH) (bb:Ao) (bc:Nat) (bd:Seg),Jn al H ba [bd] [(0,sV Y p0 c2),(1,iV p1),(5,sV bb bm bc),(6,.bool a2.2),(7,iV K.2.2)] L s (OL 3 rI ba bb bc bd bm)) ?_ ?_)
     ·rintro _ _ ⟨ba,bb,bc,bd,rfl,rfl,co,cp,cq⟩;obtain⟨cr,ct,cu⟩:=bs cn;refine zg 3 rfl (Bb ct rfl rfl rfl ?_);refine zg 2 rfl ?_;obtain rfl:=oi cu;exact Az (b4 _ _ (bm,a2.2,cr) ⟨ba,bb,bc,bd,rfl,rfl,(((av.Ab a1).Ab bl).Ab co),cp,cq⟩ bj) rfl
     ·intro bB;refine AL cm (fun cv cw=>?_) (fun cv cy=>?_)
      ·obtain⟨cz,cA,cB⟩:=bs cw;refine zg 4 rfl (Cf (be.Ah ((av.Ab a1).Ab bl)) cA underlying28 AX ?_);rintro dc dd _ rfl cC;refine B8 0 cC Bx rfl rfl rfl ?_;obtain⟨de,cD,cE⟩:=bs cB;refine JS.app (pp:=rI) (v:=iV cz) (a:=a3) (c:=a4) 0 cD rfl rfl rfl rfl (fun _=>rfl) rfl (fun _=>rfl) rfl rfl rfl underlying28 underlying28 underlying28 AX (Cx type3) CS rfl (by decide) (by decide) (by decide) (by decide) bA rfl bz rfl fun df cF cG cH cI cJ=>zg 2 rfl ?_;obtain rfl:=oi cE;exact Az (bB _ _ ⟨al,cF,cG,cH,rfl,rfl,Ar,cJ,cI⟩) rfl
      ·refine JL.skip ?_;obtain rfl:=oi cy;exact Az (bB _ _ ⟨al,a3,a4,a9,rfl,rfl,Ar,bz,bA⟩) rfl
    ·intro bC;refine BJ ce (fun cK cM=>?_) (fun cK cN=>?_)
     ·obtain⟨dg,cO,cP⟩:=bs cM;refine zg 3 rfl (JS.app (pp:=rI) (v:=iV p1) (a:=U) (c:=V) 0 cO rfl rfl rfl rfl (fun _=>rfl) rfl (fun _=>rfl) rfl rfl rfl underlying28 underlying28 underlying28 AX (Cx type3) CS rfl (by decide) (by decide) (by decide) (by decide) (bi.Ah a1) rfl bx rfl fun dh cQ cR cT cV cW=>?_);refine zg 3 rfl ?_;obtain rfl:=oi cP;exact Az (bC _ _ ⟨a0,cQ,cR,cT,rfl,rfl,Ar,cW,cV⟩) rfl
     ·refine JL.skip ?_;obtain rfl:=oi cN;exact Az (bC _ _ ⟨a0,U,V,ag,rfl,rfl,Ar,bx,(bi.Ah a1)⟩) rfl
   ·intro bD;refine Ei 20 cc (fun cX cY=>?_) (fun cX cZ=>?_)
    ·refine zg 1 rfl (AF (v:= .bool (!K.2.1)) rfl (fun ρ h=>Yl.not (h _ _ rfl)) ?_);refine zg 1 rfl ?_;obtain rfl:=oi cY;exact Az (bD _ _ ⟨O,rfl,rfl,Ar,bh⟩) rfl
    ·refine zg 3 rfl ?_;obtain rfl:=oi cZ;exact Az (bD _ _ ⟨O,rfl,rfl,Ar,bh⟩) rfl
  ·refine JL.exit rfl ?_;obtain rfl:=oi b7;obtain rfl:=b3 _ bj;exact Az (b2 _ _ ⟨O,U,V,ag,rfl,rfl,av,bh,bi⟩) rfl
def f108(fuel:Nat)(p0:List Int):Option ((List Int)):= (CF ([]:List Int) p0).bind fun K=> some K
theorem Yy{K:Ao}{c2:Nat}{p0:List Int}(Y:Al rI E K c2 p0){fuel:Nat}{r:(List Int)}(O:f108 fuel p0=some r):AK J 108 [sV K p0 c2] E [] (fun w E' B'=>∃(U:Ao) (V:Nat),w= sV U r V∧B'= []∧Al rI E' U V r):=by
 refine A4 func108 fun Q a7 cs H Z ag=>?_;unfold f108 at O;refine zg 6 rfl (KX (pp:=rI) rfl rfl rfl underlying28 AX Z fun a8 a9 al am=>?_);obtain⟨ba,ap,av⟩:=bs O;refine zg 1 rfl (G0 (pp:=rI) 1 ap rfl rfl rfl rfl rfl rfl rfl underlying28 underlying28 AX (Cx type3) CS rfl (by decide) (by decide) al Y am rfl fun a0 a1 bb a2 a3=>?_);refine zg 2 rfl (BT 1 a2 a3 rfl fun bc a4 a5 a6=>?_);obtain rfl:=oi av;exact AD func108 rfl rfl (ag a4 rfl ⟨a0,a1,rfl,rfl,a5⟩ a6)
def f27(fuel:Nat)(p0:AI):Option ((AI)):= (CF ([]:AI) p0).bind fun K=> some K
theorem I7{K:Ao}{c2:Nat}{p0:AI}(Y:Al A9 E K c2 p0){fuel:Nat}{r:(AI)}(O:f27 fuel p0=some r):AK J 27 [sV K p0 c2] E [] (fun w E' B'=>∃(U:Ao) (V:Nat),w= sV U r V∧B'= []∧Al A9 E' U V r):=by
 refine A4 func27 fun Q a7 cs H Z ag=>?_;unfold f27 at O;refine zg 6 rfl (KX (pp:=A9) rfl rfl rfl underlying25 BD Z fun a8 a9 al am=>?_);obtain⟨ba,ap,av⟩:=bs O;refine zg 1 rfl (G0 (pp:=A9) 1 ap rfl rfl rfl rfl rfl rfl rfl underlying25 underlying25 BD (Cx type27) C8 rfl (by decide) (by decide) al Y am rfl fun a0 a1 bb a2 a3=>?_);refine zg 2 rfl (BT 1 a2 a3 rfl fun bc a4 a5 a6=>?_);obtain rfl:=oi av;exact AD func27 rfl rfl (ag a4 rfl ⟨a0,a1,rfl,rfl,a5⟩ a6)
def MQ(fuel:Nat)(p0:List (List Int))(K:(List (List Int))×Int):Option (Bh ((List (List Int))×Int) ((List (List Int)))):= if K.2<(p0.length:Int) then((ix p0 K.2).bind fun O=> (f108 fuel O).bind fun U=> (ix K.1 K.2).bind fun Y=> (As (K.2+1)).bind fun V=> some (.more ((K.1.set (Int.toNat K.2) U),V))) else(some (.done K.1))
def f77(fuel:Nat)(p0:List (List Int)):Option ((List (List Int))):= (F3 (p0.length:Int) ([]:List Int)).bind fun K=> Option.bind (iter (MQ fuel p0) fuel (K,0)) fun O=> some O
theorem S8{Y:Ao}{c2:Nat}{p0:List (List Int)}(bf:Al (rL rI) E Y c2 p0){fuel:Nat}{r:(List (List Int))}(a5:f77 fuel p0=some r):AK J 77 [sV Y p0 c2] E [] (fun w E' B'=>∃(a6:Ao) (a7:Nat),w= sV a6 r a7∧B'= []∧Al (rL rI) E' a6 a7 r):=by
 refine A4 func77 fun Q b6 cs H bg bh=>?_;unfold f77 at a5;refine zg 7 rfl (Bj underlying22 rfl rfl rfl ?_);obtain⟨bi,bj,bl⟩:=bs a5;refine JS.make (pp:=(rL rI)) bj rfl rfl rfl rfl rfl underlying22 BZ (Cx type28) (by decide) Fq (by decide) ⟨_,_,rfl,Al.nil⟩ bg fun bm bn bo bp=>?_;obtain⟨a8,bq,br⟩:=bs bl;refine zg 7 rfl (Bt (fun L s=>∃(a0:LH) (Z:Ao) (ag:Nat) (a1:Seg),Jn E H a0 [a1] [(3,sV Z a8 ag)] L s (OL 28 (rL rI) a0 Z ag a1 a8)) ?_ ?_)
 ·rintro _ _ ⟨a0,Z,ag,a1,rfl,rfl,bu,bv,bw⟩;refine zg 5 rfl (BT 0 bw bv rfl fun b7 bx bz bA=>?_);obtain rfl:=oi br;exact AD func77 rfl rfl (bh (bu.Ab bx) rfl ⟨Z,ag,rfl,rfl,bz⟩ bA)
 ·intro bB;refine JL.block (CN bq (fun L s K=>∃(al:LH) (U:Ao) (V:Nat) (am:Seg),Jn E H al [am] [(0,sV Y p0 c2),(3,sV U K.1 V),(4,iV K.2)] L s (OL 28 (rL rI) al U V am K.1)) ⟨E,(AZ bm),bi.length,bn,rfl,rfl,Ar,bp,bo⟩ ?_);rintro _ _ K ⟨al,U,V,am,rfl,rfl,a2,a9,ba⟩ bC ⟨b8,a3⟩ bD;have bb:=a3;unfold MQ at bb;refine zg 5 rfl (Bj underlying22 rfl rfl rfl ?_);refine zg 2 rfl (AL bb (fun bE bF=>?_) (fun bE bG=>?_))
  ·obtain⟨bH,bI,bJ⟩:=bs bF;refine zg 8 rfl (Cf (bf.Ah a2) bI underlying22 BZ ?_);rintro bK bL _ ⟨bM,bN,rfl,bO⟩ bP;refine B8 0 bP CZ rfl rfl rfl ?_;obtain⟨O,bQ,bR⟩:=bs bJ;refine BV (Yy bO bQ) rfl rfl (AS func108 rfl) a9 ?_;rintro _ bS _ bc ⟨ap,av,rfl,rfl,bT⟩ bU;obtain⟨b9,bV,bW⟩:=bs bR;refine I0 0 (ba.Ah bc) bV rfl rfl rfl rfl rfl rfl underlying22 BZ ?_;rintro bd a4 f78 _ bY ⟨ca,cb,rfl,cc⟩ cd bZ b0 ce cf;refine JS.store (v:= sV ap O av) (off:=a4) 0 rfl rfl rfl bU rfl rfl BZ (by simp [Value.cells,CP]) bY (by have:=bZ;simp only [Rp.n,rK,rN,rB,rP,rL] at this;show _+1≤_;omega) fun b1=>?_;have b2:=b0 O [sV ap O av] ⟨_,_,rfl,bT⟩;have be:(K.1.set (Int.toNat K.2) O).length=K.1.length:=List.length_set;refine Gf (L':= [(0,.slice Y p0.length c2),(3,.slice U ((K.1.set (Int.toNat K.2) O)).length V),(4,iV K.2),(8,iV K.2),(9,.slice Y p0.length c2),(10,iV (p0.length:Int)),(11,.bool (decide (K.2<(p0.length:Int)))),(14,.slice U ((K.1.set (Int.toNat K.2) O)).length V),(15,iV K.2),(16,.slice Y p0.length c2),(17,iV K.2),(18,pV bK bL),(19,.slice bM bH.length bN),(20,.slice ap O.length av),(21,pV bd a4)]) ⟨rfl,by rw [be];rfl,rfl,rfl,rfl,rfl,rfl,by rw [be];rfl,rfl,rfl,rfl,rfl,rfl,rfl,rfl,trivial⟩ ?_;obtain⟨b3,b4,b5⟩:=bs bW;refine zg 4 rfl (Bb b4 rfl rfl rfl ?_);refine zg 2 rfl ?_;obtain rfl:=oi b5;exact Az (bD _ _ ((K.1.set (Int.toNat K.2) O),b3) ⟨bS,U,V,[(bd,.cells (A0 f78 a4 [sV ap O av]) 28 (0,0))],rfl,rfl,(a2.Ab bc),b1,b2⟩ a3) rfl
  ·refine JL.exit rfl ?_;obtain rfl:=oi bG;obtain rfl:=bC _ a3;exact Az (bB _ _ ⟨al,U,V,am,rfl,rfl,a2,a9,ba⟩) rfl
def f26(fuel:Nat)(p0:Bc):Option ((Bc)):= (f77 fuel p0.1).bind fun K=> (f77 fuel p0.2).bind fun O=> some (K,O)
theorem Tg{ag:Ao}{c2:Nat}{am:Ao}{ap:Nat}{p0:Bc}(a8:Al (rL rI) E ag c2 p0.1)(a9:Al (rL rI) E am ap p0.2){fuel:Nat}{r:(Bc)}(av:f26 fuel p0=some r):AK J 26 [.agg #[sV ag p0.1 c2,sV am p0.2 ap]] E [] (fun w E' B'=>∃(a0:Ao) (a1:Nat) (a2:Ao) (a3:Nat),w= .agg #[sV a0 r.1 a1,sV a2 r.2 a3]∧B'= []∧Al (rL rI) E' a0 a1 r.1∧Al (rL rI) E' a2 a3 r.2):=by
 refine A4 func26 fun Q bo cs H ba bb=>?_;unfold f26 at av;refine zg 2 rfl (Cb ba fun bp bq al a4 bc=>?_);refine CO bc Gs fun br bd=>?_;refine zg 2 rfl (CW 5 fun ht=>?_);refine B7 0 ht underlying24 BR rfl rfl rfl rfl (Cn 1 ht 0 a4 Cs rfl rfl rfl rfl ?_);refine B7 3 ht underlying24 BR rfl rfl rfl rfl (Cn 4 ht 1 a4 Cs rfl rfl rfl rfl ?_);obtain⟨Y,be,bf⟩:=bs av;refine JG.call (i:=2) (vs:= [sV ag p0.1 c2]) (S8 (a8.Ah al) be) (by decide+kernel) rfl rfl rfl (AS func77 rfl) rfl bd ?_;rintro _ bu _ a5 ⟨K,O,rfl,rfl,bg⟩ bh;refine Cc [5,6,7] ?_;obtain⟨Z,bi,bj⟩:=bs bf;refine BV (S8 (a9.Ah (al.Ab a5)) bi) rfl rfl (AS func77 rfl) bh ?_;rintro _ bv _ a6 ⟨U,V,rfl,rfl,bl⟩ bm;refine AF (v:= .agg #[sV K Y O,sV U Z V]) rfl (fun ρ h=>Dk [(0,1),(1,1)] h Gs underlying24 ⟨rfl,Bw type22,rfl,Bw type22,trivial⟩ rfl rfl) (BU 2 bm BI fun a7=>?_);refine JL.done ?_;obtain rfl:=oi bj;refine JL.ret (v:= .agg #[sV K Y O,sV U Z V]) rfl rfl (Ch.list func26 rfl (vs:= [.agg #[sV K Y O,sV U Z V]]) ⟨⟨_,rfl,Ld.many (vs:= [sV K Y O,sV U Z V]) Ca BI (FW (off:=0) 2 a7 rfl rfl)⟩,trivial⟩) (Ir 2 a7 rfl fun bn=>?_);exact bb ((al.Ab a5).Ab a6) rfl ⟨K,O,U,V,rfl,rfl,(bg.Ah a6),bl⟩ bn
def M8(fuel:Nat)(p0:List (List Int))(K:Int):Option (Bh Int ((Bool)⊕(Unit))):= Option.bind (if K<(p0.length:Int) then(some (decide (K<20))) else(some false)) fun O=> if O=true then((ix p0 K).bind fun U=> if 20<(U.length:Int) then(some (.done (Sum.inl true))) else((As (K+1)).bind fun V=> some (.more V))) else(some (.done (Sum.inr ())))
def f76(fuel:Nat)(p0:List (List Int)):Option Bool:= Option.bind (iter (M8 fuel p0) fuel 0) fun K=> Sum.elim (fun r=>some r) (fun O=> some (decide (20<(p0.length:Int)))) K
theorem Ti{K:Ao}{c2:Nat}{p0:List (List Int)}(a7:Al (rL rI) E K c2 p0){fuel:Nat}{r:Bool}(am:f76 fuel p0=some r):AK J 76 [sV K p0 c2] E [] (fun w E' B'=>w= .bool r∧B'= []):=by
 refine A4 func76 fun Q bD cs H a8 ap=>?_;unfold f76 at am;obtain⟨av,a9,a0⟩:=bs am;refine zg 9 rfl (Bt (fun L s=>∃(a1:Unit) (a2:LH),av=Sum.inr a1∧Jm E H a2 [] [(0,sV K p0 c2)] L s) ?_ ?_)
 ·rintro _ _ ⟨a1,a2,rfl,rfl,rfl,ba,bb⟩;have bc:=elim_inr a0;refine zg 3 rfl (Bj underlying22 rfl rfl rfl ?_);refine zg 3 rfl ?_;obtain rfl:=oi bc;exact AD func76 rfl rfl (ap ba rfl ⟨rfl,rfl⟩ bb)
 ·intro bd;refine JL.block (Cu a9 (fun O=> []) (fun O=> [(0,sV K p0 c2),(3,iV O)]) Ar a8 ?_);rintro O Z U a3 a4 ⟨bE,V⟩ be;have a5:=V;unfold M8 at a5;refine zg 5 rfl (Bj underlying22 rfl rfl rfl ?_);obtain⟨bf,bg,bh⟩:=bs a5;refine zg 2 rfl (ER [] (fun L s=>∃(ag:LH),Jm Z H ag [] [(0,sV K p0 c2),(3,iV O),(11,.bool bf)] L s) ?_ ?_)
  ·rintro _ _ ⟨ag,rfl,rfl,Y,al⟩;refine JL.done (BJ bh (fun bi bj=>?_) (fun bi bl=>?_))
   ·obtain⟨bF,bm,bn⟩:=bs bj;refine zg 7 rfl (Cf (a7.Ah (U.Ab Y)) bm underlying22 BZ ?_);rintro bG bH _ ⟨bI,bJ,rfl,bK⟩ bo;refine B8 0 bo CZ rfl rfl rfl (Bj underlying28 rfl rfl rfl ?_);refine zg 2 rfl (AL bn (fun bp bq=>?_) (fun bp br=>?_))
    ·refine zg 4 rfl ?_;obtain rfl:=oi bq;obtain rfl:=a4 _ V;have bu:=elim_inl a0;obtain rfl:=oi bu;exact AD func76 rfl rfl (ap (U.Ab Y) rfl ⟨rfl,rfl⟩ al)
    ·obtain⟨bv,bw,bx⟩:=bs br;refine zg 4 rfl (Bb bw rfl rfl rfl ?_);refine zg 2 rfl ?_;obtain rfl:=oi bx;exact be bv (U.Ab Y) al rfl V
   ·refine JL.exit rfl ?_;obtain rfl:=oi bl;have bz:av=(Sum.inr ()):=(a4 _ V).symm;exact Az (bd _ _ ⟨(),ag,bz,rfl,rfl,(U.Ab Y),al⟩) rfl
  ·intro a6;refine Ei 8 bg (fun bA bB=>?_) (fun bA bC=>?_)
   ·refine zg 3 rfl ?_;obtain rfl:=oi bB;exact Az (a6 _ _ ⟨Z,rfl,rfl,Ar,a3⟩) rfl
   ·refine zg 3 rfl ?_;obtain rfl:=oi bC;exact Az (a6 _ _ ⟨Z,rfl,rfl,Ar,a3⟩) rfl
def f21(fuel:Nat)(p0:Bc):Option Bool:= (f76 fuel p0.1).bind fun K=> Option.bind (if K=true then(some true) else((f76 fuel p0.2).bind fun O=> some O)) fun U=> some U
theorem aB{U:Ao}{c2:Nat}{V:Ao}{Y:Nat}{p0:Bc}(ap:Al (rL rI) E U c2 p0.1)(av:Al (rL rI) E V Y p0.2){fuel:Nat}{r:Bool}(Z:f21 fuel p0=some r):AK J 21 [.agg #[sV U p0.1 c2,sV V p0.2 Y]] E [] (fun w E' B'=>w= .bool r∧B'= []):=by
 refine A4 func21 fun Q bh cs H a0 a1=>?_;unfold f21 at Z;refine zg 2 rfl (Cb a0 fun bi bj K ag a2=>?_);refine zg 4 rfl (JL.fl 0 ag underlying24 BR Cs ?_);obtain⟨bl,a3,a4⟩:=bs Z;refine BF (Ti (ap.Ah K) a3) rfl rfl (AS func76 rfl) a2 fun bm O al=>?_;obtain⟨a5,a6,a7⟩:=bs a4;refine zg 1 rfl (Dm 8 1 [] [(10,.bool a5)] (fun bn a8 a9=>?_) (fun am=>?_))
 ·refine zg 2 rfl ?_;obtain rfl:=oi a7;exact AD func21 rfl rfl (a1 ((K.Ab O).Ab a8) rfl ⟨rfl,rfl⟩ a9)
 ·refine DU 6 a6 (fun ba bb=>?_) (fun ba bc=>?_)
  ·refine zg 4 rfl ?_;obtain rfl:=oi bb;exact am Ar al rfl
  ·refine JL.fl 1 (ag.Ah O) underlying24 BR Cs ?_;obtain⟨bo,bd,be⟩:=bs bc;refine BF (Ti (av.Ah (K.Ab O)) bd) rfl rfl (AS func76 rfl) al fun bp bf bg=>zg 1 rfl ?_;obtain rfl:=oi be;exact am bf bg rfl
def Mv(fuel:Nat)(p0:Bc)(p1:List Int)(K:Int):Option (Bh Int ((Int)⊕(Unit))):= if K<(p1.length:Int) then((ix p1 K).bind fun O=> (As ((p0.1.length:Int) - 1)).bind fun U=> (f104 fuel O 0 U).bind fun V=> if(!V)=true then(some (.done (Sum.inl 3))) else(Option.bind (if 0<K then((ix p1 K).bind fun Y=> (As (K - 1)).bind fun Z=> (ix p1 Z).bind fun ag=> some (decide (Y≤ag))) else(some false)) fun al=> if al=true then(some (.done (Sum.inl 5))) else((As (K+1)).bind fun am=> some (.more am)))) else(some (.done (Sum.inr ())))
def f114(fuel:Nat)(p0:Bc)(p1:List Int):Option Int:= if(p1.length:Int)=0 then(some 7) else(if 3<(p1.length:Int) then(some 6) else(Option.bind (iter (Mv fuel p0 p1) fuel 0) fun K=> Sum.elim (fun r=>some r) (fun O=> some 0) K))
theorem Yx{a3:Ao}{c2:Nat}{a4:Ao}{a5:Nat}{ag:Ao}{al:Nat}{p0:Bc}{p1:List Int}(ca:Al (rL rI) E a3 c2 p0.1)(cb:Al (rL rI) E a4 a5 p0.2)(am:Al rI E ag al p1){fuel:Nat}{r:Int}(a6:f114 fuel p0 p1=some r):AK J 114 [.agg #[sV a3 p0.1 c2,sV a4 p0.2 a5],sV ag p1 al] E [] (fun w E' B'=>w=iV r∧B'= []):=by
 refine A4 func114 fun Q cc cs H bf U=>?_;unfold f114 at a6;refine zg 2 rfl (Cb bf fun a7 bg K bh ap=>?_);refine zg 6 rfl (Bj underlying28 rfl rfl rfl ?_);refine zg 2 rfl (AL a6 (fun bi bj=>?_) (fun bi bl=>?_))
 ·refine zg 4 rfl ?_;obtain rfl:=oi bj;exact AD func114 rfl rfl (U K rfl ⟨rfl,rfl⟩ ap)
 ·refine zg 5 rfl (Bj underlying28 rfl rfl rfl ?_);refine zg 2 rfl (AL bl (fun bm bn=>?_) (fun bm bo=>?_))
  ·refine zg 4 rfl ?_;obtain rfl:=oi bn;exact AD func114 rfl rfl (U K rfl ⟨rfl,rfl⟩ ap)
  ·obtain⟨a8,bp,av⟩:=bs bo;refine zg 6 rfl (Bt (fun L s=>∃(a9:Unit) (ba:LH),a8=Sum.inr a9∧Jm bg H ba [] [] L s) ?_ ?_)
   ·rintro _ _ ⟨a9,ba,rfl,rfl,rfl,bq,br⟩;have bu:=elim_inr av;refine zg 4 rfl ?_;obtain rfl:=oi bu;exact AD func114 rfl rfl (U (K.Ab bq) rfl ⟨rfl,rfl⟩ br)
   ·intro bv;refine JL.block (Cu bp (fun V=> []) (fun V=> [(1,sV ag p1 al),(2,pV a7 0),(5,iV V)]) Ar ap ?_);rintro V bw O bb a0 ⟨cd,Y⟩ bx;have bc:=Y;unfold Mv at bc;refine zg 5 rfl (Bj underlying28 rfl rfl rfl ?_);refine zg 2 rfl (AL bc (fun bz bA=>?_) (fun bz bB=>?_))
    ·refine zg 5 rfl (CW 8 fun ht=>?_);refine AW ht rfl [0,1] rfl ?_;obtain⟨ce,bC,bD⟩:=bs bA;refine Cy 2 (am.Ah (K.Ab O)) bC ht underlying28 AX ?_;rintro cf cg _ rfl bE;refine Cn 3 ht 0 bE Bx rfl rfl rfl rfl (B7 4 ht underlying24 BR rfl rfl rfl rfl ?_);refine Cn 5 ht 0 (bh.Ah O) Cs rfl rfl rfl rfl (By 6 ht rfl rfl (fun ρ h s' hs=>Yl.len rfl underlying22 (h _ _ rfl)) ?_);obtain⟨ci,bF,bG⟩:=bs bD;refine By 7 ht rfl rfl (fun ρ h s' hs=>C9 (h _ _ rfl) (h _ _ rfl) bF) (Cc [8,9] ?_);obtain⟨bH,bI,bJ⟩:=bs bG;refine BF (Nc bI) rfl rfl LS bb fun bK Z a1=>AF (v:= .bool (!bH)) rfl (fun ρ h=>Yl.not (h _ _ rfl)) (JL.done ?_);refine BJ bJ (fun bL bM=>?_) (fun bL bN=>?_)
     ·refine zg 4 rfl ?_;obtain rfl:=oi bM;obtain rfl:=a0 _ Y;have bO:=elim_inl av;obtain rfl:=oi bO;exact AD func114 rfl rfl (U ((K.Ab O).Ab Z) rfl ⟨rfl,rfl⟩ a1)
     ·refine zg 2 rfl (CW 14 fun ht=>?_);refine AW ht rfl [0,1,2] rfl ?_;obtain⟨bP,bd,bQ⟩:=bs bN;refine Ed 0 #[true,true,true,true,true,true,true,true,true,true,true,true,true,true] (fun L s=>L= [(1,sV ag p1 al),(2,pV a7 0),(5,iV V),(41,.bool bP)]∧s=An bK H [[]]) ?_ ?_
      ·rintro _ _ ⟨rfl,rfl⟩;refine AU.fin (by decide+kernel) (BJ bQ (fun bR bS=>?_) (fun bR bT=>?_))
       ·refine zg 4 rfl ?_;obtain rfl:=oi bS;obtain rfl:=a0 _ Y;have bU:=elim_inl av;obtain rfl:=oi bU;exact AD func114 rfl rfl (U ((K.Ab O).Ab Z) rfl ⟨rfl,rfl⟩ a1)
       ·obtain⟨bV,bW,bY⟩:=bs bT;refine zg 4 rfl (Bb bW rfl rfl rfl ?_);refine zg 2 rfl ?_;obtain rfl:=oi bY;exact bx bV (O.Ab Z) a1 rfl Y
      ·intro be;refine Fa (q:=0<V) (i:=30) rfl (fun a2=>?_) (fun a2=>?_)
       ·have bZ:=ip bd a2;refine AW ht rfl [3,4] rfl ?_;obtain⟨ck,b0,b1⟩:=bs bZ;refine Cy 5 (am.Ah ((K.Ab O).Ab Z)) b0 ht underlying28 AX ?_;rintro cm cn _ rfl b2;refine Cn 6 ht 0 b2 Bx rfl rfl rfl rfl ?_;refine AW ht rfl [7,8] rfl ?_;obtain⟨co,b3,b4⟩:=bs b1;refine By 9 ht rfl rfl (fun ρ h s' hs=>C9 (h _ _ rfl) (h _ _ rfl) b3) ?_;obtain⟨cp,b5,b6⟩:=bs b4;refine Cy 10 (am.Ah ((K.Ab O).Ab Z)) b5 ht underlying28 AX ?_;rintro cq cr _ rfl b7;refine Cn 11 ht 0 b7 Bx rfl rfl rfl rfl ?_;refine AW ht rfl [12,13] rfl ?_;obtain rfl:=oi b6;refine CE ?_ (be _ _ ⟨rfl,rfl⟩);exact⟨rfl,rfl,rfl,rfl,trivial⟩
       ·have b8:=im bd a2;refine AW ht rfl [3,4,5,6,7,8,9,10,11,12,13] rfl ?_;obtain rfl:=oi b8;refine CE ?_ (be _ _ ⟨rfl,rfl⟩);exact⟨rfl,rfl,rfl,rfl,trivial⟩
    ·refine JL.exit rfl ?_;obtain rfl:=oi bB;have b9:a8=(Sum.inr ()):=(a0 _ Y).symm;exact Az (bv _ _ ⟨(),bw,b9,rfl,rfl,O,bb⟩) rfl
def Mw(fuel:Nat)(p0:Bc)(p1:Int)(p2:List Int)(K:Int):Option (Bh Int ((Int)⊕(Unit))):= if K<(p2.length:Int) then((ix p2 K).bind fun O=> (As ((p0.1.length:Int) - 1)).bind fun U=> (f104 fuel O 0 U).bind fun V=> if(!V)=true then(some (.done (Sum.inl 3))) else((ix p2 K).bind fun Y=> if Y=p1 then(some (.done (Sum.inl 8))) else(Option.bind (if 0<K then((ix p2 K).bind fun Z=> (As (K - 1)).bind fun ag=> (ix p2 ag).bind fun al=> some (decide (Z≤al))) else(some false)) fun am=> if am=true then(some (.done (Sum.inl 5))) else((As (K+1)).bind fun ap=> some (.more ap))))) else(some (.done (Sum.inr ())))
def f115(fuel:Nat)(p0:Bc)(p1:Int)(p2:List Int):Option Int:= if 3<(p2.length:Int) then(some 6) else(Option.bind (iter (Mw fuel p0 p1 p2) fuel 0) fun K=> Sum.elim (fun r=>some r) (fun O=> some 0) K)
theorem Zn{a2:Ao}{c2:Nat}{a3:Ao}{a4:Nat}{ag:Ao}{al:Nat}{p0:Bc}{p1:Int}{p2:List Int}(ce:Al (rL rI) E a2 c2 p0.1)(cf:Al (rL rI) E a3 a4 p0.2)(am:Al rI E ag al p2){fuel:Nat}{r:Int}(a5:f115 fuel p0 p1 p2=some r):AK J 115 [.agg #[sV a2 p0.1 c2,sV a3 p0.2 a4],iV p1,sV ag p2 al] E [] (fun w E' B'=>w=iV r∧B'= []):=by
 refine A4 func115 fun Q cg cs H bf Y=>?_;unfold f115 at a5;refine zg 2 rfl (Cb bf fun a6 bg O bh a7=>?_);refine zg 6 rfl (Bj underlying28 rfl rfl rfl ?_);refine zg 2 rfl (AL a5 (fun bi bj=>?_) (fun bi bl=>?_))
 ·refine zg 4 rfl ?_;obtain rfl:=oi bj;exact AD func115 rfl rfl (Y O rfl ⟨rfl,rfl⟩ a7)
 ·obtain⟨a8,bm,ap⟩:=bs bl;refine zg 6 rfl (Bt (fun L s=>∃(a9:Unit) (ba:LH),a8=Sum.inr a9∧Jm bg H ba [] [] L s) ?_ ?_)
  ·rintro _ _ ⟨a9,ba,rfl,rfl,rfl,bn,bo⟩;have bp:=elim_inr ap;refine zg 4 rfl ?_;obtain rfl:=oi bp;exact AD func115 rfl rfl (Y (O.Ab bn) rfl ⟨rfl,rfl⟩ bo)
  ·intro bq;refine JL.block (Cu bm (fun Z=> []) (fun Z=> [(1,iV p1),(2,sV ag p2 al),(3,pV a6 0),(7,iV Z)]) Ar a7 ?_);rintro Z br K bb av ⟨ci,V⟩ bu;have bc:=V;unfold Mw at bc;refine zg 5 rfl (Bj underlying28 rfl rfl rfl ?_);refine zg 2 rfl (AL bc (fun bv bw=>?_) (fun bv bx=>?_))
   ·refine zg 5 rfl (CW 8 fun ht=>?_);refine AW ht rfl [0,1] rfl ?_;obtain⟨ck,bz,bA⟩:=bs bw;refine Cy 2 (am.Ah (O.Ab K)) bz ht underlying28 AX ?_;rintro cm cn _ rfl bB;refine Cn 3 ht 0 bB Bx rfl rfl rfl rfl (B7 4 ht underlying24 BR rfl rfl rfl rfl ?_);refine Cn 5 ht 0 (bh.Ah K) Cs rfl rfl rfl rfl (By 6 ht rfl rfl (fun ρ h s' hs=>Yl.len rfl underlying22 (h _ _ rfl)) ?_);obtain⟨co,bC,bD⟩:=bs bA;refine By 7 ht rfl rfl (fun ρ h s' hs=>C9 (h _ _ rfl) (h _ _ rfl) bC) (Cc [8,9] ?_);obtain⟨bE,bF,bG⟩:=bs bD;refine BF (Nc bF) rfl rfl LS bb fun bH U a0=>AF (v:= .bool (!bE)) rfl (fun ρ h=>Yl.not (h _ _ rfl)) (JL.done ?_);refine BJ bG (fun bI bJ=>?_) (fun bI bK=>?_)
    ·refine zg 4 rfl ?_;obtain rfl:=oi bJ;obtain rfl:=av _ V;have bL:=elim_inl ap;obtain rfl:=oi bL;exact AD func115 rfl rfl (Y ((O.Ab K).Ab U) rfl ⟨rfl,rfl⟩ a0)
    ·obtain⟨cp,bM,bN⟩:=bs bK;refine zg 6 rfl (Cf (am.Ah ((O.Ab K).Ab U)) bM underlying28 AX ?_);rintro cq cr _ rfl bO;refine B8 0 bO Bx rfl rfl rfl (zg 3 rfl ?_);refine AL bN (fun bP bQ=>?_) (fun bP bR=>?_)
     ·refine zg 4 rfl ?_;obtain rfl:=oi bQ;obtain rfl:=av _ V;have bS:=elim_inl ap;obtain rfl:=oi bS;exact AD func115 rfl rfl (Y ((O.Ab K).Ab U) rfl ⟨rfl,rfl⟩ a0)
     ·refine zg 2 rfl (CW 14 fun ht=>?_);refine AW ht rfl [0,1,2] rfl ?_;obtain⟨bT,bd,bU⟩:=bs bR;refine Ed 0 #[true,true,true,true,true,true,true,true,true,true,true,true,true,true] (fun L s=>L= [(1,iV p1),(2,sV ag p2 al),(3,pV a6 0),(7,iV Z),(46,.bool bT)]∧s=An bH H [[]]) ?_ ?_
      ·rintro _ _ ⟨rfl,rfl⟩;refine AU.fin (by decide+kernel) (BJ bU (fun bV bW=>?_) (fun bV bY=>?_))
       ·refine zg 4 rfl ?_;obtain rfl:=oi bW;obtain rfl:=av _ V;have bZ:=elim_inl ap;obtain rfl:=oi bZ;exact AD func115 rfl rfl (Y ((O.Ab K).Ab U) rfl ⟨rfl,rfl⟩ a0)
       ·obtain⟨b0,b1,b2⟩:=bs bY;refine zg 4 rfl (Bb b1 rfl rfl rfl ?_);refine zg 2 rfl ?_;obtain rfl:=oi b2;exact bu b0 (K.Ab U) a0 rfl V
      ·intro be;refine Fa (q:=0<Z) (i:=35) rfl (fun a1=>?_) (fun a1=>?_)
       ·have b3:=ip bd a1;refine AW ht rfl [3,4] rfl ?_;obtain⟨ct,b4,b5⟩:=bs b3;refine Cy 5 (am.Ah ((O.Ab K).Ab U)) b4 ht underlying28 AX ?_;rintro cu cv _ rfl b6;refine Cn 6 ht 0 b6 Bx rfl rfl rfl rfl ?_;refine AW ht rfl [7,8] rfl ?_;obtain⟨cw,b7,b8⟩:=bs b5;refine By 9 ht rfl rfl (fun ρ h s' hs=>C9 (h _ _ rfl) (h _ _ rfl) b7) ?_;obtain⟨cy,b9,ca⟩:=bs b8;refine Cy 10 (am.Ah ((O.Ab K).Ab U)) b9 ht underlying28 AX ?_;rintro cz cA _ rfl cb;refine Cn 11 ht 0 cb Bx rfl rfl rfl rfl ?_;refine AW ht rfl [12,13] rfl ?_;obtain rfl:=oi ca;refine CE ?_ (be _ _ ⟨rfl,rfl⟩);exact⟨rfl,rfl,rfl,rfl,rfl,trivial⟩
       ·have cc:=im bd a1;refine AW ht rfl [3,4,5,6,7,8,9,10,11,12,13] rfl ?_;obtain rfl:=oi cc;refine CE ?_ (be _ _ ⟨rfl,rfl⟩);exact⟨rfl,rfl,rfl,rfl,rfl,trivial⟩
   ·refine JL.exit rfl ?_;obtain rfl:=oi bx;have cd:a8=(Sum.inr ()):=(av _ V).symm;exact Az (bq _ _ ⟨(),br,cd,rfl,rfl,K,bb⟩) rfl
def Nb(fuel:Nat)(p0:Bc)(K:Int):Option (Bh Int ((Int)⊕(Unit))):= if K<(p0.1.length:Int) then((ix p0.1 K).bind fun V=> (f114 fuel p0 V).bind fun O=> if O≠0 then(some (.done (Sum.inl O))) else((ix p0.2 K).bind fun Y=> (f115 fuel p0 K Y).bind fun U=> if U≠0 then(some (.done (Sum.inl U))) else((As (K+1)).bind fun Z=> some (.more Z)))) else(some (.done (Sum.inr ())))
def f68(fuel:Nat)(p0:Bc):Option Int:= if(p0.1.length:Int)=0 then(some 7) else(if 8<(p0.1.length:Int) then(some 6) else(if(p0.2.length:Int)≠(p0.1.length:Int) then(some 9) else(Option.bind (iter (Nb fuel p0) fuel 0) fun K=> Sum.elim (fun r=>some r) (fun O=> some 0) K)))
theorem an{a1:Ao}{c2:Nat}{a2:Ao}{a3:Nat}{p0:Bc}(al:Al (rL rI) E a1 c2 p0.1)(am:Al (rL rI) E a2 a3 p0.2){fuel:Nat}{r:Int}(a4:f68 fuel p0=some r):AK J 68 [.agg #[sV a1 p0.1 c2,sV a2 p0.2 a3]] E [] (fun w E' B'=>w=iV r∧B'= []):=by
 refine A4 func68 fun Q b2 cs H bd Y=>?_;unfold f68 at a4;refine zg 2 rfl (Cb bd fun be bf O U ag=>?_);refine zg 5 rfl (JL.fl 0 U underlying24 BR Cs ?_);refine Bj underlying22 rfl rfl rfl (zg 2 rfl ?_);refine AL a4 (fun bg bh=>?_) (fun bg bi=>?_)
 ·refine zg 4 rfl ?_;obtain rfl:=oi bh;exact AD func68 rfl rfl (Y O rfl ⟨rfl,rfl⟩ ag)
 ·refine zg 4 rfl (JL.fl 0 U underlying24 BR Cs ?_);refine Bj underlying22 rfl rfl rfl (zg 2 rfl ?_);refine AL bi (fun bj bl=>?_) (fun bj bm=>?_)
  ·refine zg 4 rfl ?_;obtain rfl:=oi bl;exact AD func68 rfl rfl (Y O rfl ⟨rfl,rfl⟩ ag)
  ·refine zg 4 rfl (JL.fl 1 U underlying24 BR Cs ?_);refine Bj underlying22 rfl rfl rfl (JL.fl 0 U underlying24 BR Cs ?_);refine Bj underlying22 rfl rfl rfl (zg 2 rfl ?_);refine AL bm (fun bn bo=>?_) (fun bn bp=>?_)
   ·refine zg 4 rfl ?_;obtain rfl:=oi bo;exact AD func68 rfl rfl (Y O rfl ⟨rfl,rfl⟩ ag)
   ·obtain⟨a5,bq,ap⟩:=bs bp;refine zg 6 rfl (Bt (fun L s=>∃(a6:Unit) (a7:LH),a5=Sum.inr a6∧Jm bf H a7 [] [] L s) ?_ ?_)
    ·rintro _ _ ⟨a6,a7,rfl,rfl,rfl,br,bu⟩;have bv:=elim_inr ap;refine zg 4 rfl ?_;obtain rfl:=oi bv;exact AD func68 rfl rfl (Y (O.Ab br) rfl ⟨rfl,rfl⟩ bu)
    ·intro bw;refine JL.block (Cu bq (fun av=> []) (fun av=> [(1,pV be 0),(3,iV av)]) Ar ag ?_);rintro av bx K a8 a0 ⟨b3,Z⟩ bz;have a9:=Z;unfold Nb at a9;refine zg 4 rfl (JL.fl 0 (U.Ah K) underlying24 BR Cs ?_);refine Bj underlying22 rfl rfl rfl (zg 2 rfl ?_);refine AL a9 (fun bA bB=>?_) (fun bA bC=>?_)
     ·refine zg 5 rfl (CW 6 fun ht=>?_);refine Er 0 ht (U.Ah K) Ca BI rfl rfl rfl (B7 1 ht underlying24 BR rfl rfl rfl rfl ?_);refine Cn 2 ht 0 (U.Ah K) Cs rfl rfl rfl rfl (B4 3 ht rfl rfl ?_);obtain⟨b4,bD,bE⟩:=bs bB;refine Cy 4 (al.Ah (O.Ab K)) bD ht underlying22 BZ ?_;rintro b5 b6 _ ⟨b7,b8,rfl,bF⟩ bG;refine Cn 5 ht 0 bG CZ rfl rfl rfl rfl (Cc [6,7] ?_);obtain⟨b9,bH,bI⟩:=bs bE;refine BF (Yx (al.Ah (O.Ab K)) (am.Ah (O.Ab K)) bF bH) rfl rfl (AS func114 rfl) a8 fun ca V ba=>zg 7 rfl (AL bI (fun bJ bK=>?_) (fun bJ bL=>?_))
      ·refine zg 5 rfl ?_;obtain rfl:=oi bK;obtain rfl:=a0 _ Z;have bM:=elim_inl ap;obtain rfl:=oi bM;exact AD func68 rfl rfl (Y ((O.Ab K).Ab V) rfl ⟨rfl,rfl⟩ ba)
      ·refine zg 2 rfl (CW 7 fun ht=>?_);refine Er 0 ht (U.Ah (K.Ab V)) Ca BI rfl rfl rfl (B4 1 ht rfl rfl ?_);refine B7 2 ht underlying24 BR rfl rfl rfl rfl (Cn 3 ht 1 (U.Ah (K.Ab V)) Cs rfl rfl rfl rfl ?_);refine B4 4 ht rfl rfl ?_;obtain⟨cb,bN,bO⟩:=bs bL;refine Cy 5 (am.Ah ((O.Ab K).Ab V)) bN ht underlying22 BZ ?_;rintro cc cd _ ⟨ce,cf,rfl,bP⟩ bQ;refine Cn 6 ht 0 bQ CZ rfl rfl rfl rfl (Cc [7,8] ?_);obtain⟨cg,bR,bS⟩:=bs bO;refine BF (Zn (al.Ah ((O.Ab K).Ab V)) (am.Ah ((O.Ab K).Ab V)) bP bR) rfl rfl (AS func115 rfl) ba fun ci bb bc=>zg 7 rfl (AL bS (fun bT bU=>?_) (fun bT bV=>?_))
       ·refine zg 5 rfl ?_;obtain rfl:=oi bU;obtain rfl:=a0 _ Z;have bW:=elim_inl ap;obtain rfl:=oi bW;exact AD func68 rfl rfl (Y (((O.Ab K).Ab V).Ab bb) rfl ⟨rfl,rfl⟩ bc)
       ·obtain⟨bY,bZ,b0⟩:=bs bV;refine zg 4 rfl (Bb bZ rfl rfl rfl ?_);refine zg 2 rfl ?_;obtain rfl:=oi b0;exact bz bY ((K.Ab V).Ab bb) bc rfl Z
     ·refine JL.exit rfl ?_;obtain rfl:=oi bC;have b1:a5=(Sum.inr ()):=(a0 _ Z).symm;exact Az (bw _ _ ⟨(),bx,b1,rfl,rfl,K,a8⟩) rfl
def M7(fuel:Nat)(p0:Bc)(p1:AI)(K:Int):Option (Bh Int ((Int)⊕(Unit))):= if K<(p1.length:Int) then((ix p1 K).bind fun O=> (f104 fuel O.1 0 6).bind fun U=> if(!U)=true then(some (.done (Sum.inl 1))) else(Option.bind (if 0<K then((ix p1 K).bind fun V=> (As (K - 1)).bind fun Y=> (ix p1 Y).bind fun Z=> some (decide (V.1<Z.1))) else(some false)) fun ag=> if ag=true then(some (.done (Sum.inl 5))) else((ix p1 K).bind fun al=> (As ((p0.1.length:Int) - 1)).bind fun am=> (f104 fuel al.2 0 am).bind fun ap=> if(!ap)=true then(some (.done (Sum.inl 3))) else((As (K+1)).bind fun av=> some (.more av))))) else(some (.done (Sum.inr ())))
def f70(fuel:Nat)(p0:Bc)(p1:AI):Option Int:= (f68 fuel p0).bind fun K=> if K≠0 then(some K) else(if 4<(p1.length:Int) then(some 6) else(Option.bind (iter (M7 fuel p0 p1) fuel 0) fun O=> Sum.elim (fun r=>some r) (fun U=> some 0) O))
theorem Tj{a4:Ao}{c2:Nat}{a5:Ao}{a6:Nat}{al:Ao}{am:Nat}{p0:Bc}{p1:AI}(bj:Al (rL rI) E a4 c2 p0.1)(bl:Al (rL rI) E a5 a6 p0.2)(ap:Al A9 E al am p1){fuel:Nat}{r:Int}(a7:f70 fuel p0 p1=some r):AK J 70 [.agg #[sV a4 p0.1 c2,sV a5 p0.2 a6],sV al p1 am] E [] (fun w E' B'=>w=iV r∧B'= []):=by
 refine A4 func70 fun Q cw cs H bm Y=>?_;unfold f70 at a7;refine zg 2 rfl (Cb bm fun a8 cy K a9 bn=>?_);refine zg 5 rfl (BW a9 Ca BI rfl rfl ?_);obtain⟨cz,bo,bp⟩:=bs a7;refine BF (an (bj.Ah K) (bl.Ah K) bo) rfl rfl (AS func68 rfl) bn fun bq O a1=>zg 7 rfl (AL bp (fun br bu=>?_) (fun br bv=>?_))
 ·refine zg 5 rfl ?_;obtain rfl:=oi bu;exact AD func70 rfl rfl (Y (K.Ab O) rfl ⟨rfl,rfl⟩ a1)
 ·refine zg 5 rfl (Bj underlying25 rfl rfl rfl ?_);refine zg 2 rfl (AL bv (fun bw bx=>?_) (fun bw bz=>?_))
  ·refine zg 4 rfl ?_;obtain rfl:=oi bx;exact AD func70 rfl rfl (Y (K.Ab O) rfl ⟨rfl,rfl⟩ a1)
  ·obtain⟨ba,bA,av⟩:=bs bz;refine zg 6 rfl (Bt (fun L s=>∃(bb:Unit) (bc:LH),ba=Sum.inr bb∧Jm bq H bc [] [] L s) ?_ ?_)
   ·rintro _ _ ⟨bb,bc,rfl,rfl,rfl,bB,bC⟩;have bD:=elim_inr av;refine zg 4 rfl ?_;obtain rfl:=oi bD;exact AD func70 rfl rfl (Y ((K.Ab O).Ab bB) rfl ⟨rfl,rfl⟩ bC)
   ·intro bE;refine JL.block (Cu bA (fun ag=> []) (fun ag=> [(1,sV al p1 am),(2,pV a8 0),(6,iV ag)]) Ar a1 ?_);rintro ag bF U bd a0 ⟨cA,Z⟩ bG;have be:=Z;unfold M7 at be;refine zg 5 rfl (Bj underlying25 rfl rfl rfl ?_);refine zg 2 rfl (AL be (fun bH bI=>?_) (fun bH bJ=>?_))
    ·obtain⟨cB,bK,bL⟩:=bs bI;refine zg 8 rfl (Cf (ap.Ah ((K.Ab O).Ab U)) bK underlying25 BD ?_);rintro cC cD _ ⟨_,_,rfl,rfl,rfl⟩ bM;refine JL.fl 0 bM underlying27 AX Bx ?_;obtain⟨bN,bO,bP⟩:=bs bL;refine BF (Nc bO) rfl rfl LS bd fun bQ V a2=>AF (v:= .bool (!bN)) rfl (fun ρ h=>Yl.not (h _ _ rfl)) (JL.done ?_);refine BJ bP (fun bR bS=>?_) (fun bR bT=>?_)
     ·refine zg 4 rfl ?_;obtain rfl:=oi bS;obtain rfl:=a0 _ Z;have bU:=elim_inl av;obtain rfl:=oi bU;exact AD func70 rfl rfl (Y (((K.Ab O).Ab U).Ab V) rfl ⟨rfl,rfl⟩ a2)
     ·refine zg 3 rfl (CW 16 fun ht=>?_);refine AW ht rfl [0,1,2] rfl ?_;obtain⟨bV,bf,bW⟩:=bs bT;refine Ed 0 #[true,true,true,true,true,true,true,true,true,true,true,true,true,true,true,true] (fun L s=>L= [(1,sV al p1 am),(2,pV a8 0),(6,iV ag),(43,.bool bV)]∧s=An bQ H [[]]) ?_ ?_
      ·rintro _ _ ⟨rfl,rfl⟩;refine AU.fin (by decide+kernel) (BJ bW (fun bY bZ=>?_) (fun bY b0=>?_))
       ·refine zg 4 rfl ?_;obtain rfl:=oi bZ;obtain rfl:=a0 _ Z;have b1:=elim_inl av;obtain rfl:=oi b1;exact AD func70 rfl rfl (Y (((K.Ab O).Ab U).Ab V) rfl ⟨rfl,rfl⟩ a2)
       ·refine zg 2 rfl (CW 9 fun ht=>?_);refine AW ht rfl [0,1] rfl ?_;obtain⟨cE,b2,b3⟩:=bs b0;refine Cy 2 (ap.Ah (((K.Ab O).Ab U).Ab V)) b2 ht underlying25 BD ?_;rintro cF cG _ ⟨_,_,rfl,rfl,rfl⟩ b4;refine B7 3 ht underlying27 AX rfl rfl rfl rfl (Cn 4 ht 1 b4 Bx rfl rfl rfl rfl ?_);refine B7 5 ht underlying24 BR rfl rfl rfl rfl (Cn 6 ht 0 (a9.Ah ((O.Ab U).Ab V)) Cs rfl rfl rfl rfl ?_);refine By 7 ht rfl rfl (fun ρ h s' hs=>Yl.len rfl underlying22 (h _ _ rfl)) ?_;obtain⟨cH,b5,b6⟩:=bs b3;refine By 8 ht rfl rfl (fun ρ h s' hs=>C9 (h _ _ rfl) (h _ _ rfl) b5) (Cc [9,10] ?_);obtain⟨b7,b8,b9⟩:=bs b6;refine BF (Nc b8) rfl rfl LS a2 fun cI bg bh=>AF (v:= .bool (!b7)) rfl (fun ρ h=>Yl.not (h _ _ rfl)) (JL.done ?_);refine BJ b9 (fun ca cb=>?_) (fun ca cc=>?_)
        ·refine zg 4 rfl ?_;obtain rfl:=oi cb;obtain rfl:=a0 _ Z;have cd:=elim_inl av;obtain rfl:=oi cd;exact AD func70 rfl rfl (Y ((((K.Ab O).Ab U).Ab V).Ab bg) rfl ⟨rfl,rfl⟩ bh)
        ·obtain⟨ce,cf,cg⟩:=bs cc;refine zg 4 rfl (Bb cf rfl rfl rfl ?_);refine zg 2 rfl ?_;obtain rfl:=oi cg;exact bG ce ((U.Ab V).Ab bg) bh rfl Z
      ·intro bi;refine Fa (q:=0<ag) (i:=30) rfl (fun a3=>?_) (fun a3=>?_)
       ·have ci:=ip bf a3;refine AW ht rfl [3,4] rfl ?_;obtain⟨cJ,ck,cm⟩:=bs ci;refine Cy 5 (ap.Ah (((K.Ab O).Ab U).Ab V)) ck ht underlying25 BD ?_;rintro cK cM _ ⟨_,_,rfl,rfl,rfl⟩ cn;refine B7 6 ht underlying27 AX rfl rfl rfl rfl ?_;refine Cn 7 ht 0 cn Bx rfl rfl rfl rfl ?_;refine AW ht rfl [8,9] rfl ?_;obtain⟨cN,co,cp⟩:=bs cm;refine By 10 ht rfl rfl (fun ρ h s' hs=>C9 (h _ _ rfl) (h _ _ rfl) co) ?_;obtain⟨cO,cq,cr⟩:=bs cp;refine Cy 11 (ap.Ah (((K.Ab O).Ab U).Ab V)) cq ht underlying25 BD ?_;rintro cP cQ _ ⟨_,_,rfl,rfl,rfl⟩ ct;refine B7 12 ht underlying27 AX rfl rfl rfl rfl ?_;refine Cn 13 ht 0 ct Bx rfl rfl rfl rfl ?_;refine AW ht rfl [14,15] rfl ?_;obtain rfl:=oi cr;refine CE ?_ (bi _ _ ⟨rfl,rfl⟩);exact⟨rfl,rfl,rfl,rfl,trivial⟩
       ·have cu:=im bf a3;refine AW ht rfl [3,4,5,6,7,8,9,10,11,12,13,14,15] rfl ?_;obtain rfl:=oi cu;refine CE ?_ (bi _ _ ⟨rfl,rfl⟩);exact⟨rfl,rfl,rfl,rfl,trivial⟩
    ·refine JL.exit rfl ?_;obtain rfl:=oi bJ;have cv:ba=(Sum.inr ()):=(a0 _ Z).symm;exact Az (bE _ _ ⟨(),bF,cv,rfl,rfl,U,bd⟩) rfl
def JH(fuel:Nat)(p0:Bc)(p1:List Bool)(O:(List Bool)×Int)(K:(List Bool)×Int):Option (Bh ((List Bool)×Int) ((List Bool))):= (ix p0.1 O.2).bind fun V=> Option.bind (if K.2<(V.length:Int) then((ix p1 O.2).bind fun Y=> some Y) else(some false)) fun Z=> if Z=true then((ix p0.1 O.2).bind fun ag=> (ix ag K.2).bind fun U=> (ix K.1 U).bind fun am=> (As (K.2+1)).bind fun al=> some (.more ((K.1.set (Int.toNat U) true),al))) else(some (.done K.1))
def MI(fuel:Nat)(p0:Bc)(p1:List Bool)(K:(List Bool)×Int):Option (Bh ((List Bool)×Int) ((List Bool))):= if K.2<(p1.length:Int) then(Option.bind (iter (JH fuel p0 p1 K) fuel (K.1,0)) fun O=> (As (K.2+1)).bind fun U=> some (.more (O,U))) else(some (.done K.1))
def f119(fuel:Nat)(p0:Bc)(p1:List Bool):Option ((List Bool)):= (F3 (p1.length:Int) (false:Bool)).bind fun K=> Option.bind (iter (MI fuel p0 p1) fuel (K,0)) fun O=> some O
theorem ZJ{be:Ao}{c2:Nat}{bn:Ao}{bo:Nat}{Y:Ao}{Z:Nat}{p0:Bc}{p1:List Bool}(bp:Al (rL rI) E be c2 p0.1)(c5:Al (rL rI) E bn bo p0.2)(bJ:Al rB E Y Z p1){fuel:Nat}{r:(List Bool)}(bq:f119 fuel p0 p1=some r):AK J 119 [.agg #[sV be p0.1 c2,sV bn p0.2 bo],sV Y p1 Z] E [] (fun w E' B'=>∃(br:Ao) (bu:Nat),w= sV br r bu∧B'= []∧Al rB E' br bu r):=by
 refine A4 func119 fun Q c6 cs H bK bL=>?_;unfold f119 at bq;refine zg 2 rfl (Cb bK fun ap bf a6 bv bM=>?_);refine zg 5 rfl (Bj underlying68 rfl rfl rfl ?_);obtain⟨bN,bO,bP⟩:=bs bq;refine JS.make (pp:=rB) bO rfl rfl rfl rfl rfl underlying68 Ie (Cx type4) (by decide) (Dy type4) (by decide) rfl bM fun bQ bR bS bT=>?_;obtain⟨bw,bU,bV⟩:=bs bP;refine zg 7 rfl (Bt (fun L s=>∃(bg:LH) (a7:Ao) (a8:Nat) (bh:Seg),Jn bf H bg [bh] [(5,sV a7 bw a8)] L s (OL 4 rB bg a7 a8 bh bw)) ?_ ?_)
 ·rintro _ _ ⟨bg,a7,a8,bh,rfl,rfl,bW,bY,bZ⟩;refine zg 5 rfl (BT 0 bZ bY rfl fun c7 b0 b1 b2=>?_);obtain rfl:=oi bV;exact AD func119 rfl rfl (bL ((a6.Ab bW).Ab b0) rfl ⟨a7,a8,rfl,rfl,b1⟩ b2)
 ·intro b3;refine JL.block (CN bU (fun L s O=>∃(ag:LH) (a1:Ao) (a2:Nat) (a3:Seg),Jn bf H ag [a3] [(1,sV Y p1 Z),(2,pV ap 0),(5,sV a1 O.1 a2),(6,iV O.2)] L s (OL 4 rB ag a1 a2 a3 O.1)) ⟨bf,(AZ bQ),bN.length,bR,rfl,rfl,Ar,bT,bS⟩ ?_);rintro _ _ O ⟨ag,a1,a2,a3,rfl,rfl,al,bx,bz⟩ b4 ⟨c8,bi⟩ b5;have bA:=bi;unfold MI at bA;refine zg 5 rfl (Bj underlying68 rfl rfl rfl ?_);refine zg 2 rfl (AL bA (fun b6 b7=>?_) (fun b6 b8=>?_))
  ·obtain⟨bj,b9,ca⟩:=bs b7;refine zg 7 rfl (Bt (fun L s=>∃(a9:LH) (ba:Ao) (bb:Nat) (bc:Seg),Jn ag H a9 [bc] [(1,sV Y p1 Z),(2,pV ap 0),(5,sV ba bj bb),(6,iV O.2)] L s (OL 4 rB a9 ba bb bc bj)) ?_ ?_)
   ·rintro _ _ ⟨a9,ba,bb,bc,rfl,rfl,cb,cc,cd⟩;obtain⟨ce,cf,cg⟩:=bs ca;refine zg 3 rfl (Bb cf rfl rfl rfl ?_);refine zg 2 rfl ?_;obtain rfl:=oi cg;exact Az (b5 _ _ (bj,ce) ⟨a9,ba,bb,bc,rfl,rfl,(al.Ab cb),cc,cd⟩ bi) rfl
   ·intro ci;refine JL.block (CN b9 (fun L s K=>∃(av:LH) (U:Ao) (V:Nat) (a4:Seg),Jn ag H av [a4] [(1,sV Y p1 Z),(2,pV ap 0),(5,sV U K.1 V),(6,iV O.2),(7,iV K.2)] L s (OL 4 rB av U V a4 K.1)) ⟨ag,a1,a2,a3,rfl,rfl,Ar,bx,bz⟩ ?_);rintro _ _ K ⟨av,U,V,a4,rfl,rfl,am,bB,bC⟩ ck ⟨c9,bl⟩ cm;have bD:=bl;unfold JH at bD;refine zg 4 rfl (JL.fl 0 (bv.Ah (al.Ab am)) underlying24 BR Cs ?_);obtain⟨da,cn,co⟩:=bs bD;refine zg 1 rfl (Cf (bp.Ah ((a6.Ab al).Ab am)) cn underlying22 BZ ?_);rintro db dc _ ⟨dd,de,rfl,df⟩ cp;refine B8 0 cp CZ rfl rfl rfl (Bj underlying28 rfl rfl rfl ?_);obtain⟨bE,cq,cr⟩:=bs co;refine zg 2 rfl (ER [] (fun L s=>∃(bd:LH),Jm av H bd [a4] [(1,sV Y p1 Z),(2,pV ap 0),(5,sV U K.1 V),(6,iV O.2),(7,iV K.2),(30,.bool bE)] L s) ?_ ?_)
    ·rintro _ _ ⟨bd,rfl,rfl,a0,bF⟩;refine JL.done (BJ cr (fun ct cu=>?_) (fun ct cv=>?_))
     ·refine zg 5 rfl (JL.fl 0 (bv.Ah ((al.Ab am).Ab a0)) underlying24 BR Cs ?_);obtain⟨cw,cy,cz⟩:=bs cu;refine zg 1 rfl (Cf (bp.Ah (((a6.Ab al).Ab am).Ab a0)) cy underlying22 BZ ?_);rintro cA cB _ ⟨cC,cD,rfl,cE⟩ cF;refine B8 0 cF CZ rfl rfl rfl ?_;obtain⟨a5,cG,cH⟩:=bs cz;refine zg 1 rfl (Cf cE cG underlying28 AX ?_);rintro cI cJ _ rfl cK;refine B8 0 cK Bx rfl rfl rfl ?_;obtain⟨dg,cM,cN⟩:=bs cH;refine I0 0 (bC.Ah a0) cM rfl rfl rfl rfl rfl rfl underlying68 Ie ?_;rintro bG bm f141 _ cO rfl dh cP cQ di dj;refine JS.store (v:= .bool true) (off:=bm) 0 rfl rfl rfl bF rfl rfl Ie (by simp [Value.cells,CP]) cO (by have:=cP;simp only [Rp.n,rK,rN,rB,rP,rL] at this;show _+1≤_;omega) fun cR=>?_;have cT:=cQ true [.bool true] rfl;have bH:(K.1.set (Int.toNat a5) true).length=K.1.length:=List.length_set;refine Gf (L':= [(1,.slice Y p1.length Z),(2,pV ap 0),(5,.slice U ((K.1.set (Int.toNat a5) true)).length V),(6,iV O.2),(7,iV K.2),(30,.bool bE),(33,.slice U ((K.1.set (Int.toNat a5) true)).length V),(34,pV ap 0),(35,.slice be p0.1.length c2),(36,iV O.2),(37,pV cA cB),(38,.slice cC cw.length cD),(39,iV K.2),(40,pV cI cJ),(41,iV a5),(42,pV bG bm)]) ⟨rfl,rfl,by rw [bH];rfl,rfl,rfl,rfl,by rw [bH];rfl,rfl,rfl,rfl,rfl,rfl,rfl,rfl,rfl,rfl,trivial⟩ ?_;obtain⟨cV,cW,cX⟩:=bs cN;refine zg 4 rfl (Bb cW rfl rfl rfl ?_);refine zg 2 rfl ?_;obtain rfl:=oi cX;exact Az (cm _ _ ((K.1.set (Int.toNat a5) true),cV) ⟨bd,U,V,[(bG,.cells (A0 f141 bm [.bool true]) 4 (0,0))],rfl,rfl,(am.Ab a0),cR,cT⟩ bl) rfl
     ·refine JL.exit rfl ?_;obtain rfl:=oi cv;obtain rfl:=ck _ bl;exact Az (ci _ _ ⟨bd,U,V,a4,rfl,rfl,(am.Ab a0),bF,(bC.Ah a0)⟩) rfl
    ·intro bI;refine Ei 25 cq (fun cY cZ=>?_) (fun cY c0=>?_)
     ·obtain⟨dk,c1,c3⟩:=bs cZ;refine zg 2 rfl (Cf (bJ.Ah ((a6.Ab al).Ab am)) c1 underlying68 Ie ?_);rintro dl dm _ rfl c4;refine B8 0 c4 (Dz underlying4) rfl rfl rfl (zg 1 rfl ?_);obtain rfl:=oi c3;exact Az (bI _ _ ⟨av,rfl,rfl,Ar,bB⟩) rfl
     ·refine zg 5 rfl ?_;obtain rfl:=oi c0;exact Az (bI _ _ ⟨av,rfl,rfl,Ar,bB⟩) rfl
  ·refine JL.exit rfl ?_;obtain rfl:=oi b8;obtain rfl:=b4 _ bi;exact Az (b3 _ _ ⟨ag,a1,a2,a3,rfl,rfl,al,bx,bz⟩) rfl
def MP(fuel:Nat)(p0:Bc)(p1:Int)(K:(List Bool)×Int):Option (Bh ((List Bool)×Int) ((List Bool))):= if K.2<p1 then((f119 fuel p0 K.1).bind fun O=> (As (K.2+1)).bind fun U=> some (.more (O,U))) else(some (.done K.1))
def f82(fuel:Nat)(p0:Bc)(p1:Int):Option ((List Bool)):= (F3 (p0.1.length:Int) (false:Bool)).bind fun K=> (ix K (0)).bind fun U=> Option.bind (iter (MP fuel p0 p1) fuel ((K.set (Int.toNat 0) true),0)) fun O=> some O
theorem ak{U:Ao}{c2:Nat}{av:Ao}{a0:Nat}{p0:Bc}{p1:Int}(bg:Al (rL rI) E U c2 p0.1)(bh:Al (rL rI) E av a0 p0.2){fuel:Nat}{r:(List Bool)}(a6:f82 fuel p0 p1=some r):AK J 82 [.agg #[sV U p0.1 c2,sV av p0.2 a0],iV p1] E [] (fun w E' B'=>∃(a7:Ao) (a8:Nat),w= sV a7 r a8∧B'= []∧Al rB E' a7 a8 r):=by
 refine A4 func82 fun Q b3 cs H bi bj=>?_;unfold f82 at a6;refine zg 2 rfl (Cb bi fun a1 a9 a2 ba bl=>?_);refine zg 4 rfl (JL.fl 0 ba underlying24 BR Cs ?_);refine Bj underlying22 rfl rfl rfl ?_;obtain⟨K,bm,bn⟩:=bs a6;refine JS.make (pp:=rB) bm rfl rfl rfl rfl rfl underlying68 Ie (Cx type4) (by decide) (Dy type4) (by decide) rfl bl fun V b4 bo bp=>?_;obtain⟨b5,bq,br⟩:=bs bn;refine zg 5 rfl (I0 2 bo bq rfl rfl rfl rfl rfl rfl underlying68 Ie ?_);rintro bu bb f24 _ bv rfl b6 bw bx b7 b8;refine JS.store (v:= .bool true) (off:=bb) 2 rfl rfl rfl bp rfl rfl Ie (by simp [Value.cells,CP]) bv (by have:=bw;simp only [Rp.n,rK,rN,rB,rP,rL] at this;show _+1≤_;omega) fun bz=>?_;have bA:=bx true [.bool true] rfl;have a3:(K.set (Int.toNat 0) true).length=K.length:=List.length_set;refine Gf (L':= [(0,.agg #[.slice U p0.1.length c2,.slice av p0.2.length a0]),(1,iV p1),(2,pV a1 0),(4,.slice none 0 0),(7,pV a1 0),(8,.slice U p0.1.length c2),(9,iV (p0.1.length:Int)),(10,.slice (AZ V) ((K.set (Int.toNat 0) true)).length K.length),(5,.slice (AZ V) ((K.set (Int.toNat 0) true)).length K.length),(11,.slice (AZ V) ((K.set (Int.toNat 0) true)).length K.length),(12,pV bu bb)]) ⟨rfl,rfl,rfl,rfl,rfl,rfl,rfl,by rw [a3];rfl,by rw [a3];rfl,by rw [a3];rfl,rfl,trivial⟩ ?_;obtain⟨bc,bB,bC⟩:=bs br;refine zg 6 rfl (Bt (fun L s=>∃(a4:LH) (Y:Ao) (Z:Nat),Jn a9 H a4 [] [(5,sV Y bc Z)] L s (Al rB a4 Y Z bc)) ?_ ?_)
 ·rintro _ _ ⟨a4,Y,Z,rfl,rfl,bD,bE,bF⟩;refine zg 5 rfl ?_;obtain rfl:=oi bC;exact AD func82 rfl rfl (bj (a2.Ab bD) rfl ⟨Y,Z,rfl,rfl,bF⟩ bE)
 ·intro bG;refine JL.block (BT 2 bA bz rfl fun bH bI bJ bK=>?_);refine CN bB (fun L s ag=>∃(al:LH) (am:Ao) (ap:Nat),Jn a9 H al [] [(1,iV p1),(2,pV a1 0),(5,sV am ag.1 ap),(6,iV ag.2)] L s (Al rB al am ap ag.1)) ⟨bH,(AZ V),K.length,rfl,rfl,bI,bK,bJ⟩ ?_;rintro _ _ ag ⟨al,am,ap,rfl,rfl,O,bd,be⟩ bL ⟨b9,a5⟩ bM;have bf:=a5;unfold MP at bf;refine zg 7 rfl (AL bf (fun bN bO=>?_) (fun bN bP=>?_))
  ·refine zg 4 rfl (BW (ba.Ah O) Ca BI rfl rfl ?_);obtain⟨bQ,bR,bS⟩:=bs bO;refine zg 1 rfl (BV (ZJ (bg.Ah (a2.Ab O)) (bh.Ah (a2.Ab O)) be bR) rfl rfl (AS func119 rfl) bd ?_);rintro _ bT _ bU ⟨bV,bW,rfl,rfl,bY⟩ bZ;obtain⟨b0,b1,b2⟩:=bs bS;refine zg 5 rfl (Bb b1 rfl rfl rfl ?_);refine zg 2 rfl ?_;obtain rfl:=oi b2;exact Az (bM _ _ (bQ,b0) ⟨bT,bV,bW,rfl,rfl,(O.Ab bU),bZ,bY⟩ a5) rfl
  ·refine JL.exit rfl ?_;obtain rfl:=oi bP;obtain rfl:=bL _ a5;exact Az (bG _ _ ⟨al,am,ap,rfl,rfl,O,bd,be⟩) rfl
def MC(fuel:Nat)(p0:List Int)(p1:Int)(K:Int):Option (Bh Int ((Bool)⊕(Unit))):= if K<(p0.length:Int) then((ix p0 K).bind fun O=> if O=p1 then(some (.done (Sum.inl true))) else((As (K+1)).bind fun U=> some (.more U))) else(some (.done (Sum.inr ())))
def f137(fuel:Nat)(p0:List Int)(p1:Int):Option Bool:= Option.bind (iter (MC fuel p0 p1) fuel 0) fun K=> Sum.elim (fun r=>some r) (fun O=> some false) K
theorem Y5{U:Ao}{c2:Nat}{p0:List Int}{p1:Int}(a2:Al rI E U c2 p0){fuel:Nat}{r:Bool}(Z:f137 fuel p0 p1=some r):AK J 137 [sV U p0 c2,iV p1] E [] (fun w E' B'=>w= .bool r∧B'= []):=by
 refine A4 func137 fun Q bq cs H a3 ag=>?_;unfold f137 at Z;obtain⟨al,a4,am⟩:=bs Z;refine zg 9 rfl (Bt (fun L s=>∃(ap:Unit) (av:LH),al=Sum.inr ap∧Jm E H av [] [] L s) ?_ ?_)
 ·rintro _ _ ⟨ap,av,rfl,rfl,rfl,a5,a6⟩;have a7:=elim_inr am;refine zg 4 rfl ?_;obtain rfl:=oi a7;exact AD func137 rfl rfl (ag a5 rfl ⟨rfl,rfl⟩ a6)
 ·intro a8;refine JL.block (Cu a4 (fun V=> []) (fun V=> [(0,sV U p0 c2),(1,iV p1),(5,iV V)]) Ar a3 ?_);rintro V a9 K Y a0 ⟨br,O⟩ ba;have a1:=O;unfold MC at a1;refine zg 5 rfl (Bj underlying28 rfl rfl rfl ?_);refine zg 2 rfl (AL a1 (fun bb bc=>?_) (fun bb bd=>?_))
  ·obtain⟨bu,be,bf⟩:=bs bc;refine zg 7 rfl (Cf (a2.Ah K) be underlying28 AX ?_);rintro bv bw _ rfl bg;refine B8 0 bg Bx rfl rfl rfl (zg 3 rfl ?_);refine AL bf (fun bh bi=>?_) (fun bh bj=>?_)
   ·refine zg 4 rfl ?_;obtain rfl:=oi bi;obtain rfl:=a0 _ O;have bl:=elim_inl am;obtain rfl:=oi bl;exact AD func137 rfl rfl (ag K rfl ⟨rfl,rfl⟩ Y)
   ·obtain⟨bm,bn,bo⟩:=bs bj;refine zg 4 rfl (Bb bn rfl rfl rfl ?_);refine zg 2 rfl ?_;obtain rfl:=oi bo;exact ba bm K Y rfl O
  ·refine JL.exit rfl ?_;obtain rfl:=oi bd;have bp:al=(Sum.inr ()):=(a0 _ O).symm;exact Az (a8 _ _ ⟨(),a9,bp,rfl,rfl,K,Y⟩) rfl
def MM(fuel:Nat)(p0:Bc)(p1:AI)(p2:Int)(p3:Int)(p4:Int)(K:Int×Int):Option (Bh (Int×Int) ((Int)⊕(Int))):= if K.2<(p1.length:Int) then(Option.bind ((ix p1 K.2).bind fun O=> Option.bind (if O.1≠p3 then(some true) else(some (decide (O.2=p4)))) fun U=> if U=true then(some (Sum.inr K.1)) else(Option.bind (if K.2=p2 then(some true) else((ix p0.2 p4).bind fun V=> (f137 fuel V O.2).bind fun Y=> some (!Y))) fun Z=> if Z=true then(some (Sum.inl 100)) else((As (K.1+1)).bind fun ag=> some (Sum.inr ag)))) fun al=>Sum.elim (fun r=>some (.done (Sum.inl r))) (fun am=> (As (K.2+1)).bind fun ap=> some (.more (am,ap))) al) else(some (.done (Sum.inr K.1)))
def f118(fuel:Nat)(p0:Bc)(p1:AI)(p2:Int)(p3:Int)(p4:Int):Option Int:= Option.bind (iter (MM fuel p0 p1 p2 p3 p4) fuel (0,0)) fun K=> Sum.elim (fun r=>some r) (fun O=> some O) K
theorem Y1{a6:Ao}{c2:Nat}{a7:Ao}{a8:Nat}{O:Ao}{U:Nat}{p0:Bc}{p1:AI}{p2:Int}{p3:Int}{p4:Int}(cE:Al (rL rI) E a6 c2 p0.1)(bu:Al (rL rI) E a7 a8 p0.2)(bv:Al A9 E O U p1){fuel:Nat}{r:Int}(a9:f118 fuel p0 p1 p2 p3 p4=some r):AK J 118 [.agg #[sV a6 p0.1 c2,sV a7 p0.2 a8],sV O p1 U,iV p2,iV p3,iV p4] E [] (fun w E' B'=>w=iV r∧B'= []):=by
 refine A4 func118 fun Q cF cs H bw ba=>?_;unfold f118 at a9;refine zg 2 rfl (Cb bw fun al bx am bz bA=>?_);obtain⟨bb,bB,bc⟩:=bs a9;refine zg 11 rfl (Bt (fun L s=>∃(a0:Int) (bd:LH),bb=Sum.inr a0∧Jm bx H bd [] [(11,iV a0)] L s) ?_ ?_)
 ·rintro _ _ ⟨a0,bd,rfl,rfl,rfl,bC,bD⟩;have bE:=elim_inr bc;refine zg 5 rfl ?_;obtain rfl:=oi bE;exact AD func118 rfl rfl (ba (am.Ab bC) rfl ⟨rfl,rfl⟩ bD)
 ·intro bF;refine JL.block (Cu bB (fun K=> []) (fun K=> [(1,sV O p1 U),(2,iV p2),(3,iV p3),(4,iV p4),(5,pV al 0),(11,iV K.1),(12,iV K.2)]) Ar bA ?_);rintro K be V bf bg ⟨cG,ap⟩ bG;have bh:=ap;unfold MM at bh;refine zg 5 rfl (Bj underlying25 rfl rfl rfl ?_);refine zg 2 rfl (AL bh (fun bH bI=>?_) (fun bH bJ=>?_))
  ·obtain⟨bK,bL,bi⟩:=bs bI;refine zg 2 rfl (Bt (fun L s=>∃(av:Int) (bj:LH),bK=Sum.inr av∧Jm be H bj [] [(1,sV O p1 U),(2,iV p2),(3,iV p3),(4,iV p4),(5,pV al 0),(11,iV av),(12,iV K.2)] L s) ?_ ?_)
   ·rintro _ _ ⟨av,bj,rfl,rfl,rfl,bM,bN⟩;have bO:=elim_inr bi;obtain⟨bP,bQ,bR⟩:=bs bO;refine zg 2 rfl (Bb bQ rfl rfl rfl ?_);refine zg 2 rfl ?_;obtain rfl:=oi bR;exact bG (av,bP) (V.Ab bM) bN rfl ap
   ·intro bl;obtain⟨bS,bT,bU⟩:=bs bL;refine zg 5 rfl (Cf (bv.Ah (am.Ab V)) bT underlying25 BD ?_);rintro cH cI _ ⟨_,_,rfl,rfl,rfl⟩ bV;refine BW bV FI BD rfl rfl (CO bf C8 fun bW bY=>?_);refine BU 0 bY BD fun bZ=>?_;refine C6 0 bZ rfl fun a1 Z a2 bm=>zg 4 rfl (JL.fl 0 a2 underlying27 AX Bx ?_);obtain⟨b0,b1,b2⟩:=bs bU;refine zg 3 rfl (ER [] (fun L s=>∃(ag:LH),Jm a1 H ag [] [(1,sV O p1 U),(2,iV p2),(3,iV p3),(4,iV p4),(5,pV al 0),(11,iV K.1),(12,iV K.2),(13,pV bW 0),(33,.bool b0)] L s) ?_ ?_)
    ·rintro _ _ ⟨ag,rfl,rfl,Y,a3⟩;refine JL.done (BJ b2 (fun b3 b4=>?_) (fun b3 b5=>?_))
     ·exact JL.exit rfl (Az (bl _ _ ⟨K.1,ag,(Option.some.inj b4).symm,rfl,rfl,(Z.Ab Y),a3⟩) rfl)
     ·refine zg 3 rfl (CW 14 fun ht=>?_);refine AW ht rfl [0,1,2,3] rfl ?_;obtain⟨b6,bn,b7⟩:=bs b5;refine Ed 0 #[true,true,true,true,true,true,true,true,true,true,true,true,true,true] (fun L s=>∃(a4:LH),Jm ag H a4 [] [(1,sV O p1 U),(2,iV p2),(3,iV p3),(4,iV p4),(5,pV al 0),(11,iV K.1),(12,iV K.2),(47,.bool b6)] L s) ?_ ?_
      ·rintro _ _ ⟨a4,rfl,rfl,bo,bp⟩;refine AU.fin (by decide+kernel) (BJ b7 (fun b8 b9=>?_) (fun b8 ca=>?_))
       ·refine zg 4 rfl ?_;obtain rfl:=oi b9;have cb:=elim_inl bi;obtain rfl:=oi cb;obtain rfl:=bg _ ap;have cc:=elim_inl bc;obtain rfl:=oi cc;exact AD func118 rfl rfl (ba ((((am.Ab V).Ab Z).Ab Y).Ab bo) rfl ⟨rfl,rfl⟩ bp)
       ·obtain⟨cd,ce,cf⟩:=bs ca;refine zg 3 rfl (Bb ce rfl rfl rfl ?_);exact zg 3 rfl (Az (bl _ _ ⟨cd,a4,(Option.some.inj cf).symm,rfl,rfl,((Z.Ab Y).Ab bo),bp⟩) rfl)
      ·intro bq;refine Fa (q:=K.2=p2) (i:=37) rfl (fun a5=>?_) (fun a5=>?_)
       ·have cg:=ip bn a5;refine AW ht rfl [4,5,6,7,8,9,10,11,12,13] rfl ?_;obtain rfl:=oi cg;refine CE ?_ (bq _ _ ⟨ag,rfl,rfl,Ar,a3⟩);exact⟨rfl,rfl,rfl,rfl,rfl,rfl,rfl,rfl,trivial⟩
       ·have ci:=im bn a5;refine B7 4 ht underlying24 BR rfl rfl rfl rfl ?_;refine Cn 5 ht 1 (bz.Ah ((V.Ab Z).Ab Y)) Cs rfl rfl rfl rfl ?_;refine B4 6 ht rfl rfl ?_;obtain⟨ck,cm,cn⟩:=bs ci;refine Cy 7 (bu.Ah (((am.Ab V).Ab Z).Ab Y)) cm ht underlying22 BZ ?_;rintro cJ cK _ ⟨co,cp,rfl,cq⟩ cr;refine Cn 8 ht 0 cr CZ rfl rfl rfl rfl ?_;refine B7 9 ht underlying27 AX rfl rfl rfl rfl ?_;refine Cn 10 ht 1 (a2.Ah Y) Bx rfl rfl rfl rfl ?_;obtain⟨ct,cu,cv⟩:=bs cn;refine JG.call (i:=11) (vs:= [sV co ck cp,iV bS.2]) (Y5 cq cu) (by decide+kernel) rfl rfl rfl (AS func137 rfl) rfl a3 ?_;rintro _ cw _ cy ⟨rfl,rfl⟩ cz;refine By (v:= .bool (!ct)) 12 ht rfl rfl (fun ρ h s' hs=>Yl.not (h _ _ rfl)) ?_;refine B4 13 ht rfl rfl ?_;obtain rfl:=oi cv;refine CE ?_ (bq _ _ ⟨cw,rfl,rfl,cy,cz⟩);exact⟨rfl,rfl,rfl,rfl,rfl,rfl,rfl,rfl,trivial⟩
    ·intro br;refine Ei 28 b1 (fun cA cB=>?_) (fun cA cC=>?_)
     ·refine zg 5 rfl ?_;obtain rfl:=oi cB;exact Az (br _ _ ⟨a1,rfl,rfl,Ar,bm⟩) rfl
     ·refine JL.fl 1 a2 underlying27 AX Bx ?_;refine zg 3 rfl ?_;obtain rfl:=oi cC;exact Az (br _ _ ⟨a1,rfl,rfl,Ar,bm⟩) rfl
  ·refine JL.exit rfl ?_;obtain rfl:=oi bJ;have cD:bb=(Sum.inr K.1):=(bg _ ap).symm;exact Az (bF _ _ ⟨K.1,be,cD,rfl,rfl,V,bf⟩) rfl
def f117(fuel:Nat)(p0:AI):Option Int:= if(p0.length:Int)=0 then(some 0) else((As ((p0.length:Int) - 1)).bind fun K=> (ix p0 K).bind fun O=> some O.1)
theorem YK{K:Ao}{c2:Nat}{p0:AI}(Y:Al A9 E K c2 p0){fuel:Nat}{r:Int}(O:f117 fuel p0=some r):AK J 117 [sV K p0 c2] E [] (fun w E' B'=>w=iV r∧B'= []):=by
 refine A4 func117 fun Q a1 cs H U V=>?_;unfold f117 at O;refine zg 8 rfl (Bj underlying25 rfl rfl rfl ?_);refine zg 2 rfl (AL O (fun c4 Z=>?_) (fun c4 ag=>?_))
 ·refine zg 4 rfl ?_;obtain rfl:=oi Z;exact AD func117 rfl rfl (V Ar rfl ⟨rfl,rfl⟩ U)
 ·refine zg 5 rfl (Bj underlying25 rfl rfl rfl ?_);obtain⟨a2,al,am⟩:=bs ag;refine Cg al rfl rfl rfl ?_;obtain⟨a3,ap,av⟩:=bs am;refine Cf Y ap underlying25 BD ?_;rintro a4 a5 _ ⟨_,_,rfl,rfl,rfl⟩ a0;refine JL.fl 0 a0 underlying27 AX Bx ?_;refine zg 2 rfl ?_;obtain rfl:=oi av;exact AD func117 rfl rfl (V Ar rfl ⟨rfl,rfl⟩ U)
def f71(fuel:Nat):Option ((Bc)):= some (([([1]:List Int),([2]:List Int),([3,4]:List Int),([4]:List Int),([5]:List Int),([5]:List Int)]:List (List Int)),([[],[],[],([2]:List Int),([2,3]:List Int),([3,4]:List Int)]:List (List Int)))
theorem Iz{fuel:Nat}{r:(Bc)}(a2:f71 fuel=some r):AK J 71 [] E [] (fun w E' B'=>∃(a3:Ao) (a4:Nat) (a5:Ao) (a6:Nat),w= .agg #[sV a3 r.1 a4,sV a5 r.2 a6]∧B'= []∧Al (rL rI) E' a3 a4 r.1∧Al (rL rI) E' a5 a6 r.2):=by
 refine A4 func71 fun Q cw cs H bg bh=>?_;unfold f71 at a2;refine zg 2 rfl (CO bg Gs fun K bi=>?_);refine zg 3 rfl (DC (pp:=rI) [iV 1] [1] rfl rfl rfl underlying28 AX CS (by decide) rfl rfl rfl ⟨rfl,trivial⟩ bi fun bj a7 bl bm=>?_);refine DC (pp:=rI) [iV 2] [2] rfl rfl rfl underlying28 AX CS (by decide) rfl rfl rfl ⟨rfl,trivial⟩ bm fun bn a8 bo bp=>Cr (S':= [[],[(K,.cells #[nS,nS] 24 (0,0))],a7,a8]) rfl bp fun bq=>DC (pp:=rI) [iV 3,iV 4] [3,4] rfl rfl rfl underlying28 AX CS (by decide) rfl rfl rfl ⟨rfl,rfl,trivial⟩ bq fun br a9 bu bv=>DC (pp:=rI) [iV 4] [4] rfl rfl rfl underlying28 AX CS (by decide) rfl rfl rfl ⟨rfl,trivial⟩ bv fun bw ba bx bz=>DC (pp:=rI) [iV 5] [5] rfl rfl rfl underlying28 AX CS (by decide) rfl rfl rfl ⟨rfl,trivial⟩ bz fun bA bb bB bC=>Cr (S':= [[],[(K,.cells #[nS,nS] 24 (0,0))],a7,a8,a9,ba,bb]) rfl bC fun bD=>DC (pp:=rI) [iV 5] [5] rfl rfl rfl underlying28 AX CS (by decide) rfl rfl rfl ⟨rfl,trivial⟩ bD fun bE bc bF bG=>BT 2 bl bG rfl fun cy O bH bI=>BT 3 (bo.Ah O) bI rfl fun cz U bJ bK=>Cr (S':= [[],[(K,.cells #[nS,nS] 24 (0,0))],[],[],a9,ba,bb,bc]) rfl bK fun bL=>BT 4 (bu.Ah (O.Ab U)) bL rfl fun cA V bM bN=>BT 5 (bx.Ah ((O.Ab U).Ab V)) bN rfl fun cB Y bO bP=>BT 6 (bB.Ah (((O.Ab U).Ab V).Ab Y)) bP rfl fun cC Z bQ bR=>Cr (S':= [[],[(K,.cells #[nS,nS] 24 (0,0))],[],[],[],[],[],bc]) rfl bR fun bS=>BT 7 (bF.Ah ((((O.Ab U).Ab V).Ab Y).Ab Z)) bS rfl fun cD ag bT bU=>DC (pp:=(rL rI)) [.slice (AZ bj) (([1]:List Int)).length 1,.slice (AZ bn) (([2]:List Int)).length 1,.slice (AZ br) (([3,4]:List Int)).length 2,.slice (AZ bw) (([4]:List Int)).length 1,.slice (AZ bA) (([5]:List Int)).length 1,.slice (AZ bE) (([5]:List Int)).length 1] [([1]:List Int),([2]:List Int),([3,4]:List Int),([4]:List Int),([5]:List Int),([5]:List Int)] rfl rfl rfl underlying22 BZ Fq (by decide) rfl rfl rfl ⟨⟨_,_,rfl,(bH.Ah ((((U.Ab V).Ab Y).Ab Z).Ab ag))⟩,⟨_,_,rfl,(bJ.Ah (((V.Ab Y).Ab Z).Ab ag))⟩,⟨_,_,rfl,(bM.Ah ((Y.Ab Z).Ab ag))⟩,⟨_,_,rfl,(bO.Ah (Z.Ab ag))⟩,⟨_,_,rfl,(bQ.Ah ag)⟩,⟨_,_,rfl,bT⟩,trivial⟩ bU fun al a1 bV bW=>DC (pp:=rI) [iV 2] [2] rfl rfl rfl underlying28 AX CS (by decide) rfl rfl rfl ⟨rfl,trivial⟩ bW fun bY bZ b0 b1=>Cr (S':= [[],[(K,.cells #[nS,nS] 24 (0,0))],[],[],[],[],[],[],a1,bZ]) rfl b1 fun b2=>DC (pp:=rI) [iV 2,iV 3] [2,3] rfl rfl rfl underlying28 AX CS (by decide) rfl rfl rfl ⟨rfl,rfl,trivial⟩ b2 fun b3 b4 b5 b6=>DC (pp:=rI) [iV 3,iV 4] [3,4] rfl rfl rfl underlying28 AX CS (by decide) rfl rfl rfl ⟨rfl,rfl,trivial⟩ b6 fun b7 b8 b9 ca=>BT 9 b0 ca rfl fun cE ap cb cc=>?_;refine Cr (S':= [[],[(K,.cells #[nS,nS] 24 (0,0))],[],[],[],[],[],[],a1,[],b4,b8]) rfl cc fun cd=>BT 10 (b5.Ah ap) cd rfl fun cF av ce cf=>BT 11 (b9.Ah (ap.Ab av)) cf rfl fun cG a0 cg ci=>DC (pp:=(rL rI)) [nS,nS,nS,.slice (AZ bY) (([2]:List Int)).length 1,.slice (AZ b3) (([2,3]:List Int)).length 2,.slice (AZ b7) (([3,4]:List Int)).length 2] [[],[],[],([2]:List Int),([2,3]:List Int),([3,4]:List Int)] rfl rfl rfl underlying22 BZ Fq (by decide) rfl rfl rfl ⟨⟨_,_,rfl,Al.nil⟩,⟨_,_,rfl,Al.nil⟩,⟨_,_,rfl,Al.nil⟩,⟨_,_,rfl,(cb.Ah (av.Ab a0))⟩,⟨_,_,rfl,(ce.Ah a0)⟩,⟨_,_,rfl,cg⟩,trivial⟩ ci fun am ck cm cn=>Cr (S':= [[],[(K,.cells #[nS,nS] 24 (0,0))],[],[],[],[],[],[],a1,[],[],[],ck]) rfl cn fun co=>AF (v:= .agg #[.slice (AZ al) (([([1]:List Int),([2]:List Int),([3,4]:List Int),([4]:List Int),([5]:List Int),([5]:List Int)]:List (List Int))).length 6,.slice (AZ am) (([[],[],[],([2]:List Int),([2,3]:List Int),([3,4]:List Int)]:List (List Int))).length 6]) rfl (fun ρ h=>Dk [(0,1),(1,1)] h Gs underlying24 ⟨rfl,Bw type22,rfl,Bw type22,trivial⟩ rfl rfl) (BU 1 co BI fun cp=>?_);refine JL.done (BT 8 (bV.Ah ((ap.Ab av).Ab a0)) cp rfl fun cH bd cq cr=>?_);refine BT 12 (cm.Ah bd) cr rfl fun cI be ct cu=>Cr (S':= [[],[(K,.cells #[.slice (AZ al) (([([1]:List Int),([2]:List Int),([3,4]:List Int),([4]:List Int),([5]:List Int),([5]:List Int)]:List (List Int))).length 6,.slice (AZ am) (([[],[],[],([2]:List Int),([2,3]:List Int),([3,4]:List Int)]:List (List Int))).length 6] 24 (0,0))],[],[],[],[],[],[],[],[],[],[],[]]) rfl cu fun bf=>?_;obtain rfl:=oi a2;refine JL.ret (v:= .agg #[.slice (AZ al) (([([1]:List Int),([2]:List Int),([3,4]:List Int),([4]:List Int),([5]:List Int),([5]:List Int)]:List (List Int))).length 6,.slice (AZ am) (([[],[],[],([2]:List Int),([2,3]:List Int),([3,4]:List Int)]:List (List Int))).length 6]) rfl rfl (Ch.list func71 rfl (vs:= [.agg #[.slice (AZ al) (([([1]:List Int),([2]:List Int),([3,4]:List Int),([4]:List Int),([5]:List Int),([5]:List Int)]:List (List Int))).length 6,.slice (AZ am) (([[],[],[],([2]:List Int),([2,3]:List Int),([3,4]:List Int)]:List (List Int))).length 6]]) ⟨⟨_,rfl,Ld.many (vs:= [.slice (AZ al) (([([1]:List Int),([2]:List Int),([3,4]:List Int),([4]:List Int),([5]:List Int),([5]:List Int)]:List (List Int))).length 6,.slice (AZ am) (([[],[],[],([2]:List Int),([2,3]:List Int),([3,4]:List Int)]:List (List Int))).length 6]) Ca BI (FW (off:=0) 1 bf rfl rfl)⟩,trivial⟩) (Ir 1 bf rfl fun cv=>?_);exact bh ((((((((((O.Ab U).Ab V).Ab Y).Ab Z).Ab ag).Ab ap).Ab av).Ab a0).Ab bd).Ab be) rfl ⟨(AZ al),6,(AZ am),6,rfl,rfl,(cq.Ah be),ct⟩ cv
def f72(fuel:Nat):Option ((AI)):= some ([(0,2),(1,4)]:AI)
theorem Pm{fuel:Nat}{r:(AI)}(K:f72 fuel=some r):AK J 72 [] E [] (fun w E' B'=>∃(O:Ao) (U:Nat),w= sV O r U∧B'= []∧Al A9 E' O U r):=by
 refine A4 func72 fun Q a0 cs H V Y=>?_;unfold f72 at K;refine zg 6 rfl (AF (v:= .agg #[iV 0,iV 2]) rfl (fun ρ h=>Dk [(0,1),(1,1)] h C8 underlying27 ⟨rfl,Bw type3,rfl,Bw type3,trivial⟩ rfl rfl) ?_);refine AF (v:= .agg #[iV 1,iV 4]) rfl (fun ρ h=>Dk [(0,1),(1,1)] h C8 underlying27 ⟨rfl,Bw type3,rfl,Bw type3,trivial⟩ rfl rfl) (DC (pp:=A9) [.agg #[iV 0,iV 2],.agg #[iV 1,iV 4]] [(0,2),(1,4)] rfl rfl rfl underlying25 BD C8 (by decide) rfl rfl rfl ⟨⟨_,_,rfl,rfl,rfl⟩,⟨_,_,rfl,rfl,rfl⟩,trivial⟩ V fun Z g2 ag al=>?_);refine zg 2 rfl (BT 1 ag al rfl fun a1 am ap av=>?_);obtain rfl:=oi K;exact AD func72 rfl rfl (Y am rfl ⟨(AZ Z),2,rfl,rfl,ap⟩ av)
def f73(fuel:Nat):Option ((AI)):= some ([(0,3),(1,3)]:AI)
theorem Td{fuel:Nat}{r:(AI)}(K:f73 fuel=some r):AK J 73 [] E [] (fun w E' B'=>∃(O:Ao) (U:Nat),w= sV O r U∧B'= []∧Al A9 E' O U r):=by
 refine A4 func73 fun Q a0 cs H V Y=>?_;unfold f73 at K;refine zg 6 rfl (AF (v:= .agg #[iV 0,iV 3]) rfl (fun ρ h=>Dk [(0,1),(1,1)] h C8 underlying27 ⟨rfl,Bw type3,rfl,Bw type3,trivial⟩ rfl rfl) ?_);refine AF (v:= .agg #[iV 1,iV 3]) rfl (fun ρ h=>Dk [(0,1),(1,1)] h C8 underlying27 ⟨rfl,Bw type3,rfl,Bw type3,trivial⟩ rfl rfl) (DC (pp:=A9) [.agg #[iV 0,iV 3],.agg #[iV 1,iV 3]] [(0,3),(1,3)] rfl rfl rfl underlying25 BD C8 (by decide) rfl rfl rfl ⟨⟨_,_,rfl,rfl,rfl⟩,⟨_,_,rfl,rfl,rfl⟩,trivial⟩ V fun Z g2 ag al=>?_);refine zg 2 rfl (BT 1 ag al rfl fun a1 am ap av=>?_);obtain rfl:=oi K;exact AD func73 rfl rfl (Y am rfl ⟨(AZ Z),2,rfl,rfl,ap⟩ av)
end Pal
namespace Pal
open Go Go.Conc Go.Proofs
open Go.Proofs.Tryz
variable {J:Judge Tryz.prog}{E:LH}
def f103(fuel:Nat)(p0:Nat)(p1:Int):Option Bool:= (LB p0 p1).bind fun K=> (J8 K (1)).bind fun O=> some (decide ((((O):Nat):Int)=(((1):Nat):Int)))
theorem O8{p0:Nat}{p1:Int}{fuel:Nat}{r:Bool}(K:f103 fuel p0 p1=some r):AK J 103 [uV p0,iV p1] E [] (fun w E' B'=>w= .bool r∧B'= []):=by
 refine A4 func103 fun Q ap cs H O U=>?_;unfold f103 at K;obtain⟨V,Y,Z⟩:=bs K;refine zg 8 rfl (AF (v:= uV V) rfl (fun ρ h=>XJ (h _ _ rfl) (h _ _ rfl) Y) ?_);obtain⟨ag,al,am⟩:=bs Z;refine AF (v:= uV ag) rfl (fun ρ h=>Oj (h _ _ rfl) (h _ _ rfl) al) (zg 3 rfl ?_);obtain rfl:=oi am;exact AD func103 rfl rfl (U Ar rfl ⟨rfl,rfl⟩ O)
def f90(fuel:Nat)(p0:Nat)(p1:Int):Option Nat:= (Lh p1).bind fun K=> (Jg p0 K).bind fun O=> some O
theorem Ny{p0:Nat}{p1:Int}{fuel:Nat}{r:Nat}(K:f90 fuel p0 p1=some r):AK J 90 [uV p0,iV p1] E [] (fun w E' B'=>w= uV r∧B'= []):=by
 refine A4 func90 fun Q ap cs H O U=>?_;unfold f90 at K;obtain⟨V,Y,Z⟩:=bs K;refine zg 8 rfl (AF (v:= uV V) rfl (fun ρ h=>XE (h _ _ rfl) (h _ _ rfl) Y) ?_);obtain⟨ag,al,am⟩:=bs Z;refine AF (v:= uV ag) rfl (fun ρ h=>Ky (h _ _ rfl) (h _ _ rfl) al) (zg 2 rfl ?_);obtain rfl:=oi am;exact AD func90 rfl rfl (U Ar rfl ⟨rfl,rfl⟩ O)
def M3(fuel:Nat)(p0:Nat)(K:(List Int)×Int):Option (Bh ((List Int)×Int) ((List Int))):= if K.2<16 then((f103 fuel p0 K.2).bind fun O=> Option.bind (if O=true then((room K.1 K.2).bind fun U=> some U) else(some K.1)) fun V=> (As (K.2+1)).bind fun Y=> some (.more (V,Y))) else(some (.done K.1))
def f89(fuel:Nat)(p0:Nat):Option ((List Int)):= Option.bind (iter (M3 fuel p0) fuel ([],0)) fun K=> some K
theorem I4{p0:Nat}{fuel:Nat}{r:(List Int)}(a7:f89 fuel p0=some r):AK J 89 [uV p0] E [] (fun w E' B'=>∃(a8:Ao) (a9:Nat),w= sV a8 r a9∧B'= []∧Al rI E' a8 a9 r):=by
 refine A4 func89 fun Q bU cs H bg bh=>?_;unfold f89 at a7;obtain⟨ba,bi,bj⟩:=bs a7;refine zg 13 rfl (Bt (fun L s=>∃(a0:LH) (Y:Ao) (Z:Nat) (a1:Seg),Jn E H a0 [a1] [(3,sV Y ba Z)] L s (OL 3 rI a0 Y Z a1 ba)) ?_ ?_)
 ·rintro _ _ ⟨a0,Y,Z,a1,rfl,rfl,bl,bm,bn⟩;refine zg 5 rfl (BT 0 bn bm rfl fun bV bo bp bq=>?_);obtain rfl:=oi bj;exact AD func89 rfl rfl (bh (bl.Ab bo) rfl ⟨Y,Z,rfl,rfl,bp⟩ bq)
 ·intro br;refine JL.block (CN bi (fun L s K=>∃(ag:LH) (O:Ao) (U:Nat) (V:Seg),Jn E H ag [V] [(0,uV p0),(3,sV O K.1 U),(5,iV K.2)] L s (OL 3 rI ag O U V K.1)) ⟨E,none,0,[],rfl,rfl,Ar,bg,OL.nil⟩ ?_);rintro _ _ K ⟨ag,O,U,V,rfl,rfl,bb,bc,a2⟩ bu ⟨bW,a3⟩ bv;have bd:=a3;unfold M3 at bd;refine zg 5 rfl (AL bd (fun bw bx=>?_) (fun bw bz=>?_))
  ·obtain⟨bY,bA,bB⟩:=bs bx;refine zg 12 rfl (BF (O8 bA) rfl rfl NV bc fun a4 a5 be=>?_);obtain⟨a6,bC,bD⟩:=bs bB;refine JL.done (Bt (fun L s=>∃(al:LH) (am:Ao) (ap:Nat) (av:Seg),Jn a4 H al [av] [(0,uV p0),(3,sV am a6 ap),(5,iV K.2)] L s (OL 3 rI al am ap av a6)) ?_ ?_)
   ·rintro _ _ ⟨al,am,ap,av,rfl,rfl,bE,bF,bG⟩;obtain⟨bH,bI,bJ⟩:=bs bD;refine zg 2 rfl (Bb bI rfl rfl rfl ?_);refine zg 2 rfl ?_;obtain rfl:=oi bJ;exact Az (bv _ _ (a6,bH) ⟨al,am,ap,av,rfl,rfl,((bb.Ab a5).Ab bE),bF,bG⟩ a3) rfl
   ·intro bf;refine BJ bC (fun bK bL=>?_) (fun bK bM=>?_)
    ·obtain⟨bZ,bN,bO⟩:=bs bL;refine zg 3 rfl (JS.app (pp:=rI) (v:=iV K.2) (a:=O) (c:=U) 0 bN rfl rfl rfl rfl (fun _=>rfl) rfl (fun _=>rfl) rfl rfl rfl underlying28 underlying28 underlying28 AX (Cx type3) CS rfl (by decide) (by decide) (by decide) (by decide) (a2.Ah a5) rfl be rfl fun b0 bP bQ bR bS bT=>?_);refine zg 2 rfl ?_;obtain rfl:=oi bO;exact Az (bf _ _ ⟨a4,bP,bQ,bR,rfl,rfl,Ar,bT,bS⟩) rfl
    ·refine JL.skip ?_;obtain rfl:=oi bM;exact Az (bf _ _ ⟨a4,O,U,V,rfl,rfl,Ar,be,(a2.Ah a5)⟩) rfl
  ·refine JL.exit rfl ?_;obtain rfl:=oi bz;obtain rfl:=bu _ a3;exact Az (br _ _ ⟨ag,O,U,V,rfl,rfl,bb,bc,a2⟩) rfl
def MH(fuel:Nat)(p0:List Int)(K:Nat×Int):Option (Bh (Nat×Int) Nat):= if K.2<(p0.length:Int) then((ix p0 K.2).bind fun O=> (f90 fuel K.1 O).bind fun U=> (As (K.2+1)).bind fun V=> some (.more (U,V))) else(some (.done K.1))
def f120(fuel:Nat)(p0:List Int):Option Nat:= Option.bind (iter (MH fuel p0) fuel (0,0)) fun K=> some K
theorem JZ{O:Ao}{c2:Nat}{p0:List Int}(al:Al rI E O c2 p0){fuel:Nat}{r:Nat}(Y:f120 fuel p0=some r):AK J 120 [sV O p0 c2] E [] (fun w E' B'=>w= uV r∧B'= []):=by
 refine A4 func120 fun Q bm cs H am ap=>?_;unfold f120 at Y;refine zg 12 rfl (Bj underlying28 rfl rfl rfl ?_);obtain⟨av,a0,a1⟩:=bs Y;refine zg 2 rfl (CM [] [(3,uV av)] (fun bn a2 a3=>?_) (fun a4=>?_))
 ·refine zg 5 rfl ?_;obtain rfl:=oi a1;exact AD func120 rfl rfl (ap a2 rfl ⟨rfl,rfl⟩ a3)
 ·refine JL.block (Cu a0 (fun K=> []) (fun K=> [(3,uV K.1),(6,sV O p0 c2),(7,iV (p0.length:Int)),(8,iV K.2)]) Ar am ?_);rintro K bo U Z a5 ⟨bp,V⟩ a6;have ag:=V;unfold MH at ag;refine zg 5 rfl (AL ag (fun a7 a8=>?_) (fun a7 a9=>?_))
  ·obtain⟨bq,ba,bb⟩:=bs a8;refine zg 5 rfl (Cf (al.Ah U) ba underlying28 AX ?_);rintro br bu _ rfl bc;refine B8 0 bc Bx rfl rfl rfl ?_;obtain⟨bd,be,bf⟩:=bs bb;refine zg 5 rfl (BF (Ny be) rfl rfl LW Z fun bv bg bh=>?_);obtain⟨bi,bj,bl⟩:=bs bf;refine zg 4 rfl (Bb bj rfl rfl rfl ?_);refine zg 2 rfl ?_;obtain rfl:=oi bl;exact a6 (bd,bi) (U.Ab bg) bh rfl V
  ·refine JL.exit rfl ?_;obtain rfl:=oi a9;obtain rfl:=a5 _ V;exact a4 U Z rfl
def JM(fuel:Nat)(p0:Bc)(p1:Int)(p2:List Int)(p3:Bool)(K:Int):Option (Bh Int (((Option (Int×Int)))⊕(Unit))):= if K<(p2.length:Int) then((ix p2 K).bind fun O=> (As ((p0.1.length:Int) - 1)).bind fun U=> (f101 fuel O 0 U).bind fun V=> if V=true then(some (.done (Sum.inl (some (3,p1))))) else(Option.bind (if O=p1 then(some (!p3)) else(some false)) fun Y=> if Y=true then(some (.done (Sum.inl (some (8,p1))))) else(Option.bind (if 0<K then((As (K - 1)).bind fun Z=> (ix p2 Z).bind fun ag=> some (decide (O≤ag))) else(some false)) fun al=> if al=true then(some (.done (Sum.inl (some (5,p1))))) else((As (K+1)).bind fun am=> some (.more am))))) else(some (.done (Sum.inr ())))
def f136(fuel:Nat)(p0:Bc)(p1:Int)(p2:List Int)(p3:Bool):Option ((Option (Int×Int))):= Option.bind (iter (JM fuel p0 p1 p2 p3) fuel 0) fun K=> Sum.elim (fun r=>some r) (fun O=> some none) K
theorem SP{a3:Ao}{c2:Nat}{a4:Ao}{a5:Nat}{K:Ao}{O:Nat}{p0:Bc}{p1:Int}{p2:List Int}{p3:Bool}(cg:Al (rL rI) E a3 c2 p0.1)(ci:Al (rL rI) E a4 a5 p0.2)(a6:Al rI E K O p2){fuel:Nat}{r:(Option (Int×Int))}(a7:f136 fuel p0 p1 p2 p3=some r):AK J 136 [.agg #[sV a3 p0.1 c2,sV a4 p0.2 a5],iV p1,sV K p2 O,.bool p3] E [] (fun w E' B'=>∃(a8:Value),w=a8∧B'= []∧H0 183 a8 r):=by
 refine A4 func136 fun Q ck cs H bi al=>?_;unfold f136 at a7;refine zg 2 rfl (Cb bi fun a0 bj V bl bm=>?_);refine zg 6 rfl (Bj underlying28 rfl rfl rfl ?_);obtain⟨a9,bn,am⟩:=bs a7;refine zg 2 rfl (Bt (fun L s=>∃(ba:Unit) (bb:LH),a9=Sum.inr ba∧Jm bj H bb [] [] L s) ?_ ?_)
 ·rintro _ _ ⟨ba,bb,rfl,rfl,rfl,bo,bp⟩;have bq:=elim_inr am;refine zg 4 rfl ?_;obtain rfl:=oi bq;exact AD func136 rfl rfl (al (V.Ab bo) rfl ⟨.nilIface,rfl,rfl,rfl⟩ bp)
 ·intro br;refine JL.block (Cu bn (fun Y=> []) (fun Y=> [(1,iV p1),(2,sV K p2 O),(3,.bool p3),(4,pV a0 0),(11,sV K p2 O),(12,iV (p2.length:Int)),(13,iV Y)]) Ar bm ?_);rintro Y bu U bc ap ⟨cm,Z⟩ bv;have bd:=Z;unfold JM at bd;refine zg 5 rfl (AL bd (fun bw bx=>?_) (fun bw bz=>?_))
  ·obtain⟨bA,bB,bC⟩:=bs bx;refine zg 6 rfl (Cf (a6.Ah (V.Ab U)) bB underlying28 AX ?_);rintro cn co _ rfl bD;refine B8 0 bD Bx rfl rfl rfl (zg 7 rfl ?_);refine JL.fl 0 (bl.Ah U) underlying24 BR Cs ?_;refine Bj underlying22 rfl rfl rfl ?_;obtain⟨cp,bE,bF⟩:=bs bC;refine Cg bE rfl rfl rfl ?_;obtain⟨cq,bG,bH⟩:=bs bF;refine BF (I3 bG) rfl rfl II bc fun cr ag a1=>zg 2 rfl (BJ bH (fun bI bJ=>?_) (fun bI bK=>?_))
   ·refine zg 3 rfl (AF (v:= .agg #[iV 3,iV p1]) rfl (fun ρ h=>Dk [(0,1),(1,1)] h FJ underlying183 ⟨rfl,Bw type39,rfl,Bw type3,trivial⟩ rfl rfl) ?_);refine AF (v:= .iface 183 (.agg #[iV 3,iV p1])) rfl (fun ρ h=>EZ underlying183 (fun _ h=>by cases h) (h _ _ rfl)) (zg 2 rfl ?_);obtain rfl:=oi bJ;obtain rfl:=ap _ Z;have bL:=elim_inl am;obtain rfl:=oi bL;exact AD func136 rfl rfl (al ((V.Ab U).Ab ag) rfl ⟨.iface 183 (.agg #[iV 3,iV p1]),rfl,rfl,rfl⟩ a1)
   ·obtain⟨bM,bN,bO⟩:=bs bK;refine zg 6 rfl (Dm 7 1 [] [(1,iV p1),(2,sV K p2 O),(3,.bool p3),(4,pV a0 0),(9,iV Y),(10,iV bA),(11,sV K p2 O),(12,iV (p2.length:Int)),(13,iV Y),(35,.bool bM)] (fun ct av a2=>?_) (fun be=>?_))
    ·refine zg 2 rfl (BJ bO (fun bP bQ=>?_) (fun bP bR=>?_))
     ·refine zg 3 rfl (AF (v:= .agg #[iV 8,iV p1]) rfl (fun ρ h=>Dk [(0,1),(1,1)] h FJ underlying183 ⟨rfl,Bw type39,rfl,Bw type3,trivial⟩ rfl rfl) ?_);refine AF (v:= .iface 183 (.agg #[iV 8,iV p1])) rfl (fun ρ h=>EZ underlying183 (fun _ h=>by cases h) (h _ _ rfl)) (zg 2 rfl ?_);obtain rfl:=oi bQ;obtain rfl:=ap _ Z;have bS:=elim_inl am;obtain rfl:=oi bS;exact AD func136 rfl rfl (al (((V.Ab U).Ab ag).Ab av) rfl ⟨.iface 183 (.agg #[iV 8,iV p1]),rfl,rfl,rfl⟩ a2)
     ·obtain⟨bT,bU,bV⟩:=bs bR;refine zg 5 rfl (Dm 11 1 [] [(1,iV p1),(2,sV K p2 O),(3,.bool p3),(4,pV a0 0),(11,sV K p2 O),(12,iV (p2.length:Int)),(13,iV Y),(50,.bool bT)] (fun cu bf bg=>?_) (fun bh=>?_))
      ·refine zg 2 rfl (BJ bV (fun bW bY=>?_) (fun bW bZ=>?_))
       ·refine zg 3 rfl (AF (v:= .agg #[iV 5,iV p1]) rfl (fun ρ h=>Dk [(0,1),(1,1)] h FJ underlying183 ⟨rfl,Bw type39,rfl,Bw type3,trivial⟩ rfl rfl) ?_);refine AF (v:= .iface 183 (.agg #[iV 5,iV p1])) rfl (fun ρ h=>EZ underlying183 (fun _ h=>by cases h) (h _ _ rfl)) (zg 2 rfl ?_);obtain rfl:=oi bY;obtain rfl:=ap _ Z;have b0:=elim_inl am;obtain rfl:=oi b0;exact AD func136 rfl rfl (al ((((V.Ab U).Ab ag).Ab av).Ab bf) rfl ⟨.iface 183 (.agg #[iV 5,iV p1]),rfl,rfl,rfl⟩ bg)
       ·obtain⟨b1,b2,b3⟩:=bs bZ;refine zg 4 rfl (Bb b2 rfl rfl rfl ?_);refine zg 2 rfl ?_;obtain rfl:=oi b3;exact bv b1 (((U.Ab ag).Ab av).Ab bf) bg rfl Z
      ·refine Ei 42 bU (fun b4 b5=>?_) (fun b4 b6=>?_)
       ·obtain⟨cv,b7,b8⟩:=bs b5;refine zg 3 rfl (Cg b7 rfl rfl rfl ?_);obtain⟨cw,b9,ca⟩:=bs b8;refine Cf (a6.Ah (((V.Ab U).Ab ag).Ab av)) b9 underlying28 AX ?_;rintro cy cz _ rfl cb;refine B8 0 cb Bx rfl rfl rfl (zg 2 rfl ?_);obtain rfl:=oi ca;exact bh Ar a2 rfl
       ·refine zg 8 rfl ?_;obtain rfl:=oi b6;exact bh Ar a2 rfl
    ·refine Ei 32 bN (fun cc cd=>?_) (fun cc ce=>?_)
     ·refine zg 1 rfl (AF (v:= .bool (!p3)) rfl (fun ρ h=>Yl.not (h _ _ rfl)) ?_);refine zg 1 rfl ?_;obtain rfl:=oi cd;exact be Ar a1 rfl
     ·refine zg 3 rfl ?_;obtain rfl:=oi ce;exact be Ar a1 rfl
  ·refine JL.exit rfl ?_;obtain rfl:=oi bz;have cf:a9=(Sum.inr ()):=(ap _ Z).symm;exact Az (br _ _ ⟨(),bu,cf,rfl,rfl,U,bc⟩) rfl
def Jy(fuel:Nat)(p0:Bc)(K:Int):Option (Bh Int (((Option (Int×Int)))⊕(Unit))):= if K<(p0.1.length:Int) then((ix p0.1 K).bind fun O=> if(O.length:Int)=0 then(some (.done (Sum.inl (some (7,K))))) else(if 3<(O.length:Int) then(some (.done (Sum.inl (some (6,K))))) else((f136 fuel p0 K O true).bind fun U=> if U.isSome=true then(some (.done (Sum.inl U))) else((ix p0.2 K).bind fun Y=> if 3<(Y.length:Int) then(some (.done (Sum.inl (some (6,K))))) else((ix p0.2 K).bind fun Z=> (f136 fuel p0 K Z false).bind fun V=> if V.isSome=true then(some (.done (Sum.inl V))) else((As (K+1)).bind fun ag=> some (.more ag))))))) else(some (.done (Sum.inr ())))
def f113(fuel:Nat)(p0:Bc):Option ((Option (Int×Int))):= if(p0.1.length:Int)=0 then(some (some (7,0))) else(if 8<(p0.1.length:Int) then(some (some (6,0))) else(if(p0.2.length:Int)≠(p0.1.length:Int) then(some (some (9,0))) else(Option.bind (iter (Jy fuel p0) fuel 0) fun K=> Sum.elim (fun r=>some r) (fun O=> some none) K)))
theorem Sr{a1:Ao}{c2:Nat}{a4:Ao}{a5:Nat}{p0:Bc}(a2:Al (rL rI) E a1 c2 p0.1)(ap:Al (rL rI) E a4 a5 p0.2){fuel:Nat}{r:(Option (Int×Int))}(a6:f113 fuel p0=some r):AK J 113 [.agg #[sV a1 p0.1 c2,sV a4 p0.2 a5]] E [] (fun w E' B'=>∃(a7:Value),w=a7∧B'= []∧H0 183 a7 r):=by
 refine A4 func113 fun Q cr cs H bg Y=>?_;unfold f113 at a6;refine zg 2 rfl (Cb bg fun bh bi O ag av=>?_);refine zg 5 rfl (JL.fl 0 ag underlying24 BR Cs ?_);refine Bj underlying22 rfl rfl rfl (zg 9 rfl ?_);refine AL a6 (fun bj bl=>?_) (fun bj bm=>?_)
 ·refine zg 2 rfl (AF (v:= .agg #[iV 7,iV 0]) rfl (fun ρ h=>Dk [(0,1),(1,1)] h FJ underlying183 ⟨rfl,Bw type39,rfl,Bw type3,trivial⟩ rfl rfl) ?_);refine AF (v:= .iface 183 (.agg #[iV 7,iV 0])) rfl (fun ρ h=>EZ underlying183 (fun _ h=>by cases h) (h _ _ rfl)) (zg 2 rfl ?_);obtain rfl:=oi bl;exact AD func113 rfl rfl (Y O rfl ⟨.iface 183 (.agg #[iV 7,iV 0]),rfl,rfl,rfl⟩ av)
 ·refine zg 6 rfl (AL bm (fun bn bo=>?_) (fun bn bp=>?_))
  ·refine zg 2 rfl (AF (v:= .agg #[iV 6,iV 0]) rfl (fun ρ h=>Dk [(0,1),(1,1)] h FJ underlying183 ⟨rfl,Bw type39,rfl,Bw type3,trivial⟩ rfl rfl) ?_);refine AF (v:= .iface 183 (.agg #[iV 6,iV 0])) rfl (fun ρ h=>EZ underlying183 (fun _ h=>by cases h) (h _ _ rfl)) (zg 2 rfl ?_);obtain rfl:=oi bo;exact AD func113 rfl rfl (Y O rfl ⟨.iface 183 (.agg #[iV 6,iV 0]),rfl,rfl,rfl⟩ av)
  ·refine zg 2 rfl (JL.fl 1 ag underlying24 BR Cs ?_);refine Bj underlying22 rfl rfl rfl (zg 4 rfl ?_);refine AL bp (fun bq br=>?_) (fun bq bu=>?_)
   ·refine zg 2 rfl (AF (v:= .agg #[iV 9,iV 0]) rfl (fun ρ h=>Dk [(0,1),(1,1)] h FJ underlying183 ⟨rfl,Bw type39,rfl,Bw type3,trivial⟩ rfl rfl) ?_);refine AF (v:= .iface 183 (.agg #[iV 9,iV 0])) rfl (fun ρ h=>EZ underlying183 (fun _ h=>by cases h) (h _ _ rfl)) (zg 2 rfl ?_);obtain rfl:=oi br;exact AD func113 rfl rfl (Y O rfl ⟨.iface 183 (.agg #[iV 9,iV 0]),rfl,rfl,rfl⟩ av)
   ·refine zg 5 rfl (JL.fl 0 ag underlying24 BR Cs ?_);refine Bj underlying22 rfl rfl rfl ?_;obtain⟨a8,bv,al⟩:=bs bu;refine zg 2 rfl (Bt (fun L s=>∃(a9:Unit) (ba:LH),a8=Sum.inr a9∧Jm bi H ba [] [] L s) ?_ ?_)
    ·rintro _ _ ⟨a9,ba,rfl,rfl,rfl,bw,bx⟩;have bz:=elim_inr al;refine zg 4 rfl ?_;obtain rfl:=oi bz;exact AD func113 rfl rfl (Y (O.Ab bw) rfl ⟨.nilIface,rfl,rfl,rfl⟩ bx)
    ·intro bA;refine JL.block (Cu bv (fun U=> []) (fun U=> [(1,pV bh 0),(30,sV a1 p0.1 c2),(31,iV (p0.1.length:Int)),(32,iV U)]) Ar av ?_);rintro U bB K a0 am ⟨ct,Z⟩ bC;have bb:=Z;unfold Jy at bb;refine zg 5 rfl (AL bb (fun bD bE=>?_) (fun bD bF=>?_))
     ·obtain⟨cu,bG,bH⟩:=bs bE;refine zg 6 rfl (Cf (a2.Ah (O.Ab K)) bG underlying22 BZ ?_);rintro cv cw _ ⟨cy,cz,rfl,bI⟩ bJ;refine B8 0 bJ CZ rfl rfl rfl (zg 7 rfl ?_);refine Bj underlying28 rfl rfl rfl (zg 2 rfl ?_);refine AL bH (fun bK bL=>?_) (fun bK bM=>?_)
      ·refine zg 3 rfl (AF (v:= .agg #[iV 7,iV U]) rfl (fun ρ h=>Dk [(0,1),(1,1)] h FJ underlying183 ⟨rfl,Bw type39,rfl,Bw type3,trivial⟩ rfl rfl) ?_);refine AF (v:= .iface 183 (.agg #[iV 7,iV U])) rfl (fun ρ h=>EZ underlying183 (fun _ h=>by cases h) (h _ _ rfl)) (zg 2 rfl ?_);obtain rfl:=oi bL;obtain rfl:=am _ Z;have bN:=elim_inl al;obtain rfl:=oi bN;exact AD func113 rfl rfl (Y (O.Ab K) rfl ⟨.iface 183 (.agg #[iV 7,iV U]),rfl,rfl,rfl⟩ a0)
      ·refine zg 5 rfl (Bj underlying28 rfl rfl rfl ?_);refine zg 2 rfl (AL bM (fun bO bP=>?_) (fun bO bQ=>?_))
       ·refine zg 3 rfl (AF (v:= .agg #[iV 6,iV U]) rfl (fun ρ h=>Dk [(0,1),(1,1)] h FJ underlying183 ⟨rfl,Bw type39,rfl,Bw type3,trivial⟩ rfl rfl) ?_);refine AF (v:= .iface 183 (.agg #[iV 6,iV U])) rfl (fun ρ h=>EZ underlying183 (fun _ h=>by cases h) (h _ _ rfl)) (zg 2 rfl ?_);obtain rfl:=oi bP;obtain rfl:=am _ Z;have bR:=elim_inl al;obtain rfl:=oi bR;exact AD func113 rfl rfl (Y (O.Ab K) rfl ⟨.iface 183 (.agg #[iV 6,iV U]),rfl,rfl,rfl⟩ a0)
       ·refine zg 4 rfl (BW (ag.Ah K) Ca BI rfl rfl ?_);obtain⟨bS,bT,bU⟩:=bs bQ;refine zg 2 rfl (BV (SP (a2.Ah (O.Ab K)) (ap.Ah (O.Ab K)) bI bT) rfl rfl (AS func136 rfl) a0 ?_);rintro bV cA _ V ⟨_,rfl,rfl,bc⟩ a3;refine zg 5 rfl (AF (v:= .bool bS.isSome) rfl (fun ρ h=>Ov underlying149 bc (h _ _ rfl) (h _ _ rfl)) ?_);refine JL.done (BJ bU (fun bW bY=>?_) (fun bW bZ=>?_))
        ·refine zg 5 rfl ?_;obtain rfl:=oi bY;obtain rfl:=am _ Z;have b0:=elim_inl al;obtain rfl:=oi b0;exact AD func113 rfl rfl (Y ((O.Ab K).Ab V) rfl ⟨bV,rfl,rfl,bc⟩ a3)
        ·refine zg 4 rfl (JL.fl 1 (ag.Ah (K.Ab V)) underlying24 BR Cs ?_);obtain⟨cB,b1,b2⟩:=bs bZ;refine zg 1 rfl (Cf (ap.Ah ((O.Ab K).Ab V)) b1 underlying22 BZ ?_);rintro cC cD _ ⟨cE,cF,rfl,cG⟩ b3;refine B8 0 b3 CZ rfl rfl rfl (Bj underlying28 rfl rfl rfl ?_);refine zg 2 rfl (AL b2 (fun b4 b5=>?_) (fun b4 b6=>?_))
         ·refine zg 3 rfl (AF (v:= .agg #[iV 6,iV U]) rfl (fun ρ h=>Dk [(0,1),(1,1)] h FJ underlying183 ⟨rfl,Bw type39,rfl,Bw type3,trivial⟩ rfl rfl) ?_);refine AF (v:= .iface 183 (.agg #[iV 6,iV U])) rfl (fun ρ h=>EZ underlying183 (fun _ h=>by cases h) (h _ _ rfl)) (zg 2 rfl ?_);obtain rfl:=oi b5;obtain rfl:=am _ Z;have b7:=elim_inl al;obtain rfl:=oi b7;exact AD func113 rfl rfl (Y ((O.Ab K).Ab V) rfl ⟨.iface 183 (.agg #[iV 6,iV U]),rfl,rfl,rfl⟩ a3)
         ·refine zg 2 rfl (CW 7 fun ht=>?_);refine Er 0 ht (ag.Ah (K.Ab V)) Ca BI rfl rfl rfl (B4 1 ht rfl rfl ?_);refine B7 2 ht underlying24 BR rfl rfl rfl rfl (Cn 3 ht 1 (ag.Ah (K.Ab V)) Cs rfl rfl rfl rfl ?_);refine B4 4 ht rfl rfl ?_;obtain⟨cH,b8,b9⟩:=bs b6;refine Cy 5 (ap.Ah ((O.Ab K).Ab V)) b8 ht underlying22 BZ ?_;rintro cI cJ _ ⟨cK,cM,rfl,ca⟩ cb;refine Cn 6 ht 0 cb CZ rfl rfl rfl rfl (Cc [7,8] ?_);obtain⟨cc,cd,ce⟩:=bs b9;refine BV (SP (a2.Ah ((O.Ab K).Ab V)) (ap.Ah ((O.Ab K).Ab V)) ca cd) rfl rfl (AS func136 rfl) a3 ?_;rintro cf cN _ bd ⟨_,rfl,rfl,be⟩ bf;refine zg 5 rfl (AF (v:= .bool cc.isSome) rfl (fun ρ h=>Ov underlying149 be (h _ _ rfl) (h _ _ rfl)) ?_);refine JL.done (BJ ce (fun cg ci=>?_) (fun cg ck=>?_))
          ·refine zg 5 rfl ?_;obtain rfl:=oi ci;obtain rfl:=am _ Z;have cm:=elim_inl al;obtain rfl:=oi cm;exact AD func113 rfl rfl (Y (((O.Ab K).Ab V).Ab bd) rfl ⟨cf,rfl,rfl,be⟩ bf)
          ·obtain⟨cn,co,cp⟩:=bs ck;refine zg 3 rfl (Bb co rfl rfl rfl ?_);refine zg 2 rfl ?_;obtain rfl:=oi cp;exact bC cn ((K.Ab V).Ab bd) bf rfl Z
     ·refine JL.exit rfl ?_;obtain rfl:=oi bF;have cq:a8=(Sum.inr ()):=(am _ Z).symm;exact Az (bA _ _ ⟨(),bB,cq,rfl,rfl,K,a0⟩) rfl
def Jw(fuel:Nat)(p0:Bc)(p1:AI)(K:Int):Option (Bh Int (((Option (Int×Int)))⊕(Unit))):= if K<(p1.length:Int) then((ix p1 K).bind fun O=> (f101 fuel O.1 0 6).bind fun U=> if U=true then(some (.done (Sum.inl (some (1,K))))) else(Option.bind (if 0<K then((As (K - 1)).bind fun V=> (ix p1 V).bind fun Y=> some (decide (O.1<Y.1))) else(some false)) fun Z=> if Z=true then(some (.done (Sum.inl (some (5,K))))) else((As ((p0.1.length:Int) - 1)).bind fun ag=> (f101 fuel O.2 0 ag).bind fun al=> if al=true then(some (.done (Sum.inl (some (3,K))))) else((As (K+1)).bind fun am=> some (.more am))))) else(some (.done (Sum.inr ())))
def f116(fuel:Nat)(p0:Bc)(p1:AI):Option ((Option (Int×Int))):= if 4<(p1.length:Int) then(some (some (6,0))) else(Option.bind (iter (Jw fuel p0 p1) fuel 0) fun K=> Sum.elim (fun r=>some r) (fun O=> some none) K)
theorem Zu{a3:Ao}{c2:Nat}{a4:Ao}{a5:Nat}{Y:Ao}{Z:Nat}{p0:Bc}{p1:AI}(ck:Al (rL rI) E a3 c2 p0.1)(cm:Al (rL rI) E a4 a5 p0.2)(a6:Al A9 E Y Z p1){fuel:Nat}{r:(Option (Int×Int))}(a7:f116 fuel p0 p1=some r):AK J 116 [.agg #[sV a3 p0.1 c2,sV a4 p0.2 a5],sV Y p1 Z] E [] (fun w E' B'=>∃(a8:Value),w=a8∧B'= []∧H0 183 a8 r):=by
 refine A4 func116 fun Q cn cs H bl am=>?_;unfold f116 at a7;refine zg 2 rfl (Cb bl fun a9 bm V bn ba=>?_);refine zg 6 rfl (Bj underlying25 rfl rfl rfl ?_);refine zg 2 rfl (AL a7 (fun bo bp=>?_) (fun bo bq=>?_))
 ·refine zg 2 rfl (AF (v:= .agg #[iV 6,iV 0]) rfl (fun ρ h=>Dk [(0,1),(1,1)] h FJ underlying183 ⟨rfl,Bw type39,rfl,Bw type3,trivial⟩ rfl rfl) ?_);refine AF (v:= .iface 183 (.agg #[iV 6,iV 0])) rfl (fun ρ h=>EZ underlying183 (fun _ h=>by cases h) (h _ _ rfl)) (zg 2 rfl ?_);obtain rfl:=oi bp;exact AD func116 rfl rfl (am V rfl ⟨.iface 183 (.agg #[iV 6,iV 0]),rfl,rfl,rfl⟩ ba)
 ·refine zg 5 rfl (Bj underlying25 rfl rfl rfl ?_);obtain⟨bb,br,ap⟩:=bs bq;refine zg 2 rfl (Bt (fun L s=>∃(bc:Unit) (bd:LH),bb=Sum.inr bc∧Jm bm H bd [] [] L s) ?_ ?_)
  ·rintro _ _ ⟨bc,bd,rfl,rfl,rfl,bu,bv⟩;have bw:=elim_inr ap;refine zg 4 rfl ?_;obtain rfl:=oi bw;exact AD func116 rfl rfl (am (V.Ab bu) rfl ⟨.nilIface,rfl,rfl,rfl⟩ bv)
  ·intro bx;refine JL.block (Cu br (fun K=> []) (fun K=> [(1,sV Y p1 Z),(2,pV a9 0),(12,sV Y p1 Z),(13,iV (p1.length:Int)),(14,iV K)]) Ar ba ?_);rintro K bz O be av ⟨co,ag⟩ bA;have bf:=ag;unfold Jw at bf;refine zg 5 rfl (AL bf (fun bB bC=>?_) (fun bB bD=>?_))
   ·obtain⟨cp,bE,bF⟩:=bs bC;refine zg 6 rfl (Cf (a6.Ah (V.Ab O)) bE underlying25 BD ?_);rintro cq cr _ ⟨_,_,rfl,rfl,rfl⟩ bG;refine BW bG FI BD rfl rfl (CO be C8 fun bH bI=>?_);refine zg 1 rfl (BU 0 bI BD fun bJ=>?_);refine C6 0 bJ rfl fun ct al a0 bK=>zg 4 rfl (JL.fl 0 a0 underlying27 AX Bx ?_);obtain⟨cu,bL,bM⟩:=bs bF;refine BF (I3 bL) rfl rfl II bK fun bN U a1=>zg 2 rfl (BJ bM (fun bO bP=>?_) (fun bO bQ=>?_))
    ·refine zg 3 rfl (AF (v:= .agg #[iV 1,iV K]) rfl (fun ρ h=>Dk [(0,1),(1,1)] h FJ underlying183 ⟨rfl,Bw type39,rfl,Bw type3,trivial⟩ rfl rfl) ?_);refine AF (v:= .iface 183 (.agg #[iV 1,iV K])) rfl (fun ρ h=>EZ underlying183 (fun _ h=>by cases h) (h _ _ rfl)) (zg 2 rfl ?_);obtain rfl:=oi bP;obtain rfl:=av _ ag;have bR:=elim_inl ap;obtain rfl:=oi bR;exact AD func116 rfl rfl (am (((V.Ab O).Ab al).Ab U) rfl ⟨.iface 183 (.agg #[iV 1,iV K]),rfl,rfl,rfl⟩ a1)
    ·refine JL.seq (CW 13 fun ht=>?_);refine AW ht rfl [0,1,2] rfl ?_;obtain⟨bS,bg,bT⟩:=bs bQ;refine Ed 1 #[true,true,true,true,true,true,true,true,true,true,true,true,true,false] (fun L s=>L= [(1,sV Y p1 Z),(2,pV a9 0),(5,iV K),(6,pV bH 0),(12,sV Y p1 Z),(13,iV (p1.length:Int)),(14,iV K),(39,.bool bS)]∧s=An bN H [[],[]]) ?_ ?_
     ·rintro _ _ ⟨rfl,rfl⟩;refine Cc [13] (zg 2 rfl ?_);refine BJ bT (fun bU bV=>?_) (fun bU bW=>?_)
      ·refine zg 3 rfl (AF (v:= .agg #[iV 5,iV K]) rfl (fun ρ h=>Dk [(0,1),(1,1)] h FJ underlying183 ⟨rfl,Bw type39,rfl,Bw type3,trivial⟩ rfl rfl) ?_);refine AF (v:= .iface 183 (.agg #[iV 5,iV K])) rfl (fun ρ h=>EZ underlying183 (fun _ h=>by cases h) (h _ _ rfl)) (zg 2 rfl ?_);obtain rfl:=oi bV;obtain rfl:=av _ ag;have bY:=elim_inl ap;obtain rfl:=oi bY;exact AD func116 rfl rfl (am (((V.Ab O).Ab al).Ab U) rfl ⟨.iface 183 (.agg #[iV 5,iV K]),rfl,rfl,rfl⟩ a1)
      ·refine zg 2 rfl (JL.fl 1 (a0.Ah U) underlying27 AX Bx ?_);refine JL.fl 0 (bn.Ah ((O.Ab al).Ab U)) underlying24 BR Cs ?_;refine Bj underlying22 rfl rfl rfl ?_;obtain⟨cv,bZ,b0⟩:=bs bW;refine Cg bZ rfl rfl rfl ?_;obtain⟨cw,b1,b2⟩:=bs b0;refine BF (I3 b1) rfl rfl II a1 fun cy bh bi=>zg 2 rfl (BJ b2 (fun b3 b4=>?_) (fun b3 b5=>?_))
       ·refine zg 3 rfl (AF (v:= .agg #[iV 3,iV K]) rfl (fun ρ h=>Dk [(0,1),(1,1)] h FJ underlying183 ⟨rfl,Bw type39,rfl,Bw type3,trivial⟩ rfl rfl) ?_);refine AF (v:= .iface 183 (.agg #[iV 3,iV K])) rfl (fun ρ h=>EZ underlying183 (fun _ h=>by cases h) (h _ _ rfl)) (zg 2 rfl ?_);obtain rfl:=oi b4;obtain rfl:=av _ ag;have b6:=elim_inl ap;obtain rfl:=oi b6;exact AD func116 rfl rfl (am ((((V.Ab O).Ab al).Ab U).Ab bh) rfl ⟨.iface 183 (.agg #[iV 3,iV K]),rfl,rfl,rfl⟩ bi)
       ·obtain⟨b7,b8,b9⟩:=bs b5;refine zg 4 rfl (Bb b8 rfl rfl rfl ?_);refine zg 2 rfl ?_;obtain rfl:=oi b9;exact bA b7 (((O.Ab al).Ab U).Ab bh) bi rfl ag
     ·intro bj;refine Fa (q:=0<K) (i:=29) rfl (fun a2=>?_) (fun a2=>?_)
      ·have ca:=ip bg a2;refine B7 3 ht underlying27 AX rfl rfl rfl rfl ?_;refine Cn 4 ht 0 (a0.Ah U) Bx rfl rfl rfl rfl ?_;refine AW ht rfl [5,6] rfl ?_;obtain⟨cz,cb,cc⟩:=bs ca;refine By 7 ht rfl rfl (fun ρ h s' hs=>C9 (h _ _ rfl) (h _ _ rfl) cb) ?_;obtain⟨cA,cd,ce⟩:=bs cc;refine Cy 8 (a6.Ah (((V.Ab O).Ab al).Ab U)) cd ht underlying25 BD ?_;rintro cB cC _ ⟨_,_,rfl,rfl,rfl⟩ cf;refine B7 9 ht underlying27 AX rfl rfl rfl rfl ?_;refine Cn 10 ht 0 cf Bx rfl rfl rfl rfl ?_;refine AW ht rfl [11,12] rfl ?_;obtain rfl:=oi ce;refine CE ?_ (bj _ _ ⟨rfl,rfl⟩);exact⟨rfl,rfl,rfl,rfl,rfl,rfl,rfl,rfl,trivial⟩
      ·have cg:=im bg a2;refine AW ht rfl [3,4,5,6,7,8,9,10,11,12] rfl ?_;obtain rfl:=oi cg;refine CE ?_ (bj _ _ ⟨rfl,rfl⟩);exact⟨rfl,rfl,rfl,rfl,rfl,rfl,rfl,rfl,trivial⟩
   ·refine JL.exit rfl ?_;obtain rfl:=oi bD;have ci:bb=(Sum.inr ()):=(av _ ag).symm;exact Az (bx _ _ ⟨(),bz,ci,rfl,rfl,O,be⟩) rfl
end Pal
namespace Pal
open Go Go.Conc Go.Proofs Go.Extern
abbrev Et(t:Nat):Value:= .pointer (some ⟨1,t,none⟩)
abbrev H2(t:Nat):Value:= .iface 240 (.agg #[Et t])
section
variable {s:St}{X:Halt→St→Prop}
theorem T0{Q:Value→St→Prop}(t:Addr):lp Tryz.prog (ReflectliteValue.unpack (.iface 185 (.pointer (some t)))) s Q X=(s.q=false∧∀r,s.E r=none→s.H r=none→Q (.agg #[Et 185,.pointer (some ⟨r,0,none⟩),.int .u64 150]) (s.upd r (.cells #[.pointer (some t)] 185 (0,0)))):=by kernel_rfl
theorem T6{Q:Value→St→Prop}(c a:Int):lp Tryz.prog (ReflectliteValue.unpack (.iface 183 (.agg #[iV c,iV a]))) s Q X=(s.q=false∧∀r,s.E r=none→s.H r=none→Q (.agg #[Et 183,.pointer (some ⟨r,0,none⟩),.int .u64 153]) (s.upd r (.cells #[iV c,iV a] 183 (0,0)))):=by kernel_rfl
theorem V0{Q:Value→St→Prop}(a:Addr):lp Tryz.prog (ReflectliteValue.methodAny (ReflectliteValue.valueError "reflectlite.Value.Type" 0) (fun t _ _ _=>ReflectliteType.toType t) #[.agg #[Et 185,.pointer (some a),.int .u64 150]]) s Q X=Q (H2 185) s:=by kernel_rfl
theorem Ut{Q:Value→St→Prop}(v:Value):lp Tryz.prog (ReflectliteType.typeOf #[.iface 183 v]) s Q X=Q (H2 183) s:=by kernel_rfl
theorem SV{Q:FuncId×Value→St→Prop}(h:Value):lp Tryz.prog (Go.method (Tryz.prog.types.size+Made.depth) 240 (.agg #[h]) "Kind") s Q X=Q (216,h) s:=by kernel_rfl
theorem YP{Q:FuncId×Value→St→Prop}(h:Value):lp Tryz.prog (Go.method (Tryz.prog.types.size+Made.depth) 240 (.agg #[h]) "Elem") s Q X=Q (227,.agg #[h]) s:=by kernel_rfl
theorem YX{Q:FuncId×Value→St→Prop}(h:Value):lp Tryz.prog (Go.method (Tryz.prog.types.size+Made.depth) 240 (.agg #[h]) "Implements") s Q X=Q (228,.agg #[h]) s:=by kernel_rfl
theorem az{Q:FuncId×Value→St→Prop}(h:Value):lp Tryz.prog (Go.method (Tryz.prog.types.size+Made.depth) 240 (.agg #[h]) "AssignableTo") s Q X=Q (225,.agg #[h]) s:=by kernel_rfl
theorem WB{Q:Value→St→Prop}:lp Tryz.prog ((ReflectliteType.abiMethod fun t=>(fun a:Nat=>Value.int IntKind.u8 (a:Int))<$>Rtype.kind t) #[Et 185]) s Q X=Q (.int .u8 22) s:=by kernel_rfl
theorem Wd{Q:Value→St→Prop}:lp Tryz.prog ((ReflectliteType.abiMethod fun t=>(fun a:Nat=>Value.int IntKind.u8 (a:Int))<$>Rtype.kind t) #[Et 183]) s Q X=Q (.int .u8 25) s:=by kernel_rfl
theorem VI{Q:Value→St→Prop}:lp Tryz.prog (ReflectliteType.method ReflectliteType.elem #[.agg #[Et 185]]) s Q X=Q (H2 183) s:=by kernel_rfl
theorem We{Q:Value→St→Prop}:lp Tryz.prog (ReflectliteType.relation "Implements" ReflectliteType.implements_ #[.agg #[Et 183],H2 149]) s Q X=Q (.bool true) s:=by kernel_rfl
theorem Xl{Q:Value→St→Prop}:lp Tryz.prog (ReflectliteType.relation "AssignableTo" ReflectliteType.assignableTo #[.agg #[Et 183],H2 183]) s Q X=Q (.bool true) s:=by kernel_rfl
theorem Qu{Q:Option (TypeId×Addr×Nat)→St→Prop}(a:Addr):lp Tryz.prog (ReflectliteValue.parts (.agg #[Et 185,.pointer (some a),.int .u64 150])) s Q X=Q (some (185,a,150)) s:=by kernel_rfl
theorem U6{Q:Option (TypeId×Addr×Nat)→St→Prop}(a:Addr):lp Tryz.prog (ReflectliteValue.parts (.agg #[Et 183,.pointer (some a),.int .u64 153])) s Q X=Q (some (183,a,153)) s:=by kernel_rfl
theorem Uo{Q:Option (TypeId×Addr×Nat)→St→Prop}(a:Addr):lp Tryz.prog (ReflectliteValue.parts (.agg #[Et 183,.pointer (some a),.int .u64 409])) s Q X=Q (some (183,a,409)) s:=by kernel_rfl
theorem Yr{Q:Option TypeId→St→Prop}:lp Tryz.prog (Rtype.elem? 185) s Q X=Q (some 183) s:=by kernel_rfl
theorem Zk{Q:Value→St→Prop}(p:Addr):lp Tryz.prog (ReflectliteValue.mk 183 p ReflectliteValue.flagAddr) s Q X=Q (.agg #[Et 183,.pointer (some p),.int .u64 409]) s:=by kernel_rfl
theorem Yo{Q:Bool→St→Prop}:lp Tryz.prog (Rtype.directlyAssignable 183 183) s Q X=Q true s:=by kernel_rfl
theorem Rb{Q:Value→St→Prop}(a:Addr):lp Tryz.prog (loadVar 185 a) s Q X=(Mode.plain= .plain∧∃v,s.cell? a=some v∧Q v s):=by kernel_rfl
theorem Wo{Q:Value→St→Prop}(a:Addr):lp Tryz.prog (loadVar 183 a) s Q X=(Mode.plain= .plain∧∃v,s.cell? (a.add 0)=some v∧Mode.plain= .plain∧∃w,s.cell? (a.add 1)=some w∧Q (.agg #[v,w]) s):=by kernel_rfl
end
theorem SZ:CH Tryz.prog 164 (fun args=>ReflectliteValue.unpack (args.getD 0 (.tuple #[]))):=⟨⟨_,Tryz.func164,by kernel_rfl,by kernel_rfl,by kernel_rfl,by kernel_rfl⟩⟩
theorem Zp:CH Tryz.prog 165 (ReflectliteValue.methodAny (ReflectliteValue.valueError "reflectlite.Value.Type" 0) (fun t _ _ _=>ReflectliteType.toType t)):=⟨⟨_,Tryz.func165,by kernel_rfl,by kernel_rfl,by kernel_rfl,by kernel_rfl⟩⟩
theorem ZC:CH Tryz.prog 166 (ReflectliteValue.method (ReflectliteValue.valueError "reflectlite.Value.IsNil" 0) ReflectliteValue.isNil):=⟨⟨_,Tryz.func166,by kernel_rfl,by kernel_rfl,by kernel_rfl,by kernel_rfl⟩⟩
theorem Zr:CH Tryz.prog 188 ReflectliteType.typeOf:=⟨⟨_,Tryz.func188,by kernel_rfl,by kernel_rfl,by kernel_rfl,by kernel_rfl⟩⟩
theorem Y2:CH Tryz.prog 189 (ReflectliteValue.method (ReflectliteValue.valueError "reflectlite.Value.Elem" 0) ReflectliteValue.elem):=⟨⟨_,Tryz.func189,by kernel_rfl,by kernel_rfl,by kernel_rfl,by kernel_rfl⟩⟩
theorem aa:CH Tryz.prog 190 ReflectliteValue.set:=⟨⟨_,Tryz.func190,by kernel_rfl,by kernel_rfl,by kernel_rfl,by kernel_rfl⟩⟩
theorem Sv:CH Tryz.prog 216 (ReflectliteType.abiMethod fun t=>(fun a:Nat=>Value.int IntKind.u8 (a:Int))<$>Rtype.kind t):=⟨⟨_,Tryz.func216,by kernel_rfl,by kernel_rfl,by kernel_rfl,by kernel_rfl⟩⟩
theorem Zi:CH Tryz.prog 225 (ReflectliteType.relation "AssignableTo" ReflectliteType.assignableTo):=⟨⟨_,Tryz.func225,by kernel_rfl,by kernel_rfl,by kernel_rfl,by kernel_rfl⟩⟩
theorem Z5:CH Tryz.prog 227 (ReflectliteType.method ReflectliteType.elem):=⟨⟨_,Tryz.func227,by kernel_rfl,by kernel_rfl,by kernel_rfl,by kernel_rfl⟩⟩
theorem ZA:CH Tryz.prog 228 (ReflectliteType.relation "Implements" ReflectliteType.implements_):=⟨⟨_,Tryz.func228,by kernel_rfl,by kernel_rfl,by kernel_rfl,by kernel_rfl⟩⟩
end Pal
namespace Pal
open Go Go.Conc
section
variable {P:Program}{J:Judge P}{Q:Goroutine→St→Prop}{b:Frame}{n:Nat}{ds:List Deferred}{ops:Array Oper}{k:List Item}{cs:List Frame}{m fuel:Nat}{D:Nat→Bool}{listed:Array Bool}{L:Env}{s:St}{E E' H:LH}{S:List Seg}
variable {d:Option Tmp}{x y:Operand}{t u ty e:TypeId}{p:String}{af:Array Edge}{g:Option (Nat×Bool)}{v:Value}{i:Nat}{kd:IntKind}
theorem UJ{f:FuncId}{args:Array Operand}{ats:Array TypeId}{vs:List Value}{seg:Seg}{R:Value→LH→Seg→Prop}(j:Nat)(a5:∀x,D x=true→∃(O:Nat) (o:Obj),(S.set j [])[O]? =some [(x,o)])(a6:AK J f vs E seg R)(a7:Region.ready .any ops listed= [i])
  (a8:ops[i]? =some ⟨d,.call ⟨.value (.func f),args,ats⟩,ty,p,af,g⟩) (a9:BE n d=true) (hw:Be L ops ⟨d,.call ⟨.value (.func f),args,ats⟩,ty,p,af,g⟩=some true) (hb:DN P f=true) (ba:evs L args.toList=some vs) (Y:Av E H S) (Z:S[j]? =some seg)
  (bb:∀v E' seg',Le E E'→R v E' seg'→Av E' H (S.set j seg')→AU J Q b n ds ops k cs m D fuel (Bg listed i) (AH L d v) (An E' H (S.set j seg'))):
  AU J Q b n ds ops k cs m D (fuel+1) listed L (An E H S):=by
 have am:S.flatten.Perm (seg++(S.set j []).flatten):=(Ee (seg':=seg) Z).1.trans List.perm_append_comm;have ap:Nd E H (seg++(S.set j []).flatten):=Nd.perm Y am;have bc:An E H S=mk E (Bf (S.set j []).flatten H) seg:=by
  rw [show An E H S=mk E H S.flatten from rfl,ES Y am];unfold mk;rw [Ft]
 have av:=D7.Je (a6 (Bf (S.set j []).flatten H) (Nd.front ap)) (by rintro v s' ⟨E',B',_,_,_,rfl⟩;rfl);rw [← bc] at av;refine AU.call rfl a7 a8 a9 hw hb ba av ?_;rintro v bn ⟨⟨E',B',hle,bd,be,rfl⟩,w,bf⟩;have bg:mk E' (Bf (S.set j []).flatten H) B'=mk E' H (B'++(S.set j []).flatten):=by unfold mk;rw [Ft]
 have bh:Nd E H (S.set j []).flatten:=by
  have:=ap;rw [Nd.iff] at this ⊢;rw [List.map_append,List.nodup_append] at this;exact⟨this.1.2.1,fun q bi=>this.2 q (List.mem_append_right _ bi)⟩
 have bj:Nd E' H (S.set j []).flatten:=bh.grow fun x U=>by
  have bl:=bf.d x U;have ag:Bf B' (Bf (S.set j []).flatten H) x=none:=bl;exact(Gu ag).1
 have a0:Nd E' H (B'++(S.set j []).flatten):=Nd.glue be bj;have a1:(B'++(S.set j []).flatten).Perm (S.set j B').flatten:=List.perm_append_comm.trans (Ee Z).2.symm;have a2:Av E' H (S.set j B'):=Nd.perm a0 a1;rw [bg,ES a0 a1];refine⟨rfl,fun x o U=>?_,bb v E' B' hle bd a2⟩;by_cases al:D x=true
 ·obtain⟨O,o',V⟩:=a5 x al;have a3:j≠O:=fun h=>by
   subst h;rw [List.getElem?_set_self (List.getElem?_eq_some_iff.1 Z).1] at V;cases V
  have a4:S[O]? =some [(x,o')]:=by rw [List.getElem?_set_ne a3] at V;exact V
  have ag:(An E H S).get x=some o':=EA (i:=0) Y a4 rfl;have bm:(An E' H (S.set j B')).get x=some o':=EA (i:=0) a2 (by rw [List.getElem?_set_ne a3];exact a4) rfl;have K:(if D x then(An E H S).get x else E x)=some o:=U
  show(if D x then(An E' H (S.set j B')).get x else E' x)=some o
  rw [if_pos al] at K ⊢;rw [bm,← ag];exact K
 ·have K:(if D x then(An E H S).get x else E x)=some o:=U
  show(if D x then(An E' H (S.set j B')).get x else E' x)=some o
  rw [if_neg al] at K ⊢;exact hle _ _ K
end
end Pal
namespace Pal
open Go Go.Conc
section
variable {P:Program}{J:Judge P}{Q:Goroutine→St→Prop}{b:Frame}{n:Nat}{L:Env}{ds:List Deferred}{k:List Item}{cs:List Frame}{s:St}{ops:Array Oper}{i:Nat}{rest:List Nat}{v:Value}
variable {d:Option Tmp}{x:Operand}{ty:TypeId}{p:String}{af:Array Edge}{g:Option (Nat×Bool)}
theorem Qt{f:FuncId}{e:Array Value→Sem Value}{args:Array Value}{Q:Next→St→Prop}{X:Halt→St→Prop}(he:CH P f e)(h:lp P (e args) s (fun v s'=>Q (.value v) s') X):lp P (callFunc f args) s Q X:=by
 obtain⟨fn,K,O,U,V,Y⟩:=he.h;unfold callFunc;simp only [bind,Sem.bind,program,lp,K,O,U,Bool.false_eq_true,if_false,if_true,mark,V,Y];refine⟨.inr ⟨f,rfl⟩,?_⟩;exact AE _ _ (Dr _ h (fun v s' Z=>Z) (fun _ _ ag=>ag))
theorem I8{f:FuncId}{e:Array Value→Sem Value}{args:Array Operand}{ats:Array TypeId}{vs:List Value}(he:CH P f e)(O:ops[i]? =some ⟨d,.call ⟨.value (.func f),args,ats⟩,ty,p,af,g⟩)(hw:Be L ops ⟨d,.call ⟨.value (.func f),args,ats⟩,ty,p,af,g⟩=some true)(U:CK b n ⟨d,.call ⟨.value (.func f),args,ats⟩,ty,p,af,g⟩=true)(V:evs L args.toList=some vs)
  (h:lp P (e vs.toArray) s (fun v s'=>JL J Q b n (AH L d v) ds (.inRegion ops rest::k) cs s') (fun _ _=>False)):JL J Q b n L ds (.inRegion ops (i::rest)::k) cs s:=by
 refine JL.op O hw U fun ρ K=>?_;have Y:args.map ρ=vs.toArray:=by
  rw [← FX K V];apply Array.ext';simp
 have Z:ρ (.func f)= .func (.func f) #[] #[]:=K _ _ rfl;simp only [execOp,resolve,bind,Sem.bind,Deferred.ofValue,Z,pure,invoke];have ag: #[]++args.map ρ++ #[]=vs.toArray:=by rw [Y];simp
 rw [ag];exact Qt he h
theorem Ll{t:TypeId}{K O:Value}{name:String}{f:FuncId}{e:Array Value→Sem Value}{args:Array Operand}{ats:Array TypeId}{vs:List Value}(he:CH P f e)(hm:∀{s:St} {X:Halt→St→Prop} {Q:FuncId×Value→St→Prop},lp P (Go.method (P.types.size+Made.depth) t K name) s Q X=Q (f,O) s)
  (V:ops[i]? =some ⟨d,.call ⟨.invoke x name,args,ats⟩,ty,p,af,g⟩) (hw:Be L ops ⟨d,.call ⟨.invoke x name,args,ats⟩,ty,p,af,g⟩=some true) (Y:CK b n ⟨d,.call ⟨.invoke x name,args,ats⟩,ty,p,af,g⟩=true) (Z:ev L x=some (.iface t K)) (ag:evs L args.toList=some vs)
  (h:lp P (e (O::vs).toArray) s (fun v s'=>JL J Q b n (AH L d v) ds (.inRegion ops rest::k) cs s') (fun _ _=>False)):JL J Q b n L ds (.inRegion ops (i::rest)::k) cs s:=by
 refine JL.op V hw Y fun ρ U=>?_;have al:args.map ρ=vs.toArray:=by
  rw [← FX U ag];apply Array.ext';simp
 have am:ρ x= .iface t K:=U _ _ Z;simp only [execOp,resolve,bind,Sem.bind,pure,invoke,am,al];have ap:(#[Value.iface t K]++vs.toArray)[0]? =some (.iface t K):=by simp
 have av:(#[Value.iface t K]++vs.toArray).extract 1 (#[Value.iface t K]++vs.toArray).size=vs.toArray:=by
  apply Array.ext';simp
 simp only [ap,av,callMethod,bind,Sem.bind,program,lp];refine AE _ _ ?_;rw [hm];have a0: #[O]++vs.toArray=(O::vs).toArray:=by apply Array.ext';simp
 rw [a0];exact Qt he h
end
end Pal
namespace Pal
open Go Go.Conc Go.Proofs
open Go.Proofs.Tryz
variable {J:Judge Tryz.prog}{E:LH}
def f135(fuel:Nat):Option Bool:= some false
theorem Ze{O:Value}{fuel:Nat}{r:Bool}(K:f135 fuel=some r):AK J 135 [.nilIface,O] E [] (fun w E' B'=>w= .bool r∧B'= []):=by
 refine A4 func135 fun Q Y cs H U V=>?_;unfold f135 at K;refine zg 8 rfl ?_;refine AF (v:= .bool true) rfl (fun ρ h=>Rm underlying149 (show H0 0 .nilIface none from rfl) (h _ _ rfl) (h _ _ rfl)) (zg 6 rfl ?_);obtain rfl:=oi K;exact AD func135 rfl rfl (V Ar rfl ⟨rfl,rfl⟩ U)
def f112(fuel:Nat):Option Int:= (f135 fuel).bind fun K=> if K=true then(some 0) else(some 0)
theorem YL{fuel:Nat}{r:Int}(O:f112 fuel=some r):AK J 112 [.nilIface] E [] (fun w E' B'=>w=iV r∧B'= []):=by
 refine A4 func112 fun Q a3 cs H Y U=>?_;unfold f112 at O;refine zg 6 rfl (CO Y FJ fun Z ag=>?_);refine zg 5 rfl (AF (v:=(.iface 185 (pV Z 0))) rfl (fun ρ h=>EZ underlying185 (fun _ h=>by cases h) (h _ _ rfl)) ?_);obtain⟨a4,al,am⟩:=bs O;refine BF (Ze al) rfl rfl (AS func135 rfl) ag fun a5 V K=>JL.done (BJ am (fun ap av=>?_) (fun ap a0=>?_))
 ·refine zg 2 rfl (BM underlying183 (Bw type39) rfl rfl rfl ?_);refine AF (v:=iV 0) rfl (fun ρ h=>Yl.load (Dz underlying39) (h _ _ rfl) (DY (j:=1) (off:=0) K rfl rfl)) (zg 2 rfl ?_);refine JS.drop 1 K rfl fun a1=>?_;obtain rfl:=oi av;exact AD func112 rfl rfl (U V rfl ⟨rfl,rfl⟩ a1)
 ·refine zg 5 rfl (JS.drop 1 K rfl fun a2=>?_);obtain rfl:=oi a0;exact AD func112 rfl rfl (U V rfl ⟨rfl,rfl⟩ a2)
def Lm(fuel:Nat)(p0:Option (Int×Int)):Option Int:=match p0 with
 | none=>f112 fuel
 | some _=>none
end Pal
namespace Pal
open Go Go.Conc Go.Proofs Go.Extern
def OY(b:Frame)(n:Nat):Nat→List Item→Env→List Item×Env
 | 0,k,L=>(k,L)
 | m+1,k,L=>match ND b n L k with
  | some (k',L')=>OY b n m k' L'
  | none=>(k,L)
theorem zm{P:Program}{J:Judge P}{Q:Goroutine→St→Prop}{b:Frame}{n:Nat}{ds:List Deferred}{cs:List Frame}{s:St}:∀(m:Nat) {L L':Env} {k k':List Item},OY b n m k L=(k',L')→JL J Q b n L' ds k' cs s→JL J Q b n L ds k cs s
 | 0,L,L',k,k',h,K=>by cases h;exact K
 | m+1,L,L',k,k',h,K=>by
  unfold OY at h
  split at h
  ·rename_i e;exact S2 e (zm m h K)
  ·cases h;exact K
theorem Rh{E H:LH}{S:List Seg}{r:Nat}{o:Obj}(K:Av E H S)(O:(An E H S).E r=none)(U:(An E H S).H r=none):Av E H (S++ [[(r,o)]])∧(An E H S).upd r o=An E H (S++ [[(r,o)]]):=by
 obtain⟨a,b⟩:=IW O U o K;obtain⟨c,d⟩:=En a;exact⟨d,b.trans c⟩
theorem ZO{s:St}{X:Halt→St→Prop}{Q:Value→St→Prop}{o:Operand}(p:Addr):lp Tryz.prog (do eqGuard .eql 20 o (.const .nilIface) (.iface 185 (.pointer (some p))) .nilIface;binOp .eql 20 (.iface 185 (.pointer (some p))) .nilIface) s Q X=Q (.bool false) s:=by kernel_rfl
theorem VR{s:St}{ρ:Operand→Value}{d:Option Tmp}{x:Operand}{u ty:TypeId}{p:String}{af:Array Edge}{g:Option (Nat×Bool)}{a:Addr}(K:ρ x= .iface 185 (.pointer (some a)))(O:ρ (.const .nilIface)= .nilIface):Yl Tryz.prog ⟨d,.binOp .eql 20 x (.const .nilIface) u,ty,p,af,g⟩ ρ s (.bool false):=by
 refine EY (sm:=do eqGuard .eql 20 x (.const .nilIface) (ρ x) (ρ (.const .nilIface));binOp .eql 20 (ρ x) (ρ (.const .nilIface))) rfl ?_
 rw [K,O];exact(ZO a).mpr ⟨rfl,rfl⟩
theorem TD(z:Sem Value)(f:TypeId→Addr→Nat→Nat→Sem Value)(v:Value):ReflectliteValue.method z f #[v]=Sem.bind (ReflectliteValue.parts v) (fun x=>match x with | none=>z | some (t,a,fl)=>f t a fl (fl % 32)):=rfl
theorem UT{s:St}{X:Halt→St→Prop}{Q:Value→St→Prop}(a p:Addr)(K:s.cell? a=some (.pointer (some p)))(h:Q (.bool false) s):lp Tryz.prog (ReflectliteValue.method (ReflectliteValue.valueError "reflectlite.Value.IsNil" 0) ReflectliteValue.isNil #[.agg #[Et 185,.pointer (some a),.int .u64 150]]) s Q X:=by
 rw [TD];refine AE (x:=ReflectliteValue.parts _) _ ((Qu a).mpr ?_);show lp Tryz.prog (Sem.bind (loadVar 185 a) _) s Q X;exact AE (x:=loadVar 185 a) _ ((Rb a).mpr ⟨rfl,_,K,h⟩)
theorem Vl{s:St}{X:Halt→St→Prop}{Q:Value→St→Prop}(a p:Addr)(K:s.cell? a=some (.pointer (some p)))(h:Q (.agg #[Et 183,.pointer (some p),.int .u64 409]) s):lp Tryz.prog (ReflectliteValue.method (ReflectliteValue.valueError "reflectlite.Value.Elem" 0) ReflectliteValue.elem #[.agg #[Et 185,.pointer (some a),.int .u64 150]]) s Q X:=by
 rw [TD];refine AE (x:=ReflectliteValue.parts _) _ ((Qu a).mpr ?_);show lp Tryz.prog (Sem.bind (loadVar 185 a) _) s Q X;refine AE (x:=loadVar 185 a) _ ((Rb a).mpr ⟨rfl,_,K,?_⟩);refine AE (x:=Rtype.elem? 185) _ (Yr.mpr ?_);exact(Zk p).mpr h
theorem aY(v x:Value):ReflectliteValue.set #[v,x]=(do
  let (some (dst,a,fl),some (src,b,_)):=(← ReflectliteValue.parts v,← ReflectliteValue.parts x)
   | unsupported (.noEntry "extern/(internal/reflectlite.Value).Set.zeroValue")
  if fl / ReflectliteValue.flagAddr % 2==0 then unsupported (.noEntry "extern/(internal/reflectlite.Value).Set.unaddressable")
  let val ← loadVar src b
  if ← Rtype.directlyAssignable dst src then storeVar dst a val
  else if ← Rtype.implements dst src then
   if(← Rtype.kind src)==20 then
    match val with
    | .nilIface=>unsupported (.noEntry "extern/reflectlite: a nil value of one interface type handed on as a value of another")
    | _=>storeVar dst a val
   else storeVar dst a (.iface src val)
  else panicString ("reflectlite.Set: value of type " ++(← Rtype.spelt src)++ " is not assignable to type " ++(← Rtype.spelt dst))
  pure (.tuple #[])):=rfl
theorem XL{E H:LH}{S:List Seg}{X:Halt→St→Prop}{Q:Value→St→Prop}{bk r:Nat}{u w:Value}{c a:Int}(j:Nat)(V:Av E H S)(K:S[j]? =some [(bk,.cells #[u,w] 183 (0,0))])(O:At E r 0 [iV c,iV a])(h:Av E H (S.set j [(bk,.cells #[iV c,iV a] 183 (0,0))])→Q (.tuple #[]) (An E H (S.set j [(bk,.cells #[iV c,iV a] 183 (0,0))]))):
  lp Tryz.prog (ReflectliteValue.set #[.agg #[Et 183,.pointer (some ⟨bk,0,none⟩),.int .u64 409],.agg #[Et 183,.pointer (some ⟨r,0,none⟩),.int .u64 153]]) (An E H S) Q X:=by
 rw [aY];refine AE (x:=ReflectliteValue.parts _) _ ((Uo _).mpr ?_);refine AE (x:=ReflectliteValue.parts _) _ ((U6 _).mpr ?_);refine AE (x:=loadVar 183 _) _ ((Wo _).mpr ⟨rfl,_,At.J3 (j:=0) O rfl,rfl,_,At.J3 (j:=1) O rfl,?_⟩);refine AE (x:=Rtype.directlyAssignable 183 183) _ (Yo.mpr ?_);refine AE (x:=storeVar 183 _ _) _ ?_;obtain⟨Y,Z⟩:=Ge V K;rw [Y];refine Oa (pl:=(S.set j []).flatten.length) (Bw Tryz.type183) (by simp [Value.cells,CP]) Z (c:= #[u,w]) (e:=183) (by simp) (by simp [Value.cells]) fun U=>?_;have ag:((S.set j []).flatten++ [(bk,Obj.cells #[u,w] 183 (0,0))]).set (S.set j []).flatten.length (bk,.cells (A0 #[u,w] 0 (Value.agg #[iV c,iV a]).cells.toList) 183 (0,0))=(S.set j []).flatten++ [(bk,.cells #[iV c,iV a] 183 (0,0))]:=HJ _ _ _ _;rw [ag] at U ⊢;obtain⟨al,am⟩:=Ho (seg':= [(bk,.cells #[iV c,iV a] 183 (0,0))]) K U;rw [al];exact h am
variable {J:Judge Tryz.prog}{E:LH}
theorem aj{c a:Int}{bk r:Nat}{u w:Value}(O:At E r 0 [.pointer (some ⟨bk,0,none⟩)]):AK J 167 [.iface 183 (.agg #[iV c,iV a]),.iface 185 (.pointer (some ⟨bk,0,none⟩)),.agg #[Et 185,.pointer (some ⟨r,0,none⟩),.int .u64 150],H2 183] E [(bk,.cells #[u,w] 183 (0,0))] (fun v E' B'=>v= .bool true∧B'= [(bk,.cells #[iV c,iV a] 183 (0,0))]):=by
 refine JY Tryz.func167 rfl rfl fun Q a4 cs H U V=>zm 60 rfl (JS.box (v:= .agg #[Et 185,.pointer (some ⟨r,0,none⟩),.int .u64 150]) rfl rfl rfl U rfl fun a5 Y=>?_);refine C6 1 Y rfl fun a6 K Z ag=>zm 60 rfl (IS ?_);refine zm 60 rfl (I8 Zr rfl rfl rfl rfl ?_);refine(Ut _).mpr ?_;refine zm 60 rfl (Ll Zi (az _) rfl rfl rfl rfl rfl ?_);refine Xl.mpr (zm 60 rfl ?_);refine BW Z LP Km rfl rfl (I8 Y2 rfl rfl rfl rfl ?_);refine Vl ⟨r,0,none⟩ ⟨bk,0,none⟩ (At.J3 (j:=0) (O.Ah K) rfl) (zm 60 rfl ?_);refine I8 SZ rfl rfl rfl rfl ?_;refine(T6 c a).mpr ⟨rfl,fun a7 al am=>?_⟩;obtain⟨ap,av⟩:=Rh (o:= .cells #[iV c,iV a] 183 (0,0)) ag al am;rw [av];refine C6 2 ap rfl fun a8 a0 a1 a2=>I8 aa rfl rfl rfl rfl (XL 0 a2 rfl a1 fun a3=>?_);refine zm 60 rfl (AD Tryz.func167 rfl rfl ?_);exact V _ _ _ _ (K.trans a0) rfl ⟨rfl,rfl⟩ a3
theorem Zc{c a:Int}{bk:Nat}{u w:Value}(Y:At E 0 0 [H2 149]):AK J 135 [.iface 183 (.agg #[iV c,iV a]),.iface 185 (.pointer (some ⟨bk,0,none⟩))] E [(bk,.cells #[u,w] 183 (0,0))] (fun v E' B'=>v= .bool true∧B'= [(bk,.cells #[iV c,iV a] 183 (0,0))]):=by
 refine JY Tryz.func135 rfl rfl fun Q a6 cs H Z ag=>zm 60 rfl ?_;refine AF (v:= .bool false) rfl (fun ρ h=>Rm Tryz.underlying149 (show H0 183 (.iface 183 (.agg #[iV c,iV a])) (some (c,a)) from rfl) (h _ _ rfl) (h _ _ rfl)) (zm 60 rfl ?_);refine AF rfl (fun ρ h=>VR (h _ _ rfl) (h _ _ rfl)) (zm 60 rfl ?_);refine I8 SZ rfl rfl rfl rfl ?_;refine(T0 _).mpr ⟨rfl,fun r al am=>?_⟩;obtain⟨ap,av⟩:=Rh (o:= .cells #[.pointer (some ⟨bk,0,none⟩)] 185 (0,0)) Z al am;rw [av];refine JS.alloc rfl rfl rfl ap (Dy Tryz.type210) fun a7 a0=>Po (v:= .agg #[Et 185,.pointer (some ⟨r,0,none⟩),.int .u64 150]) (off:=0) 2 a0 Km rfl rfl rfl rfl fun a1=>zm 60 rfl (C6 1 a1 rfl fun a8 U V a2=>?_);refine C6 2 a2 rfl fun a9 K O a3=>BW O LP Km rfl rfl (I8 Zp rfl rfl rfl rfl ?_);refine(V0 _).mpr ?_;refine zm 60 rfl (Ll Sv (SV _) rfl rfl rfl rfl rfl ?_);refine WB.mpr (zm 60 rfl ?_);refine BW (O) LP Km rfl rfl (I8 ZC rfl rfl rfl rfl ?_);refine UT ⟨r,0,none⟩ ⟨bk,0,none⟩ (At.J3 (j:=0) (V.Ah K) rfl) (zm 60 rfl ?_);refine Ll Z5 (YP _) rfl rfl rfl rfl rfl (VI.mpr ?_);refine zm 60 rfl (Ll Sv (SV _) rfl rfl rfl rfl rfl ?_);refine Wd.mpr (zm 60 rfl ?_);refine B8 0 (Y.Ah (U.trans K)) (Dz Tryz.underlying213) rfl rfl rfl (Ll ZA (YX _) rfl rfl rfl rfl rfl ?_);refine We.mpr (zm 60 rfl ?_);refine AF (v:= .bool (!true)) rfl (fun ρ h=>Yl.not (h _ _ rfl)) (zm 60 rfl ?_);refine BW (O) LP Km rfl rfl (zm 60 rfl ?_);refine B6 0 (aj (V.Ah K)) rfl rfl (AS Tryz.func167 rfl) a3 rfl ?_;rintro _ ba _ a4 ⟨rfl,rfl⟩ a5;refine zm 60 rfl (AD Tryz.func135 rfl rfl ?_);exact ag _ _ _ _ ((U.trans K).trans a4) rfl ⟨rfl,rfl⟩ a5
theorem Wz{c a:Int}(K:At E 0 0 [H2 149]):AK J 112 [.iface 183 (.agg #[iV c,iV a])] E [] (fun v E' B'=>v=iV c∧B'= []):=by
 refine JY Tryz.func112 rfl rfl fun Q ap cs H O U=>zm 60 rfl (JS.alloc rfl rfl rfl O FJ fun av V=>?_);refine zm 60 rfl (AF rfl (fun ρ h=>EZ Tryz.underlying185 (fun ms e=>by cases e) (h _ _ rfl)) ?_);refine B6 1 (Zc (u:=iV 0) (w:=iV 0) K) rfl rfl (AS Tryz.func135 rfl) V rfl ?_;rintro _ a0 _ Y ⟨rfl,rfl⟩ Z;refine C6 1 Z rfl fun a1 ag al am=>zm 60 rfl (BM Tryz.underlying183 (Bw Tryz.type39) rfl rfl rfl ?_);refine B8 0 al (Dz Tryz.underlying39) rfl rfl rfl (zm 60 rfl ?_);exact AD Tryz.func112 rfl rfl (U _ _ _ _ (Y.trans ag) rfl ⟨rfl,rfl⟩ am)
abbrev GE(E:LH):Prop:=At E 0 0 [H2 149]
def Ln(fuel:Nat)(p0:Option (Int×Int)):Option Int:=match p0 with
 | none=>f112 fuel
 | some q=>some q.1
theorem OJ{v:Value}{p0:Option (Int×Int)}(O:GE E)(h:H0 183 v p0){fuel:Nat}{r:Int}(K:Ln fuel p0=some r):AK J 112 [v] E [] (fun w E' B'=>w=iV r∧B'= []):=by
 match p0,h with
 | none,h=>obtain rfl:v= .nilIface:=h;exact YL K
 | some (c,a),h=>
  obtain rfl:v= .iface 183 (.agg #[iV c,iV a]):=h;cases K;exact Wz O
end Pal
namespace Pal
open Go Go.Conc Go.Proofs Go.ChangeShapes Go.WideShapes Go.ChangeAt Go.RowKit
open Go.Proofs.YtboibffcmhheiaaGreatDoor
section
variable {H:Type}{enc:TypeId×Value→H}{W:World}{fuel:Nat}{cs:List Value}{x:DataW H×List MemPlace}
theorem Tryz.Xz:Tryz.prog.cellsOf 28=1:=by kernel_rfl
theorem Tryz.Yq:Tryz.prog.cellsOf 22=1:=by kernel_rfl
theorem Tryz.XR:Tryz.prog.cellsOf 24=2:=by kernel_rfl
theorem IL(a:Addr):a.add 0=a:=by unfold Addr.add;rw [if_pos rfl]
theorem Q8(Y:DataW.trod enc Tryz.prog W 0 (fun _=>true) true fuel 28 cs=some x):∃(a:Option Addr) (c:Nat) (K:List Int),cs= [.slice a K.length c]∧Al rI (Ek W).E a c K:=by
 rcases open_ints Tryz.underlying28 Tryz.underlying3 Pal.Tryz.SN Y with⟨O,Z⟩ | ⟨a,len,cap,K,O,_,ag,hm,al,Z,U,hw⟩
 ·exact⟨none,0,[],O,Al.nil⟩
 ·simp only [if_true] at al;rcases Nat.eq_zero_or_pos cap with V | V
  ·have:len=0:=by omega
   subst this;subst V;exact⟨some a,0,[],O,Nat.le_refl _,.inl ⟨rfl,fun _ _=> .inr rfl⟩⟩
  ·have am:a.spot=none:=by
    have:=World.cell?_spot (U 0 (by omega))
    rwa [IL] at this
   obtain⟨ap,g2⟩:=V1 am ag (by omega) U;exact⟨some a,cap,K.take len,by rw [g2];exact O,ap⟩
theorem Ru{b off:Nat}{v:Value}(h:W.cell? ⟨b,off,none⟩=some v):At (Ek W).E b off [v]:=by
 unfold World.cell? at h;split at h
 ·rename_i c e f hW;simp only [Option.isSome_none,Bool.false_eq_true,if_false] at h;refine⟨c,e,f,hW,fun j w K=>?_⟩
  match j,K with
  | 0,K=>simp at K;subst K;simpa using h
  | j+1,K=>simp at K
 ·cases h
theorem Q2(a4:DataW.trod enc Tryz.prog W 0 (fun _=>true) true fuel 22 cs=some x):∃(a:Option Addr) (c:Nat) (U:List (List Int)),cs= [.slice a U.length c]∧Al (rL rI) (Ek W).E a c U:=by
 rcases DataW.trod_slice Tryz.underlying22 a4 with⟨am,a5⟩ | ⟨a,len,cap,elems,rest,n,_,am,a5,_,a6,_,hlen,ap,av,_⟩
 ·exact⟨none,0,[],am,Al.nil⟩
 ·rw [Tryz.Xz] at ap av;simp only [Nat.mul_one] at ap av;rcases Nat.eq_zero_or_pos cap with a1 | a1
  ·have:len=0:=by omega
   subst this;subst a1;exact⟨some a,0,[],am,Nat.le_refl _,.inl ⟨rfl,fun _ _=> .inr rfl⟩⟩
  ·have a2:∀i,i<len→∃v y,W.cell? (a.add i)=some v∧DataW.trod enc Tryz.prog W 0 (fun _=>true) true n 28 [v]=some y:=fun i hi=>by
    have K:=ap i hi;rw [List.getElem?_eq_getElem (by omega)] at K;obtain⟨vs,O,ag⟩:=Option.bind_eq_some_iff.1 K;obtain⟨_,V,al⟩:=World.cells?_some O
    match vs,V with
    | [v],_=>
     have:=al 0 (by omega);refine⟨v,_,?_,ag⟩;have e:(a.add i).add 0=a.add i:=IL _;rw [e] at this;simpa using this
   have hs:a.spot=none:=by
    rcases Nat.eq_zero_or_pos len with K | K
    ·obtain⟨O,ag⟩:=av trivial;have V:=ag 0 (by omega);rw [List.getElem?_eq_getElem (by omega)] at V;obtain⟨vs,al,_⟩:=Option.bind_eq_some_iff.1 V;obtain⟨_,a7,a8⟩:=World.cells?_some al
     match vs,a7 with
     | [v],_=>
      have:=a8 0 (by omega);rw [K] at this;rw [IL,Nat.add_zero,IL] at this;exact World.cell?_spot this
    ·obtain⟨v,y,O,_⟩:=a2 0 K;rw [IL] at O;exact World.cell?_spot O
   have a3:∀i:Fin len,∃U:List Int,∃(Y:Option Addr) (Z:Nat),W.cell? (a.add i)=some (.slice Y U.length Z)∧Al rI (Ek W).E Y Z U:=fun i=>by
    obtain⟨v,y,O,ag⟩:=a2 i i.2;obtain⟨Y,Z,U,V,al⟩:=Q8 ag;simp only [List.cons.injEq,and_true] at V;subst V;exact⟨U,Y,Z,O,al⟩
   refine⟨some a,cap,List.ofFn fun i=>Classical.choose (a3 i),by simpa using am,by simpa using a6,.inr ⟨a.block,a.off,?_,fun i z a0=>?_⟩⟩
   ·obtain⟨b,o,s⟩:=a;simp only at hs;subst hs;rfl
   ·have hi:i<len:=by have:=(List.getElem?_eq_some_iff.1 a0).1;simpa using this
    simp [hi] at a0;obtain⟨Y,Z,K,O⟩:=Classical.choose_spec (a3 ⟨i,hi⟩);rw [a0] at K O;simp only at K;rw [Dj hs] at K;refine⟨[.slice Y z.length Z],⟨Y,Z,rfl,O⟩,?_⟩;have e:a.off+i*(rL rI).n=a.off+i:=by show a.off+i*1=_;omega
    rw [e];exact Ru K
theorem Yp{v:Value}{ag:Nat}{d:DataW H}{p:List MemPlace}(al:Value.okWide Tryz.prog W .any ag 24 v)(am:DataW.Trod enc Tryz.prog W 0 (fun _=>true) true 24 v d p):
  ∃(K:Option Addr) (O:Nat) (U:Option Addr) (c2:Nat) (J:List (List Int)×List (List Int)),v= .agg #[.slice K J.1.length O,.slice U J.2.length c2]∧Al (rL rI) (Ek W).E K O J.1∧Al (rL rI) (Ek W).E U c2 J.2:=by
 obtain⟨cs,rfl,Z⟩:=okWide_struct Tryz.underlying24 al;obtain⟨fuel,ap⟩:=am;obtain⟨a3,a4,n,_,a5,av,a0⟩:=trod_struct2 Tryz.underlying24 ap;obtain⟨K,O,z1,V,a1⟩:=Q2 av;obtain⟨U,c2,a2,Y,g2⟩:=Q2 a0;refine⟨K,O,U,c2,(z1,a2),?_,a1,g2⟩;rw [Tryz.Yq] at V Y;rw [Tryz.XR] at Z;simp only [Value.cells,List.drop_zero] at V Y;obtain⟨l⟩:=cs
 match l,Z with
 | [u,w],_=>
  simp at V Y;rw [V,Y]
theorem V8{v:Value}{O:Nat}{d:DataW H}{p:List MemPlace}(U:Value.okWide Tryz.prog W .any O 28 v)(V:DataW.Trod enc Tryz.prog W 0 (fun _=>true) true 28 v d p):
  ∃(a:Option Addr) (c:Nat) (K:List Int),v= .slice a K.length c∧Al rI (Ek W).E a c K:=by
 obtain⟨Z,len,cap,rfl⟩:=okWide_slice Tryz.underlying28 U;obtain⟨fuel,Y⟩:=V;obtain⟨a,c,K,e,g⟩:=Q8 Y;simp [Value.cells] at e;obtain⟨rfl,rfl,rfl⟩:=e;exact⟨_,_,_,rfl,g⟩
end
theorem Tryz.Xk:Tryz.prog.globalNamed "errors.errorType" =some 0:=by kernel_rfl
theorem Tryz.ZB:(Tryz.prog.cutTypes.find? (·.1== "internal/reflectlite.rtype")).map (·.2)=some 240:=by kernel_rfl
theorem Tryz.W5:Tryz.prog.globals.size=1:=by kernel_rfl
theorem Tryz.Y0:(List.range Tryz.prog.types.size).all (fun t=> !Tryz.prog.rowNamed t [101,114,114,111,114] || t==149)=true:=by kernel_rfl
theorem XI{W:World}(h:laidMetH Tryz.prog [("errors.errorType",Rows.laid_errors_errorType)] W.memory):GE (Ek W).E:=by
 have U:=h.2 _ (List.mem_cons_self ..);obtain⟨name,u,ty,V,Y,Z,ag,K⟩:=U;have al:name= [101,114,114,111,114]:=(Option.some.inj V).symm;have am:u=240:=Option.some.inj (Y.symm.trans Tryz.ZB);subst al;subst am;have ap:ty=149:=by
  have:=List.all_eq_true.1 Tryz.Y0 ty (List.mem_range.2 Z);rw [ag] at this;simpa using this
 subst ap;unfold World.var? at K;rw [Tryz.Xk] at K;simp only [Option.bind_some] at K;split at K
 ·rename_i c e f hW;simp only [Option.some.injEq] at K;subst K;refine⟨_,e,f,hW,fun j w O=>?_⟩;have av:typeHandle Tryz.prog 149= .pointer (some ⟨1,149,none⟩):=by unfold typeHandle;rw [Tryz.W5]
  rw [av]
  match j,O with
  | 0,O=>simp at O;subst O;rfl
  | j+1,O=>simp at O
 ·cases K
end Pal
namespace Pal
open Go Go.Conc Go.Proofs Go.ChangeShapes Go.WideShapes Go.ChangeAt Go.RowKit
open Go.Proofs.YtboibffcmhheiaaGreatDoor
section
variable {H:Type}{enc:TypeId×Value→H}{W:World}{fuel:Nat}{cs:List Value}{x:DataW H×List MemPlace}
theorem Tryz.Sg:Tryz.prog.cellsOf 27=2:=by kernel_rfl
theorem UL{b off:Nat}(O:0<cs.length)(h:∀j,j<cs.length→W.cell? ⟨b,off+j,none⟩=cs[j]?):At (Ek W).E b off cs:=by
 have U:=h 0 O;rw [List.getElem?_eq_getElem O] at U;obtain⟨f,e,fr,V,_⟩:=Ru U;have hW:W.heap[b]? =some (.cells f e fr):=V;refine⟨f,e,fr,V,fun j w Y=>?_⟩;have Z:=(List.getElem?_eq_some_iff.1 Y).1;have K:=h j Z;rw [Y] at K;unfold World.cell? at K;simp only [hW] at K;simpa using K
theorem Zh{α:Type}{p:Rp α}{t e:TypeId}(ht:Tryz.prog.underlying t=some (.slice e))(a4:Tryz.prog.cellsOf e=p.n)(a5:0<p.n)
  (a6:∀n cs x,DataW.trod enc Tryz.prog W 0 (fun _=>true) true n e cs=some x→∃v,p.r (Ek W).E cs v)
  (a7:DataW.trod enc Tryz.prog W 0 (fun _=>true) true fuel t cs=some x):∃(a:Option Addr) (c:Nat) (ap:List α),cs= [.slice a ap.length c]∧Al p (Ek W).E a c ap:=by
 rcases DataW.trod_slice ht a7 with⟨Z,a8⟩ | ⟨a,len,cap,elems,rest,n,_,Z,a8,_,a9,_,hlen,av,a0,_⟩
 ·exact⟨none,0,[],Z,Al.nil⟩
 ·rw [a4] at av a0;rcases Nat.eq_zero_or_pos cap with a1 | a1
  ·have:len=0:=by omega
   subst this;subst a1;exact⟨some a,0,[],Z,Nat.le_refl _,.inl ⟨rfl,fun _ _=> .inr rfl⟩⟩
  ·have a2:∀i,i<len→∃vs y,vs.length=p.n∧(∀j,j<p.n→W.cell? ((a.add (i*p.n)).add j)=vs[j]?)∧DataW.trod enc Tryz.prog W 0 (fun _=>true) true n e vs=some y:=fun i hi=>by
    have K:=av i hi;rw [List.getElem?_eq_getElem (by omega)] at K;obtain⟨vs,al,V⟩:=Option.bind_eq_some_iff.1 K;obtain⟨_,O,am⟩:=World.cells?_some al;exact⟨vs,_,O,am,V⟩
   have hs:a.spot=none:=by
    have key:∀vs:List Value,vs.length=p.n→(∀j,j<p.n→W.cell? ((a.add (0*p.n)).add j)=vs[j]?)→a.spot=none:=fun vs ag U=>by
     have:=U 0 a5;rw [List.getElem?_eq_getElem (by omega),IL,Nat.zero_mul,IL] at this;exact World.cell?_spot this
    rcases Nat.eq_zero_or_pos len with K | K
    ·obtain⟨al,V⟩:=a0 rfl;have O:=V 0 (by omega);rw [List.getElem?_eq_getElem (by omega)] at O;obtain⟨vs,am,_⟩:=Option.bind_eq_some_iff.1 O;obtain⟨_,ag,U⟩:=World.cells?_some am;rw [K] at U;exact key vs ag U
    ·obtain⟨vs,y,ag,U,_⟩:=a2 0 K;exact key vs ag U
   have a3:∀i:Fin len,∃z:α,∃vs,p.r (Ek W).E vs z∧At (Ek W).E a.block (a.off+i*p.n) vs:=fun i=>by
    obtain⟨vs,y,al,V,O⟩:=a2 i i.2;obtain⟨z,Y⟩:=a6 _ _ _ O;refine⟨z,vs,Y,UL (by omega) fun j ba=>?_⟩;have:=V j (by omega);rw [Dj hs,Dj rfl] at this;exact this
   refine⟨some a,cap,List.ofFn fun i=>Classical.choose (a3 i),by simpa using Z,by simpa using a9,.inr ⟨a.block,a.off,?_,fun i z Y=>?_⟩⟩
   ·obtain⟨b,o,s⟩:=a;simp only at hs;subst hs;rfl
   ·have hi:i<len:=by have:=(List.getElem?_eq_some_iff.1 Y).1;simpa using this
    simp [hi] at Y;have:=Classical.choose_spec (a3 ⟨i,hi⟩);rw [Y] at this;exact this
theorem Qr(h:DataW.trod enc Tryz.prog W 0 (fun _=>true) true fuel 27 cs=some x):∃v:Int×Int,cs= [iV v.1,iV v.2]:=by
 obtain⟨Z,ag,n,_,U,V,Y⟩:=trod_struct2 Tryz.underlying27 h;obtain⟨n1,K,_⟩:=DataW.trod_int Tryz.underlying3 V;obtain⟨n2,O,_⟩:=DataW.trod_int Tryz.underlying3 Y;rw [Tryz.Sg] at U;rw [Pal.Tryz.SN] at K O;refine⟨(n1,n2),?_⟩
 match cs,U with
 | [u,w],_=>simp at K O;rw [K,O]
theorem QF{v:Value}{O:Nat}{d:DataW H}{p:List MemPlace}(U:Value.okWide Tryz.prog W .any O 25 v)(V:DataW.Trod enc Tryz.prog W 0 (fun _=>true) true 25 v d p):
  ∃(a:Option Addr) (c:Nat) (K:List (Int×Int)),v= .slice a K.length c∧Al (rP rI rI) (Ek W).E a c K:=by
 obtain⟨Z,len,cap,rfl⟩:=okWide_slice Tryz.underlying25 U;obtain⟨fuel,Y⟩:=V;obtain⟨a,c,K,e,g⟩:=Zh (p:=rP rI rI) Tryz.underlying25 Tryz.Sg (Nat.zero_lt_two) (fun n cs x h=>by
  obtain⟨v,rfl⟩:=Qr h
  exact⟨v,[iV v.1],[iV v.2],rfl,rfl,rfl⟩) Y
 simp [Value.cells] at e;obtain⟨rfl,rfl,rfl⟩:=e;exact⟨_,_,_,rfl,g⟩
theorem VO{v:Value}{K:Nat}{d:DataW H}{p:List MemPlace}(O:Value.okWide Tryz.prog W .any K 27 v)(U:DataW.Trod enc Tryz.prog W 0 (fun _=>true) true 27 v d p):∃l:Int×Int,v= .agg #[iV l.1,iV l.2]:=by
 obtain⟨cs,rfl,Y⟩:=okWide_struct Tryz.underlying27 O;obtain⟨fuel,V⟩:=U;obtain⟨l,e⟩:=Qr V;simp only [Value.cells] at e;refine⟨l,?_⟩;obtain⟨k⟩:=cs;simp only at e;rw [e]
end
end Pal
namespace Pal
open Go Go.Conc Go.Proofs
open Go.Proofs.Tryz
variable {J:Judge Tryz.prog}{E:LH}
def f69(fuel:Nat)(p0:Bc)(p1:AI):Option Int:= (f113 fuel p0).bind fun K=> if K.isSome=true then((Lm fuel K).bind fun O=> some O) else((f116 fuel p0 p1).bind fun U=> (Lm fuel U).bind fun V=> some V)
def RI(fuel:Nat)(p0:BX)(O:(List Int))(K:Nat×Int):Option (Bh (Nat×Int) Nat):= if K.2<(O.length:Int) then((ix O K.2).bind fun U=> (ix p0.1 U).bind fun V=> (f120 fuel V).bind fun Y=> (Jg K.1 Y).bind fun Z=> (As (K.2+1)).bind fun ag=> some (.more (Z,ag))) else(some (.done K.1))
def f121(fuel:Nat)(p0:BX)(p1:Nat):Option Nat:= (f89 fuel p1).bind fun K=> Option.bind (iter (RI fuel p0 K) fuel (0,0)) fun O=> some O
theorem YQ{k1:Nat}{o2:Nat}{Y:Ao}{Z:Nat}{ag:Ao}{al:Nat}{am:List Value}{p0:BX}{p1:Nat}(a3:At E k1 o2 (([sV Y p0.1 Z,sV ag p0.2.1 al]:List Value)++am))(a4:Al (rL rI) E Y Z p0.1)(bI:Al (rL rI) E ag al p0.2.1)(bJ:(rA 13 (rN .u16)).r E am p0.2.2){fuel:Nat}{r:Nat}(ap:f121 fuel p0 p1=some r):AK J 121 [pV k1 o2,uV p1] E [] (fun w E' B'=>w= uV r∧B'= []):=by
 refine A4 func121 fun Q bK cs H a5 a6=>?_;unfold f121 at ap;obtain⟨av,a7,a8⟩:=bs ap;refine zg 12 rfl (BV (I4 a7) rfl rfl IJ a5 ?_);rintro _ bL _ U ⟨a9,ba,rfl,rfl,bb⟩ bc;refine Bj underlying28 rfl rfl rfl ?_;obtain⟨bd,be,bf⟩:=bs a8;refine zg 2 rfl (CM [] [(5,uV bd)] (fun bM bg bh=>?_) (fun bi=>?_))
 ·refine zg 5 rfl ?_;obtain rfl:=oi bf;exact AD func121 rfl rfl (a6 (U.Ab bg) rfl ⟨rfl,rfl⟩ bh)
 ·refine JL.block (Cu be (fun O=> []) (fun O=> [(0,pV k1 o2),(5,uV O.1),(9,sV a9 av ba),(10,iV (av.length:Int)),(11,iV O.2)]) Ar bc ?_);rintro O bN K a0 bj ⟨bO,V⟩ bl;have a1:=V;unfold RI at a1;refine zg 5 rfl (AL a1 (fun bm bn=>?_) (fun bm bo=>?_))
  ·obtain⟨bP,bp,bq⟩:=bs bn;refine zg 5 rfl (Cf (bb.Ah K) bp underlying28 AX ?_);rintro bQ bR _ rfl br;refine B8 0 br Bx rfl rfl rfl (zg 6 rfl ?_);refine BM underlying141 BI rfl rfl rfl (JL.fl 0 (a3.Ah (U.Ab K)) underlying24 BR Cs ?_);obtain⟨bS,bu,bv⟩:=bs bq;refine zg 1 rfl (Cf (a4.Ah (U.Ab K)) bu underlying22 BZ ?_);rintro bT bU _ ⟨bV,bW,rfl,bw⟩ bx;refine B8 0 bx CZ rfl rfl rfl ?_;obtain⟨bY,bz,bA⟩:=bs bv;refine BF (JZ bw bz) rfl rfl Ji a0 fun bZ bB bC=>?_;obtain⟨a2,bD,bE⟩:=bs bA;refine AF (v:= uV a2) rfl (fun ρ h=>Ky (h _ _ rfl) (h _ _ rfl) bD) ?_;obtain⟨bF,bG,bH⟩:=bs bE;refine zg 4 rfl (Bb bG rfl rfl rfl ?_);refine zg 2 rfl ?_;obtain rfl:=oi bH;exact bl (a2,bF) (K.Ab bB) bC rfl V
  ·refine JL.exit rfl ?_;obtain rfl:=oi bo;obtain rfl:=bj _ V;exact bi K a0 rfl
def f130(fuel:Nat)(p0:Ci):Option Int:= (f89 fuel p0.2.2).bind fun K=> some (K.length:Int)
theorem ZF{K:Ao}{c2:Nat}{p0:Ci}(a0:Al rI E K c2 p0.2.1){fuel:Nat}{r:Int}(O:f130 fuel p0=some r):AK J 130 [.agg #[iV p0.1,sV K p0.2.1 c2,uV p0.2.2]] E [] (fun w E' B'=>w=iV r∧B'= []):=by
 refine A4 func130 fun Q a1 cs H U V=>?_;unfold f130 at O;refine zg 2 rfl (Cb U fun a2 a3 Y Z ag=>?_);refine zg 4 rfl (JL.fl 2 Z underlying104 Em GO ?_);obtain⟨a4,al,am⟩:=bs O;refine BV (I4 al) rfl rfl IJ ag ?_;rintro _ a5 _ ap ⟨a6,a7,rfl,rfl,a8⟩ av;refine Bj underlying28 rfl rfl rfl (zg 2 rfl ?_);obtain rfl:=oi am;exact AD func130 rfl rfl (V (Y.Ab ap) rfl ⟨rfl,rfl⟩ av)
def SC(fuel:Nat)(p0:List Ci)(K:Nat×Int):Option (Bh (Nat×Int) Nat):= if K.2<(p0.length:Int) then((ix p0 K.2).bind fun O=> (f90 fuel K.1 O.1).bind fun U=> (As (K.2+1)).bind fun V=> some (.more (U,V))) else(some (.done K.1))
def f87(fuel:Nat)(p0:List Ci):Option Nat:= Option.bind (iter (SC fuel p0) fuel (0,0)) fun K=> some K
theorem aM{O:Ao}{c2:Nat}{p0:List (Ci)}(al:Al Du E O c2 p0){fuel:Nat}{r:Nat}(Y:f87 fuel p0=some r):AK J 87 [sV O p0 c2] E [] (fun w E' B'=>w= uV r∧B'= []):=by
 refine A4 func87 fun Q br cs H am ap=>?_;unfold f87 at Y;refine zg 12 rfl (Bj underlying95 rfl rfl rfl ?_);obtain⟨av,a0,a1⟩:=bs Y;refine zg 2 rfl (CM [] [(3,uV av)] (fun bu a2 a3=>?_) (fun a4=>?_))
 ·refine zg 5 rfl ?_;obtain rfl:=oi a1;exact AD func87 rfl rfl (ap a2 rfl ⟨rfl,rfl⟩ a3)
 ·refine JL.block (Cu a0 (fun K=> []) (fun K=> [(3,uV K.1),(6,sV O p0 c2),(7,iV (p0.length:Int)),(8,iV K.2)]) Ar am ?_);rintro K bv U Z a5 ⟨bw,V⟩ a6;have ag:=V;unfold SC at ag;refine zg 5 rfl (AL ag (fun a7 a8=>?_) (fun a7 a9=>?_))
  ·obtain⟨bx,ba,bb⟩:=bs a8;refine zg 5 rfl (Cf (al.Ah U) ba underlying95 Ct ?_);rintro bz bA _ ⟨_,_,rfl,rfl,⟨_,_,rfl,⟨bB,bC,rfl,bD⟩,rfl⟩⟩ bc;refine BW bc FV Ct rfl rfl (CO Z GU fun bE bd=>?_);refine BU 0 bd Ct fun be=>?_;refine C6 0 be rfl fun bF bf bg bh=>zg 3 rfl (JL.fl 0 bg underlying104 AX Bx ?_);obtain⟨bi,bj,bl⟩:=bs bb;refine BF (Ny bj) rfl rfl LW bh fun bG bm bn=>?_;obtain⟨bo,bp,bq⟩:=bs bl;refine zg 4 rfl (Bb bp rfl rfl rfl ?_);refine zg 2 rfl ?_;obtain rfl:=oi bq;exact a6 (bi,bo) ((U.Ab bf).Ab bm) bn rfl V
  ·refine JL.exit rfl ?_;obtain rfl:=oi a9;obtain rfl:=a5 _ V;exact a4 U Z rfl
def Sy(fuel:Nat)(p0:BX)(O:Int)(K:Nat×Int):Option (Bh (Nat×Int) Nat):= if K.2<O then((f121 fuel p0 K.1).bind fun U=> (As (K.2+1)).bind fun V=> some (.more (U,V))) else(some (.done K.1))
def f88(fuel:Nat)(p0:BX)(p1:Ci)(p2:Int):Option Nat:= (As ((p1.2.1.length:Int) - 1)).bind fun K=> if p2≤K then((ix p1.2.1 p2).bind fun O=> (f120 fuel ([O]:List Int)).bind fun U=> some U) else((ix p1.2.1 K).bind fun V=> (f120 fuel ([V]:List Int)).bind fun Y=> (As (p2 - K)).bind fun Z=> Option.bind (iter (Sy fuel p0 Z) fuel (Y,0)) fun ag=> some ag)
theorem au{k1:Nat}{o2:Nat}{al:Ao}{am:Nat}{ap:Ao}{av:Nat}{a0:List Value}{a1:Ao}{a2:Nat}{p0:BX}{p1:Ci}{p2:Int}(bb:At E k1 o2 (([sV al p0.1 am,sV ap p0.2.1 av]:List Value)++a0))(bc:Al (rL rI) E al am p0.1)(bd:Al (rL rI) E ap av p0.2.1)(be:(rA 13 (rN .u16)).r E a0 p0.2.2)(a3:Al rI E a1 a2 p1.2.1){fuel:Nat}{r:Nat}(a4:f88 fuel p0 p1 p2=some r):AK J 88 [pV k1 o2,.agg #[iV p1.1,sV a1 p1.2.1 a2,uV p1.2.2],iV p2] E [] (fun w E' B'=>w= uV r∧B'= []):=by
 refine A4 func88 fun Q b8 cs H bf a5=>?_;unfold f88 at a4;refine zg 2 rfl (Cb bf fun b9 ca K Z a6=>?_);refine zg 4 rfl (JL.fl 1 Z underlying104 BZ CZ ?_);refine Bj underlying28 rfl rfl rfl ?_;obtain⟨cb,bg,bh⟩:=bs a4;refine Cg bg rfl rfl rfl (zg 9 rfl ?_);refine AL bh (fun bi bj=>?_) (fun bi bl=>?_)
 ·refine zg 2 rfl (JL.fl 1 Z underlying104 BZ CZ ?_);obtain⟨a7,bm,bn⟩:=bs bj;refine zg 1 rfl (Cf (a3.Ah K) bm underlying28 AX ?_);rintro cc cd _ rfl bo;refine B8 0 bo Bx rfl rfl rfl (DC (pp:=rI) [iV a7] [a7] rfl rfl rfl underlying28 AX CS (by decide) rfl rfl rfl ⟨rfl,trivial⟩ a6 fun ce cf bp bq=>?_);refine BT 2 bp bq rfl fun cg br bu bv=>?_;obtain⟨ci,bw,bx⟩:=bs bn;refine BF (JZ bu bw) rfl rfl Ji bv fun ck bz bA=>zg 2 rfl ?_;obtain rfl:=oi bx;exact AD func88 rfl rfl (a5 ((K.Ab br).Ab bz) rfl ⟨rfl,rfl⟩ bA)
 ·refine zg 3 rfl (JL.fl 1 Z underlying104 BZ CZ ?_);obtain⟨a8,bB,bC⟩:=bs bl;refine zg 1 rfl (Cf (a3.Ah K) bB underlying28 AX ?_);rintro cm cn _ rfl bD;refine B8 0 bD Bx rfl rfl rfl (DC (pp:=rI) [iV a8] [a8] rfl rfl rfl underlying28 AX CS (by decide) rfl rfl rfl ⟨rfl,trivial⟩ a6 fun co cp bE bF=>?_);refine BT 2 bE bF rfl fun cq U bG bH=>?_;obtain⟨cr,bI,bJ⟩:=bs bC;refine BF (JZ bG bI) rfl rfl Ji bH fun ct V bK=>?_;obtain⟨bL,bM,bN⟩:=bs bJ;refine zg 7 rfl (Cg bM rfl rfl rfl ?_);obtain⟨bO,bP,bQ⟩:=bs bN;refine zg 2 rfl (CM [] [(8,uV bO)] (fun cu bR bS=>?_) (fun bT=>?_))
  ·refine zg 5 rfl ?_;obtain rfl:=oi bQ;exact AD func88 rfl rfl (a5 (((K.Ab U).Ab V).Ab bR) rfl ⟨rfl,rfl⟩ bS)
  ·refine JL.block (Cu bP (fun Y=> []) (fun Y=> [(0,pV k1 o2),(8,uV Y.1),(32,iV bL),(33,iV Y.2)]) Ar bK ?_);rintro Y cv O a9 bU ⟨cw,ag⟩ bV;have ba:=ag;unfold Sy at ba;refine zg 5 rfl (AL ba (fun bW bY=>?_) (fun bW bZ=>?_))
   ·obtain⟨b0,b1,b2⟩:=bs bY;refine zg 6 rfl (BF (YQ (bb.Ah (((K.Ab U).Ab V).Ab O)) (bc.Ah (((K.Ab U).Ab V).Ab O)) (bd.Ah (((K.Ab U).Ab V).Ab O)) (Rp.Ah _ (((K.Ab U).Ab V).Ab O) be) b1) rfl rfl (AS func121 rfl) a9 fun cy b3 b4=>?_);obtain⟨b5,b6,b7⟩:=bs b2;refine zg 4 rfl (Bb b6 rfl rfl rfl ?_);refine zg 2 rfl ?_;obtain rfl:=oi b7;exact bV (b0,b5) (O.Ab b3) b4 rfl ag
   ·refine JL.exit rfl ?_;obtain rfl:=oi bZ;obtain rfl:=bU _ ag;exact bT O a9 rfl
end Pal
namespace Pal
open Go Go.Conc Go.Proofs
open Go.Proofs.Tryz
variable {J:Judge Tryz.prog}{E:LH}
def Mn(fuel:Nat)(p0:BX)(O:(List Int))(K:Nat×Int):Option (Bh (Nat×Int) Nat):= if K.2<(O.length:Int) then((ix O K.2).bind fun U=> (ix p0.1 U).bind fun V=> (f120 fuel V).bind fun Y=> (Jg K.1 Y).bind fun Z=> (As (K.2+1)).bind fun ag=> some (.more (Z,ag))) else(some (.done K.1))
def Lg(fuel:Nat)(p0:BX)(p1:Nat):Option (Nat×(BX)):= (f89 fuel p1).bind fun K=> Option.bind (iter (Mn fuel p0 K) fuel (0,0)) fun O=> some (O,p0)
theorem XH{bk:Nat}{K:Ao}{c2:Nat}{O:Ao}{U:Nat}{V:List Value}{p0:BX}{p1:Nat}(av:Al (rL rI) E K c2 p0.1)(a9:Al (rL rI) E O U p0.2.1)(ba:(rA 13 (rN .u16)).r E V p0.2.2){fuel:Nat}{r:Nat×(BX)}(a0:Lg fuel p0 p1=some r):AK J 121 [pV bk 0,uV p1] E [(bk,.cells (([sV K p0.1 c2,sV O p0.2.1 U]:List Value)++V).toArray 141 (0,0))] (fun w E' B'=>∃(a1:Ao) (a2:Nat) (a3:Ao) (a4:Nat) (a5:List Value),w= uV r.1∧B'= [(bk,.cells (([sV a1 r.2.1 a2,sV a3 r.2.2.1 a4]:List Value)++a5).toArray 141 (0,0))]∧Al (rL rI) E' a1 a2 r.2.1∧Al (rL rI) E' a3 a4 r.2.2.1∧(rA 13 (rN .u16)).r E' a5 r.2.2.2):=by
 refine A4 func121 fun Q bN cs H bb bc=>?_;unfold Lg at a0;obtain⟨a6,bd,be⟩:=bs a0;refine zg 12 rfl (BV (I4 bd) rfl rfl IJ bb ?_);rintro _ bO _ Y ⟨bf,bg,rfl,rfl,bh⟩ bi;refine Bj underlying28 rfl rfl rfl ?_;obtain⟨bj,bl,bm⟩:=bs be;refine zg 2 rfl (CM [bX bk (([sV K p0.1 c2,sV O p0.2.1 U]:List Value)++V).toArray 141] [(5,uV bj)] (fun bP Z bn=>?_) (fun bo=>?_))
 ·refine zg 5 rfl ?_;obtain rfl:=oi bm;exact AD func121 rfl rfl (bc (Y.Ab Z) rfl ⟨K,c2,O,U,V,rfl,rfl,(av.Ah (Y.Ab Z)),(a9.Ah (Y.Ab Z)),(Rp.Ah _ (Y.Ab Z) ba)⟩ bn)
 ·refine JL.block (Cu bl (fun ag=> [bX bk (([sV K p0.1 c2,sV O p0.2.1 U]:List Value)++V).toArray 141]) (fun ag=> [(0,pV bk 0),(5,uV ag.1),(9,sV bf a6 bg),(10,iV (a6.length:Int)),(11,iV ag.2)]) Ar bi ?_);rintro ag bQ al am bp ⟨bR,ap⟩ bq;have a7:=ap;unfold Mn at a7;refine zg 5 rfl (AL a7 (fun br bu=>?_) (fun br bv=>?_))
  ·obtain⟨bS,bw,bx⟩:=bs bu;refine zg 5 rfl (Cf (bh.Ah al) bw underlying28 AX ?_);rintro bT bU _ rfl bz;refine B8 0 bz Bx rfl rfl rfl (zg 6 rfl ?_);refine BM underlying141 BI rfl rfl rfl (BM underlying24 BR rfl rfl rfl ?_);refine AF (v:= sV K p0.1 c2) rfl (fun ρ h=>Yl.load Cs (h _ _ rfl) (Wy (o:=0) (l:= [sV K p0.1 c2,sV O p0.2.1 U]) 0 am rfl rfl)) ?_;obtain⟨bV,bA,bB⟩:=bs bx;refine zg 1 rfl (Cf (av.Ah (Y.Ab al)) bA underlying22 BZ ?_);rintro bW bY _ ⟨bZ,b0,rfl,bC⟩ bD;refine B8 0 bD CZ rfl rfl rfl ?_;obtain⟨b1,bE,bF⟩:=bs bB;refine BF (JZ bC bE) rfl rfl Ji am fun b2 bG bH=>?_;obtain⟨a8,bI,bJ⟩:=bs bF;refine AF (v:= uV a8) rfl (fun ρ h=>Ky (h _ _ rfl) (h _ _ rfl) bI) ?_;obtain⟨bK,bL,bM⟩:=bs bJ;refine zg 4 rfl (Bb bL rfl rfl rfl ?_);refine zg 2 rfl ?_;obtain rfl:=oi bM;exact bq (a8,bK) (al.Ab bG) bH rfl ap
  ·refine JL.exit rfl ?_;obtain rfl:=oi bv;obtain rfl:=bp _ ap;exact bo al am rfl
end Pal
namespace Pal
open Go Go.Conc Go.Proofs
open Go.Proofs.Tryz
variable {J:Judge Tryz.prog}{E:LH}
theorem Zq:Tv Tryz.prog 138 .u16:=⟨_,underlying138,by decide+kernel,by decide,underlying102,rfl⟩
def Lb(fuel:Nat)(K:(List (List Int))×(List (List Int))×(List Nat)×(List Nat)×Int):Option (Bh ((List (List Int))×(List (List Int))×(List Nat)×(List Nat)×Int) ((List (List Int))×(List (List Int))×(List Nat)×(List Nat))):= if K.2.2.2.2<12 then((As (K.2.2.2.2+1)).bind fun U=> (ix K.2.2.1 K.2.2.2.2).bind fun V=> (Lg fuel (K.1,K.2.1,K.2.2.1) V).bind fun O=> (ix K.2.2.2.1 U).bind fun Z=> (As (K.2.2.2.2+1)).bind fun Y=> some (.more (O.2.1,O.2.2.1,O.2.2.2,(K.2.2.2.1.set (Int.toNat U) O.1),Y))) else(some (.done (K.1,K.2.1,K.2.2.1,K.2.2.2.1)))
def MW(fuel:Nat)(O:BX):Option (Bh BX (((Option BX))⊕Unit)):= Option.bind (iter (Lb fuel) fuel (O.1,O.2.1,O.2.2,O.2.2,0)) fun K=> if K.2.2.2≠K.2.2.1 then(some (.more (K.1,K.2.1,K.2.2.2))) else(some (.done (Sum.inl (some (K.1,K.2.1,K.2.2.1)))))
def f92(fuel:Nat)(p0:Bc):Option ((Option BX)):= (ix (List.replicate 13 (0:Nat)) (0)).bind fun O=> Option.bind (iter (MW fuel) fuel (p0.1,p0.2,((List.replicate 13 (0:Nat)).set (Int.toNat 0) 1))) fun K=> Sum.elim (fun r=>some r) (fun U=>none) K
theorem Nu{a6:Ao}{c2:Nat}{a7:Ao}{a8:Nat}{p0:Bc}(bZ:Al (rL rI) E a6 c2 p0.1)(b0:Al (rL rI) E a7 a8 p0.2){fuel:Nat}{r:(Option BX)}(bE:f92 fuel p0=some r):AK J 92 [.agg #[sV a6 p0.1 c2,sV a7 p0.2 a8]] E [] (fun w E' B'=>∃(bF:Value),w=bF∧B'= []∧Kg (rP (rL (rL rI)) (rP (rL (rL rI)) (rA 13 (rN .u16)))) E' bF r):=by
 refine A4 func92 fun Q cZ cs H b1 b2=>?_;unfold f92 at bE;refine zg 2 rfl (Cb b1 fun c0 a9 bx b3 b4=>?_);refine zg 5 rfl (BW b3 Ca BI rfl rfl ?_);refine AF (v:= .agg (([sV a6 p0.1 c2,sV a7 p0.2 a8]:List Value)++(List.replicate 13 (uV 0):List Value)).toArray) rfl (fun ρ h=>Dk [(0,2),(2,13)] h (Dy type141) underlying141 ⟨rfl,Bw type24,rfl,Bw type139,trivial⟩ rfl rfl) (JS.box (v:= .agg (([sV a6 p0.1 c2,sV a7 p0.2 a8]:List Value)++(List.replicate 13 (uV 0):List Value)).toArray) rfl rfl rfl b4 rfl fun U b5=>?_);refine zg 6 rfl (BM underlying141 Ga rfl rfl rfl ?_);obtain⟨c1,bz,b6⟩:=bs bE;obtain⟨_,rfl,_,_,c3⟩:=Io (kk:=13) (pp:=(rN .u16)) (J1 (E:=a9) (pp:=(rN .u16)) rfl) bz;refine AF (v:= .pointer (some ⟨U,2+Int.toNat (0)*1,none⟩)) rfl (fun ρ h=>Ju (kk:=13) (pp:=(rN .u16)) (J1 (E:=a9) (pp:=(rN .u16)) rfl) bz underlying139 Ib (h _ _ rfl) (h _ _ rfl)) (BM underlying138 Em rfl rfl rfl ?_);have bo:=OX (us:= [uV 1]) (y:=1) (J1 (E:=a9) (pp:=(rN .u16)) rfl) bz rfl;refine Kq (v:= uV 1) (l:= [sV a6 p0.1 c2,sV a7 p0.2 a8]) (ws:=(List.replicate 13 (uV 0):List Value)) (us:= [uV 1]) (o:=Int.toNat (0)*1) 2 rfl rfl rfl b5 rfl rfl rfl Em (by simp [Value.cells,CP]) rfl bo.2 fun bG=>?_;replace bo:=bo.1;generalize b7:Hv (List.replicate 13 (uV 0):List Value) (Int.toNat (0)*1) [uV 1]=bH at bG ⊢;have b8:(rA 13 (rN .u16)).r a9 bH ((List.replicate 13 (0:Nat)).set (Int.toNat 0) 1):=by rw [← b7];exact bo
 refine zg 2 rfl (JL.label ?_);obtain⟨c4,b9,ca⟩:=bs b6;refine Ix [(3,pV U 0)] rfl (WA b9 (fun L s Z=>∃(V:LH) (bd:Ao) (be:Nat) (bf:Ao) (bg:Nat) (ag:List Value),Jn a9 H V [[(U,.cells (([sV bd Z.1 be,sV bf Z.2.1 bg]:List Value)++ag).toArray 141 (0,0))]] [(3,pV U 0)] L s (Al (rL rI) V bd be Z.1∧Al (rL rI) V bf bg Z.2.1∧(rA 13 (rN .u16)).r V ag Z.2.2)) ⟨a9,a6,c2,a7,a8,bH,rfl,rfl,Ar,bG,(bZ.Ah bx),(b0.Ah bx),b8⟩ ?_);rintro _ _ Z ⟨V,bd,be,bf,bg,ag,rfl,rfl,bI,bJ,cb,cc,a0⟩ cd ⟨c5,bA⟩ ce;have bK:=bA;unfold MW at bK;refine zg 4 rfl (BM underlying141 Ga rfl rfl rfl ?_);refine AF (v:= .agg ag.toArray) rfl (fun ρ h=>KE (kk:=13) (pp:=(rN .u16)) a0 LN Ga (h _ _ rfl) (Mq (l:= [sV bd Z.1 be,sV bf Z.2.1 bg]) 0 bJ rfl)) (CO bJ (Dy type139) fun ba cf=>?_);refine Kq (v:= .agg ag.toArray) (l:= []) (ws:=(List.replicate 13 (uV 0):List Value)) (us:=ag) (o:=0) 1 rfl rfl rfl cf rfl rfl rfl (by rw [Gh (kk:=13) (pp:=(rN .u16)) a0];exact Bw type139) ((rA 13 (rN .u16)).one a0) rfl (by rw [Gh (kk:=13) (pp:=(rN .u16)) a0,Gh (kk:=13) (pp:=(rN .u16)) (J1 (E:=V) (pp:=(rN .u16)) rfl)];omega) fun bL=>?_;rw [Rn (by rw [Gh (kk:=13) (pp:=(rN .u16)) a0,Gh (kk:=13) (pp:=(rN .u16)) (J1 (E:=V) (pp:=(rN .u16)) rfl)])] at bL ⊢;obtain⟨K,cg,ci⟩:=bs bK;refine zg 6 rfl (Bt (fun L s=>∃(a1:LH) (a2:Ao) (a3:Nat) (al:Ao) (am:Nat) (a4:List Value) (ap:List Value),Jn V H a1 [bX U (([sV a2 K.1 a3,sV al K.2.1 am]:List Value)++a4).toArray 141,bX ba (([]:List Value)++ap).toArray 139] [(3,pV U 0),(4,pV ba 0)] L s (Al (rL rI) a1 a2 a3 K.1∧Al (rL rI) a1 al am K.2.1∧(rA 13 (rN .u16)).r a1 a4 K.2.2.1∧(rA 13 (rN .u16)).r a1 ap K.2.2.2)) ?_ ?_)
 ·rintro _ _ ⟨a1,a2,a3,al,am,a4,ap,rfl,rfl,bM,bb,bN,bO,bh,av⟩;refine zg 2 rfl (Dl 5 [ba,U] ⟨⟨1,_,rfl⟩,⟨0,_,rfl⟩,trivial⟩ bb fun ht=>?_);refine By (v:= .agg ap.toArray) 0 ht rfl rfl (fun ρ h s' hs=>KE (kk:=13) (pp:=(rN .u16)) av LN Ga (h _ _ rfl) (Ou (l:= []) 1 bb rfl (by simp [A5]) hs)) (AW ht rfl [1,2] rfl ?_);refine B7 3 ht underlying141 Ga rfl rfl rfl rfl (By (v:= .agg a4.toArray) 4 ht rfl rfl (fun ρ h s' hs=>KE (kk:=13) (pp:=(rN .u16)) bh LN Ga (h _ _ rfl) (Ou (l:= [sV a2 K.1 a3,sV al K.2.1 am]) 0 bb rfl (by simp [A5]) hs)) ?_);refine Cc [5] (AF (v:= .bool (decide (K.2.2.2≠K.2.2.1))) rfl (fun ρ h=>VD underlying139 (by decide+kernel) Zq Ib av bh (h _ _ rfl) (h _ _ rfl)) ?_);refine JL.done (AL ci (fun ck cm=>?_) (fun ck cn=>?_))
  ·refine zg 3 rfl (AF (v:= .agg ap.toArray) rfl (fun ρ h=>KE (kk:=13) (pp:=(rN .u16)) av LN Ga (h _ _ rfl) (Mq (l:= []) 1 bb rfl)) ?_);refine zg 1 rfl (BM underlying141 Ga rfl rfl rfl ?_);refine Kq (v:= .agg ap.toArray) (l:= [sV a2 K.1 a3,sV al K.2.1 am]) (ws:=a4) (us:=ap) (o:=0) 0 rfl rfl rfl bb rfl rfl rfl (by rw [Gh (kk:=13) (pp:=(rN .u16)) av];exact Bw type139) ((rA 13 (rN .u16)).one av) rfl (by rw [Gh (kk:=13) (pp:=(rN .u16)) av,Gh (kk:=13) (pp:=(rN .u16)) bh];omega) fun bP=>?_;rw [Rn (by rw [Gh (kk:=13) (pp:=(rN .u16)) av,Gh (kk:=13) (pp:=(rN .u16)) bh])] at bP ⊢;refine JL.done (JL.goto rfl ?_);refine zg 2 rfl (JS.drop 1 bP rfl fun co=>?_);obtain rfl:=oi cm;exact Az (ce _ _ (K.1,K.2.1,K.2.2.2) ⟨a1,a2,a3,al,am,ap,rfl,rfl,(bI.Ab bM),co,bN,bO,av⟩ bA) rfl
  ·refine zg 6 rfl (C6 0 bb rfl fun c6 bp cp cq=>?_);refine JS.drop 1 cq rfl fun cr=>?_;obtain rfl:=oi cn;obtain rfl:=cd _ bA;have ct:=elim_inl ca;obtain rfl:=oi ct;exact AD func92 rfl rfl (b2 (((bx.Ab bI).Ab bM).Ab bp) rfl ⟨pV U 0,rfl,rfl,⟨_,_,_,rfl,cp,⟨[sV a2 K.1 a3],(([sV al K.2.1 am]:List Value)++a4),rfl,⟨_,_,rfl,(bN.Ah bp)⟩,⟨[sV al K.2.1 am],a4,rfl,⟨_,_,rfl,(bO.Ah bp)⟩,(Rp.Ah _ bp bh)⟩⟩⟩⟩ cr)
 ·intro cu;refine JL.block (CN cg (fun L s O=>∃(a5:LH) (bi:Ao) (bj:Nat) (bl:Ao) (bm:Nat) (bq:List Value) (bc:List Value),Jn V H a5 [bX U (([sV bi O.1 bj,sV bl O.2.1 bm]:List Value)++bq).toArray 141,bX ba (([]:List Value)++bc).toArray 139] [(3,pV U 0),(4,pV ba 0),(18,iV O.2.2.2.2)] L s (Al (rL rI) a5 bi bj O.1∧Al (rL rI) a5 bl bm O.2.1∧(rA 13 (rN .u16)).r a5 bq O.2.2.1∧(rA 13 (rN .u16)).r a5 bc O.2.2.2.1)) ⟨V,bd,be,bf,bg,ag,ag,rfl,rfl,Ar,bL,cb,cc,a0,a0⟩ ?_);rintro _ _ O ⟨a5,bi,bj,bl,bm,bq,bc,rfl,rfl,bQ,bB,bR,bS,br,bu⟩ cv ⟨c7,bC⟩ cw;have bT:=bC;unfold Lb at bT;refine zg 5 rfl (AL bT (fun cy cz=>?_) (fun cy cA=>?_))
  ·obtain⟨bn,cB,cC⟩:=bs cz;refine zg 10 rfl (Bb cB rfl rfl rfl ?_);refine zg 4 rfl (BM underlying141 Ga rfl rfl rfl ?_);obtain⟨cD,bU,cE⟩:=bs cC;obtain⟨_,rfl,_,_,cF⟩:=Io (kk:=13) (pp:=(rN .u16)) br bU;refine AF (v:= .pointer (some ⟨U,2+Int.toNat (O.2.2.2.2)*1,none⟩)) rfl (fun ρ h=>Ju (kk:=13) (pp:=(rN .u16)) br bU underlying139 Ib (h _ _ rfl) (h _ _ rfl)) (BM underlying138 Em rfl rfl rfl ?_);refine AF (v:= uV cD) rfl (fun ρ h=>Yl.load GO (h _ _ rfl) (Vn (l:= [sV bi O.1 bj,sV bl O.2.1 bm]) 0 bB rfl (cF 0 _ rfl))) ?_;obtain⟨Y,cG,cH⟩:=bs cE;refine B6 0 (XH bR bS br cG) rfl rfl (AS func121 rfl) bB rfl ?_;rintro _ bV _ bv ⟨cI,cJ,cK,cM,Kc,rfl,rfl,cN,cO,cP⟩ cQ;obtain⟨c8,bD,cR⟩:=bs cH;obtain⟨_,rfl,_,_,c9⟩:=Io (kk:=13) (pp:=(rN .u16)) (Rp.Ah _ bv bu) bD;refine AF (v:= .pointer (some ⟨ba,0+Int.toNat (bn)*1,none⟩)) rfl (fun ρ h=>Ju (kk:=13) (pp:=(rN .u16)) (Rp.Ah _ bv bu) bD underlying139 Ib (h _ _ rfl) (h _ _ rfl)) (BM underlying138 Em rfl rfl rfl ?_);have bw:=OX (us:= [uV Y.1]) (y:=Y.1) (Rp.Ah _ bv bu) bD rfl;refine Kq (v:= uV Y.1) (l:= []) (ws:=bc) (us:= [uV Y.1]) (o:=Int.toNat (bn)*1) 1 rfl rfl rfl cQ rfl rfl rfl Em (by simp [Value.cells,CP]) rfl bw.2 fun bW=>?_;replace bw:=bw.1;generalize cT:Hv bc (Int.toNat (bn)*1) [uV Y.1]=bY at bW ⊢;have cV:(rA 13 (rN .u16)).r bV bY (O.2.2.2.1.set (Int.toNat bn) Y.1):=by rw [← cT];exact bw
   obtain⟨cW,cX,cY⟩:=bs cR;refine zg 3 rfl (Bb cX rfl rfl rfl ?_);refine zg 2 rfl ?_;obtain rfl:=oi cY;exact Az (cw _ _ (Y.2.1,Y.2.2.1,Y.2.2.2,(O.2.2.2.1.set (Int.toNat bn) Y.1),cW) ⟨bV,cI,cJ,cK,cM,Kc,bY,rfl,rfl,(bQ.Ab bv),bW,cN,cO,cP,cV⟩ bC) rfl
  ·refine JL.exit rfl ?_;obtain rfl:=oi cA;obtain rfl:=cv _ bC;exact Az (cu _ _ ⟨a5,bi,bj,bl,bm,bq,bc,rfl,rfl,bQ,bB,bR,bS,br,bu⟩) rfl
end Pal
namespace Pal
open Go Go.Conc Go.Proofs
open Go.Proofs.Tryz
variable {J:Judge Tryz.prog}{E:LH}
def R5(fuel:Nat)(p0:BX)(O:Nat)(U:(List Int))(K:Int):Option (Bh Int ((Bool)⊕(Unit))):= if K<(U.length:Int) then((ix U K).bind fun V=> (f103 fuel O V).bind fun Y=> Option.bind (if Y=true then(some true) else((ix p0.2.1 V).bind fun Z=> (f120 fuel Z).bind fun ag=> (J8 O ag).bind fun al=> some (decide ((((al):Nat):Int)≠(((0):Nat):Int))))) fun am=> if am=true then(some (.done (Sum.inl true))) else((As (K+1)).bind fun ap=> some (.more ap))) else(some (.done (Sum.inr ())))
def f109(fuel:Nat)(p0:BX)(p1:Int)(p2:Int):Option Bool:= (ix p0.2.2 p2).bind fun K=> (ix p0.2.2 p1).bind fun O=> (f89 fuel O).bind fun U=> Option.bind (iter (R5 fuel p0 K U) fuel 0) fun V=> Sum.elim (fun r=>some r) (fun Y=> some false) V
theorem ZZ{k1:Nat}{o2:Nat}{O:Ao}{U:Nat}{V:Ao}{Y:Nat}{a0:List Value}{p0:BX}{p1:Int}{p2:Int}(av:At E k1 o2 (([sV O p0.1 U,sV V p0.2.1 Y]:List Value)++a0))(ci:Al (rL rI) E O U p0.1)(bl:Al (rL rI) E V Y p0.2.1)(a1:(rA 13 (rN .u16)).r E a0 p0.2.2){fuel:Nat}{r:Bool}(a2:f109 fuel p0 p1 p2=some r):AK J 109 [pV k1 o2,iV p1,iV p2] E [] (fun w E' B'=>w= .bool r∧B'= []):=by
 refine A4 func109 fun Q ck cs H bm a3=>?_;unfold f109 at a2;refine zg 9 rfl (BM underlying141 Ga rfl rfl rfl ?_);obtain⟨a4,bn,bo⟩:=bs a2;refine OB (l:= [sV O p0.1 U,sV V p0.2.1 Y]) av a1 bn rfl rfl rfl rfl rfl underlying139 Ib ?_;rintro cm _ rfl bp;refine JL.fl 0 bp underlying138 Em GO ?_;refine zg 8 rfl (BM underlying141 Ga rfl rfl rfl ?_);obtain⟨cn,bq,br⟩:=bs bo;refine OB (l:= [sV O p0.1 U,sV V p0.2.1 Y]) av a1 bq rfl rfl rfl rfl rfl underlying139 Ib ?_;rintro co _ rfl bu;refine JL.fl 0 bu underlying138 Em GO ?_;obtain⟨Z,bv,bw⟩:=bs br;refine BV (I4 bv) rfl rfl IJ bm ?_;rintro _ bx _ ag ⟨a5,a6,rfl,rfl,bz⟩ bA;refine Bj underlying28 rfl rfl rfl ?_;obtain⟨a7,bB,a8⟩:=bs bw;refine zg 2 rfl (Bt (fun L s=>∃(a9:Unit) (ba:LH),a7=Sum.inr a9∧Jm bx H ba [] [] L s) ?_ ?_)
 ·rintro _ _ ⟨a9,ba,rfl,rfl,rfl,bC,bD⟩;have bE:=elim_inr a8;refine zg 4 rfl ?_;obtain rfl:=oi bE;exact AD func109 rfl rfl (a3 (ag.Ab bC) rfl ⟨rfl,rfl⟩ bD)
 ·intro bF;refine JL.block (Cu bB (fun al=> []) (fun al=> [(0,pV k1 o2),(7,uV a4),(24,sV a5 Z a6),(25,iV (Z.length:Int)),(26,iV al)]) Ar bA ?_);rintro al bG K bb bc ⟨cp,am⟩ bH;have bd:=am;unfold R5 at bd;refine zg 5 rfl (AL bd (fun bI bJ=>?_) (fun bI bK=>?_))
  ·obtain⟨cq,bL,bM⟩:=bs bJ;refine zg 5 rfl (Cf (bz.Ah K) bL underlying28 AX ?_);rintro cr ct _ rfl bN;refine B8 0 bN Bx rfl rfl rfl ?_;obtain⟨cu,bO,bP⟩:=bs bM;refine zg 6 rfl (BF (O8 bO) rfl rfl NV bb fun be ap bf=>?_);obtain⟨bQ,bR,bS⟩:=bs bP;refine zg 1 rfl (ER [] (fun L s=>∃(bg:LH),Jm be H bg [] [(0,pV k1 o2),(7,uV a4),(24,sV a5 Z a6),(25,iV (Z.length:Int)),(26,iV al),(46,.bool bQ)] L s) ?_ ?_)
   ·rintro _ _ ⟨bg,rfl,rfl,bh,bi⟩;refine JL.done (BJ bS (fun bT bU=>?_) (fun bT bV=>?_))
    ·refine zg 4 rfl ?_;obtain rfl:=oi bU;obtain rfl:=bc _ am;have bW:=elim_inl a8;obtain rfl:=oi bW;exact AD func109 rfl rfl (a3 (((ag.Ab K).Ab ap).Ab bh) rfl ⟨rfl,rfl⟩ bi)
    ·obtain⟨bY,bZ,b0⟩:=bs bV;refine zg 3 rfl (Bb bZ rfl rfl rfl ?_);refine zg 2 rfl ?_;obtain rfl:=oi b0;exact bH bY ((K.Ab ap).Ab bh) bi rfl am
   ·intro bj;refine DU 33 bR (fun b1 b2=>?_) (fun b1 b3=>?_)
    ·refine zg 13 rfl ?_;obtain rfl:=oi b2;exact Az (bj _ _ ⟨be,rfl,rfl,Ar,bf⟩) rfl
    ·refine zg 3 rfl (BM underlying141 BI rfl rfl rfl ?_);refine JL.fl 1 (av.Ah ((ag.Ab K).Ab ap)) underlying24 BR Cs ?_;obtain⟨cv,b4,b5⟩:=bs b3;refine zg 1 rfl (Cf (bl.Ah ((ag.Ab K).Ab ap)) b4 underlying22 BZ ?_);rintro cw cy _ ⟨cz,cA,rfl,b6⟩ b7;refine B8 0 b7 CZ rfl rfl rfl ?_;obtain⟨cB,b8,b9⟩:=bs b5;refine BF (JZ b6 b8) rfl rfl Ji bf fun ca cb cc=>?_;obtain⟨cd,ce,cf⟩:=bs b9;refine AF (v:= uV cd) rfl (fun ρ h=>Oj (h _ _ rfl) (h _ _ rfl) ce) (zg 2 rfl ?_);obtain rfl:=oi cf;exact Az (bj _ _ ⟨ca,rfl,rfl,cb,cc⟩) rfl
  ·refine JL.exit rfl ?_;obtain rfl:=oi bK;have cg:a7=(Sum.inr ()):=(bc _ am).symm;exact Az (bF _ _ ⟨(),bG,cg,rfl,rfl,K,bb⟩) rfl
end Pal
namespace Pal
open Go Go.Conc Go.Proofs
open Go.Proofs.Tryz
variable {J:Judge Tryz.prog}{E:LH}
def MG(fuel:Nat)(p0:List Int)(p1:Int)(K:Int):Option (Bh Int ((Int)⊕(Unit))):= if K<(p0.length:Int) then((ix p0 K).bind fun O=> if p1=O then(some (.done (Sum.inl K))) else((As (K+1)).bind fun U=> some (.more U))) else(some (.done (Sum.inr ())))
def f201(fuel:Nat)(p0:List Int)(p1:Int):Option Int:= Option.bind (iter (MG fuel p0 p1) fuel 0) fun K=> Sum.elim (fun r=>some r) (fun O=> some (-1)) K
theorem Zd{U:Ao}{c2:Nat}{p0:List Int}{p1:Int}(a2:Al rI E U c2 p0){fuel:Nat}{r:Int}(Z:f201 fuel p0 p1=some r):AK J 201 [sV U p0 c2,iV p1] E [] (fun w E' B'=>w=iV r∧B'= []):=by
 refine A4 func201 fun Q bq cs H a3 ag=>?_;unfold f201 at Z;refine zg 8 rfl (Bj underlying28 rfl rfl rfl ?_);obtain⟨al,a4,am⟩:=bs Z;refine zg 2 rfl (Bt (fun L s=>∃(ap:Unit) (av:LH),al=Sum.inr ap∧Jm E H av [] [] L s) ?_ ?_)
 ·rintro _ _ ⟨ap,av,rfl,rfl,rfl,a5,a6⟩;have a7:=elim_inr am;refine zg 4 rfl ?_;obtain rfl:=oi a7;exact AD func201 rfl rfl (ag a5 rfl ⟨rfl,rfl⟩ a6)
 ·intro a8;refine JL.block (Cu a4 (fun V=> []) (fun V=> [(0,sV U p0 c2),(1,iV p1),(7,iV (p0.length:Int)),(8,iV V)]) Ar a3 ?_);rintro V a9 K Y a0 ⟨br,O⟩ ba;have a1:=O;unfold MG at a1;refine zg 5 rfl (AL a1 (fun bb bc=>?_) (fun bb bd=>?_))
  ·obtain⟨bu,be,bf⟩:=bs bc;refine zg 13 rfl (Cf (a2.Ah K) be underlying28 AX ?_);rintro bv bw _ rfl bg;refine B8 0 bg Bx rfl rfl rfl (zg 2 rfl ?_);refine AL bf (fun bh bi=>?_) (fun bh bj=>?_)
   ·refine zg 5 rfl ?_;obtain rfl:=oi bi;obtain rfl:=a0 _ O;have bl:=elim_inl am;obtain rfl:=oi bl;exact AD func201 rfl rfl (ag K rfl ⟨rfl,rfl⟩ Y)
   ·obtain⟨bm,bn,bo⟩:=bs bj;refine zg 3 rfl (Bb bn rfl rfl rfl ?_);refine zg 2 rfl ?_;obtain rfl:=oi bo;exact ba bm K Y rfl O
  ·refine JL.exit rfl ?_;obtain rfl:=oi bd;have bp:al=(Sum.inr ()):=(a0 _ O).symm;exact Az (a8 _ _ ⟨(),a9,bp,rfl,rfl,K,Y⟩) rfl
def f199(fuel:Nat)(p0:List Int)(p1:Int):Option Bool:= (f201 fuel p0 p1).bind fun K=> some (decide (0≤K))
theorem YW{K:Ao}{c2:Nat}{p0:List Int}{p1:Int}(U:Al rI E K c2 p0){fuel:Nat}{r:Bool}(O:f199 fuel p0 p1=some r):AK J 199 [sV K p0 c2,iV p1] E [] (fun w E' B'=>w= .bool r∧B'= []):=by
 refine A4 func199 fun Q ap cs H V Y=>?_;unfold f199 at O;obtain⟨av,Z,ag⟩:=bs O;refine zg 8 rfl (BF (Zd U Z) rfl rfl (AS func201 rfl) V fun a0 al am=>?_);refine zg 3 rfl ?_;obtain rfl:=oi ag;exact AD func199 rfl rfl (Y al rfl ⟨rfl,rfl⟩ am)
def f192(fuel:Nat)(p0:BX)(p1:Int)(p2:Int):Option ((Option (Int×Option Int))):= if p1=p2 then(some (some (p1,none))) else((ix p0.2.1 p1).bind fun K=> (f199 fuel K p2).bind fun O=> if O=true then(some (some (p1,some p2))) else(some none))
theorem Z8{k1:Nat}{o2:Nat}{O:Ao}{U:Nat}{V:Ao}{Y:Nat}{Z:List Value}{p0:BX}{p1:Int}{p2:Int}(a0:At E k1 o2 (([sV O p0.1 U,sV V p0.2.1 Y]:List Value)++Z))(be:Al (rL rI) E O U p0.1)(a1:Al (rL rI) E V Y p0.2.1)(bf:(rA 13 (rN .u16)).r E Z p0.2.2){fuel:Nat}{r:(Option (Int×Option Int))}(ag:f192 fuel p0 p1 p2=some r):AK J 192 [pV k1 o2,iV p1,iV p2] E [] (fun w E' B'=>∃(al:Value),w=al∧B'= []∧PI 257 259 al r):=by
 refine A4 func192 fun Q bg cs H am K=>?_;unfold f192 at ag;refine zg 13 rfl (AL ag (fun a2 a3=>?_) (fun a2 a4=>?_))
 ·refine zg 3 rfl (AF (v:= .agg #[iV p1]) rfl (fun ρ h=>Dk [(0,1)] h (Dy type257) underlying257 ⟨rfl,Bw type3,trivial⟩ rfl rfl) ?_);refine AF (v:= .iface 257 (.agg #[iV p1])) rfl (fun ρ h=>EZ underlying257 (fun _ h=>by cases h) (h _ _ rfl)) (zg 2 rfl ?_);obtain rfl:=oi a3;exact AD func192 rfl rfl (K Ar rfl ⟨.iface 257 (.agg #[iV p1]),rfl,rfl,rfl⟩ am)
 ·refine zg 4 rfl (BM underlying141 BI rfl rfl rfl ?_);refine JL.fl 1 a0 underlying24 BR Cs ?_;obtain⟨bh,a5,a6⟩:=bs a4;refine zg 1 rfl (Cf a1 a5 underlying22 BZ ?_);rintro bi bj _ ⟨bl,bm,rfl,a7⟩ a8;refine B8 0 a8 CZ rfl rfl rfl ?_;obtain⟨bn,a9,ba⟩:=bs a6;refine zg 1 rfl (BF (YW a7 a9) rfl rfl (AS func199 rfl) am fun bo ap av=>?_);refine zg 2 rfl (BJ ba (fun bb bc=>?_) (fun bb bd=>?_))
  ·refine zg 4 rfl (AF (v:= .agg #[iV p1,iV p2]) rfl (fun ρ h=>Dk [(0,1),(1,1)] h (Dy type259) underlying259 ⟨rfl,Bw type3,rfl,Bw type3,trivial⟩ rfl rfl) ?_);refine AF (v:= .iface 259 (.agg #[iV p1,iV p2])) rfl (fun ρ h=>EZ underlying259 (fun _ h=>by cases h) (h _ _ rfl)) (zg 2 rfl ?_);obtain rfl:=oi bc;exact AD func192 rfl rfl (K ap rfl ⟨.iface 259 (.agg #[iV p1,iV p2]),rfl,rfl,rfl⟩ av)
  ·refine zg 6 rfl ?_;obtain rfl:=oi bd;exact AD func192 rfl rfl (K ap rfl ⟨.nilIface,rfl,rfl,rfl⟩ av)
end Pal
namespace Pal
open Go Go.Conc Go.Proofs
open Go.Proofs.Tryz
variable {J:Judge Tryz.prog}{E:LH}
def Lf(fuel:Nat)(p0:(BX)×(AI)×Ci):Option Int:= if(p0.2.1.length:Int)=0 then(some 0) else((As ((p0.2.1.length:Int) - 1)).bind fun K=> (ix p0.2.1 K).bind fun O=> some O.1)
theorem XP{bk:Nat}{k1:Nat}{o2:Nat}{Z:Ao}{ag:Nat}{al:Ao}{am:Nat}{ap:List Value}{O:Ao}{U:Nat}{V:Ao}{Y:Nat}{p0:(BX)×(AI)×Ci}(ba:At E k1 o2 (([sV Z p0.1.1 ag,sV al p0.1.2.1 am]:List Value)++ap))(bb:Al (rL rI) E Z ag p0.1.1)(bc:Al (rL rI) E al am p0.1.2.1)(bd:(rA 13 (rN .u16)).r E ap p0.1.2.2)(a1:Al A9 E O U p0.2.1)(be:Al rI E V Y p0.2.2.2.1){fuel:Nat}{r:Int}(av:Lf fuel p0=some r):AK J 154 [pV bk 0] E [(bk,.cells #[pV k1 o2,sV O p0.2.1 U,iV p0.2.2.1,sV V p0.2.2.2.1 Y,uV p0.2.2.2.2] 175 (0,0))] (fun w E' B'=>w=iV r∧B'= [(bk,.cells #[pV k1 o2,sV O p0.2.1 U,iV p0.2.2.1,sV V p0.2.2.2.1 Y,uV p0.2.2.2.2] 175 (0,0))]):=by
 refine A4 func154 fun Q bf cs H K a0=>?_;unfold Lf at av;refine zg 9 rfl (BM underlying175 Gt rfl rfl rfl ?_);refine AF (v:= sV O p0.2.1 U) rfl (fun ρ h=>Yl.load GQ (h _ _ rfl) (DY (j:=0) (off:=1) K rfl rfl)) (Bj underlying25 rfl rfl rfl ?_);refine zg 2 rfl (AL av (fun a2 a3=>?_) (fun a2 a4=>?_))
 ·refine zg 4 rfl ?_;obtain rfl:=oi a3;exact AD func154 rfl rfl (a0 Ar rfl ⟨rfl,rfl⟩ K)
 ·refine zg 2 rfl (Dl 10 [bk] ⟨⟨0,_,rfl⟩,trivial⟩ K fun ht=>?_);refine AW ht rfl [0,1] rfl (B7 2 ht underlying175 Gt rfl rfl rfl rfl ?_);refine Ff 3 ht 1 0 K GQ ?_;refine AW ht rfl [4,5] rfl (B7 6 ht underlying175 Gt rfl rfl rfl rfl ?_);refine Ff 7 ht 1 0 K GQ ?_;refine By 8 ht rfl rfl (fun ρ h s' hs=>Yl.len rfl underlying25 (h _ _ rfl)) ?_;obtain⟨bg,a5,a6⟩:=bs a4;refine By 9 ht rfl rfl (fun ρ h s' hs=>C9 (h _ _ rfl) (h _ _ rfl) a5) (Cc [10,11,12,13] ?_);obtain⟨bh,a7,a8⟩:=bs a6;refine Cf a1 a7 underlying25 BD ?_;rintro bi bj _ ⟨_,_,rfl,rfl,rfl⟩ a9;refine JL.fl 0 a9 underlying27 AX Bx ?_;refine zg 2 rfl ?_;obtain rfl:=oi a8;exact AD func154 rfl rfl (a0 Ar rfl ⟨rfl,rfl⟩ K)
def Mo(fuel:Nat)(p0:(BX)×(AI)×Ci)(p1:Int)(p2:Int)(K:Nat×Int):Option (Bh (Nat×Int) ((Nat×Bool)⊕(Nat))):= if K.2<(p0.2.1.length:Int) then(Option.bind ((ix p0.2.1 K.2).bind fun O=> if O.1≠p1 then(some (Sum.inr K.1)) else((f192 fuel p0.1 p2 O.2).bind fun U=> Option.bind (if Kb U=true then(some (Sum.inr K.1)) else(if Lz U=true then((f90 fuel K.1 K.2).bind fun V=> some (Sum.inr V)) else(some (Sum.inl (0,false))))) fun Y=>Sum.elim (fun r=>some (Sum.inl r)) (fun Z=> some (Sum.inr Z)) Y)) fun ag=>Sum.elim (fun r=>some (.done (Sum.inl r))) (fun al=> (As (K.2+1)).bind fun am=> some (.more (al,am))) ag) else(some (.done (Sum.inr K.1)))
def Lj(fuel:Nat)(p0:(BX)×(AI)×Ci)(p1:Int)(p2:Int):Option (Nat×Bool):= Option.bind (iter (Mo fuel p0 p1 p2) fuel (0,0)) fun K=> Sum.elim (fun r=>some r) (fun O=> some (O,true)) K
theorem XD{bk:Nat}{k1:Nat}{o2:Nat}{a4:Ao}{a5:Nat}{a6:Ao}{a7:Nat}{a8:List Value}{K:Ao}{O:Nat}{Y:Ao}{Z:Nat}{p0:(BX)×(AI)×Ci}{p1:Int}{p2:Int}(bv:At E k1 o2 (([sV a4 p0.1.1 a5,sV a6 p0.1.2.1 a7]:List Value)++a8))(bw:Al (rL rI) E a4 a5 p0.1.1)(bx:Al (rL rI) E a6 a7 p0.1.2.1)(bz:(rA 13 (rN .u16)).r E a8 p0.1.2.2)(bA:Al A9 E K O p0.2.1)(ct:Al rI E Y Z p0.2.2.2.1){fuel:Nat}{r:Nat×Bool}(a9:Lj fuel p0 p1 p2=some r):AK J 174 [pV bk 0,iV p1,iV p2] E [(bk,.cells #[pV k1 o2,sV K p0.2.1 O,iV p0.2.2.1,sV Y p0.2.2.2.1 Z,uV p0.2.2.2.2] 175 (0,0))] (fun w E' B'=>w= .tuple #[uV r.1,.bool r.2]∧B'= [(bk,.cells #[pV k1 o2,sV K p0.2.1 O,iV p0.2.2.1,sV Y p0.2.2.2.1 Z,uV p0.2.2.2.2] 175 (0,0))]):=by
 refine A4 func174 fun Q cu cs H ba bb=>?_;unfold Lj at a9;refine zg 11 rfl (JL.label ?_);refine zg 5 rfl (BM underlying175 Gt rfl rfl rfl ?_);refine AF (v:= sV K p0.2.1 O) rfl (fun ρ h=>Yl.load GQ (h _ _ rfl) (DY (j:=0) (off:=1) ba rfl rfl)) (Bj underlying25 rfl rfl rfl ?_);obtain⟨bc,bB,bd⟩:=bs a9;refine zg 2 rfl (Bt (fun L s=>∃(a1:Nat) (be:LH),bc=Sum.inr a1∧Jm E H be [bX bk #[pV k1 o2,sV K p0.2.1 O,iV p0.2.2.1,sV Y p0.2.2.2.1 Z,uV p0.2.2.2.2] 175] [(8,uV a1)] L s) ?_ ?_)
 ·rintro _ _ ⟨a1,be,rfl,rfl,rfl,bC,bD⟩;have bE:=elim_inr bd;refine zg 6 rfl ?_;obtain rfl:=oi bE;exact AD func174 rfl rfl (bb bC rfl ⟨rfl,rfl⟩ bD)
 ·intro bF;refine JL.block (Cu bB (fun U=> [bX bk #[pV k1 o2,sV K p0.2.1 O,iV p0.2.2.1,sV Y p0.2.2.2.1 Z,uV p0.2.2.2.2] 175]) (fun U=> [(0,pV bk 0),(1,iV p1),(2,iV p2),(8,uV U.1),(14,sV K p0.2.1 O),(15,iV (p0.2.1.length:Int)),(16,iV U.2)]) Ar ba ?_);rintro U bf V bg bh ⟨cv,am⟩ bG;have bi:=am;unfold Mo at bi;refine zg 5 rfl (AL bi (fun bH bI=>?_) (fun bH bJ=>?_))
  ·obtain⟨bK,bL,bj⟩:=bs bI;refine zg 2 rfl (Bt (fun L s=>∃(ap:Nat) (bl:LH),bK=Sum.inr ap∧Jm bf H bl [bX bk #[pV k1 o2,sV K p0.2.1 O,iV p0.2.2.1,sV Y p0.2.2.2.1 Z,uV p0.2.2.2.2] 175] [(0,pV bk 0),(1,iV p1),(2,iV p2),(8,uV ap),(14,sV K p0.2.1 O),(15,iV (p0.2.1.length:Int)),(16,iV U.2)] L s) ?_ ?_)
   ·rintro _ _ ⟨ap,bl,rfl,rfl,rfl,bM,bN⟩;have bO:=elim_inr bj;obtain⟨bP,bQ,bR⟩:=bs bO;refine JL.region (Bb bQ rfl rfl rfl ?_);refine zg 2 rfl ?_;obtain rfl:=oi bR;exact bG (ap,bP) (V.Ab bM) bN rfl am
   ·intro bm;obtain⟨cw,bS,bT⟩:=bs bL;refine zg 4 rfl (Cf (bA.Ah V) bS underlying25 BD ?_);rintro cy cz _ ⟨_,_,rfl,rfl,rfl⟩ bU;refine BW bU FI BD rfl rfl (CO bg C8 fun cA bV=>?_);refine zg 1 rfl (BU 1 bV BD fun bW=>?_);refine C6 1 bW rfl fun bY ag bn al=>zg 4 rfl (JL.fl 0 bn underlying27 AX Bx ?_);refine zg 3 rfl (AL bT (fun bZ b0=>?_) (fun bZ b1=>?_))
    ·exact JL.exit rfl (Az (bm _ _ ⟨U.1,bY,(Option.some.inj b0).symm,rfl,rfl,ag,al⟩) rfl)
    ·refine zg 2 rfl (Dl 7 [bk] ⟨⟨0,_,rfl⟩,trivial⟩ al fun ht=>?_);refine AW ht rfl [0,1] rfl (B7 2 ht underlying175 N3 rfl rfl rfl rfl ?_);refine Ff 3 ht 0 0 al LQ ?_;refine B4 4 ht rfl rfl (B7 5 ht underlying27 AX rfl rfl rfl rfl ?_);refine JG.lp 6 ht 1 bn al ⟨⟨0,_,rfl⟩,trivial⟩ Bx ?_;refine Cc [7] ?_;obtain⟨av,b2,b3⟩:=bs b1;refine BV (Z8 (bv.Ah (V.Ab ag)) (bw.Ah (V.Ab ag)) (bx.Ah (V.Ab ag)) (Rp.Ah _ (V.Ab ag) bz) b2) rfl rfl (AS func192 rfl) al ?_;rintro _ bo _ bp ⟨cB,rfl,rfl,bq⟩ a2;refine zg 4 rfl (AF (v:= .tuple #[(PO av),.bool (Kb av)]) rfl (fun ρ h=>UD (t2:=259) underlying257 (Dy type257) (by decide) bq (h _ _ rfl)) ?_);obtain⟨b4,b5,br⟩:=bs b3;refine zg 3 rfl (Bt (fun L s=>∃(a0:Nat) (a3:LH),b4=Sum.inr a0∧Jm bo H a3 [bX bk #[pV k1 o2,sV K p0.2.1 O,iV p0.2.2.1,sV Y p0.2.2.2.1 Z,uV p0.2.2.2.2] 175] [(0,pV bk 0),(1,iV p1),(2,iV p2),(8,uV a0),(14,sV K p0.2.1 O),(15,iV (p0.2.1.length:Int)),(16,iV U.2)] L s) ?_ ?_)
     ·rintro _ _ ⟨a0,a3,rfl,rfl,rfl,b6,b7⟩;have b8:=elim_inr br;exact zg 2 rfl (Az (bm _ _ ⟨a0,a3,(Option.some.inj b8).symm,rfl,rfl,((ag.Ab bp).Ab b6),b7⟩) rfl)
     ·intro bu;refine BJ b5 (fun b9 ca=>?_) (fun b9 cb=>?_)
      ·exact JL.skip (Az (bu _ _ ⟨U.1,bo,(Option.some.inj ca).symm,rfl,rfl,Ar,a2⟩) rfl)
      ·refine zg 2 rfl (AF (v:= .tuple #[(PL av),.bool (Lz av)]) rfl (fun ρ h=>UI (t1:=257) underlying259 (Dy type259) (by decide) bq (h _ _ rfl)) ?_);refine zg 3 rfl (BJ cb (fun cc cd=>?_) (fun cc ce=>?_))
       ·obtain⟨cf,cg,ci⟩:=bs cd;refine zg 3 rfl (BF (Ny cg) rfl rfl LW a2 fun ck cm cn=>?_);exact zg 2 rfl (Az (bu _ _ ⟨cf,ck,(Option.some.inj ci).symm,rfl,rfl,cm,cn⟩) rfl)
       ·refine zg 5 rfl ?_;obtain rfl:=oi ce;have co:=elim_inl br;obtain rfl:=oi co;have cp:=elim_inl bj;obtain rfl:=oi cp;obtain rfl:=bh _ am;have cq:=elim_inl bd;obtain rfl:=oi cq;exact AD func174 rfl rfl (bb ((V.Ab ag).Ab bp) rfl ⟨rfl,rfl⟩ a2)
  ·refine JL.exit rfl ?_;obtain rfl:=oi bJ;have cr:bc=(Sum.inr U.1):=(bh _ am).symm;exact Az (bF _ _ ⟨U.1,bf,cr,rfl,rfl,V,bg⟩) rfl
end Pal
namespace Pal
open Go Go.Conc Go.Proofs
open Go.Proofs.Tryz
variable {J:Judge Tryz.prog}{E:LH}
def Lo(fuel:Nat)(p0:List Int):Option ((List Int)):= (CF ([]:List Int) p0).bind fun K=> some K
theorem Yi{ad:Addr}{c2:Nat}{p0:List Int}(V:Al rI E (some ad) c2 p0){fuel:Nat}{r:(List Int)}(K:Lo fuel p0=some r):AK J 175 [.slice (some ad) p0.length c2] E [] (fun w E' B'=>∃(O:Ao) (U:Nat) (g0:Seg),w= sV O r U∧B'=g0∧OL 3 rI E' O U g0 r):=by
 refine A4 func175 fun Q a4 cs H Y Z=>?_;unfold Lo at K;refine zg 8 rfl (AF (v:= .bool false) rfl (fun ρ h=>Mj (a:=(some ad)) underlying28 (h _ _ rfl) (h _ _ rfl)) ?_);refine zg 5 rfl (KX (pp:=rI) rfl rfl rfl underlying28 AX Y fun a5 g2 ag al=>?_);obtain⟨a6,am,ap⟩:=bs K;refine zg 1 rfl (G0 (pp:=rI) 1 am rfl rfl rfl rfl rfl rfl rfl underlying28 underlying28 AX (Cx type3) CS rfl (by decide) (by decide) ag V al rfl fun av a0 a1 a2 a3=>?_);refine zg 2 rfl ?_;obtain rfl:=oi ap;exact AD func175 rfl rfl (Z Ar rfl ⟨av,a0,a1,rfl,(by first | rfl | simp | (simp [Value.cells])),a2⟩ a3)
def Ts(fuel:Nat)(p0:List Int):Option ((List Int)):= some ([])
theorem W9{c2:Nat}{p0:List Int}(Z:Al rI E none c2 p0){fuel:Nat}{r:(List Int)}(K:Ts fuel p0=some r):AK J 175 [sV none p0 c2] E [] (fun w E' B'=>∃(O:Ao) (U:Nat) (g0:Seg),w= sV O r U∧B'=g0∧OL 3 rI E' O U g0 r):=by
 refine A4 func175 fun Q ag cs H V Y=>?_;unfold Ts at K;refine zg 8 rfl (AF (v:= .bool true) rfl (fun ρ h=>Mj (a:=none) underlying28 (h _ _ rfl) (h _ _ rfl)) ?_);refine zg 6 rfl ?_;obtain rfl:=oi K;exact AD func175 rfl rfl (Y Ar rfl ⟨none,0,[],rfl,rfl,OL.nil⟩ V)
def f175(fuel:Nat)(p0:List Int):Option (List Int):=Lo fuel p0
theorem SS{O:Ao}{c2:Nat}{p0:List Int}(U:Al rI E O c2 p0){fuel:Nat}{r:List Int}(K:f175 fuel p0=some r):AK J 175 [.slice O p0.length c2] E [] (fun w E' B'=>∃(V:Ao) (Y:Nat) (g0:Seg),w= .slice V r.length Y∧B'=g0∧OL 3 rI E' V Y g0 r):=by
 cases O with
 | some ad=>exact Yi U K
 | none=>
  have Z:p0= []:=by
   rcases U.2 with h | ⟨_,_,h,_⟩
   ·exact h.1
   ·cases h
  subst Z;have ag:r= []:=by
   have al:Lo fuel []=some []:=rfl;unfold f175 at K;rw [al] at K;exact(Option.some.inj K).symm
  subst ag;exact W9 (fuel:=fuel) U rfl
end Pal
namespace Pal
open Go Go.Conc Go.Proofs
open Go.Proofs.Tryz
def IE(fuel:Nat)(le:Int)(all:List (Ci))(tr:(Ci))(O:Int):Option (Int×List (Ci)):=
 Option.bind (
  if((all).length:Int)=0 then(
   some true
  ) else(
   some (decide (O<le))
  )
 ) fun U=>
 Option.bind (
  if U=true then(
   some (O,[])
  ) else(
   some (le,all)
  )
 ) fun K=>
 Option.bind (
  if O=K.1 then(
   (CF K.2 ([tr]:List (Ci))).bind fun V=>
   some V
  ) else(
   some K.2
  )
 ) fun Y=>
 some (K.1,Y)
theorem Zw{J:Judge Tryz.prog}{E:LH}{bk:Nat}{age:Int}{le:Int}{a:Ao}{c:Nat}{g:Seg}{all:List (Ci)}(bj:OL 104 Du E a c g all){Y:Ao}{Z:Nat}{tr:(Ci)}(bl:Al rI E Y Z tr.2.1){ag:Int}{fuel:Nat}{r:Int×List (Ci)}(a9:IE fuel le all tr ag=some r):
  AK J 122 [pV bk 1,.agg #[iV tr.1,.slice Y tr.2.1.length Z,uV tr.2.2],iV ag] E ([(bk,.cells #[iV age,iV le,.slice a all.length c] 133 (0,0))]++g) (fun w E' B'=>∃ba bb g',w= .tuple #[]∧B'= [(bk,.cells #[iV age,iV r.1,.slice ba r.2.length bb] 133 (0,0))]++g'∧OL 104 Du E' ba bb g' r.2):=by
 refine A4 func122 fun Q b1 cs H a4 bm=>?_;refine DM (S':= [[(bk,.cells #[iV age,iV le,.slice a all.length c] 133 (0,0))],g]) (by simp) a4 fun a4=>?_;unfold IE at a9;refine zg 2 rfl (Cb a4 fun bc a5 a6 bn al=>?_);refine zg 6 rfl (BM underlying97 Dx rfl rfl rfl ?_);refine AF (v:= sV a all c) rfl (fun ρ h=>Yl.load EO (h _ _ rfl) (DY (j:=0) (off:=2) al rfl rfl)) (Bj underlying95 rfl rfl rfl ?_);obtain⟨bo,bp,bq⟩:=bs a9;refine zg 2 rfl (ER [] (fun L s=>∃(U:LH),Jm a5 H U [bX bk #[iV age,iV le,sV a all c] 133,g] [(0,pV bk 1),(2,iV ag),(4,pV bc 0),(19,.bool bo)] L s) ?_ ?_)
 ·rintro _ _ ⟨U,rfl,rfl,am,bd⟩;obtain⟨V,br,bu⟩:=bs bq;refine JL.done (Bt (fun L s=>∃(K:LH) (ap:Ao) (av:Nat) (a0:Seg),Jn U H K [bX bk #[iV age,iV V.1,sV ap V.2 av] 133,a0] [(0,pV bk 1),(2,iV ag),(4,pV bc 0)] L s (OL 104 Du K ap av a0 V.2)) ?_ ?_)
  ·rintro _ _ ⟨K,ap,av,a0,rfl,rfl,a7,O,be⟩;refine zg 5 rfl (BM underlying97 AX rfl rfl rfl ?_);refine AF (v:=iV V.1) rfl (fun ρ h=>Yl.load Bx (h _ _ rfl) (DY (j:=0) (off:=1) O rfl rfl)) ?_;obtain⟨bf,bv,bw⟩:=bs bu;refine zg 2 rfl (Bt (fun L s=>∃(a8:LH) (a1:Ao) (a2:Nat) (a3:Seg),Jn K H a8 [bX bk #[iV age,iV V.1,sV a1 bf a2] 133,a3] [] L s (OL 104 Du a8 a1 a2 a3 bf)) ?_ ?_)
   ·rintro _ _ ⟨a8,a1,a2,a3,rfl,rfl,bx,bz,bA⟩;obtain rfl:=oi bw;exact JL.fin (v:= .tuple #[]) rfl rfl (Ch.list func122 rfl (vs:= []) trivial) (bm (((a6.Ab am).Ab a7).Ab bx) rfl ⟨a1,a2,a3,rfl,by simp,bA⟩ bz)
   ·intro bg;refine AL bv (fun bB bC=>?_) (fun bB bD=>?_)
    ·refine Dl 8 [bk] ⟨⟨0,_,rfl⟩,trivial⟩ O fun ht=>AW ht rfl [0,1,2] rfl (B7 3 ht underlying97 Dx rfl rfl rfl rfl ?_);refine Ff 4 ht 2 0 O EO ?_;refine By 5 ht rfl rfl (fun ρ h s' hs=>FY (vs:= [iV tr.1,sV Y tr.2.1 Z,uV tr.2.2]) FV Ct (h _ _ rfl) (At.OZ (bn.Ah (am.Ab a7)) (Pb O hs ⟨⟨0,_,rfl⟩,trivial⟩))) ?_;obtain⟨b2,bE,bF⟩:=bs bC;refine JG.one (i:=6) rfl (by decide+kernel) (Take.lit (pp:=Du) (jp:=0) [.agg #[iV tr.1,sV Y tr.2.1 Z,uV tr.2.2]] ([tr]:List Ci) O rfl rfl rfl rfl underlying95 Ct GU (by decide) rfl rfl rfl ⟨⟨_,_,rfl,rfl,⟨_,_,rfl,⟨_,_,rfl,(bl.Ah ((a6.Ab am).Ab a7))⟩,rfl⟩⟩,trivial⟩ fun b3 b4 bG bH=>?_);refine JG.one (i:=7) rfl (by decide+kernel) (Take.app (pp:=Du) (jp:=0) 1 2 bH rfl bE rfl rfl rfl rfl rfl rfl rfl underlying95 underlying95 Ct (Cx type104) GU rfl (by decide) (by decide) be bG rfl rfl rfl rfl fun bI bJ b5 bK bL bM=>?_);refine Cc [8,9,10] (Eo 1 rfl bM fun bN=>?_);refine JS.drop 1 bN rfl fun bO=>zg 1 rfl (BM underlying97 Dx rfl rfl rfl ?_);refine BU 0 bO Dx fun bP=>?_;refine JL.done (JS.drop 2 bP rfl fun bQ=>?_);obtain rfl:=oi bF;exact Az (bg _ _ ⟨K,bI,bJ,bK,rfl,rfl,Ar,bQ,bL⟩) rfl
    ·refine JL.skip ?_;obtain rfl:=oi bD;exact Az (bg _ _ ⟨K,ap,av,a0,rfl,rfl,Ar,O,be⟩) rfl
  ·intro bh;refine BJ br (fun bR bS=>?_) (fun bR bT=>?_)
   ·refine zg 5 rfl (BM underlying97 AX rfl rfl rfl ?_);refine BU 0 bd AX fun bU=>?_;refine zg 1 rfl (BM underlying97 Dx rfl rfl rfl ?_);refine BU 0 bU Dx fun bV=>?_;refine JL.done (JS.drop 1 bV rfl fun bW=>?_);obtain rfl:=oi bS;exact Az (bh _ _ ⟨U,none,0,[],rfl,rfl,Ar,bW,OL.nil⟩) rfl
   ·refine JL.skip ?_;obtain rfl:=oi bT;exact Az (bh _ _ ⟨U,a,c,g,rfl,rfl,Ar,bd,(bj.Ah (a6.Ab am))⟩) rfl
 ·intro bi;refine Ei 12 bp (fun bY bZ=>?_) (fun bY b0=>?_)
  ·refine zg 7 rfl ?_;obtain rfl:=oi bZ;exact Az (bi _ _ ⟨a5,rfl,rfl,Ar,al⟩) rfl
  ·refine zg 3 rfl (BM underlying97 AX rfl rfl rfl ?_);refine AF (v:=iV le) rfl (fun ρ h=>Yl.load Bx (h _ _ rfl) (DY (j:=0) (off:=1) al rfl rfl)) (zg 2 rfl ?_);obtain rfl:=oi b0;exact Az (bi _ _ ⟨a5,rfl,rfl,Ar,al⟩) rfl
theorem Zm{J:Judge Tryz.prog}{E:LH}{bk:Nat}{age:Int}{le:Int}{a:Ao}{c:Nat}{g:Seg}{all:List (Ci)}(bj:OL 104 Du E a c g all){Y:Ao}{Z:Nat}{tr:(Ci)}(bl:Al rI E Y Z tr.2.1){ag:Int}{fuel:Nat}{r:Int×List (Ci)}(a9:IE fuel le all tr ag=some r):
  AK J 122 [pV bk 0,.agg #[iV tr.1,.slice Y tr.2.1.length Z,uV tr.2.2],iV ag] E ([(bk,.cells #[iV le,.slice a all.length c] 97 (0,0))]++g) (fun w E' B'=>∃ba bb g',w= .tuple #[]∧B'= [(bk,.cells #[iV r.1,.slice ba r.2.length bb] 97 (0,0))]++g'∧OL 104 Du E' ba bb g' r.2):=by
 refine A4 func122 fun Q b1 cs H a4 bm=>?_;refine DM (S':= [[(bk,.cells #[iV le,.slice a all.length c] 97 (0,0))],g]) (by simp) a4 fun a4=>?_;unfold IE at a9;refine zg 2 rfl (Cb a4 fun bc a5 a6 bn al=>?_);refine zg 6 rfl (BM underlying97 Dx rfl rfl rfl ?_);refine AF (v:= sV a all c) rfl (fun ρ h=>Yl.load EO (h _ _ rfl) (DY (j:=0) (off:=1) al rfl rfl)) (Bj underlying95 rfl rfl rfl ?_);obtain⟨bo,bp,bq⟩:=bs a9;refine zg 2 rfl (ER [] (fun L s=>∃(U:LH),Jm a5 H U [bX bk #[iV le,sV a all c] 97,g] [(0,pV bk 0),(2,iV ag),(4,pV bc 0),(19,.bool bo)] L s) ?_ ?_)
 ·rintro _ _ ⟨U,rfl,rfl,am,bd⟩;obtain⟨V,br,bu⟩:=bs bq;refine JL.done (Bt (fun L s=>∃(K:LH) (ap:Ao) (av:Nat) (a0:Seg),Jn U H K [bX bk #[iV V.1,sV ap V.2 av] 97,a0] [(0,pV bk 0),(2,iV ag),(4,pV bc 0)] L s (OL 104 Du K ap av a0 V.2)) ?_ ?_)
  ·rintro _ _ ⟨K,ap,av,a0,rfl,rfl,a7,O,be⟩;refine zg 5 rfl (BM underlying97 AX rfl rfl rfl ?_);refine AF (v:=iV V.1) rfl (fun ρ h=>Yl.load Bx (h _ _ rfl) (DY (j:=0) (off:=0) O rfl rfl)) ?_;obtain⟨bf,bv,bw⟩:=bs bu;refine zg 2 rfl (Bt (fun L s=>∃(a8:LH) (a1:Ao) (a2:Nat) (a3:Seg),Jn K H a8 [bX bk #[iV V.1,sV a1 bf a2] 97,a3] [] L s (OL 104 Du a8 a1 a2 a3 bf)) ?_ ?_)
   ·rintro _ _ ⟨a8,a1,a2,a3,rfl,rfl,bx,bz,bA⟩;obtain rfl:=oi bw;exact JL.fin (v:= .tuple #[]) rfl rfl (Ch.list func122 rfl (vs:= []) trivial) (bm (((a6.Ab am).Ab a7).Ab bx) rfl ⟨a1,a2,a3,rfl,by simp,bA⟩ bz)
   ·intro bg;refine AL bv (fun bB bC=>?_) (fun bB bD=>?_)
    ·refine Dl 8 [bk] ⟨⟨0,_,rfl⟩,trivial⟩ O fun ht=>AW ht rfl [0,1,2] rfl (B7 3 ht underlying97 Dx rfl rfl rfl rfl ?_);refine Ff 4 ht 1 0 O EO ?_;refine By 5 ht rfl rfl (fun ρ h s' hs=>FY (vs:= [iV tr.1,sV Y tr.2.1 Z,uV tr.2.2]) FV Ct (h _ _ rfl) (At.OZ (bn.Ah (am.Ab a7)) (Pb O hs ⟨⟨0,_,rfl⟩,trivial⟩))) ?_;obtain⟨b2,bE,bF⟩:=bs bC;refine JG.one (i:=6) rfl (by decide+kernel) (Take.lit (pp:=Du) (jp:=0) [.agg #[iV tr.1,sV Y tr.2.1 Z,uV tr.2.2]] ([tr]:List Ci) O rfl rfl rfl rfl underlying95 Ct GU (by decide) rfl rfl rfl ⟨⟨_,_,rfl,rfl,⟨_,_,rfl,⟨_,_,rfl,(bl.Ah ((a6.Ab am).Ab a7))⟩,rfl⟩⟩,trivial⟩ fun b3 b4 bG bH=>?_);refine JG.one (i:=7) rfl (by decide+kernel) (Take.app (pp:=Du) (jp:=0) 1 2 bH rfl bE rfl rfl rfl rfl rfl rfl rfl underlying95 underlying95 Ct (Cx type104) GU rfl (by decide) (by decide) be bG rfl rfl rfl rfl fun bI bJ b5 bK bL bM=>?_);refine Cc [8,9,10] (Eo 1 rfl bM fun bN=>?_);refine JS.drop 1 bN rfl fun bO=>zg 1 rfl (BM underlying97 Dx rfl rfl rfl ?_);refine BU 0 bO Dx fun bP=>?_;refine JL.done (JS.drop 2 bP rfl fun bQ=>?_);obtain rfl:=oi bF;exact Az (bg _ _ ⟨K,bI,bJ,bK,rfl,rfl,Ar,bQ,bL⟩) rfl
    ·refine JL.skip ?_;obtain rfl:=oi bD;exact Az (bg _ _ ⟨K,ap,av,a0,rfl,rfl,Ar,O,be⟩) rfl
  ·intro bh;refine BJ br (fun bR bS=>?_) (fun bR bT=>?_)
   ·refine zg 5 rfl (BM underlying97 AX rfl rfl rfl ?_);refine BU 0 bd AX fun bU=>?_;refine zg 1 rfl (BM underlying97 Dx rfl rfl rfl ?_);refine BU 0 bU Dx fun bV=>?_;refine JL.done (JS.drop 1 bV rfl fun bW=>?_);obtain rfl:=oi bS;exact Az (bh _ _ ⟨U,none,0,[],rfl,rfl,Ar,bW,OL.nil⟩) rfl
   ·refine JL.skip ?_;obtain rfl:=oi bT;exact Az (bh _ _ ⟨U,a,c,g,rfl,rfl,Ar,bd,(bj.Ah (a6.Ab am))⟩) rfl
 ·intro bi;refine Ei 12 bp (fun bY bZ=>?_) (fun bY b0=>?_)
  ·refine zg 7 rfl ?_;obtain rfl:=oi bZ;exact Az (bi _ _ ⟨a5,rfl,rfl,Ar,al⟩) rfl
  ·refine zg 3 rfl (BM underlying97 AX rfl rfl rfl ?_);refine AF (v:=iV le) rfl (fun ρ h=>Yl.load Bx (h _ _ rfl) (DY (j:=0) (off:=0) al rfl rfl)) (zg 2 rfl ?_);obtain rfl:=oi b0;exact Az (bi _ _ ⟨a5,rfl,rfl,Ar,al⟩) rfl
end Pal
namespace Pal
open Go Go.Conc Go.Proofs
open Go.Proofs.Tryz
def LA(fuel:Nat)(O:BX)(lk:AI)(age:Int)(ms:List Int)(fl:Nat)(m:Int):Option (Option (List Int×Nat)):=
 (Lj fuel (O,lk,age,ms,fl) ((ms).length:Int) m).bind fun K=>
 if(!K.2)=true then(
  some none
 ) else(
  (f175 fuel ms).bind fun U=>
  (CF U ([m]:List Int)).bind fun V=>
  (Jg (fl) (K.1)).bind fun Y=>
  some (some (V,Y))
 )
theorem ZI{J:Judge Tryz.prog}{A:Type}{I:A→LH→Seg→Prop}(bO:∀x E E' X,Le E E'→I x E X→I x E' X){E:LH}{bk k1 o2:Nat}{bq br K Z:Ao}{bu bv O ag:Nat}{bw:List Value}{av:BX}{lk:AI}{age:Int}{ms:List Int}{fl:Nat}(bP:At E k1 o2 (([sV bq av.1 bu,sV br av.2.1 bv]:List Value)++bw))(bQ:Al (rL rI) E bq bu av.1)(bR:Al (rL rI) E br bv av.2.1)(bS:(rA 13 (rN .u16)).r E bw av.2.2)(bT:Al A9 E K O lk)(bd:Al rI E Z ag ms){bx:Value}{X:Seg}{acc acc':A}(bU:I acc E X){m:Int}{fuel:Nat}{r:Option (List Int×Nat)}(bz:LA fuel av lk age ms fl m=some r)
  (bV:r=none→acc'=acc)
  (bA:∀q,r=some q→∀E' a c,Le E E'→Al rI E' a c q.1→EU J bx [] E' ([(bk,.cells #[pV k1 o2,.slice K lk.length O,iV age,.slice a q.1.length c,uV q.2] 175 (0,0))]++X) (fun w bW bY=>∃a4 a5 a6 Y,w= .bool true∧bY= [(bk,.cells #[pV k1 o2,.slice K lk.length O,a4,a5,a6] 175 (0,0))]++Y∧I acc' bW Y)):
  AK J 155 [pV bk 0,iV m,bx] E ([(bk,.cells #[pV k1 o2,.slice K lk.length O,iV age,.slice Z ms.length ag,uV fl] 175 (0,0))]++X) (fun w E' B'=>∃Y,w= .bool true∧B'= [(bk,.cells #[pV k1 o2,.slice K lk.length O,iV age,.slice Z ms.length ag,uV fl] 175 (0,0))]++Y∧I acc' E' Y):=by
 refine A4 func155 fun Q bB cs H be bf=>?_;refine DM (S':= [[(bk,.cells #[pV k1 o2,.slice K lk.length O,iV age,.slice Z ms.length ag,uV fl] 175 (0,0))],X]) (by simp) be fun be=>?_;unfold LA at bz;refine zg 2 rfl (Cb be fun a0 cO U am a7=>?_);refine zg 3 rfl (Dl 13 [bk] ⟨⟨0,_,rfl⟩,trivial⟩ a7 fun ht=>?_);refine JG.lp 0 ht 0 am a7 ⟨⟨0,_,rfl⟩,trivial⟩ FH ?_;refine JG.lp 1 ht 0 am a7 ⟨⟨0,_,rfl⟩,trivial⟩ FH ?_;refine B4 2 ht rfl rfl (B7 3 ht underlying175 Ct rfl rfl rfl rfl ?_);refine B7 4 ht underlying104 BZ rfl rfl rfl rfl (Ff 5 ht 3 0 a7 CZ ?_);refine By 6 ht rfl rfl (fun ρ h s' hs=>Yl.len rfl underlying28 (h _ _ rfl)) (B4 7 ht rfl rfl ?_);obtain⟨bZ,b0,b1⟩:=bs bz;refine Qv (i:=8) (vs:= [pV bk 0,iV (ms.length:Int),iV m]) 0 ⟨⟨0,_,rfl⟩,trivial⟩ (XD (bP.Ah U) (bQ.Ah U) (bR.Ah U) (Rp.Ah _ U bS) (bT.Ah U) (bd.Ah U) b0) (fun _ _ _ h=>h.2) (by decide+kernel) rfl rfl rfl (AS func174 rfl) rfl a7 rfl ?_;rintro _ cP V ⟨rfl,_⟩ bg;refine AW ht rfl [9,10,11,12] rfl (Cc [13] ?_);refine zg 6 rfl (AF (v:= .bool (!bZ.2)) rfl (fun ρ h=>Yl.not (h _ _ rfl)) ?_);refine JL.done (BJ b1 (fun b2 b3=>?_) (fun b2 b4=>?_))
 ·refine zg 4 rfl ?_;obtain rfl:=oi b3;exact AD func155 rfl rfl (bf (U.Ab V) rfl ⟨X,rfl,by simp,by rw [bV rfl];exact bO _ _ _ _ (U.Ab V) bU⟩ bg)
 ·refine zg 3 rfl (B8 0 (am.Ah V) FH rfl rfl rfl ?_);refine zg 1 rfl (BM underlying175 Ct rfl rfl rfl ?_);refine AF rfl (fun ρ h=>FY (vs:= [iV age,sV Z ms ag,uV fl]) FV Ct (h _ _ rfl) (FW (off:=2) 0 bg rfl rfl)) (CO bg GU fun a1 b5=>?_);refine BU 3 b5 Ct fun b6=>?_;refine C6 3 b6 rfl fun cQ al bh b7=>Cr (S':= [[(bk,.cells #[pV k1 o2,sV K lk O,iV age,sV Z ms ag,uV fl] 175 (0,0))],X,[],[]]) rfl b7 fun bC=>zg 2 rfl (CW 7 fun ht=>?_);refine Cn 0 ht 0 (am.Ah (V.Ab al)) FH rfl rfl rfl rfl (B7 1 ht underlying104 BZ rfl rfl rfl rfl ?_);refine Cn 2 ht 1 bh CZ rfl rfl rfl rfl (B4 4 ht rfl rfl ?_);obtain⟨cR,bD,b8⟩:=bs b4;obtain⟨a2,bE,bF⟩:=bs b8;refine Hm (i:=3) (j:=5) rfl (by decide+kernel) ?_ ?_
  ·refine Take.Gj (vs:= [sV Z ms ag]) bC (SS (bd.Ah ((U.Ab V).Ab al)) bD) rfl rfl rfl (AS func175 rfl) rfl ?_;rintro _ cT _ a8 ⟨cV,cW,cX,rfl,rfl,b9⟩ ca;refine JG.one (i:=5) rfl (by decide+kernel) (Take.Ja (pp:=rI) [iV m] ([m]:List Int) ca rfl rfl rfl underlying28 AX CS (by decide) rfl rfl rfl ⟨rfl,trivial⟩ fun cY bG cb cc=>?_);refine JG.one (i:=6) rfl (by decide+kernel) (Take.app0 (pp:=rI) 4 5 cc bE rfl rfl rfl rfl rfl rfl rfl underlying28 underlying28 AX (Cx type3) CS rfl (by decide) (by decide) b9 cb rfl rfl fun bH bI cZ cd ce cf=>?_);refine Cc [7,8,9,10] (Eo 4 rfl cf fun cg=>?_);refine JS.drop 4 cg rfl fun ci=>Cr (S':= [[(bk,.cells #[pV k1 o2,sV K lk O,iV age,sV Z ms ag,uV fl] 175 (0,0))],X,[],[],[],bG,cd]) rfl ci fun ck=>zg 1 rfl (BM underlying175 Ct rfl rfl rfl ?_);refine BM underlying104 BZ rfl rfl rfl (BU 0 ck BZ fun bJ=>?_);refine zg 3 rfl (B8 0 (am.Ah ((V.Ab al).Ab a8)) FH rfl rfl rfl ?_);refine zg 1 rfl (BM underlying175 Ct rfl rfl rfl ?_);refine BM underlying104 Em rfl rfl rfl (AF (v:= uV fl) rfl (fun ρ h=>Yl.load GO (h _ _ rfl) (DY (j:=0) (off:=4) bJ rfl rfl)) ?_);obtain⟨a9,cm,cn⟩:=bs bF;refine zg 1 rfl (AF (v:= uV a9) rfl (fun ρ h=>Ky (h _ _ rfl) (h _ _ rfl) cm) ?_);refine zg 1 rfl (BM underlying175 Ct rfl rfl rfl ?_);refine BM underlying104 Em rfl rfl rfl (BU 0 bJ Em fun co=>?_);refine zg 2 rfl (BT 6 ce co rfl fun c0 ba cp cq=>?_);refine Cr (S':= [[(bk,.cells #[pV k1 o2,sV K lk O,iV age,sV bH a2 bI,uV a9] 175 (0,0))],X,[],[],[],bG,[]]) rfl cq fun cr=>JS.drop 5 cr rfl fun ct=>?_;obtain rfl:=oi cn;refine JL.region (AF (v:= .func (.func 176) #[] [pV a1 0,pV a0 0].toArray) rfl (fun ρ h=>IN (by simp) (by simp [h (.tmp 9) _ rfl,h (.tmp 3) _ rfl])) ?_);refine QJ (vs:= []) (caps:= [pV a1 0,pV a0 0]) rfl rfl rfl rfl rfl rfl (zg 4 rfl ?_);refine DM (S':= [[(bk,.cells #[pV k1 o2,sV K lk O,iV age,sV bH a2 bI,uV a9] 175 (0,0))]++X]) (by simp) ct fun bi=>Jq (vs:= []) 0 (bA (a2,a9) rfl _ _ _ ((((U.Ab V).Ab al).Ab a8).Ab ba) cp) rfl rfl rfl rfl rfl bi rfl ?_;rintro _ cu _ ap ⟨a4,a5,a6,Y,rfl,rfl,bj⟩ bl;refine zg 2 rfl (Hi rfl ?_);refine JO.SK (vs:= []) (caps:= [pV a1 0,pV a0 0]) rfl func176 rfl rfl (Nat.le_of_ble_eq_true rfl) fun T bm todo=>DM (S':= [[(bk,.cells #[pV k1 o2,.slice K lk.length O,a4,a5,a6] 175 (0,0))],Y]) (by simp) bl fun bn=>JL.region (B8 0 (am.Ah ((((V.Ab al).Ab a8).Ab ba).trans ap)) FH rfl rfl rfl ?_);refine BW (bh.Ah ((a8.Ab ba).trans ap)) FV Ct rfl rfl (zg 1 rfl ?_);refine BM underlying175 Ct rfl rfl rfl (BU 0 bn Ct fun bo=>?_);refine Cr (S':= [[(bk,.cells #[pV k1 o2,.slice K lk.length O,iV age,.slice Z ms.length ag,uV fl] 175 (0,0))],Y]) rfl bo fun bp=>JL.done (JL.out rfl ?_);refine JO.leaveD rfl func176 rfl (.inl rfl) ?_;refine(?_:JO J Q (base 155) Tryz.f155.ntmps _ [] (bB::cs) _) T bm todo;exact JO.leave (v:= .bool true) rfl (Ch.list func155 rfl (vs:= [.bool true]) ⟨rfl,trivial⟩) (bf (((((U.Ab V).Ab al).Ab a8).Ab ba).trans ap) rfl ⟨Y,rfl,by simp,bj⟩ bp)
  ·refine Take.Ja (pp:=rI) [iV m] ([m]:List Int) bC rfl rfl rfl underlying28 AX CS (by decide) rfl rfl rfl ⟨rfl,trivial⟩ fun c1 bK cv cw=>JG.one (i:=3) rfl (by decide+kernel) (Take.Gj (vs:= [sV Z ms ag]) cw (SS (bd.Ah ((U.Ab V).Ab al)) bD) rfl rfl rfl (AS func175 rfl) rfl ?_);rintro _ c2 _ a3 ⟨c3,c4,c5,rfl,rfl,cy⟩ cz;refine JG.one (i:=6) rfl (by decide+kernel) (Take.app0 (pp:=rI) 5 4 cz bE rfl rfl rfl rfl rfl rfl rfl underlying28 underlying28 AX (Cx type3) CS rfl (by decide) (by decide) cy (cv.Ah a3) rfl rfl fun bL bM c6 cA cB cC=>?_);refine Cc [7,8,9,10] (Eo 5 rfl cC fun cD=>?_);refine JS.drop 5 cD rfl fun cE=>Cr (S':= [[(bk,.cells #[pV k1 o2,sV K lk O,iV age,sV Z ms ag,uV fl] 175 (0,0))],X,[],[],bK,[],cA]) rfl cE fun cF=>zg 1 rfl (BM underlying175 Ct rfl rfl rfl ?_);refine BM underlying104 BZ rfl rfl rfl (BU 0 cF BZ fun bN=>?_);refine zg 3 rfl (B8 0 (am.Ah ((V.Ab al).Ab a3)) FH rfl rfl rfl ?_);refine zg 1 rfl (BM underlying175 Ct rfl rfl rfl ?_);refine BM underlying104 Em rfl rfl rfl (AF (v:= uV fl) rfl (fun ρ h=>Yl.load GO (h _ _ rfl) (DY (j:=0) (off:=4) bN rfl rfl)) ?_);obtain⟨bb,cG,cH⟩:=bs bF;refine zg 1 rfl (AF (v:= uV bb) rfl (fun ρ h=>Ky (h _ _ rfl) (h _ _ rfl) cG) ?_);refine zg 1 rfl (BM underlying175 Ct rfl rfl rfl ?_);refine BM underlying104 Em rfl rfl rfl (BU 0 bN Em fun cI=>?_);refine zg 2 rfl (BT 6 cB cI rfl fun c7 bc cJ cK=>?_);refine Cr (S':= [[(bk,.cells #[pV k1 o2,sV K lk O,iV age,sV bL a2 bM,uV bb] 175 (0,0))],X,[],[],bK,[],[]]) rfl cK fun cM=>JS.drop 4 cM rfl fun cN=>?_;obtain rfl:=oi cH;refine JL.region (AF (v:= .func (.func 176) #[] [pV a1 0,pV a0 0].toArray) rfl (fun ρ h=>IN (by simp) (by simp [h (.tmp 9) _ rfl,h (.tmp 3) _ rfl])) ?_);refine QJ (vs:= []) (caps:= [pV a1 0,pV a0 0]) rfl rfl rfl rfl rfl rfl (zg 4 rfl ?_);refine DM (S':= [[(bk,.cells #[pV k1 o2,sV K lk O,iV age,sV bL a2 bM,uV bb] 175 (0,0))]++X]) (by simp) cN fun bi=>Jq (vs:= []) 0 (bA (a2,bb) rfl _ _ _ ((((U.Ab V).Ab al).Ab a3).Ab bc) cJ) rfl rfl rfl rfl rfl bi rfl ?_;rintro _ cu _ ap ⟨a4,a5,a6,Y,rfl,rfl,bj⟩ bl;refine zg 2 rfl (Hi rfl ?_);refine JO.SK (vs:= []) (caps:= [pV a1 0,pV a0 0]) rfl func176 rfl rfl (Nat.le_of_ble_eq_true rfl) fun T bm todo=>DM (S':= [[(bk,.cells #[pV k1 o2,.slice K lk.length O,a4,a5,a6] 175 (0,0))],Y]) (by simp) bl fun bn=>JL.region (B8 0 (am.Ah ((((V.Ab al).Ab a3).Ab bc).trans ap)) FH rfl rfl rfl ?_);refine BW (bh.Ah ((a3.Ab bc).trans ap)) FV Ct rfl rfl (zg 1 rfl ?_);refine BM underlying175 Ct rfl rfl rfl (BU 0 bn Ct fun bo=>?_);refine Cr (S':= [[(bk,.cells #[pV k1 o2,.slice K lk.length O,iV age,.slice Z ms.length ag,uV fl] 175 (0,0))],Y]) rfl bo fun bp=>JL.done (JL.out rfl ?_);refine JO.leaveD rfl func176 rfl (.inl rfl) ?_;refine(?_:JO J Q (base 155) Tryz.f155.ntmps _ [] (bB::cs) _) T bm todo;exact JO.leave (v:= .bool true) rfl (Ch.list func155 rfl (vs:= [.bool true]) ⟨rfl,trivial⟩) (bf (((((U.Ab V).Ab al).Ab a3).Ab bc).trans ap) rfl ⟨Y,rfl,by simp,bj⟩ bp)
end Pal
namespace Pal
open Go Go.Conc Go.Proofs
open Go.Proofs.Tryz
def Ls(fuel:Nat)(K:BX)(lk:AI)(age:Int)(ms:List Int)(fl:Nat)(n:Int):Option (Nat):=
 (ix K.1 (n)).bind fun O=>
 (f120 fuel O).bind fun U=>
 some U
theorem aU{J:Judge Tryz.prog}{E:LH}{bk k1 o2:Nat}{a0 a1 O U:Ao}{a2 a3 V Y:Nat}{a4:List Value}{Z:BX}{lk:AI}{age:Int}{ms:List Int}{fl:Nat}(a8:At E k1 o2 (([sV a0 Z.1 a2,sV a1 Z.2.1 a3]:List Value)++a4))(a9:Al (rL rI) E a0 a2 Z.1)(bA:Al (rL rI) E a1 a3 Z.2.1)(bB:(rA 13 (rN .u16)).r E a4 Z.2.2)(bC:Al A9 E O V lk)(bD:Al rI E U Y ms){ag al:Nat}(ba:At E ag al [pV bk 0]){ap av kf am:Nat}(bb:At E kf am [.func (.func 153) #[] [pV ag al,pV ap av,pV kf am].toArray]){a5 on:Nat}{n:Int}(bc:At E a5 on [iV n]){X:Seg}{fuel:Nat}{r:Nat}(a6:Ls fuel Z lk age ms fl n=some r){R:Value→LH→Seg→Prop}
  (bd:∀E',Le E E'→AK J 153 [uV r,pV ag al,pV ap av,pV kf am] E' ([(bk,.cells #[pV k1 o2,.slice O lk.length V,iV age,.slice U ms.length Y,uV fl] 175 (0,0))]++X) R):
  AK J 156 [pV kf am,pV ag al,pV a5 on] E ([(bk,.cells #[pV k1 o2,.slice O lk.length V,iV age,.slice U ms.length Y,uV fl] 175 (0,0))]++X) R:=by
 refine JY func156 rfl rfl fun Q bE cs H K be=>DM (S':= [[(bk,.cells #[pV k1 o2,.slice O lk.length V,iV age,.slice U ms.length Y,uV fl] 175 (0,0))],X]) (by simp) K fun K=>?_;unfold Ls at a6;refine zg 5 rfl (Dl 13 [bk] ⟨⟨0,_,rfl⟩,trivial⟩ K fun ht=>?_);refine JG.lp 0 ht 0 bb K ⟨⟨0,_,rfl⟩,trivial⟩ (Dz underlying201) ?_;refine JG.lp 1 ht 0 ba K ⟨⟨0,_,rfl⟩,trivial⟩ FH ?_;refine B4 2 ht rfl rfl (B7 3 ht underlying175 N3 rfl rfl rfl rfl ?_);refine Ff 4 ht 0 0 K LQ ?_;refine B4 5 ht rfl rfl (B7 6 ht underlying141 BI rfl rfl rfl rfl ?_);refine B7 7 ht underlying24 BR rfl rfl rfl rfl (JG.lp 8 ht 0 a8 K ⟨⟨0,_,rfl⟩,trivial⟩ Cs ?_);refine JG.lp 9 ht 0 bc K ⟨⟨0,_,rfl⟩,trivial⟩ Bx ?_;obtain⟨bf,bg,bh⟩:=bs a6;refine Cy 10 a9 bg ht underlying22 BZ ?_;rintro bF bG _ ⟨bi,c4,rfl,bj⟩ bl;refine JG.lp 11 ht 0 bl K ⟨⟨0,_,rfl⟩,trivial⟩ CZ ?_;obtain⟨bm,bn,bo⟩:=bs bh;refine Q0 (i:=12) ⟨⟨0,_,rfl⟩,trivial⟩ (vs:= [sV bi bf c4]) (JZ bj bn) (by decide+kernel) rfl rfl rfl Ji rfl K ?_;rintro _ bp _ a7 ⟨rfl,rfl⟩ bq;refine Cc [13,14] ?_;obtain rfl:=oi bo;refine DM (S':= [[(bk,.cells #[pV k1 o2,.slice O lk.length V,iV age,.slice U ms.length Y,uV fl] 175 (0,0))]++X]) (by simp) bq fun br=>?_;have bu:EU J (.func (.func 153) #[] [pV ag al,pV ap av,pV kf am].toArray) [uV bm] bp ([(bk,.cells #[pV k1 o2,.slice O lk.length V,iV age,.slice U ms.length Y,uV fl] 175 (0,0))]++X) R:=EU.ofFn (caps:= [pV ag al,pV ap av,pV kf am]) (AS func153 rfl) (bd _ a7);refine Jq 0 bu rfl rfl rfl rfl rfl br rfl ?_;rintro w bH bv bw bx bz;refine zg 2 rfl (AD func156 rfl rfl ?_);exact be _ _ _ bv (a7.Ab bw) (by simp) bx bz
end Pal
